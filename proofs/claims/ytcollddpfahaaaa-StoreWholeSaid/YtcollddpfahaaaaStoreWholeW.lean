/- StoreWhole: the walk. No conditions but that the arguments read as bytes. -/
import Derived.Test.YtcollddpfahaaaaSt19
import Derived.Deep.RegionHeld3
import Derived.Lib.Hide
import Derived.Outline
import Derived.Handy
import Derived.BigQuiet
import Derived.Deep.QuietTactic
namespace Go.Proofs.Ytcollddpfahaaaa
open Go.RowKit
set_option linter.unusedVariables false
set_option linter.unusedSimpArgs false

set_option maxHeartbeats 4000000 in
theorem storeWhole_walk (n k0 k1 k2 k3 at_ : Int) (A : Option Addr) (len cap : Nat) (ys : List Int) (key : Int) (w : World) (hn : 0 ≤ n ∧ n ≤ 255) (h0 : 0 ≤ k0 ∧ k0 ≤ 255) (h1 : 0 ≤ k1 ∧ k1 ≤ 255) (h2 : 0 ≤ k2 ∧ k2 ≤ 255) (h3 : 0 ≤ k3 ∧ k3 ≤ 255) (hy : Byt w A len ys) (hl : (len : Int) ≤ (cap : Int)) (hc : (cap : Int) ≤ 9223372036854775807) (hk : 0 ≤ key ∧ key ≤ 255) (hat : 0 ≤ at_ ∧ at_ ≤ 65535) : Calls Try.prog 8 #[.int .u8 n, .agg #[.int .u8 k0, .int .u8 k1, .int .u8 k2, .int .u8 k3], .int .u16 at_, .slice A len cap, .int .u8 key] w fun e w' => e = .returned (.bool true) ∧ Below w.heap.size w w' := by
  obtain ⟨n0, n1⟩ := hn
  obtain ⟨k00, k01⟩ := h0
  obtain ⟨k10, k11⟩ := h1
  obtain ⟨k20, k21⟩ := h2
  obtain ⟨k30, k31⟩ := h3
  obtain ⟨kk0, kk1⟩ := hk
  obtain ⟨at0, at1⟩ := hat
  have HY := Lib.hid hy
  clear hy
  go_enter Try.func8, Try.ntmps8
  go_wp2_with fail
  have A0 := Lib.hid ((Below.refl w.heap.size w).alloc (Nat.le_refl _) (.cells #[.int .u8 k0, .int .u8 k1, .int .u8 k2, .int .u8 k3] 41))
  have C0 : (w.alloc (.cells #[.int .u8 k0, .int .u8 k1, .int .u8 k2, .int .u8 k3] 41)).cell? ⟨w.heap.size, 0, none⟩ = some (.int .u8 k0) := by simp
  have C1 : (w.alloc (.cells #[.int .u8 k0, .int .u8 k1, .int .u8 k2, .int .u8 k3] 41)).cell? ⟨w.heap.size, 1, none⟩ = some (.int .u8 k1) := by simp
  have C2 : (w.alloc (.cells #[.int .u8 k0, .int .u8 k1, .int .u8 k2, .int .u8 k3] 41)).cell? ⟨w.heap.size, 2, none⟩ = some (.int .u8 k2) := by simp
  have C3 : (w.alloc (.cells #[.int .u8 k0, .int .u8 k1, .int .u8 k2, .int .u8 k3] 41)).cell? ⟨w.heap.size, 3, none⟩ = some (.int .u8 k3) := by simp
  have HX : w.heap.size < (w.alloc (.cells #[.int .u8 k0, .int .u8 k1, .int .u8 k2, .int .u8 k3] 41)).heap.size := by simp
  replace HY := Lib.hid (HY.out.keep A0.out)
  generalize w.alloc (.cells #[.int .u8 k0, .int .u8 k1, .int .u8 k2, .int .u8 k3] 41) = a0 at *
  have HC := Lib.hid (And.intro C0 (And.intro C1 (And.intro C2 C3)))
  clear C0 C1 C2 C3
  refine (works_c _).mono ?_
  rintro e w1 ⟨rfl, hb1⟩
  go_wp2_with fail
  refine (make_c n n0 n1 _).mono ?_
  rintro e w2 ⟨F, rfl, hs, hb, q1, q2, q3⟩
  have WK0 := Lib.hid (wk_make hb1 hb1.size hs hb q1 q2 q3)
  clear hs hb q1 q2 q3 hb1
  obtain ⟨bs, hbs⟩ : ∃ b, z0 (2048 * sBlk n) = b := ⟨_, rfl⟩
  obtain ⟨ks, hks⟩ : ∃ b, z0 (sBlk n) = b := ⟨_, rfl⟩
  have hq : ks.length = sBlk n := by rw [← hks]; exact z0_len _
  obtain ⟨q, hqq⟩ : ∃ q, sBlk n = q := ⟨_, rfl⟩
  have q1 : 1 ≤ q := by rw [← hqq]; exact sBlk_lo n
  have q4 : q ≤ 4 := by rw [← hqq]; exact sBlk_hi n
  rw [hqq] at hq
  rw [hbs, hks] at WK0
  have HQ := Lib.hid hq
  clear hbs hks hqq hq
  by_cases hlt : (3000 : Int) < (len : Int)
  · have m0 : (3000 : Int) ≤ (cap : Int) := by omega
    have HYS := Lib.hid (HY.out.pre 3000 (by omega))
    obtain ⟨zs, hzs⟩ : ∃ z, ys.take 3000 = z := ⟨_, rfl⟩
    rw [hzs] at HYS
    clear hzs
    go_wp2_with fail
    obtain ⟨L, hL⟩ : ∃ l : Nat, l = 3000 := ⟨_, rfl⟩
    have hL1 : (L : Int) ≤ (cap : Int) := by omega
    have hL2 : L ≤ 3000 := by omega
    rw [← hL] at HYS
    rw [← hL]
    clear hL
    go_loopw [12] (fun x wr => ∃ k : Nat, k ≤ 4 ∧ x = .int .i64 k ∧ ∃ ks, Wk 66 a0.heap.size a0 wr F bs ks ∧ ks.length = q ∧ KeyD ks [k0, k1, k2, k3] k) (fun x _ => 4 - (intOf x).toNat)
    case atStart => exact ⟨0, by omega, rfl, _, WK0.out, HQ.out, KeyD.zero _ _⟩
    case round =>
      obtain ⟨k, hk4, rfl, ks, wk, hq, kd⟩ := hrel
      have WK := Lib.hid wk
      have KD := Lib.hid kd
      clear wk kd WK0 HQ
      rcases (show k = 0 ∨ k = 1 ∨ k = 2 ∨ k = 3 ∨ k = 4 by omega) with rfl | rfl | rfl | rfl | rfl
      · have c0 := WK.out.cell (p := ⟨w.heap.size, 0, none⟩) HX HC.out.1
        go_wp2_with fail
        refine (wk_set _ WK.out 0 (k0 % 32) _ rfl).mono ?_
        rintro e w4 ⟨rfl, hs, hg⟩
        have KD2 := Lib.hid (KeyD.stepT (k := 0) (addr := 0) (v := k0 % 32) (by decide) (by rfl) (N := bs.length) WK.out.lt (by simpa using k00) KD.out)
        have WK2 := Lib.hid hs
        clear hs hg c0
        go_wp2_with fail
        exact ⟨⟨0 + 1, by omega, rfl, _, WK2.out, KD2.out.2.trans hq, KD2.out.1⟩, by decide⟩
      · have c0 := WK.out.cell (p := ⟨w.heap.size, 1, none⟩) HX HC.out.2.1
        go_wp2_with fail
        refine (wk_set _ WK.out 2048 (k1 % 32) _ rfl).mono ?_
        rintro e w4 ⟨rfl, hs, hg⟩
        have KD2 := Lib.hid (KeyD.stepT (k := 1) (addr := 2048) (v := k1 % 32) (by decide) (by rfl) (N := bs.length) WK.out.lt (by simpa using k10) KD.out)
        have WK2 := Lib.hid hs
        clear hs hg c0
        go_wp2_with fail
        exact ⟨⟨1 + 1, by omega, rfl, _, WK2.out, KD2.out.2.trans hq, KD2.out.1⟩, by decide⟩
      · have c0 := WK.out.cell (p := ⟨w.heap.size, 2, none⟩) HX HC.out.2.2.1
        go_wp2_with fail
        refine (wk_set _ WK.out 4096 (k2 % 32) _ rfl).mono ?_
        rintro e w4 ⟨rfl, hs, hg⟩
        have KD2 := Lib.hid (KeyD.stepT (k := 2) (addr := 4096) (v := k2 % 32) (by decide) (by rfl) (N := bs.length) WK.out.lt (by simpa using k20) KD.out)
        have WK2 := Lib.hid hs
        clear hs hg c0
        go_wp2_with fail
        exact ⟨⟨2 + 1, by omega, rfl, _, WK2.out, KD2.out.2.trans hq, KD2.out.1⟩, by decide⟩
      · have c0 := WK.out.cell (p := ⟨w.heap.size, 3, none⟩) HX HC.out.2.2.2
        go_wp2_with fail
        refine (wk_set _ WK.out 6144 (k3 % 32) _ rfl).mono ?_
        rintro e w4 ⟨rfl, hs, hg⟩
        have KD2 := Lib.hid (KeyD.stepT (k := 3) (addr := 6144) (v := k3 % 32) (by decide) (by rfl) (N := bs.length) WK.out.lt (by simpa using k30) KD.out)
        have WK2 := Lib.hid hs
        clear hs hg c0
        go_wp2_with fail
        exact ⟨⟨3 + 1, by omega, rfl, _, WK2.out, KD2.out.2.trans hq, KD2.out.1⟩, by decide⟩
      · obtain ⟨N, hN⟩ : ∃ N, bs.length = N := ⟨_, rfl⟩
        have HN := Lib.hid hN
        have hN0 : 2048 ≤ N := by rw [← hN, WK.out.lt, hq]; omega
        have hN1 : N ≤ 8192 := by rw [← hN, WK.out.lt, hq]; omega
        clear hN hq KD
        go_wp2_with fail
        refine (copy_c _ WK.out.st).mono ?_
        rintro e w4 ⟨v, rfl, G, rfl, hs, hb, p1, p2, p3⟩
        have WG := Lib.hid (wk_make WK.out.bl WK.out.hB hs hb p1 p2 p3)
        have l1 := WK.out.st.ltg; have l2 := WK.out.st.ltb; have l3 := WK.out.st.ltk
        have OFF := Lib.hid (show F.g ≠ G.gb ∧ F.gb ≠ G.gb ∧ F.gk ≠ G.gb ∧ G.g ≠ F.gb ∧ G.gb ≠ F.gb ∧ G.gk ≠ F.gb by omega)
        have WF := Lib.hid (WK.out.keep hb)
        clear hs hb p1 p2 p3 l1 l2 l3 WK
        go_wp2_with fail
        refine (wk_size _ WF.out N HN.out).mono ?_
        rintro e w5 ⟨rfl, rfl⟩
        go_wp2_with fail
        obtain ⟨a, ha⟩ : ∃ a : Nat, at_ % (N : Int) = a := ⟨(at_ % (N : Int)).toNat, by have := Int.emod_nonneg at_ (b := N) (by omega); omega⟩
        have ha1 : a < N := by have := Int.emod_lt_of_pos at_ (b := N) (by omega); omega
        obtain ⟨kk, hkk⟩ : ∃ k, key % 16 = k := ⟨_, rfl⟩
        rw [ha, hkk]
        clear ha hkk
        go_loopw [16, 17] (fun al i wr => ∃ (i' : Nat) (all : Bool) (cs : List Int), i' ≤ L ∧ al = .bool all ∧ i = .int .i64 i' ∧ Wk 66 a0.heap.size a0 wr F bs ks ∧ Wk 66 a0.heap.size a0 wr G cs ks ∧ Parts (alP kk) N ks a bs zs cs all i') (fun _ i _ => L - (intOf i).toNat)
        case atStart => exact ⟨0, true, bs, by omega, rfl, rfl, WF.out, WG.out, Parts.start HN.out⟩
        case round =>
          obtain ⟨i, all, cs, hi, rfl, rfl, wf, wg, pt⟩ := hrel
          clear WF WG
          have WF := Lib.hid wf
          have WG := Lib.hid wg
          have PT := Lib.hid pt
          clear wf wg pt
          cases all
          · have SC := Lib.hid (PT.out.stop L hi)
            rcases Nat.lt_or_ge i L with hz | hz
            · have hz1 : (i : Int) < (L : Int) := by omega
              go_wp2_with fail
              refine (wk_put _ WF.out (a : Int) kk A L cap zs (HYS.out.keep WF.out.bl) _ rfl (by omega)).mono ?_
              rintro e w6 ⟨rfl, wf6, hg⟩
              have WF6 := Lib.hid wf6
              obtain ⟨cd, hcd⟩ : ∃ c, sCode (alP kk) bs.length ks (a : Int) ((L : Nat) : Int) = c := ⟨_, rfl⟩
              rw [HN.out] at hcd
              rw [HN.out, hcd]
              have e1 : (cd != 0) = true := by have := SC.out; rw [hcd] at this; simpa using this
              clear hcd wf6 hg
              set_option maxRecDepth 4000 in
              go_wp2_with fail
              go_ret
              exact ⟨rfl, A0.out.trans (WF6.out.bl.mono A0.out.size)⟩
            · have hz1 : ¬ ((i : Int) < (L : Int)) := by omega
              go_wp2_with fail
              refine (wk_put _ WF.out (a : Int) kk A L cap zs (HYS.out.keep WF.out.bl) _ rfl (by omega)).mono ?_
              rintro e w6 ⟨rfl, wf6, hg⟩
              have WF6 := Lib.hid wf6
              obtain ⟨cd, hcd⟩ : ∃ c, sCode (alP kk) bs.length ks (a : Int) ((L : Nat) : Int) = c := ⟨_, rfl⟩
              rw [HN.out] at hcd
              rw [HN.out, hcd]
              have e1 : (cd != 0) = true := by have := SC.out; rw [hcd] at this; simpa using this
              clear hcd wf6 hg
              set_option maxRecDepth 4000 in
              go_wp2_with fail
              go_ret
              exact ⟨rfl, A0.out.trans (WF6.out.bl.mono A0.out.size)⟩
          · by_cases hin : i < L
            · obtain ⟨b, off, rfl, hcell⟩ := HYS.out.at_ (by omega)
              clear hcell
              have m1 : (i : Int) < ((L : Nat) : Int) := by omega
              have m2 : (i : Int) + 1 ≤ (cap : Int) := by omega
              set_option maxRecDepth 4000 in
              go_wp2_with fail
              refine (wk_put _ WG.out ((a : Int) + (i : Int)) kk _ 1 _ ((zs.drop i).take 1) (((HYS.out.cut i (by omega)).pre 1 (by omega)).keep WG.out.bl) _ rfl (by omega)).mono ?_
              rintro e w6 ⟨rfl, wg6, hg⟩
              have WG6 := Lib.hid wg6
              have WF6 := Lib.hid (show Wk 66 a0.heap.size a0 w6 F bs ks from ⟨WF.out.st.grown hg (sne OFF.out.1) (sne OFF.out.2.1) (sne OFF.out.2.2.1), wg6.bl, WF.out.fg, WF.out.fb, WF.out.fk⟩)
              obtain ⟨cd, hcd⟩ : ∃ c, sCode (alP kk) N ks ((a : Int) + (i : Int)) 1 = c := ⟨_, rfl⟩
              have PT6 := Lib.hid (PT.out.step (by rw [HYS.out.1]; exact hin) HN.out hcd)
              rw [PT.out.1, show ((1 : Nat) : Int) = 1 from rfl, hcd]
              clear hcd wg6 hg WF WG PT
              set_option maxRecDepth 4000 in
              go_wp2_with fail
              exact ⟨⟨i + 1, _, _, by omega, rfl, rfl, WF6.out, WG6.out, PT6.out⟩, by simp [intOf]; omega⟩
            · have hiL : i = L := by omega
              have m1 : ¬ ((i : Int) < (L : Int)) := by omega
              rw [hiL] at PT
              clear hin hi hiL
              set_option maxRecDepth 4000 in
              go_wp2_with fail
              have PE := Lib.hid (PT.out.all_ HYS.out.1 (by omega) HN.out)
              have CL := Lib.hid PT.out.1
              refine (wk_put _ WF.out (a : Int) kk A L cap zs (HYS.out.keep WF.out.bl) 0 (by rw [HN.out]; exact PE.out.1) (by omega)).mono ?_
              rintro e w6 ⟨rfl, wf6, hg⟩
              rw [PE.out.2] at wf6
              have WG6 := Lib.hid (show Wk 66 a0.heap.size a0 w6 G cs ks from ⟨WG.out.st.grown hg (sne OFF.out.2.2.2.1) (sne OFF.out.2.2.2.2.1) (sne OFF.out.2.2.2.2.2), wf6.bl, WG.out.fg, WG.out.fb, WG.out.fk⟩)
              have WF6 := Lib.hid wf6
              clear wf6 hg WF WG PE PT
              have WF := WF6
              have WG := WG6
              clear WF6 WG6
              set_option maxRecDepth 4000 in
              go_wp2_with fail
              refine wp_region_held_drew (S := (fun w' => Wk 66 a0.heap.size a0 w' F cs ks ∧ Wk 66 a0.heap.size a0 w' G cs ks)) (by kernel_rfl) ?_ (fun hHeld => ?_)
              · (try dsimp only); exact ⟨WF.out.drewN 1, WG.out.drewN 1⟩
              refine' takeL (i := 0) (v := _) rfl (by kernel_rfl) (by kernel_rfl) (by kernel_rfl) (fun _ _ _ h => h) (Or.inl ⟨by rfl, ?yy1⟩) (by assumption) ?rr1
              case yy1 => intro w hSw; (try dsimp only at hSw); go_simp; (try with_reducible rfl)
              try simp only [Act.put, List.setIfInBounds_toArray, List.set_cons_zero, List.set_cons_succ]
              refine' takeL (i := 1) (v := _) rfl (by kernel_rfl) (by kernel_rfl) (by kernel_rfl) (fun _ _ _ h => h) (Or.inl ⟨by rfl, ?yy2⟩) (by assumption) ?rr2
              case yy2 => intro w hSw; (try dsimp only at hSw); go_simp; (try with_reducible rfl)
              try simp only [Act.put, List.setIfInBounds_toArray, List.set_cons_zero, List.set_cons_succ]
              refine' takeL (i := 2) (v := _) rfl (by kernel_rfl) (by kernel_rfl) (by kernel_rfl) (fun _ _ _ h => h) (Or.inl ⟨by rfl, ?yy3⟩) (by assumption) ?rr3
              case yy3 => intro w hSw; (try dsimp only at hSw); go_simp; (try with_reducible rfl)
              try simp only [Act.put, List.setIfInBounds_toArray, List.set_cons_zero, List.set_cons_succ]
              refine' takeL (i := 3) (v := _) rfl (by kernel_rfl) (by kernel_rfl) (by kernel_rfl) (fun _ _ _ h => h) (Or.inl ⟨by rfl, ?yy4⟩) (by assumption) ?rr4
              case yy4 => intro w hSw; (try dsimp only at hSw); go_simp; (try with_reducible rfl)
              try simp only [Act.put, List.setIfInBounds_toArray, List.set_cons_zero, List.set_cons_succ]
              refine' takeL (i := 4) (v := _) rfl (by kernel_rfl) (by kernel_rfl) (by kernel_rfl) (fun _ _ _ h => h) (Or.inl ⟨by rfl, ?yy5⟩) (by assumption) ?rr5
              case yy5 => intro w hSw; (try dsimp only at hSw); go_simp; (try with_reducible rfl)
              try simp only [Act.put, List.setIfInBounds_toArray, List.set_cons_zero, List.set_cons_succ]
              refine' takeL (i := 8) (v := _) rfl (by kernel_rfl) (by kernel_rfl) (by kernel_rfl) (fun _ _ _ h => h) (Or.inl ⟨by rfl, ?yy6⟩) (by assumption) ?rr6
              case yy6 => intro w hSw; (try dsimp only at hSw); go_simp; (try with_reducible rfl)
              try simp only [Act.put, List.setIfInBounds_toArray, List.set_cons_zero, List.set_cons_succ]
              refine' takeL (i := 9) (v := _) rfl (by kernel_rfl) (by kernel_rfl) (by kernel_rfl) (fun _ _ _ h => h) (Or.inl ⟨by rfl, ?yy7⟩) (by assumption) ?rr7
              case yy7 => intro w hSw; (try dsimp only at hSw); go_simp; (try with_reducible rfl)
              try simp only [Act.put, List.setIfInBounds_toArray, List.set_cons_zero, List.set_cons_succ]
              refine wpAnyH_ready (rs := [5]) (by kernel_rfl) (by simp) ?_
              refine consL rfl (fun K hK => ?_) AllReadyH.nil
              go_simp
              go_at_call 19
              refine (wk_size _ hHeld.1 N CL.out).mono ?_
              rintro e _ ⟨rfl, rfl⟩
              go_wp2_with fail
              refine hK.out _ _ ?_ (fun hHeld => ?_)
              · (try dsimp only); exact hHeld
              clear hK K
              try simp only [Act.put, List.setIfInBounds_toArray, List.set_cons_zero, List.set_cons_succ]
              refine wpAnyH_ready (rs := [6]) (by kernel_rfl) (by simp) ?_
              refine consL rfl (fun K hK => ?_) AllReadyH.nil
              go_simp
              go_at_call 18
              refine (wk_all _ hHeld.1 N CL.out (by omega)).mono ?_
              rintro e w9 ⟨gg, cA1, rfl, ho, _, hb⟩
              obtain ⟨A1, hA1⟩ : ∃ A, some (⟨gg, 0, none⟩ : Addr) = A := ⟨_, rfl⟩
              rw [hA1] at ho
              rw [hA1]
              clear hA1
              have HOA1 := Lib.hid ho
              have HH := Lib.hid (And.intro (hHeld.1.keep hb) (hHeld.2.keep hb))
              clear ho hb
              go_wp2_with fail
              refine hK.out _ _ ?_ (fun hHeld => ?_)
              · (try dsimp only); exact HH.out
              clear hK K
              try simp only [Act.put, List.setIfInBounds_toArray, List.set_cons_zero, List.set_cons_succ]
              refine wpAnyH_more (fun w' => (Wk 66 a0.heap.size a0 w' F cs ks ∧ Wk 66 a0.heap.size a0 w' G cs ks) ∧ Byt w' A1 N cs) ⟨hHeld, HOA1.out⟩ (fun _ h => h.1) (fun hHeld => ?_)
              refine' takeL (i := 7) (v := _) rfl (by kernel_rfl) (by kernel_rfl) (by kernel_rfl) (fun _ _ _ h => h) (Or.inl ⟨by rfl, ?yy8⟩) (by assumption) ?rr8
              case yy8 => intro w hSw; (try dsimp only at hSw); have k := conv_byt hSw.2 cA1; go_simp; (try with_reducible rfl)
              try simp only [Act.put, List.setIfInBounds_toArray, List.set_cons_zero, List.set_cons_succ]
              refine wpAnyH_ready (rs := [10]) (by kernel_rfl) (by simp) ?_
              refine consL rfl (fun K hK => ?_) AllReadyH.nil
              go_simp
              go_at_call 19
              refine (wk_size _ hHeld.1.2 N CL.out).mono ?_
              rintro e _ ⟨rfl, rfl⟩
              go_wp2_with fail
              refine hK.out _ _ ?_ (fun hHeld => ?_)
              · (try dsimp only); exact hHeld
              clear hK K
              try simp only [Act.put, List.setIfInBounds_toArray, List.set_cons_zero, List.set_cons_succ]
              refine wpAnyH_ready (rs := [11]) (by kernel_rfl) (by simp) ?_
              refine consL rfl (fun K hK => ?_) AllReadyH.nil
              go_simp
              go_at_call 18
              refine (wk_all _ hHeld.1.2 N CL.out (by omega)).mono ?_
              rintro e w9 ⟨gg, cA2, rfl, ho, _, hb⟩
              obtain ⟨A2, hA2⟩ : ∃ A, some (⟨gg, 0, none⟩ : Addr) = A := ⟨_, rfl⟩
              rw [hA2] at ho
              rw [hA2]
              clear hA2
              have HOA2 := Lib.hid ho
              have HH := Lib.hid (And.intro (And.intro (hHeld.1.1.keep hb) (hHeld.1.2.keep hb)) (hHeld.2.keep hb))
              clear ho hb
              go_wp2_with fail
              refine hK.out _ _ ?_ (fun hHeld => ?_)
              · (try dsimp only); exact HH.out
              clear hK K
              try simp only [Act.put, List.setIfInBounds_toArray, List.set_cons_zero, List.set_cons_succ]
              refine wpAnyH_more (fun w' => ((Wk 66 a0.heap.size a0 w' F cs ks ∧ Wk 66 a0.heap.size a0 w' G cs ks) ∧ Byt w' A1 N cs) ∧ Byt w' A2 N cs) ⟨hHeld, HOA2.out⟩ (fun _ h => h.1) (fun hHeld => ?_)
              refine' takeL (i := 12) (v := _) rfl (by kernel_rfl) (by kernel_rfl) (by kernel_rfl) (fun _ _ _ h => h) (Or.inl ⟨by rfl, ?yy9⟩) (by assumption) ?rr9
              case yy9 => intro w hSw; (try dsimp only at hSw); have k := conv_byt hSw.2 cA2; go_simp; (try with_reducible rfl)
              try simp only [Act.put, List.setIfInBounds_toArray, List.set_cons_zero, List.set_cons_succ]
              refine' takeL (i := 13) (v := _) rfl (by kernel_rfl) (by kernel_rfl) (by kernel_rfl) (fun _ _ _ h => h) (Or.inl ⟨by rfl, ?yy10⟩) (by assumption) ?rr10
              case yy10 => intro w hSw; (try dsimp only at hSw); go_simp; (try with_reducible rfl)
              try simp only [Act.put, List.setIfInBounds_toArray, List.set_cons_zero, List.set_cons_succ]
              refine' takeL (i := 14) (v := _) rfl (by kernel_rfl) (by kernel_rfl) (by kernel_rfl) (fun _ _ _ h => h) (Or.inl ⟨by rfl, ?yy11⟩) (by assumption) ?rr11
              case yy11 => intro w hSw; (try dsimp only at hSw); go_simp; (try with_reducible rfl)
              try simp only [Act.put, List.setIfInBounds_toArray, List.set_cons_zero, List.set_cons_succ]
              refine' takeL (i := 15) (v := _) rfl (by kernel_rfl) (by kernel_rfl) (by kernel_rfl) (fun _ _ _ h => h) (Or.inl ⟨by rfl, ?yy12⟩) (by assumption) ?rr12
              case yy12 => intro w hSw; (try dsimp only at hSw); go_simp; (try with_reducible rfl)
              try simp only [Act.put, List.setIfInBounds_toArray, List.set_cons_zero, List.set_cons_succ]
              refine wpAnyH_done (by kernel_rfl) ?_ _
              set_option maxRecDepth 4000 in
              go_wp2_with fail
              go_ret
              exact ⟨rfl, A0.out.trans (hHeld.1.1.1.bl.mono A0.out.size)⟩
  · have HYS := HY
    have hLc : (len : Int) ≤ 9223372036854775807 := by omega
    go_wp2_with fail
    go_loopw [12] (fun x wr => ∃ k : Nat, k ≤ 4 ∧ x = .int .i64 k ∧ ∃ ks, Wk 66 a0.heap.size a0 wr F bs ks ∧ ks.length = q ∧ KeyD ks [k0, k1, k2, k3] k) (fun x _ => 4 - (intOf x).toNat)
    case atStart => exact ⟨0, by omega, rfl, _, WK0.out, HQ.out, KeyD.zero _ _⟩
    case round =>
      obtain ⟨k, hk4, rfl, ks, wk, hq, kd⟩ := hrel
      have WK := Lib.hid wk
      have KD := Lib.hid kd
      clear wk kd WK0 HQ
      rcases (show k = 0 ∨ k = 1 ∨ k = 2 ∨ k = 3 ∨ k = 4 by omega) with rfl | rfl | rfl | rfl | rfl
      · have c0 := WK.out.cell (p := ⟨w.heap.size, 0, none⟩) HX HC.out.1
        go_wp2_with fail
        refine (wk_set _ WK.out 0 (k0 % 32) _ rfl).mono ?_
        rintro e w4 ⟨rfl, hs, hg⟩
        have KD2 := Lib.hid (KeyD.stepT (k := 0) (addr := 0) (v := k0 % 32) (by decide) (by rfl) (N := bs.length) WK.out.lt (by simpa using k00) KD.out)
        have WK2 := Lib.hid hs
        clear hs hg c0
        go_wp2_with fail
        exact ⟨⟨0 + 1, by omega, rfl, _, WK2.out, KD2.out.2.trans hq, KD2.out.1⟩, by decide⟩
      · have c0 := WK.out.cell (p := ⟨w.heap.size, 1, none⟩) HX HC.out.2.1
        go_wp2_with fail
        refine (wk_set _ WK.out 2048 (k1 % 32) _ rfl).mono ?_
        rintro e w4 ⟨rfl, hs, hg⟩
        have KD2 := Lib.hid (KeyD.stepT (k := 1) (addr := 2048) (v := k1 % 32) (by decide) (by rfl) (N := bs.length) WK.out.lt (by simpa using k10) KD.out)
        have WK2 := Lib.hid hs
        clear hs hg c0
        go_wp2_with fail
        exact ⟨⟨1 + 1, by omega, rfl, _, WK2.out, KD2.out.2.trans hq, KD2.out.1⟩, by decide⟩
      · have c0 := WK.out.cell (p := ⟨w.heap.size, 2, none⟩) HX HC.out.2.2.1
        go_wp2_with fail
        refine (wk_set _ WK.out 4096 (k2 % 32) _ rfl).mono ?_
        rintro e w4 ⟨rfl, hs, hg⟩
        have KD2 := Lib.hid (KeyD.stepT (k := 2) (addr := 4096) (v := k2 % 32) (by decide) (by rfl) (N := bs.length) WK.out.lt (by simpa using k20) KD.out)
        have WK2 := Lib.hid hs
        clear hs hg c0
        go_wp2_with fail
        exact ⟨⟨2 + 1, by omega, rfl, _, WK2.out, KD2.out.2.trans hq, KD2.out.1⟩, by decide⟩
      · have c0 := WK.out.cell (p := ⟨w.heap.size, 3, none⟩) HX HC.out.2.2.2
        go_wp2_with fail
        refine (wk_set _ WK.out 6144 (k3 % 32) _ rfl).mono ?_
        rintro e w4 ⟨rfl, hs, hg⟩
        have KD2 := Lib.hid (KeyD.stepT (k := 3) (addr := 6144) (v := k3 % 32) (by decide) (by rfl) (N := bs.length) WK.out.lt (by simpa using k30) KD.out)
        have WK2 := Lib.hid hs
        clear hs hg c0
        go_wp2_with fail
        exact ⟨⟨3 + 1, by omega, rfl, _, WK2.out, KD2.out.2.trans hq, KD2.out.1⟩, by decide⟩
      · obtain ⟨N, hN⟩ : ∃ N, bs.length = N := ⟨_, rfl⟩
        have HN := Lib.hid hN
        have hN0 : 2048 ≤ N := by rw [← hN, WK.out.lt, hq]; omega
        have hN1 : N ≤ 8192 := by rw [← hN, WK.out.lt, hq]; omega
        clear hN hq KD
        go_wp2_with fail
        refine (copy_c _ WK.out.st).mono ?_
        rintro e w4 ⟨v, rfl, G, rfl, hs, hb, p1, p2, p3⟩
        have WG := Lib.hid (wk_make WK.out.bl WK.out.hB hs hb p1 p2 p3)
        have l1 := WK.out.st.ltg; have l2 := WK.out.st.ltb; have l3 := WK.out.st.ltk
        have OFF := Lib.hid (show F.g ≠ G.gb ∧ F.gb ≠ G.gb ∧ F.gk ≠ G.gb ∧ G.g ≠ F.gb ∧ G.gb ≠ F.gb ∧ G.gk ≠ F.gb by omega)
        have WF := Lib.hid (WK.out.keep hb)
        clear hs hb p1 p2 p3 l1 l2 l3 WK
        go_wp2_with fail
        refine (wk_size _ WF.out N HN.out).mono ?_
        rintro e w5 ⟨rfl, rfl⟩
        go_wp2_with fail
        obtain ⟨a, ha⟩ : ∃ a : Nat, at_ % (N : Int) = a := ⟨(at_ % (N : Int)).toNat, by have := Int.emod_nonneg at_ (b := N) (by omega); omega⟩
        have ha1 : a < N := by have := Int.emod_lt_of_pos at_ (b := N) (by omega); omega
        obtain ⟨kk, hkk⟩ : ∃ k, key % 16 = k := ⟨_, rfl⟩
        rw [ha, hkk]
        clear ha hkk
        go_loopw [16, 17] (fun al i wr => ∃ (i' : Nat) (all : Bool) (cs : List Int), i' ≤ len ∧ al = .bool all ∧ i = .int .i64 i' ∧ Wk 66 a0.heap.size a0 wr F bs ks ∧ Wk 66 a0.heap.size a0 wr G cs ks ∧ Parts (alP kk) N ks a bs ys cs all i') (fun _ i _ => len - (intOf i).toNat)
        case atStart => exact ⟨0, true, bs, by omega, rfl, rfl, WF.out, WG.out, Parts.start HN.out⟩
        case round =>
          obtain ⟨i, all, cs, hi, rfl, rfl, wf, wg, pt⟩ := hrel
          clear WF WG
          have WF := Lib.hid wf
          have WG := Lib.hid wg
          have PT := Lib.hid pt
          clear wf wg pt
          cases all
          · have SC := Lib.hid (PT.out.stop len hi)
            rcases Nat.lt_or_ge i len with hz | hz
            · have hz1 : (i : Int) < (len : Int) := by omega
              go_wp2_with fail
              refine (wk_put _ WF.out (a : Int) kk A len cap ys (HYS.out.keep WF.out.bl) _ rfl (by omega)).mono ?_
              rintro e w6 ⟨rfl, wf6, hg⟩
              have WF6 := Lib.hid wf6
              obtain ⟨cd, hcd⟩ : ∃ c, sCode (alP kk) bs.length ks (a : Int) ((len : Nat) : Int) = c := ⟨_, rfl⟩
              rw [HN.out] at hcd
              rw [HN.out, hcd]
              have e1 : (cd != 0) = true := by have := SC.out; rw [hcd] at this; simpa using this
              clear hcd wf6 hg
              set_option maxRecDepth 4000 in
              go_wp2_with fail
              go_ret
              exact ⟨rfl, A0.out.trans (WF6.out.bl.mono A0.out.size)⟩
            · have hz1 : ¬ ((i : Int) < (len : Int)) := by omega
              go_wp2_with fail
              refine (wk_put _ WF.out (a : Int) kk A len cap ys (HYS.out.keep WF.out.bl) _ rfl (by omega)).mono ?_
              rintro e w6 ⟨rfl, wf6, hg⟩
              have WF6 := Lib.hid wf6
              obtain ⟨cd, hcd⟩ : ∃ c, sCode (alP kk) bs.length ks (a : Int) ((len : Nat) : Int) = c := ⟨_, rfl⟩
              rw [HN.out] at hcd
              rw [HN.out, hcd]
              have e1 : (cd != 0) = true := by have := SC.out; rw [hcd] at this; simpa using this
              clear hcd wf6 hg
              set_option maxRecDepth 4000 in
              go_wp2_with fail
              go_ret
              exact ⟨rfl, A0.out.trans (WF6.out.bl.mono A0.out.size)⟩
          · by_cases hin : i < len
            · obtain ⟨b, off, rfl, hcell⟩ := HYS.out.at_ (by omega)
              clear hcell
              have m1 : (i : Int) < ((len : Nat) : Int) := by omega
              have m2 : (i : Int) + 1 ≤ (cap : Int) := by omega
              set_option maxRecDepth 4000 in
              go_wp2_with fail
              refine (wk_put _ WG.out ((a : Int) + (i : Int)) kk _ 1 _ ((ys.drop i).take 1) (((HYS.out.cut i (by omega)).pre 1 (by omega)).keep WG.out.bl) _ rfl (by omega)).mono ?_
              rintro e w6 ⟨rfl, wg6, hg⟩
              have WG6 := Lib.hid wg6
              have WF6 := Lib.hid (show Wk 66 a0.heap.size a0 w6 F bs ks from ⟨WF.out.st.grown hg (sne OFF.out.1) (sne OFF.out.2.1) (sne OFF.out.2.2.1), wg6.bl, WF.out.fg, WF.out.fb, WF.out.fk⟩)
              obtain ⟨cd, hcd⟩ : ∃ c, sCode (alP kk) N ks ((a : Int) + (i : Int)) 1 = c := ⟨_, rfl⟩
              have PT6 := Lib.hid (PT.out.step (by rw [HYS.out.1]; exact hin) HN.out hcd)
              rw [PT.out.1, show ((1 : Nat) : Int) = 1 from rfl, hcd]
              clear hcd wg6 hg WF WG PT
              set_option maxRecDepth 4000 in
              go_wp2_with fail
              exact ⟨⟨i + 1, _, _, by omega, rfl, rfl, WF6.out, WG6.out, PT6.out⟩, by simp [intOf]; omega⟩
            · have hiL : i = len := by omega
              have m1 : ¬ ((i : Int) < (len : Int)) := by omega
              rw [hiL] at PT
              clear hin hi hiL
              set_option maxRecDepth 4000 in
              go_wp2_with fail
              have PE := Lib.hid (PT.out.all_ HYS.out.1 (by omega) HN.out)
              have CL := Lib.hid PT.out.1
              refine (wk_put _ WF.out (a : Int) kk A len cap ys (HYS.out.keep WF.out.bl) 0 (by rw [HN.out]; exact PE.out.1) (by omega)).mono ?_
              rintro e w6 ⟨rfl, wf6, hg⟩
              rw [PE.out.2] at wf6
              have WG6 := Lib.hid (show Wk 66 a0.heap.size a0 w6 G cs ks from ⟨WG.out.st.grown hg (sne OFF.out.2.2.2.1) (sne OFF.out.2.2.2.2.1) (sne OFF.out.2.2.2.2.2), wf6.bl, WG.out.fg, WG.out.fb, WG.out.fk⟩)
              have WF6 := Lib.hid wf6
              clear wf6 hg WF WG PE PT
              have WF := WF6
              have WG := WG6
              clear WF6 WG6
              set_option maxRecDepth 4000 in
              go_wp2_with fail
              refine wp_region_held_drew (S := (fun w' => Wk 66 a0.heap.size a0 w' F cs ks ∧ Wk 66 a0.heap.size a0 w' G cs ks)) (by kernel_rfl) ?_ (fun hHeld => ?_)
              · (try dsimp only); exact ⟨WF.out.drewN 1, WG.out.drewN 1⟩
              refine' takeL (i := 0) (v := _) rfl (by kernel_rfl) (by kernel_rfl) (by kernel_rfl) (fun _ _ _ h => h) (Or.inl ⟨by rfl, ?yyb1⟩) (by assumption) ?rrb1
              case yyb1 => intro w hSw; (try dsimp only at hSw); go_simp; (try with_reducible rfl)
              try simp only [Act.put, List.setIfInBounds_toArray, List.set_cons_zero, List.set_cons_succ]
              refine' takeL (i := 1) (v := _) rfl (by kernel_rfl) (by kernel_rfl) (by kernel_rfl) (fun _ _ _ h => h) (Or.inl ⟨by rfl, ?yyb2⟩) (by assumption) ?rrb2
              case yyb2 => intro w hSw; (try dsimp only at hSw); go_simp; (try with_reducible rfl)
              try simp only [Act.put, List.setIfInBounds_toArray, List.set_cons_zero, List.set_cons_succ]
              refine' takeL (i := 2) (v := _) rfl (by kernel_rfl) (by kernel_rfl) (by kernel_rfl) (fun _ _ _ h => h) (Or.inl ⟨by rfl, ?yyb3⟩) (by assumption) ?rrb3
              case yyb3 => intro w hSw; (try dsimp only at hSw); go_simp; (try with_reducible rfl)
              try simp only [Act.put, List.setIfInBounds_toArray, List.set_cons_zero, List.set_cons_succ]
              refine' takeL (i := 3) (v := _) rfl (by kernel_rfl) (by kernel_rfl) (by kernel_rfl) (fun _ _ _ h => h) (Or.inl ⟨by rfl, ?yyb4⟩) (by assumption) ?rrb4
              case yyb4 => intro w hSw; (try dsimp only at hSw); go_simp; (try with_reducible rfl)
              try simp only [Act.put, List.setIfInBounds_toArray, List.set_cons_zero, List.set_cons_succ]
              refine' takeL (i := 4) (v := _) rfl (by kernel_rfl) (by kernel_rfl) (by kernel_rfl) (fun _ _ _ h => h) (Or.inl ⟨by rfl, ?yyb5⟩) (by assumption) ?rrb5
              case yyb5 => intro w hSw; (try dsimp only at hSw); go_simp; (try with_reducible rfl)
              try simp only [Act.put, List.setIfInBounds_toArray, List.set_cons_zero, List.set_cons_succ]
              refine' takeL (i := 8) (v := _) rfl (by kernel_rfl) (by kernel_rfl) (by kernel_rfl) (fun _ _ _ h => h) (Or.inl ⟨by rfl, ?yyb6⟩) (by assumption) ?rrb6
              case yyb6 => intro w hSw; (try dsimp only at hSw); go_simp; (try with_reducible rfl)
              try simp only [Act.put, List.setIfInBounds_toArray, List.set_cons_zero, List.set_cons_succ]
              refine' takeL (i := 9) (v := _) rfl (by kernel_rfl) (by kernel_rfl) (by kernel_rfl) (fun _ _ _ h => h) (Or.inl ⟨by rfl, ?yyb7⟩) (by assumption) ?rrb7
              case yyb7 => intro w hSw; (try dsimp only at hSw); go_simp; (try with_reducible rfl)
              try simp only [Act.put, List.setIfInBounds_toArray, List.set_cons_zero, List.set_cons_succ]
              refine wpAnyH_ready (rs := [5]) (by kernel_rfl) (by simp) ?_
              refine consL rfl (fun K hK => ?_) AllReadyH.nil
              go_simp
              go_at_call 19
              refine (wk_size _ hHeld.1 N CL.out).mono ?_
              rintro e _ ⟨rfl, rfl⟩
              go_wp2_with fail
              refine hK.out _ _ ?_ (fun hHeld => ?_)
              · (try dsimp only); exact hHeld
              clear hK K
              try simp only [Act.put, List.setIfInBounds_toArray, List.set_cons_zero, List.set_cons_succ]
              refine wpAnyH_ready (rs := [6]) (by kernel_rfl) (by simp) ?_
              refine consL rfl (fun K hK => ?_) AllReadyH.nil
              go_simp
              go_at_call 18
              refine (wk_all _ hHeld.1 N CL.out (by omega)).mono ?_
              rintro e w9 ⟨gg, cA1, rfl, ho, _, hb⟩
              obtain ⟨A1, hA1⟩ : ∃ A, some (⟨gg, 0, none⟩ : Addr) = A := ⟨_, rfl⟩
              rw [hA1] at ho
              rw [hA1]
              clear hA1
              have HOA1 := Lib.hid ho
              have HH := Lib.hid (And.intro (hHeld.1.keep hb) (hHeld.2.keep hb))
              clear ho hb
              go_wp2_with fail
              refine hK.out _ _ ?_ (fun hHeld => ?_)
              · (try dsimp only); exact HH.out
              clear hK K
              try simp only [Act.put, List.setIfInBounds_toArray, List.set_cons_zero, List.set_cons_succ]
              refine wpAnyH_more (fun w' => (Wk 66 a0.heap.size a0 w' F cs ks ∧ Wk 66 a0.heap.size a0 w' G cs ks) ∧ Byt w' A1 N cs) ⟨hHeld, HOA1.out⟩ (fun _ h => h.1) (fun hHeld => ?_)
              refine' takeL (i := 7) (v := _) rfl (by kernel_rfl) (by kernel_rfl) (by kernel_rfl) (fun _ _ _ h => h) (Or.inl ⟨by rfl, ?yyb8⟩) (by assumption) ?rrb8
              case yyb8 => intro w hSw; (try dsimp only at hSw); have k := conv_byt hSw.2 cA1; go_simp; (try with_reducible rfl)
              try simp only [Act.put, List.setIfInBounds_toArray, List.set_cons_zero, List.set_cons_succ]
              refine wpAnyH_ready (rs := [10]) (by kernel_rfl) (by simp) ?_
              refine consL rfl (fun K hK => ?_) AllReadyH.nil
              go_simp
              go_at_call 19
              refine (wk_size _ hHeld.1.2 N CL.out).mono ?_
              rintro e _ ⟨rfl, rfl⟩
              go_wp2_with fail
              refine hK.out _ _ ?_ (fun hHeld => ?_)
              · (try dsimp only); exact hHeld
              clear hK K
              try simp only [Act.put, List.setIfInBounds_toArray, List.set_cons_zero, List.set_cons_succ]
              refine wpAnyH_ready (rs := [11]) (by kernel_rfl) (by simp) ?_
              refine consL rfl (fun K hK => ?_) AllReadyH.nil
              go_simp
              go_at_call 18
              refine (wk_all _ hHeld.1.2 N CL.out (by omega)).mono ?_
              rintro e w9 ⟨gg, cA2, rfl, ho, _, hb⟩
              obtain ⟨A2, hA2⟩ : ∃ A, some (⟨gg, 0, none⟩ : Addr) = A := ⟨_, rfl⟩
              rw [hA2] at ho
              rw [hA2]
              clear hA2
              have HOA2 := Lib.hid ho
              have HH := Lib.hid (And.intro (And.intro (hHeld.1.1.keep hb) (hHeld.1.2.keep hb)) (hHeld.2.keep hb))
              clear ho hb
              go_wp2_with fail
              refine hK.out _ _ ?_ (fun hHeld => ?_)
              · (try dsimp only); exact HH.out
              clear hK K
              try simp only [Act.put, List.setIfInBounds_toArray, List.set_cons_zero, List.set_cons_succ]
              refine wpAnyH_more (fun w' => ((Wk 66 a0.heap.size a0 w' F cs ks ∧ Wk 66 a0.heap.size a0 w' G cs ks) ∧ Byt w' A1 N cs) ∧ Byt w' A2 N cs) ⟨hHeld, HOA2.out⟩ (fun _ h => h.1) (fun hHeld => ?_)
              refine' takeL (i := 12) (v := _) rfl (by kernel_rfl) (by kernel_rfl) (by kernel_rfl) (fun _ _ _ h => h) (Or.inl ⟨by rfl, ?yyb9⟩) (by assumption) ?rrb9
              case yyb9 => intro w hSw; (try dsimp only at hSw); have k := conv_byt hSw.2 cA2; go_simp; (try with_reducible rfl)
              try simp only [Act.put, List.setIfInBounds_toArray, List.set_cons_zero, List.set_cons_succ]
              refine' takeL (i := 13) (v := _) rfl (by kernel_rfl) (by kernel_rfl) (by kernel_rfl) (fun _ _ _ h => h) (Or.inl ⟨by rfl, ?yyb10⟩) (by assumption) ?rrb10
              case yyb10 => intro w hSw; (try dsimp only at hSw); go_simp; (try with_reducible rfl)
              try simp only [Act.put, List.setIfInBounds_toArray, List.set_cons_zero, List.set_cons_succ]
              refine' takeL (i := 14) (v := _) rfl (by kernel_rfl) (by kernel_rfl) (by kernel_rfl) (fun _ _ _ h => h) (Or.inl ⟨by rfl, ?yyb11⟩) (by assumption) ?rrb11
              case yyb11 => intro w hSw; (try dsimp only at hSw); go_simp; (try with_reducible rfl)
              try simp only [Act.put, List.setIfInBounds_toArray, List.set_cons_zero, List.set_cons_succ]
              refine' takeL (i := 15) (v := _) rfl (by kernel_rfl) (by kernel_rfl) (by kernel_rfl) (fun _ _ _ h => h) (Or.inl ⟨by rfl, ?yyb12⟩) (by assumption) ?rrb12
              case yyb12 => intro w hSw; (try dsimp only at hSw); go_simp; (try with_reducible rfl)
              try simp only [Act.put, List.setIfInBounds_toArray, List.set_cons_zero, List.set_cons_succ]
              refine wpAnyH_done (by kernel_rfl) ?_ _
              set_option maxRecDepth 4000 in
              go_wp2_with fail
              go_ret
              exact ⟨rfl, A0.out.trans (hHeld.1.1.1.bl.mono A0.out.size)⟩
end Go.Proofs.Ytcollddpfahaaaa
