/- StoreOwn: the walk. No conditions but that the arguments read as bytes. -/
import Derived.Test.YtcollddpfahaaaaSt20
import Derived.Lib.Hide
import Derived.Outline
import Derived.Handy
import Derived.BigQuiet
import Derived.Deep.QuietTactic
namespace Go.Proofs.Ytcollddpfahaaaa
open Go.RowKit
set_option linter.unusedVariables false
set_option linter.unusedSimpArgs false

set_option maxHeartbeats 4000000 in
theorem storeOwn_walk (A : Option Addr) (len cap : Nat) (ys : List Int) (at_ : Int) (w : World) (hy : Byt w A len ys) (hA : A = none → cap = 0) (hl : (len : Int) ≤ (cap : Int)) (hc : (cap : Int) ≤ 9223372036854775807) (hat : 0 ≤ at_ ∧ at_ ≤ 65535) : Calls Try.prog 6 #[.slice A len cap, .int .u16 at_] w fun e w' => e = .returned (.bool true) ∧ Below w.heap.size w w' := by
  obtain ⟨at0, at1⟩ := hat
  have HY := Lib.hid hy
  have HA := Lib.hid hA
  clear hy hA
  go_enter Try.func6, Try.ntmps6
  go_wp2_with fail
  refine (works_c _).mono ?_
  rintro e w1 ⟨rfl, hb1⟩
  go_wp2_with fail
  refine (make_c 3 (by decide) (by decide) _).mono ?_
  rintro e w2 ⟨F, rfl, hs, hb, q1, q2, q3⟩
  have WK0 := Lib.hid (wk_make hb1 hb1.size hs hb q1 q2 q3)
  clear hs hb q1 q2 q3 hb1
  obtain ⟨bs, hbs⟩ : ∃ b, z0 (2048 * sBlk 3) = b := ⟨_, rfl⟩
  obtain ⟨ks, hks⟩ : ∃ b, z0 (sBlk 3) = b := ⟨_, rfl⟩
  have HN := Lib.hid (show bs.length = 8192 from by rw [← hbs, z0_len]; rfl)
  rw [hbs, hks] at WK0
  clear hbs hks
  by_cases hlt : (2000 : Int) < (len : Int)
  · have m0 : (2000 : Int) ≤ (cap : Int) := by omega
    have HYS := Lib.hid (HY.out.pre 2000 (by omega))
    obtain ⟨zs, hzs⟩ : ∃ z, ys.take 2000 = z := ⟨_, rfl⟩
    rw [hzs] at HYS
    clear hzs
    obtain ⟨L, hL⟩ : ∃ l : Nat, l = 2000 := ⟨_, rfl⟩
    have hL1 : (L : Int) ≤ (cap : Int) := by omega
    have hL2 : L ≤ 2000 := by omega
    rw [← hL] at HYS
    have HLL := Lib.hid hL
    clear hL
    have HYA := Lib.hid ((HYS.out.keep WK0.out.bl).keep ((Below.refl w2.heap.size w2).alloc (Nat.le_refl _) (.cells #[] 5)))
    rw [HLL.out] at HYA
    go_wp2_with (first | (at_builtin; refine wpList_append_bytes rfl _ _ rfl w2.heap.size (.slice (some ⟨w2.heap.size, 0, none⟩) 0 0) 0 [] rfl (Own.empty w2 w2.heap.size (Nat.le_refl _)) A 2000 cap zs rfl HYA.out HA.out (by omega) (by simp) ?_; intro v' w3 hown hg; simp only [Nat.zero_add, List.nil_append] at hown) | (at_builtin; refine wpList_append_bytes rfl _ _ rfl w2.heap.size _ 2000 zs rfl (hown.alloc _) (some ⟨w3.heap.size, 0, none⟩) 1 1 [170] rfl (byt_new _ _ (by simp) _ (by simp) _ rfl _) (fun h => nomatch h) (by omega) (by have := hg.size; simp at this ⊢; omega) ?_; intro v2 w4 hown2 hg2; obtain ⟨gi, ci, rfl, hgi, hgs, hci, hcm⟩ := hown2.pos (by omega); have hg2' : (w3.alloc (.cells #[.int .u8 170] 5)).grownBy w4 v'.ownBlock := hg2; have BW := Lib.hid (show Below w2.heap.size w2 w4 from ((((Below.refl _ _).alloc (Nat.le_refl _) _).grown hg (by simp) (by intro g hk; have := Own.block (Own.empty w2 w2.heap.size (Nat.le_refl _)) g hk; omega)).alloc (by have := hg.size; simp at this; omega) _).grown hg2' (by have := hg.size; simp at this ⊢; omega) (by intro g hk; exact (hown.block g hk).1)); have RI := Lib.hid (Own.ro hown2); have hl4 := Lib.hid hown2.1; clear hg2 hg2' hg hown hown2))
    have e1 : (2000 : Nat) = L := HLL.out.symm
    have e2 : (2001 : Nat) = L + 1 := by rw [HLL.out]
    have e3 : (2000 : Int) = (L : Int) := by rw [HLL.out]; rfl
    rw [e2, e1, e3]
    replace hci : L + 1 ≤ ci := by omega
    clear e1 e2 e3 m0 HYA
    clear hl4
    obtain ⟨a, ha⟩ : ∃ a : Nat, at_ % 6000 = a := ⟨(at_ % 6000).toNat, by omega⟩
    have ha1 : a < 6000 := by omega
    rw [ha]
    clear ha
    have WK4 := Lib.hid (show Wk 66 w.heap.size w w4 F bs ks from ⟨WK0.out.st.belowS BW.out, WK0.out.bl.trans (BW.out.mono WK0.out.hB), WK0.out.fg, WK0.out.fb, WK0.out.fk⟩)
    have OFF := Lib.hid (WK0.out.off hgi)
    have HL1 := Lib.hid HYS.out.1
    have tk : (zs ++ [170]).take L = zs := by rw [List.take_left' HYS.out.1]
    have LR := Lib.hid (show (zs ++ [170] : List Int).length = L + 1 from by rw [List.length_append, HYS.out.1]; rfl)
    have BI := Lib.hid (show Byt w4 (some ⟨gi, 0, none⟩) L zs by have := (RI.out.byt (L + 1) LR.out).pre L (by omega); rw [tk] at this; exact this)
    refine (wk_put w4 WK4.out (a : Int) 0 _ L ci zs BI.out 0 (by rw [HN.out]; exact code_free alP_zero (by omega)) (by omega)).mono ?_
    rintro e w5 ⟨rfl, wk5, hg5⟩
    obtain ⟨b1, hb1⟩ : ∃ b, sPut (alP 0) bs ks (a : Int) zs = b := ⟨_, rfl⟩
    have HN1 := Lib.hid (show b1.length = 8192 from by rw [← hb1, sPut_length]; exact HN.out)
    have GP := Lib.hid (show sGet b1 (a : Int) (L : Int) = zs from by rw [← hb1]; exact get_put alP_zero HN.out HL1.out (by omega))
    rw [hb1] at wk5
    have W5 := Lib.hid wk5
    have R5 := Lib.hid (RI.out.grown hg5 OFF.out.2.1)
    have LV := Lib.hid (show ((zs ++ [170] : List Int).getD L 0 : Int) = (170 : Int) from by rw [← HL1.out]; simp [List.getD_eq_getElem?_getD])
    clear hb1 wk5 hg5 WK4 BI RI tk BW WK0 hgs
    go_wp2_with fail
    go_loopw [42] (fun x wr => ∃ i : Nat, i ≤ L + 1 ∧ x = .int .i64 i ∧ Wk 66 w.heap.size w wr F b1 ks ∧ ∃ vs, Ro wr gi ci vs ∧ vs.length = L + 1 ∧ vs.getD L 0 = if L < i then 85 else 170) (fun x _ => L + 1 - (intOf x).toNat)
    case atStart => exact ⟨0, by omega, rfl, W5.out, _, R5.out, LR.out, by rw [LV.out, if_neg (by omega)]⟩
    case round =>
      obtain ⟨i, hi, rfl, wk, vs, ro, hvl, hve⟩ := hrel
      have WK := Lib.hid wk
      have RO := Lib.hid ro
      have VL := Lib.hid hvl
      have VE := Lib.hid hve
      clear wk ro hvl hve W5 R5
      by_cases hin : i < L + 1
      · have hI : (i : Int) < ((L : Nat) : Int) + 1 := by omega
        have c1 := RO.out.cell (i := i) (by rw [VL.out]; exact hin)
        have f1 := RO.out.free i
        have rx := RO.out.rangeD i
        obtain ⟨x, hx⟩ : ∃ x, vs.getD i 0 = x := ⟨_, rfl⟩
        rw [hx] at c1 rx
        have HX := Lib.hid hx
        clear hx
        go_wp2_with fail
        exact ⟨⟨i + 1, by omega, by simp, WK.out.far (grown_setCell _ _ _ _) OFF.out, _, RO.out.set_ (xor_u8 x), by rw [List.length_set]; exact VL.out, own_last VL.out hin HX.out VE.out⟩, by simp [intOf]; omega⟩
      · have hI : ¬ ((i : Int) < ((L : Nat) : Int) + 1) := by omega
        have VE2 := Lib.hid (show (vs.getD L 0 : Int) = (85 : Int) from by rw [VE.out, if_pos (by omega)])
        have FE := Lib.hid (show sFet (alF 0) b1 ks (a : Int) (L : Int) = zs from by unfold sFet; rw [if_pos (by rw [HN1.out]; exact code_free alF_zero (by omega))]; exact GP.out)
        have CE := Lib.hid (show sCode (alF 0) b1.length ks (a : Int) (L : Int) = 0 from by rw [HN1.out]; exact code_free alF_zero (by omega))
        clear hi hin VE
        go_wp2_with fail
        go_loopw [9] (fun x wr => ∃ t : Nat, t ≤ 2 ∧ x = .int .i64 t ∧ Wk 66 w.heap.size w wr F b1 ks ∧ Ro wr gi ci vs) (fun x _ => 2 - (intOf x).toNat)
        case atStart => exact ⟨0, by omega, rfl, WK.out, RO.out⟩
        case round =>
          obtain ⟨t, ht, rfl, wk, ro⟩ := hrel
          have WT := Lib.hid wk
          have RT := Lib.hid ro
          clear wk ro WK RO
          by_cases ht2 : t < 2
          · have hT : (t : Int) < 2 := by omega
            go_wp2_with fail
            refine (fetch_c _ WT.out.st (a : Int) (L : Int) 0).mono ?_
            rintro e w6 ⟨A1, m1, c1, rfl, ho, hb⟩
            rw [FE.out] at ho
            rw [CE.out]
            have hm1 : m1 = L := by rw [← HL1.out]; exact ho.len.symm
            rw [hm1] at ho
            rw [hm1]
            have W6 := Lib.hid (WT.out.keep hb)
            have R6 := Lib.hid (RT.out.belowS hb)
            have O6 := Lib.hid ho
            have gl := RT.out.lt
            have wz := hb.size
            clear hm1 ho hb
            go_wp2_with fail
            refine (wk_bytes _ W6.out (a : Int) (L : Int) _ GP.out).mono ?_
            rintro e w7 ⟨A2, m2, c2, rfl, ho, wk7, hb7⟩
            have hm2 : m2 = L := by rw [← HL1.out]; exact ho.len.symm
            rw [hm2] at ho
            rw [hm2]
            have O7 := Lib.hid (O6.out.below hb7 (fun g hg => (O6.out.block g hg).2))
            have P7 := Lib.hid ho
            have W7 := Lib.hid wk7
            have R7 := Lib.hid (R6.out.belowS hb7)
            have s1 := conv_byt O7.out.byt c1
            have s2 := conv_byt ho.byt c2
            have s3 := conv_byt (HYS.out.keep wk7.bl) cap
            clear hm2 ho wk7 hb7
            go_wp2_with fail
            clear s1 s2 s3
            by_cases hL0 : L = 0
            · go_loopw [89] (fun x wr => ∃ i : Nat, i ≤ L ∧ x = .int .i64 i ∧ Wk 66 w.heap.size w wr F b1 ks ∧ Ro wr gi ci vs) (fun x _ => L - (intOf x).toNat)
              case atStart => exact ⟨0, by omega, rfl, W7.out, R7.out⟩
              case round =>
                obtain ⟨i, hi, rfl, wk, ro⟩ := hrel
                have W8 := Lib.hid wk
                have R8 := Lib.hid ro
                have hI : ¬ ((i : Int) < (L : Int)) := by omega
                clear wk ro hL0 hi
                go_wp2_with fail
                exact ⟨⟨t + 1, by omega, by simp, W8.out, R8.out⟩, by simp [intOf]; omega⟩
            · obtain ⟨g1, c1', e1, hg1, _⟩ := O6.out.pos (by omega)
              injection e1 with e1 _ e2
              subst e1 e2
              obtain ⟨g2, c2', e1, hg2, _⟩ := P7.out.pos (by omega)
              injection e1 with e1 _ e2
              subst e1 e2
              have g16 := (O6.out.block g1 rfl).2
              have OX := Lib.hid (WT.out.off hg1)
              have OY := Lib.hid (WT.out.off (b := g2) (by omega))
              have NE := Lib.hid (show gi ≠ g1 ∧ gi ≠ g2 ∧ g1 ≠ g2 ∧ g2 ≠ g1 by omega)
              clear hg1 hg2 g16
              go_loopw [89] (fun x wr => ∃ i : Nat, i ≤ L ∧ x = .int .i64 i ∧ Wk 66 w.heap.size w wr F b1 ks ∧ Ro wr gi ci vs ∧ ∃ xs ys', Ro wr g1 c1 xs ∧ xs.length = L ∧ Ro wr g2 c2 ys' ∧ ys'.length = L) (fun x _ => L - (intOf x).toNat)
              case atStart => exact ⟨0, by omega, rfl, W7.out, R7.out, _, _, Own.ro O7.out, HL1.out, Own.ro P7.out, HL1.out⟩
              case round =>
                obtain ⟨i, hi, rfl, wk, ro, xs, ys', rx, hxl, ry, hyl⟩ := hrel
                have W8 := Lib.hid wk
                have R8 := Lib.hid ro
                have RX := Lib.hid rx
                have RY := Lib.hid ry
                have XL := Lib.hid hxl
                have YL := Lib.hid hyl
                clear wk ro rx ry hxl hyl hL0
                by_cases hin : i < L
                · have hI : (i : Int) < (L : Int) := by omega
                  have d1 := RX.out.cell (i := i) (by rw [XL.out]; exact hin)
                  have d2 := RX.out.free i
                  have RY2 := RY.out.grown (grown_setCell _ g1 i (.int .u8 85)) NE.out.2.2.2
                  have d3 := RY2.cell (i := i) (by rw [YL.out]; exact hin)
                  have d4 := RY2.free i
                  have RYH := Lib.hid RY2
                  clear RY2 hi
                  go_wp2_with fail
                  exact ⟨⟨i + 1, by omega, by simp, (W8.out.far (grown_setCell _ _ _ _) OX.out).far (grown_setCell _ _ _ _) OY.out, (R8.out.grown (grown_setCell _ _ _ _) NE.out.1).grown (grown_setCell _ _ _ _) NE.out.2.1, _, _, (RX.out.set_ (by decide)).grown (grown_setCell _ _ _ _) NE.out.2.2.1, by rw [List.length_set]; exact XL.out, RYH.out.set_ (by decide), by rw [List.length_set]; exact YL.out⟩, by simp [intOf]; omega⟩
                · have hI : ¬ ((i : Int) < (L : Int)) := by omega
                  clear hi hin
                  go_wp2_with fail
                  exact ⟨⟨t + 1, by omega, by simp, W8.out, R8.out⟩, by simp [intOf]; omega⟩
          · have hT : ¬ ((t : Int) < 2) := by omega
            clear ht ht2
            go_wp2_with fail
            refine (wk_putT _ WT.out (a : Int) 0 _ L ci (vs.take L) ((RT.out.byt (L + 1) VL.out).pre L (by omega)) (by omega)).mono ?_
            rintro e w8 ⟨c, b2, rfl, wk8, hg8, _, _, _⟩
            have d1 := (RT.out.grown hg8 OFF.out.2.1).cell (i := L) (by rw [VL.out]; omega)
            rw [VE2.out] at d1
            have WE := Lib.hid wk8.bl
            clear wk8 hg8
            go_wp2_with fail
            go_ret
            exact ⟨rfl, WE.out⟩
  · have HYS := HY
    have hL2 : len ≤ 2000 := by omega
    have HYA := Lib.hid ((HYS.out.keep WK0.out.bl).keep ((Below.refl w2.heap.size w2).alloc (Nat.le_refl _) (.cells #[] 5)))
    go_wp2_with (first | (at_builtin; refine wpList_append_bytes rfl _ _ rfl w2.heap.size (.slice (some ⟨w2.heap.size, 0, none⟩) 0 0) 0 [] rfl (Own.empty w2 w2.heap.size (Nat.le_refl _)) A len cap ys rfl HYA.out HA.out (by omega) (by simp) ?_; intro v' w3 hown hg; simp only [Nat.zero_add, List.nil_append] at hown) | (at_builtin; refine wpList_append_bytes rfl _ _ rfl w2.heap.size _ len ys rfl (hown.alloc _) (some ⟨w3.heap.size, 0, none⟩) 1 1 [170] rfl (byt_new _ _ (by simp) _ (by simp) _ rfl _) (fun h => nomatch h) (by omega) (by have := hg.size; simp at this ⊢; omega) ?_; intro v2 w4 hown2 hg2; obtain ⟨gi, ci, rfl, hgi, hgs, hci, hcm⟩ := hown2.pos (by omega); have hg2' : (w3.alloc (.cells #[.int .u8 170] 5)).grownBy w4 v'.ownBlock := hg2; have BW := Lib.hid (show Below w2.heap.size w2 w4 from ((((Below.refl _ _).alloc (Nat.le_refl _) _).grown hg (by simp) (by intro g hk; have := Own.block (Own.empty w2 w2.heap.size (Nat.le_refl _)) g hk; omega)).alloc (by have := hg.size; simp at this; omega) _).grown hg2' (by have := hg.size; simp at this ⊢; omega) (by intro g hk; exact (hown.block g hk).1)); have RI := Lib.hid (Own.ro hown2); have hl4 := Lib.hid hown2.1; clear hg2 hg2' hg hown hown2))
    clear hl4
    obtain ⟨a, ha⟩ : ∃ a : Nat, at_ % 6000 = a := ⟨(at_ % 6000).toNat, by omega⟩
    have ha1 : a < 6000 := by omega
    rw [ha]
    clear ha
    have WK4 := Lib.hid (show Wk 66 w.heap.size w w4 F bs ks from ⟨WK0.out.st.belowS BW.out, WK0.out.bl.trans (BW.out.mono WK0.out.hB), WK0.out.fg, WK0.out.fb, WK0.out.fk⟩)
    have OFF := Lib.hid (WK0.out.off hgi)
    have HL1 := Lib.hid HYS.out.1
    have tk : (ys ++ [170]).take len = ys := by rw [List.take_left' HYS.out.1]
    have LR := Lib.hid (show (ys ++ [170] : List Int).length = len + 1 from by rw [List.length_append, HYS.out.1]; rfl)
    have BI := Lib.hid (show Byt w4 (some ⟨gi, 0, none⟩) len ys by have := (RI.out.byt (len + 1) LR.out).pre len (by omega); rw [tk] at this; exact this)
    refine (wk_put w4 WK4.out (a : Int) 0 _ len ci ys BI.out 0 (by rw [HN.out]; exact code_free alP_zero (by omega)) (by omega)).mono ?_
    rintro e w5 ⟨rfl, wk5, hg5⟩
    obtain ⟨b1, hb1⟩ : ∃ b, sPut (alP 0) bs ks (a : Int) ys = b := ⟨_, rfl⟩
    have HN1 := Lib.hid (show b1.length = 8192 from by rw [← hb1, sPut_length]; exact HN.out)
    have GP := Lib.hid (show sGet b1 (a : Int) (len : Int) = ys from by rw [← hb1]; exact get_put alP_zero HN.out HL1.out (by omega))
    rw [hb1] at wk5
    have W5 := Lib.hid wk5
    have R5 := Lib.hid (RI.out.grown hg5 OFF.out.2.1)
    have LV := Lib.hid (show ((ys ++ [170] : List Int).getD len 0 : Int) = (170 : Int) from by rw [← HL1.out]; simp [List.getD_eq_getElem?_getD])
    clear hb1 wk5 hg5 WK4 BI RI tk BW WK0 hgs
    go_wp2_with fail
    go_loopw [42] (fun x wr => ∃ i : Nat, i ≤ len + 1 ∧ x = .int .i64 i ∧ Wk 66 w.heap.size w wr F b1 ks ∧ ∃ vs, Ro wr gi ci vs ∧ vs.length = len + 1 ∧ vs.getD len 0 = if len < i then 85 else 170) (fun x _ => len + 1 - (intOf x).toNat)
    case atStart => exact ⟨0, by omega, rfl, W5.out, _, R5.out, LR.out, by rw [LV.out, if_neg (by omega)]⟩
    case round =>
      obtain ⟨i, hi, rfl, wk, vs, ro, hvl, hve⟩ := hrel
      have WK := Lib.hid wk
      have RO := Lib.hid ro
      have VL := Lib.hid hvl
      have VE := Lib.hid hve
      clear wk ro hvl hve W5 R5
      by_cases hin : i < len + 1
      · have hI : (i : Int) < ((len : Nat) : Int) + 1 := by omega
        have c1 := RO.out.cell (i := i) (by rw [VL.out]; exact hin)
        have f1 := RO.out.free i
        have rx := RO.out.rangeD i
        obtain ⟨x, hx⟩ : ∃ x, vs.getD i 0 = x := ⟨_, rfl⟩
        rw [hx] at c1 rx
        have HX := Lib.hid hx
        clear hx
        go_wp2_with fail
        exact ⟨⟨i + 1, by omega, by simp, WK.out.far (grown_setCell _ _ _ _) OFF.out, _, RO.out.set_ (xor_u8 x), by rw [List.length_set]; exact VL.out, own_last VL.out hin HX.out VE.out⟩, by simp [intOf]; omega⟩
      · have hI : ¬ ((i : Int) < ((len : Nat) : Int) + 1) := by omega
        have VE2 := Lib.hid (show (vs.getD len 0 : Int) = (85 : Int) from by rw [VE.out, if_pos (by omega)])
        have FE := Lib.hid (show sFet (alF 0) b1 ks (a : Int) (len : Int) = ys from by unfold sFet; rw [if_pos (by rw [HN1.out]; exact code_free alF_zero (by omega))]; exact GP.out)
        have CE := Lib.hid (show sCode (alF 0) b1.length ks (a : Int) (len : Int) = 0 from by rw [HN1.out]; exact code_free alF_zero (by omega))
        clear hi hin VE
        go_wp2_with fail
        go_loopw [9] (fun x wr => ∃ t : Nat, t ≤ 2 ∧ x = .int .i64 t ∧ Wk 66 w.heap.size w wr F b1 ks ∧ Ro wr gi ci vs) (fun x _ => 2 - (intOf x).toNat)
        case atStart => exact ⟨0, by omega, rfl, WK.out, RO.out⟩
        case round =>
          obtain ⟨t, ht, rfl, wk, ro⟩ := hrel
          have WT := Lib.hid wk
          have RT := Lib.hid ro
          clear wk ro WK RO
          by_cases ht2 : t < 2
          · have hT : (t : Int) < 2 := by omega
            go_wp2_with fail
            refine (fetch_c _ WT.out.st (a : Int) (len : Int) 0).mono ?_
            rintro e w6 ⟨A1, m1, c1, rfl, ho, hb⟩
            rw [FE.out] at ho
            rw [CE.out]
            have hm1 : m1 = len := by rw [← HL1.out]; exact ho.len.symm
            rw [hm1] at ho
            rw [hm1]
            have W6 := Lib.hid (WT.out.keep hb)
            have R6 := Lib.hid (RT.out.belowS hb)
            have O6 := Lib.hid ho
            have gl := RT.out.lt
            have wz := hb.size
            clear hm1 ho hb
            go_wp2_with fail
            refine (wk_bytes _ W6.out (a : Int) (len : Int) _ GP.out).mono ?_
            rintro e w7 ⟨A2, m2, c2, rfl, ho, wk7, hb7⟩
            have hm2 : m2 = len := by rw [← HL1.out]; exact ho.len.symm
            rw [hm2] at ho
            rw [hm2]
            have O7 := Lib.hid (O6.out.below hb7 (fun g hg => (O6.out.block g hg).2))
            have P7 := Lib.hid ho
            have W7 := Lib.hid wk7
            have R7 := Lib.hid (R6.out.belowS hb7)
            have s1 := conv_byt O7.out.byt c1
            have s2 := conv_byt ho.byt c2
            have s3 := conv_byt (HYS.out.keep wk7.bl) cap
            clear hm2 ho wk7 hb7
            go_wp2_with fail
            clear s1 s2 s3
            by_cases hL0 : len = 0
            · go_loopw [89] (fun x wr => ∃ i : Nat, i ≤ len ∧ x = .int .i64 i ∧ Wk 66 w.heap.size w wr F b1 ks ∧ Ro wr gi ci vs) (fun x _ => len - (intOf x).toNat)
              case atStart => exact ⟨0, by omega, rfl, W7.out, R7.out⟩
              case round =>
                obtain ⟨i, hi, rfl, wk, ro⟩ := hrel
                have W8 := Lib.hid wk
                have R8 := Lib.hid ro
                have hI : ¬ ((i : Int) < (len : Int)) := by omega
                clear wk ro hL0 hi
                go_wp2_with fail
                exact ⟨⟨t + 1, by omega, by simp, W8.out, R8.out⟩, by simp [intOf]; omega⟩
            · obtain ⟨g1, c1', e1, hg1, _⟩ := O6.out.pos (by omega)
              injection e1 with e1 _ e2
              subst e1 e2
              obtain ⟨g2, c2', e1, hg2, _⟩ := P7.out.pos (by omega)
              injection e1 with e1 _ e2
              subst e1 e2
              have g16 := (O6.out.block g1 rfl).2
              have OX := Lib.hid (WT.out.off hg1)
              have OY := Lib.hid (WT.out.off (b := g2) (by omega))
              have NE := Lib.hid (show gi ≠ g1 ∧ gi ≠ g2 ∧ g1 ≠ g2 ∧ g2 ≠ g1 by omega)
              clear hg1 hg2 g16
              go_loopw [89] (fun x wr => ∃ i : Nat, i ≤ len ∧ x = .int .i64 i ∧ Wk 66 w.heap.size w wr F b1 ks ∧ Ro wr gi ci vs ∧ ∃ xs ys', Ro wr g1 c1 xs ∧ xs.length = len ∧ Ro wr g2 c2 ys' ∧ ys'.length = len) (fun x _ => len - (intOf x).toNat)
              case atStart => exact ⟨0, by omega, rfl, W7.out, R7.out, _, _, Own.ro O7.out, HL1.out, Own.ro P7.out, HL1.out⟩
              case round =>
                obtain ⟨i, hi, rfl, wk, ro, xs, ys', rx, hxl, ry, hyl⟩ := hrel
                have W8 := Lib.hid wk
                have R8 := Lib.hid ro
                have RX := Lib.hid rx
                have RY := Lib.hid ry
                have XL := Lib.hid hxl
                have YL := Lib.hid hyl
                clear wk ro rx ry hxl hyl hL0
                by_cases hin : i < len
                · have hI : (i : Int) < (len : Int) := by omega
                  have d1 := RX.out.cell (i := i) (by rw [XL.out]; exact hin)
                  have d2 := RX.out.free i
                  have RY2 := RY.out.grown (grown_setCell _ g1 i (.int .u8 85)) NE.out.2.2.2
                  have d3 := RY2.cell (i := i) (by rw [YL.out]; exact hin)
                  have d4 := RY2.free i
                  have RYH := Lib.hid RY2
                  clear RY2 hi
                  go_wp2_with fail
                  exact ⟨⟨i + 1, by omega, by simp, (W8.out.far (grown_setCell _ _ _ _) OX.out).far (grown_setCell _ _ _ _) OY.out, (R8.out.grown (grown_setCell _ _ _ _) NE.out.1).grown (grown_setCell _ _ _ _) NE.out.2.1, _, _, (RX.out.set_ (by decide)).grown (grown_setCell _ _ _ _) NE.out.2.2.1, by rw [List.length_set]; exact XL.out, RYH.out.set_ (by decide), by rw [List.length_set]; exact YL.out⟩, by simp [intOf]; omega⟩
                · have hI : ¬ ((i : Int) < (len : Int)) := by omega
                  clear hi hin
                  go_wp2_with fail
                  exact ⟨⟨t + 1, by omega, by simp, W8.out, R8.out⟩, by simp [intOf]; omega⟩
          · have hT : ¬ ((t : Int) < 2) := by omega
            clear ht ht2
            go_wp2_with fail
            refine (wk_putT _ WT.out (a : Int) 0 _ len ci (vs.take len) ((RT.out.byt (len + 1) VL.out).pre len (by omega)) (by omega)).mono ?_
            rintro e w8 ⟨c, b2, rfl, wk8, hg8, _, _, _⟩
            have d1 := (RT.out.grown hg8 OFF.out.2.1).cell (i := len) (by rw [VL.out]; omega)
            rw [VE2.out] at d1
            have WE := Lib.hid wk8.bl
            clear wk8 hg8
            go_wp2_with fail
            go_ret
            exact ⟨rfl, WE.out⟩
end Go.Proofs.Ytcollddpfahaaaa
