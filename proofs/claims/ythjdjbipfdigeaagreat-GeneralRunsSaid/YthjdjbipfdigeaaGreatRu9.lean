/- Contracts and laws on the way to the statement, text 9 of 24. Conditions: as each states them. -/
import Derived.Test.YthjdjbipfdigeaaGreatRu1
import Derived.Test.YthjdjbipfdigeaaGreatRu2
import Derived.Test.YthjdjbipfdigeaaGreatRu3
import Derived.Test.YthjdjbipfdigeaaGreatRu4
import Derived.Test.YthjdjbipfdigeaaGreatRu7
import Derived.Test.YthjdjbipfdigeaaGreatRu8
import Derived.Deep.RegionHeld3
import Derived.BigRegion
import Derived.IntWalk
namespace Go.Proofs.YthjdjbipfdigeaaGreat
open Go.RowKit
set_option maxRecDepth 100000
set_option linter.unusedVariables false
set_option linter.unusedSimpArgs false
/-- TR, byte by byte -/
def trS (bs xs : List Int) (a b : Int) : Nat → List Int
  | 0 => xs
  | k + 1 => (trS bs xs a b k).set k (if a ≤ b + xs.getD k 0 ∧ b + xs.getD k 0 < a + (k : Int) then (trS bs xs a b k).getD (b + xs.getD k 0 - a).toNat 0 else (sGet bs (b + xs.getD k 0) 1).getD 0 0)
def trE (bs ks xs : List Int) (key b : Int) : Nat → Int
  | 0 => 0
  | k + 1 => if trE bs ks xs key b k = 0 then sCode (alF key) bs.length ks (b + xs.getD k 0) 1 else trE bs ks xs key b k
theorem trS_len (bs xs : List Int) (a b : Int) : ∀ k, (trS bs xs a b k).length = xs.length
  | 0 => rfl
  | k + 1 => by simp only [trS, List.length_set, trS_len bs xs a b k]
theorem trS_far (bs xs : List Int) (a b : Int) : ∀ k j, k ≤ j → (trS bs xs a b k).getD j 0 = xs.getD j 0
  | 0, _, _ => rfl
  | k + 1, j, h => by simp only [trS]; rw [getD_set_other _ _ _ _ (by omega)]; exact trS_far bs xs a b k j (by omega)
theorem trE_stay (bs ks xs : List Int) (key b : Int) {k : Nat} (h : trE bs ks xs key b k ≠ 0) : ∀ j, trE bs ks xs key b (k + j) = trE bs ks xs key b k
  | 0 => rfl
  | j + 1 => by
    have hj := trE_stay bs ks xs key b h j
    rw [show k + (j + 1) = (k + j) + 1 by omega]
    simp only [trE]
    rw [if_neg (by rw [hj]; exact h), hj]
set_option maxRecDepth 1000000 in
set_option maxHeartbeats 8000000 in
theorem tr_no (g N : Nat) (F : Foot) (is os rs : List Int) (ps : List Value) (ov : Bool) (bs ks : List Int) (key a b : Int) (w : World) (h : MS w g F is os rs ps ov bs ks) (hl : is.getD 9 0 + 1 = (N : Int)) (hN : N ≤ 256) (hkey : ps.getD 1 undef = .int .i64 key) (hfir : ∀ W, MS W g F is os rs ps ov bs ks → Calls Tryz.prog 111 #[.pointer (some ⟨g, 0, none⟩)] W fun e w' => e = .returned (.int .i64 a) ∧ Ch W w' []) (hsec : ∀ W, MS W g F is os rs ps ov bs ks → Calls Tryz.prog 44 #[.pointer (some ⟨g, 0, none⟩)] W fun e w' => e = .returned (.int .i64 b) ∧ Ch W w' []) (ha0 : 0 ≤ a) (ha1 : a ≤ 16777215) (hb0 : 0 ≤ b) (hb1 : b ≤ 16777215) (c : Int) (hc : sCode (alF key) bs.length ks a N = c) (hc0 : c ≠ 0) : Calls Tryz.prog 122 #[.pointer (some ⟨g, 0, none⟩)] w fun e w' => e = .panicked [{ v := .iface 59 (.int .i64 c), recovered := false }] ∧ MS w' g F is os rs ps ov bs ks ∧ Ch w w' [] := by
  have H9 := Lib.hid h
  have s9 : w.cell? ⟨g, 9, none⟩ = some (.int .i64 (is.getD 9 0)) := h.m.ci (c := 9) (by omega)
  obtain ⟨l1, hl1⟩ : ∃ l, is.getD 9 0 = l := ⟨_, rfl⟩
  rw [hl1] at hl s9
  have HM := Lib.hid h
  have HL := Lib.hid hl1
  have HK := Lib.hid hkey
  have FC := Lib.hid hfir
  have SC := Lib.hid hsec
  have D0 := Lib.hid (Ch.refl w ([] : List Nat))
  have wl : IntKind.i64.wrap (l1 + 1) = (N : Int) := by rw [wrap_i64_id (by omega) (by omega)]; exact hl
  have HC := Lib.hid hc
  have HC0 := Lib.hid hc0
  clear h hkey hfir hsec hl1 hc hc0 s9
  go_enter Tryz.func122, Tryz.ntmps122
  go_wp2_with (go_at_call 111; refine (FC.out _ HM.out).mono ?_; rintro e w1 ⟨rfl, hcs⟩; have M1 := Lib.hid (HM.out.ch hcs); have C1 := Lib.hid (D0.out.trans hcs); clear hcs)
  refine (SC.out _ M1.out).mono ?_
  rintro e w2 ⟨rfl, hcs⟩
  have M2 := Lib.hid (M1.out.ch hcs)
  have C2 := Lib.hid (C1.out.trans hcs)
  have t9 : w2.cell? ⟨g, 9, none⟩ = some (.int .i64 l1) := by have hq := M2.out.m.ci (c := 9) (by omega); rw [HL.out] at hq; exact hq
  clear hcs
  go_wp2_with (go_at_call 108; refine (fetch_no g F is os rs ps ov bs ks a (N : Int) key _ M2.out HK.out c HC.out HC0.out).mono ?_; rintro e w9 ⟨rfl, hM, hCh⟩; have M9 := Lib.hid hM; have C9 := Lib.hid (C2.out.trans hCh); clear hM hCh)
  exact ⟨rfl, rfl, M9.out, C9.out⟩
set_option maxRecDepth 1000000 in
set_option maxHeartbeats 8000000 in
theorem tr_m (g N : Nat) (F : Foot) (is os rs : List Int) (ps : List Value) (ov : Bool) (bs ks : List Int) (key a b : Int) (w : World) (h : MS w g F is os rs ps ov bs ks) (hl : is.getD 9 0 + 1 = (N : Int)) (hN : N ≤ 256) (hkey : ps.getD 1 undef = .int .i64 key) (hfir : ∀ W, MS W g F is os rs ps ov bs ks → Calls Tryz.prog 111 #[.pointer (some ⟨g, 0, none⟩)] W fun e w' => e = .returned (.int .i64 a) ∧ Ch W w' []) (hsec : ∀ W, MS W g F is os rs ps ov bs ks → Calls Tryz.prog 44 #[.pointer (some ⟨g, 0, none⟩)] W fun e w' => e = .returned (.int .i64 b) ∧ Ch W w' []) (ha0 : 0 ≤ a) (ha1 : a ≤ 16777215) (hb0 : 0 ≤ b) (hb1 : b ≤ 16777215) (hN1 : 1 ≤ N) (hf1 : sCode (alF key) bs.length ks a N = 0) (c : Int) (hc : (if trE bs ks (sGet bs a N) key b N = 0 then sCode (alP key) bs.length ks a N else trE bs ks (sGet bs a N) key b N) = c) : Calls Tryz.prog 122 #[.pointer (some ⟨g, 0, none⟩)] w fun e w' => (c = 0 → e = .returned (.tuple #[]) ∧ MS w' g F is os rs ps ov (sPut (alP key) bs ks a (trS bs (sGet bs a N) a b N)) ks) ∧ (c ≠ 0 → e = .panicked [{ v := .iface 59 (.int .i64 c), recovered := false }] ∧ MS w' g F is os rs ps ov bs ks) ∧ Ch w w' [g, F.gb] := by
  have s9 : w.cell? ⟨g, 9, none⟩ = some (.int .i64 (is.getD 9 0)) := h.m.ci (c := 9) (by omega)
  obtain ⟨l1, hl1⟩ : ∃ l, is.getD 9 0 = l := ⟨_, rfl⟩
  rw [hl1] at hl s9
  have HM := Lib.hid h
  have HL := Lib.hid hl1
  have HK := Lib.hid hkey
  have FC := Lib.hid hfir
  have SC := Lib.hid hsec
  have D0 := Lib.hid (Ch.refl w ([] : List Nat))
  have wl : IntKind.i64.wrap (l1 + 1) = (N : Int) := by rw [wrap_i64_id (by omega) (by omega)]; exact hl
  have HF1 := Lib.hid hf1
  have lx := sGet_leng hf1
  obtain ⟨xs, hxs⟩ : ∃ x, sGet bs a N = x := ⟨_, rfl⟩
  rw [hxs] at lx hc ⊢
  have HXS := Lib.hid hxs
  have HC := Lib.hid hc
  obtain ⟨R, hR⟩ : ∃ R : Ending → World → Prop, R = fun e w' => (c = 0 → e = .returned (.tuple #[]) ∧ MS w' g F is os rs ps ov (sPut (alP key) bs ks a (trS bs xs a b N)) ks) ∧ (c ≠ 0 → e = .panicked [{ v := .iface 59 (.int .i64 c), recovered := false }] ∧ MS w' g F is os rs ps ov bs ks) ∧ Ch w w' [g, F.gb] := ⟨_, rfl⟩
  suffices hs : Calls Tryz.prog 122 #[.pointer (some ⟨g, 0, none⟩)] w R by rw [hR] at hs; exact hs
  have HR := Lib.hid hR
  clear h hkey hfir hsec hl1 hf1 hxs hc hR s9
  go_enter Tryz.func122, Tryz.ntmps122
  go_wp2_with (go_at_call 111; refine (FC.out _ HM.out).mono ?_; rintro e w1 ⟨rfl, hcs⟩; have M1 := Lib.hid (HM.out.ch hcs); have C1 := Lib.hid (D0.out.trans hcs); clear hcs)
  refine (SC.out _ M1.out).mono ?_
  rintro e w2 ⟨rfl, hcs⟩
  have M2 := Lib.hid (M1.out.ch hcs)
  have C2 := Lib.hid (C1.out.trans hcs)
  have t9 : w2.cell? ⟨g, 9, none⟩ = some (.int .i64 l1) := by have hq := M2.out.m.ci (c := 9) (by omega); rw [HL.out] at hq; exact hq
  clear hcs
  go_wp2_with fail
  refine (fetch_m g F is os rs ps ov bs ks a (N : Int) key _ M2.out HK.out HF1.out).mono ?_
  rintro e w3 ⟨A3, m3, c3, rfl, hO, hM, hCh⟩
  rw [HXS.out] at hO
  have M3 := Lib.hid hM
  have C3 := Lib.hid (C2.out.trans hCh)
  have hm3 : m3 = N := by have := hO.byt.1; omega
  subst hm3
  obtain ⟨gx, cx, hv, hgx, hlx, -, -⟩ := hO.pos (by omega)
  injection hv with hv1 hv2 hv3
  subst hv1 hv3
  have RX3 := Lib.hid hO.ro
  have hgm : g ≠ gx ∧ w.heap.size ≤ gx := by
    have h1 := M2.out.m.lt
    have h4 := C2.out.size
    omega
  have HGX : Hid (gx ≠ F.g ∧ gx ≠ F.gb ∧ gx ≠ F.gk) := Lib.hid (by have := M2.out.st.ltg; have := M2.out.st.ltb; have := M2.out.st.ltk; omega)
  obtain ⟨hg1, hg4⟩ := hgm
  have G1 := Lib.hid hg1
  clear hO hM hCh hgx hlx hg1 M1 M2 C1 C2 HM D0 t9
  go_upto_region 3 with fail
  go_loopw [24] (fun x W => ∃ k : Nat, k ≤ m3 ∧ x = .int .i64 (k : Int) ∧ trE bs ks xs key b k = 0 ∧ MS W g F is os rs ps ov bs ks ∧ Ro W gx c3 (trS bs xs a b k) ∧ Below w.heap.size w W) (fun x _ => m3 - (intOf x).toNat)
  case atStart => exact ⟨0, by omega, rfl, rfl, M3.out, RX3.out, C3.out.below (Nat.le_refl _) (by simp)⟩
  case round =>
    obtain ⟨k, hk, rfl, het, hmw, hrx, hbw⟩ := hrel
    have MW := Lib.hid hmw
    have RX := Lib.hid hrx
    have BW := Lib.hid hbw
    have hxl : (trS bs xs a b k).length = m3 := by rw [trS_len]; omega
    have HET := Lib.hid het
    clear hmw hrx hbw het
    by_cases hlt : k < m3
    · have i0 : (k : Int) < (m3 : Int) := by omega
      have i1 : (0 : Int) ≤ (k : Int) := by omega
      obtain ⟨x, hx⟩ : ∃ x, xs.getD k 0 = x := ⟨_, rfl⟩
      have x01 := RX.out.rangeD k
      have cxk := RX.out.cell (i := k) (by omega)
      rw [trS_far bs xs a b k k (by omega), hx] at cxk x01
      obtain ⟨x0, x1⟩ := x01
      obtain ⟨t, ht⟩ : ∃ t, b + x = t := ⟨_, rfl⟩
      have wx : IntKind.i64.wrap x = x := wrap_i64_id (by omega) (by omega)
      have wt : IntKind.i64.wrap (b + x) = t := by rw [wrap_i64_id (by omega) (by omega)]; exact ht
      have wk : IntKind.i64.wrap (a + (k : Int)) = a + (k : Int) := wrap_i64_id (by omega) (by omega)
      have t0 : 0 ≤ t := by omega
      have t1 : t ≤ 16777470 := by omega
      have fxk := RX.out.free k
      have EE := Lib.hid (show trE bs ks xs key b (k + 1) = sCode (alF key) bs.length ks t 1 from by simp only [trE]; rw [if_pos HET.out, hx, ht])
      have SS := Lib.hid (show trS bs xs a b (k + 1) = (trS bs xs a b k).set k (if a ≤ t ∧ t < a + (k : Int) then (trS bs xs a b k).getD (t - a).toNat 0 else (sGet bs t 1).getD 0 0) from by simp only [trS, hx, ht])
      clear hx
      by_cases hsc : sCode (alF key) bs.length ks t 1 = 0
      · have HSC := Lib.hid hsc
        have E0 := Lib.hid (EE.out.trans hsc)
        have hl1 := sGet_leng hsc
        obtain ⟨zs, hzs⟩ : ∃ zs, sGet bs t 1 = zs := ⟨_, rfl⟩
        rw [hzs] at hl1
        obtain ⟨y, hy⟩ : ∃ y, zs.getD 0 0 = y := ⟨_, rfl⟩
        have HZ := Lib.hid hzs
        have HY := Lib.hid hy
        have HL1 := Lib.hid hl1
        clear hsc hzs hy hl1
        have FET := Lib.hid (fun (W : World) (hM : MS W g F is os rs ps ov bs ks) => fetch_m g F is os rs ps ov bs ks t 1 key W hM HK.out HSC.out)
        by_cases hin : a ≤ t ∧ t < a + (k : Int)
        · obtain ⟨j, hj⟩ : ∃ j, (t - a).toNat = j := ⟨_, rfl⟩
          have e1 : t ≥ a := hin.1
          have e2 : t < a + (k : Int) := hin.2
          have hj2 : t - a = (j : Int) := by omega
          have wj : IntKind.i64.wrap (t - a) = (j : Int) := by rw [wrap_i64_id (by omega) (by omega)]; exact hj2
          have j0 : (j : Int) < (m3 : Int) := by omega
          have j1 : (0 : Int) ≤ (j : Int) := by omega
          obtain ⟨v, hv⟩ : ∃ v, (trS bs xs a b k).getD j 0 = v := ⟨_, rfl⟩
          have V01 := Lib.hid (RX.out.rangeD j)
          rw [hv] at V01
          have S1 := Lib.hid (show trS bs xs a b (k + 1) = (trS bs xs a b k).set k v from by rw [SS.out, if_pos hin, hj, hv])
          have HV := Lib.hid hv
          clear hin hj hj2 hv
          go_wp2_with (go_at_call 108; refine (FET.out _ MW.out).mono ?_; rintro e wb ⟨A, mm, cb, rfl, hO, hM, hCh⟩; rw [HZ.out] at hO; have M2 := Lib.hid hM; have RX2 := Lib.hid (RX.out.belowS (hCh.below (Nat.le_refl _) (by simp))); have B2 := Lib.hid (BW.out.trans (hCh.below BW.out.size (by simp))); have hml : mm = 1 := (by have := hO.byt.1; have := HL1.out; omega); subst hml; obtain ⟨gb, cb', hv, hgb, hgl, -, -⟩ := hO.pos (by omega); injection hv with hv1 hv2 hv3; subst hv1 hv3; have Y01 := Lib.hid (hO.byt.range 0); rw [HY.out] at Y01; obtain ⟨gb', ob', e', hcell⟩ := hO.byt.at_ (by omega); cases e'; have yc' := hcell 0 (by omega); rw [HY.out] at yc'; have yc : wb.cell? ⟨gb, 0, none⟩ = some (.int .u8 y) := (by exact yc'); have dxk := RX2.out.cell (i := k) (by omega); have gxk := RX2.out.free k; have dxj := RX2.out.cell (i := j) (by omega); rw [HV.out] at dxj; clear hO hM hCh hgb hgl hcell yc')
          have M6 := Lib.hid (M2.out.othr (p := ⟨gx, k, none⟩) (.int .u8 v) G1.out HGX.out)
          have RX6 := Lib.hid (RX2.out.set_ (i := k) V01.out)
          have B6 := Lib.hid (B2.out.setCell (p := ⟨gx, k, none⟩) hg4 (.int .u8 v))
          rw [← S1.out] at RX6
          exact ⟨⟨k + 1, by omega, rfl, E0.out, M6.out, RX6.out, B6.out⟩, by simp [intOf]; omega⟩
        · have S1 := Lib.hid (show trS bs xs a b (k + 1) = (trS bs xs a b k).set k y from by rw [SS.out, if_neg hin, HZ.out, HY.out])
          by_cases hge : t ≥ a
          · have e2 : ¬ t < a + (k : Int) := by omega
            clear hin
            go_wp2_with (go_at_call 108; refine (FET.out _ MW.out).mono ?_; rintro e wb ⟨A, mm, cb, rfl, hO, hM, hCh⟩; rw [HZ.out] at hO; have M2 := Lib.hid hM; have RX2 := Lib.hid (RX.out.belowS (hCh.below (Nat.le_refl _) (by simp))); have B2 := Lib.hid (BW.out.trans (hCh.below BW.out.size (by simp))); have hml : mm = 1 := (by have := hO.byt.1; have := HL1.out; omega); subst hml; obtain ⟨gb, cb', hv, hgb, hgl, -, -⟩ := hO.pos (by omega); injection hv with hv1 hv2 hv3; subst hv1 hv3; have Y01 := Lib.hid (hO.byt.range 0); rw [HY.out] at Y01; obtain ⟨gb', ob', e', hcell⟩ := hO.byt.at_ (by omega); cases e'; have yc' := hcell 0 (by omega); rw [HY.out] at yc'; have yc : wb.cell? ⟨gb, 0, none⟩ = some (.int .u8 y) := (by exact yc'); have dxk := RX2.out.cell (i := k) (by omega); have gxk := RX2.out.free k; clear hO hM hCh hgb hgl hcell yc')
            have M6 := Lib.hid (M2.out.othr (p := ⟨gx, k, none⟩) (.int .u8 y) G1.out HGX.out)
            have RX6 := Lib.hid (RX2.out.set_ (i := k) Y01.out)
            have B6 := Lib.hid (B2.out.setCell (p := ⟨gx, k, none⟩) hg4 (.int .u8 y))
            rw [← S1.out] at RX6
            exact ⟨⟨k + 1, by omega, rfl, E0.out, M6.out, RX6.out, B6.out⟩, by simp [intOf]; omega⟩
          · clear hin
            go_wp2_with (go_at_call 108; refine (FET.out _ MW.out).mono ?_; rintro e wb ⟨A, mm, cb, rfl, hO, hM, hCh⟩; rw [HZ.out] at hO; have M2 := Lib.hid hM; have RX2 := Lib.hid (RX.out.belowS (hCh.below (Nat.le_refl _) (by simp))); have B2 := Lib.hid (BW.out.trans (hCh.below BW.out.size (by simp))); have hml : mm = 1 := (by have := hO.byt.1; have := HL1.out; omega); subst hml; obtain ⟨gb, cb', hv, hgb, hgl, -, -⟩ := hO.pos (by omega); injection hv with hv1 hv2 hv3; subst hv1 hv3; have Y01 := Lib.hid (hO.byt.range 0); rw [HY.out] at Y01; obtain ⟨gb', ob', e', hcell⟩ := hO.byt.at_ (by omega); cases e'; have yc' := hcell 0 (by omega); rw [HY.out] at yc'; have yc : wb.cell? ⟨gb, 0, none⟩ = some (.int .u8 y) := (by exact yc'); have dxk := RX2.out.cell (i := k) (by omega); have gxk := RX2.out.free k; clear hO hM hCh hgb hgl hcell yc')
            have M6 := Lib.hid (M2.out.othr (p := ⟨gx, k, none⟩) (.int .u8 y) G1.out HGX.out)
            have RX6 := Lib.hid (RX2.out.set_ (i := k) Y01.out)
            have B6 := Lib.hid (B2.out.setCell (p := ⟨gx, k, none⟩) hg4 (.int .u8 y))
            rw [← S1.out] at RX6
            exact ⟨⟨k + 1, by omega, rfl, E0.out, M6.out, RX6.out, B6.out⟩, by simp [intOf]; omega⟩
      · have HSC := Lib.hid hsc
        have hcc : trE bs ks xs key b m3 = sCode (alF key) bs.length ks t 1 := by
          have := trE_stay bs ks xs key b (k := k + 1) (by rw [EE.out]; exact hsc) (m3 - (k + 1))
          rw [show k + 1 + (m3 - (k + 1)) = m3 by omega, EE.out] at this
          exact this
        have hc := HC.out
        rw [hcc, if_neg hsc] at hc
        have HC2 := Lib.hid hc
        have HC0 := Lib.hid (show c ≠ 0 from by rw [← hc]; exact hsc)
        clear hsc hcc hc
        go_wp2_with (go_at_call 108; refine (fetch_no g F is os rs ps ov bs ks t 1 key _ MW.out HK.out c HC2.out HC0.out).mono ?_; rintro e w9 ⟨rfl, hM, hCh⟩; have M9 := Lib.hid hM; have B9 := Lib.hid (BW.out.trans (hCh.below BW.out.size (by simp))); clear hM hCh)
        refine ⟨rfl, ?_⟩
        rw [HR.out]
        exact ⟨fun h => absurd h HC0.out, fun _ => ⟨rfl, M9.out⟩, chB B9.out⟩
    · obtain rfl : k = m3 := by omega
      have hI : ¬ (k : Int) < (k : Int) := by omega
      have YB := Lib.hid (RX.out.byt k hxl)
      have hc := HC.out
      rw [if_pos HET.out] at hc
      by_cases hc0 : c = 0
      · have HC' := Lib.hid (hc.trans hc0)
        have HC0 := Lib.hid hc0
        clear hc0 hc
        go_wp2_with (go_at_call 105; refine (put_m g F is os rs ps ov bs ks a key _ _ _ (trS bs xs a b k) _ MW.out HK.out YB.out (by omega) HC'.out).mono ?_; rintro e w5 ⟨rfl, hM5, hC5⟩; have M5 := Lib.hid hM5; have C5 := Lib.hid ((show Ch w wr [g, F.gb] from chB BW.out).trans (hC5.mono (by simp))); clear hM5 hC5)
        first | go_end0 | refine bodyPost_ret (results_none rfl _ _ _) rfl ?_
        rw [HR.out]
        exact ⟨fun _ => ⟨rfl, M5.out⟩, fun h => absurd HC0.out h, C5.out⟩
      · have HC0 := Lib.hid hc0
        have HC2 := Lib.hid hc
        clear hc0 hc
        go_wp2_with (go_at_call 105; refine (put_no g F is os rs ps ov bs ks a key _ _ _ (trS bs xs a b k) _ MW.out HK.out YB.out (by omega) c HC2.out HC0.out).mono ?_; rintro e w5 ⟨rfl, hM5, hC5⟩; have M5 := Lib.hid hM5; have C5 := Lib.hid ((show Ch w wr [g, F.gb] from chB BW.out).trans (hC5.mono (by simp))); clear hM5 hC5)
        refine ⟨rfl, ?_⟩
        rw [HR.out]
        exact ⟨fun h => absurd h HC0.out, fun _ => ⟨rfl, M5.out⟩, C5.out⟩
end Go.Proofs.YthjdjbipfdigeaaGreat

namespace Go.Proofs.YthjdjbipfdigeaaGreat
open Go.RowKit
set_option maxRecDepth 100000
set_option linter.unusedVariables false
set_option linter.unusedSimpArgs false
theorem u32_hi24 (a : Int) (h0 : 0 ≤ a) (h1 : a ≤ 4294967295) : bits .andNot .u32 a 16777215 = a / 16777216 * 16777216 := by
  rw [u32_andNot a 16777215 h0 (by omega) (by omega) (by omega)]
  have : a.toNat &&& (4294967295 - (16777215 : Int).toNat) = a.toNat / 16777216 * 16777216 := by
    have e : 4294967295 - (16777215 : Int).toNat = (2 ^ 8 - 1) <<< 24 := by decide
    have e2 : a.toNat / 16777216 * 16777216 = (a.toNat >>> 24) <<< 24 := by rw [Nat.shiftRight_eq_div_pow, Nat.shiftLeft_eq]
    rw [e, e2]
    apply Nat.eq_of_testBit_eq
    intro j
    rw [Nat.testBit_and, Nat.testBit_shiftLeft, Nat.testBit_shiftLeft, Nat.testBit_two_pow_sub_one, Nat.testBit_shiftRight]
    by_cases hj : 24 ≤ j
    · rw [show 24 + (j - 24) = j by omega]
      by_cases hj2 : j - 24 < 8
      · simp [hj, hj2]
      · have : a.toNat.testBit j = false := Nat.testBit_lt_two_pow (Nat.lt_of_lt_of_le (show a.toNat < 2 ^ 32 by omega) (Nat.pow_le_pow_right (by omega) (by omega)))
        simp [this]
    · simp [hj]
  rw [this]
  omega
theorem sGet_in {bs : List Int} (a n : Int) (h : ∀ z ∈ bs, 0 ≤ z ∧ z ≤ 255) (k : Nat) : 0 ≤ (sGet bs a n).getD k 0 ∧ (sGet bs a n).getD k 0 ≤ 255 := by
  have hs : ∀ z ∈ sGet bs a n, z ∈ bs := by
    intro z hz
    unfold sGet at hz
    split at hz
    · exact List.mem_of_mem_drop (List.mem_of_mem_take hz)
    · simp at hz
  rw [List.getD_eq_getElem?_getD]
  rcases Nat.lt_or_ge k (sGet bs a n).length with hk | hk
  · rw [List.getElem?_eq_getElem hk]
    exact h _ (hs _ (List.getElem_mem hk))
  · rw [List.getElem?_eq_none hk]; simp
/-- TRT from byte k on: the code that is thrown, or what was found -/
def scn (bs ks : List Int) (key a b : Int) : Nat → Nat → Int × Option (Nat × Int)
  | 0, _ => (0, none)
  | m + 1, k => if sCode (alF key) bs.length ks (a + (k : Int)) 1 = 0 then
      (if sCode (alF key) bs.length ks (b + (sGet bs (a + (k : Int)) 1).getD 0 0) 1 = 0 then
        (if (sGet bs (b + (sGet bs (a + (k : Int)) 1).getD 0 0) 1).getD 0 0 = 0 then scn bs ks key a b m (k + 1) else (0, some (k, (sGet bs (b + (sGet bs (a + (k : Int)) 1).getD 0 0) 1).getD 0 0)))
        else (sCode (alF key) bs.length ks (b + (sGet bs (a + (k : Int)) 1).getD 0 0) 1, none))
      else (sCode (alF key) bs.length ks (a + (k : Int)) 1, none)
def scnR (os rs : List Int) (a : Int) : Option (Nat × Int) → List Int
  | none => rs
  | some (k, f) => (rs.set 1 (os.getD 1 0 / 16777216 * 16777216 + (a + (k : Int)))).set 2 (os.getD 2 0 / 256 * 256 + f)
def scnQ (N : Nat) : Option (Nat × Int) → Int
  | none => 0
  | some (k, _) => if k + 1 = N then 2 else 1
theorem set7_key {ps : List Value} {v : Value} : (ps.set 7 v).getD 1 undef = ps.getD 1 undef := by simp [List.getD_eq_getElem?_getD, List.getElem?_set]
set_option maxRecDepth 1000000 in
set_option maxHeartbeats 8000000 in
theorem trt_m (g N : Nat) (F : Foot) (is os rs : List Int) (ps : List Value) (ov : Bool) (bs ks : List Int) (key a b : Int) (w : World) (h : MS w g F is os rs ps ov bs ks) (hl : is.getD 9 0 + 1 = (N : Int)) (hN : N ≤ 256) (hkey : ps.getD 1 undef = .int .i64 key) (hfir : ∀ W, MS W g F is os rs ps ov bs ks → Calls Tryz.prog 111 #[.pointer (some ⟨g, 0, none⟩)] W fun e w' => e = .returned (.int .i64 a) ∧ Ch W w' []) (hsec : ∀ W, MS W g F is os rs ps ov bs ks → Calls Tryz.prog 44 #[.pointer (some ⟨g, 0, none⟩)] W fun e w' => e = .returned (.int .i64 b) ∧ Ch W w' []) (ha0 : 0 ≤ a) (ha1 : a ≤ 16777215) (hb0 : 0 ≤ b) (hb1 : b ≤ 16777215) (hN1 : 1 ≤ N) (hbs : bs.length ≤ 16777216) (ro : ∀ z ∈ os, 0 ≤ z ∧ z ≤ 4294967295) (hrange : ∀ z ∈ bs, 0 ≤ z ∧ z ≤ 255) (c : Int) (o : Option (Nat × Int)) (hc : scn bs ks key a b N 0 = (c, o)) : Calls Tryz.prog 123 #[.pointer (some ⟨g, 0, none⟩)] w fun e w' => (c = 0 → e = .returned (.tuple #[]) ∧ MS w' g F is os (scnR os rs a o) (ps.set 7 (.int .i64 (scnQ N o))) ov bs ks) ∧ (c ≠ 0 → e = .panicked [{ v := .iface 59 (.int .i64 c), recovered := false }] ∧ MS w' g F is os rs (ps.set 7 (.int .i64 0)) ov bs ks) ∧ Ch w w' [g] := by
  obtain ⟨l1, hl1⟩ : ∃ l, is.getD 9 0 = l := ⟨_, rfl⟩
  rw [hl1] at hl
  have HM := Lib.hid h
  have HL := Lib.hid hl1
  have HK := Lib.hid (show (ps.set 7 (.int .i64 0)).getD 1 undef = .int .i64 key from by rw [set7_key]; exact hkey)
  have FC := Lib.hid hfir
  have SC := Lib.hid hsec
  have D0 := Lib.hid (Ch.refl w ([] : List Nat))
  have HC := Lib.hid hc
  have HBS := Lib.hid hbs
  have HRG := Lib.hid hrange
  have rv1 := getD_in ro 1
  have rv2 := getD_in ro 2
  obtain ⟨v1, hv1⟩ : ∃ v, os.getD 1 0 = v := ⟨_, rfl⟩
  obtain ⟨v2, hv2⟩ : ∃ v, os.getD 2 0 = v := ⟨_, rfl⟩
  rw [hv1] at rv1
  rw [hv2] at rv2
  have HV1 := Lib.hid hv1
  have HV2 := Lib.hid hv2
  have an1 := u32_hi24 v1 rv1.1 rv1.2
  have an2 := u32_hi8 v2 rv2.1 rv2.2
  obtain ⟨R, hR⟩ : ∃ R : Ending → World → Prop, R = fun e w' => (c = 0 → e = .returned (.tuple #[]) ∧ MS w' g F is os (scnR os rs a o) (ps.set 7 (.int .i64 (scnQ N o))) ov bs ks) ∧ (c ≠ 0 → e = .panicked [{ v := .iface 59 (.int .i64 c), recovered := false }] ∧ MS w' g F is os rs (ps.set 7 (.int .i64 0)) ov bs ks) ∧ Ch w w' [g] := ⟨_, rfl⟩
  suffices hs : Calls Tryz.prog 123 #[.pointer (some ⟨g, 0, none⟩)] w R by rw [hR] at hs; exact hs
  have HR := Lib.hid hR
  clear h hkey hfir hsec hl1 hc hR ro hbs hrange hv1 hv2
  go_enter Tryz.func123, Tryz.ntmps123
  go_wp2_with (go_at_call 111; refine (FC.out _ HM.out).mono ?_; rintro e w1 ⟨rfl, hcs⟩; have M1 := Lib.hid (HM.out.ch hcs); have C1 := Lib.hid (D0.out.trans hcs); clear hcs)
  refine (SC.out _ M1.out).mono ?_
  rintro e w2 ⟨rfl, hcs⟩
  have M2 := Lib.hid (M1.out.ch hcs)
  have C2 := Lib.hid (C1.out.trans hcs)
  have c7 := M2.out.m.cp (n := 7) (by omega)
  have f7 := M2.out.m.free 51
  clear hcs
  go_upto_region 3 with fail
  have M5 := Lib.hid (M2.out.setp (n := 7) (by omega) (.int .i64 0))
  have C5 := Lib.hid (show Ch w (w2.setCell ⟨g, 51, none⟩ (.int .i64 0)) [g] from (C2.out.mono (by simp)).setCell (by simp) _)
  obtain ⟨W5, hW5⟩ : ∃ W5, w2.setCell ⟨g, 51, none⟩ (.int .i64 0) = W5 := ⟨_, rfl⟩
  rw [show (⟨g, 44 + 7, none⟩ : Addr) = ⟨g, 51, none⟩ from rfl, hW5] at M5
  rw [hW5] at C5
  try rw [hW5]
  clear hW5 c7 f7 M1 M2 C1 C2 HM D0
  go_loopw [4] (fun x W => ∃ k : Nat, k ≤ N ∧ x = .int .i64 (k : Int) ∧ scn bs ks key a b (N - k) k = (c, o) ∧ MS W g F is os rs (ps.set 7 (.int .i64 0)) ov bs ks ∧ Ch w W [g]) (fun x _ => N - (intOf x).toNat)
  case atStart => exact ⟨0, by omega, rfl, HC.out, M5.out, C5.out⟩
  case round =>
    obtain ⟨k, hk, rfl, hsn, hmw, hcw⟩ := hrel
    have MW := Lib.hid hmw
    have CW := Lib.hid hcw
    have c9 := hmw.m.ci (c := 9) (by omega)
    rw [HL.out] at c9
    clear hmw hcw
    by_cases hlt : k < N
    · have i0 : (k : Int) ≤ l1 := by omega
      have wk : IntKind.i64.wrap (a + (k : Int)) = a + (k : Int) := wrap_i64_id (by omega) (by omega)
      rw [show N - k = (N - (k + 1)) + 1 by omega] at hsn
      simp only [scn] at hsn
      by_cases h1 : sCode (alF key) bs.length ks (a + (k : Int)) 1 = 0
      · rw [if_pos h1] at hsn
        have HS1 := Lib.hid h1
        have hl1' := sGet_leng h1
        have hrA := sGet_in (a + (k : Int)) 1 HRG.out 0
        have hak : a + (k : Int) < 16777216 := by
          obtain ⟨-, -, -, q3⟩ := sIn_yes (sCode_zero h1)
          have := HBS.out
          omega
        obtain ⟨zA, hzA⟩ : ∃ z, sGet bs (a + (k : Int)) 1 = z := ⟨_, rfl⟩
        rw [hzA] at hl1' hsn hrA
        obtain ⟨x, hx⟩ : ∃ x, zA.getD 0 0 = x := ⟨_, rfl⟩
        rw [hx] at hsn hrA
        have HZ1 := Lib.hid hzA
        have HY1 := Lib.hid hx
        have HL1 := Lib.hid hl1'
        obtain ⟨x0, x1⟩ := hrA
        have wx : IntKind.i64.wrap x = x := wrap_i64_id (by omega) (by omega)
        obtain ⟨t, ht⟩ : ∃ t, b + x = t := ⟨_, rfl⟩
        have wt : IntKind.i64.wrap (b + x) = t := by rw [wrap_i64_id (by omega) (by omega)]; exact ht
        rw [ht] at hsn
        have FET1 := Lib.hid (fun (W : World) (hM : MS W g F is os rs (ps.set 7 (.int .i64 0)) ov bs ks) => fetch_m g F is os rs (ps.set 7 (.int .i64 0)) ov bs ks (a + (k : Int)) 1 key W hM HK.out HS1.out)
        clear h1 hzA hx hl1'
        by_cases h2 : sCode (alF key) bs.length ks t 1 = 0
        · rw [if_pos h2] at hsn
          have HS2 := Lib.hid h2
          have hl2' := sGet_leng h2
          have hrB := sGet_in t 1 HRG.out 0
          obtain ⟨zB, hzB⟩ : ∃ z, sGet bs t 1 = z := ⟨_, rfl⟩
          rw [hzB] at hl2' hsn hrB
          obtain ⟨y, hy⟩ : ∃ y, zB.getD 0 0 = y := ⟨_, rfl⟩
          rw [hy] at hsn hrB
          obtain ⟨y0, y1⟩ := hrB
          have HZ2 := Lib.hid hzB
          have HY2 := Lib.hid hy
          have HL2 := Lib.hid hl2'
          have FET2 := Lib.hid (fun (W : World) (hM : MS W g F is os rs (ps.set 7 (.int .i64 0)) ov bs ks) => fetch_m g F is os rs (ps.set 7 (.int .i64 0)) ov bs ks t 1 key W hM HK.out HS2.out)
          clear h2 hzB hy hl2'
          by_cases hy0 : y = 0
          · rw [if_pos hy0] at hsn
            have HSN := Lib.hid (show scn bs ks key a b (N - (k + 1)) (k + 1) = (c, o) from hsn)
            have e1 : (y == 0) = true := by simpa using hy0
            clear hy0 hsn
            go_wp2_with fail
            refine (FET1.out _ MW.out).mono ?_
            rintro e wb1 ⟨A, mm, cb, rfl, hO, hM, hCh⟩; rw [HZ1.out] at hO; have MF1 := Lib.hid hM; have CF1 := Lib.hid (CW.out.trans (hCh.mono (by simp))); have hml : mm = 1 := (by have := hO.byt.1; have := HL1.out; omega); subst hml; obtain ⟨gb, cb', hv, hgb, hgl, -, -⟩ := hO.pos (by omega); injection hv with hv1 hv2 hv3; subst hv1 hv3; obtain ⟨gb', ob', e', hcell⟩ := hO.byt.at_ (by omega); cases e'; have yc' := hcell 0 (by omega); rw [HY1.out] at yc'; have yc1 : wb1.cell? ⟨gb, 0, none⟩ = some (.int .u8 x) := (by exact yc'); clear hO hM hCh hgb hgl hcell yc'
            go_wp2_with fail
            refine (FET2.out _ MF1.out).mono ?_
            rintro e wb2 ⟨A, mm, cb, rfl, hO, hM, hCh⟩; rw [HZ2.out] at hO; have MF2 := Lib.hid hM; have CF2 := Lib.hid (CF1.out.trans (hCh.mono (by simp))); have hml : mm = 1 := (by have := hO.byt.1; have := HL2.out; omega); subst hml; obtain ⟨gb, cb', hv, hgb, hgl, -, -⟩ := hO.pos (by omega); injection hv with hv1 hv2 hv3; subst hv1 hv3; obtain ⟨gb', ob', e', hcell⟩ := hO.byt.at_ (by omega); cases e'; have yc' := hcell 0 (by omega); rw [HY2.out] at yc'; have yc2 : wb2.cell? ⟨gb, 0, none⟩ = some (.int .u8 y) := (by exact yc'); clear hO hM hCh hgb hgl hcell yc'
            go_wp2
            exact ⟨⟨k + 1, by omega, rfl, HSN.out, MF2.out, CF2.out⟩, by simp [intOf]; omega⟩
          · rw [if_neg hy0] at hsn
            have e1 : (y == 0) = false := by simpa using hy0
            have HSN := Lib.hid hsn
            have ww : IntKind.u32.wrap (a + (k : Int)) = a + (k : Int) := by rw [IntKind.wrap_u32]; omega
            have wy : IntKind.u32.wrap y = y := by rw [IntKind.wrap_u32]; omega
            have or1 : bits .or .u32 (v1 / 16777216 * 16777216) (a + (k : Int)) = v1 / 16777216 * 16777216 + (a + (k : Int)) := or_32 24 (v1 / 16777216 * 16777216) (a + (k : Int)) 16777216 (by rfl) (by omega) (by omega) (by omega) (by omega) (by omega) (by omega)
            have or2 : bits .or .u32 (v2 / 256 * 256) y = v2 / 256 * 256 + y := or_32 8 (v2 / 256 * 256) y 256 (by rfl) (by omega) (by omega) (by omega) (by omega) (by omega) (by omega)
            clear hy0 hsn
            go_wp2_with fail
            refine (FET1.out _ MW.out).mono ?_
            rintro e wb1 ⟨A, mm, cb, rfl, hO, hM, hCh⟩; rw [HZ1.out] at hO; have MF1 := Lib.hid hM; have CF1 := Lib.hid (CW.out.trans (hCh.mono (by simp))); have hml : mm = 1 := (by have := hO.byt.1; have := HL1.out; omega); subst hml; obtain ⟨gb, cb', hv, hgb, hgl, -, -⟩ := hO.pos (by omega); injection hv with hv1 hv2 hv3; subst hv1 hv3; obtain ⟨gb', ob', e', hcell⟩ := hO.byt.at_ (by omega); cases e'; have yc' := hcell 0 (by omega); rw [HY1.out] at yc'; have yc1 : wb1.cell? ⟨gb, 0, none⟩ = some (.int .u8 x) := (by exact yc'); clear hO hM hCh hgb hgl hcell yc'
            go_wp2_with fail
            refine (FET2.out _ MF1.out).mono ?_
            rintro e wb2 ⟨A, mm, cb, rfl, hO, hM, hCh⟩; rw [HZ2.out] at hO; have MF2 := Lib.hid hM; have CF2 := Lib.hid (CF1.out.trans (hCh.mono (by simp))); have hml : mm = 1 := (by have := hO.byt.1; have := HL2.out; omega); subst hml; obtain ⟨gb, cb', hv, hgb, hgl, -, -⟩ := hO.pos (by omega); injection hv with hv1 hv2 hv3; subst hv1 hv3; obtain ⟨gb', ob', e', hcell⟩ := hO.byt.at_ (by omega); cases e'; have yc' := hcell 0 (by omega); rw [HY2.out] at yc'; have yc2 : wb2.cell? ⟨gb, 0, none⟩ = some (.int .u8 y) := (by exact yc'); clear hO hM hCh hgb hgl hcell yc'
            have d1 := MF2.out.m.co (n := 1) (by omega)
            rw [HV1.out] at d1
            have d2 := MF2.out.m.co (n := 2) (by omega)
            rw [HV2.out] at d2
            have d3 := MF2.out.m.cr (n := 1) (by omega)
            have d4 := MF2.out.m.free 29
            have d5 := MF2.out.m.cr (n := 2) (by omega)
            have d6 := MF2.out.m.free 30
            have d7 := MF2.out.m.cp (n := 7) (by omega)
            have d8 := MF2.out.m.free 51
            have d9 := MF2.out.m.ci (c := 9) (by omega)
            rw [HL.out] at d9
            go_upto_region 7 with fail
            go_region
            go_upto_region 8 with fail
            go_region
            try simp only [an1, an2, ww, wy, or1, or2]
            by_cases hkN : (k : Int) = l1
            · have e2 : ((k : Int) == l1) = true := by simpa using hkN
              have HQ := Lib.hid (show k + 1 = N by omega)
              clear hkN
              go_wp2
              first | go_end0 | refine bodyPost_ret (results_none rfl _ _ _) rfl ?_
              rw [HR.out]
              have e := HSN.out
              injection e with ec eo
              subst ec eo
              refine ⟨fun _ => ⟨rfl, ?_⟩, fun h => absurd rfl h, ((((CF2.out.setCell (by simp) _).setCell (by simp) _).setCell (by simp) _).setCell (by simp) _).drewN 2⟩
              simp only [scnR, scnQ, HV1.out, HV2.out]
              rw [if_pos HQ.out]
              have hM := (((((MF2.out.setr (n := 1) (by omega) (v1 / 16777216 * 16777216 + (a + (k : Int)))).setr (n := 2) (by omega) (v2 / 256 * 256 + y)).setp (n := 7) (by omega) (.int .i64 1))).setp (n := 7) (by omega) (.int .i64 2)).drewN 2
              rw [List.set_set, List.set_set] at hM
              exact hM
            · have e2 : ((k : Int) == l1) = false := by simpa using hkN
              have HQ := Lib.hid (show ¬ k + 1 = N by omega)
              clear hkN
              go_wp2
              first | go_end0 | refine bodyPost_ret (results_none rfl _ _ _) rfl ?_
              rw [HR.out]
              have e := HSN.out
              injection e with ec eo
              subst ec eo
              refine ⟨fun _ => ⟨rfl, ?_⟩, fun h => absurd rfl h, (((CF2.out.setCell (by simp) _).setCell (by simp) _).setCell (by simp) _).drewN 2⟩
              simp only [scnR, scnQ, HV1.out, HV2.out]
              rw [if_neg HQ.out]
              have hM := ((((MF2.out.setr (n := 1) (by omega) (v1 / 16777216 * 16777216 + (a + (k : Int)))).setr (n := 2) (by omega) (v2 / 256 * 256 + y)).setp (n := 7) (by omega) (.int .i64 1))).drewN 2
              rw [List.set_set] at hM
              exact hM
        · rw [if_neg h2] at hsn
          have HS2 := Lib.hid h2
          have HCE := Lib.hid (show sCode (alF key) bs.length ks t 1 = c from congrArg Prod.fst hsn)
          have HC0 := Lib.hid (show c ≠ 0 from by rw [← HCE.out]; exact h2)
          clear h2 hsn
          go_wp2_with fail
          refine (FET1.out _ MW.out).mono ?_
          rintro e wb1 ⟨A, mm, cb, rfl, hO, hM, hCh⟩; rw [HZ1.out] at hO; have MF1 := Lib.hid hM; have CF1 := Lib.hid (CW.out.trans (hCh.mono (by simp))); have hml : mm = 1 := (by have := hO.byt.1; have := HL1.out; omega); subst hml; obtain ⟨gb, cb', hv, hgb, hgl, -, -⟩ := hO.pos (by omega); injection hv with hv1 hv2 hv3; subst hv1 hv3; obtain ⟨gb', ob', e', hcell⟩ := hO.byt.at_ (by omega); cases e'; have yc' := hcell 0 (by omega); rw [HY1.out] at yc'; have yc1 : wb1.cell? ⟨gb, 0, none⟩ = some (.int .u8 x) := (by exact yc'); clear hO hM hCh hgb hgl hcell yc'
          go_wp2_with fail
          refine (fetch_no g F is os rs (ps.set 7 (.int .i64 0)) ov bs ks t 1 key _ MF1.out HK.out c HCE.out HC0.out).mono ?_
          rintro e w9 ⟨rfl, hM, hCh⟩
          have M9 := Lib.hid hM
          have C9 := Lib.hid (CF1.out.trans (hCh.mono (by simp)))
          clear hM hCh
          go_wp2
          refine ⟨rfl, ?_⟩
          rw [HR.out]
          exact ⟨fun h => absurd h HC0.out, fun _ => ⟨rfl, M9.out⟩, C9.out⟩
      · rw [if_neg h1] at hsn
        have HCE := Lib.hid (show sCode (alF key) bs.length ks (a + (k : Int)) 1 = c from congrArg Prod.fst hsn)
        have HC0 := Lib.hid (show c ≠ 0 from by rw [← HCE.out]; exact h1)
        clear h1 hsn
        go_wp2_with (go_at_call 108; refine (fetch_no g F is os rs (ps.set 7 (.int .i64 0)) ov bs ks (a + (k : Int)) 1 key _ MW.out HK.out c HCE.out HC0.out).mono ?_; rintro e w9 ⟨rfl, hM, hCh⟩; have M9 := Lib.hid hM; have C9 := Lib.hid (CW.out.trans (hCh.mono (by simp))); clear hM hCh)
        refine ⟨rfl, ?_⟩
        rw [HR.out]
        exact ⟨fun h => absurd h HC0.out, fun _ => ⟨rfl, M9.out⟩, C9.out⟩
    · obtain rfl : k = N := by omega
      have hI : ¬ (k : Int) ≤ l1 := by omega
      rw [Nat.sub_self] at hsn
      have HSN := Lib.hid (show ((0 : Int), (none : Option (Nat × Int))) = (c, o) from hsn)
      clear hsn
      go_wp2
      first | go_end0 | refine bodyPost_ret (results_none rfl _ _ _) rfl ?_
      rw [HR.out]
      have e := HSN.out
      injection e with ec eo
      subst ec eo
      exact ⟨fun _ => ⟨rfl, MW.out⟩, fun h => absurd rfl h, CW.out⟩
end Go.Proofs.YthjdjbipfdigeaaGreat

namespace Go.Proofs.YthjdjbipfdigeaaGreat
open Go.RowKit
set_option maxRecDepth 100000
set_option linter.unusedVariables false
set_option linter.unusedSimpArgs false
def lmR (rs : List Int) (n : Nat) (zs : List Int) : Nat → List Int
  | 0 => rs
  | k + 1 => (lmR rs n zs k).set ((n + k) % 16) (flv (zs.getD (4 * k) 0) (zs.getD (4 * k + 1) 0) (zs.getD (4 * k + 2) 0) (zs.getD (4 * k + 3) 0))
end Go.Proofs.YthjdjbipfdigeaaGreat

namespace Go.Proofs.YthjdjbipfdigeaaGreat
open Go.RowKit
set_option linter.unusedVariables false
set_option linter.unusedSimpArgs false

set_option maxHeartbeats 1000000 in
theorem branch_c (mask cc : Int) (hmask : -9223372036854775808 ≤ mask) (hmask' : mask ≤ 9223372036854775807) (hcc : -9223372036854775808 ≤ cc) (hcc' : cc ≤ 9223372036854775807) (w : World) : Calls Tryz.prog 94 #[.int .i64 mask, .int .i64 cc] w fun e w' => e = .returned (.bool (pbr mask cc)) ∧ w = w' := by
  have f0 := andNot_in 4 15 mask rfl (by omega) hmask hmask'
  have f1 := andNot_in 2 3 cc rfl (by omega) hcc hcc'
  cases t : inr mask 15
  · have hr := Lib.hid (show pbr mask cc = false from by simp [pbr, t])
    rw [t] at f0
    clear f1 t
    go_enter Tryz.func94, Tryz.ntmps94
    go_wp2
    go_ret
    exact ⟨by rw [hr.out]; rfl, rfl⟩
  · have m0 := (inr_yes t).1
    have m1 := (inr_yes t).2
    cases u : inr cc 3
    · have hr := Lib.hid (show pbr mask cc = false from by simp [pbr, t, u])
      rw [t] at f0
      rw [u] at f1
      clear t u
      go_enter Tryz.func94, Tryz.ntmps94
      go_wp2
      go_ret
      exact ⟨by rw [hr.out]; rfl, rfl⟩
    · rw [t] at f0
      have c0 := (inr_yes u).1
      have c1 := (inr_yes u).2
      obtain rfl | rfl | rfl | rfl : cc = 0 ∨ cc = 1 ∨ cc = 2 ∨ cc = 3 := by omega
      · have hr := Lib.hid (show (bits .and .i64 mask 8 != 0) = pbr mask 0 from by rw [i64_bit 3 8 mask rfl (by omega) m0 (by omega)]; simp [pbr, t]; first | rfl | (show _ = (decide _ && decide _); simp) | simp [inr])
        have f1 : (bits .andNot .i64 0 3 == 0) = true := by decide
        clear t u c0 c1
        go_enter Tryz.func94, Tryz.ntmps94
        go_wp2
        go_ret
        exact ⟨by rw [← hr.out]; rfl, rfl⟩
      · have hr := Lib.hid (show (bits .and .i64 mask 4 != 0) = pbr mask 1 from by rw [i64_bit 2 4 mask rfl (by omega) m0 (by omega)]; simp [pbr, t]; first | rfl | (show _ = (decide _ && decide _); simp) | simp [inr])
        have f1 : (bits .andNot .i64 1 3 == 0) = true := by decide
        clear t u c0 c1
        go_enter Tryz.func94, Tryz.ntmps94
        go_wp2
        go_ret
        exact ⟨by rw [← hr.out]; rfl, rfl⟩
      · have hr := Lib.hid (show (bits .and .i64 mask 2 != 0) = pbr mask 2 from by rw [i64_bit 1 2 mask rfl (by omega) m0 (by omega)]; simp [pbr, t]; first | rfl | (show _ = (decide _ && decide _); simp) | simp [inr])
        have f1 : (bits .andNot .i64 2 3 == 0) = true := by decide
        clear t u c0 c1
        go_enter Tryz.func94, Tryz.ntmps94
        go_wp2
        go_ret
        exact ⟨by rw [← hr.out]; rfl, rfl⟩
      · have hr := Lib.hid (show (bits .and .i64 mask 1 != 0) = pbr mask 3 from by rw [i64_bit 0 1 mask rfl (by omega) m0 (by omega)]; simp [pbr, t]; first | rfl | (show _ = (decide _ && decide _); simp) | simp [inr])
        have f1 : (bits .andNot .i64 3 3 == 0) = true := by decide
        clear t u c0 c1
        go_enter Tryz.func94, Tryz.ntmps94
        go_wp2
        go_ret
        exact ⟨by rw [← hr.out]; rfl, rfl⟩

set_option maxHeartbeats 1000000 in
theorem rbranch_c (mask cc : Int) (w : World) : Calls Tryz.prog 55 #[.int .i64 mask, .int .i64 cc] w fun e w' => e = .returned (.bool (pbr mask cc)) ∧ Below w.heap.size w w' := by
  cases t : inr mask 15
  · have hr := Lib.hid (show pbr mask cc = false from by simp [pbr, t])
    go_enter Tryz.func55, Tryz.ntmps55
    go_wp2_with (go_at_call 53; refine (pin_c _ _ _).mono ?_; rintro e w' ⟨rfl, rfl⟩)
    go_ret
    exact ⟨by rw [hr.out]; rfl, Below.refl _ _⟩
  · have m0 := (inr_yes t).1
    have m1 := (inr_yes t).2
    cases u : inr cc 3
    · have hr := Lib.hid (show pbr mask cc = false from by simp [pbr, t, u])
      go_enter Tryz.func55, Tryz.ntmps55
      go_wp2_with (go_at_call 53; refine (pin_c _ _ _).mono ?_; rintro e w' ⟨rfl, rfl⟩)
      go_ret
      exact ⟨by rw [hr.out]; rfl, Below.refl _ _⟩
    · have c0 := (inr_yes u).1
      have c1 := (inr_yes u).2
      obtain rfl | rfl | rfl | rfl : cc = 0 ∨ cc = 1 ∨ cc = 2 ∨ cc = 3 := by omega
      · have hr := Lib.hid (show decide (mask / 8 % 2 = 1) = pbr mask 0 from by simp [pbr, t, u])
        go_enter Tryz.func55, Tryz.ntmps55
        go_wp2_with (go_at_call 53; refine (pin_c _ _ _).mono ?_; rintro e w' ⟨rfl, rfl⟩)
        go_ret
        exact ⟨by rw [← hr.out]; rfl, (Below.refl _ _).alloc (Nat.le_refl _) _⟩
      · have hr := Lib.hid (show decide (mask / 4 % 2 = 1) = pbr mask 1 from by simp [pbr, t, u])
        go_enter Tryz.func55, Tryz.ntmps55
        go_wp2_with (go_at_call 53; refine (pin_c _ _ _).mono ?_; rintro e w' ⟨rfl, rfl⟩)
        go_ret
        exact ⟨by rw [← hr.out]; rfl, (Below.refl _ _).alloc (Nat.le_refl _) _⟩
      · have hr := Lib.hid (show decide (mask / 2 % 2 = 1) = pbr mask 2 from by simp [pbr, t, u])
        go_enter Tryz.func55, Tryz.ntmps55
        go_wp2_with (go_at_call 53; refine (pin_c _ _ _).mono ?_; rintro e w' ⟨rfl, rfl⟩)
        go_ret
        exact ⟨by rw [← hr.out]; rfl, (Below.refl _ _).alloc (Nat.le_refl _) _⟩
      · have hr := Lib.hid (show decide (mask % 2 = 1) = pbr mask 3 from by simp [pbr, t, u])
        go_enter Tryz.func55, Tryz.ntmps55
        go_wp2_with (go_at_call 53; refine (pin_c _ _ _).mono ?_; rintro e w' ⟨rfl, rfl⟩)
        go_ret
        exact ⟨by rw [← hr.out]; rfl, (Below.refl _ _).alloc (Nat.le_refl _) _⟩

end Go.Proofs.YthjdjbipfdigeaaGreat

namespace Go.Proofs.YthjdjbipfdigeaaGreat
open Go.RowKit
set_option maxRecDepth 100000
set_option linter.unusedVariables false
set_option linter.unusedSimpArgs false
theorem u32_low (n : Nat) (m a : Int) (hm : m = ((2 ^ n - 1 : Nat) : Int)) (hn : n ≤ 31) (h0 : 0 ≤ a) (h1 : a ≤ 4294967295) : bits .and .u32 a m = a % ((2 ^ n : Nat) : Int) := by
  have hle : 2 ^ n ≤ 2 ^ 31 := Nat.pow_le_pow_right (by omega) hn
  have hpos : 0 < 2 ^ n := Nat.two_pow_pos n
  rw [u32_and a m h0 (by omega) (by omega) (by omega), hm, Int.toNat_natCast, Nat.and_two_pow_sub_one_eq_mod]
  obtain ⟨k, rfl⟩ := Int.eq_ofNat_of_zero_le h0
  simp
end Go.Proofs.YthjdjbipfdigeaaGreat

namespace Go.Proofs.YthjdjbipfdigeaaGreat
open Go.RowKit
set_option maxRecDepth 100000
set_option linter.unusedVariables false
set_option linter.unusedSimpArgs false
/-- what an instruction works on -/
structure Pre where
  os : List Int
  key : Int
  il : Int
  cc : Int
  pg : Int
  ad : Int
  bs : List Int
  ks : List Int
/-- what it leaves: a code, the registers, condition code, program mask, address, overflow, bytes -/
structure Out where
  c : Int
  rs : List Int
  cc : Int
  pg : Int
  ad : Int
  ov : Bool
  bs : List Int
namespace Pre
def no (p : Pre) (c : Int) : Out := ⟨c, p.os, p.cc, p.pg, p.ad, false, p.bs⟩
def rg (p : Pre) (rs : List Int) : Out := ⟨0, rs, p.cc, p.pg, p.ad, false, p.bs⟩
def st (p : Pre) (rs : List Int) (cc : Int) (ov : Bool) : Out := ⟨0, rs, cc, p.pg, p.ad, ov, p.bs⟩
def br (p : Pre) (rs : List Int) (t : Bool) (tgt : Int) : Out := ⟨0, rs, p.cc, p.pg, if t = true then tgt else p.ad, false, p.bs⟩
def pc (p : Pre) (a n : Int) : Int := sCode (alP p.key) p.bs.length p.ks a n
def fc (p : Pre) (a n : Int) : Int := sCode (alF p.key) p.bs.length p.ks a n
def wr (p : Pre) (a n : Int) (ys : List Int) (cc : Int) : Out := if p.pc a n = 0 then ⟨0, p.os, cc, p.pg, p.ad, false, sPut (alP p.key) p.bs p.ks a ys⟩ else p.no (p.pc a n)
end Pre
def brO (p : Pre) (op : Int) (n k : Nat) (a : Int) : Out :=
  if op = 4 then ⟨0, p.os, p.os.getD n 0 / 268435456 % 4, p.os.getD n 0 / 16777216 % 16, p.ad, false, p.bs⟩
  else if op = 5 then p.br (p.os.set n (p.il * 1073741824 + p.cc * 268435456 + p.pg * 16777216 + p.ad)) (decide (k ≠ 0)) (p.os.getD k 0 % 16777216)
  else if op = 69 then p.br (p.os.set n (p.il * 1073741824 + p.cc * 268435456 + p.pg * 16777216 + p.ad)) true a
  else if op = 6 then p.br (p.os.set n (lo32 (p.os.getD n 0 - 1))) ((p.os.getD n 0 != 1) && decide (k ≠ 0)) (p.os.getD k 0 % 16777216)
  else if op = 70 then p.br (p.os.set n (lo32 (p.os.getD n 0 - 1))) (p.os.getD n 0 != 1) a
  else if op = 7 then p.br p.os (pbr (n : Int) p.cc && decide (k ≠ 0)) (p.os.getD k 0 % 16777216)
  else if op = 71 then p.br p.os (pbr (n : Int) p.cc) a
  else if op = 134 then p.br (p.os.set n (lo32 (p.os.getD n 0 + p.os.getD k 0))) (sgn (sg (lo32 (p.os.getD n 0 + p.os.getD k 0)) - sg (p.os.getD (k / 2 * 2 + 1) 0)) == 2) a
  else p.br (p.os.set n (lo32 (p.os.getD n 0 + p.os.getD k 0))) (!(sgn (sg (lo32 (p.os.getD n 0 + p.os.getD k 0)) - sg (p.os.getD (k / 2 * 2 + 1) 0)) == 2)) a
def arO (p : Pre) (op : Int) (n : Nat) (c v : Int) : Out :=
  if op = 28 ∨ op = 29 ∨ op = 92 ∨ op = 93 then
    if n % 2 = 1 then p.no 6 else if c ≠ 0 then p.no c
    else if op = 28 ∨ op = 92 then p.rg ((p.os.set n (lo32 (sg (p.os.getD (n + 1) 0) * sg v / 4294967296))).set (n + 1) (lo32 (sg (p.os.getD (n + 1) 0) * sg v)))
    else if dok (sg64 (dbl (p.os.getD n 0) (p.os.getD (n + 1) 0))) (sg v) = true then p.rg ((p.os.set n (drem (sg64 (dbl (p.os.getD n 0) (p.os.getD (n + 1) 0))) (sg v))).set (n + 1) (dquo (sg64 (dbl (p.os.getD n 0) (p.os.getD (n + 1) 0))) (sg v)))
    else p.no 9
  else if c ≠ 0 then p.no c
  else if op = 24 ∨ op = 88 ∨ op = 72 then p.rg (p.os.set n v)
  else if op = 16 ∨ op = 17 ∨ op = 18 ∨ op = 19 then p.st (p.os.set n (sgnV op v)) (sgnQ op v) (sgnO op v)
  else if op = 26 ∨ op = 90 ∨ op = 74 then p.st (p.os.set n (lo32 (sg (p.os.getD n 0) + sg v))) (rcc (sg (p.os.getD n 0) + sg v)) (ovf (sg (p.os.getD n 0) + sg v))
  else if op = 27 ∨ op = 91 ∨ op = 75 then p.st (p.os.set n (lo32 (sg (p.os.getD n 0) - sg v))) (rcc (sg (p.os.getD n 0) - sg v)) (ovf (sg (p.os.getD n 0) - sg v))
  else if op = 30 ∨ op = 94 then p.st (p.os.set n (lo32 (p.os.getD n 0 + v))) (lcc (lo32 (p.os.getD n 0 + v)) (decide (4294967296 ≤ p.os.getD n 0 + v))) false
  else if op = 31 ∨ op = 95 then p.st (p.os.set n (lo32 (p.os.getD n 0 - v))) (lcc (lo32 (p.os.getD n 0 - v)) (decide (v ≤ p.os.getD n 0))) false
  else if op = 25 ∨ op = 89 ∨ op = 73 then p.st p.os (sgn (sg (p.os.getD n 0) - sg v)) false
  else if op = 21 ∨ op = 85 then p.st p.os (sgn (p.os.getD n 0 - v)) false
  else if op = 20 ∨ op = 84 then p.st (p.os.set n (bits .and .u32 (p.os.getD n 0) v)) (if bits .and .u32 (p.os.getD n 0) v = 0 then 0 else 1) false
  else if op = 22 ∨ op = 86 then p.st (p.os.set n (bits .or .u32 (p.os.getD n 0) v)) (if bits .or .u32 (p.os.getD n 0) v = 0 then 0 else 1) false
  else if op = 23 ∨ op = 87 then p.st (p.os.set n (bits .xor .u32 (p.os.getD n 0) v)) (if bits .xor .u32 (p.os.getD n 0) v = 0 then 0 else 1) false
  else p.rg (p.os.set n (lo32 (sg (p.os.getD n 0) * sg v)))
def shO (p : Pre) (op : Int) (n : Nat) (a : Int) : Out :=
  if 140 ≤ op ∧ n % 2 = 1 then p.no 6
  else if op = 136 then p.rg (p.os.set n (slg (p.os.getD n 0) (plc a) false))
  else if op = 137 then p.rg (p.os.set n (slg (p.os.getD n 0) (plc a) true))
  else if op = 138 then p.st (p.os.set n (srv (p.os.getD n 0) (plc a))) (sgn (sg (srv (p.os.getD n 0) (plc a)))) false
  else if op = 139 then p.st (p.os.set n (slv (p.os.getD n 0) (plc a))) (slc (p.os.getD n 0) (plc a)) (slo (p.os.getD n 0) (plc a))
  else if op = 140 then p.rg ((p.os.set n (lo32 (dlg (dbl (p.os.getD n 0) (p.os.getD (n + 1) 0)) (plc a) false / 4294967296))).set (n + 1) (lo32 (dlg (dbl (p.os.getD n 0) (p.os.getD (n + 1) 0)) (plc a) false)))
  else if op = 141 then p.rg ((p.os.set n (lo32 (dlg (dbl (p.os.getD n 0) (p.os.getD (n + 1) 0)) (plc a) true / 4294967296))).set (n + 1) (lo32 (dlg (dbl (p.os.getD n 0) (p.os.getD (n + 1) 0)) (plc a) true)))
  else if op = 142 then p.st ((p.os.set n (lo32 (drv (dbl (p.os.getD n 0) (p.os.getD (n + 1) 0)) (plc a) / 4294967296))).set (n + 1) (lo32 (drv (dbl (p.os.getD n 0) (p.os.getD (n + 1) 0)) (plc a)))) (sgn (sg64 (drv (dbl (p.os.getD n 0) (p.os.getD (n + 1) 0)) (plc a)))) false
  else p.st ((p.os.set n (lo32 (dlv (dbl (p.os.getD n 0) (p.os.getD (n + 1) 0)) (plc a) / 4294967296))).set (n + 1) (lo32 (dlv (dbl (p.os.getD n 0) (p.os.getD (n + 1) 0)) (plc a)))) (dlc (dbl (p.os.getD n 0) (p.os.getD (n + 1) 0)) (plc a)) (dlo (dbl (p.os.getD n 0) (p.os.getD (n + 1) 0)) (plc a))
/-- the number of registers of STM and LM -/
def cnt (n m : Nat) : Nat := (m + 16 - n) % 16 + 1
def mvO (p : Pre) (op : Int) (n m : Nat) (a : Int) : Out :=
  if op = 80 then (if a % 4 = 0 then p.wr a 4 (fb (p.os.getD n 0)) p.cc else p.no 6)
  else if op = 64 then (if a % 2 = 0 then p.wr a 2 ((fb (p.os.getD n 0)).drop 2) p.cc else p.no 6)
  else if op = 66 then p.wr a 1 ((fb (p.os.getD n 0)).drop 3) p.cc
  else if op = 67 then (if p.fc a 1 = 0 then p.rg (p.os.set n (p.os.getD n 0 / 256 * 256 + (sGet p.bs a 1).getD 0 0)) else p.no (p.fc a 1))
  else if op = 144 then (if a % 4 = 0 then p.wr a ((4 * cnt n m : Nat) : Int) (stB p.os n (cnt n m)) p.cc else p.no 6)
  else (if a % 4 = 0 then (if p.fc a ((4 * cnt n m : Nat) : Int) = 0 then p.rg (lmR p.os n (sGet p.bs a ((4 * cnt n m : Nat) : Int)) (cnt n m)) else p.no (p.fc a ((4 * cnt n m : Nat) : Int))) else p.no 6)
/-- the byte that an immediate instruction makes -/
def imB (op b i : Int) : Int := if op = 148 then bits .and .u8 b i else if op = 150 then bits .or .u8 b i else bits .xor .u8 b i
def imO (p : Pre) (op : Int) (a i : Int) : Out :=
  if op = 146 then p.wr a 1 [i] p.cc
  else if p.fc a 1 ≠ 0 then p.no (p.fc a 1)
  else if op = 145 then p.st p.os (if bits .and .u8 ((sGet p.bs a 1).getD 0 0) i = 0 then 0 else if bits .and .u8 ((sGet p.bs a 1).getD 0 0) i = i then 3 else 1) false
  else if op = 149 then p.st p.os (sgn ((sGet p.bs a 1).getD 0 0 - i)) false
  else if op = 147 then p.wr a 1 [255] ((sGet p.bs a 1).getD 0 0 / 128)
  else p.wr a 1 [imB op ((sGet p.bs a 1).getD 0 0) i] (if imB op ((sGet p.bs a 1).getD 0 0) i = 0 then 0 else 1)
def loO (p : Pre) (op : Int) (N : Nat) (a b : Int) : Out :=
  if op = 221 then (match scn p.bs p.ks p.key a b N 0 with
    | (c, o) => if c = 0 then ⟨0, scnR p.os p.os a o, scnQ N o, p.pg, p.ad, false, p.bs⟩ else p.no c)
  else if p.fc a N ≠ 0 then p.no (p.fc a N)
  else if op = 220 then (if trE p.bs p.ks (sGet p.bs a N) p.key b N = 0 then p.wr a N (trS p.bs (sGet p.bs a N) a b N) p.cc else p.no (trE p.bs p.ks (sGet p.bs a N) p.key b N))
  else if p.fc b N ≠ 0 then p.no (p.fc b N)
  else if op = 213 then p.st p.os (clc (sGet p.bs a N) (sGet p.bs b N)) false
  else p.wr a N (cmb (cb op) (sGet p.bs a N) (sGet p.bs b N) (a - b) N) (if op = 212 ∨ op = 214 ∨ op = 215 then cmbS (cb op) (sGet p.bs a N) (sGet p.bs b N) (a - b) N else p.cc)
/-- what exec does -/
def exO (p : Pre) (op fm : Int) (n k : Nat) (a1 a : Int) (l1 : Nat) (i2 : Int) : Out :=
  if op < 16 ∨ (69 ≤ op ∧ op ≤ 71) ∨ op = 134 ∨ op = 135 then brO p op n k a
  else if 136 ≤ op ∧ op ≤ 143 then shO p op n a
  else if op = 65 then p.rg (p.os.set n a)
  else if op = 64 ∨ op = 66 ∨ op = 67 ∨ op = 80 ∨ op = 144 ∨ op = 152 then mvO p op n k a
  else if 145 ≤ op ∧ op ≤ 151 then imO p op a1 i2
  else if 208 ≤ op then loO p op (l1 + 1) a1 a
  else arO p op n (opC op fm p.bs p.ks p.key a) (opV op fm p.os k p.bs a)
theorem chkv_1 (op r1 r2 x2 b1 d1 b2 d2 l1 l2 i2 : Int) (hi : isOp op = true) (hf : fmOf op = 1) : chk op 1 [op, 1, r1, r2, x2, b1, d1, b2, d2, l1, l2, i2] = if (0 ≤ r1 ∧ r1 < 16) ∧ (0 ≤ r2 ∧ r2 < 16) ∧ x2 = 0 ∧ b1 = 0 ∧ d1 = 0 ∧ b2 = 0 ∧ d2 = 0 ∧ l1 = 0 ∧ l2 = 0 ∧ i2 = 0 then 0 else 6 := by
  unfold chk
  rw [if_pos ⟨hi, hf⟩]
  by_cases h : (0 ≤ r1 ∧ r1 < 16) ∧ (0 ≤ r2 ∧ r2 < 16) ∧ x2 = 0 ∧ b1 = 0 ∧ d1 = 0 ∧ b2 = 0 ∧ d2 = 0 ∧ l1 = 0 ∧ l2 = 0 ∧ i2 = 0
  · rw [if_pos h]
    have hh := h
    simp [lay, scan]
    (repeat' split) <;> first | rfl | (exfalso; simp_all; done) | (exfalso; simp_all; omega) | omega | (rename_i ys heq hy; subst hy; exfalso; (repeat' split at heq) <;> first | (cases heq; done) | (simp_all; done) | (simp_all; omega))
  · rw [if_neg h]
    simp [lay, scan]
    (repeat' split) <;> first | rfl | (exfalso; simp_all; done) | (exfalso; simp_all; omega) | omega | (rename_i ys heq hy; subst hy; exfalso; (repeat' split at heq) <;> first | (cases heq; done) | (simp_all; done) | (simp_all; omega))
theorem chkv_7 (op r1 r2 x2 b1 d1 b2 d2 l1 l2 i2 : Int) (hi : isOp op = true) (hf : fmOf op = 7) : chk op 7 [op, 7, r1, r2, x2, b1, d1, b2, d2, l1, l2, i2] = if r1 = 0 ∧ r2 = 0 ∧ x2 = 0 ∧ b1 = 0 ∧ d1 = 0 ∧ b2 = 0 ∧ d2 = 0 ∧ l1 = 0 ∧ l2 = 0 ∧ (0 ≤ i2 ∧ i2 < 256) then 0 else 6 := by
  unfold chk
  rw [if_pos ⟨hi, hf⟩]
  by_cases h : r1 = 0 ∧ r2 = 0 ∧ x2 = 0 ∧ b1 = 0 ∧ d1 = 0 ∧ b2 = 0 ∧ d2 = 0 ∧ l1 = 0 ∧ l2 = 0 ∧ (0 ≤ i2 ∧ i2 < 256)
  · rw [if_pos h]
    have hh := h
    simp [lay, scan]
    (repeat' split) <;> first | rfl | (exfalso; simp_all; done) | (exfalso; simp_all; omega) | omega | (rename_i ys heq hy; subst hy; exfalso; (repeat' split at heq) <;> first | (cases heq; done) | (simp_all; done) | (simp_all; omega))
  · rw [if_neg h]
    simp [lay, scan]
    (repeat' split) <;> first | rfl | (exfalso; simp_all; done) | (exfalso; simp_all; omega) | omega | (rename_i ys heq hy; subst hy; exfalso; (repeat' split at heq) <;> first | (cases heq; done) | (simp_all; done) | (simp_all; omega))
theorem chkv_8 (op r1 r2 x2 b1 d1 b2 d2 l1 l2 i2 : Int) (hi : isOp op = true) (hf : fmOf op = 8) : chk op 8 [op, 8, r1, r2, x2, b1, d1, b2, d2, l1, l2, i2] = if (0 ≤ r1 ∧ r1 < 16) ∧ r2 = 0 ∧ x2 = 0 ∧ b1 = 0 ∧ d1 = 0 ∧ b2 = 0 ∧ d2 = 0 ∧ l1 = 0 ∧ l2 = 0 ∧ i2 = 0 then 0 else 6 := by
  unfold chk
  rw [if_pos ⟨hi, hf⟩]
  by_cases h : (0 ≤ r1 ∧ r1 < 16) ∧ r2 = 0 ∧ x2 = 0 ∧ b1 = 0 ∧ d1 = 0 ∧ b2 = 0 ∧ d2 = 0 ∧ l1 = 0 ∧ l2 = 0 ∧ i2 = 0
  · rw [if_pos h]
    have hh := h
    simp [lay, scan]
    (repeat' split) <;> first | rfl | (exfalso; simp_all; done) | (exfalso; simp_all; omega) | omega | (rename_i ys heq hy; subst hy; exfalso; (repeat' split at heq) <;> first | (cases heq; done) | (simp_all; done) | (simp_all; omega))
  · rw [if_neg h]
    simp [lay, scan]
    (repeat' split) <;> first | rfl | (exfalso; simp_all; done) | (exfalso; simp_all; omega) | omega | (rename_i ys heq hy; subst hy; exfalso; (repeat' split at heq) <;> first | (cases heq; done) | (simp_all; done) | (simp_all; omega))
theorem chkv_2 (op r1 r2 x2 b1 d1 b2 d2 l1 l2 i2 : Int) (hi : isOp op = true) (hf : fmOf op = 2) : chk op 2 [op, 2, r1, r2, x2, b1, d1, b2, d2, l1, l2, i2] = if (0 ≤ r1 ∧ r1 < 16) ∧ r2 = 0 ∧ (0 ≤ x2 ∧ x2 < 16) ∧ b1 = 0 ∧ d1 = 0 ∧ (0 ≤ b2 ∧ b2 < 16) ∧ (0 ≤ d2 ∧ d2 < 4096) ∧ l1 = 0 ∧ l2 = 0 ∧ i2 = 0 then 0 else 6 := by
  unfold chk
  rw [if_pos ⟨hi, hf⟩]
  by_cases h : (0 ≤ r1 ∧ r1 < 16) ∧ r2 = 0 ∧ (0 ≤ x2 ∧ x2 < 16) ∧ b1 = 0 ∧ d1 = 0 ∧ (0 ≤ b2 ∧ b2 < 16) ∧ (0 ≤ d2 ∧ d2 < 4096) ∧ l1 = 0 ∧ l2 = 0 ∧ i2 = 0
  · rw [if_pos h]
    have hh := h
    simp [lay, scan]
    (repeat' split) <;> first | rfl | (exfalso; simp_all; done) | (exfalso; simp_all; omega) | omega | (rename_i ys heq hy; subst hy; exfalso; (repeat' split at heq) <;> first | (cases heq; done) | (simp_all; done) | (simp_all; omega))
  · rw [if_neg h]
    simp [lay, scan]
    (repeat' split) <;> first | rfl | (exfalso; simp_all; done) | (exfalso; simp_all; omega) | omega | (rename_i ys heq hy; subst hy; exfalso; (repeat' split at heq) <;> first | (cases heq; done) | (simp_all; done) | (simp_all; omega))
theorem chkv_3 (op r1 r2 x2 b1 d1 b2 d2 l1 l2 i2 : Int) (hi : isOp op = true) (hf : fmOf op = 3) : chk op 3 [op, 3, r1, r2, x2, b1, d1, b2, d2, l1, l2, i2] = if (0 ≤ r1 ∧ r1 < 16) ∧ (0 ≤ r2 ∧ r2 < 16) ∧ x2 = 0 ∧ b1 = 0 ∧ d1 = 0 ∧ (0 ≤ b2 ∧ b2 < 16) ∧ (0 ≤ d2 ∧ d2 < 4096) ∧ l1 = 0 ∧ l2 = 0 ∧ i2 = 0 then 0 else 6 := by
  unfold chk
  rw [if_pos ⟨hi, hf⟩]
  by_cases h : (0 ≤ r1 ∧ r1 < 16) ∧ (0 ≤ r2 ∧ r2 < 16) ∧ x2 = 0 ∧ b1 = 0 ∧ d1 = 0 ∧ (0 ≤ b2 ∧ b2 < 16) ∧ (0 ≤ d2 ∧ d2 < 4096) ∧ l1 = 0 ∧ l2 = 0 ∧ i2 = 0
  · rw [if_pos h]
    have hh := h
    simp [lay, scan]
    (repeat' split) <;> first | rfl | (exfalso; simp_all; done) | (exfalso; simp_all; omega) | omega | (rename_i ys heq hy; subst hy; exfalso; (repeat' split at heq) <;> first | (cases heq; done) | (simp_all; done) | (simp_all; omega))
  · rw [if_neg h]
    simp [lay, scan]
    (repeat' split) <;> first | rfl | (exfalso; simp_all; done) | (exfalso; simp_all; omega) | omega | (rename_i ys heq hy; subst hy; exfalso; (repeat' split at heq) <;> first | (cases heq; done) | (simp_all; done) | (simp_all; omega))
theorem chkv_4 (op r1 r2 x2 b1 d1 b2 d2 l1 l2 i2 : Int) (hi : isOp op = true) (hf : fmOf op = 4) : chk op 4 [op, 4, r1, r2, x2, b1, d1, b2, d2, l1, l2, i2] = if r1 = 0 ∧ r2 = 0 ∧ x2 = 0 ∧ (0 ≤ b1 ∧ b1 < 16) ∧ (0 ≤ d1 ∧ d1 < 4096) ∧ b2 = 0 ∧ d2 = 0 ∧ l1 = 0 ∧ l2 = 0 ∧ (0 ≤ i2 ∧ i2 < 256) then 0 else 6 := by
  unfold chk
  rw [if_pos ⟨hi, hf⟩]
  by_cases h : r1 = 0 ∧ r2 = 0 ∧ x2 = 0 ∧ (0 ≤ b1 ∧ b1 < 16) ∧ (0 ≤ d1 ∧ d1 < 4096) ∧ b2 = 0 ∧ d2 = 0 ∧ l1 = 0 ∧ l2 = 0 ∧ (0 ≤ i2 ∧ i2 < 256)
  · rw [if_pos h]
    have hh := h
    simp [lay, scan]
    (repeat' split) <;> first | rfl | (exfalso; simp_all; done) | (exfalso; simp_all; omega) | omega | (rename_i ys heq hy; subst hy; exfalso; (repeat' split at heq) <;> first | (cases heq; done) | (simp_all; done) | (simp_all; omega))
  · rw [if_neg h]
    simp [lay, scan]
    (repeat' split) <;> first | rfl | (exfalso; simp_all; done) | (exfalso; simp_all; omega) | omega | (rename_i ys heq hy; subst hy; exfalso; (repeat' split at heq) <;> first | (cases heq; done) | (simp_all; done) | (simp_all; omega))
theorem chkv_9 (op r1 r2 x2 b1 d1 b2 d2 l1 l2 i2 : Int) (hi : isOp op = true) (hf : fmOf op = 9) : chk op 9 [op, 9, r1, r2, x2, b1, d1, b2, d2, l1, l2, i2] = if r1 = 0 ∧ r2 = 0 ∧ x2 = 0 ∧ (0 ≤ b1 ∧ b1 < 16) ∧ (0 ≤ d1 ∧ d1 < 4096) ∧ b2 = 0 ∧ d2 = 0 ∧ l1 = 0 ∧ l2 = 0 ∧ i2 = 0 then 0 else 6 := by
  unfold chk
  rw [if_pos ⟨hi, hf⟩]
  by_cases h : r1 = 0 ∧ r2 = 0 ∧ x2 = 0 ∧ (0 ≤ b1 ∧ b1 < 16) ∧ (0 ≤ d1 ∧ d1 < 4096) ∧ b2 = 0 ∧ d2 = 0 ∧ l1 = 0 ∧ l2 = 0 ∧ i2 = 0
  · rw [if_pos h]
    have hh := h
    simp [lay, scan]
    (repeat' split) <;> first | rfl | (exfalso; simp_all; done) | (exfalso; simp_all; omega) | omega | (rename_i ys heq hy; subst hy; exfalso; (repeat' split at heq) <;> first | (cases heq; done) | (simp_all; done) | (simp_all; omega))
  · rw [if_neg h]
    simp [lay, scan]
    (repeat' split) <;> first | rfl | (exfalso; simp_all; done) | (exfalso; simp_all; omega) | omega | (rename_i ys heq hy; subst hy; exfalso; (repeat' split at heq) <;> first | (cases heq; done) | (simp_all; done) | (simp_all; omega))
theorem chkv_5 (op r1 r2 x2 b1 d1 b2 d2 l1 l2 i2 : Int) (hi : isOp op = true) (hf : fmOf op = 5) : chk op 5 [op, 5, r1, r2, x2, b1, d1, b2, d2, l1, l2, i2] = if r1 = 0 ∧ r2 = 0 ∧ x2 = 0 ∧ (0 ≤ b1 ∧ b1 < 16) ∧ (0 ≤ d1 ∧ d1 < 4096) ∧ (0 ≤ b2 ∧ b2 < 16) ∧ (0 ≤ d2 ∧ d2 < 4096) ∧ (0 ≤ l1 ∧ l1 < 256) ∧ l2 = 0 ∧ i2 = 0 then 0 else 6 := by
  unfold chk
  rw [if_pos ⟨hi, hf⟩]
  by_cases h : r1 = 0 ∧ r2 = 0 ∧ x2 = 0 ∧ (0 ≤ b1 ∧ b1 < 16) ∧ (0 ≤ d1 ∧ d1 < 4096) ∧ (0 ≤ b2 ∧ b2 < 16) ∧ (0 ≤ d2 ∧ d2 < 4096) ∧ (0 ≤ l1 ∧ l1 < 256) ∧ l2 = 0 ∧ i2 = 0
  · rw [if_pos h]
    have hh := h
    simp [lay, scan]
    (repeat' split) <;> first | rfl | (exfalso; simp_all; done) | (exfalso; simp_all; omega) | omega | (rename_i ys heq hy; subst hy; exfalso; (repeat' split at heq) <;> first | (cases heq; done) | (simp_all; done) | (simp_all; omega))
  · rw [if_neg h]
    simp [lay, scan]
    (repeat' split) <;> first | rfl | (exfalso; simp_all; done) | (exfalso; simp_all; omega) | omega | (rename_i ys heq hy; subst hy; exfalso; (repeat' split at heq) <;> first | (cases heq; done) | (simp_all; done) | (simp_all; omega))
theorem chkv_6 (op r1 r2 x2 b1 d1 b2 d2 l1 l2 i2 : Int) (hi : isOp op = true) (hf : fmOf op = 6) : chk op 6 [op, 6, r1, r2, x2, b1, d1, b2, d2, l1, l2, i2] = if r1 = 0 ∧ r2 = 0 ∧ x2 = 0 ∧ (0 ≤ b1 ∧ b1 < 16) ∧ (0 ≤ d1 ∧ d1 < 4096) ∧ (0 ≤ b2 ∧ b2 < 16) ∧ (0 ≤ d2 ∧ d2 < 4096) ∧ (0 ≤ l1 ∧ l1 < 16) ∧ (0 ≤ l2 ∧ l2 < 16) ∧ i2 = 0 then 0 else 6 := by
  unfold chk
  rw [if_pos ⟨hi, hf⟩]
  by_cases h : r1 = 0 ∧ r2 = 0 ∧ x2 = 0 ∧ (0 ≤ b1 ∧ b1 < 16) ∧ (0 ≤ d1 ∧ d1 < 4096) ∧ (0 ≤ b2 ∧ b2 < 16) ∧ (0 ≤ d2 ∧ d2 < 4096) ∧ (0 ≤ l1 ∧ l1 < 16) ∧ (0 ≤ l2 ∧ l2 < 16) ∧ i2 = 0
  · rw [if_pos h]
    have hh := h
    simp [lay, scan]
    (repeat' split) <;> first | rfl | (exfalso; simp_all; done) | (exfalso; simp_all; omega) | omega | (rename_i ys heq hy; subst hy; exfalso; (repeat' split at heq) <;> first | (cases heq; done) | (simp_all; done) | (simp_all; omega))
  · rw [if_neg h]
    simp [lay, scan]
    (repeat' split) <;> first | rfl | (exfalso; simp_all; done) | (exfalso; simp_all; omega) | omega | (rename_i ys heq hy; subst hy; exfalso; (repeat' split at heq) <;> first | (cases heq; done) | (simp_all; done) | (simp_all; omega))
theorem fm_in : ∀ k, k < 97 → 1 ≤ fmK k ∧ fmK k ≤ 9 := by decide +kernel
theorem fm_cases {op : Int} (h : isOp op = true) : 1 ≤ fmOf op ∧ fmOf op ≤ 9 := by
  unfold isOp at h; rw [decide_eq_true_iff] at h
  unfold fmOf
  rw [if_pos h]; exact fm_in (ix op) h
theorem chk_rng {op fm r1 r2 x2 b1 d1 b2 d2 l1 l2 i2 : Int} (h : chk op fm [op, fm, r1, r2, x2, b1, d1, b2, d2, l1, l2, i2] = 0) : isOp op = true ∧ fmOf op = fm ∧ (0 ≤ r1 ∧ r1 < 16) ∧ (0 ≤ r2 ∧ r2 < 16) ∧ (0 ≤ x2 ∧ x2 < 16) ∧ (0 ≤ b1 ∧ b1 < 16) ∧ (0 ≤ d1 ∧ d1 < 4096) ∧ (0 ≤ b2 ∧ b2 < 16) ∧ (0 ≤ d2 ∧ d2 < 4096) ∧ (0 ≤ l1 ∧ l1 < 256) ∧ (0 ≤ l2 ∧ l2 < 16) ∧ (0 ≤ i2 ∧ i2 < 256) := by
  have hi : isOp op = true ∧ fmOf op = fm := by
    unfold chk at h
    by_cases hc : isOp op = true ∧ fmOf op = fm
    · exact hc
    · rw [if_neg hc] at h; cases h
  obtain ⟨h1, h2⟩ := hi
  obtain ⟨f1, f2⟩ := fm_cases h1
  rw [h2] at f1 f2
  refine ⟨h1, h2, ?_⟩
  have hf : fm = 1 ∨ fm = 7 ∨ fm = 8 ∨ fm = 2 ∨ fm = 3 ∨ fm = 4 ∨ fm = 9 ∨ fm = 5 ∨ fm = 6 := by omega
  rcases hf with rfl | rfl | rfl | rfl | rfl | rfl | rfl | rfl | rfl
  · rw [chkv_1 _ _ _ _ _ _ _ _ _ _ _ h1 h2] at h; split at h <;> omega
  · rw [chkv_7 _ _ _ _ _ _ _ _ _ _ _ h1 h2] at h; split at h <;> omega
  · rw [chkv_8 _ _ _ _ _ _ _ _ _ _ _ h1 h2] at h; split at h <;> omega
  · rw [chkv_2 _ _ _ _ _ _ _ _ _ _ _ h1 h2] at h; split at h <;> omega
  · rw [chkv_3 _ _ _ _ _ _ _ _ _ _ _ h1 h2] at h; split at h <;> omega
  · rw [chkv_4 _ _ _ _ _ _ _ _ _ _ _ h1 h2] at h; split at h <;> omega
  · rw [chkv_9 _ _ _ _ _ _ _ _ _ _ _ h1 h2] at h; split at h <;> omega
  · rw [chkv_5 _ _ _ _ _ _ _ _ _ _ _ h1 h2] at h; split at h <;> omega
  · rw [chkv_6 _ _ _ _ _ _ _ _ _ _ _ h1 h2] at h; split at h <;> omega
end Go.Proofs.YthjdjbipfdigeaaGreat

namespace Go.Proofs.YthjdjbipfdigeaaGreat
open Go.RowKit
set_option maxRecDepth 100000
set_option linter.unusedVariables false
set_option linter.unusedSimpArgs false
/-- how a group of instructions ends -/
def Gd (w0 w' : World) (g : Nat) (G : Foot) (I : In) (os : List Int) (p : Ps) (ks : List Int) (o : Out) : Prop := ∃ rs q c bs, RS w0 w' g G I os rs p q c bs ks ∧ (o.c ≠ 0 → c = o.c) ∧ (o.c = 0 → c = (if o.ov = true ∧ 8 ≤ p.pg then 8 else 0) ∧ rs = o.rs ∧ q = { p with cc := o.cc, pg := o.pg, ad := o.ad } ∧ bs = o.bs)
structure Ps.ok (p : Ps) : Prop where
  il : 0 ≤ p.il ∧ p.il ≤ 3
  cc : 0 ≤ p.cc ∧ p.cc ≤ 3
  pg : 0 ≤ p.pg ∧ p.pg ≤ 15
  ad : 0 ≤ p.ad ∧ p.ad ≤ 16777215
section
variable {w0 w : World} {g : Nat} {G : Foot} {I : In} {os rs : List Int} {p q : Ps} {c : Int} {bs ks : List Int}
theorem gd_ok {o : Out} (hR : RS w0 w g G I os rs p q c bs ks) (h0 : o.c = 0) (h1 : c = if o.ov = true ∧ 8 ≤ p.pg then 8 else 0) (h2 : rs = o.rs) (h3 : q = { p with cc := o.cc, pg := o.pg, ad := o.ad }) (h4 : bs = o.bs) : Gd w0 w g G I os p ks o := ⟨_, _, _, _, hR, fun h => absurd h0 h, fun _ => ⟨h1, h2, h3, h4⟩⟩
theorem gd_no {o : Out} (hR : RS w0 w g G I os rs p q c bs ks) (h0 : o.c ≠ 0) (h1 : c = o.c) : Gd w0 w g G I os p ks o := ⟨_, _, _, _, hR, fun _ => h1, fun h => absurd h h0⟩
theorem gd_br {t : Bool} {V : Int} (hR : RS w0 w g G I os rs p (if t = true then { p with ad := V } else p) 0 bs ks) : Gd w0 w g G I os p ks (Pre.br ⟨os, p.key, p.il, p.cc, p.pg, p.ad, bs, ks⟩ rs t V) := by
  refine gd_ok hR rfl rfl rfl ?_ rfl
  cases t <;> rfl
theorem tgV_in (I : In) {os : List Int} (ro : ∀ z ∈ os, 0 ≤ z ∧ z ≤ 4294967295) : 0 ≤ tgV I os ∧ tgV I os ≤ 4294967295 := by
  unfold tgV
  split
  · exact getD_in ro _
  · have := I.a_in os; omega
set_option maxRecDepth 1000000 in
set_option maxHeartbeats 8000000 in
theorem rbr_4 (h : RS w0 w g G I os os p p 0 bs ks) (ho : I.op = 4) : Calls Tryz.prog 25 #[.pointer (some ⟨g, 0, none⟩)] w fun e w' => e = .returned (.tuple #[]) ∧ Gd w0 w' g G I os p ks ⟨0, os, os.getD I.n 0 / 268435456 % 4, os.getD I.n 0 / 16777216 % 16, p.ad, false, bs⟩ := by
  obtain ⟨u, hu⟩ : ∃ u, os.getD I.n 0 = u := ⟨_, rfl⟩
  obtain ⟨v, hv⟩ : ∃ v, os.getD I.k 0 = v := ⟨_, rfl⟩
  have u0 := getD_in h.ro I.n
  have v0 := getD_in h.ro I.k
  rw [hu] at u0 ⊢
  rw [hv] at v0
  have HU := Lib.hid hu
  have HV := Lib.hid hv
  have HO := Lib.hid ho
  have R0 := Lib.hid h
  clear hu hv ho h
  go_enter Tryz.func25, Tryz.ntmps25
  go_upto_region 0 with fail
  refine wp_region_held_drew (S := Sx w0 g G I os p) (by kernel_rfl) R0.out.drew.x (fun hHeld => ?_)
  replace R0 := Lib.hid R0.out.drew
  repeat refine tkr ?_
  refine wpAnyH_done (by kernel_rfl) ?_ _
  refine R0.out.opn ?_
  clear hHeld
  intros
  go_wp2_with (go_at_call 54; refine nx (rtarget_c hout) fun w1 R1 => R1.out.opn ?_; intros)
  first | go_end0 | refine bodyPost_ret (results_none rfl _ _ _) rfl ?_
  exact ⟨rfl, gd_ok (((hout : RS w0 _ g G I os os p p 0 bs ks).setcc _).setpg _) rfl rfl rfl rfl rfl⟩
set_option maxRecDepth 1000000 in
set_option maxHeartbeats 8000000 in
theorem rbr_6 (h : RS w0 w g G I os os p p 0 bs ks) (ho : I.op = 6 ∨ I.op = 70) : Calls Tryz.prog 25 #[.pointer (some ⟨g, 0, none⟩)] w fun e w' => e = .returned (.tuple #[]) ∧ Gd w0 w' g G I os p ks (Pre.br ⟨os, p.key, p.il, p.cc, p.pg, p.ad, bs, ks⟩ (os.set I.n (lo32 (os.getD I.n 0 - 1))) (tgB I && (os.getD I.n 0 != 1)) (tgV I os % 16777216)) := by
  obtain ⟨u, hu⟩ : ∃ u, os.getD I.n 0 = u := ⟨_, rfl⟩
  obtain ⟨v, hv⟩ : ∃ v, os.getD I.k 0 = v := ⟨_, rfl⟩
  have u0 := getD_in h.ro I.n
  have v0 := getD_in h.ro I.k
  rw [hu] at u0 ⊢
  rw [hv] at v0
  obtain ⟨V, hV⟩ : ∃ V, tgV I os = V := ⟨_, rfl⟩
  obtain ⟨t, ht⟩ : ∃ t, tgB I = t := ⟨_, rfl⟩
  have V0 := tgV_in I h.ro
  rw [hV] at V0
  rw [hV, ht]
  have RT := Lib.hid (fun W q (hW : RS w0 W g G I os os p q 0 bs ks) => show Calls Tryz.prog 54 #[.pointer (some ⟨g, 0, none⟩)] W fun e w' => e = .returned (.tuple #[.int .i64 V, .bool t]) ∧ RS w0 w' g G I os os p q 0 bs ks from by have := rtarget_c hW; rw [hV, ht] at this; exact this)
  clear hV ht
  rcases ho with ho | ho <;> cases t <;> cases hb : (u != 1)
  all_goals
    have HU := Lib.hid hu
    have HV := Lib.hid hv
    have HO := Lib.hid ho
    have R0 := Lib.hid h
    clear hu hv ho h
    go_enter Tryz.func25, Tryz.ntmps25
    go_upto_region 0 with fail
    refine wp_region_held_drew (S := Sx w0 g G I os p) (by kernel_rfl) R0.out.drew.x (fun hHeld => ?_)
    replace R0 := Lib.hid R0.out.drew
    repeat refine tkr ?_
    refine wpAnyH_done (by kernel_rfl) ?_ _
    refine R0.out.opn ?_
    clear hHeld
    intros
    go_upto_region 11 with (first
        | (go_at_call 54; refine nx (RT.out _ _ hout) fun w1 R1 => R1.out.opn ?_; intros))
    refine wp_region_held_drew (S := Sx w0 g G I os p) (by kernel_rfl) R1.out.drew.x (fun hHeld => ?_)
    replace R1 := Lib.hid R1.out.drew
    repeat refine tkr ?_
    have cS := R1.out.cr (n := I.n) (R1.out.ix.n)
    have fS := R1.out.fz
    refine tkw (R := fun w' => RS w0 w' g G I os (os.set I.n (IntKind.u32.wrap (u - 1))) p p 0 bs ks) (R1.out.setr (R1.out.ix.n) _) (fun _ h => h.x) ?_
    clear cS fS R1 hHeld
    intro w1 R1 hHeld
    refine wpAnyH_done (by kernel_rfl) ?_ _
    refine R1.out.opn ?_
    clear hHeld
    intros
    go_wp2_with (first
        | (go_at_call 57; refine nx (rbranch_a hout _ (by omega) (by omega)) ?_; intro w1 R1))
    first | go_end0 | refine bodyPost_ret (results_none rfl _ _ _) rfl ?_
    exact ⟨rfl, gd_br (by first | exact hout | (simp only [Bool.and_true, Bool.and_false, Bool.true_and, Bool.false_and]; exact hout))⟩
end
end Go.Proofs.YthjdjbipfdigeaaGreat

