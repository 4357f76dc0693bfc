/- Contracts and laws on the way to the statement, text 9 of 25. Conditions: as each states them. -/
import Derived.Test.YthjdjbipfdigeaaCg2
import Derived.Test.YthjdjbipfdigeaaCg4
import Derived.Test.YthjdjbipfdigeaaCg6
import Derived.Test.YthjdjbipfdigeaaCg7
import Derived.Test.YthjdjbipfdigeaaCg8
namespace Go.Proofs.Ythjdjbipfdigeaa
open Go.RowKit
set_option maxRecDepth 100000
set_option linter.unusedVariables false
set_option linter.unusedSimpArgs false
theorem calls_R' {P : Program} {f : Nat} {args : Array Value} {w : World} {Q : World → Prop} (h : ∀ R : World → Prop, (∀ w', Q w' → R w') → Calls P f args w fun e w' => e = .returned (.tuple #[]) ∧ R w') : Calls P f args w fun e w' => e = .returned (.tuple #[]) ∧ Q w' := h Q (fun _ h => h)
def clc : List Int → List Int → Int
  | x :: xs, y :: ys => if x = y then clc xs ys else sgn (x - y)
  | _, _ => 0
theorem drop_cons (l : List Int) (k : Nat) (h : k < l.length) : l.drop k = l.getD k 0 :: l.drop (k + 1) := by
  rw [List.drop_eq_getElem_cons h, List.getD_eq_getElem?_getD, List.getElem?_eq_getElem h]; rfl
set_option maxRecDepth 1000000 in
set_option maxHeartbeats 8000000 in
theorem clc_no1 (g N : Nat) (F : Foot) (is os rs : List Int) (ps : List Value) (ov : Bool) (bs ks : List Int) (key a b : Int) (w : World) (h : MS w g F is os rs ps ov bs ks) (hl : is.getD 9 0 + 1 = (N : Int)) (hN : N ≤ 256) (hkey : ps.getD 1 undef = .int .i64 key) (hfir : ∀ W, MS W g F is os rs ps ov bs ks → Calls Try.prog 71 #[.pointer (some ⟨g, 0, none⟩)] W fun e w' => e = .returned (.int .i64 a) ∧ Ch W w' []) (hsec : ∀ W, MS W g F is os rs ps ov bs ks → Calls Try.prog 44 #[.pointer (some ⟨g, 0, none⟩)] W fun e w' => e = .returned (.int .i64 b) ∧ Ch W w' []) (ha0 : 0 ≤ a) (ha1 : a ≤ 16777215) (hb0 : 0 ≤ b) (hb1 : b ≤ 16777215) (c : Int) (hc : sCode (alF key) bs.length ks a N = c) (hc0 : c ≠ 0) : Calls Try.prog 81 #[.pointer (some ⟨g, 0, none⟩)] w fun e w' => e = .panicked [{ v := .iface 65 (.int .i64 c), recovered := false }] ∧ MS w' g F is os rs ps ov bs ks ∧ Ch w w' [] := by
  have s9 : w.cell? ⟨g, 9, none⟩ = some (.int .i64 (is.getD 9 0)) := h.m.ci (c := 9) (by omega)
  obtain ⟨l1, hl1⟩ : ∃ l, is.getD 9 0 = l := ⟨_, rfl⟩
  rw [hl1] at hl s9
  have HM := Lib.hid h
  have HL := Lib.hid hl1
  have HK := Lib.hid hkey
  have FC := Lib.hid hfir
  have SC := Lib.hid hsec
  have D0 := Lib.hid (Ch.refl w ([] : List Nat))
  have wl : IntKind.i64.wrap (l1 + 1) = (N : Int) := by rw [wrap_i64_id (by omega) (by omega)]; exact hl
  have HC := Lib.hid hc
  have HC0 := Lib.hid hc0
  clear h hkey hfir hsec hl1 hc hc0
  go_enter Try.func81, Try.ntmps81
  go_wp2_with (first
    | (go_at_call 71; refine (FC.out _ HM.out).mono ?_; rintro e w1 ⟨rfl, hcs⟩; have M1 := Lib.hid (HM.out.ch hcs); have C1 := Lib.hid (D0.out.trans hcs); clear hcs)
    | (go_at_call 68; refine (fetch_no g F is os rs ps ov bs ks a (N : Int) key _ M1.out HK.out c HC.out HC0.out).mono ?_; rintro e w9 ⟨rfl, hM, hCh⟩; have M9 := Lib.hid hM; have C9 := Lib.hid (C1.out.trans hCh); clear hM hCh))
  exact ⟨rfl, rfl, M9.out, C9.out⟩
set_option maxRecDepth 1000000 in
set_option maxHeartbeats 8000000 in
theorem clc_no2 (g N : Nat) (F : Foot) (is os rs : List Int) (ps : List Value) (ov : Bool) (bs ks : List Int) (key a b : Int) (w : World) (h : MS w g F is os rs ps ov bs ks) (hl : is.getD 9 0 + 1 = (N : Int)) (hN : N ≤ 256) (hkey : ps.getD 1 undef = .int .i64 key) (hfir : ∀ W, MS W g F is os rs ps ov bs ks → Calls Try.prog 71 #[.pointer (some ⟨g, 0, none⟩)] W fun e w' => e = .returned (.int .i64 a) ∧ Ch W w' []) (hsec : ∀ W, MS W g F is os rs ps ov bs ks → Calls Try.prog 44 #[.pointer (some ⟨g, 0, none⟩)] W fun e w' => e = .returned (.int .i64 b) ∧ Ch W w' []) (ha0 : 0 ≤ a) (ha1 : a ≤ 16777215) (hb0 : 0 ≤ b) (hb1 : b ≤ 16777215) (hf1 : sCode (alF key) bs.length ks a N = 0) (c : Int) (hc : sCode (alF key) bs.length ks b N = c) (hc0 : c ≠ 0) : Calls Try.prog 81 #[.pointer (some ⟨g, 0, none⟩)] w fun e w' => e = .panicked [{ v := .iface 65 (.int .i64 c), recovered := false }] ∧ MS w' g F is os rs ps ov bs ks ∧ Ch w w' [] := by
  have s9 : w.cell? ⟨g, 9, none⟩ = some (.int .i64 (is.getD 9 0)) := h.m.ci (c := 9) (by omega)
  obtain ⟨l1, hl1⟩ : ∃ l, is.getD 9 0 = l := ⟨_, rfl⟩
  rw [hl1] at hl s9
  have HM := Lib.hid h
  have HL := Lib.hid hl1
  have HK := Lib.hid hkey
  have FC := Lib.hid hfir
  have SC := Lib.hid hsec
  have D0 := Lib.hid (Ch.refl w ([] : List Nat))
  have wl : IntKind.i64.wrap (l1 + 1) = (N : Int) := by rw [wrap_i64_id (by omega) (by omega)]; exact hl
  have HF1 := Lib.hid hf1
  have HC := Lib.hid hc
  have HC0 := Lib.hid hc0
  clear h hkey hfir hsec hl1 hf1 hc hc0
  go_enter Try.func81, Try.ntmps81
  go_wp2_with (go_at_call 71; refine (FC.out _ HM.out).mono ?_; rintro e w1 ⟨rfl, hcs⟩; have M1 := Lib.hid (HM.out.ch hcs); have C1 := Lib.hid (D0.out.trans hcs); clear hcs)
  refine (fetch_m g F is os rs ps ov bs ks a (N : Int) key _ M1.out HK.out HF1.out).mono ?_
  rintro e w3 ⟨A3, m3, c3, rfl, hO, hM, hCh⟩
  have M3 := Lib.hid hM
  have C3 := Lib.hid (C1.out.trans hCh)
  clear hO hM hCh
  go_wp2_with (first
    | (go_at_call 44; refine (SC.out _ M3.out).mono ?_; rintro e w2 ⟨rfl, hcs⟩; have M2 := Lib.hid (M3.out.ch hcs); have C2 := Lib.hid (C3.out.trans hcs); clear hcs)
    | (go_at_call 68; refine (fetch_no g F is os rs ps ov bs ks b (N : Int) key _ M2.out HK.out c HC.out HC0.out).mono ?_; rintro e w9 ⟨rfl, hM, hCh⟩; have M9 := Lib.hid hM; have C9 := Lib.hid (C2.out.trans hCh); clear hM hCh))
  exact ⟨rfl, rfl, M9.out, C9.out⟩
set_option maxRecDepth 1000000 in
set_option maxHeartbeats 8000000 in
theorem clc_m (g N : Nat) (F : Foot) (is os rs : List Int) (ps : List Value) (ov : Bool) (bs ks : List Int) (key a b : Int) (w : World) (h : MS w g F is os rs ps ov bs ks) (hl : is.getD 9 0 + 1 = (N : Int)) (hN : N ≤ 256) (hkey : ps.getD 1 undef = .int .i64 key) (hfir : ∀ W, MS W g F is os rs ps ov bs ks → Calls Try.prog 71 #[.pointer (some ⟨g, 0, none⟩)] W fun e w' => e = .returned (.int .i64 a) ∧ Ch W w' []) (hsec : ∀ W, MS W g F is os rs ps ov bs ks → Calls Try.prog 44 #[.pointer (some ⟨g, 0, none⟩)] W fun e w' => e = .returned (.int .i64 b) ∧ Ch W w' []) (ha0 : 0 ≤ a) (ha1 : a ≤ 16777215) (hb0 : 0 ≤ b) (hb1 : b ≤ 16777215) (hN1 : 1 ≤ N) (hf1 : sCode (alF key) bs.length ks a N = 0) (hf2 : sCode (alF key) bs.length ks b N = 0) : Calls Try.prog 81 #[.pointer (some ⟨g, 0, none⟩)] w fun e w' => e = .returned (.tuple #[]) ∧ MS w' g F is os rs (ps.set 7 (.int .i64 (clc (sGet bs a N) (sGet bs b N)))) ov bs ks ∧ Ch w w' [g] := by
  have s9 : w.cell? ⟨g, 9, none⟩ = some (.int .i64 (is.getD 9 0)) := h.m.ci (c := 9) (by omega)
  obtain ⟨l1, hl1⟩ : ∃ l, is.getD 9 0 = l := ⟨_, rfl⟩
  rw [hl1] at hl s9
  have HM := Lib.hid h
  have HL := Lib.hid hl1
  have HK := Lib.hid hkey
  have FC := Lib.hid hfir
  have SC := Lib.hid hsec
  have D0 := Lib.hid (Ch.refl w ([] : List Nat))
  have wl : IntKind.i64.wrap (l1 + 1) = (N : Int) := by rw [wrap_i64_id (by omega) (by omega)]; exact hl
  have HF1 := Lib.hid hf1
  have HF2 := Lib.hid hf2
  have lx := sGet_leng hf1
  have ly := sGet_leng hf2
  obtain ⟨xs, hxs⟩ : ∃ x, sGet bs a N = x := ⟨_, rfl⟩
  obtain ⟨ys, hys⟩ : ∃ y, sGet bs b N = y := ⟨_, rfl⟩
  rw [hxs] at lx ⊢
  rw [hys] at ly ⊢
  have HXS := Lib.hid hxs
  have HYS := Lib.hid hys
  obtain ⟨q, hq⟩ : ∃ q, clc xs ys = q := ⟨_, rfl⟩
  rw [hq]
  have HQ := Lib.hid hq
  refine calls_R' (fun R hR => ?_)
  have HR := Lib.hid hR
  clear h hkey hfir hsec hl1 hf1 hf2 hxs hys hq hR
  go_enter Try.func81, Try.ntmps81
  go_wp2_with (go_at_call 71; refine (FC.out _ HM.out).mono ?_; rintro e w1 ⟨rfl, hcs⟩; have M1 := Lib.hid (HM.out.ch hcs); have C1 := Lib.hid (D0.out.trans hcs); clear hcs)
  refine (fetch_m g F is os rs ps ov bs ks a (N : Int) key _ M1.out HK.out HF1.out).mono ?_
  rintro e w3 ⟨A3, m3, c3, rfl, hO, hM, hCh⟩
  rw [HXS.out] at hO
  have M3 := Lib.hid hM
  have C3 := Lib.hid (C1.out.trans hCh)
  have hm3 : m3 = N := by have := hO.byt.1; omega
  subst hm3
  obtain ⟨gx, cx, hv, hgx, hlx, -, -⟩ := hO.pos (by omega)
  injection hv with hv1 hv2 hv3
  subst hv1 hv3
  have RX3 := Lib.hid hO.ro
  have BX := Lib.hid (And.intro hgx hlx)
  clear hO hM hCh hgx hlx
  go_wp2_with (go_at_call 44; refine (SC.out _ M3.out).mono ?_; rintro e w2 ⟨rfl, hcs⟩; have M2 := Lib.hid (M3.out.ch hcs); have C2 := Lib.hid (C3.out.trans hcs); have K2 := Lib.hid hcs; clear hcs)
  refine (fetch_m g F is os rs ps ov bs ks b (m3 : Int) key _ M2.out HK.out HF2.out).mono ?_
  rintro e w4 ⟨A4, m4, c4, rfl, hO, hM, hCh⟩
  rw [HYS.out] at hO
  have M4 := Lib.hid hM
  have C4 := Lib.hid (C2.out.trans hCh)
  have hm4 : m4 = m3 := by have := hO.byt.1; omega
  subst hm4
  obtain ⟨gy, cy, hv, hgy, hly, -, -⟩ := hO.pos (by omega)
  injection hv with hv1 hv2 hv3
  subst hv1 hv3
  have RY4 := Lib.hid hO.ro
  have RX4 := Lib.hid ((RX3.out.belowS (K2.out.below (Nat.le_refl _) (by simp))).belowS (hCh.below (Nat.le_refl _) (by simp)))
  have hgm : g ≠ gx ∧ g ≠ gy := by
    have h1 := M1.out.m.lt
    have h2 := M2.out.m.lt
    have h3 := BX.out
    omega
  obtain ⟨hg1, hg2⟩ := hgm
  have c7 := M4.out.m.cp (n := 7) (by omega)
  have f7 := M4.out.m.free 51
  clear hO hM hCh hgy hly RX3 BX M1 M2 M3 C1 C2 C3 HM D0 s9
  go_upto_region 4 with fail
  have M5 := Lib.hid (M4.out.setp (n := 7) (by omega) (.int .i64 0))
  have RX5 := Lib.hid (RX4.out.other (p := ⟨g, 51, none⟩) (.int .i64 0) hg1)
  have RY5 := Lib.hid (RY4.out.other (p := ⟨g, 51, none⟩) (.int .i64 0) hg2)
  have C5 := Lib.hid (show Ch w (w4.setCell ⟨g, 51, none⟩ (.int .i64 0)) [g] from (C4.out.mono (by simp)).setCell (by simp) _)
  obtain ⟨W5, hW5⟩ : ∃ W5, w4.setCell ⟨g, 51, none⟩ (.int .i64 0) = W5 := ⟨_, rfl⟩
  rw [show (⟨g, 44 + 7, none⟩ : Addr) = ⟨g, 51, none⟩ from rfl, hW5] at M5
  rw [hW5] at RX5 RY5 C5
  try rw [hW5]
  clear hW5 c7 f7 hg1 hg2 M4 RX4 RY4 C4
  go_loopw [28] (fun x W => ∃ k : Nat, k ≤ m4 ∧ x = .int .i64 (k : Int) ∧ clc xs ys = clc (xs.drop k) (ys.drop k) ∧ ∃ n, W = W5.drewN n) (fun x _ => m4 - (intOf x).toNat)
  case atStart => exact ⟨0, by omega, rfl, rfl, 0, rfl⟩
  case round =>
    obtain ⟨k, hk, rfl, hcl, nd, rfl⟩ := hrel
    have HCL := Lib.hid hcl
    clear hcl
    by_cases hlt : k < m4
    · have i0 : (k : Int) < (m4 : Int) := by omega
      have i1 : (0 : Int) ≤ (k : Int) := by omega
      obtain ⟨x, hx⟩ : ∃ x, xs.getD k 0 = x := ⟨_, rfl⟩
      obtain ⟨y, hy⟩ : ∃ y, ys.getD k 0 = y := ⟨_, rfl⟩
      have x01 := RX5.out.rangeD k
      rw [hx] at x01
      have y01 := RY5.out.rangeD k
      rw [hy] at y01
      obtain ⟨x0, x1⟩ := x01
      obtain ⟨y0, y1⟩ := y01
      have cxk : W5.cell? ⟨gx, k, none⟩ = some (.int .u8 x) := by rw [← hx]; exact RX5.out.cell (i := k) (by omega)
      have cyk : W5.cell? ⟨gy, k, none⟩ = some (.int .u8 y) := by rw [← hy]; exact RY5.out.cell (i := k) (by omega)
      have CD := Lib.hid (show clc xs ys = if x = y then clc (xs.drop (k + 1)) (ys.drop (k + 1)) else sgn (x - y) from by rw [HCL.out, drop_cons xs k (by omega), drop_cons ys k (by omega), hx, hy]; rfl)
      clear hx hy
      by_cases hxy : x = y
      · have e1 : (x != y) = false := by simpa using hxy
        have CD1 := Lib.hid (show clc xs ys = clc (xs.drop (k + 1)) (ys.drop (k + 1)) from by rw [CD.out, if_pos hxy])
        clear hxy
        go_upto_region 6 with fail
        go_region
        all_goals
          go_wp2
          exact ⟨⟨k + 1, by omega, rfl, CD1.out, nd + 1, rfl⟩, by simp [intOf]; omega⟩
      · have e1 : (x != y) = true := by simpa using hxy
        have u1 : IntKind.u32.wrap x = x := by rw [IntKind.wrap_u32]; omega
        have u2 : IntKind.u32.wrap y = y := by rw [IntKind.wrap_u32]; omega
        have QV := Lib.hid (show sgn (x - y) = q from by rw [← HQ.out, CD.out, if_neg hxy])
        have KC := Lib.hid (fun W => comparel_c x y x0 (by omega) y0 (by omega) W)
        simp only [QV.out] at KC
        have c7 := M5.out.m.cp (n := 7) (by omega)
        have f7 := M5.out.m.free 51
        clear hxy
        go_upto_region 6 with fail
        go_region
        all_goals
          go_upto_region 7 with fail
          refine wp_region_held_drew (S := fun _ => True) (by kernel_rfl) trivial (fun _ => ?_)
          refine' takeL (i := 0) (v := _) rfl (by kernel_rfl) (by kernel_rfl) (by kernel_rfl) (fun _ _ _ h => h) (Or.inl ⟨by rfl, ?yy1⟩) (by assumption) ?rr1
          case yy1 => intro w hSw; (try dsimp only at hSw); go_simp; (try with_reducible rfl)
          try simp only [Act.put, List.setIfInBounds_toArray, List.set_cons_zero, List.set_cons_succ]
          refine' takeL (i := 1) (v := _) rfl (by kernel_rfl) (by kernel_rfl) (by kernel_rfl) (fun _ _ _ h => h) (Or.inl ⟨by rfl, ?yy2⟩) (by assumption) ?rr2
          case yy2 => intro w hSw; (try dsimp only at hSw); go_simp; (try with_reducible rfl)
          try simp only [Act.put, List.setIfInBounds_toArray, List.set_cons_zero, List.set_cons_succ]
          refine' takeL (i := 2) (v := _) rfl (by kernel_rfl) (by kernel_rfl) (by kernel_rfl) (fun _ _ _ h => h) (Or.inl ⟨by rfl, ?yy3⟩) (by assumption) ?rr3
          case yy3 => intro w hSw; (try dsimp only at hSw); go_simp; (try with_reducible rfl)
          try simp only [Act.put, List.setIfInBounds_toArray, List.set_cons_zero, List.set_cons_succ]
          refine' takeL (i := 3) (v := _) rfl (by kernel_rfl) (by kernel_rfl) (by kernel_rfl) (fun _ _ _ h => h) (Or.inl ⟨by rfl, ?yy4⟩) (by assumption) ?rr4
          case yy4 => intro w hSw; (try dsimp only at hSw); go_simp; (try with_reducible rfl)
          try simp only [Act.put, List.setIfInBounds_toArray, List.set_cons_zero, List.set_cons_succ]
          refine' takeL (i := 6) (v := _) rfl (by kernel_rfl) (by kernel_rfl) (by kernel_rfl) (fun _ _ _ h => h) (Or.inl ⟨by rfl, ?yy5⟩) (by assumption) ?rr5
          case yy5 => intro w hSw; (try dsimp only at hSw); go_simp; (try with_reducible rfl)
          try simp only [Act.put, List.setIfInBounds_toArray, List.set_cons_zero, List.set_cons_succ]
          refine' takeL (i := 7) (v := _) rfl (by kernel_rfl) (by kernel_rfl) (by kernel_rfl) (fun _ _ _ h => h) (Or.inl ⟨by rfl, ?yy6⟩) (by assumption) ?rr6
          case yy6 => intro w hSw; (try dsimp only at hSw); go_simp; (try with_reducible rfl)
          try simp only [Act.put, List.setIfInBounds_toArray, List.set_cons_zero, List.set_cons_succ]
          refine' takeL (i := 8) (v := _) rfl (by kernel_rfl) (by kernel_rfl) (by kernel_rfl) (fun _ _ _ h => h) (Or.inl ⟨by rfl, ?yy7⟩) (by assumption) ?rr7
          case yy7 => intro w hSw; (try dsimp only at hSw); go_simp; (try with_reducible rfl)
          try simp only [Act.put, List.setIfInBounds_toArray, List.set_cons_zero, List.set_cons_succ]
          refine wpAnyH_ready (rs := [4, 9]) (by kernel_rfl) (by simp) ?_
          refine consL rfl (fun K hK => ?_) ?_
          · go_simp
            refine hK.out _ _ trivial (fun _ => ?_)
            clear hK K
            try simp only [Act.put, List.setIfInBounds_toArray, List.set_cons_zero, List.set_cons_succ]
            refine' takeL (i := 5) (v := _) rfl (by kernel_rfl) (by kernel_rfl) (by kernel_rfl) (fun _ _ _ h => h) (Or.inl ⟨by rfl, ?yy8⟩) (by assumption) ?rr8
            case yy8 => intro w hSw; (try dsimp only at hSw); go_simp; (try with_reducible rfl)
            try simp only [Act.put, List.setIfInBounds_toArray, List.set_cons_zero, List.set_cons_succ]
            refine wpAnyH_ready (rs := [9]) (by kernel_rfl) (by simp) ?_
            refine consL rfl (fun K hK => ?_) AllReadyH.nil
            go_simp
            refine hK.out _ _ trivial (fun _ => ?_)
            clear hK K
            try simp only [Act.put, List.setIfInBounds_toArray, List.set_cons_zero, List.set_cons_succ]
            refine' takeL (i := 10) (v := _) rfl (by kernel_rfl) (by kernel_rfl) (by kernel_rfl) (fun _ _ _ h => h) (Or.inl ⟨by rfl, ?yy9⟩) (by assumption) ?rr9
            case yy9 => intro w hSw; (try dsimp only at hSw); go_simp; (try with_reducible rfl)
            try simp only [Act.put, List.setIfInBounds_toArray, List.set_cons_zero, List.set_cons_succ]
            refine wpAnyH_ready (rs := [11]) (by kernel_rfl) (by simp) ?_
            refine consL rfl (fun K hK => ?_) AllReadyH.nil
            go_simp
            go_at_call 73
            refine (KC.out _).mono ?_
            rintro e w9 ⟨rfl, hw9⟩
            subst hw9
            go_wp2_with fail
            refine hK.out _ _ trivial (fun _ => ?_)
            clear hK K
            try simp only [Act.put, List.setIfInBounds_toArray, List.set_cons_zero, List.set_cons_succ]
            refine' takeL (i := 12) (v := _) rfl (by kernel_rfl) (by kernel_rfl) (by kernel_rfl) (fun _ _ _ h => h) (Or.inl ⟨by rfl, ?yy10⟩) (by assumption) ?rr10
            case yy10 => intro w hSw; (try dsimp only at hSw); go_simp; (try with_reducible rfl)
            try simp only [Act.put, List.setIfInBounds_toArray, List.set_cons_zero, List.set_cons_succ]
            refine' takeL (i := 13) (v := _) rfl (by kernel_rfl) (by kernel_rfl) (by kernel_rfl) (fun _ _ _ h => h) (Or.inl ⟨by rfl, ?yy11⟩) (by assumption) ?rr11
            case yy11 => intro w hSw; (try dsimp only at hSw); go_simp; (try with_reducible rfl)
            try simp only [Act.put, List.setIfInBounds_toArray, List.set_cons_zero, List.set_cons_succ]
            refine' takeL (i := 14) (v := _) rfl (by kernel_rfl) (by kernel_rfl) (by kernel_rfl) (fun _ _ _ h => h) (Or.inl ⟨by rfl, ?yy12⟩) (by assumption) ?rr12
            case yy12 => intro w hSw; (try dsimp only at hSw); go_simp; (try with_reducible rfl)
            try simp only [Act.put, List.setIfInBounds_toArray, List.set_cons_zero, List.set_cons_succ]
            refine wpAnyH_ready (rs := [15]) (by kernel_rfl) (by simp) ?_
            refine consL rfl (fun K hK => ?_) AllReadyH.nil
            go_simp
            refine hK.out _ _ trivial (fun _ => ?_)
            clear hK K
            try simp only [Act.put, List.setIfInBounds_toArray, List.set_cons_zero, List.set_cons_succ]
            refine wpAnyH_done (by kernel_rfl) ?_ _
            go_wp2
            first | go_end0 | refine bodyPost_ret (results_none rfl _ _ _) rfl ?_
            refine ⟨rfl, HR.out _ ⟨?_, (C5.out.setCell (by simp) _).drewN _⟩⟩
            have hM := M5.out.setp (n := 7) (by omega) (.int .i64 q)
            rw [List.set_set] at hM
            exact hM.drewN _
          refine consL rfl (fun K hK => ?_) AllReadyH.nil
          go_simp
          refine hK.out _ _ trivial (fun _ => ?_)
          clear hK K
          try simp only [Act.put, List.setIfInBounds_toArray, List.set_cons_zero, List.set_cons_succ]
          refine' takeL (i := 10) (v := _) rfl (by kernel_rfl) (by kernel_rfl) (by kernel_rfl) (fun _ _ _ h => h) (Or.inl ⟨by rfl, ?yy13⟩) (by assumption) ?rr13
          case yy13 => intro w hSw; (try dsimp only at hSw); go_simp; (try with_reducible rfl)
          try simp only [Act.put, List.setIfInBounds_toArray, List.set_cons_zero, List.set_cons_succ]
          refine wpAnyH_ready (rs := [4]) (by kernel_rfl) (by simp) ?_
          refine consL rfl (fun K hK => ?_) AllReadyH.nil
          go_simp
          refine hK.out _ _ trivial (fun _ => ?_)
          clear hK K
          try simp only [Act.put, List.setIfInBounds_toArray, List.set_cons_zero, List.set_cons_succ]
          refine' takeL (i := 5) (v := _) rfl (by kernel_rfl) (by kernel_rfl) (by kernel_rfl) (fun _ _ _ h => h) (Or.inl ⟨by rfl, ?yy14⟩) (by assumption) ?rr14
          case yy14 => intro w hSw; (try dsimp only at hSw); go_simp; (try with_reducible rfl)
          try simp only [Act.put, List.setIfInBounds_toArray, List.set_cons_zero, List.set_cons_succ]
          refine wpAnyH_ready (rs := [11]) (by kernel_rfl) (by simp) ?_
          refine consL rfl (fun K hK => ?_) AllReadyH.nil
          go_simp
          go_at_call 73
          refine (KC.out _).mono ?_
          rintro e w9 ⟨rfl, hw9⟩
          subst hw9
          go_wp2_with fail
          refine hK.out _ _ trivial (fun _ => ?_)
          clear hK K
          try simp only [Act.put, List.setIfInBounds_toArray, List.set_cons_zero, List.set_cons_succ]
          refine' takeL (i := 12) (v := _) rfl (by kernel_rfl) (by kernel_rfl) (by kernel_rfl) (fun _ _ _ h => h) (Or.inl ⟨by rfl, ?yy15⟩) (by assumption) ?rr15
          case yy15 => intro w hSw; (try dsimp only at hSw); go_simp; (try with_reducible rfl)
          try simp only [Act.put, List.setIfInBounds_toArray, List.set_cons_zero, List.set_cons_succ]
          refine' takeL (i := 13) (v := _) rfl (by kernel_rfl) (by kernel_rfl) (by kernel_rfl) (fun _ _ _ h => h) (Or.inl ⟨by rfl, ?yy16⟩) (by assumption) ?rr16
          case yy16 => intro w hSw; (try dsimp only at hSw); go_simp; (try with_reducible rfl)
          try simp only [Act.put, List.setIfInBounds_toArray, List.set_cons_zero, List.set_cons_succ]
          refine' takeL (i := 14) (v := _) rfl (by kernel_rfl) (by kernel_rfl) (by kernel_rfl) (fun _ _ _ h => h) (Or.inl ⟨by rfl, ?yy17⟩) (by assumption) ?rr17
          case yy17 => intro w hSw; (try dsimp only at hSw); go_simp; (try with_reducible rfl)
          try simp only [Act.put, List.setIfInBounds_toArray, List.set_cons_zero, List.set_cons_succ]
          refine wpAnyH_ready (rs := [15]) (by kernel_rfl) (by simp) ?_
          refine consL rfl (fun K hK => ?_) AllReadyH.nil
          go_simp
          refine hK.out _ _ trivial (fun _ => ?_)
          clear hK K
          try simp only [Act.put, List.setIfInBounds_toArray, List.set_cons_zero, List.set_cons_succ]
          refine wpAnyH_done (by kernel_rfl) ?_ _
          go_wp2
          first | go_end0 | refine bodyPost_ret (results_none rfl _ _ _) rfl ?_
          refine ⟨rfl, HR.out _ ⟨?_, (C5.out.setCell (by simp) _).drewN _⟩⟩
          have hM := M5.out.setp (n := 7) (by omega) (.int .i64 q)
          rw [List.set_set] at hM
          exact hM.drewN _
    · obtain rfl : k = m4 := by omega
      have hI : ¬ (k : Int) < (k : Int) := by omega
      go_wp2
      first | go_end0 | refine bodyPost_ret (results_none rfl _ _ _) rfl ?_
      refine ⟨rfl, HR.out _ ⟨?_, C5.out.drewN nd⟩⟩
      have hq0 : q = 0 := by rw [← HQ.out, HCL.out, List.drop_of_length_le (by omega)]; rfl
      rw [hq0]
      exact M5.out.drewN nd
end Go.Proofs.Ythjdjbipfdigeaa

namespace Go.Proofs.Ythjdjbipfdigeaa
open Go.RowKit
set_option maxRecDepth 100000
set_option linter.unusedVariables false
set_option linter.unusedSimpArgs false
/-- APPEND of bytes onto the call's own, as one operation -/
theorem wp_append_b {w : World} {o : Oper} {a : Act} {K : Act → World → Prop} {Q : Exit → Act → World → Prop} (s x : Operand)
    (ho : o.op = .call { callee := .builtin .append, args := #[s, x], argTypes := #[31, 31] })
    (base : Nat) (v : Value) (n : Nat) (zs : List Int) (hs : a.eval s = v) (hown : Own w base v n zs)
    (b off m c : Nat) (ys : List Int) (hx : a.eval x = .slice (some ⟨b, off, none⟩) m c) (hy : Byt w (some ⟨b, off, none⟩) m ys) (h63 : n + m ≤ 140737488355328) (hbase : base ≤ w.heap.size)
    (h : ∀ v' w', Own w' base v' (n + m) (zs ++ ys) → w.grownBy w' v.ownBlock → K (a.put o.dst v') w') : Oper.wp Try.prog o a w K Q := by
  obtain ⟨i0, hi, hz0, hz1, hz2⟩ := info_parts info_u8
  refine wp_append_own w s x 31 ho base 5 i0 (.int .u8 0) 1 1 Try.underlying31 hi hz0 hz1 hz2 rfl (by decide) v n _ hs hown.1 ⟨b, off, none⟩ m c (ys.map (Value.int .u8)) hx (by simp [hy.1]) ?_ (by simp [Value.oneCell']) (by unfold maxLen; omega) (by omega) hbase ?_
  · intro j u hu
    have hj : j < ys.length := by
      rcases Nat.lt_or_ge j ys.length with h1 | h1
      · exact h1
      · rw [List.getElem?_eq_none (by simpa using h1)] at hu; cases hu
    have h2 := hy.cells (by rw [← hy.1]; omega) j u hu
    exact h2
  · intro v' w' h1 h2 _
    refine h v' w' ⟨by simpa using h1, ?_⟩ h2
    intro z hz
    rcases List.mem_append.mp hz with hz | hz
    · exact hown.2 z hz
    · exact hy.2.1 z hz
set_option maxRecDepth 1000000 in
set_option maxHeartbeats 4000000 in
theorem count_m (g n m : Nat) (is os rs : List Int) (ps : List Value) (s : Value) (ov : Bool) (w : World) (hm : Mc w g is os rs ps s ov) (hn : is.getD 2 0 = (n : Int)) (hn16 : n < 16) (hk : is.getD 3 0 = (m : Int)) (hk16 : m < 16) : Calls Try.prog 69 #[.pointer (some ⟨g, 0, none⟩)] w fun e w' => e = .returned (.int .i64 (((m + 16 - n) % 16 + 1 : Nat) : Int)) ∧ ∃ d, w' = w.drewN d := by
  have c2 := hm.ci (c := 2) (by omega)
  rw [hn] at c2
  have c3 := hm.ci (c := 3) (by omega)
  rw [hk] at c3
  have i0 : (0 : Int) ≤ (m : Int) - (n : Int) + 16 := by omega
  have i1 : (m : Int) - (n : Int) + 16 ≤ 31 := by omega
  have e1 : ((m : Int) - (n : Int)) % 16 + 1 = (((m + 16 - n) % 16 + 1 : Nat) : Int) := by omega
  clear hm hn hk
  go_enter Try.func69, Try.ntmps69
  go_upto_region 1 with fail
  go_region
  go_wp2
  go_ret
  exact ⟨by first | rfl | (rw [← e1]; rfl), 1, rfl⟩
/-- a word's bytes; the bytes of k registers from a register on -/
def fb (v : Int) : List Int := [v / 16777216, v / 65536 % 256, v / 256 % 256, v % 256]
def stB (os : List Int) (n : Nat) : Nat → List Int
  | 0 => []
  | k + 1 => stB os n k ++ fb (os.getD ((n + k) % 16) 0)
theorem fb_in {v : Int} (h0 : 0 ≤ v) (h1 : v ≤ 4294967295) : ∀ z ∈ fb v, 0 ≤ z ∧ z ≤ 255 := by
  intro z hz; simp [fb] at hz; omega
end Go.Proofs.Ythjdjbipfdigeaa

namespace Go.Proofs.Ythjdjbipfdigeaa
open Go.RowKit
set_option maxRecDepth 100000
set_option linter.unusedVariables false
set_option linter.unusedSimpArgs false
theorem full_b (v : Int) (w : World) (v0 : 0 ≤ v) (v1 : v ≤ 4294967295) : Calls Try.prog 67 #[.int .u32 v] w fun e w' => ∃ b : Nat, e = .returned (.slice (some ⟨b, 0, none⟩) 4 4) ∧ Byt w' (some ⟨b, 0, none⟩) 4 (fb v) ∧ Below w.heap.size w w' := by
  refine (full_c v w v0 v1).mono ?_
  rintro e w' ⟨rfl, rfl⟩
  exact ⟨w.heap.size, rfl, byt_new _ (fb v) (fb_in v0 v1) _ rfl 4 rfl _, (Below.refl _ _).alloc (Nat.le_refl _) _⟩
theorem cell_set {w : World} {p q : Addr} (v : Value) (h : q.block ≠ p.block) : (w.setCell p v).cell? q = w.cell? q := by
  unfold World.cell?
  rw [Below.heap_setCell w p v q.block h]
theorem u32_hi8 (a : Int) (h0 : 0 ≤ a) (h1 : a ≤ 4294967295) : bits .andNot .u32 a 255 = a / 256 * 256 := by
  rw [u32_andNot a 255 h0 (by omega) (by omega) (by omega)]
  have : a.toNat &&& (4294967295 - (255 : Int).toNat) = a.toNat / 256 * 256 := by
    have e : 4294967295 - (255 : Int).toNat = (2 ^ 24 - 1) <<< 8 := by decide
    have e2 : a.toNat / 256 * 256 = (a.toNat >>> 8) <<< 8 := by rw [Nat.shiftRight_eq_div_pow, Nat.shiftLeft_eq]
    rw [e, e2]
    apply Nat.eq_of_testBit_eq
    intro j
    rw [Nat.testBit_and, Nat.testBit_shiftLeft, Nat.testBit_shiftLeft, Nat.testBit_two_pow_sub_one, Nat.testBit_shiftRight]
    by_cases hj : 8 ≤ j
    · rw [show 8 + (j - 8) = j by omega]
      by_cases hj2 : j - 8 < 24
      · simp [hj, hj2]
      · have : a.toNat.testBit j = false := Nat.testBit_lt_two_pow (Nat.lt_of_lt_of_le (show a.toNat < 2 ^ 32 by omega) (Nat.pow_le_pow_right (by omega) (by omega)))
        simp [this]
    · simp [hj]
  rw [this]
  omega
set_option maxRecDepth 1000000 in
set_option maxHeartbeats 8000000 in
theorem move_80_odd (g n : Nat) (F : Foot) (is os rs : List Int) (ps : List Value) (ov : Bool) (bs ks : List Int) (key a : Int) (w : World) (h : MS w g F is os rs ps ov bs ks) (hn : is.getD 2 0 = (n : Int)) (hn16 : n < 16) (hkey : ps.getD 1 undef = .int .i64 key) (hsec : ∀ W, MS W g F is os rs ps ov bs ks → Calls Try.prog 44 #[.pointer (some ⟨g, 0, none⟩)] W fun e w' => e = .returned (.int .i64 a) ∧ Ch W w' []) (ha0 : 0 ≤ a) (ha1 : a ≤ 16777215) (ro : ∀ z ∈ os, 0 ≤ z ∧ z ≤ 4294967295) (h0 : is.getD 0 0 = 80) (ha : a % 4 ≠ 0) : Calls Try.prog 45 #[.pointer (some ⟨g, 0, none⟩)] w fun e w' => e = .panicked [{ v := .iface 65 (.int .i64 6), recovered := false }] ∧ MS w' g F is os rs ps ov bs ks ∧ Ch w w' [g, F.gb] := by
  have c0 := h.m.ci (c := 0) (by omega)
  rw [h0] at c0
  have c2 := h.m.ci (c := 2) (by omega)
  rw [hn] at c2
  have c4 := h.m.co hn16
  have ra := getD_in ro n
  obtain ⟨x, hx⟩ : ∃ x, os.getD n 0 = x := ⟨_, rfl⟩
  rw [hx] at ra c4
  try rw [hx]
  obtain ⟨x0, x1⟩ := ra
  have i0 : (n : Int) < 16 := by omega
  have i1 : (0 : Int) ≤ (n : Int) := by omega
  have HM := Lib.hid (h.drewN 1)
  have HN := Lib.hid hn
  have HK := Lib.hid hkey
  have SC := Lib.hid hsec
  have D0 := Lib.hid ((Ch.refl w [g, F.gb]).drewN 1)
  clear h h0 hn hkey hsec ro hx
  go_enter Try.func45, Try.ntmps45
  go_upto_region 0 with fail
  go_region
  go_wp2_with (go_at_call 66; refine (aligned_no g a 4 _ (SC.out _ HM.out) (.inr rfl) ha0 ha1 ha).mono ?_; rintro e wa ⟨rfl, hca⟩; have Ma := Lib.hid (HM.out.ch hca); have Ca := Lib.hid (D0.out.trans (hca.mono (by simp))); clear hca)
  exact ⟨rfl, rfl, Ma.out, Ca.out⟩
set_option maxRecDepth 1000000 in
set_option maxHeartbeats 8000000 in
theorem move_80 (g n : Nat) (F : Foot) (is os rs : List Int) (ps : List Value) (ov : Bool) (bs ks : List Int) (key a : Int) (w : World) (h : MS w g F is os rs ps ov bs ks) (hn : is.getD 2 0 = (n : Int)) (hn16 : n < 16) (hkey : ps.getD 1 undef = .int .i64 key) (hsec : ∀ W, MS W g F is os rs ps ov bs ks → Calls Try.prog 44 #[.pointer (some ⟨g, 0, none⟩)] W fun e w' => e = .returned (.int .i64 a) ∧ Ch W w' []) (ha0 : 0 ≤ a) (ha1 : a ≤ 16777215) (ro : ∀ z ∈ os, 0 ≤ z ∧ z ≤ 4294967295) (h0 : is.getD 0 0 = 80) (ha : a % 4 = 0) (hc : sCode (alP key) bs.length ks a 4 = 0) : Calls Try.prog 45 #[.pointer (some ⟨g, 0, none⟩)] w fun e w' => e = .returned (.tuple #[]) ∧ MS w' g F is os rs ps ov (sPut (alP key) bs ks a (fb (os.getD n 0))) ks ∧ Ch w w' [g, F.gb] := by
  have c0 := h.m.ci (c := 0) (by omega)
  rw [h0] at c0
  have c2 := h.m.ci (c := 2) (by omega)
  rw [hn] at c2
  have c4 := h.m.co hn16
  have ra := getD_in ro n
  obtain ⟨x, hx⟩ : ∃ x, os.getD n 0 = x := ⟨_, rfl⟩
  rw [hx] at ra c4
  try rw [hx]
  obtain ⟨x0, x1⟩ := ra
  have i0 : (n : Int) < 16 := by omega
  have i1 : (0 : Int) ≤ (n : Int) := by omega
  have HM := Lib.hid (h.drewN 1)
  have HN := Lib.hid hn
  have HK := Lib.hid hkey
  have SC := Lib.hid hsec
  have D0 := Lib.hid ((Ch.refl w [g, F.gb]).drewN 1)
  have HC := Lib.hid hc
  clear h h0 hn hkey hsec ro hx hc
  go_enter Try.func45, Try.ntmps45
  go_upto_region 0 with fail
  go_region
  go_wp2_with (first
    | (go_at_call 66; refine (aligned_m g a 4 _ (SC.out _ HM.out) (.inr rfl) ha0 ha1 ha).mono ?_; rintro e wa ⟨rfl, hca⟩; have Ma := Lib.hid (HM.out.ch hca); have Ca := Lib.hid (D0.out.trans (hca.mono (by simp))); clear hca)
    | (go_at_call 67; refine (full_b x _ x0 x1).mono ?_; rintro e wb ⟨b, rfl, hy, hb⟩; have Y1 := Lib.hid hy; have M1 := Lib.hid (Ma.out.keep hb); have C1 := Lib.hid (Ca.out.trans (Ch.of_below hb _)); clear hy hb)
    | (go_at_call 65; refine (put_m g F is os rs ps ov bs ks a key _ _ _ (fb x) _ M1.out HK.out Y1.out (by omega) HC.out).mono ?_; rintro e w5 ⟨rfl, hM5, hC5⟩; have M5 := Lib.hid hM5; have C5 := Lib.hid (C1.out.trans (hC5.mono (by simp))); clear hM5 hC5))
  first | go_end0 | refine bodyPost_ret (results_none rfl _ _ _) rfl ?_
  exact ⟨rfl, M5.out, C5.out⟩
set_option maxRecDepth 1000000 in
set_option maxHeartbeats 8000000 in
theorem move_80_no (g n : Nat) (F : Foot) (is os rs : List Int) (ps : List Value) (ov : Bool) (bs ks : List Int) (key a : Int) (w : World) (h : MS w g F is os rs ps ov bs ks) (hn : is.getD 2 0 = (n : Int)) (hn16 : n < 16) (hkey : ps.getD 1 undef = .int .i64 key) (hsec : ∀ W, MS W g F is os rs ps ov bs ks → Calls Try.prog 44 #[.pointer (some ⟨g, 0, none⟩)] W fun e w' => e = .returned (.int .i64 a) ∧ Ch W w' []) (ha0 : 0 ≤ a) (ha1 : a ≤ 16777215) (ro : ∀ z ∈ os, 0 ≤ z ∧ z ≤ 4294967295) (h0 : is.getD 0 0 = 80) (ha : a % 4 = 0) (c : Int) (hc : sCode (alP key) bs.length ks a 4 = c) (hc0 : c ≠ 0) : Calls Try.prog 45 #[.pointer (some ⟨g, 0, none⟩)] w fun e w' => e = .panicked [{ v := .iface 65 (.int .i64 c), recovered := false }] ∧ MS w' g F is os rs ps ov bs ks ∧ Ch w w' [g, F.gb] := by
  have c0 := h.m.ci (c := 0) (by omega)
  rw [h0] at c0
  have c2 := h.m.ci (c := 2) (by omega)
  rw [hn] at c2
  have c4 := h.m.co hn16
  have ra := getD_in ro n
  obtain ⟨x, hx⟩ : ∃ x, os.getD n 0 = x := ⟨_, rfl⟩
  rw [hx] at ra c4
  try rw [hx]
  obtain ⟨x0, x1⟩ := ra
  have i0 : (n : Int) < 16 := by omega
  have i1 : (0 : Int) ≤ (n : Int) := by omega
  have HM := Lib.hid (h.drewN 1)
  have HN := Lib.hid hn
  have HK := Lib.hid hkey
  have SC := Lib.hid hsec
  have D0 := Lib.hid ((Ch.refl w [g, F.gb]).drewN 1)
  have HC := Lib.hid hc
  have HC0 := Lib.hid hc0
  clear h h0 hn hkey hsec ro hx hc hc0
  go_enter Try.func45, Try.ntmps45
  go_upto_region 0 with fail
  go_region
  go_wp2_with (first
    | (go_at_call 66; refine (aligned_m g a 4 _ (SC.out _ HM.out) (.inr rfl) ha0 ha1 ha).mono ?_; rintro e wa ⟨rfl, hca⟩; have Ma := Lib.hid (HM.out.ch hca); have Ca := Lib.hid (D0.out.trans (hca.mono (by simp))); clear hca)
    | (go_at_call 67; refine (full_b x _ x0 x1).mono ?_; rintro e wb ⟨b, rfl, hy, hb⟩; have Y1 := Lib.hid hy; have M1 := Lib.hid (Ma.out.keep hb); have C1 := Lib.hid (Ca.out.trans (Ch.of_below hb _)); clear hy hb)
    | (go_at_call 65; refine (put_no g F is os rs ps ov bs ks a key _ _ _ (fb x) _ M1.out HK.out Y1.out (by omega) c HC.out HC0.out).mono ?_; rintro e w5 ⟨rfl, hM5, hC5⟩; have M5 := Lib.hid hM5; have C5 := Lib.hid (C1.out.trans (hC5.mono (by simp))); clear hM5 hC5))
  exact ⟨rfl, rfl, M5.out, C5.out⟩
set_option maxRecDepth 1000000 in
set_option maxHeartbeats 8000000 in
theorem move_64_odd (g n : Nat) (F : Foot) (is os rs : List Int) (ps : List Value) (ov : Bool) (bs ks : List Int) (key a : Int) (w : World) (h : MS w g F is os rs ps ov bs ks) (hn : is.getD 2 0 = (n : Int)) (hn16 : n < 16) (hkey : ps.getD 1 undef = .int .i64 key) (hsec : ∀ W, MS W g F is os rs ps ov bs ks → Calls Try.prog 44 #[.pointer (some ⟨g, 0, none⟩)] W fun e w' => e = .returned (.int .i64 a) ∧ Ch W w' []) (ha0 : 0 ≤ a) (ha1 : a ≤ 16777215) (ro : ∀ z ∈ os, 0 ≤ z ∧ z ≤ 4294967295) (h0 : is.getD 0 0 = 64) (ha : a % 2 ≠ 0) : Calls Try.prog 45 #[.pointer (some ⟨g, 0, none⟩)] w fun e w' => e = .panicked [{ v := .iface 65 (.int .i64 6), recovered := false }] ∧ MS w' g F is os rs ps ov bs ks ∧ Ch w w' [g, F.gb] := by
  have c0 := h.m.ci (c := 0) (by omega)
  rw [h0] at c0
  have c2 := h.m.ci (c := 2) (by omega)
  rw [hn] at c2
  have c4 := h.m.co hn16
  have ra := getD_in ro n
  obtain ⟨x, hx⟩ : ∃ x, os.getD n 0 = x := ⟨_, rfl⟩
  rw [hx] at ra c4
  try rw [hx]
  obtain ⟨x0, x1⟩ := ra
  have i0 : (n : Int) < 16 := by omega
  have i1 : (0 : Int) ≤ (n : Int) := by omega
  have HM := Lib.hid (h.drewN 1)
  have HN := Lib.hid hn
  have HK := Lib.hid hkey
  have SC := Lib.hid hsec
  have D0 := Lib.hid ((Ch.refl w [g, F.gb]).drewN 1)
  clear h h0 hn hkey hsec ro hx
  go_enter Try.func45, Try.ntmps45
  go_upto_region 0 with fail
  go_region
  go_wp2_with (go_at_call 66; refine (aligned_no g a 2 _ (SC.out _ HM.out) (.inl rfl) ha0 ha1 ha).mono ?_; rintro e wa ⟨rfl, hca⟩; have Ma := Lib.hid (HM.out.ch hca); have Ca := Lib.hid (D0.out.trans (hca.mono (by simp))); clear hca)
  exact ⟨rfl, rfl, Ma.out, Ca.out⟩
set_option maxRecDepth 1000000 in
set_option maxHeartbeats 8000000 in
theorem move_64 (g n : Nat) (F : Foot) (is os rs : List Int) (ps : List Value) (ov : Bool) (bs ks : List Int) (key a : Int) (w : World) (h : MS w g F is os rs ps ov bs ks) (hn : is.getD 2 0 = (n : Int)) (hn16 : n < 16) (hkey : ps.getD 1 undef = .int .i64 key) (hsec : ∀ W, MS W g F is os rs ps ov bs ks → Calls Try.prog 44 #[.pointer (some ⟨g, 0, none⟩)] W fun e w' => e = .returned (.int .i64 a) ∧ Ch W w' []) (ha0 : 0 ≤ a) (ha1 : a ≤ 16777215) (ro : ∀ z ∈ os, 0 ≤ z ∧ z ≤ 4294967295) (h0 : is.getD 0 0 = 64) (ha : a % 2 = 0) (hc : sCode (alP key) bs.length ks a 2 = 0) : Calls Try.prog 45 #[.pointer (some ⟨g, 0, none⟩)] w fun e w' => e = .returned (.tuple #[]) ∧ MS w' g F is os rs ps ov (sPut (alP key) bs ks a ((fb (os.getD n 0)).drop 2)) ks ∧ Ch w w' [g, F.gb] := by
  have c0 := h.m.ci (c := 0) (by omega)
  rw [h0] at c0
  have c2 := h.m.ci (c := 2) (by omega)
  rw [hn] at c2
  have c4 := h.m.co hn16
  have ra := getD_in ro n
  obtain ⟨x, hx⟩ : ∃ x, os.getD n 0 = x := ⟨_, rfl⟩
  rw [hx] at ra c4
  try rw [hx]
  obtain ⟨x0, x1⟩ := ra
  have i0 : (n : Int) < 16 := by omega
  have i1 : (0 : Int) ≤ (n : Int) := by omega
  have HM := Lib.hid (h.drewN 1)
  have HN := Lib.hid hn
  have HK := Lib.hid hkey
  have SC := Lib.hid hsec
  have D0 := Lib.hid ((Ch.refl w [g, F.gb]).drewN 1)
  have HC := Lib.hid hc
  clear h h0 hn hkey hsec ro hx hc
  go_enter Try.func45, Try.ntmps45
  go_upto_region 0 with fail
  go_region
  go_wp2_with (first
    | (go_at_call 66; refine (aligned_m g a 2 _ (SC.out _ HM.out) (.inl rfl) ha0 ha1 ha).mono ?_; rintro e wa ⟨rfl, hca⟩; have Ma := Lib.hid (HM.out.ch hca); have Ca := Lib.hid (D0.out.trans (hca.mono (by simp))); clear hca)
    | (go_at_call 67; refine (full_b x _ x0 x1).mono ?_; rintro e wb ⟨b, rfl, hy, hb⟩; have Y1 := Lib.hid hy; have M1 := Lib.hid (Ma.out.keep hb); have C1 := Lib.hid (Ca.out.trans (Ch.of_below hb _)); clear hy hb)
    | (go_at_call 65; refine (put_m g F is os rs ps ov bs ks a key _ _ _ ((fb x).drop 2) _ M1.out HK.out (Y1.out.cut 2 (by omega)) (by omega) HC.out).mono ?_; rintro e w5 ⟨rfl, hM5, hC5⟩; have M5 := Lib.hid hM5; have C5 := Lib.hid (C1.out.trans (hC5.mono (by simp))); clear hM5 hC5))
  first | go_end0 | refine bodyPost_ret (results_none rfl _ _ _) rfl ?_
  exact ⟨rfl, M5.out, C5.out⟩
set_option maxRecDepth 1000000 in
set_option maxHeartbeats 8000000 in
theorem move_64_no (g n : Nat) (F : Foot) (is os rs : List Int) (ps : List Value) (ov : Bool) (bs ks : List Int) (key a : Int) (w : World) (h : MS w g F is os rs ps ov bs ks) (hn : is.getD 2 0 = (n : Int)) (hn16 : n < 16) (hkey : ps.getD 1 undef = .int .i64 key) (hsec : ∀ W, MS W g F is os rs ps ov bs ks → Calls Try.prog 44 #[.pointer (some ⟨g, 0, none⟩)] W fun e w' => e = .returned (.int .i64 a) ∧ Ch W w' []) (ha0 : 0 ≤ a) (ha1 : a ≤ 16777215) (ro : ∀ z ∈ os, 0 ≤ z ∧ z ≤ 4294967295) (h0 : is.getD 0 0 = 64) (ha : a % 2 = 0) (c : Int) (hc : sCode (alP key) bs.length ks a 2 = c) (hc0 : c ≠ 0) : Calls Try.prog 45 #[.pointer (some ⟨g, 0, none⟩)] w fun e w' => e = .panicked [{ v := .iface 65 (.int .i64 c), recovered := false }] ∧ MS w' g F is os rs ps ov bs ks ∧ Ch w w' [g, F.gb] := by
  have c0 := h.m.ci (c := 0) (by omega)
  rw [h0] at c0
  have c2 := h.m.ci (c := 2) (by omega)
  rw [hn] at c2
  have c4 := h.m.co hn16
  have ra := getD_in ro n
  obtain ⟨x, hx⟩ : ∃ x, os.getD n 0 = x := ⟨_, rfl⟩
  rw [hx] at ra c4
  try rw [hx]
  obtain ⟨x0, x1⟩ := ra
  have i0 : (n : Int) < 16 := by omega
  have i1 : (0 : Int) ≤ (n : Int) := by omega
  have HM := Lib.hid (h.drewN 1)
  have HN := Lib.hid hn
  have HK := Lib.hid hkey
  have SC := Lib.hid hsec
  have D0 := Lib.hid ((Ch.refl w [g, F.gb]).drewN 1)
  have HC := Lib.hid hc
  have HC0 := Lib.hid hc0
  clear h h0 hn hkey hsec ro hx hc hc0
  go_enter Try.func45, Try.ntmps45
  go_upto_region 0 with fail
  go_region
  go_wp2_with (first
    | (go_at_call 66; refine (aligned_m g a 2 _ (SC.out _ HM.out) (.inl rfl) ha0 ha1 ha).mono ?_; rintro e wa ⟨rfl, hca⟩; have Ma := Lib.hid (HM.out.ch hca); have Ca := Lib.hid (D0.out.trans (hca.mono (by simp))); clear hca)
    | (go_at_call 67; refine (full_b x _ x0 x1).mono ?_; rintro e wb ⟨b, rfl, hy, hb⟩; have Y1 := Lib.hid hy; have M1 := Lib.hid (Ma.out.keep hb); have C1 := Lib.hid (Ca.out.trans (Ch.of_below hb _)); clear hy hb)
    | (go_at_call 65; refine (put_no g F is os rs ps ov bs ks a key _ _ _ ((fb x).drop 2) _ M1.out HK.out (Y1.out.cut 2 (by omega)) (by omega) c HC.out HC0.out).mono ?_; rintro e w5 ⟨rfl, hM5, hC5⟩; have M5 := Lib.hid hM5; have C5 := Lib.hid (C1.out.trans (hC5.mono (by simp))); clear hM5 hC5))
  exact ⟨rfl, rfl, M5.out, C5.out⟩
set_option maxRecDepth 1000000 in
set_option maxHeartbeats 8000000 in
theorem move_66 (g n : Nat) (F : Foot) (is os rs : List Int) (ps : List Value) (ov : Bool) (bs ks : List Int) (key a : Int) (w : World) (h : MS w g F is os rs ps ov bs ks) (hn : is.getD 2 0 = (n : Int)) (hn16 : n < 16) (hkey : ps.getD 1 undef = .int .i64 key) (hsec : ∀ W, MS W g F is os rs ps ov bs ks → Calls Try.prog 44 #[.pointer (some ⟨g, 0, none⟩)] W fun e w' => e = .returned (.int .i64 a) ∧ Ch W w' []) (ha0 : 0 ≤ a) (ha1 : a ≤ 16777215) (ro : ∀ z ∈ os, 0 ≤ z ∧ z ≤ 4294967295) (h0 : is.getD 0 0 = 66) (hc : sCode (alP key) bs.length ks a 1 = 0) : Calls Try.prog 45 #[.pointer (some ⟨g, 0, none⟩)] w fun e w' => e = .returned (.tuple #[]) ∧ MS w' g F is os rs ps ov (sPut (alP key) bs ks a ((fb (os.getD n 0)).drop 3)) ks ∧ Ch w w' [g, F.gb] := by
  have c0 := h.m.ci (c := 0) (by omega)
  rw [h0] at c0
  have c2 := h.m.ci (c := 2) (by omega)
  rw [hn] at c2
  have c4 := h.m.co hn16
  have ra := getD_in ro n
  obtain ⟨x, hx⟩ : ∃ x, os.getD n 0 = x := ⟨_, rfl⟩
  rw [hx] at ra c4
  try rw [hx]
  obtain ⟨x0, x1⟩ := ra
  have i0 : (n : Int) < 16 := by omega
  have i1 : (0 : Int) ≤ (n : Int) := by omega
  have HM := Lib.hid (h.drewN 1)
  have HN := Lib.hid hn
  have HK := Lib.hid hkey
  have SC := Lib.hid hsec
  have D0 := Lib.hid ((Ch.refl w [g, F.gb]).drewN 1)
  have HC := Lib.hid hc
  clear h h0 hn hkey hsec ro hx hc
  go_enter Try.func45, Try.ntmps45
  go_upto_region 0 with fail
  go_region
  go_wp2_with (first
    | (go_at_call 44; refine (SC.out _ HM.out).mono ?_; rintro e wa ⟨rfl, hca⟩; have Ma := Lib.hid (HM.out.ch hca); have Ca := Lib.hid (D0.out.trans (hca.mono (by simp))); clear hca)
    | (go_at_call 67; refine (full_b x _ x0 x1).mono ?_; rintro e wb ⟨b, rfl, hy, hb⟩; have Y1 := Lib.hid hy; have M1 := Lib.hid (Ma.out.keep hb); have C1 := Lib.hid (Ca.out.trans (Ch.of_below hb _)); clear hy hb)
    | (go_at_call 65; refine (put_m g F is os rs ps ov bs ks a key _ _ _ ((fb x).drop 3) _ M1.out HK.out (Y1.out.cut 3 (by omega)) (by omega) HC.out).mono ?_; rintro e w5 ⟨rfl, hM5, hC5⟩; have M5 := Lib.hid hM5; have C5 := Lib.hid (C1.out.trans (hC5.mono (by simp))); clear hM5 hC5))
  first | go_end0 | refine bodyPost_ret (results_none rfl _ _ _) rfl ?_
  exact ⟨rfl, M5.out, C5.out⟩
set_option maxRecDepth 1000000 in
set_option maxHeartbeats 8000000 in
theorem move_66_no (g n : Nat) (F : Foot) (is os rs : List Int) (ps : List Value) (ov : Bool) (bs ks : List Int) (key a : Int) (w : World) (h : MS w g F is os rs ps ov bs ks) (hn : is.getD 2 0 = (n : Int)) (hn16 : n < 16) (hkey : ps.getD 1 undef = .int .i64 key) (hsec : ∀ W, MS W g F is os rs ps ov bs ks → Calls Try.prog 44 #[.pointer (some ⟨g, 0, none⟩)] W fun e w' => e = .returned (.int .i64 a) ∧ Ch W w' []) (ha0 : 0 ≤ a) (ha1 : a ≤ 16777215) (ro : ∀ z ∈ os, 0 ≤ z ∧ z ≤ 4294967295) (h0 : is.getD 0 0 = 66) (c : Int) (hc : sCode (alP key) bs.length ks a 1 = c) (hc0 : c ≠ 0) : Calls Try.prog 45 #[.pointer (some ⟨g, 0, none⟩)] w fun e w' => e = .panicked [{ v := .iface 65 (.int .i64 c), recovered := false }] ∧ MS w' g F is os rs ps ov bs ks ∧ Ch w w' [g, F.gb] := by
  have c0 := h.m.ci (c := 0) (by omega)
  rw [h0] at c0
  have c2 := h.m.ci (c := 2) (by omega)
  rw [hn] at c2
  have c4 := h.m.co hn16
  have ra := getD_in ro n
  obtain ⟨x, hx⟩ : ∃ x, os.getD n 0 = x := ⟨_, rfl⟩
  rw [hx] at ra c4
  try rw [hx]
  obtain ⟨x0, x1⟩ := ra
  have i0 : (n : Int) < 16 := by omega
  have i1 : (0 : Int) ≤ (n : Int) := by omega
  have HM := Lib.hid (h.drewN 1)
  have HN := Lib.hid hn
  have HK := Lib.hid hkey
  have SC := Lib.hid hsec
  have D0 := Lib.hid ((Ch.refl w [g, F.gb]).drewN 1)
  have HC := Lib.hid hc
  have HC0 := Lib.hid hc0
  clear h h0 hn hkey hsec ro hx hc hc0
  go_enter Try.func45, Try.ntmps45
  go_upto_region 0 with fail
  go_region
  go_wp2_with (first
    | (go_at_call 44; refine (SC.out _ HM.out).mono ?_; rintro e wa ⟨rfl, hca⟩; have Ma := Lib.hid (HM.out.ch hca); have Ca := Lib.hid (D0.out.trans (hca.mono (by simp))); clear hca)
    | (go_at_call 67; refine (full_b x _ x0 x1).mono ?_; rintro e wb ⟨b, rfl, hy, hb⟩; have Y1 := Lib.hid hy; have M1 := Lib.hid (Ma.out.keep hb); have C1 := Lib.hid (Ca.out.trans (Ch.of_below hb _)); clear hy hb)
    | (go_at_call 65; refine (put_no g F is os rs ps ov bs ks a key _ _ _ ((fb x).drop 3) _ M1.out HK.out (Y1.out.cut 3 (by omega)) (by omega) c HC.out HC0.out).mono ?_; rintro e w5 ⟨rfl, hM5, hC5⟩; have M5 := Lib.hid hM5; have C5 := Lib.hid (C1.out.trans (hC5.mono (by simp))); clear hM5 hC5))
  exact ⟨rfl, rfl, M5.out, C5.out⟩
set_option maxRecDepth 1000000 in
set_option maxHeartbeats 8000000 in
theorem move_67 (g n : Nat) (F : Foot) (is os rs : List Int) (ps : List Value) (ov : Bool) (bs ks : List Int) (key a : Int) (w : World) (h : MS w g F is os rs ps ov bs ks) (hn : is.getD 2 0 = (n : Int)) (hn16 : n < 16) (hkey : ps.getD 1 undef = .int .i64 key) (hsec : ∀ W, MS W g F is os rs ps ov bs ks → Calls Try.prog 44 #[.pointer (some ⟨g, 0, none⟩)] W fun e w' => e = .returned (.int .i64 a) ∧ Ch W w' []) (ha0 : 0 ≤ a) (ha1 : a ≤ 16777215) (ro : ∀ z ∈ os, 0 ≤ z ∧ z ≤ 4294967295) (h0 : is.getD 0 0 = 67) (hc : sCode (alF key) bs.length ks a 1 = 0) : Calls Try.prog 45 #[.pointer (some ⟨g, 0, none⟩)] w fun e w' => e = .returned (.tuple #[]) ∧ MS w' g F is os (rs.set n (os.getD n 0 / 256 * 256 + (sGet bs a 1).getD 0 0)) ps ov bs ks ∧ Ch w w' [g, F.gb] := by
  have c0 := h.m.ci (c := 0) (by omega)
  rw [h0] at c0
  have c2 := h.m.ci (c := 2) (by omega)
  rw [hn] at c2
  have c4 := h.m.co hn16
  have ra := getD_in ro n
  obtain ⟨x, hx⟩ : ∃ x, os.getD n 0 = x := ⟨_, rfl⟩
  rw [hx] at ra c4
  try rw [hx]
  obtain ⟨x0, x1⟩ := ra
  have i0 : (n : Int) < 16 := by omega
  have i1 : (0 : Int) ≤ (n : Int) := by omega
  have HM := Lib.hid (h.drewN 1)
  have HN := Lib.hid hn
  have HK := Lib.hid hkey
  have SC := Lib.hid hsec
  have D0 := Lib.hid ((Ch.refl w [g, F.gb]).drewN 1)
  have HC := Lib.hid hc
  have hl := sGet_leng hc
  obtain ⟨zs, hzs⟩ : ∃ zs, sGet bs a 1 = zs := ⟨_, rfl⟩
  rw [hzs] at hl ⊢
  have HZ := Lib.hid hzs
  obtain ⟨y, hy⟩ : ∃ y, zs.getD 0 0 = y := ⟨_, rfl⟩
  rw [hy]
  have HY := Lib.hid hy
  have HL := Lib.hid hl
  have an := u32_hi8 x x0 x1
  clear hzs hy hl
  clear h h0 hn hkey hsec ro hx hc
  go_enter Try.func45, Try.ntmps45
  go_upto_region 0 with fail
  go_region
  have M2 := Lib.hid (HM.out.drewN 1)
  go_upto_region 9 with fail
  clear c0 c2 c4
  refine wp_region_held_drew (S := (fun w' => ∃ rs' : List Int, Mc w' g is os rs' ps (.pointer (some ⟨F.g, 0, none⟩)) ov)) (by kernel_rfl) ?_ (fun hHeld => ?_)
  · (try dsimp only); exact ⟨_, M2.out.m⟩
  refine' takeL (i := 0) (v := _) rfl (by kernel_rfl) (by kernel_rfl) (by kernel_rfl) (fun _ _ _ h => h) (Or.inl ⟨by rfl, ?yy1⟩) (by assumption) ?rr1
  case yy1 => intro w hSw; (try dsimp only at hSw); go_simp; (try with_reducible rfl)
  try simp only [Act.put, List.setIfInBounds_toArray, List.set_cons_zero, List.set_cons_succ]
  refine' takeL (i := 1) (v := _) rfl (by kernel_rfl) (by kernel_rfl) (by kernel_rfl) (fun _ _ _ h => h) (Or.inl ⟨by rfl, ?yy2⟩) (by assumption) ?rr2
  case yy2 => intro w hSw; (try dsimp only at hSw); go_simp; (try with_reducible rfl)
  try simp only [Act.put, List.setIfInBounds_toArray, List.set_cons_zero, List.set_cons_succ]
  refine' takeL (i := 2) (v := _) rfl (by kernel_rfl) (by kernel_rfl) (by kernel_rfl) (fun _ _ _ h => h) (Or.inl ⟨by rfl, ?yy3⟩) (by assumption) ?rr3
  case yy3 => intro w hSw; (try dsimp only at hSw); go_simp; (try with_reducible rfl)
  try simp only [Act.put, List.setIfInBounds_toArray, List.set_cons_zero, List.set_cons_succ]
  refine' takeL (i := 3) (v := _) rfl (by kernel_rfl) (by kernel_rfl) (by kernel_rfl) (fun _ _ _ h => h) (Or.inl ⟨by rfl, ?yy4⟩) (by assumption) ?rr4
  case yy4 => intro w hSw; (try dsimp only at hSw); go_simp; (try with_reducible rfl)
  try simp only [Act.put, List.setIfInBounds_toArray, List.set_cons_zero, List.set_cons_succ]
  refine' takeL (i := 4) (v := _) rfl (by kernel_rfl) (by kernel_rfl) (by kernel_rfl) (fun _ _ _ h => h) (Or.inl ⟨by rfl, ?yy5⟩) (by assumption) ?rr5
  case yy5 => intro w hSw; (try dsimp only at hSw); go_simp; (try with_reducible rfl)
  try simp only [Act.put, List.setIfInBounds_toArray, List.set_cons_zero, List.set_cons_succ]
  refine' takeL (i := 5) (v := .int .i64 (n : Int)) rfl (by kernel_rfl) (by kernel_rfl) (by kernel_rfl) (fun _ _ _ h => h) (Or.inl ⟨by rfl, ?yy6⟩) (by assumption) ?rr6
  case yy6 => intro w hSw; (try dsimp only at hSw); obtain ⟨rs', hx⟩ := hSw; have hq := hx.ci (c := 2) (by omega); rw [HN.out] at hq; go_simp; (try with_reducible rfl)
  try simp only [Act.put, List.setIfInBounds_toArray, List.set_cons_zero, List.set_cons_succ]
  refine' takeL (i := 6) (v := _) rfl (by kernel_rfl) (by kernel_rfl) (by kernel_rfl) (fun _ _ _ h => h) (Or.inl ⟨by rfl, ?yy7⟩) (by assumption) ?rr7
  case yy7 => intro w hSw; (try dsimp only at hSw); go_simp; (try with_reducible rfl)
  try simp only [Act.put, List.setIfInBounds_toArray, List.set_cons_zero, List.set_cons_succ]
  refine' takeL (i := 7) (v := _) rfl (by kernel_rfl) (by kernel_rfl) (by kernel_rfl) (fun _ _ _ h => h) (Or.inl ⟨by rfl, ?yy8⟩) (by assumption) ?rr8
  case yy8 => intro w hSw; (try dsimp only at hSw); go_simp; (try with_reducible rfl)
  try simp only [Act.put, List.setIfInBounds_toArray, List.set_cons_zero, List.set_cons_succ]
  refine' takeL (i := 8) (v := _) rfl (by kernel_rfl) (by kernel_rfl) (by kernel_rfl) (fun _ _ _ h => h) (Or.inl ⟨by rfl, ?yy9⟩) (by assumption) ?rr9
  case yy9 => intro w hSw; (try dsimp only at hSw); go_simp; (try with_reducible rfl)
  try simp only [Act.put, List.setIfInBounds_toArray, List.set_cons_zero, List.set_cons_succ]
  refine' takeL (i := 9) (v := _) rfl (by kernel_rfl) (by kernel_rfl) (by kernel_rfl) (fun _ _ _ h => h) (Or.inl ⟨by rfl, ?yy10⟩) (by assumption) ?rr10
  case yy10 => intro w hSw; (try dsimp only at hSw); go_simp; (try with_reducible rfl)
  try simp only [Act.put, List.setIfInBounds_toArray, List.set_cons_zero, List.set_cons_succ]
  refine' takeL (i := 16) (v := _) rfl (by kernel_rfl) (by kernel_rfl) (by kernel_rfl) (fun _ _ _ h => h) (Or.inl ⟨by rfl, ?yy11⟩) (by assumption) ?rr11
  case yy11 => intro w hSw; (try dsimp only at hSw); go_simp; (try with_reducible rfl)
  try simp only [Act.put, List.setIfInBounds_toArray, List.set_cons_zero, List.set_cons_succ]
  refine' takeL (i := 17) (v := _) rfl (by kernel_rfl) (by kernel_rfl) (by kernel_rfl) (fun _ _ _ h => h) (Or.inl ⟨by rfl, ?yy12⟩) (by assumption) ?rr12
  case yy12 => intro w hSw; (try dsimp only at hSw); go_simp; (try with_reducible rfl)
  try simp only [Act.put, List.setIfInBounds_toArray, List.set_cons_zero, List.set_cons_succ]
  refine wpAnyH_ready (rs := [10]) (by kernel_rfl) (by simp) ?_
  refine consL rfl (fun K hK => ?_) AllReadyH.nil
  go_simp
  go_at_call 44
  refine (SC.out _ M2.out).mono ?_
  rintro e wa ⟨rfl, hca⟩
  have Ma := Lib.hid (M2.out.ch hca)
  have Ca := Lib.hid ((D0.out.drewN 1).trans (hca.mono (by simp)))
  clear hca hHeld
  go_wp2_with fail
  refine hK.out _ _ ?_ (fun hHeld => ?_)
  · (try dsimp only); exact ⟨_, Ma.out.m⟩
  clear hK K
  try simp only [Act.put, List.setIfInBounds_toArray, List.set_cons_zero, List.set_cons_succ]
  refine wpAnyH_ready (rs := [11]) (by kernel_rfl) (by simp) ?_
  refine consL rfl (fun K hK => ?_) AllReadyH.nil
  go_simp
  go_at_call 68
  refine (fetch_m g F is os rs ps ov bs ks a 1 key _ Ma.out HK.out HC.out).mono ?_
  rintro e wb ⟨A, mm, cb, rfl, hO, hM, hCh⟩
  rw [HZ.out] at hO
  have Mb := Lib.hid hM
  have Cb := Lib.hid (Ca.out.trans (hCh.mono (by simp)))
  have hml : mm = 1 := by have := hO.byt.1; have := HL.out; omega
  subst hml
  obtain ⟨gb, cb', hv, hgb, hgl, -, -⟩ := hO.pos (by omega)
  injection hv with hv1 hv2 hv3
  subst hv1 hv3
  have yr := hO.byt.range 0
  obtain ⟨gb', ob', e', hcell⟩ := hO.byt.at_ (by omega)
  cases e'
  have yc := hcell 0 (by omega)
  rw [HY.out] at yr yc
  have hne : gb ≠ g := by have := Ma.out.m.lt; omega
  clear hO hM hCh hgb hgl hcell hHeld
  go_wp2_with fail
  refine hK.out _ _ ?_ (fun hHeld => ?_)
  · (try dsimp only); exact ⟨_, Mb.out.m⟩
  clear hK K
  try simp only [Act.put, List.setIfInBounds_toArray, List.set_cons_zero, List.set_cons_succ]
  refine wpAnyH_more (fun w' => (∃ rs' : List Int, Mc w' g is os rs' ps (.pointer (some ⟨F.g, 0, none⟩)) ov) ∧ w'.cell? ⟨gb, 0, none⟩ = some (.int .u8 y)) ⟨hHeld, by first | exact yc | simpa using yc⟩ (fun _ h => h.1) (fun hHeld => ?_)
  have ew : IntKind.u32.wrap y = y := by rw [IntKind.wrap_u32]; omega
  have orr : bits .or .u32 (x / 256 * 256) y = x / 256 * 256 + y := or_32 8 (x / 256 * 256) y 256 (by rfl) (by omega) (by omega) (by omega) yr.1 (by omega) (by omega)
  refine' takeL (i := 12) (v := .pointer (some ⟨gb, 0, none⟩)) rfl (by kernel_rfl) (by kernel_rfl) (by kernel_rfl) (fun _ _ _ h => h) (Or.inl ⟨by rfl, ?yy13⟩) (by assumption) ?rr13
  case yy13 => intro w hSw; (try dsimp only at hSw); go_simp; (try with_reducible rfl)
  try simp only [Act.put, List.setIfInBounds_toArray, List.set_cons_zero, List.set_cons_succ]
  refine' takeL (i := 13) (v := .int .u8 y) rfl (by kernel_rfl) (by kernel_rfl) (by kernel_rfl) (fun _ _ _ h => h) (Or.inl ⟨by rfl, ?yy14⟩) (by assumption) ?rr14
  case yy14 => intro w hSw; (try dsimp only at hSw); have hz := hSw.2; go_simp; (try with_reducible rfl)
  try simp only [Act.put, List.setIfInBounds_toArray, List.set_cons_zero, List.set_cons_succ]
  refine' takeL (i := 14) (v := .int .u32 y) rfl (by kernel_rfl) (by kernel_rfl) (by kernel_rfl) (fun _ _ _ h => h) (Or.inl ⟨by rfl, ?yy15⟩) (by assumption) ?rr15
  case yy15 => intro w hSw; (try dsimp only at hSw); have e3 := ew; go_simp; (try with_reducible rfl)
  try simp only [Act.put, List.setIfInBounds_toArray, List.set_cons_zero, List.set_cons_succ]
  refine' takeL (i := 15) (v := .int .u32 (x / 256 * 256 + y)) rfl (by kernel_rfl) (by kernel_rfl) (by kernel_rfl) (fun _ _ _ h => h) (Or.inl ⟨by rfl, ?yy16⟩) (by assumption) ?rr16
  case yy16 => intro w hSw; (try dsimp only at hSw); have e1 := an; have e2 := orr; go_simp; (try with_reducible rfl)
  try simp only [Act.put, List.setIfInBounds_toArray, List.set_cons_zero, List.set_cons_succ]
  refine' takeL (i := 18) (v := _) rfl (by kernel_rfl) (by kernel_rfl) (by kernel_rfl) (fun _ _ _ h => h) (Or.inl ⟨by rfl, ?yy17⟩) (by assumption) ?rr17
  case yy17 => intro w hSw; (try dsimp only at hSw); go_simp; (try with_reducible rfl)
  try simp only [Act.put, List.setIfInBounds_toArray, List.set_cons_zero, List.set_cons_succ]
  refine wpAnyH_ready (rs := [19]) (by kernel_rfl) (by simp) ?_
  refine consL rfl (fun K hK => ?_) AllReadyH.nil
  have cS := Mb.out.m.cr hn16
  have fS := Mb.out.m.free (28 + n)
  go_simp
  refine hK.out _ _ ?_ (fun hHeld => ?_)
  · (try dsimp only); exact ⟨⟨_, (Mb.out.setr hn16 _).m⟩, (cell_set _ (by simpa using hne)).trans yc⟩
  clear hK K
  try simp only [Act.put, List.setIfInBounds_toArray, List.set_cons_zero, List.set_cons_succ]
  refine wpAnyH_done (by kernel_rfl) ?_ _
  go_wp2
  first | go_end0 | refine bodyPost_ret (results_none rfl _ _ _) rfl ?_
  exact ⟨rfl, Mb.out.setr hn16 _, Cb.out.setCell (by simp) _⟩
set_option maxRecDepth 1000000 in
set_option maxHeartbeats 8000000 in
theorem move_67_no (g n : Nat) (F : Foot) (is os rs : List Int) (ps : List Value) (ov : Bool) (bs ks : List Int) (key a : Int) (w : World) (h : MS w g F is os rs ps ov bs ks) (hn : is.getD 2 0 = (n : Int)) (hn16 : n < 16) (hkey : ps.getD 1 undef = .int .i64 key) (hsec : ∀ W, MS W g F is os rs ps ov bs ks → Calls Try.prog 44 #[.pointer (some ⟨g, 0, none⟩)] W fun e w' => e = .returned (.int .i64 a) ∧ Ch W w' []) (ha0 : 0 ≤ a) (ha1 : a ≤ 16777215) (ro : ∀ z ∈ os, 0 ≤ z ∧ z ≤ 4294967295) (h0 : is.getD 0 0 = 67) (c : Int) (hc : sCode (alF key) bs.length ks a 1 = c) (hc0 : c ≠ 0) : Calls Try.prog 45 #[.pointer (some ⟨g, 0, none⟩)] w fun e w' => e = .panicked [{ v := .iface 65 (.int .i64 c), recovered := false }] ∧ MS w' g F is os rs ps ov bs ks ∧ Ch w w' [g, F.gb] := by
  have c0 := h.m.ci (c := 0) (by omega)
  rw [h0] at c0
  have c2 := h.m.ci (c := 2) (by omega)
  rw [hn] at c2
  have c4 := h.m.co hn16
  have ra := getD_in ro n
  obtain ⟨x, hx⟩ : ∃ x, os.getD n 0 = x := ⟨_, rfl⟩
  rw [hx] at ra c4
  try rw [hx]
  obtain ⟨x0, x1⟩ := ra
  have i0 : (n : Int) < 16 := by omega
  have i1 : (0 : Int) ≤ (n : Int) := by omega
  have HM := Lib.hid (h.drewN 1)
  have HN := Lib.hid hn
  have HK := Lib.hid hkey
  have SC := Lib.hid hsec
  have D0 := Lib.hid ((Ch.refl w [g, F.gb]).drewN 1)
  have HC := Lib.hid hc
  have HC0 := Lib.hid hc0
  clear h h0 hn hkey hsec ro hx hc hc0
  go_enter Try.func45, Try.ntmps45
  go_upto_region 0 with fail
  go_region
  have M2 := Lib.hid (HM.out.drewN 1)
  go_upto_region 9 with fail
  clear c0 c2 c4
  refine wp_region_held_drew (S := (fun w' => ∃ rs' : List Int, Mc w' g is os rs' ps (.pointer (some ⟨F.g, 0, none⟩)) ov)) (by kernel_rfl) ?_ (fun hHeld => ?_)
  · (try dsimp only); exact ⟨_, M2.out.m⟩
  refine' takeL (i := 0) (v := _) rfl (by kernel_rfl) (by kernel_rfl) (by kernel_rfl) (fun _ _ _ h => h) (Or.inl ⟨by rfl, ?yy18⟩) (by assumption) ?rr18
  case yy18 => intro w hSw; (try dsimp only at hSw); go_simp; (try with_reducible rfl)
  try simp only [Act.put, List.setIfInBounds_toArray, List.set_cons_zero, List.set_cons_succ]
  refine' takeL (i := 1) (v := _) rfl (by kernel_rfl) (by kernel_rfl) (by kernel_rfl) (fun _ _ _ h => h) (Or.inl ⟨by rfl, ?yy19⟩) (by assumption) ?rr19
  case yy19 => intro w hSw; (try dsimp only at hSw); go_simp; (try with_reducible rfl)
  try simp only [Act.put, List.setIfInBounds_toArray, List.set_cons_zero, List.set_cons_succ]
  refine' takeL (i := 2) (v := _) rfl (by kernel_rfl) (by kernel_rfl) (by kernel_rfl) (fun _ _ _ h => h) (Or.inl ⟨by rfl, ?yy20⟩) (by assumption) ?rr20
  case yy20 => intro w hSw; (try dsimp only at hSw); go_simp; (try with_reducible rfl)
  try simp only [Act.put, List.setIfInBounds_toArray, List.set_cons_zero, List.set_cons_succ]
  refine' takeL (i := 3) (v := _) rfl (by kernel_rfl) (by kernel_rfl) (by kernel_rfl) (fun _ _ _ h => h) (Or.inl ⟨by rfl, ?yy21⟩) (by assumption) ?rr21
  case yy21 => intro w hSw; (try dsimp only at hSw); go_simp; (try with_reducible rfl)
  try simp only [Act.put, List.setIfInBounds_toArray, List.set_cons_zero, List.set_cons_succ]
  refine' takeL (i := 4) (v := _) rfl (by kernel_rfl) (by kernel_rfl) (by kernel_rfl) (fun _ _ _ h => h) (Or.inl ⟨by rfl, ?yy22⟩) (by assumption) ?rr22
  case yy22 => intro w hSw; (try dsimp only at hSw); go_simp; (try with_reducible rfl)
  try simp only [Act.put, List.setIfInBounds_toArray, List.set_cons_zero, List.set_cons_succ]
  refine' takeL (i := 5) (v := .int .i64 (n : Int)) rfl (by kernel_rfl) (by kernel_rfl) (by kernel_rfl) (fun _ _ _ h => h) (Or.inl ⟨by rfl, ?yy23⟩) (by assumption) ?rr23
  case yy23 => intro w hSw; (try dsimp only at hSw); obtain ⟨rs', hx⟩ := hSw; have hq := hx.ci (c := 2) (by omega); rw [HN.out] at hq; go_simp; (try with_reducible rfl)
  try simp only [Act.put, List.setIfInBounds_toArray, List.set_cons_zero, List.set_cons_succ]
  refine' takeL (i := 6) (v := _) rfl (by kernel_rfl) (by kernel_rfl) (by kernel_rfl) (fun _ _ _ h => h) (Or.inl ⟨by rfl, ?yy24⟩) (by assumption) ?rr24
  case yy24 => intro w hSw; (try dsimp only at hSw); go_simp; (try with_reducible rfl)
  try simp only [Act.put, List.setIfInBounds_toArray, List.set_cons_zero, List.set_cons_succ]
  refine' takeL (i := 7) (v := _) rfl (by kernel_rfl) (by kernel_rfl) (by kernel_rfl) (fun _ _ _ h => h) (Or.inl ⟨by rfl, ?yy25⟩) (by assumption) ?rr25
  case yy25 => intro w hSw; (try dsimp only at hSw); go_simp; (try with_reducible rfl)
  try simp only [Act.put, List.setIfInBounds_toArray, List.set_cons_zero, List.set_cons_succ]
  refine' takeL (i := 8) (v := _) rfl (by kernel_rfl) (by kernel_rfl) (by kernel_rfl) (fun _ _ _ h => h) (Or.inl ⟨by rfl, ?yy26⟩) (by assumption) ?rr26
  case yy26 => intro w hSw; (try dsimp only at hSw); go_simp; (try with_reducible rfl)
  try simp only [Act.put, List.setIfInBounds_toArray, List.set_cons_zero, List.set_cons_succ]
  refine' takeL (i := 9) (v := _) rfl (by kernel_rfl) (by kernel_rfl) (by kernel_rfl) (fun _ _ _ h => h) (Or.inl ⟨by rfl, ?yy27⟩) (by assumption) ?rr27
  case yy27 => intro w hSw; (try dsimp only at hSw); go_simp; (try with_reducible rfl)
  try simp only [Act.put, List.setIfInBounds_toArray, List.set_cons_zero, List.set_cons_succ]
  refine' takeL (i := 16) (v := _) rfl (by kernel_rfl) (by kernel_rfl) (by kernel_rfl) (fun _ _ _ h => h) (Or.inl ⟨by rfl, ?yy28⟩) (by assumption) ?rr28
  case yy28 => intro w hSw; (try dsimp only at hSw); go_simp; (try with_reducible rfl)
  try simp only [Act.put, List.setIfInBounds_toArray, List.set_cons_zero, List.set_cons_succ]
  refine' takeL (i := 17) (v := _) rfl (by kernel_rfl) (by kernel_rfl) (by kernel_rfl) (fun _ _ _ h => h) (Or.inl ⟨by rfl, ?yy29⟩) (by assumption) ?rr29
  case yy29 => intro w hSw; (try dsimp only at hSw); go_simp; (try with_reducible rfl)
  try simp only [Act.put, List.setIfInBounds_toArray, List.set_cons_zero, List.set_cons_succ]
  refine wpAnyH_ready (rs := [10]) (by kernel_rfl) (by simp) ?_
  refine consL rfl (fun K hK => ?_) AllReadyH.nil
  go_simp
  go_at_call 44
  refine (SC.out _ M2.out).mono ?_
  rintro e wa ⟨rfl, hca⟩
  have Ma := Lib.hid (M2.out.ch hca)
  have Ca := Lib.hid ((D0.out.drewN 1).trans (hca.mono (by simp)))
  clear hca hHeld
  go_wp2_with fail
  refine hK.out _ _ ?_ (fun hHeld => ?_)
  · (try dsimp only); exact ⟨_, Ma.out.m⟩
  clear hK K
  try simp only [Act.put, List.setIfInBounds_toArray, List.set_cons_zero, List.set_cons_succ]
  refine wpAnyH_ready (rs := [11]) (by kernel_rfl) (by simp) ?_
  refine consL rfl (fun K hK => ?_) AllReadyH.nil
  go_simp
  go_at_call 68
  refine (fetch_no g F is os rs ps ov bs ks a 1 key _ Ma.out HK.out c HC.out HC0.out).mono ?_
  rintro e wb ⟨rfl, hM, hCh⟩
  exact ⟨rfl, rfl, hM, Ca.out.trans (hCh.mono (by simp))⟩
end Go.Proofs.Ythjdjbipfdigeaa

