/- Contracts and laws on the way to the statement, text 12 of 25. Conditions: as each states them. -/
import Derived.Test.YthjdjbipfdigeaaCg2
import Derived.Test.YthjdjbipfdigeaaCg6
import Derived.Test.YthjdjbipfdigeaaCg7
namespace Go.Proofs.Ythjdjbipfdigeaa
open Go.RowKit
set_option maxRecDepth 100000
set_option linter.unusedVariables false
set_option linter.unusedSimpArgs false
set_option maxRecDepth 1000000 in
set_option maxHeartbeats 8000000 in
theorem change_z (b : Int) (b0 : 0 ≤ b) (b1 : b ≤ 255) (g : Nat) (F : Foot) (is os rs : List Int) (ps : List Value) (ov : Bool) (bs ks : List Int) (key a : Int) (w : World) (h : MS w g F is os rs ps ov bs ks) (hkey : ps.getD 1 undef = .int .i64 key) (hc : sCode (alP key) bs.length ks a 1 = 0) (hz : b = 0) : Calls Try.prog 72 #[.pointer (some ⟨g, 0, none⟩), .int .i64 a, .int .u8 b] w fun e w' => e = .returned (.tuple #[]) ∧ MS w' g F is os rs (ps.set 7 (.int .i64 0)) ov (sPut (alP key) bs ks a [b]) ks ∧ Ch w w' [g, F.gb] := by
  have HM := Lib.hid h
  have HK := Lib.hid hkey
  have D0 := Lib.hid (Ch.refl w [g, F.gb])
  have HC := Lib.hid hc
  have e0 : (b != 0) = false := by simpa using hz
  clear h hkey hc hz
  go_enter Try.func72, Try.ntmps72
  go_wp2_with (go_at_call 65; refine (put_m g F is os rs ps ov bs ks a key _ 1 1 [b] _ (HM.out.keep ((Below.refl _ _).alloc (Nat.le_refl _) _)) HK.out (byt_new _ [b] (by intro z hz; simp at hz; omega) _ rfl 1 rfl _) (by omega) HC.out).mono ?_; rintro e w5 ⟨rfl, hM5, hC5⟩; have M5 := Lib.hid hM5; have C5 := Lib.hid ((D0.out.alloc _).trans (hC5.mono (by simp))); have c7 := hM5.m.cp (n := 7) (by omega); have f7 := hM5.m.free 51; clear hM5 hC5)
  first | go_end0 | refine bodyPost_ret (results_none rfl _ _ _) rfl ?_
  exact ⟨rfl, M5.out.setp (n := 7) (by omega) _, C5.out.setCell (by simp) _⟩
set_option maxRecDepth 1000000 in
set_option maxHeartbeats 8000000 in
theorem change_n (b : Int) (b0 : 0 ≤ b) (b1 : b ≤ 255) (g : Nat) (F : Foot) (is os rs : List Int) (ps : List Value) (ov : Bool) (bs ks : List Int) (key a : Int) (w : World) (h : MS w g F is os rs ps ov bs ks) (hkey : ps.getD 1 undef = .int .i64 key) (hc : sCode (alP key) bs.length ks a 1 = 0) (hz : b ≠ 0) : Calls Try.prog 72 #[.pointer (some ⟨g, 0, none⟩), .int .i64 a, .int .u8 b] w fun e w' => e = .returned (.tuple #[]) ∧ MS w' g F is os rs (ps.set 7 (.int .i64 1)) ov (sPut (alP key) bs ks a [b]) ks ∧ Ch w w' [g, F.gb] := by
  have HM := Lib.hid h
  have HK := Lib.hid hkey
  have D0 := Lib.hid (Ch.refl w [g, F.gb])
  have HC := Lib.hid hc
  have e0 : (b != 0) = true := by simpa using hz
  clear h hkey hc hz
  go_enter Try.func72, Try.ntmps72
  go_wp2_with (go_at_call 65; refine (put_m g F is os rs ps ov bs ks a key _ 1 1 [b] _ (HM.out.keep ((Below.refl _ _).alloc (Nat.le_refl _) _)) HK.out (byt_new _ [b] (by intro z hz; simp at hz; omega) _ rfl 1 rfl _) (by omega) HC.out).mono ?_; rintro e w5 ⟨rfl, hM5, hC5⟩; have M5 := Lib.hid hM5; have C5 := Lib.hid ((D0.out.alloc _).trans (hC5.mono (by simp))); have c7 := hM5.m.cp (n := 7) (by omega); have f7 := hM5.m.free 51; clear hM5 hC5)
  first | go_end0 | refine bodyPost_ret (results_none rfl _ _ _) rfl ?_
  have hM := (M5.out.setp (n := 7) (by omega) (.int .i64 0)).setp (n := 7) (by omega) (.int .i64 1)
  rw [List.set_set] at hM
  exact ⟨rfl, hM, (C5.out.setCell (by simp) _).setCell (by simp) _⟩
set_option maxRecDepth 1000000 in
set_option maxHeartbeats 8000000 in
theorem change_no (b : Int) (b0 : 0 ≤ b) (b1 : b ≤ 255) (g : Nat) (F : Foot) (is os rs : List Int) (ps : List Value) (ov : Bool) (bs ks : List Int) (key a : Int) (w : World) (h : MS w g F is os rs ps ov bs ks) (hkey : ps.getD 1 undef = .int .i64 key) (c : Int) (hc : sCode (alP key) bs.length ks a 1 = c) (hc0 : c ≠ 0)  : Calls Try.prog 72 #[.pointer (some ⟨g, 0, none⟩), .int .i64 a, .int .u8 b] w fun e w' => e = .panicked [{ v := .iface 65 (.int .i64 c), recovered := false }] ∧ MS w' g F is os rs ps ov bs ks ∧ Ch w w' [g, F.gb] := by
  have HM := Lib.hid h
  have HK := Lib.hid hkey
  have D0 := Lib.hid (Ch.refl w [g, F.gb])
  have HC := Lib.hid hc
  have HC0 := Lib.hid hc0
  clear h hkey hc hc0
  go_enter Try.func72, Try.ntmps72
  go_wp2_with (go_at_call 65; refine (put_no g F is os rs ps ov bs ks a key _ 1 1 [b] _ (HM.out.keep ((Below.refl _ _).alloc (Nat.le_refl _) _)) HK.out (byt_new _ [b] (by intro z hz; simp at hz; omega) _ rfl 1 rfl _) (by omega) c HC.out HC0.out).mono ?_; rintro e w5 ⟨rfl, hM5, hC5⟩; have M5 := Lib.hid hM5; have C5 := Lib.hid ((D0.out.alloc _).trans (hC5.mono (by simp))); clear hM5 hC5)
  exact ⟨rfl, rfl, M5.out, C5.out⟩
theorem change_m (b : Int) (b0 : 0 ≤ b) (b1 : b ≤ 255) (g : Nat) (F : Foot) (is os rs : List Int) (ps : List Value) (ov : Bool) (bs ks : List Int) (key a : Int) (w : World) (h : MS w g F is os rs ps ov bs ks) (hkey : ps.getD 1 undef = .int .i64 key) (hc : sCode (alP key) bs.length ks a 1 = 0) : Calls Try.prog 72 #[.pointer (some ⟨g, 0, none⟩), .int .i64 a, .int .u8 b] w fun e w' => e = .returned (.tuple #[]) ∧ MS w' g F is os rs (ps.set 7 (.int .i64 (if b = 0 then 0 else 1))) ov (sPut (alP key) bs ks a [b]) ks ∧ Ch w w' [g, F.gb] := by
  by_cases hz : b = 0
  · rw [if_pos hz]; exact change_z b b0 b1 g F is os rs ps ov bs ks key a w h hkey hc hz
  · rw [if_neg hz]; exact change_n b b0 b1 g F is os rs ps ov bs ks key a w h hkey hc hz
set_option maxRecDepth 1000000 in
set_option maxHeartbeats 8000000 in
theorem imm_146 (g : Nat) (F : Foot) (is os rs : List Int) (ps : List Value) (ov : Bool) (bs ks : List Int) (key a : Int) (w : World) (h : MS w g F is os rs ps ov bs ks) (hkey : ps.getD 1 undef = .int .i64 key) (i2 : Int) (hi : is.getD 11 0 = i2) (r0 : 0 ≤ i2) (r1 : i2 ≤ 255) (hfir : ∀ W, MS W g F is os rs ps ov bs ks → Calls Try.prog 71 #[.pointer (some ⟨g, 0, none⟩)] W fun e w' => e = .returned (.int .i64 a) ∧ Ch W w' []) (h0 : is.getD 0 0 = 146) (hc : sCode (alP key) bs.length ks a 1 = 0)  : Calls Try.prog 46 #[.pointer (some ⟨g, 0, none⟩)] w fun e w' => e = .returned (.tuple #[]) ∧ MS w' g F is os rs ps ov (sPut (alP key) bs ks a [i2]) ks ∧ Ch w w' [g, F.gb] := by
  have s11 : w.cell? ⟨g, 11, none⟩ = some (.int .i64 i2) := by have hq := h.m.ci (c := 11) (by omega); rw [hi] at hq; exact hq
  have HM := Lib.hid (h.drewN 1)
  have HI := Lib.hid hi
  have HK := Lib.hid hkey
  have FC := Lib.hid hfir
  have H0 := Lib.hid h0
  have D0 := Lib.hid ((Ch.refl w [g, F.gb]).drewN 1)
  have ew : IntKind.u8.wrap i2 = i2 := by rw [IntKind.wrap_u8]; omega
  have HC := Lib.hid hc
  clear h hi hkey hfir h0 hc
  go_enter Try.func46, Try.ntmps46
  go_upto_region 0 with fail
  go_region_held3 (fun w' => w'.cell? ⟨g, 11, none⟩ = some (.int .i64 i2)) (first | exact s11 | exact t11) ((go_at_call 71; refine (FC.out _ HM.out).mono ?_; rintro e w1 ⟨rfl, hcs⟩; have M1 := Lib.hid (HM.out.ch hcs); have C1 := Lib.hid (D0.out.trans (hcs.mono (by simp))); have t11 : w1.cell? ⟨g, 11, none⟩ = some (.int .i64 i2) := (by have hq := M1.out.m.ci (c := 11) (by omega); rw [HI.out] at hq; exact hq); clear hcs))
  clear s11 t11
  have c0 := M1.out.m.ci (c := 0) (by omega)
  rw [H0.out] at c0
  go_wp2_with (go_at_call 65; refine (put_m g F is os rs ps ov bs ks a key _ 1 1 [i2] _ (M1.out.keep ((Below.refl _ _).alloc (Nat.le_refl _) _)) HK.out (byt_new _ [i2] (by intro z hz; simp at hz; omega) _ rfl 1 rfl _) (by omega) HC.out).mono ?_; rintro e w5 ⟨rfl, hM5, hC5⟩; have M5 := Lib.hid hM5; have C5 := Lib.hid ((C1.out.alloc _).trans (hC5.mono (by simp))); have c7 := hM5.m.cp (n := 7) (by omega); have f7 := hM5.m.free 51; clear hM5 hC5)
  first | go_end0 | refine bodyPost_ret (results_none rfl _ _ _) rfl ?_
  exact ⟨rfl, M5.out, C5.out⟩
set_option maxRecDepth 1000000 in
set_option maxHeartbeats 8000000 in
theorem imm_146_no (g : Nat) (F : Foot) (is os rs : List Int) (ps : List Value) (ov : Bool) (bs ks : List Int) (key a : Int) (w : World) (h : MS w g F is os rs ps ov bs ks) (hkey : ps.getD 1 undef = .int .i64 key) (i2 : Int) (hi : is.getD 11 0 = i2) (r0 : 0 ≤ i2) (r1 : i2 ≤ 255) (hfir : ∀ W, MS W g F is os rs ps ov bs ks → Calls Try.prog 71 #[.pointer (some ⟨g, 0, none⟩)] W fun e w' => e = .returned (.int .i64 a) ∧ Ch W w' []) (h0 : is.getD 0 0 = 146) (c : Int) (hc : sCode (alP key) bs.length ks a 1 = c) (hc0 : c ≠ 0)  : Calls Try.prog 46 #[.pointer (some ⟨g, 0, none⟩)] w fun e w' => e = .panicked [{ v := .iface 65 (.int .i64 c), recovered := false }] ∧ MS w' g F is os rs ps ov bs ks ∧ Ch w w' [g, F.gb] := by
  have s11 : w.cell? ⟨g, 11, none⟩ = some (.int .i64 i2) := by have hq := h.m.ci (c := 11) (by omega); rw [hi] at hq; exact hq
  have HM := Lib.hid (h.drewN 1)
  have HI := Lib.hid hi
  have HK := Lib.hid hkey
  have FC := Lib.hid hfir
  have H0 := Lib.hid h0
  have D0 := Lib.hid ((Ch.refl w [g, F.gb]).drewN 1)
  have ew : IntKind.u8.wrap i2 = i2 := by rw [IntKind.wrap_u8]; omega
  have HC := Lib.hid hc
  have HC0 := Lib.hid hc0
  clear h hi hkey hfir h0 hc hc0
  go_enter Try.func46, Try.ntmps46
  go_upto_region 0 with fail
  go_region_held3 (fun w' => w'.cell? ⟨g, 11, none⟩ = some (.int .i64 i2)) (first | exact s11 | exact t11) ((go_at_call 71; refine (FC.out _ HM.out).mono ?_; rintro e w1 ⟨rfl, hcs⟩; have M1 := Lib.hid (HM.out.ch hcs); have C1 := Lib.hid (D0.out.trans (hcs.mono (by simp))); have t11 : w1.cell? ⟨g, 11, none⟩ = some (.int .i64 i2) := (by have hq := M1.out.m.ci (c := 11) (by omega); rw [HI.out] at hq; exact hq); clear hcs))
  clear s11 t11
  have c0 := M1.out.m.ci (c := 0) (by omega)
  rw [H0.out] at c0
  go_wp2_with (go_at_call 65; refine (put_no g F is os rs ps ov bs ks a key _ 1 1 [i2] _ (M1.out.keep ((Below.refl _ _).alloc (Nat.le_refl _) _)) HK.out (byt_new _ [i2] (by intro z hz; simp at hz; omega) _ rfl 1 rfl _) (by omega) c HC.out HC0.out).mono ?_; rintro e w5 ⟨rfl, hM5, hC5⟩; have M5 := Lib.hid hM5; have C5 := Lib.hid ((C1.out.alloc _).trans (hC5.mono (by simp))); clear hM5 hC5)
  exact ⟨rfl, rfl, M5.out, C5.out⟩
set_option maxRecDepth 1000000 in
set_option maxHeartbeats 8000000 in
theorem imm_no (g : Nat) (F : Foot) (is os rs : List Int) (ps : List Value) (ov : Bool) (bs ks : List Int) (key a : Int) (w : World) (h : MS w g F is os rs ps ov bs ks) (hkey : ps.getD 1 undef = .int .i64 key) (i2 : Int) (hi : is.getD 11 0 = i2) (r0 : 0 ≤ i2) (r1 : i2 ≤ 255) (hfir : ∀ W, MS W g F is os rs ps ov bs ks → Calls Try.prog 71 #[.pointer (some ⟨g, 0, none⟩)] W fun e w' => e = .returned (.int .i64 a) ∧ Ch W w' []) (op : Int) (h0 : is.getD 0 0 = op) (hop : op ≠ 146) (c : Int) (hc : sCode (alF key) bs.length ks a 1 = c) (hc0 : c ≠ 0) : Calls Try.prog 46 #[.pointer (some ⟨g, 0, none⟩)] w fun e w' => e = .panicked [{ v := .iface 65 (.int .i64 c), recovered := false }] ∧ MS w' g F is os rs ps ov bs ks ∧ Ch w w' [g, F.gb] := by
  have s11 : w.cell? ⟨g, 11, none⟩ = some (.int .i64 i2) := by have hq := h.m.ci (c := 11) (by omega); rw [hi] at hq; exact hq
  have HM := Lib.hid (h.drewN 1)
  have HI := Lib.hid hi
  have HK := Lib.hid hkey
  have FC := Lib.hid hfir
  have H0 := Lib.hid h0
  have D0 := Lib.hid ((Ch.refl w [g, F.gb]).drewN 1)
  have ew : IntKind.u8.wrap i2 = i2 := by rw [IntKind.wrap_u8]; omega
  have HC := Lib.hid hc
  have HC0 := Lib.hid hc0
  have e0 : (op == 146) = false := by simpa using hop
  clear h hi hkey hfir h0 hc hc0 hop
  go_enter Try.func46, Try.ntmps46
  go_upto_region 0 with fail
  go_region_held3 (fun w' => w'.cell? ⟨g, 11, none⟩ = some (.int .i64 i2)) (first | exact s11 | exact t11) ((go_at_call 71; refine (FC.out _ HM.out).mono ?_; rintro e w1 ⟨rfl, hcs⟩; have M1 := Lib.hid (HM.out.ch hcs); have C1 := Lib.hid (D0.out.trans (hcs.mono (by simp))); have t11 : w1.cell? ⟨g, 11, none⟩ = some (.int .i64 i2) := (by have hq := M1.out.m.ci (c := 11) (by omega); rw [HI.out] at hq; exact hq); clear hcs))
  clear s11 t11
  have c0 := M1.out.m.ci (c := 0) (by omega)
  rw [H0.out] at c0
  go_wp2_with (go_at_call 68; refine (fetch_no g F is os rs ps ov bs ks a 1 key _ M1.out HK.out c HC.out HC0.out).mono ?_; rintro e wb ⟨rfl, hM, hCh⟩; have M2 := Lib.hid hM; have C2 := Lib.hid (C1.out.trans (hCh.mono (by simp))); clear hM hCh)
  exact ⟨rfl, rfl, M2.out, C2.out⟩
set_option maxRecDepth 1000000 in
set_option maxHeartbeats 8000000 in
theorem imm_145z (g : Nat) (F : Foot) (is os rs : List Int) (ps : List Value) (ov : Bool) (bs ks : List Int) (key a : Int) (w : World) (h : MS w g F is os rs ps ov bs ks) (hkey : ps.getD 1 undef = .int .i64 key) (i2 : Int) (hi : is.getD 11 0 = i2) (r0 : 0 ≤ i2) (r1 : i2 ≤ 255) (hfir : ∀ W, MS W g F is os rs ps ov bs ks → Calls Try.prog 71 #[.pointer (some ⟨g, 0, none⟩)] W fun e w' => e = .returned (.int .i64 a) ∧ Ch W w' []) (hf : sCode (alF key) bs.length ks a 1 = 0) (hrange : 0 ≤ (sGet bs a 1).getD 0 0 ∧ (sGet bs a 1).getD 0 0 ≤ 255) (hb : bits .and .u8 ((sGet bs a 1).getD 0 0) i2 = 0) (h0 : is.getD 0 0 = 145) : Calls Try.prog 46 #[.pointer (some ⟨g, 0, none⟩)] w fun e w' => e = .returned (.tuple #[]) ∧ MS w' g F is os rs (ps.set 7 (.int .i64 0)) ov bs ks ∧ Ch w w' [g, F.gb] := by
  have s11 : w.cell? ⟨g, 11, none⟩ = some (.int .i64 i2) := by have hq := h.m.ci (c := 11) (by omega); rw [hi] at hq; exact hq
  have HM := Lib.hid (h.drewN 1)
  have HI := Lib.hid hi
  have HK := Lib.hid hkey
  have FC := Lib.hid hfir
  have H0 := Lib.hid h0
  have D0 := Lib.hid ((Ch.refl w [g, F.gb]).drewN 1)
  have ew : IntKind.u8.wrap i2 = i2 := by rw [IntKind.wrap_u8]; omega
  have HF := Lib.hid hf
  have hl := sGet_leng hf
  have hin := hrange
  obtain ⟨zs, hzs⟩ : ∃ zs, sGet bs a 1 = zs := ⟨_, rfl⟩
  rw [hzs] at hl hin hb
  have HZ := Lib.hid hzs
  obtain ⟨y, hy⟩ : ∃ y, zs.getD 0 0 = y := ⟨_, rfl⟩
  rw [hy] at hin hb
  obtain ⟨y0, y1⟩ := hin
  have HY := Lib.hid hy
  have HL := Lib.hid hl
  obtain ⟨z, hz⟩ : ∃ z, bits .and .u8 y i2 = z := ⟨_, rfl⟩
  rw [hz] at hb
  have e0 : (z == 0) = true := by simpa using hb
  clear h hi hkey hfir h0 hf hrange hzs hl hy hb
  go_enter Try.func46, Try.ntmps46
  go_upto_region 0 with fail
  go_region_held3 (fun w' => w'.cell? ⟨g, 11, none⟩ = some (.int .i64 i2)) (first | exact s11 | exact t11) ((go_at_call 71; refine (FC.out _ HM.out).mono ?_; rintro e w1 ⟨rfl, hcs⟩; have M1 := Lib.hid (HM.out.ch hcs); have C1 := Lib.hid (D0.out.trans (hcs.mono (by simp))); have t11 : w1.cell? ⟨g, 11, none⟩ = some (.int .i64 i2) := (by have hq := M1.out.m.ci (c := 11) (by omega); rw [HI.out] at hq; exact hq); clear hcs))
  clear s11 t11
  have c0 := M1.out.m.ci (c := 0) (by omega)
  rw [H0.out] at c0
  go_wp2_with (go_at_call 68; refine (fetch_m g F is os rs ps ov bs ks a 1 key _ M1.out HK.out HF.out).mono ?_; rintro e wb ⟨A, mm, cb, rfl, hO, hM, hCh⟩; rw [HZ.out] at hO; have M2 := Lib.hid hM; have C2 := Lib.hid (C1.out.trans (hCh.mono (by simp))); have hml : mm = 1 := (by have := hO.byt.1; have := HL.out; omega); subst hml; obtain ⟨gb, cb', hv, hgb, hgl, -, -⟩ := hO.pos (by omega); injection hv with hv1 hv2 hv3; subst hv1 hv3; obtain ⟨gb', ob', e', hcell⟩ := hO.byt.at_ (by omega); cases e'; have yc' := hcell 0 (by omega); rw [HY.out] at yc'; have yc : wb.cell? ⟨gb, 0, none⟩ = some (.int .u8 y) := (by exact yc'); have k0 := hM.m.ci (c := 0) (by omega); rw [H0.out] at k0; have k7 := hM.m.cp (n := 7) (by omega); have g7 := hM.m.free 51; clear hO hM hCh hgb hgl hcell yc')
  first | go_end0 | refine bodyPost_ret (results_none rfl _ _ _) rfl ?_
  exact ⟨rfl, M2.out.setp (n := 7) (by omega) _, C2.out.setCell (by simp) _⟩
set_option maxRecDepth 1000000 in
set_option maxHeartbeats 8000000 in
theorem imm_145e (g : Nat) (F : Foot) (is os rs : List Int) (ps : List Value) (ov : Bool) (bs ks : List Int) (key a : Int) (w : World) (h : MS w g F is os rs ps ov bs ks) (hkey : ps.getD 1 undef = .int .i64 key) (i2 : Int) (hi : is.getD 11 0 = i2) (r0 : 0 ≤ i2) (r1 : i2 ≤ 255) (hfir : ∀ W, MS W g F is os rs ps ov bs ks → Calls Try.prog 71 #[.pointer (some ⟨g, 0, none⟩)] W fun e w' => e = .returned (.int .i64 a) ∧ Ch W w' []) (hf : sCode (alF key) bs.length ks a 1 = 0) (hrange : 0 ≤ (sGet bs a 1).getD 0 0 ∧ (sGet bs a 1).getD 0 0 ≤ 255) (hb : bits .and .u8 ((sGet bs a 1).getD 0 0) i2 ≠ 0) (hb2 : bits .and .u8 ((sGet bs a 1).getD 0 0) i2 = i2) (h0 : is.getD 0 0 = 145) : Calls Try.prog 46 #[.pointer (some ⟨g, 0, none⟩)] w fun e w' => e = .returned (.tuple #[]) ∧ MS w' g F is os rs (ps.set 7 (.int .i64 3)) ov bs ks ∧ Ch w w' [g, F.gb] := by
  have s11 : w.cell? ⟨g, 11, none⟩ = some (.int .i64 i2) := by have hq := h.m.ci (c := 11) (by omega); rw [hi] at hq; exact hq
  have HM := Lib.hid (h.drewN 1)
  have HI := Lib.hid hi
  have HK := Lib.hid hkey
  have FC := Lib.hid hfir
  have H0 := Lib.hid h0
  have D0 := Lib.hid ((Ch.refl w [g, F.gb]).drewN 1)
  have ew : IntKind.u8.wrap i2 = i2 := by rw [IntKind.wrap_u8]; omega
  have HF := Lib.hid hf
  have hl := sGet_leng hf
  have hin := hrange
  obtain ⟨zs, hzs⟩ : ∃ zs, sGet bs a 1 = zs := ⟨_, rfl⟩
  rw [hzs] at hl hin hb hb2
  have HZ := Lib.hid hzs
  obtain ⟨y, hy⟩ : ∃ y, zs.getD 0 0 = y := ⟨_, rfl⟩
  rw [hy] at hin hb hb2
  obtain ⟨y0, y1⟩ := hin
  have HY := Lib.hid hy
  have HL := Lib.hid hl
  obtain ⟨z, hz⟩ : ∃ z, bits .and .u8 y i2 = z := ⟨_, rfl⟩
  rw [hz] at hb hb2
  have e0 : (z == 0) = false := by simpa using hb
  have e2 : (z == i2) = true := by simpa using hb2
  clear h hi hkey hfir h0 hf hrange hzs hl hy hb hb2
  go_enter Try.func46, Try.ntmps46
  go_upto_region 0 with fail
  go_region_held3 (fun w' => w'.cell? ⟨g, 11, none⟩ = some (.int .i64 i2)) (first | exact s11 | exact t11) ((go_at_call 71; refine (FC.out _ HM.out).mono ?_; rintro e w1 ⟨rfl, hcs⟩; have M1 := Lib.hid (HM.out.ch hcs); have C1 := Lib.hid (D0.out.trans (hcs.mono (by simp))); have t11 : w1.cell? ⟨g, 11, none⟩ = some (.int .i64 i2) := (by have hq := M1.out.m.ci (c := 11) (by omega); rw [HI.out] at hq; exact hq); clear hcs))
  clear s11 t11
  have c0 := M1.out.m.ci (c := 0) (by omega)
  rw [H0.out] at c0
  go_wp2_with (go_at_call 68; refine (fetch_m g F is os rs ps ov bs ks a 1 key _ M1.out HK.out HF.out).mono ?_; rintro e wb ⟨A, mm, cb, rfl, hO, hM, hCh⟩; rw [HZ.out] at hO; have M2 := Lib.hid hM; have C2 := Lib.hid (C1.out.trans (hCh.mono (by simp))); have hml : mm = 1 := (by have := hO.byt.1; have := HL.out; omega); subst hml; obtain ⟨gb, cb', hv, hgb, hgl, -, -⟩ := hO.pos (by omega); injection hv with hv1 hv2 hv3; subst hv1 hv3; obtain ⟨gb', ob', e', hcell⟩ := hO.byt.at_ (by omega); cases e'; have yc' := hcell 0 (by omega); rw [HY.out] at yc'; have yc : wb.cell? ⟨gb, 0, none⟩ = some (.int .u8 y) := (by exact yc'); have k0 := hM.m.ci (c := 0) (by omega); rw [H0.out] at k0; have k7 := hM.m.cp (n := 7) (by omega); have g7 := hM.m.free 51; clear hO hM hCh hgb hgl hcell yc')
  first | go_end0 | refine bodyPost_ret (results_none rfl _ _ _) rfl ?_
  exact ⟨rfl, M2.out.setp (n := 7) (by omega) _, C2.out.setCell (by simp) _⟩
set_option maxRecDepth 1000000 in
set_option maxHeartbeats 8000000 in
theorem imm_145n (g : Nat) (F : Foot) (is os rs : List Int) (ps : List Value) (ov : Bool) (bs ks : List Int) (key a : Int) (w : World) (h : MS w g F is os rs ps ov bs ks) (hkey : ps.getD 1 undef = .int .i64 key) (i2 : Int) (hi : is.getD 11 0 = i2) (r0 : 0 ≤ i2) (r1 : i2 ≤ 255) (hfir : ∀ W, MS W g F is os rs ps ov bs ks → Calls Try.prog 71 #[.pointer (some ⟨g, 0, none⟩)] W fun e w' => e = .returned (.int .i64 a) ∧ Ch W w' []) (hf : sCode (alF key) bs.length ks a 1 = 0) (hrange : 0 ≤ (sGet bs a 1).getD 0 0 ∧ (sGet bs a 1).getD 0 0 ≤ 255) (hb : bits .and .u8 ((sGet bs a 1).getD 0 0) i2 ≠ 0) (hb2 : bits .and .u8 ((sGet bs a 1).getD 0 0) i2 ≠ i2) (h0 : is.getD 0 0 = 145) : Calls Try.prog 46 #[.pointer (some ⟨g, 0, none⟩)] w fun e w' => e = .returned (.tuple #[]) ∧ MS w' g F is os rs (ps.set 7 (.int .i64 1)) ov bs ks ∧ Ch w w' [g, F.gb] := by
  have s11 : w.cell? ⟨g, 11, none⟩ = some (.int .i64 i2) := by have hq := h.m.ci (c := 11) (by omega); rw [hi] at hq; exact hq
  have HM := Lib.hid (h.drewN 1)
  have HI := Lib.hid hi
  have HK := Lib.hid hkey
  have FC := Lib.hid hfir
  have H0 := Lib.hid h0
  have D0 := Lib.hid ((Ch.refl w [g, F.gb]).drewN 1)
  have ew : IntKind.u8.wrap i2 = i2 := by rw [IntKind.wrap_u8]; omega
  have HF := Lib.hid hf
  have hl := sGet_leng hf
  have hin := hrange
  obtain ⟨zs, hzs⟩ : ∃ zs, sGet bs a 1 = zs := ⟨_, rfl⟩
  rw [hzs] at hl hin hb hb2
  have HZ := Lib.hid hzs
  obtain ⟨y, hy⟩ : ∃ y, zs.getD 0 0 = y := ⟨_, rfl⟩
  rw [hy] at hin hb hb2
  obtain ⟨y0, y1⟩ := hin
  have HY := Lib.hid hy
  have HL := Lib.hid hl
  obtain ⟨z, hz⟩ : ∃ z, bits .and .u8 y i2 = z := ⟨_, rfl⟩
  rw [hz] at hb hb2
  have e0 : (z == 0) = false := by simpa using hb
  have e2 : (z == i2) = false := by simpa using hb2
  clear h hi hkey hfir h0 hf hrange hzs hl hy hb hb2
  go_enter Try.func46, Try.ntmps46
  go_upto_region 0 with fail
  go_region_held3 (fun w' => w'.cell? ⟨g, 11, none⟩ = some (.int .i64 i2)) (first | exact s11 | exact t11) ((go_at_call 71; refine (FC.out _ HM.out).mono ?_; rintro e w1 ⟨rfl, hcs⟩; have M1 := Lib.hid (HM.out.ch hcs); have C1 := Lib.hid (D0.out.trans (hcs.mono (by simp))); have t11 : w1.cell? ⟨g, 11, none⟩ = some (.int .i64 i2) := (by have hq := M1.out.m.ci (c := 11) (by omega); rw [HI.out] at hq; exact hq); clear hcs))
  clear s11 t11
  have c0 := M1.out.m.ci (c := 0) (by omega)
  rw [H0.out] at c0
  go_wp2_with (go_at_call 68; refine (fetch_m g F is os rs ps ov bs ks a 1 key _ M1.out HK.out HF.out).mono ?_; rintro e wb ⟨A, mm, cb, rfl, hO, hM, hCh⟩; rw [HZ.out] at hO; have M2 := Lib.hid hM; have C2 := Lib.hid (C1.out.trans (hCh.mono (by simp))); have hml : mm = 1 := (by have := hO.byt.1; have := HL.out; omega); subst hml; obtain ⟨gb, cb', hv, hgb, hgl, -, -⟩ := hO.pos (by omega); injection hv with hv1 hv2 hv3; subst hv1 hv3; obtain ⟨gb', ob', e', hcell⟩ := hO.byt.at_ (by omega); cases e'; have yc' := hcell 0 (by omega); rw [HY.out] at yc'; have yc : wb.cell? ⟨gb, 0, none⟩ = some (.int .u8 y) := (by exact yc'); have k0 := hM.m.ci (c := 0) (by omega); rw [H0.out] at k0; have k7 := hM.m.cp (n := 7) (by omega); have g7 := hM.m.free 51; clear hO hM hCh hgb hgl hcell yc')
  first | go_end0 | refine bodyPost_ret (results_none rfl _ _ _) rfl ?_
  exact ⟨rfl, M2.out.setp (n := 7) (by omega) _, C2.out.setCell (by simp) _⟩
set_option maxRecDepth 1000000 in
set_option maxHeartbeats 8000000 in
theorem imm_149 (g : Nat) (F : Foot) (is os rs : List Int) (ps : List Value) (ov : Bool) (bs ks : List Int) (key a : Int) (w : World) (h : MS w g F is os rs ps ov bs ks) (hkey : ps.getD 1 undef = .int .i64 key) (i2 : Int) (hi : is.getD 11 0 = i2) (r0 : 0 ≤ i2) (r1 : i2 ≤ 255) (hfir : ∀ W, MS W g F is os rs ps ov bs ks → Calls Try.prog 71 #[.pointer (some ⟨g, 0, none⟩)] W fun e w' => e = .returned (.int .i64 a) ∧ Ch W w' []) (hf : sCode (alF key) bs.length ks a 1 = 0) (hrange : 0 ≤ (sGet bs a 1).getD 0 0 ∧ (sGet bs a 1).getD 0 0 ≤ 255) (h0 : is.getD 0 0 = 149) : Calls Try.prog 46 #[.pointer (some ⟨g, 0, none⟩)] w fun e w' => e = .returned (.tuple #[]) ∧ MS w' g F is os rs (ps.set 7 (.int .i64 (sgn (((sGet bs a 1).getD 0 0) - i2)))) ov bs ks ∧ Ch w w' [g, F.gb] := by
  have s11 : w.cell? ⟨g, 11, none⟩ = some (.int .i64 i2) := by have hq := h.m.ci (c := 11) (by omega); rw [hi] at hq; exact hq
  have HM := Lib.hid (h.drewN 1)
  have HI := Lib.hid hi
  have HK := Lib.hid hkey
  have FC := Lib.hid hfir
  have H0 := Lib.hid h0
  have D0 := Lib.hid ((Ch.refl w [g, F.gb]).drewN 1)
  have ew : IntKind.u8.wrap i2 = i2 := by rw [IntKind.wrap_u8]; omega
  have HF := Lib.hid hf
  have hl := sGet_leng hf
  have hin := hrange
  obtain ⟨zs, hzs⟩ : ∃ zs, sGet bs a 1 = zs := ⟨_, rfl⟩
  rw [hzs] at hl hin ⊢
  have HZ := Lib.hid hzs
  obtain ⟨y, hy⟩ : ∃ y, zs.getD 0 0 = y := ⟨_, rfl⟩
  rw [hy] at hin ⊢
  obtain ⟨y0, y1⟩ := hin
  have HY := Lib.hid hy
  have HL := Lib.hid hl
  have u1 : IntKind.u32.wrap y = y := by rw [IntKind.wrap_u32]; omega
  have u2 : IntKind.u32.wrap i2 = i2 := by rw [IntKind.wrap_u32]; omega
  clear h hi hkey hfir h0 hf hrange hzs hl hy
  go_enter Try.func46, Try.ntmps46
  go_upto_region 0 with fail
  go_region_held3 (fun w' => w'.cell? ⟨g, 11, none⟩ = some (.int .i64 i2)) (first | exact s11 | exact t11) ((go_at_call 71; refine (FC.out _ HM.out).mono ?_; rintro e w1 ⟨rfl, hcs⟩; have M1 := Lib.hid (HM.out.ch hcs); have C1 := Lib.hid (D0.out.trans (hcs.mono (by simp))); have t11 : w1.cell? ⟨g, 11, none⟩ = some (.int .i64 i2) := (by have hq := M1.out.m.ci (c := 11) (by omega); rw [HI.out] at hq; exact hq); clear hcs))
  clear s11 t11
  have c0 := M1.out.m.ci (c := 0) (by omega)
  rw [H0.out] at c0
  go_wp2_with (first
    | (go_at_call 73; refine (comparel_c y i2 (by omega) (by omega) (by omega) (by omega) _).mono ?_; rintro e w2 ⟨rfl, hw2⟩; subst hw2)
    | (go_at_call 68; refine (fetch_m g F is os rs ps ov bs ks a 1 key _ M1.out HK.out HF.out).mono ?_; rintro e wb ⟨A, mm, cb, rfl, hO, hM, hCh⟩; rw [HZ.out] at hO; have M2 := Lib.hid hM; have C2 := Lib.hid (C1.out.trans (hCh.mono (by simp))); have hml : mm = 1 := (by have := hO.byt.1; have := HL.out; omega); subst hml; obtain ⟨gb, cb', hv, hgb, hgl, -, -⟩ := hO.pos (by omega); injection hv with hv1 hv2 hv3; subst hv1 hv3; obtain ⟨gb', ob', e', hcell⟩ := hO.byt.at_ (by omega); cases e'; have yc' := hcell 0 (by omega); rw [HY.out] at yc'; have yc : wb.cell? ⟨gb, 0, none⟩ = some (.int .u8 y) := (by exact yc'); have k0 := hM.m.ci (c := 0) (by omega); rw [H0.out] at k0; have k7 := hM.m.cp (n := 7) (by omega); have g7 := hM.m.free 51; clear hO hM hCh hgb hgl hcell yc'))
  first | go_end0 | refine bodyPost_ret (results_none rfl _ _ _) rfl ?_
  exact ⟨rfl, M2.out.setp (n := 7) (by omega) _, C2.out.setCell (by simp) _⟩
set_option maxRecDepth 1000000 in
set_option maxHeartbeats 8000000 in
theorem imm_147 (g : Nat) (F : Foot) (is os rs : List Int) (ps : List Value) (ov : Bool) (bs ks : List Int) (key a : Int) (w : World) (h : MS w g F is os rs ps ov bs ks) (hkey : ps.getD 1 undef = .int .i64 key) (i2 : Int) (hi : is.getD 11 0 = i2) (r0 : 0 ≤ i2) (r1 : i2 ≤ 255) (hfir : ∀ W, MS W g F is os rs ps ov bs ks → Calls Try.prog 71 #[.pointer (some ⟨g, 0, none⟩)] W fun e w' => e = .returned (.int .i64 a) ∧ Ch W w' []) (hf : sCode (alF key) bs.length ks a 1 = 0) (hrange : 0 ≤ (sGet bs a 1).getD 0 0 ∧ (sGet bs a 1).getD 0 0 ≤ 255) (h0 : is.getD 0 0 = 147) (hc : sCode (alP key) bs.length ks a 1 = 0)  : Calls Try.prog 46 #[.pointer (some ⟨g, 0, none⟩)] w fun e w' => e = .returned (.tuple #[]) ∧ MS w' g F is os rs (ps.set 7 (.int .i64 (((sGet bs a 1).getD 0 0) / 128))) ov (sPut (alP key) bs ks a [255]) ks ∧ Ch w w' [g, F.gb] := by
  have s11 : w.cell? ⟨g, 11, none⟩ = some (.int .i64 i2) := by have hq := h.m.ci (c := 11) (by omega); rw [hi] at hq; exact hq
  have HM := Lib.hid (h.drewN 1)
  have HI := Lib.hid hi
  have HK := Lib.hid hkey
  have FC := Lib.hid hfir
  have H0 := Lib.hid h0
  have D0 := Lib.hid ((Ch.refl w [g, F.gb]).drewN 1)
  have ew : IntKind.u8.wrap i2 = i2 := by rw [IntKind.wrap_u8]; omega
  have HF := Lib.hid hf
  have hl := sGet_leng hf
  have hin := hrange
  obtain ⟨zs, hzs⟩ : ∃ zs, sGet bs a 1 = zs := ⟨_, rfl⟩
  rw [hzs] at hl hin ⊢
  have HZ := Lib.hid hzs
  obtain ⟨y, hy⟩ : ∃ y, zs.getD 0 0 = y := ⟨_, rfl⟩
  rw [hy] at hin ⊢
  obtain ⟨y0, y1⟩ := hin
  have HY := Lib.hid hy
  have HL := Lib.hid hl
  have HC := Lib.hid hc
  clear h hi hkey hfir h0 hf hrange hzs hl hy hc
  go_enter Try.func46, Try.ntmps46
  go_upto_region 0 with fail
  go_region_held3 (fun w' => w'.cell? ⟨g, 11, none⟩ = some (.int .i64 i2)) (first | exact s11 | exact t11) ((go_at_call 71; refine (FC.out _ HM.out).mono ?_; rintro e w1 ⟨rfl, hcs⟩; have M1 := Lib.hid (HM.out.ch hcs); have C1 := Lib.hid (D0.out.trans (hcs.mono (by simp))); have t11 : w1.cell? ⟨g, 11, none⟩ = some (.int .i64 i2) := (by have hq := M1.out.m.ci (c := 11) (by omega); rw [HI.out] at hq; exact hq); clear hcs))
  clear s11 t11
  have c0 := M1.out.m.ci (c := 0) (by omega)
  rw [H0.out] at c0
  go_wp2_with (first
    | (go_at_call 65; refine (put_m g F is os rs ps ov bs ks a key _ 1 1 [255] _ (M2.out.keep ((Below.refl _ _).alloc (Nat.le_refl _) _)) HK.out (byt_new _ [255] (by intro z hz; simp at hz; omega) _ rfl 1 rfl _) (by omega) HC.out).mono ?_; rintro e w5 ⟨rfl, hM5, hC5⟩; have M5 := Lib.hid hM5; have C5 := Lib.hid ((C2.out.alloc _).trans (hC5.mono (by simp))); have c7 := hM5.m.cp (n := 7) (by omega); have f7 := hM5.m.free 51; clear hM5 hC5)
    | (go_at_call 68; refine (fetch_m g F is os rs ps ov bs ks a 1 key _ M1.out HK.out HF.out).mono ?_; rintro e wb ⟨A, mm, cb, rfl, hO, hM, hCh⟩; rw [HZ.out] at hO; have M2 := Lib.hid hM; have C2 := Lib.hid (C1.out.trans (hCh.mono (by simp))); have hml : mm = 1 := (by have := hO.byt.1; have := HL.out; omega); subst hml; obtain ⟨gb, cb', hv, hgb, hgl, -, -⟩ := hO.pos (by omega); injection hv with hv1 hv2 hv3; subst hv1 hv3; obtain ⟨gb', ob', e', hcell⟩ := hO.byt.at_ (by omega); cases e'; have yc' := hcell 0 (by omega); rw [HY.out] at yc'; have yc : wb.cell? ⟨gb, 0, none⟩ = some (.int .u8 y) := (by exact yc'); have k0 := hM.m.ci (c := 0) (by omega); rw [H0.out] at k0; have k7 := hM.m.cp (n := 7) (by omega); have g7 := hM.m.free 51; clear hO hM hCh hgb hgl hcell yc'))
  first | go_end0 | refine bodyPost_ret (results_none rfl _ _ _) rfl ?_
  exact ⟨rfl, M5.out.setp (n := 7) (by omega) _, C5.out.setCell (by simp) _⟩
set_option maxRecDepth 1000000 in
set_option maxHeartbeats 8000000 in
theorem imm_147_no (g : Nat) (F : Foot) (is os rs : List Int) (ps : List Value) (ov : Bool) (bs ks : List Int) (key a : Int) (w : World) (h : MS w g F is os rs ps ov bs ks) (hkey : ps.getD 1 undef = .int .i64 key) (i2 : Int) (hi : is.getD 11 0 = i2) (r0 : 0 ≤ i2) (r1 : i2 ≤ 255) (hfir : ∀ W, MS W g F is os rs ps ov bs ks → Calls Try.prog 71 #[.pointer (some ⟨g, 0, none⟩)] W fun e w' => e = .returned (.int .i64 a) ∧ Ch W w' []) (hf : sCode (alF key) bs.length ks a 1 = 0) (hrange : 0 ≤ (sGet bs a 1).getD 0 0 ∧ (sGet bs a 1).getD 0 0 ≤ 255) (h0 : is.getD 0 0 = 147) (c : Int) (hc : sCode (alP key) bs.length ks a 1 = c) (hc0 : c ≠ 0)  : Calls Try.prog 46 #[.pointer (some ⟨g, 0, none⟩)] w fun e w' => e = .panicked [{ v := .iface 65 (.int .i64 c), recovered := false }] ∧ MS w' g F is os rs ps ov bs ks ∧ Ch w w' [g, F.gb] := by
  have s11 : w.cell? ⟨g, 11, none⟩ = some (.int .i64 i2) := by have hq := h.m.ci (c := 11) (by omega); rw [hi] at hq; exact hq
  have HM := Lib.hid (h.drewN 1)
  have HI := Lib.hid hi
  have HK := Lib.hid hkey
  have FC := Lib.hid hfir
  have H0 := Lib.hid h0
  have D0 := Lib.hid ((Ch.refl w [g, F.gb]).drewN 1)
  have ew : IntKind.u8.wrap i2 = i2 := by rw [IntKind.wrap_u8]; omega
  have HF := Lib.hid hf
  have hl := sGet_leng hf
  have hin := hrange
  obtain ⟨zs, hzs⟩ : ∃ zs, sGet bs a 1 = zs := ⟨_, rfl⟩
  rw [hzs] at hl hin
  have HZ := Lib.hid hzs
  obtain ⟨y, hy⟩ : ∃ y, zs.getD 0 0 = y := ⟨_, rfl⟩
  rw [hy] at hin
  obtain ⟨y0, y1⟩ := hin
  have HY := Lib.hid hy
  have HL := Lib.hid hl
  have HC := Lib.hid hc
  have HC0 := Lib.hid hc0
  clear h hi hkey hfir h0 hf hrange hzs hl hy hc hc0
  go_enter Try.func46, Try.ntmps46
  go_upto_region 0 with fail
  go_region_held3 (fun w' => w'.cell? ⟨g, 11, none⟩ = some (.int .i64 i2)) (first | exact s11 | exact t11) ((go_at_call 71; refine (FC.out _ HM.out).mono ?_; rintro e w1 ⟨rfl, hcs⟩; have M1 := Lib.hid (HM.out.ch hcs); have C1 := Lib.hid (D0.out.trans (hcs.mono (by simp))); have t11 : w1.cell? ⟨g, 11, none⟩ = some (.int .i64 i2) := (by have hq := M1.out.m.ci (c := 11) (by omega); rw [HI.out] at hq; exact hq); clear hcs))
  clear s11 t11
  have c0 := M1.out.m.ci (c := 0) (by omega)
  rw [H0.out] at c0
  go_wp2_with (first
    | (go_at_call 65; refine (put_no g F is os rs ps ov bs ks a key _ 1 1 [255] _ (M2.out.keep ((Below.refl _ _).alloc (Nat.le_refl _) _)) HK.out (byt_new _ [255] (by intro z hz; simp at hz; omega) _ rfl 1 rfl _) (by omega) c HC.out HC0.out).mono ?_; rintro e w5 ⟨rfl, hM5, hC5⟩; have M5 := Lib.hid hM5; have C5 := Lib.hid ((C2.out.alloc _).trans (hC5.mono (by simp))); clear hM5 hC5)
    | (go_at_call 68; refine (fetch_m g F is os rs ps ov bs ks a 1 key _ M1.out HK.out HF.out).mono ?_; rintro e wb ⟨A, mm, cb, rfl, hO, hM, hCh⟩; rw [HZ.out] at hO; have M2 := Lib.hid hM; have C2 := Lib.hid (C1.out.trans (hCh.mono (by simp))); have hml : mm = 1 := (by have := hO.byt.1; have := HL.out; omega); subst hml; obtain ⟨gb, cb', hv, hgb, hgl, -, -⟩ := hO.pos (by omega); injection hv with hv1 hv2 hv3; subst hv1 hv3; obtain ⟨gb', ob', e', hcell⟩ := hO.byt.at_ (by omega); cases e'; have yc' := hcell 0 (by omega); rw [HY.out] at yc'; have yc : wb.cell? ⟨gb, 0, none⟩ = some (.int .u8 y) := (by exact yc'); have k0 := hM.m.ci (c := 0) (by omega); rw [H0.out] at k0; have k7 := hM.m.cp (n := 7) (by omega); have g7 := hM.m.free 51; clear hO hM hCh hgb hgl hcell yc'))
  exact ⟨rfl, rfl, M5.out, C5.out⟩
set_option maxRecDepth 1000000 in
set_option maxHeartbeats 8000000 in
theorem imm_148 (g : Nat) (F : Foot) (is os rs : List Int) (ps : List Value) (ov : Bool) (bs ks : List Int) (key a : Int) (w : World) (h : MS w g F is os rs ps ov bs ks) (hkey : ps.getD 1 undef = .int .i64 key) (i2 : Int) (hi : is.getD 11 0 = i2) (r0 : 0 ≤ i2) (r1 : i2 ≤ 255) (hfir : ∀ W, MS W g F is os rs ps ov bs ks → Calls Try.prog 71 #[.pointer (some ⟨g, 0, none⟩)] W fun e w' => e = .returned (.int .i64 a) ∧ Ch W w' []) (hf : sCode (alF key) bs.length ks a 1 = 0) (hrange : 0 ≤ (sGet bs a 1).getD 0 0 ∧ (sGet bs a 1).getD 0 0 ≤ 255) (h0 : is.getD 0 0 = 148) (hv : 0 ≤ (bits .and .u8 ((sGet bs a 1).getD 0 0) i2) ∧ (bits .and .u8 ((sGet bs a 1).getD 0 0) i2) ≤ 255) (hc : sCode (alP key) bs.length ks a 1 = 0)  : Calls Try.prog 46 #[.pointer (some ⟨g, 0, none⟩)] w fun e w' => e = .returned (.tuple #[]) ∧ MS w' g F is os rs (ps.set 7 (.int .i64 (if (bits .and .u8 ((sGet bs a 1).getD 0 0) i2) = 0 then 0 else 1))) ov (sPut (alP key) bs ks a [(bits .and .u8 ((sGet bs a 1).getD 0 0) i2)]) ks ∧ Ch w w' [g, F.gb] := by
  have s11 : w.cell? ⟨g, 11, none⟩ = some (.int .i64 i2) := by have hq := h.m.ci (c := 11) (by omega); rw [hi] at hq; exact hq
  have HM := Lib.hid (h.drewN 1)
  have HI := Lib.hid hi
  have HK := Lib.hid hkey
  have FC := Lib.hid hfir
  have H0 := Lib.hid h0
  have D0 := Lib.hid ((Ch.refl w [g, F.gb]).drewN 1)
  have ew : IntKind.u8.wrap i2 = i2 := by rw [IntKind.wrap_u8]; omega
  have HF := Lib.hid hf
  have hl := sGet_leng hf
  have hin := hrange
  obtain ⟨zs, hzs⟩ : ∃ zs, sGet bs a 1 = zs := ⟨_, rfl⟩
  rw [hzs] at hl hin hv ⊢
  have HZ := Lib.hid hzs
  obtain ⟨y, hy⟩ : ∃ y, zs.getD 0 0 = y := ⟨_, rfl⟩
  rw [hy] at hin hv ⊢
  obtain ⟨y0, y1⟩ := hin
  have HY := Lib.hid hy
  have HL := Lib.hid hl
  have HC := Lib.hid hc
  obtain ⟨v, hvv⟩ : ∃ v, bits .and .u8 y i2 = v := ⟨_, rfl⟩
  rw [hvv] at hv ⊢
  obtain ⟨cc, hcc⟩ : ∃ c, (if v = 0 then (0 : Int) else 1) = c := ⟨_, rfl⟩
  rw [hcc]
  have XC := Lib.hid (fun W (hM : MS W g F is os rs ps ov bs ks) => change_m v hv.1 hv.2 g F is os rs ps ov bs ks key a W hM hkey hc)
  simp only [hcc] at XC
  clear hcc
  clear h hi hkey hfir h0 hf hrange hzs hl hy hc hv
  go_enter Try.func46, Try.ntmps46
  go_upto_region 0 with fail
  go_region_held3 (fun w' => w'.cell? ⟨g, 11, none⟩ = some (.int .i64 i2)) (first | exact s11 | exact t11) ((go_at_call 71; refine (FC.out _ HM.out).mono ?_; rintro e w1 ⟨rfl, hcs⟩; have M1 := Lib.hid (HM.out.ch hcs); have C1 := Lib.hid (D0.out.trans (hcs.mono (by simp))); have t11 : w1.cell? ⟨g, 11, none⟩ = some (.int .i64 i2) := (by have hq := M1.out.m.ci (c := 11) (by omega); rw [HI.out] at hq; exact hq); clear hcs))
  clear s11 t11
  have c0 := M1.out.m.ci (c := 0) (by omega)
  rw [H0.out] at c0
  go_wp2_with (first
    | (go_at_call 72; refine (XC.out _ M2.out).mono ?_; rintro e w5 ⟨rfl, hM5, hC5⟩; have M5 := Lib.hid hM5; have C5 := Lib.hid (C2.out.trans hC5); clear hM5 hC5)
    | (go_at_call 68; refine (fetch_m g F is os rs ps ov bs ks a 1 key _ M1.out HK.out HF.out).mono ?_; rintro e wb ⟨A, mm, cb, rfl, hO, hM, hCh⟩; rw [HZ.out] at hO; have M2 := Lib.hid hM; have C2 := Lib.hid (C1.out.trans (hCh.mono (by simp))); have hml : mm = 1 := (by have := hO.byt.1; have := HL.out; omega); subst hml; obtain ⟨gb, cb', hv, hgb, hgl, -, -⟩ := hO.pos (by omega); injection hv with hv1 hv2 hv3; subst hv1 hv3; obtain ⟨gb', ob', e', hcell⟩ := hO.byt.at_ (by omega); cases e'; have yc' := hcell 0 (by omega); rw [HY.out] at yc'; have yc : wb.cell? ⟨gb, 0, none⟩ = some (.int .u8 y) := (by exact yc'); have k0 := hM.m.ci (c := 0) (by omega); rw [H0.out] at k0; have k7 := hM.m.cp (n := 7) (by omega); have g7 := hM.m.free 51; clear hO hM hCh hgb hgl hcell yc'))
  first | go_end0 | refine bodyPost_ret (results_none rfl _ _ _) rfl ?_
  exact ⟨rfl, M5.out, C5.out⟩
set_option maxRecDepth 1000000 in
set_option maxHeartbeats 8000000 in
theorem imm_148_no (g : Nat) (F : Foot) (is os rs : List Int) (ps : List Value) (ov : Bool) (bs ks : List Int) (key a : Int) (w : World) (h : MS w g F is os rs ps ov bs ks) (hkey : ps.getD 1 undef = .int .i64 key) (i2 : Int) (hi : is.getD 11 0 = i2) (r0 : 0 ≤ i2) (r1 : i2 ≤ 255) (hfir : ∀ W, MS W g F is os rs ps ov bs ks → Calls Try.prog 71 #[.pointer (some ⟨g, 0, none⟩)] W fun e w' => e = .returned (.int .i64 a) ∧ Ch W w' []) (hf : sCode (alF key) bs.length ks a 1 = 0) (hrange : 0 ≤ (sGet bs a 1).getD 0 0 ∧ (sGet bs a 1).getD 0 0 ≤ 255) (h0 : is.getD 0 0 = 148) (hv : 0 ≤ (bits .and .u8 ((sGet bs a 1).getD 0 0) i2) ∧ (bits .and .u8 ((sGet bs a 1).getD 0 0) i2) ≤ 255) (c : Int) (hc : sCode (alP key) bs.length ks a 1 = c) (hc0 : c ≠ 0)  : Calls Try.prog 46 #[.pointer (some ⟨g, 0, none⟩)] w fun e w' => e = .panicked [{ v := .iface 65 (.int .i64 c), recovered := false }] ∧ MS w' g F is os rs ps ov bs ks ∧ Ch w w' [g, F.gb] := by
  have s11 : w.cell? ⟨g, 11, none⟩ = some (.int .i64 i2) := by have hq := h.m.ci (c := 11) (by omega); rw [hi] at hq; exact hq
  have HM := Lib.hid (h.drewN 1)
  have HI := Lib.hid hi
  have HK := Lib.hid hkey
  have FC := Lib.hid hfir
  have H0 := Lib.hid h0
  have D0 := Lib.hid ((Ch.refl w [g, F.gb]).drewN 1)
  have ew : IntKind.u8.wrap i2 = i2 := by rw [IntKind.wrap_u8]; omega
  have HF := Lib.hid hf
  have hl := sGet_leng hf
  have hin := hrange
  obtain ⟨zs, hzs⟩ : ∃ zs, sGet bs a 1 = zs := ⟨_, rfl⟩
  rw [hzs] at hl hin hv
  have HZ := Lib.hid hzs
  obtain ⟨y, hy⟩ : ∃ y, zs.getD 0 0 = y := ⟨_, rfl⟩
  rw [hy] at hin hv
  obtain ⟨y0, y1⟩ := hin
  have HY := Lib.hid hy
  have HL := Lib.hid hl
  have HC := Lib.hid hc
  have HC0 := Lib.hid hc0
  obtain ⟨v, hvv⟩ : ∃ v, bits .and .u8 y i2 = v := ⟨_, rfl⟩
  rw [hvv] at hv
  have XC := Lib.hid (fun W (hM : MS W g F is os rs ps ov bs ks) => change_no v hv.1 hv.2 g F is os rs ps ov bs ks key a W hM hkey c hc hc0)
  clear h hi hkey hfir h0 hf hrange hzs hl hy hc hv hc0
  go_enter Try.func46, Try.ntmps46
  go_upto_region 0 with fail
  go_region_held3 (fun w' => w'.cell? ⟨g, 11, none⟩ = some (.int .i64 i2)) (first | exact s11 | exact t11) ((go_at_call 71; refine (FC.out _ HM.out).mono ?_; rintro e w1 ⟨rfl, hcs⟩; have M1 := Lib.hid (HM.out.ch hcs); have C1 := Lib.hid (D0.out.trans (hcs.mono (by simp))); have t11 : w1.cell? ⟨g, 11, none⟩ = some (.int .i64 i2) := (by have hq := M1.out.m.ci (c := 11) (by omega); rw [HI.out] at hq; exact hq); clear hcs))
  clear s11 t11
  have c0 := M1.out.m.ci (c := 0) (by omega)
  rw [H0.out] at c0
  go_wp2_with (first
    | (go_at_call 72; refine (XC.out _ M2.out).mono ?_; rintro e w5 ⟨rfl, hM5, hC5⟩; have M5 := Lib.hid hM5; have C5 := Lib.hid (C2.out.trans hC5); clear hM5 hC5)
    | (go_at_call 68; refine (fetch_m g F is os rs ps ov bs ks a 1 key _ M1.out HK.out HF.out).mono ?_; rintro e wb ⟨A, mm, cb, rfl, hO, hM, hCh⟩; rw [HZ.out] at hO; have M2 := Lib.hid hM; have C2 := Lib.hid (C1.out.trans (hCh.mono (by simp))); have hml : mm = 1 := (by have := hO.byt.1; have := HL.out; omega); subst hml; obtain ⟨gb, cb', hv, hgb, hgl, -, -⟩ := hO.pos (by omega); injection hv with hv1 hv2 hv3; subst hv1 hv3; obtain ⟨gb', ob', e', hcell⟩ := hO.byt.at_ (by omega); cases e'; have yc' := hcell 0 (by omega); rw [HY.out] at yc'; have yc : wb.cell? ⟨gb, 0, none⟩ = some (.int .u8 y) := (by exact yc'); have k0 := hM.m.ci (c := 0) (by omega); rw [H0.out] at k0; have k7 := hM.m.cp (n := 7) (by omega); have g7 := hM.m.free 51; clear hO hM hCh hgb hgl hcell yc'))
  exact ⟨rfl, rfl, M5.out, C5.out⟩
set_option maxRecDepth 1000000 in
set_option maxHeartbeats 8000000 in
theorem imm_150 (g : Nat) (F : Foot) (is os rs : List Int) (ps : List Value) (ov : Bool) (bs ks : List Int) (key a : Int) (w : World) (h : MS w g F is os rs ps ov bs ks) (hkey : ps.getD 1 undef = .int .i64 key) (i2 : Int) (hi : is.getD 11 0 = i2) (r0 : 0 ≤ i2) (r1 : i2 ≤ 255) (hfir : ∀ W, MS W g F is os rs ps ov bs ks → Calls Try.prog 71 #[.pointer (some ⟨g, 0, none⟩)] W fun e w' => e = .returned (.int .i64 a) ∧ Ch W w' []) (hf : sCode (alF key) bs.length ks a 1 = 0) (hrange : 0 ≤ (sGet bs a 1).getD 0 0 ∧ (sGet bs a 1).getD 0 0 ≤ 255) (h0 : is.getD 0 0 = 150) (hv : 0 ≤ (bits .or .u8 ((sGet bs a 1).getD 0 0) i2) ∧ (bits .or .u8 ((sGet bs a 1).getD 0 0) i2) ≤ 255) (hc : sCode (alP key) bs.length ks a 1 = 0)  : Calls Try.prog 46 #[.pointer (some ⟨g, 0, none⟩)] w fun e w' => e = .returned (.tuple #[]) ∧ MS w' g F is os rs (ps.set 7 (.int .i64 (if (bits .or .u8 ((sGet bs a 1).getD 0 0) i2) = 0 then 0 else 1))) ov (sPut (alP key) bs ks a [(bits .or .u8 ((sGet bs a 1).getD 0 0) i2)]) ks ∧ Ch w w' [g, F.gb] := by
  have s11 : w.cell? ⟨g, 11, none⟩ = some (.int .i64 i2) := by have hq := h.m.ci (c := 11) (by omega); rw [hi] at hq; exact hq
  have HM := Lib.hid (h.drewN 1)
  have HI := Lib.hid hi
  have HK := Lib.hid hkey
  have FC := Lib.hid hfir
  have H0 := Lib.hid h0
  have D0 := Lib.hid ((Ch.refl w [g, F.gb]).drewN 1)
  have ew : IntKind.u8.wrap i2 = i2 := by rw [IntKind.wrap_u8]; omega
  have HF := Lib.hid hf
  have hl := sGet_leng hf
  have hin := hrange
  obtain ⟨zs, hzs⟩ : ∃ zs, sGet bs a 1 = zs := ⟨_, rfl⟩
  rw [hzs] at hl hin hv ⊢
  have HZ := Lib.hid hzs
  obtain ⟨y, hy⟩ : ∃ y, zs.getD 0 0 = y := ⟨_, rfl⟩
  rw [hy] at hin hv ⊢
  obtain ⟨y0, y1⟩ := hin
  have HY := Lib.hid hy
  have HL := Lib.hid hl
  have HC := Lib.hid hc
  obtain ⟨v, hvv⟩ : ∃ v, bits .or .u8 y i2 = v := ⟨_, rfl⟩
  rw [hvv] at hv ⊢
  obtain ⟨cc, hcc⟩ : ∃ c, (if v = 0 then (0 : Int) else 1) = c := ⟨_, rfl⟩
  rw [hcc]
  have XC := Lib.hid (fun W (hM : MS W g F is os rs ps ov bs ks) => change_m v hv.1 hv.2 g F is os rs ps ov bs ks key a W hM hkey hc)
  simp only [hcc] at XC
  clear hcc
  clear h hi hkey hfir h0 hf hrange hzs hl hy hc hv
  go_enter Try.func46, Try.ntmps46
  go_upto_region 0 with fail
  go_region_held3 (fun w' => w'.cell? ⟨g, 11, none⟩ = some (.int .i64 i2)) (first | exact s11 | exact t11) ((go_at_call 71; refine (FC.out _ HM.out).mono ?_; rintro e w1 ⟨rfl, hcs⟩; have M1 := Lib.hid (HM.out.ch hcs); have C1 := Lib.hid (D0.out.trans (hcs.mono (by simp))); have t11 : w1.cell? ⟨g, 11, none⟩ = some (.int .i64 i2) := (by have hq := M1.out.m.ci (c := 11) (by omega); rw [HI.out] at hq; exact hq); clear hcs))
  clear s11 t11
  have c0 := M1.out.m.ci (c := 0) (by omega)
  rw [H0.out] at c0
  go_wp2_with (first
    | (go_at_call 72; refine (XC.out _ M2.out).mono ?_; rintro e w5 ⟨rfl, hM5, hC5⟩; have M5 := Lib.hid hM5; have C5 := Lib.hid (C2.out.trans hC5); clear hM5 hC5)
    | (go_at_call 68; refine (fetch_m g F is os rs ps ov bs ks a 1 key _ M1.out HK.out HF.out).mono ?_; rintro e wb ⟨A, mm, cb, rfl, hO, hM, hCh⟩; rw [HZ.out] at hO; have M2 := Lib.hid hM; have C2 := Lib.hid (C1.out.trans (hCh.mono (by simp))); have hml : mm = 1 := (by have := hO.byt.1; have := HL.out; omega); subst hml; obtain ⟨gb, cb', hv, hgb, hgl, -, -⟩ := hO.pos (by omega); injection hv with hv1 hv2 hv3; subst hv1 hv3; obtain ⟨gb', ob', e', hcell⟩ := hO.byt.at_ (by omega); cases e'; have yc' := hcell 0 (by omega); rw [HY.out] at yc'; have yc : wb.cell? ⟨gb, 0, none⟩ = some (.int .u8 y) := (by exact yc'); have k0 := hM.m.ci (c := 0) (by omega); rw [H0.out] at k0; have k7 := hM.m.cp (n := 7) (by omega); have g7 := hM.m.free 51; clear hO hM hCh hgb hgl hcell yc'))
  first | go_end0 | refine bodyPost_ret (results_none rfl _ _ _) rfl ?_
  exact ⟨rfl, M5.out, C5.out⟩
set_option maxRecDepth 1000000 in
set_option maxHeartbeats 8000000 in
theorem imm_150_no (g : Nat) (F : Foot) (is os rs : List Int) (ps : List Value) (ov : Bool) (bs ks : List Int) (key a : Int) (w : World) (h : MS w g F is os rs ps ov bs ks) (hkey : ps.getD 1 undef = .int .i64 key) (i2 : Int) (hi : is.getD 11 0 = i2) (r0 : 0 ≤ i2) (r1 : i2 ≤ 255) (hfir : ∀ W, MS W g F is os rs ps ov bs ks → Calls Try.prog 71 #[.pointer (some ⟨g, 0, none⟩)] W fun e w' => e = .returned (.int .i64 a) ∧ Ch W w' []) (hf : sCode (alF key) bs.length ks a 1 = 0) (hrange : 0 ≤ (sGet bs a 1).getD 0 0 ∧ (sGet bs a 1).getD 0 0 ≤ 255) (h0 : is.getD 0 0 = 150) (hv : 0 ≤ (bits .or .u8 ((sGet bs a 1).getD 0 0) i2) ∧ (bits .or .u8 ((sGet bs a 1).getD 0 0) i2) ≤ 255) (c : Int) (hc : sCode (alP key) bs.length ks a 1 = c) (hc0 : c ≠ 0)  : Calls Try.prog 46 #[.pointer (some ⟨g, 0, none⟩)] w fun e w' => e = .panicked [{ v := .iface 65 (.int .i64 c), recovered := false }] ∧ MS w' g F is os rs ps ov bs ks ∧ Ch w w' [g, F.gb] := by
  have s11 : w.cell? ⟨g, 11, none⟩ = some (.int .i64 i2) := by have hq := h.m.ci (c := 11) (by omega); rw [hi] at hq; exact hq
  have HM := Lib.hid (h.drewN 1)
  have HI := Lib.hid hi
  have HK := Lib.hid hkey
  have FC := Lib.hid hfir
  have H0 := Lib.hid h0
  have D0 := Lib.hid ((Ch.refl w [g, F.gb]).drewN 1)
  have ew : IntKind.u8.wrap i2 = i2 := by rw [IntKind.wrap_u8]; omega
  have HF := Lib.hid hf
  have hl := sGet_leng hf
  have hin := hrange
  obtain ⟨zs, hzs⟩ : ∃ zs, sGet bs a 1 = zs := ⟨_, rfl⟩
  rw [hzs] at hl hin hv
  have HZ := Lib.hid hzs
  obtain ⟨y, hy⟩ : ∃ y, zs.getD 0 0 = y := ⟨_, rfl⟩
  rw [hy] at hin hv
  obtain ⟨y0, y1⟩ := hin
  have HY := Lib.hid hy
  have HL := Lib.hid hl
  have HC := Lib.hid hc
  have HC0 := Lib.hid hc0
  obtain ⟨v, hvv⟩ : ∃ v, bits .or .u8 y i2 = v := ⟨_, rfl⟩
  rw [hvv] at hv
  have XC := Lib.hid (fun W (hM : MS W g F is os rs ps ov bs ks) => change_no v hv.1 hv.2 g F is os rs ps ov bs ks key a W hM hkey c hc hc0)
  clear h hi hkey hfir h0 hf hrange hzs hl hy hc hv hc0
  go_enter Try.func46, Try.ntmps46
  go_upto_region 0 with fail
  go_region_held3 (fun w' => w'.cell? ⟨g, 11, none⟩ = some (.int .i64 i2)) (first | exact s11 | exact t11) ((go_at_call 71; refine (FC.out _ HM.out).mono ?_; rintro e w1 ⟨rfl, hcs⟩; have M1 := Lib.hid (HM.out.ch hcs); have C1 := Lib.hid (D0.out.trans (hcs.mono (by simp))); have t11 : w1.cell? ⟨g, 11, none⟩ = some (.int .i64 i2) := (by have hq := M1.out.m.ci (c := 11) (by omega); rw [HI.out] at hq; exact hq); clear hcs))
  clear s11 t11
  have c0 := M1.out.m.ci (c := 0) (by omega)
  rw [H0.out] at c0
  go_wp2_with (first
    | (go_at_call 72; refine (XC.out _ M2.out).mono ?_; rintro e w5 ⟨rfl, hM5, hC5⟩; have M5 := Lib.hid hM5; have C5 := Lib.hid (C2.out.trans hC5); clear hM5 hC5)
    | (go_at_call 68; refine (fetch_m g F is os rs ps ov bs ks a 1 key _ M1.out HK.out HF.out).mono ?_; rintro e wb ⟨A, mm, cb, rfl, hO, hM, hCh⟩; rw [HZ.out] at hO; have M2 := Lib.hid hM; have C2 := Lib.hid (C1.out.trans (hCh.mono (by simp))); have hml : mm = 1 := (by have := hO.byt.1; have := HL.out; omega); subst hml; obtain ⟨gb, cb', hv, hgb, hgl, -, -⟩ := hO.pos (by omega); injection hv with hv1 hv2 hv3; subst hv1 hv3; obtain ⟨gb', ob', e', hcell⟩ := hO.byt.at_ (by omega); cases e'; have yc' := hcell 0 (by omega); rw [HY.out] at yc'; have yc : wb.cell? ⟨gb, 0, none⟩ = some (.int .u8 y) := (by exact yc'); have k0 := hM.m.ci (c := 0) (by omega); rw [H0.out] at k0; have k7 := hM.m.cp (n := 7) (by omega); have g7 := hM.m.free 51; clear hO hM hCh hgb hgl hcell yc'))
  exact ⟨rfl, rfl, M5.out, C5.out⟩
set_option maxRecDepth 1000000 in
set_option maxHeartbeats 8000000 in
theorem imm_151 (g : Nat) (F : Foot) (is os rs : List Int) (ps : List Value) (ov : Bool) (bs ks : List Int) (key a : Int) (w : World) (h : MS w g F is os rs ps ov bs ks) (hkey : ps.getD 1 undef = .int .i64 key) (i2 : Int) (hi : is.getD 11 0 = i2) (r0 : 0 ≤ i2) (r1 : i2 ≤ 255) (hfir : ∀ W, MS W g F is os rs ps ov bs ks → Calls Try.prog 71 #[.pointer (some ⟨g, 0, none⟩)] W fun e w' => e = .returned (.int .i64 a) ∧ Ch W w' []) (hf : sCode (alF key) bs.length ks a 1 = 0) (hrange : 0 ≤ (sGet bs a 1).getD 0 0 ∧ (sGet bs a 1).getD 0 0 ≤ 255) (h0 : is.getD 0 0 = 151) (hv : 0 ≤ (bits .xor .u8 ((sGet bs a 1).getD 0 0) i2) ∧ (bits .xor .u8 ((sGet bs a 1).getD 0 0) i2) ≤ 255) (hc : sCode (alP key) bs.length ks a 1 = 0)  : Calls Try.prog 46 #[.pointer (some ⟨g, 0, none⟩)] w fun e w' => e = .returned (.tuple #[]) ∧ MS w' g F is os rs (ps.set 7 (.int .i64 (if (bits .xor .u8 ((sGet bs a 1).getD 0 0) i2) = 0 then 0 else 1))) ov (sPut (alP key) bs ks a [(bits .xor .u8 ((sGet bs a 1).getD 0 0) i2)]) ks ∧ Ch w w' [g, F.gb] := by
  have s11 : w.cell? ⟨g, 11, none⟩ = some (.int .i64 i2) := by have hq := h.m.ci (c := 11) (by omega); rw [hi] at hq; exact hq
  have HM := Lib.hid (h.drewN 1)
  have HI := Lib.hid hi
  have HK := Lib.hid hkey
  have FC := Lib.hid hfir
  have H0 := Lib.hid h0
  have D0 := Lib.hid ((Ch.refl w [g, F.gb]).drewN 1)
  have ew : IntKind.u8.wrap i2 = i2 := by rw [IntKind.wrap_u8]; omega
  have HF := Lib.hid hf
  have hl := sGet_leng hf
  have hin := hrange
  obtain ⟨zs, hzs⟩ : ∃ zs, sGet bs a 1 = zs := ⟨_, rfl⟩
  rw [hzs] at hl hin hv ⊢
  have HZ := Lib.hid hzs
  obtain ⟨y, hy⟩ : ∃ y, zs.getD 0 0 = y := ⟨_, rfl⟩
  rw [hy] at hin hv ⊢
  obtain ⟨y0, y1⟩ := hin
  have HY := Lib.hid hy
  have HL := Lib.hid hl
  have HC := Lib.hid hc
  obtain ⟨v, hvv⟩ : ∃ v, bits .xor .u8 y i2 = v := ⟨_, rfl⟩
  rw [hvv] at hv ⊢
  obtain ⟨cc, hcc⟩ : ∃ c, (if v = 0 then (0 : Int) else 1) = c := ⟨_, rfl⟩
  rw [hcc]
  have XC := Lib.hid (fun W (hM : MS W g F is os rs ps ov bs ks) => change_m v hv.1 hv.2 g F is os rs ps ov bs ks key a W hM hkey hc)
  simp only [hcc] at XC
  clear hcc
  clear h hi hkey hfir h0 hf hrange hzs hl hy hc hv
  go_enter Try.func46, Try.ntmps46
  go_upto_region 0 with fail
  go_region_held3 (fun w' => w'.cell? ⟨g, 11, none⟩ = some (.int .i64 i2)) (first | exact s11 | exact t11) ((go_at_call 71; refine (FC.out _ HM.out).mono ?_; rintro e w1 ⟨rfl, hcs⟩; have M1 := Lib.hid (HM.out.ch hcs); have C1 := Lib.hid (D0.out.trans (hcs.mono (by simp))); have t11 : w1.cell? ⟨g, 11, none⟩ = some (.int .i64 i2) := (by have hq := M1.out.m.ci (c := 11) (by omega); rw [HI.out] at hq; exact hq); clear hcs))
  clear s11 t11
  have c0 := M1.out.m.ci (c := 0) (by omega)
  rw [H0.out] at c0
  go_wp2_with (first
    | (go_at_call 72; refine (XC.out _ M2.out).mono ?_; rintro e w5 ⟨rfl, hM5, hC5⟩; have M5 := Lib.hid hM5; have C5 := Lib.hid (C2.out.trans hC5); clear hM5 hC5)
    | (go_at_call 68; refine (fetch_m g F is os rs ps ov bs ks a 1 key _ M1.out HK.out HF.out).mono ?_; rintro e wb ⟨A, mm, cb, rfl, hO, hM, hCh⟩; rw [HZ.out] at hO; have M2 := Lib.hid hM; have C2 := Lib.hid (C1.out.trans (hCh.mono (by simp))); have hml : mm = 1 := (by have := hO.byt.1; have := HL.out; omega); subst hml; obtain ⟨gb, cb', hv, hgb, hgl, -, -⟩ := hO.pos (by omega); injection hv with hv1 hv2 hv3; subst hv1 hv3; obtain ⟨gb', ob', e', hcell⟩ := hO.byt.at_ (by omega); cases e'; have yc' := hcell 0 (by omega); rw [HY.out] at yc'; have yc : wb.cell? ⟨gb, 0, none⟩ = some (.int .u8 y) := (by exact yc'); have k0 := hM.m.ci (c := 0) (by omega); rw [H0.out] at k0; have k7 := hM.m.cp (n := 7) (by omega); have g7 := hM.m.free 51; clear hO hM hCh hgb hgl hcell yc'))
  first | go_end0 | refine bodyPost_ret (results_none rfl _ _ _) rfl ?_
  exact ⟨rfl, M5.out, C5.out⟩
set_option maxRecDepth 1000000 in
set_option maxHeartbeats 8000000 in
theorem imm_151_no (g : Nat) (F : Foot) (is os rs : List Int) (ps : List Value) (ov : Bool) (bs ks : List Int) (key a : Int) (w : World) (h : MS w g F is os rs ps ov bs ks) (hkey : ps.getD 1 undef = .int .i64 key) (i2 : Int) (hi : is.getD 11 0 = i2) (r0 : 0 ≤ i2) (r1 : i2 ≤ 255) (hfir : ∀ W, MS W g F is os rs ps ov bs ks → Calls Try.prog 71 #[.pointer (some ⟨g, 0, none⟩)] W fun e w' => e = .returned (.int .i64 a) ∧ Ch W w' []) (hf : sCode (alF key) bs.length ks a 1 = 0) (hrange : 0 ≤ (sGet bs a 1).getD 0 0 ∧ (sGet bs a 1).getD 0 0 ≤ 255) (h0 : is.getD 0 0 = 151) (hv : 0 ≤ (bits .xor .u8 ((sGet bs a 1).getD 0 0) i2) ∧ (bits .xor .u8 ((sGet bs a 1).getD 0 0) i2) ≤ 255) (c : Int) (hc : sCode (alP key) bs.length ks a 1 = c) (hc0 : c ≠ 0)  : Calls Try.prog 46 #[.pointer (some ⟨g, 0, none⟩)] w fun e w' => e = .panicked [{ v := .iface 65 (.int .i64 c), recovered := false }] ∧ MS w' g F is os rs ps ov bs ks ∧ Ch w w' [g, F.gb] := by
  have s11 : w.cell? ⟨g, 11, none⟩ = some (.int .i64 i2) := by have hq := h.m.ci (c := 11) (by omega); rw [hi] at hq; exact hq
  have HM := Lib.hid (h.drewN 1)
  have HI := Lib.hid hi
  have HK := Lib.hid hkey
  have FC := Lib.hid hfir
  have H0 := Lib.hid h0
  have D0 := Lib.hid ((Ch.refl w [g, F.gb]).drewN 1)
  have ew : IntKind.u8.wrap i2 = i2 := by rw [IntKind.wrap_u8]; omega
  have HF := Lib.hid hf
  have hl := sGet_leng hf
  have hin := hrange
  obtain ⟨zs, hzs⟩ : ∃ zs, sGet bs a 1 = zs := ⟨_, rfl⟩
  rw [hzs] at hl hin hv
  have HZ := Lib.hid hzs
  obtain ⟨y, hy⟩ : ∃ y, zs.getD 0 0 = y := ⟨_, rfl⟩
  rw [hy] at hin hv
  obtain ⟨y0, y1⟩ := hin
  have HY := Lib.hid hy
  have HL := Lib.hid hl
  have HC := Lib.hid hc
  have HC0 := Lib.hid hc0
  obtain ⟨v, hvv⟩ : ∃ v, bits .xor .u8 y i2 = v := ⟨_, rfl⟩
  rw [hvv] at hv
  have XC := Lib.hid (fun W (hM : MS W g F is os rs ps ov bs ks) => change_no v hv.1 hv.2 g F is os rs ps ov bs ks key a W hM hkey c hc hc0)
  clear h hi hkey hfir h0 hf hrange hzs hl hy hc hv hc0
  go_enter Try.func46, Try.ntmps46
  go_upto_region 0 with fail
  go_region_held3 (fun w' => w'.cell? ⟨g, 11, none⟩ = some (.int .i64 i2)) (first | exact s11 | exact t11) ((go_at_call 71; refine (FC.out _ HM.out).mono ?_; rintro e w1 ⟨rfl, hcs⟩; have M1 := Lib.hid (HM.out.ch hcs); have C1 := Lib.hid (D0.out.trans (hcs.mono (by simp))); have t11 : w1.cell? ⟨g, 11, none⟩ = some (.int .i64 i2) := (by have hq := M1.out.m.ci (c := 11) (by omega); rw [HI.out] at hq; exact hq); clear hcs))
  clear s11 t11
  have c0 := M1.out.m.ci (c := 0) (by omega)
  rw [H0.out] at c0
  go_wp2_with (first
    | (go_at_call 72; refine (XC.out _ M2.out).mono ?_; rintro e w5 ⟨rfl, hM5, hC5⟩; have M5 := Lib.hid hM5; have C5 := Lib.hid (C2.out.trans hC5); clear hM5 hC5)
    | (go_at_call 68; refine (fetch_m g F is os rs ps ov bs ks a 1 key _ M1.out HK.out HF.out).mono ?_; rintro e wb ⟨A, mm, cb, rfl, hO, hM, hCh⟩; rw [HZ.out] at hO; have M2 := Lib.hid hM; have C2 := Lib.hid (C1.out.trans (hCh.mono (by simp))); have hml : mm = 1 := (by have := hO.byt.1; have := HL.out; omega); subst hml; obtain ⟨gb, cb', hv, hgb, hgl, -, -⟩ := hO.pos (by omega); injection hv with hv1 hv2 hv3; subst hv1 hv3; obtain ⟨gb', ob', e', hcell⟩ := hO.byt.at_ (by omega); cases e'; have yc' := hcell 0 (by omega); rw [HY.out] at yc'; have yc : wb.cell? ⟨gb, 0, none⟩ = some (.int .u8 y) := (by exact yc'); have k0 := hM.m.ci (c := 0) (by omega); rw [H0.out] at k0; have k7 := hM.m.cp (n := 7) (by omega); have g7 := hM.m.free 51; clear hO hM hCh hgb hgl hcell yc'))
  exact ⟨rfl, rfl, M5.out, C5.out⟩
end Go.Proofs.Ythjdjbipfdigeaa

