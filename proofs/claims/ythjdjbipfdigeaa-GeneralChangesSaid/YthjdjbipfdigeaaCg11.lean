/- Contracts and laws on the way to the statement, text 11 of 25. Conditions: as each states them. -/
import Derived.Test.YthjdjbipfdigeaaCg5
import Derived.Test.YthjdjbipfdigeaaCg6
import Derived.Test.YthjdjbipfdigeaaCg9
import Derived.Test.YthjdjbipfdigeaaCg10
namespace Go.Proofs.Ythjdjbipfdigeaa
open Go.RowKit
set_option maxRecDepth 100000
set_option linter.unusedVariables false
set_option linter.unusedSimpArgs false
theorem u32_hi24 (a : Int) (h0 : 0 ≤ a) (h1 : a ≤ 4294967295) : bits .andNot .u32 a 16777215 = a / 16777216 * 16777216 := by
  rw [u32_andNot a 16777215 h0 (by omega) (by omega) (by omega)]
  have : a.toNat &&& (4294967295 - (16777215 : Int).toNat) = a.toNat / 16777216 * 16777216 := by
    have e : 4294967295 - (16777215 : Int).toNat = (2 ^ 8 - 1) <<< 24 := by decide
    have e2 : a.toNat / 16777216 * 16777216 = (a.toNat >>> 24) <<< 24 := by rw [Nat.shiftRight_eq_div_pow, Nat.shiftLeft_eq]
    rw [e, e2]
    apply Nat.eq_of_testBit_eq
    intro j
    rw [Nat.testBit_and, Nat.testBit_shiftLeft, Nat.testBit_shiftLeft, Nat.testBit_two_pow_sub_one, Nat.testBit_shiftRight]
    by_cases hj : 24 ≤ j
    · rw [show 24 + (j - 24) = j by omega]
      by_cases hj2 : j - 24 < 8
      · simp [hj, hj2]
      · have : a.toNat.testBit j = false := Nat.testBit_lt_two_pow (Nat.lt_of_lt_of_le (show a.toNat < 2 ^ 32 by omega) (Nat.pow_le_pow_right (by omega) (by omega)))
        simp [this]
    · simp [hj]
  rw [this]
  omega
theorem sGet_in {bs : List Int} (a n : Int) (h : ∀ z ∈ bs, 0 ≤ z ∧ z ≤ 255) (k : Nat) : 0 ≤ (sGet bs a n).getD k 0 ∧ (sGet bs a n).getD k 0 ≤ 255 := by
  have hs : ∀ z ∈ sGet bs a n, z ∈ bs := by
    intro z hz
    unfold sGet at hz
    split at hz
    · exact List.mem_of_mem_drop (List.mem_of_mem_take hz)
    · simp at hz
  rw [List.getD_eq_getElem?_getD]
  rcases Nat.lt_or_ge k (sGet bs a n).length with hk | hk
  · rw [List.getElem?_eq_getElem hk]
    exact h _ (hs _ (List.getElem_mem hk))
  · rw [List.getElem?_eq_none hk]; simp
/-- TRT from byte k on: the code that is thrown, or what was found -/
def scn (bs ks : List Int) (key a b : Int) : Nat → Nat → Int × Option (Nat × Int)
  | 0, _ => (0, none)
  | m + 1, k => if sCode (alF key) bs.length ks (a + (k : Int)) 1 = 0 then
      (if sCode (alF key) bs.length ks (b + (sGet bs (a + (k : Int)) 1).getD 0 0) 1 = 0 then
        (if (sGet bs (b + (sGet bs (a + (k : Int)) 1).getD 0 0) 1).getD 0 0 = 0 then scn bs ks key a b m (k + 1) else (0, some (k, (sGet bs (b + (sGet bs (a + (k : Int)) 1).getD 0 0) 1).getD 0 0)))
        else (sCode (alF key) bs.length ks (b + (sGet bs (a + (k : Int)) 1).getD 0 0) 1, none))
      else (sCode (alF key) bs.length ks (a + (k : Int)) 1, none)
def scnR (os rs : List Int) (a : Int) : Option (Nat × Int) → List Int
  | none => rs
  | some (k, f) => (rs.set 1 (os.getD 1 0 / 16777216 * 16777216 + (a + (k : Int)))).set 2 (os.getD 2 0 / 256 * 256 + f)
def scnQ (N : Nat) : Option (Nat × Int) → Int
  | none => 0
  | some (k, _) => if k + 1 = N then 2 else 1
theorem set7_key {ps : List Value} {v : Value} : (ps.set 7 v).getD 1 undef = ps.getD 1 undef := by simp [List.getD_eq_getElem?_getD, List.getElem?_set]
set_option maxRecDepth 1000000 in
set_option maxHeartbeats 8000000 in
theorem trt_m (g N : Nat) (F : Foot) (is os rs : List Int) (ps : List Value) (ov : Bool) (bs ks : List Int) (key a b : Int) (w : World) (h : MS w g F is os rs ps ov bs ks) (hl : is.getD 9 0 + 1 = (N : Int)) (hN : N ≤ 256) (hkey : ps.getD 1 undef = .int .i64 key) (hfir : ∀ W, MS W g F is os rs ps ov bs ks → Calls Try.prog 71 #[.pointer (some ⟨g, 0, none⟩)] W fun e w' => e = .returned (.int .i64 a) ∧ Ch W w' []) (hsec : ∀ W, MS W g F is os rs ps ov bs ks → Calls Try.prog 44 #[.pointer (some ⟨g, 0, none⟩)] W fun e w' => e = .returned (.int .i64 b) ∧ Ch W w' []) (ha0 : 0 ≤ a) (ha1 : a ≤ 16777215) (hb0 : 0 ≤ b) (hb1 : b ≤ 16777215) (hN1 : 1 ≤ N) (hbs : bs.length ≤ 16777216) (ro : ∀ z ∈ os, 0 ≤ z ∧ z ≤ 4294967295) (hrange : ∀ z ∈ bs, 0 ≤ z ∧ z ≤ 255) (c : Int) (o : Option (Nat × Int)) (hc : scn bs ks key a b N 0 = (c, o)) : Calls Try.prog 83 #[.pointer (some ⟨g, 0, none⟩)] w fun e w' => (c = 0 → e = .returned (.tuple #[]) ∧ MS w' g F is os (scnR os rs a o) (ps.set 7 (.int .i64 (scnQ N o))) ov bs ks) ∧ (c ≠ 0 → e = .panicked [{ v := .iface 65 (.int .i64 c), recovered := false }] ∧ MS w' g F is os rs (ps.set 7 (.int .i64 0)) ov bs ks) ∧ Ch w w' [g] := by
  obtain ⟨l1, hl1⟩ : ∃ l, is.getD 9 0 = l := ⟨_, rfl⟩
  rw [hl1] at hl
  have HM := Lib.hid h
  have HL := Lib.hid hl1
  have HK := Lib.hid (show (ps.set 7 (.int .i64 0)).getD 1 undef = .int .i64 key from by rw [set7_key]; exact hkey)
  have FC := Lib.hid hfir
  have SC := Lib.hid hsec
  have D0 := Lib.hid (Ch.refl w ([] : List Nat))
  have HC := Lib.hid hc
  have HBS := Lib.hid hbs
  have HRG := Lib.hid hrange
  have rv1 := getD_in ro 1
  have rv2 := getD_in ro 2
  obtain ⟨v1, hv1⟩ : ∃ v, os.getD 1 0 = v := ⟨_, rfl⟩
  obtain ⟨v2, hv2⟩ : ∃ v, os.getD 2 0 = v := ⟨_, rfl⟩
  rw [hv1] at rv1
  rw [hv2] at rv2
  have HV1 := Lib.hid hv1
  have HV2 := Lib.hid hv2
  have an1 := u32_hi24 v1 rv1.1 rv1.2
  have an2 := u32_hi8 v2 rv2.1 rv2.2
  obtain ⟨R, hR⟩ : ∃ R : Ending → World → Prop, R = fun e w' => (c = 0 → e = .returned (.tuple #[]) ∧ MS w' g F is os (scnR os rs a o) (ps.set 7 (.int .i64 (scnQ N o))) ov bs ks) ∧ (c ≠ 0 → e = .panicked [{ v := .iface 65 (.int .i64 c), recovered := false }] ∧ MS w' g F is os rs (ps.set 7 (.int .i64 0)) ov bs ks) ∧ Ch w w' [g] := ⟨_, rfl⟩
  suffices hs : Calls Try.prog 83 #[.pointer (some ⟨g, 0, none⟩)] w R by rw [hR] at hs; exact hs
  have HR := Lib.hid hR
  clear h hkey hfir hsec hl1 hc hR ro hbs hrange hv1 hv2
  go_enter Try.func83, Try.ntmps83
  go_wp2_with (go_at_call 71; refine (FC.out _ HM.out).mono ?_; rintro e w1 ⟨rfl, hcs⟩; have M1 := Lib.hid (HM.out.ch hcs); have C1 := Lib.hid (D0.out.trans hcs); clear hcs)
  refine (SC.out _ M1.out).mono ?_
  rintro e w2 ⟨rfl, hcs⟩
  have M2 := Lib.hid (M1.out.ch hcs)
  have C2 := Lib.hid (C1.out.trans hcs)
  have c7 := M2.out.m.cp (n := 7) (by omega)
  have f7 := M2.out.m.free 51
  clear hcs
  go_upto_region 3 with fail
  have M5 := Lib.hid (M2.out.setp (n := 7) (by omega) (.int .i64 0))
  have C5 := Lib.hid (show Ch w (w2.setCell ⟨g, 51, none⟩ (.int .i64 0)) [g] from (C2.out.mono (by simp)).setCell (by simp) _)
  obtain ⟨W5, hW5⟩ : ∃ W5, w2.setCell ⟨g, 51, none⟩ (.int .i64 0) = W5 := ⟨_, rfl⟩
  rw [show (⟨g, 44 + 7, none⟩ : Addr) = ⟨g, 51, none⟩ from rfl, hW5] at M5
  rw [hW5] at C5
  try rw [hW5]
  clear hW5 c7 f7 M1 M2 C1 C2 HM D0
  go_loopw [4] (fun x W => ∃ k : Nat, k ≤ N ∧ x = .int .i64 (k : Int) ∧ scn bs ks key a b (N - k) k = (c, o) ∧ MS W g F is os rs (ps.set 7 (.int .i64 0)) ov bs ks ∧ Ch w W [g]) (fun x _ => N - (intOf x).toNat)
  case atStart => exact ⟨0, by omega, rfl, HC.out, M5.out, C5.out⟩
  case round =>
    obtain ⟨k, hk, rfl, hsn, hmw, hcw⟩ := hrel
    have MW := Lib.hid hmw
    have CW := Lib.hid hcw
    have c9 := hmw.m.ci (c := 9) (by omega)
    rw [HL.out] at c9
    clear hmw hcw
    by_cases hlt : k < N
    · have i0 : (k : Int) ≤ l1 := by omega
      have wk : IntKind.i64.wrap (a + (k : Int)) = a + (k : Int) := wrap_i64_id (by omega) (by omega)
      rw [show N - k = (N - (k + 1)) + 1 by omega] at hsn
      simp only [scn] at hsn
      by_cases h1 : sCode (alF key) bs.length ks (a + (k : Int)) 1 = 0
      · rw [if_pos h1] at hsn
        have HS1 := Lib.hid h1
        have hl1' := sGet_leng h1
        have hrA := sGet_in (a + (k : Int)) 1 HRG.out 0
        have hak : a + (k : Int) < 16777216 := by
          obtain ⟨-, -, -, q3⟩ := sIn_yes (sCode_zero h1)
          have := HBS.out
          omega
        obtain ⟨zA, hzA⟩ : ∃ z, sGet bs (a + (k : Int)) 1 = z := ⟨_, rfl⟩
        rw [hzA] at hl1' hsn hrA
        obtain ⟨x, hx⟩ : ∃ x, zA.getD 0 0 = x := ⟨_, rfl⟩
        rw [hx] at hsn hrA
        have HZ1 := Lib.hid hzA
        have HY1 := Lib.hid hx
        have HL1 := Lib.hid hl1'
        obtain ⟨x0, x1⟩ := hrA
        have wx : IntKind.i64.wrap x = x := wrap_i64_id (by omega) (by omega)
        obtain ⟨t, ht⟩ : ∃ t, b + x = t := ⟨_, rfl⟩
        have wt : IntKind.i64.wrap (b + x) = t := by rw [wrap_i64_id (by omega) (by omega)]; exact ht
        rw [ht] at hsn
        have FET1 := Lib.hid (fun (W : World) (hM : MS W g F is os rs (ps.set 7 (.int .i64 0)) ov bs ks) => fetch_m g F is os rs (ps.set 7 (.int .i64 0)) ov bs ks (a + (k : Int)) 1 key W hM HK.out HS1.out)
        clear h1 hzA hx hl1'
        by_cases h2 : sCode (alF key) bs.length ks t 1 = 0
        · rw [if_pos h2] at hsn
          have HS2 := Lib.hid h2
          have hl2' := sGet_leng h2
          have hrB := sGet_in t 1 HRG.out 0
          obtain ⟨zB, hzB⟩ : ∃ z, sGet bs t 1 = z := ⟨_, rfl⟩
          rw [hzB] at hl2' hsn hrB
          obtain ⟨y, hy⟩ : ∃ y, zB.getD 0 0 = y := ⟨_, rfl⟩
          rw [hy] at hsn hrB
          obtain ⟨y0, y1⟩ := hrB
          have HZ2 := Lib.hid hzB
          have HY2 := Lib.hid hy
          have HL2 := Lib.hid hl2'
          have FET2 := Lib.hid (fun (W : World) (hM : MS W g F is os rs (ps.set 7 (.int .i64 0)) ov bs ks) => fetch_m g F is os rs (ps.set 7 (.int .i64 0)) ov bs ks t 1 key W hM HK.out HS2.out)
          clear h2 hzB hy hl2'
          by_cases hy0 : y = 0
          · rw [if_pos hy0] at hsn
            have HSN := Lib.hid (show scn bs ks key a b (N - (k + 1)) (k + 1) = (c, o) from hsn)
            have e1 : (y == 0) = true := by simpa using hy0
            clear hy0 hsn
            go_wp2_with fail
            refine (FET1.out _ MW.out).mono ?_
            rintro e wb1 ⟨A, mm, cb, rfl, hO, hM, hCh⟩; rw [HZ1.out] at hO; have MF1 := Lib.hid hM; have CF1 := Lib.hid (CW.out.trans (hCh.mono (by simp))); have hml : mm = 1 := (by have := hO.byt.1; have := HL1.out; omega); subst hml; obtain ⟨gb, cb', hv, hgb, hgl, -, -⟩ := hO.pos (by omega); injection hv with hv1 hv2 hv3; subst hv1 hv3; obtain ⟨gb', ob', e', hcell⟩ := hO.byt.at_ (by omega); cases e'; have yc' := hcell 0 (by omega); rw [HY1.out] at yc'; have yc1 : wb1.cell? ⟨gb, 0, none⟩ = some (.int .u8 x) := (by exact yc'); clear hO hM hCh hgb hgl hcell yc'
            go_wp2_with fail
            refine (FET2.out _ MF1.out).mono ?_
            rintro e wb2 ⟨A, mm, cb, rfl, hO, hM, hCh⟩; rw [HZ2.out] at hO; have MF2 := Lib.hid hM; have CF2 := Lib.hid (CF1.out.trans (hCh.mono (by simp))); have hml : mm = 1 := (by have := hO.byt.1; have := HL2.out; omega); subst hml; obtain ⟨gb, cb', hv, hgb, hgl, -, -⟩ := hO.pos (by omega); injection hv with hv1 hv2 hv3; subst hv1 hv3; obtain ⟨gb', ob', e', hcell⟩ := hO.byt.at_ (by omega); cases e'; have yc' := hcell 0 (by omega); rw [HY2.out] at yc'; have yc2 : wb2.cell? ⟨gb, 0, none⟩ = some (.int .u8 y) := (by exact yc'); clear hO hM hCh hgb hgl hcell yc'
            go_wp2
            exact ⟨⟨k + 1, by omega, rfl, HSN.out, MF2.out, CF2.out⟩, by simp [intOf]; omega⟩
          · rw [if_neg hy0] at hsn
            have e1 : (y == 0) = false := by simpa using hy0
            have HSN := Lib.hid hsn
            have ww : IntKind.u32.wrap (a + (k : Int)) = a + (k : Int) := by rw [IntKind.wrap_u32]; omega
            have wy : IntKind.u32.wrap y = y := by rw [IntKind.wrap_u32]; omega
            have or1 : bits .or .u32 (v1 / 16777216 * 16777216) (a + (k : Int)) = v1 / 16777216 * 16777216 + (a + (k : Int)) := or_32 24 (v1 / 16777216 * 16777216) (a + (k : Int)) 16777216 (by rfl) (by omega) (by omega) (by omega) (by omega) (by omega) (by omega)
            have or2 : bits .or .u32 (v2 / 256 * 256) y = v2 / 256 * 256 + y := or_32 8 (v2 / 256 * 256) y 256 (by rfl) (by omega) (by omega) (by omega) (by omega) (by omega) (by omega)
            clear hy0 hsn
            go_wp2_with fail
            refine (FET1.out _ MW.out).mono ?_
            rintro e wb1 ⟨A, mm, cb, rfl, hO, hM, hCh⟩; rw [HZ1.out] at hO; have MF1 := Lib.hid hM; have CF1 := Lib.hid (CW.out.trans (hCh.mono (by simp))); have hml : mm = 1 := (by have := hO.byt.1; have := HL1.out; omega); subst hml; obtain ⟨gb, cb', hv, hgb, hgl, -, -⟩ := hO.pos (by omega); injection hv with hv1 hv2 hv3; subst hv1 hv3; obtain ⟨gb', ob', e', hcell⟩ := hO.byt.at_ (by omega); cases e'; have yc' := hcell 0 (by omega); rw [HY1.out] at yc'; have yc1 : wb1.cell? ⟨gb, 0, none⟩ = some (.int .u8 x) := (by exact yc'); clear hO hM hCh hgb hgl hcell yc'
            go_wp2_with fail
            refine (FET2.out _ MF1.out).mono ?_
            rintro e wb2 ⟨A, mm, cb, rfl, hO, hM, hCh⟩; rw [HZ2.out] at hO; have MF2 := Lib.hid hM; have CF2 := Lib.hid (CF1.out.trans (hCh.mono (by simp))); have hml : mm = 1 := (by have := hO.byt.1; have := HL2.out; omega); subst hml; obtain ⟨gb, cb', hv, hgb, hgl, -, -⟩ := hO.pos (by omega); injection hv with hv1 hv2 hv3; subst hv1 hv3; obtain ⟨gb', ob', e', hcell⟩ := hO.byt.at_ (by omega); cases e'; have yc' := hcell 0 (by omega); rw [HY2.out] at yc'; have yc2 : wb2.cell? ⟨gb, 0, none⟩ = some (.int .u8 y) := (by exact yc'); clear hO hM hCh hgb hgl hcell yc'
            have d1 := MF2.out.m.co (n := 1) (by omega)
            rw [HV1.out] at d1
            have d2 := MF2.out.m.co (n := 2) (by omega)
            rw [HV2.out] at d2
            have d3 := MF2.out.m.cr (n := 1) (by omega)
            have d4 := MF2.out.m.free 29
            have d5 := MF2.out.m.cr (n := 2) (by omega)
            have d6 := MF2.out.m.free 30
            have d7 := MF2.out.m.cp (n := 7) (by omega)
            have d8 := MF2.out.m.free 51
            have d9 := MF2.out.m.ci (c := 9) (by omega)
            rw [HL.out] at d9
            go_upto_region 7 with fail
            go_region
            go_upto_region 8 with fail
            go_region
            try simp only [an1, an2, ww, wy, or1, or2]
            by_cases hkN : (k : Int) = l1
            · have e2 : ((k : Int) == l1) = true := by simpa using hkN
              have HQ := Lib.hid (show k + 1 = N by omega)
              clear hkN
              go_wp2
              first | go_end0 | refine bodyPost_ret (results_none rfl _ _ _) rfl ?_
              rw [HR.out]
              have e := HSN.out
              injection e with ec eo
              subst ec eo
              refine ⟨fun _ => ⟨rfl, ?_⟩, fun h => absurd rfl h, ((((CF2.out.setCell (by simp) _).setCell (by simp) _).setCell (by simp) _).setCell (by simp) _).drewN 2⟩
              simp only [scnR, scnQ, HV1.out, HV2.out]
              rw [if_pos HQ.out]
              have hM := (((((MF2.out.setr (n := 1) (by omega) (v1 / 16777216 * 16777216 + (a + (k : Int)))).setr (n := 2) (by omega) (v2 / 256 * 256 + y)).setp (n := 7) (by omega) (.int .i64 1))).setp (n := 7) (by omega) (.int .i64 2)).drewN 2
              rw [List.set_set, List.set_set] at hM
              exact hM
            · have e2 : ((k : Int) == l1) = false := by simpa using hkN
              have HQ := Lib.hid (show ¬ k + 1 = N by omega)
              clear hkN
              go_wp2
              first | go_end0 | refine bodyPost_ret (results_none rfl _ _ _) rfl ?_
              rw [HR.out]
              have e := HSN.out
              injection e with ec eo
              subst ec eo
              refine ⟨fun _ => ⟨rfl, ?_⟩, fun h => absurd rfl h, (((CF2.out.setCell (by simp) _).setCell (by simp) _).setCell (by simp) _).drewN 2⟩
              simp only [scnR, scnQ, HV1.out, HV2.out]
              rw [if_neg HQ.out]
              have hM := ((((MF2.out.setr (n := 1) (by omega) (v1 / 16777216 * 16777216 + (a + (k : Int)))).setr (n := 2) (by omega) (v2 / 256 * 256 + y)).setp (n := 7) (by omega) (.int .i64 1))).drewN 2
              rw [List.set_set] at hM
              exact hM
        · rw [if_neg h2] at hsn
          have HS2 := Lib.hid h2
          have HCE := Lib.hid (show sCode (alF key) bs.length ks t 1 = c from congrArg Prod.fst hsn)
          have HC0 := Lib.hid (show c ≠ 0 from by rw [← HCE.out]; exact h2)
          clear h2 hsn
          go_wp2_with fail
          refine (FET1.out _ MW.out).mono ?_
          rintro e wb1 ⟨A, mm, cb, rfl, hO, hM, hCh⟩; rw [HZ1.out] at hO; have MF1 := Lib.hid hM; have CF1 := Lib.hid (CW.out.trans (hCh.mono (by simp))); have hml : mm = 1 := (by have := hO.byt.1; have := HL1.out; omega); subst hml; obtain ⟨gb, cb', hv, hgb, hgl, -, -⟩ := hO.pos (by omega); injection hv with hv1 hv2 hv3; subst hv1 hv3; obtain ⟨gb', ob', e', hcell⟩ := hO.byt.at_ (by omega); cases e'; have yc' := hcell 0 (by omega); rw [HY1.out] at yc'; have yc1 : wb1.cell? ⟨gb, 0, none⟩ = some (.int .u8 x) := (by exact yc'); clear hO hM hCh hgb hgl hcell yc'
          go_wp2_with fail
          refine (fetch_no g F is os rs (ps.set 7 (.int .i64 0)) ov bs ks t 1 key _ MF1.out HK.out c HCE.out HC0.out).mono ?_
          rintro e w9 ⟨rfl, hM, hCh⟩
          have M9 := Lib.hid hM
          have C9 := Lib.hid (CF1.out.trans (hCh.mono (by simp)))
          clear hM hCh
          go_wp2
          refine ⟨rfl, ?_⟩
          rw [HR.out]
          exact ⟨fun h => absurd h HC0.out, fun _ => ⟨rfl, M9.out⟩, C9.out⟩
      · rw [if_neg h1] at hsn
        have HCE := Lib.hid (show sCode (alF key) bs.length ks (a + (k : Int)) 1 = c from congrArg Prod.fst hsn)
        have HC0 := Lib.hid (show c ≠ 0 from by rw [← HCE.out]; exact h1)
        clear h1 hsn
        go_wp2_with (go_at_call 68; refine (fetch_no g F is os rs (ps.set 7 (.int .i64 0)) ov bs ks (a + (k : Int)) 1 key _ MW.out HK.out c HCE.out HC0.out).mono ?_; rintro e w9 ⟨rfl, hM, hCh⟩; have M9 := Lib.hid hM; have C9 := Lib.hid (CW.out.trans (hCh.mono (by simp))); clear hM hCh)
        refine ⟨rfl, ?_⟩
        rw [HR.out]
        exact ⟨fun h => absurd h HC0.out, fun _ => ⟨rfl, M9.out⟩, C9.out⟩
    · obtain rfl : k = N := by omega
      have hI : ¬ (k : Int) ≤ l1 := by omega
      rw [Nat.sub_self] at hsn
      have HSN := Lib.hid (show ((0 : Int), (none : Option (Nat × Int))) = (c, o) from hsn)
      clear hsn
      go_wp2
      first | go_end0 | refine bodyPost_ret (results_none rfl _ _ _) rfl ?_
      rw [HR.out]
      have e := HSN.out
      injection e with ec eo
      subst ec eo
      exact ⟨fun _ => ⟨rfl, MW.out⟩, fun h => absurd rfl h, CW.out⟩
end Go.Proofs.Ythjdjbipfdigeaa

namespace Go.Proofs.Ythjdjbipfdigeaa
open Go.RowKit
set_option maxRecDepth 100000
set_option linter.unusedVariables false
set_option linter.unusedSimpArgs false
def lmR (rs : List Int) (n : Nat) (zs : List Int) : Nat → List Int
  | 0 => rs
  | k + 1 => (lmR rs n zs k).set ((n + k) % 16) (flv (zs.getD (4 * k) 0) (zs.getD (4 * k + 1) 0) (zs.getD (4 * k + 2) 0) (zs.getD (4 * k + 3) 0))
theorem cell_ch {w w' : World} {L : List Nat} (h : Ch w w' L) {b c : Nat} (hb : b < w.heap.size) (hL : b ∉ L) : w'.cell? ⟨b, c, none⟩ = w.cell? ⟨b, c, none⟩ := by
  unfold World.cell?; simp only [h.block b hb hL]
theorem sGet_len {al : Int → Bool} {bs ks : List Int} {a : Int} {n : Nat} (h : sCode al bs.length ks a (n : Int) = 0) : (sGet bs a (n : Int)).length = n := by
  have h0 := sCode_zero h
  obtain ⟨h1, h2, h3, h4⟩ := sIn_yes h0
  unfold sGet; rw [if_pos h0]; simp; omega
set_option maxRecDepth 1000000 in
set_option maxHeartbeats 4000000 in
theorem move_lm (g n m : Nat) (F : Foot) (is os rs : List Int) (ps : List Value) (ov : Bool) (bs ks : List Int) (key a : Int) (w : World) (h : MS w g F is os rs ps ov bs ks) (h0 : is.getD 0 0 = 152) (hn : is.getD 2 0 = (n : Int)) (hn16 : n < 16) (hk : is.getD 3 0 = (m : Int)) (hk16 : m < 16) (hkey : ps.getD 1 undef = .int .i64 key) (hsec : ∀ W, MS W g F is os rs ps ov bs ks → Calls Try.prog 44 #[.pointer (some ⟨g, 0, none⟩)] W fun e w' => e = .returned (.int .i64 a) ∧ Ch W w' []) (ha0 : 0 ≤ a) (ha1 : a ≤ 16777215) (ha : a % 4 = 0) (hc : sCode (alF key) bs.length ks a ((4 * ((m + 16 - n) % 16 + 1) : Nat) : Int) = 0) : Calls Try.prog 45 #[.pointer (some ⟨g, 0, none⟩)] w fun e w' => e = .returned (.tuple #[]) ∧ MS w' g F is os (lmR rs n (sGet bs a ((4 * ((m + 16 - n) % 16 + 1) : Nat) : Int)) ((m + 16 - n) % 16 + 1)) ps ov bs ks ∧ Ch w w' [g] := by
  have c0 := h.m.ci (c := 0) (by omega)
  rw [h0] at c0
  have c2 := h.m.ci (c := 2) (by omega)
  rw [hn] at c2
  have c4 := h.m.co hn16
  have i0 : (n : Int) < 16 := by omega
  have i1 : (0 : Int) ≤ (n : Int) := by omega
  obtain ⟨C, hC⟩ : ∃ C, (m + 16 - n) % 16 + 1 = C := ⟨_, rfl⟩
  have hC16 : C ≤ 16 := by omega
  have hC1 : 1 ≤ C := by omega
  have CM := Lib.hid (fun (W : World) (rs' : List Int) (h : Mc W g is os rs' ps (.pointer (some ⟨F.g, 0, none⟩)) ov) => count_m g n m is os rs' ps _ ov W h hn hn16 hk hk16)
  simp only [hC] at CM hc ⊢
  have hzl := sGet_len hc
  obtain ⟨zs, hzs⟩ : ∃ zs, sGet bs a ((4 * C : Nat) : Int) = zs := ⟨_, rfl⟩
  rw [hzs] at hzl ⊢
  have HZ := Lib.hid hzs
  have HZL := Lib.hid hzl
  have HM := Lib.hid h
  have HN := Lib.hid hn
  have SC := Lib.hid hsec
  have HK := Lib.hid hkey
  have HC := Lib.hid hc
  have hm4 : IntKind.i64.wrap (4 * (C : Int)) = ((4 * C : Nat) : Int) := by rw [wrap_i64_id (by omega) (by omega)]; omega
  clear h h0 hn hk hkey hsec hc hC hzs hzl
  go_enter Try.func45, Try.ntmps45
  go_upto_region 0 with fail
  go_region
  have M0 := Lib.hid (show MS w.drew g F is os rs ps ov bs ks from HM.out.drewN 1)
  have C0 := Lib.hid (show Ch w w.drew [g] from (Ch.refl w [g]).drewN 1)
  obtain ⟨W0, hW0⟩ : ∃ W0, w.drew = W0 := ⟨_, rfl⟩
  have k0 : W0.cell? ⟨g, 0, none⟩ = some (.int .i64 152) := by rw [← hW0]; exact c0
  rw [hW0] at M0 C0
  rw [hW0]
  clear hW0 c0 c2 c4 HM
  go_upto_region 20 with (first
    | (go_at_call 66; refine (aligned_m g a 4 _ (SC.out _ M0.out) (.inr rfl) ha0 ha1 ha).mono ?_; rintro e wa ⟨rfl, hca⟩; have Ma := Lib.hid (M0.out.ch hca); have Ca := Lib.hid (C0.out.trans (hca.mono (by simp))); clear hca)
    | (go_at_call 69; refine (CM.out _ _ Ma.out.m).mono ?_; rintro e wb ⟨rfl, db, hwb⟩; have Mb := Lib.hid (show MS wb g F is os rs ps ov bs ks from by rw [hwb]; exact Ma.out.drewN db); have Cb := Lib.hid (show Ch w wb [g] from by rw [hwb]; exact Ca.out.drewN db); clear hwb)
    | (go_at_call 68; refine (fetch_m g F is os rs ps ov bs ks a ((4 * C : Nat) : Int) key _ Mb.out HK.out HC.out).mono ?_; rintro e W1 ⟨A, mm, cb, rfl, hO, hM, hCh⟩; rw [HZ.out] at hO; have M1 := Lib.hid hM; have C1 := Lib.hid (Cb.out.trans (hCh.mono (by simp))); have hml : mm = 4 * C := by have := hO.byt.1; have := HZL.out; omega
       have hlt1 := Mb.out.m.lt; subst hml; obtain ⟨gb, cb', hv, hgb, hgl, -, -⟩ := hO.pos (by omega); injection hv with hv1 hv2 hv3; subst hv1 hv3; have Y1 := Lib.hid hO.byt; have HGB := Lib.hid (And.intro (show gb ≠ g by omega) hgl); clear hO hM hCh hgb hgl hlt1))
  clear Ma Ca Mb Cb M0 C0 k0
  go_loopw [6] (fun x W => ∃ k : Nat, k ≤ C ∧ x = .int .i64 (k : Int) ∧ MS W g F is os (lmR rs n zs k) ps ov bs ks ∧ Ch W1 W [g]) (fun x _ => C - (intOf x).toNat)
  case atStart => exact ⟨0, by omega, rfl, M1.out, Ch.refl _ _⟩
  case round =>
    obtain ⟨k, hk, rfl, hmw, hcw⟩ := hrel
    have MW := Lib.hid hmw
    have CW := Lib.hid hcw
    clear hmw hcw
    by_cases hlt : k < C
    · have hI : (k : Int) < (C : Int) := by omega
      obtain ⟨q, hq⟩ : ∃ q, (n + k) % 16 = q := ⟨_, rfl⟩
      have hm16 : q < 16 := by omega
      have hrem : ((n : Int) + (k : Int)) % 16 = (q : Int) := by omega
      have hr1 : (0 : Int) ≤ (n : Int) + (k : Int) := by omega
      have hwr : IntKind.i64.wrap ((n : Int) + (k : Int)) = (n : Int) + (k : Int) := wrap_i64_id (by omega) (by omega)
      have hrem2 : ((n : Int) + (k : Int)).tmod 16 = (q : Int) := by rw [Int.tmod_eq_emod_of_nonneg hr1]; exact hrem
      have hmul : IntKind.i64.wrap (4 * (k : Int)) = ((4 * k : Nat) : Int) := by rw [wrap_i64_id (by omega) (by omega)]; omega
      have hr3 : (q : Int) < 16 := by omega
      have hr4 : (0 : Int) ≤ (q : Int) := by omega
      have HQ := Lib.hid hq
      clear hq
      have CL := Lib.hid (lmR.eq_2 rs n zs k)
      obtain ⟨gb', ob', e', hcell⟩ := Y1.out.at_ (by omega)
      cases e'
      have y0' := hcell (4 * k) (by omega)
      have y1' := hcell (4 * k + 1) (by omega)
      have y2' := hcell (4 * k + 2) (by omega)
      have y3' := hcell (4 * k + 3) (by omega)
      have r0 := Y1.out.range (4 * k)
      have r1 := Y1.out.range (4 * k + 1)
      have r2 := Y1.out.range (4 * k + 2)
      have r3 := Y1.out.range (4 * k + 3)
      obtain ⟨x0, hx0⟩ : ∃ x, zs.getD (4 * k) 0 = x := ⟨_, rfl⟩
      obtain ⟨x1, hx1⟩ : ∃ x, zs.getD (4 * k + 1) 0 = x := ⟨_, rfl⟩
      obtain ⟨x2, hx2⟩ : ∃ x, zs.getD (4 * k + 2) 0 = x := ⟨_, rfl⟩
      obtain ⟨x3, hx3⟩ : ∃ x, zs.getD (4 * k + 3) 0 = x := ⟨_, rfl⟩
      rw [hx0] at y0' r0
      rw [hx1] at y1' r1
      rw [hx2] at y2' r2
      rw [hx3] at y3' r3
      have CL2 := Lib.hid (show lmR rs n zs (k + 1) = (lmR rs n zs k).set q (flv x0 x1 x2 x3) from by rw [CL.out, HQ.out, hx0, hx1, hx2, hx3])
      clear hx0 hx1 hx2 hx3 hcell CL HQ
      go_upto_region 22 with (go_at_call 69; refine (CM.out _ _ MW.out.m).mono ?_; rintro e w3 ⟨rfl, d3, hw3⟩; have M3 := Lib.hid (show MS w3 g F is os (lmR rs n zs k) ps ov bs ks from by rw [hw3]; exact MW.out.drewN d3); have C3 := Lib.hid (show Ch W1 w3 [g] from by rw [hw3]; exact CW.out.drewN d3); clear hw3)
      have y0 : w3.drew.cell? ⟨gb, 0 + 4 * k, none⟩ = some (.int .u8 x0) := (cell_ch (C3.out.drewN 1) HGB.out.2 (by simp; exact HGB.out.1)).trans y0'
      have y1 : w3.drew.cell? ⟨gb, 0 + (4 * k + 1), none⟩ = some (.int .u8 x1) := (cell_ch (C3.out.drewN 1) HGB.out.2 (by simp; exact HGB.out.1)).trans y1'
      have y2 : w3.drew.cell? ⟨gb, 0 + (4 * k + 2), none⟩ = some (.int .u8 x2) := (cell_ch (C3.out.drewN 1) HGB.out.2 (by simp; exact HGB.out.1)).trans y2'
      have y3 : w3.drew.cell? ⟨gb, 0 + (4 * k + 3), none⟩ = some (.int .u8 x3) := (cell_ch (C3.out.drewN 1) HGB.out.2 (by simp; exact HGB.out.1)).trans y3'
      clear y0' y1' y2' y3'
      refine wp_region_held_drew (S := (fun w' => (∃ rs', Mc w' g is os rs' ps (.pointer (some ⟨F.g, 0, none⟩)) ov) ∧ Ch W1 w' [g])) (by kernel_rfl) ?_ (fun hHeld => ?_)
      · (try dsimp only); exact ⟨⟨_, M3.out.m.drewN 1⟩, C3.out.drewN 1⟩
      refine' takeL (i := 0) (v := _) rfl (by kernel_rfl) (by kernel_rfl) (by kernel_rfl) (fun _ _ _ h => h) (Or.inl ⟨by rfl, ?yy29⟩) (by assumption) ?rr29
      case yy29 => intro w hSw; (try dsimp only at hSw); go_simp; (try with_reducible rfl)
      try simp only [Act.put, List.setIfInBounds_toArray, List.set_cons_zero, List.set_cons_succ]
      refine' takeL (i := 1) (v := _) rfl (by kernel_rfl) (by kernel_rfl) (by kernel_rfl) (fun _ _ _ h => h) (Or.inl ⟨by rfl, ?yy30⟩) (by assumption) ?rr30
      case yy30 => intro w hSw; (try dsimp only at hSw); go_simp; (try with_reducible rfl)
      try simp only [Act.put, List.setIfInBounds_toArray, List.set_cons_zero, List.set_cons_succ]
      refine' takeL (i := 2) (v := _) rfl (by kernel_rfl) (by kernel_rfl) (by kernel_rfl) (fun _ _ _ h => h) (Or.inl ⟨by rfl, ?yy31⟩) (by assumption) ?rr31
      case yy31 => intro w hSw; (try dsimp only at hSw); go_simp; (try with_reducible rfl)
      try simp only [Act.put, List.setIfInBounds_toArray, List.set_cons_zero, List.set_cons_succ]
      refine' takeL (i := 3) (v := _) rfl (by kernel_rfl) (by kernel_rfl) (by kernel_rfl) (fun _ _ _ h => h) (Or.inl ⟨by rfl, ?yy32⟩) (by assumption) ?rr32
      case yy32 => intro w hSw; (try dsimp only at hSw); go_simp; (try with_reducible rfl)
      try simp only [Act.put, List.setIfInBounds_toArray, List.set_cons_zero, List.set_cons_succ]
      refine' takeL (i := 4) (v := _) rfl (by kernel_rfl) (by kernel_rfl) (by kernel_rfl) (fun _ _ _ h => h) (Or.inl ⟨by rfl, ?yy33⟩) (by assumption) ?rr33
      case yy33 => intro w hSw; (try dsimp only at hSw); go_simp; (try with_reducible rfl)
      try simp only [Act.put, List.setIfInBounds_toArray, List.set_cons_zero, List.set_cons_succ]
      refine' takeL (i := 5) (v := .int .i64 (n : Int)) rfl (by kernel_rfl) (by kernel_rfl) (by kernel_rfl) (fun _ _ _ h => h) (Or.inl ⟨by rfl, ?yy34⟩) (by assumption) ?rr34
      case yy34 => intro w hSw; (try dsimp only at hSw); obtain ⟨⟨rs', hx⟩, -⟩ := hSw; have hq := hx.ci (c := 2) (by omega); rw [HN.out] at hq; go_simp; (try with_reducible rfl)
      try simp only [Act.put, List.setIfInBounds_toArray, List.set_cons_zero, List.set_cons_succ]
      refine' takeL (i := 6) (v := _) rfl (by kernel_rfl) (by kernel_rfl) (by kernel_rfl) (fun _ _ _ h => h) (Or.inl ⟨by rfl, ?yy35⟩) (by assumption) ?rr35
      case yy35 => intro w hSw; (try dsimp only at hSw); go_simp; (try with_reducible rfl)
      try simp only [Act.put, List.setIfInBounds_toArray, List.set_cons_zero, List.set_cons_succ]
      refine' takeL (i := 7) (v := .int .i64 ((n : Int) + (k : Int))) rfl (by kernel_rfl) (by kernel_rfl) (by kernel_rfl) (fun _ _ _ h => h) (Or.inl ⟨by rfl, ?yy36⟩) (by assumption) ?rr36
      case yy36 => intro w hSw; (try dsimp only at hSw); have e := hwr; go_simp; (try with_reducible rfl)
      try simp only [Act.put, List.setIfInBounds_toArray, List.set_cons_zero, List.set_cons_succ]
      refine' takeL (i := 8) (v := .int .i64 (q : Int)) rfl (by kernel_rfl) (by kernel_rfl) (by kernel_rfl) (fun _ _ _ h => h) (Or.inl ⟨by rfl, ?yy37⟩) (by assumption) ?rr37
      case yy37 => intro w hSw; (try dsimp only at hSw); have e := hrem2; go_simp; (try with_reducible rfl)
      try simp only [Act.put, List.setIfInBounds_toArray, List.set_cons_zero, List.set_cons_succ]
      refine' takeL (i := 9) (v := _) rfl (by kernel_rfl) (by kernel_rfl) (by kernel_rfl) (fun _ _ _ h => h) (Or.inl ⟨by rfl, ?yy38⟩) (by assumption) ?rr38
      case yy38 => intro w hSw; (try dsimp only at hSw); go_simp; (try with_reducible rfl)
      try simp only [Act.put, List.setIfInBounds_toArray, List.set_cons_zero, List.set_cons_succ]
      refine' takeL (i := 10) (v := _) rfl (by kernel_rfl) (by kernel_rfl) (by kernel_rfl) (fun _ _ _ h => h) (Or.inl ⟨by rfl, ?yy39⟩) (by assumption) ?rr39
      case yy39 => intro w hSw; (try dsimp only at hSw); go_simp; (try with_reducible rfl)
      try simp only [Act.put, List.setIfInBounds_toArray, List.set_cons_zero, List.set_cons_succ]
      refine' takeL (i := 11) (v := .int .i64 ((4 * k : Nat) : Int)) rfl (by kernel_rfl) (by kernel_rfl) (by kernel_rfl) (fun _ _ _ h => h) (Or.inl ⟨by rfl, ?yy40⟩) (by assumption) ?rr40
      case yy40 => intro w hSw; (try dsimp only at hSw); have e := hmul; go_simp; (try with_reducible rfl)
      try simp only [Act.put, List.setIfInBounds_toArray, List.set_cons_zero, List.set_cons_succ]
      refine' takeL (i := 16) (v := _) rfl (by kernel_rfl) (by kernel_rfl) (by kernel_rfl) (fun _ _ _ h => h) (Or.inl ⟨by rfl, ?yy41⟩) (by assumption) ?rr41
      case yy41 => intro w hSw; (try dsimp only at hSw); go_simp; (try with_reducible rfl)
      try simp only [Act.put, List.setIfInBounds_toArray, List.set_cons_zero, List.set_cons_succ]
      refine' takeL (i := 17) (v := _) rfl (by kernel_rfl) (by kernel_rfl) (by kernel_rfl) (fun _ _ _ h => h) (Or.inl ⟨by rfl, ?yy42⟩) (by assumption) ?rr42
      case yy42 => intro w hSw; (try dsimp only at hSw); go_simp; (try with_reducible rfl)
      try simp only [Act.put, List.setIfInBounds_toArray, List.set_cons_zero, List.set_cons_succ]
      refine wpAnyH_ready (rs := [12]) (by kernel_rfl) (by simp) ?_
      refine consL rfl (fun K hK => ?_) AllReadyH.nil
      go_simp
      go_at_call 70
      refine (full_yes gb 0 (4 * C) cb (4 * k) x0 x1 x2 x3 w3.drew (by omega) (by omega) (y0) (y1) (y2) (y3) r0.1 r0.2 r1.1 r1.2 r2.1 r2.2 r3.1 r3.2).mono ?_
      rintro e w5 ⟨rfl, d5, hw5⟩
      have M5 := Lib.hid (show MS w5 g F is os (lmR rs n zs k) ps ov bs ks from by rw [hw5]; exact (M3.out.drewN 1).drewN d5)
      have C5 := Lib.hid (show Ch W1 w5 [g] from by rw [hw5]; exact (C3.out.drewN 1).drewN d5)
      have c3 := M5.out.m.cr hm16
      have f3 := M5.out.m.free (28 + q)
      clear hw5 hHeld
      go_wp2_with fail
      refine hK.out _ _ ?_ (fun hHeld => ?_)
      · (try dsimp only); exact ⟨⟨_, M5.out.m⟩, C5.out⟩
      clear hK K
      try simp only [Act.put, List.setIfInBounds_toArray, List.set_cons_zero, List.set_cons_succ]
      refine' takeL (i := 13) (v := _) rfl (by kernel_rfl) (by kernel_rfl) (by kernel_rfl) (fun _ _ _ h => h) (Or.inl ⟨by rfl, ?yy43⟩) (by assumption) ?rr43
      case yy43 => intro w hSw; (try dsimp only at hSw); go_simp; (try with_reducible rfl)
      try simp only [Act.put, List.setIfInBounds_toArray, List.set_cons_zero, List.set_cons_succ]
      refine' takeL (i := 14) (v := _) rfl (by kernel_rfl) (by kernel_rfl) (by kernel_rfl) (fun _ _ _ h => h) (Or.inl ⟨by rfl, ?yy44⟩) (by assumption) ?rr44
      case yy44 => intro w hSw; (try dsimp only at hSw); go_simp; (try with_reducible rfl)
      try simp only [Act.put, List.setIfInBounds_toArray, List.set_cons_zero, List.set_cons_succ]
      refine' takeL (i := 15) (v := _) rfl (by kernel_rfl) (by kernel_rfl) (by kernel_rfl) (fun _ _ _ h => h) (Or.inl ⟨by rfl, ?yy45⟩) (by assumption) ?rr45
      case yy45 => intro w hSw; (try dsimp only at hSw); go_simp; (try with_reducible rfl)
      try simp only [Act.put, List.setIfInBounds_toArray, List.set_cons_zero, List.set_cons_succ]
      refine' takeL (i := 18) (v := _) rfl (by kernel_rfl) (by kernel_rfl) (by kernel_rfl) (fun _ _ _ h => h) (Or.inl ⟨by rfl, ?yy46⟩) (by assumption) ?rr46
      case yy46 => intro w hSw; (try dsimp only at hSw); go_simp; (try with_reducible rfl)
      try simp only [Act.put, List.setIfInBounds_toArray, List.set_cons_zero, List.set_cons_succ]
      refine wpAnyH_ready (rs := [19]) (by kernel_rfl) (by simp) ?_
      refine consL rfl (fun K hK => ?_) AllReadyH.nil
      go_simp
      refine hK.out _ _ ?_ (fun hHeld => ?_)
      · (try dsimp only); exact ⟨⟨_, M5.out.m.setr hm16 _⟩, C5.out.setCell (by simp) _⟩
      clear hK K
      try simp only [Act.put, List.setIfInBounds_toArray, List.set_cons_zero, List.set_cons_succ]
      refine wpAnyH_done (by kernel_rfl) ?_ _
      go_wp2
      refine ⟨⟨k + 1, by omega, rfl, ?_, C5.out.setCell (by simp) _⟩, by simp [intOf]; omega⟩
      rw [CL2.out]
      exact M5.out.set_ (M5.out.m.setr hm16 _) ((Ch.refl _ _).setCell (by simp) _)
    · obtain rfl : k = C := by omega
      have hI : ¬ (k : Int) < (k : Int) := by omega
      go_wp2_with (go_at_call 69; refine (CM.out _ _ MW.out.m).mono ?_; rintro e w3 ⟨rfl, d3, hw3⟩; have M3 := Lib.hid (show MS w3 g F is os (lmR rs n zs k) ps ov bs ks from by rw [hw3]; exact MW.out.drewN d3); have C3 := Lib.hid (show Ch W1 w3 [g] from by rw [hw3]; exact CW.out.drewN d3); clear hw3)
      first | go_end0 | refine bodyPost_ret (results_none rfl _ _ _) rfl ?_
      exact ⟨rfl, M3.out, C1.out.trans C3.out⟩
end Go.Proofs.Ythjdjbipfdigeaa

namespace Go.Proofs.Ythjdjbipfdigeaa
open Go.RowKit
set_option maxRecDepth 100000
set_option linter.unusedVariables false
set_option linter.unusedSimpArgs false
set_option maxRecDepth 1000000 in
set_option maxHeartbeats 4000000 in
theorem move_stm_any (g n m : Nat) (F : Foot) (is os rs : List Int) (ps : List Value) (ov : Bool) (bs ks : List Int) (key a : Int) (w : World) (h : MS w g F is os rs ps ov bs ks) (h0 : is.getD 0 0 = 144) (hn : is.getD 2 0 = (n : Int)) (hn16 : n < 16) (hk : is.getD 3 0 = (m : Int)) (hk16 : m < 16) (ro : ∀ z ∈ os, 0 ≤ z ∧ z ≤ 4294967295) (hkey : ps.getD 1 undef = .int .i64 key) (hsec : ∀ W, MS W g F is os rs ps ov bs ks → Calls Try.prog 44 #[.pointer (some ⟨g, 0, none⟩)] W fun e w' => e = .returned (.int .i64 a) ∧ Ch W w' []) (ha0 : 0 ≤ a) (ha1 : a ≤ 16777215) (c : Int) (hc : (if a % 4 = 0 then sCode (alP key) bs.length ks a ((4 * ((m + 16 - n) % 16 + 1) : Nat) : Int) else 6) = c) : Calls Try.prog 45 #[.pointer (some ⟨g, 0, none⟩)] w fun e w' => (c = 0 → e = .returned (.tuple #[]) ∧ MS w' g F is os rs ps ov (sPut (alP key) bs ks a (stB os n ((m + 16 - n) % 16 + 1))) ks) ∧ (c ≠ 0 → e = .panicked [{ v := .iface 65 (.int .i64 c), recovered := false }] ∧ MS w' g F is os rs ps ov bs ks) ∧ Ch w w' [F.gb] := by
  have c0 := h.m.ci (c := 0) (by omega)
  rw [h0] at c0
  have c2 := h.m.ci (c := 2) (by omega)
  rw [hn] at c2
  have c4 := h.m.co hn16
  have i0 : (n : Int) < 16 := by omega
  have i1 : (0 : Int) ≤ (n : Int) := by omega
  obtain ⟨C, hC⟩ : ∃ C, (m + 16 - n) % 16 + 1 = C := ⟨_, rfl⟩
  have hC16 : C ≤ 16 := by omega
  have hC1 : 1 ≤ C := by omega
  have CM := Lib.hid (fun (W : World) (h : Mc W g is os rs ps (.pointer (some ⟨F.g, 0, none⟩)) ov) => count_m g n m is os rs ps _ ov W h hn hn16 hk hk16)
  simp only [hC] at CM hc ⊢
  have HM := Lib.hid h
  have HN := Lib.hid hn
  have RO := Lib.hid ro
  have SC := Lib.hid hsec
  have HK := Lib.hid hkey
  have HCC := Lib.hid hc
  clear h h0 hn hk ro hkey hsec hc hC
  go_enter Try.func45, Try.ntmps45
  go_upto_region 0 with fail
  go_region
  go_upto_region 13 with fail
  obtain ⟨W0, hW0⟩ : ∃ W0, w.drew = W0 := ⟨_, rfl⟩
  have M0 := Lib.hid (show MS w.drew g F is os rs ps ov bs ks from HM.out.drewN 1)
  have C0 := Lib.hid (show Ch w w.drew [F.gb] from (Ch.refl w [F.gb]).drewN 1)
  rw [hW0] at M0 C0
  rw [hW0]
  clear hW0 c0 c2 c4 HM
  go_loopw [3, 4] (fun bv x W => ∃ k : Nat, k ≤ C ∧ x = .int .i64 (k : Int) ∧ Own W W0.heap.size bv (4 * k) (stB os n k) ∧ Below W0.heap.size W0 W) (fun _ x _ => C - (intOf x).toNat)
  case atStart => exact ⟨0, by omega, rfl, Own.nil _ _, Below.refl _ _⟩
  case round =>
    obtain ⟨k, hk, rfl, ho, hb⟩ := hrel
    have MW := Lib.hid (M0.out.keep hb)
    have HB := Lib.hid hb
    have HO := Lib.hid ho
    clear ho hb
    by_cases hlt : k < C
    · have hI : (k : Int) < (C : Int) := by omega
      obtain ⟨q, hq⟩ : ∃ q, (n + k) % 16 = q := ⟨_, rfl⟩
      have hm16 : q < 16 := by omega
      have hrem : ((n : Int) + (k : Int)) % 16 = (q : Int) := by omega
      have hr1 : (0 : Int) ≤ (n : Int) + (k : Int) := by omega
      have hr2 : (n : Int) + (k : Int) ≤ 31 := by omega
      have hwr : IntKind.i64.wrap ((n : Int) + (k : Int)) = (n : Int) + (k : Int) := wrap_i64_id (by omega) (by omega)
      have hrem2 : ((n : Int) + (k : Int)).tmod 16 = (q : Int) := by rw [Int.tmod_eq_emod_of_nonneg hr1]; exact hrem
      have hr3 : (q : Int) < 16 := by omega
      have hr4 : (0 : Int) ≤ (q : Int) := by omega
      have HQ := Lib.hid hq
      clear hq
      obtain ⟨v, hv⟩ : ∃ v, os.getD q 0 = v := ⟨_, rfl⟩
      have v01 : 0 ≤ v ∧ v ≤ 4294967295 := by rw [← hv]; exact getD_in RO.out _
      obtain ⟨v0, v1⟩ := v01
      have HV := Lib.hid hv
      clear hv
      go_upto_region 15 with (go_at_call 69; refine (CM.out _ MW.out.m).mono ?_; rintro e w3 ⟨rfl, d3, hw3⟩; have M3 := Lib.hid (show MS w3 g F is os rs ps ov bs ks from by rw [hw3]; exact MW.out.drewN d3); have B3 := Lib.hid (show Below W0.heap.size W0 w3 from by rw [hw3]; exact dBelow' HB.out d3); have O3 := Lib.hid (show Own w3 W0.heap.size u3 (4 * k) (stB os n k) from by rw [hw3]; exact HO.out.drewN d3); clear hw3)
      refine wp_region_held_drew (S := (fun w' => Mc w' g is os rs ps (.pointer (some ⟨F.g, 0, none⟩)) ov ∧ Below W0.heap.size W0 w')) (by kernel_rfl) ?_ (fun hHeld => ?_)
      · (try dsimp only); exact ⟨M3.out.m.drewN 1, dBelow' B3.out 1⟩
      refine' takeL (i := 0) (v := _) rfl (by kernel_rfl) (by kernel_rfl) (by kernel_rfl) (fun _ _ _ h => h) (Or.inl ⟨by rfl, ?yy29⟩) (by assumption) ?rr29
      case yy29 => intro w hSw; (try dsimp only at hSw); go_simp; (try with_reducible rfl)
      try simp only [Act.put, List.setIfInBounds_toArray, List.set_cons_zero, List.set_cons_succ]
      refine' takeL (i := 1) (v := _) rfl (by kernel_rfl) (by kernel_rfl) (by kernel_rfl) (fun _ _ _ h => h) (Or.inl ⟨by rfl, ?yy30⟩) (by assumption) ?rr30
      case yy30 => intro w hSw; (try dsimp only at hSw); go_simp; (try with_reducible rfl)
      try simp only [Act.put, List.setIfInBounds_toArray, List.set_cons_zero, List.set_cons_succ]
      refine' takeL (i := 2) (v := _) rfl (by kernel_rfl) (by kernel_rfl) (by kernel_rfl) (fun _ _ _ h => h) (Or.inl ⟨by rfl, ?yy31⟩) (by assumption) ?rr31
      case yy31 => intro w hSw; (try dsimp only at hSw); go_simp; (try with_reducible rfl)
      try simp only [Act.put, List.setIfInBounds_toArray, List.set_cons_zero, List.set_cons_succ]
      refine' takeL (i := 3) (v := _) rfl (by kernel_rfl) (by kernel_rfl) (by kernel_rfl) (fun _ _ _ h => h) (Or.inl ⟨by rfl, ?yy32⟩) (by assumption) ?rr32
      case yy32 => intro w hSw; (try dsimp only at hSw); go_simp; (try with_reducible rfl)
      try simp only [Act.put, List.setIfInBounds_toArray, List.set_cons_zero, List.set_cons_succ]
      refine' takeL (i := 4) (v := _) rfl (by kernel_rfl) (by kernel_rfl) (by kernel_rfl) (fun _ _ _ h => h) (Or.inl ⟨by rfl, ?yy33⟩) (by assumption) ?rr33
      case yy33 => intro w hSw; (try dsimp only at hSw); go_simp; (try with_reducible rfl)
      try simp only [Act.put, List.setIfInBounds_toArray, List.set_cons_zero, List.set_cons_succ]
      refine' takeL (i := 5) (v := _) rfl (by kernel_rfl) (by kernel_rfl) (by kernel_rfl) (fun _ _ _ h => h) (Or.inl ⟨by rfl, ?yy34⟩) (by assumption) ?rr34
      case yy34 => intro w hSw; (try dsimp only at hSw); go_simp; (try with_reducible rfl)
      try simp only [Act.put, List.setIfInBounds_toArray, List.set_cons_zero, List.set_cons_succ]
      refine' takeL (i := 6) (v := .int .i64 (n : Int)) rfl (by kernel_rfl) (by kernel_rfl) (by kernel_rfl) (fun _ _ _ h => h) (Or.inl ⟨by rfl, ?yy35⟩) (by assumption) ?rr35
      case yy35 => intro w hSw; (try dsimp only at hSw); have hq := hSw.1.ci (c := 2) (by omega); rw [HN.out] at hq; go_simp; (try with_reducible rfl)
      try simp only [Act.put, List.setIfInBounds_toArray, List.set_cons_zero, List.set_cons_succ]
      refine' takeL (i := 7) (v := _) rfl (by kernel_rfl) (by kernel_rfl) (by kernel_rfl) (fun _ _ _ h => h) (Or.inl ⟨by rfl, ?yy36⟩) (by assumption) ?rr36
      case yy36 => intro w hSw; (try dsimp only at hSw); go_simp; (try with_reducible rfl)
      try simp only [Act.put, List.setIfInBounds_toArray, List.set_cons_zero, List.set_cons_succ]
      refine' takeL (i := 8) (v := .int .i64 ((n : Int) + (k : Int))) rfl (by kernel_rfl) (by kernel_rfl) (by kernel_rfl) (fun _ _ _ h => h) (Or.inl ⟨by rfl, ?yy37⟩) (by assumption) ?rr37
      case yy37 => intro w hSw; (try dsimp only at hSw); have e := hwr; go_simp; (try with_reducible rfl)
      try simp only [Act.put, List.setIfInBounds_toArray, List.set_cons_zero, List.set_cons_succ]
      refine' takeL (i := 9) (v := .int .i64 (q : Int)) rfl (by kernel_rfl) (by kernel_rfl) (by kernel_rfl) (fun _ _ _ h => h) (Or.inl ⟨by rfl, ?yy38⟩) (by assumption) ?rr38
      case yy38 => intro w hSw; (try dsimp only at hSw); have e := hrem2; go_simp; (try with_reducible rfl)
      try simp only [Act.put, List.setIfInBounds_toArray, List.set_cons_zero, List.set_cons_succ]
      refine' takeL (i := 10) (v := _) rfl (by kernel_rfl) (by kernel_rfl) (by kernel_rfl) (fun _ _ _ h => h) (Or.inl ⟨by rfl, ?yy39⟩) (by assumption) ?rr39
      case yy39 => intro w hSw; (try dsimp only at hSw); go_simp; (try with_reducible rfl)
      try simp only [Act.put, List.setIfInBounds_toArray, List.set_cons_zero, List.set_cons_succ]
      refine' takeL (i := 11) (v := _) rfl (by kernel_rfl) (by kernel_rfl) (by kernel_rfl) (fun _ _ _ h => h) (Or.inl ⟨by rfl, ?yy40⟩) (by assumption) ?rr40
      case yy40 => intro w hSw; (try dsimp only at hSw); go_simp; (try with_reducible rfl)
      try simp only [Act.put, List.setIfInBounds_toArray, List.set_cons_zero, List.set_cons_succ]
      refine' takeL (i := 12) (v := _) rfl (by kernel_rfl) (by kernel_rfl) (by kernel_rfl) (fun _ _ _ h => h) (Or.inl ⟨by rfl, ?yy41⟩) (by assumption) ?rr41
      case yy41 => intro w hSw; (try dsimp only at hSw); go_simp; (try with_reducible rfl)
      try simp only [Act.put, List.setIfInBounds_toArray, List.set_cons_zero, List.set_cons_succ]
      refine' takeL (i := 13) (v := .int .u32 v) rfl (by kernel_rfl) (by kernel_rfl) (by kernel_rfl) (fun _ _ _ h => h) (Or.inl ⟨by rfl, ?yy42⟩) (by assumption) ?rr42
      case yy42 => intro w hSw; (try dsimp only at hSw); have hq := hSw.1.co hm16; rw [HV.out] at hq; go_simp; (try with_reducible rfl)
      try simp only [Act.put, List.setIfInBounds_toArray, List.set_cons_zero, List.set_cons_succ]
      refine wpAnyH_ready (rs := [14]) (by kernel_rfl) (by simp) ?_
      refine consL rfl (fun K hK => ?_) AllReadyH.nil
      go_simp
      go_at_call 67
      refine (full_c v _ v0 v1).mono ?_
      rintro e w5 ⟨rfl, hw5⟩
      have Y5 := Lib.hid (show Byt w5 (some ⟨w3.drew.heap.size, 0, none⟩) 4 (fb v) from by rw [hw5]; exact byt_new _ (fb v) (fb_in v0 v1) _ rfl 4 rfl _)
      have O5 := Lib.hid (show Own w5 W0.heap.size u3 (4 * k) (stB os n k) from by rw [hw5]; exact (O3.out.drewN 1).alloc _)
      have BX := Lib.hid (show ((fun w' => Mc w' g is os rs ps (.pointer (some ⟨F.g, 0, none⟩)) ov ∧ Below W0.heap.size W0 w')) w5 from by rw [hw5]; exact ⟨hHeld.1.alloc _, hHeld.2.alloc hHeld.2.size _⟩)
      clear hw5 hHeld
      go_wp2_with fail
      refine hK.out _ _ ?_ (fun hHeld => ?_)
      · (try dsimp only); exact BX.out
      clear hK K
      try simp only [Act.put, List.setIfInBounds_toArray, List.set_cons_zero, List.set_cons_succ]
      refine wpAnyH_ready (rs := [15]) (by kernel_rfl) (by simp) ?_
      refine consL rfl (fun K hK => ?_) AllReadyH.nil
      rw [if_pos (by kernel_rfl)]
      refine wp_append_b (.tmp 77) (.tmp 91) rfl W0.heap.size u3 (4 * k) (stB os n k) rfl O5.out w3.drew.heap.size 0 4 4 (fb v) rfl Y5.out (by omega) hHeld.2.size (fun v' w6 ho6 hg6 => ?_)
      have O6 := Lib.hid ho6
      have B6 := Lib.hid (hHeld.2.grown hg6 hHeld.2.size (fun j hj => (O5.out.block j hj).1))
      have M6 := Lib.hid (hHeld.1.kept (hg6.block g hHeld.1.lt (fun hj => by have := (O5.out.block g hj.symm).1; have := M0.out.m.lt; omega)))
      clear ho6 hg6 hHeld
      refine hK.out _ _ ?_ (fun hHeld => ?_)
      · (try dsimp only); exact ⟨M6.out, B6.out⟩
      clear hK K
      try simp only [Act.put, List.setIfInBounds_toArray, List.set_cons_zero, List.set_cons_succ]
      refine' takeL (i := 16) (v := _) rfl (by kernel_rfl) (by kernel_rfl) (by kernel_rfl) (fun _ _ _ h => h) (Or.inl ⟨by rfl, ?yy43⟩) (by assumption) ?rr43
      case yy43 => intro w hSw; (try dsimp only at hSw); go_simp; (try with_reducible rfl)
      try simp only [Act.put, List.setIfInBounds_toArray, List.set_cons_zero, List.set_cons_succ]
      refine wpAnyH_done (by kernel_rfl) ?_ _
      go_wp2
      refine ⟨⟨k + 1, by omega, rfl, ?_, B6.out⟩, by simp [intOf]; omega⟩
      have h6 := O6.out
      rw [← HV.out, ← HQ.out] at h6
      exact h6
    · obtain rfl : k = C := by omega
      obtain ⟨gb, cb, hbv, -, -, -, -⟩ := HO.out.pos (by omega)
      subst hbv
      have hI : ¬ (k : Int) < (k : Int) := by omega
      by_cases ha : a % 4 = 0
      · have HC := Lib.hid HCC.out
        rw [if_pos ha] at HC
        clear HCC
        by_cases hc0 : c = 0
        · subst hc0
          go_wp2_with (first
            | (go_at_call 69; refine (CM.out _ MW.out.m).mono ?_; rintro e w3 ⟨rfl, d3, hw3⟩; have M3 := Lib.hid (show MS w3 g F is os rs ps ov bs ks from by rw [hw3]; exact MW.out.drewN d3); have B3 := Lib.hid (show Below W0.heap.size W0 w3 from by rw [hw3]; exact dBelow' HB.out d3); have O3 := Lib.hid (show Own w3 W0.heap.size (.slice (some ⟨gb, 0, none⟩) (4 * k) cb) (4 * k) (stB os n k) from by rw [hw3]; exact HO.out.drewN d3); clear hw3)
            | (go_at_call 66; refine (aligned_m g a 4 _ (SC.out _ M3.out) (.inr rfl) ha0 ha1 ha).mono ?_; rintro e w4 ⟨rfl, hc4⟩; have M4 := Lib.hid (M3.out.ch hc4); have B4 := Lib.hid (B3.out.trans (hc4.below B3.out.size (by simp))); have Y4 := Lib.hid (O3.out.byt.keep (hc4.below (Nat.le_refl _) (by simp))); clear hc4)
            | (go_at_call 65; refine (put_m g F is os rs ps ov bs ks a key _ _ _ (stB os n k) _ M4.out HK.out Y4.out (by omega) HC.out).mono ?_; rintro e w5 ⟨rfl, hM5, hC5⟩; have M5 := Lib.hid hM5; have C5 := Lib.hid (C0.out.trans ((Ch.of_below B4.out _).trans hC5)); clear hM5 hC5))
          first | go_end0 | refine bodyPost_ret (results_none rfl _ _ _) rfl ?_
          first | exact ⟨fun _ => ⟨rfl, M5.out⟩, fun h => absurd rfl h, C5.out⟩ | exact ⟨⟨rfl, M5.out⟩, C5.out⟩
        · go_wp2_with (first
            | (go_at_call 69; refine (CM.out _ MW.out.m).mono ?_; rintro e w3 ⟨rfl, d3, hw3⟩; have M3 := Lib.hid (show MS w3 g F is os rs ps ov bs ks from by rw [hw3]; exact MW.out.drewN d3); have B3 := Lib.hid (show Below W0.heap.size W0 w3 from by rw [hw3]; exact dBelow' HB.out d3); have O3 := Lib.hid (show Own w3 W0.heap.size (.slice (some ⟨gb, 0, none⟩) (4 * k) cb) (4 * k) (stB os n k) from by rw [hw3]; exact HO.out.drewN d3); clear hw3)
            | (go_at_call 66; refine (aligned_m g a 4 _ (SC.out _ M3.out) (.inr rfl) ha0 ha1 ha).mono ?_; rintro e w4 ⟨rfl, hc4⟩; have M4 := Lib.hid (M3.out.ch hc4); have B4 := Lib.hid (B3.out.trans (hc4.below B3.out.size (by simp))); have Y4 := Lib.hid (O3.out.byt.keep (hc4.below (Nat.le_refl _) (by simp))); clear hc4)
            | (go_at_call 65; refine (put_no g F is os rs ps ov bs ks a key _ _ _ (stB os n k) _ M4.out HK.out Y4.out (by omega) c HC.out hc0).mono ?_; rintro e w5 ⟨rfl, hM5, hC5⟩; have M5 := Lib.hid hM5; have C5 := Lib.hid (C0.out.trans ((Ch.of_below B4.out _).trans hC5)); clear hM5 hC5))
          first | exact ⟨rfl, fun h => absurd h hc0, fun _ => ⟨rfl, M5.out⟩, C5.out⟩ | exact ⟨rfl, ⟨rfl, M5.out⟩, C5.out⟩
      · have HC := Lib.hid HCC.out
        rw [if_neg ha] at HC
        clear HCC
        go_wp2_with (first
          | (go_at_call 69; refine (CM.out _ MW.out.m).mono ?_; rintro e w3 ⟨rfl, d3, hw3⟩; have M3 := Lib.hid (show MS w3 g F is os rs ps ov bs ks from by rw [hw3]; exact MW.out.drewN d3); have B3 := Lib.hid (show Below W0.heap.size W0 w3 from by rw [hw3]; exact dBelow' HB.out d3); have O3 := Lib.hid (show Own w3 W0.heap.size (.slice (some ⟨gb, 0, none⟩) (4 * k) cb) (4 * k) (stB os n k) from by rw [hw3]; exact HO.out.drewN d3); clear hw3)
          | (go_at_call 66; refine (aligned_no g a 4 _ (SC.out _ M3.out) (.inr rfl) ha0 ha1 ha).mono ?_; rintro e w4 ⟨rfl, hc4⟩; have M4 := Lib.hid (M3.out.ch hc4); have B4 := Lib.hid (B3.out.trans (hc4.below B3.out.size (by simp))); clear hc4))
        have h6 : c = 6 := HC.out.symm
        subst h6
        first | exact ⟨rfl, fun h => absurd h (by decide), fun _ => ⟨rfl, M4.out⟩, C0.out.trans (Ch.of_below B4.out _)⟩ | exact ⟨rfl, ⟨rfl, M4.out⟩, C0.out.trans (Ch.of_below B4.out _)⟩
set_option maxRecDepth 1000000 in
set_option maxHeartbeats 8000000 in
theorem move_lm_odd (g n m : Nat) (F : Foot) (is os rs : List Int) (ps : List Value) (ov : Bool) (bs ks : List Int) (key a : Int) (w : World) (h : MS w g F is os rs ps ov bs ks) (h0 : is.getD 0 0 = 152) (hn : is.getD 2 0 = (n : Int)) (hn16 : n < 16) (hk : is.getD 3 0 = (m : Int)) (hk16 : m < 16) (hkey : ps.getD 1 undef = .int .i64 key) (hsec : ∀ W, MS W g F is os rs ps ov bs ks → Calls Try.prog 44 #[.pointer (some ⟨g, 0, none⟩)] W fun e w' => e = .returned (.int .i64 a) ∧ Ch W w' []) (ha0 : 0 ≤ a) (ha1 : a ≤ 16777215) (ha : a % 4 ≠ 0) : Calls Try.prog 45 #[.pointer (some ⟨g, 0, none⟩)] w fun e w' => e = .panicked [{ v := .iface 65 (.int .i64 6), recovered := false }] ∧ MS w' g F is os rs ps ov bs ks ∧ Ch w w' [] := by
  have c0 := h.m.ci (c := 0) (by omega)
  rw [h0] at c0
  have c2 := h.m.ci (c := 2) (by omega)
  rw [hn] at c2
  have c4 := h.m.co hn16
  have i0 : (n : Int) < 16 := by omega
  have i1 : (0 : Int) ≤ (n : Int) := by omega
  have CM := Lib.hid (fun (W : World) (rs' : List Int) (h : Mc W g is os rs' ps (.pointer (some ⟨F.g, 0, none⟩)) ov) => count_m g n m is os rs' ps _ ov W h hn hn16 hk hk16)
  have HM := Lib.hid (h.drewN 1)
  have SC := Lib.hid hsec
  have HK := Lib.hid hkey
  have D0 := Lib.hid ((Ch.refl w ([] : List Nat)).drewN 1)
  clear h h0 hn hk hsec hkey
  go_enter Try.func45, Try.ntmps45
  go_upto_region 0 with fail
  go_region
  go_wp2_with (go_at_call 66; refine (aligned_no g a 4 _ (SC.out _ HM.out) (.inr rfl) ha0 ha1 ha).mono ?_; rintro e wa ⟨rfl, hca⟩; have Ma := Lib.hid (HM.out.ch hca); have Ca := Lib.hid (D0.out.trans hca); clear hca)
  exact ⟨rfl, rfl, Ma.out, Ca.out⟩
set_option maxRecDepth 1000000 in
set_option maxHeartbeats 8000000 in
theorem move_lm_no (g n m : Nat) (F : Foot) (is os rs : List Int) (ps : List Value) (ov : Bool) (bs ks : List Int) (key a : Int) (w : World) (h : MS w g F is os rs ps ov bs ks) (h0 : is.getD 0 0 = 152) (hn : is.getD 2 0 = (n : Int)) (hn16 : n < 16) (hk : is.getD 3 0 = (m : Int)) (hk16 : m < 16) (hkey : ps.getD 1 undef = .int .i64 key) (hsec : ∀ W, MS W g F is os rs ps ov bs ks → Calls Try.prog 44 #[.pointer (some ⟨g, 0, none⟩)] W fun e w' => e = .returned (.int .i64 a) ∧ Ch W w' []) (ha0 : 0 ≤ a) (ha1 : a ≤ 16777215) (ha : a % 4 = 0) (c : Int) (hc : sCode (alF key) bs.length ks a ((4 * ((m + 16 - n) % 16 + 1) : Nat) : Int) = c) (hc0 : c ≠ 0) : Calls Try.prog 45 #[.pointer (some ⟨g, 0, none⟩)] w fun e w' => e = .panicked [{ v := .iface 65 (.int .i64 c), recovered := false }] ∧ MS w' g F is os rs ps ov bs ks ∧ Ch w w' [] := by
  have c0 := h.m.ci (c := 0) (by omega)
  rw [h0] at c0
  have c2 := h.m.ci (c := 2) (by omega)
  rw [hn] at c2
  have c4 := h.m.co hn16
  have i0 : (n : Int) < 16 := by omega
  have i1 : (0 : Int) ≤ (n : Int) := by omega
  have CM := Lib.hid (fun (W : World) (rs' : List Int) (h : Mc W g is os rs' ps (.pointer (some ⟨F.g, 0, none⟩)) ov) => count_m g n m is os rs' ps _ ov W h hn hn16 hk hk16)
  have HM := Lib.hid (h.drewN 1)
  have SC := Lib.hid hsec
  have HK := Lib.hid hkey
  have D0 := Lib.hid ((Ch.refl w ([] : List Nat)).drewN 1)
  obtain ⟨C, hC⟩ : ∃ C, (m + 16 - n) % 16 + 1 = C := ⟨_, rfl⟩
  simp only [hC] at CM hc
  have HC := Lib.hid hc
  have HC0 := Lib.hid hc0
  have hC16 : C ≤ 16 := by omega
  have hm4 : IntKind.i64.wrap (4 * (C : Int)) = ((4 * C : Nat) : Int) := by rw [wrap_i64_id (by omega) (by omega)]; omega
  clear h h0 hn hk hsec hkey hc hc0 hC
  go_enter Try.func45, Try.ntmps45
  go_upto_region 0 with fail
  go_region
  go_wp2_with (first
    | (go_at_call 66; refine (aligned_m g a 4 _ (SC.out _ HM.out) (.inr rfl) ha0 ha1 ha).mono ?_; rintro e wa ⟨rfl, hca⟩; have Ma := Lib.hid (HM.out.ch hca); have Ca := Lib.hid (D0.out.trans hca); clear hca)
    | (go_at_call 69; refine (CM.out _ _ Ma.out.m).mono ?_; rintro e wb ⟨rfl, db, hwb⟩; have Mb := Lib.hid (show MS wb g F is os rs ps ov bs ks from by rw [hwb]; exact Ma.out.drewN db); have Cb := Lib.hid (show Ch w wb [] from by rw [hwb]; exact Ca.out.drewN db); clear hwb)
    | (go_at_call 68; refine (fetch_no g F is os rs ps ov bs ks a ((4 * C : Nat) : Int) key _ Mb.out HK.out c HC.out HC0.out).mono ?_; rintro e W1 ⟨rfl, hM, hCh⟩; have M1 := Lib.hid hM; have C1 := Lib.hid (Cb.out.trans hCh); clear hM hCh))
  exact ⟨rfl, rfl, M1.out, C1.out⟩
end Go.Proofs.Ythjdjbipfdigeaa

