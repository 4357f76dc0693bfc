/- Contracts and laws on the way to the statement, text 5 of 25. Conditions: as each states them. -/
import Derived.Test.YthjdjbipfdigeaaKn1
import Derived.Test.YthjdjbipfdigeaaKn2
import Derived.Test.YthjdjbipfdigeaaKn4
import Derived.Test.YthjdjbipfdigeaaProg
import Derived.Lib.Hide
import Derived.Outline
import Derived.Deep.QuietTactic
import Derived.BigQuiet
namespace Go.Proofs.Ythjdjbipfdigeaa
open Go.RowKit
set_option linter.unusedVariables false

/-- four results -/
theorem results4 {fn : Func} {t u v x : Tmp} (h : fn.results = #[.tmp t, .tmp u, .tmp v, .tmp x]) (tmps : Array Value) (P : Program) (w : World) :
    (results fn tmps).run P w = .ok (.tuple #[tmps.getD t undef, tmps.getD u undef, tmps.getD v undef, tmps.getD x undef]) w := by simp [results, h]

set_option maxHeartbeats 400000 in
theorem shiftl_c (a n : Int) (l : Bool) (ha : 0 ≤ a) (ha' : a ≤ 4294967295) (hn : -9223372036854775808 ≤ n) (hn' : n ≤ 9223372036854775807) (w : World) :
    Calls Try.prog 56 #[.int .u32 a, .int .i64 n, .bool l] w fun e w' => e = .returned (.int .u32 (slg a (plc n) l)) ∧ w = w' := by
  have hp := plc_hi n
  have h1 := Lib.hid (slg_min a (plc n) ha ha')
  have h2 := Lib.hid (slg_minL a (plc n))
  cases l
  all_goals
    go_enter Try.func56, Try.ntmps56
    go_wp2_with (go_at_call 97; refine (places_c _ hn hn' _).mono ?_; rintro e w' ⟨rfl, rfl⟩)
    go_ret
    first | exact ⟨by rw [show slg a (plc n) true = lo32 (a * 2 ^ plc n) from rfl, ← h2.out]; rfl, rfl⟩ | exact ⟨by rw [show slg a (plc n) false = a / 2 ^ plc n from rfl, ← h1.out]; rfl, rfl⟩

set_option maxHeartbeats 400000 in
theorem shiftr_c (a n : Int) (ha : 0 ≤ a) (ha' : a ≤ 4294967295) (hn : -9223372036854775808 ≤ n) (hn' : n ≤ 9223372036854775807) (w : World) :
    Calls Try.prog 57 #[.int .u32 a, .int .i64 n] w fun e w' => e = .returned (.tuple #[.int .u32 (srv a (plc n)), .int .i64 (sgn (sg (srv a (plc n))))]) ∧ w = w' := by
  have ea := wrap32_sg a ha ha'
  have la := sg_lo a ha
  have ua := sg_hi a ha'
  have hp := plc_hi n
  have hm := sr_min a (plc n) ha ha'
  have hl : sg a / 2 ^ plc n % 4294967296 = srv a (plc n) := rfl
  have r0 := srv_lo a (plc n)
  have r1 := srv_hi a (plc n)
  go_enter Try.func57, Try.ntmps57
  go_wp2_with (first | (go_at_call 97; refine (places_c _ hn hn' _).mono ?_; rintro e w' ⟨rfl, rfl⟩) | (go_at_call 98; refine (test_c _ r0 r1 _).mono ?_; rintro e w' ⟨rfl, rfl⟩))
  go_ret2
  exact ⟨rfl, rfl⟩

set_option maxHeartbeats 400000 in
theorem shiftrd_c (a b n : Int) (ha : 0 ≤ a) (ha' : a ≤ 4294967295) (hb : 0 ≤ b) (hb' : b ≤ 4294967295) (hn : -9223372036854775808 ≤ n) (hn' : n ≤ 9223372036854775807) (w : World) :
    Calls Try.prog 62 #[.int .u32 a, .int .u32 b, .int .i64 n] w fun e w' => e = .returned (.tuple #[.int .u32 (lo32 (drv (dbl a b) (plc n) / 4294967296)), .int .u32 (lo32 (drv (dbl a b) (plc n))), .int .i64 (sgn (sg64 (drv (dbl a b) (plc n))))]) ∧ w = w' := by
  have x0 := dbl_lo a b ha hb
  have x1 := dbl_hi a b ha' hb'
  have ex := wrap64_sg (dbl a b) x0 x1
  have y0 := sg64_lo (dbl a b) x0
  have y1 := sg64_hi (dbl a b) x1
  have hp := plc_hi n
  have hs := Lib.hid (sgn_drv (dbl a b) (plc n) x0 x1)
  have d0 := (dr_box (dbl a b) (plc n) x0 x1).1
  have d1 := (dr_box (dbl a b) (plc n) x0 x1).2
  go_enter Try.func62, Try.ntmps62
  go_wp2_with (first | (go_at_call 99; refine (double_c _ _ ha ha' hb hb' _).mono ?_; rintro e w' ⟨rfl, rfl⟩) | (go_at_call 97; refine (places_c _ hn hn' _).mono ?_; rintro e w' ⟨rfl, rfl⟩) | (go_at_call 96; refine (sign_c _ _).mono ?_; rintro e w' ⟨rfl, rfl⟩))
  go_ret3
  exact ⟨by rw [hs.out, drv, hi_mod, lo_mod]; rfl, rfl⟩

set_option maxHeartbeats 400000 in
theorem shiftld_c (a b n : Int) (l : Bool) (ha : 0 ≤ a) (ha' : a ≤ 4294967295) (hb : 0 ≤ b) (hb' : b ≤ 4294967295) (hn : -9223372036854775808 ≤ n) (hn' : n ≤ 9223372036854775807) (w : World) :
    Calls Try.prog 61 #[.int .u32 a, .int .u32 b, .int .i64 n, .bool l] w fun e w' => e = .returned (.tuple #[.int .u32 (lo32 (dlg (dbl a b) (plc n) l / 4294967296)), .int .u32 (lo32 (dlg (dbl a b) (plc n) l))]) ∧ w = w' := by
  have x0 := dbl_lo a b ha hb
  have x1 := dbl_hi a b ha' hb'
  have ex := wrap64_sg (dbl a b) x0 x1
  have y0 := sg64_lo (dbl a b) x0
  have y1 := sg64_hi (dbl a b) x1
  have hp := plc_hi n
  cases l
  all_goals
    go_enter Try.func61, Try.ntmps61
    go_wp2_with (first | (go_at_call 99; refine (double_c _ _ ha ha' hb hb' _).mono ?_; rintro e w' ⟨rfl, rfl⟩) | (go_at_call 97; refine (places_c _ hn hn' _).mono ?_; rintro e w' ⟨rfl, rfl⟩))
    go_ret2
    exact ⟨rfl, rfl⟩

set_option maxHeartbeats 800000 in
theorem shiftlad_c (a b n : Int) (ha : 0 ≤ a) (ha' : a ≤ 4294967295) (hb : 0 ≤ b) (hb' : b ≤ 4294967295) (hn : -9223372036854775808 ≤ n) (hn' : n ≤ 9223372036854775807) (w : World) :
    Calls Try.prog 63 #[.int .u32 a, .int .u32 b, .int .i64 n] w fun e w' => e = .returned (.tuple #[.int .u32 (lo32 (dlv (dbl a b) (plc n) / 4294967296)), .int .u32 (lo32 (dlv (dbl a b) (plc n))), .int .i64 (dlc (dbl a b) (plc n)), .bool (dlo (dbl a b) (plc n))]) ∧ w = w' := by
  have x0 := dbl_lo a b ha hb
  have x1 := dbl_hi a b ha' hb'
  have ex := wrap64_sg (dbl a b) x0 x1
  have y0 := sg64_lo (dbl a b) x0
  have y1 := sg64_hi (dbl a b) x1
  have hp := plc_hi n
  have em : IntKind.u64.wrap (sg64 (dbl a b)) = dbl a b := by rw [IntKind.wrap_u64]; exact sg64_mod (dbl a b) x0 x1
  have e1 := and_sign64 (dbl a b) x0 x1
  have e2 : bits .andNot .u64 (IntKind.u64.wrap (dbl a b * 2 ^ plc n)) 9223372036854775808 = sg64 (dbl a b) * 2 ^ plc n % 9223372036854775808 := by rw [IntKind.wrap_u64, andNot_sign64 _ (by omega) (by omega)]; exact dlv_low _ _
  have e3 : bits .or .u64 (if dbl a b < 9223372036854775808 then 0 else 9223372036854775808) (sg64 (dbl a b) * 2 ^ plc n % 9223372036854775808) = dlv (dbl a b) (plc n) := by rw [or_sign64 _ _ (by split <;> simp) (by omega) (by omega)]; rfl
  rw [← e1] at e3
  have et := dlo_test (dbl a b) (plc n) hp x0 x1
  have v0 := dlv_lo (dbl a b) (plc n)
  have v1 := dlv_hi (dbl a b) (plc n)
  have ev := wrap64_sg _ v0 v1
  have hh := Lib.hid (lo32_id (dlv (dbl a b) (plc n) / 4294967296) (by omega) (by omega))
  clear e1
  cases hq : dlo (dbl a b) (plc n)
  all_goals
    rw [hq] at et
    have hq' := Lib.hid hq
    clear hq
    go_enter Try.func63, Try.ntmps63
    go_wp2_with (first | (go_at_call 99; refine (double_c _ _ ha ha' hb hb' _).mono ?_; rintro e w' ⟨rfl, rfl⟩) | (go_at_call 97; refine (places_c _ hn hn' _).mono ?_; rintro e w' ⟨rfl, rfl⟩) | (go_at_call 96; refine (sign_c _ _).mono ?_; rintro e w' ⟨rfl, rfl⟩))
    refine bodyPost_ret (results4 rfl _ _ _) rfl ?_
    exact ⟨by simp [dlc, hq'.out, hh.out]; rfl, rfl⟩

set_option maxHeartbeats 800000 in
theorem shiftla_c (a n : Int) (ha : 0 ≤ a) (ha' : a ≤ 4294967295) (hn : -9223372036854775808 ≤ n) (hn' : n ≤ 9223372036854775807) (w : World) :
    Calls Try.prog 59 #[.int .u32 a, .int .i64 n] w fun e w' => e = .returned (.tuple #[.int .u32 (slv a (plc n)), .int .i64 (slc a (plc n)), .bool (slo a (plc n))]) ∧ w = w' := by
  have ea := wrap32_sg a ha ha'
  have la := sg_lo a ha
  have ua := sg_hi a ha'
  have hp := plc_hi n
  have r0 := slv_lo a (plc n)
  have r1 := slv_hi a (plc n)
  have e1 := and_sign a ha ha'
  by_cases h32 : 32 ≤ plc n
  · have ev := slv_ge32 a (plc n) h32
    rw [← ev] at e1
    have eo := slo_ge32 a (plc n) h32 ha ha'
    have hv := Lib.hid ev
    clear ev
    cases hq : slo a (plc n)
    all_goals
      rw [hq] at eo
      have eo' := eo.symm
      have hq' := Lib.hid hq
      clear hq eo
      go_enter Try.func59, Try.ntmps59
      go_wp2_with (first | (go_at_call 97; refine (places_c _ hn hn' _).mono ?_; rintro e w' ⟨rfl, rfl⟩) | (go_at_call 98; refine (test_c _ r0 r1 _).mono ?_; rintro e w' ⟨rfl, rfl⟩))
      go_ret3
      exact ⟨by simp [slc, hq'.out]; try rfl, rfl⟩
  · have hx := exact_box a (plc n) (by omega) ha ha'
    have b0 := hx.1
    have b1 := hx.2
    clear hx
    have e2 : bits .andNot .u32 (sg a * 2 ^ plc n % 4294967296) 2147483648 = sg a * 2 ^ plc n % 2147483648 := by rw [andNot_sign _ (by omega) (by omega)]; omega
    have e3 : bits .or .u32 (bits .and .u32 a 2147483648) (sg a * 2 ^ plc n % 2147483648) = slv a (plc n) := by rw [e1, or_sign _ _ (by split <;> simp) (by omega) (by omega)]; rfl
    clear e1
    have hh := exact_high (sg a * 2 ^ plc n)
    cases hq : slo a (plc n)
    · have hq' := Lib.hid hq
      have hn : ¬ (ovf (sg a * 2 ^ plc n) = true) := by rw [show ovf (sg a * 2 ^ plc n) = slo a (plc n) from rfl, hq]; simp
      rw [hh] at hn
      clear hq hh
      by_cases h0 : sg a * 2 ^ plc n / 2147483648 = 0
      · have t0 : (sg a * 2 ^ plc n / 2147483648 != 0) = false := by simp [h0]
        clear h0 hn
        go_enter Try.func59, Try.ntmps59
        go_wp2_with (first | (go_at_call 97; refine (places_c _ hn hn' _).mono ?_; rintro e w' ⟨rfl, rfl⟩) | (go_at_call 98; refine (test_c _ r0 r1 _).mono ?_; rintro e w' ⟨rfl, rfl⟩))
        go_ret3
        exact ⟨by simp [slc, hq'.out]; try rfl, rfl⟩
      · have h1 : sg a * 2 ^ plc n / 2147483648 = -1 := by omega
        have t0 : (sg a * 2 ^ plc n / 2147483648 != 0) = true := by simp [h0]
        have t1 : (sg a * 2 ^ plc n / 2147483648 != -1) = false := by simp [h1]
        clear h0 h1 hn
        go_enter Try.func59, Try.ntmps59
        go_wp2_with (first | (go_at_call 97; refine (places_c _ hn hn' _).mono ?_; rintro e w' ⟨rfl, rfl⟩) | (go_at_call 98; refine (test_c _ r0 r1 _).mono ?_; rintro e w' ⟨rfl, rfl⟩))
        go_ret3
        exact ⟨by simp [slc, hq'.out]; try rfl, rfl⟩
    · have hq' := Lib.hid hq
      have hn : ovf (sg a * 2 ^ plc n) = true := hq
      rw [hh] at hn
      have t0 : (sg a * 2 ^ plc n / 2147483648 != 0) = true := by simp [hn.1]
      have t1 : (sg a * 2 ^ plc n / 2147483648 != -1) = true := by simp [hn.2]
      clear hq hh hn
      go_enter Try.func59, Try.ntmps59
      go_wp2_with (first | (go_at_call 97; refine (places_c _ hn hn' _).mono ?_; rintro e w' ⟨rfl, rfl⟩) | (go_at_call 98; refine (test_c _ r0 r1 _).mono ?_; rintro e w' ⟨rfl, rfl⟩))
      go_ret3
      exact ⟨by simp [slc, hq'.out]; try rfl, rfl⟩

end Go.Proofs.Ythjdjbipfdigeaa

namespace Go.Proofs.Ythjdjbipfdigeaa
open Go.RowKit
set_option linter.unusedVariables false

set_option maxHeartbeats 400000 in
theorem fits_c (A : Option Addr) (len cap : Nat) (at_ n : Int) (w : World) (hl : (len : Int) ≤ 9223372036854775807) (ha : -9223372036854775808 ≤ at_) (ha' : at_ ≤ 9223372036854775807) (hn : 0 ≤ n) (hn' : n ≤ 100) :
    Calls Try.prog 101 #[.slice A len cap, .int .i64 at_, .int .i64 n] w fun e w' => e = .returned (.bool (fitB len at_ n)) ∧ w = w' := by
  by_cases h0 : 0 ≤ at_
  · have hs := Lib.hid (show fitB len at_ n = decide (at_ ≤ (len : Int) - n) from by unfold fitB; simp [h0])
    go_enter Try.func101, Try.ntmps101
    go_wp2
    go_ret
    exact ⟨by rw [hs.out]; rfl, rfl⟩
  · have hs := Lib.hid (show fitB len at_ n = false from by unfold fitB; simp [h0])
    have hd : decide (0 ≤ at_) = false := by simp [h0]
    have h0' : at_ < 0 := by omega
    go_enter Try.func101, Try.ntmps101
    go_wp2
    go_ret
    exact ⟨by rw [hs.out]; rfl, rfl⟩

set_option maxHeartbeats 400000 in
theorem half_yes (b off len cap k : Nat) (x y : Int) (w : World) (hl : (len : Int) ≤ 9223372036854775807) (hk : (k : Int) + 2 ≤ (len : Int))
    (hc0 : w.cell? ⟨b, off + k, none⟩ = some (.int .u8 x)) (hc1 : w.cell? ⟨b, off + (k + 1), none⟩ = some (.int .u8 y)) (hx : 0 ≤ x) (hx' : x ≤ 255) (hy : 0 ≤ y) (hy' : y ≤ 255) :
    Calls Try.prog 103 #[.slice (some ⟨b, off, none⟩) len cap, .int .i64 k] w fun e w' => e = .returned (.tuple #[.int .u32 (hfv x y), .bool true]) ∧ ∃ n, w' = w.drewN n := by
  have hf : fitB len k 2 = true := by unfold fitB; simp; omega
  have eo := or_half x y hx hx' hy hy'
  have s0 := sx16_lo (x * 256 + y) (by omega)
  have s1 := sx16_hi (x * 256 + y) (by omega)
  have k1 : (k : Int) < (len : Int) := by omega
  have k2 : (k : Int) + 1 < (len : Int) := by omega
  have hl' := lo32_is (sx16 (x * 256 + y))
  go_enter Try.func103, Try.ntmps103
  go_wp2_with (go_at_call 101; refine (fits_c _ _ _ _ _ _ hl (by omega) (by omega) (by omega) (by omega)).mono ?_; rintro e w' ⟨rfl, rfl⟩)
  go_quiet (fail)
  go_wp2
  go_ret2
  exact ⟨rfl, _, rfl⟩

end Go.Proofs.Ythjdjbipfdigeaa

namespace Go.Proofs.Ythjdjbipfdigeaa
open Go.RowKit
set_option linter.unusedVariables false

theorem or4 (x y z u : Int) (hx : 0 ≤ x) (hx' : x ≤ 255) (hy : 0 ≤ y) (hy' : y ≤ 255) (hz : 0 ≤ z) (hz' : z ≤ 255) (hu : 0 ≤ u) (hu' : u ≤ 255) :
    bits .or .u32 (x * 16777216) (y * 65536) = x * 16777216 + y * 65536 ∧ bits .or .u32 (x * 16777216 + y * 65536) (z * 256) = x * 16777216 + y * 65536 + z * 256 ∧ bits .or .u32 (x * 16777216 + y * 65536 + z * 256) u = flv x y z u := by
  refine ⟨or_32 24 _ _ 16777216 (by decide) (by omega) (by omega) (by omega) (by omega) (by omega) (by omega), or_32 16 _ _ 65536 (by decide) (by omega) (by omega) (by omega) (by omega) (by omega) (by omega), ?_⟩
  rw [or_32 8 _ _ 256 (by decide) (by omega) (by omega) (by omega) (by omega) (by omega) (by omega)]; rfl

set_option maxHeartbeats 400000 in
theorem full_yes (b off len cap k : Nat) (x y z u : Int) (w : World) (hl : (len : Int) ≤ 9223372036854775807) (hk : (k : Int) + 4 ≤ (len : Int))
    (hc0 : w.cell? ⟨b, off + k, none⟩ = some (.int .u8 x)) (hc1 : w.cell? ⟨b, off + (k + 1), none⟩ = some (.int .u8 y)) (hc2 : w.cell? ⟨b, off + (k + 2), none⟩ = some (.int .u8 z)) (hc3 : w.cell? ⟨b, off + (k + 3), none⟩ = some (.int .u8 u))
    (hx : 0 ≤ x) (hx' : x ≤ 255) (hy : 0 ≤ y) (hy' : y ≤ 255) (hz : 0 ≤ z) (hz' : z ≤ 255) (hu : 0 ≤ u) (hu' : u ≤ 255) :
    Calls Try.prog 70 #[.slice (some ⟨b, off, none⟩) len cap, .int .i64 k] w fun e w' => e = .returned (.tuple #[.int .u32 (flv x y z u), .bool true]) ∧ ∃ n, w' = w.drewN n := by
  have hf : fitB len k 4 = true := by unfold fitB; simp; omega
  have ho := or4 x y z u hx hx' hy hy' hz hz' hu hu'
  have o1 := ho.1
  have o2 := ho.2.1
  have o3 := ho.2.2
  clear ho
  have k1 : (k : Int) < (len : Int) := by omega
  have k2 : (k : Int) + 1 < (len : Int) := by omega
  have k3 : (k : Int) + 2 < (len : Int) := by omega
  have k4 : (k : Int) + 3 < (len : Int) := by omega
  go_enter Try.func70, Try.ntmps70
  go_wp2_with (go_at_call 101; refine (fits_c _ _ _ _ _ _ hl (by omega) (by omega) (by omega) (by omega)).mono ?_; rintro e w' ⟨rfl, rfl⟩)
  go_quiet (fail)
  go_wp2
  go_ret2
  exact ⟨rfl, _, rfl⟩

end Go.Proofs.Ythjdjbipfdigeaa

namespace Go.Proofs.Ythjdjbipfdigeaa
open Go.RowKit
set_option maxRecDepth 100000
set_option linter.unusedVariables false
set_option linter.unusedSimpArgs false
/-- the code that fetching an operand throws, or 0 -/
def opC (op fm : Int) (bs ks : List Int) (key a : Int) : Int := if fm = 1 then 0 else if 72 ≤ op ∧ op ≤ 76 then (if a % 2 = 0 then sCode (alF key) bs.length ks a 2 else 6) else (if a % 4 = 0 then sCode (alF key) bs.length ks a 4 else 6)
def g2V (bs : List Int) (a : Int) : Int := hfv ((sGet bs a 2).getD 0 0) ((sGet bs a 2).getD 1 0)
def g4V (bs : List Int) (a : Int) : Int := flv ((sGet bs a 4).getD 0 0) ((sGet bs a 4).getD 1 0) ((sGet bs a 4).getD 2 0) ((sGet bs a 4).getD 3 0)
/-- the operand -/
def opV (op fm : Int) (os : List Int) (k : Nat) (bs : List Int) (a : Int) : Int := if fm = 1 then os.getD k 0 else if 72 ≤ op ∧ op ≤ 76 then g2V bs a else g4V bs a
theorem sGet_leng {al : Int → Bool} {bs ks : List Int} {a n : Int} (h : sCode al bs.length ks a n = 0) : ((sGet bs a n).length : Int) = n := by
  have h0 := sCode_zero h
  obtain ⟨h1, h2, h3, h4⟩ := sIn_yes h0
  unfold sGet; rw [if_pos h0]; simp; omega
set_option maxRecDepth 1000000 in
set_option maxHeartbeats 8000000 in
theorem operand_half (g : Nat) (F : Foot) (is os rs : List Int) (ps : List Value) (ov : Bool) (bs ks : List Int) (op fm key a : Int) (w : World) (h : MS w g F is os rs ps ov bs ks) (h0 : is.getD 0 0 = op) (h1 : is.getD 1 0 = fm) (hf : fm ≠ 1) (hkey : ps.getD 1 undef = .int .i64 key) (hsec : ∀ W, MS W g F is os rs ps ov bs ks → Calls Try.prog 44 #[.pointer (some ⟨g, 0, none⟩)] W fun e w' => e = .returned (.int .i64 a) ∧ Ch W w' []) (ha0 : 0 ≤ a) (ha1 : a ≤ 16777215) (ha : a % 2 = 0) (hop : 72 ≤ op ∧ op ≤ 76) (hc : sCode (alF key) bs.length ks a 2 = 0) : Calls Try.prog 85 #[.pointer (some ⟨g, 0, none⟩)] w fun e w' => e = .returned (.int .u32 (g2V bs a)) ∧ MS w' g F is os rs ps ov bs ks ∧ Ch w w' [] := by
  have e2 : op ≥ 72 := by omega
  have e3 : op ≤ 76 := by omega
  have c0 := h.m.ci (c := 0) (by omega)
  rw [h0] at c0
  have c1 := h.m.ci (c := 1) (by omega)
  rw [h1] at c1
  have e1 : (fm == 1) = false := by simpa using hf
  have HM := Lib.hid h
  have SC := Lib.hid hsec
  have HK := Lib.hid hkey
  have D0 := Lib.hid (Ch.refl w ([] : List Nat))
  clear h h0 h1 hkey hsec hf
  have hl := sGet_leng hc
  unfold g2V
  obtain ⟨zs, hzs⟩ : ∃ zs, sGet bs a 2 = zs := ⟨_, rfl⟩
  rw [hzs] at hl ⊢
  have HZ := Lib.hid hzs
  have HC := Lib.hid hc
  clear hc hzs hop
  go_enter Try.func85, Try.ntmps85
  go_wp2_with (first
    | (go_at_call 66; refine (aligned_m g a 2 _ (SC.out _ HM.out) (.inl rfl) ha0 ha1 ha).mono ?_; rintro e wa ⟨rfl, hca⟩; have Ma := Lib.hid (HM.out.ch hca); have Ca := Lib.hid (D0.out.trans hca); clear hca)
    | (go_at_call 68; refine (fetch_m g F is os rs ps ov bs ks a 2 key _ Ma.out HK.out HC.out).mono ?_; rintro e W1 ⟨A, mm, cb, rfl, hO, hM, hCh⟩; rw [HZ.out] at hO; have M1 := Lib.hid hM; have C1 := Lib.hid (Ca.out.trans hCh); have hml : mm = 2 := by have := hO.byt.1; omega
       subst hml; obtain ⟨gb, cb', hv, hgb, hgl, -, -⟩ := hO.pos (by omega); injection hv with hv1 hv2 hv3; subst hv1 hv3; have Y1 := Lib.hid hO.byt; clear hO hM hCh hgb hgl; obtain ⟨gb', ob', e', hcell⟩ := Y1.out.at_ (by omega); cases e'
       have y0 := hcell 0 (by omega); have r0 := Y1.out.range 0
       have y1 := hcell 1 (by omega); have r1 := Y1.out.range 1
       obtain ⟨x0, hx0⟩ : ∃ x, zs.getD 0 0 = x := ⟨_, rfl⟩; rw [hx0] at y0 r0
       obtain ⟨x1, hx1⟩ : ∃ x, zs.getD 1 0 = x := ⟨_, rfl⟩; rw [hx1] at y1 r1
       have HV := Lib.hid (show hfv (zs.getD 0 0) (zs.getD 1 0) = hfv x0 x1 from by rw [hx0, hx1]); clear hcell Y1 hx0 hx1)
    | (go_at_call 103; refine (half_yes gb 0 2 cb 0 x0 x1 _ (by omega) (by omega) (y0) (y1) r0.1 r0.2 r1.1 r1.2).mono ?_; rintro e w5 ⟨rfl, d5, hw5⟩; have M5 := Lib.hid (show MS w5 g F is os rs ps ov bs ks from by rw [hw5]; exact M1.out.drewN d5); have C5 := Lib.hid (show Ch w w5 [] from by rw [hw5]; exact C1.out.drewN d5); clear hw5))
  go_ret
  rw [HV.out]
  exact ⟨rfl, M5.out, C5.out⟩
set_option maxRecDepth 1000000 in
set_option maxHeartbeats 8000000 in
theorem operand_half_odd (g : Nat) (F : Foot) (is os rs : List Int) (ps : List Value) (ov : Bool) (bs ks : List Int) (op fm key a : Int) (w : World) (h : MS w g F is os rs ps ov bs ks) (h0 : is.getD 0 0 = op) (h1 : is.getD 1 0 = fm) (hf : fm ≠ 1) (hkey : ps.getD 1 undef = .int .i64 key) (hsec : ∀ W, MS W g F is os rs ps ov bs ks → Calls Try.prog 44 #[.pointer (some ⟨g, 0, none⟩)] W fun e w' => e = .returned (.int .i64 a) ∧ Ch W w' []) (ha0 : 0 ≤ a) (ha1 : a ≤ 16777215) (ha : a % 2 ≠ 0) (hop : 72 ≤ op ∧ op ≤ 76) : Calls Try.prog 85 #[.pointer (some ⟨g, 0, none⟩)] w fun e w' => e = .panicked [{ v := .iface 65 (.int .i64 6), recovered := false }] ∧ MS w' g F is os rs ps ov bs ks ∧ Ch w w' [] := by
  have e2 : op ≥ 72 := by omega
  have e3 : op ≤ 76 := by omega
  have c0 := h.m.ci (c := 0) (by omega)
  rw [h0] at c0
  have c1 := h.m.ci (c := 1) (by omega)
  rw [h1] at c1
  have e1 : (fm == 1) = false := by simpa using hf
  have HM := Lib.hid h
  have SC := Lib.hid hsec
  have HK := Lib.hid hkey
  have D0 := Lib.hid (Ch.refl w ([] : List Nat))
  clear h h0 h1 hkey hsec hf
  clear hop
  go_enter Try.func85, Try.ntmps85
  go_wp2_with (go_at_call 66; refine (aligned_no g a 2 _ (SC.out _ HM.out) (.inl rfl) ha0 ha1 ha).mono ?_; rintro e wa ⟨rfl, hca⟩; have Ma := Lib.hid (HM.out.ch hca); have Ca := Lib.hid (D0.out.trans hca); clear hca)
  exact ⟨rfl, rfl, Ma.out, Ca.out⟩
set_option maxRecDepth 1000000 in
set_option maxHeartbeats 8000000 in
theorem operand_half_no (g : Nat) (F : Foot) (is os rs : List Int) (ps : List Value) (ov : Bool) (bs ks : List Int) (op fm key a : Int) (w : World) (h : MS w g F is os rs ps ov bs ks) (h0 : is.getD 0 0 = op) (h1 : is.getD 1 0 = fm) (hf : fm ≠ 1) (hkey : ps.getD 1 undef = .int .i64 key) (hsec : ∀ W, MS W g F is os rs ps ov bs ks → Calls Try.prog 44 #[.pointer (some ⟨g, 0, none⟩)] W fun e w' => e = .returned (.int .i64 a) ∧ Ch W w' []) (ha0 : 0 ≤ a) (ha1 : a ≤ 16777215) (ha : a % 2 = 0) (hop : 72 ≤ op ∧ op ≤ 76) (c : Int) (hc : sCode (alF key) bs.length ks a 2 = c) (hc0 : c ≠ 0) : Calls Try.prog 85 #[.pointer (some ⟨g, 0, none⟩)] w fun e w' => e = .panicked [{ v := .iface 65 (.int .i64 c), recovered := false }] ∧ MS w' g F is os rs ps ov bs ks ∧ Ch w w' [] := by
  have e2 : op ≥ 72 := by omega
  have e3 : op ≤ 76 := by omega
  have c0 := h.m.ci (c := 0) (by omega)
  rw [h0] at c0
  have c1 := h.m.ci (c := 1) (by omega)
  rw [h1] at c1
  have e1 : (fm == 1) = false := by simpa using hf
  have HM := Lib.hid h
  have SC := Lib.hid hsec
  have HK := Lib.hid hkey
  have D0 := Lib.hid (Ch.refl w ([] : List Nat))
  clear h h0 h1 hkey hsec hf
  have HC := Lib.hid hc
  have HC0 := Lib.hid hc0
  clear hop hc hc0
  go_enter Try.func85, Try.ntmps85
  go_wp2_with (first
    | (go_at_call 66; refine (aligned_m g a 2 _ (SC.out _ HM.out) (.inl rfl) ha0 ha1 ha).mono ?_; rintro e wa ⟨rfl, hca⟩; have Ma := Lib.hid (HM.out.ch hca); have Ca := Lib.hid (D0.out.trans hca); clear hca)
    | (go_at_call 68; refine (fetch_no g F is os rs ps ov bs ks a 2 key _ Ma.out HK.out c HC.out HC0.out).mono ?_; rintro e W1 ⟨rfl, hM, hCh⟩; have M1 := Lib.hid hM; have C1 := Lib.hid (Ca.out.trans hCh); clear hM hCh))
  exact ⟨rfl, rfl, M1.out, C1.out⟩
set_option maxRecDepth 1000000 in
set_option maxHeartbeats 8000000 in
theorem operand_fulllo (g : Nat) (F : Foot) (is os rs : List Int) (ps : List Value) (ov : Bool) (bs ks : List Int) (op fm key a : Int) (w : World) (h : MS w g F is os rs ps ov bs ks) (h0 : is.getD 0 0 = op) (h1 : is.getD 1 0 = fm) (hf : fm ≠ 1) (hkey : ps.getD 1 undef = .int .i64 key) (hsec : ∀ W, MS W g F is os rs ps ov bs ks → Calls Try.prog 44 #[.pointer (some ⟨g, 0, none⟩)] W fun e w' => e = .returned (.int .i64 a) ∧ Ch W w' []) (ha0 : 0 ≤ a) (ha1 : a ≤ 16777215) (ha : a % 4 = 0) (hop : op < 72) (hc : sCode (alF key) bs.length ks a 4 = 0) : Calls Try.prog 85 #[.pointer (some ⟨g, 0, none⟩)] w fun e w' => e = .returned (.int .u32 (g4V bs a)) ∧ MS w' g F is os rs ps ov bs ks ∧ Ch w w' [] := by
  have e2 : ¬ op ≥ 72 := by omega
  have c0 := h.m.ci (c := 0) (by omega)
  rw [h0] at c0
  have c1 := h.m.ci (c := 1) (by omega)
  rw [h1] at c1
  have e1 : (fm == 1) = false := by simpa using hf
  have HM := Lib.hid h
  have SC := Lib.hid hsec
  have HK := Lib.hid hkey
  have D0 := Lib.hid (Ch.refl w ([] : List Nat))
  clear h h0 h1 hkey hsec hf
  have hl := sGet_leng hc
  unfold g4V
  obtain ⟨zs, hzs⟩ : ∃ zs, sGet bs a 4 = zs := ⟨_, rfl⟩
  rw [hzs] at hl ⊢
  have HZ := Lib.hid hzs
  have HC := Lib.hid hc
  clear hc hzs hop
  go_enter Try.func85, Try.ntmps85
  go_wp2_with (first
    | (go_at_call 66; refine (aligned_m g a 4 _ (SC.out _ HM.out) (.inr rfl) ha0 ha1 ha).mono ?_; rintro e wa ⟨rfl, hca⟩; have Ma := Lib.hid (HM.out.ch hca); have Ca := Lib.hid (D0.out.trans hca); clear hca)
    | (go_at_call 68; refine (fetch_m g F is os rs ps ov bs ks a 4 key _ Ma.out HK.out HC.out).mono ?_; rintro e W1 ⟨A, mm, cb, rfl, hO, hM, hCh⟩; rw [HZ.out] at hO; have M1 := Lib.hid hM; have C1 := Lib.hid (Ca.out.trans hCh); have hml : mm = 4 := by have := hO.byt.1; omega
       subst hml; obtain ⟨gb, cb', hv, hgb, hgl, -, -⟩ := hO.pos (by omega); injection hv with hv1 hv2 hv3; subst hv1 hv3; have Y1 := Lib.hid hO.byt; clear hO hM hCh hgb hgl; obtain ⟨gb', ob', e', hcell⟩ := Y1.out.at_ (by omega); cases e'
       have y0 := hcell 0 (by omega); have r0 := Y1.out.range 0
       have y1 := hcell 1 (by omega); have r1 := Y1.out.range 1
       have y2 := hcell 2 (by omega); have r2 := Y1.out.range 2
       have y3 := hcell 3 (by omega); have r3 := Y1.out.range 3
       obtain ⟨x0, hx0⟩ : ∃ x, zs.getD 0 0 = x := ⟨_, rfl⟩; rw [hx0] at y0 r0
       obtain ⟨x1, hx1⟩ : ∃ x, zs.getD 1 0 = x := ⟨_, rfl⟩; rw [hx1] at y1 r1
       obtain ⟨x2, hx2⟩ : ∃ x, zs.getD 2 0 = x := ⟨_, rfl⟩; rw [hx2] at y2 r2
       obtain ⟨x3, hx3⟩ : ∃ x, zs.getD 3 0 = x := ⟨_, rfl⟩; rw [hx3] at y3 r3
       have HV := Lib.hid (show flv (zs.getD 0 0) (zs.getD 1 0) (zs.getD 2 0) (zs.getD 3 0) = flv x0 x1 x2 x3 from by rw [hx0, hx1, hx2, hx3]); clear hcell Y1 hx0 hx1 hx2 hx3)
    | (go_at_call 70; refine (full_yes gb 0 4 cb 0 x0 x1 x2 x3 _ (by omega) (by omega) (y0) (y1) (y2) (y3) r0.1 r0.2 r1.1 r1.2 r2.1 r2.2 r3.1 r3.2).mono ?_; rintro e w5 ⟨rfl, d5, hw5⟩; have M5 := Lib.hid (show MS w5 g F is os rs ps ov bs ks from by rw [hw5]; exact M1.out.drewN d5); have C5 := Lib.hid (show Ch w w5 [] from by rw [hw5]; exact C1.out.drewN d5); clear hw5))
  go_ret
  rw [HV.out]
  exact ⟨rfl, M5.out, C5.out⟩
set_option maxRecDepth 1000000 in
set_option maxHeartbeats 8000000 in
theorem operand_fulllo_odd (g : Nat) (F : Foot) (is os rs : List Int) (ps : List Value) (ov : Bool) (bs ks : List Int) (op fm key a : Int) (w : World) (h : MS w g F is os rs ps ov bs ks) (h0 : is.getD 0 0 = op) (h1 : is.getD 1 0 = fm) (hf : fm ≠ 1) (hkey : ps.getD 1 undef = .int .i64 key) (hsec : ∀ W, MS W g F is os rs ps ov bs ks → Calls Try.prog 44 #[.pointer (some ⟨g, 0, none⟩)] W fun e w' => e = .returned (.int .i64 a) ∧ Ch W w' []) (ha0 : 0 ≤ a) (ha1 : a ≤ 16777215) (ha : a % 4 ≠ 0) (hop : op < 72) : Calls Try.prog 85 #[.pointer (some ⟨g, 0, none⟩)] w fun e w' => e = .panicked [{ v := .iface 65 (.int .i64 6), recovered := false }] ∧ MS w' g F is os rs ps ov bs ks ∧ Ch w w' [] := by
  have e2 : ¬ op ≥ 72 := by omega
  have c0 := h.m.ci (c := 0) (by omega)
  rw [h0] at c0
  have c1 := h.m.ci (c := 1) (by omega)
  rw [h1] at c1
  have e1 : (fm == 1) = false := by simpa using hf
  have HM := Lib.hid h
  have SC := Lib.hid hsec
  have HK := Lib.hid hkey
  have D0 := Lib.hid (Ch.refl w ([] : List Nat))
  clear h h0 h1 hkey hsec hf
  clear hop
  go_enter Try.func85, Try.ntmps85
  go_wp2_with (go_at_call 66; refine (aligned_no g a 4 _ (SC.out _ HM.out) (.inr rfl) ha0 ha1 ha).mono ?_; rintro e wa ⟨rfl, hca⟩; have Ma := Lib.hid (HM.out.ch hca); have Ca := Lib.hid (D0.out.trans hca); clear hca)
  exact ⟨rfl, rfl, Ma.out, Ca.out⟩
set_option maxRecDepth 1000000 in
set_option maxHeartbeats 8000000 in
theorem operand_fulllo_no (g : Nat) (F : Foot) (is os rs : List Int) (ps : List Value) (ov : Bool) (bs ks : List Int) (op fm key a : Int) (w : World) (h : MS w g F is os rs ps ov bs ks) (h0 : is.getD 0 0 = op) (h1 : is.getD 1 0 = fm) (hf : fm ≠ 1) (hkey : ps.getD 1 undef = .int .i64 key) (hsec : ∀ W, MS W g F is os rs ps ov bs ks → Calls Try.prog 44 #[.pointer (some ⟨g, 0, none⟩)] W fun e w' => e = .returned (.int .i64 a) ∧ Ch W w' []) (ha0 : 0 ≤ a) (ha1 : a ≤ 16777215) (ha : a % 4 = 0) (hop : op < 72) (c : Int) (hc : sCode (alF key) bs.length ks a 4 = c) (hc0 : c ≠ 0) : Calls Try.prog 85 #[.pointer (some ⟨g, 0, none⟩)] w fun e w' => e = .panicked [{ v := .iface 65 (.int .i64 c), recovered := false }] ∧ MS w' g F is os rs ps ov bs ks ∧ Ch w w' [] := by
  have e2 : ¬ op ≥ 72 := by omega
  have c0 := h.m.ci (c := 0) (by omega)
  rw [h0] at c0
  have c1 := h.m.ci (c := 1) (by omega)
  rw [h1] at c1
  have e1 : (fm == 1) = false := by simpa using hf
  have HM := Lib.hid h
  have SC := Lib.hid hsec
  have HK := Lib.hid hkey
  have D0 := Lib.hid (Ch.refl w ([] : List Nat))
  clear h h0 h1 hkey hsec hf
  have HC := Lib.hid hc
  have HC0 := Lib.hid hc0
  clear hop hc hc0
  go_enter Try.func85, Try.ntmps85
  go_wp2_with (first
    | (go_at_call 66; refine (aligned_m g a 4 _ (SC.out _ HM.out) (.inr rfl) ha0 ha1 ha).mono ?_; rintro e wa ⟨rfl, hca⟩; have Ma := Lib.hid (HM.out.ch hca); have Ca := Lib.hid (D0.out.trans hca); clear hca)
    | (go_at_call 68; refine (fetch_no g F is os rs ps ov bs ks a 4 key _ Ma.out HK.out c HC.out HC0.out).mono ?_; rintro e W1 ⟨rfl, hM, hCh⟩; have M1 := Lib.hid hM; have C1 := Lib.hid (Ca.out.trans hCh); clear hM hCh))
  exact ⟨rfl, rfl, M1.out, C1.out⟩
set_option maxRecDepth 1000000 in
set_option maxHeartbeats 8000000 in
theorem operand_fullhi (g : Nat) (F : Foot) (is os rs : List Int) (ps : List Value) (ov : Bool) (bs ks : List Int) (op fm key a : Int) (w : World) (h : MS w g F is os rs ps ov bs ks) (h0 : is.getD 0 0 = op) (h1 : is.getD 1 0 = fm) (hf : fm ≠ 1) (hkey : ps.getD 1 undef = .int .i64 key) (hsec : ∀ W, MS W g F is os rs ps ov bs ks → Calls Try.prog 44 #[.pointer (some ⟨g, 0, none⟩)] W fun e w' => e = .returned (.int .i64 a) ∧ Ch W w' []) (ha0 : 0 ≤ a) (ha1 : a ≤ 16777215) (ha : a % 4 = 0) (hop : 76 < op) (hc : sCode (alF key) bs.length ks a 4 = 0) : Calls Try.prog 85 #[.pointer (some ⟨g, 0, none⟩)] w fun e w' => e = .returned (.int .u32 (g4V bs a)) ∧ MS w' g F is os rs ps ov bs ks ∧ Ch w w' [] := by
  have e2 : op ≥ 72 := by omega
  have e3 : ¬ op ≤ 76 := by omega
  have c0 := h.m.ci (c := 0) (by omega)
  rw [h0] at c0
  have c1 := h.m.ci (c := 1) (by omega)
  rw [h1] at c1
  have e1 : (fm == 1) = false := by simpa using hf
  have HM := Lib.hid h
  have SC := Lib.hid hsec
  have HK := Lib.hid hkey
  have D0 := Lib.hid (Ch.refl w ([] : List Nat))
  clear h h0 h1 hkey hsec hf
  have hl := sGet_leng hc
  unfold g4V
  obtain ⟨zs, hzs⟩ : ∃ zs, sGet bs a 4 = zs := ⟨_, rfl⟩
  rw [hzs] at hl ⊢
  have HZ := Lib.hid hzs
  have HC := Lib.hid hc
  clear hc hzs hop
  go_enter Try.func85, Try.ntmps85
  go_wp2_with (first
    | (go_at_call 66; refine (aligned_m g a 4 _ (SC.out _ HM.out) (.inr rfl) ha0 ha1 ha).mono ?_; rintro e wa ⟨rfl, hca⟩; have Ma := Lib.hid (HM.out.ch hca); have Ca := Lib.hid (D0.out.trans hca); clear hca)
    | (go_at_call 68; refine (fetch_m g F is os rs ps ov bs ks a 4 key _ Ma.out HK.out HC.out).mono ?_; rintro e W1 ⟨A, mm, cb, rfl, hO, hM, hCh⟩; rw [HZ.out] at hO; have M1 := Lib.hid hM; have C1 := Lib.hid (Ca.out.trans hCh); have hml : mm = 4 := by have := hO.byt.1; omega
       subst hml; obtain ⟨gb, cb', hv, hgb, hgl, -, -⟩ := hO.pos (by omega); injection hv with hv1 hv2 hv3; subst hv1 hv3; have Y1 := Lib.hid hO.byt; clear hO hM hCh hgb hgl; obtain ⟨gb', ob', e', hcell⟩ := Y1.out.at_ (by omega); cases e'
       have y0 := hcell 0 (by omega); have r0 := Y1.out.range 0
       have y1 := hcell 1 (by omega); have r1 := Y1.out.range 1
       have y2 := hcell 2 (by omega); have r2 := Y1.out.range 2
       have y3 := hcell 3 (by omega); have r3 := Y1.out.range 3
       obtain ⟨x0, hx0⟩ : ∃ x, zs.getD 0 0 = x := ⟨_, rfl⟩; rw [hx0] at y0 r0
       obtain ⟨x1, hx1⟩ : ∃ x, zs.getD 1 0 = x := ⟨_, rfl⟩; rw [hx1] at y1 r1
       obtain ⟨x2, hx2⟩ : ∃ x, zs.getD 2 0 = x := ⟨_, rfl⟩; rw [hx2] at y2 r2
       obtain ⟨x3, hx3⟩ : ∃ x, zs.getD 3 0 = x := ⟨_, rfl⟩; rw [hx3] at y3 r3
       have HV := Lib.hid (show flv (zs.getD 0 0) (zs.getD 1 0) (zs.getD 2 0) (zs.getD 3 0) = flv x0 x1 x2 x3 from by rw [hx0, hx1, hx2, hx3]); clear hcell Y1 hx0 hx1 hx2 hx3)
    | (go_at_call 70; refine (full_yes gb 0 4 cb 0 x0 x1 x2 x3 _ (by omega) (by omega) (y0) (y1) (y2) (y3) r0.1 r0.2 r1.1 r1.2 r2.1 r2.2 r3.1 r3.2).mono ?_; rintro e w5 ⟨rfl, d5, hw5⟩; have M5 := Lib.hid (show MS w5 g F is os rs ps ov bs ks from by rw [hw5]; exact M1.out.drewN d5); have C5 := Lib.hid (show Ch w w5 [] from by rw [hw5]; exact C1.out.drewN d5); clear hw5))
  go_ret
  rw [HV.out]
  exact ⟨rfl, M5.out, C5.out⟩
set_option maxRecDepth 1000000 in
set_option maxHeartbeats 8000000 in
theorem operand_fullhi_odd (g : Nat) (F : Foot) (is os rs : List Int) (ps : List Value) (ov : Bool) (bs ks : List Int) (op fm key a : Int) (w : World) (h : MS w g F is os rs ps ov bs ks) (h0 : is.getD 0 0 = op) (h1 : is.getD 1 0 = fm) (hf : fm ≠ 1) (hkey : ps.getD 1 undef = .int .i64 key) (hsec : ∀ W, MS W g F is os rs ps ov bs ks → Calls Try.prog 44 #[.pointer (some ⟨g, 0, none⟩)] W fun e w' => e = .returned (.int .i64 a) ∧ Ch W w' []) (ha0 : 0 ≤ a) (ha1 : a ≤ 16777215) (ha : a % 4 ≠ 0) (hop : 76 < op) : Calls Try.prog 85 #[.pointer (some ⟨g, 0, none⟩)] w fun e w' => e = .panicked [{ v := .iface 65 (.int .i64 6), recovered := false }] ∧ MS w' g F is os rs ps ov bs ks ∧ Ch w w' [] := by
  have e2 : op ≥ 72 := by omega
  have e3 : ¬ op ≤ 76 := by omega
  have c0 := h.m.ci (c := 0) (by omega)
  rw [h0] at c0
  have c1 := h.m.ci (c := 1) (by omega)
  rw [h1] at c1
  have e1 : (fm == 1) = false := by simpa using hf
  have HM := Lib.hid h
  have SC := Lib.hid hsec
  have HK := Lib.hid hkey
  have D0 := Lib.hid (Ch.refl w ([] : List Nat))
  clear h h0 h1 hkey hsec hf
  clear hop
  go_enter Try.func85, Try.ntmps85
  go_wp2_with (go_at_call 66; refine (aligned_no g a 4 _ (SC.out _ HM.out) (.inr rfl) ha0 ha1 ha).mono ?_; rintro e wa ⟨rfl, hca⟩; have Ma := Lib.hid (HM.out.ch hca); have Ca := Lib.hid (D0.out.trans hca); clear hca)
  exact ⟨rfl, rfl, Ma.out, Ca.out⟩
set_option maxRecDepth 1000000 in
set_option maxHeartbeats 8000000 in
theorem operand_fullhi_no (g : Nat) (F : Foot) (is os rs : List Int) (ps : List Value) (ov : Bool) (bs ks : List Int) (op fm key a : Int) (w : World) (h : MS w g F is os rs ps ov bs ks) (h0 : is.getD 0 0 = op) (h1 : is.getD 1 0 = fm) (hf : fm ≠ 1) (hkey : ps.getD 1 undef = .int .i64 key) (hsec : ∀ W, MS W g F is os rs ps ov bs ks → Calls Try.prog 44 #[.pointer (some ⟨g, 0, none⟩)] W fun e w' => e = .returned (.int .i64 a) ∧ Ch W w' []) (ha0 : 0 ≤ a) (ha1 : a ≤ 16777215) (ha : a % 4 = 0) (hop : 76 < op) (c : Int) (hc : sCode (alF key) bs.length ks a 4 = c) (hc0 : c ≠ 0) : Calls Try.prog 85 #[.pointer (some ⟨g, 0, none⟩)] w fun e w' => e = .panicked [{ v := .iface 65 (.int .i64 c), recovered := false }] ∧ MS w' g F is os rs ps ov bs ks ∧ Ch w w' [] := by
  have e2 : op ≥ 72 := by omega
  have e3 : ¬ op ≤ 76 := by omega
  have c0 := h.m.ci (c := 0) (by omega)
  rw [h0] at c0
  have c1 := h.m.ci (c := 1) (by omega)
  rw [h1] at c1
  have e1 : (fm == 1) = false := by simpa using hf
  have HM := Lib.hid h
  have SC := Lib.hid hsec
  have HK := Lib.hid hkey
  have D0 := Lib.hid (Ch.refl w ([] : List Nat))
  clear h h0 h1 hkey hsec hf
  have HC := Lib.hid hc
  have HC0 := Lib.hid hc0
  clear hop hc hc0
  go_enter Try.func85, Try.ntmps85
  go_wp2_with (first
    | (go_at_call 66; refine (aligned_m g a 4 _ (SC.out _ HM.out) (.inr rfl) ha0 ha1 ha).mono ?_; rintro e wa ⟨rfl, hca⟩; have Ma := Lib.hid (HM.out.ch hca); have Ca := Lib.hid (D0.out.trans hca); clear hca)
    | (go_at_call 68; refine (fetch_no g F is os rs ps ov bs ks a 4 key _ Ma.out HK.out c HC.out HC0.out).mono ?_; rintro e W1 ⟨rfl, hM, hCh⟩; have M1 := Lib.hid hM; have C1 := Lib.hid (Ca.out.trans hCh); clear hM hCh))
  exact ⟨rfl, rfl, M1.out, C1.out⟩
theorem operand_ok (g k : Nat) (F : Foot) (is os rs : List Int) (ps : List Value) (ov : Bool) (bs ks : List Int) (op fm key a : Int) (w : World) (h : MS w g F is os rs ps ov bs ks) (h0 : is.getD 0 0 = op) (h1 : is.getD 1 0 = fm) (hk : is.getD 3 0 = (k : Int)) (hk16 : k < 16) (hkey : ps.getD 1 undef = .int .i64 key) (hsec : ∀ W, MS W g F is os rs ps ov bs ks → Calls Try.prog 44 #[.pointer (some ⟨g, 0, none⟩)] W fun e w' => e = .returned (.int .i64 a) ∧ Ch W w' []) (ha0 : 0 ≤ a) (ha1 : a ≤ 16777215) (hc : opC op fm bs ks key a = 0) : Calls Try.prog 85 #[.pointer (some ⟨g, 0, none⟩)] w fun e w' => e = .returned (.int .u32 (opV op fm os k bs a)) ∧ MS w' g F is os rs ps ov bs ks ∧ Ch w w' [] := by
  unfold opC at hc
  unfold opV
  by_cases hf : fm = 1
  · subst hf
    rw [if_pos rfl]
    refine (operand_rr g k is os rs ps _ ov w h.m h1 hk hk16).mono ?_
    rintro e w' ⟨rfl, d, rfl⟩
    exact ⟨rfl, h.drewN d, (Ch.refl w []).drewN d⟩
  · rw [if_neg hf] at hc ⊢
    by_cases h7 : 72 ≤ op ∧ op ≤ 76
    · rw [if_pos h7] at hc ⊢
      split at hc
      next ha => exact operand_half g F is os rs ps ov bs ks op fm key a w h h0 h1 hf hkey hsec ha0 ha1 ha h7 hc
      next => exact absurd hc (by decide)
    · rw [if_neg h7] at hc ⊢
      split at hc
      next ha =>
        by_cases h72 : op < 72
        · exact operand_fulllo g F is os rs ps ov bs ks op fm key a w h h0 h1 hf hkey hsec ha0 ha1 ha h72 hc
        · exact operand_fullhi g F is os rs ps ov bs ks op fm key a w h h0 h1 hf hkey hsec ha0 ha1 ha (by omega) hc
      next => exact absurd hc (by decide)
theorem operand_no (g k : Nat) (F : Foot) (is os rs : List Int) (ps : List Value) (ov : Bool) (bs ks : List Int) (op fm key a : Int) (w : World) (h : MS w g F is os rs ps ov bs ks) (h0 : is.getD 0 0 = op) (h1 : is.getD 1 0 = fm) (hkey : ps.getD 1 undef = .int .i64 key) (hsec : ∀ W, MS W g F is os rs ps ov bs ks → Calls Try.prog 44 #[.pointer (some ⟨g, 0, none⟩)] W fun e w' => e = .returned (.int .i64 a) ∧ Ch W w' []) (ha0 : 0 ≤ a) (ha1 : a ≤ 16777215) (c : Int) (hc : opC op fm bs ks key a = c) (hc0 : c ≠ 0) : Calls Try.prog 85 #[.pointer (some ⟨g, 0, none⟩)] w fun e w' => e = .panicked [{ v := .iface 65 (.int .i64 c), recovered := false }] ∧ MS w' g F is os rs ps ov bs ks ∧ Ch w w' [] := by
  unfold opC at hc
  by_cases hf : fm = 1
  · rw [if_pos hf] at hc; exact absurd hc.symm hc0
  · rw [if_neg hf] at hc
    by_cases h7 : 72 ≤ op ∧ op ≤ 76
    · rw [if_pos h7] at hc
      split at hc
      next ha => exact operand_half_no g F is os rs ps ov bs ks op fm key a w h h0 h1 hf hkey hsec ha0 ha1 ha h7 c hc hc0
      next ha => subst hc; exact operand_half_odd g F is os rs ps ov bs ks op fm key a w h h0 h1 hf hkey hsec ha0 ha1 ha h7
    · rw [if_neg h7] at hc
      have hlh : op < 72 ∨ 76 < op := by omega
      split at hc
      next ha =>
        rcases hlh with h72 | h72
        · exact operand_fulllo_no g F is os rs ps ov bs ks op fm key a w h h0 h1 hf hkey hsec ha0 ha1 ha h72 c hc hc0
        · exact operand_fullhi_no g F is os rs ps ov bs ks op fm key a w h h0 h1 hf hkey hsec ha0 ha1 ha h72 c hc hc0
      next ha =>
        subst hc
        rcases hlh with h72 | h72
        · exact operand_fulllo_odd g F is os rs ps ov bs ks op fm key a w h h0 h1 hf hkey hsec ha0 ha1 ha h72
        · exact operand_fullhi_odd g F is os rs ps ov bs ks op fm key a w h h0 h1 hf hkey hsec ha0 ha1 ha h72
end Go.Proofs.Ythjdjbipfdigeaa

namespace Go.Proofs.Ythjdjbipfdigeaa
open Go.RowKit
set_option maxRecDepth 100000
set_option linter.unusedVariables false
set_option linter.unusedSimpArgs false
theorem set_m (g n : Nat) (F : Foot) (is os rs : List Int) (ps : List Value) (ov : Bool) (bs ks : List Int) (v cc : Int) (o : Bool) (w : World) (h : MS w g F is os rs ps ov bs ks) (hn : is.getD 2 0 = (n : Int)) (hn16 : n < 16) : Calls Try.prog 58 #[.pointer (some ⟨g, 0, none⟩), .int .u32 v, .int .i64 cc, .bool o] w fun e w' => e = .returned (.tuple #[]) ∧ MS w' g F is os (rs.set n v) (ps.set 7 (.int .i64 cc)) o bs ks ∧ Ch w w' [g] := by
  refine (set_c g n v cc o is os rs ps _ ov w h.m hn hn16).mono ?_
  rintro e w' ⟨rfl, hM, hC⟩
  exact ⟨rfl, h.set_ hM hC, hC⟩
theorem MS.setp {w : World} {g : Nat} {F : Foot} {is os rs : List Int} {ps : List Value} {ov : Bool} {bs ks : List Int} (h : MS w g F is os rs ps ov bs ks) {n : Nat} (hn : n < 10) (v : Value) : MS (w.setCell ⟨g, 44 + n, none⟩ v) g F is os rs (ps.set n v) ov bs ks := h.set_ (h.m.setp hn v) ((Ch.refl _ _).setCell (by simp) _)
theorem MS.setr {w : World} {g : Nat} {F : Foot} {is os rs : List Int} {ps : List Value} {ov : Bool} {bs ks : List Int} (h : MS w g F is os rs ps ov bs ks) {n : Nat} (hn : n < 16) (v : Int) : MS (w.setCell ⟨g, 28 + n, none⟩ (.int .u32 v)) g F is os (rs.set n v) ps ov bs ks := h.set_ (h.m.setr hn v) ((Ch.refl _ _).setCell (by simp) _)
theorem MS.setv {w : World} {g : Nat} {F : Foot} {is os rs : List Int} {ps : List Value} {ov : Bool} {bs ks : List Int} (h : MS w g F is os rs ps ov bs ks) (b : Bool) : MS (w.setCell ⟨g, 55, none⟩ (.bool b)) g F is os rs ps b bs ks := h.set_ (h.m.setv b) ((Ch.refl _ _).setCell (by simp) _)
set_option maxRecDepth 1000000 in
set_option maxHeartbeats 8000000 in
theorem bits_z (v : Int) (g n : Nat) (F : Foot) (is os rs : List Int) (ps : List Value) (ov : Bool) (bs ks : List Int) (w : World) (h : MS w g F is os rs ps ov bs ks) (hn : is.getD 2 0 = (n : Int)) (hn16 : n < 16) (hv : v = 0) : Calls Try.prog 91 #[.pointer (some ⟨g, 0, none⟩), .int .u32 v] w fun e w' => e = .returned (.tuple #[]) ∧ MS w' g F is os (rs.set n v) (ps.set 7 (.int .i64 0)) false bs ks ∧ Ch w w' [g] := by
  have e0 : (v == 0) = true := by simpa using hv
  have HM := Lib.hid h
  have HN := Lib.hid hn
  clear h hn hv
  go_enter Try.func91, Try.ntmps91
  go_wp2_with (go_at_call 58; refine (set_m g n F is os rs ps ov bs ks _ _ _ _ HM.out HN.out hn16).mono ?_; rintro e w1 ⟨rfl, hM1, hC1⟩; have M1 := Lib.hid hM1; have C1 := Lib.hid hC1; have c7 := hM1.m.cp (n := 7) (by omega); have f7 := hM1.m.free 51; clear hM1 hC1)
  first | go_end0 | refine bodyPost_ret (results_none rfl _ _ _) rfl ?_
  have hM := M1.out.setp (n := 7) (by omega) (.int .i64 0)
  rw [List.set_set] at hM
  exact ⟨rfl, hM, C1.out.setCell (by simp) _⟩
set_option maxRecDepth 1000000 in
set_option maxHeartbeats 8000000 in
theorem bits_n (v : Int) (g n : Nat) (F : Foot) (is os rs : List Int) (ps : List Value) (ov : Bool) (bs ks : List Int) (w : World) (h : MS w g F is os rs ps ov bs ks) (hn : is.getD 2 0 = (n : Int)) (hn16 : n < 16) (hv : v ≠ 0) : Calls Try.prog 91 #[.pointer (some ⟨g, 0, none⟩), .int .u32 v] w fun e w' => e = .returned (.tuple #[]) ∧ MS w' g F is os (rs.set n v) (ps.set 7 (.int .i64 1)) false bs ks ∧ Ch w w' [g] := by
  have e0 : (v == 0) = false := by simpa using hv
  have HM := Lib.hid h
  have HN := Lib.hid hn
  clear h hn hv
  go_enter Try.func91, Try.ntmps91
  go_wp2_with (go_at_call 58; refine (set_m g n F is os rs ps ov bs ks _ _ _ _ HM.out HN.out hn16).mono ?_; rintro e w1 ⟨rfl, hM1, hC1⟩; have M1 := Lib.hid hM1; have C1 := Lib.hid hC1; have c7 := hM1.m.cp (n := 7) (by omega); have f7 := hM1.m.free 51; clear hM1 hC1)
  first | go_end0 | refine bodyPost_ret (results_none rfl _ _ _) rfl ?_
  exact ⟨rfl, M1.out, C1.out⟩
theorem bits_m (v : Int) (g n : Nat) (F : Foot) (is os rs : List Int) (ps : List Value) (ov : Bool) (bs ks : List Int) (w : World) (h : MS w g F is os rs ps ov bs ks) (hn : is.getD 2 0 = (n : Int)) (hn16 : n < 16) : Calls Try.prog 91 #[.pointer (some ⟨g, 0, none⟩), .int .u32 v] w fun e w' => e = .returned (.tuple #[]) ∧ MS w' g F is os (rs.set n v) (ps.set 7 (.int .i64 (if v = 0 then 0 else 1))) false bs ks ∧ Ch w w' [g] := by
  by_cases hv : v = 0
  · rw [if_pos hv]; exact bits_z v g n F is os rs ps ov bs ks w h hn hn16 hv
  · rw [if_neg hv]; exact bits_n v g n F is os rs ps ov bs ks w h hn hn16 hv
/-- what LPR, LNR, LTR, LCR store -/
def sgnC (op v : Int) : Bool := decide (op = 19 ∨ (op = 16 ∧ sgn (sg v) = 1) ∨ (op = 17 ∧ sgn (sg v) = 2))
def sgnV (op v : Int) : Int := if sgnC op v = true then lo32 (-sg v) else v
def sgnQ (op v : Int) : Int := if sgnC op v = true then rcc (-sg v) else sgn (sg v)
def sgnO (op v : Int) : Bool := if sgnC op v = true then ovf (-sg v) else false
set_option maxRecDepth 1000000 in
set_option maxHeartbeats 8000000 in
theorem signs_19 (v : Int) (v0 : 0 ≤ v) (v1 : v ≤ 4294967295) (g n : Nat) (F : Foot) (is os rs : List Int) (ps : List Value) (ov : Bool) (bs ks : List Int) (w : World) (h : MS w g F is os rs ps ov bs ks) (hn : is.getD 2 0 = (n : Int)) (hn16 : n < 16) (h0 : is.getD 0 0 = 19)  : Calls Try.prog 86 #[.pointer (some ⟨g, 0, none⟩), .int .u32 v] w fun e w' => e = .returned (.tuple #[]) ∧ MS w' g F is os (rs.set n (sgnV 19 v)) (ps.set 7 (.int .i64 (sgnQ 19 v))) (sgnO 19 v) bs ks ∧ Ch w w' [g] := by
  have hc : sgnC 19 v = true := by simp [sgnC]
  unfold sgnV sgnQ sgnO
  simp only [hc, if_true, Bool.false_eq_true, if_false]
  have c0 := h.m.ci (c := 0) (by omega)
  rw [h0] at c0
  have HM := Lib.hid h
  have HN := Lib.hid hn
  obtain ⟨tv, htv⟩ : ∃ t, sgn (sg v) = t := ⟨_, rfl⟩
  have TC := Lib.hid (test_c v v0 v1)
  rw [htv] at TC
  try rw [htv]
  clear h hn h0 hc  htv
  go_enter Try.func86, Try.ntmps86
  go_wp2_with (first
    | (go_at_call 98; refine (TC.out _).mono ?_; rintro e w2 ⟨rfl, hw2⟩; subst hw2)
    | (go_at_call 104; refine (complement_c v v0 v1 _).mono ?_; rintro e w2 ⟨rfl, hw2⟩; subst hw2)
    | (go_at_call 58; refine (set_m g n F is os rs ps ov bs ks _ _ _ _ HM.out HN.out hn16).mono ?_; rintro e w1 ⟨rfl, hM1, hC1⟩; have M1 := Lib.hid hM1; have C1 := Lib.hid hC1; clear hM1 hC1))
  first | go_end0 | refine bodyPost_ret (results_none rfl _ _ _) rfl ?_
  exact ⟨rfl, M1.out, C1.out⟩
set_option maxRecDepth 1000000 in
set_option maxHeartbeats 8000000 in
theorem signs_16y (v : Int) (v0 : 0 ≤ v) (v1 : v ≤ 4294967295) (g n : Nat) (F : Foot) (is os rs : List Int) (ps : List Value) (ov : Bool) (bs ks : List Int) (w : World) (h : MS w g F is os rs ps ov bs ks) (hn : is.getD 2 0 = (n : Int)) (hn16 : n < 16) (h0 : is.getD 0 0 = 16) (ht : sgn (sg v) = 1) : Calls Try.prog 86 #[.pointer (some ⟨g, 0, none⟩), .int .u32 v] w fun e w' => e = .returned (.tuple #[]) ∧ MS w' g F is os (rs.set n (sgnV 16 v)) (ps.set 7 (.int .i64 (sgnQ 16 v))) (sgnO 16 v) bs ks ∧ Ch w w' [g] := by
  have hc : sgnC 16 v = true := by simp [sgnC, ht]
  unfold sgnV sgnQ sgnO
  simp only [hc, if_true, Bool.false_eq_true, if_false]
  have e0 : (sgn (sg v) == 1) = true := by simpa using ht
  have c0 := h.m.ci (c := 0) (by omega)
  rw [h0] at c0
  have HM := Lib.hid h
  have HN := Lib.hid hn
  obtain ⟨tv, htv⟩ : ∃ t, sgn (sg v) = t := ⟨_, rfl⟩
  have TC := Lib.hid (test_c v v0 v1)
  rw [htv] at TC
  rw [htv] at e0
  try rw [htv]
  clear h hn h0 hc ht htv
  go_enter Try.func86, Try.ntmps86
  go_wp2_with (first
    | (go_at_call 98; refine (TC.out _).mono ?_; rintro e w2 ⟨rfl, hw2⟩; subst hw2)
    | (go_at_call 104; refine (complement_c v v0 v1 _).mono ?_; rintro e w2 ⟨rfl, hw2⟩; subst hw2)
    | (go_at_call 58; refine (set_m g n F is os rs ps ov bs ks _ _ _ _ HM.out HN.out hn16).mono ?_; rintro e w1 ⟨rfl, hM1, hC1⟩; have M1 := Lib.hid hM1; have C1 := Lib.hid hC1; clear hM1 hC1))
  first | go_end0 | refine bodyPost_ret (results_none rfl _ _ _) rfl ?_
  exact ⟨rfl, M1.out, C1.out⟩
set_option maxRecDepth 1000000 in
set_option maxHeartbeats 8000000 in
theorem signs_16n (v : Int) (v0 : 0 ≤ v) (v1 : v ≤ 4294967295) (g n : Nat) (F : Foot) (is os rs : List Int) (ps : List Value) (ov : Bool) (bs ks : List Int) (w : World) (h : MS w g F is os rs ps ov bs ks) (hn : is.getD 2 0 = (n : Int)) (hn16 : n < 16) (h0 : is.getD 0 0 = 16) (ht : sgn (sg v) ≠ 1) : Calls Try.prog 86 #[.pointer (some ⟨g, 0, none⟩), .int .u32 v] w fun e w' => e = .returned (.tuple #[]) ∧ MS w' g F is os (rs.set n (sgnV 16 v)) (ps.set 7 (.int .i64 (sgnQ 16 v))) (sgnO 16 v) bs ks ∧ Ch w w' [g] := by
  have hc : sgnC 16 v = false := by simp [sgnC, ht]
  unfold sgnV sgnQ sgnO
  simp only [hc, if_true, Bool.false_eq_true, if_false]
  have e0 : (sgn (sg v) == 1) = false := by simpa using ht
  have c0 := h.m.ci (c := 0) (by omega)
  rw [h0] at c0
  have HM := Lib.hid h
  have HN := Lib.hid hn
  obtain ⟨tv, htv⟩ : ∃ t, sgn (sg v) = t := ⟨_, rfl⟩
  have TC := Lib.hid (test_c v v0 v1)
  rw [htv] at TC
  rw [htv] at e0
  try rw [htv]
  clear h hn h0 hc ht htv
  go_enter Try.func86, Try.ntmps86
  go_wp2_with (first
    | (go_at_call 98; refine (TC.out _).mono ?_; rintro e w2 ⟨rfl, hw2⟩; subst hw2)
    | (go_at_call 104; refine (complement_c v v0 v1 _).mono ?_; rintro e w2 ⟨rfl, hw2⟩; subst hw2)
    | (go_at_call 58; refine (set_m g n F is os rs ps ov bs ks _ _ _ _ HM.out HN.out hn16).mono ?_; rintro e w1 ⟨rfl, hM1, hC1⟩; have M1 := Lib.hid hM1; have C1 := Lib.hid hC1; clear hM1 hC1))
  first | go_end0 | refine bodyPost_ret (results_none rfl _ _ _) rfl ?_
  exact ⟨rfl, M1.out, C1.out⟩
set_option maxRecDepth 1000000 in
set_option maxHeartbeats 8000000 in
theorem signs_17y (v : Int) (v0 : 0 ≤ v) (v1 : v ≤ 4294967295) (g n : Nat) (F : Foot) (is os rs : List Int) (ps : List Value) (ov : Bool) (bs ks : List Int) (w : World) (h : MS w g F is os rs ps ov bs ks) (hn : is.getD 2 0 = (n : Int)) (hn16 : n < 16) (h0 : is.getD 0 0 = 17) (ht : sgn (sg v) = 2) : Calls Try.prog 86 #[.pointer (some ⟨g, 0, none⟩), .int .u32 v] w fun e w' => e = .returned (.tuple #[]) ∧ MS w' g F is os (rs.set n (sgnV 17 v)) (ps.set 7 (.int .i64 (sgnQ 17 v))) (sgnO 17 v) bs ks ∧ Ch w w' [g] := by
  have hc : sgnC 17 v = true := by simp [sgnC, ht]
  unfold sgnV sgnQ sgnO
  simp only [hc, if_true, Bool.false_eq_true, if_false]
  have e0 : (sgn (sg v) == 2) = true := by simpa using ht
  have c0 := h.m.ci (c := 0) (by omega)
  rw [h0] at c0
  have HM := Lib.hid h
  have HN := Lib.hid hn
  obtain ⟨tv, htv⟩ : ∃ t, sgn (sg v) = t := ⟨_, rfl⟩
  have TC := Lib.hid (test_c v v0 v1)
  rw [htv] at TC
  rw [htv] at e0
  try rw [htv]
  clear h hn h0 hc ht htv
  go_enter Try.func86, Try.ntmps86
  go_wp2_with (first
    | (go_at_call 98; refine (TC.out _).mono ?_; rintro e w2 ⟨rfl, hw2⟩; subst hw2)
    | (go_at_call 104; refine (complement_c v v0 v1 _).mono ?_; rintro e w2 ⟨rfl, hw2⟩; subst hw2)
    | (go_at_call 58; refine (set_m g n F is os rs ps ov bs ks _ _ _ _ HM.out HN.out hn16).mono ?_; rintro e w1 ⟨rfl, hM1, hC1⟩; have M1 := Lib.hid hM1; have C1 := Lib.hid hC1; clear hM1 hC1))
  first | go_end0 | refine bodyPost_ret (results_none rfl _ _ _) rfl ?_
  exact ⟨rfl, M1.out, C1.out⟩
set_option maxRecDepth 1000000 in
set_option maxHeartbeats 8000000 in
theorem signs_17n (v : Int) (v0 : 0 ≤ v) (v1 : v ≤ 4294967295) (g n : Nat) (F : Foot) (is os rs : List Int) (ps : List Value) (ov : Bool) (bs ks : List Int) (w : World) (h : MS w g F is os rs ps ov bs ks) (hn : is.getD 2 0 = (n : Int)) (hn16 : n < 16) (h0 : is.getD 0 0 = 17) (ht : sgn (sg v) ≠ 2) : Calls Try.prog 86 #[.pointer (some ⟨g, 0, none⟩), .int .u32 v] w fun e w' => e = .returned (.tuple #[]) ∧ MS w' g F is os (rs.set n (sgnV 17 v)) (ps.set 7 (.int .i64 (sgnQ 17 v))) (sgnO 17 v) bs ks ∧ Ch w w' [g] := by
  have hc : sgnC 17 v = false := by simp [sgnC, ht]
  unfold sgnV sgnQ sgnO
  simp only [hc, if_true, Bool.false_eq_true, if_false]
  have e0 : (sgn (sg v) == 2) = false := by simpa using ht
  have c0 := h.m.ci (c := 0) (by omega)
  rw [h0] at c0
  have HM := Lib.hid h
  have HN := Lib.hid hn
  obtain ⟨tv, htv⟩ : ∃ t, sgn (sg v) = t := ⟨_, rfl⟩
  have TC := Lib.hid (test_c v v0 v1)
  rw [htv] at TC
  rw [htv] at e0
  try rw [htv]
  clear h hn h0 hc ht htv
  go_enter Try.func86, Try.ntmps86
  go_wp2_with (first
    | (go_at_call 98; refine (TC.out _).mono ?_; rintro e w2 ⟨rfl, hw2⟩; subst hw2)
    | (go_at_call 104; refine (complement_c v v0 v1 _).mono ?_; rintro e w2 ⟨rfl, hw2⟩; subst hw2)
    | (go_at_call 58; refine (set_m g n F is os rs ps ov bs ks _ _ _ _ HM.out HN.out hn16).mono ?_; rintro e w1 ⟨rfl, hM1, hC1⟩; have M1 := Lib.hid hM1; have C1 := Lib.hid hC1; clear hM1 hC1))
  first | go_end0 | refine bodyPost_ret (results_none rfl _ _ _) rfl ?_
  exact ⟨rfl, M1.out, C1.out⟩
set_option maxRecDepth 1000000 in
set_option maxHeartbeats 8000000 in
theorem signs_18 (v : Int) (v0 : 0 ≤ v) (v1 : v ≤ 4294967295) (g n : Nat) (F : Foot) (is os rs : List Int) (ps : List Value) (ov : Bool) (bs ks : List Int) (w : World) (h : MS w g F is os rs ps ov bs ks) (hn : is.getD 2 0 = (n : Int)) (hn16 : n < 16) (h0 : is.getD 0 0 = 18)  : Calls Try.prog 86 #[.pointer (some ⟨g, 0, none⟩), .int .u32 v] w fun e w' => e = .returned (.tuple #[]) ∧ MS w' g F is os (rs.set n (sgnV 18 v)) (ps.set 7 (.int .i64 (sgnQ 18 v))) (sgnO 18 v) bs ks ∧ Ch w w' [g] := by
  have hc : sgnC 18 v = false := by simp [sgnC]
  unfold sgnV sgnQ sgnO
  simp only [hc, if_true, Bool.false_eq_true, if_false]
  have c0 := h.m.ci (c := 0) (by omega)
  rw [h0] at c0
  have HM := Lib.hid h
  have HN := Lib.hid hn
  obtain ⟨tv, htv⟩ : ∃ t, sgn (sg v) = t := ⟨_, rfl⟩
  have TC := Lib.hid (test_c v v0 v1)
  rw [htv] at TC
  try rw [htv]
  clear h hn h0 hc  htv
  go_enter Try.func86, Try.ntmps86
  go_wp2_with (first
    | (go_at_call 98; refine (TC.out _).mono ?_; rintro e w2 ⟨rfl, hw2⟩; subst hw2)
    | (go_at_call 104; refine (complement_c v v0 v1 _).mono ?_; rintro e w2 ⟨rfl, hw2⟩; subst hw2)
    | (go_at_call 58; refine (set_m g n F is os rs ps ov bs ks _ _ _ _ HM.out HN.out hn16).mono ?_; rintro e w1 ⟨rfl, hM1, hC1⟩; have M1 := Lib.hid hM1; have C1 := Lib.hid hC1; clear hM1 hC1))
  first | go_end0 | refine bodyPost_ret (results_none rfl _ _ _) rfl ?_
  exact ⟨rfl, M1.out, C1.out⟩
theorem signs_m (op v : Int) (v0 : 0 ≤ v) (v1 : v ≤ 4294967295) (g n : Nat) (F : Foot) (is os rs : List Int) (ps : List Value) (ov : Bool) (bs ks : List Int) (w : World) (h : MS w g F is os rs ps ov bs ks) (hn : is.getD 2 0 = (n : Int)) (hn16 : n < 16) (h0 : is.getD 0 0 = op) (hop : op = 16 ∨ op = 17 ∨ op = 18 ∨ op = 19) : Calls Try.prog 86 #[.pointer (some ⟨g, 0, none⟩), .int .u32 v] w fun e w' => e = .returned (.tuple #[]) ∧ MS w' g F is os (rs.set n (sgnV op v)) (ps.set 7 (.int .i64 (sgnQ op v))) (sgnO op v) bs ks ∧ Ch w w' [g] := by
  rcases hop with rfl | rfl | rfl | rfl
  · by_cases ht : sgn (sg v) = 1
    · exact signs_16y v v0 v1 g n F is os rs ps ov bs ks w h hn hn16 h0 ht
    · exact signs_16n v v0 v1 g n F is os rs ps ov bs ks w h hn hn16 h0 ht
  · by_cases ht : sgn (sg v) = 2
    · exact signs_17y v v0 v1 g n F is os rs ps ov bs ks w h hn hn16 h0 ht
    · exact signs_17n v v0 v1 g n F is os rs ps ov bs ks w h hn hn16 h0 ht
  · exact signs_18 v v0 v1 g n F is os rs ps ov bs ks w h hn hn16 h0
  · exact signs_19 v v0 v1 g n F is os rs ps ov bs ks w h hn hn16 h0
end Go.Proofs.Ythjdjbipfdigeaa

