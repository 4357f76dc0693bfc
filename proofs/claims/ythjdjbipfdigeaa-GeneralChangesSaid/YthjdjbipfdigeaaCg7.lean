/- Contracts and laws on the way to the statement, text 7 of 25. Conditions: as each states them. -/
import Derived.Test.YthjdjbipfdigeaaCg5
namespace Go.Proofs.Ythjdjbipfdigeaa
open Go.RowKit
set_option maxRecDepth 100000
set_option linter.unusedVariables false
set_option linter.unusedSimpArgs false
theorem set_m (g n : Nat) (F : Foot) (is os rs : List Int) (ps : List Value) (ov : Bool) (bs ks : List Int) (v cc : Int) (o : Bool) (w : World) (h : MS w g F is os rs ps ov bs ks) (hn : is.getD 2 0 = (n : Int)) (hn16 : n < 16) : Calls Try.prog 58 #[.pointer (some ⟨g, 0, none⟩), .int .u32 v, .int .i64 cc, .bool o] w fun e w' => e = .returned (.tuple #[]) ∧ MS w' g F is os (rs.set n v) (ps.set 7 (.int .i64 cc)) o bs ks ∧ Ch w w' [g] := by
  refine (set_c g n v cc o is os rs ps _ ov w h.m hn hn16).mono ?_
  rintro e w' ⟨rfl, hM, hC⟩
  exact ⟨rfl, h.set_ hM hC, hC⟩
theorem MS.setp {w : World} {g : Nat} {F : Foot} {is os rs : List Int} {ps : List Value} {ov : Bool} {bs ks : List Int} (h : MS w g F is os rs ps ov bs ks) {n : Nat} (hn : n < 10) (v : Value) : MS (w.setCell ⟨g, 44 + n, none⟩ v) g F is os rs (ps.set n v) ov bs ks := h.set_ (h.m.setp hn v) ((Ch.refl _ _).setCell (by simp) _)
theorem MS.setr {w : World} {g : Nat} {F : Foot} {is os rs : List Int} {ps : List Value} {ov : Bool} {bs ks : List Int} (h : MS w g F is os rs ps ov bs ks) {n : Nat} (hn : n < 16) (v : Int) : MS (w.setCell ⟨g, 28 + n, none⟩ (.int .u32 v)) g F is os (rs.set n v) ps ov bs ks := h.set_ (h.m.setr hn v) ((Ch.refl _ _).setCell (by simp) _)
theorem MS.setv {w : World} {g : Nat} {F : Foot} {is os rs : List Int} {ps : List Value} {ov : Bool} {bs ks : List Int} (h : MS w g F is os rs ps ov bs ks) (b : Bool) : MS (w.setCell ⟨g, 55, none⟩ (.bool b)) g F is os rs ps b bs ks := h.set_ (h.m.setv b) ((Ch.refl _ _).setCell (by simp) _)
set_option maxRecDepth 1000000 in
set_option maxHeartbeats 8000000 in
theorem bits_z (v : Int) (g n : Nat) (F : Foot) (is os rs : List Int) (ps : List Value) (ov : Bool) (bs ks : List Int) (w : World) (h : MS w g F is os rs ps ov bs ks) (hn : is.getD 2 0 = (n : Int)) (hn16 : n < 16) (hv : v = 0) : Calls Try.prog 91 #[.pointer (some ⟨g, 0, none⟩), .int .u32 v] w fun e w' => e = .returned (.tuple #[]) ∧ MS w' g F is os (rs.set n v) (ps.set 7 (.int .i64 0)) false bs ks ∧ Ch w w' [g] := by
  have e0 : (v == 0) = true := by simpa using hv
  have HM := Lib.hid h
  have HN := Lib.hid hn
  clear h hn hv
  go_enter Try.func91, Try.ntmps91
  go_wp2_with (go_at_call 58; refine (set_m g n F is os rs ps ov bs ks _ _ _ _ HM.out HN.out hn16).mono ?_; rintro e w1 ⟨rfl, hM1, hC1⟩; have M1 := Lib.hid hM1; have C1 := Lib.hid hC1; have c7 := hM1.m.cp (n := 7) (by omega); have f7 := hM1.m.free 51; clear hM1 hC1)
  first | go_end0 | refine bodyPost_ret (results_none rfl _ _ _) rfl ?_
  have hM := M1.out.setp (n := 7) (by omega) (.int .i64 0)
  rw [List.set_set] at hM
  exact ⟨rfl, hM, C1.out.setCell (by simp) _⟩
set_option maxRecDepth 1000000 in
set_option maxHeartbeats 8000000 in
theorem bits_n (v : Int) (g n : Nat) (F : Foot) (is os rs : List Int) (ps : List Value) (ov : Bool) (bs ks : List Int) (w : World) (h : MS w g F is os rs ps ov bs ks) (hn : is.getD 2 0 = (n : Int)) (hn16 : n < 16) (hv : v ≠ 0) : Calls Try.prog 91 #[.pointer (some ⟨g, 0, none⟩), .int .u32 v] w fun e w' => e = .returned (.tuple #[]) ∧ MS w' g F is os (rs.set n v) (ps.set 7 (.int .i64 1)) false bs ks ∧ Ch w w' [g] := by
  have e0 : (v == 0) = false := by simpa using hv
  have HM := Lib.hid h
  have HN := Lib.hid hn
  clear h hn hv
  go_enter Try.func91, Try.ntmps91
  go_wp2_with (go_at_call 58; refine (set_m g n F is os rs ps ov bs ks _ _ _ _ HM.out HN.out hn16).mono ?_; rintro e w1 ⟨rfl, hM1, hC1⟩; have M1 := Lib.hid hM1; have C1 := Lib.hid hC1; have c7 := hM1.m.cp (n := 7) (by omega); have f7 := hM1.m.free 51; clear hM1 hC1)
  first | go_end0 | refine bodyPost_ret (results_none rfl _ _ _) rfl ?_
  exact ⟨rfl, M1.out, C1.out⟩
theorem bits_m (v : Int) (g n : Nat) (F : Foot) (is os rs : List Int) (ps : List Value) (ov : Bool) (bs ks : List Int) (w : World) (h : MS w g F is os rs ps ov bs ks) (hn : is.getD 2 0 = (n : Int)) (hn16 : n < 16) : Calls Try.prog 91 #[.pointer (some ⟨g, 0, none⟩), .int .u32 v] w fun e w' => e = .returned (.tuple #[]) ∧ MS w' g F is os (rs.set n v) (ps.set 7 (.int .i64 (if v = 0 then 0 else 1))) false bs ks ∧ Ch w w' [g] := by
  by_cases hv : v = 0
  · rw [if_pos hv]; exact bits_z v g n F is os rs ps ov bs ks w h hn hn16 hv
  · rw [if_neg hv]; exact bits_n v g n F is os rs ps ov bs ks w h hn hn16 hv
/-- what LPR, LNR, LTR, LCR store -/
def sgnC (op v : Int) : Bool := decide (op = 19 ∨ (op = 16 ∧ sgn (sg v) = 1) ∨ (op = 17 ∧ sgn (sg v) = 2))
def sgnV (op v : Int) : Int := if sgnC op v = true then lo32 (-sg v) else v
def sgnQ (op v : Int) : Int := if sgnC op v = true then rcc (-sg v) else sgn (sg v)
def sgnO (op v : Int) : Bool := if sgnC op v = true then ovf (-sg v) else false
set_option maxRecDepth 1000000 in
set_option maxHeartbeats 8000000 in
theorem signs_19 (v : Int) (v0 : 0 ≤ v) (v1 : v ≤ 4294967295) (g n : Nat) (F : Foot) (is os rs : List Int) (ps : List Value) (ov : Bool) (bs ks : List Int) (w : World) (h : MS w g F is os rs ps ov bs ks) (hn : is.getD 2 0 = (n : Int)) (hn16 : n < 16) (h0 : is.getD 0 0 = 19)  : Calls Try.prog 86 #[.pointer (some ⟨g, 0, none⟩), .int .u32 v] w fun e w' => e = .returned (.tuple #[]) ∧ MS w' g F is os (rs.set n (sgnV 19 v)) (ps.set 7 (.int .i64 (sgnQ 19 v))) (sgnO 19 v) bs ks ∧ Ch w w' [g] := by
  have hc : sgnC 19 v = true := by simp [sgnC]
  unfold sgnV sgnQ sgnO
  simp only [hc, if_true, Bool.false_eq_true, if_false]
  have c0 := h.m.ci (c := 0) (by omega)
  rw [h0] at c0
  have HM := Lib.hid h
  have HN := Lib.hid hn
  obtain ⟨tv, htv⟩ : ∃ t, sgn (sg v) = t := ⟨_, rfl⟩
  have TC := Lib.hid (test_c v v0 v1)
  rw [htv] at TC
  try rw [htv]
  clear h hn h0 hc  htv
  go_enter Try.func86, Try.ntmps86
  go_wp2_with (first
    | (go_at_call 98; refine (TC.out _).mono ?_; rintro e w2 ⟨rfl, hw2⟩; subst hw2)
    | (go_at_call 104; refine (complement_c v v0 v1 _).mono ?_; rintro e w2 ⟨rfl, hw2⟩; subst hw2)
    | (go_at_call 58; refine (set_m g n F is os rs ps ov bs ks _ _ _ _ HM.out HN.out hn16).mono ?_; rintro e w1 ⟨rfl, hM1, hC1⟩; have M1 := Lib.hid hM1; have C1 := Lib.hid hC1; clear hM1 hC1))
  first | go_end0 | refine bodyPost_ret (results_none rfl _ _ _) rfl ?_
  exact ⟨rfl, M1.out, C1.out⟩
set_option maxRecDepth 1000000 in
set_option maxHeartbeats 8000000 in
theorem signs_16y (v : Int) (v0 : 0 ≤ v) (v1 : v ≤ 4294967295) (g n : Nat) (F : Foot) (is os rs : List Int) (ps : List Value) (ov : Bool) (bs ks : List Int) (w : World) (h : MS w g F is os rs ps ov bs ks) (hn : is.getD 2 0 = (n : Int)) (hn16 : n < 16) (h0 : is.getD 0 0 = 16) (ht : sgn (sg v) = 1) : Calls Try.prog 86 #[.pointer (some ⟨g, 0, none⟩), .int .u32 v] w fun e w' => e = .returned (.tuple #[]) ∧ MS w' g F is os (rs.set n (sgnV 16 v)) (ps.set 7 (.int .i64 (sgnQ 16 v))) (sgnO 16 v) bs ks ∧ Ch w w' [g] := by
  have hc : sgnC 16 v = true := by simp [sgnC, ht]
  unfold sgnV sgnQ sgnO
  simp only [hc, if_true, Bool.false_eq_true, if_false]
  have e0 : (sgn (sg v) == 1) = true := by simpa using ht
  have c0 := h.m.ci (c := 0) (by omega)
  rw [h0] at c0
  have HM := Lib.hid h
  have HN := Lib.hid hn
  obtain ⟨tv, htv⟩ : ∃ t, sgn (sg v) = t := ⟨_, rfl⟩
  have TC := Lib.hid (test_c v v0 v1)
  rw [htv] at TC
  rw [htv] at e0
  try rw [htv]
  clear h hn h0 hc ht htv
  go_enter Try.func86, Try.ntmps86
  go_wp2_with (first
    | (go_at_call 98; refine (TC.out _).mono ?_; rintro e w2 ⟨rfl, hw2⟩; subst hw2)
    | (go_at_call 104; refine (complement_c v v0 v1 _).mono ?_; rintro e w2 ⟨rfl, hw2⟩; subst hw2)
    | (go_at_call 58; refine (set_m g n F is os rs ps ov bs ks _ _ _ _ HM.out HN.out hn16).mono ?_; rintro e w1 ⟨rfl, hM1, hC1⟩; have M1 := Lib.hid hM1; have C1 := Lib.hid hC1; clear hM1 hC1))
  first | go_end0 | refine bodyPost_ret (results_none rfl _ _ _) rfl ?_
  exact ⟨rfl, M1.out, C1.out⟩
set_option maxRecDepth 1000000 in
set_option maxHeartbeats 8000000 in
theorem signs_16n (v : Int) (v0 : 0 ≤ v) (v1 : v ≤ 4294967295) (g n : Nat) (F : Foot) (is os rs : List Int) (ps : List Value) (ov : Bool) (bs ks : List Int) (w : World) (h : MS w g F is os rs ps ov bs ks) (hn : is.getD 2 0 = (n : Int)) (hn16 : n < 16) (h0 : is.getD 0 0 = 16) (ht : sgn (sg v) ≠ 1) : Calls Try.prog 86 #[.pointer (some ⟨g, 0, none⟩), .int .u32 v] w fun e w' => e = .returned (.tuple #[]) ∧ MS w' g F is os (rs.set n (sgnV 16 v)) (ps.set 7 (.int .i64 (sgnQ 16 v))) (sgnO 16 v) bs ks ∧ Ch w w' [g] := by
  have hc : sgnC 16 v = false := by simp [sgnC, ht]
  unfold sgnV sgnQ sgnO
  simp only [hc, if_true, Bool.false_eq_true, if_false]
  have e0 : (sgn (sg v) == 1) = false := by simpa using ht
  have c0 := h.m.ci (c := 0) (by omega)
  rw [h0] at c0
  have HM := Lib.hid h
  have HN := Lib.hid hn
  obtain ⟨tv, htv⟩ : ∃ t, sgn (sg v) = t := ⟨_, rfl⟩
  have TC := Lib.hid (test_c v v0 v1)
  rw [htv] at TC
  rw [htv] at e0
  try rw [htv]
  clear h hn h0 hc ht htv
  go_enter Try.func86, Try.ntmps86
  go_wp2_with (first
    | (go_at_call 98; refine (TC.out _).mono ?_; rintro e w2 ⟨rfl, hw2⟩; subst hw2)
    | (go_at_call 104; refine (complement_c v v0 v1 _).mono ?_; rintro e w2 ⟨rfl, hw2⟩; subst hw2)
    | (go_at_call 58; refine (set_m g n F is os rs ps ov bs ks _ _ _ _ HM.out HN.out hn16).mono ?_; rintro e w1 ⟨rfl, hM1, hC1⟩; have M1 := Lib.hid hM1; have C1 := Lib.hid hC1; clear hM1 hC1))
  first | go_end0 | refine bodyPost_ret (results_none rfl _ _ _) rfl ?_
  exact ⟨rfl, M1.out, C1.out⟩
set_option maxRecDepth 1000000 in
set_option maxHeartbeats 8000000 in
theorem signs_17y (v : Int) (v0 : 0 ≤ v) (v1 : v ≤ 4294967295) (g n : Nat) (F : Foot) (is os rs : List Int) (ps : List Value) (ov : Bool) (bs ks : List Int) (w : World) (h : MS w g F is os rs ps ov bs ks) (hn : is.getD 2 0 = (n : Int)) (hn16 : n < 16) (h0 : is.getD 0 0 = 17) (ht : sgn (sg v) = 2) : Calls Try.prog 86 #[.pointer (some ⟨g, 0, none⟩), .int .u32 v] w fun e w' => e = .returned (.tuple #[]) ∧ MS w' g F is os (rs.set n (sgnV 17 v)) (ps.set 7 (.int .i64 (sgnQ 17 v))) (sgnO 17 v) bs ks ∧ Ch w w' [g] := by
  have hc : sgnC 17 v = true := by simp [sgnC, ht]
  unfold sgnV sgnQ sgnO
  simp only [hc, if_true, Bool.false_eq_true, if_false]
  have e0 : (sgn (sg v) == 2) = true := by simpa using ht
  have c0 := h.m.ci (c := 0) (by omega)
  rw [h0] at c0
  have HM := Lib.hid h
  have HN := Lib.hid hn
  obtain ⟨tv, htv⟩ : ∃ t, sgn (sg v) = t := ⟨_, rfl⟩
  have TC := Lib.hid (test_c v v0 v1)
  rw [htv] at TC
  rw [htv] at e0
  try rw [htv]
  clear h hn h0 hc ht htv
  go_enter Try.func86, Try.ntmps86
  go_wp2_with (first
    | (go_at_call 98; refine (TC.out _).mono ?_; rintro e w2 ⟨rfl, hw2⟩; subst hw2)
    | (go_at_call 104; refine (complement_c v v0 v1 _).mono ?_; rintro e w2 ⟨rfl, hw2⟩; subst hw2)
    | (go_at_call 58; refine (set_m g n F is os rs ps ov bs ks _ _ _ _ HM.out HN.out hn16).mono ?_; rintro e w1 ⟨rfl, hM1, hC1⟩; have M1 := Lib.hid hM1; have C1 := Lib.hid hC1; clear hM1 hC1))
  first | go_end0 | refine bodyPost_ret (results_none rfl _ _ _) rfl ?_
  exact ⟨rfl, M1.out, C1.out⟩
set_option maxRecDepth 1000000 in
set_option maxHeartbeats 8000000 in
theorem signs_17n (v : Int) (v0 : 0 ≤ v) (v1 : v ≤ 4294967295) (g n : Nat) (F : Foot) (is os rs : List Int) (ps : List Value) (ov : Bool) (bs ks : List Int) (w : World) (h : MS w g F is os rs ps ov bs ks) (hn : is.getD 2 0 = (n : Int)) (hn16 : n < 16) (h0 : is.getD 0 0 = 17) (ht : sgn (sg v) ≠ 2) : Calls Try.prog 86 #[.pointer (some ⟨g, 0, none⟩), .int .u32 v] w fun e w' => e = .returned (.tuple #[]) ∧ MS w' g F is os (rs.set n (sgnV 17 v)) (ps.set 7 (.int .i64 (sgnQ 17 v))) (sgnO 17 v) bs ks ∧ Ch w w' [g] := by
  have hc : sgnC 17 v = false := by simp [sgnC, ht]
  unfold sgnV sgnQ sgnO
  simp only [hc, if_true, Bool.false_eq_true, if_false]
  have e0 : (sgn (sg v) == 2) = false := by simpa using ht
  have c0 := h.m.ci (c := 0) (by omega)
  rw [h0] at c0
  have HM := Lib.hid h
  have HN := Lib.hid hn
  obtain ⟨tv, htv⟩ : ∃ t, sgn (sg v) = t := ⟨_, rfl⟩
  have TC := Lib.hid (test_c v v0 v1)
  rw [htv] at TC
  rw [htv] at e0
  try rw [htv]
  clear h hn h0 hc ht htv
  go_enter Try.func86, Try.ntmps86
  go_wp2_with (first
    | (go_at_call 98; refine (TC.out _).mono ?_; rintro e w2 ⟨rfl, hw2⟩; subst hw2)
    | (go_at_call 104; refine (complement_c v v0 v1 _).mono ?_; rintro e w2 ⟨rfl, hw2⟩; subst hw2)
    | (go_at_call 58; refine (set_m g n F is os rs ps ov bs ks _ _ _ _ HM.out HN.out hn16).mono ?_; rintro e w1 ⟨rfl, hM1, hC1⟩; have M1 := Lib.hid hM1; have C1 := Lib.hid hC1; clear hM1 hC1))
  first | go_end0 | refine bodyPost_ret (results_none rfl _ _ _) rfl ?_
  exact ⟨rfl, M1.out, C1.out⟩
set_option maxRecDepth 1000000 in
set_option maxHeartbeats 8000000 in
theorem signs_18 (v : Int) (v0 : 0 ≤ v) (v1 : v ≤ 4294967295) (g n : Nat) (F : Foot) (is os rs : List Int) (ps : List Value) (ov : Bool) (bs ks : List Int) (w : World) (h : MS w g F is os rs ps ov bs ks) (hn : is.getD 2 0 = (n : Int)) (hn16 : n < 16) (h0 : is.getD 0 0 = 18)  : Calls Try.prog 86 #[.pointer (some ⟨g, 0, none⟩), .int .u32 v] w fun e w' => e = .returned (.tuple #[]) ∧ MS w' g F is os (rs.set n (sgnV 18 v)) (ps.set 7 (.int .i64 (sgnQ 18 v))) (sgnO 18 v) bs ks ∧ Ch w w' [g] := by
  have hc : sgnC 18 v = false := by simp [sgnC]
  unfold sgnV sgnQ sgnO
  simp only [hc, if_true, Bool.false_eq_true, if_false]
  have c0 := h.m.ci (c := 0) (by omega)
  rw [h0] at c0
  have HM := Lib.hid h
  have HN := Lib.hid hn
  obtain ⟨tv, htv⟩ : ∃ t, sgn (sg v) = t := ⟨_, rfl⟩
  have TC := Lib.hid (test_c v v0 v1)
  rw [htv] at TC
  try rw [htv]
  clear h hn h0 hc  htv
  go_enter Try.func86, Try.ntmps86
  go_wp2_with (first
    | (go_at_call 98; refine (TC.out _).mono ?_; rintro e w2 ⟨rfl, hw2⟩; subst hw2)
    | (go_at_call 104; refine (complement_c v v0 v1 _).mono ?_; rintro e w2 ⟨rfl, hw2⟩; subst hw2)
    | (go_at_call 58; refine (set_m g n F is os rs ps ov bs ks _ _ _ _ HM.out HN.out hn16).mono ?_; rintro e w1 ⟨rfl, hM1, hC1⟩; have M1 := Lib.hid hM1; have C1 := Lib.hid hC1; clear hM1 hC1))
  first | go_end0 | refine bodyPost_ret (results_none rfl _ _ _) rfl ?_
  exact ⟨rfl, M1.out, C1.out⟩
theorem signs_m (op v : Int) (v0 : 0 ≤ v) (v1 : v ≤ 4294967295) (g n : Nat) (F : Foot) (is os rs : List Int) (ps : List Value) (ov : Bool) (bs ks : List Int) (w : World) (h : MS w g F is os rs ps ov bs ks) (hn : is.getD 2 0 = (n : Int)) (hn16 : n < 16) (h0 : is.getD 0 0 = op) (hop : op = 16 ∨ op = 17 ∨ op = 18 ∨ op = 19) : Calls Try.prog 86 #[.pointer (some ⟨g, 0, none⟩), .int .u32 v] w fun e w' => e = .returned (.tuple #[]) ∧ MS w' g F is os (rs.set n (sgnV op v)) (ps.set 7 (.int .i64 (sgnQ op v))) (sgnO op v) bs ks ∧ Ch w w' [g] := by
  rcases hop with rfl | rfl | rfl | rfl
  · by_cases ht : sgn (sg v) = 1
    · exact signs_16y v v0 v1 g n F is os rs ps ov bs ks w h hn hn16 h0 ht
    · exact signs_16n v v0 v1 g n F is os rs ps ov bs ks w h hn hn16 h0 ht
  · by_cases ht : sgn (sg v) = 2
    · exact signs_17y v v0 v1 g n F is os rs ps ov bs ks w h hn hn16 h0 ht
    · exact signs_17n v v0 v1 g n F is os rs ps ov bs ks w h hn hn16 h0 ht
  · exact signs_18 v v0 v1 g n F is os rs ps ov bs ks w h hn hn16 h0
  · exact signs_19 v v0 v1 g n F is os rs ps ov bs ks w h hn hn16 h0
end Go.Proofs.Ythjdjbipfdigeaa

