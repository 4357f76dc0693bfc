/- Contracts and laws on the way to the statement, text 13 of 25. Conditions: as each states them. -/
import Derived.Test.YthjdjbipfdigeaaCg1
import Derived.Test.YthjdjbipfdigeaaCg2
import Derived.Test.YthjdjbipfdigeaaCg3
import Derived.Test.YthjdjbipfdigeaaCg5
import Derived.Test.YthjdjbipfdigeaaCg6
import Derived.Test.YthjdjbipfdigeaaCg7
import Derived.Deep.RegionHeld3
import Derived.BigRegion
import Derived.IntWalk
namespace Go.Proofs.Ythjdjbipfdigeaa
open Go.RowKit
set_option maxRecDepth 100000
set_option linter.unusedVariables false
set_option linter.unusedSimpArgs false
set_option maxRecDepth 1000000 in
set_option maxHeartbeats 8000000 in
theorem arith_addl (g n : Nat) (F : Foot) (is os rs : List Int) (ps : List Value) (ov : Bool) (bs ks : List Int) (w : World) (h : MS w g F is os rs ps ov bs ks) (hn : is.getD 2 0 = (n : Int)) (hn16 : n < 16) (v : Int) (hop : ∀ W, MS W g F is os rs ps ov bs ks → Calls Try.prog 85 #[.pointer (some ⟨g, 0, none⟩)] W fun e w' => e = .returned (.int .u32 v) ∧ MS w' g F is os rs ps ov bs ks ∧ Ch W w' []) (v0 : 0 ≤ v) (v1 : v ≤ 4294967295) (ro : ∀ z ∈ os, 0 ≤ z ∧ z ≤ 4294967295) (op : Int) (h0 : is.getD 0 0 = op) (hol : op = 30 ∨ op = 94) : Calls Try.prog 48 #[.pointer (some ⟨g, 0, none⟩)] w fun e w' => e = .returned (.tuple #[]) ∧ MS w' g F is os (rs.set n (lo32 ((os.getD n 0) + v))) (ps.set 7 (.int .i64 (lcc (lo32 ((os.getD n 0) + v)) (decide (4294967296 ≤ (os.getD n 0) + v))))) ov bs ks ∧ Ch w w' [g] := by
  have e28 : (op == 28) = false := by rcases hol with rfl | rfl <;> rfl
  have e29 : (op == 29) = false := by rcases hol with rfl | rfl <;> rfl
  have e92 : (op == 92) = false := by rcases hol with rfl | rfl <;> rfl
  have e93 : (op == 93) = false := by rcases hol with rfl | rfl <;> rfl
  have HOL := Lib.hid hol
  have c0 := h.m.ci (c := 0) (by omega)
  rw [h0] at c0
  have H0 := Lib.hid h0
  have HM := Lib.hid (h.drewN 1)
  have HN := Lib.hid hn
  have D0 := Lib.hid ((Ch.refl w [g]).drewN 1)
  have OC := Lib.hid hop
  have i0 : (n : Int) < 16 := by omega
  have i1 : (0 : Int) ≤ (n : Int) := by omega
  obtain ⟨a, ha⟩ : ∃ a, os.getD n 0 = a := ⟨_, rfl⟩
  have HA := Lib.hid ha
  have ra := getD_in ro n
  rw [ha] at ra
  try rw [ha]
  clear h h0 hn hop ha ro hol
  go_enter Try.func48, Try.ntmps48
  go_upto_region 6 with fail
  clear c0 e28 e29 e92 e93
  have s2 := HM.out.m.ci (c := 2) (by omega)
  rw [HN.out] at s2
  have s12 := HM.out.m.co hn16
  rw [HA.out] at s12
  go_region_held3 (fun w' => w'.cell? ⟨g, 2, none⟩ = some (.int .i64 (n : Int)) ∧ w'.cell? ⟨g, 12 + n, none⟩ = some (.int .u32 a)) (first | exact ⟨s2, s12⟩ | exact ⟨t2, t12⟩) ((go_at_call 85; refine (OC.out _ HM.out).mono ?_; rintro e w5 ⟨rfl, hM, hC⟩; have t2 := hM.m.ci (c := 2) (by omega); rw [HN.out] at t2; have t12 := hM.m.co hn16; rw [HA.out] at t12; have M5 := Lib.hid hM; have C5 := Lib.hid (D0.out.trans (hC.mono (by simp))); clear hM hC))
  clear t2 t12 s2 s12
  have c0 := M5.out.m.ci (c := 0) (by omega)
  rw [H0.out] at c0
  rcases HOL.out with rfl | rfl
  all_goals (clear HOL)
  all_goals
    go_upto_region 27 with fail
    have MD := Lib.hid (M5.out.drewN 1)
    clear c0
    have s2 : w5.drew.cell? ⟨g, 2, none⟩ = some (.int .i64 (n : Int)) := by have hq := MD.out.m.ci (c := 2) (by omega); rw [HN.out] at hq; exact hq
    have s2' : w5.cell? ⟨g, 2, none⟩ = some (.int .i64 (n : Int)) := s2
    have c3 := M5.out.m.cr hn16
    have f3 := M5.out.m.free (28 + n)
    have c7 := M5.out.m.cp (n := 7) (by omega)
    have f7 := M5.out.m.free 51
    go_region_held3 (fun w' => w'.cell? ⟨g, 2, none⟩ = some (.int .i64 (n : Int))) (first | exact s2 | (go_simp; done) | (simp; exact s2')) ((go_at_call 89; refine (addl_c a v ra.1 ra.2 v0 v1 _).mono ?_; rintro e w6 ⟨rfl, hw6⟩; subst hw6))
    go_wp2
    first | go_end0 | refine bodyPost_ret (results_none rfl _ _ _) rfl ?_
    exact ⟨rfl, ((M5.out.setr hn16 _).setp (n := 7) (by omega) _).drewN 1, ((C5.out.setCell (by simp) _).setCell (by simp) _).drewN 1⟩
set_option maxRecDepth 1000000 in
set_option maxHeartbeats 8000000 in
theorem arith_subl (g n : Nat) (F : Foot) (is os rs : List Int) (ps : List Value) (ov : Bool) (bs ks : List Int) (w : World) (h : MS w g F is os rs ps ov bs ks) (hn : is.getD 2 0 = (n : Int)) (hn16 : n < 16) (v : Int) (hop : ∀ W, MS W g F is os rs ps ov bs ks → Calls Try.prog 85 #[.pointer (some ⟨g, 0, none⟩)] W fun e w' => e = .returned (.int .u32 v) ∧ MS w' g F is os rs ps ov bs ks ∧ Ch W w' []) (v0 : 0 ≤ v) (v1 : v ≤ 4294967295) (ro : ∀ z ∈ os, 0 ≤ z ∧ z ≤ 4294967295) (op : Int) (h0 : is.getD 0 0 = op) (hol : op = 31 ∨ op = 95) : Calls Try.prog 48 #[.pointer (some ⟨g, 0, none⟩)] w fun e w' => e = .returned (.tuple #[]) ∧ MS w' g F is os (rs.set n (lo32 ((os.getD n 0) - v))) (ps.set 7 (.int .i64 (lcc (lo32 ((os.getD n 0) - v)) (decide (v ≤ (os.getD n 0)))))) ov bs ks ∧ Ch w w' [g] := by
  have e28 : (op == 28) = false := by rcases hol with rfl | rfl <;> rfl
  have e29 : (op == 29) = false := by rcases hol with rfl | rfl <;> rfl
  have e92 : (op == 92) = false := by rcases hol with rfl | rfl <;> rfl
  have e93 : (op == 93) = false := by rcases hol with rfl | rfl <;> rfl
  have HOL := Lib.hid hol
  have c0 := h.m.ci (c := 0) (by omega)
  rw [h0] at c0
  have H0 := Lib.hid h0
  have HM := Lib.hid (h.drewN 1)
  have HN := Lib.hid hn
  have D0 := Lib.hid ((Ch.refl w [g]).drewN 1)
  have OC := Lib.hid hop
  have i0 : (n : Int) < 16 := by omega
  have i1 : (0 : Int) ≤ (n : Int) := by omega
  obtain ⟨a, ha⟩ : ∃ a, os.getD n 0 = a := ⟨_, rfl⟩
  have HA := Lib.hid ha
  have ra := getD_in ro n
  rw [ha] at ra
  try rw [ha]
  clear h h0 hn hop ha ro hol
  go_enter Try.func48, Try.ntmps48
  go_upto_region 6 with fail
  clear c0 e28 e29 e92 e93
  have s2 := HM.out.m.ci (c := 2) (by omega)
  rw [HN.out] at s2
  have s12 := HM.out.m.co hn16
  rw [HA.out] at s12
  go_region_held3 (fun w' => w'.cell? ⟨g, 2, none⟩ = some (.int .i64 (n : Int)) ∧ w'.cell? ⟨g, 12 + n, none⟩ = some (.int .u32 a)) (first | exact ⟨s2, s12⟩ | exact ⟨t2, t12⟩) ((go_at_call 85; refine (OC.out _ HM.out).mono ?_; rintro e w5 ⟨rfl, hM, hC⟩; have t2 := hM.m.ci (c := 2) (by omega); rw [HN.out] at t2; have t12 := hM.m.co hn16; rw [HA.out] at t12; have M5 := Lib.hid hM; have C5 := Lib.hid (D0.out.trans (hC.mono (by simp))); clear hM hC))
  clear t2 t12 s2 s12
  have c0 := M5.out.m.ci (c := 0) (by omega)
  rw [H0.out] at c0
  rcases HOL.out with rfl | rfl
  all_goals (clear HOL)
  all_goals
    go_upto_region 30 with fail
    have MD := Lib.hid (M5.out.drewN 1)
    clear c0
    have s2 : w5.drew.cell? ⟨g, 2, none⟩ = some (.int .i64 (n : Int)) := by have hq := MD.out.m.ci (c := 2) (by omega); rw [HN.out] at hq; exact hq
    have s2' : w5.cell? ⟨g, 2, none⟩ = some (.int .i64 (n : Int)) := s2
    have c3 := M5.out.m.cr hn16
    have f3 := M5.out.m.free (28 + n)
    have c7 := M5.out.m.cp (n := 7) (by omega)
    have f7 := M5.out.m.free 51
    go_region_held3 (fun w' => w'.cell? ⟨g, 2, none⟩ = some (.int .i64 (n : Int))) (first | exact s2 | (go_simp; done) | (simp; exact s2')) ((go_at_call 90; refine (subl_c a v ra.1 ra.2 v0 v1 _).mono ?_; rintro e w6 ⟨rfl, hw6⟩; subst hw6))
    go_wp2
    first | go_end0 | refine bodyPost_ret (results_none rfl _ _ _) rfl ?_
    exact ⟨rfl, ((M5.out.setr hn16 _).setp (n := 7) (by omega) _).drewN 1, ((C5.out.setCell (by simp) _).setCell (by simp) _).drewN 1⟩
set_option maxRecDepth 1000000 in
set_option maxHeartbeats 8000000 in
theorem arith_cmp (g n : Nat) (F : Foot) (is os rs : List Int) (ps : List Value) (ov : Bool) (bs ks : List Int) (w : World) (h : MS w g F is os rs ps ov bs ks) (hn : is.getD 2 0 = (n : Int)) (hn16 : n < 16) (v : Int) (hop : ∀ W, MS W g F is os rs ps ov bs ks → Calls Try.prog 85 #[.pointer (some ⟨g, 0, none⟩)] W fun e w' => e = .returned (.int .u32 v) ∧ MS w' g F is os rs ps ov bs ks ∧ Ch W w' []) (v0 : 0 ≤ v) (v1 : v ≤ 4294967295) (ro : ∀ z ∈ os, 0 ≤ z ∧ z ≤ 4294967295) (op : Int) (h0 : is.getD 0 0 = op) (hol : op = 25 ∨ op = 89 ∨ op = 73) : Calls Try.prog 48 #[.pointer (some ⟨g, 0, none⟩)] w fun e w' => e = .returned (.tuple #[]) ∧ MS w' g F is os rs (ps.set 7 (.int .i64 (sgn (sg (os.getD n 0) - sg v)))) ov bs ks ∧ Ch w w' [g] := by
  have e28 : (op == 28) = false := by rcases hol with rfl | rfl | rfl <;> rfl
  have e29 : (op == 29) = false := by rcases hol with rfl | rfl | rfl <;> rfl
  have e92 : (op == 92) = false := by rcases hol with rfl | rfl | rfl <;> rfl
  have e93 : (op == 93) = false := by rcases hol with rfl | rfl | rfl <;> rfl
  have HOL := Lib.hid hol
  have c0 := h.m.ci (c := 0) (by omega)
  rw [h0] at c0
  have H0 := Lib.hid h0
  have HM := Lib.hid (h.drewN 1)
  have HN := Lib.hid hn
  have D0 := Lib.hid ((Ch.refl w [g]).drewN 1)
  have OC := Lib.hid hop
  have i0 : (n : Int) < 16 := by omega
  have i1 : (0 : Int) ≤ (n : Int) := by omega
  obtain ⟨a, ha⟩ : ∃ a, os.getD n 0 = a := ⟨_, rfl⟩
  have HA := Lib.hid ha
  have ra := getD_in ro n
  rw [ha] at ra
  try rw [ha]
  clear h h0 hn hop ha ro hol
  go_enter Try.func48, Try.ntmps48
  go_upto_region 6 with fail
  clear c0 e28 e29 e92 e93
  have s2 := HM.out.m.ci (c := 2) (by omega)
  rw [HN.out] at s2
  have s12 := HM.out.m.co hn16
  rw [HA.out] at s12
  go_region_held3 (fun w' => w'.cell? ⟨g, 2, none⟩ = some (.int .i64 (n : Int)) ∧ w'.cell? ⟨g, 12 + n, none⟩ = some (.int .u32 a)) (first | exact ⟨s2, s12⟩ | exact ⟨t2, t12⟩) ((go_at_call 85; refine (OC.out _ HM.out).mono ?_; rintro e w5 ⟨rfl, hM, hC⟩; have t2 := hM.m.ci (c := 2) (by omega); rw [HN.out] at t2; have t12 := hM.m.co hn16; rw [HA.out] at t12; have M5 := Lib.hid hM; have C5 := Lib.hid (D0.out.trans (hC.mono (by simp))); clear hM hC))
  clear t2 t12 s2 s12
  have c0 := M5.out.m.ci (c := 0) (by omega)
  rw [H0.out] at c0
  rcases HOL.out with rfl | rfl | rfl
  all_goals (clear HOL)
  all_goals
    have c7 := M5.out.m.cp (n := 7) (by omega)
    have f7 := M5.out.m.free 51
    go_wp2_with (go_at_call 55; refine (compare_c a v ra.1 ra.2 v0 v1 _).mono ?_; rintro e w2 ⟨rfl, hw2⟩; subst hw2)
    first | go_end0 | refine bodyPost_ret (results_none rfl _ _ _) rfl ?_
    exact ⟨rfl, M5.out.setp (n := 7) (by omega) _, C5.out.setCell (by simp) _⟩
set_option maxRecDepth 1000000 in
set_option maxHeartbeats 8000000 in
theorem arith_cmpl (g n : Nat) (F : Foot) (is os rs : List Int) (ps : List Value) (ov : Bool) (bs ks : List Int) (w : World) (h : MS w g F is os rs ps ov bs ks) (hn : is.getD 2 0 = (n : Int)) (hn16 : n < 16) (v : Int) (hop : ∀ W, MS W g F is os rs ps ov bs ks → Calls Try.prog 85 #[.pointer (some ⟨g, 0, none⟩)] W fun e w' => e = .returned (.int .u32 v) ∧ MS w' g F is os rs ps ov bs ks ∧ Ch W w' []) (v0 : 0 ≤ v) (v1 : v ≤ 4294967295) (ro : ∀ z ∈ os, 0 ≤ z ∧ z ≤ 4294967295) (op : Int) (h0 : is.getD 0 0 = op) (hol : op = 21 ∨ op = 85) : Calls Try.prog 48 #[.pointer (some ⟨g, 0, none⟩)] w fun e w' => e = .returned (.tuple #[]) ∧ MS w' g F is os rs (ps.set 7 (.int .i64 (sgn ((os.getD n 0) - v)))) ov bs ks ∧ Ch w w' [g] := by
  have e28 : (op == 28) = false := by rcases hol with rfl | rfl <;> rfl
  have e29 : (op == 29) = false := by rcases hol with rfl | rfl <;> rfl
  have e92 : (op == 92) = false := by rcases hol with rfl | rfl <;> rfl
  have e93 : (op == 93) = false := by rcases hol with rfl | rfl <;> rfl
  have HOL := Lib.hid hol
  have c0 := h.m.ci (c := 0) (by omega)
  rw [h0] at c0
  have H0 := Lib.hid h0
  have HM := Lib.hid (h.drewN 1)
  have HN := Lib.hid hn
  have D0 := Lib.hid ((Ch.refl w [g]).drewN 1)
  have OC := Lib.hid hop
  have i0 : (n : Int) < 16 := by omega
  have i1 : (0 : Int) ≤ (n : Int) := by omega
  obtain ⟨a, ha⟩ : ∃ a, os.getD n 0 = a := ⟨_, rfl⟩
  have HA := Lib.hid ha
  have ra := getD_in ro n
  rw [ha] at ra
  try rw [ha]
  clear h h0 hn hop ha ro hol
  go_enter Try.func48, Try.ntmps48
  go_upto_region 6 with fail
  clear c0 e28 e29 e92 e93
  have s2 := HM.out.m.ci (c := 2) (by omega)
  rw [HN.out] at s2
  have s12 := HM.out.m.co hn16
  rw [HA.out] at s12
  go_region_held3 (fun w' => w'.cell? ⟨g, 2, none⟩ = some (.int .i64 (n : Int)) ∧ w'.cell? ⟨g, 12 + n, none⟩ = some (.int .u32 a)) (first | exact ⟨s2, s12⟩ | exact ⟨t2, t12⟩) ((go_at_call 85; refine (OC.out _ HM.out).mono ?_; rintro e w5 ⟨rfl, hM, hC⟩; have t2 := hM.m.ci (c := 2) (by omega); rw [HN.out] at t2; have t12 := hM.m.co hn16; rw [HA.out] at t12; have M5 := Lib.hid hM; have C5 := Lib.hid (D0.out.trans (hC.mono (by simp))); clear hM hC))
  clear t2 t12 s2 s12
  have c0 := M5.out.m.ci (c := 0) (by omega)
  rw [H0.out] at c0
  rcases HOL.out with rfl | rfl
  all_goals (clear HOL)
  all_goals
    have c7 := M5.out.m.cp (n := 7) (by omega)
    have f7 := M5.out.m.free 51
    go_wp2_with (go_at_call 73; refine (comparel_c a v ra.1 ra.2 v0 v1 _).mono ?_; rintro e w2 ⟨rfl, hw2⟩; subst hw2)
    first | go_end0 | refine bodyPost_ret (results_none rfl _ _ _) rfl ?_
    exact ⟨rfl, M5.out.setp (n := 7) (by omega) _, C5.out.setCell (by simp) _⟩
set_option maxRecDepth 1000000 in
set_option maxHeartbeats 8000000 in
theorem arith_and (g n : Nat) (F : Foot) (is os rs : List Int) (ps : List Value) (ov : Bool) (bs ks : List Int) (w : World) (h : MS w g F is os rs ps ov bs ks) (hn : is.getD 2 0 = (n : Int)) (hn16 : n < 16) (v : Int) (hop : ∀ W, MS W g F is os rs ps ov bs ks → Calls Try.prog 85 #[.pointer (some ⟨g, 0, none⟩)] W fun e w' => e = .returned (.int .u32 v) ∧ MS w' g F is os rs ps ov bs ks ∧ Ch W w' []) (v0 : 0 ≤ v) (v1 : v ≤ 4294967295) (ro : ∀ z ∈ os, 0 ≤ z ∧ z ≤ 4294967295) (op : Int) (h0 : is.getD 0 0 = op) (hol : op = 20 ∨ op = 84) : Calls Try.prog 48 #[.pointer (some ⟨g, 0, none⟩)] w fun e w' => e = .returned (.tuple #[]) ∧ MS w' g F is os (rs.set n (bits .and .u32 (os.getD n 0) v)) (ps.set 7 (.int .i64 (if bits .and .u32 (os.getD n 0) v = 0 then 0 else 1))) false bs ks ∧ Ch w w' [g] := by
  have e28 : (op == 28) = false := by rcases hol with rfl | rfl <;> rfl
  have e29 : (op == 29) = false := by rcases hol with rfl | rfl <;> rfl
  have e92 : (op == 92) = false := by rcases hol with rfl | rfl <;> rfl
  have e93 : (op == 93) = false := by rcases hol with rfl | rfl <;> rfl
  have HOL := Lib.hid hol
  have c0 := h.m.ci (c := 0) (by omega)
  rw [h0] at c0
  have H0 := Lib.hid h0
  have HM := Lib.hid (h.drewN 1)
  have HN := Lib.hid hn
  have D0 := Lib.hid ((Ch.refl w [g]).drewN 1)
  have OC := Lib.hid hop
  have i0 : (n : Int) < 16 := by omega
  have i1 : (0 : Int) ≤ (n : Int) := by omega
  obtain ⟨a, ha⟩ : ∃ a, os.getD n 0 = a := ⟨_, rfl⟩
  have HA := Lib.hid ha
  have ra := getD_in ro n
  rw [ha] at ra
  try rw [ha]
  obtain ⟨z, hz⟩ : ∃ z, bits .and .u32 a v = z := ⟨_, rfl⟩
  rw [hz]
  obtain ⟨cc, hcc⟩ : ∃ c, (if z = 0 then (0 : Int) else 1) = c := ⟨_, rfl⟩
  have BC := Lib.hid (fun W (hM : MS W g F is os rs ps ov bs ks) => bits_m z g n F is os rs ps ov bs ks W hM hn hn16)
  simp only [hcc] at BC
  rw [hcc]
  clear hcc
  clear h h0 hn hop ha ro hol
  go_enter Try.func48, Try.ntmps48
  go_upto_region 6 with fail
  clear c0 e28 e29 e92 e93
  have s2 := HM.out.m.ci (c := 2) (by omega)
  rw [HN.out] at s2
  have s12 := HM.out.m.co hn16
  rw [HA.out] at s12
  go_region_held3 (fun w' => w'.cell? ⟨g, 2, none⟩ = some (.int .i64 (n : Int)) ∧ w'.cell? ⟨g, 12 + n, none⟩ = some (.int .u32 a)) (first | exact ⟨s2, s12⟩ | exact ⟨t2, t12⟩) ((go_at_call 85; refine (OC.out _ HM.out).mono ?_; rintro e w5 ⟨rfl, hM, hC⟩; have t2 := hM.m.ci (c := 2) (by omega); rw [HN.out] at t2; have t12 := hM.m.co hn16; rw [HA.out] at t12; have M5 := Lib.hid hM; have C5 := Lib.hid (D0.out.trans (hC.mono (by simp))); clear hM hC))
  clear t2 t12 s2 s12
  have c0 := M5.out.m.ci (c := 0) (by omega)
  rw [H0.out] at c0
  rcases HOL.out with rfl | rfl
  all_goals (clear HOL)
  all_goals
    go_wp2_with (go_at_call 91; refine (BC.out _ M5.out).mono ?_; rintro e w6 ⟨rfl, hM6, hC6⟩; have M6 := Lib.hid hM6; have C6 := Lib.hid (C5.out.trans hC6); clear hM6 hC6)
    first | go_end0 | refine bodyPost_ret (results_none rfl _ _ _) rfl ?_
    exact ⟨rfl, M6.out, C6.out⟩
set_option maxRecDepth 1000000 in
set_option maxHeartbeats 8000000 in
theorem arith_or (g n : Nat) (F : Foot) (is os rs : List Int) (ps : List Value) (ov : Bool) (bs ks : List Int) (w : World) (h : MS w g F is os rs ps ov bs ks) (hn : is.getD 2 0 = (n : Int)) (hn16 : n < 16) (v : Int) (hop : ∀ W, MS W g F is os rs ps ov bs ks → Calls Try.prog 85 #[.pointer (some ⟨g, 0, none⟩)] W fun e w' => e = .returned (.int .u32 v) ∧ MS w' g F is os rs ps ov bs ks ∧ Ch W w' []) (v0 : 0 ≤ v) (v1 : v ≤ 4294967295) (ro : ∀ z ∈ os, 0 ≤ z ∧ z ≤ 4294967295) (op : Int) (h0 : is.getD 0 0 = op) (hol : op = 22 ∨ op = 86) : Calls Try.prog 48 #[.pointer (some ⟨g, 0, none⟩)] w fun e w' => e = .returned (.tuple #[]) ∧ MS w' g F is os (rs.set n (bits .or .u32 (os.getD n 0) v)) (ps.set 7 (.int .i64 (if bits .or .u32 (os.getD n 0) v = 0 then 0 else 1))) false bs ks ∧ Ch w w' [g] := by
  have e28 : (op == 28) = false := by rcases hol with rfl | rfl <;> rfl
  have e29 : (op == 29) = false := by rcases hol with rfl | rfl <;> rfl
  have e92 : (op == 92) = false := by rcases hol with rfl | rfl <;> rfl
  have e93 : (op == 93) = false := by rcases hol with rfl | rfl <;> rfl
  have HOL := Lib.hid hol
  have c0 := h.m.ci (c := 0) (by omega)
  rw [h0] at c0
  have H0 := Lib.hid h0
  have HM := Lib.hid (h.drewN 1)
  have HN := Lib.hid hn
  have D0 := Lib.hid ((Ch.refl w [g]).drewN 1)
  have OC := Lib.hid hop
  have i0 : (n : Int) < 16 := by omega
  have i1 : (0 : Int) ≤ (n : Int) := by omega
  obtain ⟨a, ha⟩ : ∃ a, os.getD n 0 = a := ⟨_, rfl⟩
  have HA := Lib.hid ha
  have ra := getD_in ro n
  rw [ha] at ra
  try rw [ha]
  obtain ⟨z, hz⟩ : ∃ z, bits .or .u32 a v = z := ⟨_, rfl⟩
  rw [hz]
  obtain ⟨cc, hcc⟩ : ∃ c, (if z = 0 then (0 : Int) else 1) = c := ⟨_, rfl⟩
  have BC := Lib.hid (fun W (hM : MS W g F is os rs ps ov bs ks) => bits_m z g n F is os rs ps ov bs ks W hM hn hn16)
  simp only [hcc] at BC
  rw [hcc]
  clear hcc
  clear h h0 hn hop ha ro hol
  go_enter Try.func48, Try.ntmps48
  go_upto_region 6 with fail
  clear c0 e28 e29 e92 e93
  have s2 := HM.out.m.ci (c := 2) (by omega)
  rw [HN.out] at s2
  have s12 := HM.out.m.co hn16
  rw [HA.out] at s12
  go_region_held3 (fun w' => w'.cell? ⟨g, 2, none⟩ = some (.int .i64 (n : Int)) ∧ w'.cell? ⟨g, 12 + n, none⟩ = some (.int .u32 a)) (first | exact ⟨s2, s12⟩ | exact ⟨t2, t12⟩) ((go_at_call 85; refine (OC.out _ HM.out).mono ?_; rintro e w5 ⟨rfl, hM, hC⟩; have t2 := hM.m.ci (c := 2) (by omega); rw [HN.out] at t2; have t12 := hM.m.co hn16; rw [HA.out] at t12; have M5 := Lib.hid hM; have C5 := Lib.hid (D0.out.trans (hC.mono (by simp))); clear hM hC))
  clear t2 t12 s2 s12
  have c0 := M5.out.m.ci (c := 0) (by omega)
  rw [H0.out] at c0
  rcases HOL.out with rfl | rfl
  all_goals (clear HOL)
  all_goals
    go_wp2_with (go_at_call 91; refine (BC.out _ M5.out).mono ?_; rintro e w6 ⟨rfl, hM6, hC6⟩; have M6 := Lib.hid hM6; have C6 := Lib.hid (C5.out.trans hC6); clear hM6 hC6)
    first | go_end0 | refine bodyPost_ret (results_none rfl _ _ _) rfl ?_
    exact ⟨rfl, M6.out, C6.out⟩
set_option maxRecDepth 1000000 in
set_option maxHeartbeats 8000000 in
theorem arith_xor (g n : Nat) (F : Foot) (is os rs : List Int) (ps : List Value) (ov : Bool) (bs ks : List Int) (w : World) (h : MS w g F is os rs ps ov bs ks) (hn : is.getD 2 0 = (n : Int)) (hn16 : n < 16) (v : Int) (hop : ∀ W, MS W g F is os rs ps ov bs ks → Calls Try.prog 85 #[.pointer (some ⟨g, 0, none⟩)] W fun e w' => e = .returned (.int .u32 v) ∧ MS w' g F is os rs ps ov bs ks ∧ Ch W w' []) (v0 : 0 ≤ v) (v1 : v ≤ 4294967295) (ro : ∀ z ∈ os, 0 ≤ z ∧ z ≤ 4294967295) (op : Int) (h0 : is.getD 0 0 = op) (hol : op = 23 ∨ op = 87) : Calls Try.prog 48 #[.pointer (some ⟨g, 0, none⟩)] w fun e w' => e = .returned (.tuple #[]) ∧ MS w' g F is os (rs.set n (bits .xor .u32 (os.getD n 0) v)) (ps.set 7 (.int .i64 (if bits .xor .u32 (os.getD n 0) v = 0 then 0 else 1))) false bs ks ∧ Ch w w' [g] := by
  have e28 : (op == 28) = false := by rcases hol with rfl | rfl <;> rfl
  have e29 : (op == 29) = false := by rcases hol with rfl | rfl <;> rfl
  have e92 : (op == 92) = false := by rcases hol with rfl | rfl <;> rfl
  have e93 : (op == 93) = false := by rcases hol with rfl | rfl <;> rfl
  have HOL := Lib.hid hol
  have c0 := h.m.ci (c := 0) (by omega)
  rw [h0] at c0
  have H0 := Lib.hid h0
  have HM := Lib.hid (h.drewN 1)
  have HN := Lib.hid hn
  have D0 := Lib.hid ((Ch.refl w [g]).drewN 1)
  have OC := Lib.hid hop
  have i0 : (n : Int) < 16 := by omega
  have i1 : (0 : Int) ≤ (n : Int) := by omega
  obtain ⟨a, ha⟩ : ∃ a, os.getD n 0 = a := ⟨_, rfl⟩
  have HA := Lib.hid ha
  have ra := getD_in ro n
  rw [ha] at ra
  try rw [ha]
  obtain ⟨z, hz⟩ : ∃ z, bits .xor .u32 a v = z := ⟨_, rfl⟩
  rw [hz]
  obtain ⟨cc, hcc⟩ : ∃ c, (if z = 0 then (0 : Int) else 1) = c := ⟨_, rfl⟩
  have BC := Lib.hid (fun W (hM : MS W g F is os rs ps ov bs ks) => bits_m z g n F is os rs ps ov bs ks W hM hn hn16)
  simp only [hcc] at BC
  rw [hcc]
  clear hcc
  clear h h0 hn hop ha ro hol
  go_enter Try.func48, Try.ntmps48
  go_upto_region 6 with fail
  clear c0 e28 e29 e92 e93
  have s2 := HM.out.m.ci (c := 2) (by omega)
  rw [HN.out] at s2
  have s12 := HM.out.m.co hn16
  rw [HA.out] at s12
  go_region_held3 (fun w' => w'.cell? ⟨g, 2, none⟩ = some (.int .i64 (n : Int)) ∧ w'.cell? ⟨g, 12 + n, none⟩ = some (.int .u32 a)) (first | exact ⟨s2, s12⟩ | exact ⟨t2, t12⟩) ((go_at_call 85; refine (OC.out _ HM.out).mono ?_; rintro e w5 ⟨rfl, hM, hC⟩; have t2 := hM.m.ci (c := 2) (by omega); rw [HN.out] at t2; have t12 := hM.m.co hn16; rw [HA.out] at t12; have M5 := Lib.hid hM; have C5 := Lib.hid (D0.out.trans (hC.mono (by simp))); clear hM hC))
  clear t2 t12 s2 s12
  have c0 := M5.out.m.ci (c := 0) (by omega)
  rw [H0.out] at c0
  rcases HOL.out with rfl | rfl
  all_goals (clear HOL)
  all_goals
    go_wp2_with (go_at_call 91; refine (BC.out _ M5.out).mono ?_; rintro e w6 ⟨rfl, hM6, hC6⟩; have M6 := Lib.hid hM6; have C6 := Lib.hid (C5.out.trans hC6); clear hM6 hC6)
    first | go_end0 | refine bodyPost_ret (results_none rfl _ _ _) rfl ?_
    exact ⟨rfl, M6.out, C6.out⟩
set_option maxRecDepth 1000000 in
set_option maxHeartbeats 8000000 in
theorem arith_mh (g n : Nat) (F : Foot) (is os rs : List Int) (ps : List Value) (ov : Bool) (bs ks : List Int) (w : World) (h : MS w g F is os rs ps ov bs ks) (hn : is.getD 2 0 = (n : Int)) (hn16 : n < 16) (v : Int) (hop : ∀ W, MS W g F is os rs ps ov bs ks → Calls Try.prog 85 #[.pointer (some ⟨g, 0, none⟩)] W fun e w' => e = .returned (.int .u32 v) ∧ MS w' g F is os rs ps ov bs ks ∧ Ch W w' []) (v0 : 0 ≤ v) (v1 : v ≤ 4294967295) (ro : ∀ z ∈ os, 0 ≤ z ∧ z ≤ 4294967295) (op : Int) (h0 : is.getD 0 0 = op) (hol : op = 76) : Calls Try.prog 48 #[.pointer (some ⟨g, 0, none⟩)] w fun e w' => e = .returned (.tuple #[]) ∧ MS w' g F is os (rs.set n (lo32 (sg (os.getD n 0) * sg v))) ps ov bs ks ∧ Ch w w' [g] := by
  have e28 : (op == 28) = false := by rcases hol with rfl <;> rfl
  have e29 : (op == 29) = false := by rcases hol with rfl <;> rfl
  have e92 : (op == 92) = false := by rcases hol with rfl <;> rfl
  have e93 : (op == 93) = false := by rcases hol with rfl <;> rfl
  have HOL := Lib.hid hol
  have c0 := h.m.ci (c := 0) (by omega)
  rw [h0] at c0
  have H0 := Lib.hid h0
  have HM := Lib.hid (h.drewN 1)
  have HN := Lib.hid hn
  have D0 := Lib.hid ((Ch.refl w [g]).drewN 1)
  have OC := Lib.hid hop
  have i0 : (n : Int) < 16 := by omega
  have i1 : (0 : Int) ≤ (n : Int) := by omega
  obtain ⟨a, ha⟩ : ∃ a, os.getD n 0 = a := ⟨_, rfl⟩
  have HA := Lib.hid ha
  have ra := getD_in ro n
  rw [ha] at ra
  try rw [ha]
  clear h h0 hn hop ha ro hol
  go_enter Try.func48, Try.ntmps48
  go_upto_region 6 with fail
  clear c0 e28 e29 e92 e93
  have s2 := HM.out.m.ci (c := 2) (by omega)
  rw [HN.out] at s2
  have s12 := HM.out.m.co hn16
  rw [HA.out] at s12
  go_region_held3 (fun w' => w'.cell? ⟨g, 2, none⟩ = some (.int .i64 (n : Int)) ∧ w'.cell? ⟨g, 12 + n, none⟩ = some (.int .u32 a)) (first | exact ⟨s2, s12⟩ | exact ⟨t2, t12⟩) ((go_at_call 85; refine (OC.out _ HM.out).mono ?_; rintro e w5 ⟨rfl, hM, hC⟩; have t2 := hM.m.ci (c := 2) (by omega); rw [HN.out] at t2; have t12 := hM.m.co hn16; rw [HA.out] at t12; have M5 := Lib.hid hM; have C5 := Lib.hid (D0.out.trans (hC.mono (by simp))); clear hM hC))
  clear t2 t12 s2 s12
  have c0 := M5.out.m.ci (c := 0) (by omega)
  rw [H0.out] at c0
  obtain rfl := HOL.out
  go_upto_region 48 with fail
  have MD := Lib.hid (M5.out.drewN 1)
  clear c0
  have s2 : w5.drew.cell? ⟨g, 2, none⟩ = some (.int .i64 (n : Int)) := by have hq := MD.out.m.ci (c := 2) (by omega); rw [HN.out] at hq; exact hq
  have s2' : w5.cell? ⟨g, 2, none⟩ = some (.int .i64 (n : Int)) := s2
  have c3 := M5.out.m.cr hn16
  have f3 := M5.out.m.free (28 + n)
  have c7 := M5.out.m.cp (n := 7) (by omega)
  have f7 := M5.out.m.free 51
  go_region_held3 (fun w' => w'.cell? ⟨g, 2, none⟩ = some (.int .i64 (n : Int))) (first | exact s2 | (go_simp; done) | (simp; exact s2')) ((go_at_call 92; refine (mul_c a v ra.1 ra.2 v0 v1 _).mono ?_; rintro e w6 ⟨rfl, hw6⟩; subst hw6))
  go_wp2
  first | go_end0 | refine bodyPost_ret (results_none rfl _ _ _) rfl ?_
  exact ⟨rfl, (M5.out.setr hn16 _).drewN 1, (C5.out.setCell (by simp) _).drewN 1⟩
end Go.Proofs.Ythjdjbipfdigeaa

namespace Go.Proofs.Ythjdjbipfdigeaa
open Go.RowKit
set_option maxRecDepth 100000
set_option linter.unusedVariables false
set_option linter.unusedSimpArgs false
set_option maxRecDepth 1000000 in
set_option maxHeartbeats 8000000 in
theorem shift_odd (g n : Nat) (F : Foot) (is os rs : List Int) (ps : List Value) (ov : Bool) (bs ks : List Int) (a : Int) (w : World) (h : MS w g F is os rs ps ov bs ks) (hn : is.getD 2 0 = (n : Int)) (hn16 : n < 16) (hsec : ∀ W, MS W g F is os rs ps ov bs ks → Calls Try.prog 44 #[.pointer (some ⟨g, 0, none⟩)] W fun e w' => e = .returned (.int .i64 a) ∧ Ch W w' []) (ha0 : 0 ≤ a) (ha1 : a ≤ 16777215) (ro : ∀ z ∈ os, 0 ≤ z ∧ z ≤ 4294967295) (op : Int) (h0 : is.getD 0 0 = op) (hop : 140 ≤ op) (hev : n % 2 = 1) : Calls Try.prog 43 #[.pointer (some ⟨g, 0, none⟩)] w fun e w' => e = .panicked [{ v := .iface 65 (.int .i64 6), recovered := false }] ∧ MS w' g F is os rs ps ov bs ks ∧ Ch w w' [g] := by
  have s2 : w.cell? ⟨g, 2, none⟩ = some (.int .i64 (n : Int)) := by have hq' := h.m.ci (c := 2) (by omega); rw [hn] at hq'; exact hq'
  have HM := Lib.hid (h.drewN 1)
  have D0 := Lib.hid ((Ch.refl w [g]).drewN 1)
  have SC := Lib.hid hsec
  have H0 := Lib.hid h0
  have HN := Lib.hid hn
  have i0 : (n : Int) < 16 := by omega
  have i1 : (0 : Int) ≤ (n : Int) := by omega
  have e0 : ¬ op < 140 := by omega
  have e1 : ((n : Int) % 2 == 0) = false := by simp; omega
  have e2 : IntKind.i64.wrap ((n : Int).tmod 2) = (n : Int) % 2 := by rw [Int.tmod_eq_emod_of_nonneg (by omega)]; exact wrap_i64_id (by omega) (by omega)
  have n2 : (2 : Int) ≠ 0 := by omega
  clear h h0 hn hsec ro hop hev
  go_enter Try.func43, Try.ntmps43
  go_upto_region 0 with fail
  go_region_held3 (fun w' => w'.cell? ⟨g, 2, none⟩ = some (.int .i64 (n : Int))) (first | exact s2 | exact t2) ((go_at_call 44; refine (SC.out _ HM.out).mono ?_; rintro e w1 ⟨rfl, hcs⟩; have M1 := Lib.hid (HM.out.ch hcs); have C1 := Lib.hid (D0.out.trans (hcs.mono (by simp))); have t2 : w1.cell? ⟨g, 2, none⟩ = some (.int .i64 (n : Int)) := (by have hq := M1.out.m.ci (c := 2) (by omega); rw [HN.out] at hq; exact hq); clear hcs))
  clear s2 t2
  have c0 := M1.out.m.ci (c := 0) (by omega)
  rw [H0.out] at c0
  go_wp2_with (go_at_call 60; refine (need_no _ _).mono ?_; rintro e wx ⟨rfl, hwx⟩; subst hwx)
  exact ⟨rfl, rfl, M1.out, C1.out⟩
set_option maxRecDepth 1000000 in
set_option maxHeartbeats 8000000 in
theorem shift_136 (g n : Nat) (F : Foot) (is os rs : List Int) (ps : List Value) (ov : Bool) (bs ks : List Int) (a : Int) (w : World) (h : MS w g F is os rs ps ov bs ks) (hn : is.getD 2 0 = (n : Int)) (hn16 : n < 16) (hsec : ∀ W, MS W g F is os rs ps ov bs ks → Calls Try.prog 44 #[.pointer (some ⟨g, 0, none⟩)] W fun e w' => e = .returned (.int .i64 a) ∧ Ch W w' []) (ha0 : 0 ≤ a) (ha1 : a ≤ 16777215) (ro : ∀ z ∈ os, 0 ≤ z ∧ z ≤ 4294967295) (h0 : is.getD 0 0 = 136) : Calls Try.prog 43 #[.pointer (some ⟨g, 0, none⟩)] w fun e w' => e = .returned (.tuple #[]) ∧ MS w' g F is os (rs.set n (slg (os.getD n 0) (plc a) false)) ps ov bs ks ∧ Ch w w' [g] := by
  have s2 : w.cell? ⟨g, 2, none⟩ = some (.int .i64 (n : Int)) := by have hq' := h.m.ci (c := 2) (by omega); rw [hn] at hq'; exact hq'
  have HM := Lib.hid (h.drewN 1)
  have D0 := Lib.hid ((Ch.refl w [g]).drewN 1)
  have SC := Lib.hid hsec
  have H0 := Lib.hid h0
  have HN := Lib.hid hn
  have i0 : (n : Int) < 16 := by omega
  have i1 : (0 : Int) ≤ (n : Int) := by omega
  have ra := getD_in ro n
  obtain ⟨x, hx⟩ : ∃ x, os.getD n 0 = x := ⟨_, rfl⟩
  rw [hx] at ra
  simp only [hx]
  have HA := Lib.hid hx
  clear h h0 hn hsec ro hx
  go_enter Try.func43, Try.ntmps43
  go_upto_region 0 with fail
  go_region_held3 (fun w' => w'.cell? ⟨g, 2, none⟩ = some (.int .i64 (n : Int))) (first | exact s2 | exact t2) ((go_at_call 44; refine (SC.out _ HM.out).mono ?_; rintro e w1 ⟨rfl, hcs⟩; have M1 := Lib.hid (HM.out.ch hcs); have C1 := Lib.hid (D0.out.trans (hcs.mono (by simp))); have t2 : w1.cell? ⟨g, 2, none⟩ = some (.int .i64 (n : Int)) := (by have hq := M1.out.m.ci (c := 2) (by omega); rw [HN.out] at hq; exact hq); clear hcs))
  clear s2 t2
  have c0 := M1.out.m.ci (c := 0) (by omega)
  rw [H0.out] at c0
  have x12 := M1.out.m.co hn16
  rw [HA.out] at x12
  go_upto_region 6 with fail
  have c3 := M1.out.m.cr hn16
  have f3 := M1.out.m.free (28 + n)
  go_region_held3 (fun w' => w'.cell? ⟨g, 0, none⟩ = some (.int .i64 136)) (first | exact c0 | (go_simp; done) | (simp; exact c0)) ((go_at_call 56; refine (shiftl_c x a false ra.1 ra.2 (by omega) (by omega) _).mono ?_; rintro e w2 ⟨rfl, hw2⟩; subst hw2))
  go_wp2
  first | go_end0 | refine bodyPost_ret (results_none rfl _ _ _) rfl ?_
  exact ⟨rfl, (M1.out.setr hn16 _).drewN 1, (C1.out.setCell (by simp) _).drewN 1⟩
set_option maxRecDepth 1000000 in
set_option maxHeartbeats 8000000 in
theorem shift_137 (g n : Nat) (F : Foot) (is os rs : List Int) (ps : List Value) (ov : Bool) (bs ks : List Int) (a : Int) (w : World) (h : MS w g F is os rs ps ov bs ks) (hn : is.getD 2 0 = (n : Int)) (hn16 : n < 16) (hsec : ∀ W, MS W g F is os rs ps ov bs ks → Calls Try.prog 44 #[.pointer (some ⟨g, 0, none⟩)] W fun e w' => e = .returned (.int .i64 a) ∧ Ch W w' []) (ha0 : 0 ≤ a) (ha1 : a ≤ 16777215) (ro : ∀ z ∈ os, 0 ≤ z ∧ z ≤ 4294967295) (h0 : is.getD 0 0 = 137) : Calls Try.prog 43 #[.pointer (some ⟨g, 0, none⟩)] w fun e w' => e = .returned (.tuple #[]) ∧ MS w' g F is os (rs.set n (slg (os.getD n 0) (plc a) true)) ps ov bs ks ∧ Ch w w' [g] := by
  have s2 : w.cell? ⟨g, 2, none⟩ = some (.int .i64 (n : Int)) := by have hq' := h.m.ci (c := 2) (by omega); rw [hn] at hq'; exact hq'
  have HM := Lib.hid (h.drewN 1)
  have D0 := Lib.hid ((Ch.refl w [g]).drewN 1)
  have SC := Lib.hid hsec
  have H0 := Lib.hid h0
  have HN := Lib.hid hn
  have i0 : (n : Int) < 16 := by omega
  have i1 : (0 : Int) ≤ (n : Int) := by omega
  have ra := getD_in ro n
  obtain ⟨x, hx⟩ : ∃ x, os.getD n 0 = x := ⟨_, rfl⟩
  rw [hx] at ra
  simp only [hx]
  have HA := Lib.hid hx
  clear h h0 hn hsec ro hx
  go_enter Try.func43, Try.ntmps43
  go_upto_region 0 with fail
  go_region_held3 (fun w' => w'.cell? ⟨g, 2, none⟩ = some (.int .i64 (n : Int))) (first | exact s2 | exact t2) ((go_at_call 44; refine (SC.out _ HM.out).mono ?_; rintro e w1 ⟨rfl, hcs⟩; have M1 := Lib.hid (HM.out.ch hcs); have C1 := Lib.hid (D0.out.trans (hcs.mono (by simp))); have t2 : w1.cell? ⟨g, 2, none⟩ = some (.int .i64 (n : Int)) := (by have hq := M1.out.m.ci (c := 2) (by omega); rw [HN.out] at hq; exact hq); clear hcs))
  clear s2 t2
  have c0 := M1.out.m.ci (c := 0) (by omega)
  rw [H0.out] at c0
  have x12 := M1.out.m.co hn16
  rw [HA.out] at x12
  go_upto_region 6 with fail
  have c3 := M1.out.m.cr hn16
  have f3 := M1.out.m.free (28 + n)
  go_region_held3 (fun w' => w'.cell? ⟨g, 0, none⟩ = some (.int .i64 137)) (first | exact c0 | (go_simp; done) | (simp; exact c0)) ((go_at_call 56; refine (shiftl_c x a true ra.1 ra.2 (by omega) (by omega) _).mono ?_; rintro e w2 ⟨rfl, hw2⟩; subst hw2))
  go_wp2
  first | go_end0 | refine bodyPost_ret (results_none rfl _ _ _) rfl ?_
  exact ⟨rfl, (M1.out.setr hn16 _).drewN 1, (C1.out.setCell (by simp) _).drewN 1⟩
set_option maxRecDepth 1000000 in
set_option maxHeartbeats 8000000 in
theorem shift_138 (g n : Nat) (F : Foot) (is os rs : List Int) (ps : List Value) (ov : Bool) (bs ks : List Int) (a : Int) (w : World) (h : MS w g F is os rs ps ov bs ks) (hn : is.getD 2 0 = (n : Int)) (hn16 : n < 16) (hsec : ∀ W, MS W g F is os rs ps ov bs ks → Calls Try.prog 44 #[.pointer (some ⟨g, 0, none⟩)] W fun e w' => e = .returned (.int .i64 a) ∧ Ch W w' []) (ha0 : 0 ≤ a) (ha1 : a ≤ 16777215) (ro : ∀ z ∈ os, 0 ≤ z ∧ z ≤ 4294967295) (h0 : is.getD 0 0 = 138) : Calls Try.prog 43 #[.pointer (some ⟨g, 0, none⟩)] w fun e w' => e = .returned (.tuple #[]) ∧ MS w' g F is os (rs.set n (srv (os.getD n 0) (plc a))) (ps.set 7 (.int .i64 (sgn (sg (srv (os.getD n 0) (plc a)))))) ov bs ks ∧ Ch w w' [g] := by
  have s2 : w.cell? ⟨g, 2, none⟩ = some (.int .i64 (n : Int)) := by have hq' := h.m.ci (c := 2) (by omega); rw [hn] at hq'; exact hq'
  have HM := Lib.hid (h.drewN 1)
  have D0 := Lib.hid ((Ch.refl w [g]).drewN 1)
  have SC := Lib.hid hsec
  have H0 := Lib.hid h0
  have HN := Lib.hid hn
  have i0 : (n : Int) < 16 := by omega
  have i1 : (0 : Int) ≤ (n : Int) := by omega
  have ra := getD_in ro n
  obtain ⟨x, hx⟩ : ∃ x, os.getD n 0 = x := ⟨_, rfl⟩
  rw [hx] at ra
  simp only [hx]
  have HA := Lib.hid hx
  clear h h0 hn hsec ro hx
  go_enter Try.func43, Try.ntmps43
  go_upto_region 0 with fail
  go_region_held3 (fun w' => w'.cell? ⟨g, 2, none⟩ = some (.int .i64 (n : Int))) (first | exact s2 | exact t2) ((go_at_call 44; refine (SC.out _ HM.out).mono ?_; rintro e w1 ⟨rfl, hcs⟩; have M1 := Lib.hid (HM.out.ch hcs); have C1 := Lib.hid (D0.out.trans (hcs.mono (by simp))); have t2 : w1.cell? ⟨g, 2, none⟩ = some (.int .i64 (n : Int)) := (by have hq := M1.out.m.ci (c := 2) (by omega); rw [HN.out] at hq; exact hq); clear hcs))
  clear s2 t2
  have c0 := M1.out.m.ci (c := 0) (by omega)
  rw [H0.out] at c0
  have x12 := M1.out.m.co hn16
  rw [HA.out] at x12
  go_upto_region 8 with fail
  have c3 := M1.out.m.cr hn16
  have f3 := M1.out.m.free (28 + n)
  have c7 := M1.out.m.cp (n := 7) (by omega)
  have f7 := M1.out.m.free 51
  go_region_held3 (fun _ => True) (trivial) ((go_at_call 57; refine (shiftr_c x a ra.1 ra.2 (by omega) (by omega) _).mono ?_; rintro e w2 ⟨rfl, hw2⟩; subst hw2))
  go_wp2
  first | go_end0 | refine bodyPost_ret (results_none rfl _ _ _) rfl ?_
  exact ⟨rfl, ((M1.out.setr hn16 _).setp (n := 7) (by omega) _).drewN 1, ((C1.out.setCell (by simp) _).setCell (by simp) _).drewN 1⟩
set_option maxRecDepth 1000000 in
set_option maxHeartbeats 8000000 in
theorem shift_139 (g n : Nat) (F : Foot) (is os rs : List Int) (ps : List Value) (ov : Bool) (bs ks : List Int) (a : Int) (w : World) (h : MS w g F is os rs ps ov bs ks) (hn : is.getD 2 0 = (n : Int)) (hn16 : n < 16) (hsec : ∀ W, MS W g F is os rs ps ov bs ks → Calls Try.prog 44 #[.pointer (some ⟨g, 0, none⟩)] W fun e w' => e = .returned (.int .i64 a) ∧ Ch W w' []) (ha0 : 0 ≤ a) (ha1 : a ≤ 16777215) (ro : ∀ z ∈ os, 0 ≤ z ∧ z ≤ 4294967295) (h0 : is.getD 0 0 = 139) : Calls Try.prog 43 #[.pointer (some ⟨g, 0, none⟩)] w fun e w' => e = .returned (.tuple #[]) ∧ MS w' g F is os (rs.set n (slv (os.getD n 0) (plc a))) (ps.set 7 (.int .i64 (slc (os.getD n 0) (plc a)))) (slo (os.getD n 0) (plc a)) bs ks ∧ Ch w w' [g] := by
  have s2 : w.cell? ⟨g, 2, none⟩ = some (.int .i64 (n : Int)) := by have hq' := h.m.ci (c := 2) (by omega); rw [hn] at hq'; exact hq'
  have HM := Lib.hid (h.drewN 1)
  have D0 := Lib.hid ((Ch.refl w [g]).drewN 1)
  have SC := Lib.hid hsec
  have H0 := Lib.hid h0
  have HN := Lib.hid hn
  have i0 : (n : Int) < 16 := by omega
  have i1 : (0 : Int) ≤ (n : Int) := by omega
  have ra := getD_in ro n
  obtain ⟨x, hx⟩ : ∃ x, os.getD n 0 = x := ⟨_, rfl⟩
  rw [hx] at ra
  simp only [hx]
  have HA := Lib.hid hx
  clear h h0 hn hsec ro hx
  go_enter Try.func43, Try.ntmps43
  go_upto_region 0 with fail
  go_region_held3 (fun w' => w'.cell? ⟨g, 2, none⟩ = some (.int .i64 (n : Int))) (first | exact s2 | exact t2) ((go_at_call 44; refine (SC.out _ HM.out).mono ?_; rintro e w1 ⟨rfl, hcs⟩; have M1 := Lib.hid (HM.out.ch hcs); have C1 := Lib.hid (D0.out.trans (hcs.mono (by simp))); have t2 : w1.cell? ⟨g, 2, none⟩ = some (.int .i64 (n : Int)) := (by have hq := M1.out.m.ci (c := 2) (by omega); rw [HN.out] at hq; exact hq); clear hcs))
  clear s2 t2
  have c0 := M1.out.m.ci (c := 0) (by omega)
  rw [H0.out] at c0
  have x12 := M1.out.m.co hn16
  rw [HA.out] at x12
  go_wp2_with (first
    | (go_at_call 59; refine (shiftla_c x a ra.1 ra.2 (by omega) (by omega) _).mono ?_; rintro e w2 ⟨rfl, hw2⟩; subst hw2)
    | (go_at_call 58; refine (set_m g n F is os rs ps ov bs ks _ _ _ _ M1.out HN.out hn16).mono ?_; rintro e w6 ⟨rfl, hM6, hC6⟩; have M6 := Lib.hid hM6; have C6 := Lib.hid (C1.out.trans hC6); clear hM6 hC6))
  first | go_end0 | refine bodyPost_ret (results_none rfl _ _ _) rfl ?_
  exact ⟨rfl, M6.out, C6.out⟩
set_option maxRecDepth 1000000 in
set_option maxHeartbeats 8000000 in
theorem shift_140 (g n q : Nat) (F : Foot) (is os rs : List Int) (ps : List Value) (ov : Bool) (bs ks : List Int) (a : Int) (w : World) (h : MS w g F is os rs ps ov bs ks) (hn : is.getD 2 0 = (n : Int)) (hn16 : n < 16) (hsec : ∀ W, MS W g F is os rs ps ov bs ks → Calls Try.prog 44 #[.pointer (some ⟨g, 0, none⟩)] W fun e w' => e = .returned (.int .i64 a) ∧ Ch W w' []) (ha0 : 0 ≤ a) (ha1 : a ≤ 16777215) (ro : ∀ z ∈ os, 0 ≤ z ∧ z ≤ 4294967295) (h0 : is.getD 0 0 = 140) (hev : n % 2 = 0) (hq : q = n + 1) : Calls Try.prog 43 #[.pointer (some ⟨g, 0, none⟩)] w fun e w' => e = .returned (.tuple #[]) ∧ MS w' g F is os ((rs.set n (lo32 (dlg (dbl (os.getD n 0) (os.getD q 0)) (plc a) false / 4294967296))).set q (lo32 (dlg (dbl (os.getD n 0) (os.getD q 0)) (plc a) false))) ps ov bs ks ∧ Ch w w' [g] := by
  have s2 : w.cell? ⟨g, 2, none⟩ = some (.int .i64 (n : Int)) := by have hq' := h.m.ci (c := 2) (by omega); rw [hn] at hq'; exact hq'
  have HM := Lib.hid (h.drewN 1)
  have D0 := Lib.hid ((Ch.refl w [g]).drewN 1)
  have SC := Lib.hid hsec
  have H0 := Lib.hid h0
  have HN := Lib.hid hn
  have i0 : (n : Int) < 16 := by omega
  have i1 : (0 : Int) ≤ (n : Int) := by omega
  have ra := getD_in ro n
  obtain ⟨x, hx⟩ : ∃ x, os.getD n 0 = x := ⟨_, rfl⟩
  rw [hx] at ra
  simp only [hx]
  have HA := Lib.hid hx
  have rb := getD_in ro q
  obtain ⟨y, hy⟩ : ∃ y, os.getD q 0 = y := ⟨_, rfl⟩
  rw [hy] at rb
  simp only [hy]
  have HB := Lib.hid hy
  have hq16 : q < 16 := by omega
  have j0 : (q : Int) < 16 := by omega
  have j1 : (0 : Int) ≤ (q : Int) := by omega
  have hnq : n ≠ q := by omega
  have hwr : IntKind.i64.wrap ((n : Int) + 1) = (q : Int) := by rw [wrap_i64_id (by omega) (by omega)]; omega
  have e1 : ((n : Int) % 2 == 0) = true := by simp; omega
  have e2 : IntKind.i64.wrap ((n : Int).tmod 2) = (n : Int) % 2 := by rw [Int.tmod_eq_emod_of_nonneg (by omega)]; exact wrap_i64_id (by omega) (by omega)
  have n2 : (2 : Int) ≠ 0 := by omega
  clear h h0 hn hsec ro hx hev hq hy
  go_enter Try.func43, Try.ntmps43
  go_upto_region 0 with fail
  go_region_held3 (fun w' => w'.cell? ⟨g, 2, none⟩ = some (.int .i64 (n : Int))) (first | exact s2 | exact t2) ((go_at_call 44; refine (SC.out _ HM.out).mono ?_; rintro e w1 ⟨rfl, hcs⟩; have M1 := Lib.hid (HM.out.ch hcs); have C1 := Lib.hid (D0.out.trans (hcs.mono (by simp))); have t2 : w1.cell? ⟨g, 2, none⟩ = some (.int .i64 (n : Int)) := (by have hq := M1.out.m.ci (c := 2) (by omega); rw [HN.out] at hq; exact hq); clear hcs))
  clear s2 t2
  have c0 := M1.out.m.ci (c := 0) (by omega)
  rw [H0.out] at c0
  have x12 := M1.out.m.co hn16
  rw [HA.out] at x12
  have y12 := M1.out.m.co hq16
  rw [HB.out] at y12
  go_upto_region 12 with (go_at_call 60; refine (need_ok _ _).mono ?_; rintro e wx ⟨rfl, hwx⟩; subst hwx)
  go_region
  go_upto_region 16 with fail
  have c3 := M1.out.m.cr hn16
  have f3 := M1.out.m.free (28 + n)
  have c4 := M1.out.m.cr hq16
  have f4 := M1.out.m.free (28 + q)
  have c7 := M1.out.m.cp (n := 7) (by omega)
  have f7 := M1.out.m.free 51
  have c9 := M1.out.m.cv
  have f9 := M1.out.m.free 55
  go_region_held3 (fun w' => w'.cell? ⟨g, 0, none⟩ = some (.int .i64 140)) (first | exact c0 | (go_simp; done) | (simp; exact c0)) ((go_at_call 61; refine (shiftld_c x y a false ra.1 ra.2 rb.1 rb.2 (by omega) (by omega) _).mono ?_; rintro e w2 ⟨rfl, hw2⟩; subst hw2))
  go_wp2
  first | go_end0 | refine bodyPost_ret (results_none rfl _ _ _) rfl ?_
  exact ⟨rfl, ((M1.out.setr hn16 _).setr hq16 _).drewN 2, ((C1.out.setCell (by simp) _).setCell (by simp) _).drewN 2⟩
set_option maxRecDepth 1000000 in
set_option maxHeartbeats 8000000 in
theorem shift_141 (g n q : Nat) (F : Foot) (is os rs : List Int) (ps : List Value) (ov : Bool) (bs ks : List Int) (a : Int) (w : World) (h : MS w g F is os rs ps ov bs ks) (hn : is.getD 2 0 = (n : Int)) (hn16 : n < 16) (hsec : ∀ W, MS W g F is os rs ps ov bs ks → Calls Try.prog 44 #[.pointer (some ⟨g, 0, none⟩)] W fun e w' => e = .returned (.int .i64 a) ∧ Ch W w' []) (ha0 : 0 ≤ a) (ha1 : a ≤ 16777215) (ro : ∀ z ∈ os, 0 ≤ z ∧ z ≤ 4294967295) (h0 : is.getD 0 0 = 141) (hev : n % 2 = 0) (hq : q = n + 1) : Calls Try.prog 43 #[.pointer (some ⟨g, 0, none⟩)] w fun e w' => e = .returned (.tuple #[]) ∧ MS w' g F is os ((rs.set n (lo32 (dlg (dbl (os.getD n 0) (os.getD q 0)) (plc a) true / 4294967296))).set q (lo32 (dlg (dbl (os.getD n 0) (os.getD q 0)) (plc a) true))) ps ov bs ks ∧ Ch w w' [g] := by
  have s2 : w.cell? ⟨g, 2, none⟩ = some (.int .i64 (n : Int)) := by have hq' := h.m.ci (c := 2) (by omega); rw [hn] at hq'; exact hq'
  have HM := Lib.hid (h.drewN 1)
  have D0 := Lib.hid ((Ch.refl w [g]).drewN 1)
  have SC := Lib.hid hsec
  have H0 := Lib.hid h0
  have HN := Lib.hid hn
  have i0 : (n : Int) < 16 := by omega
  have i1 : (0 : Int) ≤ (n : Int) := by omega
  have ra := getD_in ro n
  obtain ⟨x, hx⟩ : ∃ x, os.getD n 0 = x := ⟨_, rfl⟩
  rw [hx] at ra
  simp only [hx]
  have HA := Lib.hid hx
  have rb := getD_in ro q
  obtain ⟨y, hy⟩ : ∃ y, os.getD q 0 = y := ⟨_, rfl⟩
  rw [hy] at rb
  simp only [hy]
  have HB := Lib.hid hy
  have hq16 : q < 16 := by omega
  have j0 : (q : Int) < 16 := by omega
  have j1 : (0 : Int) ≤ (q : Int) := by omega
  have hnq : n ≠ q := by omega
  have hwr : IntKind.i64.wrap ((n : Int) + 1) = (q : Int) := by rw [wrap_i64_id (by omega) (by omega)]; omega
  have e1 : ((n : Int) % 2 == 0) = true := by simp; omega
  have e2 : IntKind.i64.wrap ((n : Int).tmod 2) = (n : Int) % 2 := by rw [Int.tmod_eq_emod_of_nonneg (by omega)]; exact wrap_i64_id (by omega) (by omega)
  have n2 : (2 : Int) ≠ 0 := by omega
  clear h h0 hn hsec ro hx hev hq hy
  go_enter Try.func43, Try.ntmps43
  go_upto_region 0 with fail
  go_region_held3 (fun w' => w'.cell? ⟨g, 2, none⟩ = some (.int .i64 (n : Int))) (first | exact s2 | exact t2) ((go_at_call 44; refine (SC.out _ HM.out).mono ?_; rintro e w1 ⟨rfl, hcs⟩; have M1 := Lib.hid (HM.out.ch hcs); have C1 := Lib.hid (D0.out.trans (hcs.mono (by simp))); have t2 : w1.cell? ⟨g, 2, none⟩ = some (.int .i64 (n : Int)) := (by have hq := M1.out.m.ci (c := 2) (by omega); rw [HN.out] at hq; exact hq); clear hcs))
  clear s2 t2
  have c0 := M1.out.m.ci (c := 0) (by omega)
  rw [H0.out] at c0
  have x12 := M1.out.m.co hn16
  rw [HA.out] at x12
  have y12 := M1.out.m.co hq16
  rw [HB.out] at y12
  go_upto_region 12 with (go_at_call 60; refine (need_ok _ _).mono ?_; rintro e wx ⟨rfl, hwx⟩; subst hwx)
  go_region
  go_upto_region 16 with fail
  have c3 := M1.out.m.cr hn16
  have f3 := M1.out.m.free (28 + n)
  have c4 := M1.out.m.cr hq16
  have f4 := M1.out.m.free (28 + q)
  have c7 := M1.out.m.cp (n := 7) (by omega)
  have f7 := M1.out.m.free 51
  have c9 := M1.out.m.cv
  have f9 := M1.out.m.free 55
  go_region_held3 (fun w' => w'.cell? ⟨g, 0, none⟩ = some (.int .i64 141)) (first | exact c0 | (go_simp; done) | (simp; exact c0)) ((go_at_call 61; refine (shiftld_c x y a true ra.1 ra.2 rb.1 rb.2 (by omega) (by omega) _).mono ?_; rintro e w2 ⟨rfl, hw2⟩; subst hw2))
  go_wp2
  first | go_end0 | refine bodyPost_ret (results_none rfl _ _ _) rfl ?_
  exact ⟨rfl, ((M1.out.setr hn16 _).setr hq16 _).drewN 2, ((C1.out.setCell (by simp) _).setCell (by simp) _).drewN 2⟩
set_option maxRecDepth 1000000 in
set_option maxHeartbeats 8000000 in
theorem shift_142 (g n q : Nat) (F : Foot) (is os rs : List Int) (ps : List Value) (ov : Bool) (bs ks : List Int) (a : Int) (w : World) (h : MS w g F is os rs ps ov bs ks) (hn : is.getD 2 0 = (n : Int)) (hn16 : n < 16) (hsec : ∀ W, MS W g F is os rs ps ov bs ks → Calls Try.prog 44 #[.pointer (some ⟨g, 0, none⟩)] W fun e w' => e = .returned (.int .i64 a) ∧ Ch W w' []) (ha0 : 0 ≤ a) (ha1 : a ≤ 16777215) (ro : ∀ z ∈ os, 0 ≤ z ∧ z ≤ 4294967295) (h0 : is.getD 0 0 = 142) (hev : n % 2 = 0) (hq : q = n + 1) : Calls Try.prog 43 #[.pointer (some ⟨g, 0, none⟩)] w fun e w' => e = .returned (.tuple #[]) ∧ MS w' g F is os ((rs.set n (lo32 (drv (dbl (os.getD n 0) (os.getD q 0)) (plc a) / 4294967296))).set q (lo32 (drv (dbl (os.getD n 0) (os.getD q 0)) (plc a)))) (ps.set 7 (.int .i64 (sgn (sg64 (drv (dbl (os.getD n 0) (os.getD q 0)) (plc a)))))) ov bs ks ∧ Ch w w' [g] := by
  have s2 : w.cell? ⟨g, 2, none⟩ = some (.int .i64 (n : Int)) := by have hq' := h.m.ci (c := 2) (by omega); rw [hn] at hq'; exact hq'
  have HM := Lib.hid (h.drewN 1)
  have D0 := Lib.hid ((Ch.refl w [g]).drewN 1)
  have SC := Lib.hid hsec
  have H0 := Lib.hid h0
  have HN := Lib.hid hn
  have i0 : (n : Int) < 16 := by omega
  have i1 : (0 : Int) ≤ (n : Int) := by omega
  have ra := getD_in ro n
  obtain ⟨x, hx⟩ : ∃ x, os.getD n 0 = x := ⟨_, rfl⟩
  rw [hx] at ra
  simp only [hx]
  have HA := Lib.hid hx
  have rb := getD_in ro q
  obtain ⟨y, hy⟩ : ∃ y, os.getD q 0 = y := ⟨_, rfl⟩
  rw [hy] at rb
  simp only [hy]
  have HB := Lib.hid hy
  have hq16 : q < 16 := by omega
  have j0 : (q : Int) < 16 := by omega
  have j1 : (0 : Int) ≤ (q : Int) := by omega
  have hnq : n ≠ q := by omega
  have hwr : IntKind.i64.wrap ((n : Int) + 1) = (q : Int) := by rw [wrap_i64_id (by omega) (by omega)]; omega
  have e1 : ((n : Int) % 2 == 0) = true := by simp; omega
  have e2 : IntKind.i64.wrap ((n : Int).tmod 2) = (n : Int) % 2 := by rw [Int.tmod_eq_emod_of_nonneg (by omega)]; exact wrap_i64_id (by omega) (by omega)
  have n2 : (2 : Int) ≠ 0 := by omega
  clear h h0 hn hsec ro hx hev hq hy
  go_enter Try.func43, Try.ntmps43
  go_upto_region 0 with fail
  go_region_held3 (fun w' => w'.cell? ⟨g, 2, none⟩ = some (.int .i64 (n : Int))) (first | exact s2 | exact t2) ((go_at_call 44; refine (SC.out _ HM.out).mono ?_; rintro e w1 ⟨rfl, hcs⟩; have M1 := Lib.hid (HM.out.ch hcs); have C1 := Lib.hid (D0.out.trans (hcs.mono (by simp))); have t2 : w1.cell? ⟨g, 2, none⟩ = some (.int .i64 (n : Int)) := (by have hq := M1.out.m.ci (c := 2) (by omega); rw [HN.out] at hq; exact hq); clear hcs))
  clear s2 t2
  have c0 := M1.out.m.ci (c := 0) (by omega)
  rw [H0.out] at c0
  have x12 := M1.out.m.co hn16
  rw [HA.out] at x12
  have y12 := M1.out.m.co hq16
  rw [HB.out] at y12
  go_upto_region 12 with (go_at_call 60; refine (need_ok _ _).mono ?_; rintro e wx ⟨rfl, hwx⟩; subst hwx)
  go_region
  go_upto_region 18 with fail
  have c3 := M1.out.m.cr hn16
  have f3 := M1.out.m.free (28 + n)
  have c4 := M1.out.m.cr hq16
  have f4 := M1.out.m.free (28 + q)
  have c7 := M1.out.m.cp (n := 7) (by omega)
  have f7 := M1.out.m.free 51
  have c9 := M1.out.m.cv
  have f9 := M1.out.m.free 55
  go_region_held3 (fun _ => True) (trivial) ((go_at_call 62; refine (shiftrd_c x y a ra.1 ra.2 rb.1 rb.2 (by omega) (by omega) _).mono ?_; rintro e w2 ⟨rfl, hw2⟩; subst hw2))
  go_wp2
  first | go_end0 | refine bodyPost_ret (results_none rfl _ _ _) rfl ?_
  exact ⟨rfl, (((M1.out.setr hn16 _).setr hq16 _).setp (n := 7) (by omega) _).drewN 2, (((C1.out.setCell (by simp) _).setCell (by simp) _).setCell (by simp) _).drewN 2⟩
set_option maxRecDepth 1000000 in
set_option maxHeartbeats 8000000 in
theorem shift_143 (g n q : Nat) (F : Foot) (is os rs : List Int) (ps : List Value) (ov : Bool) (bs ks : List Int) (a : Int) (w : World) (h : MS w g F is os rs ps ov bs ks) (hn : is.getD 2 0 = (n : Int)) (hn16 : n < 16) (hsec : ∀ W, MS W g F is os rs ps ov bs ks → Calls Try.prog 44 #[.pointer (some ⟨g, 0, none⟩)] W fun e w' => e = .returned (.int .i64 a) ∧ Ch W w' []) (ha0 : 0 ≤ a) (ha1 : a ≤ 16777215) (ro : ∀ z ∈ os, 0 ≤ z ∧ z ≤ 4294967295) (h0 : is.getD 0 0 = 143) (hev : n % 2 = 0) (hq : q = n + 1) : Calls Try.prog 43 #[.pointer (some ⟨g, 0, none⟩)] w fun e w' => e = .returned (.tuple #[]) ∧ MS w' g F is os ((rs.set n (lo32 (dlv (dbl (os.getD n 0) (os.getD q 0)) (plc a) / 4294967296))).set q (lo32 (dlv (dbl (os.getD n 0) (os.getD q 0)) (plc a)))) (ps.set 7 (.int .i64 (dlc (dbl (os.getD n 0) (os.getD q 0)) (plc a)))) (dlo (dbl (os.getD n 0) (os.getD q 0)) (plc a)) bs ks ∧ Ch w w' [g] := by
  have s2 : w.cell? ⟨g, 2, none⟩ = some (.int .i64 (n : Int)) := by have hq' := h.m.ci (c := 2) (by omega); rw [hn] at hq'; exact hq'
  have HM := Lib.hid (h.drewN 1)
  have D0 := Lib.hid ((Ch.refl w [g]).drewN 1)
  have SC := Lib.hid hsec
  have H0 := Lib.hid h0
  have HN := Lib.hid hn
  have i0 : (n : Int) < 16 := by omega
  have i1 : (0 : Int) ≤ (n : Int) := by omega
  have ra := getD_in ro n
  obtain ⟨x, hx⟩ : ∃ x, os.getD n 0 = x := ⟨_, rfl⟩
  rw [hx] at ra
  simp only [hx]
  have HA := Lib.hid hx
  have rb := getD_in ro q
  obtain ⟨y, hy⟩ : ∃ y, os.getD q 0 = y := ⟨_, rfl⟩
  rw [hy] at rb
  simp only [hy]
  have HB := Lib.hid hy
  have hq16 : q < 16 := by omega
  have j0 : (q : Int) < 16 := by omega
  have j1 : (0 : Int) ≤ (q : Int) := by omega
  have hnq : n ≠ q := by omega
  have hwr : IntKind.i64.wrap ((n : Int) + 1) = (q : Int) := by rw [wrap_i64_id (by omega) (by omega)]; omega
  have e1 : ((n : Int) % 2 == 0) = true := by simp; omega
  have e2 : IntKind.i64.wrap ((n : Int).tmod 2) = (n : Int) % 2 := by rw [Int.tmod_eq_emod_of_nonneg (by omega)]; exact wrap_i64_id (by omega) (by omega)
  have n2 : (2 : Int) ≠ 0 := by omega
  clear h h0 hn hsec ro hx hev hq hy
  go_enter Try.func43, Try.ntmps43
  go_upto_region 0 with fail
  go_region_held3 (fun w' => w'.cell? ⟨g, 2, none⟩ = some (.int .i64 (n : Int))) (first | exact s2 | exact t2) ((go_at_call 44; refine (SC.out _ HM.out).mono ?_; rintro e w1 ⟨rfl, hcs⟩; have M1 := Lib.hid (HM.out.ch hcs); have C1 := Lib.hid (D0.out.trans (hcs.mono (by simp))); have t2 : w1.cell? ⟨g, 2, none⟩ = some (.int .i64 (n : Int)) := (by have hq := M1.out.m.ci (c := 2) (by omega); rw [HN.out] at hq; exact hq); clear hcs))
  clear s2 t2
  have c0 := M1.out.m.ci (c := 0) (by omega)
  rw [H0.out] at c0
  have x12 := M1.out.m.co hn16
  rw [HA.out] at x12
  have y12 := M1.out.m.co hq16
  rw [HB.out] at y12
  go_upto_region 12 with (go_at_call 60; refine (need_ok _ _).mono ?_; rintro e wx ⟨rfl, hwx⟩; subst hwx)
  go_region
  go_upto_region 20 with fail
  have c3 := M1.out.m.cr hn16
  have f3 := M1.out.m.free (28 + n)
  have c4 := M1.out.m.cr hq16
  have f4 := M1.out.m.free (28 + q)
  have c7 := M1.out.m.cp (n := 7) (by omega)
  have f7 := M1.out.m.free 51
  have c9 := M1.out.m.cv
  have f9 := M1.out.m.free 55
  go_region_held3 (fun _ => True) (trivial) ((go_at_call 63; refine (shiftlad_c x y a ra.1 ra.2 rb.1 rb.2 (by omega) (by omega) _).mono ?_; rintro e w2 ⟨rfl, hw2⟩; subst hw2))
  go_wp2
  first | go_end0 | refine bodyPost_ret (results_none rfl _ _ _) rfl ?_
  exact ⟨rfl, ((((M1.out.setr hn16 _).setr hq16 _).setp (n := 7) (by omega) _).setv _).drewN 2, ((((C1.out.setCell (by simp) _).setCell (by simp) _).setCell (by simp) _).setCell (by simp) _).drewN 2⟩
end Go.Proofs.Ythjdjbipfdigeaa

namespace Go.Proofs.Ythjdjbipfdigeaa
open Go.RowKit
set_option linter.unusedVariables false
set_option linter.unusedSimpArgs false

set_option maxHeartbeats 1000000 in
theorem branch_c (mask cc : Int) (hmask : -9223372036854775808 ≤ mask) (hmask' : mask ≤ 9223372036854775807) (hcc : -9223372036854775808 ≤ cc) (hcc' : cc ≤ 9223372036854775807) (w : World) : Calls Try.prog 54 #[.int .i64 mask, .int .i64 cc] w fun e w' => e = .returned (.bool (pbr mask cc)) ∧ w = w' := by
  have f0 := andNot_in 4 15 mask rfl (by omega) hmask hmask'
  have f1 := andNot_in 2 3 cc rfl (by omega) hcc hcc'
  cases t : inr mask 15
  · have hr := Lib.hid (show pbr mask cc = false from by simp [pbr, t])
    rw [t] at f0
    clear f1 t
    go_enter Try.func54, Try.ntmps54
    go_wp2
    go_ret
    exact ⟨by rw [hr.out]; rfl, rfl⟩
  · have m0 := (inr_yes t).1
    have m1 := (inr_yes t).2
    cases u : inr cc 3
    · have hr := Lib.hid (show pbr mask cc = false from by simp [pbr, t, u])
      rw [t] at f0
      rw [u] at f1
      clear t u
      go_enter Try.func54, Try.ntmps54
      go_wp2
      go_ret
      exact ⟨by rw [hr.out]; rfl, rfl⟩
    · rw [t] at f0
      have c0 := (inr_yes u).1
      have c1 := (inr_yes u).2
      obtain rfl | rfl | rfl | rfl : cc = 0 ∨ cc = 1 ∨ cc = 2 ∨ cc = 3 := by omega
      · have hr := Lib.hid (show (bits .and .i64 mask 8 != 0) = pbr mask 0 from by rw [i64_bit 3 8 mask rfl (by omega) m0 (by omega)]; simp [pbr, t]; first | rfl | (show _ = (decide _ && decide _); simp) | simp [inr])
        have f1 : (bits .andNot .i64 0 3 == 0) = true := by decide
        clear t u c0 c1
        go_enter Try.func54, Try.ntmps54
        go_wp2
        go_ret
        exact ⟨by rw [← hr.out]; rfl, rfl⟩
      · have hr := Lib.hid (show (bits .and .i64 mask 4 != 0) = pbr mask 1 from by rw [i64_bit 2 4 mask rfl (by omega) m0 (by omega)]; simp [pbr, t]; first | rfl | (show _ = (decide _ && decide _); simp) | simp [inr])
        have f1 : (bits .andNot .i64 1 3 == 0) = true := by decide
        clear t u c0 c1
        go_enter Try.func54, Try.ntmps54
        go_wp2
        go_ret
        exact ⟨by rw [← hr.out]; rfl, rfl⟩
      · have hr := Lib.hid (show (bits .and .i64 mask 2 != 0) = pbr mask 2 from by rw [i64_bit 1 2 mask rfl (by omega) m0 (by omega)]; simp [pbr, t]; first | rfl | (show _ = (decide _ && decide _); simp) | simp [inr])
        have f1 : (bits .andNot .i64 2 3 == 0) = true := by decide
        clear t u c0 c1
        go_enter Try.func54, Try.ntmps54
        go_wp2
        go_ret
        exact ⟨by rw [← hr.out]; rfl, rfl⟩
      · have hr := Lib.hid (show (bits .and .i64 mask 1 != 0) = pbr mask 3 from by rw [i64_bit 0 1 mask rfl (by omega) m0 (by omega)]; simp [pbr, t]; first | rfl | (show _ = (decide _ && decide _); simp) | simp [inr])
        have f1 : (bits .andNot .i64 3 3 == 0) = true := by decide
        clear t u c0 c1
        go_enter Try.func54, Try.ntmps54
        go_wp2
        go_ret
        exact ⟨by rw [← hr.out]; rfl, rfl⟩

end Go.Proofs.Ythjdjbipfdigeaa

namespace Go.Proofs.Ythjdjbipfdigeaa
open Go.RowKit
set_option maxRecDepth 100000
set_option linter.unusedVariables false
set_option linter.unusedSimpArgs false
theorem u32_low (n : Nat) (m a : Int) (hm : m = ((2 ^ n - 1 : Nat) : Int)) (hn : n ≤ 31) (h0 : 0 ≤ a) (h1 : a ≤ 4294967295) : bits .and .u32 a m = a % ((2 ^ n : Nat) : Int) := by
  have hle : 2 ^ n ≤ 2 ^ 31 := Nat.pow_le_pow_right (by omega) hn
  have hpos : 0 < 2 ^ n := Nat.two_pow_pos n
  rw [u32_and a m h0 (by omega) (by omega) (by omega), hm, Int.toNat_natCast, Nat.and_two_pow_sub_one_eq_mod]
  obtain ⟨k, rfl⟩ := Int.eq_ofNat_of_zero_le h0
  simp
set_option maxRecDepth 1000000 in
set_option maxHeartbeats 4000000 in
theorem branch_spm (g n : Nat) (v : Int) (is os rs : List Int) (ps : List Value) (s : Value) (ov : Bool) (w : World) (hm : Mc w g is os rs ps s ov) (h0 : is.getD 0 0 = 4) (hn : is.getD 2 0 = (n : Int)) (hn16 : n < 16) (hv : os.getD n 0 = v) (v0 : 0 ≤ v) (v1 : v ≤ 4294967295) : Calls Try.prog 42 #[.pointer (some ⟨g, 0, none⟩)] w fun e w' => e = .returned (.tuple #[]) ∧ Mc w' g is os rs ((ps.set 7 (.int .i64 (v / 268435456 % 4))).set 8 (.int .i64 (v / 16777216 % 16))) s ov ∧ Ch w w' [g] := by
  have c0 := hm.ci (c := 0) (by omega)
  rw [h0] at c0
  have c2 := hm.ci (c := 2) (by omega)
  rw [hn] at c2
  have c4 := hm.co hn16
  rw [hv] at c4
  have c5 := hm.cp (n := 7) (by omega)
  have c6 := hm.cp (n := 8) (by omega)
  have f5 := hm.free 51
  have f6 := hm.free 52
  have i0 : (n : Int) < 16 := by omega
  have i1 : (0 : Int) ≤ (n : Int) := by omega
  have HM := Lib.hid hm
  clear hm h0 hn hv
  go_enter Try.func42, Try.ntmps42
  go_upto_region 0 with fail
  go_region
  go_wp2
  refine bodyPost_ret (results_none rfl _ _ _) rfl ?_
  have e3 : wrap64 (bits .and .u32 (v / 268435456) 3) = v / 268435456 % 4 := by
    rw [u32_low 2 3 _ (by rfl) (by omega) (by omega) (by omega)]; unfold wrap64; omega
  have e4 : wrap64 (bits .and .u32 (v / 16777216) 15) = v / 16777216 % 16 := by
    rw [u32_low 4 15 _ (by rfl) (by omega) (by omega) (by omega)]; unfold wrap64; omega
  rw [e3, e4]
  exact ⟨rfl, ((HM.out.setp (n := 7) (by omega) _).setp (n := 8) (by omega) _).drewN 1, (((Ch.refl w [g]).setCell (by simp) _).setCell (by simp) _).drewN 1⟩
end Go.Proofs.Ythjdjbipfdigeaa

