/- CONTRACTS of the machine's branch, instruction by instruction. Conditions: the numbers in their ranges. -/
import Derived.Test.YthjdjbipfdigeaaGe11
import Derived.Test.YthjdjbipfdigeaaPwC
import Derived.Test.YthjdjbipfdigeaaRg
import Derived.Deep.RegionHeld3
import Derived.BigRegion
import Derived.IntWalk
namespace Go.Proofs.Ythjdjbipfdigeaa
open Go.RowKit
set_option maxRecDepth 100000
set_option linter.unusedVariables false
set_option linter.unusedSimpArgs false
theorem u32_low (n : Nat) (m a : Int) (hm : m = ((2 ^ n - 1 : Nat) : Int)) (hn : n ≤ 31) (h0 : 0 ≤ a) (h1 : a ≤ 4294967295) : bits .and .u32 a m = a % ((2 ^ n : Nat) : Int) := by
  have hle : 2 ^ n ≤ 2 ^ 31 := Nat.pow_le_pow_right (by omega) hn
  have hpos : 0 < 2 ^ n := Nat.two_pow_pos n
  rw [u32_and a m h0 (by omega) (by omega) (by omega), hm, Int.toNat_natCast, Nat.and_two_pow_sub_one_eq_mod]
  obtain ⟨k, rfl⟩ := Int.eq_ofNat_of_zero_le h0
  simp
set_option maxRecDepth 1000000 in
set_option maxHeartbeats 4000000 in
theorem branch_spm (g n : Nat) (v : Int) (is os rs : List Int) (ps : List Value) (s : Value) (ov : Bool) (w : World) (hm : Mc w g is os rs ps s ov) (h0 : is.getD 0 0 = 4) (hn : is.getD 2 0 = (n : Int)) (hn16 : n < 16) (hv : os.getD n 0 = v) (v0 : 0 ≤ v) (v1 : v ≤ 4294967295) : Calls Try.prog 42 #[.pointer (some ⟨g, 0, none⟩)] w fun e w' => e = .returned (.tuple #[]) ∧ Mc w' g is os rs ((ps.set 7 (.int .i64 (v / 268435456 % 4))).set 8 (.int .i64 (v / 16777216 % 16))) s ov ∧ Ch w w' [g] := by
  have c0 := hm.ci (c := 0) (by omega)
  rw [h0] at c0
  have c2 := hm.ci (c := 2) (by omega)
  rw [hn] at c2
  have c4 := hm.co hn16
  rw [hv] at c4
  have c5 := hm.cp (n := 7) (by omega)
  have c6 := hm.cp (n := 8) (by omega)
  have f5 := hm.free 51
  have f6 := hm.free 52
  have i0 : (n : Int) < 16 := by omega
  have i1 : (0 : Int) ≤ (n : Int) := by omega
  have HM := Lib.hid hm
  clear hm h0 hn hv
  go_enter Try.func42, Try.ntmps42
  go_upto_region 0 with fail
  go_region
  go_wp2
  refine bodyPost_ret (results_none rfl _ _ _) rfl ?_
  have e3 : wrap64 (bits .and .u32 (v / 268435456) 3) = v / 268435456 % 4 := by
    rw [u32_low 2 3 _ (by rfl) (by omega) (by omega) (by omega)]; unfold wrap64; omega
  have e4 : wrap64 (bits .and .u32 (v / 16777216) 15) = v / 16777216 % 16 := by
    rw [u32_low 4 15 _ (by rfl) (by omega) (by omega) (by omega)]; unfold wrap64; omega
  rw [e3, e4]
  exact ⟨rfl, ((HM.out.setp (n := 7) (by omega) _).setp (n := 8) (by omega) _).drewN 1, (((Ch.refl w [g]).setCell (by simp) _).setCell (by simp) _).drewN 1⟩
set_option maxRecDepth 1000000 in
set_option maxHeartbeats 4000000 in
theorem branch_balr (g n m : Nat) (v : Int) (pm pk : Int) (pM pW pP : Bool) (pc pi pq pg pa : Int) (is os rs : List Int) (s : Value) (ov : Bool) (w : World) (hm : Mc w g is os rs [.int .i64 pm, .int .i64 pk, .bool pM, .bool pW, .bool pP, .int .i64 pc, .int .i64 pi, .int .i64 pq, .int .i64 pg, .int .i64 pa] s ov) (h0 : is.getD 0 0 = 5) (hf : is.getD 1 0 = 1) (hn : is.getD 2 0 = (n : Int)) (hn16 : n < 16) (hk : is.getD 3 0 = (m : Int)) (hk16 : m < 16) (h4 : is.getD 4 0 = 0) (h7 : is.getD 7 0 = 0) (h8 : is.getD 8 0 = 0) (ro : ∀ z ∈ os, 0 ≤ z ∧ z ≤ 4294967295) (hv : os.getD n 0 = v) (hm0 : m = 0) (q0 : 0 ≤ pi ∧ pi ≤ 3) (q1 : 0 ≤ pq ∧ pq ≤ 3) (q2 : 0 ≤ pg ∧ pg ≤ 15) (q3 : 0 ≤ pa ∧ pa ≤ 16777215) : Calls Try.prog 42 #[.pointer (some ⟨g, 0, none⟩)] w fun e w' => e = .returned (.tuple #[]) ∧ Mc w' g is os (rs.set n (pi * 1073741824 + pq * 268435456 + pg * 16777216 + pa)) [.int .i64 pm, .int .i64 pk, .bool pM, .bool pW, .bool pP, .int .i64 pc, .int .i64 pi, .int .i64 pq, .int .i64 pg, .int .i64 pa] s ov ∧ Ch w w' [g] := by
  have c0 := hm.ci (c := 0) (by omega)
  rw [h0] at c0
  have c2 := hm.ci (c := 2) (by omega)
  rw [hn] at c2
  have c4 := hm.co hn16
  rw [hv] at c4
  have v01 : 0 ≤ v ∧ v ≤ 4294967295 := by rw [← hv]; exact getD_in ro n
  obtain ⟨v0, v1⟩ := v01
  have i0 : (n : Int) < 16 := by omega
  have i1 : (0 : Int) ≤ (n : Int) := by omega
  have HM := Lib.hid hm
  have RO := Lib.hid ro
  have HF := Lib.hid hf
  have HK := Lib.hid hk
  have SC := Lib.hid (fun (W : World) (rs' : List Int) (ps' : List Value) (h : Mc W g is os rs' ps' s ov) => second_c g 0 0 0 is os rs' ps' s ov W h ro h8 (by omega) (by omega) h7 (by omega) h4 (by omega))
  rw [show (0 + sumB os [0, 0]) % 16777216 = 0 from by simp [sumB, baseV]] at SC
  clear hm h0 hf hn hk h4 h7 h8 ro hv
  go_enter Try.func42, Try.ntmps42
  go_upto_region 0 with fail
  go_region
  have HM0 := Lib.hid hm0
  clear hm0
  obtain ⟨qa, qb⟩ := q0
  obtain ⟨qc, qd⟩ := q1
  obtain ⟨qe, qf⟩ := q2
  obtain ⟨qg, qh⟩ := q3
  have D := Lib.hid (show Mc w.drew g is os rs [.int .i64 pm, .int .i64 pk, .bool pM, .bool pW, .bool pP, .int .i64 pc, .int .i64 pi, .int .i64 pq, .int .i64 pg, .int .i64 pa] s ov from HM.out.drewN 1)
  have p6 : w.drew.cell? ⟨g, 50, none⟩ = some (.int .i64 pi) := D.out.cp (n := 6) (by omega)
  have p7 : w.drew.cell? ⟨g, 51, none⟩ = some (.int .i64 pq) := D.out.cp (n := 7) (by omega)
  have p8 : w.drew.cell? ⟨g, 52, none⟩ = some (.int .i64 pg) := D.out.cp (n := 8) (by omega)
  have p9 : w.drew.cell? ⟨g, 53, none⟩ = some (.int .i64 pa) := D.out.cp (n := 9) (by omega)
  have c3 : w.drew.cell? ⟨g, 28 + n, none⟩ = _ := D.out.cr hn16
  have f3 := D.out.free (28 + n)
  go_upto_region 7 with fail
  go_region
  have hlink : bits .or .u32 (bits .or .u32 (bits .or .u32 (pi * 1073741824) (pq * 268435456)) (pg * 16777216)) pa = (pi * 1073741824 + pq * 268435456 + pg * 16777216 + pa) := by
    rw [or_32 30 (pi * 1073741824) (pq * 268435456) 1073741824 (by rfl) (by omega) (by omega) (by omega) (by omega) (by omega) (by omega), or_32 28 _ (pg * 16777216) 268435456 (by rfl) (by omega) (by omega) (by omega) (by omega) (by omega) (by omega), or_32 24 _ pa 16777216 (by rfl) (by omega) (by omega) (by omega) (by omega) (by omega) (by omega)]
  rw [hlink]
  clear hlink c3 f3 p6 p7 p8 p9 c0 c2 c4 D
  obtain ⟨lk, hlk⟩ : ∃ lk, (pi * 1073741824 + pq * 268435456 + pg * 16777216 + pa) = lk := ⟨_, rfl⟩
  rw [hlk]
  have HLK := Lib.hid hlk
  clear hlk
  obtain ⟨W1, hW1⟩ : ∃ W1, (w.setCell ⟨g, 28 + n, none⟩ (.int .u32 lk)).drew.drew = W1 := ⟨_, rfl⟩
  have M1 := Lib.hid (show Mc (w.setCell ⟨g, 28 + n, none⟩ (.int .u32 lk)).drew.drew g is os (rs.set n lk) [.int .i64 pm, .int .i64 pk, .bool pM, .bool pW, .bool pP, .int .i64 pc, .int .i64 pi, .int .i64 pq, .int .i64 pg, .int .i64 pa] s ov from ((HM.out.setr hn16 lk).drewN 1).drewN 1)
  have C1 := Lib.hid (show Ch w (w.setCell ⟨g, 28 + n, none⟩ (.int .u32 lk)).drew.drew [g] from (((Ch.refl w [g]).setCell (by simp) _).drewN 1).drewN 1)
  rw [hW1] at M1 C1
  rw [hW1]
  clear hW1
  go_upto_region 21 with (go_at_call 44; refine (SC.out _ _ _ M1.out).mono ?_; rintro e W2 ⟨rfl, hc2⟩; have M2 := Lib.hid (M1.out.kept (hc2.kept M1.out.lt (by simp))); have C2 := Lib.hid (C1.out.trans (hc2.mono (by simp))); clear hc2)
  clear M1 C1
  have t1 : W2.cell? ⟨g, 1, none⟩ = some (.int .i64 1) := by rw [← HF.out]; exact M2.out.ci (c := 1) (by omega)
  have t3 : W2.cell? ⟨g, 3, none⟩ = some (.int .i64 (m : Int)) := by rw [← HK.out]; exact M2.out.ci (c := 3) (by omega)
  have t4 := M2.out.co hk16
  obtain ⟨u, hu⟩ : ∃ u, os.getD m 0 = u := ⟨_, rfl⟩
  rw [hu] at t4
  have HU := Lib.hid hu
  have u01 : 0 ≤ u ∧ u ≤ 4294967295 := by rw [← hu]; exact getD_in RO.out m
  obtain ⟨u0, u1⟩ := u01
  have j0 : (m : Int) < 16 := by omega
  have j1 : (0 : Int) ≤ (m : Int) := by omega
  clear hu
  go_upto_region 22 with fail
  go_region
  clear t1 t3 t4
  obtain ⟨W3, hW3⟩ : ∃ W3, W2.drew = W3 := ⟨_, rfl⟩
  have M3 := Lib.hid (show Mc W2.drew g _ _ _ _ _ _ from M2.out.drewN 1)
  have C3 := Lib.hid (show Ch w W2.drew [g] from C2.out.drewN 1)
  rw [hW3] at M3 C3
  rw [hW3]
  clear hW3 M2 C2
  have t3 : W3.cell? ⟨g, 3, none⟩ = some (.int .i64 (m : Int)) := by rw [← HK.out]; exact M3.out.ci (c := 3) (by omega)
  have t9 := M3.out.cp (n := 9) (by omega)
  have f9 := M3.out.free 53
  have hm0' : ((m : Int) != 0) = false := by rw [HM0.out]; rfl
  go_wp2
  first | go_end0 | refine bodyPost_ret (results_none rfl _ _ _) rfl ?_
  exact ⟨rfl, by rw [HLK.out]; exact M3.out, C3.out⟩
set_option maxRecDepth 1000000 in
set_option maxHeartbeats 4000000 in
theorem branch_bcr (g n m : Nat) (v : Int) (pm pk : Int) (pM pW pP : Bool) (pc pi pq pg pa : Int) (is os rs : List Int) (s : Value) (ov : Bool) (w : World) (hm : Mc w g is os rs [.int .i64 pm, .int .i64 pk, .bool pM, .bool pW, .bool pP, .int .i64 pc, .int .i64 pi, .int .i64 pq, .int .i64 pg, .int .i64 pa] s ov) (h0 : is.getD 0 0 = 7) (hf : is.getD 1 0 = 1) (hn : is.getD 2 0 = (n : Int)) (hn16 : n < 16) (hk : is.getD 3 0 = (m : Int)) (hk16 : m < 16) (h4 : is.getD 4 0 = 0) (h7 : is.getD 7 0 = 0) (h8 : is.getD 8 0 = 0) (ro : ∀ z ∈ os, 0 ≤ z ∧ z ≤ 4294967295) (hv : os.getD n 0 = v) (hm0 : m ≠ 0) (hb : pbr (n : Int) pq = true) (q1 : 0 ≤ pq ∧ pq ≤ 3) : Calls Try.prog 42 #[.pointer (some ⟨g, 0, none⟩)] w fun e w' => e = .returned (.tuple #[]) ∧ Mc w' g is os rs (([.int .i64 pm, .int .i64 pk, .bool pM, .bool pW, .bool pP, .int .i64 pc, .int .i64 pi, .int .i64 pq, .int .i64 pg, .int .i64 pa] : List Value).set 9 (.int .i64 (os.getD m 0 % 16777216))) s ov ∧ Ch w w' [g] := by
  have c0 := hm.ci (c := 0) (by omega)
  rw [h0] at c0
  have c2 := hm.ci (c := 2) (by omega)
  rw [hn] at c2
  have c4 := hm.co hn16
  rw [hv] at c4
  have v01 : 0 ≤ v ∧ v ≤ 4294967295 := by rw [← hv]; exact getD_in ro n
  obtain ⟨v0, v1⟩ := v01
  have i0 : (n : Int) < 16 := by omega
  have i1 : (0 : Int) ≤ (n : Int) := by omega
  have HN := Lib.hid hn
  have HM := Lib.hid hm
  have RO := Lib.hid ro
  have HF := Lib.hid hf
  have HK := Lib.hid hk
  have SC := Lib.hid (fun (W : World) (rs' : List Int) (ps' : List Value) (h : Mc W g is os rs' ps' s ov) => second_c g 0 0 0 is os rs' ps' s ov W h ro h8 (by omega) (by omega) h7 (by omega) h4 (by omega))
  rw [show (0 + sumB os [0, 0]) % 16777216 = 0 from by simp [sumB, baseV]] at SC
  clear hm h0 hf hn hk h4 h7 h8 ro hv
  go_enter Try.func42, Try.ntmps42
  go_upto_region 0 with fail
  go_region
  have BC := Lib.hid (fun W => branch_c (n : Int) pq (by omega) (by omega) (by omega) (by omega) W)
  rw [hb] at BC
  have HM0 := Lib.hid hm0
  clear hm0 hb
  have D := Lib.hid (show Mc w.drew g is os rs [.int .i64 pm, .int .i64 pk, .bool pM, .bool pW, .bool pP, .int .i64 pc, .int .i64 pi, .int .i64 pq, .int .i64 pg, .int .i64 pa] s ov from HM.out.drewN 1)
  have CD := Lib.hid (show Ch w w.drew [g] from (Ch.refl w [g]).drewN 1)
  obtain ⟨W0, hW0⟩ : ∃ W0, w.drew = W0 := ⟨_, rfl⟩
  rw [hW0] at D CD
  rw [hW0]
  have c0' : W0.cell? ⟨g, 0, none⟩ = some (.int .i64 7) := by rw [← hW0]; exact c0
  clear hW0 c0 c2 c4
  go_upto_region 14 with fail
  clear c0'
  refine wp_region_held_drew (S := (fun w' => Mc w' g is os rs [.int .i64 pm, .int .i64 pk, .bool pM, .bool pW, .bool pP, .int .i64 pc, .int .i64 pi, .int .i64 pq, .int .i64 pg, .int .i64 pa] s ov ∧ Ch w w' [g])) (by kernel_rfl) ?_ (fun hHeld => ?_)
  · (try dsimp only); exact ⟨D.out.drewN 1, CD.out.drewN 1⟩
  refine' takeL (i := 0) (v := _) rfl (by kernel_rfl) (by kernel_rfl) (by kernel_rfl) (fun _ _ _ h => h) (Or.inl ⟨by rfl, ?yy1⟩) (by assumption) ?rr1
  case yy1 => intro w hSw; (try dsimp only at hSw); go_simp; (try with_reducible rfl)
  try simp only [Act.put, List.setIfInBounds_toArray, List.set_cons_zero, List.set_cons_succ]
  refine' takeL (i := 1) (v := _) rfl (by kernel_rfl) (by kernel_rfl) (by kernel_rfl) (fun _ _ _ h => h) (Or.inl ⟨by rfl, ?yy2⟩) (by assumption) ?rr2
  case yy2 => intro w hSw; (try dsimp only at hSw); go_simp; (try with_reducible rfl)
  try simp only [Act.put, List.setIfInBounds_toArray, List.set_cons_zero, List.set_cons_succ]
  refine' takeL (i := 2) (v := _) rfl (by kernel_rfl) (by kernel_rfl) (by kernel_rfl) (fun _ _ _ h => h) (Or.inl ⟨by rfl, ?yy3⟩) (by assumption) ?rr3
  case yy3 => intro w hSw; (try dsimp only at hSw); go_simp; (try with_reducible rfl)
  try simp only [Act.put, List.setIfInBounds_toArray, List.set_cons_zero, List.set_cons_succ]
  refine' takeL (i := 3) (v := _) rfl (by kernel_rfl) (by kernel_rfl) (by kernel_rfl) (fun _ _ _ h => h) (Or.inl ⟨by rfl, ?yy4⟩) (by assumption) ?rr4
  case yy4 => intro w hSw; (try dsimp only at hSw); go_simp; (try with_reducible rfl)
  try simp only [Act.put, List.setIfInBounds_toArray, List.set_cons_zero, List.set_cons_succ]
  refine' takeL (i := 4) (v := .int .i64 (n : Int)) rfl (by kernel_rfl) (by kernel_rfl) (by kernel_rfl) (fun _ _ _ h => h) (Or.inl ⟨by rfl, ?yy5⟩) (by assumption) ?rr5
  case yy5 => intro w hSw; (try dsimp only at hSw); have hc := hSw.1.ci (c := 2) (by omega); rw [HN.out] at hc; go_simp; (try with_reducible rfl)
  try simp only [Act.put, List.setIfInBounds_toArray, List.set_cons_zero, List.set_cons_succ]
  refine' takeL (i := 5) (v := _) rfl (by kernel_rfl) (by kernel_rfl) (by kernel_rfl) (fun _ _ _ h => h) (Or.inl ⟨by rfl, ?yy6⟩) (by assumption) ?rr6
  case yy6 => intro w hSw; (try dsimp only at hSw); go_simp; (try with_reducible rfl)
  try simp only [Act.put, List.setIfInBounds_toArray, List.set_cons_zero, List.set_cons_succ]
  refine' takeL (i := 6) (v := _) rfl (by kernel_rfl) (by kernel_rfl) (by kernel_rfl) (fun _ _ _ h => h) (Or.inl ⟨by rfl, ?yy7⟩) (by assumption) ?rr7
  case yy7 => intro w hSw; (try dsimp only at hSw); go_simp; (try with_reducible rfl)
  try simp only [Act.put, List.setIfInBounds_toArray, List.set_cons_zero, List.set_cons_succ]
  refine' takeL (i := 7) (v := _) rfl (by kernel_rfl) (by kernel_rfl) (by kernel_rfl) (fun _ _ _ h => h) (Or.inl ⟨by rfl, ?yy8⟩) (by assumption) ?rr8
  case yy8 => intro w hSw; (try dsimp only at hSw); go_simp; (try with_reducible rfl)
  try simp only [Act.put, List.setIfInBounds_toArray, List.set_cons_zero, List.set_cons_succ]
  refine' takeL (i := 8) (v := _) rfl (by kernel_rfl) (by kernel_rfl) (by kernel_rfl) (fun _ _ _ h => h) (Or.inl ⟨by rfl, ?yy9⟩) (by assumption) ?rr9
  case yy9 => intro w hSw; (try dsimp only at hSw); go_simp; (try with_reducible rfl)
  try simp only [Act.put, List.setIfInBounds_toArray, List.set_cons_zero, List.set_cons_succ]
  refine' takeL (i := 9) (v := .int .i64 pq) rfl (by kernel_rfl) (by kernel_rfl) (by kernel_rfl) (fun _ _ _ h => h) (Or.inl ⟨by rfl, ?yy10⟩) (by assumption) ?rr10
  case yy10 => intro w hSw; (try dsimp only at hSw); have hc := hSw.1.cp (n := 7) (by omega); go_simp; (try with_reducible rfl)
  try simp only [Act.put, List.setIfInBounds_toArray, List.set_cons_zero, List.set_cons_succ]
  refine wpAnyH_ready (rs := [10]) (by kernel_rfl) (by simp) ?_
  refine consL rfl (fun K hK => ?_) AllReadyH.nil
  go_simp
  go_at_call 54
  refine (BC.out _).mono ?_
  rintro e w5 ⟨rfl, hw5⟩
  subst hw5
  go_wp2_with fail
  refine hK.out _ _ ?_ (fun hHeld => ?_)
  · (try dsimp only); exact hHeld
  clear hK K
  try simp only [Act.put, List.setIfInBounds_toArray, List.set_cons_zero, List.set_cons_succ]
  refine' takeL (i := 11) (v := _) rfl (by kernel_rfl) (by kernel_rfl) (by kernel_rfl) (fun _ _ _ h => h) (Or.inl ⟨by rfl, ?yy11⟩) (by assumption) ?rr11
  case yy11 => intro w hSw; (try dsimp only at hSw); go_simp; (try with_reducible rfl)
  try simp only [Act.put, List.setIfInBounds_toArray, List.set_cons_zero, List.set_cons_succ]
  refine wpAnyH_done (by kernel_rfl) ?_ _
  have M1 := Lib.hid hHeld.1
  have C1 := Lib.hid hHeld.2
  clear hHeld D CD
  go_upto_region 21 with (go_at_call 44; refine (SC.out _ _ _ M1.out).mono ?_; rintro e W2 ⟨rfl, hc2⟩; have M2 := Lib.hid (M1.out.kept (hc2.kept M1.out.lt (by simp))); have C2 := Lib.hid (C1.out.trans (hc2.mono (by simp))); clear hc2)
  clear M1 C1
  have t1 : W2.cell? ⟨g, 1, none⟩ = some (.int .i64 1) := by rw [← HF.out]; exact M2.out.ci (c := 1) (by omega)
  have t3 : W2.cell? ⟨g, 3, none⟩ = some (.int .i64 (m : Int)) := by rw [← HK.out]; exact M2.out.ci (c := 3) (by omega)
  have t4 := M2.out.co hk16
  obtain ⟨u, hu⟩ : ∃ u, os.getD m 0 = u := ⟨_, rfl⟩
  rw [hu] at t4
  have HU := Lib.hid hu
  have u01 : 0 ≤ u ∧ u ≤ 4294967295 := by rw [← hu]; exact getD_in RO.out m
  obtain ⟨u0, u1⟩ := u01
  have j0 : (m : Int) < 16 := by omega
  have j1 : (0 : Int) ≤ (m : Int) := by omega
  clear hu
  go_upto_region 22 with fail
  go_region
  clear t1 t3 t4
  obtain ⟨W3, hW3⟩ : ∃ W3, W2.drew = W3 := ⟨_, rfl⟩
  have M3 := Lib.hid (show Mc W2.drew g _ _ _ _ _ _ from M2.out.drewN 1)
  have C3 := Lib.hid (show Ch w W2.drew [g] from C2.out.drewN 1)
  rw [hW3] at M3 C3
  rw [hW3]
  clear hW3 M2 C2
  have t3 : W3.cell? ⟨g, 3, none⟩ = some (.int .i64 (m : Int)) := by rw [← HK.out]; exact M3.out.ci (c := 3) (by omega)
  have t9 := M3.out.cp (n := 9) (by omega)
  have f9 := M3.out.free 53
  have hm0' : ((m : Int) != 0) = true := by have := HM0.out; simp; omega
  go_wp2
  first | go_end0 | refine bodyPost_ret (results_none rfl _ _ _) rfl ?_
  rw [HU.out]
  exact ⟨rfl, M3.out.setp (n := 9) (by omega) _, C3.out.setCell (by simp) _⟩
end Go.Proofs.Ythjdjbipfdigeaa
