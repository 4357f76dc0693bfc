/- Contracts and laws on the way to the statement, text 21 of 25. Conditions: as each states them. -/
import Derived.Test.YthjdjbipfdigeaaCg7
namespace Go.Proofs.Ythjdjbipfdigeaa
open Go.RowKit
set_option maxRecDepth 100000
set_option linter.unusedVariables false
set_option linter.unusedSimpArgs false
set_option maxRecDepth 1000000 in
set_option maxHeartbeats 8000000 in
theorem product_odd (g n : Nat) (F : Foot) (is os rs : List Int) (ps : List Value) (ov : Bool) (bs ks : List Int) (w : World) (h : MS w g F is os rs ps ov bs ks) (hn : is.getD 2 0 = (n : Int)) (hn16 : n < 16) (hev : n % 2 = 1) : Calls Try.prog 84 #[.pointer (some ⟨g, 0, none⟩)] w fun e w' => e = .panicked [{ v := .iface 65 (.int .i64 6), recovered := false }] ∧ MS w' g F is os rs ps ov bs ks ∧ Ch w w' [g] := by
  have c2 := h.m.ci (c := 2) (by omega)
  rw [hn] at c2
  have HM := Lib.hid h
  have HN := Lib.hid hn
  have D0 := Lib.hid (Ch.refl w [g])
  have n2 : (2 : Int) ≠ 0 := by omega
  have e1 : ((n : Int) % 2 == 0) = false := by simp; omega
  have e2 : IntKind.i64.wrap ((n : Int).tmod 2) = (n : Int) % 2 := by rw [Int.tmod_eq_emod_of_nonneg (by omega)]; exact wrap_i64_id (by omega) (by omega)
  clear h hn hev
  go_enter Try.func84, Try.ntmps84
  go_wp2_with (go_at_call 60; refine (need_no _ _).mono ?_; rintro e wx ⟨rfl, hwx⟩; subst hwx)
  exact ⟨rfl, rfl, HM.out, D0.out⟩
set_option maxRecDepth 1000000 in
set_option maxHeartbeats 8000000 in
theorem product_no (g n : Nat) (F : Foot) (is os rs : List Int) (ps : List Value) (ov : Bool) (bs ks : List Int) (w : World) (h : MS w g F is os rs ps ov bs ks) (hn : is.getD 2 0 = (n : Int)) (hn16 : n < 16) (c : Int) (hop : ∀ W, MS W g F is os rs ps ov bs ks → Calls Try.prog 85 #[.pointer (some ⟨g, 0, none⟩)] W fun e w' => e = .panicked [{ v := .iface 65 (.int .i64 c), recovered := false }] ∧ MS w' g F is os rs ps ov bs ks ∧ Ch W w' []) (hev : n % 2 = 0) : Calls Try.prog 84 #[.pointer (some ⟨g, 0, none⟩)] w fun e w' => e = .panicked [{ v := .iface 65 (.int .i64 c), recovered := false }] ∧ MS w' g F is os rs ps ov bs ks ∧ Ch w w' [g] := by
  have c2 := h.m.ci (c := 2) (by omega)
  rw [hn] at c2
  have HM := Lib.hid h
  have HN := Lib.hid hn
  have D0 := Lib.hid (Ch.refl w [g])
  have n2 : (2 : Int) ≠ 0 := by omega
  have e1 : ((n : Int) % 2 == 0) = true := by simp; omega
  have e2 : IntKind.i64.wrap ((n : Int).tmod 2) = (n : Int) % 2 := by rw [Int.tmod_eq_emod_of_nonneg (by omega)]; exact wrap_i64_id (by omega) (by omega)
  have OC := Lib.hid hop
  clear h hn hev hop
  go_enter Try.func84, Try.ntmps84
  go_wp2_with (first
    | (go_at_call 60; refine (need_ok _ _).mono ?_; rintro e wx ⟨rfl, hwx⟩; subst hwx)
    | (go_at_call 85; refine (OC.out _ HM.out).mono ?_; rintro e w1 ⟨rfl, hM, hC⟩; have M1 := Lib.hid hM; have C1 := Lib.hid (D0.out.trans (hC.mono (by simp))); clear hM hC))
  exact ⟨rfl, rfl, M1.out, C1.out⟩
set_option maxRecDepth 1000000 in
set_option maxHeartbeats 8000000 in
theorem product_28 (g n q : Nat) (F : Foot) (is os rs : List Int) (ps : List Value) (ov : Bool) (bs ks : List Int) (w : World) (h : MS w g F is os rs ps ov bs ks) (hn : is.getD 2 0 = (n : Int)) (hn16 : n < 16) (v : Int) (hop : ∀ W, MS W g F is os rs ps ov bs ks → Calls Try.prog 85 #[.pointer (some ⟨g, 0, none⟩)] W fun e w' => e = .returned (.int .u32 v) ∧ MS w' g F is os rs ps ov bs ks ∧ Ch W w' []) (v0 : 0 ≤ v) (v1 : v ≤ 4294967295) (ro : ∀ z ∈ os, 0 ≤ z ∧ z ≤ 4294967295) (hev : n % 2 = 0) (hq : q = n + 1) (h0 : is.getD 0 0 = 28) : Calls Try.prog 84 #[.pointer (some ⟨g, 0, none⟩)] w fun e w' => e = .returned (.tuple #[]) ∧ MS w' g F is os ((rs.set n (lo32 (sg (os.getD q 0) * sg v / 4294967296))).set q (lo32 (sg (os.getD q 0) * sg v))) ps ov bs ks ∧ Ch w w' [g] := by
  have c2 := h.m.ci (c := 2) (by omega)
  rw [hn] at c2
  have HM := Lib.hid h
  have HN := Lib.hid hn
  have D0 := Lib.hid (Ch.refl w [g])
  have n2 : (2 : Int) ≠ 0 := by omega
  have e1 : ((n : Int) % 2 == 0) = true := by simp; omega
  have e2 : IntKind.i64.wrap ((n : Int).tmod 2) = (n : Int) % 2 := by rw [Int.tmod_eq_emod_of_nonneg (by omega)]; exact wrap_i64_id (by omega) (by omega)
  have eb : bits .and .i64 28 15 = 12 := by decide +kernel
  have OC := Lib.hid hop
  have H0 := Lib.hid h0
  have hq16 : q < 16 := by omega
  have i0 : (n : Int) < 16 := by omega
  have i1 : (0 : Int) ≤ (n : Int) := by omega
  have j0 : (q : Int) < 16 := by omega
  have j1 : (0 : Int) ≤ (q : Int) := by omega
  have hwr : IntKind.i64.wrap ((n : Int) + 1) = (q : Int) := by rw [wrap_i64_id (by omega) (by omega)]; omega
  have ra := getD_in ro n
  have rb := getD_in ro q
  obtain ⟨a, ha⟩ : ∃ a, os.getD n 0 = a := ⟨_, rfl⟩
  obtain ⟨b, hb⟩ : ∃ b, os.getD q 0 = b := ⟨_, rfl⟩
  rw [ha] at ra
  rw [hb] at rb
  rw [hb]
  have HA := Lib.hid ha
  have HB := Lib.hid hb
  clear h hn hop h0 ha hb hev ro hq
  go_enter Try.func84, Try.ntmps84
  go_upto_region 4 with (first
    | (go_at_call 60; refine (need_ok _ _).mono ?_; rintro e wx ⟨rfl, hwx⟩; subst hwx)
    | (go_at_call 85; refine (OC.out _ HM.out).mono ?_; rintro e w1 ⟨rfl, hM, hC⟩; have M1 := Lib.hid hM; have C1 := Lib.hid (D0.out.trans (hC.mono (by simp))); have c0 := hM.m.ci (c := 0) (by omega); rw [H0.out] at c0; clear hM hC))
  have MD := Lib.hid (M1.out.drewN 1)
  clear c0 c2
  refine wp_region_held_drew (S := (fun w' => ∃ (rs' : List Int) (ps' : List Value), Mc w' g is os rs' ps' (.pointer (some ⟨F.g, 0, none⟩)) ov)) (by kernel_rfl) ?_ (fun hHeld => ?_)
  · (try dsimp only); exact ⟨_, _, MD.out.m⟩
  refine' takeL (i := 0) (v := _) rfl (by kernel_rfl) (by kernel_rfl) (by kernel_rfl) (fun _ _ _ h => h) (Or.inl ⟨by rfl, ?yy1⟩) (by assumption) ?rr1
  case yy1 => intro w hSw; (try dsimp only at hSw); go_simp; (try with_reducible rfl)
  try simp only [Act.put, List.setIfInBounds_toArray, List.set_cons_zero, List.set_cons_succ]
  refine' takeL (i := 1) (v := _) rfl (by kernel_rfl) (by kernel_rfl) (by kernel_rfl) (fun _ _ _ h => h) (Or.inl ⟨by rfl, ?yy2⟩) (by assumption) ?rr2
  case yy2 => intro w hSw; (try dsimp only at hSw); go_simp; (try with_reducible rfl)
  try simp only [Act.put, List.setIfInBounds_toArray, List.set_cons_zero, List.set_cons_succ]
  refine' takeL (i := 2) (v := _) rfl (by kernel_rfl) (by kernel_rfl) (by kernel_rfl) (fun _ _ _ h => h) (Or.inl ⟨by rfl, ?yy3⟩) (by assumption) ?rr3
  case yy3 => intro w hSw; (try dsimp only at hSw); go_simp; (try with_reducible rfl)
  try simp only [Act.put, List.setIfInBounds_toArray, List.set_cons_zero, List.set_cons_succ]
  refine' takeL (i := 3) (v := _) rfl (by kernel_rfl) (by kernel_rfl) (by kernel_rfl) (fun _ _ _ h => h) (Or.inl ⟨by rfl, ?yy4⟩) (by assumption) ?rr4
  case yy4 => intro w hSw; (try dsimp only at hSw); go_simp; (try with_reducible rfl)
  try simp only [Act.put, List.setIfInBounds_toArray, List.set_cons_zero, List.set_cons_succ]
  refine' takeL (i := 4) (v := .int .i64 (q : Int)) rfl (by kernel_rfl) (by kernel_rfl) (by kernel_rfl) (fun _ _ _ h => h) (Or.inl ⟨by rfl, ?yy5⟩) (by assumption) ?rr5
  case yy5 => intro w hSw; (try dsimp only at hSw); have e := hwr; go_simp; (try with_reducible rfl)
  try simp only [Act.put, List.setIfInBounds_toArray, List.set_cons_zero, List.set_cons_succ]
  refine' takeL (i := 5) (v := _) rfl (by kernel_rfl) (by kernel_rfl) (by kernel_rfl) (fun _ _ _ h => h) (Or.inl ⟨by rfl, ?yy6⟩) (by assumption) ?rr6
  case yy6 => intro w hSw; (try dsimp only at hSw); go_simp; (try with_reducible rfl)
  try simp only [Act.put, List.setIfInBounds_toArray, List.set_cons_zero, List.set_cons_succ]
  refine' takeL (i := 6) (v := _) rfl (by kernel_rfl) (by kernel_rfl) (by kernel_rfl) (fun _ _ _ h => h) (Or.inl ⟨by rfl, ?yy7⟩) (by assumption) ?rr7
  case yy7 => intro w hSw; (try dsimp only at hSw); go_simp; (try with_reducible rfl)
  try simp only [Act.put, List.setIfInBounds_toArray, List.set_cons_zero, List.set_cons_succ]
  refine' takeL (i := 7) (v := .int .i64 (q : Int)) rfl (by kernel_rfl) (by kernel_rfl) (by kernel_rfl) (fun _ _ _ h => h) (Or.inl ⟨by rfl, ?yy8⟩) (by assumption) ?rr8
  case yy8 => intro w hSw; (try dsimp only at hSw); have e := hwr; go_simp; (try with_reducible rfl)
  try simp only [Act.put, List.setIfInBounds_toArray, List.set_cons_zero, List.set_cons_succ]
  refine' takeL (i := 8) (v := _) rfl (by kernel_rfl) (by kernel_rfl) (by kernel_rfl) (fun _ _ _ h => h) (Or.inl ⟨by rfl, ?yy9⟩) (by assumption) ?rr9
  case yy9 => intro w hSw; (try dsimp only at hSw); go_simp; (try with_reducible rfl)
  try simp only [Act.put, List.setIfInBounds_toArray, List.set_cons_zero, List.set_cons_succ]
  refine' takeL (i := 9) (v := _) rfl (by kernel_rfl) (by kernel_rfl) (by kernel_rfl) (fun _ _ _ h => h) (Or.inl ⟨by rfl, ?yy10⟩) (by assumption) ?rr10
  case yy10 => intro w hSw; (try dsimp only at hSw); go_simp; (try with_reducible rfl)
  try simp only [Act.put, List.setIfInBounds_toArray, List.set_cons_zero, List.set_cons_succ]
  refine' takeL (i := 10) (v := _) rfl (by kernel_rfl) (by kernel_rfl) (by kernel_rfl) (fun _ _ _ h => h) (Or.inl ⟨by rfl, ?yy11⟩) (by assumption) ?rr11
  case yy11 => intro w hSw; (try dsimp only at hSw); go_simp; (try with_reducible rfl)
  try simp only [Act.put, List.setIfInBounds_toArray, List.set_cons_zero, List.set_cons_succ]
  refine' takeL (i := 11) (v := .int .u32 b) rfl (by kernel_rfl) (by kernel_rfl) (by kernel_rfl) (fun _ _ _ h => h) (Or.inl ⟨by rfl, ?yy12⟩) (by assumption) ?rr12
  case yy12 => intro w hSw; (try dsimp only at hSw); obtain ⟨rs', ps', hx⟩ := hSw; have hq := hx.co hq16; rw [HB.out] at hq; go_simp; (try with_reducible rfl)
  try simp only [Act.put, List.setIfInBounds_toArray, List.set_cons_zero, List.set_cons_succ]
  refine' takeL (i := 12) (v := _) rfl (by kernel_rfl) (by kernel_rfl) (by kernel_rfl) (fun _ _ _ h => h) (Or.inl ⟨by rfl, ?yy13⟩) (by assumption) ?rr13
  case yy13 => intro w hSw; (try dsimp only at hSw); go_simp; (try with_reducible rfl)
  try simp only [Act.put, List.setIfInBounds_toArray, List.set_cons_zero, List.set_cons_succ]
  refine' takeL (i := 17) (v := _) rfl (by kernel_rfl) (by kernel_rfl) (by kernel_rfl) (fun _ _ _ h => h) (Or.inl ⟨by rfl, ?yy14⟩) (by assumption) ?rr14
  case yy14 => intro w hSw; (try dsimp only at hSw); go_simp; (try with_reducible rfl)
  try simp only [Act.put, List.setIfInBounds_toArray, List.set_cons_zero, List.set_cons_succ]
  refine' takeL (i := 18) (v := _) rfl (by kernel_rfl) (by kernel_rfl) (by kernel_rfl) (fun _ _ _ h => h) (Or.inl ⟨by rfl, ?yy15⟩) (by assumption) ?rr15
  case yy15 => intro w hSw; (try dsimp only at hSw); go_simp; (try with_reducible rfl)
  try simp only [Act.put, List.setIfInBounds_toArray, List.set_cons_zero, List.set_cons_succ]
  refine' takeL (i := 21) (v := _) rfl (by kernel_rfl) (by kernel_rfl) (by kernel_rfl) (fun _ _ _ h => h) (Or.inl ⟨by rfl, ?yy16⟩) (by assumption) ?rr16
  case yy16 => intro w hSw; (try dsimp only at hSw); go_simp; (try with_reducible rfl)
  try simp only [Act.put, List.setIfInBounds_toArray, List.set_cons_zero, List.set_cons_succ]
  refine' takeL (i := 22) (v := _) rfl (by kernel_rfl) (by kernel_rfl) (by kernel_rfl) (fun _ _ _ h => h) (Or.inl ⟨by rfl, ?yy17⟩) (by assumption) ?rr17
  case yy17 => intro w hSw; (try dsimp only at hSw); go_simp; (try with_reducible rfl)
  try simp only [Act.put, List.setIfInBounds_toArray, List.set_cons_zero, List.set_cons_succ]
  refine wpAnyH_ready (rs := [13]) (by kernel_rfl) (by simp) ?_
  refine consL rfl (fun K hK => ?_) AllReadyH.nil
  go_simp
  go_at_call 92
  refine (mul_c b v rb.1 rb.2 v0 v1 _).mono ?_
  rintro e w5 ⟨rfl, hw5⟩
  subst hw5
  go_wp2_with fail
  refine hK.out _ _ ?_ (fun hHeld => ?_)
  · (try dsimp only); exact hHeld
  clear hK K
  try simp only [Act.put, List.setIfInBounds_toArray, List.set_cons_zero, List.set_cons_succ]
  refine' takeL (i := 14) (v := _) rfl (by kernel_rfl) (by kernel_rfl) (by kernel_rfl) (fun _ _ _ h => h) (Or.inl ⟨by rfl, ?yy18⟩) (by assumption) ?rr18
  case yy18 => intro w hSw; (try dsimp only at hSw); go_simp; (try with_reducible rfl)
  try simp only [Act.put, List.setIfInBounds_toArray, List.set_cons_zero, List.set_cons_succ]
  refine' takeL (i := 15) (v := _) rfl (by kernel_rfl) (by kernel_rfl) (by kernel_rfl) (fun _ _ _ h => h) (Or.inl ⟨by rfl, ?yy19⟩) (by assumption) ?rr19
  case yy19 => intro w hSw; (try dsimp only at hSw); go_simp; (try with_reducible rfl)
  try simp only [Act.put, List.setIfInBounds_toArray, List.set_cons_zero, List.set_cons_succ]
  refine' takeL (i := 16) (v := _) rfl (by kernel_rfl) (by kernel_rfl) (by kernel_rfl) (fun _ _ _ h => h) (Or.inl ⟨by rfl, ?yy20⟩) (by assumption) ?rr20
  case yy20 => intro w hSw; (try dsimp only at hSw); go_simp; (try with_reducible rfl)
  try simp only [Act.put, List.setIfInBounds_toArray, List.set_cons_zero, List.set_cons_succ]
  refine' takeL (i := 19) (v := _) rfl (by kernel_rfl) (by kernel_rfl) (by kernel_rfl) (fun _ _ _ h => h) (Or.inl ⟨by rfl, ?yy21⟩) (by assumption) ?rr21
  case yy21 => intro w hSw; (try dsimp only at hSw); go_simp; (try with_reducible rfl)
  try simp only [Act.put, List.setIfInBounds_toArray, List.set_cons_zero, List.set_cons_succ]
  refine wpAnyH_ready (rs := [20]) (by kernel_rfl) (by simp) ?_
  refine consL rfl (fun K hK => ?_) AllReadyH.nil
  have cS := (M1.out).m.cr hn16
  have fS := (M1.out).m.free (28 + n)
  go_simp
  refine hK.out _ _ ?_ (fun hHeld => ?_)
  · (try dsimp only); exact ⟨_, _, (((M1.out).setr hn16 _).drewN 1).m⟩
  clear hK K
  try simp only [Act.put, List.setIfInBounds_toArray, List.set_cons_zero, List.set_cons_succ]
  refine' takeL (i := 23) (v := _) rfl (by kernel_rfl) (by kernel_rfl) (by kernel_rfl) (fun _ _ _ h => h) (Or.inl ⟨by rfl, ?yy22⟩) (by assumption) ?rr22
  case yy22 => intro w hSw; (try dsimp only at hSw); go_simp; (try with_reducible rfl)
  try simp only [Act.put, List.setIfInBounds_toArray, List.set_cons_zero, List.set_cons_succ]
  refine wpAnyH_ready (rs := [24]) (by kernel_rfl) (by simp) ?_
  refine consL rfl (fun K hK => ?_) AllReadyH.nil
  have cS := ((M1.out.setr hn16 (lo32 (sg b * sg v / 4294967296)))).m.cr hq16
  have fS := ((M1.out.setr hn16 (lo32 (sg b * sg v / 4294967296)))).m.free (28 + q)
  go_simp
  refine hK.out _ _ ?_ (fun hHeld => ?_)
  · (try dsimp only); exact ⟨_, _, ((((M1.out.setr hn16 (lo32 (sg b * sg v / 4294967296)))).setr hq16 _).drewN 1).m⟩
  clear hK K
  try simp only [Act.put, List.setIfInBounds_toArray, List.set_cons_zero, List.set_cons_succ]
  refine wpAnyH_done (by kernel_rfl) ?_ _
  go_wp2
  first | go_end0 | refine bodyPost_ret (results_none rfl _ _ _) rfl ?_
  exact ⟨rfl, ((M1.out.setr hn16 _).setr hq16 _).drewN 1, ((C1.out.setCell (by simp) _).setCell (by simp) _).drewN 1⟩
set_option maxRecDepth 1000000 in
set_option maxHeartbeats 8000000 in
theorem product_92 (g n q : Nat) (F : Foot) (is os rs : List Int) (ps : List Value) (ov : Bool) (bs ks : List Int) (w : World) (h : MS w g F is os rs ps ov bs ks) (hn : is.getD 2 0 = (n : Int)) (hn16 : n < 16) (v : Int) (hop : ∀ W, MS W g F is os rs ps ov bs ks → Calls Try.prog 85 #[.pointer (some ⟨g, 0, none⟩)] W fun e w' => e = .returned (.int .u32 v) ∧ MS w' g F is os rs ps ov bs ks ∧ Ch W w' []) (v0 : 0 ≤ v) (v1 : v ≤ 4294967295) (ro : ∀ z ∈ os, 0 ≤ z ∧ z ≤ 4294967295) (hev : n % 2 = 0) (hq : q = n + 1) (h0 : is.getD 0 0 = 92) : Calls Try.prog 84 #[.pointer (some ⟨g, 0, none⟩)] w fun e w' => e = .returned (.tuple #[]) ∧ MS w' g F is os ((rs.set n (lo32 (sg (os.getD q 0) * sg v / 4294967296))).set q (lo32 (sg (os.getD q 0) * sg v))) ps ov bs ks ∧ Ch w w' [g] := by
  have c2 := h.m.ci (c := 2) (by omega)
  rw [hn] at c2
  have HM := Lib.hid h
  have HN := Lib.hid hn
  have D0 := Lib.hid (Ch.refl w [g])
  have n2 : (2 : Int) ≠ 0 := by omega
  have e1 : ((n : Int) % 2 == 0) = true := by simp; omega
  have e2 : IntKind.i64.wrap ((n : Int).tmod 2) = (n : Int) % 2 := by rw [Int.tmod_eq_emod_of_nonneg (by omega)]; exact wrap_i64_id (by omega) (by omega)
  have eb : bits .and .i64 92 15 = 12 := by decide +kernel
  have OC := Lib.hid hop
  have H0 := Lib.hid h0
  have hq16 : q < 16 := by omega
  have i0 : (n : Int) < 16 := by omega
  have i1 : (0 : Int) ≤ (n : Int) := by omega
  have j0 : (q : Int) < 16 := by omega
  have j1 : (0 : Int) ≤ (q : Int) := by omega
  have hwr : IntKind.i64.wrap ((n : Int) + 1) = (q : Int) := by rw [wrap_i64_id (by omega) (by omega)]; omega
  have ra := getD_in ro n
  have rb := getD_in ro q
  obtain ⟨a, ha⟩ : ∃ a, os.getD n 0 = a := ⟨_, rfl⟩
  obtain ⟨b, hb⟩ : ∃ b, os.getD q 0 = b := ⟨_, rfl⟩
  rw [ha] at ra
  rw [hb] at rb
  rw [hb]
  have HA := Lib.hid ha
  have HB := Lib.hid hb
  clear h hn hop h0 ha hb hev ro hq
  go_enter Try.func84, Try.ntmps84
  go_upto_region 4 with (first
    | (go_at_call 60; refine (need_ok _ _).mono ?_; rintro e wx ⟨rfl, hwx⟩; subst hwx)
    | (go_at_call 85; refine (OC.out _ HM.out).mono ?_; rintro e w1 ⟨rfl, hM, hC⟩; have M1 := Lib.hid hM; have C1 := Lib.hid (D0.out.trans (hC.mono (by simp))); have c0 := hM.m.ci (c := 0) (by omega); rw [H0.out] at c0; clear hM hC))
  have MD := Lib.hid (M1.out.drewN 1)
  clear c0 c2
  refine wp_region_held_drew (S := (fun w' => ∃ (rs' : List Int) (ps' : List Value), Mc w' g is os rs' ps' (.pointer (some ⟨F.g, 0, none⟩)) ov)) (by kernel_rfl) ?_ (fun hHeld => ?_)
  · (try dsimp only); exact ⟨_, _, MD.out.m⟩
  refine' takeL (i := 0) (v := _) rfl (by kernel_rfl) (by kernel_rfl) (by kernel_rfl) (fun _ _ _ h => h) (Or.inl ⟨by rfl, ?yy23⟩) (by assumption) ?rr23
  case yy23 => intro w hSw; (try dsimp only at hSw); go_simp; (try with_reducible rfl)
  try simp only [Act.put, List.setIfInBounds_toArray, List.set_cons_zero, List.set_cons_succ]
  refine' takeL (i := 1) (v := _) rfl (by kernel_rfl) (by kernel_rfl) (by kernel_rfl) (fun _ _ _ h => h) (Or.inl ⟨by rfl, ?yy24⟩) (by assumption) ?rr24
  case yy24 => intro w hSw; (try dsimp only at hSw); go_simp; (try with_reducible rfl)
  try simp only [Act.put, List.setIfInBounds_toArray, List.set_cons_zero, List.set_cons_succ]
  refine' takeL (i := 2) (v := _) rfl (by kernel_rfl) (by kernel_rfl) (by kernel_rfl) (fun _ _ _ h => h) (Or.inl ⟨by rfl, ?yy25⟩) (by assumption) ?rr25
  case yy25 => intro w hSw; (try dsimp only at hSw); go_simp; (try with_reducible rfl)
  try simp only [Act.put, List.setIfInBounds_toArray, List.set_cons_zero, List.set_cons_succ]
  refine' takeL (i := 3) (v := _) rfl (by kernel_rfl) (by kernel_rfl) (by kernel_rfl) (fun _ _ _ h => h) (Or.inl ⟨by rfl, ?yy26⟩) (by assumption) ?rr26
  case yy26 => intro w hSw; (try dsimp only at hSw); go_simp; (try with_reducible rfl)
  try simp only [Act.put, List.setIfInBounds_toArray, List.set_cons_zero, List.set_cons_succ]
  refine' takeL (i := 4) (v := .int .i64 (q : Int)) rfl (by kernel_rfl) (by kernel_rfl) (by kernel_rfl) (fun _ _ _ h => h) (Or.inl ⟨by rfl, ?yy27⟩) (by assumption) ?rr27
  case yy27 => intro w hSw; (try dsimp only at hSw); have e := hwr; go_simp; (try with_reducible rfl)
  try simp only [Act.put, List.setIfInBounds_toArray, List.set_cons_zero, List.set_cons_succ]
  refine' takeL (i := 5) (v := _) rfl (by kernel_rfl) (by kernel_rfl) (by kernel_rfl) (fun _ _ _ h => h) (Or.inl ⟨by rfl, ?yy28⟩) (by assumption) ?rr28
  case yy28 => intro w hSw; (try dsimp only at hSw); go_simp; (try with_reducible rfl)
  try simp only [Act.put, List.setIfInBounds_toArray, List.set_cons_zero, List.set_cons_succ]
  refine' takeL (i := 6) (v := _) rfl (by kernel_rfl) (by kernel_rfl) (by kernel_rfl) (fun _ _ _ h => h) (Or.inl ⟨by rfl, ?yy29⟩) (by assumption) ?rr29
  case yy29 => intro w hSw; (try dsimp only at hSw); go_simp; (try with_reducible rfl)
  try simp only [Act.put, List.setIfInBounds_toArray, List.set_cons_zero, List.set_cons_succ]
  refine' takeL (i := 7) (v := .int .i64 (q : Int)) rfl (by kernel_rfl) (by kernel_rfl) (by kernel_rfl) (fun _ _ _ h => h) (Or.inl ⟨by rfl, ?yy30⟩) (by assumption) ?rr30
  case yy30 => intro w hSw; (try dsimp only at hSw); have e := hwr; go_simp; (try with_reducible rfl)
  try simp only [Act.put, List.setIfInBounds_toArray, List.set_cons_zero, List.set_cons_succ]
  refine' takeL (i := 8) (v := _) rfl (by kernel_rfl) (by kernel_rfl) (by kernel_rfl) (fun _ _ _ h => h) (Or.inl ⟨by rfl, ?yy31⟩) (by assumption) ?rr31
  case yy31 => intro w hSw; (try dsimp only at hSw); go_simp; (try with_reducible rfl)
  try simp only [Act.put, List.setIfInBounds_toArray, List.set_cons_zero, List.set_cons_succ]
  refine' takeL (i := 9) (v := _) rfl (by kernel_rfl) (by kernel_rfl) (by kernel_rfl) (fun _ _ _ h => h) (Or.inl ⟨by rfl, ?yy32⟩) (by assumption) ?rr32
  case yy32 => intro w hSw; (try dsimp only at hSw); go_simp; (try with_reducible rfl)
  try simp only [Act.put, List.setIfInBounds_toArray, List.set_cons_zero, List.set_cons_succ]
  refine' takeL (i := 10) (v := _) rfl (by kernel_rfl) (by kernel_rfl) (by kernel_rfl) (fun _ _ _ h => h) (Or.inl ⟨by rfl, ?yy33⟩) (by assumption) ?rr33
  case yy33 => intro w hSw; (try dsimp only at hSw); go_simp; (try with_reducible rfl)
  try simp only [Act.put, List.setIfInBounds_toArray, List.set_cons_zero, List.set_cons_succ]
  refine' takeL (i := 11) (v := .int .u32 b) rfl (by kernel_rfl) (by kernel_rfl) (by kernel_rfl) (fun _ _ _ h => h) (Or.inl ⟨by rfl, ?yy34⟩) (by assumption) ?rr34
  case yy34 => intro w hSw; (try dsimp only at hSw); obtain ⟨rs', ps', hx⟩ := hSw; have hq := hx.co hq16; rw [HB.out] at hq; go_simp; (try with_reducible rfl)
  try simp only [Act.put, List.setIfInBounds_toArray, List.set_cons_zero, List.set_cons_succ]
  refine' takeL (i := 12) (v := _) rfl (by kernel_rfl) (by kernel_rfl) (by kernel_rfl) (fun _ _ _ h => h) (Or.inl ⟨by rfl, ?yy35⟩) (by assumption) ?rr35
  case yy35 => intro w hSw; (try dsimp only at hSw); go_simp; (try with_reducible rfl)
  try simp only [Act.put, List.setIfInBounds_toArray, List.set_cons_zero, List.set_cons_succ]
  refine' takeL (i := 17) (v := _) rfl (by kernel_rfl) (by kernel_rfl) (by kernel_rfl) (fun _ _ _ h => h) (Or.inl ⟨by rfl, ?yy36⟩) (by assumption) ?rr36
  case yy36 => intro w hSw; (try dsimp only at hSw); go_simp; (try with_reducible rfl)
  try simp only [Act.put, List.setIfInBounds_toArray, List.set_cons_zero, List.set_cons_succ]
  refine' takeL (i := 18) (v := _) rfl (by kernel_rfl) (by kernel_rfl) (by kernel_rfl) (fun _ _ _ h => h) (Or.inl ⟨by rfl, ?yy37⟩) (by assumption) ?rr37
  case yy37 => intro w hSw; (try dsimp only at hSw); go_simp; (try with_reducible rfl)
  try simp only [Act.put, List.setIfInBounds_toArray, List.set_cons_zero, List.set_cons_succ]
  refine' takeL (i := 21) (v := _) rfl (by kernel_rfl) (by kernel_rfl) (by kernel_rfl) (fun _ _ _ h => h) (Or.inl ⟨by rfl, ?yy38⟩) (by assumption) ?rr38
  case yy38 => intro w hSw; (try dsimp only at hSw); go_simp; (try with_reducible rfl)
  try simp only [Act.put, List.setIfInBounds_toArray, List.set_cons_zero, List.set_cons_succ]
  refine' takeL (i := 22) (v := _) rfl (by kernel_rfl) (by kernel_rfl) (by kernel_rfl) (fun _ _ _ h => h) (Or.inl ⟨by rfl, ?yy39⟩) (by assumption) ?rr39
  case yy39 => intro w hSw; (try dsimp only at hSw); go_simp; (try with_reducible rfl)
  try simp only [Act.put, List.setIfInBounds_toArray, List.set_cons_zero, List.set_cons_succ]
  refine wpAnyH_ready (rs := [13]) (by kernel_rfl) (by simp) ?_
  refine consL rfl (fun K hK => ?_) AllReadyH.nil
  go_simp
  go_at_call 92
  refine (mul_c b v rb.1 rb.2 v0 v1 _).mono ?_
  rintro e w5 ⟨rfl, hw5⟩
  subst hw5
  go_wp2_with fail
  refine hK.out _ _ ?_ (fun hHeld => ?_)
  · (try dsimp only); exact hHeld
  clear hK K
  try simp only [Act.put, List.setIfInBounds_toArray, List.set_cons_zero, List.set_cons_succ]
  refine' takeL (i := 14) (v := _) rfl (by kernel_rfl) (by kernel_rfl) (by kernel_rfl) (fun _ _ _ h => h) (Or.inl ⟨by rfl, ?yy40⟩) (by assumption) ?rr40
  case yy40 => intro w hSw; (try dsimp only at hSw); go_simp; (try with_reducible rfl)
  try simp only [Act.put, List.setIfInBounds_toArray, List.set_cons_zero, List.set_cons_succ]
  refine' takeL (i := 15) (v := _) rfl (by kernel_rfl) (by kernel_rfl) (by kernel_rfl) (fun _ _ _ h => h) (Or.inl ⟨by rfl, ?yy41⟩) (by assumption) ?rr41
  case yy41 => intro w hSw; (try dsimp only at hSw); go_simp; (try with_reducible rfl)
  try simp only [Act.put, List.setIfInBounds_toArray, List.set_cons_zero, List.set_cons_succ]
  refine' takeL (i := 16) (v := _) rfl (by kernel_rfl) (by kernel_rfl) (by kernel_rfl) (fun _ _ _ h => h) (Or.inl ⟨by rfl, ?yy42⟩) (by assumption) ?rr42
  case yy42 => intro w hSw; (try dsimp only at hSw); go_simp; (try with_reducible rfl)
  try simp only [Act.put, List.setIfInBounds_toArray, List.set_cons_zero, List.set_cons_succ]
  refine' takeL (i := 19) (v := _) rfl (by kernel_rfl) (by kernel_rfl) (by kernel_rfl) (fun _ _ _ h => h) (Or.inl ⟨by rfl, ?yy43⟩) (by assumption) ?rr43
  case yy43 => intro w hSw; (try dsimp only at hSw); go_simp; (try with_reducible rfl)
  try simp only [Act.put, List.setIfInBounds_toArray, List.set_cons_zero, List.set_cons_succ]
  refine wpAnyH_ready (rs := [20]) (by kernel_rfl) (by simp) ?_
  refine consL rfl (fun K hK => ?_) AllReadyH.nil
  have cS := (M1.out).m.cr hn16
  have fS := (M1.out).m.free (28 + n)
  go_simp
  refine hK.out _ _ ?_ (fun hHeld => ?_)
  · (try dsimp only); exact ⟨_, _, (((M1.out).setr hn16 _).drewN 1).m⟩
  clear hK K
  try simp only [Act.put, List.setIfInBounds_toArray, List.set_cons_zero, List.set_cons_succ]
  refine' takeL (i := 23) (v := _) rfl (by kernel_rfl) (by kernel_rfl) (by kernel_rfl) (fun _ _ _ h => h) (Or.inl ⟨by rfl, ?yy44⟩) (by assumption) ?rr44
  case yy44 => intro w hSw; (try dsimp only at hSw); go_simp; (try with_reducible rfl)
  try simp only [Act.put, List.setIfInBounds_toArray, List.set_cons_zero, List.set_cons_succ]
  refine wpAnyH_ready (rs := [24]) (by kernel_rfl) (by simp) ?_
  refine consL rfl (fun K hK => ?_) AllReadyH.nil
  have cS := ((M1.out.setr hn16 (lo32 (sg b * sg v / 4294967296)))).m.cr hq16
  have fS := ((M1.out.setr hn16 (lo32 (sg b * sg v / 4294967296)))).m.free (28 + q)
  go_simp
  refine hK.out _ _ ?_ (fun hHeld => ?_)
  · (try dsimp only); exact ⟨_, _, ((((M1.out.setr hn16 (lo32 (sg b * sg v / 4294967296)))).setr hq16 _).drewN 1).m⟩
  clear hK K
  try simp only [Act.put, List.setIfInBounds_toArray, List.set_cons_zero, List.set_cons_succ]
  refine wpAnyH_done (by kernel_rfl) ?_ _
  go_wp2
  first | go_end0 | refine bodyPost_ret (results_none rfl _ _ _) rfl ?_
  exact ⟨rfl, ((M1.out.setr hn16 _).setr hq16 _).drewN 1, ((C1.out.setCell (by simp) _).setCell (by simp) _).drewN 1⟩
set_option maxRecDepth 1000000 in
set_option maxHeartbeats 8000000 in
theorem product_29 (g n q : Nat) (F : Foot) (is os rs : List Int) (ps : List Value) (ov : Bool) (bs ks : List Int) (w : World) (h : MS w g F is os rs ps ov bs ks) (hn : is.getD 2 0 = (n : Int)) (hn16 : n < 16) (v : Int) (hop : ∀ W, MS W g F is os rs ps ov bs ks → Calls Try.prog 85 #[.pointer (some ⟨g, 0, none⟩)] W fun e w' => e = .returned (.int .u32 v) ∧ MS w' g F is os rs ps ov bs ks ∧ Ch W w' []) (v0 : 0 ≤ v) (v1 : v ≤ 4294967295) (ro : ∀ z ∈ os, 0 ≤ z ∧ z ≤ 4294967295) (hev : n % 2 = 0) (hq : q = n + 1) (h0 : is.getD 0 0 = 29) (hd : dok (sg64 (dbl (os.getD n 0) (os.getD q 0))) (sg v) = true) : Calls Try.prog 84 #[.pointer (some ⟨g, 0, none⟩)] w fun e w' => e = .returned (.tuple #[]) ∧ MS w' g F is os ((rs.set n (drem (sg64 (dbl (os.getD n 0) (os.getD q 0))) (sg v))).set q (dquo (sg64 (dbl (os.getD n 0) (os.getD q 0))) (sg v))) ps ov bs ks ∧ Ch w w' [g] := by
  have c2 := h.m.ci (c := 2) (by omega)
  rw [hn] at c2
  have HM := Lib.hid h
  have HN := Lib.hid hn
  have D0 := Lib.hid (Ch.refl w [g])
  have n2 : (2 : Int) ≠ 0 := by omega
  have e1 : ((n : Int) % 2 == 0) = true := by simp; omega
  have e2 : IntKind.i64.wrap ((n : Int).tmod 2) = (n : Int) % 2 := by rw [Int.tmod_eq_emod_of_nonneg (by omega)]; exact wrap_i64_id (by omega) (by omega)
  have eb : bits .and .i64 29 15 = 13 := by decide +kernel
  have OC := Lib.hid hop
  have H0 := Lib.hid h0
  have hq16 : q < 16 := by omega
  have i0 : (n : Int) < 16 := by omega
  have i1 : (0 : Int) ≤ (n : Int) := by omega
  have j0 : (q : Int) < 16 := by omega
  have j1 : (0 : Int) ≤ (q : Int) := by omega
  have hwr : IntKind.i64.wrap ((n : Int) + 1) = (q : Int) := by rw [wrap_i64_id (by omega) (by omega)]; omega
  have ra := getD_in ro n
  have rb := getD_in ro q
  obtain ⟨a, ha⟩ : ∃ a, os.getD n 0 = a := ⟨_, rfl⟩
  obtain ⟨b, hb⟩ : ∃ b, os.getD q 0 = b := ⟨_, rfl⟩
  rw [ha] at ra
  rw [hb] at rb
  rw [ha, hb] at hd
  rw [ha, hb]
  have HA := Lib.hid ha
  have HB := Lib.hid hb
  clear h hn hop h0 ha hb hev ro hq
  have DC := Lib.hid (fun W => div_c a b v ra.1 ra.2 rb.1 rb.2 v0 v1 W)
  rw [hd] at DC
  clear hd
  go_enter Try.func84, Try.ntmps84
  go_upto_region 5 with (first
    | (go_at_call 60; refine (need_ok _ _).mono ?_; rintro e wx ⟨rfl, hwx⟩; subst hwx)
    | (go_at_call 85; refine (OC.out _ HM.out).mono ?_; rintro e w1 ⟨rfl, hM, hC⟩; have M1 := Lib.hid hM; have C1 := Lib.hid (D0.out.trans (hC.mono (by simp))); have c0 := hM.m.ci (c := 0) (by omega); rw [H0.out] at c0; clear hM hC))
  have MD := Lib.hid (M1.out.drewN 1)
  clear c0 c2
  refine wp_region_held_drew (S := (fun w' => ∃ (rs' : List Int) (ps' : List Value), Mc w' g is os rs' ps' (.pointer (some ⟨F.g, 0, none⟩)) ov)) (by kernel_rfl) ?_ (fun hHeld => ?_)
  · (try dsimp only); exact ⟨_, _, MD.out.m⟩
  refine' takeL (i := 0) (v := _) rfl (by kernel_rfl) (by kernel_rfl) (by kernel_rfl) (fun _ _ _ h => h) (Or.inl ⟨by rfl, ?yy45⟩) (by assumption) ?rr45
  case yy45 => intro w hSw; (try dsimp only at hSw); go_simp; (try with_reducible rfl)
  try simp only [Act.put, List.setIfInBounds_toArray, List.set_cons_zero, List.set_cons_succ]
  refine' takeL (i := 1) (v := _) rfl (by kernel_rfl) (by kernel_rfl) (by kernel_rfl) (fun _ _ _ h => h) (Or.inl ⟨by rfl, ?yy46⟩) (by assumption) ?rr46
  case yy46 => intro w hSw; (try dsimp only at hSw); go_simp; (try with_reducible rfl)
  try simp only [Act.put, List.setIfInBounds_toArray, List.set_cons_zero, List.set_cons_succ]
  refine' takeL (i := 2) (v := _) rfl (by kernel_rfl) (by kernel_rfl) (by kernel_rfl) (fun _ _ _ h => h) (Or.inl ⟨by rfl, ?yy47⟩) (by assumption) ?rr47
  case yy47 => intro w hSw; (try dsimp only at hSw); go_simp; (try with_reducible rfl)
  try simp only [Act.put, List.setIfInBounds_toArray, List.set_cons_zero, List.set_cons_succ]
  refine' takeL (i := 3) (v := _) rfl (by kernel_rfl) (by kernel_rfl) (by kernel_rfl) (fun _ _ _ h => h) (Or.inl ⟨by rfl, ?yy48⟩) (by assumption) ?rr48
  case yy48 => intro w hSw; (try dsimp only at hSw); go_simp; (try with_reducible rfl)
  try simp only [Act.put, List.setIfInBounds_toArray, List.set_cons_zero, List.set_cons_succ]
  refine' takeL (i := 4) (v := _) rfl (by kernel_rfl) (by kernel_rfl) (by kernel_rfl) (fun _ _ _ h => h) (Or.inl ⟨by rfl, ?yy49⟩) (by assumption) ?rr49
  case yy49 => intro w hSw; (try dsimp only at hSw); go_simp; (try with_reducible rfl)
  try simp only [Act.put, List.setIfInBounds_toArray, List.set_cons_zero, List.set_cons_succ]
  refine' takeL (i := 5) (v := .int .u32 a) rfl (by kernel_rfl) (by kernel_rfl) (by kernel_rfl) (fun _ _ _ h => h) (Or.inl ⟨by rfl, ?yy50⟩) (by assumption) ?rr50
  case yy50 => intro w hSw; (try dsimp only at hSw); obtain ⟨rs', ps', hx⟩ := hSw; have hq := hx.co hn16; rw [HA.out] at hq; go_simp; (try with_reducible rfl)
  try simp only [Act.put, List.setIfInBounds_toArray, List.set_cons_zero, List.set_cons_succ]
  refine' takeL (i := 6) (v := _) rfl (by kernel_rfl) (by kernel_rfl) (by kernel_rfl) (fun _ _ _ h => h) (Or.inl ⟨by rfl, ?yy51⟩) (by assumption) ?rr51
  case yy51 => intro w hSw; (try dsimp only at hSw); go_simp; (try with_reducible rfl)
  try simp only [Act.put, List.setIfInBounds_toArray, List.set_cons_zero, List.set_cons_succ]
  refine' takeL (i := 7) (v := _) rfl (by kernel_rfl) (by kernel_rfl) (by kernel_rfl) (fun _ _ _ h => h) (Or.inl ⟨by rfl, ?yy52⟩) (by assumption) ?rr52
  case yy52 => intro w hSw; (try dsimp only at hSw); go_simp; (try with_reducible rfl)
  try simp only [Act.put, List.setIfInBounds_toArray, List.set_cons_zero, List.set_cons_succ]
  refine' takeL (i := 8) (v := .int .i64 (q : Int)) rfl (by kernel_rfl) (by kernel_rfl) (by kernel_rfl) (fun _ _ _ h => h) (Or.inl ⟨by rfl, ?yy53⟩) (by assumption) ?rr53
  case yy53 => intro w hSw; (try dsimp only at hSw); have e := hwr; go_simp; (try with_reducible rfl)
  try simp only [Act.put, List.setIfInBounds_toArray, List.set_cons_zero, List.set_cons_succ]
  refine' takeL (i := 9) (v := _) rfl (by kernel_rfl) (by kernel_rfl) (by kernel_rfl) (fun _ _ _ h => h) (Or.inl ⟨by rfl, ?yy54⟩) (by assumption) ?rr54
  case yy54 => intro w hSw; (try dsimp only at hSw); go_simp; (try with_reducible rfl)
  try simp only [Act.put, List.setIfInBounds_toArray, List.set_cons_zero, List.set_cons_succ]
  refine' takeL (i := 10) (v := _) rfl (by kernel_rfl) (by kernel_rfl) (by kernel_rfl) (fun _ _ _ h => h) (Or.inl ⟨by rfl, ?yy55⟩) (by assumption) ?rr55
  case yy55 => intro w hSw; (try dsimp only at hSw); go_simp; (try with_reducible rfl)
  try simp only [Act.put, List.setIfInBounds_toArray, List.set_cons_zero, List.set_cons_succ]
  refine' takeL (i := 11) (v := _) rfl (by kernel_rfl) (by kernel_rfl) (by kernel_rfl) (fun _ _ _ h => h) (Or.inl ⟨by rfl, ?yy56⟩) (by assumption) ?rr56
  case yy56 => intro w hSw; (try dsimp only at hSw); go_simp; (try with_reducible rfl)
  try simp only [Act.put, List.setIfInBounds_toArray, List.set_cons_zero, List.set_cons_succ]
  refine' takeL (i := 12) (v := .int .u32 b) rfl (by kernel_rfl) (by kernel_rfl) (by kernel_rfl) (fun _ _ _ h => h) (Or.inl ⟨by rfl, ?yy57⟩) (by assumption) ?rr57
  case yy57 => intro w hSw; (try dsimp only at hSw); obtain ⟨rs', ps', hx⟩ := hSw; have hq := hx.co hq16; rw [HB.out] at hq; go_simp; (try with_reducible rfl)
  try simp only [Act.put, List.setIfInBounds_toArray, List.set_cons_zero, List.set_cons_succ]
  refine' takeL (i := 13) (v := _) rfl (by kernel_rfl) (by kernel_rfl) (by kernel_rfl) (fun _ _ _ h => h) (Or.inl ⟨by rfl, ?yy58⟩) (by assumption) ?rr58
  case yy58 => intro w hSw; (try dsimp only at hSw); go_simp; (try with_reducible rfl)
  try simp only [Act.put, List.setIfInBounds_toArray, List.set_cons_zero, List.set_cons_succ]
  refine wpAnyH_ready (rs := [14]) (by kernel_rfl) (by simp) ?_
  refine consL rfl (fun K hK => ?_) AllReadyH.nil
  go_simp
  go_at_call 102
  refine (DC.out _).mono ?_
  rintro e w5 ⟨rfl, hw5⟩
  subst hw5
  go_wp2_with fail
  refine hK.out _ _ ?_ (fun hHeld => ?_)
  · (try dsimp only); exact hHeld
  clear hK K
  try simp only [Act.put, List.setIfInBounds_toArray, List.set_cons_zero, List.set_cons_succ]
  refine' takeL (i := 15) (v := _) rfl (by kernel_rfl) (by kernel_rfl) (by kernel_rfl) (fun _ _ _ h => h) (Or.inl ⟨by rfl, ?yy59⟩) (by assumption) ?rr59
  case yy59 => intro w hSw; (try dsimp only at hSw); go_simp; (try with_reducible rfl)
  try simp only [Act.put, List.setIfInBounds_toArray, List.set_cons_zero, List.set_cons_succ]
  refine' takeL (i := 16) (v := _) rfl (by kernel_rfl) (by kernel_rfl) (by kernel_rfl) (fun _ _ _ h => h) (Or.inl ⟨by rfl, ?yy60⟩) (by assumption) ?rr60
  case yy60 => intro w hSw; (try dsimp only at hSw); go_simp; (try with_reducible rfl)
  try simp only [Act.put, List.setIfInBounds_toArray, List.set_cons_zero, List.set_cons_succ]
  refine' takeL (i := 17) (v := _) rfl (by kernel_rfl) (by kernel_rfl) (by kernel_rfl) (fun _ _ _ h => h) (Or.inl ⟨by rfl, ?yy61⟩) (by assumption) ?rr61
  case yy61 => intro w hSw; (try dsimp only at hSw); go_simp; (try with_reducible rfl)
  try simp only [Act.put, List.setIfInBounds_toArray, List.set_cons_zero, List.set_cons_succ]
  refine' takeL (i := 18) (v := _) rfl (by kernel_rfl) (by kernel_rfl) (by kernel_rfl) (fun _ _ _ h => h) (Or.inl ⟨by rfl, ?yy62⟩) (by assumption) ?rr62
  case yy62 => intro w hSw; (try dsimp only at hSw); go_simp; (try with_reducible rfl)
  try simp only [Act.put, List.setIfInBounds_toArray, List.set_cons_zero, List.set_cons_succ]
  refine' takeL (i := 19) (v := _) rfl (by kernel_rfl) (by kernel_rfl) (by kernel_rfl) (fun _ _ _ h => h) (Or.inl ⟨by rfl, ?yy63⟩) (by assumption) ?rr63
  case yy63 => intro w hSw; (try dsimp only at hSw); go_simp; (try with_reducible rfl)
  try simp only [Act.put, List.setIfInBounds_toArray, List.set_cons_zero, List.set_cons_succ]
  refine' takeL (i := 20) (v := _) rfl (by kernel_rfl) (by kernel_rfl) (by kernel_rfl) (fun _ _ _ h => h) (Or.inl ⟨by rfl, ?yy64⟩) (by assumption) ?rr64
  case yy64 => intro w hSw; (try dsimp only at hSw); go_simp; (try with_reducible rfl)
  try simp only [Act.put, List.setIfInBounds_toArray, List.set_cons_zero, List.set_cons_succ]
  refine' takeL (i := 21) (v := _) rfl (by kernel_rfl) (by kernel_rfl) (by kernel_rfl) (fun _ _ _ h => h) (Or.inl ⟨by rfl, ?yy65⟩) (by assumption) ?rr65
  case yy65 => intro w hSw; (try dsimp only at hSw); go_simp; (try with_reducible rfl)
  try simp only [Act.put, List.setIfInBounds_toArray, List.set_cons_zero, List.set_cons_succ]
  refine wpAnyH_done (by kernel_rfl) ?_ _
  go_upto_region 7 with (go_at_call 60; refine (need_ok _ _).mono ?_; rintro e wx ⟨rfl, hwx⟩; subst hwx)
  have c3 := M1.out.m.cr hn16
  have f3 := M1.out.m.free (28 + n)
  have c4 := (M1.out.setr hn16 (drem (sg64 (dbl a b)) (sg v))).m.cr hq16
  have f4 := (M1.out.setr hn16 (drem (sg64 (dbl a b)) (sg v))).m.free (28 + q)
  go_region
  go_wp2
  first | go_end0 | refine bodyPost_ret (results_none rfl _ _ _) rfl ?_
  exact ⟨rfl, ((M1.out.setr hn16 _).setr hq16 _).drewN 2, ((C1.out.setCell (by simp) _).setCell (by simp) _).drewN 2⟩
set_option maxRecDepth 1000000 in
set_option maxHeartbeats 8000000 in
theorem product_29_no (g n q : Nat) (F : Foot) (is os rs : List Int) (ps : List Value) (ov : Bool) (bs ks : List Int) (w : World) (h : MS w g F is os rs ps ov bs ks) (hn : is.getD 2 0 = (n : Int)) (hn16 : n < 16) (v : Int) (hop : ∀ W, MS W g F is os rs ps ov bs ks → Calls Try.prog 85 #[.pointer (some ⟨g, 0, none⟩)] W fun e w' => e = .returned (.int .u32 v) ∧ MS w' g F is os rs ps ov bs ks ∧ Ch W w' []) (v0 : 0 ≤ v) (v1 : v ≤ 4294967295) (ro : ∀ z ∈ os, 0 ≤ z ∧ z ≤ 4294967295) (hev : n % 2 = 0) (hq : q = n + 1) (h0 : is.getD 0 0 = 29) (hd : dok (sg64 (dbl (os.getD n 0) (os.getD q 0))) (sg v) = false) : Calls Try.prog 84 #[.pointer (some ⟨g, 0, none⟩)] w fun e w' => e = .panicked [{ v := .iface 65 (.int .i64 9), recovered := false }] ∧ MS w' g F is os rs ps ov bs ks ∧ Ch w w' [g] := by
  have c2 := h.m.ci (c := 2) (by omega)
  rw [hn] at c2
  have HM := Lib.hid h
  have HN := Lib.hid hn
  have D0 := Lib.hid (Ch.refl w [g])
  have n2 : (2 : Int) ≠ 0 := by omega
  have e1 : ((n : Int) % 2 == 0) = true := by simp; omega
  have e2 : IntKind.i64.wrap ((n : Int).tmod 2) = (n : Int) % 2 := by rw [Int.tmod_eq_emod_of_nonneg (by omega)]; exact wrap_i64_id (by omega) (by omega)
  have eb : bits .and .i64 29 15 = 13 := by decide +kernel
  have OC := Lib.hid hop
  have H0 := Lib.hid h0
  have hq16 : q < 16 := by omega
  have i0 : (n : Int) < 16 := by omega
  have i1 : (0 : Int) ≤ (n : Int) := by omega
  have j0 : (q : Int) < 16 := by omega
  have j1 : (0 : Int) ≤ (q : Int) := by omega
  have hwr : IntKind.i64.wrap ((n : Int) + 1) = (q : Int) := by rw [wrap_i64_id (by omega) (by omega)]; omega
  have ra := getD_in ro n
  have rb := getD_in ro q
  obtain ⟨a, ha⟩ : ∃ a, os.getD n 0 = a := ⟨_, rfl⟩
  obtain ⟨b, hb⟩ : ∃ b, os.getD q 0 = b := ⟨_, rfl⟩
  rw [ha] at ra
  rw [hb] at rb
  rw [ha, hb] at hd
  have HA := Lib.hid ha
  have HB := Lib.hid hb
  clear h hn hop h0 ha hb hev ro hq
  have DC := Lib.hid (fun W => div_c a b v ra.1 ra.2 rb.1 rb.2 v0 v1 W)
  rw [hd] at DC
  clear hd
  go_enter Try.func84, Try.ntmps84
  go_upto_region 5 with (first
    | (go_at_call 60; refine (need_ok _ _).mono ?_; rintro e wx ⟨rfl, hwx⟩; subst hwx)
    | (go_at_call 85; refine (OC.out _ HM.out).mono ?_; rintro e w1 ⟨rfl, hM, hC⟩; have M1 := Lib.hid hM; have C1 := Lib.hid (D0.out.trans (hC.mono (by simp))); have c0 := hM.m.ci (c := 0) (by omega); rw [H0.out] at c0; clear hM hC))
  have MD := Lib.hid (M1.out.drewN 1)
  clear c0 c2
  refine wp_region_held_drew (S := (fun w' => ∃ (rs' : List Int) (ps' : List Value), Mc w' g is os rs' ps' (.pointer (some ⟨F.g, 0, none⟩)) ov)) (by kernel_rfl) ?_ (fun hHeld => ?_)
  · (try dsimp only); exact ⟨_, _, MD.out.m⟩
  refine' takeL (i := 0) (v := _) rfl (by kernel_rfl) (by kernel_rfl) (by kernel_rfl) (fun _ _ _ h => h) (Or.inl ⟨by rfl, ?yy66⟩) (by assumption) ?rr66
  case yy66 => intro w hSw; (try dsimp only at hSw); go_simp; (try with_reducible rfl)
  try simp only [Act.put, List.setIfInBounds_toArray, List.set_cons_zero, List.set_cons_succ]
  refine' takeL (i := 1) (v := _) rfl (by kernel_rfl) (by kernel_rfl) (by kernel_rfl) (fun _ _ _ h => h) (Or.inl ⟨by rfl, ?yy67⟩) (by assumption) ?rr67
  case yy67 => intro w hSw; (try dsimp only at hSw); go_simp; (try with_reducible rfl)
  try simp only [Act.put, List.setIfInBounds_toArray, List.set_cons_zero, List.set_cons_succ]
  refine' takeL (i := 2) (v := _) rfl (by kernel_rfl) (by kernel_rfl) (by kernel_rfl) (fun _ _ _ h => h) (Or.inl ⟨by rfl, ?yy68⟩) (by assumption) ?rr68
  case yy68 => intro w hSw; (try dsimp only at hSw); go_simp; (try with_reducible rfl)
  try simp only [Act.put, List.setIfInBounds_toArray, List.set_cons_zero, List.set_cons_succ]
  refine' takeL (i := 3) (v := _) rfl (by kernel_rfl) (by kernel_rfl) (by kernel_rfl) (fun _ _ _ h => h) (Or.inl ⟨by rfl, ?yy69⟩) (by assumption) ?rr69
  case yy69 => intro w hSw; (try dsimp only at hSw); go_simp; (try with_reducible rfl)
  try simp only [Act.put, List.setIfInBounds_toArray, List.set_cons_zero, List.set_cons_succ]
  refine' takeL (i := 4) (v := _) rfl (by kernel_rfl) (by kernel_rfl) (by kernel_rfl) (fun _ _ _ h => h) (Or.inl ⟨by rfl, ?yy70⟩) (by assumption) ?rr70
  case yy70 => intro w hSw; (try dsimp only at hSw); go_simp; (try with_reducible rfl)
  try simp only [Act.put, List.setIfInBounds_toArray, List.set_cons_zero, List.set_cons_succ]
  refine' takeL (i := 5) (v := .int .u32 a) rfl (by kernel_rfl) (by kernel_rfl) (by kernel_rfl) (fun _ _ _ h => h) (Or.inl ⟨by rfl, ?yy71⟩) (by assumption) ?rr71
  case yy71 => intro w hSw; (try dsimp only at hSw); obtain ⟨rs', ps', hx⟩ := hSw; have hq := hx.co hn16; rw [HA.out] at hq; go_simp; (try with_reducible rfl)
  try simp only [Act.put, List.setIfInBounds_toArray, List.set_cons_zero, List.set_cons_succ]
  refine' takeL (i := 6) (v := _) rfl (by kernel_rfl) (by kernel_rfl) (by kernel_rfl) (fun _ _ _ h => h) (Or.inl ⟨by rfl, ?yy72⟩) (by assumption) ?rr72
  case yy72 => intro w hSw; (try dsimp only at hSw); go_simp; (try with_reducible rfl)
  try simp only [Act.put, List.setIfInBounds_toArray, List.set_cons_zero, List.set_cons_succ]
  refine' takeL (i := 7) (v := _) rfl (by kernel_rfl) (by kernel_rfl) (by kernel_rfl) (fun _ _ _ h => h) (Or.inl ⟨by rfl, ?yy73⟩) (by assumption) ?rr73
  case yy73 => intro w hSw; (try dsimp only at hSw); go_simp; (try with_reducible rfl)
  try simp only [Act.put, List.setIfInBounds_toArray, List.set_cons_zero, List.set_cons_succ]
  refine' takeL (i := 8) (v := .int .i64 (q : Int)) rfl (by kernel_rfl) (by kernel_rfl) (by kernel_rfl) (fun _ _ _ h => h) (Or.inl ⟨by rfl, ?yy74⟩) (by assumption) ?rr74
  case yy74 => intro w hSw; (try dsimp only at hSw); have e := hwr; go_simp; (try with_reducible rfl)
  try simp only [Act.put, List.setIfInBounds_toArray, List.set_cons_zero, List.set_cons_succ]
  refine' takeL (i := 9) (v := _) rfl (by kernel_rfl) (by kernel_rfl) (by kernel_rfl) (fun _ _ _ h => h) (Or.inl ⟨by rfl, ?yy75⟩) (by assumption) ?rr75
  case yy75 => intro w hSw; (try dsimp only at hSw); go_simp; (try with_reducible rfl)
  try simp only [Act.put, List.setIfInBounds_toArray, List.set_cons_zero, List.set_cons_succ]
  refine' takeL (i := 10) (v := _) rfl (by kernel_rfl) (by kernel_rfl) (by kernel_rfl) (fun _ _ _ h => h) (Or.inl ⟨by rfl, ?yy76⟩) (by assumption) ?rr76
  case yy76 => intro w hSw; (try dsimp only at hSw); go_simp; (try with_reducible rfl)
  try simp only [Act.put, List.setIfInBounds_toArray, List.set_cons_zero, List.set_cons_succ]
  refine' takeL (i := 11) (v := _) rfl (by kernel_rfl) (by kernel_rfl) (by kernel_rfl) (fun _ _ _ h => h) (Or.inl ⟨by rfl, ?yy77⟩) (by assumption) ?rr77
  case yy77 => intro w hSw; (try dsimp only at hSw); go_simp; (try with_reducible rfl)
  try simp only [Act.put, List.setIfInBounds_toArray, List.set_cons_zero, List.set_cons_succ]
  refine' takeL (i := 12) (v := .int .u32 b) rfl (by kernel_rfl) (by kernel_rfl) (by kernel_rfl) (fun _ _ _ h => h) (Or.inl ⟨by rfl, ?yy78⟩) (by assumption) ?rr78
  case yy78 => intro w hSw; (try dsimp only at hSw); obtain ⟨rs', ps', hx⟩ := hSw; have hq := hx.co hq16; rw [HB.out] at hq; go_simp; (try with_reducible rfl)
  try simp only [Act.put, List.setIfInBounds_toArray, List.set_cons_zero, List.set_cons_succ]
  refine' takeL (i := 13) (v := _) rfl (by kernel_rfl) (by kernel_rfl) (by kernel_rfl) (fun _ _ _ h => h) (Or.inl ⟨by rfl, ?yy79⟩) (by assumption) ?rr79
  case yy79 => intro w hSw; (try dsimp only at hSw); go_simp; (try with_reducible rfl)
  try simp only [Act.put, List.setIfInBounds_toArray, List.set_cons_zero, List.set_cons_succ]
  refine wpAnyH_ready (rs := [14]) (by kernel_rfl) (by simp) ?_
  refine consL rfl (fun K hK => ?_) AllReadyH.nil
  go_simp
  go_at_call 102
  refine (DC.out _).mono ?_
  rintro e w5 ⟨rfl, hw5⟩
  subst hw5
  go_wp2_with fail
  refine hK.out _ _ ?_ (fun hHeld => ?_)
  · (try dsimp only); exact hHeld
  clear hK K
  try simp only [Act.put, List.setIfInBounds_toArray, List.set_cons_zero, List.set_cons_succ]
  refine' takeL (i := 15) (v := _) rfl (by kernel_rfl) (by kernel_rfl) (by kernel_rfl) (fun _ _ _ h => h) (Or.inl ⟨by rfl, ?yy80⟩) (by assumption) ?rr80
  case yy80 => intro w hSw; (try dsimp only at hSw); go_simp; (try with_reducible rfl)
  try simp only [Act.put, List.setIfInBounds_toArray, List.set_cons_zero, List.set_cons_succ]
  refine' takeL (i := 16) (v := _) rfl (by kernel_rfl) (by kernel_rfl) (by kernel_rfl) (fun _ _ _ h => h) (Or.inl ⟨by rfl, ?yy81⟩) (by assumption) ?rr81
  case yy81 => intro w hSw; (try dsimp only at hSw); go_simp; (try with_reducible rfl)
  try simp only [Act.put, List.setIfInBounds_toArray, List.set_cons_zero, List.set_cons_succ]
  refine' takeL (i := 17) (v := _) rfl (by kernel_rfl) (by kernel_rfl) (by kernel_rfl) (fun _ _ _ h => h) (Or.inl ⟨by rfl, ?yy82⟩) (by assumption) ?rr82
  case yy82 => intro w hSw; (try dsimp only at hSw); go_simp; (try with_reducible rfl)
  try simp only [Act.put, List.setIfInBounds_toArray, List.set_cons_zero, List.set_cons_succ]
  refine' takeL (i := 18) (v := _) rfl (by kernel_rfl) (by kernel_rfl) (by kernel_rfl) (fun _ _ _ h => h) (Or.inl ⟨by rfl, ?yy83⟩) (by assumption) ?rr83
  case yy83 => intro w hSw; (try dsimp only at hSw); go_simp; (try with_reducible rfl)
  try simp only [Act.put, List.setIfInBounds_toArray, List.set_cons_zero, List.set_cons_succ]
  refine' takeL (i := 19) (v := _) rfl (by kernel_rfl) (by kernel_rfl) (by kernel_rfl) (fun _ _ _ h => h) (Or.inl ⟨by rfl, ?yy84⟩) (by assumption) ?rr84
  case yy84 => intro w hSw; (try dsimp only at hSw); go_simp; (try with_reducible rfl)
  try simp only [Act.put, List.setIfInBounds_toArray, List.set_cons_zero, List.set_cons_succ]
  refine' takeL (i := 20) (v := _) rfl (by kernel_rfl) (by kernel_rfl) (by kernel_rfl) (fun _ _ _ h => h) (Or.inl ⟨by rfl, ?yy85⟩) (by assumption) ?rr85
  case yy85 => intro w hSw; (try dsimp only at hSw); go_simp; (try with_reducible rfl)
  try simp only [Act.put, List.setIfInBounds_toArray, List.set_cons_zero, List.set_cons_succ]
  refine' takeL (i := 21) (v := _) rfl (by kernel_rfl) (by kernel_rfl) (by kernel_rfl) (fun _ _ _ h => h) (Or.inl ⟨by rfl, ?yy86⟩) (by assumption) ?rr86
  case yy86 => intro w hSw; (try dsimp only at hSw); go_simp; (try with_reducible rfl)
  try simp only [Act.put, List.setIfInBounds_toArray, List.set_cons_zero, List.set_cons_succ]
  refine wpAnyH_done (by kernel_rfl) ?_ _
  go_wp2_with (go_at_call 60; refine (need_no _ _).mono ?_; rintro e wx ⟨rfl, hwx⟩; subst hwx)
  exact ⟨rfl, rfl, MD.out, C1.out.drewN 1⟩
set_option maxRecDepth 1000000 in
set_option maxHeartbeats 8000000 in
theorem product_93 (g n q : Nat) (F : Foot) (is os rs : List Int) (ps : List Value) (ov : Bool) (bs ks : List Int) (w : World) (h : MS w g F is os rs ps ov bs ks) (hn : is.getD 2 0 = (n : Int)) (hn16 : n < 16) (v : Int) (hop : ∀ W, MS W g F is os rs ps ov bs ks → Calls Try.prog 85 #[.pointer (some ⟨g, 0, none⟩)] W fun e w' => e = .returned (.int .u32 v) ∧ MS w' g F is os rs ps ov bs ks ∧ Ch W w' []) (v0 : 0 ≤ v) (v1 : v ≤ 4294967295) (ro : ∀ z ∈ os, 0 ≤ z ∧ z ≤ 4294967295) (hev : n % 2 = 0) (hq : q = n + 1) (h0 : is.getD 0 0 = 93) (hd : dok (sg64 (dbl (os.getD n 0) (os.getD q 0))) (sg v) = true) : Calls Try.prog 84 #[.pointer (some ⟨g, 0, none⟩)] w fun e w' => e = .returned (.tuple #[]) ∧ MS w' g F is os ((rs.set n (drem (sg64 (dbl (os.getD n 0) (os.getD q 0))) (sg v))).set q (dquo (sg64 (dbl (os.getD n 0) (os.getD q 0))) (sg v))) ps ov bs ks ∧ Ch w w' [g] := by
  have c2 := h.m.ci (c := 2) (by omega)
  rw [hn] at c2
  have HM := Lib.hid h
  have HN := Lib.hid hn
  have D0 := Lib.hid (Ch.refl w [g])
  have n2 : (2 : Int) ≠ 0 := by omega
  have e1 : ((n : Int) % 2 == 0) = true := by simp; omega
  have e2 : IntKind.i64.wrap ((n : Int).tmod 2) = (n : Int) % 2 := by rw [Int.tmod_eq_emod_of_nonneg (by omega)]; exact wrap_i64_id (by omega) (by omega)
  have eb : bits .and .i64 93 15 = 13 := by decide +kernel
  have OC := Lib.hid hop
  have H0 := Lib.hid h0
  have hq16 : q < 16 := by omega
  have i0 : (n : Int) < 16 := by omega
  have i1 : (0 : Int) ≤ (n : Int) := by omega
  have j0 : (q : Int) < 16 := by omega
  have j1 : (0 : Int) ≤ (q : Int) := by omega
  have hwr : IntKind.i64.wrap ((n : Int) + 1) = (q : Int) := by rw [wrap_i64_id (by omega) (by omega)]; omega
  have ra := getD_in ro n
  have rb := getD_in ro q
  obtain ⟨a, ha⟩ : ∃ a, os.getD n 0 = a := ⟨_, rfl⟩
  obtain ⟨b, hb⟩ : ∃ b, os.getD q 0 = b := ⟨_, rfl⟩
  rw [ha] at ra
  rw [hb] at rb
  rw [ha, hb] at hd
  rw [ha, hb]
  have HA := Lib.hid ha
  have HB := Lib.hid hb
  clear h hn hop h0 ha hb hev ro hq
  have DC := Lib.hid (fun W => div_c a b v ra.1 ra.2 rb.1 rb.2 v0 v1 W)
  rw [hd] at DC
  clear hd
  go_enter Try.func84, Try.ntmps84
  go_upto_region 5 with (first
    | (go_at_call 60; refine (need_ok _ _).mono ?_; rintro e wx ⟨rfl, hwx⟩; subst hwx)
    | (go_at_call 85; refine (OC.out _ HM.out).mono ?_; rintro e w1 ⟨rfl, hM, hC⟩; have M1 := Lib.hid hM; have C1 := Lib.hid (D0.out.trans (hC.mono (by simp))); have c0 := hM.m.ci (c := 0) (by omega); rw [H0.out] at c0; clear hM hC))
  have MD := Lib.hid (M1.out.drewN 1)
  clear c0 c2
  refine wp_region_held_drew (S := (fun w' => ∃ (rs' : List Int) (ps' : List Value), Mc w' g is os rs' ps' (.pointer (some ⟨F.g, 0, none⟩)) ov)) (by kernel_rfl) ?_ (fun hHeld => ?_)
  · (try dsimp only); exact ⟨_, _, MD.out.m⟩
  refine' takeL (i := 0) (v := _) rfl (by kernel_rfl) (by kernel_rfl) (by kernel_rfl) (fun _ _ _ h => h) (Or.inl ⟨by rfl, ?yy87⟩) (by assumption) ?rr87
  case yy87 => intro w hSw; (try dsimp only at hSw); go_simp; (try with_reducible rfl)
  try simp only [Act.put, List.setIfInBounds_toArray, List.set_cons_zero, List.set_cons_succ]
  refine' takeL (i := 1) (v := _) rfl (by kernel_rfl) (by kernel_rfl) (by kernel_rfl) (fun _ _ _ h => h) (Or.inl ⟨by rfl, ?yy88⟩) (by assumption) ?rr88
  case yy88 => intro w hSw; (try dsimp only at hSw); go_simp; (try with_reducible rfl)
  try simp only [Act.put, List.setIfInBounds_toArray, List.set_cons_zero, List.set_cons_succ]
  refine' takeL (i := 2) (v := _) rfl (by kernel_rfl) (by kernel_rfl) (by kernel_rfl) (fun _ _ _ h => h) (Or.inl ⟨by rfl, ?yy89⟩) (by assumption) ?rr89
  case yy89 => intro w hSw; (try dsimp only at hSw); go_simp; (try with_reducible rfl)
  try simp only [Act.put, List.setIfInBounds_toArray, List.set_cons_zero, List.set_cons_succ]
  refine' takeL (i := 3) (v := _) rfl (by kernel_rfl) (by kernel_rfl) (by kernel_rfl) (fun _ _ _ h => h) (Or.inl ⟨by rfl, ?yy90⟩) (by assumption) ?rr90
  case yy90 => intro w hSw; (try dsimp only at hSw); go_simp; (try with_reducible rfl)
  try simp only [Act.put, List.setIfInBounds_toArray, List.set_cons_zero, List.set_cons_succ]
  refine' takeL (i := 4) (v := _) rfl (by kernel_rfl) (by kernel_rfl) (by kernel_rfl) (fun _ _ _ h => h) (Or.inl ⟨by rfl, ?yy91⟩) (by assumption) ?rr91
  case yy91 => intro w hSw; (try dsimp only at hSw); go_simp; (try with_reducible rfl)
  try simp only [Act.put, List.setIfInBounds_toArray, List.set_cons_zero, List.set_cons_succ]
  refine' takeL (i := 5) (v := .int .u32 a) rfl (by kernel_rfl) (by kernel_rfl) (by kernel_rfl) (fun _ _ _ h => h) (Or.inl ⟨by rfl, ?yy92⟩) (by assumption) ?rr92
  case yy92 => intro w hSw; (try dsimp only at hSw); obtain ⟨rs', ps', hx⟩ := hSw; have hq := hx.co hn16; rw [HA.out] at hq; go_simp; (try with_reducible rfl)
  try simp only [Act.put, List.setIfInBounds_toArray, List.set_cons_zero, List.set_cons_succ]
  refine' takeL (i := 6) (v := _) rfl (by kernel_rfl) (by kernel_rfl) (by kernel_rfl) (fun _ _ _ h => h) (Or.inl ⟨by rfl, ?yy93⟩) (by assumption) ?rr93
  case yy93 => intro w hSw; (try dsimp only at hSw); go_simp; (try with_reducible rfl)
  try simp only [Act.put, List.setIfInBounds_toArray, List.set_cons_zero, List.set_cons_succ]
  refine' takeL (i := 7) (v := _) rfl (by kernel_rfl) (by kernel_rfl) (by kernel_rfl) (fun _ _ _ h => h) (Or.inl ⟨by rfl, ?yy94⟩) (by assumption) ?rr94
  case yy94 => intro w hSw; (try dsimp only at hSw); go_simp; (try with_reducible rfl)
  try simp only [Act.put, List.setIfInBounds_toArray, List.set_cons_zero, List.set_cons_succ]
  refine' takeL (i := 8) (v := .int .i64 (q : Int)) rfl (by kernel_rfl) (by kernel_rfl) (by kernel_rfl) (fun _ _ _ h => h) (Or.inl ⟨by rfl, ?yy95⟩) (by assumption) ?rr95
  case yy95 => intro w hSw; (try dsimp only at hSw); have e := hwr; go_simp; (try with_reducible rfl)
  try simp only [Act.put, List.setIfInBounds_toArray, List.set_cons_zero, List.set_cons_succ]
  refine' takeL (i := 9) (v := _) rfl (by kernel_rfl) (by kernel_rfl) (by kernel_rfl) (fun _ _ _ h => h) (Or.inl ⟨by rfl, ?yy96⟩) (by assumption) ?rr96
  case yy96 => intro w hSw; (try dsimp only at hSw); go_simp; (try with_reducible rfl)
  try simp only [Act.put, List.setIfInBounds_toArray, List.set_cons_zero, List.set_cons_succ]
  refine' takeL (i := 10) (v := _) rfl (by kernel_rfl) (by kernel_rfl) (by kernel_rfl) (fun _ _ _ h => h) (Or.inl ⟨by rfl, ?yy97⟩) (by assumption) ?rr97
  case yy97 => intro w hSw; (try dsimp only at hSw); go_simp; (try with_reducible rfl)
  try simp only [Act.put, List.setIfInBounds_toArray, List.set_cons_zero, List.set_cons_succ]
  refine' takeL (i := 11) (v := _) rfl (by kernel_rfl) (by kernel_rfl) (by kernel_rfl) (fun _ _ _ h => h) (Or.inl ⟨by rfl, ?yy98⟩) (by assumption) ?rr98
  case yy98 => intro w hSw; (try dsimp only at hSw); go_simp; (try with_reducible rfl)
  try simp only [Act.put, List.setIfInBounds_toArray, List.set_cons_zero, List.set_cons_succ]
  refine' takeL (i := 12) (v := .int .u32 b) rfl (by kernel_rfl) (by kernel_rfl) (by kernel_rfl) (fun _ _ _ h => h) (Or.inl ⟨by rfl, ?yy99⟩) (by assumption) ?rr99
  case yy99 => intro w hSw; (try dsimp only at hSw); obtain ⟨rs', ps', hx⟩ := hSw; have hq := hx.co hq16; rw [HB.out] at hq; go_simp; (try with_reducible rfl)
  try simp only [Act.put, List.setIfInBounds_toArray, List.set_cons_zero, List.set_cons_succ]
  refine' takeL (i := 13) (v := _) rfl (by kernel_rfl) (by kernel_rfl) (by kernel_rfl) (fun _ _ _ h => h) (Or.inl ⟨by rfl, ?yy100⟩) (by assumption) ?rr100
  case yy100 => intro w hSw; (try dsimp only at hSw); go_simp; (try with_reducible rfl)
  try simp only [Act.put, List.setIfInBounds_toArray, List.set_cons_zero, List.set_cons_succ]
  refine wpAnyH_ready (rs := [14]) (by kernel_rfl) (by simp) ?_
  refine consL rfl (fun K hK => ?_) AllReadyH.nil
  go_simp
  go_at_call 102
  refine (DC.out _).mono ?_
  rintro e w5 ⟨rfl, hw5⟩
  subst hw5
  go_wp2_with fail
  refine hK.out _ _ ?_ (fun hHeld => ?_)
  · (try dsimp only); exact hHeld
  clear hK K
  try simp only [Act.put, List.setIfInBounds_toArray, List.set_cons_zero, List.set_cons_succ]
  refine' takeL (i := 15) (v := _) rfl (by kernel_rfl) (by kernel_rfl) (by kernel_rfl) (fun _ _ _ h => h) (Or.inl ⟨by rfl, ?yy101⟩) (by assumption) ?rr101
  case yy101 => intro w hSw; (try dsimp only at hSw); go_simp; (try with_reducible rfl)
  try simp only [Act.put, List.setIfInBounds_toArray, List.set_cons_zero, List.set_cons_succ]
  refine' takeL (i := 16) (v := _) rfl (by kernel_rfl) (by kernel_rfl) (by kernel_rfl) (fun _ _ _ h => h) (Or.inl ⟨by rfl, ?yy102⟩) (by assumption) ?rr102
  case yy102 => intro w hSw; (try dsimp only at hSw); go_simp; (try with_reducible rfl)
  try simp only [Act.put, List.setIfInBounds_toArray, List.set_cons_zero, List.set_cons_succ]
  refine' takeL (i := 17) (v := _) rfl (by kernel_rfl) (by kernel_rfl) (by kernel_rfl) (fun _ _ _ h => h) (Or.inl ⟨by rfl, ?yy103⟩) (by assumption) ?rr103
  case yy103 => intro w hSw; (try dsimp only at hSw); go_simp; (try with_reducible rfl)
  try simp only [Act.put, List.setIfInBounds_toArray, List.set_cons_zero, List.set_cons_succ]
  refine' takeL (i := 18) (v := _) rfl (by kernel_rfl) (by kernel_rfl) (by kernel_rfl) (fun _ _ _ h => h) (Or.inl ⟨by rfl, ?yy104⟩) (by assumption) ?rr104
  case yy104 => intro w hSw; (try dsimp only at hSw); go_simp; (try with_reducible rfl)
  try simp only [Act.put, List.setIfInBounds_toArray, List.set_cons_zero, List.set_cons_succ]
  refine' takeL (i := 19) (v := _) rfl (by kernel_rfl) (by kernel_rfl) (by kernel_rfl) (fun _ _ _ h => h) (Or.inl ⟨by rfl, ?yy105⟩) (by assumption) ?rr105
  case yy105 => intro w hSw; (try dsimp only at hSw); go_simp; (try with_reducible rfl)
  try simp only [Act.put, List.setIfInBounds_toArray, List.set_cons_zero, List.set_cons_succ]
  refine' takeL (i := 20) (v := _) rfl (by kernel_rfl) (by kernel_rfl) (by kernel_rfl) (fun _ _ _ h => h) (Or.inl ⟨by rfl, ?yy106⟩) (by assumption) ?rr106
  case yy106 => intro w hSw; (try dsimp only at hSw); go_simp; (try with_reducible rfl)
  try simp only [Act.put, List.setIfInBounds_toArray, List.set_cons_zero, List.set_cons_succ]
  refine' takeL (i := 21) (v := _) rfl (by kernel_rfl) (by kernel_rfl) (by kernel_rfl) (fun _ _ _ h => h) (Or.inl ⟨by rfl, ?yy107⟩) (by assumption) ?rr107
  case yy107 => intro w hSw; (try dsimp only at hSw); go_simp; (try with_reducible rfl)
  try simp only [Act.put, List.setIfInBounds_toArray, List.set_cons_zero, List.set_cons_succ]
  refine wpAnyH_done (by kernel_rfl) ?_ _
  go_upto_region 7 with (go_at_call 60; refine (need_ok _ _).mono ?_; rintro e wx ⟨rfl, hwx⟩; subst hwx)
  have c3 := M1.out.m.cr hn16
  have f3 := M1.out.m.free (28 + n)
  have c4 := (M1.out.setr hn16 (drem (sg64 (dbl a b)) (sg v))).m.cr hq16
  have f4 := (M1.out.setr hn16 (drem (sg64 (dbl a b)) (sg v))).m.free (28 + q)
  go_region
  go_wp2
  first | go_end0 | refine bodyPost_ret (results_none rfl _ _ _) rfl ?_
  exact ⟨rfl, ((M1.out.setr hn16 _).setr hq16 _).drewN 2, ((C1.out.setCell (by simp) _).setCell (by simp) _).drewN 2⟩
set_option maxRecDepth 1000000 in
set_option maxHeartbeats 8000000 in
theorem product_93_no (g n q : Nat) (F : Foot) (is os rs : List Int) (ps : List Value) (ov : Bool) (bs ks : List Int) (w : World) (h : MS w g F is os rs ps ov bs ks) (hn : is.getD 2 0 = (n : Int)) (hn16 : n < 16) (v : Int) (hop : ∀ W, MS W g F is os rs ps ov bs ks → Calls Try.prog 85 #[.pointer (some ⟨g, 0, none⟩)] W fun e w' => e = .returned (.int .u32 v) ∧ MS w' g F is os rs ps ov bs ks ∧ Ch W w' []) (v0 : 0 ≤ v) (v1 : v ≤ 4294967295) (ro : ∀ z ∈ os, 0 ≤ z ∧ z ≤ 4294967295) (hev : n % 2 = 0) (hq : q = n + 1) (h0 : is.getD 0 0 = 93) (hd : dok (sg64 (dbl (os.getD n 0) (os.getD q 0))) (sg v) = false) : Calls Try.prog 84 #[.pointer (some ⟨g, 0, none⟩)] w fun e w' => e = .panicked [{ v := .iface 65 (.int .i64 9), recovered := false }] ∧ MS w' g F is os rs ps ov bs ks ∧ Ch w w' [g] := by
  have c2 := h.m.ci (c := 2) (by omega)
  rw [hn] at c2
  have HM := Lib.hid h
  have HN := Lib.hid hn
  have D0 := Lib.hid (Ch.refl w [g])
  have n2 : (2 : Int) ≠ 0 := by omega
  have e1 : ((n : Int) % 2 == 0) = true := by simp; omega
  have e2 : IntKind.i64.wrap ((n : Int).tmod 2) = (n : Int) % 2 := by rw [Int.tmod_eq_emod_of_nonneg (by omega)]; exact wrap_i64_id (by omega) (by omega)
  have eb : bits .and .i64 93 15 = 13 := by decide +kernel
  have OC := Lib.hid hop
  have H0 := Lib.hid h0
  have hq16 : q < 16 := by omega
  have i0 : (n : Int) < 16 := by omega
  have i1 : (0 : Int) ≤ (n : Int) := by omega
  have j0 : (q : Int) < 16 := by omega
  have j1 : (0 : Int) ≤ (q : Int) := by omega
  have hwr : IntKind.i64.wrap ((n : Int) + 1) = (q : Int) := by rw [wrap_i64_id (by omega) (by omega)]; omega
  have ra := getD_in ro n
  have rb := getD_in ro q
  obtain ⟨a, ha⟩ : ∃ a, os.getD n 0 = a := ⟨_, rfl⟩
  obtain ⟨b, hb⟩ : ∃ b, os.getD q 0 = b := ⟨_, rfl⟩
  rw [ha] at ra
  rw [hb] at rb
  rw [ha, hb] at hd
  have HA := Lib.hid ha
  have HB := Lib.hid hb
  clear h hn hop h0 ha hb hev ro hq
  have DC := Lib.hid (fun W => div_c a b v ra.1 ra.2 rb.1 rb.2 v0 v1 W)
  rw [hd] at DC
  clear hd
  go_enter Try.func84, Try.ntmps84
  go_upto_region 5 with (first
    | (go_at_call 60; refine (need_ok _ _).mono ?_; rintro e wx ⟨rfl, hwx⟩; subst hwx)
    | (go_at_call 85; refine (OC.out _ HM.out).mono ?_; rintro e w1 ⟨rfl, hM, hC⟩; have M1 := Lib.hid hM; have C1 := Lib.hid (D0.out.trans (hC.mono (by simp))); have c0 := hM.m.ci (c := 0) (by omega); rw [H0.out] at c0; clear hM hC))
  have MD := Lib.hid (M1.out.drewN 1)
  clear c0 c2
  refine wp_region_held_drew (S := (fun w' => ∃ (rs' : List Int) (ps' : List Value), Mc w' g is os rs' ps' (.pointer (some ⟨F.g, 0, none⟩)) ov)) (by kernel_rfl) ?_ (fun hHeld => ?_)
  · (try dsimp only); exact ⟨_, _, MD.out.m⟩
  refine' takeL (i := 0) (v := _) rfl (by kernel_rfl) (by kernel_rfl) (by kernel_rfl) (fun _ _ _ h => h) (Or.inl ⟨by rfl, ?yy108⟩) (by assumption) ?rr108
  case yy108 => intro w hSw; (try dsimp only at hSw); go_simp; (try with_reducible rfl)
  try simp only [Act.put, List.setIfInBounds_toArray, List.set_cons_zero, List.set_cons_succ]
  refine' takeL (i := 1) (v := _) rfl (by kernel_rfl) (by kernel_rfl) (by kernel_rfl) (fun _ _ _ h => h) (Or.inl ⟨by rfl, ?yy109⟩) (by assumption) ?rr109
  case yy109 => intro w hSw; (try dsimp only at hSw); go_simp; (try with_reducible rfl)
  try simp only [Act.put, List.setIfInBounds_toArray, List.set_cons_zero, List.set_cons_succ]
  refine' takeL (i := 2) (v := _) rfl (by kernel_rfl) (by kernel_rfl) (by kernel_rfl) (fun _ _ _ h => h) (Or.inl ⟨by rfl, ?yy110⟩) (by assumption) ?rr110
  case yy110 => intro w hSw; (try dsimp only at hSw); go_simp; (try with_reducible rfl)
  try simp only [Act.put, List.setIfInBounds_toArray, List.set_cons_zero, List.set_cons_succ]
  refine' takeL (i := 3) (v := _) rfl (by kernel_rfl) (by kernel_rfl) (by kernel_rfl) (fun _ _ _ h => h) (Or.inl ⟨by rfl, ?yy111⟩) (by assumption) ?rr111
  case yy111 => intro w hSw; (try dsimp only at hSw); go_simp; (try with_reducible rfl)
  try simp only [Act.put, List.setIfInBounds_toArray, List.set_cons_zero, List.set_cons_succ]
  refine' takeL (i := 4) (v := _) rfl (by kernel_rfl) (by kernel_rfl) (by kernel_rfl) (fun _ _ _ h => h) (Or.inl ⟨by rfl, ?yy112⟩) (by assumption) ?rr112
  case yy112 => intro w hSw; (try dsimp only at hSw); go_simp; (try with_reducible rfl)
  try simp only [Act.put, List.setIfInBounds_toArray, List.set_cons_zero, List.set_cons_succ]
  refine' takeL (i := 5) (v := .int .u32 a) rfl (by kernel_rfl) (by kernel_rfl) (by kernel_rfl) (fun _ _ _ h => h) (Or.inl ⟨by rfl, ?yy113⟩) (by assumption) ?rr113
  case yy113 => intro w hSw; (try dsimp only at hSw); obtain ⟨rs', ps', hx⟩ := hSw; have hq := hx.co hn16; rw [HA.out] at hq; go_simp; (try with_reducible rfl)
  try simp only [Act.put, List.setIfInBounds_toArray, List.set_cons_zero, List.set_cons_succ]
  refine' takeL (i := 6) (v := _) rfl (by kernel_rfl) (by kernel_rfl) (by kernel_rfl) (fun _ _ _ h => h) (Or.inl ⟨by rfl, ?yy114⟩) (by assumption) ?rr114
  case yy114 => intro w hSw; (try dsimp only at hSw); go_simp; (try with_reducible rfl)
  try simp only [Act.put, List.setIfInBounds_toArray, List.set_cons_zero, List.set_cons_succ]
  refine' takeL (i := 7) (v := _) rfl (by kernel_rfl) (by kernel_rfl) (by kernel_rfl) (fun _ _ _ h => h) (Or.inl ⟨by rfl, ?yy115⟩) (by assumption) ?rr115
  case yy115 => intro w hSw; (try dsimp only at hSw); go_simp; (try with_reducible rfl)
  try simp only [Act.put, List.setIfInBounds_toArray, List.set_cons_zero, List.set_cons_succ]
  refine' takeL (i := 8) (v := .int .i64 (q : Int)) rfl (by kernel_rfl) (by kernel_rfl) (by kernel_rfl) (fun _ _ _ h => h) (Or.inl ⟨by rfl, ?yy116⟩) (by assumption) ?rr116
  case yy116 => intro w hSw; (try dsimp only at hSw); have e := hwr; go_simp; (try with_reducible rfl)
  try simp only [Act.put, List.setIfInBounds_toArray, List.set_cons_zero, List.set_cons_succ]
  refine' takeL (i := 9) (v := _) rfl (by kernel_rfl) (by kernel_rfl) (by kernel_rfl) (fun _ _ _ h => h) (Or.inl ⟨by rfl, ?yy117⟩) (by assumption) ?rr117
  case yy117 => intro w hSw; (try dsimp only at hSw); go_simp; (try with_reducible rfl)
  try simp only [Act.put, List.setIfInBounds_toArray, List.set_cons_zero, List.set_cons_succ]
  refine' takeL (i := 10) (v := _) rfl (by kernel_rfl) (by kernel_rfl) (by kernel_rfl) (fun _ _ _ h => h) (Or.inl ⟨by rfl, ?yy118⟩) (by assumption) ?rr118
  case yy118 => intro w hSw; (try dsimp only at hSw); go_simp; (try with_reducible rfl)
  try simp only [Act.put, List.setIfInBounds_toArray, List.set_cons_zero, List.set_cons_succ]
  refine' takeL (i := 11) (v := _) rfl (by kernel_rfl) (by kernel_rfl) (by kernel_rfl) (fun _ _ _ h => h) (Or.inl ⟨by rfl, ?yy119⟩) (by assumption) ?rr119
  case yy119 => intro w hSw; (try dsimp only at hSw); go_simp; (try with_reducible rfl)
  try simp only [Act.put, List.setIfInBounds_toArray, List.set_cons_zero, List.set_cons_succ]
  refine' takeL (i := 12) (v := .int .u32 b) rfl (by kernel_rfl) (by kernel_rfl) (by kernel_rfl) (fun _ _ _ h => h) (Or.inl ⟨by rfl, ?yy120⟩) (by assumption) ?rr120
  case yy120 => intro w hSw; (try dsimp only at hSw); obtain ⟨rs', ps', hx⟩ := hSw; have hq := hx.co hq16; rw [HB.out] at hq; go_simp; (try with_reducible rfl)
  try simp only [Act.put, List.setIfInBounds_toArray, List.set_cons_zero, List.set_cons_succ]
  refine' takeL (i := 13) (v := _) rfl (by kernel_rfl) (by kernel_rfl) (by kernel_rfl) (fun _ _ _ h => h) (Or.inl ⟨by rfl, ?yy121⟩) (by assumption) ?rr121
  case yy121 => intro w hSw; (try dsimp only at hSw); go_simp; (try with_reducible rfl)
  try simp only [Act.put, List.setIfInBounds_toArray, List.set_cons_zero, List.set_cons_succ]
  refine wpAnyH_ready (rs := [14]) (by kernel_rfl) (by simp) ?_
  refine consL rfl (fun K hK => ?_) AllReadyH.nil
  go_simp
  go_at_call 102
  refine (DC.out _).mono ?_
  rintro e w5 ⟨rfl, hw5⟩
  subst hw5
  go_wp2_with fail
  refine hK.out _ _ ?_ (fun hHeld => ?_)
  · (try dsimp only); exact hHeld
  clear hK K
  try simp only [Act.put, List.setIfInBounds_toArray, List.set_cons_zero, List.set_cons_succ]
  refine' takeL (i := 15) (v := _) rfl (by kernel_rfl) (by kernel_rfl) (by kernel_rfl) (fun _ _ _ h => h) (Or.inl ⟨by rfl, ?yy122⟩) (by assumption) ?rr122
  case yy122 => intro w hSw; (try dsimp only at hSw); go_simp; (try with_reducible rfl)
  try simp only [Act.put, List.setIfInBounds_toArray, List.set_cons_zero, List.set_cons_succ]
  refine' takeL (i := 16) (v := _) rfl (by kernel_rfl) (by kernel_rfl) (by kernel_rfl) (fun _ _ _ h => h) (Or.inl ⟨by rfl, ?yy123⟩) (by assumption) ?rr123
  case yy123 => intro w hSw; (try dsimp only at hSw); go_simp; (try with_reducible rfl)
  try simp only [Act.put, List.setIfInBounds_toArray, List.set_cons_zero, List.set_cons_succ]
  refine' takeL (i := 17) (v := _) rfl (by kernel_rfl) (by kernel_rfl) (by kernel_rfl) (fun _ _ _ h => h) (Or.inl ⟨by rfl, ?yy124⟩) (by assumption) ?rr124
  case yy124 => intro w hSw; (try dsimp only at hSw); go_simp; (try with_reducible rfl)
  try simp only [Act.put, List.setIfInBounds_toArray, List.set_cons_zero, List.set_cons_succ]
  refine' takeL (i := 18) (v := _) rfl (by kernel_rfl) (by kernel_rfl) (by kernel_rfl) (fun _ _ _ h => h) (Or.inl ⟨by rfl, ?yy125⟩) (by assumption) ?rr125
  case yy125 => intro w hSw; (try dsimp only at hSw); go_simp; (try with_reducible rfl)
  try simp only [Act.put, List.setIfInBounds_toArray, List.set_cons_zero, List.set_cons_succ]
  refine' takeL (i := 19) (v := _) rfl (by kernel_rfl) (by kernel_rfl) (by kernel_rfl) (fun _ _ _ h => h) (Or.inl ⟨by rfl, ?yy126⟩) (by assumption) ?rr126
  case yy126 => intro w hSw; (try dsimp only at hSw); go_simp; (try with_reducible rfl)
  try simp only [Act.put, List.setIfInBounds_toArray, List.set_cons_zero, List.set_cons_succ]
  refine' takeL (i := 20) (v := _) rfl (by kernel_rfl) (by kernel_rfl) (by kernel_rfl) (fun _ _ _ h => h) (Or.inl ⟨by rfl, ?yy127⟩) (by assumption) ?rr127
  case yy127 => intro w hSw; (try dsimp only at hSw); go_simp; (try with_reducible rfl)
  try simp only [Act.put, List.setIfInBounds_toArray, List.set_cons_zero, List.set_cons_succ]
  refine' takeL (i := 21) (v := _) rfl (by kernel_rfl) (by kernel_rfl) (by kernel_rfl) (fun _ _ _ h => h) (Or.inl ⟨by rfl, ?yy128⟩) (by assumption) ?rr128
  case yy128 => intro w hSw; (try dsimp only at hSw); go_simp; (try with_reducible rfl)
  try simp only [Act.put, List.setIfInBounds_toArray, List.set_cons_zero, List.set_cons_succ]
  refine wpAnyH_done (by kernel_rfl) ?_ _
  go_wp2_with (go_at_call 60; refine (need_no _ _).mono ?_; rintro e wx ⟨rfl, hwx⟩; subst hwx)
  exact ⟨rfl, rfl, MD.out, C1.out.drewN 1⟩
end Go.Proofs.Ythjdjbipfdigeaa

