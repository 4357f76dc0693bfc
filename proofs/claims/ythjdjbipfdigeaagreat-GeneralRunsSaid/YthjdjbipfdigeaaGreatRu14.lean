/- Contracts and laws on the way to the statement, text 14 of 24. Conditions: as each states them. -/
import Derived.Test.YthjdjbipfdigeaaGreatRu9
import Derived.Test.YthjdjbipfdigeaaGreatRu10
namespace Go.Proofs.YthjdjbipfdigeaaGreat
open Go.RowKit
set_option maxRecDepth 100000
set_option linter.unusedVariables false
set_option linter.unusedSimpArgs false
section
variable {w0 w : World} {g : Nat} {G : Foot} {I : In} {os rs : List Int} {p q : Ps} {c : Int} {bs ks : List Int}
set_option maxRecDepth 1000000 in
set_option maxHeartbeats 8000000 in
theorem rsh_136 (h : RS w0 w g G I os os p p 0 bs ks) (ho : I.op = 136) : Calls Tryz.prog 26 #[.pointer (some ⟨g, 0, none⟩)] w fun e w' => e = .returned (.tuple #[]) ∧ Gd w0 w' g G I os p ks (shO ⟨os, p.key, p.il, p.cc, p.pg, p.ad, bs, ks⟩ I.op I.n (I.a os)) := by
  obtain ⟨u, hu⟩ : ∃ u, os.getD I.n 0 = u := ⟨_, rfl⟩
  obtain ⟨v, hv⟩ : ∃ v, os.getD I.k 0 = v := ⟨_, rfl⟩
  have u0 := getD_in h.ro I.n
  have v0 := getD_in h.ro I.k
  rw [hu] at u0
  rw [hv] at v0
  obtain ⟨A, hA⟩ : ∃ A, I.a os = A := ⟨_, rfl⟩
  have A0 := I.a_in os
  rw [hA] at A0 ⊢
  have RA := Lib.hid (fun W rs q c bs (hW : RS w0 W g G I os rs p q c bs ks) => show Calls Tryz.prog 59 #[.pointer (some ⟨g, 0, none⟩)] W fun e w' => e = .returned (.int .i64 A) ∧ RS w0 w' g G I os rs p q c bs ks from hA ▸ ra_c hW)
  clear hA
  obtain ⟨m, hm⟩ : ∃ m, (I.n + 1) % 16 = m := ⟨_, rfl⟩
  have m0 : m < 16 := by omega
  have m1 : (m : Int) < 16 := by omega
  have nb := h.ix.n
  have e0 : IntKind.i64.wrap ((I.n : Int) + 1) = (I.n : Int) + 1 := wrap_i64_id (by omega) (by omega)
  have e1 : ((I.n : Int) + 1).tmod 16 = (m : Int) := by rw [Int.tmod_eq_emod_of_nonneg (by omega)]; omega
  obtain ⟨y, hy⟩ : ∃ y, os.getD m 0 = y := ⟨_, rfl⟩
  have y0 := getD_in h.ro m
  rw [hy] at y0
  rcases ho with ho
  all_goals
    rw [ho]
    have HU := Lib.hid hu
    have HV := Lib.hid hv
    have HO := Lib.hid ho
    have R0 := Lib.hid h
    clear hu hv ho h
    have HY := Lib.hid hy
    have HM := Lib.hid hm
    clear hy hm nb
    refine R0.out.opn ?_
    intros
    go_enter Tryz.func26, Tryz.ntmps26
    go_upto_region 4 with (go_at_call 59; refine nx (RA.out _ _ _ _ _ hout) fun w1 R1 => R1.out.opn ?_; intros)
    refine wp_region_held_drew (S := Sx w0 g G I os p) (by kernel_rfl) R1.out.drew.x (fun hHeld => ?_)
    replace R1 := Lib.hid R1.out.drew
    repeat refine tkr ?_
    refine wpAnyH_done (by kernel_rfl) ?_ _
    refine R1.out.opn ?_
    clear hHeld
    intros
    go_upto_region 5 with fail
    refine wp_region_held_drew (S := Sx w0 g G I os p) (by kernel_rfl) R1.out.drew.x (fun hHeld => ?_)
    replace R1 := Lib.hid R1.out.drew
    repeat refine tkr ?_
    refine tkn ?_ (y := by (intro w hSw; obtain ⟨_, _, _, _, _, hx⟩ := hSw; have hz := hx.co m0; rw [HY.out] at hz; go_simp; (try with_reducible rfl)))
    repeat refine tkr ?_
    refine wpAnyH_done (by with_unfolding_all rfl) ?_ _
    refine R1.out.opn ?_
    clear hHeld
    intros
    go_upto_region 9 with fail
    refine wp_region_held_drew (S := Sx w0 g G I os p) (by kernel_rfl) R1.out.drew.x (fun hHeld => ?_)
    replace R1 := Lib.hid R1.out.drew
    repeat refine tkr ?_
    refine tkc (v := .int .u32 (slg u (plc A) false)) (R := fun w' => RS w0 w' g G I os os p p 0 bs ks) ((rshiftl_c u A false u0.1 u0.2 (by omega) (by omega) _).mono (fun e w' hh => ⟨hh.1, hh.2 ▸ R1.out⟩)) (fun _ h => h.x) ?_
    clear hHeld R1
    intro w1 R1 hHeld
    repeat refine tkr ?_
    have cS := R1.out.cr (n := I.n) (R1.out.ix.n)
    have fS := R1.out.fz
    refine tkw (R := fun w' => RS w0 w' g G I os (os.set I.n (slg u (plc A) false)) p p 0 bs ks) (R1.out.setr (R1.out.ix.n) _) (fun _ h => h.x) ?_
    clear cS fS R1 hHeld
    intro w1 R1 hHeld
    refine wpAnyH_done (by kernel_rfl) ?_ _
    refine R1.out.opn ?_
    clear hHeld
    intros
    go_wp2
    first | go_end0 | refine bodyPost_ret (results_none rfl _ _ _) rfl ?_
    have k1 := HU.out
    rw [List.getD_eq_getElem?_getD] at k1
    refine ⟨rfl, gd_ok hout ?_ ?_ ?_ ?_ ?_⟩
    all_goals first | rfl | (simp [shO, Pre.rg, Pre.st, svC, k1]; done)
set_option maxRecDepth 1000000 in
set_option maxHeartbeats 8000000 in
theorem rsh_137 (h : RS w0 w g G I os os p p 0 bs ks) (ho : I.op = 137) : Calls Tryz.prog 26 #[.pointer (some ⟨g, 0, none⟩)] w fun e w' => e = .returned (.tuple #[]) ∧ Gd w0 w' g G I os p ks (shO ⟨os, p.key, p.il, p.cc, p.pg, p.ad, bs, ks⟩ I.op I.n (I.a os)) := by
  obtain ⟨u, hu⟩ : ∃ u, os.getD I.n 0 = u := ⟨_, rfl⟩
  obtain ⟨v, hv⟩ : ∃ v, os.getD I.k 0 = v := ⟨_, rfl⟩
  have u0 := getD_in h.ro I.n
  have v0 := getD_in h.ro I.k
  rw [hu] at u0
  rw [hv] at v0
  obtain ⟨A, hA⟩ : ∃ A, I.a os = A := ⟨_, rfl⟩
  have A0 := I.a_in os
  rw [hA] at A0 ⊢
  have RA := Lib.hid (fun W rs q c bs (hW : RS w0 W g G I os rs p q c bs ks) => show Calls Tryz.prog 59 #[.pointer (some ⟨g, 0, none⟩)] W fun e w' => e = .returned (.int .i64 A) ∧ RS w0 w' g G I os rs p q c bs ks from hA ▸ ra_c hW)
  clear hA
  obtain ⟨m, hm⟩ : ∃ m, (I.n + 1) % 16 = m := ⟨_, rfl⟩
  have m0 : m < 16 := by omega
  have m1 : (m : Int) < 16 := by omega
  have nb := h.ix.n
  have e0 : IntKind.i64.wrap ((I.n : Int) + 1) = (I.n : Int) + 1 := wrap_i64_id (by omega) (by omega)
  have e1 : ((I.n : Int) + 1).tmod 16 = (m : Int) := by rw [Int.tmod_eq_emod_of_nonneg (by omega)]; omega
  obtain ⟨y, hy⟩ : ∃ y, os.getD m 0 = y := ⟨_, rfl⟩
  have y0 := getD_in h.ro m
  rw [hy] at y0
  rcases ho with ho
  all_goals
    rw [ho]
    have HU := Lib.hid hu
    have HV := Lib.hid hv
    have HO := Lib.hid ho
    have R0 := Lib.hid h
    clear hu hv ho h
    have HY := Lib.hid hy
    have HM := Lib.hid hm
    clear hy hm nb
    refine R0.out.opn ?_
    intros
    go_enter Tryz.func26, Tryz.ntmps26
    go_upto_region 4 with (go_at_call 59; refine nx (RA.out _ _ _ _ _ hout) fun w1 R1 => R1.out.opn ?_; intros)
    refine wp_region_held_drew (S := Sx w0 g G I os p) (by kernel_rfl) R1.out.drew.x (fun hHeld => ?_)
    replace R1 := Lib.hid R1.out.drew
    repeat refine tkr ?_
    refine wpAnyH_done (by kernel_rfl) ?_ _
    refine R1.out.opn ?_
    clear hHeld
    intros
    go_upto_region 5 with fail
    refine wp_region_held_drew (S := Sx w0 g G I os p) (by kernel_rfl) R1.out.drew.x (fun hHeld => ?_)
    replace R1 := Lib.hid R1.out.drew
    repeat refine tkr ?_
    refine tkn ?_ (y := by (intro w hSw; obtain ⟨_, _, _, _, _, hx⟩ := hSw; have hz := hx.co m0; rw [HY.out] at hz; go_simp; (try with_reducible rfl)))
    repeat refine tkr ?_
    refine wpAnyH_done (by with_unfolding_all rfl) ?_ _
    refine R1.out.opn ?_
    clear hHeld
    intros
    go_upto_region 9 with fail
    refine wp_region_held_drew (S := Sx w0 g G I os p) (by kernel_rfl) R1.out.drew.x (fun hHeld => ?_)
    replace R1 := Lib.hid R1.out.drew
    repeat refine tkr ?_
    refine tkc (v := .int .u32 (slg u (plc A) true)) (R := fun w' => RS w0 w' g G I os os p p 0 bs ks) ((rshiftl_c u A true u0.1 u0.2 (by omega) (by omega) _).mono (fun e w' hh => ⟨hh.1, hh.2 ▸ R1.out⟩)) (fun _ h => h.x) ?_
    clear hHeld R1
    intro w1 R1 hHeld
    repeat refine tkr ?_
    have cS := R1.out.cr (n := I.n) (R1.out.ix.n)
    have fS := R1.out.fz
    refine tkw (R := fun w' => RS w0 w' g G I os (os.set I.n (slg u (plc A) true)) p p 0 bs ks) (R1.out.setr (R1.out.ix.n) _) (fun _ h => h.x) ?_
    clear cS fS R1 hHeld
    intro w1 R1 hHeld
    refine wpAnyH_done (by kernel_rfl) ?_ _
    refine R1.out.opn ?_
    clear hHeld
    intros
    go_wp2
    first | go_end0 | refine bodyPost_ret (results_none rfl _ _ _) rfl ?_
    have k1 := HU.out
    rw [List.getD_eq_getElem?_getD] at k1
    refine ⟨rfl, gd_ok hout ?_ ?_ ?_ ?_ ?_⟩
    all_goals first | rfl | (simp [shO, Pre.rg, Pre.st, svC, k1]; done)
end
end Go.Proofs.YthjdjbipfdigeaaGreat

namespace Go.Proofs.YthjdjbipfdigeaaGreat
open Go.RowKit
set_option maxRecDepth 100000
set_option linter.unusedVariables false
set_option linter.unusedSimpArgs false
section
variable {w0 w : World} {g : Nat} {G : Foot} {I : In} {os rs : List Int} {p q : Ps} {c : Int} {bs ks : List Int}
set_option maxRecDepth 1000000 in
set_option maxHeartbeats 8000000 in
theorem rsh_138 (h : RS w0 w g G I os os p p 0 bs ks) (ho : I.op = 138 ∨ I.op = 139) : Calls Tryz.prog 26 #[.pointer (some ⟨g, 0, none⟩)] w fun e w' => e = .returned (.tuple #[]) ∧ Gd w0 w' g G I os p ks (shO ⟨os, p.key, p.il, p.cc, p.pg, p.ad, bs, ks⟩ I.op I.n (I.a os)) := by
  obtain ⟨u, hu⟩ : ∃ u, os.getD I.n 0 = u := ⟨_, rfl⟩
  obtain ⟨v, hv⟩ : ∃ v, os.getD I.k 0 = v := ⟨_, rfl⟩
  have u0 := getD_in h.ro I.n
  have v0 := getD_in h.ro I.k
  rw [hu] at u0
  rw [hv] at v0
  obtain ⟨A, hA⟩ : ∃ A, I.a os = A := ⟨_, rfl⟩
  have A0 := I.a_in os
  rw [hA] at A0 ⊢
  have RA := Lib.hid (fun W rs q c bs (hW : RS w0 W g G I os rs p q c bs ks) => show Calls Tryz.prog 59 #[.pointer (some ⟨g, 0, none⟩)] W fun e w' => e = .returned (.int .i64 A) ∧ RS w0 w' g G I os rs p q c bs ks from hA ▸ ra_c hW)
  clear hA
  obtain ⟨m, hm⟩ : ∃ m, (I.n + 1) % 16 = m := ⟨_, rfl⟩
  have m0 : m < 16 := by omega
  have m1 : (m : Int) < 16 := by omega
  have nb := h.ix.n
  have e0 : IntKind.i64.wrap ((I.n : Int) + 1) = (I.n : Int) + 1 := wrap_i64_id (by omega) (by omega)
  have e1 : ((I.n : Int) + 1).tmod 16 = (m : Int) := by rw [Int.tmod_eq_emod_of_nonneg (by omega)]; omega
  obtain ⟨y, hy⟩ : ∃ y, os.getD m 0 = y := ⟨_, rfl⟩
  have y0 := getD_in h.ro m
  rw [hy] at y0
  rcases ho with ho | ho
  all_goals
    rw [ho]
    have HU := Lib.hid hu
    have HV := Lib.hid hv
    have HO := Lib.hid ho
    have R0 := Lib.hid h
    clear hu hv ho h
    have HY := Lib.hid hy
    have HM := Lib.hid hm
    clear hy hm nb
    refine R0.out.opn ?_
    intros
    go_enter Tryz.func26, Tryz.ntmps26
    go_upto_region 4 with (go_at_call 59; refine nx (RA.out _ _ _ _ _ hout) fun w1 R1 => R1.out.opn ?_; intros)
    refine wp_region_held_drew (S := Sx w0 g G I os p) (by kernel_rfl) R1.out.drew.x (fun hHeld => ?_)
    replace R1 := Lib.hid R1.out.drew
    repeat refine tkr ?_
    refine wpAnyH_done (by kernel_rfl) ?_ _
    refine R1.out.opn ?_
    clear hHeld
    intros
    go_upto_region 5 with fail
    refine wp_region_held_drew (S := Sx w0 g G I os p) (by kernel_rfl) R1.out.drew.x (fun hHeld => ?_)
    replace R1 := Lib.hid R1.out.drew
    repeat refine tkr ?_
    refine tkn ?_ (y := by (intro w hSw; obtain ⟨_, _, _, _, _, hx⟩ := hSw; have hz := hx.co m0; rw [HY.out] at hz; go_simp; (try with_reducible rfl)))
    repeat refine tkr ?_
    refine wpAnyH_done (by with_unfolding_all rfl) ?_ _
    refine R1.out.opn ?_
    clear hHeld
    intros
    go_wp2_with (first
        | (go_at_call 61; refine (rshiftr_c u A u0.1 u0.2 (by omega) (by omega) _).mono ?_; rintro e wx ⟨rfl, rfl⟩)
        | (go_at_call 63; refine (rshiftla_c u A u0.1 u0.2 (by omega) (by omega) _).mono ?_; rintro e wx ⟨rfl, rfl⟩)
        | (go_at_call 65; refine (rshiftld_c u y A _ u0.1 u0.2 y0.1 y0.2 (by omega) (by omega) _).mono ?_; rintro e wx ⟨rfl, rfl⟩)
        | (go_at_call 66; refine (rshiftrd_c u y A u0.1 u0.2 y0.1 y0.2 (by omega) (by omega) _).mono ?_; rintro e wx ⟨rfl, rfl⟩)
        | (go_at_call 67; refine (rshiftlad_c u y A u0.1 u0.2 y0.1 y0.2 (by omega) (by omega) _).mono ?_; rintro e wx ⟨rfl, rfl⟩)
        | (go_at_call 62; refine nx (rset_c hout _ _ _) ?_; intro w1 R1)
        | (go_at_call 64; refine nx (rpair_c hout _ _) ?_; intro w1 R1))
    first | go_end0 | refine bodyPost_ret (results_none rfl _ _ _) rfl ?_
    have k1 := HU.out
    rw [List.getD_eq_getElem?_getD] at k1
    refine ⟨rfl, gd_ok hout ?_ ?_ ?_ ?_ ?_⟩
    all_goals first | rfl | (simp [shO, Pre.rg, Pre.st, svC, k1]; done)
end
end Go.Proofs.YthjdjbipfdigeaaGreat

namespace Go.Proofs.YthjdjbipfdigeaaGreat
open Go.RowKit
set_option maxRecDepth 100000
set_option linter.unusedVariables false
set_option linter.unusedSimpArgs false
section
variable {w0 w : World} {g : Nat} {G : Foot} {I : In} {os rs : List Int} {p q : Ps} {c : Int} {bs ks : List Int}
set_option maxRecDepth 1000000 in
set_option maxHeartbeats 8000000 in
theorem rsh_140 (h : RS w0 w g G I os os p p 0 bs ks) (ho : I.op = 140 ∨ I.op = 141 ∨ I.op = 142 ∨ I.op = 143) (he : ¬ I.n % 2 = 1) : Calls Tryz.prog 26 #[.pointer (some ⟨g, 0, none⟩)] w fun e w' => e = .returned (.tuple #[]) ∧ Gd w0 w' g G I os p ks (shO ⟨os, p.key, p.il, p.cc, p.pg, p.ad, bs, ks⟩ I.op I.n (I.a os)) := by
  obtain ⟨u, hu⟩ : ∃ u, os.getD I.n 0 = u := ⟨_, rfl⟩
  obtain ⟨v, hv⟩ : ∃ v, os.getD I.k 0 = v := ⟨_, rfl⟩
  have u0 := getD_in h.ro I.n
  have v0 := getD_in h.ro I.k
  rw [hu] at u0
  rw [hv] at v0
  obtain ⟨A, hA⟩ : ∃ A, I.a os = A := ⟨_, rfl⟩
  have A0 := I.a_in os
  rw [hA] at A0 ⊢
  have RA := Lib.hid (fun W rs q c bs (hW : RS w0 W g G I os rs p q c bs ks) => show Calls Tryz.prog 59 #[.pointer (some ⟨g, 0, none⟩)] W fun e w' => e = .returned (.int .i64 A) ∧ RS w0 w' g G I os rs p q c bs ks from hA ▸ ra_c hW)
  clear hA
  obtain ⟨m, hm⟩ : ∃ m, (I.n + 1) % 16 = m := ⟨_, rfl⟩
  have m0 : m < 16 := by omega
  have m1 : (m : Int) < 16 := by omega
  have nb := h.ix.n
  have e0 : IntKind.i64.wrap ((I.n : Int) + 1) = (I.n : Int) + 1 := wrap_i64_id (by omega) (by omega)
  have e1 : ((I.n : Int) + 1).tmod 16 = (m : Int) := by rw [Int.tmod_eq_emod_of_nonneg (by omega)]; omega
  obtain ⟨y, hy⟩ : ∃ y, os.getD m 0 = y := ⟨_, rfl⟩
  have y0 := getD_in h.ro m
  rw [hy] at y0
  have HE := Lib.hid (show evC 0 I.n = 0 from if_neg (fun hx => he hx.2))
  have hmn : m = I.n + 1 := by omega
  have HMN := Lib.hid hmn
  clear hmn
  rcases ho with ho | ho | ho | ho
  all_goals
    rw [ho]
    have HU := Lib.hid hu
    have HV := Lib.hid hv
    have HO := Lib.hid ho
    have R0 := Lib.hid h
    clear hu hv ho h
    have HY := Lib.hid hy
    have HM := Lib.hid hm
    clear hy hm nb
    refine R0.out.opn ?_
    intros
    go_enter Tryz.func26, Tryz.ntmps26
    go_upto_region 4 with (first
        | (go_at_call 59; refine nx (RA.out _ _ _ _ _ hout) fun w1 R1 => R1.out.opn ?_; intros)
        | (go_at_call 58; refine nx (reven_c hout) fun w1 R1 => ?_; rw [HE.out] at R1; refine R1.out.opn ?_; intros))
    refine wp_region_held_drew (S := Sx w0 g G I os p) (by kernel_rfl) R1.out.drew.x (fun hHeld => ?_)
    replace R1 := Lib.hid R1.out.drew
    repeat refine tkr ?_
    refine wpAnyH_done (by kernel_rfl) ?_ _
    refine R1.out.opn ?_
    clear hHeld
    intros
    go_upto_region 5 with fail
    refine wp_region_held_drew (S := Sx w0 g G I os p) (by kernel_rfl) R1.out.drew.x (fun hHeld => ?_)
    replace R1 := Lib.hid R1.out.drew
    repeat refine tkr ?_
    refine tkn ?_ (y := by (intro w hSw; obtain ⟨_, _, _, _, _, hx⟩ := hSw; have hz := hx.co m0; rw [HY.out] at hz; go_simp; (try with_reducible rfl)))
    repeat refine tkr ?_
    refine wpAnyH_done (by with_unfolding_all rfl) ?_ _
    refine R1.out.opn ?_
    clear hHeld
    intros
    go_wp2_with (first
        | (go_at_call 61; refine (rshiftr_c u A u0.1 u0.2 (by omega) (by omega) _).mono ?_; rintro e wx ⟨rfl, rfl⟩)
        | (go_at_call 63; refine (rshiftla_c u A u0.1 u0.2 (by omega) (by omega) _).mono ?_; rintro e wx ⟨rfl, rfl⟩)
        | (go_at_call 65; refine (rshiftld_c u y A _ u0.1 u0.2 y0.1 y0.2 (by omega) (by omega) _).mono ?_; rintro e wx ⟨rfl, rfl⟩)
        | (go_at_call 66; refine (rshiftrd_c u y A u0.1 u0.2 y0.1 y0.2 (by omega) (by omega) _).mono ?_; rintro e wx ⟨rfl, rfl⟩)
        | (go_at_call 67; refine (rshiftlad_c u y A u0.1 u0.2 y0.1 y0.2 (by omega) (by omega) _).mono ?_; rintro e wx ⟨rfl, rfl⟩)
        | (go_at_call 62; refine nx (rset_c hout _ _ _) ?_; intro w1 R1)
        | (go_at_call 64; refine nx (rpair_c hout _ _) ?_; intro w1 R1))
    first | go_end0 | refine bodyPost_ret (results_none rfl _ _ _) rfl ?_
    have k1 := HU.out
    have k2 : os.getD (I.n + 1) 0 = y := HMN.out ▸ HY.out
    rw [List.getD_eq_getElem?_getD] at k1 k2
    refine ⟨rfl, gd_ok hout ?_ ?_ ?_ ?_ ?_⟩
    all_goals first | rfl | (simp [shO, Pre.rg, Pre.st, svC, k1, k2, HM.out, HMN.out, he]; done)
end
end Go.Proofs.YthjdjbipfdigeaaGreat

namespace Go.Proofs.YthjdjbipfdigeaaGreat
open Go.RowKit
set_option maxRecDepth 100000
set_option linter.unusedVariables false
set_option linter.unusedSimpArgs false
section
variable {w0 w : World} {g : Nat} {G : Foot} {I : In} {os rs : List Int} {p q : Ps} {c : Int} {bs ks : List Int}
set_option maxRecDepth 1000000 in
set_option maxHeartbeats 8000000 in
theorem rsh_odd (h : RS w0 w g G I os os p p 0 bs ks) (ho : 140 ≤ I.op) (he : I.n % 2 = 1) : Calls Tryz.prog 26 #[.pointer (some ⟨g, 0, none⟩)] w fun e w' => e = .returned (.tuple #[]) ∧ Gd w0 w' g G I os p ks (Pre.no ⟨os, p.key, p.il, p.cc, p.pg, p.ad, bs, ks⟩ 6) := by
  have HE := Lib.hid (show evC 0 I.n = 6 from if_pos ⟨rfl, he⟩)
  have R0 := Lib.hid h
  have ho2 : I.op ≥ 140 := ho
  clear h he ho
  refine R0.out.opn ?_
  intros
  go_enter Tryz.func26, Tryz.ntmps26
  go_wp2_with (go_at_call 58; refine nx (reven_c hout) fun w1 R1 => ?_; rw [HE.out] at R1; refine R1.out.opn ?_; intros)
  first | go_end0 | refine bodyPost_ret (results_none rfl _ _ _) rfl ?_
  exact ⟨rfl, gd_no hout (show (6 : Int) ≠ 0 by decide) rfl⟩
end
end Go.Proofs.YthjdjbipfdigeaaGreat

namespace Go.Proofs.YthjdjbipfdigeaaGreat
open Go.RowKit
set_option maxRecDepth 100000
set_option linter.unusedVariables false
set_option linter.unusedSimpArgs false
section
variable {w0 w : World} {g : Nat} {G : Foot} {I : In} {os rs : List Int} {p q : Ps} {c : Int} {bs ks : List Int}
set_option maxRecDepth 1000000 in
set_option maxHeartbeats 8000000 in
theorem rim_146 (h : RS w0 w g G I os os p p 0 bs ks) (ho : I.op = 146) : Calls Tryz.prog 27 #[.pointer (some ⟨g, 0, none⟩)] w fun e w' => e = .returned (.tuple #[]) ∧ Gd w0 w' g G I os p ks (imO ⟨os, p.key, p.il, p.cc, p.pg, p.ad, bs, ks⟩ I.op (I.a1 os) I.i) := by
  obtain ⟨A, hA⟩ : ∃ A, I.a1 os = A := ⟨_, rfl⟩
  have A0 := I.a1_in os
  rw [hA] at A0 ⊢
  have RA := Lib.hid (fun w0 W rs q c bs (hW : RS w0 W g G I os rs p q c bs ks) => show Calls Tryz.prog 69 #[.pointer (some ⟨g, 0, none⟩)] W fun e w' => e = .returned (.int .i64 A) ∧ RS w0 w' g G I os rs p q c bs ks from hA ▸ ra1_c hW)
  clear hA
  obtain ⟨i0, i1⟩ := h.ix.i
  have ew : IntKind.u8.wrap I.i = I.i := by rw [IntKind.wrap_u8]; omega
  rcases ho with ho
  all_goals
    rw [ho]
    have HO := Lib.hid ho
    have R0 := Lib.hid h
    clear ho h
    refine R0.out.opn ?_
    intros
    go_enter Tryz.func27, Tryz.ntmps27
    go_upto_region 1 with fail
    refine wp_region_held_drew (S := Sx w0 g G I os p) (by kernel_rfl) R0.out.drew.x (fun hHeld => ?_)
    replace R0 := Lib.hid R0.out.drew
    have hg := R0.out.lt
    have hG := R0.out.st.ltb
    repeat refine tkr ?_
    refine tk2 (i := 2) (j := 9) (by with_unfolding_all rfl) (opc (RA.out _ _ _ _ _ _ R0.out) (fun _ h => h.x) ?_) (opb (w1 := w.drew.alloc (.cells #[.int .u8 I.i] 5)) (R := fun w' => RS w0 w' g G I os os p p 0 bs ks ∧ Byt w' (some ⟨w.drew.heap.size, 0, none⟩) 1 [I.i] ∧ w.drew.heap.size < w'.heap.size) ⟨R0.out.keep ((Below.refl _ _).alloc (Nat.le_refl _) (.cells #[.int .u8 I.i] 5)), byt_new _ [I.i] (by intro z hz; simp at hz; omega) #[.int .u8 I.i] rfl 1 rfl _, by simp⟩ (fun _ h => h.1.x) ?_)
    · clear hHeld
      intro w1 R1 hHeld
      have NB : w1.heap.size ≠ G.gb := by have := R1.out.st.ltb; omega
      refine tk1 (i := 9) (by with_unfolding_all rfl) (opb (w1 := w1.alloc (.cells #[.int .u8 I.i] 5)) (R := fun w' => RS w0 w' g G I os os p p 0 bs ks ∧ Byt w' (some ⟨w1.heap.size, 0, none⟩) 1 [I.i] ∧ w1.heap.size < w'.heap.size) ⟨R1.out.keep ((Below.refl _ _).alloc (Nat.le_refl _) (.cells #[.int .u8 I.i] 5)), byt_new _ [I.i] (by intro z hz; simp at hz; omega) #[.int .u8 I.i] rfl 1 rfl _, by simp⟩ (fun _ h => h.1.x) ?_)
      clear hHeld R1
      intro w2 R1 hHeld
      refine tk1 (i := 10) (by with_unfolding_all rfl) (opc (rputm_c R1.out.1 A _ 1 1 [I.i] R1.out.2.1 (by omega) (by intro _ x hx; injection hx with hx; subst hx; exact NB)) (fun _ h => h.x) ?_)
      clear hHeld R1
      intro w1 R1 hHeld
      refine wpAnyH_done (by with_unfolding_all rfl) ?_ _
      go_wp2
      first | go_end0 | refine bodyPost_ret (results_none rfl _ _ _) rfl ?_
      exact ⟨rfl, by rw [show imO ⟨os, p.key, p.il, p.cc, p.pg, p.ad, bs, ks⟩ 146 A I.i = Pre.wr ⟨os, p.key, p.il, p.cc, p.pg, p.ad, bs, ks⟩ A 1 [I.i] p.cc from rfl]; exact gd_wr R1.out⟩
    · clear hHeld
      intro w1 R1 hHeld
      have NB : w.drew.heap.size ≠ G.gb := by omega
      refine tk1 (i := 2) (by with_unfolding_all rfl) (opc (v := .int .i64 A) (R := fun w' => RS w0 w' g G I os os p p 0 bs ks ∧ Byt w' (some ⟨w.drew.heap.size, 0, none⟩) 1 [I.i] ∧ w.drew.heap.size < w'.heap.size) ((RA.out _ _ _ _ _ _ R1.out.1.rb).mono (fun e w' hh => ⟨hh.1, R1.out.1.re hh.2, R1.out.2.1.chg hh.2.b R1.out.2.2 (by simp at hg hG ⊢; omega), Nat.lt_of_lt_of_le R1.out.2.2 hh.2.b.size⟩)) (fun _ h => h.1.x) ?_)
      clear hHeld R1
      intro w2 R1 hHeld
      refine tk1 (i := 10) (by with_unfolding_all rfl) (opc (rputm_c R1.out.1 A _ 1 1 [I.i] R1.out.2.1 (by omega) (by intro _ x hx; injection hx with hx; subst hx; exact NB)) (fun _ h => h.x) ?_)
      clear hHeld R1
      intro w1 R1 hHeld
      refine wpAnyH_done (by with_unfolding_all rfl) ?_ _
      go_wp2
      first | go_end0 | refine bodyPost_ret (results_none rfl _ _ _) rfl ?_
      exact ⟨rfl, by rw [show imO ⟨os, p.key, p.il, p.cc, p.pg, p.ad, bs, ks⟩ 146 A I.i = Pre.wr ⟨os, p.key, p.il, p.cc, p.pg, p.ad, bs, ks⟩ A 1 [I.i] p.cc from rfl]; exact gd_wr R1.out⟩
end
end Go.Proofs.YthjdjbipfdigeaaGreat

namespace Go.Proofs.YthjdjbipfdigeaaGreat
open Go.RowKit
set_option maxRecDepth 100000
set_option linter.unusedVariables false
set_option linter.unusedSimpArgs false
section
variable {w0 w : World} {g : Nat} {G : Foot} {I : In} {os rs : List Int} {p q : Ps} {c : Int} {bs ks : List Int}
set_option maxRecDepth 1000000 in
set_option maxHeartbeats 8000000 in
theorem rim_145 (h : RS w0 w g G I os os p p 0 bs ks) (ho : I.op = 145) : Calls Tryz.prog 27 #[.pointer (some ⟨g, 0, none⟩)] w fun e w' => e = .returned (.tuple #[]) ∧ Gd w0 w' g G I os p ks (imO ⟨os, p.key, p.il, p.cc, p.pg, p.ad, bs, ks⟩ I.op (I.a1 os) I.i) := by
  obtain ⟨A, hA⟩ : ∃ A, I.a1 os = A := ⟨_, rfl⟩
  have A0 := I.a1_in os
  rw [hA] at A0 ⊢
  have RA := Lib.hid (fun w0 W rs q c bs (hW : RS w0 W g G I os rs p q c bs ks) => show Calls Tryz.prog 69 #[.pointer (some ⟨g, 0, none⟩)] W fun e w' => e = .returned (.int .i64 A) ∧ RS w0 w' g G I os rs p q c bs ks from hA ▸ ra1_c hW)
  clear hA
  obtain ⟨i0, i1⟩ := h.ix.i
  have ew : IntKind.u8.wrap I.i = I.i := by rw [IntKind.wrap_u8]; omega
  obtain ⟨x, hx⟩ : ∃ x, (ftB 0 bs ks p.key A 1).getD 0 0 = x := ⟨_, rfl⟩
  obtain ⟨F, hF⟩ : ∃ F, ftC 0 bs ks p.key A (1 : Nat) = F := ⟨_, rfl⟩
  have xr := ftB_in (c := 0) (a := A) (key := p.key) (ks := ks) (n := 1) h.st.rb 0
  rw [hx] at xr
  obtain ⟨x8, x9, x10⟩ := bits_8i xr ⟨i0, i1⟩
  have HX := Lib.hid hx
  have HF := Lib.hid hF
  clear hx hF
  obtain ⟨z, hz⟩ : ∃ z, bits .and .u8 x I.i = z := ⟨_, rfl⟩
  rw [hz] at x8
  have HZ := Lib.hid hz
  clear hz x9 x10
  rcases (show (z = 0 ∧ True) ∨ (¬ z = 0 ∧ z = I.i) ∨ (¬ z = 0 ∧ ¬ z = I.i) by by_cases h0 : z = 0 <;> by_cases h1 : z = I.i <;> simp [h0, h1] <;> omega) with hd | hd | hd
  all_goals
    have d1 := hd.1
    have d2 := hd.2
    have HD := Lib.hid hd
    clear hd
    rcases ho with ho
    all_goals
      rw [ho]
      have HO := Lib.hid ho
      have R0 := Lib.hid h
      clear ho h
      refine R0.out.opn ?_
      intros
      go_enter Tryz.func27, Tryz.ntmps27
      go_wp2_with (first
          | (go_at_call 69; refine nx (RA.out _ _ _ _ _ _ (by first | exact hout | exact RS.setcc hout _)) fun w1 R1 => R1.out.opn ?_; intros)
          | (go_at_call 70; refine nxf (rfet_c hout _ 1 (by omega) (by omega)) ?_; intro b cap w1 O1 hb1 hb2 R1; rw [HF.out] at R1; have x0 := byt0 O1.out.byt (by omega); rw [HX.out] at x0; refine R1.out.opn ?_; intros))
      all_goals
        first | go_end0 | refine bodyPost_ret (results_none rfl _ _ _) rfl ?_
        exact ⟨rfl, gd_im (by decide) (by first | exact RS.setcc hout _ | exact RS.setcc (RS.setcc hout _) _) HF.out HX.out (fun hx hf => by unfold imO; rw [if_neg (by decide), if_neg (by rw [hf]; exact fun h => h rfl), hx]; rw [if_pos rfl, HZ.out]; first | (rw [if_pos (HD.out).1]; done) | (rw [if_neg (HD.out).1, if_pos (HD.out).2]; done) | (rw [if_neg (HD.out).1, if_neg (HD.out).2]))⟩
end
end Go.Proofs.YthjdjbipfdigeaaGreat

namespace Go.Proofs.YthjdjbipfdigeaaGreat
open Go.RowKit
set_option maxRecDepth 100000
set_option linter.unusedVariables false
set_option linter.unusedSimpArgs false
section
variable {w0 w : World} {g : Nat} {G : Foot} {I : In} {os rs : List Int} {p q : Ps} {c : Int} {bs ks : List Int}
set_option maxRecDepth 1000000 in
set_option maxHeartbeats 8000000 in
theorem rim_149 (h : RS w0 w g G I os os p p 0 bs ks) (ho : I.op = 149) : Calls Tryz.prog 27 #[.pointer (some ⟨g, 0, none⟩)] w fun e w' => e = .returned (.tuple #[]) ∧ Gd w0 w' g G I os p ks (imO ⟨os, p.key, p.il, p.cc, p.pg, p.ad, bs, ks⟩ I.op (I.a1 os) I.i) := by
  obtain ⟨A, hA⟩ : ∃ A, I.a1 os = A := ⟨_, rfl⟩
  have A0 := I.a1_in os
  rw [hA] at A0 ⊢
  have RA := Lib.hid (fun w0 W rs q c bs (hW : RS w0 W g G I os rs p q c bs ks) => show Calls Tryz.prog 69 #[.pointer (some ⟨g, 0, none⟩)] W fun e w' => e = .returned (.int .i64 A) ∧ RS w0 w' g G I os rs p q c bs ks from hA ▸ ra1_c hW)
  clear hA
  obtain ⟨i0, i1⟩ := h.ix.i
  have ew : IntKind.u8.wrap I.i = I.i := by rw [IntKind.wrap_u8]; omega
  obtain ⟨x, hx⟩ : ∃ x, (ftB 0 bs ks p.key A 1).getD 0 0 = x := ⟨_, rfl⟩
  obtain ⟨F, hF⟩ : ∃ F, ftC 0 bs ks p.key A (1 : Nat) = F := ⟨_, rfl⟩
  have xr := ftB_in (c := 0) (a := A) (key := p.key) (ks := ks) (n := 1) h.st.rb 0
  rw [hx] at xr
  obtain ⟨x8, x9, x10⟩ := bits_8i xr ⟨i0, i1⟩
  have HX := Lib.hid hx
  have HF := Lib.hid hF
  clear hx hF
  have u1 : IntKind.u32.wrap x = x := lo32_id _ xr.1 (by omega)
  have u2 : IntKind.u32.wrap I.i = I.i := lo32_id _ i0 (by omega)
  clear x8 x9 x10
  rcases ho with ho
  all_goals
    rw [ho]
    have HO := Lib.hid ho
    have R0 := Lib.hid h
    clear ho h
    refine R0.out.opn ?_
    intros
    go_enter Tryz.func27, Tryz.ntmps27
    go_wp2_with (first
        | (go_at_call 69; refine nx (RA.out _ _ _ _ _ _ (by first | exact hout | exact RS.setcc hout _)) fun w1 R1 => R1.out.opn ?_; intros)
        | (go_at_call 70; refine nxf (rfet_c hout _ 1 (by omega) (by omega)) ?_; intro b cap w1 O1 hb1 hb2 R1; rw [HF.out] at R1; have x0 := byt0 O1.out.byt (by omega); rw [HX.out] at x0; refine R1.out.opn ?_; intros)
        | (go_at_call 71; refine (rcomparel_c _ _ (by omega) (by omega) (by omega) (by omega) _).mono ?_; rintro e wx ⟨rfl, rfl⟩))
    first | go_end0 | refine bodyPost_ret (results_none rfl _ _ _) rfl ?_
    exact ⟨rfl, gd_im (by decide) (by first | exact RS.setcc hout _ | exact RS.setcc (RS.setcc hout _) _) HF.out HX.out (fun hx hf => by unfold imO; rw [if_neg (by decide), if_neg (by rw [hf]; exact fun h => h rfl), hx]; rfl)⟩
end
end Go.Proofs.YthjdjbipfdigeaaGreat

namespace Go.Proofs.YthjdjbipfdigeaaGreat
open Go.RowKit
set_option maxRecDepth 100000
set_option linter.unusedVariables false
set_option linter.unusedSimpArgs false
section
variable {w0 w : World} {g : Nat} {G : Foot} {I : In} {os rs : List Int} {p q : Ps} {c : Int} {bs ks : List Int}
set_option maxRecDepth 1000000 in
set_option maxHeartbeats 8000000 in
theorem rim_147 (h : RS w0 w g G I os os p p 0 bs ks) (ho : I.op = 147) : Calls Tryz.prog 27 #[.pointer (some ⟨g, 0, none⟩)] w fun e w' => e = .returned (.tuple #[]) ∧ Gd w0 w' g G I os p ks (imO ⟨os, p.key, p.il, p.cc, p.pg, p.ad, bs, ks⟩ I.op (I.a1 os) I.i) := by
  obtain ⟨A, hA⟩ : ∃ A, I.a1 os = A := ⟨_, rfl⟩
  have A0 := I.a1_in os
  rw [hA] at A0 ⊢
  have RA := Lib.hid (fun w0 W rs q c bs (hW : RS w0 W g G I os rs p q c bs ks) => show Calls Tryz.prog 69 #[.pointer (some ⟨g, 0, none⟩)] W fun e w' => e = .returned (.int .i64 A) ∧ RS w0 w' g G I os rs p q c bs ks from hA ▸ ra1_c hW)
  clear hA
  obtain ⟨i0, i1⟩ := h.ix.i
  have ew : IntKind.u8.wrap I.i = I.i := by rw [IntKind.wrap_u8]; omega
  obtain ⟨x, hx⟩ : ∃ x, (ftB 0 bs ks p.key A 1).getD 0 0 = x := ⟨_, rfl⟩
  obtain ⟨F, hF⟩ : ∃ F, ftC 0 bs ks p.key A (1 : Nat) = F := ⟨_, rfl⟩
  have xr := ftB_in (c := 0) (a := A) (key := p.key) (ks := ks) (n := 1) h.st.rb 0
  rw [hx] at xr
  obtain ⟨x8, x9, x10⟩ := bits_8i xr ⟨i0, i1⟩
  have HX := Lib.hid hx
  have HF := Lib.hid hF
  clear hx hF
  clear x8 x9 x10
  rcases ho with ho
  all_goals
    rw [ho]
    have HO := Lib.hid ho
    have R0 := Lib.hid h
    clear ho h
    refine R0.out.opn ?_
    intros
    go_enter Tryz.func27, Tryz.ntmps27
    go_wp2_with (first
        | (go_at_call 69; refine nx (RA.out _ _ _ _ _ _ (by first | exact hout | exact RS.setcc hout _)) fun w1 R1 => R1.out.opn ?_; intros)
        | (go_at_call 70; refine nxf (rfet_c hout _ 1 (by omega) (by omega)) ?_; intro b cap w1 O1 hb1 hb2 R1; rw [HF.out] at R1; have x0 := byt0 O1.out.byt (by omega); rw [HX.out] at x0; refine R1.out.opn ?_; intros)
        | (go_at_call 68; refine nx (rputm_c (RS.keep hout ((Below.refl _ _).alloc (Nat.le_refl _) _)) _ _ 1 1 [255] (byt_new _ [255] (by intro z hz; simp at hz; omega) _ rfl 1 rfl _) (by omega) (by intro _ x hx; injection hx with hx; subst hx; exact Ne.symm (Nat.ne_of_lt (RS.st (hout : RS w0 _ g G I _ _ _ _ _ _ _)).ltb))) ?_; intro w1 R1))
    first | go_end0 | refine bodyPost_ret (results_none rfl _ _ _) rfl ?_
    exact ⟨rfl, gd_iw (by decide) hout HF.out HX.out (fun hx hf => by unfold imO; rw [if_neg (by decide), if_neg (by rw [hf]; exact fun h => h rfl), hx]; rfl)⟩
end
end Go.Proofs.YthjdjbipfdigeaaGreat

namespace Go.Proofs.YthjdjbipfdigeaaGreat
open Go.RowKit
set_option maxRecDepth 100000
set_option linter.unusedVariables false
set_option linter.unusedSimpArgs false
section
variable {w0 w : World} {g : Nat} {G : Foot} {I : In} {os rs : List Int} {p q : Ps} {c : Int} {bs ks : List Int}
set_option maxRecDepth 1000000 in
set_option maxHeartbeats 8000000 in
theorem rim_148 (h : RS w0 w g G I os os p p 0 bs ks) (ho : I.op = 148) : Calls Tryz.prog 27 #[.pointer (some ⟨g, 0, none⟩)] w fun e w' => e = .returned (.tuple #[]) ∧ Gd w0 w' g G I os p ks (imO ⟨os, p.key, p.il, p.cc, p.pg, p.ad, bs, ks⟩ I.op (I.a1 os) I.i) := by
  obtain ⟨A, hA⟩ : ∃ A, I.a1 os = A := ⟨_, rfl⟩
  have A0 := I.a1_in os
  rw [hA] at A0 ⊢
  have RA := Lib.hid (fun w0 W rs q c bs (hW : RS w0 W g G I os rs p q c bs ks) => show Calls Tryz.prog 69 #[.pointer (some ⟨g, 0, none⟩)] W fun e w' => e = .returned (.int .i64 A) ∧ RS w0 w' g G I os rs p q c bs ks from hA ▸ ra1_c hW)
  clear hA
  obtain ⟨i0, i1⟩ := h.ix.i
  have ew : IntKind.u8.wrap I.i = I.i := by rw [IntKind.wrap_u8]; omega
  obtain ⟨x, hx⟩ : ∃ x, (ftB 0 bs ks p.key A 1).getD 0 0 = x := ⟨_, rfl⟩
  obtain ⟨F, hF⟩ : ∃ F, ftC 0 bs ks p.key A (1 : Nat) = F := ⟨_, rfl⟩
  have xr := ftB_in (c := 0) (a := A) (key := p.key) (ks := ks) (n := 1) h.st.rb 0
  rw [hx] at xr
  obtain ⟨x8, x9, x10⟩ := bits_8i xr ⟨i0, i1⟩
  have HX := Lib.hid hx
  have HF := Lib.hid hF
  clear hx hF
  obtain ⟨z, hz⟩ : ∃ z, bits .and .u8 x I.i = z := ⟨_, rfl⟩
  rw [hz] at x8
  have z0 : 0 ≤ z ∧ z ≤ 255 := by rw [← hz]; exact wrap_within .u8 _
  have HZ := Lib.hid hz
  have u1 : IntKind.u32.wrap z = z := lo32_id _ z0.1 (by omega)
  have u2 : IntKind.u8.wrap z = z := by rw [IntKind.wrap_u8]; omega
  clear hz x9 x10
  rcases ho with ho
  all_goals
    rw [ho]
    have HO := Lib.hid ho
    have R0 := Lib.hid h
    clear ho h
    refine R0.out.opn ?_
    intros
    go_enter Tryz.func27, Tryz.ntmps27
    go_wp2_with (first
        | (go_at_call 69; refine nx (RA.out _ _ _ _ _ _ (by first | exact hout | exact RS.setcc hout _)) fun w1 R1 => R1.out.opn ?_; intros)
        | (go_at_call 70; refine nxf (rfet_c hout _ 1 (by omega) (by omega)) ?_; intro b cap w1 O1 hb1 hb2 R1; rw [HF.out] at R1; have x0 := byt0 O1.out.byt (by omega); rw [HX.out] at x0; refine R1.out.opn ?_; intros)
        | (go_at_call 72; refine (rsome_c _ _).mono ?_; rintro e wx ⟨rfl, rfl⟩)
        | (go_at_call 68; refine nx (rputm_c (RS.keep hout ((Below.refl _ _).alloc (Nat.le_refl _) _)) _ _ 1 1 [z] (byt_new _ [z] (by intro z hz; simp at hz; omega) _ rfl 1 rfl _) (by omega) (by intro _ x hx; injection hx with hx; subst hx; exact Ne.symm (Nat.ne_of_lt (RS.st (hout : RS w0 _ g G I _ _ _ _ _ _ _)).ltb))) ?_; intro w1 R1))
    first | go_end0 | refine bodyPost_ret (results_none rfl _ _ _) rfl ?_
    exact ⟨rfl, gd_iw (by decide) hout HF.out HX.out (fun hx hf => by unfold imO; rw [if_neg (by decide), if_neg (by rw [hf]; exact fun h => h rfl), hx]; rw [← HZ.out]; rfl)⟩
set_option maxRecDepth 1000000 in
set_option maxHeartbeats 8000000 in
theorem rim_150 (h : RS w0 w g G I os os p p 0 bs ks) (ho : I.op = 150) : Calls Tryz.prog 27 #[.pointer (some ⟨g, 0, none⟩)] w fun e w' => e = .returned (.tuple #[]) ∧ Gd w0 w' g G I os p ks (imO ⟨os, p.key, p.il, p.cc, p.pg, p.ad, bs, ks⟩ I.op (I.a1 os) I.i) := by
  obtain ⟨A, hA⟩ : ∃ A, I.a1 os = A := ⟨_, rfl⟩
  have A0 := I.a1_in os
  rw [hA] at A0 ⊢
  have RA := Lib.hid (fun w0 W rs q c bs (hW : RS w0 W g G I os rs p q c bs ks) => show Calls Tryz.prog 69 #[.pointer (some ⟨g, 0, none⟩)] W fun e w' => e = .returned (.int .i64 A) ∧ RS w0 w' g G I os rs p q c bs ks from hA ▸ ra1_c hW)
  clear hA
  obtain ⟨i0, i1⟩ := h.ix.i
  have ew : IntKind.u8.wrap I.i = I.i := by rw [IntKind.wrap_u8]; omega
  obtain ⟨x, hx⟩ : ∃ x, (ftB 0 bs ks p.key A 1).getD 0 0 = x := ⟨_, rfl⟩
  obtain ⟨F, hF⟩ : ∃ F, ftC 0 bs ks p.key A (1 : Nat) = F := ⟨_, rfl⟩
  have xr := ftB_in (c := 0) (a := A) (key := p.key) (ks := ks) (n := 1) h.st.rb 0
  rw [hx] at xr
  obtain ⟨x8, x9, x10⟩ := bits_8i xr ⟨i0, i1⟩
  have HX := Lib.hid hx
  have HF := Lib.hid hF
  clear hx hF
  obtain ⟨z, hz⟩ : ∃ z, bits .or .u8 x I.i = z := ⟨_, rfl⟩
  rw [hz] at x9
  have z0 : 0 ≤ z ∧ z ≤ 255 := by rw [← hz]; exact wrap_within .u8 _
  have HZ := Lib.hid hz
  have u1 : IntKind.u32.wrap z = z := lo32_id _ z0.1 (by omega)
  have u2 : IntKind.u8.wrap z = z := by rw [IntKind.wrap_u8]; omega
  clear hz x8 x10
  rcases ho with ho
  all_goals
    rw [ho]
    have HO := Lib.hid ho
    have R0 := Lib.hid h
    clear ho h
    refine R0.out.opn ?_
    intros
    go_enter Tryz.func27, Tryz.ntmps27
    go_wp2_with (first
        | (go_at_call 69; refine nx (RA.out _ _ _ _ _ _ (by first | exact hout | exact RS.setcc hout _)) fun w1 R1 => R1.out.opn ?_; intros)
        | (go_at_call 70; refine nxf (rfet_c hout _ 1 (by omega) (by omega)) ?_; intro b cap w1 O1 hb1 hb2 R1; rw [HF.out] at R1; have x0 := byt0 O1.out.byt (by omega); rw [HX.out] at x0; refine R1.out.opn ?_; intros)
        | (go_at_call 72; refine (rsome_c _ _).mono ?_; rintro e wx ⟨rfl, rfl⟩)
        | (go_at_call 68; refine nx (rputm_c (RS.keep hout ((Below.refl _ _).alloc (Nat.le_refl _) _)) _ _ 1 1 [z] (byt_new _ [z] (by intro z hz; simp at hz; omega) _ rfl 1 rfl _) (by omega) (by intro _ x hx; injection hx with hx; subst hx; exact Ne.symm (Nat.ne_of_lt (RS.st (hout : RS w0 _ g G I _ _ _ _ _ _ _)).ltb))) ?_; intro w1 R1))
    first | go_end0 | refine bodyPost_ret (results_none rfl _ _ _) rfl ?_
    exact ⟨rfl, gd_iw (by decide) hout HF.out HX.out (fun hx hf => by unfold imO; rw [if_neg (by decide), if_neg (by rw [hf]; exact fun h => h rfl), hx]; rw [← HZ.out]; rfl)⟩
set_option maxRecDepth 1000000 in
set_option maxHeartbeats 8000000 in
theorem rim_151 (h : RS w0 w g G I os os p p 0 bs ks) (ho : I.op = 151) : Calls Tryz.prog 27 #[.pointer (some ⟨g, 0, none⟩)] w fun e w' => e = .returned (.tuple #[]) ∧ Gd w0 w' g G I os p ks (imO ⟨os, p.key, p.il, p.cc, p.pg, p.ad, bs, ks⟩ I.op (I.a1 os) I.i) := by
  obtain ⟨A, hA⟩ : ∃ A, I.a1 os = A := ⟨_, rfl⟩
  have A0 := I.a1_in os
  rw [hA] at A0 ⊢
  have RA := Lib.hid (fun w0 W rs q c bs (hW : RS w0 W g G I os rs p q c bs ks) => show Calls Tryz.prog 69 #[.pointer (some ⟨g, 0, none⟩)] W fun e w' => e = .returned (.int .i64 A) ∧ RS w0 w' g G I os rs p q c bs ks from hA ▸ ra1_c hW)
  clear hA
  obtain ⟨i0, i1⟩ := h.ix.i
  have ew : IntKind.u8.wrap I.i = I.i := by rw [IntKind.wrap_u8]; omega
  obtain ⟨x, hx⟩ : ∃ x, (ftB 0 bs ks p.key A 1).getD 0 0 = x := ⟨_, rfl⟩
  obtain ⟨F, hF⟩ : ∃ F, ftC 0 bs ks p.key A (1 : Nat) = F := ⟨_, rfl⟩
  have xr := ftB_in (c := 0) (a := A) (key := p.key) (ks := ks) (n := 1) h.st.rb 0
  rw [hx] at xr
  obtain ⟨x8, x9, x10⟩ := bits_8i xr ⟨i0, i1⟩
  have HX := Lib.hid hx
  have HF := Lib.hid hF
  clear hx hF
  obtain ⟨z, hz⟩ : ∃ z, bits .xor .u8 x I.i = z := ⟨_, rfl⟩
  rw [hz] at x10
  have z0 : 0 ≤ z ∧ z ≤ 255 := by rw [← hz]; exact wrap_within .u8 _
  have HZ := Lib.hid hz
  have u1 : IntKind.u32.wrap z = z := lo32_id _ z0.1 (by omega)
  have u2 : IntKind.u8.wrap z = z := by rw [IntKind.wrap_u8]; omega
  clear hz x8 x9
  rcases ho with ho
  all_goals
    rw [ho]
    have HO := Lib.hid ho
    have R0 := Lib.hid h
    clear ho h
    refine R0.out.opn ?_
    intros
    go_enter Tryz.func27, Tryz.ntmps27
    go_wp2_with (first
        | (go_at_call 69; refine nx (RA.out _ _ _ _ _ _ (by first | exact hout | exact RS.setcc hout _)) fun w1 R1 => R1.out.opn ?_; intros)
        | (go_at_call 70; refine nxf (rfet_c hout _ 1 (by omega) (by omega)) ?_; intro b cap w1 O1 hb1 hb2 R1; rw [HF.out] at R1; have x0 := byt0 O1.out.byt (by omega); rw [HX.out] at x0; refine R1.out.opn ?_; intros)
        | (go_at_call 72; refine (rsome_c _ _).mono ?_; rintro e wx ⟨rfl, rfl⟩)
        | (go_at_call 68; refine nx (rputm_c (RS.keep hout ((Below.refl _ _).alloc (Nat.le_refl _) _)) _ _ 1 1 [z] (byt_new _ [z] (by intro z hz; simp at hz; omega) _ rfl 1 rfl _) (by omega) (by intro _ x hx; injection hx with hx; subst hx; exact Ne.symm (Nat.ne_of_lt (RS.st (hout : RS w0 _ g G I _ _ _ _ _ _ _)).ltb))) ?_; intro w1 R1))
    first | go_end0 | refine bodyPost_ret (results_none rfl _ _ _) rfl ?_
    exact ⟨rfl, gd_iw (by decide) hout HF.out HX.out (fun hx hf => by unfold imO; rw [if_neg (by decide), if_neg (by rw [hf]; exact fun h => h rfl), hx]; rw [← HZ.out]; rfl)⟩
end
end Go.Proofs.YthjdjbipfdigeaaGreat

namespace Go.Proofs.YthjdjbipfdigeaaGreat
open Go.RowKit
set_option maxRecDepth 100000
set_option linter.unusedVariables false
set_option linter.unusedSimpArgs false
section
variable {w0 w : World} {g : Nat} {G : Foot} {I : In} {os rs : List Int} {p q : Ps} {c : Int} {bs ks : List Int}
set_option maxRecDepth 1000000 in
set_option maxHeartbeats 8000000 in
theorem rmv_65 (h : RS w0 w g G I os os p p 0 bs ks) (ho : I.op = 65) : Calls Tryz.prog 29 #[.pointer (some ⟨g, 0, none⟩)] w fun e w' => e = .returned (.tuple #[]) ∧ Gd w0 w' g G I os p ks (Pre.rg ⟨os, p.key, p.il, p.cc, p.pg, p.ad, bs, ks⟩ (os.set I.n (I.a os))) := by
  obtain ⟨u, hu⟩ : ∃ u, os.getD I.n 0 = u := ⟨_, rfl⟩
  obtain ⟨v, hv⟩ : ∃ v, os.getD I.k 0 = v := ⟨_, rfl⟩
  have u0 := getD_in h.ro I.n
  have v0 := getD_in h.ro I.k
  rw [hu] at u0
  rw [hv] at v0
  obtain ⟨A, hA⟩ : ∃ A, I.a os = A := ⟨_, rfl⟩
  have A0 := I.a_in os
  rw [hA] at A0 ⊢
  have RA := Lib.hid (fun w0 W rs q c bs (hW : RS w0 W g G I os rs p q c bs ks) => show Calls Tryz.prog 59 #[.pointer (some ⟨g, 0, none⟩)] W fun e w' => e = .returned (.int .i64 A) ∧ RS w0 w' g G I os rs p q c bs ks from hA ▸ ra_c hW)
  clear hA
  have ew : IntKind.u32.wrap A = A := lo32_id _ A0.1 (by omega)
  have hmk := mk4
  rcases ho with ho
  all_goals
    have HU := Lib.hid hu
    have HV := Lib.hid hv
    have HO := Lib.hid ho
    have R0 := Lib.hid h
    clear hu hv ho h
    refine R0.out.opn ?_
    intros
    go_enter Tryz.func29, Tryz.ntmps29
    go_upto_region 0 with fail
    refine wp_region_held_drew (S := Sx w0 g G I os p) (by kernel_rfl) R0.out.drew.x (fun hHeld => ?_)
    replace R0 := Lib.hid R0.out.drew
    repeat refine tkr ?_
    refine wpAnyH_done (by kernel_rfl) ?_ _
    refine R0.out.opn ?_
    clear hHeld
    intros
    go_upto_region 14 with (go_at_call 76; refine (rpf_c u u0 _ R0.out).mono ?_; rintro e w1 ⟨bb, cap, rfl, hW, hc0, hc1, hb⟩; have R1 := Lib.hid hW; clear hW; unfold maxLen at hc1; have n2 : ¬ cap = 2 := (by omega); have n3 : ¬ cap = 3 := (by omega); replace R1 := Lib.hid (RW.rs R1.out); refine R1.out.opn ?_; intros)
    refine wp_region_held_drew (S := Sx w0 g G I os p) (by kernel_rfl) R1.out.drew.x (fun hHeld => ?_)
    replace R1 := Lib.hid R1.out.drew
    repeat refine tkr ?_
    refine tkc (RA.out _ _ _ _ _ _ R1.out) (fun _ h => h.x) ?_
    clear hHeld R1
    intro w1 R1 hHeld
    repeat refine tkr ?_
    have cS := R1.out.cr (n := I.n) (R1.out.ix.n)
    have fS := R1.out.fz
    refine tkw (R := fun w' => RS w0 w' g G I os (os.set I.n A) p p 0 bs ks) (R1.out.setr (R1.out.ix.n) _) (fun _ h => h.x) ?_
    clear cS fS R1 hHeld
    intro w1 R1 hHeld
    refine wpAnyH_done (by kernel_rfl) ?_ _
    refine R1.out.opn ?_
    clear hHeld
    intros
    go_wp2
    first | go_end0 | refine bodyPost_ret (results_none rfl _ _ _) rfl ?_
    exact ⟨rfl, by show Gd _ _ _ _ _ _ _ _ (Pre.rg ⟨os, p.key, p.il, p.cc, p.pg, p.ad, bs, ks⟩ (os.set I.n A)); exact gd_ok hout rfl rfl rfl rfl rfl⟩
end
end Go.Proofs.YthjdjbipfdigeaaGreat

namespace Go.Proofs.YthjdjbipfdigeaaGreat
open Go.RowKit
set_option maxRecDepth 100000
set_option linter.unusedVariables false
set_option linter.unusedSimpArgs false
section
variable {w0 w : World} {g : Nat} {G : Foot} {I : In} {os rs : List Int} {p q : Ps} {c : Int} {bs ks : List Int}
theorem cell_oth {w : World} {a b : Addr} (v : Value) (h : a.block ≠ b.block) : (w.setCell a v).cell? b = w.cell? b := by unfold World.cell?; rw [Below.heap_setCell w a v b.block (Ne.symm h)]
theorem gd_ic {A x F u : Int} {n k : Nat} (hu : os.getD n 0 = u) (HF : ftC 0 bs ks p.key A (1 : Nat) = F) (HX : (ftB 0 bs ks p.key A 1).getD 0 0 = x) (hR : RS w0 w g G I os (os.set n (u / 256 * 256 + x)) p p F bs ks) : Gd w0 w g G I os p ks (mvO ⟨os, p.key, p.il, p.cc, p.pg, p.ad, bs, ks⟩ 67 n k A) := by
  have hfc : Pre.fc ⟨os, p.key, p.il, p.cc, p.pg, p.ad, bs, ks⟩ A 1 = F := by rw [← HF]; exact (if_pos rfl).symm
  have e : mvO ⟨os, p.key, p.il, p.cc, p.pg, p.ad, bs, ks⟩ 67 n k A = if Pre.fc ⟨os, p.key, p.il, p.cc, p.pg, p.ad, bs, ks⟩ A 1 = 0 then Pre.rg ⟨os, p.key, p.il, p.cc, p.pg, p.ad, bs, ks⟩ (os.set n (os.getD n 0 / 256 * 256 + (sGet bs A 1).getD 0 0)) else Pre.no ⟨os, p.key, p.il, p.cc, p.pg, p.ad, bs, ks⟩ (Pre.fc ⟨os, p.key, p.il, p.cc, p.pg, p.ad, bs, ks⟩ A 1) := rfl
  rw [e, hfc]
  by_cases h0 : F = 0
  · subst h0
    rw [if_pos rfl]
    have hx : (sGet bs A 1).getD 0 0 = x := by rw [← HX]; unfold ftB; rw [HF, if_pos rfl]; rfl
    rw [hx, hu]
    exact gd_ok hR rfl rfl rfl rfl rfl
  · rw [if_neg h0]
    exact gd_no hR h0 rfl
set_option maxRecDepth 1000000 in
set_option maxHeartbeats 8000000 in
theorem rmv_67 (h : RS w0 w g G I os os p p 0 bs ks) (ho : I.op = 67) : Calls Tryz.prog 29 #[.pointer (some ⟨g, 0, none⟩)] w fun e w' => e = .returned (.tuple #[]) ∧ Gd w0 w' g G I os p ks (mvO ⟨os, p.key, p.il, p.cc, p.pg, p.ad, bs, ks⟩ I.op I.n I.k (I.a os)) := by
  obtain ⟨u, hu⟩ : ∃ u, os.getD I.n 0 = u := ⟨_, rfl⟩
  obtain ⟨v, hv⟩ : ∃ v, os.getD I.k 0 = v := ⟨_, rfl⟩
  have u0 := getD_in h.ro I.n
  have v0 := getD_in h.ro I.k
  rw [hu] at u0
  rw [hv] at v0
  obtain ⟨A, hA⟩ : ∃ A, I.a os = A := ⟨_, rfl⟩
  have A0 := I.a_in os
  rw [hA] at A0 ⊢
  have RA := Lib.hid (fun w0 W rs q c bs (hW : RS w0 W g G I os rs p q c bs ks) => show Calls Tryz.prog 59 #[.pointer (some ⟨g, 0, none⟩)] W fun e w' => e = .returned (.int .i64 A) ∧ RS w0 w' g G I os rs p q c bs ks from hA ▸ ra_c hW)
  clear hA
  obtain ⟨x, hx⟩ : ∃ x, (ftB 0 bs ks p.key A 1).getD 0 0 = x := ⟨_, rfl⟩
  obtain ⟨F, hF⟩ : ∃ F, ftC 0 bs ks p.key A (1 : Nat) = F := ⟨_, rfl⟩
  have xr := ftB_in (c := 0) (a := A) (key := p.key) (ks := ks) (n := 1) h.st.rb 0
  rw [hx] at xr
  have HX := Lib.hid hx
  have HF := Lib.hid hF
  clear hx hF
  have d1 : u.tdiv 256 = u / 256 := Int.tdiv_eq_ediv_of_nonneg u0.1
  have d2 : IntKind.u32.wrap (u / 256) = u / 256 := lo32_id _ (by omega) (by omega)
  have d3 : IntKind.u32.wrap (u / 256 * 256) = u / 256 * 256 := lo32_id _ (by omega) (by omega)
  have d4 : IntKind.u32.wrap x = x := lo32_id _ xr.1 (by omega)
  have d5 : IntKind.u32.wrap (u / 256 * 256 + x) = u / 256 * 256 + x := lo32_id _ (by omega) (by omega)
  have hmk := mk4
  rcases ho with ho
  all_goals
    rw [ho]
    have HU := Lib.hid hu
    have HV := Lib.hid hv
    have HO := Lib.hid ho
    have R0 := Lib.hid h
    clear hu hv ho h
    refine R0.out.opn ?_
    intros
    go_enter Tryz.func29, Tryz.ntmps29
    go_upto_region 0 with fail
    refine wp_region_held_drew (S := Sx w0 g G I os p) (by kernel_rfl) R0.out.drew.x (fun hHeld => ?_)
    replace R0 := Lib.hid R0.out.drew
    repeat refine tkr ?_
    refine wpAnyH_done (by kernel_rfl) ?_ _
    refine R0.out.opn ?_
    clear hHeld
    intros
    go_upto_region 12 with (go_at_call 76; refine (rpf_c u u0 _ R0.out).mono ?_; rintro e w1 ⟨bb, cap, rfl, hW, hc0, hc1, hb⟩; have R1 := Lib.hid hW; clear hW; unfold maxLen at hc1; have n2 : ¬ cap = 2 := (by omega); have n3 : ¬ cap = 3 := (by omega); replace R1 := Lib.hid (RW.rs R1.out); refine R1.out.opn ?_; intros)
    refine wp_region_held_drew (S := Sx w0 g G I os p) (by kernel_rfl) R1.out.drew.x (fun hHeld => ?_)
    replace R1 := Lib.hid R1.out.drew
    repeat refine tkr ?_
    refine tkc (RA.out _ _ _ _ _ _ R1.out) (fun _ h => h.x) ?_
    clear hHeld R1
    intro w1 R1 hHeld
    have hlg := R1.out.lt
    refine tkce (rfet_c R1.out A 1 (by omega) (by omega)) (fun _ _ ⟨_, _, _, _, _, _, h⟩ => h.x) ?_
    clear hHeld R1
    intro vv w1 R1 hHeld
    obtain ⟨b, cap, rfl, hO, h1, h2, hR⟩ := R1.out
    have x0 := byt0 hO.byt (by omega)
    rw [HX.out] at x0
    rw [HF.out] at hR
    clear R1
    have R1 := Lib.hid hR
    have XX := Lib.hid x0
    have NB : b ≠ g := by omega
    clear hR hO h1 h2
    refine wpAnyH_more (fun w' => Sx w0 g G I os p w' ∧ w'.cell? ⟨b, 0, none⟩ = some (.int .u8 x)) ⟨hHeld, x0⟩ (fun _ h => h.1) (fun hHeld => ?_)
    clear x0
    repeat refine tkn ?_ (y := by (intro w hSw; obtain ⟨⟨_, _, _, _, _, hx⟩, hc⟩ := hSw; refine RS.opn hx ?_; intros; go_simp; (try with_reducible rfl)))
    have hnb : b ≠ g := NB
    have cS := R1.out.cr (n := I.n) (R1.out.ix.n)
    have fS := R1.out.fz
    refine tkw (R := fun w' => RS w0 w' g G I os (os.set I.n (u / 256 * 256 + x)) p p F bs ks ∧ w'.cell? ⟨b, 0, none⟩ = some (.int .u8 x)) ⟨R1.out.setr R1.out.ix.n _, (cell_oth _ (Ne.symm hnb)).trans XX.out⟩ (fun _ h => ⟨h.1.x, h.2⟩) ?_
    clear cS fS R1 hHeld
    intro w1 R1 hHeld
    refine wpAnyH_done (by with_unfolding_all rfl) ?_ _
    go_wp2
    first | go_end0 | refine bodyPost_ret (results_none rfl _ _ _) rfl ?_
    exact ⟨rfl, gd_ic HU.out HF.out HX.out R1.out.1⟩
end
end Go.Proofs.YthjdjbipfdigeaaGreat

namespace Go.Proofs.YthjdjbipfdigeaaGreat
open Go.RowKit
set_option maxRecDepth 100000
set_option linter.unusedVariables false
set_option linter.unusedSimpArgs false
section
variable {w0 w : World} {g : Nat} {G : Foot} {I : In} {os rs : List Int} {p q : Ps} {c : Int} {bs ks : List Int}
theorem hval_in {n : Nat} {zs : List Int} (h : ∀ k, 0 ≤ zs.getD k 0 ∧ zs.getD k 0 ≤ 255) (a : Int) : 0 ≤ hval n a zs ∧ hval n a zs ≤ 4294967295 := by
  unfold hval
  split
  · unfold hfv
    exact ⟨lo32_lo _, lo32_hi _⟩
  · omega
theorem fval_in {n : Nat} {zs : List Int} (h : ∀ k, 0 ≤ zs.getD k 0 ∧ zs.getD k 0 ≤ 255) (a : Int) : 0 ≤ fval n a zs ∧ fval n a zs ≤ 4294967295 := by
  unfold fval
  split
  · unfold flv
    have := h a.toNat
    have := h (a.toNat + 1)
    have := h (a.toNat + 2)
    have := h (a.toNat + 3)
    omega
  · omega
theorem oV_in {c key : Int} {I : In} {os bs ks : List Int} (ro : ∀ z ∈ os, 0 ≤ z ∧ z ≤ 4294967295) (hr : ∀ z ∈ bs, 0 ≤ z ∧ z ≤ 255) : 0 ≤ oV c I os bs ks key ∧ oV c I os bs ks key ≤ 4294967295 := by
  unfold oV
  split
  · exact getD_in ro _
  · split
    · exact hval_in (fun k => ftB_in hr k) _
    · exact fval_in (fun k => ftB_in hr k) _
theorem gd_ar {o : Out} {O : Bool} {cV C : Int} (hR : RS w0 w g G I os rs p { p with cc := C } (svC cV p.pg O) bs ks) (he : cV = 0 → o = Pre.st ⟨os, p.key, p.il, p.cc, p.pg, p.ad, bs, ks⟩ rs C O) (hn : cV ≠ 0 → o = Pre.no ⟨os, p.key, p.il, p.cc, p.pg, p.ad, bs, ks⟩ cV) : Gd w0 w g G I os p ks o := by
  by_cases h0 : cV = 0
  · rw [he h0]
    subst h0
    exact gd_ok hR rfl (by unfold svC Pre.st; simp) rfl rfl rfl
  · rw [hn h0]
    have : svC cV p.pg O = cV := if_neg (fun h => h0 h.2.2)
    rw [this] at hR
    exact gd_no hR h0 rfl
theorem svC_f (c pg : Int) : svC c pg false = c := if_neg (fun h => by cases h.1)
end
end Go.Proofs.YthjdjbipfdigeaaGreat

namespace Go.Proofs.YthjdjbipfdigeaaGreat
open Go.RowKit
set_option maxRecDepth 100000
set_option linter.unusedVariables false
set_option linter.unusedSimpArgs false
section
variable {w0 w : World} {g : Nat} {G : Foot} {I : In} {os rs : List Int} {p q : Ps} {c : Int} {bs ks : List Int}
set_option maxRecDepth 1000000 in
set_option maxHeartbeats 8000000 in
theorem rar_26 (h : RS w0 w g G I os os p p 0 bs ks) (ho : I.op = 26 ∨ I.op = 90 ∨ I.op = 74) : Calls Tryz.prog 30 #[.pointer (some ⟨g, 0, none⟩)] w fun e w' => e = .returned (.tuple #[]) ∧ Gd w0 w' g G I os p ks (arO ⟨os, p.key, p.il, p.cc, p.pg, p.ad, bs, ks⟩ I.op I.n (oC 0 I os bs ks p.key) (oV 0 I os bs ks p.key)) := by
  obtain ⟨u, hu⟩ : ∃ u, os.getD I.n 0 = u := ⟨_, rfl⟩
  obtain ⟨v, hv⟩ : ∃ v, os.getD I.k 0 = v := ⟨_, rfl⟩
  have u0 := getD_in h.ro I.n
  have v0 := getD_in h.ro I.k
  rw [hu] at u0
  rw [hv] at v0
  obtain ⟨V, hV⟩ : ∃ V, oV 0 I os bs ks p.key = V := ⟨_, rfl⟩
  obtain ⟨cV, hcV⟩ : ∃ e, oC 0 I os bs ks p.key = e := ⟨_, rfl⟩
  have V0 := oV_in (c := 0) (key := p.key) (I := I) (ks := ks) h.ro h.st.rb
  rw [hV] at V0 ⊢
  rw [hcV]
  have RO := Lib.hid (fun W (hW : RS w0 W g G I os os p p 0 bs ks) => show Calls Tryz.prog 80 #[.pointer (some ⟨g, 0, none⟩)] W fun e w' => e = .returned (.int .u32 V) ∧ RS w0 w' g G I os os p p cV bs ks from by have := roperand_c hW; rw [hV, hcV] at this; exact this)
  clear hV hcV
  rcases ho with ho | ho | ho
  all_goals
    rw [ho]
    have HU := Lib.hid hu
    have HV := Lib.hid hv
    have HO := Lib.hid ho
    have R0 := Lib.hid h
    clear hu hv ho h
    refine R0.out.opn ?_
    intros
    go_enter Tryz.func30, Tryz.ntmps30
    go_upto_region 0 with fail
    refine wp_region_held_drew (S := Sx w0 g G I os p) (by kernel_rfl) R0.out.drew.x (fun hHeld => ?_)
    replace R0 := Lib.hid R0.out.drew
    repeat refine tkr ?_
    refine wpAnyH_done (by kernel_rfl) ?_ _
    refine R0.out.opn ?_
    clear hHeld
    intros
    go_wp2_with (first
        | (go_at_call 80; refine nx (RO.out _ hout) fun w1 R1 => R1.out.opn ?_; intros)
        | (go_at_call 62; refine nx (rset_c hout _ _ _) ?_; intro w1 R1)
        | (go_at_call 83; refine (radd_c u V u0.1 u0.2 V0.1 V0.2 _).mono ?_; rintro e wx ⟨rfl, rfl⟩))
    first | go_end0 | refine bodyPost_ret (results_none rfl _ _ _) rfl ?_
    exact ⟨rfl, gd_ar hout (fun h => by rw [← HU.out, h]; rfl) (fun h => by unfold arO; rw [if_neg (by decide), if_pos h])⟩
set_option maxRecDepth 1000000 in
set_option maxHeartbeats 8000000 in
theorem rar_27 (h : RS w0 w g G I os os p p 0 bs ks) (ho : I.op = 27 ∨ I.op = 91 ∨ I.op = 75) : Calls Tryz.prog 30 #[.pointer (some ⟨g, 0, none⟩)] w fun e w' => e = .returned (.tuple #[]) ∧ Gd w0 w' g G I os p ks (arO ⟨os, p.key, p.il, p.cc, p.pg, p.ad, bs, ks⟩ I.op I.n (oC 0 I os bs ks p.key) (oV 0 I os bs ks p.key)) := by
  obtain ⟨u, hu⟩ : ∃ u, os.getD I.n 0 = u := ⟨_, rfl⟩
  obtain ⟨v, hv⟩ : ∃ v, os.getD I.k 0 = v := ⟨_, rfl⟩
  have u0 := getD_in h.ro I.n
  have v0 := getD_in h.ro I.k
  rw [hu] at u0
  rw [hv] at v0
  obtain ⟨V, hV⟩ : ∃ V, oV 0 I os bs ks p.key = V := ⟨_, rfl⟩
  obtain ⟨cV, hcV⟩ : ∃ e, oC 0 I os bs ks p.key = e := ⟨_, rfl⟩
  have V0 := oV_in (c := 0) (key := p.key) (I := I) (ks := ks) h.ro h.st.rb
  rw [hV] at V0 ⊢
  rw [hcV]
  have RO := Lib.hid (fun W (hW : RS w0 W g G I os os p p 0 bs ks) => show Calls Tryz.prog 80 #[.pointer (some ⟨g, 0, none⟩)] W fun e w' => e = .returned (.int .u32 V) ∧ RS w0 w' g G I os os p p cV bs ks from by have := roperand_c hW; rw [hV, hcV] at this; exact this)
  clear hV hcV
  rcases ho with ho | ho | ho
  all_goals
    rw [ho]
    have HU := Lib.hid hu
    have HV := Lib.hid hv
    have HO := Lib.hid ho
    have R0 := Lib.hid h
    clear hu hv ho h
    refine R0.out.opn ?_
    intros
    go_enter Tryz.func30, Tryz.ntmps30
    go_upto_region 0 with fail
    refine wp_region_held_drew (S := Sx w0 g G I os p) (by kernel_rfl) R0.out.drew.x (fun hHeld => ?_)
    replace R0 := Lib.hid R0.out.drew
    repeat refine tkr ?_
    refine wpAnyH_done (by kernel_rfl) ?_ _
    refine R0.out.opn ?_
    clear hHeld
    intros
    go_wp2_with (first
        | (go_at_call 80; refine nx (RO.out _ hout) fun w1 R1 => R1.out.opn ?_; intros)
        | (go_at_call 62; refine nx (rset_c hout _ _ _) ?_; intro w1 R1)
        | (go_at_call 84; refine (rsub_c u V u0.1 u0.2 V0.1 V0.2 _).mono ?_; rintro e wx ⟨rfl, rfl⟩))
    first | go_end0 | refine bodyPost_ret (results_none rfl _ _ _) rfl ?_
    exact ⟨rfl, gd_ar hout (fun h => by rw [← HU.out, h]; rfl) (fun h => by unfold arO; rw [if_neg (by decide), if_pos h])⟩
set_option maxRecDepth 1000000 in
set_option maxHeartbeats 8000000 in
theorem rar_30 (h : RS w0 w g G I os os p p 0 bs ks) (ho : I.op = 30 ∨ I.op = 94) : Calls Tryz.prog 30 #[.pointer (some ⟨g, 0, none⟩)] w fun e w' => e = .returned (.tuple #[]) ∧ Gd w0 w' g G I os p ks (arO ⟨os, p.key, p.il, p.cc, p.pg, p.ad, bs, ks⟩ I.op I.n (oC 0 I os bs ks p.key) (oV 0 I os bs ks p.key)) := by
  obtain ⟨u, hu⟩ : ∃ u, os.getD I.n 0 = u := ⟨_, rfl⟩
  obtain ⟨v, hv⟩ : ∃ v, os.getD I.k 0 = v := ⟨_, rfl⟩
  have u0 := getD_in h.ro I.n
  have v0 := getD_in h.ro I.k
  rw [hu] at u0
  rw [hv] at v0
  obtain ⟨V, hV⟩ : ∃ V, oV 0 I os bs ks p.key = V := ⟨_, rfl⟩
  obtain ⟨cV, hcV⟩ : ∃ e, oC 0 I os bs ks p.key = e := ⟨_, rfl⟩
  have V0 := oV_in (c := 0) (key := p.key) (I := I) (ks := ks) h.ro h.st.rb
  rw [hV] at V0 ⊢
  rw [hcV]
  have RO := Lib.hid (fun W (hW : RS w0 W g G I os os p p 0 bs ks) => show Calls Tryz.prog 80 #[.pointer (some ⟨g, 0, none⟩)] W fun e w' => e = .returned (.int .u32 V) ∧ RS w0 w' g G I os os p p cV bs ks from by have := roperand_c hW; rw [hV, hcV] at this; exact this)
  clear hV hcV
  rcases ho with ho | ho
  all_goals
    rw [ho]
    have HU := Lib.hid hu
    have HV := Lib.hid hv
    have HO := Lib.hid ho
    have R0 := Lib.hid h
    clear hu hv ho h
    refine R0.out.opn ?_
    intros
    go_enter Tryz.func30, Tryz.ntmps30
    go_upto_region 0 with fail
    refine wp_region_held_drew (S := Sx w0 g G I os p) (by kernel_rfl) R0.out.drew.x (fun hHeld => ?_)
    replace R0 := Lib.hid R0.out.drew
    repeat refine tkr ?_
    refine wpAnyH_done (by kernel_rfl) ?_ _
    refine R0.out.opn ?_
    clear hHeld
    intros
    go_wp2_with (first
        | (go_at_call 80; refine nx (RO.out _ hout) fun w1 R1 => R1.out.opn ?_; intros)
        | (go_at_call 62; refine nx (rset_c hout _ _ _) ?_; intro w1 R1)
        | (go_at_call 85; refine (raddl_c u V u0.1 u0.2 V0.1 V0.2 _).mono ?_; rintro e wx ⟨rfl, rfl⟩))
    first | go_end0 | refine bodyPost_ret (results_none rfl _ _ _) rfl ?_
    exact ⟨rfl, gd_ar hout (fun h => by rw [← HU.out, h]; rfl) (fun h => by unfold arO; rw [if_neg (by decide), if_pos h])⟩
set_option maxRecDepth 1000000 in
set_option maxHeartbeats 8000000 in
theorem rar_31 (h : RS w0 w g G I os os p p 0 bs ks) (ho : I.op = 31 ∨ I.op = 95) : Calls Tryz.prog 30 #[.pointer (some ⟨g, 0, none⟩)] w fun e w' => e = .returned (.tuple #[]) ∧ Gd w0 w' g G I os p ks (arO ⟨os, p.key, p.il, p.cc, p.pg, p.ad, bs, ks⟩ I.op I.n (oC 0 I os bs ks p.key) (oV 0 I os bs ks p.key)) := by
  obtain ⟨u, hu⟩ : ∃ u, os.getD I.n 0 = u := ⟨_, rfl⟩
  obtain ⟨v, hv⟩ : ∃ v, os.getD I.k 0 = v := ⟨_, rfl⟩
  have u0 := getD_in h.ro I.n
  have v0 := getD_in h.ro I.k
  rw [hu] at u0
  rw [hv] at v0
  obtain ⟨V, hV⟩ : ∃ V, oV 0 I os bs ks p.key = V := ⟨_, rfl⟩
  obtain ⟨cV, hcV⟩ : ∃ e, oC 0 I os bs ks p.key = e := ⟨_, rfl⟩
  have V0 := oV_in (c := 0) (key := p.key) (I := I) (ks := ks) h.ro h.st.rb
  rw [hV] at V0 ⊢
  rw [hcV]
  have RO := Lib.hid (fun W (hW : RS w0 W g G I os os p p 0 bs ks) => show Calls Tryz.prog 80 #[.pointer (some ⟨g, 0, none⟩)] W fun e w' => e = .returned (.int .u32 V) ∧ RS w0 w' g G I os os p p cV bs ks from by have := roperand_c hW; rw [hV, hcV] at this; exact this)
  clear hV hcV
  rcases ho with ho | ho
  all_goals
    rw [ho]
    have HU := Lib.hid hu
    have HV := Lib.hid hv
    have HO := Lib.hid ho
    have R0 := Lib.hid h
    clear hu hv ho h
    refine R0.out.opn ?_
    intros
    go_enter Tryz.func30, Tryz.ntmps30
    go_upto_region 0 with fail
    refine wp_region_held_drew (S := Sx w0 g G I os p) (by kernel_rfl) R0.out.drew.x (fun hHeld => ?_)
    replace R0 := Lib.hid R0.out.drew
    repeat refine tkr ?_
    refine wpAnyH_done (by kernel_rfl) ?_ _
    refine R0.out.opn ?_
    clear hHeld
    intros
    go_wp2_with (first
        | (go_at_call 80; refine nx (RO.out _ hout) fun w1 R1 => R1.out.opn ?_; intros)
        | (go_at_call 62; refine nx (rset_c hout _ _ _) ?_; intro w1 R1)
        | (go_at_call 86; refine (rsubl_c u V u0.1 u0.2 V0.1 V0.2 _).mono ?_; rintro e wx ⟨rfl, rfl⟩))
    first | go_end0 | refine bodyPost_ret (results_none rfl _ _ _) rfl ?_
    exact ⟨rfl, gd_ar hout (fun h => by rw [← HU.out, h]; rfl) (fun h => by unfold arO; rw [if_neg (by decide), if_pos h])⟩
end
end Go.Proofs.YthjdjbipfdigeaaGreat

namespace Go.Proofs.YthjdjbipfdigeaaGreat
open Go.RowKit
set_option maxRecDepth 100000
set_option linter.unusedVariables false
set_option linter.unusedSimpArgs false
section
variable {w0 w : World} {g : Nat} {G : Foot} {I : In} {os rs : List Int} {p q : Ps} {c : Int} {bs ks : List Int}
set_option maxRecDepth 1000000 in
set_option maxHeartbeats 8000000 in
theorem rar_25 (h : RS w0 w g G I os os p p 0 bs ks) (ho : I.op = 25 ∨ I.op = 89 ∨ I.op = 73) : Calls Tryz.prog 30 #[.pointer (some ⟨g, 0, none⟩)] w fun e w' => e = .returned (.tuple #[]) ∧ Gd w0 w' g G I os p ks (arO ⟨os, p.key, p.il, p.cc, p.pg, p.ad, bs, ks⟩ I.op I.n (oC 0 I os bs ks p.key) (oV 0 I os bs ks p.key)) := by
  obtain ⟨u, hu⟩ : ∃ u, os.getD I.n 0 = u := ⟨_, rfl⟩
  obtain ⟨v, hv⟩ : ∃ v, os.getD I.k 0 = v := ⟨_, rfl⟩
  have u0 := getD_in h.ro I.n
  have v0 := getD_in h.ro I.k
  rw [hu] at u0
  rw [hv] at v0
  obtain ⟨V, hV⟩ : ∃ V, oV 0 I os bs ks p.key = V := ⟨_, rfl⟩
  obtain ⟨cV, hcV⟩ : ∃ e, oC 0 I os bs ks p.key = e := ⟨_, rfl⟩
  have V0 := oV_in (c := 0) (key := p.key) (I := I) (ks := ks) h.ro h.st.rb
  rw [hV] at V0 ⊢
  rw [hcV]
  have RO := Lib.hid (fun W (hW : RS w0 W g G I os os p p 0 bs ks) => show Calls Tryz.prog 80 #[.pointer (some ⟨g, 0, none⟩)] W fun e w' => e = .returned (.int .u32 V) ∧ RS w0 w' g G I os os p p cV bs ks from by have := roperand_c hW; rw [hV, hcV] at this; exact this)
  clear hV hcV
  rcases ho with ho | ho | ho
  all_goals
    rw [ho]
    have HU := Lib.hid hu
    have HV := Lib.hid hv
    have HO := Lib.hid ho
    have R0 := Lib.hid h
    clear hu hv ho h
    refine R0.out.opn ?_
    intros
    go_enter Tryz.func30, Tryz.ntmps30
    go_upto_region 0 with fail
    refine wp_region_held_drew (S := Sx w0 g G I os p) (by kernel_rfl) R0.out.drew.x (fun hHeld => ?_)
    replace R0 := Lib.hid R0.out.drew
    repeat refine tkr ?_
    refine wpAnyH_done (by kernel_rfl) ?_ _
    refine R0.out.opn ?_
    clear hHeld
    intros
    go_wp2_with (first
        | (go_at_call 80; refine nx (RO.out _ hout) fun w1 R1 => R1.out.opn ?_; intros)
        | (go_at_call 56; refine (rcompare_c u V u0.1 u0.2 V0.1 V0.2 _).mono ?_; rintro e wx ⟨rfl, rfl⟩))
    first | go_end0 | refine bodyPost_ret (results_none rfl _ _ _) rfl ?_
    exact ⟨rfl, gd_ar (by rw [svC_f]; exact RS.setcc hout _) (fun h => by rw [← HU.out, h]; rfl) (fun h => by unfold arO; rw [if_neg (by decide), if_pos h])⟩
set_option maxRecDepth 1000000 in
set_option maxHeartbeats 8000000 in
theorem rar_21 (h : RS w0 w g G I os os p p 0 bs ks) (ho : I.op = 21 ∨ I.op = 85) : Calls Tryz.prog 30 #[.pointer (some ⟨g, 0, none⟩)] w fun e w' => e = .returned (.tuple #[]) ∧ Gd w0 w' g G I os p ks (arO ⟨os, p.key, p.il, p.cc, p.pg, p.ad, bs, ks⟩ I.op I.n (oC 0 I os bs ks p.key) (oV 0 I os bs ks p.key)) := by
  obtain ⟨u, hu⟩ : ∃ u, os.getD I.n 0 = u := ⟨_, rfl⟩
  obtain ⟨v, hv⟩ : ∃ v, os.getD I.k 0 = v := ⟨_, rfl⟩
  have u0 := getD_in h.ro I.n
  have v0 := getD_in h.ro I.k
  rw [hu] at u0
  rw [hv] at v0
  obtain ⟨V, hV⟩ : ∃ V, oV 0 I os bs ks p.key = V := ⟨_, rfl⟩
  obtain ⟨cV, hcV⟩ : ∃ e, oC 0 I os bs ks p.key = e := ⟨_, rfl⟩
  have V0 := oV_in (c := 0) (key := p.key) (I := I) (ks := ks) h.ro h.st.rb
  rw [hV] at V0 ⊢
  rw [hcV]
  have RO := Lib.hid (fun W (hW : RS w0 W g G I os os p p 0 bs ks) => show Calls Tryz.prog 80 #[.pointer (some ⟨g, 0, none⟩)] W fun e w' => e = .returned (.int .u32 V) ∧ RS w0 w' g G I os os p p cV bs ks from by have := roperand_c hW; rw [hV, hcV] at this; exact this)
  clear hV hcV
  rcases ho with ho | ho
  all_goals
    rw [ho]
    have HU := Lib.hid hu
    have HV := Lib.hid hv
    have HO := Lib.hid ho
    have R0 := Lib.hid h
    clear hu hv ho h
    refine R0.out.opn ?_
    intros
    go_enter Tryz.func30, Tryz.ntmps30
    go_upto_region 0 with fail
    refine wp_region_held_drew (S := Sx w0 g G I os p) (by kernel_rfl) R0.out.drew.x (fun hHeld => ?_)
    replace R0 := Lib.hid R0.out.drew
    repeat refine tkr ?_
    refine wpAnyH_done (by kernel_rfl) ?_ _
    refine R0.out.opn ?_
    clear hHeld
    intros
    go_wp2_with (first
        | (go_at_call 80; refine nx (RO.out _ hout) fun w1 R1 => R1.out.opn ?_; intros)
        | (go_at_call 71; refine (rcomparel_c u V u0.1 u0.2 V0.1 V0.2 _).mono ?_; rintro e wx ⟨rfl, rfl⟩))
    first | go_end0 | refine bodyPost_ret (results_none rfl _ _ _) rfl ?_
    exact ⟨rfl, gd_ar (by rw [svC_f]; exact RS.setcc hout _) (fun h => by rw [← HU.out, h]; rfl) (fun h => by unfold arO; rw [if_neg (by decide), if_pos h])⟩
set_option maxRecDepth 1000000 in
set_option maxHeartbeats 8000000 in
theorem rar_20 (h : RS w0 w g G I os os p p 0 bs ks) (ho : I.op = 20 ∨ I.op = 84) : Calls Tryz.prog 30 #[.pointer (some ⟨g, 0, none⟩)] w fun e w' => e = .returned (.tuple #[]) ∧ Gd w0 w' g G I os p ks (arO ⟨os, p.key, p.il, p.cc, p.pg, p.ad, bs, ks⟩ I.op I.n (oC 0 I os bs ks p.key) (oV 0 I os bs ks p.key)) := by
  obtain ⟨u, hu⟩ : ∃ u, os.getD I.n 0 = u := ⟨_, rfl⟩
  obtain ⟨v, hv⟩ : ∃ v, os.getD I.k 0 = v := ⟨_, rfl⟩
  have u0 := getD_in h.ro I.n
  have v0 := getD_in h.ro I.k
  rw [hu] at u0
  rw [hv] at v0
  obtain ⟨V, hV⟩ : ∃ V, oV 0 I os bs ks p.key = V := ⟨_, rfl⟩
  obtain ⟨cV, hcV⟩ : ∃ e, oC 0 I os bs ks p.key = e := ⟨_, rfl⟩
  have V0 := oV_in (c := 0) (key := p.key) (I := I) (ks := ks) h.ro h.st.rb
  rw [hV] at V0 ⊢
  rw [hcV]
  have RO := Lib.hid (fun W (hW : RS w0 W g G I os os p p 0 bs ks) => show Calls Tryz.prog 80 #[.pointer (some ⟨g, 0, none⟩)] W fun e w' => e = .returned (.int .u32 V) ∧ RS w0 w' g G I os os p p cV bs ks from by have := roperand_c hW; rw [hV, hcV] at this; exact this)
  clear hV hcV
  rcases ho with ho | ho
  all_goals
    rw [ho]
    have HU := Lib.hid hu
    have HV := Lib.hid hv
    have HO := Lib.hid ho
    have R0 := Lib.hid h
    clear hu hv ho h
    refine R0.out.opn ?_
    intros
    go_enter Tryz.func30, Tryz.ntmps30
    go_upto_region 0 with fail
    refine wp_region_held_drew (S := Sx w0 g G I os p) (by kernel_rfl) R0.out.drew.x (fun hHeld => ?_)
    replace R0 := Lib.hid R0.out.drew
    repeat refine tkr ?_
    refine wpAnyH_done (by kernel_rfl) ?_ _
    refine R0.out.opn ?_
    clear hHeld
    intros
    go_wp2_with (first
        | (go_at_call 80; refine nx (RO.out _ hout) fun w1 R1 => R1.out.opn ?_; intros)
        | (go_at_call 62; refine nx (rset_c hout _ _ _) ?_; intro w1 R1)
        | (go_at_call 72; refine (rsome_c _ _).mono ?_; rintro e wx ⟨rfl, rfl⟩))
    first | go_end0 | refine bodyPost_ret (results_none rfl _ _ _) rfl ?_
    exact ⟨rfl, gd_ar hout (fun h => by rw [← HU.out, h]; rfl) (fun h => by unfold arO; rw [if_neg (by decide), if_pos h])⟩
set_option maxRecDepth 1000000 in
set_option maxHeartbeats 8000000 in
theorem rar_22 (h : RS w0 w g G I os os p p 0 bs ks) (ho : I.op = 22 ∨ I.op = 86) : Calls Tryz.prog 30 #[.pointer (some ⟨g, 0, none⟩)] w fun e w' => e = .returned (.tuple #[]) ∧ Gd w0 w' g G I os p ks (arO ⟨os, p.key, p.il, p.cc, p.pg, p.ad, bs, ks⟩ I.op I.n (oC 0 I os bs ks p.key) (oV 0 I os bs ks p.key)) := by
  obtain ⟨u, hu⟩ : ∃ u, os.getD I.n 0 = u := ⟨_, rfl⟩
  obtain ⟨v, hv⟩ : ∃ v, os.getD I.k 0 = v := ⟨_, rfl⟩
  have u0 := getD_in h.ro I.n
  have v0 := getD_in h.ro I.k
  rw [hu] at u0
  rw [hv] at v0
  obtain ⟨V, hV⟩ : ∃ V, oV 0 I os bs ks p.key = V := ⟨_, rfl⟩
  obtain ⟨cV, hcV⟩ : ∃ e, oC 0 I os bs ks p.key = e := ⟨_, rfl⟩
  have V0 := oV_in (c := 0) (key := p.key) (I := I) (ks := ks) h.ro h.st.rb
  rw [hV] at V0 ⊢
  rw [hcV]
  have RO := Lib.hid (fun W (hW : RS w0 W g G I os os p p 0 bs ks) => show Calls Tryz.prog 80 #[.pointer (some ⟨g, 0, none⟩)] W fun e w' => e = .returned (.int .u32 V) ∧ RS w0 w' g G I os os p p cV bs ks from by have := roperand_c hW; rw [hV, hcV] at this; exact this)
  clear hV hcV
  rcases ho with ho | ho
  all_goals
    rw [ho]
    have HU := Lib.hid hu
    have HV := Lib.hid hv
    have HO := Lib.hid ho
    have R0 := Lib.hid h
    clear hu hv ho h
    refine R0.out.opn ?_
    intros
    go_enter Tryz.func30, Tryz.ntmps30
    go_upto_region 0 with fail
    refine wp_region_held_drew (S := Sx w0 g G I os p) (by kernel_rfl) R0.out.drew.x (fun hHeld => ?_)
    replace R0 := Lib.hid R0.out.drew
    repeat refine tkr ?_
    refine wpAnyH_done (by kernel_rfl) ?_ _
    refine R0.out.opn ?_
    clear hHeld
    intros
    go_wp2_with (first
        | (go_at_call 80; refine nx (RO.out _ hout) fun w1 R1 => R1.out.opn ?_; intros)
        | (go_at_call 62; refine nx (rset_c hout _ _ _) ?_; intro w1 R1)
        | (go_at_call 72; refine (rsome_c _ _).mono ?_; rintro e wx ⟨rfl, rfl⟩))
    first | go_end0 | refine bodyPost_ret (results_none rfl _ _ _) rfl ?_
    exact ⟨rfl, gd_ar hout (fun h => by rw [← HU.out, h]; rfl) (fun h => by unfold arO; rw [if_neg (by decide), if_pos h])⟩
set_option maxRecDepth 1000000 in
set_option maxHeartbeats 8000000 in
theorem rar_23 (h : RS w0 w g G I os os p p 0 bs ks) (ho : I.op = 23 ∨ I.op = 87) : Calls Tryz.prog 30 #[.pointer (some ⟨g, 0, none⟩)] w fun e w' => e = .returned (.tuple #[]) ∧ Gd w0 w' g G I os p ks (arO ⟨os, p.key, p.il, p.cc, p.pg, p.ad, bs, ks⟩ I.op I.n (oC 0 I os bs ks p.key) (oV 0 I os bs ks p.key)) := by
  obtain ⟨u, hu⟩ : ∃ u, os.getD I.n 0 = u := ⟨_, rfl⟩
  obtain ⟨v, hv⟩ : ∃ v, os.getD I.k 0 = v := ⟨_, rfl⟩
  have u0 := getD_in h.ro I.n
  have v0 := getD_in h.ro I.k
  rw [hu] at u0
  rw [hv] at v0
  obtain ⟨V, hV⟩ : ∃ V, oV 0 I os bs ks p.key = V := ⟨_, rfl⟩
  obtain ⟨cV, hcV⟩ : ∃ e, oC 0 I os bs ks p.key = e := ⟨_, rfl⟩
  have V0 := oV_in (c := 0) (key := p.key) (I := I) (ks := ks) h.ro h.st.rb
  rw [hV] at V0 ⊢
  rw [hcV]
  have RO := Lib.hid (fun W (hW : RS w0 W g G I os os p p 0 bs ks) => show Calls Tryz.prog 80 #[.pointer (some ⟨g, 0, none⟩)] W fun e w' => e = .returned (.int .u32 V) ∧ RS w0 w' g G I os os p p cV bs ks from by have := roperand_c hW; rw [hV, hcV] at this; exact this)
  clear hV hcV
  rcases ho with ho | ho
  all_goals
    rw [ho]
    have HU := Lib.hid hu
    have HV := Lib.hid hv
    have HO := Lib.hid ho
    have R0 := Lib.hid h
    clear hu hv ho h
    refine R0.out.opn ?_
    intros
    go_enter Tryz.func30, Tryz.ntmps30
    go_upto_region 0 with fail
    refine wp_region_held_drew (S := Sx w0 g G I os p) (by kernel_rfl) R0.out.drew.x (fun hHeld => ?_)
    replace R0 := Lib.hid R0.out.drew
    repeat refine tkr ?_
    refine wpAnyH_done (by kernel_rfl) ?_ _
    refine R0.out.opn ?_
    clear hHeld
    intros
    go_wp2_with (first
        | (go_at_call 80; refine nx (RO.out _ hout) fun w1 R1 => R1.out.opn ?_; intros)
        | (go_at_call 62; refine nx (rset_c hout _ _ _) ?_; intro w1 R1)
        | (go_at_call 72; refine (rsome_c _ _).mono ?_; rintro e wx ⟨rfl, rfl⟩))
    first | go_end0 | refine bodyPost_ret (results_none rfl _ _ _) rfl ?_
    exact ⟨rfl, gd_ar hout (fun h => by rw [← HU.out, h]; rfl) (fun h => by unfold arO; rw [if_neg (by decide), if_pos h])⟩
end
end Go.Proofs.YthjdjbipfdigeaaGreat

