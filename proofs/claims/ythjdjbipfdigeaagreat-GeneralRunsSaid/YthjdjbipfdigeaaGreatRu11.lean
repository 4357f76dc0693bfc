/- Contracts and laws on the way to the statement, text 11 of 24. Conditions: as each states them. -/
import Derived.Test.YthjdjbipfdigeaaGreatRu8
import Derived.Test.YthjdjbipfdigeaaGreatRu9
import Derived.Test.YthjdjbipfdigeaaGreatRu10
namespace Go.Proofs.YthjdjbipfdigeaaGreat
open Go.RowKit
set_option maxRecDepth 100000
set_option linter.unusedVariables false
set_option linter.unusedSimpArgs false
section
variable {w0 w w' : World} {g : Nat} {F : Foot} {I : In} {os rs : List Int} {p q : Ps} {ov : Bool} {bs ks : List Int}
set_option maxRecDepth 1000000 in
set_option maxHeartbeats 8000000 in
theorem par_26 (h : PS w0 w g F I os os p p false bs ks) (ho : (I.op = 26 ∨ I.op = 90 ∨ I.op = 74)) : Calls Tryz.prog 48 #[.pointer (some ⟨g, 0, none⟩)] w (Gp w0 g F I os p bs ks (arO ⟨os, p.key, p.il, p.cc, p.pg, p.ad, bs, ks⟩ I.op I.n (opC I.op I.fm bs ks p.key (I.a os)) (opV I.op I.fm os I.k bs (I.a os)))) := by
  have u0 := getD_in h.ro I.n
  have V0 := opV_in (op := I.op) (fm := I.fm) (a := I.a os) (k := I.k) h.ro h.st.rb
  have PO := Lib.hid (fun W (hW : PS w0 W g F I os os p p false bs ks) => popd_c hW)
  obtain ⟨u, hu⟩ : ∃ u, os.getD I.n 0 = u := ⟨_, rfl⟩
  obtain ⟨V, hV⟩ : ∃ V, opV I.op I.fm os I.k bs (I.a os) = V := ⟨_, rfl⟩
  obtain ⟨C, hC⟩ : ∃ C, opC I.op I.fm bs ks p.key (I.a os) = C := ⟨_, rfl⟩
  rw [hu] at u0
  rw [hV] at V0
  rw [hV, hC] at PO ⊢
  clear hV hC
  rcases ho with ho | ho | ho
  all_goals
    rw [ho]
    have HU := Lib.hid hu
    have HO := Lib.hid ho
    have R0 := Lib.hid h
    have hn := h.ix.n
    clear hu ho h
    refine R0.out.opn ?_
    intros
    go_enter Tryz.func48, Tryz.ntmps48
    go_upto_region 6 with fail
    refine wp_region_held_drew (S := Sy w0 g F I os p) (by kernel_rfl) R0.out.drew.x (fun hHeld => ?_)
    replace R0 := Lib.hid R0.out.drew
    repeat refine tkp ?_
    refine tkq (PO.out _ R0.out) (fun _ _ h => h.2.2.x) ?_ ?_
    rotate_left
    · intro w1 B1
      go_wp2
      exact ⟨rfl, gp_no B1.out.2 (congrArg Out.c (arO_no (by decide) B1.out.1)) B1.out.1⟩
    intro v w1 A1 hHeld
    obtain ⟨rfl, rfl, hR⟩ := A1.out
    have R1 := Lib.hid hR
    clear A1 hR R0 PO
    repeat refine tkp ?_
    refine wpAnyH_done (by kernel_rfl) ?_ _
    refine R1.out.opn ?_
    clear hHeld
    intros
    go_wp2_with (first
      | (go_at_call 127; refine nz (add_c u V u0.1 u0.2 V0.1 V0.2 _) ?_)
      | (go_at_call 98; refine nx (pset_c R1.out _ _ _) ?_; intro w1 R1))
    first | go_end0 | refine bodyPost_ret (results_none rfl _ _ _) rfl ?_
    exact gp_ok R1.out (by rw [← HU.out]; rfl)
set_option maxRecDepth 1000000 in
set_option maxHeartbeats 8000000 in
theorem par_27 (h : PS w0 w g F I os os p p false bs ks) (ho : (I.op = 27 ∨ I.op = 91 ∨ I.op = 75)) : Calls Tryz.prog 48 #[.pointer (some ⟨g, 0, none⟩)] w (Gp w0 g F I os p bs ks (arO ⟨os, p.key, p.il, p.cc, p.pg, p.ad, bs, ks⟩ I.op I.n (opC I.op I.fm bs ks p.key (I.a os)) (opV I.op I.fm os I.k bs (I.a os)))) := by
  have u0 := getD_in h.ro I.n
  have V0 := opV_in (op := I.op) (fm := I.fm) (a := I.a os) (k := I.k) h.ro h.st.rb
  have PO := Lib.hid (fun W (hW : PS w0 W g F I os os p p false bs ks) => popd_c hW)
  obtain ⟨u, hu⟩ : ∃ u, os.getD I.n 0 = u := ⟨_, rfl⟩
  obtain ⟨V, hV⟩ : ∃ V, opV I.op I.fm os I.k bs (I.a os) = V := ⟨_, rfl⟩
  obtain ⟨C, hC⟩ : ∃ C, opC I.op I.fm bs ks p.key (I.a os) = C := ⟨_, rfl⟩
  rw [hu] at u0
  rw [hV] at V0
  rw [hV, hC] at PO ⊢
  clear hV hC
  rcases ho with ho | ho | ho
  all_goals
    rw [ho]
    have HU := Lib.hid hu
    have HO := Lib.hid ho
    have R0 := Lib.hid h
    have hn := h.ix.n
    clear hu ho h
    refine R0.out.opn ?_
    intros
    go_enter Tryz.func48, Tryz.ntmps48
    go_upto_region 6 with fail
    refine wp_region_held_drew (S := Sy w0 g F I os p) (by kernel_rfl) R0.out.drew.x (fun hHeld => ?_)
    replace R0 := Lib.hid R0.out.drew
    repeat refine tkp ?_
    refine tkq (PO.out _ R0.out) (fun _ _ h => h.2.2.x) ?_ ?_
    rotate_left
    · intro w1 B1
      go_wp2
      exact ⟨rfl, gp_no B1.out.2 (congrArg Out.c (arO_no (by decide) B1.out.1)) B1.out.1⟩
    intro v w1 A1 hHeld
    obtain ⟨rfl, rfl, hR⟩ := A1.out
    have R1 := Lib.hid hR
    clear A1 hR R0 PO
    repeat refine tkp ?_
    refine wpAnyH_done (by kernel_rfl) ?_ _
    refine R1.out.opn ?_
    clear hHeld
    intros
    go_wp2_with (first
      | (go_at_call 128; refine nz (sub_c u V u0.1 u0.2 V0.1 V0.2 _) ?_)
      | (go_at_call 98; refine nx (pset_c R1.out _ _ _) ?_; intro w1 R1))
    first | go_end0 | refine bodyPost_ret (results_none rfl _ _ _) rfl ?_
    exact gp_ok R1.out (by rw [← HU.out]; rfl)
set_option maxRecDepth 1000000 in
set_option maxHeartbeats 8000000 in
theorem par_30 (h : PS w0 w g F I os os p p false bs ks) (ho : (I.op = 30 ∨ I.op = 94)) : Calls Tryz.prog 48 #[.pointer (some ⟨g, 0, none⟩)] w (Gp w0 g F I os p bs ks (arO ⟨os, p.key, p.il, p.cc, p.pg, p.ad, bs, ks⟩ I.op I.n (opC I.op I.fm bs ks p.key (I.a os)) (opV I.op I.fm os I.k bs (I.a os)))) := by
  have u0 := getD_in h.ro I.n
  have V0 := opV_in (op := I.op) (fm := I.fm) (a := I.a os) (k := I.k) h.ro h.st.rb
  have PO := Lib.hid (fun W (hW : PS w0 W g F I os os p p false bs ks) => popd_c hW)
  obtain ⟨u, hu⟩ : ∃ u, os.getD I.n 0 = u := ⟨_, rfl⟩
  obtain ⟨V, hV⟩ : ∃ V, opV I.op I.fm os I.k bs (I.a os) = V := ⟨_, rfl⟩
  obtain ⟨C, hC⟩ : ∃ C, opC I.op I.fm bs ks p.key (I.a os) = C := ⟨_, rfl⟩
  rw [hu] at u0
  rw [hV] at V0
  rw [hV, hC] at PO ⊢
  clear hV hC
  rcases ho with ho | ho
  all_goals
    rw [ho]
    have HU := Lib.hid hu
    have HO := Lib.hid ho
    have R0 := Lib.hid h
    have hn := h.ix.n
    clear hu ho h
    refine R0.out.opn ?_
    intros
    go_enter Tryz.func48, Tryz.ntmps48
    go_upto_region 6 with fail
    refine wp_region_held_drew (S := Sy w0 g F I os p) (by kernel_rfl) R0.out.drew.x (fun hHeld => ?_)
    replace R0 := Lib.hid R0.out.drew
    repeat refine tkp ?_
    refine tkq (PO.out _ R0.out) (fun _ _ h => h.2.2.x) ?_ ?_
    rotate_left
    · intro w1 B1
      go_wp2
      exact ⟨rfl, gp_no B1.out.2 (congrArg Out.c (arO_no (by decide) B1.out.1)) B1.out.1⟩
    intro v w1 A1 hHeld
    obtain ⟨rfl, rfl, hR⟩ := A1.out
    have R1 := Lib.hid hR
    clear A1 hR R0 PO
    repeat refine tkp ?_
    refine wpAnyH_done (by kernel_rfl) ?_ _
    refine R1.out.opn ?_
    clear hHeld
    intros
    go_upto_region 27 with fail
    refine wp_region_held_drew (S := Sy w0 g F I os p) (by kernel_rfl) R1.out.drew.x (fun hHeld => ?_)
    replace R1 := Lib.hid R1.out.drew
    repeat refine tkp ?_
    refine tkz (addl_c u V u0.1 u0.2 V0.1 V0.2 _) ?_
    repeat refine tkp ?_
    refine tpr R1.out hn ?_
    clear R1 hHeld
    intro w2 R1 hHeld
    repeat refine tkp ?_
    refine tpc R1.out ?_
    clear R1 hHeld
    intro w3 R1 hHeld
    refine wpAnyH_done (by with_unfolding_all rfl) ?_ _
    clear hHeld
    go_wp2
    first | go_end0 | refine bodyPost_ret (results_none rfl _ _ _) rfl ?_
    exact gp_ok R1.out (by rw [← HU.out]; rfl)
set_option maxRecDepth 1000000 in
set_option maxHeartbeats 8000000 in
theorem par_31 (h : PS w0 w g F I os os p p false bs ks) (ho : (I.op = 31 ∨ I.op = 95)) : Calls Tryz.prog 48 #[.pointer (some ⟨g, 0, none⟩)] w (Gp w0 g F I os p bs ks (arO ⟨os, p.key, p.il, p.cc, p.pg, p.ad, bs, ks⟩ I.op I.n (opC I.op I.fm bs ks p.key (I.a os)) (opV I.op I.fm os I.k bs (I.a os)))) := by
  have u0 := getD_in h.ro I.n
  have V0 := opV_in (op := I.op) (fm := I.fm) (a := I.a os) (k := I.k) h.ro h.st.rb
  have PO := Lib.hid (fun W (hW : PS w0 W g F I os os p p false bs ks) => popd_c hW)
  obtain ⟨u, hu⟩ : ∃ u, os.getD I.n 0 = u := ⟨_, rfl⟩
  obtain ⟨V, hV⟩ : ∃ V, opV I.op I.fm os I.k bs (I.a os) = V := ⟨_, rfl⟩
  obtain ⟨C, hC⟩ : ∃ C, opC I.op I.fm bs ks p.key (I.a os) = C := ⟨_, rfl⟩
  rw [hu] at u0
  rw [hV] at V0
  rw [hV, hC] at PO ⊢
  clear hV hC
  rcases ho with ho | ho
  all_goals
    rw [ho]
    have HU := Lib.hid hu
    have HO := Lib.hid ho
    have R0 := Lib.hid h
    have hn := h.ix.n
    clear hu ho h
    refine R0.out.opn ?_
    intros
    go_enter Tryz.func48, Tryz.ntmps48
    go_upto_region 6 with fail
    refine wp_region_held_drew (S := Sy w0 g F I os p) (by kernel_rfl) R0.out.drew.x (fun hHeld => ?_)
    replace R0 := Lib.hid R0.out.drew
    repeat refine tkp ?_
    refine tkq (PO.out _ R0.out) (fun _ _ h => h.2.2.x) ?_ ?_
    rotate_left
    · intro w1 B1
      go_wp2
      exact ⟨rfl, gp_no B1.out.2 (congrArg Out.c (arO_no (by decide) B1.out.1)) B1.out.1⟩
    intro v w1 A1 hHeld
    obtain ⟨rfl, rfl, hR⟩ := A1.out
    have R1 := Lib.hid hR
    clear A1 hR R0 PO
    repeat refine tkp ?_
    refine wpAnyH_done (by kernel_rfl) ?_ _
    refine R1.out.opn ?_
    clear hHeld
    intros
    go_upto_region 30 with fail
    refine wp_region_held_drew (S := Sy w0 g F I os p) (by kernel_rfl) R1.out.drew.x (fun hHeld => ?_)
    replace R1 := Lib.hid R1.out.drew
    repeat refine tkp ?_
    refine tkz (subl_c u V u0.1 u0.2 V0.1 V0.2 _) ?_
    repeat refine tkp ?_
    refine tpr R1.out hn ?_
    clear R1 hHeld
    intro w2 R1 hHeld
    repeat refine tkp ?_
    refine tpc R1.out ?_
    clear R1 hHeld
    intro w3 R1 hHeld
    refine wpAnyH_done (by with_unfolding_all rfl) ?_ _
    clear hHeld
    go_wp2
    first | go_end0 | refine bodyPost_ret (results_none rfl _ _ _) rfl ?_
    exact gp_ok R1.out (by rw [← HU.out]; rfl)
set_option maxRecDepth 1000000 in
set_option maxHeartbeats 8000000 in
theorem par_25 (h : PS w0 w g F I os os p p false bs ks) (ho : (I.op = 25 ∨ I.op = 89 ∨ I.op = 73)) : Calls Tryz.prog 48 #[.pointer (some ⟨g, 0, none⟩)] w (Gp w0 g F I os p bs ks (arO ⟨os, p.key, p.il, p.cc, p.pg, p.ad, bs, ks⟩ I.op I.n (opC I.op I.fm bs ks p.key (I.a os)) (opV I.op I.fm os I.k bs (I.a os)))) := by
  have u0 := getD_in h.ro I.n
  have V0 := opV_in (op := I.op) (fm := I.fm) (a := I.a os) (k := I.k) h.ro h.st.rb
  have PO := Lib.hid (fun W (hW : PS w0 W g F I os os p p false bs ks) => popd_c hW)
  obtain ⟨u, hu⟩ : ∃ u, os.getD I.n 0 = u := ⟨_, rfl⟩
  obtain ⟨V, hV⟩ : ∃ V, opV I.op I.fm os I.k bs (I.a os) = V := ⟨_, rfl⟩
  obtain ⟨C, hC⟩ : ∃ C, opC I.op I.fm bs ks p.key (I.a os) = C := ⟨_, rfl⟩
  rw [hu] at u0
  rw [hV] at V0
  rw [hV, hC] at PO ⊢
  clear hV hC
  rcases ho with ho | ho | ho
  all_goals
    rw [ho]
    have HU := Lib.hid hu
    have HO := Lib.hid ho
    have R0 := Lib.hid h
    have hn := h.ix.n
    clear hu ho h
    refine R0.out.opn ?_
    intros
    go_enter Tryz.func48, Tryz.ntmps48
    go_upto_region 6 with fail
    refine wp_region_held_drew (S := Sy w0 g F I os p) (by kernel_rfl) R0.out.drew.x (fun hHeld => ?_)
    replace R0 := Lib.hid R0.out.drew
    repeat refine tkp ?_
    refine tkq (PO.out _ R0.out) (fun _ _ h => h.2.2.x) ?_ ?_
    rotate_left
    · intro w1 B1
      go_wp2
      exact ⟨rfl, gp_no B1.out.2 (congrArg Out.c (arO_no (by decide) B1.out.1)) B1.out.1⟩
    intro v w1 A1 hHeld
    obtain ⟨rfl, rfl, hR⟩ := A1.out
    have R1 := Lib.hid hR
    clear A1 hR R0 PO
    repeat refine tkp ?_
    refine wpAnyH_done (by kernel_rfl) ?_ _
    refine R1.out.opn ?_
    clear hHeld
    intros
    go_wp2_with (first
      | (go_at_call 95; refine nz (compare_c u V u0.1 u0.2 V0.1 V0.2 _) ?_))
    first | go_end0 | refine bodyPost_ret (results_none rfl _ _ _) rfl ?_
    exact gp_ok (R1.out.setcc _) (by rw [← HU.out]; rfl)
set_option maxRecDepth 1000000 in
set_option maxHeartbeats 8000000 in
theorem par_21 (h : PS w0 w g F I os os p p false bs ks) (ho : (I.op = 21 ∨ I.op = 85)) : Calls Tryz.prog 48 #[.pointer (some ⟨g, 0, none⟩)] w (Gp w0 g F I os p bs ks (arO ⟨os, p.key, p.il, p.cc, p.pg, p.ad, bs, ks⟩ I.op I.n (opC I.op I.fm bs ks p.key (I.a os)) (opV I.op I.fm os I.k bs (I.a os)))) := by
  have u0 := getD_in h.ro I.n
  have V0 := opV_in (op := I.op) (fm := I.fm) (a := I.a os) (k := I.k) h.ro h.st.rb
  have PO := Lib.hid (fun W (hW : PS w0 W g F I os os p p false bs ks) => popd_c hW)
  obtain ⟨u, hu⟩ : ∃ u, os.getD I.n 0 = u := ⟨_, rfl⟩
  obtain ⟨V, hV⟩ : ∃ V, opV I.op I.fm os I.k bs (I.a os) = V := ⟨_, rfl⟩
  obtain ⟨C, hC⟩ : ∃ C, opC I.op I.fm bs ks p.key (I.a os) = C := ⟨_, rfl⟩
  rw [hu] at u0
  rw [hV] at V0
  rw [hV, hC] at PO ⊢
  clear hV hC
  rcases ho with ho | ho
  all_goals
    rw [ho]
    have HU := Lib.hid hu
    have HO := Lib.hid ho
    have R0 := Lib.hid h
    have hn := h.ix.n
    clear hu ho h
    refine R0.out.opn ?_
    intros
    go_enter Tryz.func48, Tryz.ntmps48
    go_upto_region 6 with fail
    refine wp_region_held_drew (S := Sy w0 g F I os p) (by kernel_rfl) R0.out.drew.x (fun hHeld => ?_)
    replace R0 := Lib.hid R0.out.drew
    repeat refine tkp ?_
    refine tkq (PO.out _ R0.out) (fun _ _ h => h.2.2.x) ?_ ?_
    rotate_left
    · intro w1 B1
      go_wp2
      exact ⟨rfl, gp_no B1.out.2 (congrArg Out.c (arO_no (by decide) B1.out.1)) B1.out.1⟩
    intro v w1 A1 hHeld
    obtain ⟨rfl, rfl, hR⟩ := A1.out
    have R1 := Lib.hid hR
    clear A1 hR R0 PO
    repeat refine tkp ?_
    refine wpAnyH_done (by kernel_rfl) ?_ _
    refine R1.out.opn ?_
    clear hHeld
    intros
    go_wp2_with (first
      | (go_at_call 113; refine nz (comparel_c u V u0.1 u0.2 V0.1 V0.2 _) ?_))
    first | go_end0 | refine bodyPost_ret (results_none rfl _ _ _) rfl ?_
    exact gp_ok (R1.out.setcc _) (by rw [← HU.out]; rfl)
set_option maxRecDepth 1000000 in
set_option maxHeartbeats 8000000 in
theorem par_20 (h : PS w0 w g F I os os p p false bs ks) (ho : (I.op = 20 ∨ I.op = 84)) : Calls Tryz.prog 48 #[.pointer (some ⟨g, 0, none⟩)] w (Gp w0 g F I os p bs ks (arO ⟨os, p.key, p.il, p.cc, p.pg, p.ad, bs, ks⟩ I.op I.n (opC I.op I.fm bs ks p.key (I.a os)) (opV I.op I.fm os I.k bs (I.a os)))) := by
  have u0 := getD_in h.ro I.n
  have V0 := opV_in (op := I.op) (fm := I.fm) (a := I.a os) (k := I.k) h.ro h.st.rb
  have PO := Lib.hid (fun W (hW : PS w0 W g F I os os p p false bs ks) => popd_c hW)
  obtain ⟨u, hu⟩ : ∃ u, os.getD I.n 0 = u := ⟨_, rfl⟩
  obtain ⟨V, hV⟩ : ∃ V, opV I.op I.fm os I.k bs (I.a os) = V := ⟨_, rfl⟩
  obtain ⟨C, hC⟩ : ∃ C, opC I.op I.fm bs ks p.key (I.a os) = C := ⟨_, rfl⟩
  rw [hu] at u0
  rw [hV] at V0
  rw [hV, hC] at PO ⊢
  clear hV hC
  rcases ho with ho | ho
  all_goals
    rw [ho]
    have HU := Lib.hid hu
    have HO := Lib.hid ho
    have R0 := Lib.hid h
    have hn := h.ix.n
    clear hu ho h
    refine R0.out.opn ?_
    intros
    go_enter Tryz.func48, Tryz.ntmps48
    go_upto_region 6 with fail
    refine wp_region_held_drew (S := Sy w0 g F I os p) (by kernel_rfl) R0.out.drew.x (fun hHeld => ?_)
    replace R0 := Lib.hid R0.out.drew
    repeat refine tkp ?_
    refine tkq (PO.out _ R0.out) (fun _ _ h => h.2.2.x) ?_ ?_
    rotate_left
    · intro w1 B1
      go_wp2
      exact ⟨rfl, gp_no B1.out.2 (congrArg Out.c (arO_no (by decide) B1.out.1)) B1.out.1⟩
    intro v w1 A1 hHeld
    obtain ⟨rfl, rfl, hR⟩ := A1.out
    have R1 := Lib.hid hR
    clear A1 hR R0 PO
    repeat refine tkp ?_
    refine wpAnyH_done (by kernel_rfl) ?_ _
    refine R1.out.opn ?_
    clear hHeld
    intros
    go_wp2_with (first
      | (go_at_call 131; refine nx (pbits_c R1.out _) ?_; intro w1 R1))
    first | go_end0 | refine bodyPost_ret (results_none rfl _ _ _) rfl ?_
    exact gp_ok R1.out (by rw [← HU.out]; rfl)
set_option maxRecDepth 1000000 in
set_option maxHeartbeats 8000000 in
theorem par_22 (h : PS w0 w g F I os os p p false bs ks) (ho : (I.op = 22 ∨ I.op = 86)) : Calls Tryz.prog 48 #[.pointer (some ⟨g, 0, none⟩)] w (Gp w0 g F I os p bs ks (arO ⟨os, p.key, p.il, p.cc, p.pg, p.ad, bs, ks⟩ I.op I.n (opC I.op I.fm bs ks p.key (I.a os)) (opV I.op I.fm os I.k bs (I.a os)))) := by
  have u0 := getD_in h.ro I.n
  have V0 := opV_in (op := I.op) (fm := I.fm) (a := I.a os) (k := I.k) h.ro h.st.rb
  have PO := Lib.hid (fun W (hW : PS w0 W g F I os os p p false bs ks) => popd_c hW)
  obtain ⟨u, hu⟩ : ∃ u, os.getD I.n 0 = u := ⟨_, rfl⟩
  obtain ⟨V, hV⟩ : ∃ V, opV I.op I.fm os I.k bs (I.a os) = V := ⟨_, rfl⟩
  obtain ⟨C, hC⟩ : ∃ C, opC I.op I.fm bs ks p.key (I.a os) = C := ⟨_, rfl⟩
  rw [hu] at u0
  rw [hV] at V0
  rw [hV, hC] at PO ⊢
  clear hV hC
  rcases ho with ho | ho
  all_goals
    rw [ho]
    have HU := Lib.hid hu
    have HO := Lib.hid ho
    have R0 := Lib.hid h
    have hn := h.ix.n
    clear hu ho h
    refine R0.out.opn ?_
    intros
    go_enter Tryz.func48, Tryz.ntmps48
    go_upto_region 6 with fail
    refine wp_region_held_drew (S := Sy w0 g F I os p) (by kernel_rfl) R0.out.drew.x (fun hHeld => ?_)
    replace R0 := Lib.hid R0.out.drew
    repeat refine tkp ?_
    refine tkq (PO.out _ R0.out) (fun _ _ h => h.2.2.x) ?_ ?_
    rotate_left
    · intro w1 B1
      go_wp2
      exact ⟨rfl, gp_no B1.out.2 (congrArg Out.c (arO_no (by decide) B1.out.1)) B1.out.1⟩
    intro v w1 A1 hHeld
    obtain ⟨rfl, rfl, hR⟩ := A1.out
    have R1 := Lib.hid hR
    clear A1 hR R0 PO
    repeat refine tkp ?_
    refine wpAnyH_done (by kernel_rfl) ?_ _
    refine R1.out.opn ?_
    clear hHeld
    intros
    go_wp2_with (first
      | (go_at_call 131; refine nx (pbits_c R1.out _) ?_; intro w1 R1))
    first | go_end0 | refine bodyPost_ret (results_none rfl _ _ _) rfl ?_
    exact gp_ok R1.out (by rw [← HU.out]; rfl)
set_option maxRecDepth 1000000 in
set_option maxHeartbeats 8000000 in
theorem par_23 (h : PS w0 w g F I os os p p false bs ks) (ho : (I.op = 23 ∨ I.op = 87)) : Calls Tryz.prog 48 #[.pointer (some ⟨g, 0, none⟩)] w (Gp w0 g F I os p bs ks (arO ⟨os, p.key, p.il, p.cc, p.pg, p.ad, bs, ks⟩ I.op I.n (opC I.op I.fm bs ks p.key (I.a os)) (opV I.op I.fm os I.k bs (I.a os)))) := by
  have u0 := getD_in h.ro I.n
  have V0 := opV_in (op := I.op) (fm := I.fm) (a := I.a os) (k := I.k) h.ro h.st.rb
  have PO := Lib.hid (fun W (hW : PS w0 W g F I os os p p false bs ks) => popd_c hW)
  obtain ⟨u, hu⟩ : ∃ u, os.getD I.n 0 = u := ⟨_, rfl⟩
  obtain ⟨V, hV⟩ : ∃ V, opV I.op I.fm os I.k bs (I.a os) = V := ⟨_, rfl⟩
  obtain ⟨C, hC⟩ : ∃ C, opC I.op I.fm bs ks p.key (I.a os) = C := ⟨_, rfl⟩
  rw [hu] at u0
  rw [hV] at V0
  rw [hV, hC] at PO ⊢
  clear hV hC
  rcases ho with ho | ho
  all_goals
    rw [ho]
    have HU := Lib.hid hu
    have HO := Lib.hid ho
    have R0 := Lib.hid h
    have hn := h.ix.n
    clear hu ho h
    refine R0.out.opn ?_
    intros
    go_enter Tryz.func48, Tryz.ntmps48
    go_upto_region 6 with fail
    refine wp_region_held_drew (S := Sy w0 g F I os p) (by kernel_rfl) R0.out.drew.x (fun hHeld => ?_)
    replace R0 := Lib.hid R0.out.drew
    repeat refine tkp ?_
    refine tkq (PO.out _ R0.out) (fun _ _ h => h.2.2.x) ?_ ?_
    rotate_left
    · intro w1 B1
      go_wp2
      exact ⟨rfl, gp_no B1.out.2 (congrArg Out.c (arO_no (by decide) B1.out.1)) B1.out.1⟩
    intro v w1 A1 hHeld
    obtain ⟨rfl, rfl, hR⟩ := A1.out
    have R1 := Lib.hid hR
    clear A1 hR R0 PO
    repeat refine tkp ?_
    refine wpAnyH_done (by kernel_rfl) ?_ _
    refine R1.out.opn ?_
    clear hHeld
    intros
    go_wp2_with (first
      | (go_at_call 131; refine nx (pbits_c R1.out _) ?_; intro w1 R1))
    first | go_end0 | refine bodyPost_ret (results_none rfl _ _ _) rfl ?_
    exact gp_ok R1.out (by rw [← HU.out]; rfl)
set_option maxRecDepth 1000000 in
set_option maxHeartbeats 8000000 in
theorem par_24 (h : PS w0 w g F I os os p p false bs ks) (ho : (I.op = 24 ∨ I.op = 88 ∨ I.op = 72)) : Calls Tryz.prog 48 #[.pointer (some ⟨g, 0, none⟩)] w (Gp w0 g F I os p bs ks (arO ⟨os, p.key, p.il, p.cc, p.pg, p.ad, bs, ks⟩ I.op I.n (opC I.op I.fm bs ks p.key (I.a os)) (opV I.op I.fm os I.k bs (I.a os)))) := by
  have u0 := getD_in h.ro I.n
  have V0 := opV_in (op := I.op) (fm := I.fm) (a := I.a os) (k := I.k) h.ro h.st.rb
  have PO := Lib.hid (fun W (hW : PS w0 W g F I os os p p false bs ks) => popd_c hW)
  obtain ⟨u, hu⟩ : ∃ u, os.getD I.n 0 = u := ⟨_, rfl⟩
  obtain ⟨V, hV⟩ : ∃ V, opV I.op I.fm os I.k bs (I.a os) = V := ⟨_, rfl⟩
  obtain ⟨C, hC⟩ : ∃ C, opC I.op I.fm bs ks p.key (I.a os) = C := ⟨_, rfl⟩
  rw [hu] at u0
  rw [hV] at V0
  rw [hV, hC] at PO ⊢
  clear hV hC
  rcases ho with ho | ho | ho
  all_goals
    rw [ho]
    have HU := Lib.hid hu
    have HO := Lib.hid ho
    have R0 := Lib.hid h
    have hn := h.ix.n
    clear hu ho h
    refine R0.out.opn ?_
    intros
    go_enter Tryz.func48, Tryz.ntmps48
    go_upto_region 6 with fail
    refine wp_region_held_drew (S := Sy w0 g F I os p) (by kernel_rfl) R0.out.drew.x (fun hHeld => ?_)
    replace R0 := Lib.hid R0.out.drew
    repeat refine tkp ?_
    refine tkq (PO.out _ R0.out) (fun _ _ h => h.2.2.x) ?_ ?_
    rotate_left
    · intro w1 B1
      go_wp2
      exact ⟨rfl, gp_no B1.out.2 (congrArg Out.c (arO_no (by decide) B1.out.1)) B1.out.1⟩
    intro v w1 A1 hHeld
    obtain ⟨rfl, rfl, hR⟩ := A1.out
    have R1 := Lib.hid hR
    clear A1 hR R0 PO
    repeat refine tkp ?_
    refine wpAnyH_done (by kernel_rfl) ?_ _
    refine R1.out.opn ?_
    clear hHeld
    intros
    go_upto_region 11 with fail
    refine wp_region_held_drew (S := Sy w0 g F I os p) (by kernel_rfl) R1.out.drew.x (fun hHeld => ?_)
    replace R1 := Lib.hid R1.out.drew
    repeat refine tkp ?_
    refine tpr R1.out hn ?_
    clear R1 hHeld
    intro w2 R1 hHeld
    refine wpAnyH_done (by with_unfolding_all rfl) ?_ _
    clear hHeld
    go_wp2
    first | go_end0 | refine bodyPost_ret (results_none rfl _ _ _) rfl ?_
    exact gp_ok R1.out rfl
set_option maxRecDepth 1000000 in
set_option maxHeartbeats 8000000 in
theorem par_76 (h : PS w0 w g F I os os p p false bs ks) (ho : I.op = 76) : Calls Tryz.prog 48 #[.pointer (some ⟨g, 0, none⟩)] w (Gp w0 g F I os p bs ks (arO ⟨os, p.key, p.il, p.cc, p.pg, p.ad, bs, ks⟩ I.op I.n (opC I.op I.fm bs ks p.key (I.a os)) (opV I.op I.fm os I.k bs (I.a os)))) := by
  have u0 := getD_in h.ro I.n
  have V0 := opV_in (op := I.op) (fm := I.fm) (a := I.a os) (k := I.k) h.ro h.st.rb
  have PO := Lib.hid (fun W (hW : PS w0 W g F I os os p p false bs ks) => popd_c hW)
  obtain ⟨u, hu⟩ : ∃ u, os.getD I.n 0 = u := ⟨_, rfl⟩
  obtain ⟨V, hV⟩ : ∃ V, opV I.op I.fm os I.k bs (I.a os) = V := ⟨_, rfl⟩
  obtain ⟨C, hC⟩ : ∃ C, opC I.op I.fm bs ks p.key (I.a os) = C := ⟨_, rfl⟩
  rw [hu] at u0
  rw [hV] at V0
  rw [hV, hC] at PO ⊢
  clear hV hC
  rw [ho]
  have HU := Lib.hid hu
  have HO := Lib.hid ho
  have R0 := Lib.hid h
  have hn := h.ix.n
  clear hu ho h
  refine R0.out.opn ?_
  intros
  go_enter Tryz.func48, Tryz.ntmps48
  go_upto_region 6 with fail
  refine wp_region_held_drew (S := Sy w0 g F I os p) (by kernel_rfl) R0.out.drew.x (fun hHeld => ?_)
  replace R0 := Lib.hid R0.out.drew
  repeat refine tkp ?_
  refine tkq (PO.out _ R0.out) (fun _ _ h => h.2.2.x) ?_ ?_
  rotate_left
  · intro w1 B1
    go_wp2
    exact ⟨rfl, gp_no B1.out.2 (congrArg Out.c (arO_no (by decide) B1.out.1)) B1.out.1⟩
  intro v w1 A1 hHeld
  obtain ⟨rfl, rfl, hR⟩ := A1.out
  have R1 := Lib.hid hR
  clear A1 hR R0 PO
  repeat refine tkp ?_
  refine wpAnyH_done (by kernel_rfl) ?_ _
  refine R1.out.opn ?_
  clear hHeld
  intros
  go_upto_region 48 with fail
  refine wp_region_held_drew (S := Sy w0 g F I os p) (by kernel_rfl) R1.out.drew.x (fun hHeld => ?_)
  replace R1 := Lib.hid R1.out.drew
  repeat refine tkp ?_
  refine tkz (mul_c u V u0.1 u0.2 V0.1 V0.2 _) ?_
  repeat refine tkp ?_
  refine tpr R1.out hn ?_
  clear R1 hHeld
  intro w2 R1 hHeld
  refine wpAnyH_done (by with_unfolding_all rfl) ?_ _
  clear hHeld
  go_wp2
  first | go_end0 | refine bodyPost_ret (results_none rfl _ _ _) rfl ?_
  exact gp_ok R1.out (by rw [← HU.out]; rfl)
end
end Go.Proofs.YthjdjbipfdigeaaGreat

namespace Go.Proofs.YthjdjbipfdigeaaGreat
open Go.RowKit
set_option maxRecDepth 100000
set_option linter.unusedVariables false
set_option linter.unusedSimpArgs false
section
variable {w0 w w' : World} {g : Nat} {F : Foot} {I : In} {os rs : List Int} {p q : Ps} {ov : Bool} {bs ks : List Int}
/-- a method of the machine is called, its answer passed on -/
theorem nxp {P : Program} {f : FuncId} {args : Array Value} {o : Out} {Q : Ending → World → Prop} (hc : Calls P f args w (Gp w0 g F I os p bs ks o)) (h : ∀ w', Hid (Gp w0 g F I os p bs ks o (.returned (.tuple #[])) w') → Q (.returned (.tuple #[])) w') (h' : ∀ w', Hid (Gp w0 g F I os p bs ks o (.panicked [{ v := .iface 59 (.int .i64 o.c), recovered := false }]) w') → Q (.panicked [{ v := .iface 59 (.int .i64 o.c), recovered := false }]) w') : Calls P f args w Q :=
  hc.mono fun e w' he => by
    by_cases h0 : o.c = 0
    · obtain ⟨rfl, -⟩ := he.1 h0
      exact h w' (Lib.hid he)
    · obtain ⟨rfl, -⟩ := he.2 h0
      exact h' w' (Lib.hid he)
set_option maxRecDepth 1000000 in
set_option maxHeartbeats 8000000 in
theorem psgn_c (h : PS w0 w g F I os rs p q ov bs ks) (v : Int) (V0 : 0 ≤ v ∧ v ≤ 4294967295) (ho : I.op = 16 ∨ I.op = 17 ∨ I.op = 18 ∨ I.op = 19) : Calls Tryz.prog 126 #[.pointer (some ⟨g, 0, none⟩), .int .u32 v] w fun e w' => e = .returned (.tuple #[]) ∧ PS w0 w' g F I os (rs.set I.n (sgnV I.op v)) p { q with cc := sgnQ I.op v } (sgnO I.op v) bs ks := by
  have TC := Lib.hid (test_c v V0.1 V0.2)
  obtain ⟨T, hT⟩ : ∃ T, sgn (sg v) = T := ⟨_, rfl⟩
  have hQ : sgnQ I.op v = if sgnC I.op v = true then rcc (-sg v) else T := by rw [← hT]; rfl
  have hC : (I.op = 16 ∧ sgnC I.op v = (T == 1)) ∨ (I.op = 17 ∧ sgnC I.op v = (T == 2)) ∨ (I.op = 18 ∧ sgnC I.op v = false) ∨ (I.op = 19 ∧ sgnC I.op v = true) := by
    rw [← hT]
    unfold sgnC
    rcases ho with ho | ho | ho | ho
    · exact .inl ⟨ho, by rw [ho]; by_cases h : sgn (sg v) = 1 <;> simp [h]⟩
    · exact .inr (.inl ⟨ho, by rw [ho]; by_cases h : sgn (sg v) = 2 <;> simp [h]⟩)
    · exact .inr (.inr (.inl ⟨ho, by rw [ho]; simp⟩))
    · exact .inr (.inr (.inr ⟨ho, by rw [ho]; simp⟩))
  rw [hT] at TC
  unfold sgnV sgnO
  rw [hQ]
  clear hT hQ ho
  cases h1 : (T == 1) <;> cases h2 : (T == 2) <;> rcases hC with ⟨ho, hc⟩ | ⟨ho, hc⟩ | ⟨ho, hc⟩ | ⟨ho, hc⟩
  all_goals
    rw [hc]
    (first | rw [h1] | skip)
    (first | rw [h2] | skip)
    have HO := Lib.hid ho
    clear ho hc
    refine h.opn ?_
    clear h
    intro R0
    intros
    go_enter Tryz.func126, Tryz.ntmps126
    go_wp2_with (first
      | (go_at_call 155; refine nz (TC.out _) ?_)
      | (go_at_call 161; refine nz (complement_c v V0.1 V0.2 _) ?_)
      | (go_at_call 98; refine nx (pset_c R0.out _ _ _) ?_; intro w1 R1))
    first | go_end0 | refine bodyPost_ret (results_none rfl _ _ _) rfl ?_
    exact ⟨rfl, R1.out⟩
set_option maxRecDepth 1000000 in
set_option maxHeartbeats 8000000 in
theorem pprod_c (h : PS w0 w g F I os os p p false bs ks) (ho : I.op = 28 ∨ I.op = 29 ∨ I.op = 92 ∨ I.op = 93) : Calls Tryz.prog 124 #[.pointer (some ⟨g, 0, none⟩)] w (Gp w0 g F I os p bs ks (arO ⟨os, p.key, p.il, p.cc, p.pg, p.ad, bs, ks⟩ I.op I.n (opC I.op I.fm bs ks p.key (I.a os)) (opV I.op I.fm os I.k bs (I.a os)))) := by
  have nn := h.ix.n
  have u0 := getD_in h.ro I.n
  have b0 := getD_in h.ro (I.n + 1)
  have V0 := opV_in (op := I.op) (fm := I.fm) (a := I.a os) (k := I.k) h.ro h.st.rb
  have PO := Lib.hid (fun W (hW : PS w0 W g F I os os p p false bs ks) => popd_c hW)
  obtain ⟨u, hu⟩ : ∃ u, os.getD I.n 0 = u := ⟨_, rfl⟩
  obtain ⟨V, hV⟩ : ∃ V, opV I.op I.fm os I.k bs (I.a os) = V := ⟨_, rfl⟩
  obtain ⟨C, hC⟩ : ∃ C, opC I.op I.fm bs ks p.key (I.a os) = C := ⟨_, rfl⟩
  rw [hu] at u0
  rw [hV] at V0
  rw [hV, hC] at PO ⊢
  clear hV hC
  obtain ⟨m, hm⟩ : ∃ m, I.n + 1 = m := ⟨_, rfl⟩
  rw [hm] at b0
  obtain ⟨b, hb⟩ : ∃ b, os.getD m 0 = b := ⟨_, rfl⟩
  rw [hb] at b0
  have HU := Lib.hid hu
  have HB := Lib.hid hb
  have HM := Lib.hid hm
  have w1 : IntKind.i64.wrap ((I.n : Int) + 1) = (m : Int) := by rw [wrap_i64_id (by omega) (by omega)]; omega
  have w2 : IntKind.i64.wrap ((I.n : Int).tmod 2) = (I.n : Int) % 2 := by rw [Int.tmod_eq_emod_of_nonneg (by omega)]; exact wrap_i64_id (by omega) (by omega)
  have e28 : bits .and .i64 28 15 = 12 := by decide +kernel
  have e29 : bits .and .i64 29 15 = 13 := by decide +kernel
  have e92 : bits .and .i64 92 15 = 12 := by decide +kernel
  have e93 : bits .and .i64 93 15 = 13 := by decide +kernel
  by_cases hev : I.n % 2 = 1
  · have e0 : ((I.n : Int) % 2 == 0) = false := by simp; omega
    have HE := Lib.hid hev
    have HA := Lib.hid (show arO ⟨os, p.key, p.il, p.cc, p.pg, p.ad, bs, ks⟩ I.op I.n C V = Pre.no ⟨os, p.key, p.il, p.cc, p.pg, p.ad, bs, ks⟩ 6 from by unfold arO; rw [if_pos ho, if_pos hev])
    clear ho hev hu hb hm
    refine h.opn ?_
    clear h
    intro R0
    intros
    go_enter Tryz.func124, Tryz.ntmps124
    go_wp2_with (go_at_call 100; refine nxd (fun h => by cases h) (fun _ => ?_))
    exact ⟨rfl, gp_no R0.out (congrArg Out.c HA.out) (by show (6 : Int) ≠ 0; decide)⟩
  have e0 : ((I.n : Int) % 2 == 0) = true := by simp; omega
  have m0 : m < 16 := by omega
  have m1 : (m : Int) < 16 := by omega
  have KB : Hid (∀ W rs q ov bs ks, PS w0 W g F I os rs p q ov bs ks → W.cell? ⟨g, 12 + m, none⟩ = some (.int .u32 b)) := Lib.hid fun W rs q ov bs ks h => hb ▸ h.m.co m0
  have HA : Hid (C ≠ 0 → arO ⟨os, p.key, p.il, p.cc, p.pg, p.ad, bs, ks⟩ I.op I.n C V = Pre.no ⟨os, p.key, p.il, p.cc, p.pg, p.ad, bs, ks⟩ C) := Lib.hid fun hc => by unfold arO; rw [if_pos ho, if_neg hev, if_pos hc]
  have H28 : Hid (C = 0 → (I.op = 28 ∨ I.op = 92) → arO ⟨os, p.key, p.il, p.cc, p.pg, p.ad, bs, ks⟩ I.op I.n C V = Pre.rg ⟨os, p.key, p.il, p.cc, p.pg, p.ad, bs, ks⟩ ((os.set I.n (lo32 (sg b * sg V / 4294967296))).set m (lo32 (sg b * sg V)))) := Lib.hid fun hc h2 => by unfold arO; rw [if_pos ho, if_neg hev, if_neg (fun h => h hc), if_pos h2, ← hb, ← hm]
  have H29 : Hid (C = 0 → (I.op = 29 ∨ I.op = 93) → arO ⟨os, p.key, p.il, p.cc, p.pg, p.ad, bs, ks⟩ I.op I.n C V = if dok (sg64 (dbl u b)) (sg V) = true then Pre.rg ⟨os, p.key, p.il, p.cc, p.pg, p.ad, bs, ks⟩ ((os.set I.n (drem (sg64 (dbl u b)) (sg V))).set m (dquo (sg64 (dbl u b)) (sg V))) else Pre.no ⟨os, p.key, p.il, p.cc, p.pg, p.ad, bs, ks⟩ 9) := Lib.hid fun hc h2 => by
    unfold arO
    rw [if_pos ho, if_neg hev, if_neg (show ¬ (C ≠ 0) from fun h => h hc), if_neg (show ¬ (I.op = 28 ∨ I.op = 92) by omega), ← hb, ← hu, ← hm]
  have DC := Lib.hid (div_c u b V u0.1 u0.2 b0.1 b0.2 V0.1 V0.2)
  obtain ⟨dk, hdk⟩ : ∃ d, dok (sg64 (dbl u b)) (sg V) = d := ⟨_, rfl⟩
  rw [hdk] at DC H29
  have HD := Lib.hid hdk
  clear hev hu hb hm hdk
  rcases ho with ho | ho | ho | ho
  all_goals
    rw [ho] at HA H28 H29 ⊢
    have HO := Lib.hid ho
    have R0 := Lib.hid h
    clear h ho
    refine R0.out.opn ?_
    intros
    go_enter Tryz.func124, Tryz.ntmps124
    go_upto_region 3 with (first
      | (go_at_call 100; refine nxd (fun _ => ?_) (fun h => by cases h))
      | (go_at_call 125; refine nxk (PO.out _ R0.out) (fun w1 Z1 R1 => ?_) (fun w1 Z1 R1 => ?_)))
  any_goals (refine ⟨rfl, gp_no R1.out ?_ Z1.out⟩; exact congrArg Out.c (HA.out Z1.out))
  all_goals
    refine R1.out.opn ?_
    intros
    first
      | (go_upto_region 4 with fail
         refine wp_region_held_drew (S := Sy w0 g F I os p) (by kernel_rfl) R1.out.drew.x (fun hHeld => ?_)
         replace R1 := Lib.hid R1.out.drew
         repeat refine tkp ?_
         refine tki 11 (y := (by intro w hSw; obtain ⟨_, _, _, _, _, hx⟩ := hSw; have hx := KB.out _ _ _ _ _ _ hx; go_simp; (try with_reducible rfl))) ?_
         repeat refine tkp ?_
         refine tkz (mul_c b V b0.1 b0.2 V0.1 V0.2 _) ?_
         repeat refine tkp ?_
         refine tpr R1.out nn ?_
         clear R1 hHeld
         intro w2 R1 hHeld
         repeat refine tkp ?_
         refine tpr R1.out m0 ?_
         clear R1 hHeld
         intro w2 R1 hHeld
         refine wpAnyH_done (by with_unfolding_all rfl) ?_ _
         go_wp2
         go_end0
         exact gp_ok R1.out (by rw [H28.out Z1.out (by decide)]; rfl))
      | (go_upto_region 5 with fail
         refine wp_region_held_drew (S := Sy w0 g F I os p) (by kernel_rfl) R1.out.drew.x (fun hHeld => ?_)
         replace R1 := Lib.hid R1.out.drew
         repeat refine tkp ?_
         refine tki 12 (y := (by intro w hSw; obtain ⟨_, _, _, _, _, hx⟩ := hSw; have hx := KB.out _ _ _ _ _ _ hx; go_simp; (try with_reducible rfl))) ?_
         repeat refine tkp ?_
         refine tkz (DC.out _) ?_
         repeat refine tkp ?_
         refine wpAnyH_done (by with_unfolding_all rfl) ?_ _
         clear hHeld
         cases dk
         · go_wp2_with (go_at_call 100; refine nxd (fun h => by cases h) (fun _ => ?_))
           refine ⟨rfl, gp_no R1.out ?_ (by decide)⟩
           exact congrArg Out.c (H29.out Z1.out (by decide))
         · go_upto_region 7 with (go_at_call 100; refine nxd (fun _ => ?_) (fun h => by cases h))
           refine wp_region_held_drew (S := Sy w0 g F I os p) (by kernel_rfl) R1.out.drew.x (fun hHeld => ?_)
           replace R1 := Lib.hid R1.out.drew
           repeat refine tkp ?_
           refine tpr R1.out nn ?_
           clear R1 hHeld
           intro w2 R1 hHeld
           repeat refine tkp ?_
           refine tpr R1.out m0 ?_
           clear R1 hHeld
           intro w2 R1 hHeld
           refine wpAnyH_done (by with_unfolding_all rfl) ?_ _
           go_wp2
           go_end0
           exact gp_ok R1.out ((H29.out Z1.out (by decide)).trans rfl))
end
end Go.Proofs.YthjdjbipfdigeaaGreat

namespace Go.Proofs.YthjdjbipfdigeaaGreat
open Go.RowKit
set_option maxRecDepth 100000
set_option linter.unusedVariables false
set_option linter.unusedSimpArgs false
section
variable {w0 w w' : World} {g : Nat} {F : Foot} {I : In} {os rs : List Int} {p q : Ps} {ov : Bool} {bs ks : List Int}
theorem wr_ok {P : Pre} {a n cc : Int} {ys : List Int} (h : P.pc a n = 0) : P.wr a n ys cc = ⟨0, P.os, cc, P.pg, P.ad, false, sPut (alP P.key) P.bs P.ks a ys⟩ := if_pos h
theorem wr_no {P : Pre} {a n cc : Int} {ys : List Int} (h : P.pc a n ≠ 0) : (P.wr a n ys cc).c = P.pc a n := by unfold Pre.wr; rw [if_neg h]; rfl
/-- the bytes of a word, in new memory -/
theorem pfull_c (h : PS w0 w g F I os rs p q ov bs ks) {u : Int} (u0 : 0 ≤ u ∧ u ≤ 4294967295) : Calls Tryz.prog 107 #[.int .u32 u] w fun e w' => ∃ v, e = .returned v ∧ ∃ b, v = .slice (some ⟨b, 0, none⟩) 4 4 ∧ Byt w' (some ⟨b, 0, none⟩) 4 (fb u) ∧ PS w0 w' g F I os rs p q ov bs ks := by
  refine (full_c u w u0.1 u0.2).mono ?_
  rintro e w' ⟨rfl, rfl⟩
  refine ⟨_, rfl, w.heap.size, rfl, ?_, h.keep ((Below.refl _ _).alloc (Nat.le_refl _) _)⟩
  refine ⟨rfl, ?_, fun _ => ⟨w.heap.size, 0, rfl, ?_⟩⟩
  · intro z hz
    simp only [fb, List.mem_cons, List.not_mem_nil, or_false] at hz
    rcases hz with rfl | rfl | rfl | rfl <;> omega
  · intro i hi
    rcases (show i = 0 ∨ i = 1 ∨ i = 2 ∨ i = 3 by omega) with rfl | rfl | rfl | rfl <;> go_simp <;> rfl
theorem nxu {P : Program} {f : FuncId} {args : Array Value} {zs : List Int} {Q : Ending → World → Prop} (hc : Calls P f args w fun e w' => ∃ v, e = .returned v ∧ ∃ b, v = .slice (some ⟨b, 0, none⟩) 4 4 ∧ Byt w' (some ⟨b, 0, none⟩) 4 zs ∧ PS w0 w' g F I os rs p q ov bs ks) (h : ∀ b w', Hid (Byt w' (some ⟨b, 0, none⟩) 4 zs) → Hid (PS w0 w' g F I os rs p q ov bs ks) → Q (.returned (.slice (some ⟨b, 0, none⟩) 4 4)) w') : Calls P f args w Q :=
  hc.mono fun e w' ⟨v, he, b, hv, hB, hR⟩ => by subst he; subst hv; exact h b w' (Lib.hid hB) (Lib.hid hR)
set_option maxRecDepth 1000000 in
set_option maxHeartbeats 8000000 in
theorem pmv_80 (h : PS w0 w g F I os os p p false bs ks) (ho : I.op = 80) : Calls Tryz.prog 45 #[.pointer (some ⟨g, 0, none⟩)] w (Gp w0 g F I os p bs ks (mvO ⟨os, p.key, p.il, p.cc, p.pg, p.ad, bs, ks⟩ I.op I.n I.k (I.a os))) := by
  have hn := h.ix.n
  have u0 := getD_in h.ro I.n
  have A0 := I.a_in os
  have SC := Lib.hid (fun W rs q ov bs ks (hW : PS w0 W g F I os rs p q ov bs ks) => psec_c hW)
  have AC := Lib.hid (fun n hn W rs q ov bs ks (hW : PS w0 W g F I os rs p q ov bs ks) => paln_c hW n hn)
  obtain ⟨A, hA⟩ : ∃ A, I.a os = A := ⟨_, rfl⟩
  rw [hA] at SC AC A0 ⊢
  clear hA
  obtain ⟨u, hu⟩ : ∃ u, os.getD I.n 0 = u := ⟨_, rfl⟩
  rw [hu] at u0
  have HU := Lib.hid hu
  rw [ho]
  have HO := Lib.hid ho
  have HE := Lib.hid (show mvO ⟨os, p.key, p.il, p.cc, p.pg, p.ad, bs, ks⟩ 80 I.n I.k A = (if A % 4 = 0 then Pre.wr ⟨os, p.key, p.il, p.cc, p.pg, p.ad, bs, ks⟩ A 4 ((fb u)) p.cc else Pre.no ⟨os, p.key, p.il, p.cc, p.pg, p.ad, bs, ks⟩ 6) from by rw [← hu]; rfl)
  have R0 := Lib.hid h
  clear hu ho h
  refine R0.out.opn ?_
  intros
  go_enter Tryz.func45, Tryz.ntmps45
  go_upto_region 0 with fail
  refine wp_region_held_drew (S := Sy w0 g F I os p) (by kernel_rfl) R0.out.drew.x (fun hHeld => ?_)
  have R1 := Lib.hid R0.out.drew
  clear R0
  repeat refine tkp ?_
  refine wpAnyH_done (by kernel_rfl) ?_ _
  refine R1.out.opn ?_
  clear hHeld
  intros
  go_wp2_with (first
    | (go_at_call 106; refine nxk (AC.out _ (.inr rfl) _ _ _ _ _ _ R1.out) (fun w1 Z1 R1 => ?_) (fun w1 Z1 R1 => ?_))
    | (go_at_call 107; refine nxu (pfull_c R1.out u0) (fun b w1 B1 R1 => ?_))
    | (go_at_call 105; refine nxk (pput_c R1.out A _ 4 _ _ B1.out (by omega)) (fun w1 Z2 R1 => ?_) (fun w1 Z2 R1 => ?_)))
  all_goals first
    | ((first | go_end0 | refine bodyPost_ret (results_none rfl _ _ _) rfl ?_); exact gp_ok R1.out ((HE.out.trans (if_pos Z1.out)).trans (wr_ok Z2.out)))
    | (refine ⟨rfl, gp_no R1.out ?_ Z2.out⟩; exact (congrArg Out.c (HE.out.trans (if_pos Z1.out))).trans (wr_no Z2.out))
    | (refine ⟨rfl, gp_no R1.out ?_ (by decide)⟩; exact congrArg Out.c (HE.out.trans (if_neg Z1.out)))
set_option maxRecDepth 1000000 in
set_option maxHeartbeats 8000000 in
theorem pmv_64 (h : PS w0 w g F I os os p p false bs ks) (ho : I.op = 64) : Calls Tryz.prog 45 #[.pointer (some ⟨g, 0, none⟩)] w (Gp w0 g F I os p bs ks (mvO ⟨os, p.key, p.il, p.cc, p.pg, p.ad, bs, ks⟩ I.op I.n I.k (I.a os))) := by
  have hn := h.ix.n
  have u0 := getD_in h.ro I.n
  have A0 := I.a_in os
  have SC := Lib.hid (fun W rs q ov bs ks (hW : PS w0 W g F I os rs p q ov bs ks) => psec_c hW)
  have AC := Lib.hid (fun n hn W rs q ov bs ks (hW : PS w0 W g F I os rs p q ov bs ks) => paln_c hW n hn)
  obtain ⟨A, hA⟩ : ∃ A, I.a os = A := ⟨_, rfl⟩
  rw [hA] at SC AC A0 ⊢
  clear hA
  obtain ⟨u, hu⟩ : ∃ u, os.getD I.n 0 = u := ⟨_, rfl⟩
  rw [hu] at u0
  have HU := Lib.hid hu
  rw [ho]
  have HO := Lib.hid ho
  have HE := Lib.hid (show mvO ⟨os, p.key, p.il, p.cc, p.pg, p.ad, bs, ks⟩ 64 I.n I.k A = (if A % 2 = 0 then Pre.wr ⟨os, p.key, p.il, p.cc, p.pg, p.ad, bs, ks⟩ A 2 (((fb u).drop 2)) p.cc else Pre.no ⟨os, p.key, p.il, p.cc, p.pg, p.ad, bs, ks⟩ 6) from by rw [← hu]; rfl)
  have R0 := Lib.hid h
  clear hu ho h
  refine R0.out.opn ?_
  intros
  go_enter Tryz.func45, Tryz.ntmps45
  go_upto_region 0 with fail
  refine wp_region_held_drew (S := Sy w0 g F I os p) (by kernel_rfl) R0.out.drew.x (fun hHeld => ?_)
  have R1 := Lib.hid R0.out.drew
  clear R0
  repeat refine tkp ?_
  refine wpAnyH_done (by kernel_rfl) ?_ _
  refine R1.out.opn ?_
  clear hHeld
  intros
  go_wp2_with (first
    | (go_at_call 106; refine nxk (AC.out _ (.inl rfl) _ _ _ _ _ _ R1.out) (fun w1 Z1 R1 => ?_) (fun w1 Z1 R1 => ?_))
    | (go_at_call 107; refine nxu (pfull_c R1.out u0) (fun b w1 B1 R1 => ?_))
    | (go_at_call 105; refine nxk (pput_c R1.out A _ 2 _ _ (byt_from B1.out (by omega) 2 rfl) (by omega)) (fun w1 Z2 R1 => ?_) (fun w1 Z2 R1 => ?_)))
  all_goals first
    | ((first | go_end0 | refine bodyPost_ret (results_none rfl _ _ _) rfl ?_); exact gp_ok R1.out ((HE.out.trans (if_pos Z1.out)).trans (wr_ok Z2.out)))
    | (refine ⟨rfl, gp_no R1.out ?_ Z2.out⟩; exact (congrArg Out.c (HE.out.trans (if_pos Z1.out))).trans (wr_no Z2.out))
    | (refine ⟨rfl, gp_no R1.out ?_ (by decide)⟩; exact congrArg Out.c (HE.out.trans (if_neg Z1.out)))
set_option maxRecDepth 1000000 in
set_option maxHeartbeats 8000000 in
theorem pmv_66 (h : PS w0 w g F I os os p p false bs ks) (ho : I.op = 66) : Calls Tryz.prog 45 #[.pointer (some ⟨g, 0, none⟩)] w (Gp w0 g F I os p bs ks (mvO ⟨os, p.key, p.il, p.cc, p.pg, p.ad, bs, ks⟩ I.op I.n I.k (I.a os))) := by
  have hn := h.ix.n
  have u0 := getD_in h.ro I.n
  have A0 := I.a_in os
  have SC := Lib.hid (fun W rs q ov bs ks (hW : PS w0 W g F I os rs p q ov bs ks) => psec_c hW)
  have AC := Lib.hid (fun n hn W rs q ov bs ks (hW : PS w0 W g F I os rs p q ov bs ks) => paln_c hW n hn)
  obtain ⟨A, hA⟩ : ∃ A, I.a os = A := ⟨_, rfl⟩
  rw [hA] at SC AC A0 ⊢
  clear hA
  obtain ⟨u, hu⟩ : ∃ u, os.getD I.n 0 = u := ⟨_, rfl⟩
  rw [hu] at u0
  have HU := Lib.hid hu
  rw [ho]
  have HO := Lib.hid ho
  have HE := Lib.hid (show mvO ⟨os, p.key, p.il, p.cc, p.pg, p.ad, bs, ks⟩ 66 I.n I.k A = Pre.wr ⟨os, p.key, p.il, p.cc, p.pg, p.ad, bs, ks⟩ A 1 (((fb u).drop 3)) p.cc from by rw [← hu]; rfl)
  have R0 := Lib.hid h
  clear hu ho h
  refine R0.out.opn ?_
  intros
  go_enter Tryz.func45, Tryz.ntmps45
  go_upto_region 0 with fail
  refine wp_region_held_drew (S := Sy w0 g F I os p) (by kernel_rfl) R0.out.drew.x (fun hHeld => ?_)
  have R1 := Lib.hid R0.out.drew
  clear R0
  repeat refine tkp ?_
  refine wpAnyH_done (by kernel_rfl) ?_ _
  refine R1.out.opn ?_
  clear hHeld
  intros
  go_wp2_with (first
    | (go_at_call 44; refine nx (SC.out _ _ _ _ _ _ R1.out) ?_; clear R1; intro w1 R1)
    | (go_at_call 107; refine nxu (pfull_c R1.out u0) (fun b w1 B1 R1 => ?_))
    | (go_at_call 105; refine nxk (pput_c R1.out A _ 1 _ _ (byt_from B1.out (by omega) 1 rfl) (by omega)) (fun w1 Z2 R1 => ?_) (fun w1 Z2 R1 => ?_)))
  all_goals first
    | ((first | go_end0 | refine bodyPost_ret (results_none rfl _ _ _) rfl ?_); exact gp_ok R1.out (HE.out.trans (wr_ok Z2.out)))
    | (refine ⟨rfl, gp_no R1.out ?_ Z2.out⟩; exact (congrArg Out.c HE.out).trans (wr_no Z2.out))
end
end Go.Proofs.YthjdjbipfdigeaaGreat

namespace Go.Proofs.YthjdjbipfdigeaaGreat
open Go.RowKit
set_option maxRecDepth 100000
set_option linter.unusedVariables false
set_option linter.unusedSimpArgs false
section
variable {w0 w w' : World} {g : Nat} {F : Foot} {I : In} {os rs : List Int} {p q : Ps} {ov : Bool} {bs ks : List Int}
theorem byt_one (w : World) {x : Int} (x0 : 0 ≤ x ∧ x ≤ 255) : Byt (w.alloc (.cells #[.int .u8 x] 5)) (some ⟨w.heap.size, 0, none⟩) 1 [x] := by
  refine ⟨rfl, by simpa using x0, fun _ => ⟨w.heap.size, 0, rfl, ?_⟩⟩
  intro i hi
  obtain rfl : i = 0 := by omega
  go_simp
  try rfl
theorem PS.one (h : PS w0 w g F I os rs p q ov bs ks) (o : Obj) : PS w0 (w.alloc o) g F I os rs p q ov bs ks := h.keep ((Below.refl _ _).alloc (Nat.le_refl _) _)
theorem pchg_c (h : PS w0 w g F I os rs p q ov bs ks) (a : Int) {b : Int} (b0 : 0 ≤ b ∧ b ≤ 255) : Calls Tryz.prog 112 #[.pointer (some ⟨g, 0, none⟩), .int .i64 a, .int .u8 b] w (Th (fun v w' => v = .tuple #[] ∧ sCode (alP p.key) bs.length ks a (1 : Nat) = 0 ∧ PS w0 w' g F I os rs p { q with cc := if b = 0 then 0 else 1 } ov (sPut (alP p.key) bs ks a [b]) ks) (sCode (alP p.key) bs.length ks a (1 : Nat)) (fun w' => sCode (alP p.key) bs.length ks a (1 : Nat) ≠ 0 ∧ PS w0 w' g F I os rs p q ov bs ks)) := by
  have bz : (b = 0 ∧ (b != 0) = false) ∨ (b ≠ 0 ∧ (b != 0) = true) := by by_cases h : b = 0 <;> simp [h]
  have R0 := Lib.hid h
  clear h
  rcases bz with ⟨b1, b2⟩ | ⟨b1, b2⟩
  all_goals
    (first | rw [if_pos b1] | rw [if_neg b1])
    clear b1
    go_enter Tryz.func112, Tryz.ntmps112
    go_wp2_with (go_at_call 105; refine nxk (pput_c (R0.out.one _) a _ 1 _ [b] (byt_one _ b0) (by omega)) (fun w1 Z1 R1 => R1.out.opn ?_) (fun w1 Z1 R1 => ?_) <;> intros)
    all_goals first
      | ((first | go_end0 | refine bodyPost_ret (results_none rfl _ _ _) rfl ?_); refine Th.ok ?_; first | exact ⟨rfl, Z1.out, (R1.out.setcc 0).setcc 1⟩ | exact ⟨rfl, Z1.out, R1.out.setcc 0⟩)
      | (refine ⟨rfl, Th.no rfl ?_⟩; exact ⟨Z1.out, R1.out⟩)
theorem imO_no {P : Pre} {op a i : Int} (h : op ≠ 146) (hc : P.fc a 1 ≠ 0) : imO P op a i = P.no (P.fc a 1) := by unfold imO; rw [if_neg h, if_pos hc]
set_option maxRecDepth 1000000 in
set_option maxHeartbeats 8000000 in
theorem pim_146 (h : PS w0 w g F I os os p p false bs ks) (ho : I.op = 146) : Calls Tryz.prog 46 #[.pointer (some ⟨g, 0, none⟩)] w (Gp w0 g F I os p bs ks (imO ⟨os, p.key, p.il, p.cc, p.pg, p.ad, bs, ks⟩ I.op (I.a1 os) I.i)) := by
  have i0 := h.ix.i
  have A0 := I.a1_in os
  have SC := Lib.hid (fun W (hW : PS w0 W g F I os os p p false bs ks) => pfst_c hW)
  obtain ⟨A, hA⟩ : ∃ A, I.a1 os = A := ⟨_, rfl⟩
  rw [hA] at SC A0 ⊢
  clear hA
  have j1 : IntKind.u8.wrap I.i = I.i := by rw [IntKind.wrap_u8]; omega
  have x0 := sGet_in A 1 h.st.rb 0
  obtain ⟨x, hx⟩ : ∃ x, (sGet bs A 1).getD 0 0 = x := ⟨_, rfl⟩
  rw [hx] at x0
  have HX := Lib.hid (show (sGet bs A ((1 : Nat) : Int)).getD 0 0 = x from hx)
  have KI : Hid (∀ W rs q ov bs ks, PS w0 W g F I os rs p q ov bs ks → W.cell? ⟨g, 11, none⟩ = some (.int .i64 I.i)) := Lib.hid fun W rs q ov bs ks h => h.m.ci (c := 11) (by omega)
  rw [ho]
  have HO := Lib.hid ho
  have HE := Lib.hid (show imO ⟨os, p.key, p.il, p.cc, p.pg, p.ad, bs, ks⟩ 146 A I.i = Pre.wr ⟨os, p.key, p.il, p.cc, p.pg, p.ad, bs, ks⟩ A 1 [I.i] p.cc from rfl)
  have R0 := Lib.hid h
  clear hx ho h
  refine R0.out.opn ?_
  intros
  go_enter Tryz.func46, Tryz.ntmps46
  go_upto_region 0 with fail
  refine wp_region_held_drew (S := Sy w0 g F I os p) (by kernel_rfl) R0.out.drew.x (fun hHeld => ?_)
  have R1 := Lib.hid R0.out.drew
  clear R0
  repeat refine tkp ?_
  refine tkc (SC.out _ R1.out) (fun _ h => h.x) ?_
  clear R1 hHeld
  intro w2 R1 hHeld
  repeat refine tkp ?_
  refine wpAnyH_done (by kernel_rfl) ?_ _
  refine R1.out.opn ?_
  clear hHeld
  intros
  go_wp2_with (first
    | (go_at_call 105; refine nxk (pput_c (R1.out.one _) A _ 1 _ [I.i] (byt_one _ i0) (by omega)) (fun w1 Z3 R1 => R1.out.opn ?_) (fun w1 Z3 R1 => ?_) <;> intros))
  all_goals first
    | ((first | go_end0 | refine bodyPost_ret (results_none rfl _ _ _) rfl ?_); exact gp_ok R1.out (HE.out.trans (wr_ok Z3.out)))
    | (refine ⟨rfl, gp_no R1.out ?_ Z3.out⟩; exact (congrArg Out.c HE.out).trans (wr_no Z3.out))
set_option maxRecDepth 1000000 in
set_option maxHeartbeats 8000000 in
theorem pim_149 (h : PS w0 w g F I os os p p false bs ks) (ho : I.op = 149) : Calls Tryz.prog 46 #[.pointer (some ⟨g, 0, none⟩)] w (Gp w0 g F I os p bs ks (imO ⟨os, p.key, p.il, p.cc, p.pg, p.ad, bs, ks⟩ I.op (I.a1 os) I.i)) := by
  have i0 := h.ix.i
  have A0 := I.a1_in os
  have SC := Lib.hid (fun W (hW : PS w0 W g F I os os p p false bs ks) => pfst_c hW)
  obtain ⟨A, hA⟩ : ∃ A, I.a1 os = A := ⟨_, rfl⟩
  rw [hA] at SC A0 ⊢
  clear hA
  have j1 : IntKind.u8.wrap I.i = I.i := by rw [IntKind.wrap_u8]; omega
  have x0 := sGet_in A 1 h.st.rb 0
  obtain ⟨x, hx⟩ : ∃ x, (sGet bs A 1).getD 0 0 = x := ⟨_, rfl⟩
  rw [hx] at x0
  have HX := Lib.hid (show (sGet bs A ((1 : Nat) : Int)).getD 0 0 = x from hx)
  have KI : Hid (∀ W rs q ov bs ks, PS w0 W g F I os rs p q ov bs ks → W.cell? ⟨g, 11, none⟩ = some (.int .i64 I.i)) := Lib.hid fun W rs q ov bs ks h => h.m.ci (c := 11) (by omega)
  have j2 : IntKind.u32.wrap x = x := lo32_id _ (by omega) (by omega)
  have j3 : IntKind.u32.wrap I.i = I.i := lo32_id _ (by omega) (by omega)
  rw [ho]
  have HO := Lib.hid ho
  have HE := Lib.hid (show Pre.fc ⟨os, p.key, p.il, p.cc, p.pg, p.ad, bs, ks⟩ A 1 = 0 → imO ⟨os, p.key, p.il, p.cc, p.pg, p.ad, bs, ks⟩ 149 A I.i = Pre.st ⟨os, p.key, p.il, p.cc, p.pg, p.ad, bs, ks⟩ os (sgn (x - I.i)) false from fun h0 => by unfold imO; rw [if_neg (by decide), if_neg (fun h => h h0), ← hx]; rfl)
  have R0 := Lib.hid h
  clear hx ho h
  refine R0.out.opn ?_
  intros
  go_enter Tryz.func46, Tryz.ntmps46
  go_upto_region 0 with fail
  refine wp_region_held_drew (S := Sy w0 g F I os p) (by kernel_rfl) R0.out.drew.x (fun hHeld => ?_)
  have R1 := Lib.hid R0.out.drew
  clear R0
  repeat refine tkp ?_
  refine tkc (SC.out _ R1.out) (fun _ h => h.x) ?_
  clear R1 hHeld
  intro w2 R1 hHeld
  repeat refine tkp ?_
  refine wpAnyH_done (by kernel_rfl) ?_ _
  refine R1.out.opn ?_
  clear hHeld
  intros
  go_wp2_with (first
    | (go_at_call 108; refine nxh (pfet_c R1.out A 1 (by omega)) (fun b cap w1 Z2 O1 hb1 hb2 R1 => R1.out.opn ?_) (fun w1 Z2 R1 => ?_) <;> intros; have cb := byt0 O1.out.byt (by omega); rw [HX.out] at cb)
    | (go_at_call 113; refine nz (comparel_c x I.i (by omega) (by omega) (by omega) (by omega) _) ?_))
  all_goals first
    | ((first | go_end0 | refine bodyPost_ret (results_none rfl _ _ _) rfl ?_); exact gp_ok (R1.out.setcc _) ((HE.out Z2.out).trans rfl))
    | (refine ⟨rfl, gp_no R1.out ?_ Z2.out⟩; exact congrArg Out.c (imO_no (P := ⟨os, p.key, p.il, p.cc, p.pg, p.ad, bs, ks⟩) (a := A) (by decide) Z2.out))
set_option maxRecDepth 1000000 in
set_option maxHeartbeats 8000000 in
theorem pim_145 (h : PS w0 w g F I os os p p false bs ks) (ho : I.op = 145) : Calls Tryz.prog 46 #[.pointer (some ⟨g, 0, none⟩)] w (Gp w0 g F I os p bs ks (imO ⟨os, p.key, p.il, p.cc, p.pg, p.ad, bs, ks⟩ I.op (I.a1 os) I.i)) := by
  have i0 := h.ix.i
  have A0 := I.a1_in os
  have SC := Lib.hid (fun W (hW : PS w0 W g F I os os p p false bs ks) => pfst_c hW)
  obtain ⟨A, hA⟩ : ∃ A, I.a1 os = A := ⟨_, rfl⟩
  rw [hA] at SC A0 ⊢
  clear hA
  have j1 : IntKind.u8.wrap I.i = I.i := by rw [IntKind.wrap_u8]; omega
  have x0 := sGet_in A 1 h.st.rb 0
  obtain ⟨x, hx⟩ : ∃ x, (sGet bs A 1).getD 0 0 = x := ⟨_, rfl⟩
  rw [hx] at x0
  have HX := Lib.hid (show (sGet bs A ((1 : Nat) : Int)).getD 0 0 = x from hx)
  have KI : Hid (∀ W rs q ov bs ks, PS w0 W g F I os rs p q ov bs ks → W.cell? ⟨g, 11, none⟩ = some (.int .i64 I.i)) := Lib.hid fun W rs q ov bs ks h => h.m.ci (c := 11) (by omega)
  obtain ⟨y, hy⟩ : ∃ y, bits .and .u8 x I.i = y := ⟨_, rfl⟩
  have yz : (y = 0 ∧ (y == 0) = true) ∨ (y ≠ 0 ∧ (y == 0) = false ∧ y = I.i ∧ (y == I.i) = true) ∨ (y ≠ 0 ∧ (y == 0) = false ∧ y ≠ I.i ∧ (y == I.i) = false) := by by_cases h : y = 0 <;> by_cases h2 : y = I.i <;> simp [h, h2] <;> simp_all
  rw [ho]
  have HO := Lib.hid ho
  have HE := Lib.hid (show Pre.fc ⟨os, p.key, p.il, p.cc, p.pg, p.ad, bs, ks⟩ A 1 = 0 → imO ⟨os, p.key, p.il, p.cc, p.pg, p.ad, bs, ks⟩ 145 A I.i = Pre.st ⟨os, p.key, p.il, p.cc, p.pg, p.ad, bs, ks⟩ os (if y = 0 then 0 else if y = I.i then 3 else 1) false from fun h0 => by unfold imO; rw [if_neg (by decide), if_neg (fun h => h h0), ← hy, ← hx]; rfl)
  have R0 := Lib.hid h
  clear hx ho h
  rcases yz with ⟨y0, y1⟩ | ⟨y0, y1, y2, y3⟩ | ⟨y0, y1, y2, y3⟩
  all_goals
    have Y0 := Lib.hid y0
    (try have Y1 := Lib.hid y2)
    (try clear y2)
    clear y0
    refine R0.out.opn ?_
    intros
    go_enter Tryz.func46, Tryz.ntmps46
    go_upto_region 0 with fail
    refine wp_region_held_drew (S := Sy w0 g F I os p) (by kernel_rfl) R0.out.drew.x (fun hHeld => ?_)
    have R1 := Lib.hid R0.out.drew
    clear R0
    repeat refine tkp ?_
    refine tkc (SC.out _ R1.out) (fun _ h => h.x) ?_
    clear R1 hHeld
    intro w2 R1 hHeld
    repeat refine tkp ?_
    refine wpAnyH_done (by kernel_rfl) ?_ _
    refine R1.out.opn ?_
    clear hHeld
    intros
    go_wp2_with (first
      | (go_at_call 108; refine nxh (pfet_c R1.out A 1 (by omega)) (fun b cap w1 Z2 O1 hb1 hb2 R1 => R1.out.opn ?_) (fun w1 Z2 R1 => ?_) <;> intros; have cb := byt0 O1.out.byt (by omega); rw [HX.out] at cb))
    all_goals first
      | ((first | go_end0 | refine bodyPost_ret (results_none rfl _ _ _) rfl ?_); first | exact gp_ok (R1.out.setcc 0) ((HE.out Z2.out).trans (by rw [if_pos Y0.out]; rfl)) | exact gp_ok (R1.out.setcc 3) ((HE.out Z2.out).trans (by rw [if_neg Y0.out, if_pos Y1.out]; rfl)) | exact gp_ok (R1.out.setcc 1) ((HE.out Z2.out).trans (by rw [if_neg Y0.out, if_neg Y1.out]; rfl)))
      | (refine ⟨rfl, gp_no R1.out ?_ Z2.out⟩; exact congrArg Out.c (imO_no (P := ⟨os, p.key, p.il, p.cc, p.pg, p.ad, bs, ks⟩) (a := A) (by decide) Z2.out))
set_option maxRecDepth 1000000 in
set_option maxHeartbeats 8000000 in
theorem pim_147 (h : PS w0 w g F I os os p p false bs ks) (ho : I.op = 147) : Calls Tryz.prog 46 #[.pointer (some ⟨g, 0, none⟩)] w (Gp w0 g F I os p bs ks (imO ⟨os, p.key, p.il, p.cc, p.pg, p.ad, bs, ks⟩ I.op (I.a1 os) I.i)) := by
  have i0 := h.ix.i
  have A0 := I.a1_in os
  have SC := Lib.hid (fun W (hW : PS w0 W g F I os os p p false bs ks) => pfst_c hW)
  obtain ⟨A, hA⟩ : ∃ A, I.a1 os = A := ⟨_, rfl⟩
  rw [hA] at SC A0 ⊢
  clear hA
  have j1 : IntKind.u8.wrap I.i = I.i := by rw [IntKind.wrap_u8]; omega
  have x0 := sGet_in A 1 h.st.rb 0
  obtain ⟨x, hx⟩ : ∃ x, (sGet bs A 1).getD 0 0 = x := ⟨_, rfl⟩
  rw [hx] at x0
  have HX := Lib.hid (show (sGet bs A ((1 : Nat) : Int)).getD 0 0 = x from hx)
  have KI : Hid (∀ W rs q ov bs ks, PS w0 W g F I os rs p q ov bs ks → W.cell? ⟨g, 11, none⟩ = some (.int .i64 I.i)) := Lib.hid fun W rs q ov bs ks h => h.m.ci (c := 11) (by omega)
  have j2 : IntKind.i64.wrap (x / 128) = x / 128 := wrap_i64_id (by omega) (by omega)
  rw [ho]
  have HO := Lib.hid ho
  have HE := Lib.hid (show Pre.fc ⟨os, p.key, p.il, p.cc, p.pg, p.ad, bs, ks⟩ A 1 = 0 → imO ⟨os, p.key, p.il, p.cc, p.pg, p.ad, bs, ks⟩ 147 A I.i = Pre.wr ⟨os, p.key, p.il, p.cc, p.pg, p.ad, bs, ks⟩ A 1 [255] (x / 128) from fun h0 => by unfold imO; rw [if_neg (by decide), if_neg (fun h => h h0), ← hx]; rfl)
  have R0 := Lib.hid h
  clear hx ho h
  refine R0.out.opn ?_
  intros
  go_enter Tryz.func46, Tryz.ntmps46
  go_upto_region 0 with fail
  refine wp_region_held_drew (S := Sy w0 g F I os p) (by kernel_rfl) R0.out.drew.x (fun hHeld => ?_)
  have R1 := Lib.hid R0.out.drew
  clear R0
  repeat refine tkp ?_
  refine tkc (SC.out _ R1.out) (fun _ h => h.x) ?_
  clear R1 hHeld
  intro w2 R1 hHeld
  repeat refine tkp ?_
  refine wpAnyH_done (by kernel_rfl) ?_ _
  refine R1.out.opn ?_
  clear hHeld
  intros
  go_wp2_with (first
    | (go_at_call 108; refine nxh (pfet_c R1.out A 1 (by omega)) (fun b cap w1 Z2 O1 hb1 hb2 R1 => R1.out.opn ?_) (fun w1 Z2 R1 => ?_) <;> intros; have cb := byt0 O1.out.byt (by omega); rw [HX.out] at cb)
    | (go_at_call 105; refine nxk (pput_c (R1.out.one _) A _ 1 _ [255] (byt_one _ (by omega)) (by omega)) (fun w1 Z3 R1 => R1.out.opn ?_) (fun w1 Z3 R1 => ?_) <;> intros))
  all_goals first
    | ((first | go_end0 | refine bodyPost_ret (results_none rfl _ _ _) rfl ?_); exact gp_ok (R1.out.setcc _) ((HE.out Z2.out).trans (wr_ok Z3.out)))
    | (refine ⟨rfl, gp_no R1.out ?_ Z3.out⟩; exact (congrArg Out.c (HE.out Z2.out)).trans (wr_no Z3.out))
    | (refine ⟨rfl, gp_no R1.out ?_ Z2.out⟩; exact congrArg Out.c (imO_no (P := ⟨os, p.key, p.il, p.cc, p.pg, p.ad, bs, ks⟩) (a := A) (by decide) Z2.out))
set_option maxRecDepth 1000000 in
set_option maxHeartbeats 8000000 in
theorem pim_148 (h : PS w0 w g F I os os p p false bs ks) (ho : I.op = 148) : Calls Tryz.prog 46 #[.pointer (some ⟨g, 0, none⟩)] w (Gp w0 g F I os p bs ks (imO ⟨os, p.key, p.il, p.cc, p.pg, p.ad, bs, ks⟩ I.op (I.a1 os) I.i)) := by
  have i0 := h.ix.i
  have A0 := I.a1_in os
  have SC := Lib.hid (fun W (hW : PS w0 W g F I os os p p false bs ks) => pfst_c hW)
  obtain ⟨A, hA⟩ : ∃ A, I.a1 os = A := ⟨_, rfl⟩
  rw [hA] at SC A0 ⊢
  clear hA
  have j1 : IntKind.u8.wrap I.i = I.i := by rw [IntKind.wrap_u8]; omega
  have x0 := sGet_in A 1 h.st.rb 0
  obtain ⟨x, hx⟩ : ∃ x, (sGet bs A 1).getD 0 0 = x := ⟨_, rfl⟩
  rw [hx] at x0
  have HX := Lib.hid (show (sGet bs A ((1 : Nat) : Int)).getD 0 0 = x from hx)
  have KI : Hid (∀ W rs q ov bs ks, PS w0 W g F I os rs p q ov bs ks → W.cell? ⟨g, 11, none⟩ = some (.int .i64 I.i)) := Lib.hid fun W rs q ov bs ks h => h.m.ci (c := 11) (by omega)
  have y0 := cb_in 212 x I.i x0.1 x0.2 i0.1 i0.2
  obtain ⟨y, hy⟩ : ∃ y, bits .and .u8 x I.i = y := ⟨_, rfl⟩
  have y0 : 0 ≤ y ∧ y ≤ 255 := hy ▸ y0
  rw [ho]
  have HO := Lib.hid ho
  have HE := Lib.hid (show Pre.fc ⟨os, p.key, p.il, p.cc, p.pg, p.ad, bs, ks⟩ A 1 = 0 → imO ⟨os, p.key, p.il, p.cc, p.pg, p.ad, bs, ks⟩ 148 A I.i = Pre.wr ⟨os, p.key, p.il, p.cc, p.pg, p.ad, bs, ks⟩ A 1 [y] (if y = 0 then 0 else 1) from fun h0 => by unfold imO; rw [if_neg (by decide), if_neg (fun h => h h0), ← hy, ← hx]; rfl)
  have R0 := Lib.hid h
  clear hx ho h
  refine R0.out.opn ?_
  intros
  go_enter Tryz.func46, Tryz.ntmps46
  go_upto_region 0 with fail
  refine wp_region_held_drew (S := Sy w0 g F I os p) (by kernel_rfl) R0.out.drew.x (fun hHeld => ?_)
  have R1 := Lib.hid R0.out.drew
  clear R0
  repeat refine tkp ?_
  refine tkc (SC.out _ R1.out) (fun _ h => h.x) ?_
  clear R1 hHeld
  intro w2 R1 hHeld
  repeat refine tkp ?_
  refine wpAnyH_done (by kernel_rfl) ?_ _
  refine R1.out.opn ?_
  clear hHeld
  intros
  go_wp2_with (first
    | (go_at_call 108; refine nxh (pfet_c R1.out A 1 (by omega)) (fun b cap w1 Z2 O1 hb1 hb2 R1 => R1.out.opn ?_) (fun w1 Z2 R1 => ?_) <;> intros; have cb := byt0 O1.out.byt (by omega); rw [HX.out] at cb)
    | (go_at_call 112; refine nxk (pchg_c R1.out A y0) (fun w1 Z3 R1 => ?_) (fun w1 Z3 R1 => ?_)))
  all_goals first
    | ((first | go_end0 | refine bodyPost_ret (results_none rfl _ _ _) rfl ?_); exact gp_ok R1.out ((HE.out Z2.out).trans (wr_ok Z3.out)))
    | (refine ⟨rfl, gp_no R1.out ?_ Z3.out⟩; exact (congrArg Out.c (HE.out Z2.out)).trans (wr_no Z3.out))
    | (refine ⟨rfl, gp_no R1.out ?_ Z2.out⟩; exact congrArg Out.c (imO_no (P := ⟨os, p.key, p.il, p.cc, p.pg, p.ad, bs, ks⟩) (a := A) (by decide) Z2.out))
set_option maxRecDepth 1000000 in
set_option maxHeartbeats 8000000 in
theorem pim_150 (h : PS w0 w g F I os os p p false bs ks) (ho : I.op = 150) : Calls Tryz.prog 46 #[.pointer (some ⟨g, 0, none⟩)] w (Gp w0 g F I os p bs ks (imO ⟨os, p.key, p.il, p.cc, p.pg, p.ad, bs, ks⟩ I.op (I.a1 os) I.i)) := by
  have i0 := h.ix.i
  have A0 := I.a1_in os
  have SC := Lib.hid (fun W (hW : PS w0 W g F I os os p p false bs ks) => pfst_c hW)
  obtain ⟨A, hA⟩ : ∃ A, I.a1 os = A := ⟨_, rfl⟩
  rw [hA] at SC A0 ⊢
  clear hA
  have j1 : IntKind.u8.wrap I.i = I.i := by rw [IntKind.wrap_u8]; omega
  have x0 := sGet_in A 1 h.st.rb 0
  obtain ⟨x, hx⟩ : ∃ x, (sGet bs A 1).getD 0 0 = x := ⟨_, rfl⟩
  rw [hx] at x0
  have HX := Lib.hid (show (sGet bs A ((1 : Nat) : Int)).getD 0 0 = x from hx)
  have KI : Hid (∀ W rs q ov bs ks, PS w0 W g F I os rs p q ov bs ks → W.cell? ⟨g, 11, none⟩ = some (.int .i64 I.i)) := Lib.hid fun W rs q ov bs ks h => h.m.ci (c := 11) (by omega)
  have y0 := cb_in 214 x I.i x0.1 x0.2 i0.1 i0.2
  obtain ⟨y, hy⟩ : ∃ y, bits .or .u8 x I.i = y := ⟨_, rfl⟩
  have y0 : 0 ≤ y ∧ y ≤ 255 := hy ▸ y0
  rw [ho]
  have HO := Lib.hid ho
  have HE := Lib.hid (show Pre.fc ⟨os, p.key, p.il, p.cc, p.pg, p.ad, bs, ks⟩ A 1 = 0 → imO ⟨os, p.key, p.il, p.cc, p.pg, p.ad, bs, ks⟩ 150 A I.i = Pre.wr ⟨os, p.key, p.il, p.cc, p.pg, p.ad, bs, ks⟩ A 1 [y] (if y = 0 then 0 else 1) from fun h0 => by unfold imO; rw [if_neg (by decide), if_neg (fun h => h h0), ← hy, ← hx]; rfl)
  have R0 := Lib.hid h
  clear hx ho h
  refine R0.out.opn ?_
  intros
  go_enter Tryz.func46, Tryz.ntmps46
  go_upto_region 0 with fail
  refine wp_region_held_drew (S := Sy w0 g F I os p) (by kernel_rfl) R0.out.drew.x (fun hHeld => ?_)
  have R1 := Lib.hid R0.out.drew
  clear R0
  repeat refine tkp ?_
  refine tkc (SC.out _ R1.out) (fun _ h => h.x) ?_
  clear R1 hHeld
  intro w2 R1 hHeld
  repeat refine tkp ?_
  refine wpAnyH_done (by kernel_rfl) ?_ _
  refine R1.out.opn ?_
  clear hHeld
  intros
  go_wp2_with (first
    | (go_at_call 108; refine nxh (pfet_c R1.out A 1 (by omega)) (fun b cap w1 Z2 O1 hb1 hb2 R1 => R1.out.opn ?_) (fun w1 Z2 R1 => ?_) <;> intros; have cb := byt0 O1.out.byt (by omega); rw [HX.out] at cb)
    | (go_at_call 112; refine nxk (pchg_c R1.out A y0) (fun w1 Z3 R1 => ?_) (fun w1 Z3 R1 => ?_)))
  all_goals first
    | ((first | go_end0 | refine bodyPost_ret (results_none rfl _ _ _) rfl ?_); exact gp_ok R1.out ((HE.out Z2.out).trans (wr_ok Z3.out)))
    | (refine ⟨rfl, gp_no R1.out ?_ Z3.out⟩; exact (congrArg Out.c (HE.out Z2.out)).trans (wr_no Z3.out))
    | (refine ⟨rfl, gp_no R1.out ?_ Z2.out⟩; exact congrArg Out.c (imO_no (P := ⟨os, p.key, p.il, p.cc, p.pg, p.ad, bs, ks⟩) (a := A) (by decide) Z2.out))
set_option maxRecDepth 1000000 in
set_option maxHeartbeats 8000000 in
theorem pim_151 (h : PS w0 w g F I os os p p false bs ks) (ho : I.op = 151) : Calls Tryz.prog 46 #[.pointer (some ⟨g, 0, none⟩)] w (Gp w0 g F I os p bs ks (imO ⟨os, p.key, p.il, p.cc, p.pg, p.ad, bs, ks⟩ I.op (I.a1 os) I.i)) := by
  have i0 := h.ix.i
  have A0 := I.a1_in os
  have SC := Lib.hid (fun W (hW : PS w0 W g F I os os p p false bs ks) => pfst_c hW)
  obtain ⟨A, hA⟩ : ∃ A, I.a1 os = A := ⟨_, rfl⟩
  rw [hA] at SC A0 ⊢
  clear hA
  have j1 : IntKind.u8.wrap I.i = I.i := by rw [IntKind.wrap_u8]; omega
  have x0 := sGet_in A 1 h.st.rb 0
  obtain ⟨x, hx⟩ : ∃ x, (sGet bs A 1).getD 0 0 = x := ⟨_, rfl⟩
  rw [hx] at x0
  have HX := Lib.hid (show (sGet bs A ((1 : Nat) : Int)).getD 0 0 = x from hx)
  have KI : Hid (∀ W rs q ov bs ks, PS w0 W g F I os rs p q ov bs ks → W.cell? ⟨g, 11, none⟩ = some (.int .i64 I.i)) := Lib.hid fun W rs q ov bs ks h => h.m.ci (c := 11) (by omega)
  have y0 := cb_in 215 x I.i x0.1 x0.2 i0.1 i0.2
  obtain ⟨y, hy⟩ : ∃ y, bits .xor .u8 x I.i = y := ⟨_, rfl⟩
  have y0 : 0 ≤ y ∧ y ≤ 255 := hy ▸ y0
  rw [ho]
  have HO := Lib.hid ho
  have HE := Lib.hid (show Pre.fc ⟨os, p.key, p.il, p.cc, p.pg, p.ad, bs, ks⟩ A 1 = 0 → imO ⟨os, p.key, p.il, p.cc, p.pg, p.ad, bs, ks⟩ 151 A I.i = Pre.wr ⟨os, p.key, p.il, p.cc, p.pg, p.ad, bs, ks⟩ A 1 [y] (if y = 0 then 0 else 1) from fun h0 => by unfold imO; rw [if_neg (by decide), if_neg (fun h => h h0), ← hy, ← hx]; rfl)
  have R0 := Lib.hid h
  clear hx ho h
  refine R0.out.opn ?_
  intros
  go_enter Tryz.func46, Tryz.ntmps46
  go_upto_region 0 with fail
  refine wp_region_held_drew (S := Sy w0 g F I os p) (by kernel_rfl) R0.out.drew.x (fun hHeld => ?_)
  have R1 := Lib.hid R0.out.drew
  clear R0
  repeat refine tkp ?_
  refine tkc (SC.out _ R1.out) (fun _ h => h.x) ?_
  clear R1 hHeld
  intro w2 R1 hHeld
  repeat refine tkp ?_
  refine wpAnyH_done (by kernel_rfl) ?_ _
  refine R1.out.opn ?_
  clear hHeld
  intros
  go_wp2_with (first
    | (go_at_call 108; refine nxh (pfet_c R1.out A 1 (by omega)) (fun b cap w1 Z2 O1 hb1 hb2 R1 => R1.out.opn ?_) (fun w1 Z2 R1 => ?_) <;> intros; have cb := byt0 O1.out.byt (by omega); rw [HX.out] at cb)
    | (go_at_call 112; refine nxk (pchg_c R1.out A y0) (fun w1 Z3 R1 => ?_) (fun w1 Z3 R1 => ?_)))
  all_goals first
    | ((first | go_end0 | refine bodyPost_ret (results_none rfl _ _ _) rfl ?_); exact gp_ok R1.out ((HE.out Z2.out).trans (wr_ok Z3.out)))
    | (refine ⟨rfl, gp_no R1.out ?_ Z3.out⟩; exact (congrArg Out.c (HE.out Z2.out)).trans (wr_no Z3.out))
    | (refine ⟨rfl, gp_no R1.out ?_ Z2.out⟩; exact congrArg Out.c (imO_no (P := ⟨os, p.key, p.il, p.cc, p.pg, p.ad, bs, ks⟩) (a := A) (by decide) Z2.out))
end
end Go.Proofs.YthjdjbipfdigeaaGreat

