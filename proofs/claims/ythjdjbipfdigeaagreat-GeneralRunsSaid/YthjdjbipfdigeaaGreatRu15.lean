/- Contracts and laws on the way to the statement, text 15 of 24. Conditions: as each states them. -/
import Derived.Test.YthjdjbipfdigeaaGreatRu4
import Derived.Test.YthjdjbipfdigeaaGreatRu5
import Derived.Test.YthjdjbipfdigeaaGreatRu6
import Derived.Test.YthjdjbipfdigeaaGreatRu9
import Derived.Test.YthjdjbipfdigeaaGreatRu10
import Derived.Test.YthjdjbipfdigeaaGreatRu13
import Derived.Test.YthjdjbipfdigeaaGreatRu14
import Derived.RegionTactic
import Derived.BigRegion
import Derived.Lib.Hide
import Derived.Outline
import Derived.Handy
import Derived.BigQuiet
import Derived.Deep.QuietTactic
import Derived.StillTailTactics
import Derived.Deep.RegionHeld3
import Derived.Laws.Append
import Derived.Laws.AppendOwn
namespace Go.Proofs.YthjdjbipfdigeaaGreat
open Go.RowKit
set_option maxRecDepth 100000
set_option linter.unusedVariables false
set_option linter.unusedSimpArgs false
section
variable {w0 w : World} {g : Nat} {G : Foot} {I : In} {os rs : List Int} {p q : Ps} {c : Int} {bs ks : List Int}
set_option maxRecDepth 1000000 in
set_option maxHeartbeats 8000000 in
theorem rar_24 (h : RS w0 w g G I os os p p 0 bs ks) (ho : I.op = 24 ∨ I.op = 88 ∨ I.op = 72) : Calls Tryz.prog 30 #[.pointer (some ⟨g, 0, none⟩)] w fun e w' => e = .returned (.tuple #[]) ∧ Gd w0 w' g G I os p ks (arO ⟨os, p.key, p.il, p.cc, p.pg, p.ad, bs, ks⟩ I.op I.n (oC 0 I os bs ks p.key) (oV 0 I os bs ks p.key)) := by
  obtain ⟨u, hu⟩ : ∃ u, os.getD I.n 0 = u := ⟨_, rfl⟩
  obtain ⟨v, hv⟩ : ∃ v, os.getD I.k 0 = v := ⟨_, rfl⟩
  have u0 := getD_in h.ro I.n
  have v0 := getD_in h.ro I.k
  rw [hu] at u0
  rw [hv] at v0
  obtain ⟨V, hV⟩ : ∃ V, oV 0 I os bs ks p.key = V := ⟨_, rfl⟩
  obtain ⟨cV, hcV⟩ : ∃ e, oC 0 I os bs ks p.key = e := ⟨_, rfl⟩
  have V0 := oV_in (c := 0) (key := p.key) (I := I) (ks := ks) h.ro h.st.rb
  rw [hV] at V0 ⊢
  rw [hcV]
  have RO := Lib.hid (fun W (hW : RS w0 W g G I os os p p 0 bs ks) => show Calls Tryz.prog 80 #[.pointer (some ⟨g, 0, none⟩)] W fun e w' => e = .returned (.int .u32 V) ∧ RS w0 w' g G I os os p p cV bs ks from by have := roperand_c hW; rw [hV, hcV] at this; exact this)
  clear hV hcV
  rcases ho with ho | ho | ho
  all_goals
    rw [ho]
    have HU := Lib.hid hu
    have HV := Lib.hid hv
    have HO := Lib.hid ho
    have R0 := Lib.hid h
    clear hu hv ho h
    refine R0.out.opn ?_
    intros
    go_enter Tryz.func30, Tryz.ntmps30
    go_upto_region 0 with fail
    refine wp_region_held_drew (S := Sx w0 g G I os p) (by kernel_rfl) R0.out.drew.x (fun hHeld => ?_)
    replace R0 := Lib.hid R0.out.drew
    repeat refine tkr ?_
    refine wpAnyH_done (by kernel_rfl) ?_ _
    refine R0.out.opn ?_
    clear hHeld
    intros
    go_upto_region 10 with (go_at_call 80; refine nx (RO.out _ hout) fun w1 R1 => R1.out.opn ?_; intros)
    refine wp_region_held_drew (S := Sx w0 g G I os p) (by kernel_rfl) R1.out.drew.x (fun hHeld => ?_)
    replace R1 := Lib.hid R1.out.drew
    repeat refine tkr ?_
    have cS := R1.out.cr (n := I.n) (R1.out.ix.n)
    have fS := R1.out.fz
    refine tkw (R := fun w' => RS w0 w' g G I os (os.set I.n V) p p cV bs ks) (R1.out.setr (R1.out.ix.n) _) (fun _ h => h.x) ?_
    clear cS fS R1 hHeld
    intro w1 R1 hHeld
    refine wpAnyH_done (by kernel_rfl) ?_ _
    refine R1.out.opn ?_
    clear hHeld
    intros
    go_wp2
    first | go_end0 | refine bodyPost_ret (results_none rfl _ _ _) rfl ?_
    exact ⟨rfl, gd_ar (C := p.cc) (O := false) (by rw [svC_f]; exact hout) (fun h => by rw [h]; rfl) (fun h => by unfold arO; rw [if_neg (by decide), if_pos h])⟩
set_option maxRecDepth 1000000 in
set_option maxHeartbeats 8000000 in
theorem rar_76 (h : RS w0 w g G I os os p p 0 bs ks) (ho : I.op = 76) : Calls Tryz.prog 30 #[.pointer (some ⟨g, 0, none⟩)] w fun e w' => e = .returned (.tuple #[]) ∧ Gd w0 w' g G I os p ks (arO ⟨os, p.key, p.il, p.cc, p.pg, p.ad, bs, ks⟩ I.op I.n (oC 0 I os bs ks p.key) (oV 0 I os bs ks p.key)) := by
  obtain ⟨u, hu⟩ : ∃ u, os.getD I.n 0 = u := ⟨_, rfl⟩
  obtain ⟨v, hv⟩ : ∃ v, os.getD I.k 0 = v := ⟨_, rfl⟩
  have u0 := getD_in h.ro I.n
  have v0 := getD_in h.ro I.k
  rw [hu] at u0
  rw [hv] at v0
  obtain ⟨V, hV⟩ : ∃ V, oV 0 I os bs ks p.key = V := ⟨_, rfl⟩
  obtain ⟨cV, hcV⟩ : ∃ e, oC 0 I os bs ks p.key = e := ⟨_, rfl⟩
  have V0 := oV_in (c := 0) (key := p.key) (I := I) (ks := ks) h.ro h.st.rb
  rw [hV] at V0 ⊢
  rw [hcV]
  have RO := Lib.hid (fun W (hW : RS w0 W g G I os os p p 0 bs ks) => show Calls Tryz.prog 80 #[.pointer (some ⟨g, 0, none⟩)] W fun e w' => e = .returned (.int .u32 V) ∧ RS w0 w' g G I os os p p cV bs ks from by have := roperand_c hW; rw [hV, hcV] at this; exact this)
  clear hV hcV
  rcases ho with ho
  all_goals
    rw [ho]
    have HU := Lib.hid hu
    have HV := Lib.hid hv
    have HO := Lib.hid ho
    have R0 := Lib.hid h
    clear hu hv ho h
    refine R0.out.opn ?_
    intros
    go_enter Tryz.func30, Tryz.ntmps30
    go_upto_region 0 with fail
    refine wp_region_held_drew (S := Sx w0 g G I os p) (by kernel_rfl) R0.out.drew.x (fun hHeld => ?_)
    replace R0 := Lib.hid R0.out.drew
    repeat refine tkr ?_
    refine wpAnyH_done (by kernel_rfl) ?_ _
    refine R0.out.opn ?_
    clear hHeld
    intros
    go_upto_region 57 with (first
        | (go_at_call 80; refine nx (RO.out _ hout) fun w1 R1 => R1.out.opn ?_; intros)
        | (go_at_call 87; refine (rmul_c u V u0.1 u0.2 V0.1 V0.2 _).mono ?_; rintro e wx ⟨rfl, rfl⟩))
    refine wp_region_held_drew (S := Sx w0 g G I os p) (by kernel_rfl) R1.out.drew.x (fun hHeld => ?_)
    replace R1 := Lib.hid R1.out.drew
    repeat refine tkr ?_
    have cS := R1.out.cr (n := I.n) (R1.out.ix.n)
    have fS := R1.out.fz
    refine tkw (R := fun w' => RS w0 w' g G I os (os.set I.n (lo32 (sg u * sg V))) p p cV bs ks) (R1.out.setr (R1.out.ix.n) _) (fun _ h => h.x) ?_
    clear cS fS R1 hHeld
    intro w1 R1 hHeld
    refine wpAnyH_done (by kernel_rfl) ?_ _
    refine R1.out.opn ?_
    clear hHeld
    intros
    go_wp2
    first | go_end0 | refine bodyPost_ret (results_none rfl _ _ _) rfl ?_
    exact ⟨rfl, gd_ar (C := p.cc) (O := false) (by rw [svC_f]; exact hout) (fun h => by rw [← HU.out, h]; rfl) (fun h => by unfold arO; rw [if_neg (by decide), if_pos h])⟩
end
end Go.Proofs.YthjdjbipfdigeaaGreat

namespace Go.Proofs.YthjdjbipfdigeaaGreat
open Go.RowKit
set_option maxRecDepth 100000
set_option linter.unusedVariables false
set_option linter.unusedSimpArgs false
section
variable {w0 w : World} {g : Nat} {G : Foot} {I : In} {os rs : List Int} {p q : Ps} {c : Int} {bs ks : List Int}
set_option maxRecDepth 1000000 in
set_option maxHeartbeats 8000000 in
theorem rar_18 (h : RS w0 w g G I os os p p 0 bs ks) (ho : I.op = 18) : Calls Tryz.prog 30 #[.pointer (some ⟨g, 0, none⟩)] w fun e w' => e = .returned (.tuple #[]) ∧ Gd w0 w' g G I os p ks (arO ⟨os, p.key, p.il, p.cc, p.pg, p.ad, bs, ks⟩ I.op I.n (oC 0 I os bs ks p.key) (oV 0 I os bs ks p.key)) := by
  obtain ⟨u, hu⟩ : ∃ u, os.getD I.n 0 = u := ⟨_, rfl⟩
  obtain ⟨v, hv⟩ : ∃ v, os.getD I.k 0 = v := ⟨_, rfl⟩
  have u0 := getD_in h.ro I.n
  have v0 := getD_in h.ro I.k
  rw [hu] at u0
  rw [hv] at v0
  obtain ⟨V, hV⟩ : ∃ V, oV 0 I os bs ks p.key = V := ⟨_, rfl⟩
  obtain ⟨cV, hcV⟩ : ∃ e, oC 0 I os bs ks p.key = e := ⟨_, rfl⟩
  have V0 := oV_in (c := 0) (key := p.key) (I := I) (ks := ks) h.ro h.st.rb
  rw [hV] at V0 ⊢
  rw [hcV]
  have RO := Lib.hid (fun W (hW : RS w0 W g G I os os p p 0 bs ks) => show Calls Tryz.prog 80 #[.pointer (some ⟨g, 0, none⟩)] W fun e w' => e = .returned (.int .u32 V) ∧ RS w0 w' g G I os os p p cV bs ks from by have := roperand_c hW; rw [hV, hcV] at this; exact this)
  clear hV hcV
  have HT := Lib.hid trivial
  rcases ho with ho
  all_goals
    rw [ho]
    have HU := Lib.hid hu
    have HV := Lib.hid hv
    have HO := Lib.hid ho
    have R0 := Lib.hid h
    clear hu hv ho h
    refine R0.out.opn ?_
    intros
    go_enter Tryz.func30, Tryz.ntmps30
    go_upto_region 0 with fail
    refine wp_region_held_drew (S := Sx w0 g G I os p) (by kernel_rfl) R0.out.drew.x (fun hHeld => ?_)
    replace R0 := Lib.hid R0.out.drew
    repeat refine tkr ?_
    refine wpAnyH_done (by kernel_rfl) ?_ _
    refine R0.out.opn ?_
    clear hHeld
    intros
    go_wp2_with (first
        | (go_at_call 80; refine nx (RO.out _ hout) fun w1 R1 => R1.out.opn ?_; intros)
        | (go_at_call 62; refine nx (rset_c hout _ _ _) ?_; intro w1 R1)
        | (go_at_call 81; refine (rtest_c V V0.1 V0.2 _).mono ?_; rintro e wx ⟨rfl, rfl⟩)
        | (go_at_call 82; refine (rcomplement_c V V0.1 V0.2 _).mono ?_; rintro e wx ⟨rfl, rfl⟩))
    first | go_end0 | refine bodyPost_ret (results_none rfl _ _ _) rfl ?_
    exact ⟨rfl, gd_ar hout (fun h => by rw [h]; first | rfl | (have k := HT.out; simp at k; simp [arO, sgnV, sgnQ, sgnO, sgnC, k]; done)) (fun h => by unfold arO; rw [if_neg (by decide), if_pos h])⟩
set_option maxRecDepth 1000000 in
set_option maxHeartbeats 8000000 in
theorem rar_19 (h : RS w0 w g G I os os p p 0 bs ks) (ho : I.op = 19) : Calls Tryz.prog 30 #[.pointer (some ⟨g, 0, none⟩)] w fun e w' => e = .returned (.tuple #[]) ∧ Gd w0 w' g G I os p ks (arO ⟨os, p.key, p.il, p.cc, p.pg, p.ad, bs, ks⟩ I.op I.n (oC 0 I os bs ks p.key) (oV 0 I os bs ks p.key)) := by
  obtain ⟨u, hu⟩ : ∃ u, os.getD I.n 0 = u := ⟨_, rfl⟩
  obtain ⟨v, hv⟩ : ∃ v, os.getD I.k 0 = v := ⟨_, rfl⟩
  have u0 := getD_in h.ro I.n
  have v0 := getD_in h.ro I.k
  rw [hu] at u0
  rw [hv] at v0
  obtain ⟨V, hV⟩ : ∃ V, oV 0 I os bs ks p.key = V := ⟨_, rfl⟩
  obtain ⟨cV, hcV⟩ : ∃ e, oC 0 I os bs ks p.key = e := ⟨_, rfl⟩
  have V0 := oV_in (c := 0) (key := p.key) (I := I) (ks := ks) h.ro h.st.rb
  rw [hV] at V0 ⊢
  rw [hcV]
  have RO := Lib.hid (fun W (hW : RS w0 W g G I os os p p 0 bs ks) => show Calls Tryz.prog 80 #[.pointer (some ⟨g, 0, none⟩)] W fun e w' => e = .returned (.int .u32 V) ∧ RS w0 w' g G I os os p p cV bs ks from by have := roperand_c hW; rw [hV, hcV] at this; exact this)
  clear hV hcV
  have HT := Lib.hid trivial
  rcases ho with ho
  all_goals
    rw [ho]
    have HU := Lib.hid hu
    have HV := Lib.hid hv
    have HO := Lib.hid ho
    have R0 := Lib.hid h
    clear hu hv ho h
    refine R0.out.opn ?_
    intros
    go_enter Tryz.func30, Tryz.ntmps30
    go_upto_region 0 with fail
    refine wp_region_held_drew (S := Sx w0 g G I os p) (by kernel_rfl) R0.out.drew.x (fun hHeld => ?_)
    replace R0 := Lib.hid R0.out.drew
    repeat refine tkr ?_
    refine wpAnyH_done (by kernel_rfl) ?_ _
    refine R0.out.opn ?_
    clear hHeld
    intros
    go_wp2_with (first
        | (go_at_call 80; refine nx (RO.out _ hout) fun w1 R1 => R1.out.opn ?_; intros)
        | (go_at_call 62; refine nx (rset_c hout _ _ _) ?_; intro w1 R1)
        | (go_at_call 81; refine (rtest_c V V0.1 V0.2 _).mono ?_; rintro e wx ⟨rfl, rfl⟩)
        | (go_at_call 82; refine (rcomplement_c V V0.1 V0.2 _).mono ?_; rintro e wx ⟨rfl, rfl⟩))
    first | go_end0 | refine bodyPost_ret (results_none rfl _ _ _) rfl ?_
    exact ⟨rfl, gd_ar hout (fun h => by rw [h]; first | rfl | (have k := HT.out; simp at k; simp [arO, sgnV, sgnQ, sgnO, sgnC, k]; done)) (fun h => by unfold arO; rw [if_neg (by decide), if_pos h])⟩
set_option maxRecDepth 1000000 in
set_option maxHeartbeats 8000000 in
theorem rar_16 (h : RS w0 w g G I os os p p 0 bs ks) (ho : I.op = 16) : Calls Tryz.prog 30 #[.pointer (some ⟨g, 0, none⟩)] w fun e w' => e = .returned (.tuple #[]) ∧ Gd w0 w' g G I os p ks (arO ⟨os, p.key, p.il, p.cc, p.pg, p.ad, bs, ks⟩ I.op I.n (oC 0 I os bs ks p.key) (oV 0 I os bs ks p.key)) := by
  obtain ⟨u, hu⟩ : ∃ u, os.getD I.n 0 = u := ⟨_, rfl⟩
  obtain ⟨v, hv⟩ : ∃ v, os.getD I.k 0 = v := ⟨_, rfl⟩
  have u0 := getD_in h.ro I.n
  have v0 := getD_in h.ro I.k
  rw [hu] at u0
  rw [hv] at v0
  obtain ⟨V, hV⟩ : ∃ V, oV 0 I os bs ks p.key = V := ⟨_, rfl⟩
  obtain ⟨cV, hcV⟩ : ∃ e, oC 0 I os bs ks p.key = e := ⟨_, rfl⟩
  have V0 := oV_in (c := 0) (key := p.key) (I := I) (ks := ks) h.ro h.st.rb
  rw [hV] at V0 ⊢
  rw [hcV]
  have RO := Lib.hid (fun W (hW : RS w0 W g G I os os p p 0 bs ks) => show Calls Tryz.prog 80 #[.pointer (some ⟨g, 0, none⟩)] W fun e w' => e = .returned (.int .u32 V) ∧ RS w0 w' g G I os os p p cV bs ks from by have := roperand_c hW; rw [hV, hcV] at this; exact this)
  clear hV hcV
  cases ht : (sgn (sg V) == 1)
  all_goals
    have HT := Lib.hid ht
    rcases ho with ho
    all_goals
      rw [ho]
      have HU := Lib.hid hu
      have HV := Lib.hid hv
      have HO := Lib.hid ho
      have R0 := Lib.hid h
      clear hu hv ho h
      refine R0.out.opn ?_
      intros
      go_enter Tryz.func30, Tryz.ntmps30
      go_upto_region 0 with fail
      refine wp_region_held_drew (S := Sx w0 g G I os p) (by kernel_rfl) R0.out.drew.x (fun hHeld => ?_)
      replace R0 := Lib.hid R0.out.drew
      repeat refine tkr ?_
      refine wpAnyH_done (by kernel_rfl) ?_ _
      refine R0.out.opn ?_
      clear hHeld
      intros
      go_wp2_with (first
          | (go_at_call 80; refine nx (RO.out _ hout) fun w1 R1 => R1.out.opn ?_; intros)
          | (go_at_call 62; refine nx (rset_c hout _ _ _) ?_; intro w1 R1)
          | (go_at_call 81; refine (rtest_c V V0.1 V0.2 _).mono ?_; rintro e wx ⟨rfl, rfl⟩)
          | (go_at_call 82; refine (rcomplement_c V V0.1 V0.2 _).mono ?_; rintro e wx ⟨rfl, rfl⟩))
      first | go_end0 | refine bodyPost_ret (results_none rfl _ _ _) rfl ?_
      exact ⟨rfl, gd_ar hout (fun h => by rw [h]; first | rfl | (have k := HT.out; simp at k; simp [arO, sgnV, sgnQ, sgnO, sgnC, k]; done)) (fun h => by unfold arO; rw [if_neg (by decide), if_pos h])⟩
set_option maxRecDepth 1000000 in
set_option maxHeartbeats 8000000 in
theorem rar_17 (h : RS w0 w g G I os os p p 0 bs ks) (ho : I.op = 17) : Calls Tryz.prog 30 #[.pointer (some ⟨g, 0, none⟩)] w fun e w' => e = .returned (.tuple #[]) ∧ Gd w0 w' g G I os p ks (arO ⟨os, p.key, p.il, p.cc, p.pg, p.ad, bs, ks⟩ I.op I.n (oC 0 I os bs ks p.key) (oV 0 I os bs ks p.key)) := by
  obtain ⟨u, hu⟩ : ∃ u, os.getD I.n 0 = u := ⟨_, rfl⟩
  obtain ⟨v, hv⟩ : ∃ v, os.getD I.k 0 = v := ⟨_, rfl⟩
  have u0 := getD_in h.ro I.n
  have v0 := getD_in h.ro I.k
  rw [hu] at u0
  rw [hv] at v0
  obtain ⟨V, hV⟩ : ∃ V, oV 0 I os bs ks p.key = V := ⟨_, rfl⟩
  obtain ⟨cV, hcV⟩ : ∃ e, oC 0 I os bs ks p.key = e := ⟨_, rfl⟩
  have V0 := oV_in (c := 0) (key := p.key) (I := I) (ks := ks) h.ro h.st.rb
  rw [hV] at V0 ⊢
  rw [hcV]
  have RO := Lib.hid (fun W (hW : RS w0 W g G I os os p p 0 bs ks) => show Calls Tryz.prog 80 #[.pointer (some ⟨g, 0, none⟩)] W fun e w' => e = .returned (.int .u32 V) ∧ RS w0 w' g G I os os p p cV bs ks from by have := roperand_c hW; rw [hV, hcV] at this; exact this)
  clear hV hcV
  cases ht : (sgn (sg V) == 2)
  all_goals
    have HT := Lib.hid ht
    rcases ho with ho
    all_goals
      rw [ho]
      have HU := Lib.hid hu
      have HV := Lib.hid hv
      have HO := Lib.hid ho
      have R0 := Lib.hid h
      clear hu hv ho h
      refine R0.out.opn ?_
      intros
      go_enter Tryz.func30, Tryz.ntmps30
      go_upto_region 0 with fail
      refine wp_region_held_drew (S := Sx w0 g G I os p) (by kernel_rfl) R0.out.drew.x (fun hHeld => ?_)
      replace R0 := Lib.hid R0.out.drew
      repeat refine tkr ?_
      refine wpAnyH_done (by kernel_rfl) ?_ _
      refine R0.out.opn ?_
      clear hHeld
      intros
      go_wp2_with (first
          | (go_at_call 80; refine nx (RO.out _ hout) fun w1 R1 => R1.out.opn ?_; intros)
          | (go_at_call 62; refine nx (rset_c hout _ _ _) ?_; intro w1 R1)
          | (go_at_call 81; refine (rtest_c V V0.1 V0.2 _).mono ?_; rintro e wx ⟨rfl, rfl⟩)
          | (go_at_call 82; refine (rcomplement_c V V0.1 V0.2 _).mono ?_; rintro e wx ⟨rfl, rfl⟩))
      first | go_end0 | refine bodyPost_ret (results_none rfl _ _ _) rfl ?_
      exact ⟨rfl, gd_ar hout (fun h => by rw [h]; first | rfl | (have k := HT.out; simp at k; simp [arO, sgnV, sgnQ, sgnO, sgnC, k]; done)) (fun h => by unfold arO; rw [if_neg (by decide), if_pos h])⟩
end
end Go.Proofs.YthjdjbipfdigeaaGreat

namespace Go.Proofs.YthjdjbipfdigeaaGreat
open Go.RowKit
set_option maxRecDepth 100000
set_option linter.unusedVariables false
set_option linter.unusedSimpArgs false
section
variable {w0 w : World} {g : Nat} {G : Foot} {I : In} {os rs : List Int} {p q : Ps} {c : Int} {bs ks : List Int}
set_option maxRecDepth 1000000 in
set_option maxHeartbeats 8000000 in
theorem rprod_no (h : RS w0 w g G I os os p p c bs ks) (hn : oC c I os bs ks p.key ≠ 0) : Calls Tryz.prog 79 #[.pointer (some ⟨g, 0, none⟩)] w fun e w' => e = .returned (.tuple #[]) ∧ RS w0 w' g G I os os p p (oC c I os bs ks p.key) bs ks := by
  obtain ⟨V, hV⟩ : ∃ V, oV c I os bs ks p.key = V := ⟨_, rfl⟩
  obtain ⟨cV, hcV⟩ : ∃ e, oC c I os bs ks p.key = e := ⟨_, rfl⟩
  have V0 := oV_in (c := c) (key := p.key) (I := I) (ks := ks) h.ro h.st.rb
  rw [hV] at V0
  rw [hcV] at hn ⊢
  have RO := Lib.hid (fun W (hW : RS w0 W g G I os os p p c bs ks) => show Calls Tryz.prog 80 #[.pointer (some ⟨g, 0, none⟩)] W fun e w' => e = .returned (.int .u32 V) ∧ RS w0 w' g G I os os p p cV bs ks from by have := roperand_c hW; rw [hV, hcV] at this; exact this)
  clear hV hcV
  have e1 : (cV != 0) = true := by simpa using hn
  have R0 := Lib.hid h
  clear h hn
  refine R0.out.opn ?_
  intros
  go_enter Tryz.func79, Tryz.ntmps79
  go_wp2_with (go_at_call 80; refine nx (RO.out _ hout) fun w1 R1 => R1.out.opn ?_; intros)
  first | go_end0 | refine bodyPost_ret (results_none rfl _ _ _) rfl ?_
  exact ⟨rfl, hout⟩
set_option maxRecDepth 1000000 in
set_option maxHeartbeats 8000000 in
theorem rprod_mul (h : RS w0 w g G I os os p p c bs ks) (he : ¬ I.n % 2 = 1) (ho : I.op = 28 ∨ I.op = 92) (hz : oC c I os bs ks p.key = 0) : Calls Tryz.prog 79 #[.pointer (some ⟨g, 0, none⟩)] w fun e w' => e = .returned (.tuple #[]) ∧ RS w0 w' g G I os ((os.set I.n (lo32 (sg (os.getD (I.n + 1) 0) * sg (oV c I os bs ks p.key) / 4294967296))).set (I.n + 1) (lo32 (sg (os.getD (I.n + 1) 0) * sg (oV c I os bs ks p.key)))) p p 0 bs ks := by
  obtain ⟨u, hu⟩ : ∃ u, os.getD I.n 0 = u := ⟨_, rfl⟩
  obtain ⟨v, hv⟩ : ∃ v, os.getD I.k 0 = v := ⟨_, rfl⟩
  have u0 := getD_in h.ro I.n
  have v0 := getD_in h.ro I.k
  rw [hu] at u0 
  rw [hv] at v0
  obtain ⟨V, hV⟩ : ∃ V, oV c I os bs ks p.key = V := ⟨_, rfl⟩
  have V0 := oV_in (c := c) (key := p.key) (I := I) (ks := ks) h.ro h.st.rb
  rw [hV] at V0 ⊢
  have RO := Lib.hid (fun W (hW : RS w0 W g G I os os p p c bs ks) => show Calls Tryz.prog 80 #[.pointer (some ⟨g, 0, none⟩)] W fun e w' => e = .returned (.int .u32 V) ∧ RS w0 w' g G I os os p p 0 bs ks from by have := roperand_c hW; rw [hV, hz] at this; exact this)
  clear hV hz
  obtain ⟨y, hy⟩ : ∃ y, os.getD (I.n + 1) 0 = y := ⟨_, rfl⟩
  have y0 := getD_in h.ro (I.n + 1)
  rw [hy] at y0 ⊢
  have nb := h.ix.n
  have m0 : I.n + 1 < 16 := by omega
  have m1 : ((I.n : Int) + 1) < 16 := by omega
  have m2 : 0 ≤ (I.n : Int) + 1 := by omega
  have e0 : IntKind.i64.wrap ((I.n : Int) + 1) = (I.n : Int) + 1 := wrap_i64_id (by omega) (by omega)
  have HY := Lib.hid hy
  have HM := Lib.hid (show (I.n + 1) % 16 = I.n + 1 by omega)
  clear hy nb
  rcases ho with ho | ho
  all_goals
    have HU := Lib.hid hu
    have HV := Lib.hid hv
    have HO := Lib.hid ho
    have R0 := Lib.hid h
    clear hu hv ho h
    refine R0.out.opn ?_
    intros
    go_enter Tryz.func79, Tryz.ntmps79
    go_upto_region 2 with (go_at_call 80; refine nx (RO.out _ hout) fun w1 R1 => R1.out.opn ?_; intros)
    refine wp_region_held_drew (S := Sx w0 g G I os p) (by kernel_rfl) R1.out.drew.x (fun hHeld => ?_)
    replace R1 := Lib.hid R1.out.drew
    repeat refine tkr ?_
    refine wpAnyH_done (by kernel_rfl) ?_ _
    refine R1.out.opn ?_
    clear hHeld
    intros
    go_upto_region 3 with fail
    refine wp_region_held_drew (S := Sx w0 g G I os p) (by kernel_rfl) R1.out.drew.x (fun hHeld => ?_)
    replace R1 := Lib.hid R1.out.drew
    repeat refine tkr ?_
    refine tkn ?_ (y := by (intro w hSw; obtain ⟨_, _, _, _, _, hx⟩ := hSw; have hz := hx.co m0; rw [HY.out] at hz; go_simp; (try with_reducible rfl)))
    repeat refine tkr ?_
    refine wpAnyH_done (by with_unfolding_all rfl) ?_ _
    refine R1.out.opn ?_
    clear hHeld
    intros
    go_wp2_with (first
        | (go_at_call 87; refine (rmul_c y V y0.1 y0.2 V0.1 V0.2 _).mono ?_; rintro e wx ⟨rfl, rfl⟩)
        | (go_at_call 64; refine nx (rpair_c hout _ _) ?_; intro w1 R1))
    first | go_end0 | refine bodyPost_ret (results_none rfl _ _ _) rfl ?_
    rw [HM.out] at R1
    exact ⟨rfl, R1.out⟩
end
end Go.Proofs.YthjdjbipfdigeaaGreat

namespace Go.Proofs.YthjdjbipfdigeaaGreat
open Go.RowKit
set_option maxRecDepth 100000
set_option linter.unusedVariables false
set_option linter.unusedSimpArgs false
section
variable {w0 w : World} {g : Nat} {G : Foot} {I : In} {os rs : List Int} {p q : Ps} {c : Int} {bs ks : List Int}
set_option maxRecDepth 1000000 in
set_option maxHeartbeats 8000000 in
theorem rprod_div (h : RS w0 w g G I os os p p c bs ks) (he : ¬ I.n % 2 = 1) (ho : I.op = 29 ∨ I.op = 93) (hz : oC c I os bs ks p.key = 0) : Calls Tryz.prog 79 #[.pointer (some ⟨g, 0, none⟩)] w fun e w' => e = .returned (.tuple #[]) ∧ RS w0 w' g G I os (if dok (sg64 (dbl (os.getD I.n 0) (os.getD (I.n + 1) 0))) (sg (oV c I os bs ks p.key)) = true then (os.set I.n (drem (sg64 (dbl (os.getD I.n 0) (os.getD (I.n + 1) 0))) (sg (oV c I os bs ks p.key)))).set (I.n + 1) (dquo (sg64 (dbl (os.getD I.n 0) (os.getD (I.n + 1) 0))) (sg (oV c I os bs ks p.key))) else os) p p (if dok (sg64 (dbl (os.getD I.n 0) (os.getD (I.n + 1) 0))) (sg (oV c I os bs ks p.key)) = true then 0 else 9) bs ks := by
  obtain ⟨u, hu⟩ : ∃ u, os.getD I.n 0 = u := ⟨_, rfl⟩
  obtain ⟨v, hv⟩ : ∃ v, os.getD I.k 0 = v := ⟨_, rfl⟩
  have u0 := getD_in h.ro I.n
  have v0 := getD_in h.ro I.k
  rw [hu] at u0 ⊢
  rw [hv] at v0
  obtain ⟨V, hV⟩ : ∃ V, oV c I os bs ks p.key = V := ⟨_, rfl⟩
  have V0 := oV_in (c := c) (key := p.key) (I := I) (ks := ks) h.ro h.st.rb
  rw [hV] at V0 ⊢
  have RO := Lib.hid (fun W (hW : RS w0 W g G I os os p p c bs ks) => show Calls Tryz.prog 80 #[.pointer (some ⟨g, 0, none⟩)] W fun e w' => e = .returned (.int .u32 V) ∧ RS w0 w' g G I os os p p 0 bs ks from by have := roperand_c hW; rw [hV, hz] at this; exact this)
  clear hV hz
  obtain ⟨y, hy⟩ : ∃ y, os.getD (I.n + 1) 0 = y := ⟨_, rfl⟩
  have y0 := getD_in h.ro (I.n + 1)
  rw [hy] at y0 ⊢
  have nb := h.ix.n
  have m0 : I.n + 1 < 16 := by omega
  have m1 : ((I.n : Int) + 1) < 16 := by omega
  have m2 : 0 ≤ (I.n : Int) + 1 := by omega
  have e0 : IntKind.i64.wrap ((I.n : Int) + 1) = (I.n : Int) + 1 := wrap_i64_id (by omega) (by omega)
  have HY := Lib.hid hy
  have HM := Lib.hid (show (I.n + 1) % 16 = I.n + 1 by omega)
  clear hy nb
  cases hd : dok (sg64 (dbl u y)) (sg V) <;> rcases ho with ho | ho
  all_goals
    have HU := Lib.hid hu
    have HV := Lib.hid hv
    have HO := Lib.hid ho
    have R0 := Lib.hid h
    clear hu hv ho h
    refine R0.out.opn ?_
    intros
    go_enter Tryz.func79, Tryz.ntmps79
    go_upto_region 2 with (go_at_call 80; refine nx (RO.out _ hout) fun w1 R1 => R1.out.opn ?_; intros)
    refine wp_region_held_drew (S := Sx w0 g G I os p) (by kernel_rfl) R1.out.drew.x (fun hHeld => ?_)
    replace R1 := Lib.hid R1.out.drew
    repeat refine tkr ?_
    refine wpAnyH_done (by kernel_rfl) ?_ _
    refine R1.out.opn ?_
    clear hHeld
    intros
    go_upto_region 3 with fail
    refine wp_region_held_drew (S := Sx w0 g G I os p) (by kernel_rfl) R1.out.drew.x (fun hHeld => ?_)
    replace R1 := Lib.hid R1.out.drew
    repeat refine tkr ?_
    refine tkn ?_ (y := by (intro w hSw; obtain ⟨_, _, _, _, _, hx⟩ := hSw; have hz := hx.co m0; rw [HY.out] at hz; go_simp; (try with_reducible rfl)))
    repeat refine tkr ?_
    refine wpAnyH_done (by with_unfolding_all rfl) ?_ _
    refine R1.out.opn ?_
    clear hHeld
    intros
    go_wp2_with (first
        | (go_at_call 146; refine (rdiv_c u y V u0.1 u0.2 y0.1 y0.2 V0.1 V0.2 _).mono ?_; rintro e wx ⟨rfl, rfl⟩)
        | (go_at_call 64; refine nx (rpair_c hout _ _) ?_; intro w1 R1))
    first | go_end0 | refine bodyPost_ret (results_none rfl _ _ _) rfl ?_
    first | (rw [HM.out] at R1; exact ⟨rfl, R1.out⟩) | exact ⟨rfl, RS.setc hout 9⟩
end
end Go.Proofs.YthjdjbipfdigeaaGreat

namespace Go.Proofs.YthjdjbipfdigeaaGreat
open Go.RowKit
set_option maxRecDepth 100000
set_option linter.unusedVariables false
set_option linter.unusedSimpArgs false
section
variable {w0 w : World} {g : Nat} {G : Foot} {I : In} {os rs : List Int} {p q : Ps} {c : Int} {bs ks : List Int}
theorem oC_ne {c : Int} (hc : c ≠ 0) (I : In) (os bs ks : List Int) (key : Int) : oC c I os bs ks key = c := by
  have ha : ∀ a n, atC c a n = c := fun a n => if_neg (fun h => hc h.1)
  have hf : ∀ a n, ftC c bs ks key a n = c := fun a n => if_neg hc
  unfold oC
  rw [ha, ha, hf, hf]
  split
  · rfl
  · split <;> rfl
set_option maxRecDepth 1000000 in
set_option maxHeartbeats 8000000 in
theorem rar_odd (h : RS w0 w g G I os os p p 0 bs ks) (ho : I.op = 28 ∨ I.op = 29 ∨ I.op = 92 ∨ I.op = 93) (he : I.n % 2 = 1) : Calls Tryz.prog 30 #[.pointer (some ⟨g, 0, none⟩)] w fun e w' => e = .returned (.tuple #[]) ∧ Gd w0 w' g G I os p ks (Pre.no ⟨os, p.key, p.il, p.cc, p.pg, p.ad, bs, ks⟩ 6) := by
  have HE := Lib.hid (show evC 0 I.n = 6 from if_pos ⟨rfl, he⟩)
  clear he
  have HP := Lib.hid (fun W (hW : RS w0 W g G I os os p p 6 bs ks) => rprod_no hW (by rw [oC_ne (by decide)]; decide))
  rcases ho with ho | ho | ho | ho
  all_goals
    have HO := Lib.hid ho
    have R0 := Lib.hid h
    clear ho h
    refine R0.out.opn ?_
    intros
    go_enter Tryz.func30, Tryz.ntmps30
    go_upto_region 0 with fail
    refine wp_region_held_drew (S := Sx w0 g G I os p) (by kernel_rfl) R0.out.drew.x (fun hHeld => ?_)
    replace R0 := Lib.hid R0.out.drew
    repeat refine tkr ?_
    refine wpAnyH_done (by kernel_rfl) ?_ _
    refine R0.out.opn ?_
    clear hHeld
    intros
    go_wp2_with (first
        | (go_at_call 58; refine nx (reven_c hout) fun w1 R1 => ?_; rw [HE.out] at R1; refine R1.out.opn ?_; intros)
        | (go_at_call 79; refine nx (HP.out _ hout) ?_; intro w1 R1))
    first | go_end0 | refine bodyPost_ret (results_none rfl _ _ _) rfl ?_
    rw [oC_ne (by decide)] at R1
    exact ⟨rfl, gd_no R1.out (show (6 : Int) ≠ 0 by decide) rfl⟩
set_option maxRecDepth 1000000 in
set_option maxHeartbeats 8000000 in
theorem rar_pno (h : RS w0 w g G I os os p p 0 bs ks) (ho : I.op = 28 ∨ I.op = 29 ∨ I.op = 92 ∨ I.op = 93) (he : ¬ I.n % 2 = 1) (hn : oC 0 I os bs ks p.key ≠ 0) : Calls Tryz.prog 30 #[.pointer (some ⟨g, 0, none⟩)] w fun e w' => e = .returned (.tuple #[]) ∧ Gd w0 w' g G I os p ks (Pre.no ⟨os, p.key, p.il, p.cc, p.pg, p.ad, bs, ks⟩ (oC 0 I os bs ks p.key)) := by
  have HE := Lib.hid (show evC 0 I.n = 0 from if_neg (fun hx => he hx.2))
  have HEE := Lib.hid he
  clear he
  have HN := Lib.hid hn
  clear hn
  rcases ho with ho | ho | ho | ho
  all_goals
    have HO := Lib.hid ho
    have R0 := Lib.hid h
    clear ho h
    refine R0.out.opn ?_
    intros
    go_enter Tryz.func30, Tryz.ntmps30
    go_upto_region 0 with fail
    refine wp_region_held_drew (S := Sx w0 g G I os p) (by kernel_rfl) R0.out.drew.x (fun hHeld => ?_)
    replace R0 := Lib.hid R0.out.drew
    repeat refine tkr ?_
    refine wpAnyH_done (by kernel_rfl) ?_ _
    refine R0.out.opn ?_
    clear hHeld
    intros
    go_wp2_with (first
        | (go_at_call 58; refine nx (reven_c hout) fun w1 R1 => ?_; rw [HE.out] at R1; refine R1.out.opn ?_; intros)
        | (go_at_call 79; refine nx (rprod_no hout HN.out) ?_; intro w1 R1))
    first | go_end0 | refine bodyPost_ret (results_none rfl _ _ _) rfl ?_
    exact ⟨rfl, gd_no R1.out HN.out rfl⟩
set_option maxRecDepth 1000000 in
set_option maxHeartbeats 8000000 in
theorem rar_28 (h : RS w0 w g G I os os p p 0 bs ks) (ho : I.op = 28 ∨ I.op = 92) (he : ¬ I.n % 2 = 1) (hz : oC 0 I os bs ks p.key = 0) : Calls Tryz.prog 30 #[.pointer (some ⟨g, 0, none⟩)] w fun e w' => e = .returned (.tuple #[]) ∧ Gd w0 w' g G I os p ks (Pre.rg ⟨os, p.key, p.il, p.cc, p.pg, p.ad, bs, ks⟩ ((os.set I.n (lo32 (sg (os.getD (I.n + 1) 0) * sg (oV 0 I os bs ks p.key) / 4294967296))).set (I.n + 1) (lo32 (sg (os.getD (I.n + 1) 0) * sg (oV 0 I os bs ks p.key))))) := by
  have HE := Lib.hid (show evC 0 I.n = 0 from if_neg (fun hx => he hx.2))
  have HEE := Lib.hid he
  clear he
  have HZ := Lib.hid hz
  clear hz
  rcases ho with ho | ho
  all_goals
    have HO := Lib.hid ho
    have R0 := Lib.hid h
    clear ho h
    refine R0.out.opn ?_
    intros
    go_enter Tryz.func30, Tryz.ntmps30
    go_upto_region 0 with fail
    refine wp_region_held_drew (S := Sx w0 g G I os p) (by kernel_rfl) R0.out.drew.x (fun hHeld => ?_)
    replace R0 := Lib.hid R0.out.drew
    repeat refine tkr ?_
    refine wpAnyH_done (by kernel_rfl) ?_ _
    refine R0.out.opn ?_
    clear hHeld
    intros
    go_wp2_with (first
        | (go_at_call 58; refine nx (reven_c hout) fun w1 R1 => ?_; rw [HE.out] at R1; refine R1.out.opn ?_; intros)
        | (go_at_call 79; refine nx (rprod_mul hout HEE.out (by first | exact .inl HO.out | exact .inr HO.out) HZ.out) ?_; intro w1 R1))
    first | go_end0 | refine bodyPost_ret (results_none rfl _ _ _) rfl ?_
    exact ⟨rfl, gd_ok R1.out rfl rfl rfl rfl rfl⟩
set_option maxRecDepth 1000000 in
set_option maxHeartbeats 8000000 in
theorem rar_29 (h : RS w0 w g G I os os p p 0 bs ks) (ho : I.op = 29 ∨ I.op = 93) (he : ¬ I.n % 2 = 1) (hz : oC 0 I os bs ks p.key = 0) : Calls Tryz.prog 30 #[.pointer (some ⟨g, 0, none⟩)] w fun e w' => e = .returned (.tuple #[]) ∧ Gd w0 w' g G I os p ks (if dok (sg64 (dbl (os.getD I.n 0) (os.getD (I.n + 1) 0))) (sg (oV 0 I os bs ks p.key)) = true then Pre.rg ⟨os, p.key, p.il, p.cc, p.pg, p.ad, bs, ks⟩ ((os.set I.n (drem (sg64 (dbl (os.getD I.n 0) (os.getD (I.n + 1) 0))) (sg (oV 0 I os bs ks p.key)))).set (I.n + 1) (dquo (sg64 (dbl (os.getD I.n 0) (os.getD (I.n + 1) 0))) (sg (oV 0 I os bs ks p.key)))) else Pre.no ⟨os, p.key, p.il, p.cc, p.pg, p.ad, bs, ks⟩ 9) := by
  have HE := Lib.hid (show evC 0 I.n = 0 from if_neg (fun hx => he hx.2))
  have HEE := Lib.hid he
  clear he
  have HZ := Lib.hid hz
  clear hz
  obtain ⟨oo, hoo⟩ : ∃ o, (if dok (sg64 (dbl (os.getD I.n 0) (os.getD (I.n + 1) 0))) (sg (oV 0 I os bs ks p.key)) = true then Pre.rg ⟨os, p.key, p.il, p.cc, p.pg, p.ad, bs, ks⟩ ((os.set I.n (drem (sg64 (dbl (os.getD I.n 0) (os.getD (I.n + 1) 0))) (sg (oV 0 I os bs ks p.key)))).set (I.n + 1) (dquo (sg64 (dbl (os.getD I.n 0) (os.getD (I.n + 1) 0))) (sg (oV 0 I os bs ks p.key)))) else Pre.no ⟨os, p.key, p.il, p.cc, p.pg, p.ad, bs, ks⟩ 9) = o := ⟨_, rfl⟩
  rw [hoo]
  have HOO := Lib.hid hoo
  clear hoo
  rcases ho with ho | ho
  all_goals
    have HO := Lib.hid ho
    have R0 := Lib.hid h
    clear ho h
    refine R0.out.opn ?_
    intros
    go_enter Tryz.func30, Tryz.ntmps30
    go_upto_region 0 with fail
    refine wp_region_held_drew (S := Sx w0 g G I os p) (by kernel_rfl) R0.out.drew.x (fun hHeld => ?_)
    replace R0 := Lib.hid R0.out.drew
    repeat refine tkr ?_
    refine wpAnyH_done (by kernel_rfl) ?_ _
    refine R0.out.opn ?_
    clear hHeld
    intros
    go_wp2_with (first
        | (go_at_call 58; refine nx (reven_c hout) fun w1 R1 => ?_; rw [HE.out] at R1; refine R1.out.opn ?_; intros)
        | (go_at_call 79; refine nx (rprod_div hout HEE.out (by first | exact .inl HO.out | exact .inr HO.out) HZ.out) ?_; intro w1 R1))
    first | go_end0 | refine bodyPost_ret (results_none rfl _ _ _) rfl ?_
    refine ⟨rfl, ?_⟩
    rw [← HOO.out]
    by_cases hd : dok (sg64 (dbl (os.getD I.n 0) (os.getD (I.n + 1) 0))) (sg (oV 0 I os bs ks p.key)) = true
    · rw [if_pos hd]
      have hR := R1.out
      rw [if_pos hd, if_pos hd] at hR
      exact gd_ok hR rfl rfl rfl rfl rfl
    · rw [if_neg hd]
      have hR := R1.out
      rw [if_neg hd, if_neg hd] at hR
      exact gd_no hR (show (9 : Int) ≠ 0 by decide) rfl
end
end Go.Proofs.YthjdjbipfdigeaaGreat

namespace Go.Proofs.YthjdjbipfdigeaaGreat
open Go.RowKit
set_option maxRecDepth 100000
set_option linter.unusedVariables false
set_option linter.unusedSimpArgs false
section
variable {w0 w : World} {g : Nat} {G : Foot} {I : In} {os rs : List Int} {p q : Ps} {c : Int} {bs ks : List Int}
theorem gd_eq {o o' : Out} (h : Gd w0 w g G I os p ks o) (e : o = o') : Gd w0 w g G I os p ks o' := e ▸ h
theorem a_mod (I : In) (os : List Int) : I.a os % 16777216 = I.a os := by have := I.a_in os; omega
theorem opC_oC : oC 0 I os bs ks p.key = opC I.op I.fm bs ks p.key (I.a os) := by
  unfold oC opC
  by_cases h1 : I.fm = 1
  · rw [if_pos h1, if_pos h1]
  · rw [if_neg h1, if_neg h1]
    by_cases h2 : 72 ≤ I.op ∧ I.op ≤ 76
    · rw [if_pos h2, if_pos h2]
      by_cases h3 : I.a os % 2 = 0
      · rw [if_pos h3, show atC 0 (I.a os) 2 = 0 from if_neg (fun h => h.2 h3)]; exact if_pos rfl
      · rw [if_neg h3, show atC 0 (I.a os) 2 = 6 from if_pos ⟨rfl, h3⟩]; exact if_neg (by decide)
    · rw [if_neg h2, if_neg h2]
      by_cases h3 : I.a os % 4 = 0
      · rw [if_pos h3, show atC 0 (I.a os) 4 = 0 from if_neg (fun h => h.2 h3)]; exact if_pos rfl
      · rw [if_neg h3, show atC 0 (I.a os) 4 = 6 from if_pos ⟨rfl, h3⟩]; exact if_neg (by decide)
theorem opV_oV (h : oC 0 I os bs ks p.key = 0) : oV 0 I os bs ks p.key = opV I.op I.fm os I.k bs (I.a os) := by
  have k2 : ∀ (a : Int) (n : Nat) (c : Int), ftC c bs ks p.key a n = 0 → ftB c bs ks p.key a n = sGet bs a n := fun a n c h => by unfold ftB; rw [if_pos h]
  unfold oC at h
  unfold oV opV
  by_cases h1 : I.fm = 1
  · rw [if_pos h1, if_pos h1]
  · rw [if_neg h1] at h
    rw [if_neg h1, if_neg h1]
    by_cases h2 : 72 ≤ I.op ∧ I.op ≤ 76
    · rw [if_pos h2] at h
      rw [if_pos h2, if_pos h2, k2 _ _ _ h]
      rfl
    · rw [if_neg h2] at h
      rw [if_neg h2, if_neg h2, k2 _ _ _ h]
      rfl
theorem arO_oV (n : Nat) : arO ⟨os, p.key, p.il, p.cc, p.pg, p.ad, bs, ks⟩ I.op n (oC 0 I os bs ks p.key) (oV 0 I os bs ks p.key) = arO ⟨os, p.key, p.il, p.cc, p.pg, p.ad, bs, ks⟩ I.op n (opC I.op I.fm bs ks p.key (I.a os)) (opV I.op I.fm os I.k bs (I.a os)) := by
  by_cases h : oC 0 I os bs ks p.key = 0
  · rw [opV_oV h, opC_oC]
  · rw [← opC_oC]
    unfold arO
    by_cases h1 : I.op = 28 ∨ I.op = 29 ∨ I.op = 92 ∨ I.op = 93
    · rw [if_pos h1, if_pos h1, if_pos h, if_pos h]
    · rw [if_neg h1, if_neg h1, if_pos h, if_pos h]
theorem rxb (h : RS w0 w g G I os os p p 0 bs ks) (hp : p.ok) (hf : I.fm = fmOf I.op) (ho : I.op = 4 ∨ I.op = 5 ∨ I.op = 6 ∨ I.op = 7 ∨ I.op = 69 ∨ I.op = 70 ∨ I.op = 71 ∨ I.op = 134 ∨ I.op = 135) : Calls Tryz.prog 25 #[.pointer (some ⟨g, 0, none⟩)] w fun e w' => e = .returned (.tuple #[]) ∧ Gd w0 w' g G I os p ks (exO ⟨os, p.key, p.il, p.cc, p.pg, p.ad, bs, ks⟩ I.op I.fm I.n I.k (I.a1 os) (I.a os) I.l I.i) := by
  have e : exO ⟨os, p.key, p.il, p.cc, p.pg, p.ad, bs, ks⟩ I.op I.fm I.n I.k (I.a1 os) (I.a os) I.l I.i = brO ⟨os, p.key, p.il, p.cc, p.pg, p.ad, bs, ks⟩ I.op I.n I.k (I.a os) := if_pos (by omega)
  rw [e]
  have t1 : I.fm = 1 → tgB I = decide (I.k ≠ 0) ∧ tgV I os = os.getD I.k 0 := fun h => by unfold tgB tgV; rw [if_pos h, if_pos h]; exact ⟨rfl, rfl⟩
  have t2 : I.fm ≠ 1 → tgB I = true ∧ tgV I os % 16777216 = I.a os := fun h => by unfold tgB tgV; rw [if_neg h, if_neg h]; exact ⟨rfl, a_mod I os⟩
  rcases ho with ho | ho | ho | ho | ho | ho | ho | ho | ho
  · exact (rbr_4 h ho).mono fun e w' hh => ⟨hh.1, gd_eq hh.2 (by rw [ho]; rfl)⟩
  · have hf : I.fm = 1 := by rw [hf, ho]; decide +kernel
    exact (rbr_5 h hp (.inl ho)).mono fun e w' hh => ⟨hh.1, gd_eq hh.2 (by rw [ho, (t1 hf).1, (t1 hf).2]; rfl)⟩
  · have hf : I.fm = 1 := by rw [hf, ho]; decide +kernel
    exact (rbr_6 h (.inl ho)).mono fun e w' hh => ⟨hh.1, gd_eq hh.2 (by rw [ho, (t1 hf).1, (t1 hf).2, Bool.and_comm]; rfl)⟩
  · have hf : I.fm = 1 := by rw [hf, ho]; decide +kernel
    exact (rbr_7 h (.inl ho)).mono fun e w' hh => ⟨hh.1, gd_eq hh.2 (by rw [ho, (t1 hf).1, (t1 hf).2]; rfl)⟩
  · have hf : I.fm ≠ 1 := by rw [hf, ho]; decide +kernel
    exact (rbr_5 h hp (.inr ho)).mono fun e w' hh => ⟨hh.1, gd_eq hh.2 (by rw [ho, (t2 hf).1, (t2 hf).2]; rfl)⟩
  · have hf : I.fm ≠ 1 := by rw [hf, ho]; decide +kernel
    exact (rbr_6 h (.inr ho)).mono fun e w' hh => ⟨hh.1, gd_eq hh.2 (by rw [ho, (t2 hf).1, (t2 hf).2, Bool.true_and]; rfl)⟩
  · have hf : I.fm ≠ 1 := by rw [hf, ho]; decide +kernel
    exact (rbr_7 h (.inr ho)).mono fun e w' hh => ⟨hh.1, gd_eq hh.2 (by rw [ho, (t2 hf).1, (t2 hf).2, Bool.and_true]; rfl)⟩
  · have hf : I.fm ≠ 1 := by rw [hf, ho]; decide +kernel
    exact (rbr_134 h ho).mono fun e w' hh => ⟨hh.1, gd_eq hh.2 (by rw [ho, (t2 hf).2]; rfl)⟩
  · have hf : I.fm ≠ 1 := by rw [hf, ho]; decide +kernel
    exact (rbr_135 h ho).mono fun e w' hh => ⟨hh.1, gd_eq hh.2 (by rw [ho, (t2 hf).2]; rfl)⟩
theorem rxs (h : RS w0 w g G I os os p p 0 bs ks) (ho : 136 ≤ I.op ∧ I.op ≤ 143) : Calls Tryz.prog 26 #[.pointer (some ⟨g, 0, none⟩)] w fun e w' => e = .returned (.tuple #[]) ∧ Gd w0 w' g G I os p ks (exO ⟨os, p.key, p.il, p.cc, p.pg, p.ad, bs, ks⟩ I.op I.fm I.n I.k (I.a1 os) (I.a os) I.l I.i) := by
  have e : exO ⟨os, p.key, p.il, p.cc, p.pg, p.ad, bs, ks⟩ I.op I.fm I.n I.k (I.a1 os) (I.a os) I.l I.i = shO ⟨os, p.key, p.il, p.cc, p.pg, p.ad, bs, ks⟩ I.op I.n (I.a os) := (if_neg (by omega)).trans (if_pos ho)
  rw [e]
  by_cases h1 : 140 ≤ I.op ∧ I.n % 2 = 1
  · exact (rsh_odd h h1.1 h1.2).mono fun e w' hh => ⟨hh.1, gd_eq hh.2 (by unfold shO; rw [if_pos h1])⟩
  · rcases (show I.op = 136 ∨ I.op = 137 ∨ (I.op = 138 ∨ I.op = 139) ∨ (I.op = 140 ∨ I.op = 141 ∨ I.op = 142 ∨ I.op = 143) by omega) with ho | ho | ho | ho
    · exact rsh_136 h ho
    · exact rsh_137 h ho
    · exact rsh_138 h ho
    · exact rsh_140 h ho (by omega)
theorem rxi (h : RS w0 w g G I os os p p 0 bs ks) (ho : 145 ≤ I.op ∧ I.op ≤ 151) : Calls Tryz.prog 27 #[.pointer (some ⟨g, 0, none⟩)] w fun e w' => e = .returned (.tuple #[]) ∧ Gd w0 w' g G I os p ks (exO ⟨os, p.key, p.il, p.cc, p.pg, p.ad, bs, ks⟩ I.op I.fm I.n I.k (I.a1 os) (I.a os) I.l I.i) := by
  have e : exO ⟨os, p.key, p.il, p.cc, p.pg, p.ad, bs, ks⟩ I.op I.fm I.n I.k (I.a1 os) (I.a os) I.l I.i = imO ⟨os, p.key, p.il, p.cc, p.pg, p.ad, bs, ks⟩ I.op (I.a1 os) I.i := (if_neg (by omega)).trans ((if_neg (by omega)).trans ((if_neg (by omega)).trans ((if_neg (by omega)).trans (if_pos ho))))
  rw [e]
  rcases (show I.op = 145 ∨ I.op = 146 ∨ I.op = 147 ∨ I.op = 148 ∨ I.op = 149 ∨ I.op = 150 ∨ I.op = 151 by omega) with ho | ho | ho | ho | ho | ho | ho
  · exact rim_145 h ho
  · exact rim_146 h ho
  · exact rim_147 h ho
  · exact rim_148 h ho
  · exact rim_149 h ho
  · exact rim_150 h ho
  · exact rim_151 h ho
theorem rxl (h : RS w0 w g G I os os p p 0 bs ks) (hp : p.ok) (ho : I.op = 209 ∨ I.op = 210 ∨ I.op = 211 ∨ I.op = 212 ∨ I.op = 213 ∨ I.op = 214 ∨ I.op = 215 ∨ I.op = 220 ∨ I.op = 221) : Calls Tryz.prog 28 #[.pointer (some ⟨g, 0, none⟩)] w fun e w' => e = .returned (.tuple #[]) ∧ Gd w0 w' g G I os p ks (exO ⟨os, p.key, p.il, p.cc, p.pg, p.ad, bs, ks⟩ I.op I.fm I.n I.k (I.a1 os) (I.a os) I.l I.i) := by
  have e : exO ⟨os, p.key, p.il, p.cc, p.pg, p.ad, bs, ks⟩ I.op I.fm I.n I.k (I.a1 os) (I.a os) I.l I.i = loO ⟨os, p.key, p.il, p.cc, p.pg, p.ad, bs, ks⟩ I.op (I.l + 1) (I.a1 os) (I.a os) := (if_neg (by omega)).trans ((if_neg (by omega)).trans ((if_neg (by omega)).trans ((if_neg (by omega)).trans ((if_neg (by omega)).trans (if_pos (by omega))))))
  rw [e]
  exact rlongs_c h hp ho
theorem rxm (h : RS w0 w g G I os os p p 0 bs ks) (ho : I.op = 64 ∨ I.op = 65 ∨ I.op = 66 ∨ I.op = 67 ∨ I.op = 80 ∨ I.op = 144 ∨ I.op = 152) : Calls Tryz.prog 29 #[.pointer (some ⟨g, 0, none⟩)] w fun e w' => e = .returned (.tuple #[]) ∧ Gd w0 w' g G I os p ks (exO ⟨os, p.key, p.il, p.cc, p.pg, p.ad, bs, ks⟩ I.op I.fm I.n I.k (I.a1 os) (I.a os) I.l I.i) := by
  by_cases h5 : I.op = 65
  · exact (rmv_65 h h5).mono fun e w' hh => ⟨hh.1, gd_eq hh.2 (by rw [h5]; rfl)⟩
  have e : exO ⟨os, p.key, p.il, p.cc, p.pg, p.ad, bs, ks⟩ I.op I.fm I.n I.k (I.a1 os) (I.a os) I.l I.i = mvO ⟨os, p.key, p.il, p.cc, p.pg, p.ad, bs, ks⟩ I.op I.n I.k (I.a os) := (if_neg (by omega)).trans ((if_neg (by omega)).trans ((if_neg h5).trans (if_pos (by omega))))
  rw [e]
  rcases ho with ho | ho | ho | ho | ho | ho | ho
  · exact rmv_64 h ho
  · exact absurd ho h5
  · exact rmv_66 h ho
  · exact rmv_67 h ho
  · exact rmv_80 h ho
  · exact (rmv_144 h ho).mono fun e w' hh => ⟨hh.1, gd_eq hh.2 (by rw [ho])⟩
  · exact (rmv_152 h ho).mono fun e w' hh => ⟨hh.1, gd_eq hh.2 (by rw [ho])⟩
theorem rxa (h : RS w0 w g G I os os p p 0 bs ks) (ho : (16 ≤ I.op ∧ I.op ≤ 31) ∨ (72 ≤ I.op ∧ I.op ≤ 76) ∨ (84 ≤ I.op ∧ I.op ≤ 95)) : Calls Tryz.prog 30 #[.pointer (some ⟨g, 0, none⟩)] w fun e w' => e = .returned (.tuple #[]) ∧ Gd w0 w' g G I os p ks (exO ⟨os, p.key, p.il, p.cc, p.pg, p.ad, bs, ks⟩ I.op I.fm I.n I.k (I.a1 os) (I.a os) I.l I.i) := by
  have e : exO ⟨os, p.key, p.il, p.cc, p.pg, p.ad, bs, ks⟩ I.op I.fm I.n I.k (I.a1 os) (I.a os) I.l I.i = arO ⟨os, p.key, p.il, p.cc, p.pg, p.ad, bs, ks⟩ I.op I.n (opC I.op I.fm bs ks p.key (I.a os)) (opV I.op I.fm os I.k bs (I.a os)) := (if_neg (by omega)).trans ((if_neg (by omega)).trans ((if_neg (by omega)).trans ((if_neg (by omega)).trans ((if_neg (by omega)).trans (if_neg (by omega))))))
  rw [e, ← arO_oV]
  rcases (show (I.op = 26 ∨ I.op = 90 ∨ I.op = 74) ∨ (I.op = 27 ∨ I.op = 91 ∨ I.op = 75) ∨ (I.op = 30 ∨ I.op = 94) ∨ (I.op = 31 ∨ I.op = 95) ∨ (I.op = 25 ∨ I.op = 89 ∨ I.op = 73) ∨ (I.op = 21 ∨ I.op = 85) ∨ (I.op = 20 ∨ I.op = 84) ∨ (I.op = 22 ∨ I.op = 86) ∨ (I.op = 23 ∨ I.op = 87) ∨ (I.op = 24 ∨ I.op = 88 ∨ I.op = 72) ∨ I.op = 76 ∨ I.op = 18 ∨ I.op = 19 ∨ I.op = 16 ∨ I.op = 17 ∨ (I.op = 28 ∨ I.op = 29 ∨ I.op = 92 ∨ I.op = 93) by omega) with ho | ho | ho | ho | ho | ho | ho | ho | ho | ho | ho | ho | ho | ho | ho | ho
  · exact rar_26 h ho
  · exact rar_27 h ho
  · exact rar_30 h ho
  · exact rar_31 h ho
  · exact rar_25 h ho
  · exact rar_21 h ho
  · exact rar_20 h ho
  · exact rar_22 h ho
  · exact rar_23 h ho
  · exact rar_24 h ho
  · exact rar_76 h ho
  · exact rar_18 h ho
  · exact rar_19 h ho
  · exact rar_16 h ho
  · exact rar_17 h ho
  · by_cases h1 : I.n % 2 = 1
    · exact (rar_odd h ho h1).mono fun e w' hh => ⟨hh.1, gd_eq hh.2 (by unfold arO; rw [if_pos ho, if_pos h1])⟩
    · by_cases hz : oC 0 I os bs ks p.key = 0
      · rcases (show (I.op = 28 ∨ I.op = 92) ∨ (I.op = 29 ∨ I.op = 93) by omega) with h2 | h2
        · exact (rar_28 h h2 h1 hz).mono fun e w' hh => ⟨hh.1, gd_eq hh.2 (by unfold arO; rw [if_pos ho, if_neg h1, if_neg (show ¬ (oC 0 I os bs ks p.key ≠ 0) from fun h => h hz), if_pos h2])⟩
        · exact (rar_29 h h2 h1 hz).mono fun e w' hh => ⟨hh.1, gd_eq hh.2 (by unfold arO; rw [if_pos ho, if_neg h1, if_neg (show ¬ (oC 0 I os bs ks p.key ≠ 0) from fun h => h hz), if_neg (show ¬ (I.op = 28 ∨ I.op = 92) by omega)])⟩
      · exact (rar_pno h ho h1 hz).mono fun e w' hh => ⟨hh.1, gd_eq hh.2 (by unfold arO; rw [if_pos ho, if_neg h1, if_pos hz])⟩
end
end Go.Proofs.YthjdjbipfdigeaaGreat

namespace Go.Proofs.YthjdjbipfdigeaaGreat
open Go.RowKit
set_option maxRecDepth 100000
set_option linter.unusedVariables false
set_option linter.unusedSimpArgs false

theorem Rw.zerosB (w : World) (k : Nat) (hk : k ≤ maxLen) : Rw (w.alloc (.cells (zeroB k) 5)) w.heap.size 5 k ((List.replicate k (0 : Int)).map (Value.int .u8)) := by
  have h := Rw.new w (zeroB k) 5 ((List.replicate k (0 : Int)).map (Value.int .u8)) (by simp [zeroB]) (by simpa using hk)
  simpa using h
theorem Rw.zerosI (w : World) (k : Nat) (hk : k ≤ maxLen) : Rw (w.alloc (.cells (zeroI k) 3)) w.heap.size 3 k ((List.replicate k (0 : Int)).map (Value.int .i64)) := by
  have h := Rw.new w (zeroI k) 3 ((List.replicate k (0 : Int)).map (Value.int .i64)) (by simp [zeroI]) (by simpa using hk)
  simpa using h
theorem Rw.alloc {w : World} {g c : Nat} {e : TypeId} {vs : List Value} (h : Rw w g e c vs) (o : Obj) : Rw (w.alloc o) g e c vs := h.keep (Below.heap_alloc w o _ h.lt)
theorem Rw.belowS {w w' : World} {g c : Nat} {e : TypeId} {vs : List Value} (h : Rw w g e c vs) (hb : Below w.heap.size w w') : Rw w' g e c vs := h.keep (hb.block _ h.lt)
/-- the struct laid round its rows -/
theorem St.make {T : TypeId} {w : World} {gb gk cb ck : Nat} {bs ks : List Int} (hb : Rw w gb 5 cb (bs.map (Value.int .u8))) (hk : Rw w gk 3 ck (ks.map (Value.int .i64))) (rb : ∀ z ∈ bs, 0 ≤ z ∧ z ≤ 255) (rk : ∀ z ∈ ks, 0 ≤ z ∧ z ≤ 31) (ln : bs.length = 2048 * ks.length) (l0 : 1 ≤ ks.length) (l1 : ks.length ≤ 32)
    (N m : Nat) (hN : bs.length = N) (hm : ks.length = m) :
    St T (w.alloc (.cells #[.slice (some ⟨gb, 0, none⟩) N cb, .slice (some ⟨gk, 0, none⟩) m ck] T)) ⟨w.heap.size, gb, gk, cb, ck⟩ bs ks :=
  ⟨by subst hN hm; exact heap_alloc_new w _, hb.alloc _, hk.alloc _, rb, rk, ln, l0, l1⟩
/-- zeros -/
def z0 (k : Nat) : List Int := List.replicate k 0
theorem z0_len (k : Nat) : (z0 k).length = k := by simp [z0]
theorem z0_mem {k : Nat} {z : Int} (h : z ∈ z0 k) : z = 0 := List.eq_of_mem_replicate h
theorem new_st1 (T : TypeId) (w : World) (N m : Nat) (h : 2048 * m = N) (h1 : 1 ≤ m) (h2 : m ≤ 32) :
    St T (((w.alloc (.cells (zeroB N) 5)).alloc (.cells (zeroI m) 3)).alloc (.cells #[.slice (some ⟨w.heap.size, 0, none⟩) N N, .slice (some ⟨w.heap.size + 1, 0, none⟩) m m] T)) ⟨w.heap.size + 1 + 1, w.heap.size, w.heap.size + 1, N, m⟩ (z0 N) (z0 m) := by
  have hk := Rw.zerosI (w.alloc (.cells (zeroB N) 5)) m (by unfold maxLen; omega)
  have hb := (Rw.zerosB w N (by unfold maxLen; omega)).alloc (.cells (zeroI m) 3)
  rw [World.size_alloc] at hk
  have h3 := St.make (T := T) (bs := z0 N) (ks := z0 m) hb hk (fun z hz => by rw [z0_mem hz]; omega) (fun z hz => by rw [z0_mem hz]; omega) (by rw [z0_len, z0_len]; omega) (by rw [z0_len]; exact h1) (by rw [z0_len]; exact h2) N m (z0_len _) (z0_len _)
  simp only [World.size_alloc] at h3
  exact h3
theorem new_st2 (T : TypeId) (w : World) (N m : Nat) (h : 2048 * m = N) (h1 : 1 ≤ m) (h2 : m ≤ 32) :
    St T (((w.alloc (.cells (zeroI m) 3)).alloc (.cells (zeroB N) 5)).alloc (.cells #[.slice (some ⟨w.heap.size + 1, 0, none⟩) N N, .slice (some ⟨w.heap.size, 0, none⟩) m m] T)) ⟨w.heap.size + 1 + 1, w.heap.size + 1, w.heap.size, N, m⟩ (z0 N) (z0 m) := by
  have hb := Rw.zerosB (w.alloc (.cells (zeroI m) 3)) N (by unfold maxLen; omega)
  have hk := (Rw.zerosI w m (by unfold maxLen; omega)).alloc (.cells (zeroB N) 5)
  rw [World.size_alloc] at hb
  have h3 := St.make (T := T) (bs := z0 N) (ks := z0 m) hb hk (fun z hz => by rw [z0_mem hz]; omega) (fun z hz => by rw [z0_mem hz]; omega) (by rw [z0_len, z0_len]; omega) (by rw [z0_len]; exact h1) (by rw [z0_len]; exact h2) N m (z0_len _) (z0_len _)
  simp only [World.size_alloc] at h3
  exact h3
theorem below3 (w : World) (a b c : Obj) : Below w.heap.size w ((((w.alloc a).alloc b).alloc c).drew) := dBelow ((((Below.refl w.heap.size w).alloc (Nat.le_refl _) _).alloc (by simp) _).alloc (by simp; omega) _) 1
/-- a storage that is new: pointer value v -/
def NewSt (T : TypeId) (w : World) (bs ks : List Int) (v : Value) (w' : World) : Prop := ∃ F : Foot, v = .pointer (some ⟨F.g, 0, none⟩) ∧ St T w' F bs ks ∧ Below w.heap.size w w' ∧ w.heap.size ≤ F.g ∧ w.heap.size ≤ F.gb ∧ w.heap.size ≤ F.gk

def newPost (m : Nat) (w : World) (e : Ending) (w' : World) : Prop := ∃ v, e = .returned (.tuple #[v, .int .i64 0]) ∧ NewSt 77 w (z0 (2048 * m)) (z0 m) v w'
set_option maxHeartbeats 2000000 in
theorem new_yes (m : Nat) (h1 : 1 ≤ m) (h2 : m ≤ 32) (w : World) : Calls Tryz.prog 10 #[.int .i64 ((2048 * m : Nat) : Int)] w (newPost m w) := by
  obtain ⟨N, hN⟩ : ∃ N, 2048 * m = N := ⟨_, rfl⟩
  rw [hN]
  have a1 : (2048 : Int) ≤ (N : Int) := by omega
  have a2 : (N : Int) ≤ 65536 := by omega
  have a3 : ((N : Int) % 2048 != 0) = false := by rw [bne_eq_false_iff_eq]; omega
  have hmk := fun W => run_mk_b N (by omega) W
  have hmi := fun W => run_mk_i m (by omega) W
  have d1 : (N : Int).tdiv 2048 = (m : Int) := by rw [Int.tdiv_eq_ediv_of_nonneg (by omega)]; omega
  have d2 : (N : Int) / 2048 = (m : Int) := by omega
  have d3 : IntKind.i64.wrap (m : Int) = (m : Int) := by rw [IntKind.wrap_i64]; omega
  have HN := Lib.hid hN
  have M1 := Lib.hid h1
  have M2 := Lib.hid h2
  clear hN h1 h2
  go_enter Tryz.func10, Tryz.ntmps10
  go_wp2
  go_region
  skip
  all_goals
    go_wp2
    go_ret2
    first
      | exact ⟨_, rfl, ⟨_, _, _, _, _⟩, rfl, by rw [HN.out]; exact (new_st1 _ w N m HN.out M1.out M2.out).drewN 1, below3 _ _ _ _, by simp; omega, by simp, by simp⟩
      | exact ⟨_, rfl, ⟨_, _, _, _, _⟩, rfl, by rw [HN.out]; exact (new_st2 _ w N m HN.out M1.out M2.out).drewN 1, below3 _ _ _ _, by simp; omega, by simp, by simp⟩

def rnewPost (m : Nat) (w : World) (e : Ending) (w' : World) : Prop := ∃ v, e = .returned (v) ∧ NewSt 70 w (z0 (2048 * m)) (z0 m) v w'
set_option maxHeartbeats 2000000 in
theorem rnew_yes (m : Nat) (h1 : 1 ≤ m) (h2 : m ≤ 32) (w : World) : Calls Tryz.prog 11 #[.int .i64 ((2048 * m : Nat) : Int)] w (rnewPost m w) := by
  obtain ⟨N, hN⟩ : ∃ N, 2048 * m = N := ⟨_, rfl⟩
  rw [hN]
  have a1 : (2048 : Int) ≤ (N : Int) := by omega
  have a2 : (N : Int) ≤ 65536 := by omega
  have a3 : ((N : Int) % 2048 != 0) = false := by rw [bne_eq_false_iff_eq]; omega
  have hmk := fun W => run_mk_b N (by omega) W
  have hmi := fun W => run_mk_i m (by omega) W
  have d1 : (N : Int).tdiv 2048 = (m : Int) := by rw [Int.tdiv_eq_ediv_of_nonneg (by omega)]; omega
  have d2 : (N : Int) / 2048 = (m : Int) := by omega
  have d3 : IntKind.i64.wrap (m : Int) = (m : Int) := by rw [IntKind.wrap_i64]; omega
  have HN := Lib.hid hN
  have M1 := Lib.hid h1
  have M2 := Lib.hid h2
  clear hN h1 h2
  go_enter Tryz.func11, Tryz.ntmps11
  go_wp2
  go_region
  skip
  all_goals
    go_wp2
    go_ret
    first
      | exact ⟨_, rfl, ⟨_, _, _, _, _⟩, rfl, by rw [HN.out]; exact (new_st1 _ w N m HN.out M1.out M2.out).drewN 1, below3 _ _ _ _, by simp; omega, by simp, by simp⟩
      | exact ⟨_, rfl, ⟨_, _, _, _, _⟩, rfl, by rw [HN.out]; exact (new_st2 _ w N m HN.out M1.out M2.out).drewN 1, below3 _ _ _ _, by simp; omega, by simp, by simp⟩

end Go.Proofs.YthjdjbipfdigeaaGreat

namespace Go.Proofs.YthjdjbipfdigeaaGreat
open Go.RowKit
set_option maxRecDepth 100000
set_option linter.unusedVariables false
set_option linter.unusedSimpArgs false

/-- APPEND of a row onto an empty slice that is not nil, as one step of a region that draws its order: a new row -/
theorem step_append_fresh {ops : Array Oper} {o : Oper} {ac : Act} {w : World} {K : Act → World → Prop} {Q : Exit → Act → World → Prop} {E : Prop} (hgd : o.guard = none) (s x : Operand) (t e : TypeId)
    (ho : o.op = .call { callee := .builtin .append, args := #[s, x], argTypes := #[t, t] }) (i : TypeInfo) (z : Value) (bytes : Nat) (ht : Tryz.prog.underlying t = some (.slice e)) (hi : Tryz.prog.info? e = some i) (hz : i.zero = some z)
    (hsize : i.size = 1) (hby : i.bytes = bytes) (hzs : z.cells = #[z]) (hb8 : bytes ≤ 8) (g : Nat) (hs : ac.eval s = .slice (some ⟨g, 0, none⟩) 0 0) (b n c cb : Nat) (vs : List Value) (hx : ac.eval x = .slice (some ⟨b, 0, none⟩) n c)
    (hr : Rw w b e cb vs) (hn : vs.length = n) (h0 : 0 < n) (hm : n ≤ 1000000)
    (h : ∀ cap w', Rw w' w.heap.size e cap vs → Below w.heap.size w w' → K (ac.put o.dst (.slice (some ⟨w.heap.size, 0, none⟩) n cap)) w') :
    if Region.wanted o (yielded ops ac.tmps) = true then Oper.wp Tryz.prog o ac w K Q else E := by
  have hw : Region.wanted o (yielded ops ac.tmps) = true := by simp [Region.wanted, hgd]
  rw [if_pos hw]
  have hnews : ∀ j v, vs[j]? = some v → w.cell? ((⟨b, 0, none⟩ : Addr).add j) = some v := by
    intro j v hv
    have hj : j < vs.length := by
      rcases Nat.lt_or_ge j vs.length with h4 | h4
      · exact h4
      · rw [List.getElem?_eq_none h4] at hv; cases hv
    have hadd : (⟨b, 0, none⟩ : Addr).add j = ⟨b, j, none⟩ := by unfold Addr.add; split <;> simp_all
    rw [hadd, hr.cell hj]
    rw [List.getElem?_eq_getElem hj] at hv
    exact hv
  have hnx : Builtin.nextslicecap n 0 = n := nextslicecap_zero h0
  have hmul : n * bytes ≤ 1000000 * 8 := Nat.mul_le_mul hm hb8
  have hrun := run_append_grow (P := Tryz.prog) w t o.type e i z ht hi hz ⟨g, 0, none⟩ 0 0 [] (by simp) (by simp) ⟨b, 0, none⟩ n c vs (by rw [hsize, hn, Nat.mul_one]) hnews (by omega) (by omega) (by rw [hby, Nat.zero_add, hnx]; omega)
  simp only [Nat.zero_add] at hrun
  have hge := grownCap_ge w n 0 e
  have hle := grownCap_le_maxLen w n 0 e (by unfold maxLen; omega)
  have hzc : (Builtin.zeroCells z.cells (grownCap w n 0 e - n)).toList.length = grownCap w n 0 e - n := by rw [hzs]; simp [Builtin.zeroCells]
  have hrow : Rw (w.drew.alloc (.cells (([] : List Value).toArray ++ vs.toArray ++ Builtin.zeroCells z.cells (grownCap w n 0 e - n)) e)) w.heap.size e (grownCap w n 0 e) vs := by
    refine ⟨vs ++ (Builtin.zeroCells z.cells (grownCap w n 0 e - n)).toList, ?_, by rw [List.length_append, hzc, hn]; omega, by rw [List.take_left], hle⟩
    have h1 := heap_alloc_new w.drew (.cells (([] : List Value).toArray ++ vs.toArray ++ Builtin.zeroCells z.cells (grownCap w n 0 e - n)) e)
    have e2 : (vs ++ (Builtin.zeroCells z.cells (grownCap w n 0 e - n)).toList).toArray = ([] : List Value).toArray ++ vs.toArray ++ Builtin.zeroCells z.cells (grownCap w n 0 e - n) := by apply Array.ext'; simp
    rw [e2]
    exact h1
  have hbel : Below w.heap.size w (w.drew.alloc (.cells (([] : List Value).toArray ++ vs.toArray ++ Builtin.zeroCells z.cells (grownCap w n 0 e - n)) e)) := (dBelow (Below.refl w.heap.size w) 1).alloc (Nat.le_refl _) _
  unfold Oper.wp execOp
  simp only [ho, resolve, invoke, builtin, Sem.run_bind, Sem.run_pure, Result.andThen_ok, List.map_toArray, List.map_cons, List.map_nil, hs, hx, hrun]
  exact h _ _ hrow hbel
theorem bsz {B : Nat} {a w : World} (h : Below B a w) : a.heap.size ≤ w.heap.size := h.size
theorem Rw.at_ {w : World} {g g' c : Nat} {e : TypeId} {vs : List Value} (h : Rw w g e c vs) (hg : g = g') : Rw w g' e c vs := by subst hg; exact h
/-- a storage, behind a name that no tactic takes apart -/
structure StI (T : TypeId) (w : World) (F : Foot) (bs ks : List Int) : Prop where
  out : St T w F bs ks
theorem StI.alloc {T : TypeId} {w : World} {F : Foot} {bs ks : List Int} (O : Obj) (h : StI T w F bs ks) : StI T (w.alloc O) F bs ks := ⟨h.out.alloc O⟩
theorem StI.allocD {T : TypeId} {w : World} {F : Foot} {bs ks : List Int} (O : Obj) (h : StI T w.drew F bs ks) : StI T (w.alloc O).drew F bs ks := ⟨((h.out.keep (w' := w) rfl rfl rfl).alloc O).drewN 1⟩
theorem bcell_alloc {w : World} {b o : Nat} {v : Value} (O : Obj) (h : w.cell? ⟨b, o, none⟩ = some v) : (w.alloc O).cell? ⟨b, o, none⟩ = some v := bcell_keep h ((Below.refl w.heap.size w).alloc (Nat.le_refl _) O)
theorem bcell_allocD {w : World} {b o : Nat} {v : Value} (O : Obj) (h : w.drew.cell? ⟨b, o, none⟩ = some v) : (w.alloc O).drew.cell? ⟨b, o, none⟩ = some v := bcell_alloc (w := w) O h
theorem bbelow_alloc {B : Nat} {a w : World} (O : Obj) (h : Below B a w) (hB : B ≤ a.heap.size) : Below B a (w.alloc O) := h.alloc (Nat.le_trans hB h.size) O
theorem bbelow_allocD {B : Nat} {a w : World} (O : Obj) (h : Below B a w.drew) (hB : B ≤ a.heap.size) : Below B a (w.alloc O).drew := dBelow (bbelow_alloc (w := w) O ⟨h.os, h.tape, h.output, h.size, h.block⟩ hB) 1

section
variable {T : TypeId} {w w' a0 : World} {F : Foot} {bs ks : List Int} {B g : Nat} {x y : Value}
theorem keep4 (O : Obj) (h : w.cell? ⟨g, 0, none⟩ = some x ∧ w.cell? ⟨g, 1, none⟩ = some y ∧ StI T w F bs ks ∧ Below B a0 w) (hB : B ≤ a0.heap.size) : (w.alloc O).cell? ⟨g, 0, none⟩ = some x ∧ (w.alloc O).cell? ⟨g, 1, none⟩ = some y ∧ StI T (w.alloc O) F bs ks ∧ Below B a0 (w.alloc O) :=
  ⟨bcell_alloc O h.1, bcell_alloc O h.2.1, h.2.2.1.alloc O, bbelow_alloc O h.2.2.2 hB⟩
theorem keep4D (O : Obj) (h : w.drew.cell? ⟨g, 0, none⟩ = some x ∧ w.drew.cell? ⟨g, 1, none⟩ = some y ∧ StI T w.drew F bs ks ∧ Below B a0 w.drew) (hB : B ≤ a0.heap.size) : (w.alloc O).drew.cell? ⟨g, 0, none⟩ = some x ∧ (w.alloc O).drew.cell? ⟨g, 1, none⟩ = some y ∧ StI T (w.alloc O).drew F bs ks ∧ Below B a0 (w.alloc O).drew :=
  ⟨bcell_allocD O h.1, bcell_allocD O h.2.1, h.2.2.1.allocD O, bbelow_allocD O h.2.2.2 hB⟩
theorem keep4B (h : w.cell? ⟨g, 0, none⟩ = some x ∧ w.cell? ⟨g, 1, none⟩ = some y ∧ StI T w F bs ks ∧ Below B a0 w) (hb : Below w.heap.size w w') (hB : B ≤ a0.heap.size) : w'.cell? ⟨g, 0, none⟩ = some x ∧ w'.cell? ⟨g, 1, none⟩ = some y ∧ StI T w' F bs ks ∧ Below B a0 w' :=
  ⟨bcell_keep h.1 hb, bcell_keep h.2.1 hb, ⟨h.2.2.1.out.belowS hb⟩, bbelow_keep h.2.2.2 hB hb⟩
end

def rcopyPost (w : World) (bs ks : List Int) (e : Ending) (w' : World) : Prop := ∃ v, e = .returned v ∧ NewSt 70 w bs ks v w'
set_option maxHeartbeats 4000000 in
theorem rcopy_c {F : Foot} {bs ks : List Int} (w : World) (h : St 70 w F bs ks)  : Calls Tryz.prog 24 #[.pointer (some ⟨F.g, 0, none⟩)] w (rcopyPost w bs ks) := by
  obtain ⟨N, hN⟩ : ∃ N, bs.length = N := ⟨_, rfl⟩
  obtain ⟨m, hm⟩ : ∃ m, ks.length = m := ⟨_, rfl⟩
  have c0 := h.cell0
  have c1 := h.cell1
  have H := Lib.hid h
  have LN := Lib.hid (show N = 2048 * m from by rw [← hN, ← hm]; exact h.ln)
  have n0 : (2048 : Int) ≤ (N : Int) := by have := h.ln; have := h.l0; omega
  have n1 : (N : Int) ≤ 65536 := by have := h.ln; have := h.l1; omega
  rw [hN] at c0
  rw [hm] at c1
  have HN := Lib.hid hN
  have HM := Lib.hid hm
  have ltg := H.out.ltg
  clear hN hm h
  have M1 : 1 ≤ m := by have := H.out.l0; rw [HM.out] at this; exact this
  have M2 : m ≤ 32 := by have := H.out.l1; rw [HM.out] at this; exact this
  obtain ⟨i0, hi, hz0, hz1, hz2⟩ := info_parts info_u8
  obtain ⟨i1, ji, jz0, jz1, jz2⟩ := info_parts info_int
  have I0 := Lib.hid (And.intro hi (And.intro hz0 (And.intro hz1 hz2)))
  have I1 := Lib.hid (And.intro ji (And.intro jz0 (And.intro jz1 jz2)))
  have hst : StI 70 w.drew F bs ks := ⟨H.out.drewN 1⟩
  have hbw : Below w.heap.size w w.drew := dBelow (Below.refl w.heap.size w) 1
  clear hi hz0 hz1 hz2 ji jz0 jz1 jz2
  go_enter Tryz.func24, Tryz.ntmps24
  go_wp2
  go_region_held3 (fun w' => w'.cell? ⟨F.g, 0, none⟩ = some (.slice (some ⟨F.gb, 0, none⟩) N F.cb) ∧ w'.cell? ⟨F.g, 1, none⟩ = some (.slice (some ⟨F.gk, 0, none⟩) m F.ck) ∧ StI 70 w' F bs ks ∧ Below w.heap.size w w')
    (first | exact keep4D _ (by assumption) (Nat.le_refl _) | exact keep4 _ (by assumption) (Nat.le_refl _) | exact keep4B (by assumption) (by assumption) (Nat.le_refl _) | go_keep)
    (first
      | (refine step_append_fresh (by rfl) (.tmp 3) (.tmp 7) 29 5 (by rfl) i0 (.int .u8 0) 1 Tryz.underlying29 I0.out.1 I0.out.2.1 I0.out.2.2.1 I0.out.2.2.2 rfl (by omega) _ (by rfl) F.gb N F.cb F.cb (bs.map (Value.int .u8)) (by rfl) ?_ (by rw [List.length_map]; exact HN.out) (by omega) (by omega) ?_; exact (St.b (StI.out (by go_split_ands; assumption))); intro capb w1 hrb hb; have RB := Lib.hid hrb; have hlb := Nat.le_trans (bsz (B := w.heap.size) (a := w) (by go_split_ands; assumption)) hb.size)
      | (refine step_append_fresh (by rfl) (.tmp 9) (.tmp 13) 68 3 (by rfl) i1 (.int .i64 0) 8 Tryz.underlying68 I1.out.1 I1.out.2.1 I1.out.2.2.1 I1.out.2.2.2 rfl (by omega) _ (by rfl) F.gk m F.ck F.ck (ks.map (Value.int .i64)) (by rfl) ?_ (by rw [List.length_map]; exact HM.out) (by omega) (by omega) ?_; exact (St.k (StI.out (by go_split_ands; assumption))); intro capk w1 hrk hb; have RK := Lib.hid hrk; have hlk := Nat.le_trans (bsz (B := w.heap.size) (a := w) (by go_split_ands; assumption)) hb.size))
  all_goals
    go_wp2
    go_ret
    go_split_ands
    refine ⟨_, rfl, ⟨_, _, _, _, _⟩, rfl, St.make ?_ ?_ H.out.rb H.out.rk H.out.ln H.out.l0 H.out.l1 N m HN.out HM.out, by assumption, ?_, ?_, ?_⟩
    · first | exact RB.out.at_ (by simp) | exact (RB.out.belowS (by assumption)).at_ (by simp) | exact ((RB.out.alloc _).belowS (by assumption)).at_ (by simp)
    · first | exact RK.out.at_ (by simp) | exact (RK.out.belowS (by assumption)).at_ (by simp) | exact ((RK.out.alloc _).belowS (by assumption)).at_ (by simp)
    all_goals (dsimp only; omega)

end Go.Proofs.YthjdjbipfdigeaaGreat

namespace Go.Proofs.YthjdjbipfdigeaaGreat
open Go.RowKit
set_option maxRecDepth 100000
set_option linter.unusedVariables false
set_option linter.unusedSimpArgs false
theorem wr_len (p : Pre) (a n : Int) (ys : List Int) (cc : Int) : (p.wr a n ys cc).rs = p.os := by unfold Pre.wr; split <;> rfl
theorem brO_len (p : Pre) (op : Int) (n k : Nat) (a : Int) : (brO p op n k a).rs.length = p.os.length := by
  unfold brO
  repeat' split
  all_goals simp [Pre.br]
theorem ite_len (c : Prop) [Decidable c] (x y : Out) : (if c then x else y).rs.length = if c then x.rs.length else y.rs.length := by split <;> rfl
theorem arO_len (p : Pre) (op : Int) (n : Nat) (c v : Int) : (arO p op n c v).rs.length = p.os.length := by
  unfold arO
  simp only [ite_len, Pre.rg, Pre.st, Pre.no, List.length_set, ite_self]
theorem shO_len (p : Pre) (op : Int) (n : Nat) (a : Int) : (shO p op n a).rs.length = p.os.length := by
  unfold shO
  repeat' split
  all_goals simp [Pre.rg, Pre.st, Pre.no]
theorem lmR_len' (rs : List Int) (n : Nat) (zs : List Int) : ∀ k, (lmR rs n zs k).length = rs.length
  | 0 => rfl
  | k + 1 => by simp [lmR, lmR_len' rs n zs k]
theorem mvO_len (p : Pre) (op : Int) (n m : Nat) (a : Int) : (mvO p op n m a).rs.length = p.os.length := by
  unfold mvO
  repeat' split
  all_goals simp [Pre.rg, Pre.st, Pre.no, wr_len, lmR_len']
theorem imO_len (p : Pre) (op : Int) (a i : Int) : (imO p op a i).rs.length = p.os.length := by
  unfold imO
  repeat' split
  all_goals simp [Pre.rg, Pre.st, Pre.no, wr_len]
theorem scnR_len (os rs : List Int) (a : Int) (o : Option (Nat × Int)) : (scnR os rs a o).length = rs.length := by
  unfold scnR; split <;> simp
theorem loO_len (p : Pre) (op : Int) (N : Nat) (a b : Int) : (loO p op N a b).rs.length = p.os.length := by
  unfold loO
  repeat' split
  all_goals simp [Pre.rg, Pre.st, Pre.no, wr_len, scnR_len]
theorem exO_len (p : Pre) (op fm : Int) (n k : Nat) (a1 a : Int) (l1 : Nat) (i2 : Int) : (exO p op fm n k a1 a l1 i2).rs.length = p.os.length := by
  unfold exO
  repeat' split
  · exact brO_len ..
  · exact shO_len ..
  · simp [Pre.rg]
  · exact mvO_len ..
  · exact imO_len ..
  · exact loO_len ..
  · exact arO_len ..
def agR (rs : List Int) : Value := .agg (rs.map (Value.int .u32)).toArray
def xC (op fm r1 r2 x2 b1 d1 b2 d2 l1 l2 i2 : Int) (os : List Int) (m key cd il cc pg ad : Int) (bs ks : List Int) : Out :=
  if kn op = true ∧ chk op fm [op, fm, r1, r2, x2, b1, d1, b2, d2, l1, l2, i2] = 0 ∧ pok m key cd il cc pg ad = true then
    if (exO ⟨os, key, il, cc, pg, ad, bs, ks⟩ op fm r1.toNat r2.toNat ((d1 + sumB os [b1.toNat]) % 16777216) ((d2 + sumB os [b2.toNat, x2.toNat]) % 16777216) l1.toNat i2).c = 0 then { exO ⟨os, key, il, cc, pg, ad, bs, ks⟩ op fm r1.toNat r2.toNat ((d1 + sumB os [b1.toNat]) % 16777216) ((d2 + sumB os [b2.toNat, x2.toNat]) % 16777216) l1.toNat i2 with c := if (exO ⟨os, key, il, cc, pg, ad, bs, ks⟩ op fm r1.toNat r2.toNat ((d1 + sumB os [b1.toNat]) % 16777216) ((d2 + sumB os [b2.toNat, x2.toNat]) % 16777216) l1.toNat i2).ov = true ∧ 8 ≤ pg then 8 else 0 }
    else ⟨(exO ⟨os, key, il, cc, pg, ad, bs, ks⟩ op fm r1.toNat r2.toNat ((d1 + sumB os [b1.toNat]) % 16777216) ((d2 + sumB os [b2.toNat, x2.toNat]) % 16777216) l1.toNat i2).c, os, cc, pg, ad, false, bs⟩
  else ⟨1, os, cc, pg, ad, false, bs⟩
theorem list_16 {α : Type} : ∀ {l : List α}, l.length = 16 → ∃ x0 x1 x2 x3 x4 x5 x6 x7 x8 x9 x10 x11 x12 x13 x14 x15, l = [x0, x1, x2, x3, x4, x5, x6, x7, x8, x9, x10, x11, x12, x13, x14, x15]
  | [x0, x1, x2, x3, x4, x5, x6, x7, x8, x9, x10, x11, x12, x13, x14, x15], _ => ⟨_, _, _, _, _, _, _, _, _, _, _, _, _, _, _, _, rfl⟩
end Go.Proofs.YthjdjbipfdigeaaGreat

