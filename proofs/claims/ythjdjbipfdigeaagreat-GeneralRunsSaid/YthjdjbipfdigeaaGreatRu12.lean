/- Contracts and laws on the way to the statement, text 12 of 24. Conditions: as each states them. -/
import Derived.Test.YthjdjbipfdigeaaGreatRu8
import Derived.Test.YthjdjbipfdigeaaGreatRu9
import Derived.Test.YthjdjbipfdigeaaGreatRu10
import Derived.Test.YthjdjbipfdigeaaGreatRu11
namespace Go.Proofs.YthjdjbipfdigeaaGreat
open Go.RowKit
set_option maxRecDepth 100000
set_option linter.unusedVariables false
set_option linter.unusedSimpArgs false
section
variable {w0 w w' : World} {g : Nat} {F : Foot} {I : In} {os rs : List Int} {p q : Ps} {ov : Bool} {bs ks : List Int}
/-- the machine, and two slices of bytes that are changed -/
structure P2 (w0 w : World) (g : Nat) (F : Foot) (I : In) (os rs : List Int) (p q : Ps) (ov : Bool) (bs ks : List Int) (bx cx : Nat) (xs : List Int) (b2 c2 : Nat) (ys : List Int) : Prop where
  rs : PS w0 w g F I os rs p q ov bs ks
  x : Ro w bx cx xs
  y : Ro w b2 c2 ys
  ng : bx ≠ g ∧ bx ≠ F.g ∧ bx ≠ F.gb ∧ bx ≠ F.gk
  ny : b2 ≠ g ∧ b2 ≠ F.g ∧ b2 ≠ F.gb ∧ b2 ≠ F.gk
  nw : w0.heap.size ≤ bx ∧ w0.heap.size ≤ b2
  ne : b2 ≠ bx
section
variable {bx cx b2 c2 : Nat} {xs ys : List Int}
theorem P2.to {rs' : List Int} {q' : Ps} {ov' : Bool} {bs' : List Int} (h : P2 w0 w g F I os rs p q ov bs ks bx cx xs b2 c2 ys) (h' : PS w w' g F I os rs' p q' ov' bs' ks) : P2 w0 w' g F I os rs' p q' ov' bs' ks bx cx xs b2 c2 ys :=
  ⟨h.rs.re h', h.x.keep (h'.b.kept h.x.lt (by simp; exact ⟨h.ng.1, h.ng.2.2.1⟩)), h.y.keep (h'.b.kept h.y.lt (by simp; exact ⟨h.ny.1, h.ny.2.2.1⟩)), h.ng, h.ny, h.nw, h.ne⟩
theorem P2.setx (h : P2 w0 w g F I os rs p q ov bs ks bx cx xs b2 c2 ys) (j : Nat) {y : Int} (hy : 0 ≤ y ∧ y ≤ 255) : P2 w0 (w.setCell ⟨bx, j, none⟩ (.int .u8 y)) g F I os rs p q ov bs ks bx cx (xs.set j y) b2 c2 ys :=
  ⟨h.rs.oth _ h.ng h.nw.1, h.x.set_ hy, h.y.other _ (Ne.symm h.ne), h.ng, h.ny, h.nw, h.ne⟩
theorem P2.sety (h : P2 w0 w g F I os rs p q ov bs ks bx cx xs b2 c2 ys) (j : Nat) {y : Int} (hy : 0 ≤ y ∧ y ≤ 255) : P2 w0 (w.setCell ⟨b2, j, none⟩ (.int .u8 y)) g F I os rs p q ov bs ks bx cx xs b2 c2 (ys.set j y) :=
  ⟨h.rs.oth _ h.ny h.nw.2, h.x.other _ h.ne, h.y.set_ hy, h.ng, h.ny, h.nw, h.ne⟩
end
set_option maxRecDepth 1000000 in
set_option maxHeartbeats 8000000 in
theorem pcmb_c (fn : Nat) (f : Int → Int → Int) (lg : Bool) (hfn : ∀ (x y : Int) (w : World), 0 ≤ x → x ≤ 255 → 0 ≤ y → y ≤ 255 → Calls Tryz.prog fn #[.int .u8 x, .int .u8 y] w fun e w' => e = .returned (.int .u8 (f x y)) ∧ w = w') (hfc : ∀ (args : Array Value) (W : World), Sem.run Tryz.prog (callFunc fn args) W = .ok (.enter fn args) W) (hfi : ∀ x y : Int, 0 ≤ x → x ≤ 255 → 0 ≤ y → y ≤ 255 → 0 ≤ f x y ∧ f x y ≤ 255) (h : PS w0 w g F I os os p p false bs ks) : Calls Tryz.prog 114 #[.pointer (some ⟨g, 0, none⟩), .func (.func fn) #[] #[], .bool lg] w (Gp w0 g F I os p bs ks (if Pre.fc ⟨os, p.key, p.il, p.cc, p.pg, p.ad, bs, ks⟩ (I.a1 os) ((I.l + 1 : Nat) : Int) ≠ 0 then Pre.no ⟨os, p.key, p.il, p.cc, p.pg, p.ad, bs, ks⟩ (Pre.fc ⟨os, p.key, p.il, p.cc, p.pg, p.ad, bs, ks⟩ (I.a1 os) ((I.l + 1 : Nat) : Int)) else if Pre.fc ⟨os, p.key, p.il, p.cc, p.pg, p.ad, bs, ks⟩ (I.a os) ((I.l + 1 : Nat) : Int) ≠ 0 then Pre.no ⟨os, p.key, p.il, p.cc, p.pg, p.ad, bs, ks⟩ (Pre.fc ⟨os, p.key, p.il, p.cc, p.pg, p.ad, bs, ks⟩ (I.a os) ((I.l + 1 : Nat) : Int)) else Pre.wr ⟨os, p.key, p.il, p.cc, p.pg, p.ad, bs, ks⟩ (I.a1 os) ((I.l + 1 : Nat) : Int) (cmb f (sGet bs (I.a1 os) ((I.l + 1 : Nat) : Int)) (sGet bs (I.a os) ((I.l + 1 : Nat) : Int)) (I.a1 os - I.a os) (I.l + 1)) (if lg = true then cmbS f (sGet bs (I.a1 os) ((I.l + 1 : Nat) : Int)) (sGet bs (I.a os) ((I.l + 1 : Nat) : Int)) (I.a1 os - I.a os) (I.l + 1) else p.cc))) := by
  have A0 := I.a1_in os
  have B0 := I.a_in os
  have FC := Lib.hid (fun W (hW : PS w0 W g F I os os p p false bs ks) => pfst_c hW)
  have SC := Lib.hid (fun W (hW : PS w0 W g F I os os p p false bs ks) => psec_c hW)
  obtain ⟨A, hA⟩ : ∃ A, I.a1 os = A := ⟨_, rfl⟩
  obtain ⟨B, hB⟩ : ∃ B, I.a os = B := ⟨_, rfl⟩
  rw [hA] at FC A0 ⊢
  rw [hB] at SC B0 ⊢
  clear hA hB
  obtain ⟨N, hN⟩ : ∃ N, I.l + 1 = N := ⟨_, rfl⟩
  have nl := h.ix.l
  have N0 : 0 < N := by omega
  have N1 : N ≤ 256 := by omega
  have c1 : IntKind.i64.wrap ((I.l : Int) + 1) = (N : Int) := by rw [wrap_i64_id (by omega) (by omega)]; omega
  rw [hN]
  clear hN nl
  obtain ⟨xs, hxs⟩ : ∃ xs, sGet bs A (N : Int) = xs := ⟨_, rfl⟩
  obtain ⟨ys, hys⟩ : ∃ ys, sGet bs B (N : Int) = ys := ⟨_, rfl⟩
  rw [hxs, hys]
  obtain ⟨o, ho⟩ : ∃ o, (if Pre.fc ⟨os, p.key, p.il, p.cc, p.pg, p.ad, bs, ks⟩ A N ≠ 0 then Pre.no ⟨os, p.key, p.il, p.cc, p.pg, p.ad, bs, ks⟩ (Pre.fc ⟨os, p.key, p.il, p.cc, p.pg, p.ad, bs, ks⟩ A N) else if Pre.fc ⟨os, p.key, p.il, p.cc, p.pg, p.ad, bs, ks⟩ B N ≠ 0 then Pre.no ⟨os, p.key, p.il, p.cc, p.pg, p.ad, bs, ks⟩ (Pre.fc ⟨os, p.key, p.il, p.cc, p.pg, p.ad, bs, ks⟩ B N) else Pre.wr ⟨os, p.key, p.il, p.cc, p.pg, p.ad, bs, ks⟩ A N (cmb f xs ys (A - B) N) (if lg = true then cmbS f xs ys (A - B) N else p.cc)) = o := ⟨_, rfl⟩
  rw [ho]
  have HOa : Hid (sCode (alF p.key) bs.length ks A N ≠ 0 → o.c = sCode (alF p.key) bs.length ks A N) := Lib.hid fun h => by rw [← ho]; exact congrArg Out.c (if_pos h)
  have HOb : Hid (sCode (alF p.key) bs.length ks A N = 0 → sCode (alF p.key) bs.length ks B N ≠ 0 → o.c = sCode (alF p.key) bs.length ks B N) := Lib.hid fun h1 h => by rw [← ho]; exact congrArg Out.c ((if_neg (fun h => h h1)).trans (if_pos h))
  have HOc : Hid (sCode (alF p.key) bs.length ks A N = 0 → sCode (alF p.key) bs.length ks B N = 0 → o = Pre.wr ⟨os, p.key, p.il, p.cc, p.pg, p.ad, bs, ks⟩ A N (cmb f xs ys (A - B) N) (if lg = true then cmbS f xs ys (A - B) N else p.cc)) := Lib.hid fun h1 h2 => by rw [← ho]; exact (if_neg (fun h => h h1)).trans (if_neg (fun h => h h2))
  have SX := Lib.hid hxs
  have SY := Lib.hid hys
  have HFN := Lib.hid hfn
  have HFI := Lib.hid hfi
  have R0 := Lib.hid h
  have wd : IntKind.i64.wrap (A - B) = A - B := wrap_i64_id (by omega) (by omega)
  clear hxs hys ho hfn hfi h
  refine R0.out.opn ?_
  intros
  go_enter Tryz.func114, Tryz.ntmps114
  go_upto_region 0 with fail
  refine wp_region_held_drew (S := Sy w0 g F I os p) (by kernel_rfl) R0.out.drew.x (fun hHeld => ?_)
  have R1 := Lib.hid R0.out.drew
  have z1 := R0.out.b.size
  clear R0
  repeat refine tkp ?_
  refine tkc (FC.out _ R1.out) (fun _ h => h.x) ?_
  clear R1 hHeld
  intro w2 R1 hHeld
  repeat refine tkp ?_
  refine tkc (SC.out _ R1.out) (fun _ h => h.x) ?_
  clear R1 hHeld
  intro w2 R1 hHeld
  repeat refine tkp ?_
  refine wpAnyH_done (by kernel_rfl) ?_ _
  refine R1.out.opn ?_
  clear hHeld
  intros
  have z2 := R1.out.b.size
  have z3 := R1.out.lt
  have z4 := R1.out.st.ltg
  have z5 := R1.out.st.ltb
  have z6 := R1.out.st.ltk
  go_upto_region 2 with (first
    | (go_at_call 108; have hz1 := Z1.out; refine nxh (pfet_c R1.out.rb _ N N0) (fun b2 c2 w4 Z2 O2 hy1 hy2 R2 => ?_) (fun w4 Z2 R2 => ?_))
    | (go_at_call 108; refine nxh (pfet_c R1.out _ N N0) (fun bx cx w1 Z1 O1 hx1 hx2 R1 => ?_) (fun w1 Z1 R1 => ?_)))
  rotate_left
  · exact ⟨rfl, gp_no (R1.out.re R2.out) (HOb.out Z1.out Z2.out) Z2.out⟩
  · exact ⟨rfl, gp_no R1.out (HOa.out Z1.out) Z1.out⟩
  rw [SX.out] at O1
  rw [SY.out] at O2
  have W2 : Hid (P2 w0 w4 g F I os os p p false bs ks bx cx xs b2 c2 ys) := Lib.hid ⟨R1.out.re R2.out, O1.out.ro.keep (R2.out.b.kept hx2 (by simp; omega)), O2.out.ro, by omega, by omega, by omega, by omega⟩
  have xl := Lib.hid O1.out.len
  have yl := Lib.hid O2.out.len
  clear O1 O2 hx1 hx2 hy1 hy2 R1 R2 z1 z2 z3 z4 z5 z6 FC SC
  go_wp2
  go_loopw [11, 34] (fun sv x W => ∃ (k : Nat) (zs : List Int), k ≤ N ∧ x = .int .i64 (k : Int) ∧ sv = .int .i64 (cmbS f xs ys (A - B) k) ∧ zs.length = N ∧ (∀ i, k ≤ i → zs.getD i 0 = ys.getD i 0) ∧ P2 w0 W g F I os os p p false bs ks bx cx (cmb f xs ys (A - B) k) b2 c2 zs) (fun _ x _ => N - (intOf x).toNat)
  case atStart => exact ⟨0, ys, by omega, rfl, rfl, yl.out, fun _ _ => rfl, W2.out⟩
  case round =>
    obtain ⟨k, zs, hk, rfl, rfl, hzl, hzy, hW⟩ := hrel
    have W3 := Lib.hid hW
    have ZY := Lib.hid hzy
    have ZL := Lib.hid hzl
    by_cases hlt : k < N
    · have i0 : (k : Int) < (N : Int) := by omega
      have cl : (cmb f xs ys (A - B) k).length = N := by rw [cmb_len, xl.out]
      have x0 := hW.x.rangeD k
      have y0 := hW.y.rangeD k
      have yk := hzy k (Nat.le_refl _)
      obtain ⟨s, hs⟩ : ∃ s, cmbS f xs ys (A - B) k = s := ⟨_, rfl⟩
      obtain ⟨vs, hvs⟩ : ∃ vs, cmb f xs ys (A - B) k = vs := ⟨_, rfl⟩
      obtain ⟨x, hx⟩ : ∃ x, vs.getD k 0 = x := ⟨_, rfl⟩
      obtain ⟨y, hy⟩ : ∃ y, ys.getD k 0 = y := ⟨_, rfl⟩
      have step : ∀ e v, (if 0 < A - B ∧ A - B ≤ (k : Int) then vs.getD (k - (A - B).toNat) 0 else y) = e → f x e = v → cmb f xs ys (A - B) (k + 1) = vs.set k v ∧ cmbS f xs ys (A - B) (k + 1) = if v = 0 then s else 1 := by
        intro e v he hv
        have hc : cmb f xs ys (A - B) (k + 1) = vs.set k v := by
          show (cmb f xs ys (A - B) k).set k (f ((cmb f xs ys (A - B) k).getD k 0) (if 0 < A - B ∧ A - B ≤ (k : Int) then (cmb f xs ys (A - B) k).getD (k - (A - B).toNat) 0 else ys.getD k 0)) = _
          rw [hvs, hx, hy, he, hv]
        refine ⟨hc, ?_⟩
        show (if (cmb f xs ys (A - B) (k + 1)).getD k 0 = 0 then cmbS f xs ys (A - B) k else 1) = _
        rw [hc, getD_set_same _ _ _ (by rw [← hvs, cl]; exact hlt), hs]
      rw [hvs] at W3 cl x0
      rw [hs]
      rw [hx] at x0
      rw [yk, hy] at y0
      have ce : ∃ e, (if 0 < A - B ∧ A - B ≤ (k : Int) then vs.getD (k - (A - B).toNat) 0 else y) = e ∧ (0 ≤ e ∧ e ≤ 255) := ⟨_, rfl, by split; exact W3.out.x.rangeD _; exact y0⟩
      obtain ⟨e, he, e0⟩ := ce
      obtain ⟨v, hv⟩ : ∃ v, f x e = v := ⟨_, rfl⟩
      have v0 := HFI.out x e x0.1 x0.2 e0.1 e0.2
      rw [hv] at v0
      have FN := Lib.hid (fun W => hv ▸ HFN.out x e W x0.1 x0.2 e0.1 e0.2 : ∀ W, Calls Tryz.prog fn #[.int .u8 x, .int .u8 e] W fun e' w' => e' = .returned (.int .u8 v) ∧ W = w')
      have ST := Lib.hid (step e v he hv)
      have HX := Lib.hid hx
      have cyk : wr.cell? ⟨b2, k, none⟩ = some (.int .u8 y) := by rw [hW.y.cell (i := k) (by rw [hzl]; exact hlt), yk, hy]
      have cj : (∃ j : Nat, (j : Int) < (N : Int) ∧ IntKind.i64.wrap ((k : Int) - (A - B)) = (j : Int) ∧ wr.cell? ⟨bx, j, none⟩ = some (.int .u8 e) ∧ A - B > 0 ∧ (k : Int) ≥ A - B ∧ Hid (∃ us : List Int, us.length = N ∧ us.getD k 0 = e ∧ (∀ i, k + 1 ≤ i → us.getD i 0 = ys.getD i 0) ∧ P2 w0 (wr.setCell ⟨b2, k, none⟩ (.int .u8 e)) g F I os os p p false bs ks bx cx vs b2 c2 us)) ∨ (¬ A - B > 0 ∧ Hid (∃ us : List Int, us.length = N ∧ us.getD k 0 = e ∧ (∀ i, k + 1 ≤ i → us.getD i 0 = ys.getD i 0) ∧ P2 w0 (wr) g F I os os p p false bs ks bx cx vs b2 c2 us)) ∨ (A - B > 0 ∧ ¬ (k : Int) ≥ A - B ∧ Hid (∃ us : List Int, us.length = N ∧ us.getD k 0 = e ∧ (∀ i, k + 1 ≤ i → us.getD i 0 = ys.getD i 0) ∧ P2 w0 (wr) g F I os os p p false bs ks bx cx vs b2 c2 us)) := by
        have K0 : y = e → Hid (∃ us : List Int, us.length = N ∧ us.getD k 0 = e ∧ (∀ i, k + 1 ≤ i → us.getD i 0 = ys.getD i 0) ∧ P2 w0 (wr) g F I os os p p false bs ks bx cx vs b2 c2 us) := fun h => Lib.hid ⟨zs, ZL.out, by rw [yk, hy, h], fun i hi => hzy i (by omega), W3.out⟩
        by_cases h1 : 0 < A - B
        · by_cases h2 : A - B ≤ (k : Int)
          · refine .inl ⟨k - (A - B).toNat, by omega, by rw [wrap_i64_id (by omega) (by omega)]; omega, ?_, h1, h2, Lib.hid ⟨zs.set k e, by rw [List.length_set, ZL.out], getD_set_same _ _ _ (by rw [ZL.out]; exact hlt), fun i hi => by rw [getD_set_other _ _ _ _ (by omega)]; exact hzy i (by omega), W3.out.sety k e0⟩⟩
            rw [W3.out.x.cell (i := k - (A - B).toNat) (by rw [cl]; omega), ← he, if_pos ⟨h1, h2⟩]
          · exact .inr (.inr ⟨h1, h2, K0 (by rw [← he, if_neg (by omega)])⟩)
        · exact .inr (.inl ⟨h1, K0 (by rw [← he, if_neg (by omega)])⟩)
      have vz : (v = 0 ∧ (v != 0) = false) ∨ (v ≠ 0 ∧ (v != 0) = true) := by by_cases hv : v = 0 <;> simp [hv]
      have fy := hW.y.free
      clear hs hvs step hy hW hv hx he hzy hzl yk
      clear W3
      rcases cj with ⟨j, j0, j1, j2, j3, j4, KW⟩ | ⟨j3, KW⟩ | ⟨j3, j4, KW⟩
      all_goals
        go_upto_region 9 with fail
        obtain ⟨us, ul, uk, uo, hW⟩ := KW.out
        have W3 := Lib.hid hW
        have UL := Lib.hid ul
        have UK := Lib.hid uk
        have UO := Lib.hid uo
        clear ul uk uo hW KW
        have yc : ∀ w' vs, P2 w0 w' g F I os os p p false bs ks bx cx vs b2 c2 us → w'.cell? ⟨b2, k, none⟩ = some (.int .u8 e) := fun w' vs h => by rw [h.y.cell (i := k) (by rw [UL.out]; exact hlt), UK.out]
        have YC := Lib.hid yc
        clear yc
        refine wp_region_held_drew (S := fun W => W.cell? ⟨b2, k, none⟩ = some (.int .u8 e)) (by kernel_rfl) (YC.out _ _ (W3.out.to W3.out.rs.rb.drew)) (fun hHeld => ?_)
        replace W3 := Lib.hid (W3.out.to W3.out.rs.rb.drew)
        have cq := W3.out.x.cell (i := k) (by rw [cl]; exact hlt)
        rw [HX.out] at cq
        repeat refine tkn ?_
        refine tki 7 ?_
        refine tki 8 ?_
        refine tki 9 ?_
        refine tki 10 ?_
        refine tkv ?_
        refine tkz (FN.out _) ?_
        repeat refine tkn ?_
        refine tk_st (R := fun w' => P2 w0 w' g F I os os p p false bs ks bx cx (vs.set k v) b2 c2 us) (st_u8 (W3.out.x.cell (i := k) (by rw [cl]; exact hlt)) (W3.out.x.free _)) (W3.out.setx k v0) (fun w' h => YC.out _ _ h) ?_ (by with_unfolding_all rfl) (by rfl) (by rfl) (by rfl) (by rfl) (by rfl) (fun w' => by simp only [Act.put, List.setIfInBounds_toArray, List.set_cons_zero, List.set_cons_succ]; try rfl)
        clear W3 hHeld cq
        intro w6 W4 hHeld
        refine wpAnyH_done (by with_unfolding_all rfl) ?_ _
        have cz := W4.out.x.cell (i := k) (by rw [List.length_set, cl]; exact hlt)
        rw [getD_set_same _ _ _ (by rw [cl]; exact hlt)] at cz
        clear hHeld
        rcases vz with ⟨z0, z1⟩ | ⟨z0, z1⟩
      all_goals
        have Z0 := Lib.hid z0
        clear z0
        go_wp2
        exact ⟨⟨k + 1, us, by omega, rfl, by rw [ST.out.2]; first | rw [if_pos Z0.out] | rw [if_neg Z0.out], UL.out, UO.out, by rw [ST.out.1]; exact W4.out⟩, by simp [intOf]; omega⟩
    · obtain rfl : k = N := by omega
      have X5 := Lib.hid (hW.x.byt k (by rw [cmb_len, xl.out]))
      clear hW
      cases lg
      all_goals
        go_wp2_with (go_at_call 105; refine nxk (pput_c W3.out.rs A _ k _ _ X5.out (by omega)) (fun w5 Z3 R1 => R1.out.opn ?_) (fun w5 Z3 R1 => ?_) <;> intros)
        all_goals first
          | ((first | go_end0 | refine bodyPost_ret (results_none rfl _ _ _) rfl ?_); first | exact gp_ok (R1.out.setcc _) ((HOc.out Z1.out Z2.out).trans (wr_ok (P := ⟨os, p.key, p.il, p.cc, p.pg, p.ad, bs, ks⟩) (a := A) (n := (k : Int)) Z3.out)) | exact gp_ok R1.out ((HOc.out Z1.out Z2.out).trans (wr_ok (P := ⟨os, p.key, p.il, p.cc, p.pg, p.ad, bs, ks⟩) (a := A) (n := (k : Int)) Z3.out)))
          | (refine ⟨rfl, gp_no R1.out ?_ Z3.out⟩; exact (congrArg Out.c (HOc.out Z1.out Z2.out)).trans (wr_no (P := ⟨os, p.key, p.il, p.cc, p.pg, p.ad, bs, ks⟩) (a := A) (n := (k : Int)) Z3.out))
end
end Go.Proofs.YthjdjbipfdigeaaGreat

namespace Go.Proofs.YthjdjbipfdigeaaGreat
open Go.RowKit
set_option maxRecDepth 100000
set_option linter.unusedVariables false
set_option linter.unusedSimpArgs false
section
variable {w0 w w' : World} {g : Nat} {F : Foot} {I : In} {os rs : List Int} {p q : Ps} {ov : Bool} {bs ks : List Int}
set_option maxRecDepth 1000000 in
set_option maxHeartbeats 8000000 in
theorem pclc_c (h : PS w0 w g F I os os p p false bs ks) : Calls Tryz.prog 121 #[.pointer (some ⟨g, 0, none⟩)] w (Gp w0 g F I os p bs ks (if Pre.fc ⟨os, p.key, p.il, p.cc, p.pg, p.ad, bs, ks⟩ (I.a1 os) ((I.l + 1 : Nat) : Int) ≠ 0 then Pre.no ⟨os, p.key, p.il, p.cc, p.pg, p.ad, bs, ks⟩ (Pre.fc ⟨os, p.key, p.il, p.cc, p.pg, p.ad, bs, ks⟩ (I.a1 os) ((I.l + 1 : Nat) : Int)) else if Pre.fc ⟨os, p.key, p.il, p.cc, p.pg, p.ad, bs, ks⟩ (I.a os) ((I.l + 1 : Nat) : Int) ≠ 0 then Pre.no ⟨os, p.key, p.il, p.cc, p.pg, p.ad, bs, ks⟩ (Pre.fc ⟨os, p.key, p.il, p.cc, p.pg, p.ad, bs, ks⟩ (I.a os) ((I.l + 1 : Nat) : Int)) else Pre.st ⟨os, p.key, p.il, p.cc, p.pg, p.ad, bs, ks⟩ os (clc (sGet bs (I.a1 os) ((I.l + 1 : Nat) : Int)) (sGet bs (I.a os) ((I.l + 1 : Nat) : Int))) false)) := by
  have A0 := I.a1_in os
  have B0 := I.a_in os
  have FC := Lib.hid (fun W (hW : PS w0 W g F I os os p p false bs ks) => pfst_c hW)
  have SC := Lib.hid (fun w0 W (hW : PS w0 W g F I os os p p false bs ks) => psec_c hW)
  obtain ⟨A, hA⟩ : ∃ A, I.a1 os = A := ⟨_, rfl⟩
  obtain ⟨B, hB⟩ : ∃ B, I.a os = B := ⟨_, rfl⟩
  rw [hA] at FC A0 ⊢
  rw [hB] at SC B0 ⊢
  clear hA hB
  obtain ⟨N, hN⟩ : ∃ N, I.l + 1 = N := ⟨_, rfl⟩
  have nl := h.ix.l
  have N0 : 0 < N := by omega
  have N1 : N ≤ 256 := by omega
  have c1 : IntKind.i64.wrap ((I.l : Int) + 1) = (N : Int) := by rw [wrap_i64_id (by omega) (by omega)]; omega
  rw [hN]
  clear hN nl
  obtain ⟨xs, hxs⟩ : ∃ xs, sGet bs A (N : Int) = xs := ⟨_, rfl⟩
  obtain ⟨ys, hys⟩ : ∃ ys, sGet bs B (N : Int) = ys := ⟨_, rfl⟩
  rw [hxs, hys]
  obtain ⟨o, ho⟩ : ∃ o, (if Pre.fc ⟨os, p.key, p.il, p.cc, p.pg, p.ad, bs, ks⟩ A N ≠ 0 then Pre.no ⟨os, p.key, p.il, p.cc, p.pg, p.ad, bs, ks⟩ (Pre.fc ⟨os, p.key, p.il, p.cc, p.pg, p.ad, bs, ks⟩ A N) else if Pre.fc ⟨os, p.key, p.il, p.cc, p.pg, p.ad, bs, ks⟩ B N ≠ 0 then Pre.no ⟨os, p.key, p.il, p.cc, p.pg, p.ad, bs, ks⟩ (Pre.fc ⟨os, p.key, p.il, p.cc, p.pg, p.ad, bs, ks⟩ B N) else Pre.st ⟨os, p.key, p.il, p.cc, p.pg, p.ad, bs, ks⟩ os (clc xs ys) false) = o := ⟨_, rfl⟩
  rw [ho]
  have HOa : Hid (sCode (alF p.key) bs.length ks A N ≠ 0 → o.c = sCode (alF p.key) bs.length ks A N) := Lib.hid fun h => by rw [← ho]; exact congrArg Out.c (if_pos h)
  have HOb : Hid (sCode (alF p.key) bs.length ks A N = 0 → sCode (alF p.key) bs.length ks B N ≠ 0 → o.c = sCode (alF p.key) bs.length ks B N) := Lib.hid fun h1 h => by rw [← ho]; exact congrArg Out.c ((if_neg (fun h => h h1)).trans (if_pos h))
  have HOc : Hid (sCode (alF p.key) bs.length ks A N = 0 → sCode (alF p.key) bs.length ks B N = 0 → o = Pre.st ⟨os, p.key, p.il, p.cc, p.pg, p.ad, bs, ks⟩ os (clc xs ys) false) := Lib.hid fun h1 h2 => by rw [← ho]; exact (if_neg (fun h => h h1)).trans (if_neg (fun h => h h2))
  have SX := Lib.hid hxs
  have SY := Lib.hid hys
  have R1 := Lib.hid h
  have z1 := h.b.size
  have z3 := h.lt
  have z4 := h.st.ltg
  have z5 := h.st.ltb
  have z6 := h.st.ltk
  clear hxs hys ho h
  refine R1.out.opn ?_
  intros
  go_enter Tryz.func121, Tryz.ntmps121
  go_upto_region 2 with (first
    | (go_at_call 111; have y1 := R1.out.b.size; have y2 := R1.out.st.ltg; refine nx (FC.out _ R1.out) ?_; clear R1; intro w1 R1)
    | (go_at_call 44; refine nx (SC.out _ _ R1.out.rb) ?_; intro w3 R3)
    | (go_at_call 108; have hz1 := Z1.out; refine nxh (pfet_c R3.out.rb _ N N0) (fun b2 c2 w4 Z2 O2 hy1 hy2 R2 => ?_) (fun w4 Z2 R2 => ?_))
    | (go_at_call 108; have z2 := R1.out.b.size; have z7 := R1.out.lt; have z8 := R1.out.st.ltg; have z9 := R1.out.st.ltb; have za := R1.out.st.ltk; refine nxh (pfet_c R1.out _ N N0) (fun bx cx w1 Z1 O1 hx1 hx2 R1 => ?_) (fun w1 Z1 R1 => ?_)))
  rotate_left
  · exact ⟨rfl, gp_no ((R1.out.re R3.out).re R2.out) (HOb.out Z1.out Z2.out) Z2.out⟩
  · exact ⟨rfl, gp_no R1.out (HOa.out Z1.out) Z1.out⟩
  rw [SX.out] at O1
  rw [SY.out] at O2
  have W2 : Hid (P2 w0 w4 g F I os os p p false bs ks bx cx xs b2 c2 ys) := Lib.hid ⟨(R1.out.re R3.out).re R2.out, (O1.out.ro.keep (R3.out.b.kept hx2 (by simp; omega))).keep (R2.out.b.kept (Nat.lt_of_lt_of_le hx2 R3.out.b.size) (by simp; omega)), O2.out.ro, by omega, by have := R3.out.b.size; omega, by have := R3.out.b.size; omega, by have := R3.out.b.size; omega⟩
  have xl := Lib.hid O1.out.len
  have yl := Lib.hid O2.out.len
  clear O1 O2 hx1 hx2 hy1 hy2 R1 R2 R3 FC SC
  refine W2.out.rs.opn ?_
  intros
  go_wp2
  go_loopw [28] (fun x W => ∃ k : Nat, k ≤ N ∧ x = .int .i64 (k : Int) ∧ clc (xs.drop k) (ys.drop k) = clc xs ys ∧ P2 w0 W g F I os os p { p with cc := 0 } false bs ks bx cx xs b2 c2 ys) (fun x _ => N - (intOf x).toNat)
  case atStart => exact ⟨0, by omega, rfl, rfl, W2.out.to (W2.out.rs.rb.setcc 0)⟩
  case round =>
    obtain ⟨k, hk, rfl, hcl, hW⟩ := hrel
    have W3 := Lib.hid hW
    by_cases hlt : k < N
    · have i0 : (k : Int) < (N : Int) := by omega
      have x0 := hW.x.rangeD k
      have y0 := hW.y.rangeD k
      rw [drop_cons xs k (by rw [xl.out]; exact hlt), drop_cons ys k (by rw [yl.out]; exact hlt)] at hcl
      have hcl : (if xs.getD k 0 = ys.getD k 0 then clc (xs.drop (k + 1)) (ys.drop (k + 1)) else sgn (xs.getD k 0 - ys.getD k 0)) = clc xs ys := hcl
      obtain ⟨x, hx⟩ : ∃ x, xs.getD k 0 = x := ⟨_, rfl⟩
      obtain ⟨y, hy⟩ : ∃ y, ys.getD k 0 = y := ⟨_, rfl⟩
      rw [hx, hy] at hcl
      rw [hx] at x0
      rw [hy] at y0
      have XY : Hid (∀ w' q, P2 w0 w' g F I os os p q false bs ks bx cx xs b2 c2 ys → w'.cell? ⟨bx, k, none⟩ = some (.int .u8 x) ∧ w'.cell? ⟨b2, k, none⟩ = some (.int .u8 y)) := Lib.hid fun w' q h => ⟨by rw [h.x.cell (i := k) (by rw [xl.out]; exact hlt), hx], by rw [h.y.cell (i := k) (by rw [yl.out]; exact hlt), hy]⟩
      have w1 : IntKind.u32.wrap x = x := lo32_id _ (by omega) (by omega)
      have w2 : IntKind.u32.wrap y = y := lo32_id _ (by omega) (by omega)
      have HCL := Lib.hid hcl
      clear hx hy hcl hW
      go_upto_region 6 with fail
      refine wp_region_held_drew (S := fun W => W.cell? ⟨bx, k, none⟩ = some (.int .u8 x) ∧ W.cell? ⟨b2, k, none⟩ = some (.int .u8 y)) (by kernel_rfl) (XY.out _ _ (W3.out.to W3.out.rs.rb.drew)) (fun hHeld => ?_)
      replace W3 := Lib.hid (W3.out.to W3.out.rs.rb.drew)
      repeat refine tkn ?_
      refine wpAnyH_done (by with_unfolding_all rfl) ?_ _
      clear hHeld
      by_cases hxy : x = y
      · have e1 : (x != y) = false := by simp [hxy]
        have hcl := HCL.out
        rw [if_pos hxy] at hcl
        have HC := Lib.hid hcl
        clear hcl hxy
        go_wp2
        exact ⟨⟨k + 1, by omega, rfl, HC.out, W3.out⟩, by simp [intOf]; omega⟩
      · have e1 : (x != y) = true := by simp [hxy]
        have hcl := HCL.out
        rw [if_neg hxy] at hcl
        have HC := Lib.hid hcl
        clear hcl hxy
        go_upto_region 7 with fail
        refine wp_region_held_drew (S := fun W => W.cell? ⟨bx, k, none⟩ = some (.int .u8 x) ∧ W.cell? ⟨b2, k, none⟩ = some (.int .u8 y)) (by kernel_rfl) (XY.out _ _ (W3.out.to W3.out.rs.rb.drew)) (fun hHeld => ?_)
        replace W3 := Lib.hid (W3.out.to W3.out.rs.rb.drew)
        repeat refine tkn ?_
        refine tkz (comparel_c x y (by omega) (by omega) (by omega) (by omega) _) ?_
        repeat refine tkn ?_
        rw [HC.out]
        refine tk_st (R := fun w' => P2 w0 w' g F I os os p { p with cc := clc xs ys } false bs ks bx cx xs b2 c2 ys) (st_int (W3.out.rs.m.cp (n := 7) (by omega)) (W3.out.rs.fz _)) (W3.out.to (W3.out.rs.rb.setcc _)) (fun w' h => XY.out _ _ h) ?_ (by with_unfolding_all rfl) (by rfl) (by rfl) (by rfl) (by rfl) (by rfl) (fun w' => by simp only [Act.put, List.setIfInBounds_toArray, List.set_cons_zero, List.set_cons_succ]; try rfl)
        clear W3 hHeld
        intro w6 W4 hHeld
        refine wpAnyH_done (by with_unfolding_all rfl) ?_ _
        clear hHeld
        go_wp2
        first | go_end0 | refine bodyPost_ret (results_none rfl _ _ _) rfl ?_
        exact gp_ok W4.out.rs (HOc.out Z1.out Z2.out)
    · obtain rfl : k = N := by omega
      rw [List.drop_of_length_le (by rw [xl.out]; omega)] at hcl
      have HC := Lib.hid (show 0 = clc xs ys from hcl)
      clear hW hcl
      go_wp2
      first | go_end0 | refine bodyPost_ret (results_none rfl _ _ _) rfl ?_
      exact gp_ok W3.out.rs ((HOc.out Z1.out Z2.out).trans (by rw [← HC.out]; rfl))
end
end Go.Proofs.YthjdjbipfdigeaaGreat

namespace Go.Proofs.YthjdjbipfdigeaaGreat
open Go.RowKit
set_option maxRecDepth 100000
set_option linter.unusedVariables false
set_option linter.unusedSimpArgs false
section
variable {w0 w w' : World} {g : Nat} {F : Foot} {I : In} {os rs : List Int} {p q : Ps} {ov : Bool} {bs ks : List Int}
set_option maxRecDepth 1000000 in
set_option maxHeartbeats 8000000 in
theorem par_16 (h : PS w0 w g F I os os p p false bs ks) (ho : (I.op = 16 ∨ I.op = 17 ∨ I.op = 18 ∨ I.op = 19)) : Calls Tryz.prog 48 #[.pointer (some ⟨g, 0, none⟩)] w (Gp w0 g F I os p bs ks (arO ⟨os, p.key, p.il, p.cc, p.pg, p.ad, bs, ks⟩ I.op I.n (opC I.op I.fm bs ks p.key (I.a os)) (opV I.op I.fm os I.k bs (I.a os)))) := by
  have u0 := getD_in h.ro I.n
  have V0 := opV_in (op := I.op) (fm := I.fm) (a := I.a os) (k := I.k) h.ro h.st.rb
  have PO := Lib.hid (fun W (hW : PS w0 W g F I os os p p false bs ks) => popd_c hW)
  obtain ⟨u, hu⟩ : ∃ u, os.getD I.n 0 = u := ⟨_, rfl⟩
  obtain ⟨V, hV⟩ : ∃ V, opV I.op I.fm os I.k bs (I.a os) = V := ⟨_, rfl⟩
  obtain ⟨C, hC⟩ : ∃ C, opC I.op I.fm bs ks p.key (I.a os) = C := ⟨_, rfl⟩
  rw [hu] at u0
  rw [hV] at V0
  rw [hV, hC] at PO ⊢
  clear hV hC
  rcases ho with ho | ho | ho | ho
  all_goals
    rw [ho]
    have HU := Lib.hid hu
    have HO := Lib.hid ho
    have R0 := Lib.hid h
    have hn := h.ix.n
    clear hu ho h
    refine R0.out.opn ?_
    intros
    go_enter Tryz.func48, Tryz.ntmps48
    go_upto_region 6 with fail
    refine wp_region_held_drew (S := Sy w0 g F I os p) (by kernel_rfl) R0.out.drew.x (fun hHeld => ?_)
    replace R0 := Lib.hid R0.out.drew
    repeat refine tkp ?_
    refine tkq (PO.out _ R0.out) (fun _ _ h => h.2.2.x) ?_ ?_
    rotate_left
    · intro w1 B1
      go_wp2
      exact ⟨rfl, gp_no B1.out.2 (congrArg Out.c (arO_no (by decide) B1.out.1)) B1.out.1⟩
    intro v w1 A1 hHeld
    obtain ⟨rfl, rfl, hR⟩ := A1.out
    have R1 := Lib.hid hR
    clear A1 hR R0 PO
    repeat refine tkp ?_
    refine wpAnyH_done (by kernel_rfl) ?_ _
    refine R1.out.opn ?_
    clear hHeld
    intros
    go_wp2_with (first
      | (go_at_call 126; refine nx (psgn_c R1.out V V0 (by have := HO.out; omega)) ?_; intro w1 R1))
    first | go_end0 | refine bodyPost_ret (results_none rfl _ _ _) rfl ?_
    exact gp_ok R1.out (by rw [HO.out]; rfl)
set_option maxRecDepth 1000000 in
set_option maxHeartbeats 8000000 in
theorem par_28 (h : PS w0 w g F I os os p p false bs ks) (ho : I.op = 28 ∨ I.op = 29 ∨ I.op = 92 ∨ I.op = 93) : Calls Tryz.prog 48 #[.pointer (some ⟨g, 0, none⟩)] w (Gp w0 g F I os p bs ks (arO ⟨os, p.key, p.il, p.cc, p.pg, p.ad, bs, ks⟩ I.op I.n (opC I.op I.fm bs ks p.key (I.a os)) (opV I.op I.fm os I.k bs (I.a os)))) := by
  have PC := Lib.hid (fun W (hW : PS w0 W g F I os os p p false bs ks) => pprod_c hW ho)
  obtain ⟨o, hoo⟩ : ∃ o, arO ⟨os, p.key, p.il, p.cc, p.pg, p.ad, bs, ks⟩ I.op I.n (opC I.op I.fm bs ks p.key (I.a os)) (opV I.op I.fm os I.k bs (I.a os)) = o := ⟨_, rfl⟩
  rw [hoo] at PC ⊢
  have R0 := Lib.hid h
  clear hoo h
  rcases ho with ho | ho | ho | ho
  all_goals
    have HO := Lib.hid ho
    clear ho
    refine R0.out.opn ?_
    intros
    go_enter Tryz.func48, Tryz.ntmps48
    go_wp2_with (go_at_call 124; refine nxp (PC.out _ R0.out) (fun w1 Z => ?_) (fun w1 Z => ?_))
    · first | go_end0 | refine bodyPost_ret (results_none rfl _ _ _) rfl ?_
      exact Z.out
    · exact ⟨rfl, Z.out⟩
theorem PS.bk {rs' bs' : List Int} {q' : Ps} {ov' : Bool} {L : List Nat} (h : PS w0 w g F I os rs p q ov bs ks) (hm : MS w' g F I.z os rs' q'.v ov' bs' ks) (hc : Ch w w' L) (hL : ∀ k, k ∈ L → k ∈ [g, F.gb]) (hq : q' = p.to q'.cc q'.pg q'.ad) : PS w0 w' g F I os rs' p q' ov' bs' ks := ⟨hm.m, hm.st, h.b.trans (hc.mono hL), h.n0, h.n1, h.n2, h.ro, h.ix, hq⟩
theorem p_fir (h : PS w0 w g F I os rs p q ov bs ks) (W : World) (hW : MS W g F I.z os rs q.v ov bs ks) : Calls Tryz.prog 111 #[.pointer (some ⟨g, 0, none⟩)] W fun e w' => e = .returned (.int .i64 (I.a1 os)) ∧ Ch W w' [] := first_c g I.b I.d I.z os rs q.v _ ov W hW.m h.ro rfl h.ix.d.1 h.ix.d.2 rfl h.ix.b
theorem p_sec (h : PS w0 w g F I os rs p q ov bs ks) (W : World) (hW : MS W g F I.z os rs q.v ov bs ks) : Calls Tryz.prog 44 #[.pointer (some ⟨g, 0, none⟩)] W fun e w' => e = .returned (.int .i64 (I.a os)) ∧ Ch W w' [] := second_c g I.b' I.x I.d' I.z os rs q.v _ ov W hW.m h.ro rfl h.ix.d'.1 h.ix.d'.2 rfl h.ix.b' rfl h.ix.x
theorem ptr_c (h : PS w0 w g F I os os p p false bs ks) : Calls Tryz.prog 122 #[.pointer (some ⟨g, 0, none⟩)] w (Gp w0 g F I os p bs ks (loO ⟨os, p.key, p.il, p.cc, p.pg, p.ad, bs, ks⟩ 220 (I.l + 1) (I.a1 os) (I.a os))) := by
  have A0 := I.a1_in os
  have B0 := I.a_in os
  have nl := h.ix.l
  have hN : I.z.getD 9 0 + 1 = ((I.l + 1 : Nat) : Int) := by show (I.l : Int) + 1 = _; omega
  by_cases hf : sCode (alF p.key) bs.length ks (I.a1 os) ((I.l + 1 : Nat) : Int) = 0
  · have hf' : Pre.fc ⟨os, p.key, p.il, p.cc, p.pg, p.ad, bs, ks⟩ (I.a1 os) ((I.l + 1 : Nat) : Int) = 0 := hf
    refine (tr_m g (I.l + 1) F I.z os os p.v false bs ks p.key (I.a1 os) (I.a os) w h.ms hN (by omega) rfl (p_fir h) (p_sec h) A0.1 A0.2 B0.1 B0.2 (by omega) hf _ rfl).mono ?_
    rintro e w' ⟨h1, h2, hc⟩
    have e0 : loO ⟨os, p.key, p.il, p.cc, p.pg, p.ad, bs, ks⟩ 220 (I.l + 1) (I.a1 os) (I.a os) = if trE bs ks (sGet bs (I.a1 os) ((I.l + 1 : Nat) : Int)) p.key (I.a os) (I.l + 1) = 0 then Pre.wr ⟨os, p.key, p.il, p.cc, p.pg, p.ad, bs, ks⟩ (I.a1 os) ((I.l + 1 : Nat) : Int) (trS bs (sGet bs (I.a1 os) ((I.l + 1 : Nat) : Int)) (I.a1 os) (I.a os) (I.l + 1)) p.cc else Pre.no ⟨os, p.key, p.il, p.cc, p.pg, p.ad, bs, ks⟩ (trE bs ks (sGet bs (I.a1 os) ((I.l + 1 : Nat) : Int)) p.key (I.a os) (I.l + 1)) := by unfold loO; rw [if_neg (by decide), if_neg (fun h => h hf'), if_pos rfl]
    rw [e0]
    by_cases ht : trE bs ks (sGet bs (I.a1 os) ((I.l + 1 : Nat) : Int)) p.key (I.a os) (I.l + 1) = 0
    · rw [if_pos ht] at h1 h2 ⊢
      by_cases hp : sCode (alP p.key) bs.length ks (I.a1 os) ((I.l + 1 : Nat) : Int) = 0
      · obtain ⟨rfl, hM⟩ := h1 hp
        exact gp_ok (h.bk hM hc (fun _ h => h) h.hq) (wr_ok hp)
      · obtain ⟨rfl, hM⟩ := h2 hp
        exact gp_no (h.bk hM hc (fun _ h => h) h.hq) (wr_no hp) hp
    · rw [if_neg ht] at h1 h2 ⊢
      obtain ⟨rfl, hM⟩ := h2 ht
      exact gp_no (h.bk hM hc (fun _ h => h) h.hq) rfl ht
  · have hf' : Pre.fc ⟨os, p.key, p.il, p.cc, p.pg, p.ad, bs, ks⟩ (I.a1 os) ((I.l + 1 : Nat) : Int) ≠ 0 := hf
    refine (tr_no g (I.l + 1) F I.z os os p.v false bs ks p.key (I.a1 os) (I.a os) w h.ms hN (by omega) rfl (p_fir h) (p_sec h) A0.1 A0.2 B0.1 B0.2 _ rfl hf).mono ?_
    rintro e w' ⟨rfl, hM, hc⟩
    have e0 : loO ⟨os, p.key, p.il, p.cc, p.pg, p.ad, bs, ks⟩ 220 (I.l + 1) (I.a1 os) (I.a os) = Pre.no ⟨os, p.key, p.il, p.cc, p.pg, p.ad, bs, ks⟩ (Pre.fc ⟨os, p.key, p.il, p.cc, p.pg, p.ad, bs, ks⟩ (I.a1 os) ((I.l + 1 : Nat) : Int)) := by unfold loO; rw [if_neg (by decide), if_pos hf']
    rw [e0]
    exact gp_no (h.bk hM hc (by simp) h.hq) rfl hf
theorem ptrt_c (h : PS w0 w g F I os os p p false bs ks) : Calls Tryz.prog 123 #[.pointer (some ⟨g, 0, none⟩)] w (Gp w0 g F I os p bs ks (loO ⟨os, p.key, p.il, p.cc, p.pg, p.ad, bs, ks⟩ 221 (I.l + 1) (I.a1 os) (I.a os))) := by
  have A0 := I.a1_in os
  have B0 := I.a_in os
  have nl := h.ix.l
  have hN : I.z.getD 9 0 + 1 = ((I.l + 1 : Nat) : Int) := by show (I.l : Int) + 1 = _; omega
  obtain ⟨r, hr⟩ : ∃ r, scn bs ks p.key (I.a1 os) (I.a os) (I.l + 1) 0 = r := ⟨_, rfl⟩
  obtain ⟨c, o⟩ := r
  refine (trt_m g (I.l + 1) F I.z os os p.v false bs ks p.key (I.a1 os) (I.a os) w h.ms hN (by omega) rfl (p_fir h) (p_sec h) A0.1 A0.2 B0.1 B0.2 (by omega) (by have := h.st.ln; have := h.st.l1; omega) h.ro h.st.rb c o hr).mono ?_
  rintro e w' ⟨h1, h2, hc⟩
  have e0 : loO ⟨os, p.key, p.il, p.cc, p.pg, p.ad, bs, ks⟩ 221 (I.l + 1) (I.a1 os) (I.a os) = if c = 0 then ⟨0, scnR os os (I.a1 os) o, scnQ (I.l + 1) o, p.pg, p.ad, false, bs⟩ else Pre.no ⟨os, p.key, p.il, p.cc, p.pg, p.ad, bs, ks⟩ c := by
    unfold loO
    rw [if_pos rfl]
    show (match scn bs ks p.key (I.a1 os) (I.a os) (I.l + 1) 0 with | (c, o) => if c = 0 then (⟨0, scnR os os (I.a1 os) o, scnQ (I.l + 1) o, p.pg, p.ad, false, bs⟩ : Out) else Pre.no ⟨os, p.key, p.il, p.cc, p.pg, p.ad, bs, ks⟩ c) = _
    rw [hr]
  rw [e0]
  by_cases hz : c = 0
  · rw [if_pos hz]
    obtain ⟨rfl, hM⟩ := h1 hz
    exact gp_ok (q := { p with cc := scnQ (I.l + 1) o }) (h.bk hM hc (by simp) rfl) rfl
  · rw [if_neg hz]
    obtain ⟨rfl, hM⟩ := h2 hz
    exact gp_no (q := { p with cc := 0 }) (h.bk hM hc (by simp) rfl) rfl hz
end
end Go.Proofs.YthjdjbipfdigeaaGreat

namespace Go.Proofs.YthjdjbipfdigeaaGreat
open Go.RowKit
set_option maxRecDepth 100000
set_option linter.unusedVariables false
set_option linter.unusedSimpArgs false
section
variable {w0 w w' : World} {g : Nat} {F : Foot} {I : In} {os rs : List Int} {p q : Ps} {ov : Bool} {bs ks : List Int}
theorem lo_cmb {P : Pre} {op : Int} {lg : Bool} {N : Nat} {A B : Int} (h : op ≠ 221 ∧ op ≠ 220 ∧ op ≠ 213) (hl : (op = 212 ∨ op = 214 ∨ op = 215) ↔ lg = true) : loO P op N A B = if P.fc A N ≠ 0 then P.no (P.fc A N) else if P.fc B N ≠ 0 then P.no (P.fc B N) else P.wr A N (cmb (cb op) (sGet P.bs A N) (sGet P.bs B N) (A - B) N) (if lg = true then cmbS (cb op) (sGet P.bs A N) (sGet P.bs B N) (A - B) N else P.cc) := by
  unfold loO
  rw [if_neg h.1, if_neg h.2.1, if_neg h.2.2]
  simp only [hl]
set_option maxRecDepth 1000000 in
set_option maxHeartbeats 8000000 in
theorem plo_209 (h : PS w0 w g F I os os p p false bs ks) (ho : I.op = 209) : Calls Tryz.prog 47 #[.pointer (some ⟨g, 0, none⟩)] w (Gp w0 g F I os p bs ks (loO ⟨os, p.key, p.il, p.cc, p.pg, p.ad, bs, ks⟩ I.op (I.l + 1) (I.a1 os) (I.a os))) := by
  have PC := Lib.hid (fun W (hW : PS w0 W g F I os os p p false bs ks) => pcmb_c _ _ false clo_209 clo_call_209 (cb_in 209) hW)
  rw [← lo_cmb (P := ⟨os, p.key, p.il, p.cc, p.pg, p.ad, bs, ks⟩) (op := 209) (lg := false) (by decide) (by decide), ← ho] at PC
  obtain ⟨o, hoo⟩ : ∃ o, loO ⟨os, p.key, p.il, p.cc, p.pg, p.ad, bs, ks⟩ I.op (I.l + 1) (I.a1 os) (I.a os) = o := ⟨_, rfl⟩
  rw [hoo] at PC ⊢
  have R0 := Lib.hid h
  have HO := Lib.hid ho
  clear hoo ho h
  refine R0.out.opn ?_
  intros
  go_enter Tryz.func47, Tryz.ntmps47
  go_wp2_with (go_at_call 114; refine nxp (PC.out _ R0.out) (fun w1 Z => ?_) (fun w1 Z => ?_))
  · first | go_end0 | refine bodyPost_ret (results_none rfl _ _ _) rfl ?_
    exact Z.out
  · exact ⟨rfl, Z.out⟩
set_option maxRecDepth 1000000 in
set_option maxHeartbeats 8000000 in
theorem plo_210 (h : PS w0 w g F I os os p p false bs ks) (ho : I.op = 210) : Calls Tryz.prog 47 #[.pointer (some ⟨g, 0, none⟩)] w (Gp w0 g F I os p bs ks (loO ⟨os, p.key, p.il, p.cc, p.pg, p.ad, bs, ks⟩ I.op (I.l + 1) (I.a1 os) (I.a os))) := by
  have PC := Lib.hid (fun W (hW : PS w0 W g F I os os p p false bs ks) => pcmb_c _ _ false clo_210 clo_call_210 (cb_in 210) hW)
  rw [← lo_cmb (P := ⟨os, p.key, p.il, p.cc, p.pg, p.ad, bs, ks⟩) (op := 210) (lg := false) (by decide) (by decide), ← ho] at PC
  obtain ⟨o, hoo⟩ : ∃ o, loO ⟨os, p.key, p.il, p.cc, p.pg, p.ad, bs, ks⟩ I.op (I.l + 1) (I.a1 os) (I.a os) = o := ⟨_, rfl⟩
  rw [hoo] at PC ⊢
  have R0 := Lib.hid h
  have HO := Lib.hid ho
  clear hoo ho h
  refine R0.out.opn ?_
  intros
  go_enter Tryz.func47, Tryz.ntmps47
  go_wp2_with (go_at_call 114; refine nxp (PC.out _ R0.out) (fun w1 Z => ?_) (fun w1 Z => ?_))
  · first | go_end0 | refine bodyPost_ret (results_none rfl _ _ _) rfl ?_
    exact Z.out
  · exact ⟨rfl, Z.out⟩
set_option maxRecDepth 1000000 in
set_option maxHeartbeats 8000000 in
theorem plo_211 (h : PS w0 w g F I os os p p false bs ks) (ho : I.op = 211) : Calls Tryz.prog 47 #[.pointer (some ⟨g, 0, none⟩)] w (Gp w0 g F I os p bs ks (loO ⟨os, p.key, p.il, p.cc, p.pg, p.ad, bs, ks⟩ I.op (I.l + 1) (I.a1 os) (I.a os))) := by
  have PC := Lib.hid (fun W (hW : PS w0 W g F I os os p p false bs ks) => pcmb_c _ _ false clo_211 clo_call_211 (cb_in 211) hW)
  rw [← lo_cmb (P := ⟨os, p.key, p.il, p.cc, p.pg, p.ad, bs, ks⟩) (op := 211) (lg := false) (by decide) (by decide), ← ho] at PC
  obtain ⟨o, hoo⟩ : ∃ o, loO ⟨os, p.key, p.il, p.cc, p.pg, p.ad, bs, ks⟩ I.op (I.l + 1) (I.a1 os) (I.a os) = o := ⟨_, rfl⟩
  rw [hoo] at PC ⊢
  have R0 := Lib.hid h
  have HO := Lib.hid ho
  clear hoo ho h
  refine R0.out.opn ?_
  intros
  go_enter Tryz.func47, Tryz.ntmps47
  go_wp2_with (go_at_call 114; refine nxp (PC.out _ R0.out) (fun w1 Z => ?_) (fun w1 Z => ?_))
  · first | go_end0 | refine bodyPost_ret (results_none rfl _ _ _) rfl ?_
    exact Z.out
  · exact ⟨rfl, Z.out⟩
set_option maxRecDepth 1000000 in
set_option maxHeartbeats 8000000 in
theorem plo_212 (h : PS w0 w g F I os os p p false bs ks) (ho : I.op = 212) : Calls Tryz.prog 47 #[.pointer (some ⟨g, 0, none⟩)] w (Gp w0 g F I os p bs ks (loO ⟨os, p.key, p.il, p.cc, p.pg, p.ad, bs, ks⟩ I.op (I.l + 1) (I.a1 os) (I.a os))) := by
  have PC := Lib.hid (fun W (hW : PS w0 W g F I os os p p false bs ks) => pcmb_c _ _ true clo_212 clo_call_212 (cb_in 212) hW)
  rw [← lo_cmb (P := ⟨os, p.key, p.il, p.cc, p.pg, p.ad, bs, ks⟩) (op := 212) (lg := true) (by decide) (by decide), ← ho] at PC
  obtain ⟨o, hoo⟩ : ∃ o, loO ⟨os, p.key, p.il, p.cc, p.pg, p.ad, bs, ks⟩ I.op (I.l + 1) (I.a1 os) (I.a os) = o := ⟨_, rfl⟩
  rw [hoo] at PC ⊢
  have R0 := Lib.hid h
  have HO := Lib.hid ho
  clear hoo ho h
  refine R0.out.opn ?_
  intros
  go_enter Tryz.func47, Tryz.ntmps47
  go_wp2_with (go_at_call 114; refine nxp (PC.out _ R0.out) (fun w1 Z => ?_) (fun w1 Z => ?_))
  · first | go_end0 | refine bodyPost_ret (results_none rfl _ _ _) rfl ?_
    exact Z.out
  · exact ⟨rfl, Z.out⟩
set_option maxRecDepth 1000000 in
set_option maxHeartbeats 8000000 in
theorem plo_214 (h : PS w0 w g F I os os p p false bs ks) (ho : I.op = 214) : Calls Tryz.prog 47 #[.pointer (some ⟨g, 0, none⟩)] w (Gp w0 g F I os p bs ks (loO ⟨os, p.key, p.il, p.cc, p.pg, p.ad, bs, ks⟩ I.op (I.l + 1) (I.a1 os) (I.a os))) := by
  have PC := Lib.hid (fun W (hW : PS w0 W g F I os os p p false bs ks) => pcmb_c _ _ true clo_214 clo_call_214 (cb_in 214) hW)
  rw [← lo_cmb (P := ⟨os, p.key, p.il, p.cc, p.pg, p.ad, bs, ks⟩) (op := 214) (lg := true) (by decide) (by decide), ← ho] at PC
  obtain ⟨o, hoo⟩ : ∃ o, loO ⟨os, p.key, p.il, p.cc, p.pg, p.ad, bs, ks⟩ I.op (I.l + 1) (I.a1 os) (I.a os) = o := ⟨_, rfl⟩
  rw [hoo] at PC ⊢
  have R0 := Lib.hid h
  have HO := Lib.hid ho
  clear hoo ho h
  refine R0.out.opn ?_
  intros
  go_enter Tryz.func47, Tryz.ntmps47
  go_wp2_with (go_at_call 114; refine nxp (PC.out _ R0.out) (fun w1 Z => ?_) (fun w1 Z => ?_))
  · first | go_end0 | refine bodyPost_ret (results_none rfl _ _ _) rfl ?_
    exact Z.out
  · exact ⟨rfl, Z.out⟩
set_option maxRecDepth 1000000 in
set_option maxHeartbeats 8000000 in
theorem plo_215 (h : PS w0 w g F I os os p p false bs ks) (ho : I.op = 215) : Calls Tryz.prog 47 #[.pointer (some ⟨g, 0, none⟩)] w (Gp w0 g F I os p bs ks (loO ⟨os, p.key, p.il, p.cc, p.pg, p.ad, bs, ks⟩ I.op (I.l + 1) (I.a1 os) (I.a os))) := by
  have PC := Lib.hid (fun W (hW : PS w0 W g F I os os p p false bs ks) => pcmb_c _ _ true clo_215 clo_call_215 (cb_in 215) hW)
  rw [← lo_cmb (P := ⟨os, p.key, p.il, p.cc, p.pg, p.ad, bs, ks⟩) (op := 215) (lg := true) (by decide) (by decide), ← ho] at PC
  obtain ⟨o, hoo⟩ : ∃ o, loO ⟨os, p.key, p.il, p.cc, p.pg, p.ad, bs, ks⟩ I.op (I.l + 1) (I.a1 os) (I.a os) = o := ⟨_, rfl⟩
  rw [hoo] at PC ⊢
  have R0 := Lib.hid h
  have HO := Lib.hid ho
  clear hoo ho h
  refine R0.out.opn ?_
  intros
  go_enter Tryz.func47, Tryz.ntmps47
  go_wp2_with (go_at_call 114; refine nxp (PC.out _ R0.out) (fun w1 Z => ?_) (fun w1 Z => ?_))
  · first | go_end0 | refine bodyPost_ret (results_none rfl _ _ _) rfl ?_
    exact Z.out
  · exact ⟨rfl, Z.out⟩
theorem lo_clc {P : Pre} {N : Nat} {A B : Int} : loO P 213 N A B = if P.fc A N ≠ 0 then P.no (P.fc A N) else if P.fc B N ≠ 0 then P.no (P.fc B N) else P.st P.os (clc (sGet P.bs A N) (sGet P.bs B N)) false := by
  unfold loO
  rw [if_neg (show ¬ ((213 : Int) = 221) by decide), if_neg (show ¬ ((213 : Int) = 220) by decide), if_pos (show (213 : Int) = 213 from rfl)]
set_option maxRecDepth 1000000 in
set_option maxHeartbeats 8000000 in
theorem plo_213 (h : PS w0 w g F I os os p p false bs ks) (ho : I.op = 213) : Calls Tryz.prog 47 #[.pointer (some ⟨g, 0, none⟩)] w (Gp w0 g F I os p bs ks (loO ⟨os, p.key, p.il, p.cc, p.pg, p.ad, bs, ks⟩ I.op (I.l + 1) (I.a1 os) (I.a os))) := by
  have PC := Lib.hid (fun W (hW : PS w0 W g F I os os p p false bs ks) => pclc_c hW)
  rw [← lo_clc, ← ho] at PC
  obtain ⟨o, hoo⟩ : ∃ o, loO ⟨os, p.key, p.il, p.cc, p.pg, p.ad, bs, ks⟩ I.op (I.l + 1) (I.a1 os) (I.a os) = o := ⟨_, rfl⟩
  rw [hoo] at PC ⊢
  have R0 := Lib.hid h
  have HO := Lib.hid ho
  clear hoo ho h
  refine R0.out.opn ?_
  intros
  go_enter Tryz.func47, Tryz.ntmps47
  go_wp2_with (go_at_call 121; refine nxp (PC.out _ R0.out) (fun w1 Z => ?_) (fun w1 Z => ?_))
  · first | go_end0 | refine bodyPost_ret (results_none rfl _ _ _) rfl ?_
    exact Z.out
  · exact ⟨rfl, Z.out⟩
set_option maxRecDepth 1000000 in
set_option maxHeartbeats 8000000 in
theorem plo_220 (h : PS w0 w g F I os os p p false bs ks) (ho : I.op = 220) : Calls Tryz.prog 47 #[.pointer (some ⟨g, 0, none⟩)] w (Gp w0 g F I os p bs ks (loO ⟨os, p.key, p.il, p.cc, p.pg, p.ad, bs, ks⟩ I.op (I.l + 1) (I.a1 os) (I.a os))) := by
  have PC := Lib.hid (fun W (hW : PS w0 W g F I os os p p false bs ks) => ptr_c hW)
  rw [← ho] at PC
  obtain ⟨o, hoo⟩ : ∃ o, loO ⟨os, p.key, p.il, p.cc, p.pg, p.ad, bs, ks⟩ I.op (I.l + 1) (I.a1 os) (I.a os) = o := ⟨_, rfl⟩
  rw [hoo] at PC ⊢
  have R0 := Lib.hid h
  have HO := Lib.hid ho
  clear hoo ho h
  refine R0.out.opn ?_
  intros
  go_enter Tryz.func47, Tryz.ntmps47
  go_wp2_with (go_at_call 122; refine nxp (PC.out _ R0.out) (fun w1 Z => ?_) (fun w1 Z => ?_))
  · first | go_end0 | refine bodyPost_ret (results_none rfl _ _ _) rfl ?_
    exact Z.out
  · exact ⟨rfl, Z.out⟩
set_option maxRecDepth 1000000 in
set_option maxHeartbeats 8000000 in
theorem plo_221 (h : PS w0 w g F I os os p p false bs ks) (ho : I.op = 221) : Calls Tryz.prog 47 #[.pointer (some ⟨g, 0, none⟩)] w (Gp w0 g F I os p bs ks (loO ⟨os, p.key, p.il, p.cc, p.pg, p.ad, bs, ks⟩ I.op (I.l + 1) (I.a1 os) (I.a os))) := by
  have PC := Lib.hid (fun W (hW : PS w0 W g F I os os p p false bs ks) => ptrt_c hW)
  rw [← ho] at PC
  obtain ⟨o, hoo⟩ : ∃ o, loO ⟨os, p.key, p.il, p.cc, p.pg, p.ad, bs, ks⟩ I.op (I.l + 1) (I.a1 os) (I.a os) = o := ⟨_, rfl⟩
  rw [hoo] at PC ⊢
  have R0 := Lib.hid h
  have HO := Lib.hid ho
  clear hoo ho h
  refine R0.out.opn ?_
  intros
  go_enter Tryz.func47, Tryz.ntmps47
  go_wp2_with (go_at_call 123; refine nxp (PC.out _ R0.out) (fun w1 Z => ?_) (fun w1 Z => ?_))
  · first | go_end0 | refine bodyPost_ret (results_none rfl _ _ _) rfl ?_
    exact Z.out
  · exact ⟨rfl, Z.out⟩
end
end Go.Proofs.YthjdjbipfdigeaaGreat

namespace Go.Proofs.YthjdjbipfdigeaaGreat
open Go.RowKit
set_option maxRecDepth 100000
set_option linter.unusedVariables false
set_option linter.unusedSimpArgs false
section
variable {w0 w : World} {g : Nat} {G : Foot} {I : In} {os rs : List Int} {p q : Ps} {c : Int} {bs ks : List Int}
set_option maxRecDepth 1000000 in
set_option maxHeartbeats 8000000 in
theorem rlo_cb (h : RS w0 w g G I os os p p 0 bs ks) (ho : I.op = 209 ∨ I.op = 210 ∨ I.op = 211 ∨ I.op = 212 ∨ I.op = 214 ∨ I.op = 215) (hfa : ftC 0 bs ks p.key (I.a1 os) ((I.l + 1 : Nat) : Int) = 0) (hfb : ftC 0 bs ks p.key (I.a os) ((I.l + 1 : Nat) : Int) = 0) : Calls Tryz.prog 28 #[.pointer (some ⟨g, 0, none⟩)] w fun e w' => e = .returned (.tuple #[]) ∧ Gd w0 w' g G I os p ks (loO ⟨os, p.key, p.il, p.cc, p.pg, p.ad, bs, ks⟩ I.op (I.l + 1) (I.a1 os) (I.a os)) := by
  obtain ⟨A, hA⟩ : ∃ A, I.a1 os = A := ⟨_, rfl⟩
  have A0 := I.a1_in os
  rw [hA] at A0 hfa ⊢
  have RA := Lib.hid (fun w0 W rs q c bs (hW : RS w0 W g G I os rs p q c bs ks) => show Calls Tryz.prog 69 #[.pointer (some ⟨g, 0, none⟩)] W fun e w' => e = .returned (.int .i64 A) ∧ RS w0 w' g G I os rs p q c bs ks from hA ▸ ra1_c hW)
  clear hA
  obtain ⟨B, hB⟩ : ∃ A, I.a os = A := ⟨_, rfl⟩
  have B0 := I.a_in os
  rw [hB] at B0 hfb ⊢
  have RB := Lib.hid (fun w0 W rs q c bs (hW : RS w0 W g G I os rs p q c bs ks) => show Calls Tryz.prog 59 #[.pointer (some ⟨g, 0, none⟩)] W fun e w' => e = .returned (.int .i64 B) ∧ RS w0 w' g G I os rs p q c bs ks from hB ▸ ra_c hW)
  clear hB
  obtain ⟨N, hN⟩ : ∃ N, I.l + 1 = N := ⟨_, rfl⟩
  have nl := h.ix.l
  have N0 : 0 < N := by omega
  have N1 : N ≤ 256 := by omega
  have c1 : IntKind.i64.wrap ((I.l : Int) + 1) = (N : Int) := by rw [wrap_i64_id (by omega) (by omega)]; omega
  rw [hN] at hfa hfb ⊢
  clear hN nl
  obtain ⟨o, hoo⟩ : ∃ o, I.op = o := ⟨_, rfl⟩
  rw [hoo] at ho ⊢
  have HO := Lib.hid hoo
  have HP := Lib.hid ho
  have o1 : (o == 221) = false := by simp; omega
  have o2 : (o == 220) = false := by simp; omega
  have o3 : (o == 213) = false := by simp; omega
  obtain ⟨xs, hxs⟩ : ∃ xs, sGet bs A (N : Int) = xs := ⟨_, rfl⟩
  obtain ⟨ys, hys⟩ : ∃ ys, sGet bs B (N : Int) = ys := ⟨_, rfl⟩
  have bX : ftB 0 bs ks p.key A N = xs := by unfold ftB; rw [hfa, if_pos rfl]; exact hxs
  have bY : ftB 0 bs ks p.key B N = ys := by unfold ftB; rw [hfb, if_pos rfl]; exact hys
  have FA := Lib.hid hfa
  have FB := Lib.hid hfb
  have BX := Lib.hid bX
  have BY := Lib.hid bY
  have SX := Lib.hid hxs
  have SY := Lib.hid hys
  have R0 := Lib.hid h
  clear hoo ho hfa hfb bX bY hxs hys h
  refine R0.out.opn ?_
  intros
  go_enter Tryz.func28, Tryz.ntmps28
  go_upto_region 6 with (first
        | (go_at_call 69; refine nx (RA.out _ _ _ _ _ _ hout) fun w1 R1 => R1.out.opn ?_; intros)
        | (go_at_call 59; refine nx (RB.out _ _ _ _ _ _ hout) fun w1 R1 => R1.out.opn ?_; intros)
        | (go_at_call 70; have hg1 := (hout : RS w0 _ g G I os os p p _ bs ks).lt; have hs1 := (hout : RS w0 _ g G I os os p p _ bs ks).st; have hz1 := (hout : RS w0 _ g G I os os p p _ bs ks).b.size; refine nxf (rfet_c hout _ N N0 (by omega)) ?_; intro bx cx w1 O1 hx1 hx2 R1; rw [FA.out] at R1; rw [BX.out] at O1; refine R1.out.opn ?_; intros))
  have hg2 := hs1.ltg
  have hg3 := hs1.ltb
  have hg4 := hs1.ltk
  have NX : bx ≠ g ∧ bx ≠ G.g ∧ bx ≠ G.gb ∧ bx ≠ G.gk := ⟨by omega, by omega, by omega, by omega⟩
  have NW : w0.heap.size ≤ bx := by omega
  have HX := Lib.hid O1.out.ro
  have xl := Lib.hid O1.out.len
  clear hg1 hs1 hz1 hg2 hg3 hg4 hx1 hx2 O1
  go_upto_region 9 with (go_at_call 70; have hg1 := R1.out.lt; have hs1 := R1.out.st.ltb; have hz1 := HX.out.lt; refine nxf (rfet_c R1.out.rb _ N N0 (by omega)) ?_; intro b2 c2 w2 O2 hx1 hx2 R2'; rw [FB.out] at R2'; rw [BY.out] at O2; refine R2'.out.opn ?_; intros)
  have NY : b2 ≠ g ∧ b2 ≠ G.gb ∧ b2 ≠ bx := ⟨by omega, by omega, by omega⟩
  have yl := Lib.hid O2.out.len
  have W2 : Hid (R2 w0 w2 g G I os os p p 0 bs ks bx cx xs b2 c2 ys) := Lib.hid ⟨R1.out.re R2'.out, HX.out.keep (R2'.out.b.kept HX.out.lt (by simp; exact ⟨NX.1, NX.2.2.1⟩)), O2.out.ro, NX, NW, NY⟩
  clear hg1 hs1 hz1 hx1 hx2 O2 R1 R2' HX NX NW NY BX BY
  go_wp2
  go_loopw [8, 9, 10] (fun sv x _ W => ∃ k : Nat, k ≤ N ∧ x = .int .i64 (k : Int) ∧ sv = .int .i64 (cmbS (cb o) xs ys (A - B) k) ∧ R2 w0 W g G I os os p p 0 bs ks bx cx (cmb (cb o) xs ys (A - B) k) b2 c2 ys) (fun _ x _ _ => N - (intOf x).toNat)
  case atStart => exact ⟨0, by omega, rfl, rfl, W2.out⟩
  case round =>
    obtain ⟨k, hk, rfl, rfl, hW⟩ := hrel
    by_cases hlt : k < N
    · have W3 := Lib.hid hW
      have i0 : (k : Int) < (N : Int) := by omega
      have q1 : IntKind.i64.wrap (B + (k : Int)) = B + (k : Int) := wrap_i64_id (by omega) (by omega)
      have q2 : IntKind.i64.wrap (A + (k : Int)) = A + (k : Int) := wrap_i64_id (by omega) (by omega)
      have zl : (cmb (cb o) xs ys (A - B) k).length = N := by rw [cmb_len, xl.out]
      have cy := hW.y.cell (i := k) (by rw [yl.out]; exact hlt)
      have x0 := hW.x.rangeD k
      have y0 := hW.y.rangeD k
      obtain ⟨s, hs⟩ : ∃ s, cmbS (cb o) xs ys (A - B) k = s := ⟨_, rfl⟩
      obtain ⟨zs, hzs⟩ : ∃ zs, cmb (cb o) xs ys (A - B) k = zs := ⟨_, rfl⟩
      obtain ⟨x, hx⟩ : ∃ x, zs.getD k 0 = x := ⟨_, rfl⟩
      obtain ⟨y, hy⟩ : ∃ y, ys.getD k 0 = y := ⟨_, rfl⟩
      have step : ∀ e v, (if 0 < A - B ∧ A - B ≤ (k : Int) then zs.getD (k - (A - B).toNat) 0 else y) = e → cb o x e = v → cmb (cb o) xs ys (A - B) (k + 1) = zs.set k v ∧ cmbS (cb o) xs ys (A - B) (k + 1) = if v = 0 then s else 1 := by
        intro e v he hv
        have hc : cmb (cb o) xs ys (A - B) (k + 1) = zs.set k v := by
          show (cmb (cb o) xs ys (A - B) k).set k (cb o ((cmb (cb o) xs ys (A - B) k).getD k 0) (if 0 < A - B ∧ A - B ≤ (k : Int) then (cmb (cb o) xs ys (A - B) k).getD (k - (A - B).toNat) 0 else ys.getD k 0)) = _
          rw [hzs, hx, hy, he, hv]
        refine ⟨hc, ?_⟩
        show (if (cmb (cb o) xs ys (A - B) (k + 1)).getD k 0 = 0 then cmbS (cb o) xs ys (A - B) k else 1) = _
        rw [hc, getD_set_same _ _ _ (by rw [← hzs, zl]; exact hlt), hs]
      rw [hzs] at W3 zl x0
      rw [hs]
      rw [hx] at x0
      rw [hy] at cy y0
      have ce : ∃ e, (if 0 < A - B ∧ A - B ≤ (k : Int) then zs.getD (k - (A - B).toNat) 0 else y) = e ∧ (0 ≤ e ∧ e ≤ 255) := ⟨_, rfl, by split; exact W3.out.x.rangeD _; exact y0⟩
      obtain ⟨e, he, e0⟩ := ce
      obtain ⟨v, hv⟩ : ∃ v, cb o x e = v := ⟨_, rfl⟩
      have v0 := cb_in o x e x0.1 x0.2 e0.1 e0.2
      rw [hv] at v0
      have ST := Lib.hid (step e v he hv)
      have HV := Lib.hid hv
      have HE := Lib.hid he
      have HXk := Lib.hid hx
      clear hs hzs step hy hW hv hx he
      have cj : (∃ j : Nat, (j : Int) < (N : Int) ∧ IntKind.i64.wrap (B + (k : Int) - A) = (j : Int) ∧ wr.cell? ⟨bx, j, none⟩ = some (.int .u8 e) ∧ A ≤ B + k ∧ B < A) ∨ (B + k < A ∧ y = e) ∨ (A ≤ B ∧ y = e) := by
        by_cases h1 : A ≤ B + k
        · by_cases h2 : B < A
          · refine .inl ⟨k - (A - B).toNat, by omega, by rw [wrap_i64_id (by omega) (by omega)]; omega, ?_, h1, h2⟩
            rw [W3.out.x.cell (i := k - (A - B).toNat) (by rw [zl]; omega), ← HE.out, if_pos (by omega)]
          · refine .inr (.inr ⟨by omega, ?_⟩)
            rw [← HE.out, if_neg (by omega)]
        · refine .inr (.inl ⟨by omega, ?_⟩)
          rw [← HE.out, if_neg (by omega)]
      clear HE
      have vz : (v = 0 ∧ (v != 0) = false) ∨ (v ≠ 0 ∧ (v != 0) = true) := by by_cases hv : v = 0 <;> simp [hv]
      rcases cj with ⟨j, j0, j1, j2, j3, j4⟩ | ⟨j3, rfl⟩ | ⟨j3, rfl⟩
      all_goals
        go_upto_region 23 with fail
        refine wp_region_held_drew (S := Sx w0 g G I os p) (by kernel_rfl) W3.out.rs.drew.x (fun hHeld => ?_)
        replace W3 := Lib.hid W3.out.drew
        have cq := W3.out.x.cell (i := k) (by rw [zl]; exact hlt)
        rw [HXk.out] at cq
        repeat refine tkr ?_
        refine tki 11 ?_
        refine tkv ?_
        refine tkc (R := fun w' => R2 w0 w' g G I os os p p 0 bs ks bx cx zs b2 c2 ys) ((rone_c o x _ HP.out x0 e0 _).mono (by rintro e w' ⟨rfl, rfl⟩; exact ⟨rfl, W3.out⟩)) (fun _ h => h.rs.x) ?_
        clear cq W3 hHeld
        intro w3 W3 hHeld
        rw [HV.out]
        repeat refine tkr ?_
        have cS := W3.out.x.cell (i := k) (by rw [zl]; exact hlt)
        have fS := W3.out.x.free
        refine tkw (R := fun w' => R2 w0 w' g G I os os p p 0 bs ks bx cx (zs.set k v) b2 c2 ys) (W3.out.setx k v0) (fun _ h => h.rs.x) ?_
        clear cS fS W3 hHeld
        intro w4 W4 hHeld
        refine wpAnyH_done (by with_unfolding_all rfl) ?_ _
        have cz := W4.out.x.cell (i := k) (by rw [List.length_set, zl]; exact hlt)
        rw [getD_set_same _ _ _ (by rw [zl]; exact hlt)] at cz
        clear hHeld
        rcases vz with ⟨z0, z1⟩ | ⟨z0, z1⟩
      all_goals
        have Z0 := Lib.hid z0
        clear z0
        go_wp2
        exact ⟨⟨k + 1, by omega, rfl, by rw [ST.out.2]; first | rw [if_pos Z0.out] | rw [if_neg Z0.out], by rw [ST.out.1]; exact W4.out⟩, by simp [intOf]; omega⟩
    · obtain rfl : k = N := by omega
      have W3 := Lib.hid hW
      have R3 := Lib.hid hW.rs
      have B3 := Lib.hid (hW.x.byt k (by rw [cmb_len, xl.out]))
      have NG := Lib.hid hW.ng
      clear hW
      rcases HP.out with rfl | rfl | rfl | rfl | rfl | rfl
      all_goals
        refine R3.out.opn ?_
        intros
        go_wp2_with (go_at_call 68; (first | refine nx (rputm_c R3.out A _ k cx _ B3.out (by omega) (fun _ x hx => by cases hx; exact NG.out.2.2.1)) ?_ | refine nx (rputm_c (R3.out.setcc _) A _ k cx _ ((W3.out.x.other _ (Ne.symm NG.out.1)).byt k (by rw [cmb_len, xl.out])) (by omega) (fun _ x hx => by cases hx; exact NG.out.2.2.1)) ?_); intro w1 R1)
        first | go_end0 | refine bodyPost_ret (results_none rfl _ _ _) rfl ?_
        exact ⟨rfl, gd_cb (by decide) (by decide) (by decide) FA.out FB.out (by rw [SX.out, SY.out]) (by rw [SX.out, SY.out]; exact R1.out)⟩
end
end Go.Proofs.YthjdjbipfdigeaaGreat

namespace Go.Proofs.YthjdjbipfdigeaaGreat
open Go.RowKit
set_option maxRecDepth 100000
set_option linter.unusedVariables false
set_option linter.unusedSimpArgs false
section
variable {w0 w : World} {g : Nat} {G : Foot} {I : In} {os rs : List Int} {p q : Ps} {c : Int} {bs ks : List Int}
theorem gd_clc {A B C : Int} {N : Nat} (hA : ftC 0 bs ks p.key A (N : Int) = 0) (hB : ftC 0 bs ks p.key B (N : Int) = 0) (hC : C = clc (sGet bs A N) (sGet bs B N)) (hR : RS w0 w g G I os os p { p with cc := C } 0 bs ks) : Gd w0 w g G I os p ks (loO ⟨os, p.key, p.il, p.cc, p.pg, p.ad, bs, ks⟩ 213 N A B) := by
  have e1 : Pre.fc ⟨os, p.key, p.il, p.cc, p.pg, p.ad, bs, ks⟩ A N = 0 := by rw [← hA]; exact (if_pos rfl).symm
  have e2 : Pre.fc ⟨os, p.key, p.il, p.cc, p.pg, p.ad, bs, ks⟩ B N = 0 := by rw [← hB]; exact (if_pos rfl).symm
  unfold loO
  rw [if_neg (by decide), if_neg (fun h => h e1), if_neg (by decide), if_neg (fun h => h e2), if_pos rfl, ← hC]
  exact gd_ok hR rfl rfl rfl rfl rfl
set_option maxRecDepth 1000000 in
set_option maxHeartbeats 8000000 in
theorem rlo_213 (h : RS w0 w g G I os os p p 0 bs ks) (ho : I.op = 213) (hp : p.ok) (hfa : ftC 0 bs ks p.key (I.a1 os) ((I.l + 1 : Nat) : Int) = 0) (hfb : ftC 0 bs ks p.key (I.a os) ((I.l + 1 : Nat) : Int) = 0) : Calls Tryz.prog 28 #[.pointer (some ⟨g, 0, none⟩)] w fun e w' => e = .returned (.tuple #[]) ∧ Gd w0 w' g G I os p ks (loO ⟨os, p.key, p.il, p.cc, p.pg, p.ad, bs, ks⟩ I.op (I.l + 1) (I.a1 os) (I.a os)) := by
  rw [ho]
  obtain ⟨A, hA⟩ : ∃ A, I.a1 os = A := ⟨_, rfl⟩
  have A0 := I.a1_in os
  rw [hA] at A0 hfa ⊢
  have RA := Lib.hid (fun w0 W rs q c bs (hW : RS w0 W g G I os rs p q c bs ks) => show Calls Tryz.prog 69 #[.pointer (some ⟨g, 0, none⟩)] W fun e w' => e = .returned (.int .i64 A) ∧ RS w0 w' g G I os rs p q c bs ks from hA ▸ ra1_c hW)
  clear hA
  obtain ⟨B, hB⟩ : ∃ A, I.a os = A := ⟨_, rfl⟩
  have B0 := I.a_in os
  rw [hB] at B0 hfb ⊢
  have RB := Lib.hid (fun w0 W rs q c bs (hW : RS w0 W g G I os rs p q c bs ks) => show Calls Tryz.prog 59 #[.pointer (some ⟨g, 0, none⟩)] W fun e w' => e = .returned (.int .i64 B) ∧ RS w0 w' g G I os rs p q c bs ks from hB ▸ ra_c hW)
  clear hB
  obtain ⟨N, hN⟩ : ∃ N, I.l + 1 = N := ⟨_, rfl⟩
  have nl := h.ix.l
  have N0 : 0 < N := by omega
  have N1 : N ≤ 256 := by omega
  have c1 : IntKind.i64.wrap ((I.l : Int) + 1) = (N : Int) := by rw [wrap_i64_id (by omega) (by omega)]; omega
  rw [hN] at hfa hfb ⊢
  clear hN nl
  obtain ⟨xs, hxs⟩ : ∃ xs, sGet bs A (N : Int) = xs := ⟨_, rfl⟩
  obtain ⟨ys, hys⟩ : ∃ ys, sGet bs B (N : Int) = ys := ⟨_, rfl⟩
  have bX : ftB 0 bs ks p.key A N = xs := by unfold ftB; rw [hfa, if_pos rfl]; exact hxs
  have bY : ftB 0 bs ks p.key B N = ys := by unfold ftB; rw [hfb, if_pos rfl]; exact hys
  have FA := Lib.hid hfa
  have FB := Lib.hid hfb
  have BX := Lib.hid bX
  have BY := Lib.hid bY
  have SX := Lib.hid hxs
  have SY := Lib.hid hys
  have HO := Lib.hid ho
  have R0 := Lib.hid h
  have hcc := Lib.hid hp.cc
  clear hp ho hfa hfb bX bY hxs hys h
  refine R0.out.opn ?_
  intros
  go_enter Tryz.func28, Tryz.ntmps28
  go_upto_region 6 with (first
        | (go_at_call 69; refine nx (RA.out _ _ _ _ _ _ hout) fun w1 R1 => R1.out.opn ?_; intros)
        | (go_at_call 59; refine nx (RB.out _ _ _ _ _ _ hout) fun w1 R1 => R1.out.opn ?_; intros)
        | (go_at_call 70; have hg1 := (hout : RS w0 _ g G I os os p p _ bs ks).lt; have hs1 := (hout : RS w0 _ g G I os os p p _ bs ks).st; have hz1 := (hout : RS w0 _ g G I os os p p _ bs ks).b.size; refine nxf (rfet_c hout _ N N0 (by omega)) ?_; intro bx cx w1 O1 hx1 hx2 R1; rw [FA.out] at R1; rw [BX.out] at O1; refine R1.out.opn ?_; intros))
  have hg2 := hs1.ltg
  have hg3 := hs1.ltb
  have hg4 := hs1.ltk
  have NX : bx ≠ g ∧ bx ≠ G.g ∧ bx ≠ G.gb ∧ bx ≠ G.gk := ⟨by omega, by omega, by omega, by omega⟩
  have NW : w0.heap.size ≤ bx := by omega
  have HX := Lib.hid O1.out.ro
  have xl := Lib.hid O1.out.len
  clear hg1 hs1 hz1 hg2 hg3 hg4 hx1 hx2 O1
  go_upto_region 9 with (go_at_call 70; have hg1 := R1.out.lt; have hs1 := R1.out.st.ltb; have hz1 := HX.out.lt; refine nxf (rfet_c R1.out.rb _ N N0 (by omega)) ?_; intro b2 c2 w2 O2 hx1 hx2 R2'; rw [FB.out] at R2'; rw [BY.out] at O2; refine R2'.out.opn ?_; intros)
  have NY : b2 ≠ g ∧ b2 ≠ G.gb ∧ b2 ≠ bx := ⟨by omega, by omega, by omega⟩
  have yl := Lib.hid O2.out.len
  have W2 : Hid (R2 w0 w2 g G I os os p p 0 bs ks bx cx xs b2 c2 ys) := Lib.hid ⟨R1.out.re R2'.out, HX.out.keep (R2'.out.b.kept HX.out.lt (by simp; exact ⟨NX.1, NX.2.2.1⟩)), O2.out.ro, NX, NW, NY⟩
  clear hg1 hs1 hz1 hx1 hx2 O2 R1 R2' HX NX NW NY BX BY
  go_wp2
  go_loopw [7] (fun x W => ∃ (k : Nat) (C : Int), k ≤ N ∧ x = .int .i64 (k : Int) ∧ 0 ≤ C ∧ (0 < k → C = 0) ∧ clc (xs.drop k) (ys.drop k) = clc xs ys ∧ R2 w0 W g G I os os p { p with cc := C } 0 bs ks bx cx xs b2 c2 ys) (fun x _ => N - (intOf x).toNat)
  case atStart => exact ⟨0, p.cc, by omega, rfl, hcc.out.1, fun h => absurd h (by omega), rfl, W2.out⟩
  case round =>
    obtain ⟨k, C, hk, rfl, hC0, hC, hcl, hW⟩ := hrel
    have W3 := Lib.hid hW
    refine hW.rs.opn ?_
    intros
    have C0 : C ≥ 0 := hC0
    by_cases hlt : k < N
    · have i0 : (k : Int) < (N : Int) := by omega
      have x0 := hW.x.rangeD k
      have y0 := hW.y.rangeD k
      have cx1 := hW.x.cell (i := k) (by rw [xl.out]; exact hlt)
      have cy1 := hW.y.cell (i := k) (by rw [yl.out]; exact hlt)
      rw [drop_cons xs k (by rw [xl.out]; exact hlt), drop_cons ys k (by rw [yl.out]; exact hlt)] at hcl
      have hcl : (if xs.getD k 0 = ys.getD k 0 then clc (xs.drop (k + 1)) (ys.drop (k + 1)) else sgn (xs.getD k 0 - ys.getD k 0)) = clc xs ys := hcl
      obtain ⟨x, hx⟩ : ∃ x, xs.getD k 0 = x := ⟨_, rfl⟩
      obtain ⟨y, hy⟩ : ∃ y, ys.getD k 0 = y := ⟨_, rfl⟩
      rw [hx] at hcl cx1 x0
      rw [hy] at hcl cy1 y0
      obtain ⟨s, hs⟩ : ∃ s, sgn (x - y) = s := ⟨_, rfl⟩
      rw [hs] at hcl
      have hse : s = 0 ↔ x = y := by rw [← hs]; unfold sgn; constructor <;> intro h <;> (try split at h) <;> (try split at h) <;> (try split) <;> (try split) <;> omega
      have sv : 0 ≤ s := by rw [← hs]; unfold sgn; (repeat' split) <;> omega
      have CP := Lib.hid (fun w => (hs ▸ rcomparel_c x y (by omega) (by omega) (by omega) (by omega) w : Calls Tryz.prog 71 #[.int .u32 x, .int .u32 y] w fun e w' => e = .returned (.int .i64 s) ∧ w = w'))
      have HCL := Lib.hid hcl
      have HX := Lib.hid hx
      have HY := Lib.hid hy
      have HS := Lib.hid hse
      have w1 : IntKind.u32.wrap x = x := by rw [IntKind.wrap_u32]; omega
      have w2 : IntKind.u32.wrap y = y := by rw [IntKind.wrap_u32]; omega
      clear hs hx hy hcl hse hW hC
      go_upto_region 14 with fail
      refine wp_region_held_drew (S := fun w => w.cell? ⟨bx, k, none⟩ = some (.int .u8 x) ∧ w.cell? ⟨b2, k, none⟩ = some (.int .u8 y)) (by kernel_rfl) ⟨cx1, cy1⟩ (fun hHeld => ?_)
      replace W3 := Lib.hid W3.out.drew
      have RS2 : ∀ C w', R2 w0 w' g G I os os p { p with cc := C } 0 bs ks bx cx xs b2 c2 ys → w'.cell? ⟨bx, k, none⟩ = some (.int .u8 x) ∧ w'.cell? ⟨b2, k, none⟩ = some (.int .u8 y) := fun C w' h => ⟨by rw [h.x.cell (i := k) (by rw [xl.out]; exact hlt), HX.out], by rw [h.y.cell (i := k) (by rw [yl.out]; exact hlt), HY.out]⟩
      have RS3 := Lib.hid RS2
      clear RS2
      repeat refine tkn ?_
      refine tkc (R := fun w' => R2 w0 w' g G I os os p { p with cc := C } 0 bs ks bx cx xs b2 c2 ys) ((CP.out _).mono (by rintro e w' ⟨rfl, rfl⟩; exact ⟨rfl, W3.out⟩)) (RS3.out C) ?_
      clear W3
      intro w3 W3 hHeld
      repeat refine tkn ?_
      have cS := W3.out.rs.cq (j := 7) rfl
      have fS := W3.out.rs.fz
      refine tkw (R := fun w' => R2 w0 w' g G I os os p { p with cc := s } 0 bs ks bx cx xs b2 c2 ys) (W3.out.to (W3.out.rs.rb.setcc s)) (RS3.out s) ?_
      clear cS fS W3 hHeld RS3
      intro w4 W4 hHeld
      refine wpAnyH_done (by with_unfolding_all rfl) ?_ _
      have cz := W4.out.rs.cq (j := 7) rfl
      by_cases hz : s = 0
      · have hxy := HS.out.1 hz
        subst hz
        have hcl := HCL.out
        rw [if_pos hxy] at hcl
        have HCL := Lib.hid hcl
        clear hcl hxy hHeld
        go_wp2
        exact ⟨⟨k + 1, 0, by omega, rfl, by omega, fun _ => rfl, HCL.out, W4.out⟩, by simp [intOf]; omega⟩
      · have z1 : (s != 0) = true := by simpa using hz
        have hcl := HCL.out
        rw [if_neg (fun h => hz (HS.out.2 h))] at hcl
        have HCL := Lib.hid hcl
        clear hcl hz hHeld
        go_wp2
        first | go_end0 | refine bodyPost_ret (results_none rfl _ _ _) rfl ?_
        exact ⟨rfl, gd_clc FA.out FB.out (by rw [SX.out, SY.out]; exact HCL.out) W4.out.rs⟩
    · obtain rfl : k = N := by omega
      obtain rfl := hC N0
      rw [List.drop_of_length_le (by rw [xl.out]; omega)] at hcl
      have HCL := Lib.hid (show 0 = clc xs ys from hcl)
      clear hW hcl hC
      go_wp2
      first | go_end0 | refine bodyPost_ret (results_none rfl _ _ _) rfl ?_
      exact ⟨rfl, gd_clc FA.out FB.out (by rw [SX.out, SY.out]; exact HCL.out) W3.out.rs⟩
end
end Go.Proofs.YthjdjbipfdigeaaGreat

