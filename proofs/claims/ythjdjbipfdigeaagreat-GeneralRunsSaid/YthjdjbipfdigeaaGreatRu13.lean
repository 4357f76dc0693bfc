/- Contracts and laws on the way to the statement, text 13 of 24. Conditions: as each states them. -/
import Derived.Test.YthjdjbipfdigeaaGreatRu9
import Derived.Test.YthjdjbipfdigeaaGreatRu10
import Derived.Test.YthjdjbipfdigeaaGreatRu12
namespace Go.Proofs.YthjdjbipfdigeaaGreat
open Go.RowKit
set_option maxRecDepth 100000
set_option linter.unusedVariables false
set_option linter.unusedSimpArgs false
section
variable {w0 w : World} {g : Nat} {G : Foot} {I : In} {os rs : List Int} {p q : Ps} {c : Int} {bs ks : List Int}
/-- the machine, and a slice of bytes that is changed -/
structure RX (w0 w : World) (g : Nat) (G : Foot) (I : In) (os rs : List Int) (p q : Ps) (c : Int) (bs ks : List Int) (bx cx : Nat) (xs : List Int) : Prop where
  rs : RS w0 w g G I os rs p q c bs ks
  x : Ro w bx cx xs
  ng : bx ≠ g ∧ bx ≠ G.g ∧ bx ≠ G.gb ∧ bx ≠ G.gk
  nw : w0.heap.size ≤ bx
theorem RX.to {bx cx : Nat} {xs : List Int} {w' : World} {rs' : List Int} {q' : Ps} {c' : Int} {bs' : List Int} (h : RX w0 w g G I os rs p q c bs ks bx cx xs) (h' : RS w w' g G I os rs' p q' c' bs' ks) : RX w0 w' g G I os rs' p q' c' bs' ks bx cx xs :=
  ⟨h.rs.re h', h.x.keep (h'.b.kept h.x.lt (by simp; exact ⟨h.ng.1, h.ng.2.2.1⟩)), h.ng, h.nw⟩
theorem RX.setx {bx cx : Nat} {xs : List Int} (h : RX w0 w g G I os rs p q c bs ks bx cx xs) (j : Nat) {y : Int} (hy : 0 ≤ y ∧ y ≤ 255) : RX w0 (w.setCell ⟨bx, j, none⟩ (.int .u8 y)) g G I os rs p q c bs ks bx cx (xs.set j y) := ⟨h.rs.oth _ h.ng h.nw, h.x.set_ hy, h.ng, h.nw⟩
def tc (c : Int) (bs ks xs : List Int) (key b : Int) (k : Nat) : Int := if c = 0 then trE bs ks xs key b k else c
theorem tc_succ (c : Int) (bs ks xs : List Int) (key b : Int) (k : Nat) : tc c bs ks xs key b (k + 1) = ftC (tc c bs ks xs key b k) bs ks key (b + xs.getD k 0) (1 : Nat) := by
  unfold tc ftC
  by_cases h : c = 0
  · rw [if_pos h, if_pos h]; rfl
  · rw [if_neg h, if_neg h, if_neg h]
set_option maxRecDepth 1000000 in
set_option maxHeartbeats 8000000 in
theorem rtr_c {bx cx N : Nat} {xs : List Int} {A B : Int} (h : RX w0 w g G I os rs p q c bs ks bx cx xs) (hl : xs.length = N) (N0 : 0 < N) (N1 : N ≤ 256) (A0 : 0 ≤ A ∧ A ≤ 16777215) (B0 : 0 ≤ B ∧ B ≤ 16777215) : Calls Tryz.prog 74 #[.pointer (some ⟨g, 0, none⟩), .int .i64 A, .int .i64 B, .slice (some ⟨bx, 0, none⟩) N cx] w fun e w' => e = .returned (.tuple #[]) ∧ ∃ zs, (tc c bs ks xs p.key B N = 0 → zs = trS bs xs A B N) ∧ RS w0 w' g G I os rs p q (ptC (tc c bs ks xs p.key B N) bs ks p.key A N) (ptB (tc c bs ks xs p.key B N) bs ks p.key A zs) ks := by
  have R0 := Lib.hid h
  have XL := Lib.hid hl
  have XR := Lib.hid h.x.rangeD
  have BR := Lib.hid h.rs.st.rb
  have N2 : Hid (0 < N) := Lib.hid N0
  have tc0 : c = tc c bs ks xs p.key B 0 := by unfold tc; split <;> simp_all [trE]
  have T0 := Lib.hid tc0
  clear h hl N0 tc0
  go_enter Tryz.func74, Tryz.ntmps74
  go_wp2
  go_loopw [8, 9, 10] (fun x _ _ W => ∃ (k : Nat) (zs : List Int), k ≤ N ∧ x = .int .i64 (k : Int) ∧ zs.length = N ∧ (∀ j, k ≤ j → zs.getD j 0 = xs.getD j 0) ∧ (tc c bs ks xs p.key B k = 0 → zs = trS bs xs A B k) ∧ RX w0 W g G I os rs p q (tc c bs ks xs p.key B k) bs ks bx cx zs) (fun x _ _ _ => N - (intOf x).toNat)
  case atStart => exact ⟨0, xs, by omega, rfl, XL.out, fun _ _ => rfl, fun _ => rfl, by rw [← T0.out]; exact R0.out⟩
  case round =>
    obtain ⟨k, zs, hk, rfl, hzl, hzx, hzs, hW⟩ := hrel
    have W3 := Lib.hid hW
    by_cases hlt : k < N
    · have i0 : (k : Int) < (N : Int) := by omega
      have xk := XR.out k
      have cx1 := hW.x.cell (i := k) (by rw [hzl]; exact hlt)
      rw [hzx k (Nat.le_refl _)] at cx1
      have hts := tc_succ c bs ks xs p.key B k
      have htr : tc c bs ks xs p.key B (k + 1) = 0 → trS bs xs A B (k + 1) = zs.set k (if A ≤ B + xs.getD k 0 ∧ B + xs.getD k 0 < A + (k : Int) then zs.getD (B + xs.getD k 0 - A).toNat 0 else (ftB (tc c bs ks xs p.key B k) bs ks p.key (B + xs.getD k 0) 1).getD 0 0) := by
        intro h0
        rw [hts] at h0
        have h1 : tc c bs ks xs p.key B k = 0 := by
          by_cases h1 : tc c bs ks xs p.key B k = 0
          · exact h1
          · unfold ftC at h0; rw [if_neg h1] at h0; exact absurd h0 h1
        rw [hzs h1]
        unfold ftB
        rw [h0, if_pos rfl]
        rfl
      obtain ⟨x, hx⟩ : ∃ x, xs.getD k 0 = x := ⟨_, rfl⟩
      rw [hx] at xk cx1 hts htr
      obtain ⟨T, hT⟩ : ∃ T, tc c bs ks xs p.key B k = T := ⟨_, rfl⟩
      rw [hT] at hts htr W3
      have fr := ftB_in (c := T) (a := B + x) (key := p.key) (ks := ks) (n := 1) BR.out 0
      obtain ⟨f, hf⟩ : ∃ f, (ftB T bs ks p.key (B + x) 1).getD 0 0 = f := ⟨_, rfl⟩
      rw [hf] at htr fr
      have q1 : IntKind.i64.wrap x = x := wrap_i64_id (by omega) (by omega)
      have q2 : IntKind.i64.wrap (B + x) = B + x := wrap_i64_id (by omega) (by omega)
      have q3 : IntKind.i64.wrap (A + (k : Int)) = A + (k : Int) := wrap_i64_id (by omega) (by omega)
      have cj : (∃ j : Nat, j < N ∧ (j : Int) < (N : Int) ∧ IntKind.i64.wrap (B + x - A) = (j : Int) ∧ A ≤ B + x ∧ B + x < A + (k : Int) ∧ (B + x - A).toNat = j) ∨ (B + x < A) ∨ (A ≤ B + x ∧ A + (k : Int) ≤ B + x) := by
        by_cases h1 : A ≤ B + x
        · by_cases h2 : B + x < A + (k : Int)
          · exact .inl ⟨(B + x - A).toNat, by omega, by omega, by rw [wrap_i64_id (by omega) (by omega)]; omega, h1, h2, rfl⟩
          · exact .inr (.inr ⟨h1, by omega⟩)
        · exact .inr (.inl (by omega))
      have HT := Lib.hid hts
      have HR := Lib.hid htr
      have HF := Lib.hid hf
      have HZ := Lib.hid hzx
      have ZL := Lib.hid hzl
      have CJ := Lib.hid cj
      clear hts htr hf hx hT hW hzs hzx hzl cj
      go_upto_region 5 with (go_at_call 70; refine nxf (rfet_c W3.out.rs.rb _ 1 (by omega) (by omega)) ?_; intro b2 c2 w2 O2 hx1 hx2 R2'; have cb := byt0 O2.out.byt (by omega); rw [HF.out] at cb)
      replace W3 := Lib.hid (W3.out.to R2'.out)
      rw [← HT.out] at W3
      clear O2 hx1 hx2 R2'
      have fin : ∀ e v, (0 ≤ e ∧ e ≤ 255) → zs.set k e = v → (tc c bs ks xs p.key B (k + 1) = 0 → trS bs xs A B (k + 1) = v) → (∃ (k1 : Nat) (zs1 : List Int), k1 ≤ N ∧ Value.int .i64 ((k : Int) + 1) = .int .i64 (k1 : Int) ∧ zs1.length = N ∧ (∀ j, k1 ≤ j → zs1.getD j 0 = xs.getD j 0) ∧ (tc c bs ks xs p.key B k1 = 0 → zs1 = trS bs xs A B k1) ∧ RX w0 (w2.setCell ⟨bx, k, none⟩ (.int .u8 e)) g G I os rs p q (tc c bs ks xs p.key B k1) bs ks bx cx zs1) := by
        intro e v he hv h
        subst hv
        exact ⟨k + 1, _, by omega, rfl, by rw [List.length_set, ZL.out], fun j hj => by rw [getD_set_other _ _ _ _ (by omega)]; exact HZ.out j (by omega), fun h0 => (h h0).symm, W3.out.setx k he⟩
      have FI := Lib.hid fin
      clear fin
      have cS := W3.out.x.cell (i := k) (by rw [ZL.out]; exact hlt)
      have fS := W3.out.x.free
      rcases CJ.out with ⟨j, j0, j1, j2, j3, j4, j5⟩ | j3 | ⟨j3, j4⟩
      · have ck := W3.out.x.cell (i := j) (by rw [ZL.out]; exact j0)
        have jr := W3.out.x.rangeD j
        obtain ⟨y, hy⟩ : ∃ y, zs.getD j 0 = y := ⟨_, rfl⟩
        rw [hy] at ck jr
        have HY := Lib.hid hy
        clear hy
        have HJ := Lib.hid j5
        have J3 := Lib.hid j3
        have J4 := Lib.hid j4
        clear j5 j0
        go_wp2
        exact ⟨FI.out _ _ jr rfl (fun h0 => by rw [HR.out h0, if_pos ⟨J3.out, J4.out⟩, HJ.out, HY.out]), by simp [intOf]; omega⟩
      · have J3 := Lib.hid j3
        go_wp2
        exact ⟨FI.out _ _ fr rfl (fun h0 => by rw [HR.out h0, if_neg (fun h => absurd h.1 (by have := J3.out; omega))]), by simp [intOf]; omega⟩
      · have J3 := Lib.hid j4
        go_wp2
        exact ⟨FI.out _ _ fr rfl (fun h0 => by rw [HR.out h0, if_neg (fun h => absurd h.2 (by have := J3.out; omega))]), by simp [intOf]; omega⟩
    · obtain rfl : k = N := by omega
      have ZL := Lib.hid hzl
      have HZ := Lib.hid hzs
      clear hW hzs hzl hzx
      go_wp2_with (go_at_call 68; refine nx (rputm_c W3.out.rs A _ k cx _ (W3.out.x.byt k ZL.out) (by omega) (fun _ x hx => by cases hx; exact W3.out.ng.2.2.1)) ?_; intro w1 R1)
      first | go_end0 | refine bodyPost_ret (results_none rfl _ _ _) rfl ?_
      exact ⟨rfl, zs, HZ.out, R1.out⟩
end
end Go.Proofs.YthjdjbipfdigeaaGreat

namespace Go.Proofs.YthjdjbipfdigeaaGreat
open Go.RowKit
set_option maxRecDepth 100000
set_option linter.unusedVariables false
set_option linter.unusedSimpArgs false
section
variable {w0 w : World} {g : Nat} {G : Foot} {I : In} {os rs : List Int} {p q : Ps} {c : Int} {bs ks : List Int}
theorem scn_step {bs ks : List Int} {key A B F1 x F2 y : Int} {m k : Nat} (hF1 : ftC 0 bs ks key (A + (k : Int)) (1 : Nat) = F1) (hx : (ftB 0 bs ks key (A + (k : Int)) 1).getD 0 0 = x) (hF2 : ftC F1 bs ks key (B + x) (1 : Nat) = F2) (hy : (ftB F1 bs ks key (B + x) 1).getD 0 0 = y) :
    (F2 = 0 ∧ y = 0 → scn bs ks key A B (m + 1) k = scn bs ks key A B m (k + 1)) ∧ (F2 = 0 ∧ y ≠ 0 → scn bs ks key A B (m + 1) k = (0, some (k, y))) ∧ (F2 ≠ 0 → (scn bs ks key A B (m + 1) k).1 = F2) ∧ (F2 = 0 → sCode (alF key) bs.length ks (A + (k : Int)) 1 = 0) := by
  have e1 : ftC 0 bs ks key (A + (k : Int)) (1 : Nat) = sCode (alF key) bs.length ks (A + (k : Int)) 1 := if_pos rfl
  rw [e1] at hF1
  unfold ftB at hx hy
  rw [e1, hF1] at hx
  rw [hF2] at hy
  by_cases h1 : F1 = 0
  · subst h1
    rw [if_pos rfl] at hx
    have hx : (sGet bs (A + (k : Int)) 1).getD 0 0 = x := hx
    have e2 : ftC 0 bs ks key (B + x) (1 : Nat) = sCode (alF key) bs.length ks (B + x) 1 := if_pos rfl
    rw [e2] at hF2
    by_cases h2 : F2 = 0
    · subst h2
      rw [if_pos rfl] at hy
      have hy : (sGet bs (B + x) 1).getD 0 0 = y := hy
      refine ⟨fun h => ?_, fun h => ?_, fun h => absurd rfl h, fun _ => hF1⟩ <;> (simp only [scn, hF1, hx, hF2, hy, if_true]; simp [h.2])
    · refine ⟨fun h => absurd h.1 h2, fun h => absurd h.1 h2, fun _ => ?_, fun h => absurd h h2⟩
      simp only [scn, hF1, hx, hF2, if_true, if_neg h2]
  · have e2 : F2 = F1 := by rw [← hF2]; exact if_neg h1
    subst e2
    refine ⟨fun h => absurd h.1 h1, fun h => absurd h.1 h1, fun _ => ?_, fun h => absurd h h1⟩
    simp only [scn, hF1, if_neg h1]
set_option maxRecDepth 1000000 in
set_option maxHeartbeats 8000000 in
theorem rscan_c {N : Nat} {A B : Int} (h : RS w0 w g G I os os p p 0 bs ks) (N0 : 0 < N) (N1 : N ≤ 256) (A0 : 0 ≤ A ∧ A ≤ 16777215) (B0 : 0 ≤ B ∧ B ≤ 16777215) {r : Int × Option (Nat × Int)} (hr : scn bs ks p.key A B N 0 = r) : Calls Tryz.prog 73 #[.pointer (some ⟨g, 0, none⟩), .int .i64 A, .int .i64 B, .int .i64 (N : Int)] w fun e w' => e = .returned (.tuple #[]) ∧ ∃ rs q, RS w0 w' g G I os rs p q r.1 bs ks ∧ (r.1 = 0 → rs = scnR os os A r.2 ∧ q = { p with cc := scnQ N r.2 }) := by
  have R0 := Lib.hid h
  have H0 := Lib.hid hr
  have BR := Lib.hid h.st.rb
  have u1 := getD_in h.ro 1
  have u2 := getD_in h.ro 2
  have hbl : bs.length ≤ 65536 := by have := h.st.ln; have := h.st.l1; omega
  have HB := Lib.hid hbl
  obtain ⟨U1, hU1⟩ : ∃ u, os.getD 1 0 = u := ⟨_, rfl⟩
  obtain ⟨U2, hU2⟩ : ∃ u, os.getD 2 0 = u := ⟨_, rfl⟩
  rw [hU1] at u1
  rw [hU2] at u2
  have K1 : Hid (∀ W rs q c, RS w0 W g G I os rs p q c bs ks → W.cell? ⟨g, 13, none⟩ = some (.int .u32 U1)) := Lib.hid fun W rs q c h => hU1 ▸ h.co (n := 1) (by omega)
  have K2 : Hid (∀ W rs q c, RS w0 W g G I os rs p q c bs ks → W.cell? ⟨g, 14, none⟩ = some (.int .u32 U2)) := Lib.hid fun W rs q c h => hU2 ▸ h.co (n := 2) (by omega)
  have HU1 := Lib.hid hU1
  have HU2 := Lib.hid hU2
  clear h hr hbl hU1 hU2
  go_enter Tryz.func73, Tryz.ntmps73
  go_wp2
  go_loopw [8, 9, 10] (fun x _ _ W => ∃ (k : Nat) (c : Int), k ≤ N ∧ x = .int .i64 (k : Int) ∧ RS w0 W g G I os os p p c bs ks ∧ (c = 0 → scn bs ks p.key A B (N - k) k = r) ∧ (c ≠ 0 → r.1 = c)) (fun x _ _ _ => N - (intOf x).toNat)
  case atStart => exact ⟨0, 0, by omega, rfl, R0.out, fun _ => H0.out, fun h => absurd rfl h⟩
  case round =>
    obtain ⟨k, c, hk, rfl, hR, hc0, hc1⟩ := hrel
    have R1 := Lib.hid hR
    by_cases hlt : k < N
    · have i0 : (k : Int) < (N : Int) := by omega
      by_cases hz : c = 0
      · subst hz
        obtain ⟨m, hm⟩ : ∃ m, N - k = m + 1 := ⟨N - k - 1, by omega⟩
        have hc := hc0 rfl
        rw [hm] at hc
        obtain ⟨F1, hF1⟩ : ∃ e, ftC 0 bs ks p.key (A + (k : Int)) (1 : Nat) = e := ⟨_, rfl⟩
        have x0 := ftB_in (c := 0) (a := A + (k : Int)) (key := p.key) (ks := ks) (n := 1) BR.out 0
        obtain ⟨x, hx⟩ : ∃ e, (ftB 0 bs ks p.key (A + (k : Int)) 1).getD 0 0 = e := ⟨_, rfl⟩
        obtain ⟨F2, hF2⟩ : ∃ e, ftC F1 bs ks p.key (B + x) (1 : Nat) = e := ⟨_, rfl⟩
        have y0 := ftB_in (c := F1) (a := B + x) (key := p.key) (ks := ks) (n := 1) BR.out 0
        obtain ⟨y, hy⟩ : ∃ e, (ftB F1 bs ks p.key (B + x) 1).getD 0 0 = e := ⟨_, rfl⟩
        have HS := Lib.hid (scn_step (m := m) hF1 hx hF2 hy)
        rw [hx] at x0
        rw [hy] at y0
        have HC := Lib.hid hc
        have HF1 := Lib.hid hF1
        have HX := Lib.hid hx
        have HF2 := Lib.hid hF2
        have HY := Lib.hid hy
        have HM := Lib.hid hm
        have q1 : IntKind.i64.wrap (A + (k : Int)) = A + (k : Int) := wrap_i64_id (by omega) (by omega)
        have q2 : IntKind.i64.wrap (B + x) = B + x := wrap_i64_id (by omega) (by omega)
        have q3 : IntKind.i64.wrap x = x := wrap_i64_id (by omega) (by omega)
        have q4 : IntKind.i64.wrap ((N : Int) - 1) = (N : Int) - 1 := wrap_i64_id (by omega) (by omega)
        clear hF1 hx hF2 hy hc hc0 hc1 hR hm
        refine R1.out.opn ?_
        intros
        go_upto_region 4 with (go_at_call 70; refine nxf (rfet_c R1.out _ 1 (by omega) (by omega)) ?_; intro b2 c2 w2 O2 hx1 hx2 R2; have cb := byt0 O2.out.byt (by omega); rw [HX.out] at cb; rw [HF1.out] at R2)
        clear O2 hx1 hx2 cb
        go_upto_region 5 with (go_at_call 70; refine nxf (rfet_c R2.out _ 1 (by omega) (by omega)) ?_; intro b3 c3 w3 O3 hx1 hx2 R3; have cb := byt0 O3.out.byt (by omega); rw [HY.out] at cb; rw [HF2.out] at R3)
        clear O3 hx1 hx2 cb
        refine R3.out.opn ?_
        intros
        by_cases hz : F2 = 0
        · subst hz
          have hA : A + (k : Int) + 1 ≤ 65536 := by
            have h4 := sIn_yes (sCode_zero (HS.out.2.2.2 rfl))
            have := HB.out
            omega
          by_cases hy : y = 0
          · subst hy
            have h1 := HS.out.1 ⟨rfl, rfl⟩
            rw [HC.out] at h1
            have H1 := Lib.hid h1.symm
            clear h1
            go_wp2
            exact ⟨⟨k + 1, 0, by omega, rfl, R3.out, fun _ => by have := HM.out; rw [show N - (k + 1) = m by omega]; exact H1.out, fun h => absurd rfl h⟩, by simp [intOf]; omega⟩
          · have z1 : (y != 0) = true := by simpa using hy
            have h1 := HS.out.2.1 ⟨rfl, hy⟩
            rw [HC.out] at h1
            have H1 := Lib.hid h1
            clear h1 hy
            have d1 : U1.tdiv 16777216 = U1 / 16777216 := Int.tdiv_eq_ediv_of_nonneg u1.1
            have d2 : IntKind.u32.wrap (U1 / 16777216) = U1 / 16777216 := lo32_id _ (by omega) (by omega)
            have d3 : IntKind.u32.wrap (U1 / 16777216 * 16777216) = U1 / 16777216 * 16777216 := lo32_id _ (by omega) (by omega)
            have d4 : IntKind.u32.wrap (A + (k : Int)) = A + (k : Int) := lo32_id _ (by omega) (by omega)
            have d5 : IntKind.u32.wrap (U1 / 16777216 * 16777216 + (A + (k : Int))) = U1 / 16777216 * 16777216 + (A + (k : Int)) := lo32_id _ (by omega) (by omega)
            have e1 : U2.tdiv 256 = U2 / 256 := Int.tdiv_eq_ediv_of_nonneg u2.1
            have e2 : IntKind.u32.wrap (U2 / 256) = U2 / 256 := lo32_id _ (by omega) (by omega)
            have e3 : IntKind.u32.wrap (U2 / 256 * 256) = U2 / 256 * 256 := lo32_id _ (by omega) (by omega)
            have e4 : IntKind.u32.wrap y = y := lo32_id _ (by omega) (by omega)
            have e5 : IntKind.u32.wrap (U2 / 256 * 256 + y) = U2 / 256 * 256 + y := lo32_id _ (by omega) (by omega)
            go_upto_region 6 with fail
            refine wp_region_held_drew (S := fun w => w.cell? ⟨g, 13, none⟩ = some (.int .u32 U1)) (by kernel_rfl) (K1.out _ _ _ _ R3.out.drew) (fun hHeld => ?_)
            replace R3 := Lib.hid R3.out.drew
            repeat refine tkn ?_
            have cS := R3.out.cr (n := 1) (by omega)
            have fS := R3.out.fz
            refine tkw (R := fun w' => RS w0 w' g G I os (os.set 1 (U1 / 16777216 * 16777216 + (A + (k : Int)))) p p 0 bs ks) (R3.out.setr (n := 1) (by omega) _) (fun _ h => K1.out _ _ _ _ h) ?_
            clear cS fS R3 hHeld
            intro w4 R4 hHeld
            refine wpAnyH_done (by with_unfolding_all rfl) ?_ _
            clear hHeld
            go_upto_region 7 with fail
            refine wp_region_held_drew (S := fun w => w.cell? ⟨g, 14, none⟩ = some (.int .u32 U2)) (by kernel_rfl) (K2.out _ _ _ _ R4.out.drew) (fun hHeld => ?_)
            replace R4 := Lib.hid R4.out.drew
            repeat refine tkn ?_
            have cS := R4.out.cr (n := 2) (by omega)
            have fS := R4.out.fz
            refine tkw (R := fun w' => RS w0 w' g G I os ((os.set 1 (U1 / 16777216 * 16777216 + (A + (k : Int)))).set 2 (U2 / 256 * 256 + y)) p p 0 bs ks) (R4.out.setr (n := 2) (by omega) _) (fun _ h => K2.out _ _ _ _ h) ?_
            clear cS fS R4 hHeld
            intro w5 R5 hHeld
            refine wpAnyH_done (by with_unfolding_all rfl) ?_ _
            clear hHeld
            refine R5.out.opn ?_
            intros
            have hN : (k + 1 = N ∧ ((k : Int) == (N : Int) - 1) = true) ∨ (k + 1 ≠ N ∧ ((k : Int) == (N : Int) - 1) = false) := by by_cases h : k + 1 = N <;> simp [h] <;> omega
            rcases hN with ⟨hn, e6⟩ | ⟨hn, e6⟩
            all_goals
              have HN := Lib.hid hn
              clear hn
              go_wp2
              first | go_end0 | refine bodyPost_ret (results_none rfl _ _ _) rfl ?_
              refine ⟨rfl, ?_⟩
              rw [H1.out]
              first
                | exact ⟨_, _, (R5.out.setcc 1).setcc 2, fun _ => ⟨by unfold scnR; rw [HU1.out, HU2.out], by show _ = { p with cc := scnQ N (some (k, y)) }; rw [show scnQ N (some (k, y)) = 2 from if_pos HN.out]⟩⟩
                | exact ⟨_, _, R5.out.setcc 1, fun _ => ⟨by unfold scnR; rw [HU1.out, HU2.out], by show _ = { p with cc := scnQ N (some (k, y)) }; rw [show scnQ N (some (k, y)) = 1 from if_neg HN.out]⟩⟩
        · have z1 : (F2 == 0) = false := by simpa using hz
          have h1 := HS.out.2.2.1 hz
          rw [HC.out] at h1
          have H1 := Lib.hid h1
          have H2 := Lib.hid hz
          clear h1 hz
          go_wp2
          exact ⟨⟨k + 1, F2, by omega, rfl, R3.out, fun h => absurd h H2.out, fun _ => H1.out⟩, by simp [intOf]; omega⟩
      · have h1 := hc1 hz
        have e1 : (c == 0) = false := by simpa using hz
        have H1 := Lib.hid h1
        have H2 := Lib.hid hz
        clear h1 hz hc0 hc1 hR
        refine R1.out.opn ?_
        intros
        go_wp2
        first | go_end0 | refine bodyPost_ret (results_none rfl _ _ _) rfl ?_
        exact ⟨rfl, _, _, by rw [H1.out]; exact R1.out.setcc 0, fun h => absurd (H1.out.symm.trans h) H2.out⟩
    · obtain rfl : k = N := by omega
      have H1 := Lib.hid hc0
      have H2 := Lib.hid hc1
      clear hc0 hc1 hR
      refine R1.out.opn ?_
      intros
      go_wp2
      first | go_end0 | refine bodyPost_ret (results_none rfl _ _ _) rfl ?_
      by_cases hz : c = 0
      · subst hz
        have h3 := H1.out rfl
        rw [Nat.sub_self] at h3
        rw [← h3]
        exact ⟨rfl, _, _, R1.out.setcc 0, fun _ => ⟨rfl, rfl⟩⟩
      · exact ⟨rfl, _, _, by rw [H2.out hz]; exact R1.out.setcc 0, fun h => absurd ((H2.out hz).symm.trans h) hz⟩
end
end Go.Proofs.YthjdjbipfdigeaaGreat

namespace Go.Proofs.YthjdjbipfdigeaaGreat
open Go.RowKit
set_option maxRecDepth 100000
set_option linter.unusedVariables false
set_option linter.unusedSimpArgs false
section
variable {w0 w : World} {g : Nat} {G : Foot} {I : In} {os rs : List Int} {p q : Ps} {c : Int} {bs ks : List Int}
set_option maxRecDepth 1000000 in
set_option maxHeartbeats 8000000 in
theorem rlo_no (h : RS w0 w g G I os os p p 0 bs ks) (ho : I.op = 209 ∨ I.op = 210 ∨ I.op = 211 ∨ I.op = 212 ∨ I.op = 213 ∨ I.op = 214 ∨ I.op = 215) (hn : ftC (ftC 0 bs ks p.key (I.a1 os) ((I.l + 1 : Nat) : Int)) bs ks p.key (I.a os) ((I.l + 1 : Nat) : Int) ≠ 0) : Calls Tryz.prog 28 #[.pointer (some ⟨g, 0, none⟩)] w fun e w' => e = .returned (.tuple #[]) ∧ Gd w0 w' g G I os p ks (Pre.no ⟨os, p.key, p.il, p.cc, p.pg, p.ad, bs, ks⟩ (ftC (ftC 0 bs ks p.key (I.a1 os) ((I.l + 1 : Nat) : Int)) bs ks p.key (I.a os) ((I.l + 1 : Nat) : Int))) := by
  obtain ⟨A, hA⟩ : ∃ A, I.a1 os = A := ⟨_, rfl⟩
  have A0 := I.a1_in os
  rw [hA] at A0 hn ⊢
  have RA := Lib.hid (fun w0 W rs q c bs (hW : RS w0 W g G I os rs p q c bs ks) => show Calls Tryz.prog 69 #[.pointer (some ⟨g, 0, none⟩)] W fun e w' => e = .returned (.int .i64 A) ∧ RS w0 w' g G I os rs p q c bs ks from hA ▸ ra1_c hW)
  clear hA
  obtain ⟨B, hB⟩ : ∃ A, I.a os = A := ⟨_, rfl⟩
  have B0 := I.a_in os
  rw [hB] at B0 hn ⊢
  have RB := Lib.hid (fun w0 W rs q c bs (hW : RS w0 W g G I os rs p q c bs ks) => show Calls Tryz.prog 59 #[.pointer (some ⟨g, 0, none⟩)] W fun e w' => e = .returned (.int .i64 B) ∧ RS w0 w' g G I os rs p q c bs ks from hB ▸ ra_c hW)
  clear hB
  obtain ⟨N, hN⟩ : ∃ N, I.l + 1 = N := ⟨_, rfl⟩
  have nl := h.ix.l
  have N0 : 0 < N := by omega
  have N1 : N ≤ 256 := by omega
  have c1 : IntKind.i64.wrap ((I.l : Int) + 1) = (N : Int) := by rw [wrap_i64_id (by omega) (by omega)]; omega
  rw [hN] at hn ⊢
  clear hN nl
  obtain ⟨F, hF⟩ : ∃ F, ftC 0 bs ks p.key A (N : Int) = F := ⟨_, rfl⟩
  obtain ⟨E, hE⟩ : ∃ E, ftC F bs ks p.key B (N : Int) = E := ⟨_, rfl⟩
  rw [hF, hE]
  have HF := Lib.hid hF
  have HE := Lib.hid hE
  rw [hF] at hn
  rw [hE] at hn
  clear hF hE
  have e1 : (E != 0) = true := by simpa using hn
  have HN := Lib.hid hn
  clear hn
  rcases ho with ho | ho | ho | ho | ho | ho | ho
  all_goals
    have HO := Lib.hid ho
    have R0 := Lib.hid h
    clear ho h
    refine R0.out.opn ?_
    intros
    go_enter Tryz.func28, Tryz.ntmps28
    go_wp2_with (first
        | (go_at_call 69; refine nx (RA.out _ _ _ _ _ _ hout) fun w1 R1 => R1.out.opn ?_; intros)
        | (go_at_call 59; refine nx (RB.out _ _ _ _ _ _ hout) fun w1 R1 => R1.out.opn ?_; intros)
        | (go_at_call 70; refine nxf (rfet_c hout _ N N0 (by omega)) ?_; intro b cap w1 O1 hb1 hb2 R1; (first | rw [HF.out] at R1 | rw [HE.out] at R1); refine R1.out.opn ?_; intros))
    first | go_end0 | refine bodyPost_ret (results_none rfl _ _ _) rfl ?_
    exact ⟨rfl, gd_no hout HN.out rfl⟩
end
end Go.Proofs.YthjdjbipfdigeaaGreat

namespace Go.Proofs.YthjdjbipfdigeaaGreat
open Go.RowKit
set_option maxRecDepth 100000
set_option linter.unusedVariables false
set_option linter.unusedSimpArgs false
section
variable {w0 w : World} {g : Nat} {G : Foot} {I : In} {os rs : List Int} {p q : Ps} {c : Int} {bs ks : List Int}
theorem gd_tr {A B : Int} {N : Nat} {zs : List Int} (hz : tc (ftC 0 bs ks p.key A N) bs ks (ftB 0 bs ks p.key A N) p.key B N = 0 → zs = trS bs (ftB 0 bs ks p.key A N) A B N) (hR : RS w0 w g G I os os p p (ptC (tc (ftC 0 bs ks p.key A N) bs ks (ftB 0 bs ks p.key A N) p.key B N) bs ks p.key A N) (ptB (tc (ftC 0 bs ks p.key A N) bs ks (ftB 0 bs ks p.key A N) p.key B N) bs ks p.key A zs) ks) : Gd w0 w g G I os p ks (loO ⟨os, p.key, p.il, p.cc, p.pg, p.ad, bs, ks⟩ 220 N A B) := by
  have e1 : Pre.fc ⟨os, p.key, p.il, p.cc, p.pg, p.ad, bs, ks⟩ A N = ftC 0 bs ks p.key A (N : Int) := (if_pos rfl).symm
  unfold loO
  rw [if_neg (by decide)]
  by_cases h0 : ftC 0 bs ks p.key A (N : Int) = 0
  · rw [if_neg (fun h => h (e1.trans h0)), if_pos rfl]
    have ex : ftB 0 bs ks p.key A N = sGet bs A N := by unfold ftB; rw [if_pos h0]
    rw [ex, h0, show tc 0 bs ks (sGet bs A N) p.key B N = trE bs ks (sGet bs A N) p.key B N from if_pos rfl] at hR hz
    show Gd w0 w g G I os p ks (if trE bs ks (sGet bs A N) p.key B N = 0 then Pre.wr ⟨os, p.key, p.il, p.cc, p.pg, p.ad, bs, ks⟩ A N (trS bs (sGet bs A N) A B N) p.cc else Pre.no ⟨os, p.key, p.il, p.cc, p.pg, p.ad, bs, ks⟩ (trE bs ks (sGet bs A N) p.key B N))
    by_cases h1 : trE bs ks (sGet bs A N) p.key B N = 0
    · rw [if_pos h1, ← hz h1]
      rw [h1] at hR
      exact gd_wr hR
    · rw [if_neg h1]
      rw [show ptC (trE bs ks (sGet bs A N) p.key B N) bs ks p.key A N = trE bs ks (sGet bs A N) p.key B N from if_neg h1] at hR
      exact gd_no hR h1 rfl
  · rw [if_pos (fun h => h0 (e1.symm.trans h)), e1]
    rw [show tc (ftC 0 bs ks p.key A N) bs ks (ftB 0 bs ks p.key A N) p.key B N = ftC 0 bs ks p.key A N from if_neg h0, show ptC (ftC 0 bs ks p.key A N) bs ks p.key A N = ftC 0 bs ks p.key A N from if_neg h0] at hR
    exact gd_no hR h0 rfl
theorem gd_trt {A B : Int} {N : Nat} {rs : List Int} {q : Ps} (hR : RS w0 w g G I os rs p q (scn bs ks p.key A B N 0).1 bs ks) (h : (scn bs ks p.key A B N 0).1 = 0 → rs = scnR os os A (scn bs ks p.key A B N 0).2 ∧ q = { p with cc := scnQ N (scn bs ks p.key A B N 0).2 }) : Gd w0 w g G I os p ks (loO ⟨os, p.key, p.il, p.cc, p.pg, p.ad, bs, ks⟩ 221 N A B) := by
  unfold loO
  rw [if_pos rfl]
  show Gd w0 w g G I os p ks (match scn bs ks p.key A B N 0 with | (c, o) => if c = 0 then (⟨0, scnR os os A o, scnQ N o, p.pg, p.ad, false, bs⟩ : Out) else Pre.no ⟨os, p.key, p.il, p.cc, p.pg, p.ad, bs, ks⟩ c)
  generalize scn bs ks p.key A B N 0 = r at hR h ⊢
  obtain ⟨c, o⟩ := r
  show Gd w0 w g G I os p ks (if c = 0 then (⟨0, scnR os os A o, scnQ N o, p.pg, p.ad, false, bs⟩ : Out) else Pre.no ⟨os, p.key, p.il, p.cc, p.pg, p.ad, bs, ks⟩ c)
  by_cases h0 : c = 0
  · subst h0
    obtain ⟨rfl, rfl⟩ := h rfl
    rw [if_pos rfl]
    exact gd_ok hR rfl rfl rfl rfl rfl
  · rw [if_neg h0]
    exact gd_no hR h0 rfl
theorem gd_lno {A B o : Int} {N : Nat} (ho : o = 209 ∨ o = 210 ∨ o = 211 ∨ o = 212 ∨ o = 213 ∨ o = 214 ∨ o = 215) (hn : ftC (ftC 0 bs ks p.key A (N : Int)) bs ks p.key B (N : Int) ≠ 0) (h : Gd w0 w g G I os p ks (Pre.no ⟨os, p.key, p.il, p.cc, p.pg, p.ad, bs, ks⟩ (ftC (ftC 0 bs ks p.key A (N : Int)) bs ks p.key B (N : Int)))) : Gd w0 w g G I os p ks (loO ⟨os, p.key, p.il, p.cc, p.pg, p.ad, bs, ks⟩ o N A B) := by
  have e1 : Pre.fc ⟨os, p.key, p.il, p.cc, p.pg, p.ad, bs, ks⟩ A N = ftC 0 bs ks p.key A (N : Int) := (if_pos rfl).symm
  have e2 : Pre.fc ⟨os, p.key, p.il, p.cc, p.pg, p.ad, bs, ks⟩ B N = ftC 0 bs ks p.key B (N : Int) := (if_pos rfl).symm
  unfold loO
  rw [if_neg (by omega), e1]
  by_cases h0 : ftC 0 bs ks p.key A (N : Int) = 0
  · rw [if_neg (fun h => h h0), if_neg (by omega), e2]
    rw [h0] at h hn
    rw [if_pos hn]
    exact h
  · rw [if_pos h0]
    rw [show ftC (ftC 0 bs ks p.key A (N : Int)) bs ks p.key B (N : Int) = ftC 0 bs ks p.key A (N : Int) from if_neg h0] at h
    exact h
set_option maxRecDepth 1000000 in
set_option maxHeartbeats 8000000 in
theorem rlo_220 (h : RS w0 w g G I os os p p 0 bs ks) (ho : I.op = 220) : Calls Tryz.prog 28 #[.pointer (some ⟨g, 0, none⟩)] w fun e w' => e = .returned (.tuple #[]) ∧ Gd w0 w' g G I os p ks (loO ⟨os, p.key, p.il, p.cc, p.pg, p.ad, bs, ks⟩ I.op (I.l + 1) (I.a1 os) (I.a os)) := by
  rw [ho]
  obtain ⟨A, hA⟩ : ∃ A, I.a1 os = A := ⟨_, rfl⟩
  have A0 := I.a1_in os
  rw [hA] at A0 ⊢
  have RA := Lib.hid (fun w0 W rs q c bs (hW : RS w0 W g G I os rs p q c bs ks) => show Calls Tryz.prog 69 #[.pointer (some ⟨g, 0, none⟩)] W fun e w' => e = .returned (.int .i64 A) ∧ RS w0 w' g G I os rs p q c bs ks from hA ▸ ra1_c hW)
  clear hA
  obtain ⟨B, hB⟩ : ∃ A, I.a os = A := ⟨_, rfl⟩
  have B0 := I.a_in os
  rw [hB] at B0 ⊢
  have RB := Lib.hid (fun w0 W rs q c bs (hW : RS w0 W g G I os rs p q c bs ks) => show Calls Tryz.prog 59 #[.pointer (some ⟨g, 0, none⟩)] W fun e w' => e = .returned (.int .i64 B) ∧ RS w0 w' g G I os rs p q c bs ks from hB ▸ ra_c hW)
  clear hB
  obtain ⟨N, hN⟩ : ∃ N, I.l + 1 = N := ⟨_, rfl⟩
  have nl := h.ix.l
  have N0 : 0 < N := by omega
  have N1 : N ≤ 256 := by omega
  have c1 : IntKind.i64.wrap ((I.l : Int) + 1) = (N : Int) := by rw [wrap_i64_id (by omega) (by omega)]; omega
  rw [hN]
  have HO := Lib.hid ho
  have R0 := Lib.hid h
  clear hN nl ho h
  refine R0.out.opn ?_
  intros
  go_enter Tryz.func28, Tryz.ntmps28
  go_upto_region 6 with (first
        | (go_at_call 69; refine nx (RA.out _ _ _ _ _ _ hout) fun w1 R1 => R1.out.opn ?_; intros)
        | (go_at_call 59; refine nx (RB.out _ _ _ _ _ _ hout) fun w1 R1 => R1.out.opn ?_; intros)
        | (go_at_call 70; have hg1 := (hout : RS w0 _ g G I os os p p _ bs ks).lt; have hs1 := (hout : RS w0 _ g G I os os p p _ bs ks).st; have hz1 := (hout : RS w0 _ g G I os os p p _ bs ks).b.size; refine nxf (rfet_c hout _ N N0 (by omega)) ?_; intro bx cx w1 O1 hx1 hx2 R1; refine R1.out.opn ?_; intros))
  have hg2 := hs1.ltg
  have hg3 := hs1.ltb
  have hg4 := hs1.ltk
  have RX1 := Lib.hid (show RX w0 w1 g G I os os p p _ bs ks bx cx _ from ⟨R1.out, O1.out.ro, ⟨by omega, by omega, by omega, by omega⟩, by omega⟩)
  have xl := Lib.hid O1.out.len
  clear hg1 hs1 hz1 hg2 hg3 hg4 hx1 hx2 O1
  go_wp2_with (go_at_call 74; refine nx (rtr_c RX1.out xl.out N0 N1 A0 B0) ?_; intro w2 R2)
  first | go_end0 | refine bodyPost_ret (results_none rfl _ _ _) rfl ?_
  obtain ⟨zs, hz, hR⟩ := R2.out
  exact ⟨rfl, gd_tr hz hR⟩
set_option maxRecDepth 1000000 in
set_option maxHeartbeats 8000000 in
theorem rlo_221 (h : RS w0 w g G I os os p p 0 bs ks) (ho : I.op = 221) : Calls Tryz.prog 28 #[.pointer (some ⟨g, 0, none⟩)] w fun e w' => e = .returned (.tuple #[]) ∧ Gd w0 w' g G I os p ks (loO ⟨os, p.key, p.il, p.cc, p.pg, p.ad, bs, ks⟩ I.op (I.l + 1) (I.a1 os) (I.a os)) := by
  rw [ho]
  obtain ⟨A, hA⟩ : ∃ A, I.a1 os = A := ⟨_, rfl⟩
  have A0 := I.a1_in os
  rw [hA] at A0 ⊢
  have RA := Lib.hid (fun w0 W rs q c bs (hW : RS w0 W g G I os rs p q c bs ks) => show Calls Tryz.prog 69 #[.pointer (some ⟨g, 0, none⟩)] W fun e w' => e = .returned (.int .i64 A) ∧ RS w0 w' g G I os rs p q c bs ks from hA ▸ ra1_c hW)
  clear hA
  obtain ⟨B, hB⟩ : ∃ A, I.a os = A := ⟨_, rfl⟩
  have B0 := I.a_in os
  rw [hB] at B0 ⊢
  have RB := Lib.hid (fun w0 W rs q c bs (hW : RS w0 W g G I os rs p q c bs ks) => show Calls Tryz.prog 59 #[.pointer (some ⟨g, 0, none⟩)] W fun e w' => e = .returned (.int .i64 B) ∧ RS w0 w' g G I os rs p q c bs ks from hB ▸ ra_c hW)
  clear hB
  obtain ⟨N, hN⟩ : ∃ N, I.l + 1 = N := ⟨_, rfl⟩
  have nl := h.ix.l
  have N0 : 0 < N := by omega
  have N1 : N ≤ 256 := by omega
  have c1 : IntKind.i64.wrap ((I.l : Int) + 1) = (N : Int) := by rw [wrap_i64_id (by omega) (by omega)]; omega
  rw [hN]
  have HO := Lib.hid ho
  have R0 := Lib.hid h
  clear hN nl ho h
  refine R0.out.opn ?_
  intros
  go_enter Tryz.func28, Tryz.ntmps28
  go_wp2_with (first
        | (go_at_call 69; refine nx (RA.out _ _ _ _ _ _ hout) fun w1 R1 => R1.out.opn ?_; intros)
        | (go_at_call 59; refine nx (RB.out _ _ _ _ _ _ hout) fun w1 R1 => R1.out.opn ?_; intros)
        | (go_at_call 73; refine nx (rscan_c hout N0 N1 A0 B0 rfl) ?_; intro w2 R2))
  first | go_end0 | refine bodyPost_ret (results_none rfl _ _ _) rfl ?_
  obtain ⟨_, _, hR, hz⟩ := R2.out
  exact ⟨rfl, gd_trt hR hz⟩
theorem rlongs_c (h : RS w0 w g G I os os p p 0 bs ks) (hp : p.ok) (ho : I.op = 209 ∨ I.op = 210 ∨ I.op = 211 ∨ I.op = 212 ∨ I.op = 213 ∨ I.op = 214 ∨ I.op = 215 ∨ I.op = 220 ∨ I.op = 221) : Calls Tryz.prog 28 #[.pointer (some ⟨g, 0, none⟩)] w fun e w' => e = .returned (.tuple #[]) ∧ Gd w0 w' g G I os p ks (loO ⟨os, p.key, p.il, p.cc, p.pg, p.ad, bs, ks⟩ I.op (I.l + 1) (I.a1 os) (I.a os)) := by
  rcases (show (I.op = 209 ∨ I.op = 210 ∨ I.op = 211 ∨ I.op = 212 ∨ I.op = 213 ∨ I.op = 214 ∨ I.op = 215) ∨ I.op = 220 ∨ I.op = 221 by omega) with ho | ho | ho
  · by_cases hn : ftC (ftC 0 bs ks p.key (I.a1 os) ((I.l + 1 : Nat) : Int)) bs ks p.key (I.a os) ((I.l + 1 : Nat) : Int) = 0
    · have hA : ftC 0 bs ks p.key (I.a1 os) ((I.l + 1 : Nat) : Int) = 0 := by
        by_cases h0 : ftC 0 bs ks p.key (I.a1 os) ((I.l + 1 : Nat) : Int) = 0
        · exact h0
        · rw [show ftC (ftC 0 bs ks p.key (I.a1 os) ((I.l + 1 : Nat) : Int)) bs ks p.key (I.a os) ((I.l + 1 : Nat) : Int) = ftC 0 bs ks p.key (I.a1 os) ((I.l + 1 : Nat) : Int) from if_neg h0] at hn
          exact hn
      rw [hA] at hn
      rcases (show (I.op = 209 ∨ I.op = 210 ∨ I.op = 211 ∨ I.op = 212 ∨ I.op = 214 ∨ I.op = 215) ∨ I.op = 213 by omega) with ho | ho
      · exact rlo_cb h ho hA hn
      · exact rlo_213 h ho hp hA hn
    · exact (rlo_no h ho hn).mono fun e w' ⟨he, hg⟩ => ⟨he, gd_lno ho hn hg⟩
  · exact rlo_220 h ho
  · exact rlo_221 h ho
end
end Go.Proofs.YthjdjbipfdigeaaGreat

namespace Go.Proofs.YthjdjbipfdigeaaGreat
open Go.RowKit
set_option maxRecDepth 100000
set_option linter.unusedVariables false
set_option linter.unusedSimpArgs false
section
variable {w0 w : World} {g : Nat} {G : Foot} {I : In} {os rs : List Int} {p q : Ps} {c : Int} {bs ks : List Int}
/-- the machine, and a slice of bytes that is made piece by piece -/
structure RB (w0 w : World) (g : Nat) (G : Foot) (I : In) (os rs : List Int) (p q : Ps) (c : Int) (bs ks : List Int) (base : Nat) (v : Value) (n : Nat) (zs : List Int) : Prop where
  rs : RS w0 w g G I os rs p q c bs ks
  o : Own w base v n zs
  g0 : g < base
  g1 : G.g < base
  g2 : G.gb < base
  g3 : G.gk < base
  w0 : w0.heap.size ≤ base
  w1 : base ≤ w.heap.size
section
variable {base n : Nat} {v : Value} {zs : List Int} {w' : World}
theorem RB.keep (h : RB w0 w g G I os rs p q c bs ks base v n zs) (hb : Below w.heap.size w w') : RB w0 w' g G I os rs p q c bs ks base v n zs := { h with rs := h.rs.keep hb, o := h.o.below hb (fun j hj => (h.o.block j hj).2), w1 := Nat.le_trans h.w1 hb.size }
theorem RB.grown (h : RB w0 w g G I os rs p q c bs ks base v n zs) {v' : Value} {n' : Nat} {zs' : List Int} (ho : Own w' base v' n' zs') (hg : w.grownBy w' v.ownBlock) : RB w0 w' g G I os rs p q c bs ks base v' n' zs' := by
  have hn : ∀ k, k < base → some k ≠ v.ownBlock := fun k hk e => by have := (h.o.block k e.symm).1; omega
  have hs := Nat.lt_of_lt_of_le h.g0 h.w1
  exact { h with
    rs := { h.rs with m := h.rs.m.kept (hg.block g hs (hn g h.g0)), st := h.rs.st.keep (hg.block _ (Nat.lt_of_lt_of_le h.g1 h.w1) (hn _ h.g1)) (hg.block _ (Nat.lt_of_lt_of_le h.g2 h.w1) (hn _ h.g2)) (hg.block _ (Nat.lt_of_lt_of_le h.g3 h.w1) (hn _ h.g3)), b := ⟨hg.os.trans h.rs.b.os, hg.tape.trans h.rs.b.tape, hg.output.trans h.rs.b.output, Nat.le_trans h.rs.b.size hg.size, fun k hk hL => (hg.block k (Nat.lt_of_lt_of_le hk h.rs.b.size) (hn k (Nat.lt_of_lt_of_le hk h.w0))).trans (h.rs.b.block k hk hL)⟩ }
    o := ho
    w1 := Nat.le_trans h.w1 hg.size }
theorem RB.to {rs' : List Int} {q' : Ps} {c' : Int} {bs' : List Int} (h : RB w0 w g G I os rs p q c bs ks base v n zs) (h' : RS w w' g G I os rs' p q' c' bs' ks) : RB w0 w' g G I os rs' p q' c' bs' ks base v n zs := by
  refine { h with rs := h.rs.re h', o := ⟨⟨h.o.1.1, ?_⟩, h.o.2⟩, w1 := Nat.le_trans h.w1 h'.b.size }
  rcases h.o.1.2 with h0 | ⟨j, cap, cur, rfl, hg, hh, r⟩
  · exact .inl h0
  · have := h.g0
    have := h.g2
    exact .inr ⟨j, cap, cur, rfl, hg, (h'.b.kept (Array.getElem?_eq_some_iff.1 hh).1 (by simp; omega)).trans hh, r⟩
theorem rpf2_c {u : Int} (u0 : 0 ≤ u ∧ u ≤ 4294967295) (w : World) (h : RB w0 w g G I os rs p q c bs ks base v n zs) : Calls Tryz.prog 76 #[.slice (some ⟨w.heap.size, 0, none⟩) 4 4, .int .i64 0, .int .u32 u] (w.alloc (.cells (zeroB 4) 5)) fun e w' => ∃ x, e = .returned x ∧ ∃ bb cap, x = .tuple #[.slice (some ⟨bb, 0, none⟩) 4 cap, .bool true] ∧ RB w0 w' g G I os rs p q c bs ks base v n zs ∧ Byt w' (some ⟨bb, 0, none⟩) 4 (fby u) := by
  refine (rputfull_any (some ⟨w.heap.size, 0, none⟩) 4 4 0 u (List.replicate 4 0) _ (by omega) (own_zeros w 4 w.heap.size (Nat.le_refl _) (by decide)).byt (by omega) (by omega) u0.1 u0.2).mono ?_
  rintro e w' ⟨B, cap, rfl, hO, -, hb⟩
  have hp : plen 4 0 4 = 4 := rfl
  have hq : pbytes 4 0 4 (List.replicate 4 0) (fby u) = fby u := rfl
  rw [hp, hq] at hO
  rw [hp]
  obtain ⟨b, cap', hv, h1, h2, h3, h4⟩ := hO.pos (by decide)
  injection hv with e1 e2 e3
  subst e1 e3
  exact ⟨_, rfl, b, _, rfl, (h.keep ((Below.refl _ _).alloc (Nat.le_refl _) _)).keep hb, hO.byt⟩
end
set_option maxRecDepth 1000000 in
set_option maxHeartbeats 8000000 in
theorem rsev_144 (h : RS w0 w g G I os os p p 0 bs ks) (ho : I.op = 144) : Calls Tryz.prog 78 #[.pointer (some ⟨g, 0, none⟩)] w fun e w' => e = .returned (.tuple #[]) ∧ RS w0 w' g G I os os p p (ptC (atC 0 (I.a os) 4) bs ks p.key (I.a os) ((4 * cnt I.n I.k : Nat) : Int)) (ptB (atC 0 (I.a os) 4) bs ks p.key (I.a os) (stB os I.n (cnt I.n I.k))) ks := by
  obtain ⟨A, hA⟩ : ∃ A, I.a os = A := ⟨_, rfl⟩
  have A0 := I.a_in os
  rw [hA] at A0 ⊢
  have RA := Lib.hid (fun w0 W rs q c bs (hW : RS w0 W g G I os rs p q c bs ks) => show Calls Tryz.prog 59 #[.pointer (some ⟨g, 0, none⟩)] W fun e w' => e = .returned (.int .i64 A) ∧ RS w0 w' g G I os rs p q c bs ks from hA ▸ ra_c hW)
  clear hA
  obtain ⟨C, hC⟩ : ∃ C, cnt I.n I.k = C := ⟨_, rfl⟩
  have nb := h.ix.n
  have kb := h.ix.k
  have C0 : 1 ≤ C ∧ C ≤ 16 := by unfold cnt at hC; omega
  have c1 : IntKind.i64.wrap ((I.k : Int) - (I.n : Int)) = (I.k : Int) - (I.n : Int) := wrap_i64_id (by omega) (by omega)
  have c2 : IntKind.i64.wrap ((I.k : Int) - (I.n : Int) + 16) = (I.k : Int) - (I.n : Int) + 16 := wrap_i64_id (by omega) (by omega)
  have c3 : ((I.k : Int) - (I.n : Int) + 16).tmod 16 = (C : Int) - 1 := by rw [Int.tmod_eq_emod_of_nonneg (by omega)]; unfold cnt at hC; omega
  have c4 : IntKind.i64.wrap (C : Int) = (C : Int) := wrap_i64_id (by omega) (by omega)
  have c5 : (C : Int) - 1 + 1 = (C : Int) := by omega
  clear kb
  rw [hC]
  obtain ⟨F, hF⟩ : ∃ F, atC 0 A 4 = F := ⟨_, rfl⟩
  rw [hF]
  have HF := Lib.hid hF
  clear hF
  have HO := Lib.hid ho
  have R0 := Lib.hid h
  have HNB := Lib.hid nb
  clear hC ho h nb
  refine R0.out.opn ?_
  intros
  go_enter Tryz.func78, Tryz.ntmps78
  go_upto_region 1 with (first
    | (go_at_call 59; refine nx (RA.out _ _ _ _ _ _ hout) fun w1 R1 => R1.out.opn ?_; intros)
    | (go_at_call 77; refine nx (rat_c hout _ _ (.inr rfl) (by omega) (by omega)) fun w1 R1 => R1.out.opn ?_; intros))
  refine wp_region_held_drew (S := Sx w0 g G I os p) (by kernel_rfl) R1.out.drew.x (fun hHeld => ?_)
  replace R1 := Lib.hid R1.out.drew
  repeat refine tkr ?_
  refine wpAnyH_done (by with_unfolding_all rfl) ?_ _
  rw [HF.out] at R1
  clear hHeld
  refine R1.out.opn ?_
  intros
  have B1 : Hid (RB w0 w1.drew g G I os os p p F bs ks w1.drew.heap.size (.slice none 0 0) (4 * 0) (stB os I.n 0)) := Lib.hid ⟨R1.out, Own.nil _ _, R1.out.lt, R1.out.st.ltg, R1.out.st.ltb, R1.out.st.ltk, R1.out.b.size, Nat.le_refl _⟩
  obtain ⟨base, hbase⟩ : ∃ n, w1.drew.heap.size = n := ⟨_, rfl⟩
  rw [hbase] at B1
  clear hbase
  go_wp2
  go_loopw [7, 8, 9, 10] (fun v x _ _ W => ∃ k : Nat, k ≤ C ∧ x = .int .i64 (k : Int) ∧ RB w0 W g G I os os p p F bs ks base v (4 * k) (stB os I.n k)) (fun _ x _ _ _ => C - (intOf x).toNat)
  case atStart => exact ⟨0, by omega, rfl, B1.out⟩
  case round =>
    obtain ⟨k, hk, rfl, hW⟩ := hrel
    have RBk := Lib.hid hW
    have R2 := Lib.hid hW.rs
    by_cases hlt : k < C
    · have i0 : (k : Int) < (C : Int) := by omega
      have nb := HNB.out
      obtain ⟨m, hm⟩ : ∃ m, (I.n + k) % 16 = m := ⟨_, rfl⟩
      have m0 : m < 16 := by omega
      have m1 : (m : Int) < 16 := by omega
      have q1 : IntKind.i64.wrap ((I.n : Int) + (k : Int)) = (I.n : Int) + (k : Int) := wrap_i64_id (by omega) (by omega)
      have q2 : ((I.n : Int) + (k : Int)).tmod 16 = (m : Int) := by rw [Int.tmod_eq_emod_of_nonneg (by omega)]; omega
      have u0 := getD_in hW.rs.ro m
      obtain ⟨u, hu⟩ : ∃ u, os.getD m 0 = u := ⟨_, rfl⟩
      rw [hu] at u0
      have K1 : Hid (∀ W rs q c bs ks, RS w0 W g G I os rs p q c bs ks → W.cell? ⟨g, 12 + m, none⟩ = some (.int .u32 u)) := Lib.hid fun W rs q c bs ks h => hu ▸ h.co m0
      have HS : Hid (stB os I.n (k + 1) = stB os I.n k ++ fby u) := Lib.hid (by show stB os I.n k ++ fb (os.getD ((I.n + k) % 16) 0) = _; rw [hm, hu, fby_fb u0])
      have hmk := mk4
      clear hm hu hW
      go_upto_region 13 with fail
      refine wp_region_held_drew (S := Sx w0 g G I os p) (by kernel_rfl) R2.out.drew.x (fun hHeld => ?_)
      replace RBk := Lib.hid (RBk.out.keep (dBelow' (Below.refl _ _) 1))
      replace R2 := Lib.hid R2.out.drew
      repeat refine tkr ?_
      refine tki 13 (y := (by intro w hSw; obtain ⟨_, _, _, _, _, hx⟩ := hSw; have hx := K1.out _ _ _ _ _ _ hx; go_simp; (try with_reducible rfl))) ?_
      refine tk1 (by with_unfolding_all rfl) ?_
      refine opb (R := fun w' => w' = wr.drew.alloc (.cells (zeroB 4) 5)) rfl (fun w' h => h ▸ (R2.out.keep ((Below.refl _ _).alloc (Nat.le_refl _) _)).x) ?_
      rintro w2 h2 hHeld
      obtain rfl := h2.out
      refine tkce (rpf2_c u0 _ RBk.out) (fun _ _ ⟨_, _, _, h, _⟩ => h.rs.x) ?_
      clear hHeld RBk R2
      intro v2 w3 h3 hHeld
      obtain ⟨bb, cap, rfl, h4, h5⟩ := h3.out
      have RBk := Lib.hid h4
      have BY := Lib.hid h5
      clear h3 h4 h5
      repeat refine tkr ?_
      refine wpAnyH_done (by with_unfolding_all rfl) ?_ _
      clear hHeld
      go_upto_region 14 with fail
      iterate 8 go_step
      refine wp_append_b (.tmp 89) (.tmp 90) rfl base _ (4 * k) (stB os I.n k) rfl RBk.out.o bb 0 4 cap (fby u) rfl BY.out (by omega) RBk.out.w1 (fun v' w6 ho6 hg6 => ?_)
      have W6 := Lib.hid (RBk.out.grown ho6 hg6)
      rw [← HS.out] at W6
      clear ho6 hg6 RBk
      go_wp2
      exact ⟨⟨k + 1, by omega, rfl, W6.out⟩, by simp [intOf]; omega⟩
    · obtain rfl : k = C := by omega
      obtain ⟨bb, cap, rfl, hb, -⟩ := hW.o.pos (by omega)
      have hgb : bb ≠ G.gb := by have := hW.g2; omega
      have HG := Lib.hid hgb
      clear hW hgb hb
      go_wp2_with (first
        | (go_at_call 59; refine nx (RA.out _ _ _ _ _ _ R2.out.rb) fun w3 R3 => ?_; have RB3 := Lib.hid (RBk.out.to R3.out); clear RBk)
        | (go_at_call 68; refine nx (rputm_c RB3.out.rs A _ (4 * k) cap _ RB3.out.o.byt (by omega) (fun _ x hx => by cases hx; exact HG.out)) ?_; intro w1 R1))
      first | go_end0 | refine bodyPost_ret (results_none rfl _ _ _) rfl ?_
      exact ⟨rfl, R1.out⟩
theorem gd_stm {A : Int} {n k : Nat} (hR : RS w0 w g G I os os p p (ptC (atC 0 A 4) bs ks p.key A ((4 * cnt n k : Nat) : Int)) (ptB (atC 0 A 4) bs ks p.key A (stB os n (cnt n k))) ks) : Gd w0 w g G I os p ks (mvO ⟨os, p.key, p.il, p.cc, p.pg, p.ad, bs, ks⟩ 144 n k A) := by
  have e : mvO ⟨os, p.key, p.il, p.cc, p.pg, p.ad, bs, ks⟩ 144 n k A = if A % 4 = 0 then Pre.wr ⟨os, p.key, p.il, p.cc, p.pg, p.ad, bs, ks⟩ A ((4 * cnt n k : Nat) : Int) (stB os n (cnt n k)) p.cc else Pre.no ⟨os, p.key, p.il, p.cc, p.pg, p.ad, bs, ks⟩ 6 := rfl
  rw [e]
  by_cases h0 : A % 4 = 0
  · rw [if_pos h0]
    rw [show atC 0 A 4 = 0 from if_neg (fun h => h.2 h0)] at hR
    exact gd_wr (cc := p.cc) hR
  · rw [if_neg h0]
    rw [show atC 0 A 4 = 6 from if_pos ⟨rfl, h0⟩, show ptC 6 bs ks p.key A ((4 * cnt n k : Nat) : Int) = 6 from if_neg (by decide)] at hR
    exact gd_no hR (show (6 : Int) ≠ 0 by decide) rfl
set_option maxRecDepth 1000000 in
set_option maxHeartbeats 8000000 in
theorem rmv_144 (h : RS w0 w g G I os os p p 0 bs ks) (ho : I.op = 144) : Calls Tryz.prog 29 #[.pointer (some ⟨g, 0, none⟩)] w fun e w' => e = .returned (.tuple #[]) ∧ Gd w0 w' g G I os p ks (mvO ⟨os, p.key, p.il, p.cc, p.pg, p.ad, bs, ks⟩ 144 I.n I.k (I.a os)) := by
  obtain ⟨u, hu⟩ : ∃ u, os.getD I.n 0 = u := ⟨_, rfl⟩
  have u0 := getD_in h.ro I.n
  rw [hu] at u0
  have hmk := mk4
  have HU := Lib.hid hu
  have HO := Lib.hid ho
  have R0 := Lib.hid h
  clear hu ho h
  refine R0.out.opn ?_
  intros
  go_enter Tryz.func29, Tryz.ntmps29
  go_upto_region 0 with fail
  refine wp_region_held_drew (S := Sx w0 g G I os p) (by kernel_rfl) R0.out.drew.x (fun hHeld => ?_)
  replace R0 := Lib.hid R0.out.drew
  repeat refine tkr ?_
  refine wpAnyH_done (by kernel_rfl) ?_ _
  refine R0.out.opn ?_
  clear hHeld
  intros
  go_upto_region 17 with (go_at_call 76; refine (rpf_c u u0 _ R0.out).mono ?_; rintro e w1 ⟨bb, cap, rfl, hW, hc0, hc1, hb⟩; have R1 := Lib.hid hW.rs; clear hW hc0 hc1 hb; refine R1.out.opn ?_; intros)
  go_wp2_with (go_at_call 78; refine nx (rsev_144 hout HO.out) ?_; intro w1 R1)
  first | go_end0 | refine bodyPost_ret (results_none rfl _ _ _) rfl ?_
  exact ⟨rfl, gd_stm R1.out⟩
end
end Go.Proofs.YthjdjbipfdigeaaGreat

namespace Go.Proofs.YthjdjbipfdigeaaGreat
open Go.RowKit
set_option maxRecDepth 100000
set_option linter.unusedVariables false
set_option linter.unusedSimpArgs false
section
variable {w0 w : World} {g : Nat} {G : Foot} {I : In} {os rs : List Int} {p q : Ps} {c : Int} {bs ks : List Int}
theorem gd_lm {A : Int} {n k : Nat} (hR : RS w0 w g G I os (lmR os n (ftB (atC 0 A 4) bs ks p.key A (4 * cnt n k)) (cnt n k)) p p (ftC (atC 0 A 4) bs ks p.key A ((4 * cnt n k : Nat) : Int)) bs ks) : Gd w0 w g G I os p ks (mvO ⟨os, p.key, p.il, p.cc, p.pg, p.ad, bs, ks⟩ 152 n k A) := by
  have e : mvO ⟨os, p.key, p.il, p.cc, p.pg, p.ad, bs, ks⟩ 152 n k A = if A % 4 = 0 then (if Pre.fc ⟨os, p.key, p.il, p.cc, p.pg, p.ad, bs, ks⟩ A ((4 * cnt n k : Nat) : Int) = 0 then Pre.rg ⟨os, p.key, p.il, p.cc, p.pg, p.ad, bs, ks⟩ (lmR os n (sGet bs A ((4 * cnt n k : Nat) : Int)) (cnt n k)) else Pre.no ⟨os, p.key, p.il, p.cc, p.pg, p.ad, bs, ks⟩ (Pre.fc ⟨os, p.key, p.il, p.cc, p.pg, p.ad, bs, ks⟩ A ((4 * cnt n k : Nat) : Int))) else Pre.no ⟨os, p.key, p.il, p.cc, p.pg, p.ad, bs, ks⟩ 6 := rfl
  rw [e]
  by_cases h0 : A % 4 = 0
  · rw [if_pos h0]
    have ea : atC 0 A 4 = 0 := if_neg (fun h => h.2 h0)
    have ef : ftC 0 bs ks p.key A ((4 * cnt n k : Nat) : Int) = Pre.fc ⟨os, p.key, p.il, p.cc, p.pg, p.ad, bs, ks⟩ A ((4 * cnt n k : Nat) : Int) := if_pos rfl
    rw [ea] at hR
    unfold ftB at hR
    rw [ef] at hR
    by_cases h1 : Pre.fc ⟨os, p.key, p.il, p.cc, p.pg, p.ad, bs, ks⟩ A ((4 * cnt n k : Nat) : Int) = 0
    · rw [if_pos h1]
      rw [h1, if_pos rfl] at hR
      exact gd_ok hR rfl rfl rfl rfl rfl
    · rw [if_neg h1]
      exact gd_no hR h1 rfl
  · rw [if_neg h0]
    have ea : atC 0 A 4 = 6 := if_pos ⟨rfl, h0⟩
    have ef : ftC 6 bs ks p.key A ((4 * cnt n k : Nat) : Int) = 6 := if_neg (by decide)
    rw [ea, ef] at hR
    exact gd_no hR (show (6 : Int) ≠ 0 by decide) rfl
set_option maxRecDepth 1000000 in
set_option maxHeartbeats 8000000 in
theorem rmv_152 (h : RS w0 w g G I os os p p 0 bs ks) (ho : I.op = 152) : Calls Tryz.prog 29 #[.pointer (some ⟨g, 0, none⟩)] w fun e w' => e = .returned (.tuple #[]) ∧ Gd w0 w' g G I os p ks (mvO ⟨os, p.key, p.il, p.cc, p.pg, p.ad, bs, ks⟩ 152 I.n I.k (I.a os)) := by
  obtain ⟨u, hu⟩ : ∃ u, os.getD I.n 0 = u := ⟨_, rfl⟩
  obtain ⟨v, hv⟩ : ∃ v, os.getD I.k 0 = v := ⟨_, rfl⟩
  have u0 := getD_in h.ro I.n
  have v0 := getD_in h.ro I.k
  rw [hu] at u0
  rw [hv] at v0
  have hmk := mk4
  have HU := Lib.hid hu
  have HV := Lib.hid hv
  have HO := Lib.hid ho
  have R0 := Lib.hid h
  clear hu hv ho h
  refine R0.out.opn ?_
  intros
  go_enter Tryz.func29, Tryz.ntmps29
  go_upto_region 0 with fail
  refine wp_region_held_drew (S := Sx w0 g G I os p) (by kernel_rfl) R0.out.drew.x (fun hHeld => ?_)
  replace R0 := Lib.hid R0.out.drew
  repeat refine tkr ?_
  refine wpAnyH_done (by kernel_rfl) ?_ _
  refine R0.out.opn ?_
  clear hHeld
  intros
  go_upto_region 17 with (go_at_call 76; refine (rpf_c u u0 _ R0.out).mono ?_; rintro e w1 ⟨bb, cap, rfl, hW, hc0, hc1, hb⟩; have R1 := Lib.hid hW.rs; clear hW hc0 hc1 hb; refine R1.out.opn ?_; intros)
  go_wp2_with (go_at_call 78; refine nx (rsev_152 hout HO.out) ?_; intro w1 R1)
  first | go_end0 | refine bodyPost_ret (results_none rfl _ _ _) rfl ?_
  exact ⟨rfl, gd_lm R1.out⟩
end
end Go.Proofs.YthjdjbipfdigeaaGreat

namespace Go.Proofs.YthjdjbipfdigeaaGreat
open Go.RowKit
set_option maxRecDepth 100000
set_option linter.unusedVariables false
set_option linter.unusedSimpArgs false
section
variable {w0 w : World} {g : Nat} {G : Foot} {I : In} {os rs : List Int} {p q : Ps} {c : Int} {bs ks : List Int}
set_option maxRecDepth 1000000 in
set_option maxHeartbeats 8000000 in
theorem rbr_5 (h : RS w0 w g G I os os p p 0 bs ks) (hk : p.ok) (ho : I.op = 5 ∨ I.op = 69) : Calls Tryz.prog 25 #[.pointer (some ⟨g, 0, none⟩)] w fun e w' => e = .returned (.tuple #[]) ∧ Gd w0 w' g G I os p ks (Pre.br ⟨os, p.key, p.il, p.cc, p.pg, p.ad, bs, ks⟩ (os.set I.n (p.il * 1073741824 + p.cc * 268435456 + p.pg * 16777216 + p.ad)) (tgB I) (tgV I os % 16777216)) := by
  obtain ⟨u, hu⟩ : ∃ u, os.getD I.n 0 = u := ⟨_, rfl⟩
  obtain ⟨v, hv⟩ : ∃ v, os.getD I.k 0 = v := ⟨_, rfl⟩
  have u0 := getD_in h.ro I.n
  have v0 := getD_in h.ro I.k
  rw [hu] at u0
  rw [hv] at v0
  obtain ⟨V, hV⟩ : ∃ V, tgV I os = V := ⟨_, rfl⟩
  obtain ⟨t, ht⟩ : ∃ t, tgB I = t := ⟨_, rfl⟩
  have V0 := tgV_in I h.ro
  rw [hV] at V0
  rw [hV, ht]
  have RT := Lib.hid (fun W q (hW : RS w0 W g G I os os p q 0 bs ks) => show Calls Tryz.prog 54 #[.pointer (some ⟨g, 0, none⟩)] W fun e w' => e = .returned (.tuple #[.int .i64 V, .bool t]) ∧ RS w0 w' g G I os os p q 0 bs ks from by have := rtarget_c hW; rw [hV, ht] at this; exact this)
  clear hV ht
  obtain ⟨l0, l1⟩ := hk.il
  obtain ⟨l2, l3⟩ := hk.cc
  obtain ⟨l4, l5⟩ := hk.pg
  obtain ⟨l6, l7⟩ := hk.ad
  have x1 : IntKind.u32.wrap p.il = p.il := lo32_id _ l0 (by omega)
  have x2 : IntKind.u32.wrap p.cc = p.cc := lo32_id _ l2 (by omega)
  have x3 : IntKind.u32.wrap p.pg = p.pg := lo32_id _ l4 (by omega)
  have x4 : IntKind.u32.wrap p.ad = p.ad := lo32_id _ l6 (by omega)
  have y1 : IntKind.u32.wrap (p.il * 1073741824) = p.il * 1073741824 := lo32_id _ (by omega) (by omega)
  have y2 : IntKind.u32.wrap (p.cc * 268435456) = p.cc * 268435456 := lo32_id _ (by omega) (by omega)
  have y3 : IntKind.u32.wrap (p.pg * 16777216) = p.pg * 16777216 := lo32_id _ (by omega) (by omega)
  have y4 : IntKind.u32.wrap (p.il * 1073741824 + p.cc * 268435456) = p.il * 1073741824 + p.cc * 268435456 := lo32_id _ (by omega) (by omega)
  have y5 : IntKind.u32.wrap (p.il * 1073741824 + p.cc * 268435456 + p.pg * 16777216) = p.il * 1073741824 + p.cc * 268435456 + p.pg * 16777216 := lo32_id _ (by omega) (by omega)
  have y6 : IntKind.u32.wrap (p.il * 1073741824 + p.cc * 268435456 + p.pg * 16777216 + p.ad) = p.il * 1073741824 + p.cc * 268435456 + p.pg * 16777216 + p.ad := lo32_id _ (by omega) (by omega)
  clear hk l0 l1 l2 l3 l4 l5 l6 l7
  rcases ho with ho | ho <;> cases t
  all_goals
    have HU := Lib.hid hu
    have HV := Lib.hid hv
    have HO := Lib.hid ho
    have R0 := Lib.hid h
    clear hu hv ho h
    go_enter Tryz.func25, Tryz.ntmps25
    go_upto_region 0 with fail
    refine wp_region_held_drew (S := Sx w0 g G I os p) (by kernel_rfl) R0.out.drew.x (fun hHeld => ?_)
    replace R0 := Lib.hid R0.out.drew
    repeat refine tkr ?_
    refine wpAnyH_done (by kernel_rfl) ?_ _
    refine R0.out.opn ?_
    clear hHeld
    intros
    go_upto_region 8 with (first
        | (go_at_call 54; refine nx (RT.out _ _ hout) fun w1 R1 => R1.out.opn ?_; intros))
    refine wp_region_held_drew (S := Sx w0 g G I os p) (by kernel_rfl) R1.out.drew.x (fun hHeld => ?_)
    replace R1 := Lib.hid R1.out.drew
    repeat refine tkr ?_
    have cS := R1.out.cr (n := I.n) (R1.out.ix.n)
    have fS := R1.out.fz
    refine tkw (R := fun w' => RS w0 w' g G I os (os.set I.n (p.il * 1073741824 + p.cc * 268435456 + p.pg * 16777216 + p.ad)) p p 0 bs ks) (R1.out.setr (R1.out.ix.n) _) (fun _ h => h.x) ?_
    clear cS fS R1 hHeld
    intro w1 R1 hHeld
    refine wpAnyH_done (by kernel_rfl) ?_ _
    refine R1.out.opn ?_
    clear hHeld
    intros
    go_wp2_with (first
        | (go_at_call 57; refine nx (rbranch_a hout _ (by omega) (by omega)) ?_; intro w1 R1))
    first | go_end0 | refine bodyPost_ret (results_none rfl _ _ _) rfl ?_
    exact ⟨rfl, gd_br (by first | exact hout | (simp only [Bool.and_true, Bool.and_false, Bool.true_and, Bool.false_and]; exact hout))⟩
end
end Go.Proofs.YthjdjbipfdigeaaGreat

namespace Go.Proofs.YthjdjbipfdigeaaGreat
open Go.RowKit
set_option maxRecDepth 100000
set_option linter.unusedVariables false
set_option linter.unusedSimpArgs false
section
variable {w0 w : World} {g : Nat} {G : Foot} {I : In} {os rs : List Int} {p q : Ps} {c : Int} {bs ks : List Int}
set_option maxRecDepth 1000000 in
set_option maxHeartbeats 8000000 in
theorem rbr_7 (h : RS w0 w g G I os os p p 0 bs ks) (ho : I.op = 7 ∨ I.op = 71) : Calls Tryz.prog 25 #[.pointer (some ⟨g, 0, none⟩)] w fun e w' => e = .returned (.tuple #[]) ∧ Gd w0 w' g G I os p ks (Pre.br ⟨os, p.key, p.il, p.cc, p.pg, p.ad, bs, ks⟩ os (pbr I.n p.cc && tgB I) (tgV I os % 16777216)) := by
  obtain ⟨u, hu⟩ : ∃ u, os.getD I.n 0 = u := ⟨_, rfl⟩
  obtain ⟨v, hv⟩ : ∃ v, os.getD I.k 0 = v := ⟨_, rfl⟩
  have u0 := getD_in h.ro I.n
  have v0 := getD_in h.ro I.k
  rw [hu] at u0
  rw [hv] at v0
  obtain ⟨V, hV⟩ : ∃ V, tgV I os = V := ⟨_, rfl⟩
  obtain ⟨t, ht⟩ : ∃ t, tgB I = t := ⟨_, rfl⟩
  have V0 := tgV_in I h.ro
  rw [hV] at V0
  rw [hV, ht]
  have RT := Lib.hid (fun W q (hW : RS w0 W g G I os os p q 0 bs ks) => show Calls Tryz.prog 54 #[.pointer (some ⟨g, 0, none⟩)] W fun e w' => e = .returned (.tuple #[.int .i64 V, .bool t]) ∧ RS w0 w' g G I os os p q 0 bs ks from by have := rtarget_c hW; rw [hV, ht] at this; exact this)
  clear hV ht
  rcases ho with ho | ho <;> cases t <;> cases hb : pbr I.n p.cc
  all_goals
    have HU := Lib.hid hu
    have HV := Lib.hid hv
    have HO := Lib.hid ho
    have R0 := Lib.hid h
    clear hu hv ho h
    go_enter Tryz.func25, Tryz.ntmps25
    go_upto_region 0 with fail
    refine wp_region_held_drew (S := Sx w0 g G I os p) (by kernel_rfl) R0.out.drew.x (fun hHeld => ?_)
    replace R0 := Lib.hid R0.out.drew
    repeat refine tkr ?_
    refine wpAnyH_done (by kernel_rfl) ?_ _
    refine R0.out.opn ?_
    clear hHeld
    intros
    go_upto_region 15 with (first
        | (go_at_call 54; refine nx (RT.out _ _ hout) fun w1 R1 => R1.out.opn ?_; intros))
    refine wp_region_held_drew (S := Sx w0 g G I os p) (by kernel_rfl) R1.out.drew.x (fun hHeld => ?_)
    replace R1 := Lib.hid R1.out.drew
    repeat first | refine tkr ?_ | refine tks ?_
    first
      | refine wpAnyH_done (by with_unfolding_all rfl) ?_ _
      | (refine tkc (v := .bool (pbr I.n p.cc)) (R := fun w' => RS w0 w' g G I os os p p 0 bs ks) ((rbranch_c _ _ _).mono (fun e w' hh => ⟨hh.1, R1.out.keep hh.2⟩)) (fun _ h => h.x) ?_
         clear hHeld R1
         intro w1 R1 hHeld
         try rw [hb]
         repeat first | refine tkr ?_ | refine tks ?_
         refine wpAnyH_done (by with_unfolding_all rfl) ?_ _)
    refine RS.opn (hout : RS w0 _ g G I os os p p 0 bs ks) ?_
    clear hHeld
    intros
    go_wp2_with (first
        | (go_at_call 57; refine nx (rbranch_a hout _ (by omega) (by omega)) ?_; intro w1 R1))
    first | go_end0 | refine bodyPost_ret (results_none rfl _ _ _) rfl ?_
    exact ⟨rfl, gd_br (by first | exact hout | (simp only [Bool.and_true, Bool.and_false, Bool.true_and, Bool.false_and]; exact hout))⟩
end
end Go.Proofs.YthjdjbipfdigeaaGreat

namespace Go.Proofs.YthjdjbipfdigeaaGreat
open Go.RowKit
set_option maxRecDepth 100000
set_option linter.unusedVariables false
set_option linter.unusedSimpArgs false
section
variable {w0 w : World} {g : Nat} {G : Foot} {I : In} {os rs : List Int} {p q : Ps} {c : Int} {bs ks : List Int}
set_option maxRecDepth 1000000 in
set_option maxHeartbeats 8000000 in
theorem rbr_134 (h : RS w0 w g G I os os p p 0 bs ks) (ho : I.op = 134) : Calls Tryz.prog 25 #[.pointer (some ⟨g, 0, none⟩)] w fun e w' => e = .returned (.tuple #[]) ∧ Gd w0 w' g G I os p ks (Pre.br ⟨os, p.key, p.il, p.cc, p.pg, p.ad, bs, ks⟩ (os.set I.n (lo32 (os.getD I.n 0 + os.getD I.k 0))) ((sgn (sg (lo32 (os.getD I.n 0 + os.getD I.k 0)) - sg (os.getD (I.k / 2 * 2 + 1) 0)) == 2)) (tgV I os % 16777216)) := by
  obtain ⟨u, hu⟩ : ∃ u, os.getD I.n 0 = u := ⟨_, rfl⟩
  obtain ⟨v, hv⟩ : ∃ v, os.getD I.k 0 = v := ⟨_, rfl⟩
  have u0 := getD_in h.ro I.n
  have v0 := getD_in h.ro I.k
  rw [hu] at u0 ⊢
  rw [hv] at v0 ⊢
  obtain ⟨V, hV⟩ : ∃ V, tgV I os = V := ⟨_, rfl⟩
  obtain ⟨t, ht⟩ : ∃ t, tgB I = t := ⟨_, rfl⟩
  have V0 := tgV_in I h.ro
  rw [hV] at V0
  rw [hV]
  have RT := Lib.hid (fun W q (hW : RS w0 W g G I os os p q 0 bs ks) => show Calls Tryz.prog 54 #[.pointer (some ⟨g, 0, none⟩)] W fun e w' => e = .returned (.tuple #[.int .i64 V, .bool t]) ∧ RS w0 w' g G I os os p q 0 bs ks from by have := rtarget_c hW; rw [hV, ht] at this; exact this)
  clear hV ht
  obtain ⟨m, hm⟩ : ∃ m, I.k / 2 * 2 + 1 = m := ⟨_, rfl⟩
  have m0 : m < 16 := by have := h.ix.k; omega
  obtain ⟨z, hz⟩ : ∃ z, os.getD m 0 = z := ⟨_, rfl⟩
  have z0 := getD_in h.ro m
  rw [hz] at z0
  rw [hm, hz]
  have HZ := Lib.hid hz
  have kb := h.ix.k
  have q1 : ((I.k : Int).tdiv 2) = (I.k : Int) / 2 := Int.tdiv_eq_ediv_of_nonneg (by omega)
  have q2 : (I.k : Int) / 2 * 2 + 1 = (m : Int) := by omega
  have q3 : IntKind.i64.wrap ((I.k : Int) / 2) = (I.k : Int) / 2 := wrap_i64_id (by omega) (by omega)
  have q4 : IntKind.i64.wrap ((I.k : Int) / 2 * 2) = (I.k : Int) / 2 * 2 := wrap_i64_id (by omega) (by omega)
  have q5 : IntKind.i64.wrap (m : Int) = (m : Int) := wrap_i64_id (by omega) (by omega)
  have m1 : (m : Int) < 16 := by omega
  obtain ⟨s, hs⟩ : ∃ s, lo32 (u + v) = s := ⟨_, rfl⟩
  have s0 : 0 ≤ s ∧ s ≤ 4294967295 := by rw [← hs]; exact ⟨lo32_lo _, lo32_hi _⟩
  have hs2 : IntKind.u32.wrap (u + v) = s := hs
  rw [hs]
  obtain ⟨y, hy⟩ : ∃ y, sgn (sg s - sg z) = y := ⟨_, rfl⟩
  rw [hy]
  have HC := Lib.hid (fun W => hy ▸ rcompare_c s z s0.1 s0.2 z0.1 z0.2 W)
  clear hs hy hm hz kb
  cases hb : (y == 2)
  all_goals
    have HU := Lib.hid hu
    have HV := Lib.hid hv
    have HO := Lib.hid ho
    have R0 := Lib.hid h
    clear hu hv ho h
    go_enter Tryz.func25, Tryz.ntmps25
    go_upto_region 0 with fail
    refine wp_region_held_drew (S := Sx w0 g G I os p) (by kernel_rfl) R0.out.drew.x (fun hHeld => ?_)
    replace R0 := Lib.hid R0.out.drew
    repeat refine tkr ?_
    refine wpAnyH_done (by kernel_rfl) ?_ _
    refine R0.out.opn ?_
    clear hHeld
    intros
    go_upto_region 18 with (first
        | (go_at_call 54; refine nx (RT.out _ _ hout) fun w1 R1 => R1.out.opn ?_; intros))
    refine wp_region_held_drew (S := Sx w0 g G I os p) (by kernel_rfl) R1.out.drew.x (fun hHeld => ?_)
    replace R1 := Lib.hid R1.out.drew
    repeat refine tkr ?_
    refine wpAnyH_done (by kernel_rfl) ?_ _
    refine R1.out.opn ?_
    clear hHeld
    intros
    go_upto_region 19 with fail
    refine wp_region_held_drew (S := Sx w0 g G I os p) (by kernel_rfl) R1.out.drew.x (fun hHeld => ?_)
    replace R1 := Lib.hid R1.out.drew
    repeat refine tkr ?_
    have cS := R1.out.cr (n := I.n) (R1.out.ix.n)
    have fS := R1.out.fz
    refine tkw (R := fun w' => RS w0 w' g G I os (os.set I.n s) p p 0 bs ks) (R1.out.setr (R1.out.ix.n) _) (fun _ h => h.x) ?_
    clear cS fS R1 hHeld
    intro w1 R1 hHeld
    refine wpAnyH_done (by kernel_rfl) ?_ _
    refine R1.out.opn ?_
    clear hHeld
    intros
    go_upto_region 20 with fail
    refine wp_region_held_drew (S := Sx w0 g G I os p) (by kernel_rfl) R1.out.drew.x (fun hHeld => ?_)
    replace R1 := Lib.hid R1.out.drew
    repeat refine tkr ?_
    refine tkn ?_ (y := by (intro w hSw; obtain ⟨_, _, _, _, _, hx⟩ := hSw; have hz := hx.co m0; rw [HZ.out] at hz; go_simp; (try with_reducible rfl)))
    repeat refine tkr ?_
    refine tkc (v := .int .i64 y) (R := fun w' => RS w0 w' g G I os (os.set I.n s) p p 0 bs ks) ((HC.out _).mono (fun e w' hh => ⟨hh.1, hh.2 ▸ R1.out⟩)) (fun _ h => h.x) ?_
    clear hHeld R1
    intro w1 R1 hHeld
    repeat refine tkr ?_
    refine wpAnyH_done (by with_unfolding_all rfl) ?_ _
    refine R1.out.opn ?_
    clear hHeld
    intros
    go_wp2_with (first
        | (go_at_call 57; refine nx (rbranch_a hout _ (by omega) (by omega)) ?_; intro w1 R1))
    first | go_end0 | refine bodyPost_ret (results_none rfl _ _ _) rfl ?_
    exact ⟨rfl, gd_br (by first | exact hout | (simp only [Bool.not_true, Bool.not_false]; exact hout))⟩
end
end Go.Proofs.YthjdjbipfdigeaaGreat

namespace Go.Proofs.YthjdjbipfdigeaaGreat
open Go.RowKit
set_option maxRecDepth 100000
set_option linter.unusedVariables false
set_option linter.unusedSimpArgs false
section
variable {w0 w : World} {g : Nat} {G : Foot} {I : In} {os rs : List Int} {p q : Ps} {c : Int} {bs ks : List Int}
set_option maxRecDepth 1000000 in
set_option maxHeartbeats 8000000 in
theorem rbr_135 (h : RS w0 w g G I os os p p 0 bs ks) (ho : I.op = 135) : Calls Tryz.prog 25 #[.pointer (some ⟨g, 0, none⟩)] w fun e w' => e = .returned (.tuple #[]) ∧ Gd w0 w' g G I os p ks (Pre.br ⟨os, p.key, p.il, p.cc, p.pg, p.ad, bs, ks⟩ (os.set I.n (lo32 (os.getD I.n 0 + os.getD I.k 0))) (!(sgn (sg (lo32 (os.getD I.n 0 + os.getD I.k 0)) - sg (os.getD (I.k / 2 * 2 + 1) 0)) == 2)) (tgV I os % 16777216)) := by
  obtain ⟨u, hu⟩ : ∃ u, os.getD I.n 0 = u := ⟨_, rfl⟩
  obtain ⟨v, hv⟩ : ∃ v, os.getD I.k 0 = v := ⟨_, rfl⟩
  have u0 := getD_in h.ro I.n
  have v0 := getD_in h.ro I.k
  rw [hu] at u0 ⊢
  rw [hv] at v0 ⊢
  obtain ⟨V, hV⟩ : ∃ V, tgV I os = V := ⟨_, rfl⟩
  obtain ⟨t, ht⟩ : ∃ t, tgB I = t := ⟨_, rfl⟩
  have V0 := tgV_in I h.ro
  rw [hV] at V0
  rw [hV]
  have RT := Lib.hid (fun W q (hW : RS w0 W g G I os os p q 0 bs ks) => show Calls Tryz.prog 54 #[.pointer (some ⟨g, 0, none⟩)] W fun e w' => e = .returned (.tuple #[.int .i64 V, .bool t]) ∧ RS w0 w' g G I os os p q 0 bs ks from by have := rtarget_c hW; rw [hV, ht] at this; exact this)
  clear hV ht
  obtain ⟨m, hm⟩ : ∃ m, I.k / 2 * 2 + 1 = m := ⟨_, rfl⟩
  have m0 : m < 16 := by have := h.ix.k; omega
  obtain ⟨z, hz⟩ : ∃ z, os.getD m 0 = z := ⟨_, rfl⟩
  have z0 := getD_in h.ro m
  rw [hz] at z0
  rw [hm, hz]
  have HZ := Lib.hid hz
  have kb := h.ix.k
  have q1 : ((I.k : Int).tdiv 2) = (I.k : Int) / 2 := Int.tdiv_eq_ediv_of_nonneg (by omega)
  have q2 : (I.k : Int) / 2 * 2 + 1 = (m : Int) := by omega
  have q3 : IntKind.i64.wrap ((I.k : Int) / 2) = (I.k : Int) / 2 := wrap_i64_id (by omega) (by omega)
  have q4 : IntKind.i64.wrap ((I.k : Int) / 2 * 2) = (I.k : Int) / 2 * 2 := wrap_i64_id (by omega) (by omega)
  have q5 : IntKind.i64.wrap (m : Int) = (m : Int) := wrap_i64_id (by omega) (by omega)
  have m1 : (m : Int) < 16 := by omega
  obtain ⟨s, hs⟩ : ∃ s, lo32 (u + v) = s := ⟨_, rfl⟩
  have s0 : 0 ≤ s ∧ s ≤ 4294967295 := by rw [← hs]; exact ⟨lo32_lo _, lo32_hi _⟩
  have hs2 : IntKind.u32.wrap (u + v) = s := hs
  rw [hs]
  obtain ⟨y, hy⟩ : ∃ y, sgn (sg s - sg z) = y := ⟨_, rfl⟩
  rw [hy]
  have HC := Lib.hid (fun W => hy ▸ rcompare_c s z s0.1 s0.2 z0.1 z0.2 W)
  clear hs hy hm hz kb
  cases hb : (y == 2)
  all_goals
    have HU := Lib.hid hu
    have HV := Lib.hid hv
    have HO := Lib.hid ho
    have R0 := Lib.hid h
    clear hu hv ho h
    go_enter Tryz.func25, Tryz.ntmps25
    go_upto_region 0 with fail
    refine wp_region_held_drew (S := Sx w0 g G I os p) (by kernel_rfl) R0.out.drew.x (fun hHeld => ?_)
    replace R0 := Lib.hid R0.out.drew
    repeat refine tkr ?_
    refine wpAnyH_done (by kernel_rfl) ?_ _
    refine R0.out.opn ?_
    clear hHeld
    intros
    go_upto_region 18 with (first
        | (go_at_call 54; refine nx (RT.out _ _ hout) fun w1 R1 => R1.out.opn ?_; intros))
    refine wp_region_held_drew (S := Sx w0 g G I os p) (by kernel_rfl) R1.out.drew.x (fun hHeld => ?_)
    replace R1 := Lib.hid R1.out.drew
    repeat refine tkr ?_
    refine wpAnyH_done (by kernel_rfl) ?_ _
    refine R1.out.opn ?_
    clear hHeld
    intros
    go_upto_region 19 with fail
    refine wp_region_held_drew (S := Sx w0 g G I os p) (by kernel_rfl) R1.out.drew.x (fun hHeld => ?_)
    replace R1 := Lib.hid R1.out.drew
    repeat refine tkr ?_
    have cS := R1.out.cr (n := I.n) (R1.out.ix.n)
    have fS := R1.out.fz
    refine tkw (R := fun w' => RS w0 w' g G I os (os.set I.n s) p p 0 bs ks) (R1.out.setr (R1.out.ix.n) _) (fun _ h => h.x) ?_
    clear cS fS R1 hHeld
    intro w1 R1 hHeld
    refine wpAnyH_done (by kernel_rfl) ?_ _
    refine R1.out.opn ?_
    clear hHeld
    intros
    go_upto_region 20 with fail
    refine wp_region_held_drew (S := Sx w0 g G I os p) (by kernel_rfl) R1.out.drew.x (fun hHeld => ?_)
    replace R1 := Lib.hid R1.out.drew
    repeat refine tkr ?_
    refine tkn ?_ (y := by (intro w hSw; obtain ⟨_, _, _, _, _, hx⟩ := hSw; have hz := hx.co m0; rw [HZ.out] at hz; go_simp; (try with_reducible rfl)))
    repeat refine tkr ?_
    refine tkc (v := .int .i64 y) (R := fun w' => RS w0 w' g G I os (os.set I.n s) p p 0 bs ks) ((HC.out _).mono (fun e w' hh => ⟨hh.1, hh.2 ▸ R1.out⟩)) (fun _ h => h.x) ?_
    clear hHeld R1
    intro w1 R1 hHeld
    repeat refine tkr ?_
    refine wpAnyH_done (by with_unfolding_all rfl) ?_ _
    refine R1.out.opn ?_
    clear hHeld
    intros
    go_wp2_with (first
        | (go_at_call 57; refine nx (rbranch_a hout _ (by omega) (by omega)) ?_; intro w1 R1))
    first | go_end0 | refine bodyPost_ret (results_none rfl _ _ _) rfl ?_
    exact ⟨rfl, gd_br (by first | exact hout | (simp only [Bool.not_true, Bool.not_false]; exact hout))⟩
end
end Go.Proofs.YthjdjbipfdigeaaGreat

