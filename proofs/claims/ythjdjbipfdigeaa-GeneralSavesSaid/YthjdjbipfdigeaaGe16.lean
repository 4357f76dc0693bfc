/- CONTRACT of move on LM. Conditions: the machine's form; the storage may be fetched. -/
import Derived.Test.YthjdjbipfdigeaaGe15
import Derived.Test.YthjdjbipfdigeaaWdG
namespace Go.Proofs.Ythjdjbipfdigeaa
open Go.RowKit
set_option maxRecDepth 100000
set_option linter.unusedVariables false
set_option linter.unusedSimpArgs false
def lmR (rs : List Int) (n : Nat) (zs : List Int) : Nat → List Int
  | 0 => rs
  | k + 1 => (lmR rs n zs k).set ((n + k) % 16) (flv (zs.getD (4 * k) 0) (zs.getD (4 * k + 1) 0) (zs.getD (4 * k + 2) 0) (zs.getD (4 * k + 3) 0))
theorem cell_ch {w w' : World} {L : List Nat} (h : Ch w w' L) {b c : Nat} (hb : b < w.heap.size) (hL : b ∉ L) : w'.cell? ⟨b, c, none⟩ = w.cell? ⟨b, c, none⟩ := by
  unfold World.cell?; simp only [h.block b hb hL]
theorem sGet_len {al : Int → Bool} {bs ks : List Int} {a : Int} {n : Nat} (h : sCode al bs.length ks a (n : Int) = 0) : (sGet bs a (n : Int)).length = n := by
  have h0 := sCode_zero h
  obtain ⟨h1, h2, h3, h4⟩ := sIn_yes h0
  unfold sGet; rw [if_pos h0]; simp; omega
set_option maxRecDepth 1000000 in
set_option maxHeartbeats 4000000 in
theorem move_lm (g n m : Nat) (F : Foot) (is os rs : List Int) (ps : List Value) (ov : Bool) (bs ks : List Int) (key a : Int) (w : World) (h : MS w g F is os rs ps ov bs ks) (h0 : is.getD 0 0 = 152) (hn : is.getD 2 0 = (n : Int)) (hn16 : n < 16) (hk : is.getD 3 0 = (m : Int)) (hk16 : m < 16) (hkey : ps.getD 1 undef = .int .i64 key) (hsec : ∀ W, MS W g F is os rs ps ov bs ks → Calls Try.prog 44 #[.pointer (some ⟨g, 0, none⟩)] W fun e w' => e = .returned (.int .i64 a) ∧ Ch W w' []) (ha0 : 0 ≤ a) (ha1 : a ≤ 16777215) (ha : a % 4 = 0) (hc : sCode (alF key) bs.length ks a ((4 * ((m + 16 - n) % 16 + 1) : Nat) : Int) = 0) : Calls Try.prog 45 #[.pointer (some ⟨g, 0, none⟩)] w fun e w' => e = .returned (.tuple #[]) ∧ MS w' g F is os (lmR rs n (sGet bs a ((4 * ((m + 16 - n) % 16 + 1) : Nat) : Int)) ((m + 16 - n) % 16 + 1)) ps ov bs ks ∧ Ch w w' [g] := by
  have c0 := h.m.ci (c := 0) (by omega)
  rw [h0] at c0
  have c2 := h.m.ci (c := 2) (by omega)
  rw [hn] at c2
  have c4 := h.m.co hn16
  have i0 : (n : Int) < 16 := by omega
  have i1 : (0 : Int) ≤ (n : Int) := by omega
  obtain ⟨C, hC⟩ : ∃ C, (m + 16 - n) % 16 + 1 = C := ⟨_, rfl⟩
  have hC16 : C ≤ 16 := by omega
  have hC1 : 1 ≤ C := by omega
  have CM := Lib.hid (fun (W : World) (rs' : List Int) (h : Mc W g is os rs' ps (.pointer (some ⟨F.g, 0, none⟩)) ov) => count_m g n m is os rs' ps _ ov W h hn hn16 hk hk16)
  simp only [hC] at CM hc ⊢
  have hzl := sGet_len hc
  obtain ⟨zs, hzs⟩ : ∃ zs, sGet bs a ((4 * C : Nat) : Int) = zs := ⟨_, rfl⟩
  rw [hzs] at hzl ⊢
  have HZ := Lib.hid hzs
  have HZL := Lib.hid hzl
  have HM := Lib.hid h
  have HN := Lib.hid hn
  have SC := Lib.hid hsec
  have HK := Lib.hid hkey
  have HC := Lib.hid hc
  have hm4 : IntKind.i64.wrap (4 * (C : Int)) = ((4 * C : Nat) : Int) := by rw [wrap_i64_id (by omega) (by omega)]; omega
  clear h h0 hn hk hkey hsec hc hC hzs hzl
  go_enter Try.func45, Try.ntmps45
  go_upto_region 0 with fail
  go_region
  have M0 := Lib.hid (show MS w.drew g F is os rs ps ov bs ks from HM.out.drewN 1)
  have C0 := Lib.hid (show Ch w w.drew [g] from (Ch.refl w [g]).drewN 1)
  obtain ⟨W0, hW0⟩ : ∃ W0, w.drew = W0 := ⟨_, rfl⟩
  have k0 : W0.cell? ⟨g, 0, none⟩ = some (.int .i64 152) := by rw [← hW0]; exact c0
  rw [hW0] at M0 C0
  rw [hW0]
  clear hW0 c0 c2 c4 HM
  go_upto_region 20 with (first
    | (go_at_call 66; refine (aligned_m g a 4 _ (SC.out _ M0.out) (.inr rfl) ha0 ha1 ha).mono ?_; rintro e wa ⟨rfl, hca⟩; have Ma := Lib.hid (M0.out.ch hca); have Ca := Lib.hid (C0.out.trans (hca.mono (by simp))); clear hca)
    | (go_at_call 69; refine (CM.out _ _ Ma.out.m).mono ?_; rintro e wb ⟨rfl, db, hwb⟩; have Mb := Lib.hid (show MS wb g F is os rs ps ov bs ks from by rw [hwb]; exact Ma.out.drewN db); have Cb := Lib.hid (show Ch w wb [g] from by rw [hwb]; exact Ca.out.drewN db); clear hwb)
    | (go_at_call 68; refine (fetch_m g F is os rs ps ov bs ks a ((4 * C : Nat) : Int) key _ Mb.out HK.out HC.out).mono ?_; rintro e W1 ⟨A, mm, cb, rfl, hO, hM, hCh⟩; rw [HZ.out] at hO; have M1 := Lib.hid hM; have C1 := Lib.hid (Cb.out.trans (hCh.mono (by simp))); have hml : mm = 4 * C := by have := hO.byt.1; have := HZL.out; omega
       have hlt1 := Mb.out.m.lt; subst hml; obtain ⟨gb, cb', hv, hgb, hgl, -, -⟩ := hO.pos (by omega); injection hv with hv1 hv2 hv3; subst hv1 hv3; have Y1 := Lib.hid hO.byt; have HGB := Lib.hid (And.intro (show gb ≠ g by omega) hgl); clear hO hM hCh hgb hgl hlt1))
  clear Ma Ca Mb Cb M0 C0 k0
  go_loopw [6] (fun x W => ∃ k : Nat, k ≤ C ∧ x = .int .i64 (k : Int) ∧ MS W g F is os (lmR rs n zs k) ps ov bs ks ∧ Ch W1 W [g]) (fun x _ => C - (intOf x).toNat)
  case atStart => exact ⟨0, by omega, rfl, M1.out, Ch.refl _ _⟩
  case round =>
    obtain ⟨k, hk, rfl, hmw, hcw⟩ := hrel
    have MW := Lib.hid hmw
    have CW := Lib.hid hcw
    clear hmw hcw
    by_cases hlt : k < C
    · have hI : (k : Int) < (C : Int) := by omega
      obtain ⟨q, hq⟩ : ∃ q, (n + k) % 16 = q := ⟨_, rfl⟩
      have hm16 : q < 16 := by omega
      have hrem : ((n : Int) + (k : Int)) % 16 = (q : Int) := by omega
      have hr1 : (0 : Int) ≤ (n : Int) + (k : Int) := by omega
      have hwr : IntKind.i64.wrap ((n : Int) + (k : Int)) = (n : Int) + (k : Int) := wrap_i64_id (by omega) (by omega)
      have hrem2 : ((n : Int) + (k : Int)).tmod 16 = (q : Int) := by rw [Int.tmod_eq_emod_of_nonneg hr1]; exact hrem
      have hmul : IntKind.i64.wrap (4 * (k : Int)) = ((4 * k : Nat) : Int) := by rw [wrap_i64_id (by omega) (by omega)]; omega
      have hr3 : (q : Int) < 16 := by omega
      have hr4 : (0 : Int) ≤ (q : Int) := by omega
      have HQ := Lib.hid hq
      clear hq
      have CL := Lib.hid (lmR.eq_2 rs n zs k)
      obtain ⟨gb', ob', e', hcell⟩ := Y1.out.at_ (by omega)
      cases e'
      have y0' := hcell (4 * k) (by omega)
      have y1' := hcell (4 * k + 1) (by omega)
      have y2' := hcell (4 * k + 2) (by omega)
      have y3' := hcell (4 * k + 3) (by omega)
      have r0 := Y1.out.range (4 * k)
      have r1 := Y1.out.range (4 * k + 1)
      have r2 := Y1.out.range (4 * k + 2)
      have r3 := Y1.out.range (4 * k + 3)
      obtain ⟨x0, hx0⟩ : ∃ x, zs.getD (4 * k) 0 = x := ⟨_, rfl⟩
      obtain ⟨x1, hx1⟩ : ∃ x, zs.getD (4 * k + 1) 0 = x := ⟨_, rfl⟩
      obtain ⟨x2, hx2⟩ : ∃ x, zs.getD (4 * k + 2) 0 = x := ⟨_, rfl⟩
      obtain ⟨x3, hx3⟩ : ∃ x, zs.getD (4 * k + 3) 0 = x := ⟨_, rfl⟩
      rw [hx0] at y0' r0
      rw [hx1] at y1' r1
      rw [hx2] at y2' r2
      rw [hx3] at y3' r3
      have CL2 := Lib.hid (show lmR rs n zs (k + 1) = (lmR rs n zs k).set q (flv x0 x1 x2 x3) from by rw [CL.out, HQ.out, hx0, hx1, hx2, hx3])
      clear hx0 hx1 hx2 hx3 hcell CL HQ
      go_upto_region 22 with (go_at_call 69; refine (CM.out _ _ MW.out.m).mono ?_; rintro e w3 ⟨rfl, d3, hw3⟩; have M3 := Lib.hid (show MS w3 g F is os (lmR rs n zs k) ps ov bs ks from by rw [hw3]; exact MW.out.drewN d3); have C3 := Lib.hid (show Ch W1 w3 [g] from by rw [hw3]; exact CW.out.drewN d3); clear hw3)
      have y0 : w3.drew.cell? ⟨gb, 0 + 4 * k, none⟩ = some (.int .u8 x0) := (cell_ch (C3.out.drewN 1) HGB.out.2 (by simp; exact HGB.out.1)).trans y0'
      have y1 : w3.drew.cell? ⟨gb, 0 + (4 * k + 1), none⟩ = some (.int .u8 x1) := (cell_ch (C3.out.drewN 1) HGB.out.2 (by simp; exact HGB.out.1)).trans y1'
      have y2 : w3.drew.cell? ⟨gb, 0 + (4 * k + 2), none⟩ = some (.int .u8 x2) := (cell_ch (C3.out.drewN 1) HGB.out.2 (by simp; exact HGB.out.1)).trans y2'
      have y3 : w3.drew.cell? ⟨gb, 0 + (4 * k + 3), none⟩ = some (.int .u8 x3) := (cell_ch (C3.out.drewN 1) HGB.out.2 (by simp; exact HGB.out.1)).trans y3'
      clear y0' y1' y2' y3'
      refine wp_region_held_drew (S := (fun w' => (∃ rs', Mc w' g is os rs' ps (.pointer (some ⟨F.g, 0, none⟩)) ov) ∧ Ch W1 w' [g])) (by kernel_rfl) ?_ (fun hHeld => ?_)
      · (try dsimp only); exact ⟨⟨_, M3.out.m.drewN 1⟩, C3.out.drewN 1⟩
      refine' takeL (i := 0) (v := _) rfl (by kernel_rfl) (by kernel_rfl) (by kernel_rfl) (fun _ _ _ h => h) (Or.inl ⟨by rfl, ?yy29⟩) (by assumption) ?rr29
      case yy29 => intro w hSw; (try dsimp only at hSw); go_simp; (try with_reducible rfl)
      try simp only [Act.put, List.setIfInBounds_toArray, List.set_cons_zero, List.set_cons_succ]
      refine' takeL (i := 1) (v := _) rfl (by kernel_rfl) (by kernel_rfl) (by kernel_rfl) (fun _ _ _ h => h) (Or.inl ⟨by rfl, ?yy30⟩) (by assumption) ?rr30
      case yy30 => intro w hSw; (try dsimp only at hSw); go_simp; (try with_reducible rfl)
      try simp only [Act.put, List.setIfInBounds_toArray, List.set_cons_zero, List.set_cons_succ]
      refine' takeL (i := 2) (v := _) rfl (by kernel_rfl) (by kernel_rfl) (by kernel_rfl) (fun _ _ _ h => h) (Or.inl ⟨by rfl, ?yy31⟩) (by assumption) ?rr31
      case yy31 => intro w hSw; (try dsimp only at hSw); go_simp; (try with_reducible rfl)
      try simp only [Act.put, List.setIfInBounds_toArray, List.set_cons_zero, List.set_cons_succ]
      refine' takeL (i := 3) (v := _) rfl (by kernel_rfl) (by kernel_rfl) (by kernel_rfl) (fun _ _ _ h => h) (Or.inl ⟨by rfl, ?yy32⟩) (by assumption) ?rr32
      case yy32 => intro w hSw; (try dsimp only at hSw); go_simp; (try with_reducible rfl)
      try simp only [Act.put, List.setIfInBounds_toArray, List.set_cons_zero, List.set_cons_succ]
      refine' takeL (i := 4) (v := _) rfl (by kernel_rfl) (by kernel_rfl) (by kernel_rfl) (fun _ _ _ h => h) (Or.inl ⟨by rfl, ?yy33⟩) (by assumption) ?rr33
      case yy33 => intro w hSw; (try dsimp only at hSw); go_simp; (try with_reducible rfl)
      try simp only [Act.put, List.setIfInBounds_toArray, List.set_cons_zero, List.set_cons_succ]
      refine' takeL (i := 5) (v := .int .i64 (n : Int)) rfl (by kernel_rfl) (by kernel_rfl) (by kernel_rfl) (fun _ _ _ h => h) (Or.inl ⟨by rfl, ?yy34⟩) (by assumption) ?rr34
      case yy34 => intro w hSw; (try dsimp only at hSw); obtain ⟨⟨rs', hx⟩, -⟩ := hSw; have hq := hx.ci (c := 2) (by omega); rw [HN.out] at hq; go_simp; (try with_reducible rfl)
      try simp only [Act.put, List.setIfInBounds_toArray, List.set_cons_zero, List.set_cons_succ]
      refine' takeL (i := 6) (v := _) rfl (by kernel_rfl) (by kernel_rfl) (by kernel_rfl) (fun _ _ _ h => h) (Or.inl ⟨by rfl, ?yy35⟩) (by assumption) ?rr35
      case yy35 => intro w hSw; (try dsimp only at hSw); go_simp; (try with_reducible rfl)
      try simp only [Act.put, List.setIfInBounds_toArray, List.set_cons_zero, List.set_cons_succ]
      refine' takeL (i := 7) (v := .int .i64 ((n : Int) + (k : Int))) rfl (by kernel_rfl) (by kernel_rfl) (by kernel_rfl) (fun _ _ _ h => h) (Or.inl ⟨by rfl, ?yy36⟩) (by assumption) ?rr36
      case yy36 => intro w hSw; (try dsimp only at hSw); have e := hwr; go_simp; (try with_reducible rfl)
      try simp only [Act.put, List.setIfInBounds_toArray, List.set_cons_zero, List.set_cons_succ]
      refine' takeL (i := 8) (v := .int .i64 (q : Int)) rfl (by kernel_rfl) (by kernel_rfl) (by kernel_rfl) (fun _ _ _ h => h) (Or.inl ⟨by rfl, ?yy37⟩) (by assumption) ?rr37
      case yy37 => intro w hSw; (try dsimp only at hSw); have e := hrem2; go_simp; (try with_reducible rfl)
      try simp only [Act.put, List.setIfInBounds_toArray, List.set_cons_zero, List.set_cons_succ]
      refine' takeL (i := 9) (v := _) rfl (by kernel_rfl) (by kernel_rfl) (by kernel_rfl) (fun _ _ _ h => h) (Or.inl ⟨by rfl, ?yy38⟩) (by assumption) ?rr38
      case yy38 => intro w hSw; (try dsimp only at hSw); go_simp; (try with_reducible rfl)
      try simp only [Act.put, List.setIfInBounds_toArray, List.set_cons_zero, List.set_cons_succ]
      refine' takeL (i := 10) (v := _) rfl (by kernel_rfl) (by kernel_rfl) (by kernel_rfl) (fun _ _ _ h => h) (Or.inl ⟨by rfl, ?yy39⟩) (by assumption) ?rr39
      case yy39 => intro w hSw; (try dsimp only at hSw); go_simp; (try with_reducible rfl)
      try simp only [Act.put, List.setIfInBounds_toArray, List.set_cons_zero, List.set_cons_succ]
      refine' takeL (i := 11) (v := .int .i64 ((4 * k : Nat) : Int)) rfl (by kernel_rfl) (by kernel_rfl) (by kernel_rfl) (fun _ _ _ h => h) (Or.inl ⟨by rfl, ?yy40⟩) (by assumption) ?rr40
      case yy40 => intro w hSw; (try dsimp only at hSw); have e := hmul; go_simp; (try with_reducible rfl)
      try simp only [Act.put, List.setIfInBounds_toArray, List.set_cons_zero, List.set_cons_succ]
      refine' takeL (i := 16) (v := _) rfl (by kernel_rfl) (by kernel_rfl) (by kernel_rfl) (fun _ _ _ h => h) (Or.inl ⟨by rfl, ?yy41⟩) (by assumption) ?rr41
      case yy41 => intro w hSw; (try dsimp only at hSw); go_simp; (try with_reducible rfl)
      try simp only [Act.put, List.setIfInBounds_toArray, List.set_cons_zero, List.set_cons_succ]
      refine' takeL (i := 17) (v := _) rfl (by kernel_rfl) (by kernel_rfl) (by kernel_rfl) (fun _ _ _ h => h) (Or.inl ⟨by rfl, ?yy42⟩) (by assumption) ?rr42
      case yy42 => intro w hSw; (try dsimp only at hSw); go_simp; (try with_reducible rfl)
      try simp only [Act.put, List.setIfInBounds_toArray, List.set_cons_zero, List.set_cons_succ]
      refine wpAnyH_ready (rs := [12]) (by kernel_rfl) (by simp) ?_
      refine consL rfl (fun K hK => ?_) AllReadyH.nil
      go_simp
      go_at_call 70
      refine (full_yes gb 0 (4 * C) cb (4 * k) x0 x1 x2 x3 w3.drew (by omega) (by omega) (y0) (y1) (y2) (y3) r0.1 r0.2 r1.1 r1.2 r2.1 r2.2 r3.1 r3.2).mono ?_
      rintro e w5 ⟨rfl, d5, hw5⟩
      have M5 := Lib.hid (show MS w5 g F is os (lmR rs n zs k) ps ov bs ks from by rw [hw5]; exact (M3.out.drewN 1).drewN d5)
      have C5 := Lib.hid (show Ch W1 w5 [g] from by rw [hw5]; exact (C3.out.drewN 1).drewN d5)
      have c3 := M5.out.m.cr hm16
      have f3 := M5.out.m.free (28 + q)
      clear hw5 hHeld
      go_wp2_with fail
      refine hK.out _ _ ?_ (fun hHeld => ?_)
      · (try dsimp only); exact ⟨⟨_, M5.out.m⟩, C5.out⟩
      clear hK K
      try simp only [Act.put, List.setIfInBounds_toArray, List.set_cons_zero, List.set_cons_succ]
      refine' takeL (i := 13) (v := _) rfl (by kernel_rfl) (by kernel_rfl) (by kernel_rfl) (fun _ _ _ h => h) (Or.inl ⟨by rfl, ?yy43⟩) (by assumption) ?rr43
      case yy43 => intro w hSw; (try dsimp only at hSw); go_simp; (try with_reducible rfl)
      try simp only [Act.put, List.setIfInBounds_toArray, List.set_cons_zero, List.set_cons_succ]
      refine' takeL (i := 14) (v := _) rfl (by kernel_rfl) (by kernel_rfl) (by kernel_rfl) (fun _ _ _ h => h) (Or.inl ⟨by rfl, ?yy44⟩) (by assumption) ?rr44
      case yy44 => intro w hSw; (try dsimp only at hSw); go_simp; (try with_reducible rfl)
      try simp only [Act.put, List.setIfInBounds_toArray, List.set_cons_zero, List.set_cons_succ]
      refine' takeL (i := 15) (v := _) rfl (by kernel_rfl) (by kernel_rfl) (by kernel_rfl) (fun _ _ _ h => h) (Or.inl ⟨by rfl, ?yy45⟩) (by assumption) ?rr45
      case yy45 => intro w hSw; (try dsimp only at hSw); go_simp; (try with_reducible rfl)
      try simp only [Act.put, List.setIfInBounds_toArray, List.set_cons_zero, List.set_cons_succ]
      refine' takeL (i := 18) (v := _) rfl (by kernel_rfl) (by kernel_rfl) (by kernel_rfl) (fun _ _ _ h => h) (Or.inl ⟨by rfl, ?yy46⟩) (by assumption) ?rr46
      case yy46 => intro w hSw; (try dsimp only at hSw); go_simp; (try with_reducible rfl)
      try simp only [Act.put, List.setIfInBounds_toArray, List.set_cons_zero, List.set_cons_succ]
      refine wpAnyH_ready (rs := [19]) (by kernel_rfl) (by simp) ?_
      refine consL rfl (fun K hK => ?_) AllReadyH.nil
      go_simp
      refine hK.out _ _ ?_ (fun hHeld => ?_)
      · (try dsimp only); exact ⟨⟨_, M5.out.m.setr hm16 _⟩, C5.out.setCell (by simp) _⟩
      clear hK K
      try simp only [Act.put, List.setIfInBounds_toArray, List.set_cons_zero, List.set_cons_succ]
      refine wpAnyH_done (by kernel_rfl) ?_ _
      go_wp2
      refine ⟨⟨k + 1, by omega, rfl, ?_, C5.out.setCell (by simp) _⟩, by simp [intOf]; omega⟩
      rw [CL2.out]
      exact M5.out.set_ (M5.out.m.setr hm16 _) ((Ch.refl _ _).setCell (by simp) _)
    · obtain rfl : k = C := by omega
      have hI : ¬ (k : Int) < (k : Int) := by omega
      go_wp2_with (go_at_call 69; refine (CM.out _ _ MW.out.m).mono ?_; rintro e w3 ⟨rfl, d3, hw3⟩; have M3 := Lib.hid (show MS w3 g F is os (lmR rs n zs k) ps ov bs ks from by rw [hw3]; exact MW.out.drewN d3); have C3 := Lib.hid (show Ch W1 w3 [g] from by rw [hw3]; exact CW.out.drewN d3); clear hw3)
      first | go_end0 | refine bodyPost_ret (results_none rfl _ _ _) rfl ?_
      exact ⟨rfl, M3.out, C1.out.trans C3.out⟩
end Go.Proofs.Ythjdjbipfdigeaa
