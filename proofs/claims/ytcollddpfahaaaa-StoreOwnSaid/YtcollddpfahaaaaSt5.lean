/- CONTRACTS of package store and its reference: the reference's Put, Fetch, Clear; Clear. No conditions but that the storage reads as one. -/
import Derived.Test.YtcollddpfahaaaaSt4
import Derived.StillTailTactics
import Derived.Test.YtcollddpfahaaaaKp
import Derived.Lib.Hide
import Derived.Outline
import Derived.Handy
import Derived.BigQuiet
import Derived.Deep.QuietTactic
namespace Go.Proofs.Ytcollddpfahaaaa
open Go.RowKit
set_option linter.unusedVariables false
set_option linter.unusedSimpArgs false

/-- the bytes behind a Put, behind a Clear; what a Fetch returns -/
def sPut (al : Int → Bool) (bs ks : List Int) (addr : Int) (ys : List Int) : List Int := if sCode al bs.length ks addr ys.length = 0 then splice bs addr.toNat ys else bs
def sClr (bs : List Int) (addr n : Int) : List Int := if sIn bs.length addr n = true then splice bs addr.toNat (List.replicate n.toNat 0) else bs
def sFet (al : Int → Bool) (bs ks : List Int) (addr n : Int) : List Int := if sCode al bs.length ks addr n = 0 then sGet bs addr n else []
theorem sCode_zero {al : Int → Bool} {N : Nat} {ks : List Int} {addr n : Int} (h : sCode al N ks addr n = 0) : sIn N addr n = true := by
  cases hi : sIn N addr n
  · rw [sCode_no hi] at h; cases h
  · rfl
theorem byt_far {w w' : World} {A : Option Addr} {len g : Nat} {ys : List Int} (h : Byt w A len ys) (hg : w.grownBy w' (some g)) (hA : 0 < len → ∀ x, A = some x → x.block ≠ g) : Byt w' A len ys := by
  refine ⟨h.1, h.2.1, fun h0 => ?_⟩
  obtain ⟨b, off, rfl, hc⟩ := h.2.2 h0
  refine ⟨b, off, rfl, fun i hi => hg.cell (hc i hi) ?_⟩
  intro e; injection e with e; exact hA h0 _ rfl e
/-- the call returns a slice of its own that holds zs, and a code -/
def GivesC (w : World) (zs : List Int) (c : Int) (e : Ending) (w' : World) : Prop := ∃ A m cap, e = .returned (.tuple #[.slice A m cap, .int .i64 c]) ∧ Own w' w.heap.size (.slice A m cap) m zs ∧ Below w.heap.size w w'

set_option maxHeartbeats 2000000 in
theorem rput_c {F : Foot} {bs ks : List Int} (w : World) (h : St 63 w F bs ks) (addr key : Int) (A : Option Addr) (len cap : Nat) (ys : List Int) (hy : Byt w A len ys) (hl : (len : Int) ≤ 9223372036854775807) (hA : 0 < len → ∀ x, A = some x → x.block ≠ F.gb) : Calls Try.prog 29 #[.pointer (some ⟨F.g, 0, none⟩), .int .i64 addr, .slice A len cap, .int .i64 key] w fun e w' => e = .returned (.int .i64 (sCode (alP key) bs.length ks addr len)) ∧ St 63 w' F (sPut (alP key) bs ks addr ys) ks ∧ w.grownBy w' (some F.gb) := by
  obtain ⟨N, hN⟩ : ∃ N, bs.length = N := ⟨_, rfl⟩
  obtain ⟨m, hm⟩ : ∃ m, ks.length = m := ⟨_, rfl⟩
  have c0 := h.cell0
  have c1 := h.cell1
  have H := Lib.hid h
  have LN := Lib.hid (show N = 2048 * m from by rw [← hN, ← hm]; exact h.ln)
  have n0 : (2048 : Int) ≤ (N : Int) := by have := h.ln; have := h.l0; omega
  have n1 : (N : Int) ≤ 65536 := by have := h.ln; have := h.l1; omega
  rw [hN] at c0
  rw [hm] at c1
  have HN := Lib.hid hN
  have HM := Lib.hid hm
  have ltg := H.out.ltg
  clear hN hm h
  have HY := Lib.hid hy
  have HA := Lib.hid hA
  have HL := Lib.hid hy.1
  clear hy hA
  obtain ⟨r, hr⟩ : ∃ r, sCode (alP key) bs.length ks addr len = r := ⟨_, rfl⟩
  rw [hr]
  have HR := Lib.hid hr
  by_cases h0 : r = 0
  · subst h0
    have hin := sCode_zero hr
    rw [HN.out] at hin
    obtain ⟨b0, b1, b2, b3⟩ := sIn_yes hin
    obtain ⟨a, rfl⟩ := Int.eq_ofNat_of_zero_le b0
    have g0 := Lib.hid (show a + len ≤ bs.length from by rw [HN.out]; omega)
    have a1 : (a : Int) + (len : Int) ≤ (N : Int) := by omega
    have hp := Lib.hid (show sPut (alP key) bs ks (a : Int) ys = splice bs a ys from by unfold sPut; rw [HL.out, hr, if_pos rfl]; simp)
    clear hr hin
    go_enter Try.func29, Try.ntmps29
    go_wp2_with (go_at_call 39; refine (rcode_p _ H.out _ _ _).mono ?_; rintro e w1 ⟨rfl, rfl⟩; rw [HR.out])
    go_loopw [10] (fun iv wr => ∃ i : Nat, i ≤ len ∧ iv = .int .i64 i ∧ St 63 wr F (splice bs a (ys.take i)) ks ∧ w.grownBy wr (some F.gb)) (fun iv _ => len - (intOf iv).toNat)
    case atStart => exact ⟨0, Nat.zero_le _, rfl, by rw [List.take_zero, splice_nil]; exact H.out, World.grownBy.refl w _⟩
    case round =>
      obtain ⟨i, i0, rfl, hst, hgr⟩ := hrel
      have ST := Lib.hid hst
      have GR := Lib.hid hgr
      clear hst hgr
      by_cases hlt : (i : Int) < (len : Int)
      · have hY := byt_far HY.out GR.out HA.out
        obtain ⟨b, off, rfl, hc⟩ := hY.at_ (by omega)
        have cy := hc i (by omega)
        have ry := hY.range i
        obtain ⟨y, hyy⟩ : ∃ y, ys.getD i 0 = y := ⟨_, rfl⟩
        rw [hyy] at cy ry
        have RY := Lib.hid ry
        have st' := Lib.hid (show (splice bs a (ys.take i)).set (a + i) y = splice bs a (ys.take (i + 1)) from by
          have hl : (ys.take i).length = i := by rw [List.length_take, HL.out]; omega
          have h1 := splice_set bs a (ys.take i) y (by rw [hl]; have := g0.out; omega)
          rw [hl] at h1
          rw [h1]
          congr 1
          rw [List.take_succ_eq_append_getElem (by rw [HL.out]; omega)]
          rw [List.getD_eq_getElem?_getD, List.getElem?_eq_getElem (by rw [HL.out]; omega)] at hyy
          simp at hyy
          rw [hyy])
        clear hY hc hyy ry
        have ll := Lib.hid (show (splice bs a (ys.take i)).length = N from by rw [length_splice _ _ _ (by rw [List.length_take, HL.out]; have := g0.out; omega), HN.out])
        have d0 := ST.out.cell0
        rw [ll.out] at d0
        have cb := ST.out.byte (i := a + i) (by rw [ll.out]; omega)
        obtain ⟨ov, hov⟩ : ∃ ov, (splice bs a (ys.take i)).getD (a + i) 0 = ov := ⟨_, rfl⟩
        rw [hov] at cb
        have fb := ST.out.b.free (a + i)
        have j0 : 0 ≤ (a : Int) + (i : Int) := by omega
        have j1 : (a : Int) + (i : Int) < (N : Int) := by omega
        have ws : IntKind.i64.wrap ((a : Int) + (i : Int)) = (a : Int) + (i : Int) := by rw [IntKind.wrap_i64]; omega
        have wt : ((a : Int) + (i : Int)).toNat = a + i := by omega
        clear hov
        go_wp2
        refine wp_region_still_tail 12 (by kernel_rfl) (by kernel_rfl) ?_
        change wpStill _ _ (World.drew _) (fun a => wpList _ _ _ _ a (World.drew _)) _ _
        simp only [List.append_eq, List.cons_append, List.nil_append, List.take_succ_cons, List.take_zero, List.drop_succ_cons, List.drop_zero]
        repeat still_step
        refine wpStill_nil ?_
        clear ws wt
        go_wp2
        go_roundw
        case rel => exact ⟨i + 1, by omega, by go_num, by rw [← st'.out]; exact (ST.out.drewN 1).setByte (by decide) RY.out, grown_trans (grown_drewN GR.out 1) (grown_setCell _ _ _ _)⟩
        case measure => simp [intOf]; omega
      · obtain rfl : i = len := by omega
        have fin := Lib.hid (show St 63 wr F (sPut (alP key) bs ks (a : Int) ys) ks from by rw [hp.out]; have h1 := ST.out; rwa [List.take_of_length_le (by rw [HL.out]; exact Nat.le_refl _)] at h1)
        go_wp2
        go_ret
        exact ⟨rfl, fin.out, GR.out⟩
  · have e0 : (r == 0) = false := by simpa using h0
    have hp := Lib.hid (show sPut (alP key) bs ks addr ys = bs from by unfold sPut; rw [HL.out, hr, if_neg h0])
    clear hr h0
    go_enter Try.func29, Try.ntmps29
    go_wp2_with (go_at_call 39; refine (rcode_p _ H.out _ _ _).mono ?_; rintro e w1 ⟨rfl, rfl⟩; rw [HR.out])
    refine wp_loop_rounds 1 ?_
    rw [rounds_succ]
    by_cases hlt : (0 : Int) < (len : Int)
    all_goals
      go_wp2
      go_ret
      exact ⟨rfl, by rw [hp.out]; exact H.out, World.grownBy.refl w _⟩

set_option maxHeartbeats 2000000 in
theorem rclear_c {F : Foot} {bs ks : List Int} (w : World) (h : St 63 w F bs ks) (addr n : Int) : Calls Try.prog 34 #[.pointer (some ⟨F.g, 0, none⟩), .int .i64 addr, .int .i64 n] w fun e w' => e = .returned (.bool (sIn bs.length addr n)) ∧ St 63 w' F (sClr bs addr n) ks ∧ w.grownBy w' (some F.gb) := by
  obtain ⟨N, hN⟩ : ∃ N, bs.length = N := ⟨_, rfl⟩
  obtain ⟨m, hm⟩ : ∃ m, ks.length = m := ⟨_, rfl⟩
  have c0 := h.cell0
  have c1 := h.cell1
  have H := Lib.hid h
  have LN := Lib.hid (show N = 2048 * m from by rw [← hN, ← hm]; exact h.ln)
  have n0 : (2048 : Int) ≤ (N : Int) := by have := h.ln; have := h.l0; omega
  have n1 : (N : Int) ≤ 65536 := by have := h.ln; have := h.l1; omega
  rw [hN] at c0
  rw [hm] at c1
  have HN := Lib.hid hN
  have HM := Lib.hid hm
  have ltg := H.out.ltg
  clear hN hm h
  rw [HN.out]
  cases hi : sIn N addr n
  · have hp := Lib.hid (show sClr bs addr n = bs from by unfold sClr; rw [HN.out, hi]; rfl)
    go_enter Try.func34, Try.ntmps34
    go_wp2_with (go_at_call 40; refine (rin_c _ H.out _ _).mono ?_; rintro e w1 ⟨rfl, rfl⟩; rw [HN.out, hi])
    go_ret
    exact ⟨rfl, by rw [hp.out]; exact H.out, World.grownBy.refl w _⟩
  obtain ⟨b0, b1, b2, b3⟩ := sIn_yes hi
  obtain ⟨a, rfl⟩ := Int.eq_ofNat_of_zero_le b0
  obtain ⟨k, rfl⟩ := Int.eq_ofNat_of_zero_le b1
  have a0 : (a : Int) ≤ (N : Int) := b2
  have a1 : (a : Int) + (k : Int) ≤ (N : Int) := by omega
  have g0 := Lib.hid (show a + k ≤ bs.length from by rw [HN.out]; omega)
  have hp := Lib.hid (show sClr bs (a : Int) (k : Int) = splice bs a (List.replicate k 0) from by unfold sClr; rw [HN.out, hi]; simp)
  go_enter Try.func34, Try.ntmps34
  go_wp2_with (go_at_call 40; refine (rin_c _ H.out _ _).mono ?_; rintro e w1 ⟨rfl, rfl⟩; rw [HN.out, hi])
  go_loopw [7] (fun iv wr => ∃ j : Nat, j ≤ k ∧ iv = .int .i64 ((a + j : Nat) : Int) ∧ St 63 wr F (splice bs a (List.replicate j 0)) ks ∧ w.grownBy wr (some F.gb)) (fun iv _ => a + k - (intOf iv).toNat)
  case atStart => exact ⟨0, Nat.zero_le _, rfl, by rw [List.replicate_zero, splice_nil]; exact H.out, World.grownBy.refl w _⟩
  case round =>
    obtain ⟨j, j0, hiv, hst, hgr⟩ := hrel
    obtain ⟨x, hx⟩ : ∃ x, a + j = x := ⟨_, rfl⟩
    rw [hx] at hiv
    subst hiv
    have ST := Lib.hid hst
    have GR := Lib.hid hgr
    have X := Lib.hid hx
    have ax : (a : Int) ≤ (x : Int) := by omega
    have xk : (x : Int) ≤ (a : Int) + (k : Int) := by omega
    clear hst hgr hx
    by_cases hlt : (x : Int) < (a : Int) + (k : Int)
    · have st' := Lib.hid (show (splice bs a (List.replicate j 0)).set x 0 = splice bs a (List.replicate (j + 1) 0) from by
        have h1 := splice_set bs a (List.replicate j 0) 0 (by rw [List.length_replicate]; have := g0.out; have := X.out; omega)
        rw [List.length_replicate, X.out] at h1
        rw [h1, List.replicate_succ'])
      have ll := Lib.hid (show (splice bs a (List.replicate j 0)).length = N from by rw [length_splice _ _ _ (by rw [List.length_replicate]; have := g0.out; have := X.out; omega), HN.out])
      have d0 := ST.out.cell0
      rw [ll.out] at d0
      have cb := ST.out.byte (i := x) (by rw [ll.out]; omega)
      obtain ⟨ov, hov⟩ : ∃ ov, (splice bs a (List.replicate j 0)).getD x 0 = ov := ⟨_, rfl⟩
      rw [hov] at cb
      have fb := ST.out.b.free x
      have j1 : (x : Int) < (N : Int) := by omega
      clear hov
      go_wp2
      go_roundw
      case rel => exact ⟨j + 1, by have := X.out; omega, by have := X.out; go_num, by rw [← st'.out]; exact ST.out.setByte (by decide) (by omega), grown_trans GR.out (grown_setCell _ _ _ _)⟩
      case measure => simp [intOf]; omega
    · obtain rfl : j = k := by have := X.out; omega
      go_wp2
      go_ret
      exact ⟨rfl, by rw [hp.out]; exact ST.out, GR.out⟩

set_option maxHeartbeats 2000000 in
theorem clear_c {F : Foot} {bs ks : List Int} (w : World) (h : St 66 w F bs ks) (addr n : Int) : Calls Try.prog 25 #[.pointer (some ⟨F.g, 0, none⟩), .int .i64 addr, .int .i64 n] w fun e w' => e = .returned (.bool (sIn bs.length addr n)) ∧ St 66 w' F (sClr bs addr n) ks ∧ w.grownBy w' (some F.gb) := by
  obtain ⟨N, hN⟩ : ∃ N, bs.length = N := ⟨_, rfl⟩
  obtain ⟨m, hm⟩ : ∃ m, ks.length = m := ⟨_, rfl⟩
  have c0 := h.cell0
  have c1 := h.cell1
  have H := Lib.hid h
  have LN := Lib.hid (show N = 2048 * m from by rw [← hN, ← hm]; exact h.ln)
  have n0 : (2048 : Int) ≤ (N : Int) := by have := h.ln; have := h.l0; omega
  have n1 : (N : Int) ≤ 65536 := by have := h.ln; have := h.l1; omega
  rw [hN] at c0
  rw [hm] at c1
  have HN := Lib.hid hN
  have HM := Lib.hid hm
  have ltg := H.out.ltg
  clear hN hm h
  rw [HN.out]
  cases hi : sIn N addr n
  · have hp := Lib.hid (show sClr bs addr n = bs from by unfold sClr; rw [HN.out, hi]; rfl)
    go_enter Try.func25, Try.ntmps25
    go_wp2_with (go_at_call 35; refine (in_c _ H.out _ _).mono ?_; rintro e w1 ⟨rfl, rfl⟩; rw [HN.out, hi])
    go_ret
    exact ⟨rfl, by rw [hp.out]; exact H.out, World.grownBy.refl w _⟩
  obtain ⟨b0, b1, b2, b3⟩ := sIn_yes hi
  obtain ⟨a, rfl⟩ := Int.eq_ofNat_of_zero_le b0
  obtain ⟨k, rfl⟩ := Int.eq_ofNat_of_zero_le b1
  have a0 : (a : Int) ≤ (N : Int) := b2
  have a1 : (a : Int) + (k : Int) ≤ (N : Int) := by omega
  have g0 := Lib.hid (show a + k ≤ bs.length from by rw [HN.out]; omega)
  have hp := Lib.hid (show sClr bs (a : Int) (k : Int) = splice bs a (List.replicate k 0) from by unfold sClr; rw [HN.out, hi]; simp)
  have lb := H.out.capb
  rw [HN.out] at lb
  have lbb := H.out.maxb
  unfold maxLen at lbb
  have ak : a + k - a = k := by omega
  by_cases hcap : F.cb = a
  · obtain rfl : N = a := by omega
    obtain rfl : k = 0 := by omega
    obtain ⟨w2, hcl, hs, hg⟩ := run_clear_st H.out (by decide) g0.out (X := some ⟨F.gb, 0, none⟩) (c := 0) (ty := 0) (.inr ⟨rfl, rfl⟩)
    have HS := Lib.hid hs
    have HG := Lib.hid hg
    rw [hcap] at c0
    rw [show ((0 : Nat) : Int) = 0 from rfl] at hi ⊢
    clear hs hg hcap lb lbb ak
    go_enter Try.func25, Try.ntmps25
    go_wp2_with (go_at_call 35; refine (in_c _ H.out _ _).mono ?_; rintro e w1 ⟨rfl, rfl⟩; rw [HN.out, hi])
    go_ret
    exact ⟨rfl, by rw [← show ((0 : Nat) : Int) = 0 from rfl, hp.out]; exact HS.out, HG.out⟩
  · obtain ⟨w2, hcl, hs, hg⟩ := run_clear_st H.out (by decide) g0.out (X := some ⟨F.gb, a, none⟩) (c := F.cb - a) (ty := 0) (.inl rfl)
    have HS := Lib.hid hs
    have HG := Lib.hid hg
    clear hs hg
    go_enter Try.func25, Try.ntmps25
    go_wp2_with (go_at_call 35; refine (in_c _ H.out _ _).mono ?_; rintro e w1 ⟨rfl, rfl⟩; rw [HN.out, hi])
    go_ret
    exact ⟨rfl, by rw [hp.out]; exact HS.out, HG.out⟩

set_option maxHeartbeats 1000000 in
theorem rfetch_c {F : Foot} {bs ks : List Int} (w : World) (h : St 63 w F bs ks) (addr n key : Int) : Calls Try.prog 30 #[.pointer (some ⟨F.g, 0, none⟩), .int .i64 addr, .int .i64 n, .int .i64 key] w (GivesC w (sFet (alF key) bs ks addr n) (sCode (alF key) bs.length ks addr n)) := by
  have H := Lib.hid h
  clear h
  obtain ⟨r, hr⟩ : ∃ r, sCode (alF key) bs.length ks addr n = r := ⟨_, rfl⟩
  by_cases h0 : r = 0
  · subst h0
    have hf := Lib.hid (show sFet (alF key) bs ks addr n = sGet bs addr n from by unfold sFet; rw [hr, if_pos rfl])
    rw [hf.out, hr]
    have HR := Lib.hid hr
    clear hr
    go_enter Try.func30, Try.ntmps30
    go_wp2_with (first | (go_at_call 39; refine (rcode_f _ H.out _ _ _).mono ?_; rintro e w1 ⟨rfl, rfl⟩; rw [HR.out]) | (go_at_call 33; refine (rbytes_c _ H.out _ _).mono ?_; rintro e w1 ⟨A, m, cap, rfl, ho, hb⟩; have HO := Lib.hid ho; have HB := Lib.hid hb; clear ho hb))
    go_ret2
    exact ⟨A, m, cap, rfl, HO.out, HB.out⟩
  · have e0 : (r != 0) = true := by simpa using h0
    have hf := Lib.hid (show sFet (alF key) bs ks addr n = [] from by unfold sFet; rw [hr, if_neg h0])
    rw [hf.out, hr]
    have HR := Lib.hid hr
    clear hr h0
    go_enter Try.func30, Try.ntmps30
    go_wp2_with (go_at_call 39; refine (rcode_f _ H.out _ _ _).mono ?_; rintro e w1 ⟨rfl, rfl⟩; rw [HR.out])
    go_ret2
    exact ⟨none, 0, 0, rfl, Own.nil _ _, Below.refl _ _⟩

end Go.Proofs.Ytcollddpfahaaaa
