/- CONTRACTS of package store and its reference: the reference's Put, Fetch, Clear; Clear. No conditions but that the storage reads as one. -/
import Derived.Test.YthjdjbipfdigeaaSt4
import Derived.StillTailTactics
import Derived.Test.YthjdjbipfdigeaaKp
import Derived.Lib.Hide
import Derived.Outline
import Derived.Handy
import Derived.BigQuiet
import Derived.Deep.QuietTactic
namespace Go.Proofs.Ythjdjbipfdigeaa
open Go.RowKit
set_option maxRecDepth 100000
set_option linter.unusedVariables false
set_option linter.unusedSimpArgs false

/-- the bytes behind a Put, behind a Clear; what a Fetch returns -/
def sPut (al : Int → Bool) (bs ks : List Int) (addr : Int) (ys : List Int) : List Int := if sCode al bs.length ks addr ys.length = 0 then splice bs addr.toNat ys else bs
def sClr (bs : List Int) (addr n : Int) : List Int := if sIn bs.length addr n = true then splice bs addr.toNat (List.replicate n.toNat 0) else bs
def sFet (al : Int → Bool) (bs ks : List Int) (addr n : Int) : List Int := if sCode al bs.length ks addr n = 0 then sGet bs addr n else []
theorem sCode_zero {al : Int → Bool} {N : Nat} {ks : List Int} {addr n : Int} (h : sCode al N ks addr n = 0) : sIn N addr n = true := by
  cases hi : sIn N addr n
  · rw [sCode_no hi] at h; cases h
  · rfl
theorem byt_far {w w' : World} {A : Option Addr} {len g : Nat} {ys : List Int} (h : Byt w A len ys) (hg : w.grownBy w' (some g)) (hA : 0 < len → ∀ x, A = some x → x.block ≠ g) : Byt w' A len ys := by
  refine ⟨h.1, h.2.1, fun h0 => ?_⟩
  obtain ⟨b, off, rfl, hc⟩ := h.2.2 h0
  refine ⟨b, off, rfl, fun i hi => hg.cell (hc i hi) ?_⟩
  intro e; injection e with e; exact hA h0 _ rfl e
/-- the call returns a slice of its own that holds zs, and a code -/
def GivesC (w : World) (zs : List Int) (c : Int) (e : Ending) (w' : World) : Prop := ∃ A m cap, e = .returned (.tuple #[.slice A m cap, .int .i64 c]) ∧ Own w' w.heap.size (.slice A m cap) m zs ∧ Below w.heap.size w w'

set_option maxHeartbeats 2000000 in
theorem rput_c {F : Foot} {bs ks : List Int} (w : World) (h : St 93 w F bs ks) (addr key : Int) (A : Option Addr) (len cap : Nat) (ys : List Int) (hy : Byt w A len ys) (hl : (len : Int) ≤ 9223372036854775807) (hA : 0 < len → ∀ x, A = some x → x.block ≠ F.gb) : Calls Try.prog 36 #[.pointer (some ⟨F.g, 0, none⟩), .int .i64 addr, .slice A len cap, .int .i64 key] w fun e w' => e = .returned (.int .i64 (sCode (alP key) bs.length ks addr len)) ∧ St 93 w' F (sPut (alP key) bs ks addr ys) ks ∧ w.grownBy w' (some F.gb) := by
  obtain ⟨N, hN⟩ : ∃ N, bs.length = N := ⟨_, rfl⟩
  obtain ⟨m, hm⟩ : ∃ m, ks.length = m := ⟨_, rfl⟩
  have c0 := h.cell0
  have c1 := h.cell1
  have H := Lib.hid h
  have LN := Lib.hid (show N = 2048 * m from by rw [← hN, ← hm]; exact h.ln)
  have n0 : (2048 : Int) ≤ (N : Int) := by have := h.ln; have := h.l0; omega
  have n1 : (N : Int) ≤ 65536 := by have := h.ln; have := h.l1; omega
  rw [hN] at c0
  rw [hm] at c1
  have HN := Lib.hid hN
  have HM := Lib.hid hm
  have ltg := H.out.ltg
  clear hN hm h
  have HY := Lib.hid hy
  have HA := Lib.hid hA
  have HL := Lib.hid hy.1
  clear hy hA
  obtain ⟨r, hr⟩ : ∃ r, sCode (alP key) bs.length ks addr len = r := ⟨_, rfl⟩
  rw [hr]
  have HR := Lib.hid hr
  by_cases h0 : r = 0
  · subst h0
    have hin := sCode_zero hr
    rw [HN.out] at hin
    obtain ⟨b0, b1, b2, b3⟩ := sIn_yes hin
    obtain ⟨a, rfl⟩ := Int.eq_ofNat_of_zero_le b0
    have g0 := Lib.hid (show a + len ≤ bs.length from by rw [HN.out]; omega)
    have a1 : (a : Int) + (len : Int) ≤ (N : Int) := by omega
    have hp := Lib.hid (show sPut (alP key) bs ks (a : Int) ys = splice bs a ys from by unfold sPut; rw [HL.out, hr, if_pos rfl]; simp)
    clear hr hin
    go_enter Try.func36, Try.ntmps36
    go_wp2_with (go_at_call 50; refine (rcode_p _ H.out _ _ _).mono ?_; rintro e w1 ⟨rfl, rfl⟩; rw [HR.out])
    go_loopw [10] (fun iv wr => ∃ i : Nat, i ≤ len ∧ iv = .int .i64 i ∧ St 93 wr F (splice bs a (ys.take i)) ks ∧ w.grownBy wr (some F.gb)) (fun iv _ => len - (intOf iv).toNat)
    case atStart => exact ⟨0, Nat.zero_le _, rfl, by rw [List.take_zero, splice_nil]; exact H.out, World.grownBy.refl w _⟩
    case round =>
      obtain ⟨i, i0, rfl, hst, hgr⟩ := hrel
      have ST := Lib.hid hst
      have GR := Lib.hid hgr
      clear hst hgr
      by_cases hlt : (i : Int) < (len : Int)
      · have hY := byt_far HY.out GR.out HA.out
        obtain ⟨b, off, rfl, hc⟩ := hY.at_ (by omega)
        have cy := hc i (by omega)
        have ry := hY.range i
        obtain ⟨y, hyy⟩ : ∃ y, ys.getD i 0 = y := ⟨_, rfl⟩
        rw [hyy] at cy ry
        have RY := Lib.hid ry
        have st' := Lib.hid (show (splice bs a (ys.take i)).set (a + i) y = splice bs a (ys.take (i + 1)) from by
          have hl : (ys.take i).length = i := by rw [List.length_take, HL.out]; omega
          have h1 := splice_set bs a (ys.take i) y (by rw [hl]; have := g0.out; omega)
          rw [hl] at h1
          rw [h1]
          congr 1
          rw [List.take_succ_eq_append_getElem (by rw [HL.out]; omega)]
          rw [List.getD_eq_getElem?_getD, List.getElem?_eq_getElem (by rw [HL.out]; omega)] at hyy
          simp at hyy
          rw [hyy])
        clear hY hc hyy ry
        have ll := Lib.hid (show (splice bs a (ys.take i)).length = N from by rw [length_splice _ _ _ (by rw [List.length_take, HL.out]; have := g0.out; omega), HN.out])
        have d0 := ST.out.cell0
        rw [ll.out] at d0
        have cb := ST.out.byte (i := a + i) (by rw [ll.out]; omega)
        obtain ⟨ov, hov⟩ : ∃ ov, (splice bs a (ys.take i)).getD (a + i) 0 = ov := ⟨_, rfl⟩
        rw [hov] at cb
        have fb := ST.out.b.free (a + i)
        have j0 : 0 ≤ (a : Int) + (i : Int) := by omega
        have j1 : (a : Int) + (i : Int) < (N : Int) := by omega
        have ws : IntKind.i64.wrap ((a : Int) + (i : Int)) = (a : Int) + (i : Int) := by rw [IntKind.wrap_i64]; omega
        have wt : ((a : Int) + (i : Int)).toNat = a + i := by omega
        clear hov
        go_wp2
        refine wp_region_still_tail 12 (by kernel_rfl) (by kernel_rfl) ?_
        change wpStill _ _ (World.drew _) (fun a => wpList _ _ _ _ a (World.drew _)) _ _
        simp only [List.append_eq, List.cons_append, List.nil_append, List.take_succ_cons, List.take_zero, List.drop_succ_cons, List.drop_zero]
        repeat still_step
        refine wpStill_nil ?_
        clear ws wt
        go_wp2
        go_roundw
        case rel => exact ⟨i + 1, by omega, by go_num, by rw [← st'.out]; exact (ST.out.drewN 1).setByte (by decide) RY.out, grown_trans (grown_drewN GR.out 1) (grown_setCell _ _ _ _)⟩
        case measure => simp [intOf]; omega
      · obtain rfl : i = len := by omega
        have fin := Lib.hid (show St 93 wr F (sPut (alP key) bs ks (a : Int) ys) ks from by rw [hp.out]; have h1 := ST.out; rwa [List.take_of_length_le (by rw [HL.out]; exact Nat.le_refl _)] at h1)
        go_wp2
        go_ret
        exact ⟨rfl, fin.out, GR.out⟩
  · have e0 : (r == 0) = false := by simpa using h0
    have hp := Lib.hid (show sPut (alP key) bs ks addr ys = bs from by unfold sPut; rw [HL.out, hr, if_neg h0])
    clear hr h0
    go_enter Try.func36, Try.ntmps36
    go_wp2_with (go_at_call 50; refine (rcode_p _ H.out _ _ _).mono ?_; rintro e w1 ⟨rfl, rfl⟩; rw [HR.out])
    refine wp_loop_rounds 1 ?_
    rw [rounds_succ]
    by_cases hlt : (0 : Int) < (len : Int)
    all_goals
      go_wp2
      go_ret
      exact ⟨rfl, by rw [hp.out]; exact H.out, World.grownBy.refl w _⟩

end Go.Proofs.Ythjdjbipfdigeaa
