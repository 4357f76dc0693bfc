/- Contracts and laws on the way to the statement, text 4 of 25. Conditions: as each states them. -/
import Derived.Test.YthjdjbipfdigeaaCg1
import Derived.Test.YthjdjbipfdigeaaCg3
import Derived.Lib.Hide
import Derived.Outline
import Derived.Handy
import Derived.BigQuiet
import Derived.Deep.QuietTactic
import Derived.StillTailTactics
import Derived.RangeFuncNested
import Derived.RangeFuncBound
import Derived.RangeFuncCalls
import Derived.RangeFuncLeaves
import Derived.Shelf.Abstract
import Derived.Shelf.RegionOpen
import Derived.WalkKit
import Derived.OwnWalkIn
import Derived.TacticsInMore
import Derived.LoopNIn
import Derived.LoopIn
import Derived.Laws.EntriesVeiled
import Derived.BigRegion
import Derived.Deep.RegionHeld3
namespace Go.Proofs.Ythjdjbipfdigeaa
open Go.RowKit
set_option maxRecDepth 100000
set_option linter.unusedVariables false
set_option linter.unusedSimpArgs false

theorem okB_zero (al : Int → Bool) (ks : List Int) (a : Nat) : okB al ks a 0 = true := by simp [okB]
theorem okB_succ (al : Int → Bool) (ks : List Int) (a n : Nat) : okB al ks a (n + 1) = (okB al ks a n && al (ks.getD ((a + n) / 2048) 0)) := by
  unfold okB
  rw [List.range_succ, List.all_append]
  simp
theorem okB_false {al : Int → Bool} {ks : List Int} {a n j : Nat} (hj : j < n) (h : al (ks.getD ((a + j) / 2048) 0) = false) : okB al ks a n = false := by
  rw [Bool.eq_false_iff]
  intro h1
  unfold okB at h1
  rw [List.all_eq_true] at h1
  have := h1 j (List.mem_range.2 hj)
  rw [h] at this; cases this
theorem sCode_no {al : Int → Bool} {N : Nat} {ks : List Int} {addr n : Int} (h : sIn N addr n = false) : sCode al N ks addr n = 5 := by unfold sCode; rw [h]; rfl
theorem sCode_yes {al : Int → Bool} {N : Nat} {ks : List Int} {a n : Nat} (h : sIn N (a : Int) (n : Int) = true) : sCode al N ks (a : Int) (n : Int) = if okB al ks a n = true then 0 else 4 := by unfold sCode; rw [h]; simp

set_option maxHeartbeats 2000000 in
theorem rcode_p {F : Foot} {bs ks : List Int} (w : World) (h : St 93 w F bs ks) (addr n key : Int) : Calls Try.prog 50 #[.pointer (some ⟨F.g, 0, none⟩), .int .i64 addr, .int .i64 n, .int .i64 key, .bool false] w fun e w' => e = .returned (.int .i64 (sCode (alP key) bs.length ks addr n)) ∧ w = w' := by
  obtain ⟨N, hN⟩ : ∃ N, bs.length = N := ⟨_, rfl⟩
  obtain ⟨m, hm⟩ : ∃ m, ks.length = m := ⟨_, rfl⟩
  have c0 := h.cell0
  have c1 := h.cell1
  have H := Lib.hid h
  have LN := Lib.hid (show N = 2048 * m from by rw [← hN, ← hm]; exact h.ln)
  have n0 : (2048 : Int) ≤ (N : Int) := by have := h.ln; have := h.l0; omega
  have n1 : (N : Int) ≤ 65536 := by have := h.ln; have := h.l1; omega
  rw [hN] at c0
  rw [hm] at c1
  have HN := Lib.hid hN
  have HM := Lib.hid hm
  have ltg := H.out.ltg
  clear hN hm h
  rw [HN.out]
  cases hi : sIn N addr n
  · rw [sCode_no hi]
    go_enter Try.func50, Try.ntmps50
    go_wp2_with (go_at_call 94; refine (rin_c _ H.out _ _).mono ?_; rintro e w1 ⟨rfl, rfl⟩; rw [HN.out, hi])
    go_ret
    exact ⟨rfl, rfl⟩
  obtain ⟨b0, b1, b2, b3⟩ := sIn_yes hi
  obtain ⟨a, rfl⟩ := Int.eq_ofNat_of_zero_le b0
  obtain ⟨k, rfl⟩ := Int.eq_ofNat_of_zero_le b1
  rw [sCode_yes hi]
  have a0 : (a : Int) ≤ (N : Int) := b2
  have a1 : (a : Int) + (k : Int) ≤ (N : Int) := by omega
  obtain ⟨r, hr⟩ : ∃ r : Int, (if okB (alP key) ks a k = true then 0 else 4) = r := ⟨_, rfl⟩
  rw [hr]
  have HR := Lib.hid hr
  clear hr
  go_enter Try.func50, Try.ntmps50
  go_wp2_with (go_at_call 94; refine (rin_c _ H.out _ _).mono ?_; rintro e w1 ⟨rfl, rfl⟩; rw [HN.out, hi])
  go_loop [11] (fun iv => ∃ x : Nat, a ≤ x ∧ x ≤ a + k ∧ iv = .int .i64 x ∧ okB (alP key) ks a (x - a) = true) (fun iv => a + k - (intOf iv).toNat)
  case atStart => exact ⟨a, Nat.le_refl _, by omega, rfl, by rw [Nat.sub_self]; exact okB_zero _ _ _⟩
  case round =>
    obtain ⟨x, x0, x1, rfl, hok⟩ := hrel
    have OK := Lib.hid hok
    clear hok
    by_cases hlt : (x : Int) < (a : Int) + (k : Int)
    · have i0 : 0 ≤ (x : Int) / 2048 := by omega
      have i1 : (x : Int) / 2048 < (m : Int) := by have := LN.out; omega
      have ck := H.out.key (i := x / 2048) (by rw [HM.out]; have := LN.out; omega)
      have rk := H.out.keyr (x / 2048)
      obtain ⟨kv, hk⟩ : ∃ kv, ks.getD (x / 2048) 0 = kv := ⟨_, rfl⟩
      rw [hk] at ck rk
      have HK := Lib.hid hk
      obtain ⟨k0, k1⟩ := rk
      clear hk
      have st := Lib.hid (show okB (alP key) ks a (x + 1 - a) = alP key kv from by rw [show x + 1 - a = (x - a) + 1 from by omega, okB_succ, OK.out, show a + (x - a) = x from by omega, HK.out]; rfl)
      have fl := fun h : alP key kv = false => (show okB (alP key) ks a k = false from okB_false (j := x - a) (by omega) (by rw [show a + (x - a) = x from by omega, HK.out]; exact h))
      have FL := Lib.hid fl
      clear fl
      by_cases q0 : key = 0
      · subst q0
        have ok := Lib.hid (show alP 0 kv = true from by simp [alP] <;> omega)
        go_wp2
        go_round
        case rel => exact ⟨x + 1, by omega, by omega, by go_num, by rw [st.out]; exact ok.out⟩
        case measure => simp [intOf]; omega
      have e1 : (key != 0) = true := by simpa using q0
      by_cases q1 : key = kv / 2
      · have e2 : (key != kv / 2) = false := by rw [bne_eq_false_iff_eq]; exact q1
        have ok := Lib.hid (show alP key kv = true from by simp [alP] <;> omega)
        clear q1
        go_wp2
        go_round
        case rel => exact ⟨x + 1, by omega, by omega, by go_num, by rw [st.out]; exact ok.out⟩
        case measure => simp [intOf]; omega
      have e2 : (key != kv / 2) = true := by rw [bne_iff_ne]; exact q1
      have bad := Lib.hid (FL.out (show alP key kv = false from by simp [alP] <;> omega))
      clear q0 q1
      go_wp2
      go_ret
      exact ⟨by rw [← HR.out, bad.out]; rfl, rfl⟩
    · obtain rfl : x = a + k := by omega
      have fin := Lib.hid (show r = 0 from by rw [← HR.out, show okB (alP key) ks a k = true from by have := OK.out; rwa [Nat.add_sub_cancel_left] at this]; rfl)
      go_wp2
      go_ret
      exact ⟨by rw [fin.out]; rfl, rfl⟩

end Go.Proofs.Ythjdjbipfdigeaa

namespace Go.Proofs.Ythjdjbipfdigeaa
open Go.RowKit
set_option maxRecDepth 100000
set_option linter.unusedVariables false
set_option linter.unusedSimpArgs false

/-- the bytes behind a Put, behind a Clear; what a Fetch returns -/
def sPut (al : Int → Bool) (bs ks : List Int) (addr : Int) (ys : List Int) : List Int := if sCode al bs.length ks addr ys.length = 0 then splice bs addr.toNat ys else bs
def sFet (al : Int → Bool) (bs ks : List Int) (addr n : Int) : List Int := if sCode al bs.length ks addr n = 0 then sGet bs addr n else []
theorem sCode_zero {al : Int → Bool} {N : Nat} {ks : List Int} {addr n : Int} (h : sCode al N ks addr n = 0) : sIn N addr n = true := by
  cases hi : sIn N addr n
  · rw [sCode_no hi] at h; cases h
  · rfl
theorem byt_far {w w' : World} {A : Option Addr} {len g : Nat} {ys : List Int} (h : Byt w A len ys) (hg : w.grownBy w' (some g)) (hA : 0 < len → ∀ x, A = some x → x.block ≠ g) : Byt w' A len ys := by
  refine ⟨h.1, h.2.1, fun h0 => ?_⟩
  obtain ⟨b, off, rfl, hc⟩ := h.2.2 h0
  refine ⟨b, off, rfl, fun i hi => hg.cell (hc i hi) ?_⟩
  intro e; injection e with e; exact hA h0 _ rfl e
/-- the call returns a slice of its own that holds zs, and a code -/
def GivesC (w : World) (zs : List Int) (c : Int) (e : Ending) (w' : World) : Prop := ∃ A m cap, e = .returned (.tuple #[.slice A m cap, .int .i64 c]) ∧ Own w' w.heap.size (.slice A m cap) m zs ∧ Below w.heap.size w w'

set_option maxHeartbeats 2000000 in
theorem rput_c {F : Foot} {bs ks : List Int} (w : World) (h : St 93 w F bs ks) (addr key : Int) (A : Option Addr) (len cap : Nat) (ys : List Int) (hy : Byt w A len ys) (hl : (len : Int) ≤ 9223372036854775807) (hA : 0 < len → ∀ x, A = some x → x.block ≠ F.gb) : Calls Try.prog 36 #[.pointer (some ⟨F.g, 0, none⟩), .int .i64 addr, .slice A len cap, .int .i64 key] w fun e w' => e = .returned (.int .i64 (sCode (alP key) bs.length ks addr len)) ∧ St 93 w' F (sPut (alP key) bs ks addr ys) ks ∧ w.grownBy w' (some F.gb) := by
  obtain ⟨N, hN⟩ : ∃ N, bs.length = N := ⟨_, rfl⟩
  obtain ⟨m, hm⟩ : ∃ m, ks.length = m := ⟨_, rfl⟩
  have c0 := h.cell0
  have c1 := h.cell1
  have H := Lib.hid h
  have LN := Lib.hid (show N = 2048 * m from by rw [← hN, ← hm]; exact h.ln)
  have n0 : (2048 : Int) ≤ (N : Int) := by have := h.ln; have := h.l0; omega
  have n1 : (N : Int) ≤ 65536 := by have := h.ln; have := h.l1; omega
  rw [hN] at c0
  rw [hm] at c1
  have HN := Lib.hid hN
  have HM := Lib.hid hm
  have ltg := H.out.ltg
  clear hN hm h
  have HY := Lib.hid hy
  have HA := Lib.hid hA
  have HL := Lib.hid hy.1
  clear hy hA
  obtain ⟨r, hr⟩ : ∃ r, sCode (alP key) bs.length ks addr len = r := ⟨_, rfl⟩
  rw [hr]
  have HR := Lib.hid hr
  by_cases h0 : r = 0
  · subst h0
    have hin := sCode_zero hr
    rw [HN.out] at hin
    obtain ⟨b0, b1, b2, b3⟩ := sIn_yes hin
    obtain ⟨a, rfl⟩ := Int.eq_ofNat_of_zero_le b0
    have g0 := Lib.hid (show a + len ≤ bs.length from by rw [HN.out]; omega)
    have a1 : (a : Int) + (len : Int) ≤ (N : Int) := by omega
    have hp := Lib.hid (show sPut (alP key) bs ks (a : Int) ys = splice bs a ys from by unfold sPut; rw [HL.out, hr, if_pos rfl]; simp)
    clear hr hin
    go_enter Try.func36, Try.ntmps36
    go_wp2_with (go_at_call 50; refine (rcode_p _ H.out _ _ _).mono ?_; rintro e w1 ⟨rfl, rfl⟩; rw [HR.out])
    go_loopw [10] (fun iv wr => ∃ i : Nat, i ≤ len ∧ iv = .int .i64 i ∧ St 93 wr F (splice bs a (ys.take i)) ks ∧ w.grownBy wr (some F.gb)) (fun iv _ => len - (intOf iv).toNat)
    case atStart => exact ⟨0, Nat.zero_le _, rfl, by rw [List.take_zero, splice_nil]; exact H.out, World.grownBy.refl w _⟩
    case round =>
      obtain ⟨i, i0, rfl, hst, hgr⟩ := hrel
      have ST := Lib.hid hst
      have GR := Lib.hid hgr
      clear hst hgr
      by_cases hlt : (i : Int) < (len : Int)
      · have hY := byt_far HY.out GR.out HA.out
        obtain ⟨b, off, rfl, hc⟩ := hY.at_ (by omega)
        have cy := hc i (by omega)
        have ry := hY.range i
        obtain ⟨y, hyy⟩ : ∃ y, ys.getD i 0 = y := ⟨_, rfl⟩
        rw [hyy] at cy ry
        have RY := Lib.hid ry
        have st' := Lib.hid (show (splice bs a (ys.take i)).set (a + i) y = splice bs a (ys.take (i + 1)) from by
          have hl : (ys.take i).length = i := by rw [List.length_take, HL.out]; omega
          have h1 := splice_set bs a (ys.take i) y (by rw [hl]; have := g0.out; omega)
          rw [hl] at h1
          rw [h1]
          congr 1
          rw [List.take_succ_eq_append_getElem (by rw [HL.out]; omega)]
          rw [List.getD_eq_getElem?_getD, List.getElem?_eq_getElem (by rw [HL.out]; omega)] at hyy
          simp at hyy
          rw [hyy])
        clear hY hc hyy ry
        have ll := Lib.hid (show (splice bs a (ys.take i)).length = N from by rw [length_splice _ _ _ (by rw [List.length_take, HL.out]; have := g0.out; omega), HN.out])
        have d0 := ST.out.cell0
        rw [ll.out] at d0
        have cb := ST.out.byte (i := a + i) (by rw [ll.out]; omega)
        obtain ⟨ov, hov⟩ : ∃ ov, (splice bs a (ys.take i)).getD (a + i) 0 = ov := ⟨_, rfl⟩
        rw [hov] at cb
        have fb := ST.out.b.free (a + i)
        have j0 : 0 ≤ (a : Int) + (i : Int) := by omega
        have j1 : (a : Int) + (i : Int) < (N : Int) := by omega
        have ws : IntKind.i64.wrap ((a : Int) + (i : Int)) = (a : Int) + (i : Int) := by rw [IntKind.wrap_i64]; omega
        have wt : ((a : Int) + (i : Int)).toNat = a + i := by omega
        clear hov
        go_wp2
        refine wp_region_still_tail 12 (by kernel_rfl) (by kernel_rfl) ?_
        change wpStill _ _ (World.drew _) (fun a => wpList _ _ _ _ a (World.drew _)) _ _
        simp only [List.append_eq, List.cons_append, List.nil_append, List.take_succ_cons, List.take_zero, List.drop_succ_cons, List.drop_zero]
        repeat still_step
        refine wpStill_nil ?_
        clear ws wt
        go_wp2
        go_roundw
        case rel => exact ⟨i + 1, by omega, by go_num, by rw [← st'.out]; exact (ST.out.drewN 1).setByte (by decide) RY.out, grown_trans (grown_drewN GR.out 1) (grown_setCell _ _ _ _)⟩
        case measure => simp [intOf]; omega
      · obtain rfl : i = len := by omega
        have fin := Lib.hid (show St 93 wr F (sPut (alP key) bs ks (a : Int) ys) ks from by rw [hp.out]; have h1 := ST.out; rwa [List.take_of_length_le (by rw [HL.out]; exact Nat.le_refl _)] at h1)
        go_wp2
        go_ret
        exact ⟨rfl, fin.out, GR.out⟩
  · have e0 : (r == 0) = false := by simpa using h0
    have hp := Lib.hid (show sPut (alP key) bs ks addr ys = bs from by unfold sPut; rw [HL.out, hr, if_neg h0])
    clear hr h0
    go_enter Try.func36, Try.ntmps36
    go_wp2_with (go_at_call 50; refine (rcode_p _ H.out _ _ _).mono ?_; rintro e w1 ⟨rfl, rfl⟩; rw [HR.out])
    refine wp_loop_rounds 1 ?_
    rw [rounds_succ]
    by_cases hlt : (0 : Int) < (len : Int)
    all_goals
      go_wp2
      go_ret
      exact ⟨rfl, by rw [hp.out]; exact H.out, World.grownBy.refl w _⟩

end Go.Proofs.Ythjdjbipfdigeaa

namespace Go.Proofs.Ythjdjbipfdigeaa
open Go.RowKit Go.Shelf
set_option maxRecDepth 100000
set_option linter.unusedVariables false
set_option linter.unusedSimpArgs false
attribute [local go_sem] Oper.semAt_some

/-- a one-cell block that is new, and its cell behind later blocks -/
theorem cell_new_l (W : World) (v : Value) (t : TypeId) : (W.alloc (.cells #[v] t)).cell? ⟨W.heap.size, 0, none⟩ = some v ∧ (W.alloc (.cells #[v] t)).frozen? ⟨W.heap.size, 0, none⟩ = false :=
  ⟨by simp, by simp⟩
theorem cell_alloc_l {W : World} {a : Addr} {v : Value} (o : Obj) (h : W.cell? a = some v) : (W.alloc o).cell? a = some v := cell_kept h (World.grownBy_alloc W o none) (fun r e => by cases e)
theorem frozen_alloc_l {W : World} {a : Addr} {v : Value} (o : Obj) (h : W.cell? a = some v) (hf : W.frozen? a = false) : (W.alloc o).frozen? a = false := (frozen_kept h (World.grownBy_alloc W o none) (fun r e => by cases e)).trans hf

/-- how many blocks a range touches, and their keys -/
def tC (a k : Nat) : Nat := if k = 0 then 0 else (a + k - 1) / 2048 + 1 - a / 2048
/-- a key's number -/
abbrev K31 := { x : Int // 0 ≤ x ∧ x ≤ 31 }
def tK (ks : List Int) (a c : Nat) : List Int := (List.range c).map fun j => ks.getD (a / 2048 + j) 0
theorem tK_succ (ks : List Int) (a c : Nat) : tK ks a (c + 1) = tK ks a c ++ [ks.getD (a / 2048 + c) 0] := by simp [tK, List.range_succ]
theorem tK_len (ks : List Int) (a c : Nat) : (tK ks a c).length = c := by simp [tK]
theorem tK_sub {ks : List Int} {a c d : Nat} (h : c ≤ d) {z : Int} (hz : z ∈ tK ks a c) : z ∈ tK ks a d := by
  obtain ⟨j, hj, rfl⟩ := List.mem_map.1 hz
  exact List.mem_map.2 ⟨j, List.mem_range.2 (Nat.lt_of_lt_of_le (List.mem_range.1 hj) h), rfl⟩
theorem okB_tK (al : Int → Bool) (ks : List Int) (a k : Nat) : okB al ks a k = (tK ks a (tC a k)).all al := by
  rw [Bool.eq_iff_iff]
  unfold okB tK
  rw [List.all_eq_true, List.all_eq_true]
  constructor
  · intro h x hx
    obtain ⟨j, hj, rfl⟩ := List.mem_map.1 hx
    rw [List.mem_range] at hj
    have hk : k ≠ 0 := by rintro rfl; simp [tC] at hj
    unfold tC at hj
    rw [if_neg hk] at hj
    by_cases hc : (a / 2048 + j) * 2048 ≤ a
    · have h1 := h 0 (List.mem_range.2 (by omega))
      rwa [show (a + 0) / 2048 = a / 2048 + j from by omega] at h1
    · have h1 := h ((a / 2048 + j) * 2048 - a) (List.mem_range.2 (by omega))
      rwa [show (a + ((a / 2048 + j) * 2048 - a)) / 2048 = a / 2048 + j from by omega] at h1
  · intro h j hj
    rw [List.mem_range] at hj
    have h1 := h (ks.getD (a / 2048 + ((a + j) / 2048 - a / 2048)) 0) (List.mem_map.2 ⟨(a + j) / 2048 - a / 2048, List.mem_range.2 (by unfold tC; rw [if_neg (by omega)]; omega), rfl⟩)
    rwa [show a / 2048 + ((a + j) / 2048 - a / 2048) = (a + j) / 2048 from by omega] at h1

theorem put1_c (Kb : Nat) (k key : Int) (hk : 0 ≤ k) (hk' : k ≤ 31) (w : World) (hc : w.cell? ⟨Kb, 0, none⟩ = some (.int .i64 key)) : Calls Try.prog 33 #[.int .i64 k, .pointer (some ⟨Kb, 0, none⟩)] w fun e w' => e = .returned (.bool (alP key k)) ∧ w = w' := by
  by_cases q0 : key = 0
  · subst q0
    have hr := Lib.hid (show alP 0 k = true from by simp [alP] <;> omega)
    go_enter Try.func33, Try.ntmps33
    go_wp2
    go_ret
    exact ⟨by rw [hr.out]; rfl, rfl⟩
  have e1 : (key == 0) = false := by simpa using q0
  by_cases q1 : key = k / 2
  · have e2 : (key == k / 2) = true := by rw [beq_iff_eq]; exact q1
    have hr := Lib.hid (show alP key k = true from by simp [alP] <;> omega)
    clear q1
    go_enter Try.func33, Try.ntmps33
    go_wp2
    go_ret
    exact ⟨by rw [hr.out]; rfl, rfl⟩
  have e2 : (key == k / 2) = false := by rw [beq_eq_false_iff_ne]; exact q1
  have hr := Lib.hid (show alP key k = false from by simp [alP] <;> omega)
  clear q0 q1
  go_enter Try.func33, Try.ntmps33
  go_wp2
  go_ret
  exact ⟨by rw [hr.out]; rfl, rfl⟩

theorem fetch1_c (Kb : Nat) (k key : Int) (hk : 0 ≤ k) (hk' : k ≤ 31) (w : World) (hc : w.cell? ⟨Kb, 0, none⟩ = some (.int .i64 key)) : Calls Try.prog 107 #[.int .i64 k, .pointer (some ⟨Kb, 0, none⟩)] w fun e w' => e = .returned (.bool (alF key k)) ∧ w = w' := by
  by_cases q0 : key = 0
  · subst q0
    have hr := Lib.hid (show alF 0 k = true from by simp [alF] <;> omega)
    go_enter Try.func107, Try.ntmps107
    go_wp2
    go_ret
    exact ⟨by rw [hr.out]; rfl, rfl⟩
  have e1 : (key == 0) = false := by simpa using q0
  by_cases q1 : key = k / 2
  · have e2 : (key == k / 2) = true := by rw [beq_iff_eq]; exact q1
    have hr := Lib.hid (show alF key k = true from by simp [alF] <;> omega)
    clear q1
    go_enter Try.func107, Try.ntmps107
    go_wp2
    go_ret
    exact ⟨by rw [hr.out]; rfl, rfl⟩
  have e2 : (key == k / 2) = false := by rw [beq_eq_false_iff_ne]; exact q1
  by_cases q2 : k % 2 = 0
  · have e3 : (k % 2 == 0) = true := by rw [beq_iff_eq]; exact q2
    have hr := Lib.hid (show alF key k = true from by simp [alF] <;> omega)
    clear q2
    go_enter Try.func107, Try.ntmps107
    go_wp2
    go_ret
    exact ⟨by rw [hr.out]; rfl, rfl⟩
  have e3 : (k % 2 == 0) = false := by rw [beq_eq_false_iff_ne]; exact q2
  have hr := Lib.hid (show alF key k = false from by simp [alF] <;> omega)
  clear q0 q1
  go_enter Try.func107, Try.ntmps107
  go_wp2
  go_ret
  exact ⟨by rw [hr.out]; rfl, rfl⟩

theorem touched_c (p : Value) (a k : Int) (hp : ∃ x, p = .pointer x) (w : World) : Calls Try.prog 49 #[p, .int .i64 a, .int .i64 k] w fun e w' => e = .returned (.func (.func 93) #[] #[.pointer (some ⟨w.heap.size + 1 + 1, 0, none⟩), .pointer (some ⟨w.heap.size + 1, 0, none⟩), .pointer (some ⟨w.heap.size, 0, none⟩)]) ∧ w' = ((w.alloc (.cells #[p] 40)).alloc (.cells #[.int .i64 a] 3)).alloc (.cells #[.int .i64 k] 3) := by
  obtain ⟨x, rfl⟩ := hp
  go_enter Try.func49, Try.ntmps49
  go_wp2
  go_ret
  exact ⟨rfl, rfl⟩

set_option maxRecDepth 100000 in
set_option maxHeartbeats 2000000 in
theorem touched1_stops (n : Nat) (hn : 1 ≤ n) {F : Foot} {bs ks : List Int} (a k Bn Ba Bs n₀ : Nat) (w : World) (h : St 71 w F bs ks) (hak : a + k ≤ bs.length) (hg : F.g < n₀) (hk : F.gk < n₀) (h1 : Bn < n₀) (h2 : Ba < n₀) (h3 : Bs < n₀) (hn₀ : n₀ ≤ w.heap.size)
    (c1 : w.cell? ⟨Bn, 0, none⟩ = some (.int .i64 k)) (c2 : w.cell? ⟨Ba, 0, none⟩ = some (.int .i64 a)) (c3 : w.cell? ⟨Bs, 0, none⟩ = some (.pointer (some ⟨F.g, 0, none⟩))) :
    SeqStopsK Fence.wide n Try.prog 93 #[.pointer (some ⟨Bn, 0, none⟩), .pointer (some ⟨Ba, 0, none⟩), .pointer (some ⟨Bs, 0, none⟩)] (fun x : K31 => #[Value.int .i64 x.1]) (Below n₀) (fun ys => ys.map (·.1) = tK ks a (tC a k)) (fun pre => ∃ c, c ≤ tC a k ∧ pre.map (·.1) = tK ks a c) (tC a k) w := fun l J Jx W hW _ _ hY h0 => by
  have hB0 : Below n₀ w W := hW.mono hn₀
  have C1 := (hB0.cell (p := ⟨Bn, 0, none⟩) h1).trans c1
  have C2 := (hB0.cell (p := ⟨Ba, 0, none⟩) h2).trans c2
  have l0 := h.ln
  have l1 := h.l1
  have ak : (a : Int) + (k : Int) ≤ 65536 := by omega
  refine callsIn_of_wp Try.func93 rfl trivial ?_ rfl
  simp only [Try.ntmps93, List.size_toArray, List.length_cons, List.length_nil, Nat.reduceAdd, Nat.reduceSub, Array.replicate_succ, Array.replicate_zero, List.push_toArray, List.append_toArray, List.nil_append, List.cons_append]
  by_cases hk0 : k = 0
  · subst hk0
    have z : tK ks a (tC a 0) = [] := rfl
    gi_wp2
    refine bodyPost_ret (results_none rfl _ _ _) rfl ?_
    exact ⟨⟨_, rfl⟩, .inl (by first | exact ⟨[], z.symm, h0⟩ | exact ⟨[], rfl, h0⟩ | exact h0)⟩
  have e0 : ((k : Int) == 0) = false := by rw [beq_eq_false_iff_ne]; omega
  have hC : tC a k = (a + k - 1) / 2048 + 1 - a / 2048 := by unfold tC; rw [if_neg hk0]
  have HC := Lib.hid hC
  have k1 : (1 : Int) ≤ (k : Int) := by omega
  clear hC hk0
  gi_wp2
  gi_loopw [5] (fun iv wr => ∃ (x : Nat) (pre : List K31), a / 2048 ≤ x ∧ x ≤ a / 2048 + tC a k ∧ iv = .int .i64 x ∧ pre.map (·.1) = tK ks a (x - a / 2048) ∧ J pre wr ∧ Below n₀ w wr) (fun iv _ => a / 2048 + tC a k - (intOf iv).toNat)
  case atStart => exact ⟨a / 2048, [], Nat.le_refl _, by omega, by simp, by rw [Nat.sub_self]; rfl, h0, hB0⟩
  case round =>
    obtain ⟨x, pre, x0, x1, rfl, hpre, hJs, hnx⟩ := hrel
    have PR := Lib.hid hpre
    have PL := Lib.hid (show pre.length = x - a / 2048 from by have := congrArg List.length hpre; rwa [List.length_map, tK_len] at this)
    clear hpre
    have D1 := (hnx.cell (p := ⟨Bn, 0, none⟩) h1).trans c1
    have D2 := (hnx.cell (p := ⟨Ba, 0, none⟩) h2).trans c2
    have D3 := (hnx.cell (p := ⟨Bs, 0, none⟩) h3).trans c3
    have D4 := (hnx.cell (p := ⟨F.g, 1, none⟩) hg).trans h.cell1
    obtain ⟨m, hm⟩ : ∃ m, ks.length = m := ⟨_, rfl⟩
    rw [hm] at D4 l0 l1
    by_cases hlt : (x : Int) ≤ ((a : Int) + (k : Int) - 1) / 2048
    · have xm : (x : Int) < (m : Int) := by omega
      have D5 := (hnx.cell (p := ⟨F.gk, x, none⟩) hk).trans (h.key (i := x) (by rw [hm]; omega))
      obtain ⟨kv, hkv⟩ : ∃ kv, ks.getD x 0 = kv := ⟨_, rfl⟩
      rw [hkv] at D5
      obtain ⟨kv', hkv'⟩ : ∃ kv' : K31, kv'.1 = kv := ⟨⟨kv, by rw [← hkv]; exact h.keyr x⟩, rfl⟩
      obtain ⟨fn, tmps, assign, body, hy, hR⟩ := hY pre kv' wr hJs (by rw [PL.out]; have := HC.out; omega)
      rw [hkv'] at hy
      have st := Lib.hid (show (pre ++ [kv']).map (·.1) = tK ks a (x + 1 - a / 2048) from by rw [List.map_append, PR.out, List.map_cons, List.map_nil, hkv', show x + 1 - a / 2048 = (x - a / 2048) + 1 from by omega, tK_succ, show a / 2048 + (x - a / 2048) = x from by omega, hkv])
      have X := Lib.hid (And.intro x0 x1)
      have HM := Lib.hid hm
      have LN := Lib.hid l0
      clear hkv hkv' hm l0
      gi_wp2
      refine hR.mono ?_
      rintro e W3 (⟨rfl, hJ3, hk3⟩ | ⟨rfl, hJx3⟩)
      · gi_wp2
        go_roundw
        case rel => exact ⟨x + 1, pre ++ [kv'], by omega, by have := HC.out; omega, by go_num, st.out, hJ3, hnx.trans hk3⟩
        case measure => simp [intOf]; have := HC.out; omega
      · gi_wp2
        refine bodyPost_ret (results_none rfl _ _ _) rfl ?_
        exact ⟨⟨_, rfl⟩, .inr ⟨_, ⟨x + 1 - a / 2048, by have := HC.out; omega, st.out⟩, hJx3⟩⟩
    · have fin : x - a / 2048 = tC a k := by have := HC.out; omega
      have PF := Lib.hid (show pre.map (·.1) = tK ks a (tC a k) from by rw [← fin]; exact PR.out)
      clear fin
      gi_wp2
      go_end0
      exact ⟨⟨_, rfl⟩, .inl ⟨pre, PF.out, hJs⟩⟩

set_option maxRecDepth 100000 in
set_option maxHeartbeats 4000000 in
theorem check_p {F : Foot} {bs ks : List Int} (addr n key : Int) (Kb : Nat) (w : World) (h : St 71 w F bs ks) (hc : w.cell? ⟨Kb, 0, none⟩ = some (.int .i64 key)) :
    Calls Try.prog 32 #[.pointer (some ⟨F.g, 0, none⟩), .int .i64 addr, .int .i64 n, .func (.func 33) #[] #[.pointer (some ⟨Kb, 0, none⟩)]] w fun e w' => e = .returned (.int .i64 (sCode (alP key) bs.length ks addr n)) ∧ Below w.heap.size w w' := by
  obtain ⟨N, hN⟩ : ∃ N, bs.length = N := ⟨_, rfl⟩
  have H := Lib.hid h
  have HN := Lib.hid hN
  rw [hN]
  clear hN h
  have kl : Kb < w.heap.size := by
    rcases Nat.lt_or_ge Kb w.heap.size with h2 | h2
    · exact h2
    · unfold World.cell? at hc; simp only [Array.getElem?_eq_none h2] at hc; cases hc
  refine (callsIn_wide (n := 5)).1 ?_
  refine callsIn_of_wp_marks Try.func32 rfl trivial ?_ rfl
  simp only [Try.ntmps32, List.size_toArray, List.length_cons, List.length_nil, Nat.reduceAdd, Nat.reduceSub, Array.replicate_succ, Array.replicate_zero, List.push_toArray, List.append_toArray, List.nil_append, List.cons_append]
  cases hi : sIn N addr n
  · rw [sCode_no hi]
    gi_wp2_with (refine ⟨trivial, ?_⟩; gi_at_call 34; refine (callsIn_wide.2 (in_c _ ((H.out.alloc _).alloc _) _ _)).mono ?_; rintro e w1 ⟨rfl, rfl⟩; rw [HN.out, hi])
    refine ⟨.int .i64 5, by simp [results, Try.results32, go_sem], rfl, ((Below.refl w.heap.size w).alloc (Nat.le_refl _) _).alloc (by simp) _⟩
  obtain ⟨b0, b1, b2, b3⟩ := sIn_yes hi
  obtain ⟨a, rfl⟩ := Int.eq_ofNat_of_zero_le b0
  obtain ⟨k, rfl⟩ := Int.eq_ofNat_of_zero_le b1
  rw [sCode_yes hi]
  obtain ⟨r, hr⟩ : ∃ r : Int, (if okB (alP key) ks a k = true then 0 else 4) = r := ⟨_, rfl⟩
  rw [hr]
  have HR := Lib.hid hr
  clear hr
  have hak : a + k ≤ bs.length := by rw [HN.out]; omega
  gi_wp2_with (refine ⟨trivial, ?_⟩; first | (gi_at_call 34; refine (callsIn_wide.2 (in_c _ ((H.out.alloc _).alloc _) _ _)).mono ?_; rintro e w1 ⟨rfl, rfl⟩; rw [HN.out, hi]) | (gi_at_call 49; refine (callsIn_wide.2 (touched_c _ _ _ ⟨_, rfl⟩ _)).mono ?_; rintro e w1 ⟨rfl, rfl⟩))
  obtain ⟨W0, hW0⟩ : ∃ W0, (((((w.alloc (.cells #[.func (.func 33) #[] #[.pointer (some ⟨Kb, 0, none⟩)]] 22)).alloc (.cells #[.int .i64 0] 3)).alloc (.cells #[.pointer (some ⟨F.g, 0, none⟩)] 40)).alloc (.cells #[.int .i64 a] 3)).alloc (.cells #[.int .i64 k] 3)) = W0 := ⟨_, rfl⟩
  rw [hW0]
  have hz : W0.heap.size = w.heap.size + 5 := by rw [← hW0]; simp
  have hB0 : Below w.heap.size w W0 := by rw [← hW0]; exact (((((Below.refl w.heap.size w).alloc (Nat.le_refl _) _).alloc (by simp) _).alloc (by simp; omega) _).alloc (by simp; omega) _).alloc (by simp; omega) _
  have q0 := cell_new_l w (.func (.func 33) #[] #[.pointer (some ⟨Kb, 0, none⟩)]) 22
  have q1 := cell_new_l (w.alloc (.cells #[.func (.func 33) #[] #[.pointer (some ⟨Kb, 0, none⟩)]] 22)) (.int .i64 0) 3
  have q2 := cell_new_l ((w.alloc (.cells #[.func (.func 33) #[] #[.pointer (some ⟨Kb, 0, none⟩)]] 22)).alloc (.cells #[.int .i64 0] 3)) (.pointer (some ⟨F.g, 0, none⟩)) 40
  have q3 := cell_new_l (((w.alloc (.cells #[.func (.func 33) #[] #[.pointer (some ⟨Kb, 0, none⟩)]] 22)).alloc (.cells #[.int .i64 0] 3)).alloc (.cells #[.pointer (some ⟨F.g, 0, none⟩)] 40)) (.int .i64 a) 3
  have q4 := cell_new_l ((((w.alloc (.cells #[.func (.func 33) #[] #[.pointer (some ⟨Kb, 0, none⟩)]] 22)).alloc (.cells #[.int .i64 0] 3)).alloc (.cells #[.pointer (some ⟨F.g, 0, none⟩)] 40)).alloc (.cells #[.int .i64 a] 3)) (.int .i64 k) 3
  simp only [World.size_alloc] at q1 q2 q3 q4
  have k0 : W0.cell? ⟨w.heap.size, 0, none⟩ = some (.func (.func 33) #[] #[.pointer (some ⟨Kb, 0, none⟩)]) := by rw [← hW0]; exact cell_alloc_l _ (cell_alloc_l _ (cell_alloc_l _ (cell_alloc_l _ q0.1)))
  have k1 : W0.cell? ⟨w.heap.size + 1, 0, none⟩ = some (.int .i64 0) := by rw [← hW0]; exact cell_alloc_l _ (cell_alloc_l _ (cell_alloc_l _ q1.1))
  have f1 : W0.frozen? ⟨w.heap.size + 1, 0, none⟩ = false := by rw [← hW0]; exact frozen_alloc_l _ (cell_alloc_l _ (cell_alloc_l _ q1.1)) (frozen_alloc_l _ (cell_alloc_l _ q1.1) (frozen_alloc_l _ q1.1 q1.2))
  have k2 : W0.cell? ⟨w.heap.size + 1 + 1, 0, none⟩ = some (.pointer (some ⟨F.g, 0, none⟩)) := by rw [← hW0]; exact cell_alloc_l _ (cell_alloc_l _ q2.1)
  have k3 : W0.cell? ⟨w.heap.size + 1 + 1 + 1, 0, none⟩ = some (.int .i64 a) := by rw [← hW0]; exact cell_alloc_l _ q3.1
  have k4 : W0.cell? ⟨w.heap.size + 1 + 1 + 1 + 1, 0, none⟩ = some (.int .i64 k) := by rw [← hW0]; exact q4.1
  have k5 : W0.cell? ⟨Kb, 0, none⟩ = some (.int .i64 key) := (hB0.cell (p := ⟨Kb, 0, none⟩) kl).trans hc
  have HS := Lib.hid (H.out.belowS hB0)
  have lg := H.out.ltg
  have lk := H.out.ltk
  skip
  refine wpIn_rangeFunc_ownF rfl (by omega) (gf := 93) (lb := #[.pointer (some ⟨w.heap.size + 1 + 1 + 1 + 1, 0, none⟩), .pointer (some ⟨w.heap.size + 1 + 1 + 1, 0, none⟩), .pointer (some ⟨w.heap.size + 1 + 1, 0, none⟩)]) rfl trivial (enters_of Try.func93 (by kernel_rfl) rfl)
    (touched1_stops (5 - 1) (by omega) a k (w.heap.size + 1 + 1 + 1 + 1) (w.heap.size + 1 + 1 + 1) (w.heap.size + 1 + 1) (w.heap.size + 5) W0 HS.out hak (by omega) (by omega) (by omega) (by omega) (by omega) (by omega) k4 k3 k2) belowK_t (belowK_b (by omega)) (Below.refl _ _) (fun _ => rfl)
    (fun pre W => ((∀ y ∈ pre, alP key y.1 = true) ∧ W.cell? ⟨w.heap.size, 0, none⟩ = some (.func (.func 33) #[] #[.pointer (some ⟨Kb, 0, none⟩)]) ∧ W.cell? ⟨w.heap.size + 1, 0, none⟩ = some (.int .i64 0) ∧ W.frozen? ⟨w.heap.size + 1, 0, none⟩ = false ∧ W.cell? ⟨Kb, 0, none⟩ = some (.int .i64 key)) ∧ Below w.heap.size w W)
    (fun c pre W => (c = .ret ∧ (∃ y ∈ pre, alP key y.1 = false) ∧ W.cell? ⟨w.heap.size + 1, 0, none⟩ = some (.int .i64 4)) ∧ Below w.heap.size w W)
    (OwnFrom.and (Own.from (fun s A B row hs hg hr => ⟨hs.1, cell_kept hs.2.1 hg hr, cell_kept hs.2.2.1 hg hr, (frozen_kept hs.2.2.1 hg hr).trans hs.2.2.2.1, cell_kept hs.2.2.2.2 hg hr⟩) _) (ownFrom_below (Nat.le_refl _) (by omega)))
    (fun c => OwnFrom.and (Own.from (fun s A B row hs hg hr => ⟨hs.1, hs.2.1, cell_kept hs.2.2 hg hr⟩) _) (ownFrom_below (Nat.le_refl _) (by omega)))
    ⟨⟨by simp, k0, k1, f1, k5⟩, hB0⟩
    (fun x => { tmps := #[.pointer (some ⟨F.g, 0, none⟩), .int .i64 a, .int .i64 k, .func (.func 33) #[] #[.pointer (some ⟨Kb, 0, none⟩)], undef, undef, undef, .pointer (some ⟨w.heap.size, 0, none⟩), .pointer (some ⟨w.heap.size + 1, 0, none⟩), .int .i64 x.1, .pointer (some ⟨F.g, 0, none⟩), .int .i64 a, .int .i64 k, .bool true, .bool false, .pointer (some ⟨F.g, 0, none⟩), .int .i64 a, .int .i64 k, .func (.func 93) #[] #[.pointer (some ⟨w.heap.size + 1 + 1 + 1 + 1, 0, none⟩), .pointer (some ⟨w.heap.size + 1 + 1 + 1, 0, none⟩), .pointer (some ⟨w.heap.size + 1 + 1, 0, none⟩)], .int .i64 x.1, undef, undef, undef, undef], defers := [] }) ?assign ?body ?done ?stop
  case assign =>
    intro l x W K hK
    gi_wp2
    exact hK
  case body =>
    rintro l pre x W ⟨⟨hal, hclo, hres, hfr, hkey⟩, hB⟩ hlen
    cases hx : alP key x.1
    · gi_wp2_with (refine ⟨trivial, ?_⟩; gi_at_call 33; refine (CallsIn.inRound l (callsIn_wide.2 (put1_c Kb _ key x.2.1 x.2.2 _ hkey))).mono ?_; rintro e w1 ⟨rfl, rfl⟩; rw [hx])
      exact ⟨KeepsOthers.setCell _ _ _, ⟨rfl, ⟨x, by simp, hx⟩, World.cell?_setCell_same' _ _ _ (by rw [hres]; rfl)⟩, hB.setCell (p := ⟨w.heap.size + 1, 0, none⟩) (by simp) _⟩
    · gi_wp2_with (refine ⟨trivial, ?_⟩; gi_at_call 33; refine (CallsIn.inRound l (callsIn_wide.2 (put1_c Kb _ key x.2.1 x.2.2 _ hkey))).mono ?_; rintro e w1 ⟨rfl, rfl⟩; rw [hx])
      refine ⟨KeepsOthers.refl _, Below.refl _ _, ⟨?_, hclo, hres, hfr, hkey⟩, hB⟩
      intro y hy
      rcases List.mem_append.1 hy with h1 | h1
      · exact hal y h1
      · rw [List.mem_singleton] at h1; rw [h1]; exact hx
  case done =>
    rintro D ys W hD hys ⟨⟨hal, hclo, hres, hfr, hkey⟩, hB⟩ hK
    have hok : okB (alP key) ks a k = true := by
      rw [okB_tK, ← hys, List.all_eq_true]
      intro z hz
      obtain ⟨y, hy, rfl⟩ := List.mem_map.1 hz
      exact hal y hy
    have fin := Lib.hid (show (0 : Int) = r from by rw [← HR.out, hok]; rfl)
    clear hok
    gi_wp2
    have hK' := (KeepsOthers.setCell W ⟨w.heap.size + 1, 0, none⟩ (.int .i64 0)).same D _ hK rfl
    refine ⟨by simp, .inl ⟨_, _, rfl, run_takeDeferred hK', ?_⟩⟩
    have hc5 := cell_kept (World.cell?_setCell_same' W ⟨w.heap.size + 1, 0, none⟩ (.int .i64 0) (by rw [hres]; rfl)) (grownBy_putObj' _ D (.deferred none)) (fun r e => by cases e; exact ⟨_, hK', rfl⟩)
    refine ⟨.int .i64 0, ?_, by rw [fin.out], (hB.setCell (p := ⟨w.heap.size + 1, 0, none⟩) (by simp) _).trans (belowK_b (w := w) (Nat.le_refl _) _ D _ _ (by omega) hK' rfl rfl)⟩
    simp [results, Try.results32, go_sem, hc5]
  case stop =>
    rintro D c pre W hD ⟨cc, hcc, hpre⟩ ⟨⟨rfl, ⟨y, hy, hf⟩, hres⟩, hB⟩ hK
    have hok : okB (alP key) ks a k = false := by
      rw [okB_tK, Bool.eq_false_iff]
      intro h1
      rw [List.all_eq_true] at h1
      have h2 := h1 y.1 (tK_sub hcc (by rw [← hpre]; exact List.mem_map.2 ⟨y, hy, rfl⟩))
      rw [hf] at h2; cases h2
    have fin := Lib.hid (show (4 : Int) = r from by rw [← HR.out, hok]; rfl)
    clear hok
    gi_wp2
    refine ⟨by simp, .inl ⟨_, _, rfl, run_takeDeferred hK, ?_⟩⟩
    have hc5 := cell_kept hres (grownBy_putObj' _ D (.deferred none)) (fun r e => by cases e; exact ⟨_, hK, rfl⟩)
    refine ⟨.int .i64 4, ?_, by rw [fin.out], hB.trans (belowK_b (w := w) (Nat.le_refl _) W D _ _ (by omega) hK rfl rfl)⟩
    simp [results, Try.results32, go_sem, hc5]

set_option maxRecDepth 100000 in
set_option maxHeartbeats 4000000 in
theorem check_f {F : Foot} {bs ks : List Int} (addr n key : Int) (Kb : Nat) (w : World) (h : St 71 w F bs ks) (hc : w.cell? ⟨Kb, 0, none⟩ = some (.int .i64 key)) :
    Calls Try.prog 32 #[.pointer (some ⟨F.g, 0, none⟩), .int .i64 addr, .int .i64 n, .func (.func 107) #[] #[.pointer (some ⟨Kb, 0, none⟩)]] w fun e w' => e = .returned (.int .i64 (sCode (alF key) bs.length ks addr n)) ∧ Below w.heap.size w w' := by
  obtain ⟨N, hN⟩ : ∃ N, bs.length = N := ⟨_, rfl⟩
  have H := Lib.hid h
  have HN := Lib.hid hN
  rw [hN]
  clear hN h
  have kl : Kb < w.heap.size := by
    rcases Nat.lt_or_ge Kb w.heap.size with h2 | h2
    · exact h2
    · unfold World.cell? at hc; simp only [Array.getElem?_eq_none h2] at hc; cases hc
  refine (callsIn_wide (n := 5)).1 ?_
  refine callsIn_of_wp_marks Try.func32 rfl trivial ?_ rfl
  simp only [Try.ntmps32, List.size_toArray, List.length_cons, List.length_nil, Nat.reduceAdd, Nat.reduceSub, Array.replicate_succ, Array.replicate_zero, List.push_toArray, List.append_toArray, List.nil_append, List.cons_append]
  cases hi : sIn N addr n
  · rw [sCode_no hi]
    gi_wp2_with (refine ⟨trivial, ?_⟩; gi_at_call 34; refine (callsIn_wide.2 (in_c _ ((H.out.alloc _).alloc _) _ _)).mono ?_; rintro e w1 ⟨rfl, rfl⟩; rw [HN.out, hi])
    refine ⟨.int .i64 5, by simp [results, Try.results32, go_sem], rfl, ((Below.refl w.heap.size w).alloc (Nat.le_refl _) _).alloc (by simp) _⟩
  obtain ⟨b0, b1, b2, b3⟩ := sIn_yes hi
  obtain ⟨a, rfl⟩ := Int.eq_ofNat_of_zero_le b0
  obtain ⟨k, rfl⟩ := Int.eq_ofNat_of_zero_le b1
  rw [sCode_yes hi]
  obtain ⟨r, hr⟩ : ∃ r : Int, (if okB (alF key) ks a k = true then 0 else 4) = r := ⟨_, rfl⟩
  rw [hr]
  have HR := Lib.hid hr
  clear hr
  have hak : a + k ≤ bs.length := by rw [HN.out]; omega
  gi_wp2_with (refine ⟨trivial, ?_⟩; first | (gi_at_call 34; refine (callsIn_wide.2 (in_c _ ((H.out.alloc _).alloc _) _ _)).mono ?_; rintro e w1 ⟨rfl, rfl⟩; rw [HN.out, hi]) | (gi_at_call 49; refine (callsIn_wide.2 (touched_c _ _ _ ⟨_, rfl⟩ _)).mono ?_; rintro e w1 ⟨rfl, rfl⟩))
  obtain ⟨W0, hW0⟩ : ∃ W0, (((((w.alloc (.cells #[.func (.func 107) #[] #[.pointer (some ⟨Kb, 0, none⟩)]] 22)).alloc (.cells #[.int .i64 0] 3)).alloc (.cells #[.pointer (some ⟨F.g, 0, none⟩)] 40)).alloc (.cells #[.int .i64 a] 3)).alloc (.cells #[.int .i64 k] 3)) = W0 := ⟨_, rfl⟩
  rw [hW0]
  have hz : W0.heap.size = w.heap.size + 5 := by rw [← hW0]; simp
  have hB0 : Below w.heap.size w W0 := by rw [← hW0]; exact (((((Below.refl w.heap.size w).alloc (Nat.le_refl _) _).alloc (by simp) _).alloc (by simp; omega) _).alloc (by simp; omega) _).alloc (by simp; omega) _
  have q0 := cell_new_l w (.func (.func 107) #[] #[.pointer (some ⟨Kb, 0, none⟩)]) 22
  have q1 := cell_new_l (w.alloc (.cells #[.func (.func 107) #[] #[.pointer (some ⟨Kb, 0, none⟩)]] 22)) (.int .i64 0) 3
  have q2 := cell_new_l ((w.alloc (.cells #[.func (.func 107) #[] #[.pointer (some ⟨Kb, 0, none⟩)]] 22)).alloc (.cells #[.int .i64 0] 3)) (.pointer (some ⟨F.g, 0, none⟩)) 40
  have q3 := cell_new_l (((w.alloc (.cells #[.func (.func 107) #[] #[.pointer (some ⟨Kb, 0, none⟩)]] 22)).alloc (.cells #[.int .i64 0] 3)).alloc (.cells #[.pointer (some ⟨F.g, 0, none⟩)] 40)) (.int .i64 a) 3
  have q4 := cell_new_l ((((w.alloc (.cells #[.func (.func 107) #[] #[.pointer (some ⟨Kb, 0, none⟩)]] 22)).alloc (.cells #[.int .i64 0] 3)).alloc (.cells #[.pointer (some ⟨F.g, 0, none⟩)] 40)).alloc (.cells #[.int .i64 a] 3)) (.int .i64 k) 3
  simp only [World.size_alloc] at q1 q2 q3 q4
  have k0 : W0.cell? ⟨w.heap.size, 0, none⟩ = some (.func (.func 107) #[] #[.pointer (some ⟨Kb, 0, none⟩)]) := by rw [← hW0]; exact cell_alloc_l _ (cell_alloc_l _ (cell_alloc_l _ (cell_alloc_l _ q0.1)))
  have k1 : W0.cell? ⟨w.heap.size + 1, 0, none⟩ = some (.int .i64 0) := by rw [← hW0]; exact cell_alloc_l _ (cell_alloc_l _ (cell_alloc_l _ q1.1))
  have f1 : W0.frozen? ⟨w.heap.size + 1, 0, none⟩ = false := by rw [← hW0]; exact frozen_alloc_l _ (cell_alloc_l _ (cell_alloc_l _ q1.1)) (frozen_alloc_l _ (cell_alloc_l _ q1.1) (frozen_alloc_l _ q1.1 q1.2))
  have k2 : W0.cell? ⟨w.heap.size + 1 + 1, 0, none⟩ = some (.pointer (some ⟨F.g, 0, none⟩)) := by rw [← hW0]; exact cell_alloc_l _ (cell_alloc_l _ q2.1)
  have k3 : W0.cell? ⟨w.heap.size + 1 + 1 + 1, 0, none⟩ = some (.int .i64 a) := by rw [← hW0]; exact cell_alloc_l _ q3.1
  have k4 : W0.cell? ⟨w.heap.size + 1 + 1 + 1 + 1, 0, none⟩ = some (.int .i64 k) := by rw [← hW0]; exact q4.1
  have k5 : W0.cell? ⟨Kb, 0, none⟩ = some (.int .i64 key) := (hB0.cell (p := ⟨Kb, 0, none⟩) kl).trans hc
  have HS := Lib.hid (H.out.belowS hB0)
  have lg := H.out.ltg
  have lk := H.out.ltk
  skip
  refine wpIn_rangeFunc_ownF rfl (by omega) (gf := 93) (lb := #[.pointer (some ⟨w.heap.size + 1 + 1 + 1 + 1, 0, none⟩), .pointer (some ⟨w.heap.size + 1 + 1 + 1, 0, none⟩), .pointer (some ⟨w.heap.size + 1 + 1, 0, none⟩)]) rfl trivial (enters_of Try.func93 (by kernel_rfl) rfl)
    (touched1_stops (5 - 1) (by omega) a k (w.heap.size + 1 + 1 + 1 + 1) (w.heap.size + 1 + 1 + 1) (w.heap.size + 1 + 1) (w.heap.size + 5) W0 HS.out hak (by omega) (by omega) (by omega) (by omega) (by omega) (by omega) k4 k3 k2) belowK_t (belowK_b (by omega)) (Below.refl _ _) (fun _ => rfl)
    (fun pre W => ((∀ y ∈ pre, alF key y.1 = true) ∧ W.cell? ⟨w.heap.size, 0, none⟩ = some (.func (.func 107) #[] #[.pointer (some ⟨Kb, 0, none⟩)]) ∧ W.cell? ⟨w.heap.size + 1, 0, none⟩ = some (.int .i64 0) ∧ W.frozen? ⟨w.heap.size + 1, 0, none⟩ = false ∧ W.cell? ⟨Kb, 0, none⟩ = some (.int .i64 key)) ∧ Below w.heap.size w W)
    (fun c pre W => (c = .ret ∧ (∃ y ∈ pre, alF key y.1 = false) ∧ W.cell? ⟨w.heap.size + 1, 0, none⟩ = some (.int .i64 4)) ∧ Below w.heap.size w W)
    (OwnFrom.and (Own.from (fun s A B row hs hg hr => ⟨hs.1, cell_kept hs.2.1 hg hr, cell_kept hs.2.2.1 hg hr, (frozen_kept hs.2.2.1 hg hr).trans hs.2.2.2.1, cell_kept hs.2.2.2.2 hg hr⟩) _) (ownFrom_below (Nat.le_refl _) (by omega)))
    (fun c => OwnFrom.and (Own.from (fun s A B row hs hg hr => ⟨hs.1, hs.2.1, cell_kept hs.2.2 hg hr⟩) _) (ownFrom_below (Nat.le_refl _) (by omega)))
    ⟨⟨by simp, k0, k1, f1, k5⟩, hB0⟩
    (fun x => { tmps := #[.pointer (some ⟨F.g, 0, none⟩), .int .i64 a, .int .i64 k, .func (.func 107) #[] #[.pointer (some ⟨Kb, 0, none⟩)], undef, undef, undef, .pointer (some ⟨w.heap.size, 0, none⟩), .pointer (some ⟨w.heap.size + 1, 0, none⟩), .int .i64 x.1, .pointer (some ⟨F.g, 0, none⟩), .int .i64 a, .int .i64 k, .bool true, .bool false, .pointer (some ⟨F.g, 0, none⟩), .int .i64 a, .int .i64 k, .func (.func 93) #[] #[.pointer (some ⟨w.heap.size + 1 + 1 + 1 + 1, 0, none⟩), .pointer (some ⟨w.heap.size + 1 + 1 + 1, 0, none⟩), .pointer (some ⟨w.heap.size + 1 + 1, 0, none⟩)], .int .i64 x.1, undef, undef, undef, undef], defers := [] }) ?assign ?body ?done ?stop
  case assign =>
    intro l x W K hK
    gi_wp2
    exact hK
  case body =>
    rintro l pre x W ⟨⟨hal, hclo, hres, hfr, hkey⟩, hB⟩ hlen
    cases hx : alF key x.1
    · gi_wp2_with (refine ⟨trivial, ?_⟩; gi_at_call 107; refine (CallsIn.inRound l (callsIn_wide.2 (fetch1_c Kb _ key x.2.1 x.2.2 _ hkey))).mono ?_; rintro e w1 ⟨rfl, rfl⟩; rw [hx])
      exact ⟨KeepsOthers.setCell _ _ _, ⟨rfl, ⟨x, by simp, hx⟩, World.cell?_setCell_same' _ _ _ (by rw [hres]; rfl)⟩, hB.setCell (p := ⟨w.heap.size + 1, 0, none⟩) (by simp) _⟩
    · gi_wp2_with (refine ⟨trivial, ?_⟩; gi_at_call 107; refine (CallsIn.inRound l (callsIn_wide.2 (fetch1_c Kb _ key x.2.1 x.2.2 _ hkey))).mono ?_; rintro e w1 ⟨rfl, rfl⟩; rw [hx])
      refine ⟨KeepsOthers.refl _, Below.refl _ _, ⟨?_, hclo, hres, hfr, hkey⟩, hB⟩
      intro y hy
      rcases List.mem_append.1 hy with h1 | h1
      · exact hal y h1
      · rw [List.mem_singleton] at h1; rw [h1]; exact hx
  case done =>
    rintro D ys W hD hys ⟨⟨hal, hclo, hres, hfr, hkey⟩, hB⟩ hK
    have hok : okB (alF key) ks a k = true := by
      rw [okB_tK, ← hys, List.all_eq_true]
      intro z hz
      obtain ⟨y, hy, rfl⟩ := List.mem_map.1 hz
      exact hal y hy
    have fin := Lib.hid (show (0 : Int) = r from by rw [← HR.out, hok]; rfl)
    clear hok
    gi_wp2
    have hK' := (KeepsOthers.setCell W ⟨w.heap.size + 1, 0, none⟩ (.int .i64 0)).same D _ hK rfl
    refine ⟨by simp, .inl ⟨_, _, rfl, run_takeDeferred hK', ?_⟩⟩
    have hc5 := cell_kept (World.cell?_setCell_same' W ⟨w.heap.size + 1, 0, none⟩ (.int .i64 0) (by rw [hres]; rfl)) (grownBy_putObj' _ D (.deferred none)) (fun r e => by cases e; exact ⟨_, hK', rfl⟩)
    refine ⟨.int .i64 0, ?_, by rw [fin.out], (hB.setCell (p := ⟨w.heap.size + 1, 0, none⟩) (by simp) _).trans (belowK_b (w := w) (Nat.le_refl _) _ D _ _ (by omega) hK' rfl rfl)⟩
    simp [results, Try.results32, go_sem, hc5]
  case stop =>
    rintro D c pre W hD ⟨cc, hcc, hpre⟩ ⟨⟨rfl, ⟨y, hy, hf⟩, hres⟩, hB⟩ hK
    have hok : okB (alF key) ks a k = false := by
      rw [okB_tK, Bool.eq_false_iff]
      intro h1
      rw [List.all_eq_true] at h1
      have h2 := h1 y.1 (tK_sub hcc (by rw [← hpre]; exact List.mem_map.2 ⟨y, hy, rfl⟩))
      rw [hf] at h2; cases h2
    have fin := Lib.hid (show (4 : Int) = r from by rw [← HR.out, hok]; rfl)
    clear hok
    gi_wp2
    refine ⟨by simp, .inl ⟨_, _, rfl, run_takeDeferred hK, ?_⟩⟩
    have hc5 := cell_kept hres (grownBy_putObj' _ D (.deferred none)) (fun r e => by cases e; exact ⟨_, hK, rfl⟩)
    refine ⟨.int .i64 4, ?_, by rw [fin.out], hB.trans (belowK_b (w := w) (Nat.le_refl _) W D _ _ (by omega) hK rfl rfl)⟩
    simp [results, Try.results32, go_sem, hc5]

end Go.Proofs.Ythjdjbipfdigeaa

namespace Go.Proofs.Ythjdjbipfdigeaa
open Go.RowKit
set_option maxRecDepth 100000
set_option linter.unusedVariables false
set_option linter.unusedSimpArgs false

theorem own_mono {w : World} {b b' n : Nat} {v : Value} {zs : List Int} (h : Own w b v n zs) (hb : b' ≤ b) : Own w b' v n zs := by
  refine ⟨⟨h.1.1, ?_⟩, h.2⟩
  rcases h.1.2 with h0 | ⟨g, cap, cur, h1, h2, h3⟩
  · exact .inl h0
  · exact .inr ⟨g, cap, cur, h1, Nat.le_trans hb h2, h3⟩

set_option maxHeartbeats 2000000 in
theorem put_c {F : Foot} {bs ks : List Int} (w : World) (h : St 71 w F bs ks) (addr key : Int) (A : Option Addr) (len cap : Nat) (ys : List Int) (hy : Byt w A len ys) (hl : (len : Int) ≤ 9223372036854775807) : Calls Try.prog 16 #[.pointer (some ⟨F.g, 0, none⟩), .int .i64 addr, .slice A len cap, .int .i64 key] w fun e w' => e = .returned (.int .i64 (sCode (alP key) bs.length ks addr len)) ∧ St 71 w' F (sPut (alP key) bs ks addr ys) ks ∧ w.grownBy w' (some F.gb) := by
  have H := Lib.hid h
  have HY := Lib.hid hy
  have HL := Lib.hid hy.1
  clear hy h
  obtain ⟨N, hN⟩ : ∃ N, bs.length = N := ⟨_, rfl⟩
  have n1 : (N : Int) ≤ 65536 := by have := H.out.ln; have := H.out.l1; omega
  have HN := Lib.hid hN
  clear hN
  obtain ⟨r, hr⟩ : ∃ r, sCode (alP key) bs.length ks addr len = r := ⟨_, rfl⟩
  rw [hr]
  have HR := Lib.hid hr
  by_cases h0 : r = 0
  · subst h0
    have hin := sCode_zero hr
    rw [HN.out] at hin
    obtain ⟨b0, b1, b2, b3⟩ := sIn_yes hin
    obtain ⟨a, rfl⟩ := Int.eq_ofNat_of_zero_le b0
    have g0 := Lib.hid (show a + len ≤ bs.length from by rw [HN.out]; omega)
    have a0 : (a : Int) ≤ (N : Int) := by omega
    have hp := Lib.hid (show sPut (alP key) bs ks (a : Int) ys = splice bs a ys from by unfold sPut; rw [HL.out, hr, if_pos rfl]; simp)
    have lb := H.out.capb
    rw [HN.out] at lb
    have lbb := H.out.maxb
    unfold maxLen at lbb
    have aN : a ≤ N := by omega
    clear hr hin
    go_enter Try.func16, Try.ntmps16
    go_wp2_with fail
    refine (check_p (F := F) (bs := bs) (ks := ks) _ _ key w.heap.size _ (H.out.alloc _) (by simp)).mono ?_
    rintro e w1 ⟨rfl, hb⟩
    rw [HR.out]
    have HB1 := Lib.hid (show Below w.heap.size w w1 from ((Below.refl w.heap.size w).alloc (Nat.le_refl _) _).trans (hb.mono (by simp)))
    have ST1 := Lib.hid ((H.out.alloc (.cells #[.int .i64 key] 3)).belowS hb)
    clear hb
    have e0 := ST1.out.cell0
    rw [HN.out] at e0
    by_cases hcap : F.cb = a
    · obtain rfl : N = a := by omega
      obtain rfl : len = 0 := by omega
      obtain ⟨w2, hcp, hs, hg⟩ := run_copy_to ST1.out (by decide) (HY.out.keep HB1.out) g0.out (X := some ⟨F.gb, 0, none⟩) (c := cap) (dc := 0) (.inr ⟨rfl, rfl⟩)
      rw [HN.out, Nat.sub_self] at hcp
      have hcp' : (Builtin.copy_ #[31, 31] 3 #[.slice (some ⟨F.gb, 0, none⟩) 0 0, .slice A 0 cap]).run Try.prog w1 = .ok (.int .i64 0) w2 := hcp
      rw [hcap] at e0
      have HS := Lib.hid hs
      have HG := Lib.hid hg
      clear hs hg hcp hcap lb lbb
      go_wp2
      go_ret
      exact ⟨rfl, by rw [hp.out]; exact HS.out, grown_trans (grown_of_below HB1.out _) HG.out⟩
    · obtain ⟨w2, hcp, hs, hg⟩ := run_copy_to ST1.out (by decide) (HY.out.keep HB1.out) g0.out (X := some ⟨F.gb, a, none⟩) (c := cap) (dc := F.cb - a) (.inl rfl)
      rw [HN.out] at hcp
      have HS := Lib.hid hs
      have HG := Lib.hid hg
      clear hs hg
      go_wp2
      go_ret
      exact ⟨rfl, by rw [hp.out]; exact HS.out, grown_trans (grown_of_below HB1.out _) HG.out⟩
  · have e0 : (r == 0) = false := by simpa using h0
    have hp := Lib.hid (show sPut (alP key) bs ks addr ys = bs from by unfold sPut; rw [HL.out, hr, if_neg h0])
    clear hr h0
    go_enter Try.func16, Try.ntmps16
    go_wp2_with (go_at_call 32; refine (check_p (F := F) (bs := bs) (ks := ks) _ _ key w.heap.size _ (H.out.alloc _) (by simp)).mono ?_; rintro e w1 ⟨rfl, hb⟩; rw [HR.out]; have HB1 := Lib.hid (show Below w.heap.size w w1 from ((Below.refl w.heap.size w).alloc (Nat.le_refl _) _).trans (hb.mono (by simp))); have ST1 := Lib.hid ((H.out.alloc (.cells #[.int .i64 key] 3)).belowS hb); clear hb)
    go_ret
    exact ⟨rfl, by rw [hp.out]; exact ST1.out, grown_of_below HB1.out _⟩

set_option maxHeartbeats 1000000 in
theorem fetch_c {F : Foot} {bs ks : List Int} (w : World) (h : St 71 w F bs ks) (addr n key : Int) : Calls Try.prog 100 #[.pointer (some ⟨F.g, 0, none⟩), .int .i64 addr, .int .i64 n, .int .i64 key] w (GivesC w (sFet (alF key) bs ks addr n) (sCode (alF key) bs.length ks addr n)) := by
  have H := Lib.hid h
  clear h
  obtain ⟨r, hr⟩ : ∃ r, sCode (alF key) bs.length ks addr n = r := ⟨_, rfl⟩
  by_cases h0 : r = 0
  · subst h0
    have hf := Lib.hid (show sFet (alF key) bs ks addr n = sGet bs addr n from by unfold sFet; rw [hr, if_pos rfl])
    rw [hf.out, hr]
    have HR := Lib.hid hr
    clear hr
    go_enter Try.func100, Try.ntmps100
    go_wp2_with (first | (go_at_call 32; refine (check_f (F := F) (bs := bs) (ks := ks) _ _ key w.heap.size _ (H.out.alloc _) (by simp)).mono ?_; rintro e w1 ⟨rfl, hb⟩; rw [HR.out]; have HB1 := Lib.hid (show Below w.heap.size w w1 from ((Below.refl w.heap.size w).alloc (Nat.le_refl _) _).trans (hb.mono (by simp))); have ST1 := Lib.hid ((H.out.alloc (.cells #[.int .i64 key] 3)).belowS hb); clear hb) | (go_at_call 19; refine (bytes_c _ ST1.out _ _).mono ?_; rintro e w2 ⟨A, m, cap, rfl, ho, hb⟩; have HO := Lib.hid ho; have HB := Lib.hid hb; clear ho hb))
    go_ret2
    exact ⟨A, m, cap, rfl, own_mono HO.out HB1.out.size, HB1.out.trans (HB.out.mono HB1.out.size)⟩
  · have e0 : (r != 0) = true := by simpa using h0
    have hf := Lib.hid (show sFet (alF key) bs ks addr n = [] from by unfold sFet; rw [hr, if_neg h0])
    rw [hf.out, hr]
    have HR := Lib.hid hr
    clear hr h0
    go_enter Try.func100, Try.ntmps100
    go_wp2_with (go_at_call 32; refine (check_f (F := F) (bs := bs) (ks := ks) _ _ key w.heap.size _ (H.out.alloc _) (by simp)).mono ?_; rintro e w1 ⟨rfl, hb⟩; rw [HR.out]; have HB1 := Lib.hid (show Below w.heap.size w w1 from ((Below.refl w.heap.size w).alloc (Nat.le_refl _) _).trans (hb.mono (by simp))); have ST1 := Lib.hid ((H.out.alloc (.cells #[.int .i64 key] 3)).belowS hb); clear hb)
    go_ret2
    exact ⟨none, 0, 0, rfl, Own.nil _ _, HB1.out⟩

end Go.Proofs.Ythjdjbipfdigeaa

namespace Go.Proofs.Ythjdjbipfdigeaa
open Go.RowKit
set_option maxRecDepth 100000
set_option linter.unusedVariables false
set_option linter.unusedSimpArgs false
/-- a machine and its storage -/
structure MS (w : World) (g : Nat) (F : Foot) (is os rs : List Int) (ps : List Value) (ov : Bool) (bs ks : List Int) : Prop where
  m : Mc w g is os rs ps (.pointer (some ⟨F.g, 0, none⟩)) ov
  st : St 71 w F bs ks
  n0 : g ≠ F.g
  n1 : g ≠ F.gb
  n2 : g ≠ F.gk
section
variable {w w' : World} {g : Nat} {F : Foot} {is os rs : List Int} {ps : List Value} {ov : Bool} {bs ks : List Int}
theorem MS.keep (h : MS w g F is os rs ps ov bs ks) (hb : Below w.heap.size w w') : MS w' g F is os rs ps ov bs ks := ⟨h.m.keep hb, h.st.belowS hb, h.n0, h.n1, h.n2⟩
theorem MS.drewN (h : MS w g F is os rs ps ov bs ks) (n : Nat) : MS (w.drewN n) g F is os rs ps ov bs ks := ⟨h.m.drewN n, h.st.drewN n, h.n0, h.n1, h.n2⟩
theorem MS.ch (h : MS w g F is os rs ps ov bs ks) (hc : Ch w w' []) : MS w' g F is os rs ps ov bs ks := h.keep (hc.below (Nat.le_refl _) (by simp))
theorem MS.set_ (h : MS w g F is os rs ps ov bs ks) {is' os' rs' : List Int} {ps' : List Value} {ov' : Bool} (hm : Mc w' g is' os' rs' ps' (.pointer (some ⟨F.g, 0, none⟩)) ov') (hc : Ch w w' [g]) : MS w' g F is' os' rs' ps' ov' bs ks :=
  ⟨hm, h.st.keep (hc.kept h.st.ltg (by simp; exact fun e => h.n0 e.symm)) (hc.kept h.st.ltb (by simp; exact fun e => h.n1 e.symm)) (hc.kept h.st.ltk (by simp; exact fun e => h.n2 e.symm)), h.n0, h.n1, h.n2⟩
theorem MS.put_ (h : MS w g F is os rs ps ov bs ks) {bs' : List Int} (hs : St 71 w' F bs' ks) (hg : w.grownBy w' (some F.gb)) : MS w' g F is os rs ps ov bs' ks :=
  ⟨h.m.kept (hg.block g h.m.lt (by intro e; injection e with e; exact h.n1 e)), hs, h.n0, h.n1, h.n2⟩
theorem Ch.of_grown {b : Nat} (hg : w.grownBy w' (some b)) : Ch w w' [b] := ⟨hg.os, hg.tape, hg.output, hg.size, fun k hk hb => hg.block k hk (by intro e; injection e with e; exact hb (by simp [e]))⟩
end
set_option maxRecDepth 1000000 in
set_option maxHeartbeats 4000000 in
theorem need_ok (c : Int) (w : World) : Calls Try.prog 60 #[.bool true, .int .i64 c] w fun e w' => e = .returned (.tuple #[]) ∧ w = w' := by
  go_enter Try.func60, Try.ntmps60
  go_wp2
  go_end0
  exact ⟨rfl, rfl⟩
set_option maxRecDepth 1000000 in
set_option maxHeartbeats 4000000 in
theorem put_m (g : Nat) (F : Foot) (is os rs : List Int) (ps : List Value) (ov : Bool) (bs ks : List Int) (addr key : Int) (A : Option Addr) (len cap : Nat) (ys : List Int) (w : World) (h : MS w g F is os rs ps ov bs ks) (hk : ps.getD 1 undef = .int .i64 key) (hy : Byt w A len ys) (hl : (len : Int) ≤ 9223372036854775807) (hc : sCode (alP key) bs.length ks addr len = 0) : Calls Try.prog 65 #[.pointer (some ⟨g, 0, none⟩), .int .i64 addr, .slice A len cap] w fun e w' => e = .returned (.tuple #[]) ∧ MS w' g F is os rs ps ov (sPut (alP key) bs ks addr ys) ks ∧ Ch w w' [F.gb] := by
  have HH := Lib.hid h
  have HK := Lib.hid hk
  have PC := Lib.hid (put_c w.drew (h.st.drewN 1) addr key A len cap ys (hy.keep (below_draw w 1)) hl)
  rw [hc] at PC
  clear h hk hy hc
  go_enter Try.func65, Try.ntmps65
  go_upto_region 0 with fail
  refine wp_region_held_drew (S := (fun w' => Mc w' g is os rs ps (.pointer (some ⟨F.g, 0, none⟩)) ov)) (by kernel_rfl) ?_ (fun hHeld => ?_)
  · (try dsimp only); exact HH.out.m.drewN 1
  refine' takeL (i := 0) (v := _) rfl (by kernel_rfl) (by kernel_rfl) (by kernel_rfl) (fun _ _ _ h => h) (Or.inl ⟨by rfl, ?yy1⟩) (by assumption) ?rr1
  case yy1 => intro w hSw; (try dsimp only at hSw); go_simp; (try with_reducible rfl)
  try simp only [Act.put, List.setIfInBounds_toArray, List.set_cons_zero, List.set_cons_succ]
  refine' takeL (i := 1) (v := _) rfl (by kernel_rfl) (by kernel_rfl) (by kernel_rfl) (fun _ _ _ h => h) (Or.inl ⟨by rfl, ?yy2⟩) (by assumption) ?rr2
  case yy2 => intro w hSw; (try dsimp only at hSw); go_simp; (try with_reducible rfl)
  try simp only [Act.put, List.setIfInBounds_toArray, List.set_cons_zero, List.set_cons_succ]
  refine' takeL (i := 2) (v := _) rfl (by kernel_rfl) (by kernel_rfl) (by kernel_rfl) (fun _ _ _ h => h) (Or.inl ⟨by rfl, ?yy3⟩) (by assumption) ?rr3
  case yy3 => intro w hSw; (try dsimp only at hSw); go_simp; (try with_reducible rfl)
  try simp only [Act.put, List.setIfInBounds_toArray, List.set_cons_zero, List.set_cons_succ]
  refine' takeL (i := 3) (v := .pointer (some ⟨F.g, 0, none⟩)) rfl (by kernel_rfl) (by kernel_rfl) (by kernel_rfl) (fun _ _ _ h => h) (Or.inl ⟨by rfl, ?yy4⟩) (by assumption) ?rr4
  case yy4 => intro w hSw; (try dsimp only at hSw); have hq := hSw.cs; go_simp; (try with_reducible rfl)
  try simp only [Act.put, List.setIfInBounds_toArray, List.set_cons_zero, List.set_cons_succ]
  refine' takeL (i := 4) (v := _) rfl (by kernel_rfl) (by kernel_rfl) (by kernel_rfl) (fun _ _ _ h => h) (Or.inl ⟨by rfl, ?yy5⟩) (by assumption) ?rr5
  case yy5 => intro w hSw; (try dsimp only at hSw); go_simp; (try with_reducible rfl)
  try simp only [Act.put, List.setIfInBounds_toArray, List.set_cons_zero, List.set_cons_succ]
  refine' takeL (i := 5) (v := _) rfl (by kernel_rfl) (by kernel_rfl) (by kernel_rfl) (fun _ _ _ h => h) (Or.inl ⟨by rfl, ?yy6⟩) (by assumption) ?rr6
  case yy6 => intro w hSw; (try dsimp only at hSw); go_simp; (try with_reducible rfl)
  try simp only [Act.put, List.setIfInBounds_toArray, List.set_cons_zero, List.set_cons_succ]
  refine' takeL (i := 6) (v := _) rfl (by kernel_rfl) (by kernel_rfl) (by kernel_rfl) (fun _ _ _ h => h) (Or.inl ⟨by rfl, ?yy7⟩) (by assumption) ?rr7
  case yy7 => intro w hSw; (try dsimp only at hSw); go_simp; (try with_reducible rfl)
  try simp only [Act.put, List.setIfInBounds_toArray, List.set_cons_zero, List.set_cons_succ]
  refine' takeL (i := 7) (v := _) rfl (by kernel_rfl) (by kernel_rfl) (by kernel_rfl) (fun _ _ _ h => h) (Or.inl ⟨by rfl, ?yy8⟩) (by assumption) ?rr8
  case yy8 => intro w hSw; (try dsimp only at hSw); go_simp; (try with_reducible rfl)
  try simp only [Act.put, List.setIfInBounds_toArray, List.set_cons_zero, List.set_cons_succ]
  refine' takeL (i := 8) (v := _) rfl (by kernel_rfl) (by kernel_rfl) (by kernel_rfl) (fun _ _ _ h => h) (Or.inl ⟨by rfl, ?yy9⟩) (by assumption) ?rr9
  case yy9 => intro w hSw; (try dsimp only at hSw); go_simp; (try with_reducible rfl)
  try simp only [Act.put, List.setIfInBounds_toArray, List.set_cons_zero, List.set_cons_succ]
  refine' takeL (i := 9) (v := _) rfl (by kernel_rfl) (by kernel_rfl) (by kernel_rfl) (fun _ _ _ h => h) (Or.inl ⟨by rfl, ?yy10⟩) (by assumption) ?rr10
  case yy10 => intro w hSw; (try dsimp only at hSw); go_simp; (try with_reducible rfl)
  try simp only [Act.put, List.setIfInBounds_toArray, List.set_cons_zero, List.set_cons_succ]
  refine' takeL (i := 10) (v := .int .i64 key) rfl (by kernel_rfl) (by kernel_rfl) (by kernel_rfl) (fun _ _ _ h => h) (Or.inl ⟨by rfl, ?yy11⟩) (by assumption) ?rr11
  case yy11 => intro w hSw; (try dsimp only at hSw); have hq := hSw.cp (n := 1) (by omega); rw [HK.out] at hq; go_simp; (try with_reducible rfl)
  try simp only [Act.put, List.setIfInBounds_toArray, List.set_cons_zero, List.set_cons_succ]
  refine wpAnyH_ready (rs := [11]) (by kernel_rfl) (by simp) ?_
  refine consL rfl (fun K hK => ?_) AllReadyH.nil
  go_simp
  go_at_call 16
  refine PC.out.mono ?_
  rintro e w5 ⟨rfl, hS, hG⟩
  have M5 := Lib.hid ((HH.out.drewN 1).put_ hS hG)
  have C5 := Lib.hid (show Ch w w5 [F.gb] from ((Ch.refl w [F.gb]).drewN 1).trans (Ch.of_grown hG))
  clear hS hG hHeld
  go_wp2_with fail
  refine hK.out _ _ ?_ (fun hHeld => ?_)
  · (try dsimp only); exact M5.out.m
  clear hK K
  try simp only [Act.put, List.setIfInBounds_toArray, List.set_cons_zero, List.set_cons_succ]
  refine' takeL (i := 12) (v := _) rfl (by kernel_rfl) (by kernel_rfl) (by kernel_rfl) (fun _ _ _ h => h) (Or.inl ⟨by rfl, ?yy12⟩) (by assumption) ?rr12
  case yy12 => intro w hSw; (try dsimp only at hSw); go_simp; (try with_reducible rfl)
  try simp only [Act.put, List.setIfInBounds_toArray, List.set_cons_zero, List.set_cons_succ]
  refine wpAnyH_done (by kernel_rfl) ?_ _
  clear hHeld
  go_wp2_with (go_at_call 60; refine (need_ok _ _).mono ?_; rintro e wx ⟨rfl, hwx⟩; subst hwx)
  go_end0
  exact ⟨rfl, M5.out, C5.out⟩
set_option maxRecDepth 1000000 in
set_option maxHeartbeats 4000000 in
theorem fetch_m (g : Nat) (F : Foot) (is os rs : List Int) (ps : List Value) (ov : Bool) (bs ks : List Int) (addr n key : Int) (w : World) (h : MS w g F is os rs ps ov bs ks) (hk : ps.getD 1 undef = .int .i64 key) (hc : sCode (alF key) bs.length ks addr n = 0) : Calls Try.prog 68 #[.pointer (some ⟨g, 0, none⟩), .int .i64 addr, .int .i64 n] w fun e w' => ∃ A m cap, e = .returned (.slice A m cap) ∧ Own w' w.heap.size (.slice A m cap) m (sGet bs addr n) ∧ MS w' g F is os rs ps ov bs ks ∧ Ch w w' [] := by
  have HH := Lib.hid h
  have HK := Lib.hid hk
  have FC := Lib.hid (fetch_c w.drew (h.st.drewN 1) addr n key)
  unfold sFet at FC
  rw [hc, if_pos rfl] at FC
  clear h hk hc
  go_enter Try.func68, Try.ntmps68
  go_upto_region 1 with fail
  refine wp_region_held_drew (S := (fun w' => Mc w' g is os rs ps (.pointer (some ⟨F.g, 0, none⟩)) ov)) (by kernel_rfl) ?_ (fun hHeld => ?_)
  · (try dsimp only); exact HH.out.m.drewN 1
  refine' takeL (i := 0) (v := _) rfl (by kernel_rfl) (by kernel_rfl) (by kernel_rfl) (fun _ _ _ h => h) (Or.inl ⟨by rfl, ?yy13⟩) (by assumption) ?rr13
  case yy13 => intro w hSw; (try dsimp only at hSw); go_simp; (try with_reducible rfl)
  try simp only [Act.put, List.setIfInBounds_toArray, List.set_cons_zero, List.set_cons_succ]
  refine' takeL (i := 1) (v := _) rfl (by kernel_rfl) (by kernel_rfl) (by kernel_rfl) (fun _ _ _ h => h) (Or.inl ⟨by rfl, ?yy14⟩) (by assumption) ?rr14
  case yy14 => intro w hSw; (try dsimp only at hSw); go_simp; (try with_reducible rfl)
  try simp only [Act.put, List.setIfInBounds_toArray, List.set_cons_zero, List.set_cons_succ]
  refine' takeL (i := 2) (v := _) rfl (by kernel_rfl) (by kernel_rfl) (by kernel_rfl) (fun _ _ _ h => h) (Or.inl ⟨by rfl, ?yy15⟩) (by assumption) ?rr15
  case yy15 => intro w hSw; (try dsimp only at hSw); go_simp; (try with_reducible rfl)
  try simp only [Act.put, List.setIfInBounds_toArray, List.set_cons_zero, List.set_cons_succ]
  refine' takeL (i := 3) (v := .pointer (some ⟨F.g, 0, none⟩)) rfl (by kernel_rfl) (by kernel_rfl) (by kernel_rfl) (fun _ _ _ h => h) (Or.inl ⟨by rfl, ?yy16⟩) (by assumption) ?rr16
  case yy16 => intro w hSw; (try dsimp only at hSw); have hq := hSw.cs; go_simp; (try with_reducible rfl)
  try simp only [Act.put, List.setIfInBounds_toArray, List.set_cons_zero, List.set_cons_succ]
  refine' takeL (i := 4) (v := _) rfl (by kernel_rfl) (by kernel_rfl) (by kernel_rfl) (fun _ _ _ h => h) (Or.inl ⟨by rfl, ?yy17⟩) (by assumption) ?rr17
  case yy17 => intro w hSw; (try dsimp only at hSw); go_simp; (try with_reducible rfl)
  try simp only [Act.put, List.setIfInBounds_toArray, List.set_cons_zero, List.set_cons_succ]
  refine' takeL (i := 5) (v := _) rfl (by kernel_rfl) (by kernel_rfl) (by kernel_rfl) (fun _ _ _ h => h) (Or.inl ⟨by rfl, ?yy18⟩) (by assumption) ?rr18
  case yy18 => intro w hSw; (try dsimp only at hSw); go_simp; (try with_reducible rfl)
  try simp only [Act.put, List.setIfInBounds_toArray, List.set_cons_zero, List.set_cons_succ]
  refine' takeL (i := 6) (v := _) rfl (by kernel_rfl) (by kernel_rfl) (by kernel_rfl) (fun _ _ _ h => h) (Or.inl ⟨by rfl, ?yy19⟩) (by assumption) ?rr19
  case yy19 => intro w hSw; (try dsimp only at hSw); go_simp; (try with_reducible rfl)
  try simp only [Act.put, List.setIfInBounds_toArray, List.set_cons_zero, List.set_cons_succ]
  refine' takeL (i := 7) (v := _) rfl (by kernel_rfl) (by kernel_rfl) (by kernel_rfl) (fun _ _ _ h => h) (Or.inl ⟨by rfl, ?yy20⟩) (by assumption) ?rr20
  case yy20 => intro w hSw; (try dsimp only at hSw); go_simp; (try with_reducible rfl)
  try simp only [Act.put, List.setIfInBounds_toArray, List.set_cons_zero, List.set_cons_succ]
  refine' takeL (i := 8) (v := _) rfl (by kernel_rfl) (by kernel_rfl) (by kernel_rfl) (fun _ _ _ h => h) (Or.inl ⟨by rfl, ?yy21⟩) (by assumption) ?rr21
  case yy21 => intro w hSw; (try dsimp only at hSw); go_simp; (try with_reducible rfl)
  try simp only [Act.put, List.setIfInBounds_toArray, List.set_cons_zero, List.set_cons_succ]
  refine' takeL (i := 9) (v := _) rfl (by kernel_rfl) (by kernel_rfl) (by kernel_rfl) (fun _ _ _ h => h) (Or.inl ⟨by rfl, ?yy22⟩) (by assumption) ?rr22
  case yy22 => intro w hSw; (try dsimp only at hSw); go_simp; (try with_reducible rfl)
  try simp only [Act.put, List.setIfInBounds_toArray, List.set_cons_zero, List.set_cons_succ]
  refine' takeL (i := 10) (v := .int .i64 key) rfl (by kernel_rfl) (by kernel_rfl) (by kernel_rfl) (fun _ _ _ h => h) (Or.inl ⟨by rfl, ?yy23⟩) (by assumption) ?rr23
  case yy23 => intro w hSw; (try dsimp only at hSw); have hq := hSw.cp (n := 1) (by omega); rw [HK.out] at hq; go_simp; (try with_reducible rfl)
  try simp only [Act.put, List.setIfInBounds_toArray, List.set_cons_zero, List.set_cons_succ]
  refine wpAnyH_ready (rs := [11]) (by kernel_rfl) (by simp) ?_
  refine consL rfl (fun K hK => ?_) AllReadyH.nil
  go_simp
  go_at_call 100
  refine FC.out.mono ?_
  rintro e w5 ⟨A, m, cap, rfl, hO, hb⟩
  have M5 := Lib.hid ((HH.out.drewN 1).keep hb)
  have C5 := Lib.hid (show Ch w w5 [] from ((Ch.refl w []).drewN 1).trans (Ch.of_below hb []))
  have O5 := Lib.hid hO
  clear hO hb hHeld
  go_wp2_with fail
  refine hK.out _ _ ?_ (fun hHeld => ?_)
  · (try dsimp only); exact M5.out.m
  clear hK K
  try simp only [Act.put, List.setIfInBounds_toArray, List.set_cons_zero, List.set_cons_succ]
  refine' takeL (i := 12) (v := _) rfl (by kernel_rfl) (by kernel_rfl) (by kernel_rfl) (fun _ _ _ h => h) (Or.inl ⟨by rfl, ?yy24⟩) (by assumption) ?rr24
  case yy24 => intro w hSw; (try dsimp only at hSw); go_simp; (try with_reducible rfl)
  try simp only [Act.put, List.setIfInBounds_toArray, List.set_cons_zero, List.set_cons_succ]
  refine' takeL (i := 13) (v := _) rfl (by kernel_rfl) (by kernel_rfl) (by kernel_rfl) (fun _ _ _ h => h) (Or.inl ⟨by rfl, ?yy25⟩) (by assumption) ?rr25
  case yy25 => intro w hSw; (try dsimp only at hSw); go_simp; (try with_reducible rfl)
  try simp only [Act.put, List.setIfInBounds_toArray, List.set_cons_zero, List.set_cons_succ]
  refine' takeL (i := 14) (v := _) rfl (by kernel_rfl) (by kernel_rfl) (by kernel_rfl) (fun _ _ _ h => h) (Or.inl ⟨by rfl, ?yy26⟩) (by assumption) ?rr26
  case yy26 => intro w hSw; (try dsimp only at hSw); go_simp; (try with_reducible rfl)
  try simp only [Act.put, List.setIfInBounds_toArray, List.set_cons_zero, List.set_cons_succ]
  refine' takeL (i := 15) (v := _) rfl (by kernel_rfl) (by kernel_rfl) (by kernel_rfl) (fun _ _ _ h => h) (Or.inl ⟨by rfl, ?yy27⟩) (by assumption) ?rr27
  case yy27 => intro w hSw; (try dsimp only at hSw); go_simp; (try with_reducible rfl)
  try simp only [Act.put, List.setIfInBounds_toArray, List.set_cons_zero, List.set_cons_succ]
  refine' takeL (i := 16) (v := _) rfl (by kernel_rfl) (by kernel_rfl) (by kernel_rfl) (fun _ _ _ h => h) (Or.inl ⟨by rfl, ?yy28⟩) (by assumption) ?rr28
  case yy28 => intro w hSw; (try dsimp only at hSw); go_simp; (try with_reducible rfl)
  try simp only [Act.put, List.setIfInBounds_toArray, List.set_cons_zero, List.set_cons_succ]
  refine wpAnyH_done (by kernel_rfl) ?_ _
  clear hHeld
  go_wp2_with (go_at_call 60; refine (need_ok _ _).mono ?_; rintro e wx ⟨rfl, hwx⟩; subst hwx)
  go_ret
  exact ⟨A, m, cap, by rfl, O5.out, M5.out, C5.out⟩
set_option maxRecDepth 1000000 in
set_option maxHeartbeats 4000000 in
theorem aligned_m (g : Nat) (a n : Int) (w : World) (hs : Calls Try.prog 44 #[.pointer (some ⟨g, 0, none⟩)] w fun e w' => e = .returned (.int .i64 a) ∧ Ch w w' []) (hn : n = 2 ∨ n = 4) (ha0 : 0 ≤ a) (ha1 : a ≤ 16777215) (ha : a % n = 0) : Calls Try.prog 66 #[.pointer (some ⟨g, 0, none⟩), .int .i64 n] w fun e w' => e = .returned (.int .i64 a) ∧ Ch w w' [] := by
  have SC := Lib.hid hs
  have e0 : (a % n == 0) = true := by simpa using ha
  have e1 : IntKind.i64.wrap (a.tmod n) = a % n := by
    rw [Int.tmod_eq_emod_of_nonneg ha0]; exact wrap_i64_id (by rcases hn with rfl | rfl <;> omega) (by rcases hn with rfl | rfl <;> omega)
  have n0 : n ≠ 0 := by omega
  clear hs
  go_enter Try.func66, Try.ntmps66
  go_wp2_with (first
    | (go_at_call 44; refine SC.out.mono ?_; rintro e w1 ⟨rfl, hc⟩; have C1 := Lib.hid hc; clear hc)
    | (go_at_call 60; refine (need_ok _ _).mono ?_; rintro e wx ⟨rfl, hwx⟩; subst hwx))
  go_ret
  exact ⟨by rfl, C1.out⟩
set_option maxRecDepth 1000000 in
set_option maxHeartbeats 4000000 in
theorem full_c (v : Int) (w : World) (v0 : 0 ≤ v) (v1 : v ≤ 4294967295) : Calls Try.prog 67 #[.int .u32 v] w fun e w' => e = .returned (.slice (some ⟨w.heap.size, 0, none⟩) 4 4) ∧ w' = w.alloc (.cells #[.int .u8 (v / 16777216), .int .u8 (v / 65536 % 256), .int .u8 (v / 256 % 256), .int .u8 (v % 256)] 5) := by
  go_enter Try.func67, Try.ntmps67
  go_wp2
  trace_state
  go_ret
  exact ⟨by rfl, by rfl⟩
end Go.Proofs.Ythjdjbipfdigeaa

