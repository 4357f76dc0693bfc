/- THE WALK of WordFields: whatever the bytes, the index and the word, it returns true and writes nothing that was there. Conditions: none but that the slice reads as bytes. -/
import Derived.Test.YtmabamijogbbnaaWdL
import Derived.Test.YtmabamijogbbnaaRow
import Derived.OpenShut
namespace Go.Proofs.Ytmabamijogbbnaa
open Go.RowKit Go.ChangeShapes Go.WideShapes
set_option linter.unusedVariables false

theorem below_undrew {w w' : World} {n : Nat} (h : Below (w.drewN n).heap.size (w.drewN n) w') : Below w.heap.size w w' := ⟨h.os, h.tape, h.output, h.size, h.block⟩
/-- what a round keeps: the slice that it writes, the other one, and all that was there before both -/
def Kept2 (B4 : Nat) (w2 : World) (vd ve : Value) (nd ne : Nat) (wr : World) : Prop := (∃ l, Own wr w2.heap.size vd nd l) ∧ (∃ l, Own wr B4 ve ne l) ∧ Below w2.heap.size w2 wr
def Kept1 (B4 : Nat) (w2 : World) (ve : Value) (ne : Nat) (wr : World) : Prop := (∃ l, Own wr B4 ve ne l) ∧ Below w2.heap.size w2 wr
theorem kept2_store {B4 : Nat} {w2 wr : World} {ve : Value} {nd ne g c k : Nat} (h : Kept2 B4 w2 (.slice (some ⟨g, 0, none⟩) nd c) ve nd ne wr) (hk : k < nd) (hg : g < B4) (hB : w2.heap.size ≤ g) {y : Int} (hy : 0 ≤ y ∧ y ≤ 255) : Kept2 B4 w2 (.slice (some ⟨g, 0, none⟩) nd c) ve nd ne (wr.setCell ⟨g, k, none⟩ (.int .u8 y)) := by
  obtain ⟨⟨l, h1⟩, ⟨l2, h2⟩, h3⟩ := h
  exact ⟨⟨_, h1.store hk hy⟩, ⟨_, h2.far hg _⟩, h3.setCell hB _⟩
theorem kept1_store {B4 : Nat} {w2 wr : World} {ne g c k : Nat} (h : Kept1 B4 w2 (.slice (some ⟨g, 0, none⟩) ne c) ne wr) (hk : k < ne) (hg : B4 ≤ g) (hB : w2.heap.size ≤ B4) {y : Int} (hy : 0 ≤ y ∧ y ≤ 255) : Kept1 B4 w2 (.slice (some ⟨g, 0, none⟩) ne c) ne (wr.setCell ⟨g, k, none⟩ (.int .u8 y)) := by
  obtain ⟨⟨l2, h2⟩, h3⟩ := h
  exact ⟨⟨_, h2.store hk hy⟩, h3.setCell (Nat.le_trans hB hg) _⟩
theorem plen_le (len : Nat) (a n : Int) : plen len a n ≤ len := by unfold plen; split <;> omega

set_option maxRecDepth 100000 in
set_option maxHeartbeats 4000000 in
theorem wordFields_walk (a0 : Option Addr) (len0 cap0 : Nat) (z0 : List Int) (a1 a2 : Int) (w : World) (w0 : IsRow .u8 w a0 len0 cap0 z0) (w1 : (Lit.int .i64 a1).wf = true) (w2 : (Lit.int .u32 a2).wf = true) :
    Calls Try.prog 7 #[.slice a0 len0 cap0, .int .i64 a1, .int .u32 a2] w fun e w' => e = .returned (.bool true) ∧ Below w.heap.size w w' := by
  obtain ⟨hby, hnil, hlc, hcm⟩ := row_byt w0
  have la1 := (bounds_i64 w1).1
  have ua1 := (bounds_i64 w1).2
  have la2 := (bounds_u32 w2).1
  have ua2 := (bounds_u32 w2).2
  unfold maxLen at hcm
  generalize z0.take len0 = zs at hby
  clear w0 w1 w2
  have hB := Lib.hid hby
  have hN := Lib.hid hnil
  clear hby hnil
  by_cases hbig : 4096 < len0
  · have hb1 : (4096 : Int) < (len0 : Int) := by omega
    go_enter Try.func7, Try.ntmps7
    go_wp2_with (go_at_call 18; refine (works_c _).mono ?_; rintro e w1 ⟨rfl, hb⟩)
    go_ret
    exact ⟨rfl, hb⟩
  · have hle : (len0 : Int) ≤ 4096 := by omega
    have hle' : len0 ≤ 4096 := by omega
    clear hbig
    go_enter Try.func7, Try.ntmps7
    go_wp2_with (go_at_call 18; refine (works_c _).mono ?_; rintro e w1 ⟨rfl, hb⟩; have X1 := Lib.hid hb; clear hb)
    refine (lent_c a0 len0 cap0 zs _ hle' (by exact hB.out.keep X1.out) hN.out).mono ?_
    rintro e w2 ⟨v, rfl, hown, hbl⟩
    obtain ⟨g, cap1, hv, g1, g2, g3, g4⟩ := hown.pos (by omega)
    unfold maxLen at g4
    rw [hv] at hown ⊢
    have g3' : (len0 : Int) + 8 ≤ (cap1 : Int) := by omega
    have OA := Lib.hid hown
    have PA := Lib.hid (show Byt w2 (some ⟨g, 0, none⟩) len0 zs from by have := hown.byt.pre len0 (by omega); rwa [List.take_left' hB.out.1] at this)
    have X2 := Lib.hid (X1.out.trans (hbl.mono X1.out.size))
    clear hown hbl hv
    go_wp2_with fail
    refine (half_any (some ⟨g, 0, none⟩) len0 cap1 a1 zs _ (by omega) (by exact PA.out) la1 ua1).mono ?_
    rintro e w3 ⟨rfl, n1, rfl⟩
    go_wp2_with fail
    refine (rhalf_any a0 len0 cap0 a1 zs _ (by omega) (by exact (hB.out.keep X2.out).drewN _) la1 ua1).mono ?_
    rintro e w3 ⟨rfl, rfl⟩
    go_wp2_with fail
    refine (full_any (some ⟨g, 0, none⟩) len0 cap1 a1 zs _ (by omega) (by exact PA.out) la1 ua1).mono ?_
    rintro e w3 ⟨rfl, n2, rfl⟩
    go_wp2_with fail
    refine (rfull_any a0 len0 cap0 a1 zs _ (by omega) (by exact (hB.out.keep X2.out).drewN _) la1 ua1).mono ?_
    rintro e w3 ⟨rfl, rfl⟩
    go_wp2_with fail
    refine (puthalf_any (some ⟨g, 0, none⟩) len0 cap1 a1 a2 zs _ (by omega) (by exact PA.out) (by intro h; cases h) la1 ua1 la2 ua2).mono ?_
    rintro e w3 ⟨A3, c3, rfl, o3, h3, b3⟩
    obtain ⟨W3, hW3⟩ : ∃ W, W = w3 := ⟨_, rfl⟩
    have B3 := Lib.hid (show Below w2.heap.size w2 w3 from below_undrew b3)
    have O3 := Lib.hid (show Own w3 w2.heap.size (.slice A3 (plen len0 a1 2) c3) (plen len0 a1 2) (pbytes len0 a1 2 zs (hby a2)) from o3)
    have H3 := Lib.hid h3
    clear o3 h3 b3 hW3 W3
    go_wp2_with fail
    refine (rputhalf_any a0 len0 cap0 a1 a2 zs _ (by omega) (by exact hB.out.keep (X2.out.trans (B3.out.mono X2.out.size))) la1 ua1 la2 ua2).mono ?_
    rintro e w4 ⟨A4, c4, rfl, o4, h4, b4⟩
    have B4 := Lib.hid b4
    have O4 := Lib.hid o4
    have H4 := Lib.hid h4
    clear o4 h4 b4
    go_wp2_with fail
    refine (putfull_any (some ⟨g, 0, none⟩) len0 cap1 a1 a2 zs _ (by omega) (by exact PA.out.keep (B3.out.trans (B4.out.mono B3.out.size))) (by intro h; cases h) la1 ua1 la2 ua2).mono ?_
    rintro e w5 ⟨A5, c5, rfl, o5, h5, b5⟩
    have B5 := Lib.hid b5
    have O5 := Lib.hid o5
    have H5 := Lib.hid h5
    clear o5 h5 b5
    go_wp2_with fail
    have s3 := B3.out.size
    have s4 := B4.out.size
    have s5 := B5.out.size
    refine (rputfull_any a0 len0 cap0 a1 a2 zs _ (by omega) (by exact hB.out.keep (((X2.out.trans (B3.out.mono X2.out.size)).trans (B4.out.mono (by have := X2.out.size; omega))).trans (B5.out.mono (by have := X2.out.size; omega)))) la1 ua1 la2 ua2).mono ?_
    rintro e w6 ⟨A6, c6, rfl, o6, h6, b6⟩
    have B6 := Lib.hid b6
    have O6 := Lib.hid o6
    have H6 := Lib.hid h6
    clear o6 h6 b6
    have s6 := B6.out.size
    obtain ⟨nd, hnd⟩ : ∃ n, plen len0 a1 2 = n := ⟨_, rfl⟩
    obtain ⟨ne, hne⟩ : ∃ n, plen len0 a1 4 = n := ⟨_, rfl⟩
    obtain ⟨D, hD⟩ : ∃ D, pbytes len0 a1 2 zs (hby a2) = D := ⟨_, rfl⟩
    obtain ⟨E, hE⟩ : ∃ E, pbytes len0 a1 4 zs (fby a2) = E := ⟨_, rfl⟩
    have nd1 : nd ≤ 4096 := by rw [← hnd]; exact Nat.le_trans (plen_le _ _ _) hle'
    have ne1 : ne ≤ 4096 := by rw [← hne]; exact Nat.le_trans (plen_le _ _ _) hle'
    rw [hnd, hD] at O3 O4
    rw [hne, hE] at O5 O6
    rw [hnd, hne]
    clear hnd hne hD hE
    go_wp2_with fail
    refine (same_c A3 nd c3 D A4 nd c4 D _ (by exact O3.out.byt.keep ((B4.out.trans (B5.out.mono s4)).trans (B6.out.mono (Nat.le_trans s4 s5)))) (by exact O4.out.byt.keep (B5.out.trans (B6.out.mono s5))) (by omega) (by omega)).mono ?_
    rintro e w7 ⟨rfl, n7, rfl⟩
    rw [show decide (D = D) = true from by simp]
    go_wp2_with fail
    refine (same_c A5 ne c5 E A6 ne c6 E _ (by exact (O5.out.byt.keep B6.out).drewN _) (by exact O6.out.byt.drewN _) (by omega) (by omega)).mono ?_
    rintro e w7 ⟨rfl, n8, rfl⟩
    rw [show decide (E = E) = true from by simp]
    go_wp2_with fail
    have K0 : Kept2 w4.heap.size w2 (.slice A3 nd c3) (.slice A5 ne c5) nd ne (w6.drewN (n7 + n8)) :=
      ⟨⟨D, (O3.out.below ((B4.out.trans (B5.out.mono s4)).trans (B6.out.mono (Nat.le_trans s4 s5))) (fun g hg => (O3.out.block g hg).2)).drewN _⟩, ⟨E, (O5.out.below B6.out (fun g hg => (O5.out.block g hg).2)).drewN _⟩, drewN_below (((B3.out.trans (B4.out.mono s3)).trans (B5.out.mono (Nat.le_trans s3 s4))).trans (B6.out.mono (Nat.le_trans s3 (Nat.le_trans s4 s5)))) _⟩
    have HK0 := Lib.hid K0
    clear K0
    go_loopw [24] (fun i wr => ∃ k : Nat, k ≤ nd ∧ i = .int .i64 k ∧ Kept2 w4.heap.size w2 (.slice A3 nd c3) (.slice A5 ne c5) nd ne wr) (fun i _ => nd - (intOf i).toNat)
    case atStart => exact ⟨0, Nat.zero_le _, rfl, HK0.out⟩
    case round =>
      obtain ⟨k, hk, rfl, hK⟩ := hrel
      have HK := Lib.hid hK
      clear hK
      by_cases hlt : k < nd
      · obtain ⟨gd, cd, hv, _⟩ := O3.out.pos (by omega)
        injection hv with hv1 _ hv2
        subst hv1 hv2
        have hblk := O3.out.block gd rfl
        obtain ⟨l, hl⟩ := HK.out.1
        have c1 := hl.cell hlt
        have f1 := hl.free k
        have r1 := hl.rangeD k
        obtain ⟨x, hx⟩ : ∃ x, l.getD k 0 = x := ⟨_, rfl⟩
        rw [hx] at c1 r1
        have x0 := r1.1
        have x1 := r1.2
        have kk : (k : Int) < (nd : Int) := by omega
        have HR := Lib.hid (kept2_store HK.out hlt (Nat.lt_of_lt_of_le hblk.2 s4) hblk.1 (y := (x + 1) % 256) (by omega))
        clear hx hl r1 hblk
        go_wp2_with fail
        go_roundw
        case rel => exact ⟨k + 1, by omega, by go_num, HR.out⟩
        case measure => simp [intOf]; omega
      · obtain rfl : k = nd := by omega
        have K1 : Kept1 w4.heap.size w2 (.slice A5 ne c5) ne wr := ⟨HK.out.2.1, HK.out.2.2⟩
        have HK1 := Lib.hid K1
        clear K1 hlt
        go_wp2_with fail
        obtain ⟨wo, hwo⟩ : ∃ wo : World, wo = wr := ⟨_, rfl⟩
        subst hwo
        go_loopw [25] (fun i wr => ∃ k : Nat, k ≤ ne ∧ i = .int .i64 k ∧ Kept1 w4.heap.size w2 (.slice A5 ne c5) ne wr) (fun i _ => ne - (intOf i).toNat)
        case atStart => exact ⟨0, Nat.zero_le _, rfl, HK1.out⟩
        case round =>
          obtain ⟨j, hj, rfl, hK⟩ := hrel
          have HK2 := Lib.hid hK
          clear hK
          by_cases hlt : j < ne
          · obtain ⟨gd, cd, hv, _⟩ := O5.out.pos (by omega)
            injection hv with hv1 _ hv2
            subst hv1 hv2
            have hblk := O5.out.block gd rfl
            obtain ⟨l, hl⟩ := HK2.out.1
            have c1 := hl.cell hlt
            have f1 := hl.free j
            have r1 := hl.rangeD j
            obtain ⟨x, hx⟩ : ∃ x, l.getD j 0 = x := ⟨_, rfl⟩
            rw [hx] at c1 r1
            have x0 := r1.1
            have x1 := r1.2
            have kk : (j : Int) < (ne : Int) := by omega
            have HR := Lib.hid (kept1_store HK2.out hlt hblk.1 (Nat.le_trans s3 s4) (y := (x + 1) % 256) (by omega))
            clear hx hl r1 hblk
            go_wp2_with fail
            go_roundw
            case rel => exact ⟨j + 1, by omega, by go_num, HR.out⟩
            case measure => simp [intOf]; omega
          · obtain rfl : j = ne := by omega
            clear hlt
            go_wp2_with fail
            refine (kept_c g 0 cap1 a0 len0 cap0 zs _ hle' (by omega) (by omega) (by exact OA.out.byt.keep HK2.out.2) (by exact hB.out.keep (X2.out.trans (HK2.out.2.mono X2.out.size)))).mono ?_
            rintro e w9 ⟨rfl, n9, rfl⟩
            go_wp2_with fail
            go_ret
            exact ⟨rfl, drewN_below (X2.out.trans (HK2.out.2.mono X2.out.size)) _⟩
end Go.Proofs.Ytmabamijogbbnaa
