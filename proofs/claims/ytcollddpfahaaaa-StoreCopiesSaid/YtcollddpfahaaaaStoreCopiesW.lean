/- StoreCopies: the walk. No conditions but that the arguments read as calls. -/
import Derived.Test.YtcollddpfahaaaaSt16
import Derived.Lib.Hide
import Derived.Outline
import Derived.Handy
import Derived.BigQuiet
import Derived.Deep.QuietTactic
namespace Go.Proofs.Ytcollddpfahaaaa
open Go.RowKit
set_option linter.unusedVariables false
set_option linter.unusedSimpArgs false

set_option maxHeartbeats 4000000 in
theorem storeCopies_walk (n : Int) (A : Option Addr) (len cap : Nat) (B : Option Addr) (lenb capb : Nat) (C : Option Addr) (lenc capc : Nat) (w : World) (hn : (Lit.int .u8 n).wf = true) (hl : IsOps w A len cap) (hlb : IsOps w B lenb capb) (hlc : IsOps w C lenc capc) : Calls Try.prog 7 #[.int .u8 n, .slice A len cap, .slice B lenb capb, .slice C lenc capc] w fun e w' => e = .returned (.bool true) ∧ Below w.heap.size w w' := by
  obtain ⟨n0, n1⟩ := bounds_u8 hn
  have L0 := hl.len
  have L1 := hlb.len
  have L2 := hlc.len
  have HL := Lib.hid hl
  have HLB := Lib.hid hlb
  have HLC := Lib.hid hlc
  clear hl hn hlb hlc
  go_enter Try.func7, Try.ntmps7
  go_wp2_with fail
  refine (make_c n n0 n1 _).mono ?_
  rintro e w1 ⟨F, rfl, hs, hb, q1, q2, q3⟩
  have HS := Lib.hid hs
  have HB := Lib.hid hb
  clear hs hb
  go_wp2_with fail
  refine (lsize_c n n0 n1 _).mono ?_
  rintro e w2 ⟨rfl, rfl⟩
  go_wp2_with fail
  refine (rnew_yes (sBlk n) (sBlk_lo n) (by have := sBlk_hi n; omega) _).mono ?_
  rintro e w2 ⟨v, rfl, F', rfl, hs, hb, q4, q5, q6⟩
  have TW := Lib.hid (tw_new HS.out HB.out ⟨q1, q2, q3⟩ hs hb ⟨q4, q5, q6⟩ (R := fun _ => True) trivial (fun _ _ _ _ _ _ => trivial))
  clear HS HB hs hb q1 q2 q3 q4 q5 q6
  go_wp2_with fail
  go_loopw [11] (fun x wr => ∃ k : Nat, k ≤ len ∧ k ≤ 30 ∧ x = .int .i64 k ∧ ∃ bs ks, Tw (fun _ => True) w wr F F' bs ks bs ks) (fun x _ => 30 - (intOf x).toNat)
  case atStart => exact ⟨0, by omega, by omega, rfl, _, _, TW.out⟩
  case round =>
    obtain ⟨k, k0, k1, rfl, bs, ks, tw⟩ := hrel
    have T1 := Lib.hid tw
    clear tw TW
    by_cases hk : k < len ∧ k < 30
    · obtain ⟨b, off, rfl, kind, addr, m, key, D, bl, bc, ys, c0, c1, c2, c3, c4, hy, h1, h2, h3⟩ := HL.out.at_ hk.1
      replace c0 := tw_cell T1.out c0
      replace c1 := tw_cell T1.out c1
      replace c2 := tw_cell T1.out c2
      replace c3 := tw_cell T1.out c3
      replace c4 := tw_cell T1.out c4
      have e1 : ((k : Int) < (len : Int)) := by omega
      have e2 : ((k : Int) < 30) := by omega
      go_wp2_with fail
      refine (one_c w wr T1.out kind addr m key D bl bc ys hy h1 h2 h3).mono ?_
      rintro e w3 ⟨rfl, bs', ks', tw⟩
      have T2 := Lib.hid tw
      clear tw c0 c1 c2 c3 c4 T1
      go_wp2_with fail
      exact ⟨⟨k + 1, by omega, by omega, rfl, _, _, T2.out⟩, by simp [intOf]; omega⟩
    · have e1 : ¬ ((k : Int) < (len : Int) ∧ (k : Int) < 30) := by omega
      by_cases e2 : (k : Int) < (len : Int)
      · have e3 : ¬ ((k : Int) < 30) := by omega
        clear e1 hk
        go_wp2_with fail
        refine (copy_c _ T1.out.p).mono ?_
        rintro e w3 ⟨v, rfl, G, rfl, hs, hb, q1, q2, q3⟩
        have T2 := Lib.hid (T1.out.keep hb)
        have S1 := Lib.hid hs
        have hz := T1.out.bl.size
        have l1 := T1.out.p.ltg; have l2 := T1.out.p.ltb; have l3 := T1.out.p.ltk; have l4 := T1.out.r.ltg; have l5 := T1.out.r.ltb; have l6 := T1.out.r.ltk
        have hz2 := hb.size
        clear hs hb
        go_wp2_with fail
        refine (rcopy_c _ T2.out.r).mono ?_
        rintro e w4 ⟨v, rfl, G', rfl, hs, hb, q4, q5, q6⟩
        have GW := Lib.hid (tw_new S1.out T2.out.bl ⟨by omega, by omega, by omega⟩ hs hb ⟨q4, q5, q6⟩ (R := fun _ => True) trivial (fun _ _ _ _ _ _ => trivial))
        have o1 := Lib.hid (show Off F F' G G' from fun g hg => by omega)
        have o2 := Lib.hid (show Off G G' F F' from fun g hg => by omega)
        have T3 := Lib.hid ((T2.out.keep hb).with_ (R' := Two G G' bs ks) ⟨GW.out.p, GW.out.r⟩ (o1.out.zs bs ks))
        clear hs hb q1 q2 q3 q4 q5 q6 l1 l2 l3 l4 l5 l6 hz hz2 T1 T2 S1
        go_wp2_with fail
        refine (alike_c _ GW.out.p GW.out.r).mono ?_
        rintro e w5 ⟨rfl, hb⟩
        have T4 := Lib.hid (T3.out.keep hb)
        clear hb T3
        go_wp2_with fail
        go_loopw [14] (fun x wr => ∃ k : Nat, k ≤ 30 ∧ x = .int .i64 k ∧ ∃ bs ks cs ls, Tw (Two G G' cs ls) w wr F F' bs ks bs ks) (fun x _ => 30 - (intOf x).toNat)
        case atStart => exact ⟨0, by omega, rfl, _, _, _, _, T4.out⟩
        case round =>
          obtain ⟨k, k1, rfl, bs, ks, cs, ls, tw⟩ := hrel
          have T1 := Lib.hid tw
          clear tw T4
          by_cases hk : k < 30
          · have e0 : ((k : Int) < 30) := by omega
            by_cases hkb : k < lenb
            · have e1 : ((k : Int) < (lenb : Int)) := by omega
              obtain ⟨b, off, rfl, kind, addr, m, key, D, bl, bc, ys, c0, c1, c2, c3, c4, hy, h1, h2, h3⟩ := HLB.out.at_ hkb
              replace c0 := tw_cell T1.out c0
              replace c1 := tw_cell T1.out c1
              replace c2 := tw_cell T1.out c2
              replace c3 := tw_cell T1.out c3
              replace c4 := tw_cell T1.out c4
              go_wp2_with fail
              refine (one_c w _ T1.out kind addr m key D bl bc ys hy h1 h2 h3).mono ?_
              rintro e w3 ⟨rfl, bs', ks', tw⟩
              have T2 := Lib.hid tw
              clear tw c0 c1 c2 c3 c4 T1
              by_cases hkc : k < lenc
              · have e2 : ((k : Int) < (lenc : Int)) := by omega
                obtain ⟨b', off', rfl, kind', addr', m', key', D', bl', bc', ys', c0, c1, c2, c3, c4, hy', h1', h2', h3'⟩ := HLC.out.at_ hkc
                replace c0 := tw_cell T2.out c0
                replace c1 := tw_cell T2.out c1
                replace c2 := tw_cell T2.out c2
                replace c3 := tw_cell T2.out c3
                replace c4 := tw_cell T2.out c4
                have T5 := Lib.hid (T2.out.turn GW.out o2.out)
                have KE := Lib.hid T2.out
                clear T2
                go_wp2_with fail
                refine (one_c w _ T5.out kind' addr' m' key' D' bl' bc' ys' hy' h1' h2' h3').mono ?_
                rintro e w6 ⟨rfl, bs6, ks6, tw⟩
                have T3 := Lib.hid (tw.turn KE.out o1.out)
                clear tw c0 c1 c2 c3 c4 T5
                go_wp2_with fail
                exact ⟨⟨k + 1, by omega, rfl, _, _, _, _, T3.out⟩, by simp [intOf]; omega⟩
              · have e2 : ¬ ((k : Int) < (lenc : Int)) := by omega
                go_wp2_with fail
                exact ⟨⟨k + 1, by omega, rfl, _, _, _, _, T2.out⟩, by simp [intOf]; omega⟩
            · have e1 : ¬ ((k : Int) < (lenb : Int)) := by omega
              have T2 := T1
              by_cases hkc : k < lenc
              · have e2 : ((k : Int) < (lenc : Int)) := by omega
                obtain ⟨b', off', rfl, kind', addr', m', key', D', bl', bc', ys', c0, c1, c2, c3, c4, hy', h1', h2', h3'⟩ := HLC.out.at_ hkc
                replace c0 := tw_cell T2.out c0
                replace c1 := tw_cell T2.out c1
                replace c2 := tw_cell T2.out c2
                replace c3 := tw_cell T2.out c3
                replace c4 := tw_cell T2.out c4
                have T5 := Lib.hid (T2.out.turn GW.out o2.out)
                have KE := Lib.hid T2.out
                clear T2
                go_wp2_with fail
                refine (one_c w _ T5.out kind' addr' m' key' D' bl' bc' ys' hy' h1' h2' h3').mono ?_
                rintro e w6 ⟨rfl, bs6, ks6, tw⟩
                have T3 := Lib.hid (tw.turn KE.out o1.out)
                clear tw c0 c1 c2 c3 c4 T5
                go_wp2_with fail
                exact ⟨⟨k + 1, by omega, rfl, _, _, _, _, T3.out⟩, by simp [intOf]; omega⟩
              · have e2 : ¬ ((k : Int) < (lenc : Int)) := by omega
                go_wp2_with fail
                exact ⟨⟨k + 1, by omega, rfl, _, _, _, _, T2.out⟩, by simp [intOf]; omega⟩
          · have e0 : ¬ ((k : Int) < 30) := by omega
            go_wp2_with fail
            refine (alike_c _ T1.out.p T1.out.r).mono ?_
            rintro e w3 ⟨rfl, hb⟩
            have T2 := Lib.hid (T1.out.keep hb)
            clear hb
            go_wp2_with fail
            refine (alike_c _ T2.out.z.1 T2.out.z.2).mono ?_
            rintro e w4 ⟨rfl, hb⟩
            have T3 := Lib.hid (T2.out.keep hb)
            clear hb
            go_wp2_with fail
            refine (works_c _).mono ?_
            rintro e w5 ⟨rfl, hb⟩
            have T4 := Lib.hid (T3.out.keep hb)
            clear hb
            go_wp2_with fail
            go_ret
            exact ⟨rfl, T4.out.bl⟩
      · clear e1 hk
        go_wp2_with fail
        refine (copy_c _ T1.out.p).mono ?_
        rintro e w3 ⟨v, rfl, G, rfl, hs, hb, q1, q2, q3⟩
        have T2 := Lib.hid (T1.out.keep hb)
        have S1 := Lib.hid hs
        have hz := T1.out.bl.size
        have l1 := T1.out.p.ltg; have l2 := T1.out.p.ltb; have l3 := T1.out.p.ltk; have l4 := T1.out.r.ltg; have l5 := T1.out.r.ltb; have l6 := T1.out.r.ltk
        have hz2 := hb.size
        clear hs hb
        go_wp2_with fail
        refine (rcopy_c _ T2.out.r).mono ?_
        rintro e w4 ⟨v, rfl, G', rfl, hs, hb, q4, q5, q6⟩
        have GW := Lib.hid (tw_new S1.out T2.out.bl ⟨by omega, by omega, by omega⟩ hs hb ⟨q4, q5, q6⟩ (R := fun _ => True) trivial (fun _ _ _ _ _ _ => trivial))
        have o1 := Lib.hid (show Off F F' G G' from fun g hg => by omega)
        have o2 := Lib.hid (show Off G G' F F' from fun g hg => by omega)
        have T3 := Lib.hid ((T2.out.keep hb).with_ (R' := Two G G' bs ks) ⟨GW.out.p, GW.out.r⟩ (o1.out.zs bs ks))
        clear hs hb q1 q2 q3 q4 q5 q6 l1 l2 l3 l4 l5 l6 hz hz2 T1 T2 S1
        go_wp2_with fail
        refine (alike_c _ GW.out.p GW.out.r).mono ?_
        rintro e w5 ⟨rfl, hb⟩
        have T4 := Lib.hid (T3.out.keep hb)
        clear hb T3
        go_wp2_with fail
        go_loopw [14] (fun x wr => ∃ k : Nat, k ≤ 30 ∧ x = .int .i64 k ∧ ∃ bs ks cs ls, Tw (Two G G' cs ls) w wr F F' bs ks bs ks) (fun x _ => 30 - (intOf x).toNat)
        case atStart => exact ⟨0, by omega, rfl, _, _, _, _, T4.out⟩
        case round =>
          obtain ⟨k, k1, rfl, bs, ks, cs, ls, tw⟩ := hrel
          have T1 := Lib.hid tw
          clear tw T4
          by_cases hk : k < 30
          · have e0 : ((k : Int) < 30) := by omega
            by_cases hkb : k < lenb
            · have e1 : ((k : Int) < (lenb : Int)) := by omega
              obtain ⟨b, off, rfl, kind, addr, m, key, D, bl, bc, ys, c0, c1, c2, c3, c4, hy, h1, h2, h3⟩ := HLB.out.at_ hkb
              replace c0 := tw_cell T1.out c0
              replace c1 := tw_cell T1.out c1
              replace c2 := tw_cell T1.out c2
              replace c3 := tw_cell T1.out c3
              replace c4 := tw_cell T1.out c4
              go_wp2_with fail
              refine (one_c w _ T1.out kind addr m key D bl bc ys hy h1 h2 h3).mono ?_
              rintro e w3 ⟨rfl, bs', ks', tw⟩
              have T2 := Lib.hid tw
              clear tw c0 c1 c2 c3 c4 T1
              by_cases hkc : k < lenc
              · have e2 : ((k : Int) < (lenc : Int)) := by omega
                obtain ⟨b', off', rfl, kind', addr', m', key', D', bl', bc', ys', c0, c1, c2, c3, c4, hy', h1', h2', h3'⟩ := HLC.out.at_ hkc
                replace c0 := tw_cell T2.out c0
                replace c1 := tw_cell T2.out c1
                replace c2 := tw_cell T2.out c2
                replace c3 := tw_cell T2.out c3
                replace c4 := tw_cell T2.out c4
                have T5 := Lib.hid (T2.out.turn GW.out o2.out)
                have KE := Lib.hid T2.out
                clear T2
                go_wp2_with fail
                refine (one_c w _ T5.out kind' addr' m' key' D' bl' bc' ys' hy' h1' h2' h3').mono ?_
                rintro e w6 ⟨rfl, bs6, ks6, tw⟩
                have T3 := Lib.hid (tw.turn KE.out o1.out)
                clear tw c0 c1 c2 c3 c4 T5
                go_wp2_with fail
                exact ⟨⟨k + 1, by omega, rfl, _, _, _, _, T3.out⟩, by simp [intOf]; omega⟩
              · have e2 : ¬ ((k : Int) < (lenc : Int)) := by omega
                go_wp2_with fail
                exact ⟨⟨k + 1, by omega, rfl, _, _, _, _, T2.out⟩, by simp [intOf]; omega⟩
            · have e1 : ¬ ((k : Int) < (lenb : Int)) := by omega
              have T2 := T1
              by_cases hkc : k < lenc
              · have e2 : ((k : Int) < (lenc : Int)) := by omega
                obtain ⟨b', off', rfl, kind', addr', m', key', D', bl', bc', ys', c0, c1, c2, c3, c4, hy', h1', h2', h3'⟩ := HLC.out.at_ hkc
                replace c0 := tw_cell T2.out c0
                replace c1 := tw_cell T2.out c1
                replace c2 := tw_cell T2.out c2
                replace c3 := tw_cell T2.out c3
                replace c4 := tw_cell T2.out c4
                have T5 := Lib.hid (T2.out.turn GW.out o2.out)
                have KE := Lib.hid T2.out
                clear T2
                go_wp2_with fail
                refine (one_c w _ T5.out kind' addr' m' key' D' bl' bc' ys' hy' h1' h2' h3').mono ?_
                rintro e w6 ⟨rfl, bs6, ks6, tw⟩
                have T3 := Lib.hid (tw.turn KE.out o1.out)
                clear tw c0 c1 c2 c3 c4 T5
                go_wp2_with fail
                exact ⟨⟨k + 1, by omega, rfl, _, _, _, _, T3.out⟩, by simp [intOf]; omega⟩
              · have e2 : ¬ ((k : Int) < (lenc : Int)) := by omega
                go_wp2_with fail
                exact ⟨⟨k + 1, by omega, rfl, _, _, _, _, T2.out⟩, by simp [intOf]; omega⟩
          · have e0 : ¬ ((k : Int) < 30) := by omega
            go_wp2_with fail
            refine (alike_c _ T1.out.p T1.out.r).mono ?_
            rintro e w3 ⟨rfl, hb⟩
            have T2 := Lib.hid (T1.out.keep hb)
            clear hb
            go_wp2_with fail
            refine (alike_c _ T2.out.z.1 T2.out.z.2).mono ?_
            rintro e w4 ⟨rfl, hb⟩
            have T3 := Lib.hid (T2.out.keep hb)
            clear hb
            go_wp2_with fail
            refine (works_c _).mono ?_
            rintro e w5 ⟨rfl, hb⟩
            have T4 := Lib.hid (T3.out.keep hb)
            clear hb
            go_wp2_with fail
            go_ret
            exact ⟨rfl, T4.out.bl⟩
end Go.Proofs.Ytcollddpfahaaaa
