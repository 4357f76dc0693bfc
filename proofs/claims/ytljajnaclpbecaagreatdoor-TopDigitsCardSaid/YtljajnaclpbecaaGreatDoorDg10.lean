/- Rows.TopDigitsCardSaid (jobshop/jobshoptop.TopDigits): whatever the input, the law returns true and each argument reads as it did. The frame of the proof; the walk lies in TopDigitsW. Conditions: the row's own (package-level tables as the program's text lays them; the card ties them). The tied card stands for the pruned copy of the project that the seat holds; the last text of 10. Conditions: as each states them. -/
import Derived.Test.YtljajnaclpbecaaGreatDoorDg1
import Derived.Test.YtljajnaclpbecaaGreatDoorDg8
import Derived.Test.YtljajnaclpbecaaGreatDoorDg9
import Derived.RangeFuncNested
import Derived.RangeFuncBound
import Derived.RangeFuncCalls
import Derived.RangeFuncLeaves
import Derived.Shelf.Abstract
import Derived.Shelf.RegionOpen
import Derived.WalkKit
import Derived.OwnWalkIn
import Derived.TacticsInMore
import Derived.LoopNIn
import Derived.LoopIn
import Derived.Outline
import Derived.Laws.EntriesVeiled
import Derived.Test.YtljajnaclpbecaaGreatDoorCards
import Derived.Test.YtljajnaclpbecaaGreatDoorTie
import Derived.LaidMore
import Derived.LaidHandle
import Derived.MakeChecks
import Derived.Stop.Joined
import Derived.Stop.LaidErr
import Derived.Lib.LaidTab
import Derived.Lib.ItoaNum
import Derived.SevenTiedAt
namespace Go.Proofs.YtljajnaclpbecaaGreatDoor
open Go.RowKit Go.Shelf
set_option maxRecDepth 100000
set_option linter.unusedVariables false
set_option linter.unusedSimpArgs false
attribute [local go_sem] Oper.semAt_some
abbrev K15 := { x : Int // 0 ≤ x ∧ x ≤ 15 }
def vals (l : List K15) : List Int := l.map (·.1)
theorem vals_len (l : List K15) : (vals l).length = l.length := by simp [vals]
theorem vals_snoc (l : List K15) (x : K15) : vals (l ++ [x]) = vals l ++ [x.1] := by simp [vals]
theorem vals_rng (l : List K15) (i : Nat) : 0 ≤ (vals l).getD i 0 ∧ (vals l).getD i 0 ≤ 15 := by
  rw [List.getD_eq_getElem?_getD]
  rcases Nat.lt_or_ge i (vals l).length with hi | hi
  · rw [List.getElem?_eq_getElem hi]
    have : (vals l)[i] = (l[i]'(by simpa [vals] using hi)).1 := by simp [vals]
    simp only [Option.getD_some, this]
    exact (l[i]'(by simpa [vals] using hi)).2
  · rw [List.getElem?_eq_none hi]; simp
/-- two blocks are as they were -/
def Kp2 (b c : Nat) (W W' : World) : Prop := W'.heap[b]? = W.heap[b]? ∧ W'.heap[c]? = W.heap[c]?
theorem Kp2.refl (b c : Nat) (W : World) : Kp2 b c W W := ⟨rfl, rfl⟩
theorem Kp2.trans {b c : Nat} {A B C : World} (h : Kp2 b c A B) (h' : Kp2 b c B C) : Kp2 b c A C := ⟨h'.1.trans h.1, h'.2.trans h.2⟩
theorem Kp2.cell {b c : Nat} {W W' : World} (h : Kp2 b c W W') (i : Nat) : W'.cell? ⟨b, i, none⟩ = W.cell? ⟨b, i, none⟩ ∧ W'.cell? ⟨c, i, none⟩ = W.cell? ⟨c, i, none⟩ := by
  unfold World.cell?
  simp only [h.1, h.2]
  exact ⟨trivial, trivial⟩
theorem Kp2.below {b c m : Nat} {W W' : World} (h : Below m W W') (hb : b < m) (hc : c < m) : Kp2 b c W W' := ⟨h.block _ hb, h.block _ hc⟩
theorem Kp2.set_ {b c : Nat} {W : World} {p : Addr} (v : Value) (hb : p.block ≠ b) (hc : p.block ≠ c) : Kp2 b c W (W.setCell p v) := ⟨Below.heap_setCell W p v b (Ne.symm hb), Below.heap_setCell W p v c (Ne.symm hc)⟩
theorem Kp2.put_ {b c : Nat} {w : World} (hb : b < w.heap.size) (hc : c < w.heap.size) (W : World) (l : Nat) (o o' : Obj) (hl : w.heap.size ≤ l) (ho : W.heap[l]? = some o) (_ : o.isCells = false) (_ : o.isWalk = false) : Kp2 b c W (W.putObj l o') := by
  constructor
  all_goals
    simp only [World.putObj]
    rw [Array.getElem?_setIfInBounds_ne (by omega)]
theorem bk_kept {A B : World} {k : Nat} {cs : List Value} {T : TypeId} {row : Option Nat} (h : Bk A k T cs) (hg : A.grownBy B row) (hr : ∀ r, row = some r → ∃ o : Obj, A.heap[r]? = some o ∧ o.isCells = false) : Bk B k T cs := by
  refine (hg.block k (Array.getElem?_eq_some_iff.1 h).1 (fun e => ?_)).trans h
  obtain ⟨o, ho, hc⟩ := hr k e.symm
  unfold Bk at h
  rw [h] at ho; injection ho with ho; rw [← ho] at hc; cases hc
set_option maxRecDepth 1000000 in
set_option maxHeartbeats 8000000 in
theorem inf_c {n : Nat} (h : 1 ≤ n ∧ n ≤ 16) (w : World) : Calls Tryz.prog 145 #[.int .i64 (n : Int)] w fun e w' => e = .returned (.bool true) ∧ w = w' := by
  have h1 : (1 : Int) ≤ (n : Int) := by omega
  have h2 : (n : Int) ≤ 16 := by omega
  go_enter Tryz.func145, Tryz.ntmps145
  go_wp2
  go_ret
  exact ⟨rfl, rfl⟩
set_option maxRecDepth 1000000 in
set_option maxHeartbeats 8000000 in
theorem digits_c (A : Option Addr) (len cap : Nat) (w : World) : Calls Tryz.prog 147 #[.slice A len cap] w fun e w' => e = .returned (.func (.func 174) #[] #[.pointer (some ⟨w.heap.size, 0, none⟩)]) ∧ w' = w.alloc (.cells #[.slice A len cap] 22) := by
  go_enter Tryz.func147, Tryz.ntmps147
  go_wp2
  go_ret
  exact ⟨rfl, rfl⟩
set_option maxRecDepth 1000000 in
set_option maxHeartbeats 8000000 in
theorem digits_stops (n : Nat) (hn : 1 ≤ n) (L b cap Bb : Nat) (zs : List Int) (w : World) (hy : Byt w (some ⟨b, 0, none⟩) L zs) (hL : 1 ≤ L) (hL2 : L ≤ 16) (hb : b < w.heap.size) (hB : Bb < w.heap.size) (c1 : w.cell? ⟨Bb, 0, none⟩ = some (.slice (some ⟨b, 0, none⟩) L cap)) :
    SeqStopsK Fence.wide n Tryz.prog 174 #[.pointer (some ⟨Bb, 0, none⟩)] (fun x : K15 => #[Value.int .u8 x.1]) (Kp2 b Bb) (fun ys => vals ys = hv zs (2 * zs.length)) (fun pre => ∃ c, c ≤ 2 * zs.length ∧ vals pre = hv zs c) (2 * L) w := fun l J Jx W hW _ _ hY h0 => by
  have hl := hy.1
  have hK0 : Kp2 b Bb w W := .below hW hb hB
  have HR := Lib.hid hy.range
  have CS := Lib.hid (show ∀ i, i < L → w.cell? ⟨b, i, none⟩ = some (.int .u8 (zs.getD i 0)) from fun i hi => by
    obtain ⟨b', off, e, hc⟩ := hy.2.2 (by omega)
    injection e with e; injection e with e1 e2; subst e1 e2
    have := hc i hi
    rwa [Nat.zero_add] at this)
  have C1 := (hK0.cell 0).2.trans c1
  have w1 : IntKind.i64.wrap ((L : Int) - 1) = (L : Int) - 1 := wrap_i64_id (by omega) (by omega)
  have HH := Lib.hid (show ∀ i k, L = i + 1 + k → half zs (2 * k) = zs.getD i 0 % 16 ∧ half zs (2 * k + 1) = zs.getD i 0 / 16 from fun i k h => by
    unfold half
    rw [if_pos (by omega), if_neg (by omega), hl, show L - 1 - 2 * k / 2 = i by omega, show L - 1 - (2 * k + 1) / 2 = i by omega]
    exact ⟨rfl, rfl⟩)
  rw [hl]
  clear hy hl
  refine callsIn_of_wp Tryz.func174 rfl trivial ?_ rfl
  simp only [Tryz.ntmps174, List.size_toArray, List.length_cons, List.length_nil, Nat.reduceAdd, Nat.reduceSub, Array.replicate_succ, Array.replicate_zero, List.push_toArray, List.append_toArray, List.nil_append, List.cons_append]
  gi_wp2
  gi_loopw [3] (fun iv wr => ∃ (k : Nat) (pre : List K15), k ≤ L ∧ iv = .int .i64 ((L : Int) - 1 - (k : Int)) ∧ vals pre = hv zs (2 * k) ∧ J pre wr ∧ Kp2 b Bb w wr) (fun iv _ => (intOf iv + 1).toNat)
  case atStart => exact ⟨0, [], by omega, by simp, rfl, h0, hK0⟩
  case round =>
    obtain ⟨k, pre, hk, rfl, hpre, hJs, hnx⟩ := hrel
    have PR := Lib.hid hpre
    have PL := Lib.hid (show pre.length = 2 * k from by have := congrArg List.length hpre; rwa [vals_len, hv_len] at this)
    clear hpre
    have D1 := (hnx.cell 0).2.trans c1
    by_cases hlt : k < L
    · obtain ⟨i, hi⟩ : ∃ i : Nat, L = i + 1 + k := ⟨L - 1 - k, by omega⟩
      have HI := Lib.hid hi
      obtain ⟨q1, q2⟩ := HH.out i k hi
      have ei : ((L : Int) - 1 - (k : Int)) = (i : Int) := by omega
      rw [ei]
      have i0 : (0 : Int) ≤ (i : Int) := by omega
      have i1 : (i : Int) < (L : Int) := by omega
      have i2 : IntKind.i64.wrap ((i : Int) - 1) = (i : Int) - 1 := wrap_i64_id (by omega) (by omega)
      have D2 := (hnx.cell i).1.trans (CS.out i (by omega))
      have zr := HR.out i
      obtain ⟨z, hz⟩ : ∃ z, zs.getD i 0 = z := ⟨_, rfl⟩
      rw [hz] at D2 zr q1 q2
      have a1 : bits .and .u8 z 15 = z % 16 := by
        have := and15 z.toNat (by omega)
        rwa [Int.toNat_of_nonneg zr.1] at this
      obtain ⟨x1, hx1⟩ : ∃ x : K15, x.1 = z % 16 := ⟨⟨z % 16, by omega⟩, rfl⟩
      obtain ⟨x2, hx2⟩ : ∃ x : K15, x.1 = z / 16 := ⟨⟨z / 16, by omega⟩, rfl⟩
      have st1 := Lib.hid (show vals (pre ++ [x1]) = hv zs (2 * k + 1) from by rw [vals_snoc, PR.out, hx1, ← q1, hv_succ])
      have st2 := Lib.hid (show vals (pre ++ [x1] ++ [x2]) = hv zs (2 * (k + 1)) from by rw [vals_snoc, st1.out, hx2, ← q2]; exact (hv_succ zs (2 * k + 1)).symm)
      obtain ⟨fn, tmps, assign, body, hy, hR⟩ := hY pre x1 wr hJs (by rw [PL.out]; omega)
      rw [hx1] at hy
      have NX := Lib.hid hnx
      clear hz ei hi q1 q2 hnx
      gi_wp2
      refine hR.mono ?_
      rintro e W3 (⟨rfl, hJ3, hk3⟩ | ⟨rfl, hJx3⟩)
      · have E1 := (hk3.cell 0).2.trans D1
        have E2 := (hk3.cell i).1.trans D2
        obtain ⟨fn2, tmps2, assign2, body2, hy2, hR2⟩ := hY (pre ++ [x1]) x2 W3 hJ3 (by have := HI.out; have := PL.out; simp; omega)
        rw [hx2] at hy2
        have K3 := Lib.hid hk3
        clear hJs hk3 hy hR D1 D2
        gi_wp2
        refine hR2.mono ?_
        rintro e W4 (⟨rfl, hJ4, hk4⟩ | ⟨rfl, hJx4⟩)
        · gi_wp2
          go_roundw
          case rel => exact ⟨k + 1, pre ++ [x1] ++ [x2], by have := HI.out; omega, by have := HI.out; simp; omega, st2.out, hJ4, (NX.out.trans K3.out).trans hk4⟩
          case measure => simp [intOf]; try omega
        · gi_wp2
          refine bodyPost_ret (results_none rfl _ _ _) rfl ?_
          exact ⟨⟨_, rfl⟩, .inr ⟨_, ⟨2 * (k + 1), by have := HI.out; omega, st2.out⟩, hJx4⟩⟩
      · gi_wp2
        refine ⟨fun _ h => (by cases h), ?_⟩
        gi_wp2
        refine bodyPost_ret (results_none rfl _ _ _) rfl ?_
        exact ⟨⟨_, rfl⟩, .inr ⟨_, ⟨2 * k + 1, by have := HI.out; omega, st1.out⟩, hJx3⟩⟩
    · obtain rfl : k = L := by omega
      have i0 : ¬ ((0 : Int) ≤ (k : Int) - 1 - (k : Int)) := by omega
      gi_wp2
      go_end0
      exact ⟨⟨_, rfl⟩, .inl ⟨pre, PR.out, hJs⟩⟩
set_option maxRecDepth 1000000 in
set_option maxHeartbeats 8000000 in
theorem unpack_c (n L b cap : Nat) (hn : 1 ≤ n ∧ n ≤ 16) (hL : 1 ≤ L ∧ L ≤ 16) (zs : List Int) (w : World) (hy : Byt w (some ⟨b, 0, none⟩) L zs) : Calls Tryz.prog 89 #[.slice (some ⟨b, 0, none⟩) L cap, .int .i64 (n : Int)] w fun e w' => ∃ v, e = .returned v ∧ ∃ A cap, v = .slice A n cap ∧ Byt w' A n (unpk zs n) ∧ Below w.heap.size w w' := by
  have hb : b < w.heap.size := by
    obtain ⟨b', off, e, hc⟩ := hy.2.2 (by omega)
    injection e with e; injection e with e1 e2; subst e1 e2
    have h1 := hc 0 (by omega)
    rcases Nat.lt_or_ge b w.heap.size with h2 | h2
    · exact h2
    · unfold World.cell? at h1; simp only [Array.getElem?_eq_none h2] at h1; cases h1
  have Y := Lib.hid hy
  have HN := Lib.hid hn
  have HL := Lib.hid hL
  have MK := run_mk_b n (by omega)
  have LZ := Lib.hid hy.1
  have HR := Lib.hid hy.2.1
  clear hy hn hL
  refine (callsIn_wide (n := 5)).1 ?_
  refine callsIn_of_wp_marks Tryz.func89 rfl trivial ?_ rfl
  simp only [Tryz.ntmps89, List.size_toArray, List.length_cons, List.length_nil, Nat.reduceAdd, Nat.reduceSub, Array.replicate_succ, Array.replicate_zero, List.push_toArray, List.append_toArray, List.nil_append, List.cons_append]
  refine wpIn_wide.2 ?_
  go_upto_region 1 with fail
  have N1 := Bk.new w [.int .i64 (n : Int)] 3
  have B1 := (Below.refl w.heap.size w).alloc (Nat.le_refl _) (.cells #[.int .i64 (n : Int)] 3)
  obtain ⟨w1, hW⟩ : ∃ V, w.alloc (.cells #[.int .i64 (n : Int)] 3) = V := ⟨_, rfl⟩
  rw [hW] at N1 B1
  rw [hW]
  obtain ⟨g, hg⟩ : ∃ k, w.heap.size = k := ⟨_, rfl⟩
  rw [hg] at hb N1 B1
  simp only [hg]
  clear hW
  have ln := N1.lt
  have c1 := N1.cell (c := 0) rfl
  go_upto_region 3 with (go_at_call 145; refine nz (inf_c (by first | exact HN.out | exact HL.out) _) ?_)
  refine wp_region_list ?_
  simp only [List.append_eq, List.cons_append, List.nil_append]
  refine lsv (w' := w1) ?_
  refine lsv (v := .slice (some ⟨w1.heap.size, 0, none⟩) n n) (w' := w1.alloc (.cells (zeroB n) 5)) ?_
  have O1 : Bk (w1.alloc (.cells (zeroB n) 5)) w1.heap.size 5 ((fillL 240 n 0).map (Value.int .u8)) := by
    rw [fillL_0, List.map_replicate]
    exact Bk.new w1 _ 5
  have B2 := B1.alloc (by omega) (.cells (zeroB n) 5)
  have N2 := N1.keep ((Below.refl _ _).alloc (Nat.le_refl _) (.cells (zeroB n) 5))
  have l1 := O1.lt
  obtain ⟨w2, hW⟩ : ∃ V, w1.alloc (.cells (zeroB n) 5) = V := ⟨_, rfl⟩
  rw [hW] at O1 B2 N2 l1
  rw [hW]
  obtain ⟨o, ho⟩ : ∃ k, w1.heap.size = k := ⟨_, rfl⟩
  rw [ho] at O1 l1 ln
  simp only [ho]
  clear hW MK c1 N1 B1
  refine lsv (v := .pointer (some ⟨w2.heap.size, 0, none⟩)) (w' := w2.alloc (.cells #[.slice none 0 0] 22)) ?_
  refine lsk (w' := (w2.alloc (.cells #[.slice none 0 0] 22)).setCell ⟨w2.heap.size, 0, none⟩ (.slice (some ⟨o, 0, none⟩) n n)) (by unfold execOp; go_simp; (try rfl)) ?_
  refine wpList_nil ?_
  have S2 : Bk ((w2.alloc (.cells #[.slice none 0 0] 22)).setCell ⟨w2.heap.size, 0, none⟩ (.slice (some ⟨o, 0, none⟩) n n)) w2.heap.size 22 [.slice (some ⟨o, 0, none⟩) n n] := (Bk.new w2 [.slice none 0 0] 22).set_ 0 _
  have C2 := (Ch.of_below ((Below.refl w2.heap.size w2).alloc (Nat.le_refl _) (.cells #[.slice none 0 0] 22)) [w2.heap.size]).setCell (p := ⟨w2.heap.size, 0, none⟩) (by simp) (.slice (some ⟨o, 0, none⟩) n n)
  have O2 := O1.ch C2 (by simp; omega)
  have N3 := N2.ch C2 (by simp; omega)
  have B3 := below_ch B2 C2 (by simp; omega) (by omega)
  have l2 := S2.lt
  obtain ⟨w3, hW⟩ : ∃ V, (w2.alloc (.cells #[.slice none 0 0] 22)).setCell ⟨w2.heap.size, 0, none⟩ (.slice (some ⟨o, 0, none⟩) n n) = V := ⟨_, rfl⟩
  rw [hW] at S2 O2 N3 B3 l2
  rw [hW]
  obtain ⟨so, hso⟩ : ∃ k, w2.heap.size = k := ⟨_, rfl⟩
  rw [hso] at S2 l2 l1
  simp only [hso]
  clear hW C2 O1 N2 B2
  have k1 := S2.cell (c := 0) rfl
  go_wp2
  go_loopw [22] (fun x W => ∃ k : Nat, k ≤ n ∧ x = .int .i64 (k : Int) ∧ Bk W o 5 ((fillL 240 n k).map (Value.int .u8)) ∧ Bk W so 22 [.slice (some ⟨o, 0, none⟩) n n] ∧ Bk W g 3 [.int .i64 (n : Int)] ∧ Below g w W) (fun x _ => n - (intOf x).toNat)
  case atStart => exact ⟨0, by omega, rfl, O2, S2, N3, B3⟩
  case round =>
    clear O2 S2 N3 B3 k1
    obtain ⟨k, hk, rfl, hO, hS, hNN, hB⟩ := hrel
    rename World => W
    have k1 := hS.cell (c := 0) rfl
    by_cases hlt : k < n
    · have k2 : (k : Int) < (n : Int) := by omega
      have kw : IntKind.i64.wrap ((k : Int) + 1) = (k : Int) + 1 := wrap_i64_id (by omega) (by have := HN.out.2; omega)
      have f1 := hO.free
      have fl := fillL_len 240 n k
      have c2 : W.cell? ⟨o, k, none⟩ = some (.int .u8 ((fillL 240 n k).getD k 0)) := by
        refine hO.cell ?_
        rw [List.getElem?_map, List.getElem?_eq_getElem (by omega), List.getD_eq_getElem?_getD, List.getElem?_eq_getElem (by omega)]
        rfl
      have O3 := hO.set_ k (.int .u8 240)
      rw [← List.map_set, fillL_succ _ _ _ hlt] at O3
      have hC := (Ch.refl W [o]).setCell (p := ⟨o, k, none⟩) (by simp) (.int .u8 240)
      have S3 := hS.ch hC (by simp; omega)
      have N4 := hNN.ch hC (by simp; omega)
      have B4 := below_ch hB hC (by simp; omega) (by have := hO.lt; omega)
      clear hC hS hNN hB hO
      go_wp2
      go_roundw
      case rel => exact ⟨k + 1, by omega, rfl, O3, S3, N4, B4⟩
      case measure => simp [intOf]; omega
    · obtain rfl : k = n := by omega
      have k2 : ¬ ((k : Int) < (k : Int)) := by omega
      rw [fillL_n, ← outH_nil] at hO
      have c3 := hNN.cell (c := 0) rfl
      have lW := hS.lt
      go_upto_region 10 with fail
      have A1 : Bk (W.alloc (.cells #[.int .i64 (k : Int)] 3)) W.heap.size 3 [.int .i64 (k : Int)] := Bk.new W [.int .i64 (k : Int)] 3
      have B5 := hB.alloc (by omega) (.cells #[.int .i64 (k : Int)] 3)
      have kp := (Below.refl _ _).alloc (Nat.le_refl W.heap.size) (.cells #[.int .i64 (k : Int)] 3)
      have O5 := hO.keep kp
      have S5 := hS.keep kp
      have N5 := hNN.keep kp
      have l5 := A1.lt
      obtain ⟨sa, hsa⟩ : ∃ m, W.heap.size = m := ⟨_, rfl⟩
      rw [hsa] at A1 lW l5
      simp only [hsa]
      obtain ⟨W1, hW⟩ : ∃ V, W.alloc (.cells #[.int .i64 (k : Int)] 3) = V := ⟨_, rfl⟩
      rw [hW] at A1 B5 O5 S5 N5 l5
      rw [hW]
      clear hW kp hO hS hNN hB k1 c3 hsa
      have Y1 := Y.out.keep (show Below w.heap.size w W1 from hg ▸ B5)
      go_wp2_with (go_at_call 147; refine (digits_c _ _ _ _).mono ?_; rintro e w1 ⟨rfl, rfl⟩)
      have D1 : Bk (W1.alloc (.cells #[.slice (some ⟨b, 0, none⟩) L cap] 22)) W1.heap.size 22 [.slice (some ⟨b, 0, none⟩) L cap] := Bk.new W1 [.slice (some ⟨b, 0, none⟩) L cap] 22
      have B6 := B5.alloc (by omega) (.cells #[.slice (some ⟨b, 0, none⟩) L cap] 22)
      have kp := (Below.refl _ _).alloc (Nat.le_refl W1.heap.size) (.cells #[.slice (some ⟨b, 0, none⟩) L cap] 22)
      have A6 := A1.keep kp
      have O6 := O5.keep kp
      have S6 := S5.keep kp
      have N6 := N5.keep kp
      have l6 := D1.lt
      have Y2 := Y1.keep kp
      obtain ⟨db, hdb⟩ : ∃ m, W1.heap.size = m := ⟨_, rfl⟩
      rw [hdb] at D1 l5 l6
      simp only [hdb]
      obtain ⟨W0, hW⟩ : ∃ V, W1.alloc (.cells #[.slice (some ⟨b, 0, none⟩) L cap] 22) = V := ⟨_, rfl⟩
      rw [hW] at D1 B6 A6 O6 S6 N6 Y2 l6
      rw [hW]
      clear hW kp A1 B5 O5 S5 N5 Y1 hdb
      refine (wpIn_wide (n := 5)).1 ?_
      refine wpIn_rangeFunc_ownF rfl (by omega) (gf := 174) (lb := #[.pointer (some ⟨db, 0, none⟩)]) rfl trivial (enters_of Tryz.func174 (by kernel_rfl) rfl)
        (digits_stops (5 - 1) (by omega) L b cap db zs W0 Y2 HL.out.1 HL.out.2 (by omega) (by omega) (D1.cell (c := 0) rfl)) Kp2.trans (fun W l o o' h1 h2 h3 h4 => Kp2.put_ (by omega) (by omega) W l o o' h1 h2 h3 h4) (Below.refl _ _) (fun _ => rfl)
        (fun pre W => (pre.length ≤ k + 1 ∧ Bk W o 5 ((outH (vals pre) k).map (Value.int .u8)) ∧ Bk W so 22 [.slice (some ⟨o, 0, none⟩) k k] ∧ Bk W sa 3 [.int .i64 ((k : Int) - (pre.length : Int))] ∧ Bk W g 3 [.int .i64 (k : Int)]) ∧ Below g w W)
        (fun c pre W => (c = .exit 2 ∧ k + 1 ≤ pre.length ∧ Bk W o 5 ((outH (vals pre) k).map (Value.int .u8)) ∧ Bk W so 22 [.slice (some ⟨o, 0, none⟩) k k]) ∧ Below g w W)
        (OwnFrom.and (Own.from (fun s A B row hs hg hr => ⟨hs.1, bk_kept hs.2.1 hg hr, bk_kept hs.2.2.1 hg hr, bk_kept hs.2.2.2.1 hg hr, bk_kept hs.2.2.2.2 hg hr⟩) _) (ownFrom_below (by omega) (by omega)))
        (fun c => OwnFrom.and (Own.from (fun s A B row hs hg hr => ⟨hs.1, hs.2.1, bk_kept hs.2.2.1 hg hr, bk_kept hs.2.2.2 hg hr⟩) _) (ownFrom_below (by omega) (by omega)))
        ⟨⟨by simp, O6, S6, by simpa using A6, N6⟩, B6⟩
        ?a1 ?assign ?body ?done ?stop
      case assign =>
        intro l x W K hK
        gi_wp2
        exact hK
      case body =>
        rintro l pre ⟨d, hd⟩ W ⟨⟨hp, hO, hS, hA, hN⟩, hB⟩ hlen
        have ea : vals (pre ++ [(⟨d, hd⟩ : K15)]) = vals pre ++ [d] := vals_snoc _ _
        have eb : (pre ++ [(⟨d, hd⟩ : K15)]).length = pre.length + 1 := by simp
        have hr15 := vals_rng pre
        have el := vals_len pre
        obtain ⟨hs, hhs⟩ : ∃ hs, vals pre = hs := ⟨_, rfl⟩
        rw [hhs] at hr15 el hO ea
        rw [← el] at hp hA eb
        have EA := Lib.hid ea
        have EB := Lib.hid eb
        clear hlen hhs el ea eb
        have n1 : o ≠ so := by omega
        have n2 : o ≠ sa := by omega
        have n3 : sa ≠ o := by omega
        have n4 : g ≠ o := by omega
        have n5 : so ≠ o := by omega
        have n6 : so ≠ sa := by omega
        have n7 : g ≠ sa := by omega
        have lWW := hB.size
        have ox := outH_len hs k
        have gx : ∀ i, i < k → W.cell? ⟨o, i, none⟩ = some (.int .u8 ((outH hs k).getD i 0)) := by
          intro i hi
          refine hO.cell ?_
          rw [List.getElem?_map, List.getElem?_eq_getElem (by omega), List.getD_eq_getElem?_getD, List.getElem?_eq_getElem (by omega)]
          rfl
        have k0 := hS.cell (c := 0) rfl
        have k1 := hA.cell (c := 0) rfl
        have k2 := hN.cell (c := 0) rfl
        have f1 := hO.free
        have f2 := hA.free
        have hB2 : ∀ (i : Nat) (v v2 : Value), Below g w ((W.setCell ⟨o, i, none⟩ v).setCell ⟨sa, 0, none⟩ v2) := fun i v v2 => below_ch hB (((Ch.refl W [o, sa]).setCell (p := ⟨o, i, none⟩) (by simp) v).setCell (p := ⟨sa, 0, none⟩) (by simp) v2) (by simp; omega) (by omega)
        rcases (show hs.length = 0 ∨ (1 ≤ hs.length ∧ hs.length ≤ k) ∨ hs.length = k + 1 by omega) with h0 | ⟨h1, h2⟩ | h3
        · obtain rfl : hs = [] := List.length_eq_zero_iff.1 h0
          obtain ⟨m, hm⟩ : ∃ m, k = m + 1 := ⟨k - 1, by have := HN.out; omega⟩
          have q0 : ((k : Int) - ((([] : List Int).length : Nat) : Int)) = (k : Int) := by simp
          rw [q0] at k1
          have q1 : IntKind.i64.wrap ((k : Int) - 1) = (m : Int) := by rw [hm, wrap_i64_id (by omega) (by have := HN.out; omega)]; omega
          have q2 : (m : Int) < (k : Int) := by omega
          have q3 : IntKind.u8.wrap (d * 16) = 16 * d := by rw [IntKind.wrap_u8]; omega
          have c2 := gx m (by omega)
          have st := outH_one k d (by omega)
          rw [show k - 1 = m by omega] at st
          have ST := Lib.hid st
          have HM := Lib.hid hm
          clear hm st gx q0
          gi_wp2
          have O3 := hO.set_ m (.int .u8 (16 * d))
          rw [← List.map_set, ST.out] at O3
          refine ⟨(KeepsOthers.setCell _ _ _).trans (KeepsOthers.setCell _ _ _), (Kp2.set_ _ (by show o ≠ b; omega) (by show o ≠ db; omega)).trans (Kp2.set_ _ (by show sa ≠ b; omega) (by show sa ≠ db; omega)), ⟨by rw [EB.out]; have := HM.out; simp, ?_, (hS.other _ (by show o ≠ so; omega)).other _ (by show sa ≠ so; omega), ?_, (hN.other _ (by show o ≠ g; omega)).other _ (by show sa ≠ g; omega)⟩, hB2 _ _ _⟩
          · rw [EA.out]
            exact O3.other _ (by show sa ≠ o; omega)
          · have := (hA.other (p := ⟨o, m, none⟩) (.int .u8 (16 * d)) (by show o ≠ sa; omega)).set_ 0 (.int .i64 (m : Int))
            rw [EB.out]
            rw [show ((k : Int) - ((([] : List Int).length + 1 : Nat) : Int)) = (m : Int) by have := HM.out; simp; omega]
            exact this
        · obtain ⟨i, hi⟩ : ∃ i : Nat, k = i + hs.length := ⟨k - hs.length, by omega⟩
          have q0 : ((k : Int) - ((hs.length : Nat) : Int)) = (i : Int) := by omega
          rw [q0] at k1
          have q1 : ((i : Int) == (k : Int)) = false := by rw [beq_eq_false_iff_ne]; omega
          have q5 : ¬ ((i : Int) = (k : Int)) := by omega
          have q2 : ¬ ((i : Int) < 0) := by omega
          have q3 : (i : Int) < (k : Int) := by omega
          have q4 : IntKind.i64.wrap ((i : Int) - 1) = (i : Int) - 1 := wrap_i64_id (by omega) (by have := HN.out; omega)
          have ik : k - hs.length = i := by omega
          have c2 := gx i (by omega)
          obtain ⟨m, hm, hat⟩ := outH_at hs k h1 h2 hr15
          have st := outH_snoc hs k d h1 h2
          rw [ik] at st hat
          rw [hat] at c2 st
          have q6 : bits .or .u8 (16 * (m : Int)) d = 16 * (m : Int) + d := by
            have := or_lo4 m hm d.toNat (by omega)
            rwa [Int.toNat_of_nonneg hd.1] at this
          have ST := Lib.hid st
          have HI := Lib.hid hi
          clear hi st gx q0 hat ik hm
          gi_wp2
          have O3 := hO.set_ i (.int .u8 (16 * (m : Int) + d))
          rw [← List.map_set, ST.out] at O3
          refine ⟨(KeepsOthers.setCell _ _ _).trans (KeepsOthers.setCell _ _ _), (Kp2.set_ _ (by show o ≠ b; omega) (by show o ≠ db; omega)).trans (Kp2.set_ _ (by show sa ≠ b; omega) (by show sa ≠ db; omega)), ⟨by rw [EB.out]; omega, ?_, (hS.other _ (by show o ≠ so; omega)).other _ (by show sa ≠ so; omega), ?_, (hN.other _ (by show o ≠ g; omega)).other _ (by show sa ≠ g; omega)⟩, hB2 _ _ _⟩
          · rw [EA.out]
            exact O3.other _ (by show sa ≠ o; omega)
          · have := (hA.other (p := ⟨o, i, none⟩) (.int .u8 (16 * (m : Int) + d)) (by show o ≠ sa; omega)).set_ 0 (.int .i64 ((i : Int) - 1))
            rw [EB.out]
            rw [show ((k : Int) - ((hs.length + 1 : Nat) : Int)) = (i : Int) - 1 by have := HI.out; omega]
            exact this
        · have q0 : ((k : Int) - ((hs.length : Nat) : Int)) = -1 := by omega
          rw [q0] at k1
          have q1 : ((-1 : Int) == (k : Int)) = false := by rw [beq_eq_false_iff_ne]; omega
          have q5 : ¬ ((-1 : Int) = (k : Int)) := by omega
          have H3 := Lib.hid h3
          clear q0 h3 gx
          gi_wp2
          have hl := H3.out
          refine ⟨KeepsOthers.refl _, ⟨rfl, by rw [EB.out]; omega, ?_, hS⟩, hB⟩
          rw [EA.out, outH_more hs [d] k (by omega) (by have := HN.out; omega)]
          exact hO
      case done =>
        rintro D ys W hD hys ⟨⟨hp, hO, hS, hA, hN⟩, hB⟩ hK
        rw [hys] at hO
        have k0 := hS.cell (c := 0) rfl
        clear hA hN hp
        go_wp2
        refine ⟨by simp, .inl ⟨_, _, rfl, run_takeDeferred hK, ?_⟩⟩
        refine ⟨_, results_tmp rfl _ _ _, _, rfl, some ⟨o, 0, none⟩, k, rfl, byt_bk' (bk_kept hO (grownBy_putObj' _ D (.deferred none)) (fun r e => by cases e; exact ⟨_, hK, rfl⟩)) (outH_len _ _) (outH_rng (hv_rng HR.out _) _), ?_⟩
        rw [hg]
        exact hB.trans (belowK_b (w := w) (by omega) W D _ _ (by omega) hK rfl rfl)
      case stop =>
        rintro D c pre W hD ⟨cc, hcc, hpre⟩ ⟨⟨rfl, hp, hO, hS⟩, hB⟩ hK
        have hcl : pre.length = cc := by have := congrArg List.length hpre; rwa [vals_len, hv_len] at this
        rw [hpre, outH_cut zs cc k hcc (by omega) (by have := HN.out; omega)] at hO
        have k0 := hS.cell (c := 0) rfl
        clear hpre hp
        gi_wp2
        go_wp2
        refine ⟨by simp, .inl ⟨_, _, rfl, run_takeDeferred hK, ?_⟩⟩
        refine ⟨_, results_tmp rfl _ _ _, _, rfl, some ⟨o, 0, none⟩, k, rfl, byt_bk' (bk_kept hO (grownBy_putObj' _ D (.deferred none)) (fun r e => by cases e; exact ⟨_, hK, rfl⟩)) (outH_len _ _) (outH_rng (hv_rng HR.out _) _), ?_⟩
        rw [hg]
        exact hB.trans (belowK_b (w := w) (by omega) W D _ _ (by omega) hK rfl rfl)
end Go.Proofs.YtljajnaclpbecaaGreatDoor

namespace Go.Proofs.YtljajnaclpbecaaGreatDoor
open Go.RowKit
set_option maxRecDepth 100000
set_option linter.unusedVariables false
set_option linter.unusedSimpArgs false
def uOf (v : Int) : Nat := (nOf v).natAbs
def st1 (v : Int) : List Int := sPut (alP 0) bs3 (z0 2) ((1024 : Nat) : Int) (cvdV v)
def st2 (v : Int) : List Int := sPut (alP 0) (st1 v) (z0 2) ((1040 : Nat) : Int) (unpk (cvdV v) 10)
def yv (v : Int) : Int := zon (uOf v / 10 ^ 0 % 10)
def st3 (v : Int) : List Int := sPut (alP 0) (st2 v) (z0 2) ((1049 : Nat) : Int) [yv v]
theorem cvdV_len (v : Int) : (cvdV v).length = 8 := cvdB_len _ _
theorem unpk_len (zs : List Int) (n : Nat) : (unpk zs n).length = n := outH_len _ _
theorem low_0 : Low3 bs3 := ⟨bs3_len, fun _ _ => rfl⟩
theorem low_1 (v : Int) : Low3 (st1 v) := low_0.put (by omega) (by rw [cvdV_len]; omega)
theorem low_2 (v : Int) : Low3 (st2 v) := (low_1 v).put (by omega) (by rw [unpk_len]; omega)
theorem st1_get (v : Int) : sGet (st1 v) ((1024 : Nat) : Int) ((8 : Nat) : Int) = cvdV v := by
  refine sget_eq _ _ 1024 8 (cvdV_len v) (by rw [(low_1 v).1]; omega) fun k hk => ?_
  unfold st1
  rw [sput_get _ _ _ _ (by rw [bs3_len, cvdV_len]; omega), if_pos (by rw [cvdV_len]; omega), show 1024 + k - 1024 = k by omega]
theorem st2_byte (v : Int) : (sGet (st2 v) ((1049 : Nat) : Int) ((1 : Nat) : Int)).getD 0 0 = (unpk (cvdV v) 10).getD 9 0 := by
  have : sGet (st2 v) ((1049 : Nat) : Int) ((1 : Nat) : Int) = [(unpk (cvdV v) 10).getD 9 0] := by
    refine sget_eq _ _ 1049 1 rfl (by rw [(low_2 v).1]; omega) fun k hk => ?_
    unfold st2
    rw [sput_get _ _ _ _ (by rw [(low_1 v).1, unpk_len]; omega), if_pos (by rw [unpk_len]; omega)]
    obtain rfl : k = 0 := by omega
    rfl
  rw [this]
  rfl
theorem st2_or (v : Int) : bits .or .u8 ((sGet (st2 v) ((1049 : Nat) : Int) ((1 : Nat) : Int)).getD 0 0) 240 = yv v := by
  rw [st2_byte]
  exact digits_last _ _
theorem st3_text (v : Int) : sGet (st3 v) ((1040 : Nat) : Int) ((10 : Nat) : Int) = (dg10 (uOf v) 10).map zon := by
  refine sget_eq _ _ 1040 10 (by rw [List.length_map, dg10_len]) (by unfold st3; rw [sput_len _ _ _ _ (by rw [(low_2 v).1]; simp), (low_2 v).1]; omega) fun k hk => ?_
  have e : ((dg10 (uOf v) 10).map zon).getD k 0 = zon (uOf v / 10 ^ (9 - k) % 10) := by
    unfold dg10
    rw [List.map_map, List.getD_eq_getElem?_getD, List.getElem?_map, List.getElem?_range hk]
    rfl
  rw [e]
  unfold st3
  rw [sput_get _ _ _ _ (by rw [(low_2 v).1]; simp)]
  by_cases h9 : k = 9
  · subst h9
    rw [if_pos (by simp)]
    rfl
  · rw [if_neg (by simp; omega)]
    unfold st2
    rw [sput_get _ _ _ _ (by rw [(low_1 v).1, unpk_len]; omega), if_pos (by rw [unpk_len]; omega), show 1040 + k - 1040 = k by omega]
    exact digits_plain _ _ k (by omega)
theorem up_10 (v : Int) (W : World) (b cap : Nat) (hy : Byt W (some ⟨b, 0, none⟩) 8 (sGet (st1 v) 1024 8)) : Calls Tryz.prog 89 #[.slice (some ⟨b, 0, none⟩) 8 cap, .int .i64 10] W fun e w' => ∃ v', e = .returned v' ∧ ∃ A cap, v' = .slice A 10 cap ∧ Byt w' A 10 (unpk (cvdV v) 10) ∧ Below W.heap.size W w' := by
  have e : sGet (st1 v) 1024 8 = cvdV v := st1_get v
  rw [e] at hy
  exact unpack_c 10 8 b cap (by omega) (by omega) (cvdV v) W hy
/-- the processor behind k instructions -/
def ppD (v : Int) : Nat → Ps
  | 0 => p256
  | 1 => p260
  | 2 => p266
  | _ => (p266.adv 4).to (if yv v = 0 then 0 else 1) 0 270
def bbD (v : Int) : Nat → List Int
  | 0 => bs3
  | 1 => st1 v
  | 2 => st2 v
  | _ => st3 v
section
variable {w0 w w' : World} {g : Nat} {F : Foot} {rs os : List Int} {p q : Ps} {n : Int} {bs bs' ks : List Int}
set_option maxRecDepth 1000000 in
set_option maxHeartbeats 8000000 in
theorem step_k {v : Int} {k : Nat} (hk : k < 3) (h : CP w0 w g F rs (ppD v k) (k : Int) (bbD v k) (z0 2)) (hrl : rs.length = 16) (hro : ∀ z ∈ rs, 0 ≤ z ∧ z ≤ 4294967295) (hv : rs.getD 1 0 = v) (v0 : 0 ≤ v) (v1 : v ≤ 4294967295) (ht : Lib.TabIs Tryz.prog w0 "internal/strconv.uint64pow10" .u64 Lib.pow10Tab) (hg : (2 ≠ g ∧ 2 ≠ F.gb) ∧ 2 < w0.heap.size) : Calls Tryz.prog 14 #[.pointer (some ⟨g, 0, none⟩)] w fun e w' => e = .returned (.agg #[.int .i64 0, .int .i64 0, .int .i64 0, .int .i64 0]) ∧ CP w0 w' g F rs (ppD v (k + 1)) ((k + 1 : Nat) : Int) (bbD v (k + 1)) (z0 2) := by
  rcases (show k = 0 ∨ k = 1 ∨ k = 2 by omega) with rfl | rfl | rfl
  · have h' : CP w0 w g F rs p256 0 bs3 (z0 2) := h
    refine Calls.mono (step_cvd h' hrl hro hv v0 v1 bs3_len m256 m256' ht hg) fun e w' hh => ⟨hh.1, ?_⟩
    have h2 := hh.2
    rw [show sPut (alP 0) bs3 (z0 2) 1024 (cvdV v) = st1 v by unfold st1; rfl] at h2
    exact h2
  · have h' : CP w0 w g F rs p260 1 (st1 v) (z0 2) := h
    refine Calls.mono (step_unpk h' hrl hro (low_1 v).1 (low_1 v).m260.1 (low_1 v).m260.2 (unpk_len _ _) (up_10 v)) fun e w' hh => ⟨hh.1, ?_⟩
    have h2 := hh.2
    rw [show sPut (alP 0) (st1 v) (z0 2) 1040 (unpk (cvdV v) 10) = st2 v by unfold st2; rfl] at h2
    exact h2
  · have h' : CP w0 w g F rs p266 2 (st2 v) (z0 2) := h
    have ho : bits .or .u8 ((sGet (st2 v) 1049 1).getD 0 0) 240 = yv v := st2_or v
    refine Calls.mono (step_oi h' hrl hro (low_2 v).1 (low_2 v).m266.1 (low_2 v).m266.2 ho) fun e w' hh => ⟨hh.1, ?_⟩
    have h2 := hh.2
    rw [show sPut (alP 0) (st2 v) (z0 2) 1049 [yv v] = st3 v by unfold st3; rfl] at h2
    exact h2
end
end Go.Proofs.YtljajnaclpbecaaGreatDoor

namespace Go.Proofs.YtljajnaclpbecaaGreatDoor
open Go.RowKit
set_option maxRecDepth 100000
set_option linter.unusedVariables false
set_option linter.unusedSimpArgs false
theorem dig_ix (d : Nat) (hd : d < 10) (W : World) : (Instr.index 9 (.string { data := #[48, 49, 50, 51, 52, 53, 54, 55, 56, 57] }) (.int .i64 (d : Int))).run Tryz.prog W = .ok (.int .u8 ((48 + d : Nat) : Int)) W := by
  rcases (show d = 0 ∨ d = 1 ∨ d = 2 ∨ d = 3 ∨ d = 4 ∨ d = 5 ∨ d = 6 ∨ d = 7 ∨ d = 8 ∨ d = 9 by omega) with rfl | rfl | rfl | rfl | rfl | rfl | rfl | rfl | rfl | rfl <;> kernel_rfl
theorem dig_cv (d : Nat) (hd : d < 10) (W : World) : (convert 5 9 (.int .u8 ((48 + d : Nat) : Int))).run Tryz.prog W = .ok (.string (dtx [d])) W := by
  rcases (show d = 0 ∨ d = 1 ∨ d = 2 ∨ d = 3 ∨ d = 4 ∨ d = 5 ∨ d = 6 ∨ d = 7 ∨ d = 8 ∨ d = 9 by omega) with rfl | rfl | rfl | rfl | rfl | rfl | rfl | rfl | rfl | rfl <;> kernel_rfl
theorem dtx_cat (d : Nat) (ds : List Nat) : dtx [d] ++ dtx ds = dtx (d :: ds) := by
  apply ByteArray.ext
  simp [dtx, ByteArray.data_append]
set_option maxRecDepth 1000000 in
set_option maxHeartbeats 8000000 in
theorem topDigits_in (v : Int) (w : World) (v0 : 0 ≤ v) (v1 : v ≤ 4294967295) (htab : Lib.TabIs Tryz.prog w "internal/strconv.uint64pow10" .u64 Lib.pow10Tab) (h2 : 2 < w.heap.size) : Calls Tryz.prog 4 #[.int .u32 v] w fun e w' => e = .returned (.bool true) ∧ Below w.heap.size w w' := by
  have V0 := Lib.hid v0
  have V1 := Lib.hid v1
  have HT := Lib.hid htab
  clear v0 v1 htab
  go_enter Tryz.func4, Tryz.ntmps4
  go_upto_region 1 with fail
  refine wp_region_list ?_
  simp only [List.append_eq, List.cons_append, List.nil_append]
  refine lsv (v := insV [78, 2, 1, 0, 0, 0, 0, 0, 1024, 0, 0, 0]) (w' := w) ?_ (hr := by first | (go_simp; done) | (go_simp; kernel_rfl))
  refine lsv (v := insV [243, 6, 0, 0, 0, 0, 1040, 0, 1024, 9, 7, 0]) (w' := w) ?_ (hr := by first | (go_simp; done) | (go_simp; kernel_rfl))
  refine lsv (v := insV [150, 4, 0, 0, 0, 0, 1049, 0, 0, 0, 0, 240]) (w' := w) ?_ (hr := by first | (go_simp; done) | (go_simp; kernel_rfl))
  refine lsv (v := .slice (some ⟨w.heap.size, 0, none⟩) 3 3) (w' := w.alloc (.cells ((([78, 2, 1, 0, 0, 0, 0, 0, 1024, 0, 0, 0] : List Int) ++ ([243, 6, 0, 0, 0, 0, 1040, 0, 1024, 9, 7, 0] : List Int) ++ ([150, 4, 0, 0, 0, 0, 1049, 0, 0, 0, 0, 240] : List Int)).map (Value.int .i64)).toArray 54)) ?_
  have B1 := Bk.new w ((([78, 2, 1, 0, 0, 0, 0, 0, 1024, 0, 0, 0] : List Int) ++ ([243, 6, 0, 0, 0, 0, 1040, 0, 1024, 9, 7, 0] : List Int) ++ ([150, 4, 0, 0, 0, 0, 1049, 0, 0, 0, 0, 240] : List Int)).map (Value.int .i64)) 54
  have L1 := (Below.refl w.heap.size w).alloc (Nat.le_refl _) (.cells ((([78, 2, 1, 0, 0, 0, 0, 0, 1024, 0, 0, 0] : List Int) ++ ([243, 6, 0, 0, 0, 0, 1040, 0, 1024, 9, 7, 0] : List Int) ++ ([150, 4, 0, 0, 0, 0, 1049, 0, 0, 0, 0, 240] : List Int)).map (Value.int .i64)).toArray 54)
  obtain ⟨w1, hW⟩ : ∃ V, w.alloc (.cells ((([78, 2, 1, 0, 0, 0, 0, 0, 1024, 0, 0, 0] : List Int) ++ ([243, 6, 0, 0, 0, 0, 1040, 0, 1024, 9, 7, 0] : List Int) ++ ([150, 4, 0, 0, 0, 0, 1049, 0, 0, 0, 0, 240] : List Int)).map (Value.int .i64)).toArray 54) = V := ⟨_, rfl⟩
  rw [hW] at B1 L1
  rw [hW]
  clear hW
  have MC := Lib.hid (machine_c (w := w1) (b := w.heap.size) (k := 3) (cap := 3) (ixs := ix3) (p := p00) rfl (by decide) B1.lt (fun i ix h => by
    match i, h with
    | 0, h => injection h with h; subst h; exact Bk.mid (l := []) (r := (([243, 6, 0, 0, 0, 0, 1040, 0, 1024, 9, 7, 0] ++ [150, 4, 0, 0, 0, 0, 1049, 0, 0, 0, 0, 240] : List Int)).map (Value.int .i64)) B1
    | 1, h => injection h with h; subst h; exact Bk.mid (l := (([78, 2, 1, 0, 0, 0, 0, 0, 1024, 0, 0, 0] : List Int)).map (Value.int .i64)) (r := (([150, 4, 0, 0, 0, 0, 1049, 0, 0, 0, 0, 240] : List Int)).map (Value.int .i64)) B1
    | 2, h => injection h with h; subst h; exact Bk.mid (l := (([78, 2, 1, 0, 0, 0, 0, 0, 1024, 0, 0, 0] ++ [243, 6, 0, 0, 0, 0, 1040, 0, 1024, 9, 7, 0] : List Int)).map (Value.int .i64)) (r := []) (cs := (([150, 4, 0, 0, 0, 0, 1049, 0, 0, 0, 0, 240] : List Int)).map (Value.int .i64)) B1
    | n + 3, h => cases h) (fun ix h => by
    simp only [ix3, List.mem_cons, List.not_mem_nil, or_false] at h
    rcases h with rfl | rfl | rfl
    all_goals exact ⟨rfl, by decide, by decide +kernel⟩) (by decide +kernel))
  have LL := Lib.hid L1
  clear B1 L1
  refine lsv (v := .agg p00.v.toArray) (w' := w1) ?_ (hr := by first | (go_simp; done) | (go_simp; kernel_rfl))
  refine lsce MC.out ?_
  intro vv w2 Z
  obtain ⟨g, F, rfl, hC, hb, hg1, hg2⟩ := Z.out
  have H := Lib.hid (show CP w2 w2 g F zr16 p256 0 bs3 (z0 2) from hC)
  have hl1 := LL.out.size
  have hT := tab_ch2 HT.out (Ch.of_below (LL.out.trans (hb.mono LL.out.size)) []) ⟨by simp, h2⟩
  have T2 := Lib.hid hT
  replace LL := Lib.hid (LL.out.trans (hb.mono LL.out.size))
  have hlw := LL.out.size
  have G2 := Lib.hid (show (2 ≠ g ∧ 2 ≠ F.gb) ∧ 2 < w2.heap.size from ⟨⟨by omega, by omega⟩, by omega⟩)
  clear Z hC hb MC hT HT
  refine lsv (w' := w2) ?_
  refine lsv (w' := w2) ?_
  refine lsv (w' := w2) ?_
  refine lsv (w' := w2) ?_
  refine lsv (w' := w2) ?_
  refine wpList_nil ?_
  go_upto_region 2 with fail
  refine wp_region_list ?_
  simp only [List.append_eq, List.cons_append, List.nil_append]
  refine lsv (w' := w2) ?_
  refine lsv (w' := w2) ?_
  refine lsv (w' := w2) ?_
  refine lsv (w' := w2) ?_
  refine lsv (w' := w2) ?_
  refine lsv (v := .agg (([0, v, 0, 0, 0, 0, 0, 0, 0, 0, 0, 0, 0, 0, 0, 0] : List Int).map (Value.int .u32)).toArray) (w' := w2) ?_ (hr := by first | (go_simp; done) | (go_simp; kernel_rfl))
  refine lsc (csetregs_c (os := [0, v, 0, 0, 0, 0, 0, 0, 0, 0, 0, 0, 0, 0, 0, 0]) H.out rfl (by have := V0.out; have := V1.out; simp; omega)) ?_
  intro w3 Z
  replace H := Lib.hid (show CP w2 w3 g F [0, v, 0, 0, 0, 0, 0, 0, 0, 0, 0, 0, 0, 0, 0, 0] (ppD v 0) ((0 : Nat) : Int) (bbD v 0) (z0 2) from Z.out)
  clear Z
  refine lsv (w' := w3) ?_
  refine lsv (w' := w3) ?_
  refine wpList_nil ?_
  go_wp2
  go_loopw [5] (fun x W => ∃ k : Nat, k ≤ 3 ∧ x = .int .i64 (k : Int) ∧ CP w2 W g F [0, v, 0, 0, 0, 0, 0, 0, 0, 0, 0, 0, 0, 0, 0, 0] (ppD v k) (k : Int) (bbD v k) (z0 2)) (fun x _ => 3 - (intOf x).toNat)
  case atStart => exact ⟨0, by omega, rfl, H.out⟩
  case round =>
    clear H
    obtain ⟨k, hk, rfl, hC⟩ := hrel
    rename World => W
    by_cases hlt : k < 3
    · have SK := Lib.hid (step_k hlt hC rfl (by have := V0.out; have := V1.out; simp; omega) rfl V0.out V1.out T2.out G2.out)
      have k1 : (k : Int) < 3 := by omega
      clear hC
      go_upto_region 7 with fail
      refine wp_region_list ?_
      simp only [List.append_eq, List.cons_append, List.nil_append]
      refine lsv (w' := W) ?_
      refine lsc SK.out ?_
      intro W2 Z
      have H := Lib.hid Z.out
      clear Z SK
      refine lsv (v := .agg #[.int .i64 0, .int .i64 0, .int .i64 0, .int .i64 0]) (w' := W2) ?_ (hr := by first | (go_simp; done) | (go_simp; kernel_rfl))
      refine lsv (v := .bool false) (w' := W2) ?_ (hr := by unfold execOp; simp only [Act.eval]; kernel_rfl)
      refine wpList_nil ?_
      go_wp2
      go_roundw
      case rel => exact ⟨k + 1, by omega, by go_num, H.out⟩
      case measure => simp [intOf]; omega
    · obtain rfl : k = 3 := by omega
      have H := Lib.hid hC
      clear hC
      have k1 : ¬ (((3 : Nat) : Int) < 3) := by omega
      obtain ⟨n, hn⟩ : ∃ n, nOf v = n := ⟨_, rfl⟩
      have hn1 : -2147483648 ≤ n ∧ n < 2147483648 := by have := V0.out; have := V1.out; rw [← hn]; unfold nOf; split <;> omega
      have x1 : IntKind.i32.wrap v = n := by have := V0.out; have := V1.out; rw [← hn, IntKind.wrap_i32]; unfold nOf; split <;> omega
      have x2 : IntKind.i64.wrap n = n := wrap_i64_id (by omega) (by omega)
      have x3 : IntKind.i64.wrap (-n) = -n := wrap_i64_id (by omega) (by omega)
      obtain ⟨u, hu⟩ : ∃ u, uOf v = u := ⟨_, rfl⟩
      have hu' : n.natAbs = u := by rw [← hu, ← hn]; rfl
      have x4 : max n (-n) = (u : Int) := by omega
      have UB := Lib.hid (show u < 10 ^ 10 by omega)
      have HU := Lib.hid hu
      clear hu hu' hn hn1
      go_wp2
      clear x1 x2 x3 x4
      go_loopw [6, 7, 8] (fun nv s x W' => ∃ k : Nat, k ≤ 10 ∧ nv = .int .i64 ((u / 10 ^ k : Nat) : Int) ∧ s = .string (dtx (dg10 u k)) ∧ x = .int .i64 (k : Int) ∧ W = W') (fun _ _ x _ => 10 - (intOf x).toNat)
      case atStart => exact ⟨0, by omega, by simp, rfl, rfl, rfl⟩
      case round =>
        obtain ⟨k, hk, rfl, rfl, rfl, rfl⟩ := hrel
        by_cases hlt : k < 10
        · have k2 : (k : Int) < 10 := by omega
          have DS := Lib.hid (dg10_succ u k)
          have QS := Lib.hid (show u / 10 ^ (k + 1) = u / 10 ^ k / 10 by rw [Nat.pow_succ, Nat.div_div_eq_div_mul])
          have ub : u / 10 ^ k ≤ u := Nat.div_le_self _ _
          have ub2 := UB.out
          obtain ⟨q, hq⟩ : ∃ q, u / 10 ^ k = q := ⟨_, rfl⟩
          rw [hq] at DS QS ub ⊢
          obtain ⟨ds, hds⟩ : ∃ ds, dg10 u k = ds := ⟨_, rfl⟩
          rw [hds] at DS ⊢
          have hd : q % 10 < 10 := Nat.mod_lt _ (by omega)
          obtain ⟨d, hdd⟩ : ∃ d, q % 10 = d := ⟨_, rfl⟩
          rw [hdd] at hd DS
          have e1 : ((q : Nat) : Int).tmod 10 = (d : Int) := by rw [Int.tmod_eq_emod_of_nonneg (by omega)]; omega
          obtain ⟨q2, hq2⟩ : ∃ q2, q / 10 = q2 := ⟨_, rfl⟩
          have e2 : ((q : Nat) : Int).tdiv 10 = (q2 : Int) := by rw [Int.tdiv_eq_ediv_of_nonneg (by omega)]; omega
          have e3 : IntKind.i64.wrap (q2 : Int) = (q2 : Int) := wrap_i64_id (by omega) (by omega)
          rw [hq2] at QS
          have sz : (dtx [d]).size + (dtx ds).size ≤ 9223372036854775807 := by rw [dtx_size, dtx_size, ← hds, dg10_len]; simp; omega
          have i1 := fun W => dig_ix d hd W
          have i2 := fun W => dig_cv d hd W
          have i3 := dtx_cat d ds
          obtain ⟨c, hc⟩ : ∃ c : Int, ((48 + d : Nat) : Int) = c := ⟨_, rfl⟩
          rw [hc] at i1 i2
          obtain ⟨x1, hx1⟩ : ∃ x1, dtx [d] = x1 := ⟨_, rfl⟩
          rw [hx1] at i2 i3 sz
          obtain ⟨x2, hx2⟩ : ∃ x2, dtx ds = x2 := ⟨_, rfl⟩
          rw [hx2] at i3 sz ⊢
          have X2 := Lib.hid hx2
          have I3 := Lib.hid i3
          clear hq hds hdd hc hx1 hx2 i3 hq2
          go_upto_region 15 with fail
          refine wp_region_list ?_
          simp only [List.append_eq, List.cons_append, List.nil_append]
          refine lsv (w' := W) ?_
          refine lsv (v := .int .i64 (d : Int)) (w' := W) ?_
          refine lsv (v := .int .u8 c) (w' := W) ?_
          refine lsv (v := .string x1) (w' := W) ?_
          refine lsv (v := .string x2) (w' := W) ?_
          refine lsv (v := .string (x1 ++ x2)) (w' := W) ?_
          refine lsv (v := .string (x1 ++ x2)) (w' := W) ?_
          refine wpList_nil ?_
          go_upto_region 16 with fail
          refine wp_region_list ?_
          simp only [List.append_eq, List.cons_append, List.nil_append]
          refine lsv (v := .int .i64 (q : Int)) (w' := W) ?_
          refine lsv (v := .int .i64 (q2 : Int)) (w' := W) ?_
          refine lsv (v := .int .i64 (q2 : Int)) (w' := W) ?_
          refine wpList_nil ?_
          go_wp2
          go_roundw
          case rel => exact ⟨k + 1, by omega, by rw [QS.out], by rw [DS.out, I3.out], by go_num, trivial⟩
          case measure => simp [intOf]; omega
        · obtain rfl : k = 10 := by omega
          have k2 : ¬ (((10 : Nat) : Int) < 10) := by omega
          have EC := Lib.hid (eencode_c (dg10 u 10) (dg10_len u 10) (dg10_lt u 10))
          obtain ⟨x2, hx2⟩ : ∃ x2, dtx (dg10 u 10) = x2 := ⟨_, rfl⟩
          rw [hx2] at EC ⊢
          obtain ⟨uu, huu⟩ : ∃ q, u / 10 ^ 10 = q := ⟨_, rfl⟩
          rw [huu]
          clear hx2 huu
          go_upto_region 17 with fail
          refine wp_region_list ?_
          simp only [List.append_eq, List.cons_append, List.nil_append]
          refine lsv (v := .string x2) (w' := W) ?_
          refine lsce (EC.out W) ?_
          intro vv W2 Z
          obtain ⟨A, cap, rfl, hy, hb⟩ := Z.out
          have ST := Lib.hid (H.out.keep hb)
          have Y := Lib.hid hy
          clear Z hy hb H EC
          refine lsv (w' := W2) ?_
          refine lsv (w' := W2) ?_
          refine lsv (w' := W2) ?_
          refine lsv (w' := W2) ?_
          refine lsv (w' := W2) ?_
          refine wpList_nil ?_
          go_upto_region 18 with fail
          refine wp_region_list ?_
          simp only [List.append_eq, List.cons_append, List.nil_append]
          refine lsv (w' := W2) ?_
          refine lsv (v := .bool true) (w' := W2) ?_
          refine lsv (w' := W2) ?_
          refine lsv (w' := W2) ?_
          have BC := Lib.hid (bytes_c W2 ST.out.st 1040 10)
          rw [show bbD v 3 = st3 v from rfl, show sGet (st3 v) 1040 10 = (dg10 (uOf v) 10).map zon from st3_text v, HU.out] at BC
          refine lsce (Calls.mono BC.out fun e w' ⟨A2, m, c, he, ho, hb⟩ => ⟨_, he, A2, m, c, rfl, ho, hb⟩) ?_ (R := fun v w' => ∃ A2 m c, v = .slice A2 m c ∧ Own w' W2.heap.size (.slice A2 m c) m ((dg10 u 10).map zon) ∧ Below W2.heap.size W2 w')
          intro vv W3 Z
          obtain ⟨A2, m, c, rfl, ho, hb⟩ := Z.out
          have hm : m = 10 := by have := ho.len; rw [List.length_map, dg10_len] at this; omega
          subst hm
          have ST3 := Lib.hid (ST.out.keep hb)
          have SC := Lib.hid (same_c A2 10 c _ A 10 cap _ W3 ho.byt (Y.out.keep hb) (by omega) (by omega))
          clear Z ho hb BC ST Y
          refine lsv (w' := W3) ?_
          refine lsc (Calls.mono SC.out fun e w' ⟨he, n, hw⟩ => (⟨by rw [he, decide_eq_true rfl], below_of_drew hw⟩ : e = .returned (.bool true) ∧ Below W3.heap.size W3 w')) ?_
          intro W4 Z
          have ST4 := Lib.hid (ST3.out.keep Z.out)
          clear Z SC ST3
          refine lsv (v := .bool true) (w' := W4) ?_
          refine lsv (w' := W4) ?_
          refine lsc (adds_c W4) ?_
          intro W5 Z
          have ST5 := Lib.hid (ST4.out.keep Z.out)
          clear Z ST4
          refine lsv (v := .bool true) (w' := W5) ?_
          refine lsv (w' := W5) ?_
          refine wpList_nil ?_
          go_wp2
          go_ret
          have lw := LL.out.size
          exact ⟨rfl, below_ch LL.out ST5.out.b (by simp; omega) hlw⟩
theorem topDigits_walk (v : Int) (w : World) (hv : (Lit.int .u32 v).wf = true) (htab : Lib.TabIs Tryz.prog w "internal/strconv.uint64pow10" .u64 Lib.pow10Tab) (h2 : 2 < w.heap.size) : Calls Tryz.prog 4 #[.int .u32 v] w fun e w' => e = .returned (.bool true) ∧ Below w.heap.size w w' := by
  have h : 0 ≤ v ∧ v ≤ 4294967295 := by
    simp [Lit.wf, IntKind.min, IntKind.max, IntKind.signed, IntKind.bits] at hv
    omega
  exact topDigits_in v w h.1 h.2 htab h2
end Go.Proofs.YtljajnaclpbecaaGreatDoor

namespace Go.Proofs.YtljajnaclpbecaaGreatDoor
open Go.ChangeShapes Go.WideShapes Go.ChangeAt Go.RowKit
set_option linter.unusedVariables false
def laid3 : List (String × DataW Unit) := [("math/bits.deBruijn32tab", Rows.laid_math_bits_deBruijn32tab), ("math/bits.deBruijn64tab", Rows.laid_math_bits_deBruijn64tab), ("internal/strconv.uint64pow10", Rows.laid_internal_strconv_uint64pow10)]
set_option maxRecDepth 100000 in
theorem door_met (os : Os) (args : Array Value) : laidMetH Tryz.prog laid3 ((World.doorLaid Tryz.prog 100 os).forCall (fun _ _ => 0) ⟨#[], args, []⟩).memory :=
  laidMetH_of_parts3 (fuel := 8) (laidMet_of_run' 8 (by kernel_rfl) (by kernel_rfl)) (by kernel_rfl) (by kernel_rfl)
theorem tab_of_laid {W : World} (h : laidMetH Tryz.prog laid3 W) : Lib.TabIs Tryz.prog W "internal/strconv.uint64pow10" .u64 Lib.pow10Tab ∧ 2 < W.heap.size := by
  rw [MakeChecks.laidMetH_plain _ _ _ (by kernel_rfl)] at h
  have h3 := laidMet.tail (laidMet.tail h)
  have e : Rows.laid_internal_strconv_uint64pow10 (H := Unit) = Lib.tabData .u64 Lib.pow10Tab := by kernel_rfl
  rw [e] at h3
  have ht := Lib.tabIs_of_head (P := Tryz.prog) (g := 2) (by kernel_rfl) (by kernel_rfl) Tryz.underlying248 Tryz.underlying177 (by kernel_rfl) (by kernel_rfl) h3
  refine ⟨ht, ?_⟩
  have g0 : Tryz.prog.globalNamed "internal/strconv.uint64pow10" = some 2 := by kernel_rfl
  unfold Lib.TabIs World.var? at ht
  rw [g0] at ht
  simp only [Option.bind_some] at ht
  rcases Nat.lt_or_ge 2 W.heap.size with h2 | h2
  · exact h2
  · rw [Array.getElem?_eq_none h2] at ht; cases ht
end Go.Proofs.YtljajnaclpbecaaGreatDoor

namespace Go.Proofs.YtljajnaclpbecaaGreatDoor.topDigits
open Go.ChangeShapes Go.WideShapes Go.ChangeAt Go.RowKit
open Go.ChangeMaps (open_string shut_string)
set_option linter.unusedVariables false

set_option maxRecDepth 100000 in
theorem lifted (os : Os) (started : os.Started) (H : Type) (enc : TypeId × Value → H) :
    ReturnsInHanded {} Tryz.checked os 4 .any (fun w args => (Rows.topDigitsSpec.pre enc Tryz.prog Tryz.f4 [] false w args ∧ laidMetH Tryz.prog laid3 w) ∧ sizedMet enc Tryz.prog Tryz.f4 (OpenSpec.ofChange Rows.topDigitsSpec) false w args)
      (Rows.topDigitsSpec.post enc Tryz.prog Tryz.f4 false true false false) := by
  refine returnsInHanded_of_change_and (C := Tryz.checked) (X := fun w _ => laidMetH Tryz.prog laid3 w) (fun _ _ _ hh h => h.of_heap hh) own started (by kernel_rfl) Tryz.func4
    (ChangeSpec.witness_shaped (enc := enc) (C := Tryz.checked) (os := os) (X := fun w _ => laidMetH Tryz.prog laid3 w) false (World.doorLaid Tryz.prog 100 os) #[.int .u32 0] 8 rfl (World.shaped_of_RefB (by kernel_rfl) (by kernel_rfl)) (by kernel_rfl) (by kernel_rfl) (by kernel_rfl) (door_met os _)) ?_
  intro W base args ds gs before hval0 hW _ _ hL _
  have hval : ∀ (j : Nat) t v, Tryz.f4.params[j]? = some t → args[j]? = some v → Value.okWide Tryz.prog W .any base t v := hval0
  have hW' := hW
  obtain ⟨p, q, hA0, hV, rfl, hfz, hnd⟩ := hW
  have hA : DataW.TrodAll enc Tryz.prog W 0 (fun _ => true) true Tryz.f4.params.toList args.toList ds p := hA0
  rw [Tryz.params4] at hA hval
  obtain ⟨v0, vs0, d0, ds0, p0, q0, hargs, rfl, rfl, h0, r0⟩ := trodAll_cons hA
  obtain ⟨rfl, rfl, rfl⟩ := trodAll_nil r0
  obtain rfl : args = #[v0] := by cases args; simp_all
  obtain ⟨rfl, rfl⟩ := trodVars_none hV
  obtain ⟨a0, rfl, rfl, rfl, w0⟩ := open_int Tryz.underlying23 (hval 0 23 v0 rfl rfl) h0
  obtain ⟨htab, h2g⟩ := tab_of_laid hL
  clear hA0 hval0
  simp only [List.append_nil] at hW'
  refine (topDigits_walk a0 W w0 htab h2g).mono fun e W' ⟨he, bel⟩ => ?_
  subst he
  exact ⟨_, rfl, _, _, _, [], _, [], hW', trodAll_mk1 (shut_bool Tryz.underlying4 _), (trodAll_cons_mk (shut_int Tryz.underlying23 w0) trodAll_mk0), rfl, bel.frame _, fun h => by cases h⟩

theorem over : Rows.topDigitsRow.holds Tryz.pinned (OpenSpec.ofChange Rows.topDigitsSpec) :=
  OpenClaim.holds_of_wide 4 Tryz.f4 rfl rfl rfl rfl rfl rfl rfl ⟨rfl, rfl, rfl, rfl, rfl⟩ rfl rfl rfl rfl rfl (by kernel_rfl) Tryz.func4 (by kernel_rfl)
    (of_decide_eq_true (by kernel_rfl)) (by unfold Func.isWrapper; first | (rw [if_pos (by decide +kernel)]; kernel_rfl) | (rw [if_neg (by decide +kernel)]; exact ⟨rfl, rfl⟩))
    (fun os started H enc _ => lifted os started H enc)

/-- THE STATEMENT: the tied card -/
theorem proved : Rows.TopDigitsCardSaid :=
  Claim7.holds_tied_plain_at .later [] [.data, .data, .data] true (true, "3fd9dd237a96e907f835589ca18451a8cd01a7f1e968c804d45186a4ee567112") true
    over (fun _ h => by cases h) (by kernel_rfl) (fun _ h => by cases h) topDigits_row_tie rfl ⟨rfl, rfl⟩ (by kernel_rfl) rfl
    (fun f fn hf hfn => by
      obtain rfl : f = 4 := Option.some.inj ((show Tryz.prog.funcNamed "jobshop/jobshoptop.TopDigits" = some 4 by kernel_rfl).symm.trans hf) |>.symm
      obtain rfl : fn = Tryz.f4 := (Option.some.inj (Tryz.func4.symm.trans hfn)).symm
      exact ⟨by kernel_rfl, fun j t ht => by
        rw [Tryz.params4] at ht
        have hm : t ∈ [23] := by simpa using Array.mem_of_getElem? ht
        have hall : ([23].all fun u => !Tryz.prog.wantsStandIn u) = true := by kernel_rfl
        exact (show Tryz.prog.wantsStandIn t = false by simpa using List.all_eq_true.1 hall t hm)⟩)
    (by kernel_rfl)
end Go.Proofs.YtljajnaclpbecaaGreatDoor.topDigits

