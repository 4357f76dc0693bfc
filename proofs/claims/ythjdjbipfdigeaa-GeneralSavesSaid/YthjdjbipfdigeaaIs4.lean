/- CONTRACTS of package isa: Check. No conditions. -/
import Derived.Test.YthjdjbipfdigeaaIs3
import Derived.Test.YthjdjbipfdigeaaIs1
import Derived.Test.YthjdjbipfdigeaaEqI
import Derived.RegionIn
import Derived.Test.YthjdjbipfdigeaaRq
namespace Go.Proofs.Ythjdjbipfdigeaa
open Go.RowKit Go.Shelf
set_option linter.unusedVariables false
set_option linter.unusedSimpArgs false
attribute [local go_sem] Oper.semAt_some eqi_run eqi_guard

/-- the fields of a format, one after another: in range? each is set to zero -/
def scan : List FE → List Int → Option (List Int)
  | [], xs => some xs
  | f :: fs, xs => if 0 ≤ xs.getD f.1 0 ∧ xs.getD f.1 0 < 2 ^ f.2.1.toNat then scan fs (xs.set f.1 0) else none
theorem scan_app : ∀ (l : List FE) (f : FE) (xs : List Int), scan (l ++ [f]) xs = (scan l xs).bind fun ys => if 0 ≤ ys.getD f.1 0 ∧ ys.getD f.1 0 < 2 ^ f.2.1.toNat then some (ys.set f.1 0) else none
  | [], f, xs => by simp [scan]
  | g :: l, f, xs => by
    simp only [scan, List.cons_append]
    by_cases h : 0 ≤ xs.getD g.1 0 ∧ xs.getD g.1 0 < 2 ^ g.2.1.toNat
    · rw [if_pos h, if_pos h, scan_app l f]
    · rw [if_neg h, if_neg h]; rfl
theorem scan_pre : ∀ (l m : List FE) (xs : List Int), scan l xs = none → scan (l ++ m) xs = none
  | [], m, xs, h => by simp [scan] at h
  | f :: l, m, xs, h => by
    simp only [scan, List.cons_append] at h ⊢
    split
    · next hc => rw [if_pos hc] at h; exact scan_pre l m _ h
    · rfl
theorem scan_take {l : List FE} {c : Nat} {xs : List Int} (h : scan (l.take c) xs = none) : scan l xs = none := by
  have := scan_pre _ (l.drop c) xs h
  rwa [List.take_append_drop] at this
theorem list_12 {α : Type} : ∀ {l : List α}, l.length = 12 → ∃ a b c d e f g h i j k m, l = [a, b, c, d, e, f, g, h, i, j, k, m]
  | [a, b, c, d, e, f, g, h, i, j, k, m], _ => ⟨a, b, c, d, e, f, g, h, i, j, k, m, rfl⟩
/-- what Check answers -/
def chk (op fm : Int) (xs : List Int) : Int := if isOp op = true ∧ fmOf op = fm then (match scan (lay fm) xs with | none => 6 | some ys => if ys = [op, fm, 0, 0, 0, 0, 0, 0, 0, 0, 0, 0] then 0 else 6) else 80
theorem dBelow' {B : Nat} {a w : World} (h : Below B a w) (n : Nat) : Below B a (w.drewN n) := ⟨h.os, h.tape, h.output, h.size, h.block⟩
def okF (x : FE) : Prop := 2 ≤ x.1 ∧ x.1 ≤ 11 ∧ (x.2.1 = 4 ∨ x.2.1 = 8 ∨ x.2.1 = 12)
theorem lay_ok (form : Int) : ∀ x ∈ lay form, okF x := by
  unfold lay okF; (repeat' split) <;> decide
theorem alloc4_heap (w : World) (o0 o1 o2 o3 : Obj) (n : Nat) : (((((w.alloc o0).alloc o1).drewN n).alloc o2).alloc o3).heap[w.heap.size]? = some o0 := by
  rw [Below.heap_alloc _ _ _ (by simp; omega), Below.heap_alloc _ _ _ (by simp; omega)]
  show ((w.alloc o0).alloc o1).heap[w.heap.size]? = some o0
  rw [Below.heap_alloc _ _ _ (by simp)]
  exact heap_alloc_new w o0
theorem alloc4_heap1 (w : World) (o0 o1 o2 o3 : Obj) (n : Nat) : (((((w.alloc o0).alloc o1).drewN n).alloc o2).alloc o3).heap[w.heap.size + 1]? = some o1 := by
  rw [Below.heap_alloc _ _ _ (by simp), Below.heap_alloc _ _ _ (by simp)]
  show ((w.alloc o0).alloc o1).heap[w.heap.size + 1]? = some o1
  have := heap_alloc_new (w.alloc o0) o1
  rwa [World.size_alloc] at this
theorem alloc4_heap2 (w : World) (o0 o1 o2 o3 : Obj) (n : Nat) : (((((w.alloc o0).alloc o1).drewN n).alloc o2).alloc o3).heap[w.heap.size + 1 + 1]? = some o2 := by
  rw [Below.heap_alloc _ _ _ (by simp)]
  have := heap_alloc_new (((w.alloc o0).alloc o1).drewN n) o2
  rwa [show (((w.alloc o0).alloc o1).drewN n).heap.size = w.heap.size + 1 + 1 by simp] at this
theorem alloc4_heap3 (w : World) (o0 o1 o2 o3 : Obj) (n : Nat) : (((((w.alloc o0).alloc o1).drewN n).alloc o2).alloc o3).heap[w.heap.size + 1 + 1 + 1]? = some o3 := by
  have := heap_alloc_new ((((w.alloc o0).alloc o1).drewN n).alloc o2) o3
  rwa [show ((((w.alloc o0).alloc o1).drewN n).alloc o2).heap.size = w.heap.size + 1 + 1 + 1 by simp] at this
/-- a block of cells abides what a loop's law turns -/
theorem blk_kept {A B : World} {k : Nat} {cs : Array Value} {T : TypeId} {row : Option Nat} (h : A.heap[k]? = some (.cells cs T (0, 0))) (hg : A.grownBy B row) (hr : ∀ r, row = some r → ∃ o : Obj, A.heap[r]? = some o ∧ o.isCells = false) : B.heap[k]? = some (.cells cs T (0, 0)) := by
  refine (hg.block k (Array.getElem?_eq_some_iff.1 h).1 (fun e => ?_)).trans h
  obtain ⟨o, ho, hc⟩ := hr k e.symm
  rw [h] at ho; injection ho with ho; rw [← ho] at hc; cases hc
/-- a struct of numbers in a block -/
def Blk (W : World) (g : Nat) (T : TypeId) (ys : List Int) : Prop := W.heap[g]? = some (.cells (ys.map (Value.int .i64)).toArray T (0, 0))
theorem Blk.cell {W : World} {g : Nat} {T : TypeId} {ys : List Int} (h : Blk W g T ys) {c : Nat} (hc : c < ys.length) : W.cell? ⟨g, c, none⟩ = some (.int .i64 (ys.getD c 0)) := by
  rw [cell_blk h]; simp [List.getD_eq_getElem?_getD, hc]
theorem Blk.free {W : World} {g : Nat} {T : TypeId} {ys : List Int} (h : Blk W g T ys) (c : Nat) : W.frozen? ⟨g, c, none⟩ = false := by
  unfold Blk at h; simp [World.frozen?, h]
theorem Blk.set_ {W : World} {g : Nat} {T : TypeId} {ys : List Int} (h : Blk W g T ys) (c : Nat) (v : Int) : Blk (W.setCell ⟨g, c, none⟩ (.int .i64 v)) g T (ys.set c v) := by
  unfold Blk at *
  rw [setCell_eq_setRow W g c _ T (0, 0) _ h, setRow_heap W g _ _ _ _ h]
  simp [List.map_set]
theorem Blk.other {W : World} {g : Nat} {T : TypeId} {ys : List Int} (h : Blk W g T ys) {p : Addr} (v : Value) (hp : p.block ≠ g) : Blk (W.setCell p v) g T ys := (Below.heap_setCell W p v g (Ne.symm hp)).trans h
theorem Blk.alloc {W : World} {g : Nat} {T : TypeId} {ys : List Int} (h : Blk W g T ys) (o : Obj) : Blk (W.alloc o) g T ys := (Below.heap_alloc W o g (Array.getElem?_eq_some_iff.1 h).1).trans h
theorem Blk.keep {W W' : World} {g : Nat} {T : TypeId} {ys : List Int} (h : Blk W g T ys) (hb : Below W.heap.size W W') : Blk W' g T ys := (hb.block _ (Array.getElem?_eq_some_iff.1 h).1).trans h
theorem Blk.kept {A B : World} {g : Nat} {T : TypeId} {ys : List Int} {row : Option Nat} (h : Blk A g T ys) (hg : A.grownBy B row) (hr : ∀ r, row = some r → ∃ o : Obj, A.heap[r]? = some o ∧ o.isCells = false) : Blk B g T ys := blk_kept h hg hr
theorem Blk.drewN {W : World} {g : Nat} {T : TypeId} {ys : List Int} (h : Blk W g T ys) (n : Nat) : Blk (W.drewN n) g T ys := h
theorem keeps_drewN (W : World) (n : Nat) : KeepsOthers W (W.drewN n) := ⟨Nat.le_refl _, fun _ _ h _ => h⟩
theorem kpC_drewN (n1 : Nat) (W : World) (n : Nat) : KpC n1 W (W.drewN n) := ⟨Nat.le_refl _, fun _ _ _ h _ => h⟩
/-- the round's variable f, boxed -/
def FBox (W : World) (fb rb : Nat) (x : FE) : Prop := W.heap[fb]? = some (.cells #[.pointer (some ⟨rb, x.1, none⟩), .int .i64 x.2.1, .int .i64 x.2.2] 84 (0, 0))
set_option maxRecDepth 100000 in
set_option maxHeartbeats 4000000 in
theorem icheck_c (op fm r1 r2 x2 b1 d1 b2 d2 l1 l2 i2 : Int) (w : World) : Calls Try.prog 28 #[.agg #[.int .i64 op, .int .i64 fm, .int .i64 r1, .int .i64 r2, .int .i64 x2, .int .i64 b1, .int .i64 d1, .int .i64 b2, .int .i64 d2, .int .i64 l1, .int .i64 l2, .int .i64 i2]] w fun e w' => e = .returned (.int .i64 (chk op fm [op, fm, r1, r2, x2, b1, d1, b2, d2, l1, l2, i2])) ∧ Below w.heap.size w w' := by
  refine (callsIn_wide (n := 5)).1 ?_
  refine callsIn_of_wp_marks Try.func28 rfl trivial ?_ rfl
  simp only [Try.ntmps28, List.size_toArray, List.length_cons, List.length_nil, Nat.reduceAdd, Nat.reduceSub, Array.replicate_succ, Array.replicate_zero, List.push_toArray, List.append_toArray, List.nil_append, List.cons_append]
  obtain ⟨io, hio⟩ : ∃ x, isOp op = x := ⟨_, rfl⟩
  obtain ⟨fo, hfo⟩ : ∃ x, fmOf op = x := ⟨_, rfl⟩
  have FC := Lib.hid (form_c op)
  rw [hio, hfo] at FC
  by_cases hA : io = true ∧ fo = fm
  · obtain ⟨rfl, rfl⟩ := hA
    have hne : (fo != fo) = false := by simp
    have hr := Lib.hid (show chk op fo [op, fo, r1, r2, x2, b1, d1, b2, d2, l1, l2, i2] = (match scan (lay fo) [op, fo, r1, r2, x2, b1, d1, b2, d2, l1, l2, i2] with | none => 6 | some ys => if ys = [op, fo, 0, 0, 0, 0, 0, 0, 0, 0, 0, 0] then 0 else 6) from by unfold chk; rw [if_pos ⟨hio, hfo⟩])
    clear hio hfo
    gi_wp2_with (refine ⟨trivial, ?_⟩; first | (gi_at_call 25; refine (callsIn_wide.2 (FC.out _)).mono ?_; rintro e w1 ⟨rfl, n1, rfl⟩) | (gi_at_call 40; refine (callsIn_wide.2 (fields_c _ _)).mono ?_; rintro e w1 ⟨rfl, rfl⟩))
    obtain ⟨W0, hW0⟩ : ∃ W0, (((((w.alloc (.cells #[.int .i64 op, .int .i64 fo, .int .i64 r1, .int .i64 r2, .int .i64 x2, .int .i64 b1, .int .i64 d1, .int .i64 b2, .int .i64 d2, .int .i64 l1, .int .i64 l2, .int .i64 i2] 25)).alloc (.cells #[.int .i64 0] 41)).drewN n1).alloc (.cells #[.int .i64 op, .int .i64 fo, .int .i64 r1, .int .i64 r2, .int .i64 x2, .int .i64 b1, .int .i64 d1, .int .i64 b2, .int .i64 d2, .int .i64 l1, .int .i64 l2, .int .i64 i2] 25)).alloc (.cells #[.pointer (some ⟨w.heap.size + 1 + 1, 0, none⟩)] 81)) = W0 := ⟨_, rfl⟩
    rw [hW0]
    have hz : W0.heap.size = w.heap.size + 4 := by rw [← hW0]; simp
    have hB0 : Below w.heap.size w W0 := by rw [← hW0]; exact ((dBelow' (((Below.refl w.heap.size w).alloc (Nat.le_refl _) _).alloc (by simp) _) n1).alloc (by simp; omega) _).alloc (by simp; omega) _
    have q0 : Blk W0 w.heap.size 25 [op, fo, r1, r2, x2, b1, d1, b2, d2, l1, l2, i2] := by rw [← hW0]; exact alloc4_heap _ _ _ _ _ _
    have q1 : Blk W0 (w.heap.size + 1) 41 [0] := by rw [← hW0]; exact alloc4_heap1 _ _ _ _ _ _
    have q2 : Blk W0 (w.heap.size + 1 + 1) 25 [op, fo, r1, r2, x2, b1, d1, b2, d2, l1, l2, i2] := by rw [← hW0]; exact alloc4_heap2 _ _ _ _ _ _
    have q3 : W0.heap[w.heap.size + 1 + 1 + 1]? = some (.cells #[.pointer (some ⟨w.heap.size + 1 + 1, 0, none⟩)] 81 (0, 0)) := by rw [← hW0]; exact alloc4_heap3 _ _ _ _ _ _
    clear hW0
    obtain ⟨xs, hxs⟩ : ∃ xs, xs = [op, fo, r1, r2, x2, b1, d1, b2, d2, l1, l2, i2] := ⟨_, rfl⟩
    rw [← hxs] at q2
    have XS := Lib.hid hxs
    have xl : xs.length = 12 := by rw [hxs]; rfl
    refine wpIn_rangeFunc_ownH rfl (by omega) (gf := 52) (lb := #[.pointer (some ⟨w.heap.size + 1 + 1 + 1, 0, none⟩)]) rfl trivial (enters_of Try.func52 (by kernel_rfl) rfl)
      (fields1_stops okF (5 - 1) (by omega) (w.heap.size + 1 + 1) (w.heap.size + 1 + 1 + 1) W0.heap.size fo W0 (by rw [q2.cell (by omega), hxs]; rfl) (by rw [cell_blk q3]; rfl) (Nat.le_refl _) (lay_ok fo)) kpC_t kpC_b (Below.refl _ _) (fun _ => rfl)
      (fun pre W => (W0.heap.size ≤ W.heap.size ∧ ∃ ys, scan (pre.map (·.1)) xs = some ys ∧ ys.length = 12 ∧ Blk W (w.heap.size + 1 + 1) 25 ys ∧ Blk W w.heap.size 25 [op, fo, r1, r2, x2, b1, d1, b2, d2, l1, l2, i2] ∧ Blk W (w.heap.size + 1) 41 [0]) ∧ Below w.heap.size w W)
      (fun c pre W => (c = .ret ∧ scan (pre.map (·.1)) xs = none ∧ Blk W (w.heap.size + 1) 41 [6]) ∧ Below w.heap.size w W)
      (OwnFrom.and (Own.from (fun s A B row hs hg hr => by obtain ⟨h0, ys, h1, h2, h3, h4, h5⟩ := hs; exact ⟨Nat.le_trans h0 hg.size, ys, h1, h2, h3.kept hg hr, h4.kept hg hr, h5.kept hg hr⟩) _) (ownFrom_below (Nat.le_refl _) (by omega)))
      (fun c => OwnFrom.and (Own.from (fun s A B row hs hg hr => ⟨hs.1, hs.2.1, hs.2.2.kept hg hr⟩) _) (ownFrom_below (Nat.le_refl _) (by omega)))
      ⟨⟨Nat.le_refl _, xs, rfl, xl, q2, q0, q1⟩, hB0⟩
      (fun x a' W => ∃ fb, W0.heap.size ≤ fb ∧ FBox W fb (w.heap.size + 1 + 1) x.1 ∧ a' = { tmps := #[.agg #[.int .i64 op, .int .i64 fo, .int .i64 r1, .int .i64 r2, .int .i64 x2, .int .i64 b1, .int .i64 d1, .int .i64 b2, .int .i64 d2, .int .i64 l1, .int .i64 l2, .int .i64 i2], .pointer (some ⟨w.heap.size, 0, none⟩), .pointer (some ⟨w.heap.size + 1, 0, none⟩), .int .i64 fo, .bool true, .pointer (some ⟨w.heap.size + 1 + 1, 0, none⟩), .pointer (some ⟨fb, 0, none⟩), .tuple #[.int .i64 fo, .bool true], .pointer (some ⟨w.heap.size, 0, none⟩), .int .i64 op, .tuple #[.int .i64 fo, .bool true], .int .i64 fo, .bool true, .bool true, .bool false, .bool false, .int .i64 fo, .pointer (some ⟨w.heap.size, 1, none⟩), .int .i64 fo, .bool false, .bool false, .agg #[.int .i64 op, .int .i64 fo, .int .i64 r1, .int .i64 r2, .int .i64 x2, .int .i64 b1, .int .i64 d1, .int .i64 b2, .int .i64 d2, .int .i64 l1, .int .i64 l2, .int .i64 i2], .func (.func 52) #[] #[.pointer (some ⟨w.heap.size + 1 + 1 + 1, 0, none⟩)], .agg #[.pointer (some ⟨w.heap.size + 1 + 1, x.1.1, none⟩), .int .i64 x.1.2.1, .int .i64 x.1.2.2], undef, undef, undef, undef, undef, undef, undef, undef, undef, undef, undef, undef, undef, undef, undef, undef, undef, undef, undef, undef, undef, undef, undef, undef, undef], defers := [] })
      (fun x a' => Own.from (fun s A B row hs hg hr => by obtain ⟨fb, h1, h2, h3⟩ := hs; exact ⟨fb, h1, blk_kept h2 hg hr, h3⟩) _) ?assign ?body ?done ?stop
    case assign =>
      intro l pre x W K hI hK
      gi_wp2
      obtain ⟨⟨h0, ys, h1, h2, h3, h4, h5⟩, hB⟩ := hI
      exact hK _ _ ((KeepsOthers.alloc _ _).from _) (kpC_of_below (al_keep W _)) ⟨⟨by simp; omega, ys, h1, h2, h3.alloc _, h4.alloc _, h5.alloc _⟩, hB.alloc (by omega) _⟩ ⟨W.heap.size, h0, heap_alloc_new W _, rfl⟩
    case body =>
      rintro l pre ⟨⟨c, n, at_⟩, ok1, ok2, ok3⟩ a' W hl hrr ⟨⟨h0, ys, h1, h2, h3, h4, h5⟩, hB⟩ ⟨fb, hfb, hF, rfl⟩ hlen
      have k0 : W.cell? ⟨fb, 0, none⟩ = some (.pointer (some ⟨w.heap.size + 1 + 1, c, none⟩)) := by rw [cell_blk hF]; rfl
      have k1 : W.cell? ⟨fb, 1, none⟩ = some (.int .i64 n) := by rw [cell_blk hF]; rfl
      have k2 := h3.cell (c := c) (by dsimp only at ok2; omega)
      have k3 := h3.free c
      have k4 := h5.cell (c := 0) (by decide)
      have k5 := h5.free 0
      have SC := Lib.hid (scan_app (pre.map (·.1)) (c, n, at_) xs)
      rw [h1] at SC
      obtain ⟨v, hv⟩ : ∃ v, ys.getD c 0 = v := ⟨_, rfl⟩
      rw [hv] at k2
      have HS := Lib.hid (And.intro h2 (And.intro h3 (And.intro h4 (And.intro h5 (And.intro hB (And.intro h0 hv))))))
      dsimp only at ok1 ok2 ok3
      clear h1 h2 h3 h4 h5 hB h0 hF hv hr
      have hmx : Try.prog.follows .mixedOrders = true := by kernel_rfl
      rcases ok3 with rfl | rfl | rfl
      · have pw : (2 : Int) ^ Int.toNat 4 = 16 := by decide
        have SC' := SC
        by_cases e1 : v < 0
        · gi_wp2
          refine wpIn_round_quiet rfl (by kernel_rfl) (by kernel_rfl) (by kernel_rfl) ?_
          repeat (gi_big_quiet_step (fail))
          refine wpQuietIn_nil ?_
          rintro _ ⟨nq, rfl⟩
          gi_wp2
          obtain ⟨h2, h3, h4, h5, hB, h0, hv⟩ := HS.out
          exact ⟨((keeps_drewN W nq).trans (KeepsOthers.setCell _ _ _)).from _, ⟨rfl, by rw [List.map_append]; refine SC.out.trans ?_; rw [Option.bind_some, if_neg (by rw [hv, pw]; omega)], (h5.drewN nq).set_ 0 6⟩, (dBelow' hB nq).setCell (p := ⟨w.heap.size + 1, 0, none⟩) (by simp) _⟩
        · have g1 : decide (v < 0) = false := by rw [decide_eq_false_iff_not]; exact e1
          by_cases e2 : 16 ≤ v
          · have g2 : decide (16 ≤ v) = true := by rw [decide_eq_true_iff]; exact e2
            clear e1
            gi_wp2
            refine wpIn_round_quiet rfl (by kernel_rfl) (by kernel_rfl) (by kernel_rfl) ?_
            repeat (gi_big_quiet_step (fail))
            refine wpQuietIn_nil ?_
            rintro _ ⟨nq, rfl⟩
            gi_wp2
            obtain ⟨h2, h3, h4, h5, hB, h0, hv⟩ := HS.out
            exact ⟨((keeps_drewN W nq).trans (KeepsOthers.setCell _ _ _)).from _, ⟨rfl, by rw [List.map_append]; refine SC.out.trans ?_; rw [Option.bind_some, if_neg (by rw [hv, pw]; omega)], (h5.drewN nq).set_ 0 6⟩, (dBelow' hB nq).setCell (p := ⟨w.heap.size + 1, 0, none⟩) (by simp) _⟩
          · have g2 : decide (16 ≤ v) = false := by rw [decide_eq_false_iff_not]; exact e2
            have E1 := Lib.hid e1
            have E2 := Lib.hid e2
            clear e1 e2
            gi_wp2
            refine wpIn_round_quiet rfl (by kernel_rfl) (by kernel_rfl) (by kernel_rfl) ?_
            repeat (gi_big_quiet_step (fail))
            refine wpQuietIn_nil ?_
            rintro _ ⟨nq, rfl⟩
            gi_wp2
            obtain ⟨h2, h3, h4, h5, hB, h0, hv⟩ := HS.out
            have e1 := E1.out
            have e2 := E2.out
            exact ⟨((keeps_drewN W nq).trans (KeepsOthers.setCell _ _ _)).from _, kpC_t (kpC_drewN _ W nq) (kpC_set _ _ _ (by show w.heap.size + 1 + 1 < _; omega)), ⟨by simp; omega, _, by rw [List.map_append]; refine SC.out.trans ?_; rw [Option.bind_some, if_pos (by rw [hv, pw]; omega)], by rw [List.length_set]; exact h2, (h3.drewN nq).set_ c 0, (h4.drewN nq).other _ (by simp; omega), (h5.drewN nq).other _ (by simp)⟩, (dBelow' hB nq).setCell (p := ⟨w.heap.size + 1 + 1, c, none⟩) (by simp; omega) _⟩
      · have pw : (2 : Int) ^ Int.toNat 8 = 256 := by decide
        have SC' := SC
        by_cases e1 : v < 0
        · gi_wp2
          refine wpIn_round_quiet rfl (by kernel_rfl) (by kernel_rfl) (by kernel_rfl) ?_
          repeat (gi_big_quiet_step (fail))
          refine wpQuietIn_nil ?_
          rintro _ ⟨nq, rfl⟩
          gi_wp2
          obtain ⟨h2, h3, h4, h5, hB, h0, hv⟩ := HS.out
          exact ⟨((keeps_drewN W nq).trans (KeepsOthers.setCell _ _ _)).from _, ⟨rfl, by rw [List.map_append]; refine SC.out.trans ?_; rw [Option.bind_some, if_neg (by rw [hv, pw]; omega)], (h5.drewN nq).set_ 0 6⟩, (dBelow' hB nq).setCell (p := ⟨w.heap.size + 1, 0, none⟩) (by simp) _⟩
        · have g1 : decide (v < 0) = false := by rw [decide_eq_false_iff_not]; exact e1
          by_cases e2 : 256 ≤ v
          · have g2 : decide (256 ≤ v) = true := by rw [decide_eq_true_iff]; exact e2
            clear e1
            gi_wp2
            refine wpIn_round_quiet rfl (by kernel_rfl) (by kernel_rfl) (by kernel_rfl) ?_
            repeat (gi_big_quiet_step (fail))
            refine wpQuietIn_nil ?_
            rintro _ ⟨nq, rfl⟩
            gi_wp2
            obtain ⟨h2, h3, h4, h5, hB, h0, hv⟩ := HS.out
            exact ⟨((keeps_drewN W nq).trans (KeepsOthers.setCell _ _ _)).from _, ⟨rfl, by rw [List.map_append]; refine SC.out.trans ?_; rw [Option.bind_some, if_neg (by rw [hv, pw]; omega)], (h5.drewN nq).set_ 0 6⟩, (dBelow' hB nq).setCell (p := ⟨w.heap.size + 1, 0, none⟩) (by simp) _⟩
          · have g2 : decide (256 ≤ v) = false := by rw [decide_eq_false_iff_not]; exact e2
            have E1 := Lib.hid e1
            have E2 := Lib.hid e2
            clear e1 e2
            gi_wp2
            refine wpIn_round_quiet rfl (by kernel_rfl) (by kernel_rfl) (by kernel_rfl) ?_
            repeat (gi_big_quiet_step (fail))
            refine wpQuietIn_nil ?_
            rintro _ ⟨nq, rfl⟩
            gi_wp2
            obtain ⟨h2, h3, h4, h5, hB, h0, hv⟩ := HS.out
            have e1 := E1.out
            have e2 := E2.out
            exact ⟨((keeps_drewN W nq).trans (KeepsOthers.setCell _ _ _)).from _, kpC_t (kpC_drewN _ W nq) (kpC_set _ _ _ (by show w.heap.size + 1 + 1 < _; omega)), ⟨by simp; omega, _, by rw [List.map_append]; refine SC.out.trans ?_; rw [Option.bind_some, if_pos (by rw [hv, pw]; omega)], by rw [List.length_set]; exact h2, (h3.drewN nq).set_ c 0, (h4.drewN nq).other _ (by simp; omega), (h5.drewN nq).other _ (by simp)⟩, (dBelow' hB nq).setCell (p := ⟨w.heap.size + 1 + 1, c, none⟩) (by simp; omega) _⟩
      · have pw : (2 : Int) ^ Int.toNat 12 = 4096 := by decide
        have SC' := SC
        by_cases e1 : v < 0
        · gi_wp2
          refine wpIn_round_quiet rfl (by kernel_rfl) (by kernel_rfl) (by kernel_rfl) ?_
          repeat (gi_big_quiet_step (fail))
          refine wpQuietIn_nil ?_
          rintro _ ⟨nq, rfl⟩
          gi_wp2
          obtain ⟨h2, h3, h4, h5, hB, h0, hv⟩ := HS.out
          exact ⟨((keeps_drewN W nq).trans (KeepsOthers.setCell _ _ _)).from _, ⟨rfl, by rw [List.map_append]; refine SC.out.trans ?_; rw [Option.bind_some, if_neg (by rw [hv, pw]; omega)], (h5.drewN nq).set_ 0 6⟩, (dBelow' hB nq).setCell (p := ⟨w.heap.size + 1, 0, none⟩) (by simp) _⟩
        · have g1 : decide (v < 0) = false := by rw [decide_eq_false_iff_not]; exact e1
          by_cases e2 : 4096 ≤ v
          · have g2 : decide (4096 ≤ v) = true := by rw [decide_eq_true_iff]; exact e2
            clear e1
            gi_wp2
            refine wpIn_round_quiet rfl (by kernel_rfl) (by kernel_rfl) (by kernel_rfl) ?_
            repeat (gi_big_quiet_step (fail))
            refine wpQuietIn_nil ?_
            rintro _ ⟨nq, rfl⟩
            gi_wp2
            obtain ⟨h2, h3, h4, h5, hB, h0, hv⟩ := HS.out
            exact ⟨((keeps_drewN W nq).trans (KeepsOthers.setCell _ _ _)).from _, ⟨rfl, by rw [List.map_append]; refine SC.out.trans ?_; rw [Option.bind_some, if_neg (by rw [hv, pw]; omega)], (h5.drewN nq).set_ 0 6⟩, (dBelow' hB nq).setCell (p := ⟨w.heap.size + 1, 0, none⟩) (by simp) _⟩
          · have g2 : decide (4096 ≤ v) = false := by rw [decide_eq_false_iff_not]; exact e2
            have E1 := Lib.hid e1
            have E2 := Lib.hid e2
            clear e1 e2
            gi_wp2
            refine wpIn_round_quiet rfl (by kernel_rfl) (by kernel_rfl) (by kernel_rfl) ?_
            repeat (gi_big_quiet_step (fail))
            refine wpQuietIn_nil ?_
            rintro _ ⟨nq, rfl⟩
            gi_wp2
            obtain ⟨h2, h3, h4, h5, hB, h0, hv⟩ := HS.out
            have e1 := E1.out
            have e2 := E2.out
            exact ⟨((keeps_drewN W nq).trans (KeepsOthers.setCell _ _ _)).from _, kpC_t (kpC_drewN _ W nq) (kpC_set _ _ _ (by show w.heap.size + 1 + 1 < _; omega)), ⟨by simp; omega, _, by rw [List.map_append]; refine SC.out.trans ?_; rw [Option.bind_some, if_pos (by rw [hv, pw]; omega)], by rw [List.length_set]; exact h2, (h3.drewN nq).set_ c 0, (h4.drewN nq).other _ (by simp; omega), (h5.drewN nq).other _ (by simp)⟩, (dBelow' hB nq).setCell (p := ⟨w.heap.size + 1 + 1, c, none⟩) (by simp; omega) _⟩
    case done =>
      rintro D pre W hD hys ⟨⟨h0, ys, h1, h2, h3, h4, h5⟩, hB⟩ hK
      rw [hys] at h1
      obtain ⟨z0, z1, z2, z3, z4, z5, z6, z7, z8, z9, z10, z11, rfl⟩ := list_12 h2
      rw [← XS.out] at hr
      rw [h1] at hr
      have c0 : W.cell? ⟨w.heap.size + 1 + 1, 0, none⟩ = some (.int .i64 z0) := h3.cell (c := 0) (by simp)
      have c1 : W.cell? ⟨w.heap.size + 1 + 1, 1, none⟩ = some (.int .i64 z1) := h3.cell (c := 1) (by simp)
      have c2 : W.cell? ⟨w.heap.size + 1 + 1, 2, none⟩ = some (.int .i64 z2) := h3.cell (c := 2) (by simp)
      have c3 : W.cell? ⟨w.heap.size + 1 + 1, 3, none⟩ = some (.int .i64 z3) := h3.cell (c := 3) (by simp)
      have c4 : W.cell? ⟨w.heap.size + 1 + 1, 4, none⟩ = some (.int .i64 z4) := h3.cell (c := 4) (by simp)
      have c5 : W.cell? ⟨w.heap.size + 1 + 1, 5, none⟩ = some (.int .i64 z5) := h3.cell (c := 5) (by simp)
      have c6 : W.cell? ⟨w.heap.size + 1 + 1, 6, none⟩ = some (.int .i64 z6) := h3.cell (c := 6) (by simp)
      have c7 : W.cell? ⟨w.heap.size + 1 + 1, 7, none⟩ = some (.int .i64 z7) := h3.cell (c := 7) (by simp)
      have c8 : W.cell? ⟨w.heap.size + 1 + 1, 8, none⟩ = some (.int .i64 z8) := h3.cell (c := 8) (by simp)
      have c9 : W.cell? ⟨w.heap.size + 1 + 1, 9, none⟩ = some (.int .i64 z9) := h3.cell (c := 9) (by simp)
      have c10 : W.cell? ⟨w.heap.size + 1 + 1, 10, none⟩ = some (.int .i64 z10) := h3.cell (c := 10) (by simp)
      have c11 : W.cell? ⟨w.heap.size + 1 + 1, 11, none⟩ = some (.int .i64 z11) := h3.cell (c := 11) (by simp)
      have b0 : W.cell? ⟨w.heap.size, 0, none⟩ = some (.int .i64 op) := h4.cell (c := 0) (by simp)
      have b1' : W.cell? ⟨w.heap.size, 1, none⟩ = some (.int .i64 fo) := h4.cell (c := 1) (by simp)
      have f5 := h5.free 0
      have g5 := h5.cell (c := 0) (by simp)
      have HS := Lib.hid (And.intro h5 (And.intro hB hK))
      have hl5 := h5
      clear h1 h2 h3 h4 h5 hB q0 q1 q2 q3
      by_cases hE : [z0, z1, z2, z3, z4, z5, z6, z7, z8, z9, z10, z11] = [op, fo, 0, 0, 0, 0, 0, 0, 0, 0, 0, 0]
      · have eq : eqiB z0 z1 z2 z3 z4 z5 z6 z7 z8 z9 z10 z11 op fo 0 0 0 0 0 0 0 0 0 0 = true := by rw [eqiB_iff]; simpa using hE
        have fin := Lib.hid (show chk op fo [op, fo, r1, r2, x2, b1, d1, b2, d2, l1, l2, i2] = 0 from by rw [← XS.out]; refine hr.out.trans ?_; show (if _ then (0 : Int) else 6) = 0; rw [if_pos hE])
        clear hr
        simp only [List.cons.injEq, and_true] at hE
        obtain ⟨rfl, rfl, rfl, rfl, rfl, rfl, rfl, rfl, rfl, rfl, rfl, rfl⟩ := hE
        clear eq
        gi_wp2
        obtain ⟨h5, hB, hK⟩ := HS.out
        have hK' := (KeepsOthers.setCell W ⟨w.heap.size + 1, 0, none⟩ (.int .i64 0)).same D _ hK rfl
        refine ⟨by simp, .inl ⟨_, _, rfl, run_takeDeferred hK', ?_⟩⟩
        have hc5 := cell_kept ((h5.set_ 0 0).cell (c := 0) (by simp)) (grownBy_putObj' _ D (.deferred none)) (fun r e => by cases e; exact ⟨_, hK', rfl⟩)
        refine ⟨.int .i64 0, ?_, by rw [fin.out], (hB.setCell (p := ⟨w.heap.size + 1, 0, none⟩) (by simp) _).trans (belowK_b (w := w) (Nat.le_refl _) _ D _ _ (by omega) hK' rfl rfl)⟩
        simp [results, Try.results28, go_sem, hc5]
      · have eq : eqiB z0 z1 z2 z3 z4 z5 z6 z7 z8 z9 z10 z11 op fo 0 0 0 0 0 0 0 0 0 0 = false := by rw [Bool.eq_false_iff]; intro h; rw [eqiB_iff] at h; exact hE (by simpa using h)
        have hq := fun W => eqi_run z0 z1 z2 z3 z4 z5 z6 z7 z8 z9 z10 z11 op fo 0 0 0 0 0 0 0 0 0 0 W
        simp only [eq] at hq
        have fin := Lib.hid (show chk op fo [op, fo, r1, r2, x2, b1, d1, b2, d2, l1, l2, i2] = 6 from by rw [← XS.out]; refine hr.out.trans ?_; show (if _ then (0 : Int) else 6) = 6; rw [if_neg hE])
        clear hr hE
        gi_wp2
        obtain ⟨h5, hB, hK⟩ := HS.out
        have hK' := (KeepsOthers.setCell W ⟨w.heap.size + 1, 0, none⟩ (.int .i64 6)).same D _ hK rfl
        refine ⟨by simp, .inl ⟨_, _, rfl, run_takeDeferred hK', ?_⟩⟩
        have hc5 := cell_kept ((h5.set_ 0 6).cell (c := 0) (by simp)) (grownBy_putObj' _ D (.deferred none)) (fun r e => by cases e; exact ⟨_, hK', rfl⟩)
        refine ⟨.int .i64 6, ?_, by rw [fin.out], (hB.setCell (p := ⟨w.heap.size + 1, 0, none⟩) (by simp) _).trans (belowK_b (w := w) (Nat.le_refl _) _ D _ _ (by omega) hK' rfl rfl)⟩
        simp [results, Try.results28, go_sem, hc5]
    case stop =>
      rintro D c pre W hD ⟨cc, hcc, hpre⟩ ⟨⟨rfl, hsc, h5⟩, hB⟩ hK
      have fin := Lib.hid (show chk op fo [op, fo, r1, r2, x2, b1, d1, b2, d2, l1, l2, i2] = 6 from by rw [hr.out, ← XS.out, scan_take (c := cc) (by rw [← hpre]; exact hsc)])
      gi_wp2
      refine ⟨by simp, .inl ⟨_, _, rfl, run_takeDeferred hK, ?_⟩⟩
      have hc5 := cell_kept (h5.cell (c := 0) (by simp)) (grownBy_putObj' _ D (.deferred none)) (fun r e => by cases e; exact ⟨_, hK, rfl⟩)
      refine ⟨.int .i64 6, ?_, by rw [fin.out], hB.trans (belowK_b (w := w) (Nat.le_refl _) W D _ _ (by omega) hK rfl rfl)⟩
      simp [results, Try.results28, go_sem, hc5]
  · have hr := Lib.hid (show chk op fm [op, fm, r1, r2, x2, b1, d1, b2, d2, l1, l2, i2] = 80 from by unfold chk; rw [if_neg (by rw [hio, hfo]; exact hA)])
    cases io
    · clear hA hio hfo
      gi_wp2_with (refine ⟨trivial, ?_⟩; gi_at_call 25; refine (callsIn_wide.2 (FC.out _)).mono ?_; rintro e w1 ⟨rfl, n1, rfl⟩)
      refine ⟨.int .i64 80, by simp [results, Try.results28, go_sem], by rw [hr.out], ?_⟩
      exact (dBelow' (((Below.refl w.heap.size w).alloc (Nat.le_refl _) _).alloc (by simp) _) n1).setCell (p := ⟨w.heap.size + 1, 0, none⟩) (by simp) _
    · have hne : (fo != fm) = true := by rw [bne_iff_ne]; exact fun e => hA ⟨rfl, e⟩
      clear hA hio hfo
      gi_wp2_with (refine ⟨trivial, ?_⟩; gi_at_call 25; refine (callsIn_wide.2 (FC.out _)).mono ?_; rintro e w1 ⟨rfl, n1, rfl⟩)
      refine ⟨.int .i64 80, by simp [results, Try.results28, go_sem], by rw [hr.out], ?_⟩
      exact (dBelow' (((Below.refl w.heap.size w).alloc (Nat.le_refl _) _).alloc (by simp) _) n1).setCell (p := ⟨w.heap.size + 1, 0, none⟩) (by simp) _
end Go.Proofs.Ythjdjbipfdigeaa
