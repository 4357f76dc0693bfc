/- CONTRACTS of package isa: Decode. No conditions but the bytes. -/
import Derived.Test.YtfbcjpbfggbhfaaIs4
namespace Go.Proofs.Ytfbcjpbfggbhfaa
open Go.RowKit Go.Shelf
set_option linter.unusedVariables false
set_option linter.unusedSimpArgs false
attribute [local go_sem] Oper.semAt_some

/-- may it be decoded? -/
def dokI (len : Nat) (zs : List Int) : Bool := decide (0 < len) && (isOp (zs.getD 0 0) && decide (lenOf (zs.getD 0 0) ≤ (len : Int)))
/-- half bytes from a place on, as a number -/
def part (zs : List Int) (a : Nat) : Nat → Int
  | 0 => 0
  | j + 1 => part zs a j * 16 + nib zs (a + j)
def rdF (zs : List Int) (f : FE) : Int := part zs f.2.2.toNat (f.2.1.toNat / 4)
def decS (zs : List Int) (l : List FE) (xs : List Int) : List Int := l.foldl (fun xs f => xs.set f.1 (rdF zs f)) xs
def decI (zs : List Int) : List Int := decS zs (lay (fmOf (zs.getD 0 0))) [zs.getD 0 0, fmOf (zs.getD 0 0), 0, 0, 0, 0, 0, 0, 0, 0, 0, 0]
theorem decS_length (zs : List Int) : ∀ (l : List FE) (xs : List Int), xs.length = 12 → (decS zs l xs).length = 12
  | [], xs, h => h
  | f :: l, xs, h => decS_length zs l _ (by rw [List.length_set]; exact h)
theorem decS_app (zs : List Int) (l : List FE) (f : FE) (xs : List Int) : decS zs (l ++ [f]) xs = (decS zs l xs).set f.1 (rdF zs f) := by unfold decS; rw [List.foldl_append]; rfl
def insV (xs : List Int) : Value := .agg (xs.map (Value.int .i64)).toArray
def okL (Ln : Nat) (x : FE) : Prop := okF x ∧ 2 ≤ x.2.2 ∧ x.2.2 + x.2.1 / 4 ≤ 2 * (Ln : Int) ∧ x.2.2 ≤ 9
theorem lay_fit : ∀ k, k < 97 → ∀ x ∈ lay (fmK k), 2 ≤ x.2.2 ∧ x.2.2 + x.2.1 / 4 ≤ 2 * lenOf (opK k) ∧ x.2.2 ≤ 9 := by decide +kernel
theorem lay_okL {op : Int} (h : isOp op = true) {Ln : Nat} (hl : lenOf op ≤ (Ln : Int)) : ∀ x ∈ lay (fmOf op), okL Ln x := by
  intro x hx
  unfold isOp at h
  rw [decide_eq_true_iff] at h
  have h1 := lay_fit (ix op) h x (by unfold fmOf at hx; rwa [if_pos h] at hx)
  rw [ix_op h] at h1
  exact ⟨lay_ok _ x hx, h1.1, by omega, h1.2.2⟩
theorem nib_range {zs : List Int} (h : ∀ i, 0 ≤ zs.getD i 0 ∧ zs.getD i 0 ≤ 255) (a : Nat) : 0 ≤ nib zs a ∧ nib zs a ≤ 15 := by
  have := h (a / 2)
  unfold nib; split <;> omega
theorem part_range {zs : List Int} (h : ∀ i, 0 ≤ zs.getD i 0 ∧ zs.getD i 0 ≤ 255) (a : Nat) : 0 ≤ part zs a 1 ∧ part zs a 1 ≤ 15 ∧ 0 ≤ part zs a 2 ∧ part zs a 2 ≤ 255 ∧ 0 ≤ part zs a 3 ∧ part zs a 3 ≤ 4095 := by
  have h0 := nib_range h (a + 0)
  have h1 := nib_range h (a + 1)
  have h2 := nib_range h (a + 2)
  simp only [part]
  omega
theorem part_step {zs : List Int} (h : ∀ i, 0 ≤ zs.getD i 0 ∧ zs.getD i 0 ≤ 255) (a j : Nat) (hj : j ≤ 2) : bits .or .i64 (wrap64 (part zs a j * 16)) (nib zs (a + j)) = part zs a (j + 1) := by
  have hn := nib_range h (a + j)
  have hp := part_range h a
  have h0 : part zs a 0 = 0 := rfl
  have hr : 0 ≤ part zs a j ∧ part zs a j ≤ 255 := by
    rcases (show j = 0 ∨ j = 1 ∨ j = 2 by omega) with rfl | rfl | rfl <;> omega
  have hw : wrap64 (part zs a j * 16) = part zs a j * 16 := by unfold wrap64; omega
  rw [hw, i64_join 4 16 _ _ (by rfl) (by omega) (by omega) (by omega) (by omega) (by omega) (by omega)]
  rfl
theorem decI_length (zs : List Int) : (decI zs).length = 12 := by
  unfold decI decS
  generalize lay _ = l
  generalize hx : [zs.getD 0 0, fmOf (zs.getD 0 0), 0, 0, 0, 0, 0, 0, 0, 0, 0, 0] = xs
  have hl : xs.length = 12 := by rw [← hx]; rfl
  clear hx
  induction l generalizing xs with
  | nil => exact hl
  | cons f l ih => exact ih _ (by rw [List.length_set]; exact hl)
theorem isOp_range {op : Int} (h : isOp op = true) : 4 ≤ op ∧ op ≤ 253 := by
  unfold isOp at h; rw [decide_eq_true_iff] at h
  have := op_range _ h; rwa [ix_op h] at this
theorem res_cell_tmp {P : Program} {fn : Func} {p q : Tmp} {ty : TypeId} (h : fn.results = #[.cell p ty, .tmp q]) (tmps : Array Value) (w : World) (g : Nat) (cs : Array Value) (t : TypeId) (v : Value) {d : TypeDesc}
    (hp : tmps.getD p undef = .pointer (some ⟨g, 0, none⟩)) (hq : tmps.getD q undef = v) (hg : w.heap[g]? = some (.cells cs t (0, 0)))
    (hu : P.underlying ty = some d) (hd : (match d with | .struct _ | .array _ _ => true | _ => false) = true) (hi : (P.info? ty).map (·.size) = some cs.size) :
    (results fn tmps).run P w = .ok (.tuple #[.agg cs, v]) w := by
  have hp' : tmps[p]?.getD undef = .pointer (some ⟨g, 0, none⟩) := by simpa using hp
  have hq' : tmps[q]?.getD undef = v := by simpa using hq
  simp [results, h, hp', hq', asAddr, run_loadVar_row w g t ty cs (0, 0) d hg hu hd hi]
theorem blk_sets12 {W : World} {g : Nat} {T : TypeId} {ys : List Int} (h : Blk W g T ys) (hl : ys.length = 12) (v0 v1 v2 v3 v4 v5 v6 v7 v8 v9 v10 v11 : Int) : Blk ((((((((((((W.setCell ⟨g, 0, none⟩ (.int .i64 v0)).setCell ⟨g, 1, none⟩ (.int .i64 v1)).setCell ⟨g, 2, none⟩ (.int .i64 v2)).setCell ⟨g, 3, none⟩ (.int .i64 v3)).setCell ⟨g, 4, none⟩ (.int .i64 v4)).setCell ⟨g, 5, none⟩ (.int .i64 v5)).setCell ⟨g, 6, none⟩ (.int .i64 v6)).setCell ⟨g, 7, none⟩ (.int .i64 v7)).setCell ⟨g, 8, none⟩ (.int .i64 v8)).setCell ⟨g, 9, none⟩ (.int .i64 v9)).setCell ⟨g, 10, none⟩ (.int .i64 v10)).setCell ⟨g, 11, none⟩ (.int .i64 v11)) g T [v0, v1, v2, v3, v4, v5, v6, v7, v8, v9, v10, v11] := by
  obtain ⟨a, b, c, d, e, f, g', h', i, j, k, m, rfl⟩ := list_12 hl
  exact ((((((((((((h.set_ 0 v0).set_ 1 v1).set_ 2 v2).set_ 3 v3).set_ 4 v4).set_ 5 v5).set_ 6 v6).set_ 7 v7).set_ 8 v8).set_ 9 v9).set_ 10 v10).set_ 11 v11)
theorem keeps_sets12 (W : World) (g : Nat) (v0 v1 v2 v3 v4 v5 v6 v7 v8 v9 v10 v11 : Int) : KeepsOthers W ((((((((((((W.setCell ⟨g, 0, none⟩ (.int .i64 v0)).setCell ⟨g, 1, none⟩ (.int .i64 v1)).setCell ⟨g, 2, none⟩ (.int .i64 v2)).setCell ⟨g, 3, none⟩ (.int .i64 v3)).setCell ⟨g, 4, none⟩ (.int .i64 v4)).setCell ⟨g, 5, none⟩ (.int .i64 v5)).setCell ⟨g, 6, none⟩ (.int .i64 v6)).setCell ⟨g, 7, none⟩ (.int .i64 v7)).setCell ⟨g, 8, none⟩ (.int .i64 v8)).setCell ⟨g, 9, none⟩ (.int .i64 v9)).setCell ⟨g, 10, none⟩ (.int .i64 v10)).setCell ⟨g, 11, none⟩ (.int .i64 v11)) := ((((((((((((KeepsOthers.refl W).trans (KeepsOthers.setCell _ _ _)).trans (KeepsOthers.setCell _ _ _)).trans (KeepsOthers.setCell _ _ _)).trans (KeepsOthers.setCell _ _ _)).trans (KeepsOthers.setCell _ _ _)).trans (KeepsOthers.setCell _ _ _)).trans (KeepsOthers.setCell _ _ _)).trans (KeepsOthers.setCell _ _ _)).trans (KeepsOthers.setCell _ _ _)).trans (KeepsOthers.setCell _ _ _)).trans (KeepsOthers.setCell _ _ _)).trans (KeepsOthers.setCell _ _ _)
theorem below_sets12 {W w : World} {B g : Nat} (hB : Below B w W) (hg : B ≤ g) (v0 v1 v2 v3 v4 v5 v6 v7 v8 v9 v10 v11 : Int) : Below B w ((((((((((((W.setCell ⟨g, 0, none⟩ (.int .i64 v0)).setCell ⟨g, 1, none⟩ (.int .i64 v1)).setCell ⟨g, 2, none⟩ (.int .i64 v2)).setCell ⟨g, 3, none⟩ (.int .i64 v3)).setCell ⟨g, 4, none⟩ (.int .i64 v4)).setCell ⟨g, 5, none⟩ (.int .i64 v5)).setCell ⟨g, 6, none⟩ (.int .i64 v6)).setCell ⟨g, 7, none⟩ (.int .i64 v7)).setCell ⟨g, 8, none⟩ (.int .i64 v8)).setCell ⟨g, 9, none⟩ (.int .i64 v9)).setCell ⟨g, 10, none⟩ (.int .i64 v10)).setCell ⟨g, 11, none⟩ (.int .i64 v11)) := (Below.setCell (p := ⟨g, 11, none⟩) (Below.setCell (p := ⟨g, 10, none⟩) (Below.setCell (p := ⟨g, 9, none⟩) (Below.setCell (p := ⟨g, 8, none⟩) (Below.setCell (p := ⟨g, 7, none⟩) (Below.setCell (p := ⟨g, 6, none⟩) (Below.setCell (p := ⟨g, 5, none⟩) (Below.setCell (p := ⟨g, 4, none⟩) (Below.setCell (p := ⟨g, 3, none⟩) (Below.setCell (p := ⟨g, 2, none⟩) (Below.setCell (p := ⟨g, 1, none⟩) (Below.setCell (p := ⟨g, 0, none⟩) hB hg _) hg _) hg _) hg _) hg _) hg _) hg _) hg _) hg _) hg _) hg _) hg _)
set_option maxRecDepth 100000 in
set_option maxHeartbeats 4000000 in
theorem idecode_c (A : Option Addr) (len cap : Nat) (zs : List Int) (w : World) (hy : Byt w A len zs) (hl : (len : Int) ≤ 9223372036854775807) : Calls Try.prog 20 #[.slice A len cap] w fun e w' => e = .returned (.tuple #[insV (if dokI len zs = true then decI zs else [0, 0, 0, 0, 0, 0, 0, 0, 0, 0, 0, 0]), .bool (dokI len zs)]) ∧ Below w.heap.size w w' := by
  have HY := Lib.hid hy
  have hl0 := Lib.hid hl
  clear hy
  refine (callsIn_wide (n := 5)).1 ?_
  refine callsIn_of_wp_marks Try.func20 rfl trivial ?_ rfl
  simp only [Try.ntmps20, List.size_toArray, List.length_cons, List.length_nil, Nat.reduceAdd, Nat.reduceSub, Array.replicate_succ, Array.replicate_zero, List.push_toArray, List.append_toArray, List.nil_append, List.cons_append]
  by_cases h0 : len = 0
  · have hr := Lib.hid (show dokI len zs = false from by unfold dokI; simp [h0])
    subst h0
    rw [hr.out]
    gi_wp2
    exact ⟨.tuple #[insV [0, 0, 0, 0, 0, 0, 0, 0, 0, 0, 0, 0], .bool false], res_cell_tmp Try.results20 _ _ (w.heap.size + 1) _ 28 _ rfl rfl (heap_alloc2_new _ _ _) Try.underlying28 rfl (by kernel_rfl), rfl, ((Below.refl _ _).alloc (Nat.le_refl _) _).alloc (by simp) _⟩
  have e0 : ((len : Int) == 0) = false := by rw [beq_eq_false_iff_ne]; omega
  obtain ⟨bb, off, rfl, hc⟩ := HY.out.at_ (by omega)
  have d0 := hc 0 (by omega)
  rw [Nat.add_zero] at d0
  have zr := HY.out.range 0
  have l0 : 0 < len := by omega
  have l1 : (0 : Int) < (len : Int) := by omega
  have BA := Lib.hid (show Below w.heap.size w ((w.alloc (.cells #[.slice (some ⟨bb, off, none⟩) len cap] 29)).alloc (.cells #[.int .i64 0, .int .i64 0, .int .i64 0, .int .i64 0, .int .i64 0, .int .i64 0, .int .i64 0, .int .i64 0, .int .i64 0, .int .i64 0, .int .i64 0, .int .i64 0] 28)) from ((Below.refl _ _).alloc (Nat.le_refl _) _).alloc (by simp) _)
  obtain ⟨op, hop⟩ : ∃ x, zs.getD 0 0 = x := ⟨_, rfl⟩
  rw [hop] at d0 zr
  replace d0 := bcell_keep d0 BA.out
  obtain ⟨io, hio⟩ : ∃ x, isOp op = x := ⟨_, rfl⟩
  obtain ⟨fo, hfo⟩ : ∃ x, fmOf op = x := ⟨_, rfl⟩
  have FC := Lib.hid (form_c op)
  rw [hio, hfo] at FC
  clear hc
  cases io
  · have hr := Lib.hid (show dokI len zs = false from by unfold dokI; rw [hop, hio]; simp)
    rw [hr.out]
    clear hio hfo hop h0
    gi_wp2_with (refine ⟨trivial, ?_⟩; first | (gi_at_call 10; refine (callsIn_wide.2 (FC.out _)).mono ?_; rintro e w1 ⟨rfl, n1, rfl⟩))
    refine wpIn_region_quiet_lit rfl (by kernel_rfl) (by kernel_rfl) ?_
    repeat (first | gi_big_quiet_step (fail) | (refine BigFrame.wpQuietIn_skip (fun _ _ _ _ => trivial) (by rfl) ?_; simp only [Act.put, List.setIfInBounds_toArray, List.set_cons_zero, List.set_cons_succ]))
    refine wpQuietIn_nil ?_
    rintro _ ⟨nq, rfl⟩
    gi_wp2
    exact ⟨.tuple #[insV [0, 0, 0, 0, 0, 0, 0, 0, 0, 0, 0, 0], .bool false], res_cell_tmp Try.results20 _ _ (w.heap.size + 1) _ 28 _ rfl rfl (blk_sets12 (g := w.heap.size + 1) (T := 28) (ys := [0, 0, 0, 0, 0, 0, 0, 0, 0, 0, 0, 0]) (Blk.drewN (heap_alloc2_new w _ _) _) rfl 0 0 0 0 0 0 0 0 0 0 0 0) Try.underlying28 rfl (by kernel_rfl), rfl, below_sets12 (dBelow' BA.out _) (by omega) 0 0 0 0 0 0 0 0 0 0 0 0⟩
  have LC := Lib.hid (fun W => length_c op (by omega) (by omega) W)
  obtain ⟨Ln, hLn⟩ : ∃ x, lenOf op = x := ⟨_, rfl⟩
  rw [hLn] at LC
  by_cases hle : (len : Int) < Ln
  · have hr := Lib.hid (show dokI len zs = false from by unfold dokI; rw [hop, hio, hLn]; simp; omega)
    rw [hr.out]
    clear hio hfo hop h0
    gi_wp2_with (refine ⟨trivial, ?_⟩; first | (gi_at_call 10; refine (callsIn_wide.2 (FC.out _)).mono ?_; rintro e w1 ⟨rfl, n1, rfl⟩))
    have g1 : decide ((len : Int) < Ln) = true := by rw [decide_eq_true_iff]; exact hle
    clear hle
    refine wpIn_region_quiet_lit rfl (by kernel_rfl) (by kernel_rfl) ?_
    repeat (first | gi_big_quiet_step (fail) | (refine BigFrame.wpQuietIn_want (fun _ _ _ _ => trivial) (by rfl) (fun K hK => ?_); gi_big_quiet_op; refine ⟨.int .i64 Ln, fun _ => ?_, ?_⟩; (gi_at_call 12; exact callsIn_wide.2 (quiet_add_left (LC.out _))); refine hK _ ?_; (try simp only [Act.put, List.setIfInBounds_toArray, List.set_cons_zero, List.set_cons_succ])) | (refine BigFrame.wpQuietIn_skip (fun _ _ _ _ => trivial) (by rfl) ?_; simp only [Act.put, List.setIfInBounds_toArray, List.set_cons_zero, List.set_cons_succ]))
    refine wpQuietIn_nil ?_
    rintro _ ⟨nq, rfl⟩
    gi_wp2
    exact ⟨.tuple #[insV [0, 0, 0, 0, 0, 0, 0, 0, 0, 0, 0, 0], .bool false], res_cell_tmp Try.results20 _ _ (w.heap.size + 1) _ 28 _ rfl rfl (blk_sets12 (g := w.heap.size + 1) (T := 28) (ys := [0, 0, 0, 0, 0, 0, 0, 0, 0, 0, 0, 0]) (Blk.drewN (heap_alloc2_new w _ _) _) rfl 0 0 0 0 0 0 0 0 0 0 0 0) Try.underlying28 rfl (by kernel_rfl), rfl, below_sets12 (dBelow' BA.out _) (by omega) 0 0 0 0 0 0 0 0 0 0 0 0⟩
  · have hr := Lib.hid (show dokI len zs = true from by unfold dokI; rw [hop, hio, hLn]; simp; omega)
    rw [hr.out, if_pos rfl]
    have LOK := Lib.hid (lay_okL (Ln := len) hio (by rw [hLn]; omega))
    have hD := Lib.hid (show decI zs = decS zs (lay fo) [op, fo, 0, 0, 0, 0, 0, 0, 0, 0, 0, 0] from by unfold decI; rw [hop, hfo])
    rw [hfo] at LOK
    rw [hD.out]
    clear hio hfo hop h0
    gi_wp2_with (refine ⟨trivial, ?_⟩; first | (gi_at_call 10; refine (callsIn_wide.2 (FC.out _)).mono ?_; rintro e w1 ⟨rfl, n1, rfl⟩))
    have g1 : decide ((len : Int) < Ln) = false := by rw [decide_eq_false_iff_not]; omega
    clear hle
    refine wpIn_region_quiet_lit rfl (by kernel_rfl) (by kernel_rfl) ?_
    repeat (first | gi_big_quiet_step (fail) | (refine BigFrame.wpQuietIn_want (fun _ _ _ _ => trivial) (by rfl) (fun K hK => ?_); gi_big_quiet_op; refine ⟨.int .i64 Ln, fun _ => ?_, ?_⟩; (gi_at_call 12; exact callsIn_wide.2 (quiet_add_left (LC.out _))); refine hK _ ?_; (try simp only [Act.put, List.setIfInBounds_toArray, List.set_cons_zero, List.set_cons_succ])) | (refine BigFrame.wpQuietIn_skip (fun _ _ _ _ => trivial) (by rfl) ?_; simp only [Act.put, List.setIfInBounds_toArray, List.set_cons_zero, List.set_cons_succ]))
    refine wpQuietIn_nil ?_
    rintro _ ⟨nq, rfl⟩
    gi_wp2_with (refine ⟨trivial, ?_⟩; first | (gi_at_call 33; refine (callsIn_wide.2 (fields_c _ _)).mono ?_; rintro e w1 ⟨rfl, rfl⟩))
    obtain ⟨W0, hW0⟩ : ∃ W0, (((((w.alloc (.cells #[.slice (some ⟨bb, off, none⟩) len cap] 29)).alloc (.cells #[.int .i64 0, .int .i64 0, .int .i64 0, .int .i64 0, .int .i64 0, .int .i64 0, .int .i64 0, .int .i64 0, .int .i64 0, .int .i64 0, .int .i64 0, .int .i64 0] 28)).drewN (n1 + nq)).alloc (.cells #[.int .i64 op, .int .i64 fo, .int .i64 0, .int .i64 0, .int .i64 0, .int .i64 0, .int .i64 0, .int .i64 0, .int .i64 0, .int .i64 0, .int .i64 0, .int .i64 0] 28)).alloc (.cells #[.pointer (some ⟨w.heap.size + 1 + 1, 0, none⟩)] 55)) = W0 := ⟨_, rfl⟩
    rw [hW0]
    have hz : W0.heap.size = w.heap.size + 4 := by rw [← hW0]; simp
    have hB0 : Below w.heap.size w W0 := by rw [← hW0]; exact ((dBelow' (((Below.refl w.heap.size w).alloc (Nat.le_refl _) _).alloc (by simp) _) _).alloc (by simp; omega) _).alloc (by simp; omega) _
    have q0 : W0.heap[w.heap.size]? = some (.cells #[.slice (some ⟨bb, off, none⟩) len cap] 29 (0, 0)) := by rw [← hW0]; exact alloc4_heap _ _ _ _ _ _
    have q1 : Blk W0 (w.heap.size + 1) 28 [0, 0, 0, 0, 0, 0, 0, 0, 0, 0, 0, 0] := by rw [← hW0]; exact alloc4_heap1 _ _ _ _ _ _
    have q2 : Blk W0 (w.heap.size + 1 + 1) 28 [op, fo, 0, 0, 0, 0, 0, 0, 0, 0, 0, 0] := by rw [← hW0]; exact alloc4_heap2 _ _ _ _ _ _
    have q3 : W0.heap[w.heap.size + 1 + 1 + 1]? = some (.cells #[.pointer (some ⟨w.heap.size + 1 + 1, 0, none⟩)] 55 (0, 0)) := by rw [← hW0]; exact alloc4_heap3 _ _ _ _ _ _
    clear hW0 hK g1 d0
    refine wpIn_rangeFunc_ownH rfl (by omega) (gf := 42) (lb := #[.pointer (some ⟨w.heap.size + 1 + 1 + 1, 0, none⟩)]) rfl trivial (enters_of Try.func42 (by kernel_rfl) rfl)
      (fields1_stops (okL len) (5 - 1) (by omega) (w.heap.size + 1 + 1) (w.heap.size + 1 + 1 + 1) W0.heap.size fo W0 (by rw [q2.cell (by simp)]; rfl) (by rw [cell_blk q3]; rfl) (Nat.le_refl _) LOK.out) kpC_t kpC_b (Below.refl _ _) (fun _ => rfl)
      (fun pre W => (W0.heap.size ≤ W.heap.size ∧ Blk W (w.heap.size + 1 + 1) 28 (decS zs (pre.map (·.1)) [op, fo, 0, 0, 0, 0, 0, 0, 0, 0, 0, 0]) ∧ Blk W (w.heap.size + 1) 28 [0, 0, 0, 0, 0, 0, 0, 0, 0, 0, 0, 0] ∧ W.heap[w.heap.size]? = some (.cells #[.slice (some ⟨bb, off, none⟩) len cap] 29 (0, 0))) ∧ Below w.heap.size w W)
      (fun c pre W => False ∧ Below w.heap.size w W)
      (OwnFrom.and (Own.from (fun s A B row hs hg hr => ⟨Nat.le_trans hs.1 hg.size, hs.2.1.kept hg hr, hs.2.2.1.kept hg hr, blk_kept hs.2.2.2 hg hr⟩) _) (ownFrom_below (Nat.le_refl _) (by omega)))
      (fun c => OwnFrom.and (Own.from (fun s A B row hs hg hr => hs) _) (ownFrom_below (Nat.le_refl _) (by omega)))
      ⟨⟨Nat.le_refl _, q2, q1, q0⟩, hB0⟩
      (fun x a' W => ∃ fb, W0.heap.size ≤ fb ∧ FBox W fb (w.heap.size + 1 + 1) x.1 ∧ a' = { tmps := #[.slice (some ⟨bb, off, none⟩) len cap, .pointer (some ⟨w.heap.size, 0, none⟩), .pointer (some ⟨w.heap.size + 1, 0, none⟩), .bool false, .int .i64 fo, .bool true, .pointer (some ⟨w.heap.size + 1 + 1, 0, none⟩), .pointer (some ⟨fb, 0, none⟩), undef, undef, .slice (some ⟨bb, off, none⟩) len cap, .int .i64 len, .bool false, undef, .tuple #[.int .i64 fo, .bool true], .slice (some ⟨bb, off, none⟩) len cap, .pointer (some ⟨bb, off, none⟩), .int .u8 op, .int .i64 op, .tuple #[.int .i64 fo, .bool true], .int .i64 fo, .bool true, .bool true, .bool false, .bool false, .slice (some ⟨bb, off, none⟩) len cap, .int .i64 len, .slice (some ⟨bb, off, none⟩) len cap, .pointer (some ⟨bb, off, none⟩), .int .u8 op, .int .i64 op, .int .i64 Ln, .bool false, .bool false, undef, .slice (some ⟨bb, off, none⟩) len cap, .pointer (some ⟨bb, off, none⟩), .int .u8 op, .int .i64 op, .int .i64 fo, .agg #[.int .i64 op, .int .i64 fo, .int .i64 0, .int .i64 0, .int .i64 0, .int .i64 0, .int .i64 0, .int .i64 0, .int .i64 0, .int .i64 0, .int .i64 0, .int .i64 0], .func (.func 42) #[] #[.pointer (some ⟨w.heap.size + 1 + 1 + 1, 0, none⟩)], .agg #[.pointer (some ⟨w.heap.size + 1 + 1, x.1.1, none⟩), .int .i64 x.1.2.1, .int .i64 x.1.2.2], undef, undef, undef, undef, undef, undef, undef, undef, undef, undef, undef, undef, undef, undef, undef, undef, undef, undef, undef, undef, undef], defers := [] })
      (fun x a' => Own.from (fun s A B row hs hg hr => by obtain ⟨fb, h1, h2, h3⟩ := hs; exact ⟨fb, h1, blk_kept h2 hg hr, h3⟩) _) ?assign ?body ?done ?stop
    case assign =>
      intro l pre x W K hI hK
      gi_wp2
      obtain ⟨⟨h0, h3, h4, h5⟩, hB⟩ := hI
      exact hK _ _ ((KeepsOthers.alloc _ _).from _) (kpC_of_below (al_keep W _)) ⟨⟨by simp; omega, h3.alloc _, h4.alloc _, (Below.heap_alloc W _ _ (Array.getElem?_eq_some_iff.1 h5).1).trans h5⟩, hB.alloc (by omega) _⟩ ⟨W.heap.size, h0, heap_alloc_new W _, rfl⟩
    case body =>
      rintro l pre ⟨⟨c, n, at_⟩, ⟨ok1, ok2, ok3⟩, ok4, ok5, ok6⟩ a' W hl hrr ⟨⟨h0, h3, h4, h5⟩, hB⟩ ⟨fb, hfb, hF, rfl⟩ hlen
      dsimp only at ok1 ok2 ok3 ok4 ok5 ok6
      obtain ⟨a, rfl⟩ := Int.eq_ofNat_of_zero_le (show 0 ≤ at_ by omega)
      have k0 : W.cell? ⟨fb, 0, none⟩ = some (.pointer (some ⟨w.heap.size + 1 + 1, c, none⟩)) := by rw [cell_blk hF]; rfl
      have k1 : W.cell? ⟨fb, 1, none⟩ = some (.int .i64 n) := by rw [cell_blk hF]; rfl
      have k2 : W.cell? ⟨fb, 2, none⟩ = some (.int .i64 (a : Int)) := by rw [cell_blk hF]; rfl
      have k3 := h3.cell (c := c) (by rw [decS_length _ _ _ (by rfl)]; omega)
      have k4 := h3.free c
      have k5 : W.cell? ⟨w.heap.size, 0, none⟩ = some (.slice (some ⟨bb, off, none⟩) len cap) := by rw [cell_blk h5]; rfl
      have HS := Lib.hid (And.intro h0 (And.intro h3 (And.intro h4 (And.intro h5 hB))))
      have YB := Lib.hid (HY.out.keep hB)
      obtain ⟨v, hv⟩ : ∃ v, (decS zs (pre.map (·.1)) [op, fo, 0, 0, 0, 0, 0, 0, 0, 0, 0, 0]).getD c 0 = v := ⟨_, rfl⟩
      rw [hv] at k3
      have ST := Lib.hid (decS_app zs (pre.map (·.1)) (c, n, (a : Int)) [op, fo, 0, 0, 0, 0, 0, 0, 0, 0, 0, 0])
      clear h0 h3 h4 h5 hB hF hv hr
      rcases ok3 with rfl | rfl | rfl
      · have ok7 : a + 1 ≤ 2 * len := by omega
        gi_wp2
        gi_loopw [8, 46] (fun nv kv wr => ∃ j : Nat, j ≤ 1 ∧ kv = .int .i64 j ∧ nv = .int .i64 (part zs a j) ∧ wr = W) (fun _ kv _ => 1 - (intOf kv).toNat)
        case atStart => exact ⟨0, by omega, rfl, rfl, rfl⟩
        case round =>
          obtain ⟨j, hj, rfl, rfl, hw⟩ := hrel
          subst hw
          rcases (show j = 0 ∨ j = 1 by omega) with rfl | rfl
          · have NB := Lib.hid (fun W (hy : Byt W (some ⟨bb, off, none⟩) len zs) => nibble_c (some ⟨bb, off, none⟩) len cap zs (a + 0) W hy (by omega) hl0.out (by omega))
            gi_wp2_with (refine ⟨trivial, ?_⟩; gi_at_call 37; refine (CallsIn.inRound l (callsIn_wide.2 (NB.out _ YB.out))).mono ?_; rintro e w1 ⟨rfl, rfl⟩)
            exact ⟨⟨1, by omega, rfl, by rw [← part_step (fun i => HY.out.range i) a 0 (by omega)]; try rfl, trivial⟩, by decide⟩
          · gi_wp2
            obtain ⟨h0, h3, h4, h5, hB⟩ := HS.out
            exact ⟨(KeepsOthers.setCell _ _ _).from _, kpC_set _ _ _ (by show w.heap.size + 1 + 1 < _; omega), ⟨by simp; exact h0, by rw [List.map_append]; refine Eq.subst (motive := fun l => Blk _ _ _ l) (ST.out.trans (congrArg _ (show rdF zs (c, 4, (a : Int)) = part zs a 1 from by simp [rdF]))).symm ?_; exact h3.set_ c (part zs a 1), h4.other _ (by simp), (Below.heap_setCell _ _ _ _ (by simp; omega)).trans h5⟩, hB.setCell (p := ⟨w.heap.size + 1 + 1, c, none⟩) (by simp; omega) _⟩
      · have ok7 : a + 2 ≤ 2 * len := by omega
        gi_wp2
        gi_loopw [8, 46] (fun nv kv wr => ∃ j : Nat, j ≤ 2 ∧ kv = .int .i64 j ∧ nv = .int .i64 (part zs a j) ∧ wr = W) (fun _ kv _ => 2 - (intOf kv).toNat)
        case atStart => exact ⟨0, by omega, rfl, rfl, rfl⟩
        case round =>
          obtain ⟨j, hj, rfl, rfl, hw⟩ := hrel
          subst hw
          rcases (show j = 0 ∨ j = 1 ∨ j = 2 by omega) with rfl | rfl | rfl
          · have NB := Lib.hid (fun W (hy : Byt W (some ⟨bb, off, none⟩) len zs) => nibble_c (some ⟨bb, off, none⟩) len cap zs (a + 0) W hy (by omega) hl0.out (by omega))
            gi_wp2_with (refine ⟨trivial, ?_⟩; gi_at_call 37; refine (CallsIn.inRound l (callsIn_wide.2 (NB.out _ YB.out))).mono ?_; rintro e w1 ⟨rfl, rfl⟩)
            exact ⟨⟨1, by omega, rfl, by rw [← part_step (fun i => HY.out.range i) a 0 (by omega)]; try rfl, trivial⟩, by decide⟩
          · have NB := Lib.hid (fun W (hy : Byt W (some ⟨bb, off, none⟩) len zs) => nibble_c (some ⟨bb, off, none⟩) len cap zs (a + 1) W hy (by omega) hl0.out (by omega))
            gi_wp2_with (refine ⟨trivial, ?_⟩; gi_at_call 37; refine (CallsIn.inRound l (callsIn_wide.2 (NB.out _ YB.out))).mono ?_; rintro e w1 ⟨rfl, rfl⟩)
            exact ⟨⟨2, by omega, rfl, by rw [← part_step (fun i => HY.out.range i) a 1 (by omega)]; try rfl, trivial⟩, by decide⟩
          · gi_wp2
            obtain ⟨h0, h3, h4, h5, hB⟩ := HS.out
            exact ⟨(KeepsOthers.setCell _ _ _).from _, kpC_set _ _ _ (by show w.heap.size + 1 + 1 < _; omega), ⟨by simp; exact h0, by rw [List.map_append]; refine Eq.subst (motive := fun l => Blk _ _ _ l) (ST.out.trans (congrArg _ (show rdF zs (c, 8, (a : Int)) = part zs a 2 from by simp [rdF]))).symm ?_; exact h3.set_ c (part zs a 2), h4.other _ (by simp), (Below.heap_setCell _ _ _ _ (by simp; omega)).trans h5⟩, hB.setCell (p := ⟨w.heap.size + 1 + 1, c, none⟩) (by simp; omega) _⟩
      · have ok7 : a + 3 ≤ 2 * len := by omega
        gi_wp2
        gi_loopw [8, 46] (fun nv kv wr => ∃ j : Nat, j ≤ 3 ∧ kv = .int .i64 j ∧ nv = .int .i64 (part zs a j) ∧ wr = W) (fun _ kv _ => 3 - (intOf kv).toNat)
        case atStart => exact ⟨0, by omega, rfl, rfl, rfl⟩
        case round =>
          obtain ⟨j, hj, rfl, rfl, hw⟩ := hrel
          subst hw
          rcases (show j = 0 ∨ j = 1 ∨ j = 2 ∨ j = 3 by omega) with rfl | rfl | rfl | rfl
          · have NB := Lib.hid (fun W (hy : Byt W (some ⟨bb, off, none⟩) len zs) => nibble_c (some ⟨bb, off, none⟩) len cap zs (a + 0) W hy (by omega) hl0.out (by omega))
            gi_wp2_with (refine ⟨trivial, ?_⟩; gi_at_call 37; refine (CallsIn.inRound l (callsIn_wide.2 (NB.out _ YB.out))).mono ?_; rintro e w1 ⟨rfl, rfl⟩)
            exact ⟨⟨1, by omega, rfl, by rw [← part_step (fun i => HY.out.range i) a 0 (by omega)]; try rfl, trivial⟩, by decide⟩
          · have NB := Lib.hid (fun W (hy : Byt W (some ⟨bb, off, none⟩) len zs) => nibble_c (some ⟨bb, off, none⟩) len cap zs (a + 1) W hy (by omega) hl0.out (by omega))
            gi_wp2_with (refine ⟨trivial, ?_⟩; gi_at_call 37; refine (CallsIn.inRound l (callsIn_wide.2 (NB.out _ YB.out))).mono ?_; rintro e w1 ⟨rfl, rfl⟩)
            exact ⟨⟨2, by omega, rfl, by rw [← part_step (fun i => HY.out.range i) a 1 (by omega)]; try rfl, trivial⟩, by decide⟩
          · have NB := Lib.hid (fun W (hy : Byt W (some ⟨bb, off, none⟩) len zs) => nibble_c (some ⟨bb, off, none⟩) len cap zs (a + 2) W hy (by omega) hl0.out (by omega))
            gi_wp2_with (refine ⟨trivial, ?_⟩; gi_at_call 37; refine (CallsIn.inRound l (callsIn_wide.2 (NB.out _ YB.out))).mono ?_; rintro e w1 ⟨rfl, rfl⟩)
            exact ⟨⟨3, by omega, rfl, by rw [← part_step (fun i => HY.out.range i) a 2 (by omega)]; try rfl, trivial⟩, by decide⟩
          · gi_wp2
            obtain ⟨h0, h3, h4, h5, hB⟩ := HS.out
            exact ⟨(KeepsOthers.setCell _ _ _).from _, kpC_set _ _ _ (by show w.heap.size + 1 + 1 < _; omega), ⟨by simp; exact h0, by rw [List.map_append]; refine Eq.subst (motive := fun l => Blk _ _ _ l) (ST.out.trans (congrArg _ (show rdF zs (c, 12, (a : Int)) = part zs a 3 from by simp [rdF]))).symm ?_; exact h3.set_ c (part zs a 3), h4.other _ (by simp), (Below.heap_setCell _ _ _ _ (by simp; omega)).trans h5⟩, hB.setCell (p := ⟨w.heap.size + 1 + 1, c, none⟩) (by simp; omega) _⟩
    case done =>
      rintro D pre W hD hys ⟨⟨h0, h3, h4, h5⟩, hB⟩ hK
      rw [hys] at h3
      obtain ⟨z0, z1, z2, z3, z4, z5, z6, z7, z8, z9, z10, z11, hzz⟩ := list_12 (decS_length zs (lay fo) [op, fo, 0, 0, 0, 0, 0, 0, 0, 0, 0, 0] rfl)
      rw [hzz] at h3
      have c0 : W.cell? ⟨w.heap.size + 1 + 1, 0, none⟩ = some (.int .i64 z0) := h3.cell (c := 0) (by simp)
      have c1 : W.cell? ⟨w.heap.size + 1 + 1, 1, none⟩ = some (.int .i64 z1) := h3.cell (c := 1) (by simp)
      have c2 : W.cell? ⟨w.heap.size + 1 + 1, 2, none⟩ = some (.int .i64 z2) := h3.cell (c := 2) (by simp)
      have c3 : W.cell? ⟨w.heap.size + 1 + 1, 3, none⟩ = some (.int .i64 z3) := h3.cell (c := 3) (by simp)
      have c4 : W.cell? ⟨w.heap.size + 1 + 1, 4, none⟩ = some (.int .i64 z4) := h3.cell (c := 4) (by simp)
      have c5 : W.cell? ⟨w.heap.size + 1 + 1, 5, none⟩ = some (.int .i64 z5) := h3.cell (c := 5) (by simp)
      have c6 : W.cell? ⟨w.heap.size + 1 + 1, 6, none⟩ = some (.int .i64 z6) := h3.cell (c := 6) (by simp)
      have c7 : W.cell? ⟨w.heap.size + 1 + 1, 7, none⟩ = some (.int .i64 z7) := h3.cell (c := 7) (by simp)
      have c8 : W.cell? ⟨w.heap.size + 1 + 1, 8, none⟩ = some (.int .i64 z8) := h3.cell (c := 8) (by simp)
      have c9 : W.cell? ⟨w.heap.size + 1 + 1, 9, none⟩ = some (.int .i64 z9) := h3.cell (c := 9) (by simp)
      have c10 : W.cell? ⟨w.heap.size + 1 + 1, 10, none⟩ = some (.int .i64 z10) := h3.cell (c := 10) (by simp)
      have c11 : W.cell? ⟨w.heap.size + 1 + 1, 11, none⟩ = some (.int .i64 z11) := h3.cell (c := 11) (by simp)
      have e0 : W.cell? ⟨w.heap.size + 1, 0, none⟩ = some (.int .i64 0) := h4.cell (c := 0) (by simp)
      have g0 := h4.free 0
      have e1 : W.cell? ⟨w.heap.size + 1, 1, none⟩ = some (.int .i64 0) := h4.cell (c := 1) (by simp)
      have g1 := h4.free 1
      have e2 : W.cell? ⟨w.heap.size + 1, 2, none⟩ = some (.int .i64 0) := h4.cell (c := 2) (by simp)
      have g2 := h4.free 2
      have e3 : W.cell? ⟨w.heap.size + 1, 3, none⟩ = some (.int .i64 0) := h4.cell (c := 3) (by simp)
      have g3 := h4.free 3
      have e4 : W.cell? ⟨w.heap.size + 1, 4, none⟩ = some (.int .i64 0) := h4.cell (c := 4) (by simp)
      have g4 := h4.free 4
      have e5 : W.cell? ⟨w.heap.size + 1, 5, none⟩ = some (.int .i64 0) := h4.cell (c := 5) (by simp)
      have g5 := h4.free 5
      have e6 : W.cell? ⟨w.heap.size + 1, 6, none⟩ = some (.int .i64 0) := h4.cell (c := 6) (by simp)
      have g6 := h4.free 6
      have e7 : W.cell? ⟨w.heap.size + 1, 7, none⟩ = some (.int .i64 0) := h4.cell (c := 7) (by simp)
      have g7 := h4.free 7
      have e8 : W.cell? ⟨w.heap.size + 1, 8, none⟩ = some (.int .i64 0) := h4.cell (c := 8) (by simp)
      have g8 := h4.free 8
      have e9 : W.cell? ⟨w.heap.size + 1, 9, none⟩ = some (.int .i64 0) := h4.cell (c := 9) (by simp)
      have g9 := h4.free 9
      have e10 : W.cell? ⟨w.heap.size + 1, 10, none⟩ = some (.int .i64 0) := h4.cell (c := 10) (by simp)
      have g10 := h4.free 10
      have e11 : W.cell? ⟨w.heap.size + 1, 11, none⟩ = some (.int .i64 0) := h4.cell (c := 11) (by simp)
      have g11 := h4.free 11
      have HS := Lib.hid (And.intro h4 (And.intro hB hK))
      clear h3 h4 h5 hB q0 q1 q2 q3
      gi_wp2
      obtain ⟨h4, hB, hK⟩ := HS.out
      have hk' := (blk_sets12 h4 rfl z0 z1 z2 z3 z4 z5 z6 z7 z8 z9 z10 z11)
      have hK' := (keeps_sets12 W (w.heap.size + 1) z0 z1 z2 z3 z4 z5 z6 z7 z8 z9 z10 z11).same D _ hK rfl
      refine ⟨by simp, .inl ⟨_, _, rfl, run_takeDeferred hK', ?_⟩⟩
      exact ⟨.tuple #[insV [z0, z1, z2, z3, z4, z5, z6, z7, z8, z9, z10, z11], .bool true], res_cell_tmp Try.results20 _ _ (w.heap.size + 1) _ 28 _ rfl rfl (hk'.kept (grownBy_putObj' _ D (.deferred none)) (fun r e => by cases e; exact ⟨_, hK', rfl⟩)) Try.underlying28 rfl (by kernel_rfl), by rw [hzz], (below_sets12 hB (by omega) z0 z1 z2 z3 z4 z5 z6 z7 z8 z9 z10 z11).trans (belowK_b (w := w) (Nat.le_refl _) _ D _ _ (by omega) hK' rfl rfl)⟩
    case stop =>
      rintro D c pre W hD _ ⟨hf, _⟩ _
      exact hf.elim
end Go.Proofs.Ytfbcjpbfggbhfaa
