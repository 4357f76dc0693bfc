/- CONTRACTS of package isa: Encode. No conditions but the numbers' own. -/
import Derived.Test.YtfbcjpbfggbhfaaIs5
import Derived.Test.YtfbcjpbfggbhfaaMk
namespace Go.Proofs.Ytfbcjpbfggbhfaa
open Go.RowKit Go.Shelf
set_option linter.unusedVariables false
set_option linter.unusedSimpArgs false
attribute [local go_sem] Oper.semAt_some

/-- a row of bytes in a block -/
def Rb (W : World) (g : Nat) (zs : List Int) : Prop := W.heap[g]? = some (.cells (zs.map (Value.int .u8)).toArray 5 (0, 0))
section
variable {W W' : World} {g : Nat} {zs : List Int}
theorem Rb.cell (h : Rb W g zs) {c : Nat} (hc : c < zs.length) : W.cell? ⟨g, c, none⟩ = some (.int .u8 (zs.getD c 0)) := by
  rw [cell_blk h]; simp [List.getD_eq_getElem?_getD, hc]
theorem Rb.free (h : Rb W g zs) (c : Nat) : W.frozen? ⟨g, c, none⟩ = false := by
  unfold Rb at h; simp [World.frozen?, h]
theorem Rb.set_ (h : Rb W g zs) (c : Nat) (v : Int) : Rb (W.setCell ⟨g, c, none⟩ (.int .u8 v)) g (zs.set c v) := by
  unfold Rb at *
  rw [setCell_eq_setRow W g c _ 5 (0, 0) _ h, setRow_heap W g _ _ _ _ h]
  simp [List.map_set]
theorem Rb.other (h : Rb W g zs) {p : Addr} (v : Value) (hp : p.block ≠ g) : Rb (W.setCell p v) g zs := (Below.heap_setCell W p v g (Ne.symm hp)).trans h
theorem Rb.alloc (h : Rb W g zs) (o : Obj) : Rb (W.alloc o) g zs := (Below.heap_alloc W o g (Array.getElem?_eq_some_iff.1 h).1).trans h
theorem Rb.kept {row : Option Nat} (h : Rb W g zs) (hg : W.grownBy W' row) (hr : ∀ r, row = some r → ∃ o : Obj, W.heap[r]? = some o ∧ o.isCells = false) : Rb W' g zs := blk_kept h hg hr
theorem Rb.byt (h : Rb W g zs) (hr : ∀ z ∈ zs, 0 ≤ z ∧ z ≤ 255) (n : Nat) (hn : zs.length = n) : Byt W (some ⟨g, 0, none⟩) n zs := by
  subst hn
  exact ⟨rfl, hr, fun _ => ⟨g, 0, rfl, fun i hi => by rw [Nat.zero_add]; exact h.cell hi⟩⟩
end
/-- a half byte laid over a byte -/
def pn (out : List Int) (a : Nat) (h : Int) : List Int := out.set (a / 2) (bits .or .u8 (out.getD (a / 2) 0) (if a % 2 = 0 then h * 16 else h))
/-- the half bytes of a field, from the first on -/
def encK (v : Int) (a q : Nat) : Nat → List Int → List Int
  | 0, out => out
  | k + 1, out => pn (encK v a q k out) (a + k) (v / 16 ^ (q - 1 - k) % 16)
def encF (xs : List Int) (f : FE) (out : List Int) : List Int := encK (xs.getD f.1 0) f.2.2.toNat (f.2.1.toNat / 4) (f.2.1.toNat / 4) out
def encS (xs : List Int) (l : List FE) (out : List Int) : List Int := l.foldl (fun out f => encF xs f out) out
def encI (xs : List Int) : List Int := encS xs (lay (xs.getD 1 0)) ((List.replicate (lenOf (xs.getD 0 0)).toNat 0).set 0 (xs.getD 0 0))
theorem encK_length (v : Int) (a q : Nat) : ∀ (k : Nat) (out : List Int), (encK v a q k out).length = out.length
  | 0, out => rfl
  | k + 1, out => by show (pn _ _ _).length = _; unfold pn; rw [List.length_set, encK_length]
theorem encS_length (xs : List Int) : ∀ (l : List FE) (out : List Int), (encS xs l out).length = out.length
  | [], out => rfl
  | f :: l, out => by show (encS xs l (encF xs f out)).length = _; rw [encS_length]; exact encK_length _ _ _ _ _
theorem encS_app (xs : List Int) (l : List FE) (f : FE) (out : List Int) : encS xs (l ++ [f]) out = encF xs f (encS xs l out) := by unfold encS; rw [List.foldl_append]; rfl
theorem i64_low4 (V : Int) (h0 : 0 ≤ V) (h1 : V ≤ 9223372036854775807) : bits .and .i64 V 15 = V % 16 := i64_low 4 15 V (by rfl) (by omega) h0 h1
theorem enc_even {v : Int} {a q k : Nat} {out : List Int} {V : Int} (hp : (a + k) % 2 = 0) (h0 : 0 ≤ V) (h1 : V ≤ 9223372036854775807) (e : V = v / 16 ^ (q - 1 - k)) : (encK v a q k out).set ((a + k) / 2) (bits .or .u8 ((encK v a q k out)[(a + k) / 2]?.getD 0) (bits .and .i64 V 15 % 256 * 16 % 256)) = encK v a q (k + 1) out := by
  rw [i64_low4 V h0 h1]
  show _ = pn _ _ _
  unfold pn
  rw [if_pos hp, ← e, List.getD_eq_getElem?_getD, show V % 16 % 256 * 16 % 256 = V % 16 * 16 from by omega]
theorem enc_odd {v : Int} {a q k : Nat} {out : List Int} {V : Int} (hp : (a + k) % 2 = 1) (h0 : 0 ≤ V) (h1 : V ≤ 9223372036854775807) (e : V = v / 16 ^ (q - 1 - k)) : (encK v a q k out).set ((a + k) / 2) (bits .or .u8 ((encK v a q k out)[(a + k) / 2]?.getD 0) (bits .and .i64 V 15 % 256)) = encK v a q (k + 1) out := by
  rw [i64_low4 V h0 h1]
  show _ = pn _ _ _
  unfold pn
  rw [if_neg (by omega), ← e, List.getD_eq_getElem?_getD, show V % 16 % 256 = V % 16 from by omega]
theorem Rb.cast {W : World} {g : Nat} {zs ys : List Int} (h : Rb W g zs) (e : zs = ys) : Rb W g ys := e ▸ h
theorem encK_in (v : Int) (a q : Nat) : ∀ (k : Nat) (out : List Int), (∀ z ∈ out, 0 ≤ z ∧ z ≤ 255) → ∀ z ∈ encK v a q k out, 0 ≤ z ∧ z ≤ 255
  | 0, out, h => h
  | k + 1, out, h => by
    intro z hz
    change z ∈ pn _ _ _ at hz
    unfold pn at hz
    rcases List.mem_or_eq_of_mem_set hz with h1 | h1
    · exact encK_in v a q k out h z h1
    · rw [h1]; exact bounds_u8 (wf_bits .or .u8 _ _)
theorem encS_in (xs : List Int) : ∀ (l : List FE) (out : List Int), (∀ z ∈ out, 0 ≤ z ∧ z ≤ 255) → ∀ z ∈ encS xs l out, 0 ≤ z ∧ z ≤ 255
  | [], out, h => h
  | f :: l, out, h => encS_in xs l (encF xs f out) (encK_in _ _ _ _ _ h)
theorem start_in (L : Nat) {op : Int} (h0 : 0 ≤ op) (h1 : op ≤ 255) : ∀ z ∈ (List.replicate L (0 : Int)).set 0 op, 0 ≤ z ∧ z ≤ 255 := by
  intro z hz
  rcases List.mem_or_eq_of_mem_set hz with h | h
  · rw [List.mem_replicate] at h; omega
  · omega
theorem scan_rng : ∀ (l : List FE) (xs ys : List Int), scan l xs = some ys → (l.map (·.1)).Nodup → ∀ f ∈ l, 0 ≤ xs.getD f.1 0 ∧ xs.getD f.1 0 < 2 ^ f.2.1.toNat
  | g :: l, xs, ys, h, hn, f, hf => by
    simp only [scan] at h
    split at h
    · next hc =>
      rcases List.mem_cons.1 hf with rfl | hf'
      · exact hc
      · rw [List.map_cons, List.nodup_cons] at hn
        have ih := scan_rng l _ ys h hn.2 f hf'
        have hne : g.1 ≠ f.1 := fun e => hn.1 (by rw [e]; exact List.mem_map.2 ⟨f, hf', rfl⟩)
        have e : (xs.set g.1 0).getD f.1 0 = xs.getD f.1 0 := by rw [List.getD_eq_getElem?_getD, List.getElem?_set_ne hne, ← List.getD_eq_getElem?_getD]
        rwa [e] at ih
    · cases h
theorem lay_nodup (form : Int) : ((lay form).map (·.1)).Nodup := by unfold lay; (repeat' split) <;> decide
theorem chk_zero {op fm : Int} {xs : List Int} (h : chk op fm xs = 0) : isOp op = true ∧ fmOf op = fm ∧ ∀ f ∈ lay fm, 0 ≤ xs.getD f.1 0 ∧ xs.getD f.1 0 < 2 ^ f.2.1.toNat := by
  unfold chk at h
  split at h
  · next hc =>
    refine ⟨hc.1, hc.2, ?_⟩
    cases hs : scan (lay fm) xs with
    | none => rw [hs] at h; cases h
    | some ys => exact scan_rng _ _ ys hs (lay_nodup fm)
  · cases h
theorem lenOf_cases {op : Int} (h : isOp op = true) : lenOf op = 2 ∨ lenOf op = 4 ∨ lenOf op = 6 := by
  have := isOp_range h
  unfold lenOf
  rw [if_pos (by omega)]
  split
  · exact .inl rfl
  · split
    · exact .inr (.inl rfl)
    · exact .inr (.inr rfl)
set_option maxRecDepth 100000 in
set_option maxHeartbeats 4000000 in
theorem iencode_c (op fm r1 r2 x2 b1 d1 b2 d2 l1 l2 i2 : Int) (w : World) (o0 : -9223372036854775808 ≤ op) (o1 : op ≤ 9223372036854775807) : Calls Try.prog 15 #[.agg #[.int .i64 op, .int .i64 fm, .int .i64 r1, .int .i64 r2, .int .i64 x2, .int .i64 b1, .int .i64 d1, .int .i64 b2, .int .i64 d2, .int .i64 l1, .int .i64 l2, .int .i64 i2]] w fun e w' => ∃ A m, e = .returned (.tuple #[.slice A m m, .int .i64 (chk op fm [op, fm, r1, r2, x2, b1, d1, b2, d2, l1, l2, i2])]) ∧ Byt w' A m (if chk op fm [op, fm, r1, r2, x2, b1, d1, b2, d2, l1, l2, i2] = 0 then encI [op, fm, r1, r2, x2, b1, d1, b2, d2, l1, l2, i2] else []) ∧ (A = none → m = 0) ∧ m ≤ 6 ∧ Below w.heap.size w w' := by
  refine (callsIn_wide (n := 5)).1 ?_
  refine callsIn_of_wp_marks Try.func15 rfl trivial ?_ rfl
  simp only [Try.ntmps15, List.size_toArray, List.length_cons, List.length_nil, Nat.reduceAdd, Nat.reduceSub, Array.replicate_succ, Array.replicate_zero, List.push_toArray, List.append_toArray, List.nil_append, List.cons_append]
  have CC := Lib.hid (fun W => icheck_c op fm r1 r2 x2 b1 d1 b2 d2 l1 l2 i2 W)
  obtain ⟨cd, hcd⟩ : ∃ x, chk op fm [op, fm, r1, r2, x2, b1, d1, b2, d2, l1, l2, i2] = x := ⟨_, rfl⟩
  simp only [hcd] at CC
  rw [hcd]
  by_cases hc : cd = 0
  · subst hc
    obtain ⟨hio, hfo, hin⟩ := chk_zero hcd
    obtain ⟨or0, or1⟩ := isOp_range hio
    have LC := Lib.hid (fun W => length_c op o0 o1 W)
    obtain ⟨L, hL⟩ : ∃ L : Nat, lenOf op = L := by rcases lenOf_cases hio with h | h | h <;> exact ⟨_, h⟩
    have hL2 : 2 ≤ L ∧ L ≤ 6 := by rcases lenOf_cases hio with h | h | h <;> omega
    obtain ⟨L0, L1⟩ := hL2
    simp only [hL] at LC
    have hmk := fun W => run_mk_b L (by omega) W
    rw [if_pos rfl]
    have LOK := Lib.hid (lay_okL (Ln := L) hio (by omega))
    rw [hfo] at LOK
    have hE := Lib.hid (show encI [op, fm, r1, r2, x2, b1, d1, b2, d2, l1, l2, i2] = encS [op, fm, r1, r2, x2, b1, d1, b2, d2, l1, l2, i2] (lay fm) ((List.replicate L 0).set 0 op) from by show encS _ (lay fm) ((List.replicate (lenOf op).toNat 0).set 0 op) = _; rw [hL]; rfl)
    have HIN := Lib.hid hin
    rw [hE.out]
    clear hcd hio hfo hin hL
    have ql0 : 0 < L := by omega
    have hz0 : (zeroB L)[0]? = some (Value.int .u8 0) := by unfold zeroB; rw [List.getElem?_toArray, List.getElem?_replicate, if_pos ql0]
    have ql1 : (0 : Int) < (L : Int) := by omega
    gi_wp2_with (refine ⟨trivial, ?_⟩; first | (gi_at_call 17; refine (callsIn_wide.2 (CC.out _)).mono ?_; rintro e w1 ⟨rfl, hb⟩; have HB := Lib.hid (((Below.refl _ _).alloc (Nat.le_refl _) (.cells #[.int .i64 op, .int .i64 fm, .int .i64 r1, .int .i64 r2, .int .i64 x2, .int .i64 b1, .int .i64 d1, .int .i64 b2, .int .i64 d2, .int .i64 l1, .int .i64 l2, .int .i64 i2] 28)).trans (hb.mono (by simp))); have H1 : Blk w1 w.heap.size 28 [op, fm, r1, r2, x2, b1, d1, b2, d2, l1, l2, i2] := Blk.keep (W := w.alloc (.cells #[.int .i64 op, .int .i64 fm, .int .i64 r1, .int .i64 r2, .int .i64 x2, .int .i64 b1, .int .i64 d1, .int .i64 b2, .int .i64 d2, .int .i64 l1, .int .i64 l2, .int .i64 i2] 28)) (heap_alloc_new w _) hb; have HH1 := Lib.hid H1; have k0 : w1.cell? ⟨w.heap.size, 0, none⟩ = some (.int .i64 op) := H1.cell (c := 0) (by simp); have k1 := ((H1.alloc (.cells (zeroB L) 5)).alloc (.cells #[.slice (some ⟨w1.heap.size, 0, none⟩) L L] 29)).cell (c := 0) (by simp); clear hb H1) | (gi_at_call 12; refine (callsIn_wide.2 (LC.out _)).mono ?_; rintro e w2 ⟨rfl, rfl⟩) | (gi_at_call 33; refine (callsIn_wide.2 (fields_c _ _)).mono ?_; rintro e w1 ⟨rfl, rfl⟩))
    obtain ⟨W0, hW0⟩ : ∃ W0, (((w1.alloc (.cells ((zeroB L).setIfInBounds 0 (.int .u8 op)) 5)).alloc (.cells #[.slice (some ⟨w1.heap.size, 0, none⟩) L L] 29)).alloc (.cells #[.pointer (some ⟨w.heap.size, 0, none⟩)] 55)) = W0 := ⟨_, rfl⟩
    rw [hW0]
    have hz : W0.heap.size = w1.heap.size + 3 := by rw [← hW0]; simp
    have hB0 : Below w.heap.size w W0 := by rw [← hW0]; exact ((HB.out.alloc HB.out.size _).alloc (by have := HB.out.size; simp; omega) _).alloc (by have := HB.out.size; simp; omega) _
    have zl : w.heap.size < w1.heap.size := World.block_lt_of_cell? w1 _ k0
    have r0 : Rb W0 w1.heap.size ((List.replicate L 0).set 0 op) := by
      rw [← hW0]
      have e : ((zeroB L).setIfInBounds 0 (Value.int .u8 op)) = (((List.replicate L (0 : Int)).set 0 op).map (Value.int .u8)).toArray := by unfold zeroB; rw [List.setIfInBounds_toArray, List.map_set, List.map_replicate]
      rw [e]
      exact (Below.heap_alloc _ _ _ (by simp; omega)).trans ((Below.heap_alloc _ _ _ (by simp)).trans (heap_alloc_new w1 _))
    have q0 : Blk W0 w.heap.size 28 [op, fm, r1, r2, x2, b1, d1, b2, d2, l1, l2, i2] := by rw [← hW0]; exact ((HH1.out.alloc _).alloc _).alloc _
    have q1 : W0.heap[w1.heap.size + 1]? = some (.cells #[.slice (some ⟨w1.heap.size, 0, none⟩) L L] 29 (0, 0)) := by rw [← hW0]; exact (Below.heap_alloc _ _ _ (by simp)).trans (heap_alloc2_new w1 _ _)
    have q2 : W0.heap[w1.heap.size + 1 + 1]? = some (.cells #[.pointer (some ⟨w.heap.size, 0, none⟩)] 55 (0, 0)) := by
      rw [← hW0]
      have := heap_alloc_new ((w1.alloc (.cells ((zeroB L).setIfInBounds 0 (.int .u8 op)) 5)).alloc (.cells #[.slice (some ⟨w1.heap.size, 0, none⟩) L L] 29)) (.cells #[.pointer (some ⟨w.heap.size, 0, none⟩)] 55)
      rwa [World.size_alloc, World.size_alloc] at this
    clear hW0 k0 k1 hmk hz0
    obtain ⟨xs, hxs⟩ : ∃ xs, xs = [op, fm, r1, r2, x2, b1, d1, b2, d2, l1, l2, i2] := ⟨_, rfl⟩
    have hx1 : xs.getD 1 0 = fm := by rw [hxs]; rfl
    have xl : xs.length = 12 := by rw [hxs]; rfl
    rw [← hxs] at q0 HIN
    have XS := Lib.hid hxs
    clear hxs HH1
    refine wpIn_rangeFunc_ownH rfl (by omega) (gf := 42) (lb := #[.pointer (some ⟨w1.heap.size + 1 + 1, 0, none⟩)]) rfl trivial (enters_of Try.func42 (by kernel_rfl) rfl)
      (fields1_stops (fun x => x ∈ lay fm) (5 - 1) (by omega) w.heap.size (w1.heap.size + 1 + 1) W0.heap.size fm W0 (by rw [q0.cell (by omega), hx1]) (by rw [cell_blk q2]; rfl) (Nat.le_refl _) (fun x h => h)) kpC_t kpC_b (Below.refl _ _) (fun _ => rfl)
      (fun pre W => (W0.heap.size ≤ W.heap.size ∧ Rb W w1.heap.size (encS xs (pre.map (·.1)) ((List.replicate L 0).set 0 op)) ∧ Blk W w.heap.size 28 xs ∧ W.heap[w1.heap.size + 1]? = some (.cells #[.slice (some ⟨w1.heap.size, 0, none⟩) L L] 29 (0, 0))) ∧ Below w.heap.size w W)
      (fun c pre W => False ∧ Below w.heap.size w W)
      (OwnFrom.and (Own.from (fun s A B row hs hg hr => ⟨Nat.le_trans hs.1 hg.size, hs.2.1.kept hg hr, hs.2.2.1.kept hg hr, blk_kept hs.2.2.2 hg hr⟩) _) (ownFrom_below (Nat.le_refl _) (by omega)))
      (fun c => OwnFrom.and (Own.from (fun s A B row hs hg hr => hs) _) (ownFrom_below (Nat.le_refl _) (by omega)))
      ⟨⟨Nat.le_refl _, r0, q0, q1⟩, hB0⟩
      (fun x a' W => ∃ fb, W0.heap.size ≤ fb ∧ FBox W fb w.heap.size x.1 ∧ a' = { tmps := #[.agg #[.int .i64 op, .int .i64 fm, .int .i64 r1, .int .i64 r2, .int .i64 x2, .int .i64 b1, .int .i64 d1, .int .i64 b2, .int .i64 d2, .int .i64 l1, .int .i64 l2, .int .i64 i2], .pointer (some ⟨w.heap.size, 0, none⟩), .slice none 0 0, .int .i64 0, .int .i64 0, .pointer (some ⟨w1.heap.size + 1, 0, none⟩), .pointer (some ⟨fb, 0, none⟩), undef, undef, undef, undef, .agg #[.int .i64 op, .int .i64 fm, .int .i64 r1, .int .i64 r2, .int .i64 x2, .int .i64 b1, .int .i64 d1, .int .i64 b2, .int .i64 d2, .int .i64 l1, .int .i64 l2, .int .i64 i2], .int .i64 0, .int .i64 0, .bool false, undef, .pointer (some ⟨w.heap.size, 0, none⟩), .int .i64 op, .int .i64 L, .slice (some ⟨w1.heap.size, 0, none⟩) L L, .slice (some ⟨w1.heap.size, 0, none⟩) L L, .pointer (some ⟨w.heap.size, 0, none⟩), .int .i64 op, .int .u8 op, .pointer (some ⟨w1.heap.size, 0, none⟩), .func (.func 42) #[] #[.pointer (some ⟨w1.heap.size + 1 + 1, 0, none⟩)], .agg #[.pointer (some ⟨w.heap.size, x.1.1, none⟩), .int .i64 x.1.2.1, .int .i64 x.1.2.2], undef, undef, undef, undef, undef, undef, undef, undef, undef, undef, undef, undef, undef, undef, undef, undef, undef, undef, undef, undef, undef, undef, undef, undef, undef, undef, undef, undef, undef, undef, undef, undef, undef, undef, undef, undef, undef, undef], defers := [] })
      (fun x a' => Own.from (fun s A B row hs hg hr => by obtain ⟨fb, h1, h2, h3⟩ := hs; exact ⟨fb, h1, blk_kept h2 hg hr, h3⟩) _) ?assign ?body ?done ?stop
    case assign =>
      intro l pre x W K hI hK
      gi_wp2
      obtain ⟨⟨h0, h3, h4, h5⟩, hB⟩ := hI
      exact hK _ _ ((KeepsOthers.alloc _ _).from _) (kpC_of_below (al_keep W _)) ⟨⟨by simp; omega, h3.alloc _, h4.alloc _, (Below.heap_alloc W _ _ (Array.getElem?_eq_some_iff.1 h5).1).trans h5⟩, hB.alloc (by omega) _⟩ ⟨W.heap.size, h0, heap_alloc_new W _, rfl⟩
    case body =>
      rintro l pre ⟨⟨c, n, at_⟩, hmem⟩ a' W hl hrr ⟨⟨h0, h3, h4, h5⟩, hB⟩ ⟨fb, hfb, hF, rfl⟩ hlen
      obtain ⟨⟨ok1, ok2, ok3⟩, ok4, ok5, ok6⟩ := LOK.out _ hmem
      have hv := HIN.out _ hmem
      dsimp only at ok1 ok2 ok3 ok4 ok5 ok6 hv
      obtain ⟨a, rfl⟩ := Int.eq_ofNat_of_zero_le (show 0 ≤ at_ by omega)
      have k3 := h4.cell (c := c) (by omega)
      obtain ⟨v, hvv⟩ : ∃ v, xs.getD c 0 = v := ⟨_, rfl⟩
      rw [hvv] at k3 hv
      have ST := Lib.hid (encS_app xs (pre.map (·.1)) (c, n, (a : Int)) ((List.replicate L 0).set 0 op))
      have VV := Lib.hid hvv
      obtain ⟨out, hout⟩ : ∃ out, encS xs (pre.map (·.1)) ((List.replicate L 0).set 0 op) = out := ⟨_, rfl⟩
      rw [hout] at h3
      have OL : out.length = L := by rw [← hout, encS_length]; simp
      have OO := Lib.hid hout
      have k0 : W.cell? ⟨fb, 0, none⟩ = some (.pointer (some ⟨w.heap.size, c, none⟩)) := by rw [cell_blk hF]; rfl
      have k1 : W.cell? ⟨fb, 1, none⟩ = some (.int .i64 n) := by rw [cell_blk hF]; rfl
      have hF' := Lib.hid hF
      have I0 := Lib.hid (And.intro h0 (And.intro h3 (And.intro h4 (And.intro h5 hB))))
      clear h0 h3 h4 h5 hB hF hvv hout
      rcases ok3 with rfl | rfl | rfl
      · have hv1 : v < 16 := hv.2
        have hv0 := hv.1
        have ok7 : a + 1 ≤ 2 * L := by omega
        clear hv
        gi_wp2
        gi_loopw [31] (fun kv wr => ∃ j : Nat, j ≤ 1 ∧ kv = .int .i64 j ∧ KeepsFrom W0.heap.size W wr ∧ KpC W0.heap.size W wr ∧ Rb wr w1.heap.size (encK v a 1 j out) ∧ Blk wr w.heap.size 28 xs ∧ wr.heap[w1.heap.size + 1]? = some (.cells #[.slice (some ⟨w1.heap.size, 0, none⟩) L L] 29 (0, 0)) ∧ Below w.heap.size w wr ∧ FBox wr fb w.heap.size (c, 4, (a : Int)) ∧ W0.heap.size ≤ wr.heap.size) (fun kv _ => 1 - (intOf kv).toNat)
        case atStart => exact ⟨0, by omega, rfl, KeepsFrom.refl _ _, kpC_refl _ _, I0.out.2.1, I0.out.2.2.1, I0.out.2.2.2.1, I0.out.2.2.2.2, hF'.out, I0.out.1⟩
        case round =>
          obtain ⟨j, hj, rfl, kf, kp, rb, bi, hs, hB, hF, hz1⟩ := hrel
          rcases (show j = 0 ∨ j = 1 by omega) with rfl | rfl
          · have hq : a / 2 < L := by omega
            have m0 := rb.cell (c := a / 2) (by rw [encK_length, OL]; exact hq)
            have m1 := rb.free (a / 2)
            have m2 := bi.cell (c := c) (by omega)
            rw [VV.out] at m2
            have m3 : wr.cell? ⟨fb, 0, none⟩ = some (.pointer (some ⟨w.heap.size, c, none⟩)) := by rw [cell_blk hF]; rfl
            have m4 : wr.cell? ⟨fb, 2, none⟩ = some (.int .i64 (a : Int)) := by rw [cell_blk hF]; rfl
            have m5 : wr.cell? ⟨w1.heap.size + 1, 0, none⟩ = some (.slice (some ⟨w1.heap.size, 0, none⟩) L L) := by rw [cell_blk hs]; rfl
            have HH := Lib.hid (And.intro kf (And.intro kp (And.intro rb (And.intro bi (And.intro hs (And.intro hB (And.intro hF hz1)))))))
            clear kf kp rb bi hs hB hF hz1 k0 k1 k3
            by_cases hp : a % 2 = 0
            · gi_wp2
              obtain ⟨kf, kp, rb, bi, hs, hB, hF, hz1⟩ := HH.out
              exact ⟨⟨1, by omega, rfl, kf.trans ((KeepsOthers.setCell _ _ _).from _), kpC_t kp (kpC_set _ _ _ (by show w1.heap.size < _; omega)), (rb.set_ (a / 2) _).cast ( enc_even (k := 0) hp (by omega) (by omega) (by omega)), bi.other _ (by show w1.heap.size ≠ _; omega), (Below.heap_setCell _ _ _ _ (by show _ ≠ w1.heap.size; omega)).trans hs, hB.setCell (p := ⟨w1.heap.size, a / 2, none⟩) (by show _ ≤ w1.heap.size; omega) _, (Below.heap_setCell _ _ _ _ (by show _ ≠ w1.heap.size; omega)).trans hF, by simpa using hz1⟩, by decide⟩
            · gi_wp2
              obtain ⟨kf, kp, rb, bi, hs, hB, hF, hz1⟩ := HH.out
              exact ⟨⟨1, by omega, rfl, kf.trans ((KeepsOthers.setCell _ _ _).from _), kpC_t kp (kpC_set _ _ _ (by show w1.heap.size < _; omega)), (rb.set_ (a / 2) _).cast ( enc_odd (k := 0) (by omega) (by omega) (by omega) (by omega)), bi.other _ (by show w1.heap.size ≠ _; omega), (Below.heap_setCell _ _ _ _ (by show _ ≠ w1.heap.size; omega)).trans hs, hB.setCell (p := ⟨w1.heap.size, a / 2, none⟩) (by show _ ≤ w1.heap.size; omega) _, (Below.heap_setCell _ _ _ _ (by show _ ≠ w1.heap.size; omega)).trans hF, by simpa using hz1⟩, by decide⟩
          · clear k0 k1 k3
            gi_wp2
            refine ⟨kf, kp, ⟨hz1, rb.cast ?_, bi, hs⟩, hB⟩
            rw [List.map_append]
            refine Eq.trans ?_ ST.out.symm
            rw [OO.out]
            rw [show encF xs (c, 4, (a : Int)) out = encK (xs.getD c 0) a 1 1 out from by simp [encF], VV.out]
      · have hv1 : v < 256 := hv.2
        have hv0 := hv.1
        have ok7 : a + 2 ≤ 2 * L := by omega
        clear hv
        gi_wp2
        gi_loopw [31] (fun kv wr => ∃ j : Nat, j ≤ 2 ∧ kv = .int .i64 j ∧ KeepsFrom W0.heap.size W wr ∧ KpC W0.heap.size W wr ∧ Rb wr w1.heap.size (encK v a 2 j out) ∧ Blk wr w.heap.size 28 xs ∧ wr.heap[w1.heap.size + 1]? = some (.cells #[.slice (some ⟨w1.heap.size, 0, none⟩) L L] 29 (0, 0)) ∧ Below w.heap.size w wr ∧ FBox wr fb w.heap.size (c, 8, (a : Int)) ∧ W0.heap.size ≤ wr.heap.size) (fun kv _ => 2 - (intOf kv).toNat)
        case atStart => exact ⟨0, by omega, rfl, KeepsFrom.refl _ _, kpC_refl _ _, I0.out.2.1, I0.out.2.2.1, I0.out.2.2.2.1, I0.out.2.2.2.2, hF'.out, I0.out.1⟩
        case round =>
          obtain ⟨j, hj, rfl, kf, kp, rb, bi, hs, hB, hF, hz1⟩ := hrel
          rcases (show j = 0 ∨ j = 1 ∨ j = 2 by omega) with rfl | rfl | rfl
          · have hq : a / 2 < L := by omega
            have m0 := rb.cell (c := a / 2) (by rw [encK_length, OL]; exact hq)
            have m1 := rb.free (a / 2)
            have m2 := bi.cell (c := c) (by omega)
            rw [VV.out] at m2
            have m3 : wr.cell? ⟨fb, 0, none⟩ = some (.pointer (some ⟨w.heap.size, c, none⟩)) := by rw [cell_blk hF]; rfl
            have m4 : wr.cell? ⟨fb, 2, none⟩ = some (.int .i64 (a : Int)) := by rw [cell_blk hF]; rfl
            have m5 : wr.cell? ⟨w1.heap.size + 1, 0, none⟩ = some (.slice (some ⟨w1.heap.size, 0, none⟩) L L) := by rw [cell_blk hs]; rfl
            have HH := Lib.hid (And.intro kf (And.intro kp (And.intro rb (And.intro bi (And.intro hs (And.intro hB (And.intro hF hz1)))))))
            clear kf kp rb bi hs hB hF hz1 k0 k1 k3
            by_cases hp : a % 2 = 0
            · gi_wp2
              obtain ⟨kf, kp, rb, bi, hs, hB, hF, hz1⟩ := HH.out
              exact ⟨⟨1, by omega, rfl, kf.trans ((KeepsOthers.setCell _ _ _).from _), kpC_t kp (kpC_set _ _ _ (by show w1.heap.size < _; omega)), (rb.set_ (a / 2) _).cast ( enc_even (k := 0) hp (by omega) (by omega) (by omega)), bi.other _ (by show w1.heap.size ≠ _; omega), (Below.heap_setCell _ _ _ _ (by show _ ≠ w1.heap.size; omega)).trans hs, hB.setCell (p := ⟨w1.heap.size, a / 2, none⟩) (by show _ ≤ w1.heap.size; omega) _, (Below.heap_setCell _ _ _ _ (by show _ ≠ w1.heap.size; omega)).trans hF, by simpa using hz1⟩, by decide⟩
            · gi_wp2
              obtain ⟨kf, kp, rb, bi, hs, hB, hF, hz1⟩ := HH.out
              exact ⟨⟨1, by omega, rfl, kf.trans ((KeepsOthers.setCell _ _ _).from _), kpC_t kp (kpC_set _ _ _ (by show w1.heap.size < _; omega)), (rb.set_ (a / 2) _).cast ( enc_odd (k := 0) (by omega) (by omega) (by omega) (by omega)), bi.other _ (by show w1.heap.size ≠ _; omega), (Below.heap_setCell _ _ _ _ (by show _ ≠ w1.heap.size; omega)).trans hs, hB.setCell (p := ⟨w1.heap.size, a / 2, none⟩) (by show _ ≤ w1.heap.size; omega) _, (Below.heap_setCell _ _ _ _ (by show _ ≠ w1.heap.size; omega)).trans hF, by simpa using hz1⟩, by decide⟩
          · have hq : (a + 1) / 2 < L := by omega
            have m0 := rb.cell (c := (a + 1) / 2) (by rw [encK_length, OL]; exact hq)
            have m1 := rb.free ((a + 1) / 2)
            have m2 := bi.cell (c := c) (by omega)
            rw [VV.out] at m2
            have m3 : wr.cell? ⟨fb, 0, none⟩ = some (.pointer (some ⟨w.heap.size, c, none⟩)) := by rw [cell_blk hF]; rfl
            have m4 : wr.cell? ⟨fb, 2, none⟩ = some (.int .i64 (a : Int)) := by rw [cell_blk hF]; rfl
            have m5 : wr.cell? ⟨w1.heap.size + 1, 0, none⟩ = some (.slice (some ⟨w1.heap.size, 0, none⟩) L L) := by rw [cell_blk hs]; rfl
            have HH := Lib.hid (And.intro kf (And.intro kp (And.intro rb (And.intro bi (And.intro hs (And.intro hB (And.intro hF hz1)))))))
            clear kf kp rb bi hs hB hF hz1 k0 k1 k3
            by_cases hp : (a + 1) % 2 = 0
            · gi_wp2
              obtain ⟨kf, kp, rb, bi, hs, hB, hF, hz1⟩ := HH.out
              exact ⟨⟨2, by omega, rfl, kf.trans ((KeepsOthers.setCell _ _ _).from _), kpC_t kp (kpC_set _ _ _ (by show w1.heap.size < _; omega)), (rb.set_ ((a + 1) / 2) _).cast ( enc_even (k := 1) hp (by omega) (by omega) (by omega)), bi.other _ (by show w1.heap.size ≠ _; omega), (Below.heap_setCell _ _ _ _ (by show _ ≠ w1.heap.size; omega)).trans hs, hB.setCell (p := ⟨w1.heap.size, (a + 1) / 2, none⟩) (by show _ ≤ w1.heap.size; omega) _, (Below.heap_setCell _ _ _ _ (by show _ ≠ w1.heap.size; omega)).trans hF, by simpa using hz1⟩, by decide⟩
            · gi_wp2
              obtain ⟨kf, kp, rb, bi, hs, hB, hF, hz1⟩ := HH.out
              exact ⟨⟨2, by omega, rfl, kf.trans ((KeepsOthers.setCell _ _ _).from _), kpC_t kp (kpC_set _ _ _ (by show w1.heap.size < _; omega)), (rb.set_ ((a + 1) / 2) _).cast ( enc_odd (k := 1) (by omega) (by omega) (by omega) (by omega)), bi.other _ (by show w1.heap.size ≠ _; omega), (Below.heap_setCell _ _ _ _ (by show _ ≠ w1.heap.size; omega)).trans hs, hB.setCell (p := ⟨w1.heap.size, (a + 1) / 2, none⟩) (by show _ ≤ w1.heap.size; omega) _, (Below.heap_setCell _ _ _ _ (by show _ ≠ w1.heap.size; omega)).trans hF, by simpa using hz1⟩, by decide⟩
          · clear k0 k1 k3
            gi_wp2
            refine ⟨kf, kp, ⟨hz1, rb.cast ?_, bi, hs⟩, hB⟩
            rw [List.map_append]
            refine Eq.trans ?_ ST.out.symm
            rw [OO.out]
            rw [show encF xs (c, 8, (a : Int)) out = encK (xs.getD c 0) a 2 2 out from by simp [encF], VV.out]
      · have hv1 : v < 4096 := hv.2
        have hv0 := hv.1
        have ok7 : a + 3 ≤ 2 * L := by omega
        clear hv
        gi_wp2
        gi_loopw [31] (fun kv wr => ∃ j : Nat, j ≤ 3 ∧ kv = .int .i64 j ∧ KeepsFrom W0.heap.size W wr ∧ KpC W0.heap.size W wr ∧ Rb wr w1.heap.size (encK v a 3 j out) ∧ Blk wr w.heap.size 28 xs ∧ wr.heap[w1.heap.size + 1]? = some (.cells #[.slice (some ⟨w1.heap.size, 0, none⟩) L L] 29 (0, 0)) ∧ Below w.heap.size w wr ∧ FBox wr fb w.heap.size (c, 12, (a : Int)) ∧ W0.heap.size ≤ wr.heap.size) (fun kv _ => 3 - (intOf kv).toNat)
        case atStart => exact ⟨0, by omega, rfl, KeepsFrom.refl _ _, kpC_refl _ _, I0.out.2.1, I0.out.2.2.1, I0.out.2.2.2.1, I0.out.2.2.2.2, hF'.out, I0.out.1⟩
        case round =>
          obtain ⟨j, hj, rfl, kf, kp, rb, bi, hs, hB, hF, hz1⟩ := hrel
          rcases (show j = 0 ∨ j = 1 ∨ j = 2 ∨ j = 3 by omega) with rfl | rfl | rfl | rfl
          · have hq : a / 2 < L := by omega
            have m0 := rb.cell (c := a / 2) (by rw [encK_length, OL]; exact hq)
            have m1 := rb.free (a / 2)
            have m2 := bi.cell (c := c) (by omega)
            rw [VV.out] at m2
            have m3 : wr.cell? ⟨fb, 0, none⟩ = some (.pointer (some ⟨w.heap.size, c, none⟩)) := by rw [cell_blk hF]; rfl
            have m4 : wr.cell? ⟨fb, 2, none⟩ = some (.int .i64 (a : Int)) := by rw [cell_blk hF]; rfl
            have m5 : wr.cell? ⟨w1.heap.size + 1, 0, none⟩ = some (.slice (some ⟨w1.heap.size, 0, none⟩) L L) := by rw [cell_blk hs]; rfl
            have HH := Lib.hid (And.intro kf (And.intro kp (And.intro rb (And.intro bi (And.intro hs (And.intro hB (And.intro hF hz1)))))))
            clear kf kp rb bi hs hB hF hz1 k0 k1 k3
            by_cases hp : a % 2 = 0
            · gi_wp2
              obtain ⟨kf, kp, rb, bi, hs, hB, hF, hz1⟩ := HH.out
              exact ⟨⟨1, by omega, rfl, kf.trans ((KeepsOthers.setCell _ _ _).from _), kpC_t kp (kpC_set _ _ _ (by show w1.heap.size < _; omega)), (rb.set_ (a / 2) _).cast ( enc_even (k := 0) hp (by omega) (by omega) (by omega)), bi.other _ (by show w1.heap.size ≠ _; omega), (Below.heap_setCell _ _ _ _ (by show _ ≠ w1.heap.size; omega)).trans hs, hB.setCell (p := ⟨w1.heap.size, a / 2, none⟩) (by show _ ≤ w1.heap.size; omega) _, (Below.heap_setCell _ _ _ _ (by show _ ≠ w1.heap.size; omega)).trans hF, by simpa using hz1⟩, by decide⟩
            · gi_wp2
              obtain ⟨kf, kp, rb, bi, hs, hB, hF, hz1⟩ := HH.out
              exact ⟨⟨1, by omega, rfl, kf.trans ((KeepsOthers.setCell _ _ _).from _), kpC_t kp (kpC_set _ _ _ (by show w1.heap.size < _; omega)), (rb.set_ (a / 2) _).cast ( enc_odd (k := 0) (by omega) (by omega) (by omega) (by omega)), bi.other _ (by show w1.heap.size ≠ _; omega), (Below.heap_setCell _ _ _ _ (by show _ ≠ w1.heap.size; omega)).trans hs, hB.setCell (p := ⟨w1.heap.size, a / 2, none⟩) (by show _ ≤ w1.heap.size; omega) _, (Below.heap_setCell _ _ _ _ (by show _ ≠ w1.heap.size; omega)).trans hF, by simpa using hz1⟩, by decide⟩
          · have hq : (a + 1) / 2 < L := by omega
            have m0 := rb.cell (c := (a + 1) / 2) (by rw [encK_length, OL]; exact hq)
            have m1 := rb.free ((a + 1) / 2)
            have m2 := bi.cell (c := c) (by omega)
            rw [VV.out] at m2
            have m3 : wr.cell? ⟨fb, 0, none⟩ = some (.pointer (some ⟨w.heap.size, c, none⟩)) := by rw [cell_blk hF]; rfl
            have m4 : wr.cell? ⟨fb, 2, none⟩ = some (.int .i64 (a : Int)) := by rw [cell_blk hF]; rfl
            have m5 : wr.cell? ⟨w1.heap.size + 1, 0, none⟩ = some (.slice (some ⟨w1.heap.size, 0, none⟩) L L) := by rw [cell_blk hs]; rfl
            have HH := Lib.hid (And.intro kf (And.intro kp (And.intro rb (And.intro bi (And.intro hs (And.intro hB (And.intro hF hz1)))))))
            clear kf kp rb bi hs hB hF hz1 k0 k1 k3
            by_cases hp : (a + 1) % 2 = 0
            · gi_wp2
              obtain ⟨kf, kp, rb, bi, hs, hB, hF, hz1⟩ := HH.out
              exact ⟨⟨2, by omega, rfl, kf.trans ((KeepsOthers.setCell _ _ _).from _), kpC_t kp (kpC_set _ _ _ (by show w1.heap.size < _; omega)), (rb.set_ ((a + 1) / 2) _).cast ( enc_even (k := 1) hp (by omega) (by omega) (by omega)), bi.other _ (by show w1.heap.size ≠ _; omega), (Below.heap_setCell _ _ _ _ (by show _ ≠ w1.heap.size; omega)).trans hs, hB.setCell (p := ⟨w1.heap.size, (a + 1) / 2, none⟩) (by show _ ≤ w1.heap.size; omega) _, (Below.heap_setCell _ _ _ _ (by show _ ≠ w1.heap.size; omega)).trans hF, by simpa using hz1⟩, by decide⟩
            · gi_wp2
              obtain ⟨kf, kp, rb, bi, hs, hB, hF, hz1⟩ := HH.out
              exact ⟨⟨2, by omega, rfl, kf.trans ((KeepsOthers.setCell _ _ _).from _), kpC_t kp (kpC_set _ _ _ (by show w1.heap.size < _; omega)), (rb.set_ ((a + 1) / 2) _).cast ( enc_odd (k := 1) (by omega) (by omega) (by omega) (by omega)), bi.other _ (by show w1.heap.size ≠ _; omega), (Below.heap_setCell _ _ _ _ (by show _ ≠ w1.heap.size; omega)).trans hs, hB.setCell (p := ⟨w1.heap.size, (a + 1) / 2, none⟩) (by show _ ≤ w1.heap.size; omega) _, (Below.heap_setCell _ _ _ _ (by show _ ≠ w1.heap.size; omega)).trans hF, by simpa using hz1⟩, by decide⟩
          · have hq : (a / 2 + 1) < L := by omega
            have m0 := rb.cell (c := (a / 2 + 1)) (by rw [encK_length, OL]; exact hq)
            have m1 := rb.free ((a / 2 + 1))
            have m2 := bi.cell (c := c) (by omega)
            rw [VV.out] at m2
            have m3 : wr.cell? ⟨fb, 0, none⟩ = some (.pointer (some ⟨w.heap.size, c, none⟩)) := by rw [cell_blk hF]; rfl
            have m4 : wr.cell? ⟨fb, 2, none⟩ = some (.int .i64 (a : Int)) := by rw [cell_blk hF]; rfl
            have m5 : wr.cell? ⟨w1.heap.size + 1, 0, none⟩ = some (.slice (some ⟨w1.heap.size, 0, none⟩) L L) := by rw [cell_blk hs]; rfl
            have HH := Lib.hid (And.intro kf (And.intro kp (And.intro rb (And.intro bi (And.intro hs (And.intro hB (And.intro hF hz1)))))))
            clear kf kp rb bi hs hB hF hz1 k0 k1 k3
            by_cases hp : (a + 2) % 2 = 0
            · gi_wp2
              obtain ⟨kf, kp, rb, bi, hs, hB, hF, hz1⟩ := HH.out
              exact ⟨⟨3, by omega, rfl, kf.trans ((KeepsOthers.setCell _ _ _).from _), kpC_t kp (kpC_set _ _ _ (by show w1.heap.size < _; omega)), (rb.set_ ((a / 2 + 1)) _).cast (by rw [show a / 2 + 1 = (a + 2) / 2 from by omega]; exact enc_even (k := 2) hp (by omega) (by omega) (by omega)), bi.other _ (by show w1.heap.size ≠ _; omega), (Below.heap_setCell _ _ _ _ (by show _ ≠ w1.heap.size; omega)).trans hs, hB.setCell (p := ⟨w1.heap.size, (a / 2 + 1), none⟩) (by show _ ≤ w1.heap.size; omega) _, (Below.heap_setCell _ _ _ _ (by show _ ≠ w1.heap.size; omega)).trans hF, by simpa using hz1⟩, by decide⟩
            · gi_wp2
              obtain ⟨kf, kp, rb, bi, hs, hB, hF, hz1⟩ := HH.out
              exact ⟨⟨3, by omega, rfl, kf.trans ((KeepsOthers.setCell _ _ _).from _), kpC_t kp (kpC_set _ _ _ (by show w1.heap.size < _; omega)), (rb.set_ ((a / 2 + 1)) _).cast (by rw [show a / 2 + 1 = (a + 2) / 2 from by omega]; exact enc_odd (k := 2) (by omega) (by omega) (by omega) (by omega)), bi.other _ (by show w1.heap.size ≠ _; omega), (Below.heap_setCell _ _ _ _ (by show _ ≠ w1.heap.size; omega)).trans hs, hB.setCell (p := ⟨w1.heap.size, (a / 2 + 1), none⟩) (by show _ ≤ w1.heap.size; omega) _, (Below.heap_setCell _ _ _ _ (by show _ ≠ w1.heap.size; omega)).trans hF, by simpa using hz1⟩, by decide⟩
          · clear k0 k1 k3
            gi_wp2
            refine ⟨kf, kp, ⟨hz1, rb.cast ?_, bi, hs⟩, hB⟩
            rw [List.map_append]
            refine Eq.trans ?_ ST.out.symm
            rw [OO.out]
            rw [show encF xs (c, 12, (a : Int)) out = encK (xs.getD c 0) a 3 3 out from by simp [encF], VV.out]
    case done =>
      rintro D pre W hD hys ⟨⟨h0, h3, h4, h5⟩, hB⟩ hK
      rw [hys] at h3
      have c0 : W.cell? ⟨w1.heap.size + 1, 0, none⟩ = some (.slice (some ⟨w1.heap.size, 0, none⟩) L L) := by rw [cell_blk h5]; rfl
      have HS := Lib.hid (And.intro h0 (And.intro h3 (And.intro hB hK)))
      clear h0 h3 h4 h5 hB
      gi_wp2
      obtain ⟨h0, h3, hB, hK⟩ := HS.out
      refine ⟨by simp, .inl ⟨_, _, rfl, run_takeDeferred hK, ?_⟩⟩
      refine ⟨.tuple #[.slice (some ⟨w1.heap.size, 0, none⟩) L L, .int .i64 0], by simp [results, Try.results15, go_sem], some ⟨w1.heap.size, 0, none⟩, L, rfl, ?_, nofun, by omega, ?_⟩
      · rw [← XS.out]
        exact Rb.byt (h3.kept (grownBy_putObj' _ D (.deferred none)) (fun r e => by cases e; exact ⟨_, hK, rfl⟩)) (encS_in xs _ _ (start_in L (by omega) (by omega))) L (by rw [encS_length]; simp)
      · exact hB.trans (belowK_b (w := w) (Nat.le_refl _) _ D _ _ (by omega) hK rfl rfl)
    case stop =>
      rintro D c pre W hD _ ⟨hf, _⟩ _
      exact hf.elim
  · have e1 : (cd != 0) = true := by simpa using hc
    rw [if_neg hc]
    clear hcd hc
    gi_wp2_with (refine ⟨trivial, ?_⟩; gi_at_call 17; refine (callsIn_wide.2 (CC.out _)).mono ?_; rintro e w1 ⟨rfl, hb⟩; have HB := Lib.hid (((Below.refl _ _).alloc (Nat.le_refl _) (.cells #[.int .i64 op, .int .i64 fm, .int .i64 r1, .int .i64 r2, .int .i64 x2, .int .i64 b1, .int .i64 d1, .int .i64 b2, .int .i64 d2, .int .i64 l1, .int .i64 l2, .int .i64 i2] 28)).trans (hb.mono (by simp))); clear hb)
    exact ⟨.tuple #[.slice none 0 0, .int .i64 cd], by simp [results, Try.results15, go_sem], none, 0, rfl, ⟨rfl, by simp, fun h => absurd h (by omega)⟩, fun _ => rfl, by omega, HB.out⟩
end Go.Proofs.Ytfbcjpbfggbhfaa
