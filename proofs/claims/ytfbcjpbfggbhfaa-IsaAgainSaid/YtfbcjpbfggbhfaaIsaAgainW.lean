/- THE WALK of IsaAgain: it returns true and writes nothing that was there. Conditions: the slice reads as bytes. -/
import Derived.Test.YtfbcjpbfggbhfaaIs7
import Derived.Test.YtfbcjpbfggbhfaaIsA
import Derived.Test.YtfbcjpbfggbhfaaRow
import Derived.Test.YtfbcjpbfggbhfaaKp
import Derived.Test.YtfbcjpbfggbhfaaRg
import Derived.Deep.RegionHeld3
namespace Go.Proofs.Ytfbcjpbfggbhfaa
open Go.RowKit
set_option linter.unusedVariables false
set_option linter.unusedSimpArgs false
theorem eqi_refl (op fm r1 r2 x2 b1 d1 b2 d2 l1 l2 i2 : Int) : eqiB op fm r1 r2 x2 b1 d1 b2 d2 l1 l2 i2 op fm r1 r2 x2 b1 d1 b2 d2 l1 l2 i2 = true := by simp [eqiB]
/-- twelve cells of a box, behind a name -/
def Cel (w : World) (g : Nat) (x0 x1 x2 x3 x4 x5 x6 x7 x8 x9 x10 x11 : Int) : Prop := w.cell? ⟨g, 0, none⟩ = some (.int .i64 x0) ∧ w.cell? ⟨g, 1, none⟩ = some (.int .i64 x1) ∧ w.cell? ⟨g, 2, none⟩ = some (.int .i64 x2) ∧ w.cell? ⟨g, 3, none⟩ = some (.int .i64 x3) ∧ w.cell? ⟨g, 4, none⟩ = some (.int .i64 x4) ∧ w.cell? ⟨g, 5, none⟩ = some (.int .i64 x5) ∧ w.cell? ⟨g, 6, none⟩ = some (.int .i64 x6) ∧ w.cell? ⟨g, 7, none⟩ = some (.int .i64 x7) ∧ w.cell? ⟨g, 8, none⟩ = some (.int .i64 x8) ∧ w.cell? ⟨g, 9, none⟩ = some (.int .i64 x9) ∧ w.cell? ⟨g, 10, none⟩ = some (.int .i64 x10) ∧ w.cell? ⟨g, 11, none⟩ = some (.int .i64 x11)
theorem Cel.keep {w w' : World} {g : Nat} {x0 x1 x2 x3 x4 x5 x6 x7 x8 x9 x10 x11 : Int} (h : Cel w g x0 x1 x2 x3 x4 x5 x6 x7 x8 x9 x10 x11) (hb : Below w.heap.size w w') : Cel w' g x0 x1 x2 x3 x4 x5 x6 x7 x8 x9 x10 x11 := by
  obtain ⟨h0, h1, h2, h3, h4, h5, h6, h7, h8, h9, h10, h11⟩ := h
  exact ⟨bcell_keep h0 hb, bcell_keep h1 hb, bcell_keep h2 hb, bcell_keep h3 hb, bcell_keep h4 hb, bcell_keep h5 hb, bcell_keep h6 hb, bcell_keep h7 hb, bcell_keep h8 hb, bcell_keep h9 hb, bcell_keep h10 hb, bcell_keep h11 hb⟩
theorem Cel.of_blk {w : World} {g : Nat} {T : TypeId} {x0 x1 x2 x3 x4 x5 x6 x7 x8 x9 x10 x11 : Int} (h : Blk w g T [x0, x1, x2, x3, x4, x5, x6, x7, x8, x9, x10, x11]) : Cel w g x0 x1 x2 x3 x4 x5 x6 x7 x8 x9 x10 x11 := ⟨h.cell (c := 0) (by simp), h.cell (c := 1) (by simp), h.cell (c := 2) (by simp), h.cell (c := 3) (by simp), h.cell (c := 4) (by simp), h.cell (c := 5) (by simp), h.cell (c := 6) (by simp), h.cell (c := 7) (by simp), h.cell (c := 8) (by simp), h.cell (c := 9) (by simp), h.cell (c := 10) (by simp), h.cell (c := 11) (by simp)⟩
def Cby (w : World) (b o : Nat) (z : Int) : Prop := w.cell? ⟨b, o, none⟩ = some (.int .u8 z)
theorem Cby.keep {w w' : World} {b o : Nat} {z : Int} (h : Cby w b o z) (hb : Below w.heap.size w w') : Cby w' b o z := bcell_keep h hb
theorem below_of_eq {w w' : World} (h : w = w') : Below w.heap.size w w' := h ▸ Below.refl _ _
attribute [local go_sem] eqi_run eqi_guard eqi_refl
set_option maxRecDepth 100000 in
set_option maxHeartbeats 4000000 in
theorem isaAgain_no (A : Option Addr) (len cap : Nat) (zs : List Int) (w : World) (hb : Byt w A len zs) (hl : (len : Int) ≤ 9223372036854775807) (hd : dokI len zs = false) : Calls Try.prog 7 #[.slice A len cap] w fun e w' => e = .returned (.bool true) ∧ Below w.heap.size w w' := by
  have DC := Lib.hid (idecode_c A len cap zs w hb hl)
  rw [hd] at DC
  simp only [Bool.false_eq_true, if_false, insV, List.map_cons, List.map_nil] at DC
  clear hb hd
  have WK := Lib.hid (fun W (h : Below w.heap.size w W) => (works_c W).mono (fun e w' h' => And.intro h'.1 (h.trans (h'.2.mono h.size))))
  go_enter Try.func7, Try.ntmps7
  go_wp2_with (first
    | (go_at_call 20; refine DC.out.mono ?_; rintro e w1 ⟨rfl, hb⟩; have HB := Lib.hid (hb.alloc hb.size (.cells #[.int .i64 0, .int .i64 0, .int .i64 0, .int .i64 0, .int .i64 0, .int .i64 0, .int .i64 0, .int .i64 0, .int .i64 0, .int .i64 0, .int .i64 0, .int .i64 0] 28)); clear hb)
    | (go_at_call 14; refine (WK.out _ HB.out).mono ?_; rintro e w4 ⟨rfl, HB3⟩))
  go_ret
  exact ⟨by simp, HB3⟩
set_option maxRecDepth 100000 in
set_option maxHeartbeats 4000000 in
theorem isaAgain_yes (A : Option Addr) (len cap : Nat) (zs : List Int) (w : World) (hb : Byt w A len zs) (hl : (len : Int) ≤ 9223372036854775807) (hd : dokI len zs = true) : Calls Try.prog 7 #[.slice A len cap] w fun e w' => e = .returned (.bool true) ∧ Below w.heap.size w w' := by
  have DC := Lib.hid (idecode_c A len cap zs w hb hl)
  obtain ⟨q0, q1, q2⟩ := chk_decI (zs := zs) (fun i => hb.range i) (by rw [hb.1]; exact hd)
  obtain ⟨x0, x1, x2, x3, x4, x5, x6, x7, x8, x9, x10, x11, hx⟩ := list_12 (decI_length zs)
  rw [hd, hx] at DC
  rw [hx] at q0 q1 q2
  change x0 = zs.getD 0 0 at q1
  change x1 = fmOf (zs.getD 0 0) at q2
  rw [← q1] at q0 q2
  rw [← q2] at q0
  have zr := hb.range 0
  rw [← q1] at zr
  obtain ⟨z0, z1⟩ := zr
  have hlen : 0 < len := by have := dokI_iff hd; omega
  obtain ⟨bb, off, rfl, hcc⟩ := hb.at_ hlen
  have c0 := hcc 0 hlen
  rw [Nat.add_zero, ← q1] at c0
  simp only [if_true, insV, List.map_cons, List.map_nil] at DC
  obtain ⟨p0, p1, p2⟩ := back12 x0 x1 x2 x3 x4 x5 x6 x7 x8 x9 x10 x11 q0 []
  rw [List.append_nil] at p0 p2
  have p3 := dokI_of (chk_isOp q0).1 [] (by rw [List.append_nil]; exact p1) (encI_len x0 x1 x2 x3 x4 x5 x6 x7 x8 x9 x10 x11)
  rw [List.append_nil] at p3
  have p4 := encI_len x0 x1 x2 x3 x4 x5 x6 x7 x8 x9 x10 x11
  have p5 := lenOf_cases (chk_isOp q0).1
  obtain ⟨L, hL⟩ : ∃ L : Nat, lenOf x0 = L := by rcases p5 with h | h | h <;> exact ⟨_, h⟩
  rw [hL, Int.toNat_natCast] at p4
  have hL2 : 2 ≤ L ∧ L ≤ 6 := by omega
  obtain ⟨L0, L1⟩ := hL2
  have EC := Lib.hid (fun W => iencode_c x0 x1 x2 x3 x4 x5 x6 x7 x8 x9 x10 x11 W (by omega) (by omega))
  have CC := Lib.hid (fun W => icheck_c x0 x1 x2 x3 x4 x5 x6 x7 x8 x9 x10 x11 W)
  have LC := Lib.hid (fun W => length_c x0 (by omega) (by omega) W)
  rw [q0, if_pos rfl] at EC
  rw [q0] at CC
  rw [hL] at LC
  obtain ⟨ys, hys⟩ : ∃ ys, encI [x0, x1, x2, x3, x4, x5, x6, x7, x8, x9, x10, x11] = ys := ⟨_, rfl⟩
  rw [hys] at EC p0 p1 p2 p3 p4
  have P0 := Lib.hid p0
  have P1 := Lib.hid p1
  have P3 := Lib.hid p3
  have P4 := Lib.hid p4
  clear hd hb hx q0 q1 q2 hcc p0 p1 p2 p3 p4 p5 hL hys
  have WK := Lib.hid (fun W => works_c W)
  go_enter Try.func7, Try.ntmps7
  go_wp2_with (first
    | (go_at_call 20; refine DC2.out.mono ?_; rintro e w3 ⟨rfl, hb⟩; have HB3 := Lib.hid ((HB2.out.trans (hb.mono HB2.out.size)).alloc (HB2.out.trans (hb.mono HB2.out.size)).size (.cells #[.int .i64 x0, .int .i64 x1, .int .i64 x2, .int .i64 x3, .int .i64 x4, .int .i64 x5, .int .i64 x6, .int .i64 x7, .int .i64 x8, .int .i64 x9, .int .i64 x10, .int .i64 x11] 28)); have BI3 := Lib.hid ((BI.out.keep hb).alloc (.cells #[.int .i64 x0, .int .i64 x1, .int .i64 x2, .int .i64 x3, .int .i64 x4, .int .i64 x5, .int .i64 x6, .int .i64 x7, .int .i64 x8, .int .i64 x9, .int .i64 x10, .int .i64 x11] 28)); have BJ3 := Lib.hid (show Blk (w3.alloc (.cells #[.int .i64 x0, .int .i64 x1, .int .i64 x2, .int .i64 x3, .int .i64 x4, .int .i64 x5, .int .i64 x6, .int .i64 x7, .int .i64 x8, .int .i64 x9, .int .i64 x10, .int .i64 x11] 28)) w3.heap.size 28 [x0, x1, x2, x3, x4, x5, x6, x7, x8, x9, x10, x11] from heap_alloc_new w3 _); have Y3 := Lib.hid (Y2.out.keep (hb.alloc hb.size (.cells #[.int .i64 x0, .int .i64 x1, .int .i64 x2, .int .i64 x3, .int .i64 x4, .int .i64 x5, .int .i64 x6, .int .i64 x7, .int .i64 x8, .int .i64 x9, .int .i64 x10, .int .i64 x11] 28))); clear hb)
    | (go_at_call 20; refine DC.out.mono ?_; rintro e w1 ⟨rfl, hb⟩; have HB1 := Lib.hid (hb.alloc hb.size (.cells #[.int .i64 x0, .int .i64 x1, .int .i64 x2, .int .i64 x3, .int .i64 x4, .int .i64 x5, .int .i64 x6, .int .i64 x7, .int .i64 x8, .int .i64 x9, .int .i64 x10, .int .i64 x11] 28)); clear hb)
    | (go_at_call 15; refine (EC.out _).mono ?_; rintro e w2 ⟨B, m, rfl, hy, hBn, hm6, hb⟩; have HB2 := Lib.hid (HB1.out.trans (hb.mono HB1.out.size)); have BI := Lib.hid (Blk.keep (T := 28) (ys := [x0, x1, x2, x3, x4, x5, x6, x7, x8, x9, x10, x11]) (heap_alloc_new w1 _) hb); have Y2 := Lib.hid hy; have DC2 := idecode_c B m m ys w2 hy (by omega); rw [show dokI m ys = true from by rw [← hy.1]; exact P3.out, P0.out] at DC2; simp only [if_true, insV, List.map_cons, List.map_nil] at DC2; replace DC2 := Lib.hid DC2; clear hb hy))
  obtain ⟨W, hW⟩ : ∃ W, w3.alloc (.cells #[.int .i64 x0, .int .i64 x1, .int .i64 x2, .int .i64 x3, .int .i64 x4, .int .i64 x5, .int .i64 x6, .int .i64 x7, .int .i64 x8, .int .i64 x9, .int .i64 x10, .int .i64 x11] 28) = W := ⟨_, rfl⟩
  rw [hW]
  have hz : W.heap.size = w3.heap.size + 1 := by rw [← hW]; simp
  rw [hW] at HB3 BI3 BJ3 Y3
  obtain ⟨gb, ob, rfl, hcc⟩ := Y3.out.at_ (by have := Y3.out.1; have := P4.out; omega)
  have d0 := hcc 0 (by have := Y3.out.1; have := P4.out; omega)
  rw [Nat.add_zero, P1.out] at d0
  have c0' := bcell_keep c0 HB3.out
  have m1 : m = L := by have := Y3.out.1; have := P4.out; omega
  subst m1
  have hml : ((m : Int) == (m : Int)) = true := by simp
  have h0 : Cel W w1.heap.size x0 x1 x2 x3 x4 x5 x6 x7 x8 x9 x10 x11 ∧ Cel W w3.heap.size x0 x1 x2 x3 x4 x5 x6 x7 x8 x9 x10 x11 ∧ Cby W gb ob x0 ∧ Cby W bb off x0 ∧ Below w.heap.size w W := ⟨Cel.of_blk BI3.out, Cel.of_blk BJ3.out, d0, c0', HB3.out⟩
  have H0 := Lib.hid h0
  have lm0 : 0 < m := by omega
  have lm1 : (0 : Int) < (m : Int) := by omega
  have lm2 : (0 : Int) < (len : Int) := by omega
  have hxx : (x0 == x0) = true := by simp
  have hWz := HB3.out.size
  clear h0 hcc hW hz c0 c0' d0 DC DC2 EC Y2 Y3 BI BI3 BJ3 HB1 HB2 HB3 P0 P1 P3 P4
  refine wp_region_held_drew (S := (fun w' => Cel w' w1.heap.size x0 x1 x2 x3 x4 x5 x6 x7 x8 x9 x10 x11 ∧ Cel w' w3.heap.size x0 x1 x2 x3 x4 x5 x6 x7 x8 x9 x10 x11 ∧ Cby w' gb ob x0 ∧ Cby w' bb off x0 ∧ Below w.heap.size w w')) (by kernel_rfl) ?_ (fun hHeld => ?_)
  · (try dsimp only); exact ⟨H0.out.1.keep (below_draw W 1), H0.out.2.1.keep (below_draw W 1), H0.out.2.2.1.keep (below_draw W 1), H0.out.2.2.2.1.keep (below_draw W 1), dBelow' H0.out.2.2.2.2 1⟩
  refine' takeL (i := 0) (v := _) rfl (by kernel_rfl) (by kernel_rfl) (by kernel_rfl) (fun _ _ _ h => h) (Or.inl ⟨by rfl, ?yy1⟩) (by assumption) ?rr1
  case yy1 => intro w hSw; (try dsimp only at hSw); obtain ⟨⟨k0, k1, k2, k3, k4, k5, k6, k7, k8, k9, k10, k11⟩, _, _, _, _⟩ := hSw; go_simp; (try with_reducible rfl)
  try simp only [Act.put, List.setIfInBounds_toArray, List.set_cons_zero, List.set_cons_succ]
  refine wpAnyH_ready (rs := [1]) (by kernel_rfl) (by simp) ?_
  refine consL rfl (fun K hK => ?_) AllReadyH.nil
  go_simp
  go_at_call 17
  refine (CC.out _).mono ?_
  rintro e w5 ⟨rfl, hb⟩
  have BX := Lib.hid (show ((fun w' => Cel w' w1.heap.size x0 x1 x2 x3 x4 x5 x6 x7 x8 x9 x10 x11 ∧ Cel w' w3.heap.size x0 x1 x2 x3 x4 x5 x6 x7 x8 x9 x10 x11 ∧ Cby w' gb ob x0 ∧ Cby w' bb off x0 ∧ Below w.heap.size w w')) w5 from by exact ⟨hHeld.1.keep hb, hHeld.2.1.keep hb, hHeld.2.2.1.keep hb, hHeld.2.2.2.1.keep hb, hHeld.2.2.2.2.trans (hb.mono hHeld.2.2.2.2.size)⟩)
  clear hb hHeld
  go_wp2_with fail
  refine hK.out _ _ ?_ (fun hHeld => ?_)
  · (try dsimp only); exact BX.out
  clear hK K
  try simp only [Act.put, List.setIfInBounds_toArray, List.set_cons_zero, List.set_cons_succ]
  refine' takeL (i := 2) (v := _) rfl (by kernel_rfl) (by kernel_rfl) (by kernel_rfl) (fun _ _ _ h => h) (Or.inl ⟨by rfl, ?yy2⟩) (by assumption) ?rr2
  case yy2 => intro w hSw; (try dsimp only at hSw); go_simp; (try with_reducible rfl)
  try simp only [Act.put, List.setIfInBounds_toArray, List.set_cons_zero, List.set_cons_succ]
  refine' takeL (i := 3) (v := _) rfl (by kernel_rfl) (by kernel_rfl) (by kernel_rfl) (fun _ _ _ h => h) (Or.inl ⟨by rfl, ?yy3⟩) (by assumption) ?rr3
  case yy3 => intro w hSw; (try dsimp only at hSw); go_simp; (try with_reducible rfl)
  try simp only [Act.put, List.setIfInBounds_toArray, List.set_cons_zero, List.set_cons_succ]
  refine' takeL (i := 4) (v := _) rfl (by kernel_rfl) (by kernel_rfl) (by kernel_rfl) (fun _ _ _ h => h) (Or.inl ⟨by rfl, ?yy4⟩) (by assumption) ?rr4
  case yy4 => intro w hSw; (try dsimp only at hSw); go_simp; (try with_reducible rfl)
  try simp only [Act.put, List.setIfInBounds_toArray, List.set_cons_zero, List.set_cons_succ]
  refine' takeL (i := 5) (v := _) rfl (by kernel_rfl) (by kernel_rfl) (by kernel_rfl) (fun _ _ _ h => h) (Or.inl ⟨by rfl, ?yy5⟩) (by assumption) ?rr5
  case yy5 => intro w hSw; (try dsimp only at hSw); go_simp; (try with_reducible rfl)
  try simp only [Act.put, List.setIfInBounds_toArray, List.set_cons_zero, List.set_cons_succ]
  refine' takeL (i := 6) (v := _) rfl (by kernel_rfl) (by kernel_rfl) (by kernel_rfl) (fun _ _ _ h => h) (Or.inl ⟨by rfl, ?yy6⟩) (by assumption) ?rr6
  case yy6 => intro w hSw; (try dsimp only at hSw); go_simp; (try with_reducible rfl)
  try simp only [Act.put, List.setIfInBounds_toArray, List.set_cons_zero, List.set_cons_succ]
  refine' takeL (i := 7) (v := _) rfl (by kernel_rfl) (by kernel_rfl) (by kernel_rfl) (fun _ _ _ h => h) (Or.inl ⟨by rfl, ?yy7⟩) (by assumption) ?rr7
  case yy7 => intro w hSw; (try dsimp only at hSw); go_simp; (try with_reducible rfl)
  try simp only [Act.put, List.setIfInBounds_toArray, List.set_cons_zero, List.set_cons_succ]
  refine' takeL (i := 8) (v := _) rfl (by kernel_rfl) (by kernel_rfl) (by kernel_rfl) (fun _ _ _ h => h) (Or.inl ⟨by rfl, ?yy8⟩) (by assumption) ?rr8
  case yy8 => intro w hSw; (try dsimp only at hSw); go_simp; (try with_reducible rfl)
  try simp only [Act.put, List.setIfInBounds_toArray, List.set_cons_zero, List.set_cons_succ]
  refine' takeL (i := 9) (v := _) rfl (by kernel_rfl) (by kernel_rfl) (by kernel_rfl) (fun _ _ _ h => h) (Or.inl ⟨by rfl, ?yy9⟩) (by assumption) ?rr9
  case yy9 => intro w hSw; (try dsimp only at hSw); go_simp; (try with_reducible rfl)
  try simp only [Act.put, List.setIfInBounds_toArray, List.set_cons_zero, List.set_cons_succ]
  refine' takeL (i := 10) (v := _) rfl (by kernel_rfl) (by kernel_rfl) (by kernel_rfl) (fun _ _ _ h => h) (Or.inl ⟨by rfl, ?yy10⟩) (by assumption) ?rr10
  case yy10 => intro w hSw; (try dsimp only at hSw); go_simp; (try with_reducible rfl)
  try simp only [Act.put, List.setIfInBounds_toArray, List.set_cons_zero, List.set_cons_succ]
  refine' takeL (i := 11) (v := _) rfl (by kernel_rfl) (by kernel_rfl) (by kernel_rfl) (fun _ _ _ h => h) (Or.inl ⟨by rfl, ?yy11⟩) (by assumption) ?rr11
  case yy11 => intro w hSw; (try dsimp only at hSw); obtain ⟨_, ⟨k0, k1, k2, k3, k4, k5, k6, k7, k8, k9, k10, k11⟩, _, _, _⟩ := hSw; go_simp; (try with_reducible rfl)
  try simp only [Act.put, List.setIfInBounds_toArray, List.set_cons_zero, List.set_cons_succ]
  refine' takeL (i := 12) (v := _) rfl (by kernel_rfl) (by kernel_rfl) (by kernel_rfl) (fun _ _ _ h => h) (Or.inl ⟨by rfl, ?yy12⟩) (by assumption) ?rr12
  case yy12 => intro w hSw; (try dsimp only at hSw); obtain ⟨⟨k0, k1, k2, k3, k4, k5, k6, k7, k8, k9, k10, k11⟩, _, _, _, _⟩ := hSw; go_simp; (try with_reducible rfl)
  try simp only [Act.put, List.setIfInBounds_toArray, List.set_cons_zero, List.set_cons_succ]
  refine' takeL (i := 13) (v := _) rfl (by kernel_rfl) (by kernel_rfl) (by kernel_rfl) (fun _ _ _ h => h) (Or.inl ⟨by rfl, ?yy13⟩) (by assumption) ?rr13
  case yy13 => intro w hSw; (try dsimp only at hSw); go_simp; (try with_reducible rfl)
  try simp only [Act.put, List.setIfInBounds_toArray, List.set_cons_zero, List.set_cons_succ]
  refine' takeL (i := 14) (v := _) rfl (by kernel_rfl) (by kernel_rfl) (by kernel_rfl) (fun _ _ _ h => h) (Or.inl ⟨by rfl, ?yy14⟩) (by assumption) ?rr14
  case yy14 => intro w hSw; (try dsimp only at hSw); go_simp; (try with_reducible rfl)
  try simp only [Act.put, List.setIfInBounds_toArray, List.set_cons_zero, List.set_cons_succ]
  refine' takeL (i := 15) (v := _) rfl (by kernel_rfl) (by kernel_rfl) (by kernel_rfl) (fun _ _ _ h => h) (Or.inl ⟨by rfl, ?yy15⟩) (by assumption) ?rr15
  case yy15 => intro w hSw; (try dsimp only at hSw); go_simp; (try with_reducible rfl)
  try simp only [Act.put, List.setIfInBounds_toArray, List.set_cons_zero, List.set_cons_succ]
  refine' takeL (i := 16) (v := _) rfl (by kernel_rfl) (by kernel_rfl) (by kernel_rfl) (fun _ _ _ h => h) (Or.inl ⟨by rfl, ?yy16⟩) (by assumption) ?rr16
  case yy16 => intro w hSw; (try dsimp only at hSw); go_simp; (try with_reducible rfl)
  try simp only [Act.put, List.setIfInBounds_toArray, List.set_cons_zero, List.set_cons_succ]
  refine' takeL (i := 17) (v := _) rfl (by kernel_rfl) (by kernel_rfl) (by kernel_rfl) (fun _ _ _ h => h) (Or.inl ⟨by rfl, ?yy17⟩) (by assumption) ?rr17
  case yy17 => intro w hSw; (try dsimp only at hSw); go_simp; (try with_reducible rfl)
  try simp only [Act.put, List.setIfInBounds_toArray, List.set_cons_zero, List.set_cons_succ]
  refine' takeL (i := 18) (v := _) rfl (by kernel_rfl) (by kernel_rfl) (by kernel_rfl) (fun _ _ _ h => h) (Or.inl ⟨by rfl, ?yy18⟩) (by assumption) ?rr18
  case yy18 => intro w hSw; (try dsimp only at hSw); go_simp; (try with_reducible rfl)
  try simp only [Act.put, List.setIfInBounds_toArray, List.set_cons_zero, List.set_cons_succ]
  refine' takeL (i := 19) (v := _) rfl (by kernel_rfl) (by kernel_rfl) (by kernel_rfl) (fun _ _ _ h => h) (Or.inl ⟨by rfl, ?yy19⟩) (by assumption) ?rr19
  case yy19 => intro w hSw; (try dsimp only at hSw); go_simp; (try with_reducible rfl)
  try simp only [Act.put, List.setIfInBounds_toArray, List.set_cons_zero, List.set_cons_succ]
  refine' takeL (i := 20) (v := _) rfl (by kernel_rfl) (by kernel_rfl) (by kernel_rfl) (fun _ _ _ h => h) (Or.inl ⟨by rfl, ?yy20⟩) (by assumption) ?rr20
  case yy20 => intro w hSw; (try dsimp only at hSw); obtain ⟨_, _, _, kc, _⟩ := hSw; unfold Cby at kc; go_simp; (try with_reducible rfl)
  try simp only [Act.put, List.setIfInBounds_toArray, List.set_cons_zero, List.set_cons_succ]
  refine' takeL (i := 21) (v := .int .i64 x0) rfl (by kernel_rfl) (by kernel_rfl) (by kernel_rfl) (fun _ _ _ h => h) (Or.inl ⟨by rfl, ?yy21⟩) (by assumption) ?rr21
  case yy21 => intro w hSw; (try dsimp only at hSw); have hwr := wrap_i64_id (n := x0) (by omega) (by omega); go_simp; (try with_reducible rfl)
  try simp only [Act.put, List.setIfInBounds_toArray, List.set_cons_zero, List.set_cons_succ]
  refine wpAnyH_ready (rs := [22]) (by kernel_rfl) (by simp) ?_
  refine consL rfl (fun K hK => ?_) AllReadyH.nil
  go_simp
  go_at_call 12
  refine (LC.out _).mono ?_
  rintro e w5 ⟨rfl, hw5⟩
  have hb := below_of_eq hw5
  clear hw5
  have BX := Lib.hid (show ((fun w' => Cel w' w1.heap.size x0 x1 x2 x3 x4 x5 x6 x7 x8 x9 x10 x11 ∧ Cel w' w3.heap.size x0 x1 x2 x3 x4 x5 x6 x7 x8 x9 x10 x11 ∧ Cby w' gb ob x0 ∧ Cby w' bb off x0 ∧ Below w.heap.size w w')) w5 from by exact ⟨hHeld.1.keep hb, hHeld.2.1.keep hb, hHeld.2.2.1.keep hb, hHeld.2.2.2.1.keep hb, hHeld.2.2.2.2.trans (hb.mono hHeld.2.2.2.2.size)⟩)
  clear hb hHeld
  go_wp2_with fail
  refine hK.out _ _ ?_ (fun hHeld => ?_)
  · (try dsimp only); exact BX.out
  clear hK K
  try simp only [Act.put, List.setIfInBounds_toArray, List.set_cons_zero, List.set_cons_succ]
  refine' takeL (i := 23) (v := _) rfl (by kernel_rfl) (by kernel_rfl) (by kernel_rfl) (fun _ _ _ h => h) (Or.inl ⟨by rfl, ?yy22⟩) (by assumption) ?rr22
  case yy22 => intro w hSw; (try dsimp only at hSw); go_simp; (try with_reducible rfl)
  try simp only [Act.put, List.setIfInBounds_toArray, List.set_cons_zero, List.set_cons_succ]
  refine' takeL (i := 24) (v := _) rfl (by kernel_rfl) (by kernel_rfl) (by kernel_rfl) (fun _ _ _ h => h) (Or.inl ⟨by rfl, ?yy23⟩) (by assumption) ?rr23
  case yy23 => intro w hSw; (try dsimp only at hSw); go_simp; (try with_reducible rfl)
  try simp only [Act.put, List.setIfInBounds_toArray, List.set_cons_zero, List.set_cons_succ]
  refine' takeL (i := 25) (v := _) rfl (by kernel_rfl) (by kernel_rfl) (by kernel_rfl) (fun _ _ _ h => h) (Or.inl ⟨by rfl, ?yy24⟩) (by assumption) ?rr24
  case yy24 => intro w hSw; (try dsimp only at hSw); go_simp; (try with_reducible rfl)
  try simp only [Act.put, List.setIfInBounds_toArray, List.set_cons_zero, List.set_cons_succ]
  refine' takeL (i := 26) (v := _) rfl (by kernel_rfl) (by kernel_rfl) (by kernel_rfl) (fun _ _ _ h => h) (Or.inl ⟨by rfl, ?yy25⟩) (by assumption) ?rr25
  case yy25 => intro w hSw; (try dsimp only at hSw); go_simp; (try with_reducible rfl)
  try simp only [Act.put, List.setIfInBounds_toArray, List.set_cons_zero, List.set_cons_succ]
  refine' takeL (i := 27) (v := _) rfl (by kernel_rfl) (by kernel_rfl) (by kernel_rfl) (fun _ _ _ h => h) (Or.inl ⟨by rfl, ?yy26⟩) (by assumption) ?rr26
  case yy26 => intro w hSw; (try dsimp only at hSw); go_simp; (try with_reducible rfl)
  try simp only [Act.put, List.setIfInBounds_toArray, List.set_cons_zero, List.set_cons_succ]
  refine' takeL (i := 28) (v := _) rfl (by kernel_rfl) (by kernel_rfl) (by kernel_rfl) (fun _ _ _ h => h) (Or.inl ⟨by rfl, ?yy27⟩) (by assumption) ?rr27
  case yy27 => intro w hSw; (try dsimp only at hSw); obtain ⟨_, _, kc, _, _⟩ := hSw; unfold Cby at kc; go_simp; (try with_reducible rfl)
  try simp only [Act.put, List.setIfInBounds_toArray, List.set_cons_zero, List.set_cons_succ]
  refine' takeL (i := 29) (v := _) rfl (by kernel_rfl) (by kernel_rfl) (by kernel_rfl) (fun _ _ _ h => h) (Or.inl ⟨by rfl, ?yy28⟩) (by assumption) ?rr28
  case yy28 => intro w hSw; (try dsimp only at hSw); go_simp; (try with_reducible rfl)
  try simp only [Act.put, List.setIfInBounds_toArray, List.set_cons_zero, List.set_cons_succ]
  refine' takeL (i := 30) (v := _) rfl (by kernel_rfl) (by kernel_rfl) (by kernel_rfl) (fun _ _ _ h => h) (Or.inl ⟨by rfl, ?yy29⟩) (by assumption) ?rr29
  case yy29 => intro w hSw; (try dsimp only at hSw); go_simp; (try with_reducible rfl)
  try simp only [Act.put, List.setIfInBounds_toArray, List.set_cons_zero, List.set_cons_succ]
  refine' takeL (i := 31) (v := _) rfl (by kernel_rfl) (by kernel_rfl) (by kernel_rfl) (fun _ _ _ h => h) (Or.inl ⟨by rfl, ?yy30⟩) (by assumption) ?rr30
  case yy30 => intro w hSw; (try dsimp only at hSw); obtain ⟨_, _, _, kc, _⟩ := hSw; unfold Cby at kc; go_simp; (try with_reducible rfl)
  try simp only [Act.put, List.setIfInBounds_toArray, List.set_cons_zero, List.set_cons_succ]
  refine' takeL (i := 32) (v := _) rfl (by kernel_rfl) (by kernel_rfl) (by kernel_rfl) (fun _ _ _ h => h) (Or.inl ⟨by rfl, ?yy31⟩) (by assumption) ?rr31
  case yy31 => intro w hSw; (try dsimp only at hSw); go_simp; (try with_reducible rfl)
  try simp only [Act.put, List.setIfInBounds_toArray, List.set_cons_zero, List.set_cons_succ]
  refine' takeL (i := 33) (v := _) rfl (by kernel_rfl) (by kernel_rfl) (by kernel_rfl) (fun _ _ _ h => h) (Or.inl ⟨by rfl, ?yy32⟩) (by assumption) ?rr32
  case yy32 => intro w hSw; (try dsimp only at hSw); go_simp; (try with_reducible rfl)
  try simp only [Act.put, List.setIfInBounds_toArray, List.set_cons_zero, List.set_cons_succ]
  refine' takeL (i := 34) (v := _) rfl (by kernel_rfl) (by kernel_rfl) (by kernel_rfl) (fun _ _ _ h => h) (Or.inl ⟨by rfl, ?yy33⟩) (by assumption) ?rr33
  case yy33 => intro w hSw; (try dsimp only at hSw); go_simp; (try with_reducible rfl)
  try simp only [Act.put, List.setIfInBounds_toArray, List.set_cons_zero, List.set_cons_succ]
  refine wpAnyH_ready (rs := [35]) (by kernel_rfl) (by simp) ?_
  refine consL rfl (fun K hK => ?_) AllReadyH.nil
  go_simp
  go_at_call 14
  refine (WK.out _).mono ?_
  rintro e w5 ⟨rfl, hb⟩
  have BX := Lib.hid (show ((fun w' => Cel w' w1.heap.size x0 x1 x2 x3 x4 x5 x6 x7 x8 x9 x10 x11 ∧ Cel w' w3.heap.size x0 x1 x2 x3 x4 x5 x6 x7 x8 x9 x10 x11 ∧ Cby w' gb ob x0 ∧ Cby w' bb off x0 ∧ Below w.heap.size w w')) w5 from by exact ⟨hHeld.1.keep hb, hHeld.2.1.keep hb, hHeld.2.2.1.keep hb, hHeld.2.2.2.1.keep hb, hHeld.2.2.2.2.trans (hb.mono hHeld.2.2.2.2.size)⟩)
  clear hb hHeld
  go_wp2_with fail
  refine hK.out _ _ ?_ (fun hHeld => ?_)
  · (try dsimp only); exact BX.out
  clear hK K
  try simp only [Act.put, List.setIfInBounds_toArray, List.set_cons_zero, List.set_cons_succ]
  refine' takeL (i := 36) (v := _) rfl (by kernel_rfl) (by kernel_rfl) (by kernel_rfl) (fun _ _ _ h => h) (Or.inl ⟨by rfl, ?yy34⟩) (by assumption) ?rr34
  case yy34 => intro w hSw; (try dsimp only at hSw); go_simp; (try with_reducible rfl)
  try simp only [Act.put, List.setIfInBounds_toArray, List.set_cons_zero, List.set_cons_succ]
  refine' takeL (i := 37) (v := _) rfl (by kernel_rfl) (by kernel_rfl) (by kernel_rfl) (fun _ _ _ h => h) (Or.inl ⟨by rfl, ?yy35⟩) (by assumption) ?rr35
  case yy35 => intro w hSw; (try dsimp only at hSw); go_simp; (try with_reducible rfl)
  try simp only [Act.put, List.setIfInBounds_toArray, List.set_cons_zero, List.set_cons_succ]
  refine wpAnyH_done (by kernel_rfl) ?_ _
  go_wp2
  go_ret
  exact ⟨rfl, hHeld.2.2.2.2⟩
theorem isaAgain_walk (A : Option Addr) (len cap : Nat) (z : List Int) (w : World) (w0 : IsRow .u8 w A len cap z) : Calls Try.prog 7 #[.slice A len cap] w fun e w' => e = .returned (.bool true) ∧ Below w.heap.size w w' := by
  obtain ⟨hby, hnil, hlc, hcm⟩ := row_byt w0
  unfold maxLen at hcm
  cases hd : dokI len (z.take len)
  · exact isaAgain_no A len cap _ w hby (by omega) hd
  · exact isaAgain_yes A len cap _ w hby (by omega) hd
end Go.Proofs.Ytfbcjpbfggbhfaa
