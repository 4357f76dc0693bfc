/- THE WALK of IsaEncodes: it returns true and writes nothing that was there. Conditions: the numbers' own. -/
import Derived.Test.YtfbcjpbfggbhfaaIs7
import Derived.Test.YtfbcjpbfggbhfaaIsE2
import Derived.Test.YtfbcjpbfggbhfaaKp
import Derived.Test.YtfbcjpbfggbhfaaRow
namespace Go.Proofs.Ytfbcjpbfggbhfaa
open Go.RowKit
set_option linter.unusedVariables false
set_option linter.unusedSimpArgs false
set_option maxRecDepth 100000 in
set_option maxHeartbeats 4000000 in
theorem isaEncodes_go (op fm r1 r2 x2 b1 d1 b2 d2 l1 l2 i2 : Int) (w : World) (o0 : -9223372036854775808 ≤ op) (o1 : op ≤ 9223372036854775807) : Calls Try.prog 4 #[.agg #[.int .i64 op, .int .i64 fm, .int .i64 r1, .int .i64 r2, .int .i64 x2, .int .i64 b1, .int .i64 d1, .int .i64 b2, .int .i64 d2, .int .i64 l1, .int .i64 l2, .int .i64 i2]] w fun e w' => e = .returned (.bool true) ∧ Below w.heap.size w w' := by
  have CC := Lib.hid (fun W => icheck_c op fm r1 r2 x2 b1 d1 b2 d2 l1 l2 i2 W)
  have EC := Lib.hid (fun W => iencode_c op fm r1 r2 x2 b1 d1 b2 d2 l1 l2 i2 W o0 o1)
  have RC := Lib.hid (fun W => rcheck_c op fm r1 r2 x2 b1 d1 b2 d2 l1 l2 i2 W)
  have RE := Lib.hid (fun W => rencode_c op fm r1 r2 x2 b1 d1 b2 d2 l1 l2 i2 W)
  obtain ⟨cd, hcd⟩ : ∃ x, chk op fm [op, fm, r1, r2, x2, b1, d1, b2, d2, l1, l2, i2] = x := ⟨_, rfl⟩
  simp only [hcd] at CC EC RC RE
  obtain ⟨zs, hzs⟩ : ∃ zs, (if cd = 0 then encI [op, fm, r1, r2, x2, b1, d1, b2, d2, l1, l2, i2] else []) = zs := ⟨_, rfl⟩
  simp only [hzs] at EC RE
  have e2 : (cd == cd) = true := by simp
  clear hcd hzs
  have WK := Lib.hid (fun W => works_c W)
  go_enter Try.func4, Try.ntmps4
  have HB0 := Lib.hid ((Below.refl w.heap.size w).alloc (Nat.le_refl _) (.cells #[.int .i64 op, .int .i64 fm, .int .i64 r1, .int .i64 r2, .int .i64 x2, .int .i64 b1, .int .i64 d1, .int .i64 b2, .int .i64 d2, .int .i64 l1, .int .i64 l2, .int .i64 i2] 28))
  have B0 := Lib.hid (show Blk (w.alloc (.cells #[.int .i64 op, .int .i64 fm, .int .i64 r1, .int .i64 r2, .int .i64 x2, .int .i64 b1, .int .i64 d1, .int .i64 b2, .int .i64 d2, .int .i64 l1, .int .i64 l2, .int .i64 i2] 28)) w.heap.size 28 [op, fm, r1, r2, x2, b1, d1, b2, d2, l1, l2, i2] from heap_alloc_new w _)
  go_wp2_with fail
  refine (EC.out _).mono ?_
  rintro e w1 ⟨A, m, rfl, hy1, -, hm1, hb⟩
  have HB1 := Lib.hid (HB0.out.trans (hb.mono HB0.out.size))
  have B1 := Lib.hid (B0.out.keep hb)
  have Y1 := Lib.hid hy1
  clear hb hy1 HB0 B0
  have k0 : w1.cell? ⟨w.heap.size, 0, none⟩ = some (.int .i64 op) := B1.out.cell (c := 0) (by simp)
  have k1 : w1.cell? ⟨w.heap.size, 1, none⟩ = some (.int .i64 fm) := B1.out.cell (c := 1) (by simp)
  have k2 : w1.cell? ⟨w.heap.size, 2, none⟩ = some (.int .i64 r1) := B1.out.cell (c := 2) (by simp)
  have k3 : w1.cell? ⟨w.heap.size, 3, none⟩ = some (.int .i64 r2) := B1.out.cell (c := 3) (by simp)
  have k4 : w1.cell? ⟨w.heap.size, 4, none⟩ = some (.int .i64 x2) := B1.out.cell (c := 4) (by simp)
  have k5 : w1.cell? ⟨w.heap.size, 5, none⟩ = some (.int .i64 b1) := B1.out.cell (c := 5) (by simp)
  have k6 : w1.cell? ⟨w.heap.size, 6, none⟩ = some (.int .i64 d1) := B1.out.cell (c := 6) (by simp)
  have k7 : w1.cell? ⟨w.heap.size, 7, none⟩ = some (.int .i64 b2) := B1.out.cell (c := 7) (by simp)
  have k8 : w1.cell? ⟨w.heap.size, 8, none⟩ = some (.int .i64 d2) := B1.out.cell (c := 8) (by simp)
  have k9 : w1.cell? ⟨w.heap.size, 9, none⟩ = some (.int .i64 l1) := B1.out.cell (c := 9) (by simp)
  have k10 : w1.cell? ⟨w.heap.size, 10, none⟩ = some (.int .i64 l2) := B1.out.cell (c := 10) (by simp)
  have k11 : w1.cell? ⟨w.heap.size, 11, none⟩ = some (.int .i64 i2) := B1.out.cell (c := 11) (by simp)
  go_wp2_with fail
  refine (RE.out _).mono ?_
  rintro e W ⟨A', m', c', rfl, hy2, hm2, hb⟩
  have HB2 := Lib.hid (HB1.out.trans (hb.mono HB1.out.size))
  have H0 := Lib.hid (show Cel W w.heap.size op fm r1 r2 x2 b1 d1 b2 d2 l1 l2 i2 ∧ Byt W A m zs ∧ Byt W A' m' zs ∧ Below w.heap.size w W from ⟨Cel.of_blk (B1.out.keep hb), Y1.out.keep hb, hy2, HB2.out⟩)
  have SC := Lib.hid (fun (W : World) (h1 : Byt W A m zs) (h2 : Byt W A' m' zs) => same_c A m m zs A' m' c' zs W h1 h2 (by omega) (by omega))
  simp only [decide_true] at SC
  clear hb hy2 HB1 B1 Y1 HB2 k0 k1 k2 k3 k4 k5 k6 k7 k8 k9 k10 k11
  go_upto_region 3 with fail
  refine wp_region_held_drew (S := (fun w' => Cel w' w.heap.size op fm r1 r2 x2 b1 d1 b2 d2 l1 l2 i2 ∧ Byt w' A m zs ∧ Byt w' A' m' zs ∧ Below w.heap.size w w')) (by kernel_rfl) ?_ (fun hHeld => ?_)
  · (try dsimp only); exact ⟨H0.out.1.keep (below_draw W 1), H0.out.2.1.keep (below_draw W 1), H0.out.2.2.1.keep (below_draw W 1), dBelow' H0.out.2.2.2 1⟩
  refine' takeL (i := 0) (v := _) rfl (by kernel_rfl) (by kernel_rfl) (by kernel_rfl) (fun _ _ _ h => h) (Or.inl ⟨by rfl, ?yy1⟩) (by assumption) ?rr1
  case yy1 => intro w hSw; (try dsimp only at hSw); obtain ⟨⟨k0, k1, k2, k3, k4, k5, k6, k7, k8, k9, k10, k11⟩, _⟩ := hSw; go_simp; (try with_reducible rfl)
  try simp only [Act.put, List.setIfInBounds_toArray, List.set_cons_zero, List.set_cons_succ]
  refine' takeL (i := 2) (v := _) rfl (by kernel_rfl) (by kernel_rfl) (by kernel_rfl) (fun _ _ _ h => h) (Or.inl ⟨by rfl, ?yy2⟩) (by assumption) ?rr2
  case yy2 => intro w hSw; (try dsimp only at hSw); obtain ⟨⟨k0, k1, k2, k3, k4, k5, k6, k7, k8, k9, k10, k11⟩, _⟩ := hSw; go_simp; (try with_reducible rfl)
  try simp only [Act.put, List.setIfInBounds_toArray, List.set_cons_zero, List.set_cons_succ]
  refine wpAnyH_ready (rs := [1]) (by kernel_rfl) (by simp) ?_
  refine consL rfl (fun K hK => ?_) AllReadyH.nil
  go_simp
  go_at_call 17
  refine (CC.out _).mono ?_
  rintro e w5 ⟨rfl, hb⟩
  have BX := Lib.hid (show ((fun w' => Cel w' w.heap.size op fm r1 r2 x2 b1 d1 b2 d2 l1 l2 i2 ∧ Byt w' A m zs ∧ Byt w' A' m' zs ∧ Below w.heap.size w w')) w5 from ⟨hHeld.1.keep hb, hHeld.2.1.keep hb, hHeld.2.2.1.keep hb, hHeld.2.2.2.trans (hb.mono hHeld.2.2.2.size)⟩)
  clear hb hHeld
  go_wp2_with fail
  refine hK.out _ _ ?_ (fun hHeld => ?_)
  · (try dsimp only); exact BX.out
  clear hK K
  try simp only [Act.put, List.setIfInBounds_toArray, List.set_cons_zero, List.set_cons_succ]
  refine wpAnyH_ready (rs := [3]) (by kernel_rfl) (by simp) ?_
  refine consL rfl (fun K hK => ?_) AllReadyH.nil
  go_simp
  go_at_call 18
  refine (RC.out _).mono ?_
  rintro e w5 ⟨rfl, hb⟩
  have BX := Lib.hid (show ((fun w' => Cel w' w.heap.size op fm r1 r2 x2 b1 d1 b2 d2 l1 l2 i2 ∧ Byt w' A m zs ∧ Byt w' A' m' zs ∧ Below w.heap.size w w')) w5 from ⟨hHeld.1.keep hb, hHeld.2.1.keep hb, hHeld.2.2.1.keep hb, hHeld.2.2.2.trans (hb.mono hHeld.2.2.2.size)⟩)
  clear hb hHeld
  go_wp2_with fail
  refine hK.out _ _ ?_ (fun hHeld => ?_)
  · (try dsimp only); exact BX.out
  clear hK K
  try simp only [Act.put, List.setIfInBounds_toArray, List.set_cons_zero, List.set_cons_succ]
  refine' takeL (i := 4) (v := _) rfl (by kernel_rfl) (by kernel_rfl) (by kernel_rfl) (fun _ _ _ h => h) (Or.inl ⟨by rfl, ?yy3⟩) (by assumption) ?rr3
  case yy3 => intro w hSw; (try dsimp only at hSw); go_simp; (try with_reducible rfl)
  try simp only [Act.put, List.setIfInBounds_toArray, List.set_cons_zero, List.set_cons_succ]
  refine' takeL (i := 5) (v := _) rfl (by kernel_rfl) (by kernel_rfl) (by kernel_rfl) (fun _ _ _ h => h) (Or.inl ⟨by rfl, ?yy4⟩) (by assumption) ?rr4
  case yy4 => intro w hSw; (try dsimp only at hSw); go_simp; (try with_reducible rfl)
  try simp only [Act.put, List.setIfInBounds_toArray, List.set_cons_zero, List.set_cons_succ]
  refine' takeL (i := 6) (v := _) rfl (by kernel_rfl) (by kernel_rfl) (by kernel_rfl) (fun _ _ _ h => h) (Or.inl ⟨by rfl, ?yy5⟩) (by assumption) ?rr5
  case yy5 => intro w hSw; (try dsimp only at hSw); go_simp; (try with_reducible rfl)
  try simp only [Act.put, List.setIfInBounds_toArray, List.set_cons_zero, List.set_cons_succ]
  refine' takeL (i := 7) (v := _) rfl (by kernel_rfl) (by kernel_rfl) (by kernel_rfl) (fun _ _ _ h => h) (Or.inl ⟨by rfl, ?yy6⟩) (by assumption) ?rr6
  case yy6 => intro w hSw; (try dsimp only at hSw); go_simp; (try with_reducible rfl)
  try simp only [Act.put, List.setIfInBounds_toArray, List.set_cons_zero, List.set_cons_succ]
  refine' takeL (i := 8) (v := _) rfl (by kernel_rfl) (by kernel_rfl) (by kernel_rfl) (fun _ _ _ h => h) (Or.inl ⟨by rfl, ?yy7⟩) (by assumption) ?rr7
  case yy7 => intro w hSw; (try dsimp only at hSw); go_simp; (try with_reducible rfl)
  try simp only [Act.put, List.setIfInBounds_toArray, List.set_cons_zero, List.set_cons_succ]
  refine' takeL (i := 9) (v := _) rfl (by kernel_rfl) (by kernel_rfl) (by kernel_rfl) (fun _ _ _ h => h) (Or.inl ⟨by rfl, ?yy8⟩) (by assumption) ?rr8
  case yy8 => intro w hSw; (try dsimp only at hSw); go_simp; (try with_reducible rfl)
  try simp only [Act.put, List.setIfInBounds_toArray, List.set_cons_zero, List.set_cons_succ]
  refine' takeL (i := 10) (v := _) rfl (by kernel_rfl) (by kernel_rfl) (by kernel_rfl) (fun _ _ _ h => h) (Or.inl ⟨by rfl, ?yy9⟩) (by assumption) ?rr9
  case yy9 => intro w hSw; (try dsimp only at hSw); go_simp; (try with_reducible rfl)
  try simp only [Act.put, List.setIfInBounds_toArray, List.set_cons_zero, List.set_cons_succ]
  refine' takeL (i := 11) (v := _) rfl (by kernel_rfl) (by kernel_rfl) (by kernel_rfl) (fun _ _ _ h => h) (Or.inl ⟨by rfl, ?yy10⟩) (by assumption) ?rr10
  case yy10 => intro w hSw; (try dsimp only at hSw); go_simp; (try with_reducible rfl)
  try simp only [Act.put, List.setIfInBounds_toArray, List.set_cons_zero, List.set_cons_succ]
  refine' takeL (i := 12) (v := _) rfl (by kernel_rfl) (by kernel_rfl) (by kernel_rfl) (fun _ _ _ h => h) (Or.inl ⟨by rfl, ?yy11⟩) (by assumption) ?rr11
  case yy11 => intro w hSw; (try dsimp only at hSw); go_simp; (try with_reducible rfl)
  try simp only [Act.put, List.setIfInBounds_toArray, List.set_cons_zero, List.set_cons_succ]
  refine wpAnyH_ready (rs := [13]) (by kernel_rfl) (by simp) ?_
  refine consL rfl (fun K hK => ?_) AllReadyH.nil
  go_simp
  go_at_call 19
  refine (SC.out _ hHeld.2.1 hHeld.2.2.1).mono ?_
  rintro e w5 ⟨rfl, n5, hw5⟩
  have hb := below_of_drew hw5
  have BX := Lib.hid (show ((fun w' => Cel w' w.heap.size op fm r1 r2 x2 b1 d1 b2 d2 l1 l2 i2 ∧ Byt w' A m zs ∧ Byt w' A' m' zs ∧ Below w.heap.size w w')) w5 from ⟨hHeld.1.keep hb, hHeld.2.1.keep hb, hHeld.2.2.1.keep hb, hHeld.2.2.2.trans (hb.mono hHeld.2.2.2.size)⟩)
  clear hb hHeld hw5
  go_wp2_with fail
  refine hK.out _ _ ?_ (fun hHeld => ?_)
  · (try dsimp only); exact BX.out
  clear hK K
  try simp only [Act.put, List.setIfInBounds_toArray, List.set_cons_zero, List.set_cons_succ]
  refine' takeL (i := 14) (v := _) rfl (by kernel_rfl) (by kernel_rfl) (by kernel_rfl) (fun _ _ _ h => h) (Or.inl ⟨by rfl, ?yy12⟩) (by assumption) ?rr12
  case yy12 => intro w hSw; (try dsimp only at hSw); go_simp; (try with_reducible rfl)
  try simp only [Act.put, List.setIfInBounds_toArray, List.set_cons_zero, List.set_cons_succ]
  refine' takeL (i := 15) (v := _) rfl (by kernel_rfl) (by kernel_rfl) (by kernel_rfl) (fun _ _ _ h => h) (Or.inl ⟨by rfl, ?yy13⟩) (by assumption) ?rr13
  case yy13 => intro w hSw; (try dsimp only at hSw); go_simp; (try with_reducible rfl)
  try simp only [Act.put, List.setIfInBounds_toArray, List.set_cons_zero, List.set_cons_succ]
  refine wpAnyH_ready (rs := [16]) (by kernel_rfl) (by simp) ?_
  refine consL rfl (fun K hK => ?_) AllReadyH.nil
  go_simp
  go_at_call 14
  refine (WK.out _).mono ?_
  rintro e w5 ⟨rfl, hb⟩
  have BX := Lib.hid (show ((fun w' => Cel w' w.heap.size op fm r1 r2 x2 b1 d1 b2 d2 l1 l2 i2 ∧ Byt w' A m zs ∧ Byt w' A' m' zs ∧ Below w.heap.size w w')) w5 from ⟨hHeld.1.keep hb, hHeld.2.1.keep hb, hHeld.2.2.1.keep hb, hHeld.2.2.2.trans (hb.mono hHeld.2.2.2.size)⟩)
  clear hb hHeld
  go_wp2_with fail
  refine hK.out _ _ ?_ (fun hHeld => ?_)
  · (try dsimp only); exact BX.out
  clear hK K
  try simp only [Act.put, List.setIfInBounds_toArray, List.set_cons_zero, List.set_cons_succ]
  refine' takeL (i := 17) (v := _) rfl (by kernel_rfl) (by kernel_rfl) (by kernel_rfl) (fun _ _ _ h => h) (Or.inl ⟨by rfl, ?yy14⟩) (by assumption) ?rr14
  case yy14 => intro w hSw; (try dsimp only at hSw); go_simp; (try with_reducible rfl)
  try simp only [Act.put, List.setIfInBounds_toArray, List.set_cons_zero, List.set_cons_succ]
  refine' takeL (i := 18) (v := _) rfl (by kernel_rfl) (by kernel_rfl) (by kernel_rfl) (fun _ _ _ h => h) (Or.inl ⟨by rfl, ?yy15⟩) (by assumption) ?rr15
  case yy15 => intro w hSw; (try dsimp only at hSw); go_simp; (try with_reducible rfl)
  try simp only [Act.put, List.setIfInBounds_toArray, List.set_cons_zero, List.set_cons_succ]
  refine wpAnyH_done (by kernel_rfl) ?_ _
  go_wp2
  go_ret
  exact ⟨rfl, hHeld.2.2.2⟩
theorem isaEncodes_walk (op fm r1 r2 x2 b1 d1 b2 d2 l1 l2 i2 : Int) (w : World) (wf_op : (Lit.int .i64 op).wf = true) (wf_fm : (Lit.int .i64 fm).wf = true) (wf_r1 : (Lit.int .i64 r1).wf = true) (wf_r2 : (Lit.int .i64 r2).wf = true) (wf_x2 : (Lit.int .i64 x2).wf = true) (wf_b1 : (Lit.int .i64 b1).wf = true) (wf_d1 : (Lit.int .i64 d1).wf = true) (wf_b2 : (Lit.int .i64 b2).wf = true) (wf_d2 : (Lit.int .i64 d2).wf = true) (wf_l1 : (Lit.int .i64 l1).wf = true) (wf_l2 : (Lit.int .i64 l2).wf = true) (wf_i2 : (Lit.int .i64 i2).wf = true) : Calls Try.prog 4 #[.agg #[.int .i64 op, .int .i64 fm, .int .i64 r1, .int .i64 r2, .int .i64 x2, .int .i64 b1, .int .i64 d1, .int .i64 b2, .int .i64 d2, .int .i64 l1, .int .i64 l2, .int .i64 i2]] w fun e w' => e = .returned (.bool true) ∧ Below w.heap.size w w' := by
  obtain ⟨l0, l1'⟩ := bounds_i64 wf_op
  exact isaEncodes_go op fm r1 r2 x2 b1 d1 b2 d2 l1 l2 i2 w l0 l1'
end Go.Proofs.Ytfbcjpbfggbhfaa
