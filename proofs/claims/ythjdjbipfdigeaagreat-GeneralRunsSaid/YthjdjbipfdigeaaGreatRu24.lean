/- Rows.GeneralRunsSaid (jobshop/jobshoplaw09.GeneralRuns): whatever the input, the law returns true and each argument reads as it did. The frame of the proof; the walk lies in GeneralRunsW. No conditions; the last text of 24. Conditions: as each states them. -/
import Derived.Test.YthjdjbipfdigeaaGreatRu1
import Derived.Test.YthjdjbipfdigeaaGreatRu23
import Derived.OpenShut
import Derived.Deep.Slices
import Derived.Deep.Fields
import Derived.ChangeSame
namespace Go.Proofs.YthjdjbipfdigeaaGreat
open Go.RowKit
set_option maxRecDepth 100000
set_option linter.unusedVariables false
set_option linter.unusedSimpArgs false
attribute [local go_sem] eqr_run eqr_guard eqr_refl eqp_run eqp_guard eqp_refl
/-- two boxes that are new -/
structure M2 (w0 w : World) (g g' : Nat) (xs ys : List Value) : Prop where
  a : Bk w g 26 xs
  b : Bk w g' 28 ys
  n : w0.heap.size ≤ g ∧ w0.heap.size ≤ g' ∧ g ≠ g'
  l : Below w0.heap.size w0 w
theorem M2.seta {w0 w : World} {g g' : Nat} {xs ys : List Value} (h : M2 w0 w g g' xs ys) (xs' : List Value) : M2 w0 (w.setRow g xs'.toArray) g g' xs' ys := ⟨h.a.rowSet _, h.b.rowOth (Ne.symm h.n.2.2) _, h.n, below_row h.l h.n.1 _⟩
theorem M2.setb {w0 w : World} {g g' : Nat} {xs ys : List Value} (h : M2 w0 w g g' xs ys) (ys' : List Value) : M2 w0 (w.setRow g' ys'.toArray) g g' xs ys' := ⟨h.a.rowOth h.n.2.2 _, h.b.rowSet _, h.n, below_row h.l h.n.2.1 _⟩
set_option maxRecDepth 1000000 in
set_option maxHeartbeats 8000000 in
theorem runs_go (A : Option Addr) (len cap : Nat) (rs : List Int) (p : Ps) (bl : Int) (KA : Option Addr) (kl kc : Nat) (kz : List Int) (PA : Option Addr) (pl pc_ : Nat) (w : World) (hi : IsIns w A len) (hr : rs.length = 16) (ro : R32 rs) (h0 : 0 ≤ bl) (h1 : bl ≤ 255) (hk : Byt w KA kl kz) (hkl : (kl : Int) ≤ 9223372036854775807) (hp : Parts w PA pl) : Calls Tryz.prog 4 #[.slice A len cap, .agg (rs.map (Value.int .u32) ++ (p.v ++ [Value.int .u8 bl, Value.slice KA kl kc, Value.slice PA pl pc_])).toArray] w fun e w' => e = .returned (.bool true) ∧ Below w.heap.size w w' := by
  have BC := Lib.hid (fun W (hb : Below w.heap.size w W) => build_c bl KA kl kc kz PA pl pc_ W h0 h1 (hk.keep hb) hkl (hp.keep hb))
  have hsz : (rs.map (Value.int .u32) ++ (p.v ++ [Value.int .u8 bl, Value.slice KA kl kc, Value.slice PA pl pc_])).toArray.size = 29 := by simp [hr, Ps.v]
  have HL := Lib.hid hr
  have RO := Lib.hid ro
  have HI := Lib.hid hi.2
  have len63 := hi.1
  have XK : Hid (∀ (W : World) g, Bk W g 34 (rs.map (Value.int .u32) ++ (p.v ++ [Value.int .u8 bl, Value.slice KA kl kc, Value.slice PA pl pc_])) → W.rangeAt g 0 (rs.map (Value.int .u32)) ∧ W.rangeAt g 16 p.v ∧ W.cell? ⟨g, 26, none⟩ = some (.int .u8 bl) ∧ W.cell? ⟨g, 27, none⟩ = some (.slice KA kl kc) ∧ W.cell? ⟨g, 28, none⟩ = some (.slice PA pl pc_)) := Lib.hid fun W g h => by
    refine ⟨Bk.mid (l := []) h, ?_, h.cell ?_, h.cell ?_, h.cell ?_⟩
    · have := Bk.mid (l := rs.map (Value.int .u32)) h
      rw [List.length_map, hr] at this
      exact this
    all_goals (rw [List.getElem?_append_right (by simp [hr])]; simp [hr, Ps.v])
  clear hi hk hkl hp h0 h1 ro hr
  go_enter Tryz.func4, Tryz.ntmps4
  go_upto_region 1 with fail
  have hX := Bk.new w (rs.map (Value.int .u32) ++ (p.v ++ [Value.int .u8 bl, Value.slice KA kl kc, Value.slice PA pl pc_])) 34
  have HB := Lib.hid ((Below.refl w.heap.size w).alloc (Nat.le_refl _) (.cells (rs.map (Value.int .u32) ++ (p.v ++ [Value.int .u8 bl, Value.slice KA kl kc, Value.slice PA pl pc_])).toArray 34))
  obtain ⟨w1, hW⟩ : ∃ V, w.alloc (.cells (rs.map (Value.int .u32) ++ (p.v ++ [Value.int .u8 bl, Value.slice KA kl kc, Value.slice PA pl pc_])).toArray 34) = V := ⟨_, rfl⟩
  rw [hW] at hX HB
  try rw [hW]
  obtain ⟨gX, hgX⟩ : ∃ g, w.heap.size = g := ⟨_, rfl⟩
  rw [hgX] at hX
  have hb0 : w.heap.size ≤ w1.heap.size := HB.out.size
  have X := Lib.hid hX
  have z1 := hX.lt
  obtain ⟨-, -, kx26, kx27, kx28⟩ := XK.out _ _ hX
  try simp only [hgX]
  clear hsz hW hX hgX
  go_upto_region 2 with (go_at_call 5; refine (BC.out _ HB.out).mono ?_; rintro e w2 ⟨F, G, bs, ks, rfl, hS, hT, hb, hf, hd⟩)
  clear kx26 kx27 kx28 BC
  obtain ⟨B, hB⟩ : ∃ B, w1.heap.size = B := ⟨_, rfl⟩
  rw [hB] at hf hb0 z1
  have hTW : TW w B w2 F G bs ks bs := ⟨hS, hT, HB.out.trans (hb.mono HB.out.size), by omega, by omega⟩
  have T := Lib.hid hTW
  replace X := Lib.hid (X.out.keep hb)
  clear HB hS hT hb hf hd hTW hB
  go_upto_region 4 with (go_at_call 6; refine nx (works_c _) ?_; intro w3 HB3)
  replace X := Lib.hid (X.out.keep HB3.out)
  replace T := Lib.hid (T.out.keep HB3.out)
  clear HB3
  have hgX : gX < w3.heap.size := X.out.lt
  go_cut [7, 8] from 26 to 29 (fun t t' wx => ∃ g g' : Nat, t = .pointer (some ⟨g, 0, none⟩) ∧ t' = .pointer (some ⟨g', 0, none⟩) ∧ M2 w3 wx g g' (rs.map (Value.int .u32)) p.v)
  case first =>
    have HX := X.out.drewN 1
    obtain ⟨wd, hwd⟩ : ∃ x, w3.drew = x := ⟨_, rfl⟩
    have hd0 : w3.heap.size ≤ wd.heap.size := by rw [← hwd]; exact Nat.le_refl _
    have HD := Lib.hid (show Below w3.heap.size w3 wd by rw [← hwd]; exact dBelow' (Below.refl _ _) 1)
    have HX' : Bk wd gX 34 (rs.map (Value.int .u32) ++ (p.v ++ [Value.int .u8 bl, Value.slice KA kl kc, Value.slice PA pl pc_])) := by rw [← hwd]; exact HX
    have hlx := HX'.lt
    clear HX
    refine wp_region_held_drew (S := fun W => Bk W gX 34 (rs.map (Value.int .u32) ++ (p.v ++ [Value.int .u8 bl, Value.slice KA kl kc, Value.slice PA pl pc_]))) (by kernel_rfl) (by rw [hwd]; exact HX') (fun hHeld => ?_)
    rw [hwd] at hHeld ⊢
    clear hwd HX'
    repeat refine tkn ?_
    refine tkl 1 (fun W h => (XK.out W _ h).1) ?_ (hn := by rw [List.length_map, HL.out]; kernel_rfl)
    repeat refine tkn ?_
    refine tkl (cs := p.v) 3 (fun W h => (XK.out W _ h).2.1) ?_
    repeat refine tkn ?_
    refine tk2 (i := 4) (j := 5) (by with_unfolding_all rfl) ?_ ?_
    · refine opb (v := .pointer (some ⟨wd.heap.size, 0, none⟩)) (w1 := wd.alloc (.cells ([.int .u32 0, .int .u32 0, .int .u32 0, .int .u32 0, .int .u32 0, .int .u32 0, .int .u32 0, .int .u32 0, .int .u32 0, .int .u32 0, .int .u32 0, .int .u32 0, .int .u32 0, .int .u32 0, .int .u32 0, .int .u32 0] : List Value).toArray 26)) (R := fun W => Bk W wd.heap.size 26 [.int .u32 0, .int .u32 0, .int .u32 0, .int .u32 0, .int .u32 0, .int .u32 0, .int .u32 0, .int .u32 0, .int .u32 0, .int .u32 0, .int .u32 0, .int .u32 0, .int .u32 0, .int .u32 0, .int .u32 0, .int .u32 0] ∧ Below w3.heap.size w3 W ∧ Bk W gX 34 (rs.map (Value.int .u32) ++ (p.v ++ [Value.int .u8 bl, Value.slice KA kl kc, Value.slice PA pl pc_]))) ⟨Bk.new _ _ _, HD.out.alloc hd0 _, hHeld.alloc _⟩ (fun _ h => h.2.2) ?_
      clear hHeld
      intro w6 Z hHeld
      have h6 := Z.out.1.lt
      have h7 := Z.out.2.2.lt
      refine tk1 (i := 5) (by with_unfolding_all rfl) ?_
      refine opb (v := .pointer (some ⟨w6.heap.size, 0, none⟩)) (w1 := w6.alloc (.cells ([.int .i64 0, .int .i64 0, .bool false, .bool false, .bool false, .int .i64 0, .int .i64 0, .int .i64 0, .int .i64 0, .int .i64 0] : List Value).toArray 28)) (R := fun W => M2 w3 W wd.heap.size w6.heap.size [.int .u32 0, .int .u32 0, .int .u32 0, .int .u32 0, .int .u32 0, .int .u32 0, .int .u32 0, .int .u32 0, .int .u32 0, .int .u32 0, .int .u32 0, .int .u32 0, .int .u32 0, .int .u32 0, .int .u32 0, .int .u32 0] [.int .i64 0, .int .i64 0, .bool false, .bool false, .bool false, .int .i64 0, .int .i64 0, .int .i64 0, .int .i64 0, .int .i64 0] ∧ Bk W gX 34 (rs.map (Value.int .u32) ++ (p.v ++ [Value.int .u8 bl, Value.slice KA kl kc, Value.slice PA pl pc_]))) ⟨⟨Z.out.1.alloc _, Bk.new _ _ _, ⟨by omega, by omega, by omega⟩, (Z.out.2.1.alloc (by omega) _)⟩, Z.out.2.2.alloc _⟩ (fun _ h => h.2) ?_
      clear Z hHeld
      intro w6' Z hHeld
      refine tks_ (cs' := rs.map (Value.int .u32)) Z.out.1.a (by rw [List.length_map, HL.out]; rfl) (one_u32 _) (by rw [List.length_map, HL.out]; kernel_rfl) (R := fun W => M2 w3 W wd.heap.size w6.heap.size (rs.map (Value.int .u32)) [.int .i64 0, .int .i64 0, .bool false, .bool false, .bool false, .int .i64 0, .int .i64 0, .int .i64 0, .int .i64 0, .int .i64 0] ∧ Bk W gX 34 (rs.map (Value.int .u32) ++ (p.v ++ [Value.int .u8 bl, Value.slice KA kl kc, Value.slice PA pl pc_]))) ⟨Z.out.1.seta _, Z.out.2.rowOth (by omega) _⟩ (fun _ h => h.2) ?_
      clear Z hHeld
      intro w7 Z hHeld
      refine tks_ (cs' := p.v) Z.out.1.b (by rfl) (one_ps _) (by kernel_rfl) (R := fun W => M2 w3 W wd.heap.size w6.heap.size (rs.map (Value.int .u32)) p.v ∧ Bk W gX 34 (rs.map (Value.int .u32) ++ (p.v ++ [Value.int .u8 bl, Value.slice KA kl kc, Value.slice PA pl pc_]))) ⟨Z.out.1.setb _, Z.out.2.rowOth (by omega) _⟩ (fun _ h => h.2) ?_
      clear Z hHeld
      intro w8 Z hHeld
      repeat refine tkn ?_
      refine wpAnyH_done (by with_unfolding_all rfl) ?_ _
      clear hHeld
      go_wp2_with fail
      go_meet
      exact ⟨_, _, rfl, rfl, Z.out.1⟩
    · refine opb (v := .pointer (some ⟨wd.heap.size, 0, none⟩)) (w1 := wd.alloc (.cells ([.int .i64 0, .int .i64 0, .bool false, .bool false, .bool false, .int .i64 0, .int .i64 0, .int .i64 0, .int .i64 0, .int .i64 0] : List Value).toArray 28)) (R := fun W => Bk W wd.heap.size 28 [.int .i64 0, .int .i64 0, .bool false, .bool false, .bool false, .int .i64 0, .int .i64 0, .int .i64 0, .int .i64 0, .int .i64 0] ∧ Below w3.heap.size w3 W ∧ Bk W gX 34 (rs.map (Value.int .u32) ++ (p.v ++ [Value.int .u8 bl, Value.slice KA kl kc, Value.slice PA pl pc_]))) ⟨Bk.new _ _ _, HD.out.alloc hd0 _, hHeld.alloc _⟩ (fun _ h => h.2.2) ?_
      clear hHeld
      intro w6 Z hHeld
      have h6 := Z.out.1.lt
      have h7 := Z.out.2.2.lt
      refine tk1 (i := 4) (by with_unfolding_all rfl) ?_
      refine opb (v := .pointer (some ⟨w6.heap.size, 0, none⟩)) (w1 := w6.alloc (.cells ([.int .u32 0, .int .u32 0, .int .u32 0, .int .u32 0, .int .u32 0, .int .u32 0, .int .u32 0, .int .u32 0, .int .u32 0, .int .u32 0, .int .u32 0, .int .u32 0, .int .u32 0, .int .u32 0, .int .u32 0, .int .u32 0] : List Value).toArray 26)) (R := fun W => M2 w3 W w6.heap.size wd.heap.size [.int .u32 0, .int .u32 0, .int .u32 0, .int .u32 0, .int .u32 0, .int .u32 0, .int .u32 0, .int .u32 0, .int .u32 0, .int .u32 0, .int .u32 0, .int .u32 0, .int .u32 0, .int .u32 0, .int .u32 0, .int .u32 0] [.int .i64 0, .int .i64 0, .bool false, .bool false, .bool false, .int .i64 0, .int .i64 0, .int .i64 0, .int .i64 0, .int .i64 0] ∧ Bk W gX 34 (rs.map (Value.int .u32) ++ (p.v ++ [Value.int .u8 bl, Value.slice KA kl kc, Value.slice PA pl pc_]))) ⟨⟨Bk.new _ _ _, Z.out.1.alloc _, ⟨by omega, by omega, by omega⟩, (Z.out.2.1.alloc (by omega) _)⟩, Z.out.2.2.alloc _⟩ (fun _ h => h.2) ?_
      clear Z hHeld
      intro w6' Z hHeld
      refine tks_ (cs' := rs.map (Value.int .u32)) Z.out.1.a (by rw [List.length_map, HL.out]; rfl) (one_u32 _) (by rw [List.length_map, HL.out]; kernel_rfl) (R := fun W => M2 w3 W w6.heap.size wd.heap.size (rs.map (Value.int .u32)) [.int .i64 0, .int .i64 0, .bool false, .bool false, .bool false, .int .i64 0, .int .i64 0, .int .i64 0, .int .i64 0, .int .i64 0] ∧ Bk W gX 34 (rs.map (Value.int .u32) ++ (p.v ++ [Value.int .u8 bl, Value.slice KA kl kc, Value.slice PA pl pc_]))) ⟨Z.out.1.seta _, Z.out.2.rowOth (by omega) _⟩ (fun _ h => h.2) ?_
      clear Z hHeld
      intro w7 Z hHeld
      refine tks_ (cs' := p.v) Z.out.1.b (by rfl) (one_ps _) (by kernel_rfl) (R := fun W => M2 w3 W w6.heap.size wd.heap.size (rs.map (Value.int .u32)) p.v ∧ Bk W gX 34 (rs.map (Value.int .u32) ++ (p.v ++ [Value.int .u8 bl, Value.slice KA kl kc, Value.slice PA pl pc_]))) ⟨Z.out.1.setb _, Z.out.2.rowOth (by omega) _⟩ (fun _ h => h.2) ?_
      clear Z hHeld
      intro w8 Z hHeld
      repeat refine tkn ?_
      refine wpAnyH_done (by with_unfolding_all rfl) ?_ _
      clear hHeld
      go_wp2_with fail
      go_meet
      exact ⟨_, _, rfl, rfl, Z.out.1⟩
  case rest =>
    obtain ⟨g7, g8, rfl, rfl, hM⟩ := hcut
    obtain ⟨w5, e5⟩ : ∃ x, x = wc := ⟨_, rfl⟩
    subst e5
    have R7 := Lib.hid hM.a
    have R8 := Lib.hid hM.b
    have hn7 := hM.n
    replace X := Lib.hid (X.out.keep hM.l)
    have T5 := Lib.hid (T.out.keep hM.l)
    have e1 := T.out.s.ltg
    have e2 := T.out.s.ltb
    have e3 := T.out.s.ltk
    have e4 := T.out.t.ltg
    have e5 := T.out.t.ltb
    have e6 := T.out.t.ltk
    have e7 := T.out.b.size
    have e8 := hM.l.size
    clear hM T
    go_upto_region 5 with fail
    go_cut [9, 10] from 30 to 33 (fun t t' wx => ∃ g g' : Nat, t = .pointer (some ⟨g, 0, none⟩) ∧ t' = .pointer (some ⟨g', 0, none⟩) ∧ M2 w5 wx g g' (rs.map (Value.int .u32)) p.v)
    case first =>
      have HX := X.out.drewN 1
      obtain ⟨wd, hwd⟩ : ∃ x, w5.drew = x := ⟨_, rfl⟩
      have hd0 : w5.heap.size ≤ wd.heap.size := by rw [← hwd]; exact Nat.le_refl _
      have HD := Lib.hid (show Below w5.heap.size w5 wd by rw [← hwd]; exact dBelow' (Below.refl _ _) 1)
      have HX' : Bk wd gX 34 (rs.map (Value.int .u32) ++ (p.v ++ [Value.int .u8 bl, Value.slice KA kl kc, Value.slice PA pl pc_])) := by rw [← hwd]; exact HX
      have hlx := HX'.lt
      clear HX
      refine wp_region_held_drew (S := fun W => Bk W gX 34 (rs.map (Value.int .u32) ++ (p.v ++ [Value.int .u8 bl, Value.slice KA kl kc, Value.slice PA pl pc_]))) (by kernel_rfl) (by rw [hwd]; exact HX') (fun hHeld => ?_)
      rw [hwd] at hHeld ⊢
      clear hwd HX'
      repeat refine tkn ?_
      refine tkl 1 (fun W h => (XK.out W _ h).1) ?_ (hn := by rw [List.length_map, HL.out]; kernel_rfl)
      repeat refine tkn ?_
      refine tkl (cs := p.v) 3 (fun W h => (XK.out W _ h).2.1) ?_
      repeat refine tkn ?_
      refine tk2 (i := 4) (j := 5) (by with_unfolding_all rfl) ?_ ?_
      · refine opb (v := .pointer (some ⟨wd.heap.size, 0, none⟩)) (w1 := wd.alloc (.cells ([.int .u32 0, .int .u32 0, .int .u32 0, .int .u32 0, .int .u32 0, .int .u32 0, .int .u32 0, .int .u32 0, .int .u32 0, .int .u32 0, .int .u32 0, .int .u32 0, .int .u32 0, .int .u32 0, .int .u32 0, .int .u32 0] : List Value).toArray 26)) (R := fun W => Bk W wd.heap.size 26 [.int .u32 0, .int .u32 0, .int .u32 0, .int .u32 0, .int .u32 0, .int .u32 0, .int .u32 0, .int .u32 0, .int .u32 0, .int .u32 0, .int .u32 0, .int .u32 0, .int .u32 0, .int .u32 0, .int .u32 0, .int .u32 0] ∧ Below w5.heap.size w5 W ∧ Bk W gX 34 (rs.map (Value.int .u32) ++ (p.v ++ [Value.int .u8 bl, Value.slice KA kl kc, Value.slice PA pl pc_]))) ⟨Bk.new _ _ _, HD.out.alloc hd0 _, hHeld.alloc _⟩ (fun _ h => h.2.2) ?_
        clear hHeld
        intro w6 Z hHeld
        have h6 := Z.out.1.lt
        have h7 := Z.out.2.2.lt
        refine tk1 (i := 5) (by with_unfolding_all rfl) ?_
        refine opb (v := .pointer (some ⟨w6.heap.size, 0, none⟩)) (w1 := w6.alloc (.cells ([.int .i64 0, .int .i64 0, .bool false, .bool false, .bool false, .int .i64 0, .int .i64 0, .int .i64 0, .int .i64 0, .int .i64 0] : List Value).toArray 28)) (R := fun W => M2 w5 W wd.heap.size w6.heap.size [.int .u32 0, .int .u32 0, .int .u32 0, .int .u32 0, .int .u32 0, .int .u32 0, .int .u32 0, .int .u32 0, .int .u32 0, .int .u32 0, .int .u32 0, .int .u32 0, .int .u32 0, .int .u32 0, .int .u32 0, .int .u32 0] [.int .i64 0, .int .i64 0, .bool false, .bool false, .bool false, .int .i64 0, .int .i64 0, .int .i64 0, .int .i64 0, .int .i64 0] ∧ Bk W gX 34 (rs.map (Value.int .u32) ++ (p.v ++ [Value.int .u8 bl, Value.slice KA kl kc, Value.slice PA pl pc_]))) ⟨⟨Z.out.1.alloc _, Bk.new _ _ _, ⟨by omega, by omega, by omega⟩, (Z.out.2.1.alloc (by omega) _)⟩, Z.out.2.2.alloc _⟩ (fun _ h => h.2) ?_
        clear Z hHeld
        intro w6' Z hHeld
        refine tks_ (cs' := rs.map (Value.int .u32)) Z.out.1.a (by rw [List.length_map, HL.out]; rfl) (one_u32 _) (by rw [List.length_map, HL.out]; kernel_rfl) (R := fun W => M2 w5 W wd.heap.size w6.heap.size (rs.map (Value.int .u32)) [.int .i64 0, .int .i64 0, .bool false, .bool false, .bool false, .int .i64 0, .int .i64 0, .int .i64 0, .int .i64 0, .int .i64 0] ∧ Bk W gX 34 (rs.map (Value.int .u32) ++ (p.v ++ [Value.int .u8 bl, Value.slice KA kl kc, Value.slice PA pl pc_]))) ⟨Z.out.1.seta _, Z.out.2.rowOth (by omega) _⟩ (fun _ h => h.2) ?_
        clear Z hHeld
        intro w7 Z hHeld
        refine tks_ (cs' := p.v) Z.out.1.b (by rfl) (one_ps _) (by kernel_rfl) (R := fun W => M2 w5 W wd.heap.size w6.heap.size (rs.map (Value.int .u32)) p.v ∧ Bk W gX 34 (rs.map (Value.int .u32) ++ (p.v ++ [Value.int .u8 bl, Value.slice KA kl kc, Value.slice PA pl pc_]))) ⟨Z.out.1.setb _, Z.out.2.rowOth (by omega) _⟩ (fun _ h => h.2) ?_
        clear Z hHeld
        intro w8 Z hHeld
        repeat refine tkn ?_
        refine wpAnyH_done (by with_unfolding_all rfl) ?_ _
        clear hHeld
        go_wp2_with fail
        go_meet
        exact ⟨_, _, rfl, rfl, Z.out.1⟩
      · refine opb (v := .pointer (some ⟨wd.heap.size, 0, none⟩)) (w1 := wd.alloc (.cells ([.int .i64 0, .int .i64 0, .bool false, .bool false, .bool false, .int .i64 0, .int .i64 0, .int .i64 0, .int .i64 0, .int .i64 0] : List Value).toArray 28)) (R := fun W => Bk W wd.heap.size 28 [.int .i64 0, .int .i64 0, .bool false, .bool false, .bool false, .int .i64 0, .int .i64 0, .int .i64 0, .int .i64 0, .int .i64 0] ∧ Below w5.heap.size w5 W ∧ Bk W gX 34 (rs.map (Value.int .u32) ++ (p.v ++ [Value.int .u8 bl, Value.slice KA kl kc, Value.slice PA pl pc_]))) ⟨Bk.new _ _ _, HD.out.alloc hd0 _, hHeld.alloc _⟩ (fun _ h => h.2.2) ?_
        clear hHeld
        intro w6 Z hHeld
        have h6 := Z.out.1.lt
        have h7 := Z.out.2.2.lt
        refine tk1 (i := 4) (by with_unfolding_all rfl) ?_
        refine opb (v := .pointer (some ⟨w6.heap.size, 0, none⟩)) (w1 := w6.alloc (.cells ([.int .u32 0, .int .u32 0, .int .u32 0, .int .u32 0, .int .u32 0, .int .u32 0, .int .u32 0, .int .u32 0, .int .u32 0, .int .u32 0, .int .u32 0, .int .u32 0, .int .u32 0, .int .u32 0, .int .u32 0, .int .u32 0] : List Value).toArray 26)) (R := fun W => M2 w5 W w6.heap.size wd.heap.size [.int .u32 0, .int .u32 0, .int .u32 0, .int .u32 0, .int .u32 0, .int .u32 0, .int .u32 0, .int .u32 0, .int .u32 0, .int .u32 0, .int .u32 0, .int .u32 0, .int .u32 0, .int .u32 0, .int .u32 0, .int .u32 0] [.int .i64 0, .int .i64 0, .bool false, .bool false, .bool false, .int .i64 0, .int .i64 0, .int .i64 0, .int .i64 0, .int .i64 0] ∧ Bk W gX 34 (rs.map (Value.int .u32) ++ (p.v ++ [Value.int .u8 bl, Value.slice KA kl kc, Value.slice PA pl pc_]))) ⟨⟨Bk.new _ _ _, Z.out.1.alloc _, ⟨by omega, by omega, by omega⟩, (Z.out.2.1.alloc (by omega) _)⟩, Z.out.2.2.alloc _⟩ (fun _ h => h.2) ?_
        clear Z hHeld
        intro w6' Z hHeld
        refine tks_ (cs' := rs.map (Value.int .u32)) Z.out.1.a (by rw [List.length_map, HL.out]; rfl) (one_u32 _) (by rw [List.length_map, HL.out]; kernel_rfl) (R := fun W => M2 w5 W w6.heap.size wd.heap.size (rs.map (Value.int .u32)) [.int .i64 0, .int .i64 0, .bool false, .bool false, .bool false, .int .i64 0, .int .i64 0, .int .i64 0, .int .i64 0, .int .i64 0] ∧ Bk W gX 34 (rs.map (Value.int .u32) ++ (p.v ++ [Value.int .u8 bl, Value.slice KA kl kc, Value.slice PA pl pc_]))) ⟨Z.out.1.seta _, Z.out.2.rowOth (by omega) _⟩ (fun _ h => h.2) ?_
        clear Z hHeld
        intro w7 Z hHeld
        refine tks_ (cs' := p.v) Z.out.1.b (by rfl) (one_ps _) (by kernel_rfl) (R := fun W => M2 w5 W w6.heap.size wd.heap.size (rs.map (Value.int .u32)) p.v ∧ Bk W gX 34 (rs.map (Value.int .u32) ++ (p.v ++ [Value.int .u8 bl, Value.slice KA kl kc, Value.slice PA pl pc_]))) ⟨Z.out.1.setb _, Z.out.2.rowOth (by omega) _⟩ (fun _ h => h.2) ?_
        clear Z hHeld
        intro w8 Z hHeld
        repeat refine tkn ?_
        refine wpAnyH_done (by with_unfolding_all rfl) ?_ _
        clear hHeld
        go_wp2_with fail
        go_meet
        exact ⟨_, _, rfl, rfl, Z.out.1⟩
    case rest =>
      obtain ⟨g9, g10, rfl, rfl, hM⟩ := hcut
      have hn9 := hM.n
      have f7 := R7.out.lt
      have f8 := R8.out.lt
      have h7 := R7.out.keep hM.l
      have h8 := R8.out.keep hM.l
      have hRN : RN w B wc F G bs ks bs g7 g8 g9 g10 rs p rs p := ⟨T5.out.keep hM.l, h7, h8, hM.a, hM.b, ⟨⟨⟨by omega, by omega, by omega⟩, ⟨by omega, by omega, by omega⟩⟩, ⟨⟨by omega, by omega, by omega⟩, ⟨by omega, by omega, by omega⟩⟩, ⟨⟨by omega, by omega, by omega⟩, ⟨by omega, by omega, by omega⟩⟩, ⟨⟨by omega, by omega, by omega⟩, ⟨by omega, by omega, by omega⟩⟩⟩, ⟨⟨by omega, by omega, by omega⟩, ⟨by omega, by omega⟩, by omega⟩, ⟨by omega, by omega, by omega, by omega⟩⟩
      have R0 := Lib.hid hRN
      clear hRN hM R7 R8 X T5 hn7 hn9 f7 f8 h7 h8 e1 e2 e3 e4 e5 e6 e7 e8 XK hgX z1 hb0
      go_wp2_with fail
      go_loopw [11, 12, 13] (fun x _ _ W => ∃ (k : Nat) (os : List Int) (q : Ps) (zs : List Int) (G' : Foot), k ≤ len ∧ k ≤ 60 ∧ x = .int .i64 (k : Int) ∧ os.length = 16 ∧ R32 os ∧ G'.g = G.g ∧ RN w B W F G' zs ks zs g7 g8 g9 g10 os q os q) (fun x _ _ _ => 60 - (intOf x).toNat)
      case atStart => exact ⟨0, rs, p, bs, G, by omega, by omega, rfl, HL.out, RO.out, rfl, R0.out⟩
      case round =>
        obtain ⟨k, os, q, zs, G', hk, hk6, rfl, ol, ro, hg, hR⟩ := hrel
        have R1 := Lib.hid hR
        have GE := Lib.hid hg
        by_cases hlt : k < len ∧ k < 60
        · have i0 : (k : Int) < (len : Int) := by omega
          have i1 : (k : Int) < 60 := by omega
          obtain ⟨b, off, op, fm, r1, r2, x2, b1, d1, b2, d2, l1, l2, i2, hA, hbl, hrg⟩ := HI.out k hlt.1
          subst hA
          have IR := Lib.hid (fun W (hb : Below w.heap.size w W) => range_keep hrg hb hbl)
          have OL0 := Lib.hid ol
          obtain ⟨O, hO⟩ : ∃ o, (xC op fm r1 r2 x2 b1 d1 b2 d2 l1 l2 i2 os q.m q.key q.cd q.il q.cc q.pg q.ad zs ks) = o := ⟨_, rfl⟩
          have OL : Hid (O.rs.length = 16) := Lib.hid (by rw [← hO]; exact xC_len16 ol op fm r1 r2 x2 b1 d1 b2 d2 l1 l2 i2 q zs ks)
          have RO' : Hid (R32 O.rs) := Lib.hid (by rw [← hO]; exact xC_ro ro op fm r1 r2 x2 b1 d1 b2 d2 l1 l2 i2 q hR.t.s.rb (by have := hR.t.s.ln; have := hR.t.s.l1; omega))
          have EX := Lib.hid (fun W (h : RN w B W F G' zs ks zs g7 g8 g9 g10 os q os q) => pexec_y op fm r1 r2 x2 b1 d1 b2 d2 l1 l2 i2 q ol ro h.t.s hO)
          have EY := fun W (h : RN w B W F G' O.bs ks zs g7 g8 g9 g10 O.rs (q.to O.cc O.pg O.ad) os q) => rexec_y op fm r1 r2 x2 b1 d1 b2 d2 l1 l2 i2 q ol ro h.t.t hO
          simp only [hg] at EY
          replace EY := Lib.hid EY
          have HK := Lib.hid hlt
          clear hO hg hR hrg ol ro hlt R0 hk hk6
          go_upto_region 11 with fail
          refine wp_region_anyD (by kernel_rfl) ?_
          replace R1 := Lib.hid R1.out.drew
          refine tka 0 ?_
          refine tka 1 ?_
          refine tka 2 ?_
          refine tka 6 ?_
          refine any_of_K (c := 7) (S := fun W => RN w B W F G' zs ks zs g7 g8 g9 g10 os q os q) _ _ _ _ ?_
          have hHeld := R1.out
          refine tkK 3 (fun W h => IR.out W h.t.b) ?_
          refine tkK 4 (fun W h => h.r7.row) ?_ (hn := by rw [List.length_map, OL0.out]; kernel_rfl)
          refine tkK (cs := q.v) 5 (fun W h => h.r8.row) ?_
          refine tkKc (S2 := fun _ => True) (R := fun W => RN w B W F G' O.bs ks zs g7 g8 g9 g10 os q os q) ((EX.out _ R1.out).mono fun e w' h => ⟨h.1, R1.out.fx h.2.1 h.2.2⟩) (fun _ _ => trivial) ?_
          clear R1 hHeld
          intro w4 R1 hHeld
          repeat refine tkn ?_
          refine tks_ (cs' := O.rs.map (Value.int .u32)) R1.out.r7 (by rw [List.length_map, List.length_map, OL0.out, OL.out]) (one_u32 _) (by rw [List.length_map, OL.out]; kernel_rfl) (R := fun W => RN w B W F G' O.bs ks zs g7 g8 g9 g10 O.rs q os q) (R1.out.s7 _) (fun _ _ => trivial) ?_
          clear R1 hHeld
          intro w5 R1 hHeld
          refine tks_ (cs' := (q.to O.cc O.pg O.ad).v) R1.out.r8 (by rfl) (one_ps _) (by kernel_rfl) (R := fun W => RN w B W F G' O.bs ks zs g7 g8 g9 g10 O.rs (q.to O.cc O.pg O.ad) os q) (R1.out.s8 _) (fun _ _ => trivial) ?_
          clear R1 hHeld
          intro w6 R1 hHeld
          repeat refine tkn ?_
          refine wpAnyH_done (by with_unfolding_all rfl) ?_ _
          clear hHeld
          go_upto_region 12 with fail
          refine wp_region_anyD (by kernel_rfl) ?_
          replace R1 := Lib.hid R1.out.drew
          refine tka 0 ?_
          refine tka 1 ?_
          refine tka 2 ?_
          refine tka 6 ?_
          refine any_of_K (c := 7) (S := fun W => RN w B W F G' O.bs ks zs g7 g8 g9 g10 O.rs (q.to O.cc O.pg O.ad) os q) _ _ _ _ ?_
          have hHeld := R1.out
          refine tkK 3 (fun W h => IR.out W h.t.b) ?_
          refine tkK 4 (fun W h => h.r9.row) ?_ (hn := by rw [List.length_map, OL0.out]; kernel_rfl)
          refine tkK (cs := q.v) 5 (fun W h => h.r10.row) ?_
          refine tkKc (S2 := fun _ => True) (R := fun W => ∃ G2 : Foot, G2.g = G.g ∧ RN w B W F G2 O.bs ks O.bs g7 g8 g9 g10 O.rs (q.to O.cc O.pg O.ad) os q) ((EY.out _ R1.out).mono fun e w' h => ⟨h.1, h.2.elim fun G2 h => ⟨G2, h.1, R1.out.gx (h.1.trans GE.out.symm) h.2.1 h.2.2.1 (by rw [GE.out]; exact h.2.2.2)⟩⟩) (fun _ _ => trivial) ?_
          clear R1 hHeld
          intro w4 Z hHeld
          obtain ⟨G2, hg2, hR2⟩ := Z.out
          have R1 := Lib.hid hR2
          clear Z hR2
          repeat refine tkn ?_
          refine tks_ (cs' := O.rs.map (Value.int .u32)) R1.out.r9 (by rw [List.length_map, List.length_map, OL0.out, OL.out]) (one_u32 _) (by rw [List.length_map, OL.out]; kernel_rfl) (R := fun W => RN w B W F G2 O.bs ks O.bs g7 g8 g9 g10 O.rs (q.to O.cc O.pg O.ad) O.rs q) (R1.out.s9 _) (fun _ _ => trivial) ?_
          clear R1 hHeld
          intro w5 R1 hHeld
          refine tks_ (cs' := (q.to O.cc O.pg O.ad).v) R1.out.r10 (by rfl) (one_ps _) (by kernel_rfl) (R := fun W => RN w B W F G2 O.bs ks O.bs g7 g8 g9 g10 O.rs (q.to O.cc O.pg O.ad) O.rs (q.to O.cc O.pg O.ad)) (R1.out.s10 _) (fun _ _ => trivial) ?_
          clear R1 hHeld
          intro w6 R1 hHeld
          repeat refine tkn ?_
          refine wpAnyH_done (by with_unfolding_all rfl) ?_ _
          clear hHeld
          have h7 := R1.out.r7
          have h8 := R1.out.r8
          have h9 := R1.out.r9
          have h10 := R1.out.r10
          obtain ⟨n0, n1, n2, n3, n4, n5, n6, n7, n8, n9, n10, n11, n12, n13, n14, n15, hrs⟩ := list_16 OL.out
          rw [hrs] at h7 h9
          refine Bk.opn16 h7 ?_
          refine Bk.opn16 h9 ?_
          refine Bk.opn10 h8 ?_
          refine Bk.opn10 h10 ?_
          have HG2 := Lib.hid hg2
          clear h7 h8 h9 h10 hrs IR EX EY hg2
          intros
          go_wp2_with fail
          exact ⟨⟨k + 1, O.rs, q.to O.cc O.pg O.ad, O.bs, G2, by have := HK.out; omega, by have := HK.out; omega, rfl, OL.out, RO'.out, HG2.out, R1.out⟩, by have := HK.out; simp [intOf]; omega⟩
        · have LC := like_c hR.t.s hR.t.t
          rw [hg] at LC
          have LC := Lib.hid LC
          clear hg hR R0 ol ro
          rcases (show ¬ k < len ∨ (k < len ∧ ¬ k < 60) by omega) with i0 | ⟨i0, i1⟩
          · have i0 : ¬ (k : Int) < (len : Int) := by omega
            clear hlt hk hk6
            go_wp2_with (go_at_call 9; refine nx LC.out ?_; intro w8 HB8)
            go_ret
            exact ⟨by rfl, R1.out.t.b.trans (HB8.out.mono R1.out.t.b.size)⟩
          · have i0 : (k : Int) < (len : Int) := by omega
            have i1 : ¬ (k : Int) < 60 := by omega
            clear hlt hk hk6
            go_wp2_with (go_at_call 9; refine nx LC.out ?_; intro w8 HB8)
            go_ret
            exact ⟨by rfl, R1.out.t.b.trans (HB8.out.mono R1.out.t.b.size)⟩
theorem generalRuns_walk (A : Option Addr) (len cap : Nat) (rs : List Int) (pm pk : Int) (pM pW pP : Bool) (pc pi pq pg pa : Int) (bl : Int) (KA : Option Addr) (kl kc : Nat) (kz : List Int) (PA : Option Addr) (pl pc_ : Nat) (w : World) (hi : IsIns w A len) (hr : rs.length = 16) (wr : ∀ z ∈ rs, (Lit.int .u32 z).wf = true) (hb : 0 ≤ bl ∧ bl ≤ 255) (hk : Byt w KA kl kz) (hkl : (kl : Int) ≤ 9223372036854775807) (hp : Parts w PA pl) : Calls Tryz.prog 4 #[.slice A len cap, .agg (rs.map (Value.int .u32) ++ ([.int .i64 pm, .int .i64 pk, .bool pM, .bool pW, .bool pP, .int .i64 pc, .int .i64 pi, .int .i64 pq, .int .i64 pg, .int .i64 pa, .int .u8 bl, .slice KA kl kc, .slice PA pl pc_] : List Value)).toArray] w fun e w' => e = .returned (.bool true) ∧ Below w.heap.size w w' :=
  runs_go A len cap rs { m := pm, key := pk, M := pM, W := pW, P := pP, cd := pc, il := pi, cc := pq, pg := pg, ad := pa } bl KA kl kc kz PA pl pc_ w hi hr (fun z hz => bounds_u32 (wr z hz)) hb.1 hb.2 hk hkl hp
end Go.Proofs.YthjdjbipfdigeaaGreat

namespace Go.Proofs.YthjdjbipfdigeaaGreat
open Go.ChangeShapes Go.WideShapes Go.ChangeAt Go.RowKit Go.Deep
set_option maxRecDepth 100000
set_option linter.unusedVariables false
section
variable {H : Type} {enc : TypeId × Value → H} {P : Program} {w : World} {base : Nat} {spare : Nat → Bool} {held : Bool}
theorem cells_arr {t e : TypeId} {k : IntKind} {n fuel : Nat} {cs : List Value} {x : DataW H × List MemPlace} (hs : P.underlying t = some (.array n e)) (he : P.underlying e = some (.int k)) (h1 : P.cellsOf e = 1) (hl : cs.length = n)
    (h : DataW.trod enc P w base spare held fuel t cs = some x) : ∃ zs : List Int, cs = zs.map (Value.int k) ∧ zs.length = n ∧ ∀ z ∈ zs, (Lit.int k z).wf = true := by
  obtain ⟨xs, m, _, hx, _, hlen, hg⟩ := DataW.trod_array hs h
  have key : ∀ i, i < n → ∃ z : Int, cs[i]? = some (.int k z) ∧ (Lit.int k z).wf = true := by
    intro i hi
    have h2 := hg i hi
    rw [h1, Nat.mul_one] at h2
    have hjc : i < cs.length := by omega
    have e1 : (cs.drop i).take 1 = [cs[i]] := by
      rw [List.drop_eq_getElem_cons hjc]; rfl
    rw [e1] at h2
    have hxj : xs[i]? = some (xs[i]'(by omega)) := List.getElem?_eq_getElem (by omega)
    obtain ⟨a, e0, _, wa⟩ := DataW.trod_int he (h2.trans hxj)
    simp at e0
    exact ⟨a, by rw [List.getElem?_eq_getElem hjc, e0], wa⟩
  obtain ⟨f, hf2⟩ := choose_lt (α := Int) (p := fun i z => cs[i]? = some (.int k z) ∧ (Lit.int k z).wf = true) key
  refine ⟨(List.range n).map f, ?_, by simp, ?_⟩
  · apply List.ext_getElem?
    intro i
    by_cases hi : i < n
    · rw [(hf2 i hi).1]; simp [hi]
    · rw [List.getElem?_eq_none (by omega)]; simp [hi]
  · intro z hz
    obtain ⟨i, hi, rfl⟩ := List.mem_map.1 hz
    exact (hf2 i (List.mem_range.1 hi)).2
theorem cells_fields {t : TypeId} {fs : Array Field} {fuel : Nat} {cs : List Value} {x : DataW H × List MemPlace} (hs : P.underlying t = some (.struct fs)) (hone : oneCellFields P fs = true) (hl : cs.length = fs.size)
    (h : DataW.trod enc P w base spare held fuel t cs = some x) : ∀ (j : Nat) (f : Field), fs[j]? = some f → ∃ (u : Value) (y : DataW H × List MemPlace) (n : Nat), cs[j]? = some u ∧ DataW.trod enc P w base spare held n f.type [u] = some y := by
  obtain ⟨xs, n, _, hx, _, hlen, hg⟩ := DataW.trod_struct hs h
  intro j f hj
  obtain ⟨o, k⟩ := hone_of hone j f hj
  have h1 := hg j f hj
  have hjl : j < fs.size := (Array.getElem?_eq_some_iff.1 hj).1
  have hjc : j < cs.length := by omega
  rw [o, k] at h1
  have e1 : (cs.drop j).take 1 = [cs[j]] := by
    rw [List.drop_eq_getElem_cons hjc]; rfl
  rw [e1] at h1
  have hxj : xs[j]? = some (xs[j]'(by omega)) := List.getElem?_eq_getElem (by omega)
  exact ⟨cs[j], _, n, List.getElem?_eq_getElem hjc, h1.trans hxj⟩
end
theorem list_10 {α : Type} : ∀ {l : List α}, l.length = 10 → ∃ a b c d e f g h i j, l = [a, b, c, d, e, f, g, h, i, j]
  | [a, b, c, d, e, f, g, h, i, j], _ => ⟨a, b, c, d, e, f, g, h, i, j, rfl⟩
theorem list_3 {α : Type} : ∀ {l : List α}, l.length = 3 → ∃ a b c, l = [a, b, c]
  | [a, b, c], _ => ⟨a, b, c, rfl⟩
theorem list_16f {α : Type} : ∀ {l : List α}, l.length = 16 → ∃ x0 x1 x2 x3 x4 x5 x6 x7 x8 x9 x10 x11 x12 x13 x14 x15, l = [x0, x1, x2, x3, x4, x5, x6, x7, x8, x9, x10, x11, x12, x13, x14, x15]
  | [x0, x1, x2, x3, x4, x5, x6, x7, x8, x9, x10, x11, x12, x13, x14, x15], _ => ⟨x0, x1, x2, x3, x4, x5, x6, x7, x8, x9, x10, x11, x12, x13, x14, x15, rfl⟩
/-- a status word's ten cells -/
theorem cells_psw {H : Type} {enc : TypeId × Value → H} {w : World} {base : Nat} {spare : Nat → Bool} {held : Bool} {fuel : Nat} {cs : List Value} {x : DataW H × List MemPlace} (hl : cs.length = 10) (h : DataW.trod enc Tryz.prog w base spare held fuel 28 cs = some x) :
    ∃ (m k : Int) (M W P : Bool) (c i q g a : Int), cs = [.int .i64 m, .int .i64 k, .bool M, .bool W, .bool P, .int .i64 c, .int .i64 i, .int .i64 q, .int .i64 g, .int .i64 a] := by
  have hf := cells_fields Tryz.underlying28 (by kernel_rfl) hl h
  obtain ⟨u0, y0, n0, g0, t0⟩ := hf 0 _ rfl
  obtain ⟨u1, y1, n1, g1, t1⟩ := hf 1 _ rfl
  obtain ⟨u2, y2, n2, g2, t2⟩ := hf 2 _ rfl
  obtain ⟨u3, y3, n3, g3, t3⟩ := hf 3 _ rfl
  obtain ⟨u4, y4, n4, g4, t4⟩ := hf 4 _ rfl
  obtain ⟨u5, y5, n5, g5, t5⟩ := hf 5 _ rfl
  obtain ⟨u6, y6, n6, g6, t6⟩ := hf 6 _ rfl
  obtain ⟨u7, y7, n7, g7, t7⟩ := hf 7 _ rfl
  obtain ⟨u8, y8, n8, g8, t8⟩ := hf 8 _ rfl
  obtain ⟨u9, y9, n9, g9, t9⟩ := hf 9 _ rfl
  obtain ⟨v0, v1, v2, v3, v4, v5, v6, v7, v8, v9, rfl⟩ := list_10 hl
  simp only [List.getElem?_cons_zero, List.getElem?_cons_succ, Option.some.injEq] at g0 g1 g2 g3 g4 g5 g6 g7 g8 g9
  subst g0 g1 g2 g3 g4 g5 g6 g7 g8 g9
  obtain ⟨z0, rfl, _⟩ := field_int Tryz.underlying3 t0
  obtain ⟨z1, rfl, _⟩ := field_int Tryz.underlying3 t1
  obtain ⟨z2, rfl⟩ := field_bool Tryz.underlying4 t2
  obtain ⟨z3, rfl⟩ := field_bool Tryz.underlying4 t3
  obtain ⟨z4, rfl⟩ := field_bool Tryz.underlying4 t4
  obtain ⟨z5, rfl, _⟩ := field_int Tryz.underlying3 t5
  obtain ⟨z6, rfl, _⟩ := field_int Tryz.underlying3 t6
  obtain ⟨z7, rfl, _⟩ := field_int Tryz.underlying3 t7
  obtain ⟨z8, rfl, _⟩ := field_int Tryz.underlying3 t8
  obtain ⟨z9, rfl, _⟩ := field_int Tryz.underlying3 t9
  exact ⟨z0, z1, z2, z3, z4, z5, z6, z7, z8, z9, rfl⟩
theorem open_state {H : Type} {enc : TypeId × Value → H} {w : World} {base : Nat} {spare : Nat → Bool} {held : Bool} {r : Reach} {b0 : Nat} {v : Value} {d : DataW H} {p : List MemPlace} (hv : Value.okWide Tryz.prog w r b0 34 v) (h : DataW.Trod enc Tryz.prog w base spare held 34 v d p) :
    ∃ (rs : List Int) (m k : Int) (M W P : Bool) (c i q g a : Int) (x y z : Value), v = .agg (rs.map (Value.int .u32) ++ [.int .i64 m, .int .i64 k, .bool M, .bool W, .bool P, .int .i64 c, .int .i64 i, .int .i64 q, .int .i64 g, .int .i64 a, x, y, z]).toArray ∧ rs.length = 16 ∧ ∀ z ∈ rs, (Lit.int .u32 z).wf = true := by
  obtain ⟨cs, rfl, hsz⟩ := okWide_struct Tryz.underlying34 hv
  obtain ⟨fuel, hf⟩ := h
  obtain ⟨xs, n, _, hx, _, hlen, hg⟩ := DataW.trod_struct Tryz.underlying34 hf
  have hs29 : cs.toList.length = 29 := by rw [Array.length_toList, hsz]; kernel_rfl
  have h0 := hg 0 _ rfl
  have h1 := hg 1 _ rfl
  have hxs : xs.length = 3 := hlen
  obtain ⟨x0, x1, x2, rfl⟩ := list_3 hxs
  have h0' : DataW.trod enc Tryz.prog w base spare held n 26 (cs.toList.take 16) = some x0 := h0
  have h1' : DataW.trod enc Tryz.prog w base spare held n 28 ((cs.toList.drop 16).take 10) = some x1 := h1
  obtain ⟨rs, e0, hr, wr⟩ := cells_arr (n := 16) (by kernel_rfl) Tryz.underlying24 (by kernel_rfl) (by rw [List.length_take, hs29]; decide) h0'
  obtain ⟨m, k, M, W, P, c, i, q, g, a, e1⟩ := cells_psw (by rw [List.length_take, List.length_drop, hs29]; decide) h1'
  obtain ⟨x, y, z, e2⟩ := list_3 (l := cs.toList.drop 26) (by rw [List.length_drop, hs29])
  refine ⟨rs, m, k, M, W, P, c, i, q, g, a, x, y, z, ?_, hr, wr⟩
  congr 1
  apply Array.toList_inj.mp
  have e3 : cs.toList = cs.toList.take 16 ++ ((cs.toList.drop 16).take 10 ++ cs.toList.drop 26) := by
    have e4 : cs.toList.drop 26 = (cs.toList.drop 16).drop 10 := by rw [List.drop_drop]
    rw [e4, List.take_append_drop, List.take_append_drop]
  rw [e3, e0, e1, e2]
  simp
end Go.Proofs.YthjdjbipfdigeaaGreat

namespace Go.Proofs.YthjdjbipfdigeaaGreat
open Go.ChangeShapes Go.WideShapes Go.ChangeAt Go.RowKit Go.Deep
set_option maxRecDepth 100000
set_option linter.unusedVariables false
section
variable {H : Type} {enc : TypeId × Value → H} {P : Program} {w : World} {base : Nat} {spare : Nat → Bool} {held : Bool}
theorem open_slice_fields {t e : TypeId} {fs : Array Field} {fuel : Nat} {cs : List Value} {x : DataW H × List MemPlace} (ht : P.underlying t = some (.slice e)) (he : P.underlying e = some (.struct fs))
    (hone : oneCellFields P fs = true) (hC : P.cellsOf e = fs.size) (h : DataW.trod enc P w base spare held fuel t cs = some x) :
    (cs = [.slice none 0 0] ∧ x = (.nil, [])) ∨
    ∃ (a : Addr) (len cap m : Nat) (D : Nat → DataW H) (Pl : Nat → List MemPlace), cs = [.slice (some a) len cap] ∧ base ≤ a.block ∧ len ≤ cap ∧ cap ≤ maxLen ∧ m = (if spare a.block then cap else len) ∧
      x = (.slice ((List.range len).map D) ((List.range (m - len)).map fun j => D (len + j)), MemPlace.row a (m * fs.size) ++ (List.range m).flatMap Pl) ∧
      ∀ i, i < m → ∃ (ys : List (DataW H × List MemPlace)) (n : Nat), D i = .agg (ys.map (·.1)) ∧ Pl i = ys.flatMap (·.2) ∧ ys.length = fs.size ∧
        ∀ (j : Nat) (f : Field), fs[j]? = some f → ∃ (v : Value) (y : DataW H × List MemPlace), w.cell? (a.add (i * fs.size + j)) = some v ∧ ys[j]? = some y ∧ DataW.trod enc P w base spare held n f.type [v] = some y := by
  rcases open_slice ht h with h0 | ⟨a, len, cap, m, n, D, Pl, hcs, hb, hl, hm, hmm, hx, hi⟩
  · exact .inl h0
  · refine .inr ⟨a, len, cap, m, D, Pl, hcs, hb, hl, hm, hmm, by rw [hC] at hx; exact hx, fun i him => ?_⟩
    obtain ⟨cs', hc, ht'⟩ := hi i him
    rw [hC] at hc
    obtain ⟨ys, n', hn', hy, hlen, hyl, hf⟩ := DataW.trod_struct he ht'
    obtain ⟨_, hcl, hat⟩ := World.cells?_some hc
    simp only [Prod.mk.injEq] at hy
    refine ⟨ys, n', hy.1, hy.2, hyl, fun j f hj => ?_⟩
    obtain ⟨ho, hk⟩ := hone_of hone j f hj
    have hjl : j < fs.size := (Array.getElem?_eq_some_iff.1 hj).1
    have hcell := hat j hjl
    have hv : cs'[j]? = some (cs'[j]'(by omega)) := List.getElem?_eq_getElem (by omega)
    have h1 := hf j f hj
    rw [ho, hk] at h1
    have hone' : (cs'.drop j).take 1 = [cs'[j]'(by omega)] := by
      rw [List.drop_eq_getElem_cons (by omega)]
      rfl
    rw [hone'] at h1
    have hys : ys[j]? = some (ys[j]'(by omega)) := List.getElem?_eq_getElem (by omega)
    refine ⟨_, _, ?_, hys, h1.trans hys⟩
    rw [← Go.Deep.add_add, hcell, hv]
theorem open_rowv {t e : TypeId} {k : IntKind} {v : Value} {n : Nat} {y : DataW H × List MemPlace} (ht : P.underlying t = some (.slice e)) (he : P.underlying e = some (.int k)) (hC : P.cellsOf e = 1)
    (h : DataW.trod enc P w 0 (fun _ => true) true n t [v] = some y) : ∃ a len cap zs, v = .slice a len cap ∧ IsRow k w a len cap zs := by
  rcases open_ints ht he hC h with ⟨hcs, _⟩ | ⟨x, l, c, zs, hcs, _, hl, hm, hz, hx, hcell, hwz⟩
  · simp at hcs
    subst hcs
    exact ⟨none, 0, 0, [], rfl, .inl ⟨rfl, rfl, rfl, rfl⟩⟩
  · simp at hcs
    subst hcs
    exact ⟨_, _, _, zs, rfl, .inr ⟨_, rfl, hl, hm, by simpa using hz, hcell, hwz⟩⟩
end
theorem open_parts {H : Type} {enc : TypeId × Value → H} {w : World} {v : Value} {n : Nat} {y : DataW H × List MemPlace} (hf : DataW.trod enc Tryz.prog w 0 (fun _ => true) true n 30 [v] = some y) : ∃ a len cap, v = .slice a len cap ∧ Parts w a len := by
  rcases open_slice_fields (fs := _) Tryz.underlying30 Tryz.underlying53 (by kernel_rfl) (by kernel_rfl) hf with ⟨hcs, _⟩ | ⟨x, l, c, m, D, Pl, hcs, _, hl, hm, hmm, _, hi⟩
  · simp at hcs
    subst hcs
    exact ⟨none, 0, 0, rfl, by omega, fun i hi => by omega⟩
  · simp at hcs
    subst hcs
    simp only [if_true] at hmm
    subst hmm
    refine ⟨_, _, _, rfl, by unfold maxLen at hm; omega, fun i hil => ?_⟩
    obtain ⟨b, off, spot⟩ := x
    have hspot : spot = none := by
      obtain ⟨ys, n, _, _, _, hg⟩ := hi 0 (by omega)
      obtain ⟨v, y, hc, _⟩ := hg 0 _ rfl
      simpa [Addr.add] using World.cell?_spot hc
    subst hspot
    have hadd : ∀ i, (⟨b, off, none⟩ : Addr).add i = ⟨b, off + i, none⟩ := by intro i; unfold Addr.add; split <;> simp_all
    obtain ⟨ys, n, _, _, _, hg⟩ := hi i (by omega)
    obtain ⟨v0, y0, c0, _, t0⟩ := hg 0 _ rfl
    obtain ⟨v1, y1, c1, _, t1⟩ := hg 1 _ rfl
    obtain ⟨z0, rfl, w0⟩ := field_int Tryz.underlying51 t0
    obtain ⟨A, l4, k4, zs, rfl, hr⟩ := open_rowv Tryz.underlying29 Tryz.underlying5 (by kernel_rfl) t1
    obtain ⟨hb, _, hle, hmx⟩ := row_byt hr
    rw [hadd] at c0 c1
    have hz := bounds_u16 w0
    refine ⟨b, off, z0, A, l4, k4, _, rfl, ?_, hz.1, hz.2, ?_, hb, by unfold maxLen at hmx; omega⟩
    · simpa [Nat.add_assoc] using c0
    · simpa [Nat.add_assoc] using c1
theorem open_state2 {H : Type} {enc : TypeId × Value → H} {w : World} {r : Reach} {b0 : Nat} {v : Value} {d : DataW H} {p : List MemPlace} (hv : Value.okWide Tryz.prog w r b0 34 v) (h : DataW.Trod enc Tryz.prog w 0 (fun _ => true) true 34 v d p) :
    ∃ (rs : List Int) (m k : Int) (M W P : Bool) (c i q g a : Int) (bl : Int) (KA : Option Addr) (kl kc : Nat) (kz : List Int) (PA : Option Addr) (pl pc : Nat), v = .agg (rs.map (Value.int .u32) ++ ([.int .i64 m, .int .i64 k, .bool M, .bool W, .bool P, .int .i64 c, .int .i64 i, .int .i64 q, .int .i64 g, .int .i64 a, .int .u8 bl, .slice KA kl kc, .slice PA pl pc] : List Value)).toArray ∧ rs.length = 16 ∧ (∀ z ∈ rs, (Lit.int .u32 z).wf = true) ∧ (0 ≤ bl ∧ bl ≤ 255) ∧ Byt w KA kl kz ∧ (kl : Int) ≤ 9223372036854775807 ∧ Parts w PA pl := by
  obtain ⟨rs, m, k, M, W, P, c, i, q, g, a, x, y, z, rfl, hr, wr⟩ := open_state hv h
  obtain ⟨fuel, hf⟩ := h
  obtain ⟨xs, n, _, hx, _, hlen, hg⟩ := DataW.trod_struct Tryz.underlying34 hf
  have h2 := hg 2 _ rfl
  have hxs : xs.length = 3 := hlen
  obtain ⟨x0, x1, x2, rfl⟩ := list_3 hxs
  obtain ⟨r0, r1, r2, r3, r4, r5, r6, r7, r8, r9, r10, r11, r12, r13, r14, r15, rfl⟩ := list_16f hr
  have h2' : DataW.trod enc Tryz.prog w 0 (fun _ => true) true n 32 [x, y, z] = some x2 := h2
  have hm := cells_fields Tryz.underlying32 (by kernel_rfl) rfl h2'
  obtain ⟨u0, y0, n0, g0, t0⟩ := hm 0 _ rfl
  obtain ⟨u1, y1, n1, g1, t1⟩ := hm 1 _ rfl
  obtain ⟨u2, y2, n2, g2, t2⟩ := hm 2 _ rfl
  simp only [List.getElem?_cons_zero, List.getElem?_cons_succ, Option.some.injEq] at g0 g1 g2
  subst g0 g1 g2
  obtain ⟨bl, rfl, wb⟩ := field_int Tryz.underlying5 t0
  obtain ⟨KA, kl, kc, kz, rfl, hk⟩ := open_rowv Tryz.underlying29 Tryz.underlying5 (by kernel_rfl) t1
  obtain ⟨PA, pl, pc, rfl, hp⟩ := open_parts t2
  obtain ⟨hb, _, hle, hmx⟩ := row_byt hk
  exact ⟨_, m, k, M, W, P, c, i, q, g, a, bl, KA, kl, kc, _, PA, pl, pc, rfl, hr, wr, bounds_u8 wb, hb, by unfold maxLen at hmx; omega, hp⟩
end Go.Proofs.YthjdjbipfdigeaaGreat

namespace Go.Proofs.YthjdjbipfdigeaaGreat
open Go.ChangeShapes Go.WideShapes Go.ChangeAt Go.RowKit Go.Deep
set_option linter.unusedVariables false
set_option linter.unusedSimpArgs false
theorem cell_lti {w : World} {b o : Nat} {v : Value} (h : w.cell? ⟨b, o, none⟩ = some v) : b < w.heap.size := by
  rcases Nat.lt_or_ge b w.heap.size with h8 | h8
  · exact h8
  · unfold World.cell? at h; simp only [Array.getElem?_eq_none h8] at h; cases h
theorem open_inss {H : Type} {enc : TypeId × Value → H} {w : World} {a : Option Addr} {len cap : Nat} {d : DataW H} {p : List MemPlace} (h : DataW.Trod enc Tryz.prog w 0 (fun _ => true) true 45 (.slice a len cap) d p) : IsIns w a len := by
  obtain ⟨fuel, hf⟩ := h
  rcases open_slice_fields (fs := _) Tryz.underlying45 Tryz.underlying23 (by kernel_rfl) (by kernel_rfl) hf with ⟨hcs, _⟩ | ⟨x, l, c, m, D, Pl, hcs, _, hl, hm, hmm, _, hi⟩
  · simp [Value.cells] at hcs
    obtain ⟨rfl, rfl, rfl⟩ := hcs
    exact ⟨by omega, fun i hi => by omega⟩
  · simp [Value.cells] at hcs
    obtain ⟨rfl, rfl, rfl⟩ := hcs
    simp only [if_true] at hmm
    subst hmm
    refine ⟨by unfold maxLen at hm; omega, fun i hil => ?_⟩
    obtain ⟨b, off, spot⟩ := x
    have hspot : spot = none := by
      obtain ⟨ys, n, _, _, _, hg⟩ := hi 0 (by omega)
      obtain ⟨v, y, hc, _⟩ := hg 0 _ rfl
      simpa [Addr.add] using World.cell?_spot hc
    subst hspot
    have hadd : ∀ i, (⟨b, off, none⟩ : Addr).add i = ⟨b, off + i, none⟩ := by intro i; unfold Addr.add; split <;> simp_all
    obtain ⟨ys, n, _, _, _, hg⟩ := hi i (by omega)
    obtain ⟨v0, y0, c0, _, t0⟩ := hg 0 _ rfl
    obtain ⟨z0, rfl, w0⟩ := field_int Tryz.underlying3 t0
    obtain ⟨v1, y1, c1, _, t1⟩ := hg 1 _ rfl
    obtain ⟨z1, rfl, w1⟩ := field_int Tryz.underlying3 t1
    obtain ⟨v2, y2, c2, _, t2⟩ := hg 2 _ rfl
    obtain ⟨z2, rfl, w2⟩ := field_int Tryz.underlying3 t2
    obtain ⟨v3, y3, c3, _, t3⟩ := hg 3 _ rfl
    obtain ⟨z3, rfl, w3⟩ := field_int Tryz.underlying3 t3
    obtain ⟨v4, y4, c4, _, t4⟩ := hg 4 _ rfl
    obtain ⟨z4, rfl, w4⟩ := field_int Tryz.underlying3 t4
    obtain ⟨v5, y5, c5, _, t5⟩ := hg 5 _ rfl
    obtain ⟨z5, rfl, w5⟩ := field_int Tryz.underlying3 t5
    obtain ⟨v6, y6, c6, _, t6⟩ := hg 6 _ rfl
    obtain ⟨z6, rfl, w6⟩ := field_int Tryz.underlying3 t6
    obtain ⟨v7, y7, c7, _, t7⟩ := hg 7 _ rfl
    obtain ⟨z7, rfl, w7⟩ := field_int Tryz.underlying3 t7
    obtain ⟨v8, y8, c8, _, t8⟩ := hg 8 _ rfl
    obtain ⟨z8, rfl, w8⟩ := field_int Tryz.underlying3 t8
    obtain ⟨v9, y9, c9, _, t9⟩ := hg 9 _ rfl
    obtain ⟨z9, rfl, w9⟩ := field_int Tryz.underlying3 t9
    obtain ⟨v10, y10, c10, _, t10⟩ := hg 10 _ rfl
    obtain ⟨z10, rfl, w10⟩ := field_int Tryz.underlying3 t10
    obtain ⟨v11, y11, c11, _, t11⟩ := hg 11 _ rfl
    obtain ⟨z11, rfl, w11⟩ := field_int Tryz.underlying3 t11
    rw [hadd] at c0 c1 c2 c3 c4 c5 c6 c7 c8 c9 c10 c11
    refine ⟨b, off, z0, z1, z2, z3, z4, z5, z6, z7, z8, z9, z10, z11, rfl, cell_lti c0, fun j v hv => ?_⟩
    have hj : j < 12 := (List.getElem?_eq_some_iff.1 hv).1
    rcases (show j = 0 ∨ j = 1 ∨ j = 2 ∨ j = 3 ∨ j = 4 ∨ j = 5 ∨ j = 6 ∨ j = 7 ∨ j = 8 ∨ j = 9 ∨ j = 10 ∨ j = 11 by omega) with rfl | rfl | rfl | rfl | rfl | rfl | rfl | rfl | rfl | rfl | rfl | rfl
    · simp only [List.getElem?_cons_zero, List.getElem?_cons_succ, Option.some.injEq] at hv
      subst hv
      simpa [Nat.add_assoc] using c0
    · simp only [List.getElem?_cons_zero, List.getElem?_cons_succ, Option.some.injEq] at hv
      subst hv
      simpa [Nat.add_assoc] using c1
    · simp only [List.getElem?_cons_zero, List.getElem?_cons_succ, Option.some.injEq] at hv
      subst hv
      simpa [Nat.add_assoc] using c2
    · simp only [List.getElem?_cons_zero, List.getElem?_cons_succ, Option.some.injEq] at hv
      subst hv
      simpa [Nat.add_assoc] using c3
    · simp only [List.getElem?_cons_zero, List.getElem?_cons_succ, Option.some.injEq] at hv
      subst hv
      simpa [Nat.add_assoc] using c4
    · simp only [List.getElem?_cons_zero, List.getElem?_cons_succ, Option.some.injEq] at hv
      subst hv
      simpa [Nat.add_assoc] using c5
    · simp only [List.getElem?_cons_zero, List.getElem?_cons_succ, Option.some.injEq] at hv
      subst hv
      simpa [Nat.add_assoc] using c6
    · simp only [List.getElem?_cons_zero, List.getElem?_cons_succ, Option.some.injEq] at hv
      subst hv
      simpa [Nat.add_assoc] using c7
    · simp only [List.getElem?_cons_zero, List.getElem?_cons_succ, Option.some.injEq] at hv
      subst hv
      simpa [Nat.add_assoc] using c8
    · simp only [List.getElem?_cons_zero, List.getElem?_cons_succ, Option.some.injEq] at hv
      subst hv
      simpa [Nat.add_assoc] using c9
    · simp only [List.getElem?_cons_zero, List.getElem?_cons_succ, Option.some.injEq] at hv
      subst hv
      simpa [Nat.add_assoc] using c10
    · simp only [List.getElem?_cons_zero, List.getElem?_cons_succ, Option.some.injEq] at hv
      subst hv
      simpa [Nat.add_assoc] using c11
end Go.Proofs.YthjdjbipfdigeaaGreat

namespace Go.Proofs.YthjdjbipfdigeaaGreat.generalRuns
open Go.ChangeShapes Go.WideShapes Go.ChangeAt Go.RowKit
open Go.ChangeMaps (open_string shut_string)
set_option linter.unusedVariables false

set_option maxRecDepth 100000 in
theorem lifted (os : Os) (started : os.Started) (H : Type) (enc : TypeId × Value → H) :
    ReturnsInHanded {} Tryz.checked os 4 .any (Rows.generalRunsSpec.pre6 enc Tryz.prog Tryz.f4 Rows.generalRunsRow.domain false) (Rows.generalRunsSpec.post enc Tryz.prog Tryz.f4 false true false false) := by
  refine returnsInHanded_of_change (C := Tryz.checked) own started (by kernel_rfl) Tryz.func4
    (ChangeSpec.witness6 (enc := enc) (C := Tryz.checked) false ⟨#[], #[.slice none 0 0, .agg #[.int .u32 0, .int .u32 0, .int .u32 0, .int .u32 0, .int .u32 0, .int .u32 0, .int .u32 0, .int .u32 0, .int .u32 0, .int .u32 0, .int .u32 0, .int .u32 0, .int .u32 0, .int .u32 0, .int .u32 0, .int .u32 0, .int .i64 0, .int .i64 0, .bool false, .bool false, .bool false, .int .i64 0, .int .i64 0, .int .i64 0, .int .i64 0, .int .i64 0, .int .u8 0, .slice none 0 0, .slice none 0 0]], []⟩ 8 (by kernel_rfl) (by kernel_rfl) (by kernel_rfl) (by kernel_rfl)) ?_
  intro W base args ds gs before hval0 hW hcnd _
  have hval : ∀ (j : Nat) t v, Tryz.f4.params[j]? = some t → args[j]? = some v → Value.okWide Tryz.prog W .any base t v := hval0
  have hW' := hW
  obtain ⟨p, q, hA0, hV, rfl, hfz, hnd⟩ := hW
  have hA : DataW.TrodAll enc Tryz.prog W 0 (fun _ => true) true Tryz.f4.params.toList args.toList ds p := hA0
  rw [Tryz.params4] at hA hval
  obtain ⟨v0, vs0, d0, ds0, p0, q0, hargs, rfl, rfl, h0, r0⟩ := trodAll_cons hA
  obtain ⟨v1, vs1, d1, ds1, p1, q1, rfl, rfl, rfl, h1, r1⟩ := trodAll_cons r0
  obtain ⟨rfl, rfl, rfl⟩ := trodAll_nil r1
  obtain rfl : args = #[v0, v1] := by cases args; simp_all
  obtain ⟨rfl, rfl⟩ := trodVars_none hV
  have k0 := h0
  have lt0 : ∀ x ∈ p0, x.block < W.heap.size := by obtain ⟨m, hm⟩ := k0; exact DataW.trod_lt m _ _ _ hm
  obtain ⟨a0, len0, cap0, rfl⟩ := okWide_slice Tryz.underlying45 (hval 0 45 v0 rfl rfl)
  have w0 := open_inss h0
  have k1 := h1
  have lt1 : ∀ x ∈ p1, x.block < W.heap.size := by obtain ⟨m, hm⟩ := k1; exact DataW.trod_lt m _ _ _ hm
  obtain ⟨rs1, m1, kk1, M1, W1, P1, c1, i1, qq1, g1, a1, bl1, KA1, kl1, kc1, kz1, PA1, pl1, pcc1, rfl, hr1, wr1, hb1, hk1, hkl1, hp1⟩ := open_state2 (hval 1 34 v1 rfl rfl) h1
  clear hA0 hval0
  refine (generalRuns_walk a0 len0 cap0 rs1 m1 kk1 M1 W1 P1 c1 i1 qq1 g1 a1 bl1 KA1 kl1 kc1 kz1 PA1 pl1 pcc1 W w0 hr1 wr1 hb1 hk1 hkl1 hp1).mono fun e W' ⟨he, bel⟩ => ?_
  subst he
  exact ⟨_, rfl, _, _, _, [], _, [], hW', trodAll_mk1 (shut_bool Tryz.underlying4 _), (trodAll_cons_mk (Below.trod laidOut (by kernel_rfl) (of_decide_eq_true (by kernel_rfl)) k0 bel lt0) (trodAll_cons_mk (Below.trod laidOut (by kernel_rfl) (of_decide_eq_true (by kernel_rfl)) k1 bel lt1) trodAll_mk0)), rfl, bel.frame _, fun h => by cases h⟩

theorem over : Rows.generalRunsRow.holds Tryz.pinned (OpenSpec.ofChange Rows.generalRunsSpec) :=
  OpenClaim.holds_of_wide 4 Tryz.f4 rfl rfl rfl rfl rfl rfl rfl ⟨rfl, rfl, rfl, rfl, rfl⟩ rfl rfl rfl rfl rfl (by kernel_rfl) Tryz.func4 (by kernel_rfl)
    (of_decide_eq_true (by kernel_rfl)) (by unfold Func.isWrapper; first | (rw [if_pos (by decide +kernel)]; kernel_rfl) | (rw [if_neg (by decide +kernel)]; exact ⟨rfl, rfl⟩))
    (fun os started H enc _ => lifted os started H enc)

/-- THE STATEMENT -/
theorem proved : Rows.GeneralRunsSaid := over
end Go.Proofs.YthjdjbipfdigeaaGreat.generalRuns

