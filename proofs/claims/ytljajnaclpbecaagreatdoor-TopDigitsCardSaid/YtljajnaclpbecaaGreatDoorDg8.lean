/- Contracts and laws on the way to the statement, text 8 of 10. Conditions: as each states them. -/
import Derived.Test.YtljajnaclpbecaaGreatDoorDg4
import Derived.Test.YtljajnaclpbecaaGreatDoorDg5
import Derived.Test.YtljajnaclpbecaaGreatDoorDg7
import Derived.Shelf.Strconv.Itoa1
namespace Go.Proofs.YtljajnaclpbecaaGreatDoor
open Go.RowKit
set_option maxRecDepth 100000
set_option linter.unusedVariables false
set_option linter.unusedSimpArgs false
/-- the cells of a run -/
def drC (F : Foot) (ix rs : List Int) (p : Ps) : List Value := ix.map (Value.int .i64) ++ (rs.map (Value.int .u32) ++ (p.v ++ [.pointer (some ⟨F.g, 0, none⟩)]))
structure DR (w0 w : World) (g : Nat) (F : Foot) (ix rs : List Int) (p : Ps) (bs ks : List Int) : Prop where
  m : Bk w g 132 (drC F ix rs p)
  st : St 63 w F bs ks
  b : Ch w0 w [F.gb]
  il : ix.length = 12
  rl : rs.length = 16
  nn : g ≠ F.g ∧ g ≠ F.gb ∧ g ≠ F.gk
section
variable {w0 w w' : World} {g : Nat} {F : Foot} {ix rs : List Int} {p : Ps} {bs bs' ks : List Int} {op fm r1 r2 x2 b1 d1 b2 d2 l1 l2 i2 : Int}
theorem DR.keep (h : DR w0 w g F ix rs p bs ks) (hb : Below w.heap.size w w') : DR w0 w' g F ix rs p bs ks := { h with m := h.m.keep hb, st := h.st.belowS hb, b := h.b.trans (Ch.of_below hb _) }
theorem DR.drew (h : DR w0 w g F ix rs p bs ks) : DR w0 w.drew g F ix rs p bs ks := h.keep (dBelow' (Below.refl _ _) 1)
theorem DR.put_ (h : DR w0 w g F ix rs p bs ks) (hs : St 63 w' F bs' ks) (hc : Ch w w' [F.gb]) : DR w0 w' g F ix rs p bs' ks := { h with m := h.m.ch hc (by simp; exact h.nn.2.1), st := hs, b := h.b.trans hc }
theorem DR.rowR (h : DR w0 w g F ix rs p bs ks) : w.rangeAt g 12 (rs.map (Value.int .u32)) := by
  have hm := Bk.mid h.m
  rw [List.length_map, h.il] at hm
  exact hm
theorem DR.rowP (h : DR w0 w g F ix rs p bs ks) : w.rangeAt g 28 p.v := by
  have hm := h.m
  unfold drC at hm
  rw [← List.append_assoc] at hm
  have hm := Bk.mid hm
  rw [List.length_append, List.length_map, List.length_map, h.il, h.rl] at hm
  exact hm
theorem DR.c38 (h : DR w0 w g F ix rs p bs ks) : w.cell? ⟨g, 38, none⟩ = some (.pointer (some ⟨F.g, 0, none⟩)) := by
  have hm := h.m
  unfold drC at hm
  rw [← List.append_assoc, ← List.append_assoc] at hm
  have hm : Bk w g 132 ((ix.map (Value.int .i64) ++ rs.map (Value.int .u32) ++ p.v) ++ ([.pointer (some ⟨F.g, 0, none⟩)] ++ [])) := by rw [List.append_nil]; exact hm
  have hm := Bk.mid hm
  rw [List.length_append, List.length_append, List.length_map, List.length_map, h.il, h.rl] at hm
  exact hm 0 _ rfl
theorem DR.opn {X : Prop} (h : DR w0 w g F [op, fm, r1, r2, x2, b1, d1, b2, d2, l1, l2, i2] rs p bs ks) (hX : Hid (DR w0 w g F [op, fm, r1, r2, x2, b1, d1, b2, d2, l1, l2, i2] rs p bs ks) → w.cell? ⟨g, 0, none⟩ = some (.int .i64 op) → w.cell? ⟨g, 2, none⟩ = some (.int .i64 r1) → w.cell? ⟨g, 4, none⟩ = some (.int .i64 x2) → w.cell? ⟨g, 5, none⟩ = some (.int .i64 b1) → w.cell? ⟨g, 6, none⟩ = some (.int .i64 d1) → w.cell? ⟨g, 7, none⟩ = some (.int .i64 b2) → w.cell? ⟨g, 8, none⟩ = some (.int .i64 d2) → w.cell? ⟨g, 9, none⟩ = some (.int .i64 l1) → w.cell? ⟨g, 10, none⟩ = some (.int .i64 l2) → w.cell? ⟨g, 13, none⟩ = some (.int .u32 (rs.getD 1 0)) → w.cell? ⟨g, 29, none⟩ = some (.int .i64 p.key) → w.cell? ⟨g, 38, none⟩ = some (.pointer (some ⟨F.g, 0, none⟩)) → (∀ j, w.frozen? ⟨g, j, none⟩ = false) → X) : X := by
  have c := fun j v (hj : (drC F [op, fm, r1, r2, x2, b1, d1, b2, d2, l1, l2, i2] rs p)[j]? = some v) => h.m.cell (c := j) hj
  refine hX (Lib.hid h) (c 0 _ rfl) (c 2 _ rfl) (c 4 _ rfl) (c 5 _ rfl) (c 6 _ rfl) (c 7 _ rfl) (c 8 _ rfl) (c 9 _ rfl) (c 10 _ rfl) (h.rowR 1 _ ?_) (h.rowP 1 _ rfl) h.c38 (fun j => h.m.free j)
  rw [List.getElem?_map, List.getElem?_eq_getElem (by rw [h.rl]; omega), Option.map_some, List.getD_eq_getElem?_getD, List.getElem?_eq_getElem (by rw [h.rl]; omega)]
  rfl
end
section
variable {P : Program} {L : List Oper} {Q : Exit → Act → World → Prop} {md : Region.Mode} {S : World → Prop} {i : Nat} {v : Value} {oi : Oper} {fuel : Nat} {listed : Array Bool} {a : Act} {w : World} {X : Prop}
/-- tkn where S holds DR of some storage -/
theorem tkd (h : X) (hn : nxt md L listed = some i := by with_unfolding_all rfl) (hi : L[i]? = some oi := by rfl)
    (hw : Region.wanted oi (yielded L.toArray a.tmps) = true := by rfl) (y : ∀ w, S w → (execOp a.eval oi).run P w = .ok (.value v) w := by (intro w hSw; obtain ⟨_, hx, hy⟩ := hSw; refine DR.opn hx ?_; intros; go_simp; (try with_reducible rfl)))
    (hP : wpAnyH P md L.toArray Q S fuel (listed.setIfInBounds i true) (a.put oi.dst v) w = X := by (simp only [Act.put, List.setIfInBounds_toArray, List.set_cons_zero, List.set_cons_succ]; try rfl))
    (hs : Region.noSelect L.toArray = true := by kernel_rfl)
    (hQ : ∀ c a w, Q (.panic c) (a.put oi.dst v) w → Q (.panic c) a w := by exact fun _ _ _ h => h) (hS : S w := by assumption) : wpAnyH P md L.toArray Q S (fuel + 1) listed a w := takeL hi hs (nxt_spec hn).1 (nxt_spec hn).2 hQ (.inl ⟨hw, y⟩) hS (hP ▸ h)
end
section
variable {w0 w w' : World} {g : Nat} {F : Foot} {ix rs : List Int} {p : Ps} {bs bs' ks : List Int} {op fm r1 r2 x2 b1 d1 b2 d2 l1 l2 i2 : Int}
set_option maxRecDepth 1000000 in
set_option maxHeartbeats 8000000 in
theorem dcheck_c (w : World) : Calls Tryz.prog 83 #[.int .i64 0] w fun e w' => e = .returned (.tuple #[]) ∧ w = w' := by
  go_enter Tryz.func83, Tryz.ntmps83
  go_wp2
  go_end0
  exact ⟨rfl, rfl⟩
set_option maxRecDepth 1000000 in
set_option maxHeartbeats 8000000 in
theorem dneed_c (w : World) : Calls Tryz.prog 79 #[.bool true] w fun e w' => e = .returned (.tuple #[]) ∧ w = w' := by
  go_enter Tryz.func79, Tryz.ntmps79
  go_wp2
  go_end0
  exact ⟨rfl, rfl⟩
set_option maxRecDepth 1000000 in
set_option maxHeartbeats 8000000 in
theorem daddr_c {b n cap : Nat} {d : Int} (hn : n ≤ 2) (hc : ∀ i, i < n → w.cell? ⟨b, i, none⟩ = some (.int .i64 0)) (h1 : IntKind.u32.wrap d = d) (h2 : bits .and .u32 d 16777215 = d) (h3 : IntKind.i64.wrap d = d) : Calls Tryz.prog 141 #[.pointer (some ⟨g, 0, none⟩), .int .i64 d, .slice (some ⟨b, 0, none⟩) n cap] w fun e w' => e = .returned (.int .i64 d) ∧ w = w' := by
  have HC := Lib.hid hc
  clear hc
  go_enter Tryz.func141, Tryz.ntmps141
  go_wp2
  go_loopw [7, 14] (fun s x W => ∃ k : Nat, k ≤ n ∧ x = .int .i64 (k : Int) ∧ s = .int .u32 d ∧ w = W) (fun _ x _ => n - (intOf x).toNat)
  case atStart => exact ⟨0, Nat.zero_le _, rfl, rfl, rfl⟩
  case round =>
    obtain ⟨k, hk, rfl, rfl, rfl⟩ := hrel
    by_cases hlt : k < n
    · have k1 : (k : Int) < (n : Int) := by omega
      have c := HC.out k hlt
      go_wp2
      go_roundw
      case rel => exact ⟨k + 1, by omega, by go_num, rfl, trivial⟩
      case measure => simp [intOf]; omega
    · have k1 : ¬ ((k : Int) < (n : Int)) := by omega
      go_wp2
      go_ret
      exact ⟨rfl, rfl⟩
set_option maxRecDepth 1000000 in
set_option maxHeartbeats 8000000 in
theorem da_c (h : DR w0 w g F [op, fm, r1, r2, 0, b1, d1, 0, d2, l1, l2, i2] rs p bs ks) (h1 : IntKind.u32.wrap d2 = d2) (h2 : bits .and .u32 d2 16777215 = d2) (h3 : IntKind.i64.wrap d2 = d2) : Calls Tryz.prog 80 #[.pointer (some ⟨g, 0, none⟩)] w fun e w' => e = .returned (.int .i64 d2) ∧ Below w.heap.size w w' := by
  have AC := Lib.hid (fun W b cap hc => daddr_c (w := W) (g := g) (b := b) (n := 2) (cap := cap) (d := d2) (by omega) hc h1 h2 h3)
  have H := Lib.hid h
  clear h h1 h2 h3
  go_enter Tryz.func80, Tryz.ntmps80
  go_upto_region 1 with fail
  refine wp_region_held_drew (S := fun W => ∃ b, DR w0 W g F [op, fm, r1, r2, 0, b1, d1, 0, d2, l1, l2, i2] rs p b ks ∧ Below w.heap.size w W) (by kernel_rfl) ⟨_, H.out.drew, dBelow' (Below.refl _ _) 1⟩ (fun hHeld => ?_)
  have Z := Lib.hid (show DR w0 w.drew g F [op, fm, r1, r2, 0, b1, d1, 0, d2, l1, l2, i2] rs p bs ks ∧ Below w.heap.size w w.drew from ⟨H.out.drew, dBelow' (Below.refl _ _) 1⟩)
  obtain ⟨v0, hv⟩ : ∃ V, w.drew = V := ⟨_, rfl⟩
  rw [hv] at Z hHeld ⊢
  clear hv H
  repeat refine tkd ?_
  refine tk1 (i := 16) (by with_unfolding_all rfl) ?_
  refine opb (v := .slice (some ⟨v0.heap.size, 0, none⟩) 2 2) (w1 := v0.alloc (.cells ([.int .i64 0, .int .i64 0] : List Value).toArray 3)) (R := fun W => (DR w0 W g F [op, fm, r1, r2, 0, b1, d1, 0, d2, l1, l2, i2] rs p bs ks ∧ Below w.heap.size w W) ∧ Bk W v0.heap.size 3 [.int .i64 0, .int .i64 0]) ⟨⟨Z.out.1.keep ((Below.refl _ _).alloc (Nat.le_refl _) _), Z.out.2.trans (((Below.refl _ _).alloc (Nat.le_refl _) _).mono Z.out.2.size)⟩, Bk.new _ _ _⟩ (fun _ h => ⟨_, h.1⟩) ?_
  clear Z hHeld
  intro v1 Z hHeld
  refine tkc (R := fun W => DR w0 W g F [op, fm, r1, r2, 0, b1, d1, 0, d2, l1, l2, i2] rs p bs ks ∧ Below w.heap.size w W) ((AC.out v1 _ _ (fun i hi => Z.out.2.cell (by rcases i with _ | _ | i <;> first | rfl | omega))).mono fun e w' h => ⟨h.1, h.2 ▸ Z.out.1⟩) (fun _ h => ⟨_, h⟩) ?_
  clear Z hHeld
  intro v2 Z hHeld
  repeat refine tkd ?_
  refine wpAnyH_done (by with_unfolding_all rfl) ?_ _
  clear hHeld
  go_wp2
  go_ret
  exact ⟨rfl, Z.out.2⟩
set_option maxRecDepth 1000000 in
set_option maxHeartbeats 8000000 in
theorem da1_c (h : DR w0 w g F [op, fm, r1, r2, x2, 0, d1, b2, d2, l1, l2, i2] rs p bs ks) (h1 : IntKind.u32.wrap d1 = d1) (h2 : bits .and .u32 d1 16777215 = d1) (h3 : IntKind.i64.wrap d1 = d1) : Calls Tryz.prog 86 #[.pointer (some ⟨g, 0, none⟩)] w fun e w' => e = .returned (.int .i64 d1) ∧ Below w.heap.size w w' := by
  have AC := Lib.hid (fun W b cap hc => daddr_c (w := W) (g := g) (b := b) (n := 1) (cap := cap) (d := d1) (by omega) hc h1 h2 h3)
  have H := Lib.hid h
  clear h h1 h2 h3
  go_enter Tryz.func86, Tryz.ntmps86
  go_upto_region 1 with fail
  refine wp_region_held_drew (S := fun W => ∃ b, DR w0 W g F [op, fm, r1, r2, x2, 0, d1, b2, d2, l1, l2, i2] rs p b ks ∧ Below w.heap.size w W) (by kernel_rfl) ⟨_, H.out.drew, dBelow' (Below.refl _ _) 1⟩ (fun hHeld => ?_)
  have Z := Lib.hid (show DR w0 w.drew g F [op, fm, r1, r2, x2, 0, d1, b2, d2, l1, l2, i2] rs p bs ks ∧ Below w.heap.size w w.drew from ⟨H.out.drew, dBelow' (Below.refl _ _) 1⟩)
  obtain ⟨v0, hv⟩ : ∃ V, w.drew = V := ⟨_, rfl⟩
  rw [hv] at Z hHeld ⊢
  clear hv H
  repeat refine tkd ?_
  refine tk1 (i := 11) (by with_unfolding_all rfl) ?_
  refine opb (v := .slice (some ⟨v0.heap.size, 0, none⟩) 1 1) (w1 := v0.alloc (.cells ([.int .i64 0] : List Value).toArray 3)) (R := fun W => (DR w0 W g F [op, fm, r1, r2, x2, 0, d1, b2, d2, l1, l2, i2] rs p bs ks ∧ Below w.heap.size w W) ∧ Bk W v0.heap.size 3 [.int .i64 0]) ⟨⟨Z.out.1.keep ((Below.refl _ _).alloc (Nat.le_refl _) _), Z.out.2.trans (((Below.refl _ _).alloc (Nat.le_refl _) _).mono Z.out.2.size)⟩, Bk.new _ _ _⟩ (fun _ h => ⟨_, h.1⟩) ?_
  clear Z hHeld
  intro v1 Z hHeld
  refine tkc (R := fun W => DR w0 W g F [op, fm, r1, r2, x2, 0, d1, b2, d2, l1, l2, i2] rs p bs ks ∧ Below w.heap.size w W) ((AC.out v1 _ _ (fun i hi => Z.out.2.cell (by rcases i with _ | _ | i <;> first | rfl | omega))).mono fun e w' h => ⟨h.1, h.2 ▸ Z.out.1⟩) (fun _ h => ⟨_, h⟩) ?_
  clear Z hHeld
  intro v2 Z hHeld
  repeat refine tkd ?_
  refine wpAnyH_done (by with_unfolding_all rfl) ?_ _
  clear hHeld
  go_wp2
  go_ret
  exact ⟨rfl, Z.out.2⟩
set_option maxRecDepth 1000000 in
set_option maxHeartbeats 8000000 in
theorem dfetch_c {a n : Nat} (h : DR w0 w g F [op, fm, r1, r2, x2, b1, d1, b2, d2, l1, l2, i2] rs p bs ks) (hn : 0 < n) (hc : sCode (alF p.key) bs.length ks (a : Int) (n : Int) = 0) : Calls Tryz.prog 82 #[.pointer (some ⟨g, 0, none⟩), .int .i64 (a : Int), .int .i64 (n : Int)] w fun e w' => ∃ v, e = .returned v ∧ ∃ b cap, v = .slice (some ⟨b, 0, none⟩) n cap ∧ Byt w' (some ⟨b, 0, none⟩) n (sGet bs (a : Int) (n : Int)) ∧ w.heap.size ≤ b ∧ b < w'.heap.size ∧ Below w.heap.size w w' := by
  have FC := Lib.hid (fun W (H : DR w0 W g F [op, fm, r1, r2, x2, b1, d1, b2, d2, l1, l2, i2] rs p bs ks) => show Calls Tryz.prog 47 #[.pointer (some ⟨F.g, 0, none⟩), .int .i64 (a : Int), .int .i64 (n : Int), .int .i64 p.key] W fun e w' => ∃ v, e = .returned v ∧ ∃ b cap, v = .tuple #[.slice (some ⟨b, 0, none⟩) n cap, .int .i64 0] ∧ Byt w' (some ⟨b, 0, none⟩) n (sGet bs (a : Int) (n : Int)) ∧ W.heap.size ≤ b ∧ b < w'.heap.size ∧ Below W.heap.size W w' from by
    have hf := fetch_c W H.st (a : Int) (n : Int) p.key
    have hg : (sGet bs (a : Int) (n : Int)).length = n := by
      have h1 := sCode_zero hc
      obtain ⟨_, _, _, _⟩ := sIn_yes h1
      unfold sGet; rw [if_pos h1]; simp; omega
    rw [hc, show sFet (alF p.key) bs ks (a : Int) (n : Int) = sGet bs (a : Int) (n : Int) from by unfold sFet; rw [if_pos hc]] at hf
    refine hf.mono ?_
    rintro e w' ⟨A, l, cap, rfl, hO, hb⟩
    obtain rfl : l = n := hO.len.symm.trans hg
    obtain ⟨b, cap', hv, h1, h2, -, -⟩ := hO.pos hn
    injection hv with e1 e2 e3
    subst e1 e3
    exact ⟨_, rfl, b, _, rfl, hO.byt, h1, h2, hb⟩)
  have H := Lib.hid h
  obtain ⟨A, hA⟩ : ∃ A : Int, (a : Int) = A := ⟨_, rfl⟩
  rw [hA] at FC ⊢
  clear h hc hA
  go_enter Tryz.func82, Tryz.ntmps82
  go_upto_region 1 with fail
  refine wp_region_held_drew (S := fun W => ∃ b, DR w0 W g F [op, fm, r1, r2, x2, b1, d1, b2, d2, l1, l2, i2] rs p b ks ∧ True) (by kernel_rfl) ⟨_, H.out.drew, trivial⟩ (fun hHeld => ?_)
  replace H := Lib.hid H.out.drew
  obtain ⟨v0, hv⟩ : ∃ V, w.drew = V := ⟨_, rfl⟩
  have L0 := Lib.hid (show Below w.heap.size w v0 from hv ▸ dBelow' (Below.refl _ _) 1)
  rw [hv] at H hHeld ⊢
  clear hv
  repeat refine tkd ?_
  refine tkce (R := fun v w' => (∃ b cap, v = .tuple #[.slice (some ⟨b, 0, none⟩) n cap, .int .i64 0] ∧ Byt w' (some ⟨b, 0, none⟩) n (sGet bs A (n : Int)) ∧ v0.heap.size ≤ b ∧ b < w'.heap.size ∧ Below v0.heap.size v0 w') ∧ DR w0 w' g F [op, fm, r1, r2, x2, b1, d1, b2, d2, l1, l2, i2] rs p bs ks) ((FC.out _ H.out).mono fun e w' ⟨v, he, b, cap, hv, h1, h2, h3, h4⟩ => ⟨v, he, ⟨b, cap, hv, h1, h2, h3, h4⟩, H.out.keep h4⟩) (fun _ _ h => ⟨_, h.2, trivial⟩) ?_
  clear H hHeld FC
  intro v w1 Z hHeld
  obtain ⟨⟨b, cap, rfl, hy, hb1, hb2, hB⟩, hD⟩ := Z.out
  have L1 := Lib.hid (L0.out.trans (hB.mono L0.out.size))
  have Y := Lib.hid hy
  have l1 := L0.out.size
  clear Z hy hD hB
  repeat refine tkd ?_
  refine wpAnyH_done (by with_unfolding_all rfl) ?_ _
  clear hHeld
  go_wp2_with (go_at_call 83; refine (dcheck_c _).mono ?_; rintro e wx ⟨rfl, hwx⟩; subst hwx)
  go_ret
  exact ⟨_, rfl, b, cap, rfl, Y.out, by omega, hb2, L1.out⟩
set_option maxRecDepth 1000000 in
set_option maxHeartbeats 8000000 in
theorem dput_c {a : Int} {A : Option Addr} {len cap : Nat} {ys : List Int} (h : DR w0 w g F [op, fm, r1, r2, x2, b1, d1, b2, d2, l1, l2, i2] rs p bs ks) (hy : Byt w A len ys) (hl : (len : Int) ≤ 9223372036854775807) (hc : sCode (alP p.key) bs.length ks a (len : Int) = 0) : Calls Tryz.prog 84 #[.pointer (some ⟨g, 0, none⟩), .int .i64 a, .slice A len cap] w fun e w' => e = .returned (.tuple #[]) ∧ DR w0 w' g F [op, fm, r1, r2, x2, b1, d1, b2, d2, l1, l2, i2] rs p (sPut (alP p.key) bs ks a ys) ks ∧ Ch w w' [F.gb] := by
  have PC := Lib.hid (fun W (hW : DR w0 W g F [op, fm, r1, r2, x2, b1, d1, b2, d2, l1, l2, i2] rs p bs ks) (hY : Byt W A len ys) => (put_c W hW.st a p.key A len cap ys hY hl).mono (R' := fun e w' => e = .returned (.int .i64 0) ∧ DR w0 w' g F [op, fm, r1, r2, x2, b1, d1, b2, d2, l1, l2, i2] rs p (sPut (alP p.key) bs ks a ys) ks ∧ Ch W w' [F.gb]) fun e w' h' => ⟨by rw [h'.1, hc], hW.put_ h'.2.1 (Ch.of_grown h'.2.2), Ch.of_grown h'.2.2⟩)
  have H := Lib.hid h
  have Y := Lib.hid hy
  clear h hc hy hl
  go_enter Tryz.func84, Tryz.ntmps84
  go_upto_region 0 with fail
  refine wp_region_held_drew (S := fun W => ∃ b, DR w0 W g F [op, fm, r1, r2, x2, b1, d1, b2, d2, l1, l2, i2] rs p b ks ∧ True) (by kernel_rfl) ⟨_, H.out.drew, trivial⟩ (fun hHeld => ?_)
  replace H := Lib.hid H.out.drew
  replace Y := Lib.hid (show Byt w.drew A len ys from Y.out.keep (dBelow' (Below.refl _ _) 1))
  have C0 := Lib.hid (show Ch w w.drew [F.gb] from Ch.of_below (dBelow' (Below.refl w.heap.size w) 1) [F.gb])
  obtain ⟨v0, hv⟩ : ∃ V, w.drew = V := ⟨_, rfl⟩
  rw [hv] at H hHeld Y C0 ⊢
  clear hv
  repeat refine tkd ?_
  refine tkc (R := fun W => DR w0 W g F [op, fm, r1, r2, x2, b1, d1, b2, d2, l1, l2, i2] rs p (sPut (alP p.key) bs ks a ys) ks ∧ Ch w W [F.gb]) ((PC.out _ H.out Y.out).mono fun e w' h => ⟨h.1, h.2.1, C0.out.trans h.2.2⟩) (fun _ h => ⟨_, h.1, trivial⟩) ?_
  clear H Y PC C0 hHeld
  intro w1 Z hHeld
  repeat refine tkd ?_
  refine tkc (R := fun W => DR w0 W g F [op, fm, r1, r2, x2, b1, d1, b2, d2, l1, l2, i2] rs p (sPut (alP p.key) bs ks a ys) ks ∧ Ch w W [F.gb]) ((dcheck_c _).mono fun e w' h => ⟨h.1, h.2 ▸ Z.out⟩) (fun _ h => ⟨_, h.1, trivial⟩) ?_
  clear Z hHeld
  intro w2 Z hHeld
  refine wpAnyH_done (by with_unfolding_all rfl) ?_ _
  clear hHeld
  go_wp2
  go_end0
  exact ⟨rfl, Z.out.1, Z.out.2⟩
set_option maxRecDepth 1000000 in
set_option maxHeartbeats 8000000 in
theorem dsecond_c {d n : Nat} (h : DR w0 w g F [op, fm, r1, r2, 0, b1, d1, 0, d2, l1, l2, i2] rs p bs ks) (hd : d2 = (d : Int)) (h1 : IntKind.u32.wrap d2 = d2) (h2 : bits .and .u32 d2 16777215 = d2) (h3 : IntKind.i64.wrap d2 = d2) (hn : 0 < n) (hl : IntKind.i64.wrap (l2 + 1) = (n : Int)) (hc : sCode (alF p.key) bs.length ks d2 (n : Int) = 0) : Calls Tryz.prog 88 #[.pointer (some ⟨g, 0, none⟩)] w fun e w' => ∃ v, e = .returned v ∧ ∃ b cap, v = .slice (some ⟨b, 0, none⟩) n cap ∧ Byt w' (some ⟨b, 0, none⟩) n (sGet bs d2 (n : Int)) ∧ w.heap.size ≤ b ∧ b < w'.heap.size ∧ Below w.heap.size w w' := by
  have AC := Lib.hid (fun W (hW : DR w0 W g F [op, fm, r1, r2, 0, b1, d1, 0, d2, l1, l2, i2] rs p bs ks) => da_c hW h1 h2 h3)
  have FC := Lib.hid (fun W (hW : DR w0 W g F [op, fm, r1, r2, 0, b1, d1, 0, d2, l1, l2, i2] rs p bs ks) => by
    have := dfetch_c (a := d) hW hn (hd ▸ hc)
    rw [← hd] at this
    exact this)
  have H := Lib.hid h
  clear h hc h1 h2 h3 hd
  go_enter Tryz.func88, Tryz.ntmps88
  go_upto_region 1 with fail
  refine wp_region_held_drew (S := fun W => ∃ b, DR w0 W g F [op, fm, r1, r2, 0, b1, d1, 0, d2, l1, l2, i2] rs p b ks ∧ True) (by kernel_rfl) ⟨_, H.out.drew, trivial⟩ (fun hHeld => ?_)
  have Z := Lib.hid (show DR w0 w.drew g F [op, fm, r1, r2, 0, b1, d1, 0, d2, l1, l2, i2] rs p bs ks ∧ Below w.heap.size w w.drew from ⟨H.out.drew, dBelow' (Below.refl _ _) 1⟩)
  obtain ⟨v0, hv⟩ : ∃ V, w.drew = V := ⟨_, rfl⟩
  rw [hv] at Z hHeld ⊢
  clear hv H
  repeat refine tkd ?_
  refine tkc (R := fun W => DR w0 W g F [op, fm, r1, r2, 0, b1, d1, 0, d2, l1, l2, i2] rs p bs ks ∧ Below w.heap.size w W) ((AC.out _ Z.out.1).mono fun e w' h => ⟨h.1, Z.out.1.keep h.2, Z.out.2.trans (h.2.mono Z.out.2.size)⟩) (fun _ h => ⟨_, h.1, trivial⟩) ?_
  clear Z hHeld
  intro v1 Z hHeld
  repeat refine tkd ?_
  refine tkce (R := fun v w' => (∃ b cap, v = .slice (some ⟨b, 0, none⟩) n cap ∧ Byt w' (some ⟨b, 0, none⟩) n (sGet bs d2 (n : Int)) ∧ w.heap.size ≤ b ∧ b < w'.heap.size ∧ Below w.heap.size w w') ∧ DR w0 w' g F [op, fm, r1, r2, 0, b1, d1, 0, d2, l1, l2, i2] rs p bs ks) ((FC.out _ Z.out.1).mono fun e w' ⟨v, he, b, cap, hv, h1, h2, h3, h4⟩ => ⟨v, he, ⟨b, cap, hv, h1, by have := Z.out.2.size; omega, h3, Z.out.2.trans (h4.mono Z.out.2.size)⟩, Z.out.1.keep h4⟩) (fun _ _ h => ⟨_, h.2, trivial⟩) ?_
  clear Z hHeld AC FC
  intro v w1 Z hHeld
  obtain ⟨⟨b, cap, rfl, hy, hb1, hb2, hB⟩, hD⟩ := Z.out
  repeat refine tkd ?_
  refine wpAnyH_done (by with_unfolding_all rfl) ?_ _
  clear hHeld
  go_wp2
  go_ret
  exact ⟨_, rfl, b, cap, rfl, hy, hb1, hb2, hB⟩
end
end Go.Proofs.YtljajnaclpbecaaGreatDoor

namespace Go.Proofs.YtljajnaclpbecaaGreatDoor
open Go.RowKit
set_option maxRecDepth 100000
set_option linter.unusedVariables false
set_option linter.unusedSimpArgs false
open Go.Lib
/-- a number's digits as a string of Go's -/
def dstr (u : Nat) : ByteArray := ⟨(Lib.decDigits u).toArray⟩
theorem dstr_size (u : Nat) : (dstr u).size = Lib.nDigits u := by
  show (Lib.decDigits u).toArray.size = _
  rw [List.size_toArray, Lib.decDigits_length]
theorem nd_pos (u : Nat) : 1 ≤ Lib.nDigits u := by unfold Lib.nDigits; split <;> omega
theorem nd_le : ∀ (n u : Nat), 1 ≤ n → u < 10 ^ n → Lib.nDigits u ≤ n
  | 0, u, h, _ => by omega
  | n + 1, u, _, h => by
    unfold Lib.nDigits
    split
    · omega
    · by_cases hn : n = 0
      · subst hn; simp at h; omega
      · have := nd_le n (u / 10) (by omega) (by rw [Nat.pow_succ] at h; omega)
        omega
/-- digit i from the left -/
theorem dd_get (u i : Nat) (h : i < (Lib.decDigits u).length) : ((Lib.decDigits u)[i].toNat) = 48 + u / 10 ^ (Lib.nDigits u - 1 - i) % 10 := by
  have e := Lib.decDigits_eq u
  have : (Lib.decDigits u)[i] = Lib.dg u (Lib.nDigits u - 1 - i) := by
    have h2 : i < ((List.range (Lib.nDigits u)).map fun t => Lib.dg u (Lib.nDigits u - 1 - t)).length := by rw [← e]; exact h
    have h3 : (Lib.decDigits u)[i] = ((List.range (Lib.nDigits u)).map fun t => Lib.dg u (Lib.nDigits u - 1 - t))[i] := by congr 1
    rw [h3, List.getElem_map, List.getElem_range]
  rw [this]
  unfold Lib.dg
  have : u / 10 ^ (Lib.nDigits u - 1 - i) % 10 < 10 := Nat.mod_lt _ (by omega)
  simp
  omega
theorem nd_step {u : Nat} (h : 10 ≤ u) : Lib.nDigits u = Lib.nDigits (u / 10) + 1 := by
  conv => lhs; rw [Lib.nDigits]
  rw [dif_neg (by omega)]
theorem nd_top : ∀ u : Nat, 10 ≤ u → u / 10 ^ (Lib.nDigits u - 1) % 10 ≠ 0 := by
  intro u
  induction u using Nat.strongRecOn with
  | _ u ih =>
    intro h
    rw [nd_step h]
    have hp := nd_pos (u / 10)
    rw [show Lib.nDigits (u / 10) + 1 - 1 = (Lib.nDigits (u / 10) - 1) + 1 by omega, Nat.pow_succ', ← Nat.div_div_eq_div_mul]
    by_cases h2 : 10 ≤ u / 10
    · exact ih (u / 10) (by omega) h2
    · rw [show Lib.nDigits (u / 10) = 1 by unfold Lib.nDigits; rw [dif_pos (by omega)]]
      simp
      omega
theorem dd_byte (u i : Nat) (h : i < Lib.nDigits u) (W : World) : (Instr.index 9 (.string (dstr u)) (.int .i64 (i : Int))).run Tryz.prog W = .ok (.int .u8 ((48 + u / 10 ^ (Lib.nDigits u - 1 - i) % 10 : Nat) : Int)) W := by
  have hs := dstr_size u
  rw [run_index_string W 9 (dstr u) .i64 (i : Int) Tryz.underlying9, dif_pos (by omega)]
  have hl : i < (Lib.decDigits u).length := by rw [Lib.decDigits_length]; exact h
  have e : ((dstr u)[((i : Int)).toNat]'(by omega)) = (Lib.decDigits u)[i] := by
    show ((Lib.decDigits u).toArray)[((i : Int)).toNat]'(by simpa using hl) = _
    simp
  rw [e, dd_get u i hl]
theorem dcat (u : Nat) : dstr u ++ (⟨#[]⟩ : ByteArray) = dstr u := by
  apply ByteArray.ext
  simp
set_option maxRecDepth 1000000 in
set_option maxHeartbeats 8000000 in
theorem ddigits_c (neg : Bool) (u : Nat) (hu : u < 18446744073709551616) (w : World) (htab : Lib.TabIs Tryz.prog w "internal/strconv.uint64pow10" .u64 Lib.pow10Tab) : Calls Tryz.prog 144 #[.agg #[.bool neg, .int .u64 0, .int .u64 (u : Int)]] w fun e w' => e = .returned (.string (dstr u)) ∧ Below w.heap.size w w' := by
  have hT := Lib.tabIs_alloc htab (.cells #[.bool neg, .int .u64 0, .int .u64 (u : Int)] 179)
  have FC := Lib.hid (show Calls Tryz.prog _ _ _ fun e w' => e = .returned (.string (dstr u)) ∧ _ from sfunt_c u hu _ hT)
  clear htab hT
  go_enter Tryz.func144, Tryz.ntmps144
  go_wp2
  obtain ⟨w1, hW⟩ : ∃ V, w.alloc (.cells #[.bool neg, .int .u64 0, .int .u64 (u : Int)] 179) = V := ⟨_, rfl⟩
  have hb1 := Bk.new w [.bool neg, .int .u64 0, .int .u64 (u : Int)] 179
  have hB1 := (Below.refl w.heap.size w).alloc (Nat.le_refl _) (.cells #[.bool neg, .int .u64 0, .int .u64 (u : Int)] 179)
  rw [hW] at hb1 hB1 FC
  first | rw [hW] | skip
  have HB := Lib.hid hb1
  have B1 := Lib.hid hB1
  clear hW hb1 hB1
  go_loopw [3] (fun s W => s = .string ⟨#[]⟩ ∧ w1 = W) (fun _ _ => 0)
  case atStart => exact ⟨rfl, rfl⟩
  case round =>
    obtain ⟨rfl, rfl⟩ := hrel
    have c1 := HB.out.cell (c := 1) rfl
    have c2 := HB.out.cell (c := 2) rfl
    clear HB
    have hcat := dcat u
    have hs0 : ¬ (9223372036854775807 < (dstr u).size) := by
      rw [dstr_size]
      have := nd_le 20 u (by omega) (by omega)
      omega
    go_upto_region 7 with fail
    refine wp_region_list ?_
    simp only [List.append_eq, List.cons_append, List.nil_append]
    refine lsv (w' := w1) ?_
    refine lsv (w' := w1) ?_
    refine lsc FC.out ?_
    intro w2 hb2
    have B2 := Lib.hid (B1.out.trans (hb2.out.mono B1.out.size))
    clear FC B1 hb2 c1 c2
    refine lsv (w' := w2) ?_
    refine lsv (v := .string (dstr u)) (w' := w2) ?_
    refine lsv (w' := w2) ?_
    refine wpList_nil ?_
    go_wp2
    go_loopw [3] (fun s W => s = .string (dstr u) ∧ w2 = W) (fun _ _ => 0)
    case atStart => exact ⟨rfl, rfl⟩
    case round =>
      obtain ⟨rfl, rfl⟩ := hrel
      have hsz := dstr_size u
      by_cases h10 : u < 10
      · have k1 : ¬ ((1 : Int) < ((dstr u).size : Int)) := by rw [hsz, show Lib.nDigits u = 1 by unfold Lib.nDigits; rw [dif_pos h10]]; omega
        clear hsz hcat
        go_wp2
        go_ret
        exact ⟨rfl, B2.out⟩
      · have k1 : (1 : Int) < ((dstr u).size : Int) := by rw [hsz, nd_step (by omega)]; have := nd_pos (u / 10); omega
        have hix := fun W => dd_byte u 0 (by have := nd_pos u; omega) W
        obtain ⟨m, hm⟩ : ∃ m, u / 10 ^ (Lib.nDigits u - 1 - 0) % 10 = m := ⟨_, rfl⟩
        have hm0 : m ≠ 0 := by rw [← hm]; exact nd_top u (by omega)
        rw [hm] at hix
        obtain ⟨c, hc⟩ : ∃ c : Int, ((48 + m : Nat) : Int) = c := ⟨_, rfl⟩
        rw [hc] at hix
        have e1 : (c == 48) = false := by
          have : c ≠ 48 := by omega
          simpa using this
        have hix : ∀ W, (Instr.index 9 (.string (dstr u)) (.int .i64 0)).run Tryz.prog W = .ok (.int .u8 c) W := hix
        clear hsz hcat hc hm hm0
        go_wp2
        go_ret
        exact ⟨rfl, B2.out⟩
theorem lead (u : Nat) (h : ¬ u < 10) : ∃ c : Int, (∀ W, (Instr.index 9 (.string (dstr u)) (.int .i64 0)).run Tryz.prog W = .ok (.int .u8 c) W) ∧ (c == 48) = false := by
  have hix := fun W => dd_byte u 0 (by have := nd_pos u; omega) W
  have hm0 : u / 10 ^ (Lib.nDigits u - 1 - 0) % 10 ≠ 0 := nd_top u (by omega)
  refine ⟨_, hix, ?_⟩
  have : ((48 + u / 10 ^ (Lib.nDigits u - 1 - 0) % 10 : Nat) : Int) ≠ 48 := by omega
  simpa using this
set_option maxRecDepth 1000000 in
set_option maxHeartbeats 8000000 in
theorem dwrite_c (neg : Bool) (u : Nat) (hu : u < 10 ^ 15) (zc : List Int) (w : World) (ec : ∀ W, Calls Tryz.prog 172 #[.agg #[.bool neg, .string (dstr u)], .int .i64 8] W fun e w' => ∃ v, e = .returned v ∧ ∃ A cap, v = .tuple #[.slice A 8 cap, .bool false] ∧ Byt w' A 8 zc ∧ Below W.heap.size W w') : Calls Tryz.prog 143 #[.bool neg, .string (dstr u), .int .i64 8] w fun e w' => ∃ v, e = .returned v ∧ ∃ A cap, v = .tuple #[.slice A 8 cap, .bool false] ∧ Byt w' A 8 zc ∧ Below w.heap.size w w' := by
  have EC := Lib.hid ec
  have HS := Lib.hid (dstr_size u)
  have k0 : ¬ ((15 : Int) < ((dstr u).size : Int)) := by rw [HS.out]; have := nd_le 15 u (by omega) hu; omega
  clear ec
  go_enter Tryz.func143, Tryz.ntmps143
  go_wp2
  go_loopw [1] (fun s W => s = .string (dstr u) ∧ w = W) (fun _ _ => 0)
  case atStart => exact ⟨rfl, rfl⟩
  case round =>
    obtain ⟨rfl, rfl⟩ := hrel
    by_cases h10 : u < 10
    · have k1 : ¬ ((1 : Int) < ((dstr u).size : Int)) := by rw [HS.out, show Lib.nDigits u = 1 by unfold Lib.nDigits; rw [dif_pos h10]]; omega
      go_wp2_with (go_at_call 172; refine (EC.out _).mono ?_; rintro e w1 ⟨v, rfl, A, cap, rfl, hy, hb⟩)
      go_ret2
      exact ⟨_, rfl, A, cap, rfl, hy, hb⟩
    · have k1 : (1 : Int) < ((dstr u).size : Int) := by rw [HS.out, nd_step (by omega)]; have := nd_pos (u / 10); omega
      obtain ⟨c, hix, e1⟩ := lead u h10
      go_wp2_with (go_at_call 172; refine (EC.out _).mono ?_; rintro e w1 ⟨v, rfl, A, cap, rfl, hy, hb⟩)
      go_ret2
      exact ⟨_, rfl, A, cap, rfl, hy, hb⟩
def nOf (v : Int) : Int := if v < 2147483648 then v else v - 4294967296
set_option maxRecDepth 1000000 in
set_option maxHeartbeats 8000000 in
theorem fromb_c (v : Int) (v0 : 0 ≤ v) (v1 : v ≤ 4294967295) (zc : List Int) (w : World) (htab : Lib.TabIs Tryz.prog w "internal/strconv.uint64pow10" .u64 Lib.pow10Tab) (ec : ∀ W neg u, neg = decide (nOf v < 0) → u = (nOf v).natAbs → Calls Tryz.prog 172 #[.agg #[.bool neg, .string (dstr u)], .int .i64 8] W fun e w' => ∃ v, e = .returned v ∧ ∃ A cap, v = .tuple #[.slice A 8 cap, .bool false] ∧ Byt w' A 8 zc ∧ Below W.heap.size W w') : Calls Tryz.prog 85 #[.int .u32 v] w fun e w' => ∃ v, e = .returned v ∧ ∃ A cap, v = .slice A 8 cap ∧ Byt w' A 8 zc ∧ Below w.heap.size w w' := by
  obtain ⟨n, hn⟩ : ∃ n, nOf v = n := ⟨_, rfl⟩
  have hn1 : -2147483648 ≤ n ∧ n < 2147483648 := by rw [← hn]; unfold nOf; split <;> omega
  have w1 : IntKind.i32.wrap v = n := by rw [← hn, IntKind.wrap_i32]; unfold nOf; split <;> omega
  have w2 : IntKind.i64.wrap n = n := wrap_i64_id (by omega) (by omega)
  have w3 : IntKind.i64.wrap (-n) = -n := wrap_i64_id (by omega) (by omega)
  obtain ⟨u, hu⟩ : ∃ u, n.natAbs = u := ⟨_, rfl⟩
  have w4 : max n (-n) = (u : Int) := by omega
  have w5 : IntKind.u64.wrap (u : Int) = (u : Int) := by rw [IntKind.wrap_u64]; omega
  obtain ⟨neg, hneg⟩ : ∃ b, decide (n < 0) = b := ⟨_, rfl⟩
  have WC := Lib.hid (fun W => dwrite_c neg u (by omega) zc W (fun W' => ec W' neg u (by rw [hn, hneg]) (by rw [hn, hu])))
  have DC := Lib.hid (fun W hW => ddigits_c neg u (by omega) W hW)
  clear ec hn hu
  go_enter Tryz.func85, Tryz.ntmps85
  go_upto_region 3 with fail
  have hB := Bk.new w [.bool neg, .int .u64 0, .int .u64 (u : Int)] 179
  have hb := (Below.refl w.heap.size w).alloc (Nat.le_refl _) (.cells #[.bool neg, .int .u64 0, .int .u64 (u : Int)] 179)
  have hT := Lib.tabIs_alloc htab (.cells #[.bool neg, .int .u64 0, .int .u64 (u : Int)] 179)
  obtain ⟨w1, hW⟩ : ∃ V, w.alloc (.cells #[.bool neg, .int .u64 0, .int .u64 (u : Int)] 179) = V := ⟨_, rfl⟩
  rw [hW] at hB hb hT
  rw [hW]
  obtain ⟨g4, hg⟩ : ∃ k, w.heap.size = k := ⟨_, rfl⟩
  rw [hg] at hB
  simp only [hg]
  clear hW htab
  refine wp_region_held_drew (S := fun W => Bk W g4 179 [.bool neg, .int .u64 0, .int .u64 (u : Int)]) (by kernel_rfl) (hB.drewN 1) (fun hHeld => ?_)
  have Z := Lib.hid (show Bk w1.drew g4 179 [.bool neg, .int .u64 0, .int .u64 (u : Int)] ∧ Below w.heap.size w w1.drew from ⟨hB.drewN 1, hb.trans (dBelow' (Below.refl _ _) 1 |>.mono hb.size)⟩)
  have HT := Lib.hid (show Lib.TabIs Tryz.prog w1.drew "internal/strconv.uint64pow10" .u64 Lib.pow10Tab from hT)
  clear hB hb hT
  refine tkn ?_
  refine tkn (v := .bool neg) ?_ (y := by intro W hS; have c := hS.cell (c := 0) rfl; go_simp)
  refine tkl 2 (fun W h => h.row) ?_
  refine tkc (R := fun W => Bk W g4 179 [.bool neg, .int .u64 0, .int .u64 (u : Int)] ∧ Below w.heap.size w W) ((DC.out _ HT.out).mono fun e w' h => ⟨h.1, Z.out.1.keep h.2, Z.out.2.trans (h.2.mono Z.out.2.size)⟩) (fun _ h => h.1) ?_
  clear Z HT hHeld
  intro w2 Z hHeld
  refine tkce (R := fun v W => (∃ A cap, v = .tuple #[.slice A 8 cap, .bool false] ∧ Byt W A 8 zc ∧ Below w.heap.size w W) ∧ Bk W g4 179 [.bool neg, .int .u64 0, .int .u64 (u : Int)]) ((WC.out _).mono fun e w' ⟨v, he, A, cap, hv, hy, hb⟩ => ⟨v, he, ⟨A, cap, hv, hy, Z.out.2.trans (hb.mono Z.out.2.size)⟩, Z.out.1.keep hb⟩) (fun _ _ h => h.2) ?_
  clear Z hHeld
  intro v w3 Z hHeld
  obtain ⟨⟨A, cap, rfl, hy, hb⟩, -⟩ := Z.out
  have YB := Lib.hid (⟨hy, hb⟩ : Byt w3 A 8 zc ∧ Below w.heap.size w w3)
  clear hy hb Z
  repeat refine tkn ?_
  refine wpAnyH_done (by with_unfolding_all rfl) ?_ _
  clear hHeld WC DC
  go_wp2
  go_ret
  exact ⟨_, rfl, A, cap, rfl, YB.out.1, YB.out.2⟩
end Go.Proofs.YtljajnaclpbecaaGreatDoor

namespace Go.Proofs.YtljajnaclpbecaaGreatDoor
open Go.RowKit
set_option maxRecDepth 100000
set_option linter.unusedVariables false
set_option linter.unusedSimpArgs false
/-- the bytes that hold these half bytes, the last first -/
def pkB (ns : List Int) : List Int := (List.range 8).map fun i => ns.getD (14 - 2 * i) 0 + 16 * ns.getD (15 - 2 * i) 0
theorem pkB_len (ns : List Int) : (pkB ns).length = 8 := by simp [pkB]
theorem pkB_get (ns : List Int) (i : Nat) (h : i < 8) : (pkB ns).getD i 0 = ns.getD (14 - 2 * i) 0 + 16 * ns.getD (15 - 2 * i) 0 := by
  simp [pkB, List.getD_eq_getElem?_getD, h]
theorem getD_app (ns : List Int) (d : Int) (k : Nat) : (ns ++ [d]).getD k 0 = if k = ns.length then d else ns.getD k 0 := by
  simp only [List.getD_eq_getElem?_getD]
  by_cases h : k < ns.length
  · rw [List.getElem?_append_left h, if_neg (by omega)]
  · rw [List.getElem?_append_right (by omega)]
    by_cases h2 : k = ns.length
    · subst h2; simp
    · rw [if_neg h2, List.getElem?_eq_none (by simp; omega), List.getElem?_eq_none (by omega)]
theorem getD_out (ns : List Int) (k : Nat) (h : ns.length ≤ k) : ns.getD k 0 = 0 := by
  rw [List.getD_eq_getElem?_getD, List.getElem?_eq_none h]; rfl
theorem list_getD_ext {a b : List Int} (h : a.length = b.length) (e : ∀ i, i < a.length → a.getD i 0 = b.getD i 0) : a = b := by
  apply List.ext_getElem h
  intro i h1 h2
  have := e i h1
  simpa [List.getD_eq_getElem?_getD, List.getElem?_eq_getElem h1, List.getElem?_eq_getElem h2] using this
theorem getD_set_ (a : List Int) (i k : Nat) (v : Int) (h : i < a.length) : (a.set i v).getD k 0 = if k = i then v else a.getD k 0 := by
  simp only [List.getD_eq_getElem?_getD, List.getElem?_set]
  by_cases hk : i = k
  · subst hk; simp [h]
  · rw [if_neg hk, if_neg (Ne.symm hk)]
theorem pkB_lo (ns : List Int) (d : Int) (m : Nat) (hm : m < 8) (hl : ns.length = 2 * m) : (pkB ns).getD (7 - m) 0 = 0 ∧ pkB (ns ++ [d]) = (pkB ns).set (7 - m) d := by
  constructor
  · rw [pkB_get _ _ (by omega), getD_out _ _ (by omega), getD_out _ _ (by omega)]; rfl
  · refine list_getD_ext (by simp [pkB_len]) fun i hi => ?_
    rw [pkB_len] at hi
    rw [getD_set_ _ _ _ _ (by rw [pkB_len]; omega), pkB_get _ _ hi, pkB_get _ _ hi, getD_app, getD_app]
    by_cases h : i = 7 - m
    · subst h
      rw [if_pos rfl, if_pos (by omega), if_neg (by omega), getD_out ns (15 - 2 * (7 - m)) (by omega)]
      omega
    · rw [if_neg h, if_neg (by omega), if_neg (by omega)]
theorem pkB_hi (ns : List Int) (d : Int) (m : Nat) (hm : m < 8) (hl : ns.length = 2 * m + 1) : (pkB ns).getD (7 - m) 0 = ns.getD (2 * m) 0 ∧ pkB (ns ++ [d]) = (pkB ns).set (7 - m) (ns.getD (2 * m) 0 + 16 * d) := by
  constructor
  · rw [pkB_get _ _ (by omega), getD_out ns (15 - 2 * (7 - m)) (by omega), show 14 - 2 * (7 - m) = 2 * m by omega]; omega
  · refine list_getD_ext (by simp [pkB_len]) fun i hi => ?_
    rw [pkB_len] at hi
    rw [getD_set_ _ _ _ _ (by rw [pkB_len]; omega), pkB_get _ _ hi, pkB_get _ _ hi, getD_app, getD_app]
    by_cases h : i = 7 - m
    · subst h
      rw [if_pos rfl, if_neg (by omega), if_pos (by omega), show 14 - 2 * (7 - m) = 2 * m by omega]
    · rw [if_neg h, if_neg (by omega), if_neg (by omega)]
/-- a number's half bytes from the right: the sign, k digits -/
def nsOf (s : Int) (u k : Nat) : List Int := s :: (List.range k).map fun t => ((u / 10 ^ t % 10 : Nat) : Int)
theorem nsOf_len (s : Int) (u k : Nat) : (nsOf s u k).length = k + 1 := by simp [nsOf]
theorem nsOf_succ (s : Int) (u k : Nat) : nsOf s u (k + 1) = nsOf s u k ++ [((u / 10 ^ k % 10 : Nat) : Int)] := by simp [nsOf, List.range_succ]
theorem nsOf_rng (s : Int) (u k : Nat) (h0 : 0 ≤ s) (h1 : s ≤ 15) : ∀ i, 0 ≤ (nsOf s u k).getD i 0 ∧ (nsOf s u k).getD i 0 ≤ 15 := by
  intro i
  have hz : ∀ z ∈ nsOf s u k, 0 ≤ z ∧ z ≤ 15 := by
    intro z hz
    simp only [nsOf, List.mem_cons, List.mem_map, List.mem_range] at hz
    rcases hz with rfl | ⟨t, -, rfl⟩
    · omega
    · have : u / 10 ^ t % 10 < 10 := Nat.mod_lt _ (by omega)
      omega
  by_cases h : i < (nsOf s u k).length
  · rw [List.getD_eq_getElem?_getD, List.getElem?_eq_getElem h]
    exact hz _ (List.getElem_mem h)
  · rw [getD_out _ _ (by omega)]; omega
/-- the writer's blocks: the bytes, the slice, the place -/
structure WR (w0 w : World) (o so sa : Nat) (at_ : Int) (zs : List Int) : Prop where
  ob : Bk w o 5 (zs.map (Value.int .u8))
  sb : Bk w so 22 [.slice (some ⟨o, 0, none⟩) 8 8]
  ab : Bk w sa 3 [.int .i64 at_]
  b : Below w0.heap.size w0 w
  n : w0.heap.size ≤ o ∧ w0.heap.size ≤ sa ∧ o ≠ so ∧ o ≠ sa ∧ so ≠ sa
  l : zs.length = 8
section
variable {w0 w w' : World} {o so sa : Nat} {at_ : Int} {zs : List Int}
theorem WR.keep (h : WR w0 w o so sa at_ zs) (hb : Below w.heap.size w w') : WR w0 w' o so sa at_ zs := ⟨h.ob.keep hb, h.sb.keep hb, h.ab.keep hb, h.b.trans (hb.mono h.b.size), h.n, h.l⟩
theorem WR.put (h : WR w0 w o so sa at_ zs) (i : Nat) (z : Int) : WR w0 (w.setCell ⟨o, i, none⟩ (.int .u8 z)) o so sa at_ (zs.set i z) := by
  have e := fun k hk => Below.heap_setCell w ⟨o, i, none⟩ (.int .u8 z) k hk
  have h1 := h.ob.set_ i (.int .u8 z)
  rw [← List.map_set] at h1
  exact ⟨h1, h.sb.kept (e _ h.n.2.2.1.symm), h.ab.kept (e _ h.n.2.2.2.1.symm), below_ch h.b ((Ch.refl w [o]).setCell (p := ⟨o, i, none⟩) (by simp) _) (by simpa using h.n.1) h.b.size, h.n, by simpa using h.l⟩
theorem WR.step (h : WR w0 w o so sa at_ zs) (z : Int) : WR w0 (w.setCell ⟨sa, 0, none⟩ (.int .i64 z)) o so sa z zs := by
  have e := fun k hk => Below.heap_setCell w ⟨sa, 0, none⟩ (.int .i64 z) k hk
  exact ⟨h.ob.kept (e _ h.n.2.2.2.1), h.sb.kept (e _ h.n.2.2.2.2), h.ab.set_ 0 _, below_ch h.b ((Ch.refl w [sa]).setCell (p := ⟨sa, 0, none⟩) (by simp) _) (by simpa using h.n.2.1) h.b.size, h.n, h.l⟩
theorem WR.get (h : WR w0 w o so sa at_ zs) {i : Nat} (hi : i < 8) : w.cell? ⟨o, i, none⟩ = some (.int .u8 (zs.getD i 0)) := by
  refine h.ob.cell ?_
  have hl := h.l
  rw [List.getElem?_map, List.getElem?_eq_getElem (by omega), List.getD_eq_getElem?_getD, List.getElem?_eq_getElem (by omega)]
  rfl
set_option maxRecDepth 1000000 in
set_option maxHeartbeats 8000000 in
theorem wput_lo {i : Nat} {d z : Int} (hi : i < 8) (h : WR w0 w o so sa (2 * (i : Int) + 1) zs) (hz : bits .or .u8 (zs.getD i 0) d = z) : Calls Tryz.prog 173 #[.int .u8 d, .pointer (some ⟨sa, 0, none⟩), .pointer (some ⟨so, 0, none⟩)] w fun e w' => e = .returned (.tuple #[]) ∧ WR w0 w' o so sa (2 * (i : Int) + 1 - 1) (zs.set i z) := by
  have c0 := h.ab.cell (c := 0) rfl
  have c1 := h.sb.cell (c := 0) rfl
  have c2 := h.get hi
  have f0 := h.ob.free
  have f1 := h.ab.free
  have a0 : ¬ ((2 * (i : Int) + 1 : Int) < 0) := by omega
  have a1 : (2 * (i : Int) + 1 : Int).tmod 2 = 1 := by rw [Int.tmod_eq_emod_of_nonneg (by omega)]; omega
  have a2 : (2 * (i : Int) + 1 : Int).tdiv 2 = (i : Int) := by rw [Int.tdiv_eq_ediv_of_nonneg (by omega)]; omega
  have k1 : (i : Int) < 8 := by omega
  have k2 : IntKind.i64.wrap (i : Int) = (i : Int) := wrap_i64_id (by omega) (by omega)
  have w1 : IntKind.i64.wrap (2 * (i : Int) + 1 - 1) = 2 * (i : Int) + 1 - 1 := wrap_i64_id (by omega) (by omega)
  have H := Lib.hid h
  clear h
  obtain ⟨x, hx⟩ : ∃ x, zs.getD i 0 = x := ⟨_, rfl⟩
  rw [hx] at c2 hz
  obtain ⟨A, hA⟩ : ∃ A : Int, (2 * (i : Int) + 1) = A := ⟨_, rfl⟩
  rw [hA] at c0 a0 a1 a2 w1 H ⊢
  clear hx hA
  go_enter Tryz.func173, Tryz.ntmps173
  go_upto_region 2 with fail
  refine wp_region_list ?_
  simp only [List.append_eq, List.cons_append, List.nil_append]
  refine lsv (w' := w) ?_
  refine lsv (w' := w) ?_
  refine lsv (v := .int .i64 (i : Int)) (w' := w) ?_
  refine lsv (v := .pointer (some ⟨o, i, none⟩)) (w' := w) ?_
  refine lsv (v := .int .u8 x) (w' := w) ?_
  refine lsv (w' := w) ?_
  refine lsv (v := .int .u8 z) (w' := w) ?_
  refine lsv (v := .pointer (some ⟨o, i, none⟩)) (w' := w) ?_
  refine lsk (w' := w.setCell ⟨o, i, none⟩ (.int .u8 z)) (by unfold execOp; go_simp; (try rfl)) ?_
  refine wpList_nil ?_
  replace H := Lib.hid (H.out.put i z)
  obtain ⟨w1', hW⟩ : ∃ V, w.setCell ⟨o, i, none⟩ (.int .u8 z) = V := ⟨_, rfl⟩
  rw [hW] at H
  rw [hW]
  clear hW c0 c1 c2 f0 f1
  have c0 := H.out.ab.cell (c := 0) rfl
  have f1 := H.out.ab.free
  go_upto_region 4 with fail
  refine wp_region_list ?_
  simp only [List.append_eq, List.cons_append, List.nil_append]
  refine lsv (v := .int .i64 A) (w' := w1') ?_
  refine lsv (v := .int .i64 (A - 1)) (w' := w1') ?_
  refine lsk (w' := w1'.setCell ⟨sa, 0, none⟩ (.int .i64 (A - 1))) (by unfold execOp; go_simp; (try rfl)) ?_
  refine wpList_nil ?_
  go_wp2
  go_end0
  exact ⟨rfl, H.out.step (A - 1)⟩
set_option maxRecDepth 1000000 in
set_option maxHeartbeats 8000000 in
theorem wput_hi {i : Nat} {d z : Int} (hi : i < 8) (h : WR w0 w o so sa (2 * (i : Int)) zs) (hd : 0 ≤ d ∧ d ≤ 15) (hz : bits .or .u8 (zs.getD i 0) (d * 16) = z) : Calls Tryz.prog 173 #[.int .u8 d, .pointer (some ⟨sa, 0, none⟩), .pointer (some ⟨so, 0, none⟩)] w fun e w' => e = .returned (.tuple #[]) ∧ WR w0 w' o so sa (2 * (i : Int) - 1) (zs.set i z) := by
  have c0 := h.ab.cell (c := 0) rfl
  have c1 := h.sb.cell (c := 0) rfl
  have c2 := h.get hi
  have f0 := h.ob.free
  have f1 := h.ab.free
  have a0 : ¬ ((2 * (i : Int) : Int) < 0) := by omega
  have a1 : (2 * (i : Int) : Int).tmod 2 = 0 := by rw [Int.tmod_eq_emod_of_nonneg (by omega)]; omega
  have a2 : (2 * (i : Int) : Int).tdiv 2 = (i : Int) := by rw [Int.tdiv_eq_ediv_of_nonneg (by omega)]; omega
  have k1 : (i : Int) < 8 := by omega
  have k2 : IntKind.i64.wrap (i : Int) = (i : Int) := wrap_i64_id (by omega) (by omega)
  have w1 : IntKind.i64.wrap (2 * (i : Int) - 1) = 2 * (i : Int) - 1 := wrap_i64_id (by omega) (by omega)
  have H := Lib.hid h
  clear h
  obtain ⟨x, hx⟩ : ∃ x, zs.getD i 0 = x := ⟨_, rfl⟩
  rw [hx] at c2 hz
  obtain ⟨A, hA⟩ : ∃ A : Int, (2 * (i : Int)) = A := ⟨_, rfl⟩
  rw [hA] at c0 a0 a1 a2 w1 H ⊢
  have e16 : IntKind.u8.wrap (d * 16) = d * 16 := by rw [IntKind.wrap_u8]; omega
  have e17 : d * 16 % 256 = d * 16 := by omega
  clear hx hA
  go_enter Tryz.func173, Tryz.ntmps173
  go_upto_region 3 with fail
  refine wp_region_list ?_
  simp only [List.append_eq, List.cons_append, List.nil_append]
  refine lsv (w' := w) ?_
  refine lsv (w' := w) ?_
  refine lsv (v := .int .i64 (i : Int)) (w' := w) ?_
  refine lsv (v := .pointer (some ⟨o, i, none⟩)) (w' := w) ?_
  refine lsv (v := .int .u8 x) (w' := w) ?_
  refine lsv (w' := w) ?_
  refine lsv (v := .int .u8 (d * 16)) (w' := w) ?_
  refine lsv (v := .int .u8 z) (w' := w) ?_
  refine lsv (v := .pointer (some ⟨o, i, none⟩)) (w' := w) ?_
  refine lsk (w' := w.setCell ⟨o, i, none⟩ (.int .u8 z)) (by unfold execOp; go_simp; (try rfl)) ?_
  refine wpList_nil ?_
  replace H := Lib.hid (H.out.put i z)
  obtain ⟨w1', hW⟩ : ∃ V, w.setCell ⟨o, i, none⟩ (.int .u8 z) = V := ⟨_, rfl⟩
  rw [hW] at H
  rw [hW]
  clear hW c0 c1 c2 f0 f1
  have c0 := H.out.ab.cell (c := 0) rfl
  have f1 := H.out.ab.free
  go_upto_region 4 with fail
  refine wp_region_list ?_
  simp only [List.append_eq, List.cons_append, List.nil_append]
  refine lsv (v := .int .i64 A) (w' := w1') ?_
  refine lsv (v := .int .i64 (A - 1)) (w' := w1') ?_
  refine lsk (w' := w1'.setCell ⟨sa, 0, none⟩ (.int .i64 (A - 1))) (by unfold execOp; go_simp; (try rfl)) ?_
  refine wpList_nil ?_
  go_wp2
  go_end0
  exact ⟨rfl, H.out.step (A - 1)⟩
end
section
variable {w0 w w' : World}
set_option maxRecDepth 1000000 in
set_option maxHeartbeats 8000000 in
theorem inf8_c (w : World) : Calls Tryz.prog 145 #[.int .i64 8] w fun e w' => e = .returned (.bool true) ∧ w = w' := by
  go_enter Tryz.func145, Tryz.ntmps145
  go_wp2
  go_ret
  exact ⟨rfl, rfl⟩
set_option maxRecDepth 1000000 in
set_option maxHeartbeats 8000000 in
theorem sgn_c (neg : Bool) (w : World) : Calls Tryz.prog 187 #[.bool neg] w fun e w' => e = .returned (.int .u8 (if neg then 13 else 12)) ∧ w = w' := by
  cases neg
  · go_enter Tryz.func187, Tryz.ntmps187
    go_wp2
    go_ret
    exact ⟨rfl, rfl⟩
  · go_enter Tryz.func187, Tryz.ntmps187
    go_wp2
    go_ret
    exact ⟨rfl, rfl⟩
set_option maxRecDepth 1000000 in
set_option maxHeartbeats 8000000 in
theorem valid8_c (neg : Bool) (u : Nat) (hu : u < 10 ^ 15) (w : World) : Calls Tryz.prog 186 #[.agg #[.bool neg, .string (dstr u)]] w fun e w' => e = .returned (.bool true) ∧ Below w.heap.size w w' := by
  have HS := Lib.hid (dstr_size u)
  have k3 : ¬ ((31 : Int) < ((dstr u).size : Int)) := by rw [HS.out]; have := nd_le 15 u (by omega) hu; omega
  have k4 : ¬ (((dstr u).size : Int) < 1) := by rw [HS.out]; have := nd_pos u; omega
  have hb := (Below.refl w.heap.size w).alloc (Nat.le_refl _) (.cells #[.bool neg, .string (dstr u)] 191)
  have hB := Bk.new w [.bool neg, .string (dstr u)] 191
  go_enter Tryz.func186, Tryz.ntmps186
  go_upto_region 1 with fail
  obtain ⟨w1, hW⟩ : ∃ V, w.alloc (.cells #[.bool neg, .string (dstr u)] 191) = V := ⟨_, rfl⟩
  rw [hW] at hB hb
  rw [hW]
  obtain ⟨g1, hg⟩ : ∃ k, w.heap.size = k := ⟨_, rfl⟩
  rw [hg] at hB
  simp only [hg]
  clear hW
  have HB := Lib.hid hB
  have BB := Lib.hid hb
  clear hB hb
  have c1 := HB.out.cell (c := 1) rfl
  rcases (show (u < 10 ∧ ¬ ((1 : Int) < ((dstr u).size : Int))) ∨ (¬ u < 10 ∧ (1 : Int) < ((dstr u).size : Int)) by
    by_cases h10 : u < 10
    · exact .inl ⟨h10, by rw [HS.out, show Lib.nDigits u = 1 by unfold Lib.nDigits; rw [dif_pos h10]]; omega⟩
    · exact .inr ⟨h10, by rw [HS.out, nd_step (by omega)]; have := nd_pos (u / 10); omega⟩) with ⟨h10, k1⟩ | ⟨h10, k1⟩
  rotate_left
  obtain ⟨c, hix, e1⟩ := lead u h10
  all_goals
    go_wp2
    go_loopw [29] (fun x W => ∃ k : Nat, k ≤ Lib.nDigits u ∧ x = .int .i64 (k : Int) ∧ w1 = W) (fun x _ => Lib.nDigits u - (intOf x).toNat)
    case atStart => exact ⟨0, Nat.zero_le _, rfl, rfl⟩
    case round =>
      obtain ⟨k, hk, rfl, rfl⟩ := hrel
      have nd15 := nd_le 15 u (by omega) hu
      by_cases hlt : k < Lib.nDigits u
      · have k5 : (k : Int) < ((dstr u).size : Int) := by rw [HS.out]; omega
        have hiy := fun W => dd_byte u k hlt W
        have hm : u / 10 ^ (Lib.nDigits u - 1 - k) % 10 < 10 := Nat.mod_lt _ (by omega)
        obtain ⟨c, hc⟩ : ∃ c : Int, ((48 + u / 10 ^ (Lib.nDigits u - 1 - k) % 10 : Nat) : Int) = c := ⟨_, rfl⟩
        rw [hc] at hiy
        have e2 : ¬ (c < 48) := by omega
        have e3 : ¬ (57 < c) := by omega
        clear hc hm
        go_wp2
        go_roundw
        case rel => exact ⟨k + 1, by omega, by go_num, trivial⟩
        case measure => simp [intOf]; omega
      · have k5 : ¬ ((k : Int) < ((dstr u).size : Int)) := by rw [HS.out]; omega
        go_wp2
        go_ret
        exact ⟨rfl, hg ▸ BB.out⟩
set_option maxRecDepth 1000000 in
set_option maxHeartbeats 8000000 in
theorem writer8_c (w : World) : Calls Tryz.prog 146 #[.int .i64 8] w fun e w' => ∃ v, e = .returned v ∧ ∃ o so sa, v = .tuple #[.slice (some ⟨o, 0, none⟩) 8 8, .func (.func 173) #[] #[.pointer (some ⟨sa, 0, none⟩), .pointer (some ⟨so, 0, none⟩)]] ∧ WR w w' o so sa 15 [0, 0, 0, 0, 0, 0, 0, 0] := by
  have hmf : ∀ (fn : Fn) (first cap : Array Value) (w : World), (Instr.makeFunc fn first cap).run Tryz.prog w = .ok (.func fn first cap) w := fun _ _ _ _ => rfl
  have mk : ∀ W, (Instr.makeSlice 22 (.int .i64 8) (.int .i64 8)).run Tryz.prog W = .ok (.slice (some ⟨W.heap.size, 0, none⟩) 8 8) (W.alloc (.cells (zeroB 8) 5)) := fun W => run_mk_b 8 (by omega) W
  go_enter Tryz.func146, Tryz.ntmps146
  go_upto_region 1 with fail
  refine wp_region_list ?_
  simp only [List.append_eq, List.cons_append, List.nil_append]
  refine lsv (w' := w) ?_
  refine lsv (v := .slice (some ⟨w.heap.size, 0, none⟩) 8 8) (w' := w.alloc (.cells (zeroB 8) 5)) ?_
  have O1 : Bk (w.alloc (.cells (zeroB 8) 5)) w.heap.size 5 (([0, 0, 0, 0, 0, 0, 0, 0] : List Int).map (Value.int .u8)) := Bk.new w _ 5
  have B1 := (Below.refl w.heap.size w).alloc (Nat.le_refl _) (.cells (zeroB 8) 5)
  have l1 := O1.lt
  obtain ⟨w1, hW⟩ : ∃ V, w.alloc (.cells (zeroB 8) 5) = V := ⟨_, rfl⟩
  rw [hW] at O1 B1 l1
  rw [hW]
  clear hW mk
  refine lsv (v := .pointer (some ⟨w1.heap.size, 0, none⟩)) (w' := w1.alloc (.cells #[.slice none 0 0] 22)) ?_
  refine lsk (w' := (w1.alloc (.cells #[.slice none 0 0] 22)).setCell ⟨w1.heap.size, 0, none⟩ (.slice (some ⟨w.heap.size, 0, none⟩) 8 8)) (by unfold execOp; go_simp; (try rfl)) ?_
  refine wpList_nil ?_
  have S2 : Bk ((w1.alloc (.cells #[.slice none 0 0] 22)).setCell ⟨w1.heap.size, 0, none⟩ (.slice (some ⟨w.heap.size, 0, none⟩) 8 8)) w1.heap.size 22 [.slice (some ⟨w.heap.size, 0, none⟩) 8 8] := (Bk.new w1 [.slice none 0 0] 22).set_ 0 _
  have C2 := (Ch.of_below ((Below.refl w1.heap.size w1).alloc (Nat.le_refl _) (.cells #[.slice none 0 0] 22)) [w1.heap.size]).setCell (p := ⟨w1.heap.size, 0, none⟩) (by simp) (.slice (some ⟨w.heap.size, 0, none⟩) 8 8)
  have O2 := O1.ch C2 (by simp; omega)
  have B2 := below_ch B1 C2 (by simp; omega) (by omega)
  have l2 := S2.lt
  obtain ⟨w2, hW⟩ : ∃ V, (w1.alloc (.cells #[.slice none 0 0] 22)).setCell ⟨w1.heap.size, 0, none⟩ (.slice (some ⟨w.heap.size, 0, none⟩) 8 8) = V := ⟨_, rfl⟩
  rw [hW] at S2 O2 B2 l2
  rw [hW]
  clear hW C2 O1 B1
  go_upto_region 2 with fail
  refine wp_region_list ?_
  simp only [List.append_eq, List.cons_append, List.nil_append]
  refine lsv (w' := w2) ?_
  refine lsv (w' := w2) ?_
  refine lsv (w' := w2) ?_
  refine lsv (v := .pointer (some ⟨w2.heap.size, 0, none⟩)) (w' := w2.alloc (.cells #[.int .i64 0] 3)) ?_
  refine lsk (w' := (w2.alloc (.cells #[.int .i64 0] 3)).setCell ⟨w2.heap.size, 0, none⟩ (.int .i64 15)) (by unfold execOp; go_simp; (try rfl)) ?_
  refine wpList_nil ?_
  have A3 : Bk ((w2.alloc (.cells #[.int .i64 0] 3)).setCell ⟨w2.heap.size, 0, none⟩ (.int .i64 15)) w2.heap.size 3 [.int .i64 15] := (Bk.new w2 [.int .i64 0] 3).set_ 0 _
  have C3 := (Ch.of_below ((Below.refl w2.heap.size w2).alloc (Nat.le_refl _) (.cells #[.int .i64 0] 3)) [w2.heap.size]).setCell (p := ⟨w2.heap.size, 0, none⟩) (by simp) (.int .i64 15)
  have O3 := O2.ch C3 (by simp; omega)
  have S3 := S2.ch C3 (by simp; omega)
  have B3 := below_ch B2 C3 (by simp; omega) (by omega)
  obtain ⟨w3, hW⟩ : ∃ V, (w2.alloc (.cells #[.int .i64 0] 3)).setCell ⟨w2.heap.size, 0, none⟩ (.int .i64 15) = V := ⟨_, rfl⟩
  rw [hW] at A3 O3 S3 B3
  rw [hW]
  clear hW C3 O2 S2 B2
  have c1 := S3.cell (c := 0) rfl
  go_wp2
  go_ret2
  exact ⟨_, rfl, _, _, _, rfl, ⟨O3, S3, A3, B3, ⟨Nat.le_refl _, by omega, by omega, by omega, by omega⟩, rfl⟩⟩
end
end Go.Proofs.YtljajnaclpbecaaGreatDoor

namespace Go.Proofs.YtljajnaclpbecaaGreatDoor
open Go.RowKit
set_option maxRecDepth 100000
set_option linter.unusedVariables false
set_option linter.unusedSimpArgs false
/-- half byte j of a field, from the right -/
def half (zs : List Int) (j : Nat) : Int := if j % 2 = 0 then zs.getD (zs.length - 1 - j / 2) 0 % 16 else zs.getD (zs.length - 1 - j / 2) 0 / 16
def hv (zs : List Int) (c : Nat) : List Int := (List.range c).map (half zs)
theorem hv_succ (zs : List Int) (c : Nat) : hv zs (c + 1) = hv zs c ++ [half zs c] := by simp [hv, List.range_succ]
theorem hv_len (zs : List Int) (c : Nat) : (hv zs c).length = c := by simp [hv]
theorem hv_get (zs : List Int) (c k : Nat) (h : k < c) : (hv zs c).getD k 0 = half zs k := by simp [hv, List.getD_eq_getElem?_getD, h]
theorem half_rng {zs : List Int} (h : ∀ z ∈ zs, 0 ≤ z ∧ z ≤ 255) (j : Nat) : 0 ≤ half zs j ∧ half zs j ≤ 15 := by
  have hz : ∀ i, 0 ≤ zs.getD i 0 ∧ zs.getD i 0 ≤ 255 := by
    intro i
    rw [List.getD_eq_getElem?_getD]
    rcases Nat.lt_or_ge i zs.length with hi | hi
    · rw [List.getElem?_eq_getElem hi]; exact h _ (List.getElem_mem hi)
    · rw [List.getElem?_eq_none hi]; simp
  have := hz (zs.length - 1 - j / 2)
  unfold half
  split <;> omega
theorem hv_rng {zs : List Int} (h : ∀ z ∈ zs, 0 ≤ z ∧ z ≤ 255) (c : Nat) : ∀ i, 0 ≤ (hv zs c).getD i 0 ∧ (hv zs c).getD i 0 ≤ 15 := by
  intro i
  by_cases hi : i < c
  · rw [hv_get _ _ _ hi]; exact half_rng h i
  · rw [getD_out _ _ (by rw [hv_len]; omega)]; omega
theorem byt_bk' {W : World} {o n : Nat} {zs : List Int} (h : Bk W o 5 (zs.map (Value.int .u8))) (hn : zs.length = n) (hr : ∀ z ∈ zs, 0 ≤ z ∧ z ≤ 255) : Byt W (some ⟨o, 0, none⟩) n zs :=
  ⟨hn, hr, fun _ => ⟨o, 0, rfl, fun i hi => by
    rw [Nat.zero_add]
    refine h.cell ?_
    rw [List.getElem?_map, List.getElem?_eq_getElem (by omega), List.getD_eq_getElem?_getD, List.getElem?_eq_getElem (by omega)]
    rfl⟩⟩
/-- the field of n bytes that UNPK makes of these half bytes (the last first) -/
def outH (hs : List Int) (n : Nat) : List Int := (List.range n).map fun i => if i + 1 = n then (if hs.length = 0 then 240 else 16 * hs.getD 0 0 + hs.getD 1 0) else if n - i < hs.length then 240 + hs.getD (n - i) 0 else 240
theorem outH_len (hs : List Int) (n : Nat) : (outH hs n).length = n := by simp [outH]
theorem outH_get (hs : List Int) (n i : Nat) (h : i < n) : (outH hs n).getD i 0 = if i + 1 = n then (if hs.length = 0 then 240 else 16 * hs.getD 0 0 + hs.getD 1 0) else if n - i < hs.length then 240 + hs.getD (n - i) 0 else 240 := by
  simp [outH, List.getD_eq_getElem?_getD, h]
theorem outH_nil (n : Nat) : outH [] n = List.replicate n 240 := by
  refine list_getD_ext (by simp [outH]) fun i hi => ?_
  rw [outH_len] at hi
  rw [outH_get _ _ _ hi]
  simp [List.getD_eq_getElem?_getD, hi]
theorem outH_one (n : Nat) (d : Int) (hn : 0 < n) : (outH [] n).set (n - 1) (16 * d) = outH [d] n := by
  refine list_getD_ext (by simp [outH]) fun i hi => ?_
  have hi : i < n := by simpa [outH_len] using hi
  rw [getD_set_ _ _ _ _ (by rw [outH_len]; omega), outH_get _ _ _ hi, outH_get _ _ _ hi]
  by_cases h : i = n - 1
  · rw [if_pos h, if_pos (by omega), if_neg (by simp)]
    simp
  · rw [if_neg h, if_neg (by omega), if_neg (by simp), if_neg (by omega), if_neg (by simp; omega)]
theorem outH_snoc (hs : List Int) (n : Nat) (d : Int) (h1 : 1 ≤ hs.length) (h2 : hs.length ≤ n) : (outH hs n).set (n - hs.length) ((outH hs n).getD (n - hs.length) 0 + d) = outH (hs ++ [d]) n := by
  refine list_getD_ext (by simp [outH]) fun i hi => ?_
  have hi : i < n := by simpa [outH_len] using hi
  rw [getD_set_ _ _ _ _ (by rw [outH_len]; omega), outH_get _ _ _ hi, outH_get _ _ _ hi, outH_get _ _ _ (by omega : n - hs.length < n)]
  have e0 : (hs ++ [d]).length = hs.length + 1 := by simp
  rw [e0, getD_app, getD_app, getD_app]
  by_cases hk : hs.length = 1
  · by_cases h : i = n - 1
    · rw [if_pos (by omega), if_pos (by omega), if_neg (by omega), if_pos (by omega), if_neg (by omega), if_neg (by omega), if_pos (by omega), getD_out hs 1 (by omega)]
      omega
    · rw [if_neg (by omega), if_neg (by omega), if_neg (by omega), if_neg (by omega), if_neg (by omega)]
  · by_cases h : i = n - hs.length
    · rw [if_pos h, if_neg (by omega), if_neg (by omega), if_neg (by omega), if_pos (by omega), if_pos (by omega)]
    · rw [if_neg h]
      by_cases hl : i + 1 = n
      · rw [if_pos hl, if_pos hl, if_neg (by omega), if_neg (by omega), if_neg (by omega), if_neg (by omega)]
      · rw [if_neg hl, if_neg hl]
        by_cases hc : n - i < hs.length
        · rw [if_pos hc, if_pos (by omega), if_neg (by omega)]
        · rw [if_neg hc, if_neg (by omega)]
theorem outH_more (hs ts : List Int) (n : Nat) (h : n + 1 ≤ hs.length) (hn : 1 ≤ n) : outH (hs ++ ts) n = outH hs n := by
  refine list_getD_ext (by simp [outH]) fun i hi => ?_
  have hi : i < n := by simpa [outH_len] using hi
  have ga : ∀ k, k < hs.length → (hs ++ ts).getD k 0 = hs.getD k 0 := fun k hk => by simp only [List.getD_eq_getElem?_getD]; rw [List.getElem?_append_left hk]
  rw [outH_get _ _ _ hi, outH_get _ _ _ hi, List.length_append, ga 0 (by omega), ga 1 (by omega), ga (n - i) (by omega)]
  by_cases hl : i + 1 = n
  · rw [if_pos hl, if_pos hl, if_neg (by omega), if_neg (by omega)]
  · rw [if_neg hl, if_neg hl, if_pos (by omega), if_pos (by omega)]
theorem outH_at (hs : List Int) (n : Nat) (h1 : 1 ≤ hs.length) (h2 : hs.length ≤ n) (hr : ∀ i, 0 ≤ hs.getD i 0 ∧ hs.getD i 0 ≤ 15) : ∃ m : Nat, m < 16 ∧ (outH hs n).getD (n - hs.length) 0 = 16 * (m : Int) := by
  rw [outH_get _ _ _ (by omega)]
  by_cases hk : hs.length = 1
  · refine ⟨(hs.getD 0 0).toNat, by have := hr 0; omega, ?_⟩
    rw [if_pos (by omega), if_neg (by omega), getD_out hs 1 (by omega)]
    have := hr 0
    omega
  · exact ⟨15, by omega, by rw [if_neg (by omega), if_neg (by omega)]; rfl⟩
/-- the field of n bytes that UNPK makes -/
def unpk (zs : List Int) (n : Nat) : List Int := outH (hv zs (2 * zs.length)) n
theorem hv_cut (zs : List Int) (c m : Nat) (h : c ≤ m) : ∃ ts, hv zs m = hv zs c ++ ts := by
  refine ⟨(hv zs m).drop c, ?_⟩
  have : hv zs c = (hv zs m).take c := by
    unfold hv
    rw [← List.map_take, List.take_range, Nat.min_eq_left h]
  rw [this, List.take_append_drop]
theorem outH_cut (zs : List Int) (c n : Nat) (h : c ≤ 2 * zs.length) (hc : n + 1 ≤ c) (hn : 1 ≤ n) : outH (hv zs c) n = unpk zs n := by
  obtain ⟨ts, e⟩ := hv_cut zs c _ h
  unfold unpk
  rw [e, outH_more _ _ _ (by rw [hv_len]; exact hc) hn]
theorem outH_rng {hs : List Int} (hr : ∀ i, 0 ≤ hs.getD i 0 ∧ hs.getD i 0 ≤ 15) (n : Nat) : ∀ z ∈ outH hs n, 0 ≤ z ∧ z ≤ 255 := by
  intro z hz
  simp only [outH, List.mem_map, List.mem_range] at hz
  obtain ⟨i, -, rfl⟩ := hz
  have h0 := hr 0
  have h1 := hr 1
  have h2 := hr (n - i)
  repeat' split
  all_goals omega
/-- k of n bytes are filled -/
def fillL (v : Int) (n k : Nat) : List Int := (List.range n).map fun i => if i < k then v else 0
theorem fillL_len (v : Int) (n k : Nat) : (fillL v n k).length = n := by simp [fillL]
theorem fillL_get (v : Int) (n k i : Nat) (h : i < n) : (fillL v n k).getD i 0 = if i < k then v else 0 := by simp [fillL, List.getD_eq_getElem?_getD, h]
theorem fillL_succ (v : Int) (n k : Nat) (h : k < n) : (fillL v n k).set k v = fillL v n (k + 1) := by
  refine list_getD_ext (by simp [fillL]) fun i hi => ?_
  have hi : i < n := by simpa [fillL] using hi
  rw [getD_set_ _ _ _ _ (by rw [fillL_len]; exact h), fillL_get _ _ _ _ hi, fillL_get _ _ _ _ hi]
  by_cases hk : i = k
  · rw [if_pos hk, if_pos (by omega)]
  · rw [if_neg hk]
    by_cases h2 : i < k
    · rw [if_pos h2, if_pos (by omega)]
    · rw [if_neg h2, if_neg (by omega)]
theorem fillL_0 (v : Int) (n : Nat) : fillL v n 0 = List.replicate n 0 := by
  refine list_getD_ext (by simp [fillL]) fun i hi => ?_
  rw [fillL_len] at hi
  rw [fillL_get _ _ _ _ hi]
  simp [List.getD_eq_getElem?_getD, hi]
theorem fillL_n (v : Int) (n : Nat) : fillL v n n = List.replicate n v := by
  refine list_getD_ext (by simp [fillL]) fun i hi => ?_
  rw [fillL_len] at hi
  rw [fillL_get _ _ _ _ hi, if_pos hi]
  simp [List.getD_eq_getElem?_getD, hi]
theorem or_lo4 : ∀ h : Nat, h < 16 → ∀ d : Nat, d < 16 → bits .or .u8 (16 * (h : Int)) (d : Int) = 16 * (h : Int) + (d : Int) := by decide +kernel
theorem and15 : ∀ z : Nat, z < 256 → bits .and .u8 (z : Int) 15 = (z : Int) % 16 := by decide +kernel
end Go.Proofs.YtljajnaclpbecaaGreatDoor

namespace Go.Proofs.YtljajnaclpbecaaGreatDoor
open Go.RowKit
set_option maxRecDepth 100000
set_option linter.unusedVariables false
set_option linter.unusedSimpArgs false
theorem or16 : ∀ l : Nat, l < 16 → ∀ d : Nat, d < 16 → bits .or .u8 (l : Int) ((d : Int) * 16) = (l : Int) + 16 * (d : Int) := by decide +kernel
theorem or0 : ∀ d : Nat, d < 16 → bits .or .u8 0 (d : Int) = (d : Int) := by decide +kernel
section
variable {w0 w w' : World} {o so sa : Nat} {at_ : Int} {ns : List Int}
theorem wput_c {d : Int} (hd : 0 ≤ d ∧ d ≤ 15) (hj : ns.length < 16) (hn : ∀ i, 0 ≤ ns.getD i 0 ∧ ns.getD i 0 ≤ 15) (ha : at_ = 15 - (ns.length : Int)) (h : WR w0 w o so sa at_ (pkB ns)) : Calls Tryz.prog 173 #[.int .u8 d, .pointer (some ⟨sa, 0, none⟩), .pointer (some ⟨so, 0, none⟩)] w fun e w' => e = .returned (.tuple #[]) ∧ WR w0 w' o so sa (at_ - 1) (pkB (ns ++ [d])) := by
  obtain ⟨D, rfl⟩ := Int.eq_ofNat_of_zero_le hd.1
  rcases (show (∃ m, ns.length = 2 * m) ∨ (∃ m, ns.length = 2 * m + 1) by
    rcases Nat.mod_two_eq_zero_or_one ns.length with h | h
    · exact .inl ⟨ns.length / 2, by omega⟩
    · exact .inr ⟨ns.length / 2, by omega⟩) with ⟨m, hm⟩ | ⟨m, hm⟩
  · obtain ⟨e1, e2⟩ := pkB_lo ns (D : Int) m (by omega) hm
    obtain rfl : at_ = 2 * ((7 - m : Nat) : Int) + 1 := by omega
    rw [e2]
    exact wput_lo (by omega) h (by rw [e1]; exact or0 D (by omega))
  · obtain ⟨e1, e2⟩ := pkB_hi ns (D : Int) m (by omega) hm
    obtain rfl : at_ = 2 * ((7 - m : Nat) : Int) := by omega
    obtain ⟨l, hl⟩ := Int.eq_ofNat_of_zero_le (hn (2 * m)).1
    have := (hn (2 * m)).2
    rw [e2]
    exact wput_hi (by omega) h hd (by rw [e1, hl]; exact or16 l (by omega) D (by omega))
end
def sgnI (neg : Bool) : Int := if neg then 13 else 12
/-- the packed form of a number of at most 15 digits, in 8 bytes -/
def cvdB (neg : Bool) (u : Nat) : List Int := pkB (nsOf (sgnI neg) u (Lib.nDigits u))
theorem WR.byt {w0 w : World} {o so sa : Nat} {at_ : Int} {zs : List Int} (h : WR w0 w o so sa at_ zs) (hr : ∀ z ∈ zs, 0 ≤ z ∧ z ≤ 255) : Byt w (some ⟨o, 0, none⟩) 8 zs :=
  ⟨h.l, hr, fun _ => ⟨o, 0, rfl, fun i hi => by rw [h.get (by omega)]; simp⟩⟩
theorem pkB_rng (ns : List Int) (hn : ∀ i, 0 ≤ ns.getD i 0 ∧ ns.getD i 0 ≤ 15) : ∀ z ∈ pkB ns, 0 ≤ z ∧ z ≤ 255 := by
  intro z hz
  simp only [pkB, List.mem_map, List.mem_range] at hz
  obtain ⟨i, -, rfl⟩ := hz
  have h1 := hn (14 - 2 * i)
  have h2 := hn (15 - 2 * i)
  omega
set_option maxRecDepth 1000000 in
set_option maxHeartbeats 8000000 in
theorem encode8_c (neg : Bool) (u : Nat) (hu : u < 10 ^ 15) (w : World) : Calls Tryz.prog 172 #[.agg #[.bool neg, .string (dstr u)], .int .i64 8] w fun e w' => ∃ v, e = .returned v ∧ ∃ A cap, v = .tuple #[.slice A 8 cap, .bool false] ∧ Byt w' A 8 (cvdB neg u) ∧ Below w.heap.size w w' := by
  have HS := Lib.hid (dstr_size u)
  have nd15 := nd_le 15 u (by omega) hu
  have nd1 := nd_pos u
  have VC := Lib.hid (fun W => valid8_c neg u hu W)
  have SG := Lib.hid (fun W => sgn_c neg W)
  have hs : sgnI neg = 12 ∨ sgnI neg = 13 := by unfold sgnI; cases neg <;> simp
  have hb := (Below.refl w.heap.size w).alloc (Nat.le_refl _) (.cells #[.bool neg, .string (dstr u)] 191)
  have hB := Bk.new w [.bool neg, .string (dstr u)] 191
  go_enter Tryz.func172, Tryz.ntmps172
  go_upto_region 1 with fail
  obtain ⟨w1, hW⟩ : ∃ V, w.alloc (.cells #[.bool neg, .string (dstr u)] 191) = V := ⟨_, rfl⟩
  rw [hW] at hB hb
  rw [hW]
  obtain ⟨g2, hg⟩ : ∃ k, w.heap.size = k := ⟨_, rfl⟩
  rw [hg] at hB hb
  simp only [hg]
  clear hW
  have HB := Lib.hid hB
  have BB := Lib.hid hb
  clear hB hb
  refine wp_region_list ?_
  simp only [List.append_eq, List.cons_append, List.nil_append]
  refine lsl HB.out ?_
  refine lsc (VC.out _) ?_
  intro w2 b2
  replace HB := Lib.hid (HB.out.keep b2.out)
  replace BB := Lib.hid (BB.out.trans (b2.out.mono (by have := BB.out.size; omega)))
  clear b2 VC
  refine lsv (w' := w2) ?_
  refine lsv (w' := w2) ?_
  refine lsv (w' := w2) ?_
  refine lsc (inf8_c _) ?_
  intro w2' hw
  obtain rfl := hw.out
  refine lsv (w' := w2) ?_
  refine lsv (w' := w2) ?_
  refine wpList_nil ?_
  clear hw
  go_upto_region 3 with fail
  refine wp_region_list ?_
  simp only [List.append_eq, List.cons_append, List.nil_append]
  refine lsv (w' := w2) ?_
  refine lsce (writer8_c w2) ?_
  intro v w3 Z
  obtain ⟨o, so, sa, rfl, hR⟩ := Z.out
  have R := Lib.hid (show WR w2 w3 o so sa 15 (pkB []) from hR)
  clear Z hR
  refine lsv (w' := w3) ?_
  refine lsv (w' := w3) ?_
  refine lsv (w' := w3) ?_
  refine lsv (w' := w3) ?_
  refine lsv (w' := w3) ?_
  refine wpList_nil ?_
  have c0 := (HB.out.keep R.out.b).cell (c := 0) rfl
  have lb := HB.out.lt
  go_upto_region 4 with fail
  refine wp_region_list ?_
  simp only [List.append_eq, List.cons_append, List.nil_append]
  refine lsv (w' := w3) ?_
  refine lsv (w' := w3) ?_
  refine lsv (v := .bool neg) (w' := w3) ?_
  refine lsc (v := .int .u8 (sgnI neg)) (SG.out _) ?_
  intro w3' hw
  obtain rfl := hw.out
  clear hw
  refine lsc (wput_c (d := sgnI neg) (ns := []) (by omega) (by simp) (by simp) (by simp) R.out) ?_
  intro w4 Z
  have R4 := Lib.hid (show WR w2 w4 o so sa (14 - ((0 : Nat) : Int)) (pkB (nsOf (sgnI neg) u 0)) from Z.out)
  clear Z R c0 SG
  refine wpList_nil ?_
  have c1 := (HB.out.keep R4.out.b).cell (c := 1) rfl
  go_upto_region 5 with fail
  refine wp_region_list ?_
  simp only [List.append_eq, List.cons_append, List.nil_append]
  refine lsv (w' := w4) ?_
  refine lsv (v := .string (dstr u)) (w' := w4) ?_
  refine lsv (v := .int .i64 (Lib.nDigits u : Int)) (w' := w4) ?_ (hr := by first | (go_simp; done) | (go_simp; rw [HS.out]) | (go_simp; rw [HS.out]; rfl))
  have e1 : IntKind.i64.wrap ((Lib.nDigits u : Int) - 1) = (Lib.nDigits u : Int) - 1 := wrap_i64_id (by omega) (by omega)
  refine lsv (v := .int .i64 ((Lib.nDigits u : Int) - 1)) (w' := w4) ?_
  refine lsv (w' := w4) ?_
  refine wpList_nil ?_
  go_wp2
  clear e1
  go_loopw [8] (fun x W => ∃ k : Nat, k ≤ Lib.nDigits u ∧ x = .int .i64 ((Lib.nDigits u : Int) - 1 - (k : Int)) ∧ WR w2 W o so sa (14 - (k : Int)) (pkB (nsOf (sgnI neg) u k))) (fun x _ => ((intOf x) + 1).toNat)
  case atStart => exact ⟨0, Nat.zero_le _, by simp, R4.out⟩
  case round =>
    clear R4 c1
    obtain ⟨k, hk, rfl, hR⟩ := hrel
    have R := Lib.hid hR
    clear hR
    by_cases hlt : k < Lib.nDigits u
    · obtain ⟨i, hi⟩ : ∃ i : Nat, Lib.nDigits u = i + 1 + k := ⟨Lib.nDigits u - 1 - k, by omega⟩
      have ei : ((Lib.nDigits u : Int) - 1 - (k : Int)) = (i : Int) := by omega
      rw [ei]
      have k5 : (0 : Int) ≤ (i : Int) := by omega
      have hiy := fun W => dd_byte u i (by omega) W
      rw [show Lib.nDigits u - 1 - i = k by omega] at hiy
      have hm : u / 10 ^ k % 10 < 10 := Nat.mod_lt _ (by omega)
      obtain ⟨d, hd⟩ : ∃ d : Nat, u / 10 ^ k % 10 = d := ⟨_, rfl⟩
      rw [hd] at hiy hm
      obtain ⟨c, hc⟩ : ∃ c : Int, ((48 + d : Nat) : Int) = c := ⟨_, rfl⟩
      rw [hc] at hiy
      have e2 : IntKind.u8.wrap (c - 48) = (d : Int) := by rw [IntKind.wrap_u8]; omega
      have e3 : IntKind.i64.wrap ((i : Int) - 1) = (i : Int) - 1 := wrap_i64_id (by omega) (by omega)
      have PC := Lib.hid (wput_c (d := (d : Int)) (ns := nsOf (sgnI neg) u k) (by omega) (by rw [nsOf_len]; omega) (nsOf_rng _ _ _ (by omega) (by omega)) (by rw [nsOf_len]; omega) R.out)
      have c1 := (HB.out.keep R.out.b).cell (c := 1) rfl
      rename World => W5
      go_upto_region 8 with fail
      refine wp_region_list ?_
      simp only [List.append_eq, List.cons_append, List.nil_append]
      refine lsv (w' := W5) ?_
      refine lsv (w' := W5) ?_
      refine lsv (v := .string (dstr u)) (w' := W5) ?_
      refine lsv (w' := W5) ?_
      refine lsv (v := .int .u8 c) (w' := W5) ?_
      refine lsv (v := .int .u8 (d : Int)) (w' := W5) ?_
      clear hc
      refine lsc PC.out ?_
      intro w6 Z
      have R6 := Lib.hid Z.out
      clear Z PC R
      refine wpList_nil ?_
      clear c1 hiy
      go_wp2
      go_roundw
      case rel => exact ⟨k + 1, by omega, by simp; omega, by rw [nsOf_succ, hd, show (14 : Int) - ((k + 1 : Nat) : Int) = 14 - (k : Int) - 1 by omega]; exact R6.out⟩
      case measure => first | (simp [intOf]; done) | (simp [intOf]; omega)
    · obtain rfl : k = Lib.nDigits u := by omega
      have k5 : ¬ ((0 : Int) ≤ (Lib.nDigits u : Int) - 1 - (Lib.nDigits u : Int)) := by omega
      go_upto_region 9 with fail
      have c1 := (HB.out.keep R.out.b).cell (c := 1) rfl
      have k6 : ¬ ((15 : Int) < ((dstr u).size : Int)) := by rw [HS.out]; omega
      have YB := Lib.hid (show Byt _ (some ⟨o, 0, none⟩) 8 (cvdB neg u) from R.out.byt (pkB_rng _ (nsOf_rng _ _ _ (by omega) (by omega))))
      have B9 := Lib.hid (BB.out.trans (R.out.b.mono (by have := BB.out.size; omega)))
      rename World => W5
      refine wp_region_held_drew (S := fun W => W.cell? ⟨g2, 1, none⟩ = some (.string (dstr u)) ∧ Byt W (some ⟨o, 0, none⟩) 8 (cvdB neg u) ∧ Below g2 w W) (by kernel_rfl) ⟨c1, YB.out.keep (dBelow' (Below.refl W5.heap.size W5) 1), B9.out.trans ((dBelow' (Below.refl W5.heap.size W5) 1).mono (by have := B9.out.size; omega))⟩ (fun hHeld => ?_)
      have Z := Lib.hid hHeld
      clear YB B9 R c1
      repeat refine tkn ?_
      refine tki 3 ?_
      repeat refine tkn ?_
      refine wpAnyH_done (by with_unfolding_all rfl) ?_ _
      clear hHeld
      go_wp2
      go_ret2
      have kd : (decide (IntKind.i64.wrap (IntKind.i64.wrap 16 - 1) < ((dstr u).size : Int))) = false := by rw [show IntKind.i64.wrap (IntKind.i64.wrap 16 - 1) = 15 from rfl]; exact decide_eq_false (by omega)
      refine ⟨_, rfl, some ⟨o, 0, none⟩, ⟨8, ?_⟩, Z.out.2.1, Z.out.2.2⟩
      show Value.tuple #[.slice (some ⟨o, 0, none⟩) 8 8, .bool (decide (IntKind.i64.wrap (IntKind.i64.wrap 16 - 1) < ((dstr u).size : Int)))] = _
      rw [kd]
end Go.Proofs.YtljajnaclpbecaaGreatDoor

namespace Go.Proofs.YtljajnaclpbecaaGreatDoor
open Go.RowKit
set_option maxRecDepth 100000
set_option linter.unusedVariables false
set_option linter.unusedSimpArgs false
/-- digits as a string of Go's -/
def dtx (ds : List Nat) : ByteArray := ⟨(ds.map fun d => UInt8.ofNat (48 + d)).toArray⟩
theorem dtx_size (ds : List Nat) : (dtx ds).size = ds.length := by
  show ((ds.map fun d => UInt8.ofNat (48 + d)).toArray).size = _
  simp
theorem dtx_get (ds : List Nat) (i d : Nat) (h : ds[i]? = some d) (hd : d < 10) (W : World) : (Instr.index 9 (.string (dtx ds)) (.int .i64 (i : Int))).run Tryz.prog W = .ok (.int .u8 ((48 + d : Nat) : Int)) W := by
  have hs := dtx_size ds
  obtain ⟨hi, he⟩ := List.getElem?_eq_some_iff.1 h
  rw [run_index_string W 9 (dtx ds) .i64 (i : Int) Tryz.underlying9, dif_pos (by omega)]
  have e : ((dtx ds)[((i : Int)).toNat]'(by omega)) = UInt8.ofNat (48 + d) := by
    show ((ds.map fun d => UInt8.ofNat (48 + d)).toArray)[((i : Int)).toNat]'(by simpa using hi) = _
    simp [he]
  rw [e]
  simp
  omega
set_option maxRecDepth 1000000 in
set_option maxHeartbeats 8000000 in
theorem ecode_c (d : Nat) (hd : d < 10) (w : World) : Calls Tryz.prog 44 #[.int .u8 ((48 + d : Nat) : Int)] w fun e w' => e = .returned (.tuple #[.int .u8 ((240 + d : Nat) : Int), .bool true]) ∧ w = w' := by
  rcases (show d = 0 ∨ d = 1 ∨ d = 2 ∨ d = 3 ∨ d = 4 ∨ d = 5 ∨ d = 6 ∨ d = 7 ∨ d = 8 ∨ d = 9 by omega) with rfl | rfl | rfl | rfl | rfl | rfl | rfl | rfl | rfl | rfl
  all_goals
    go_enter Tryz.func44, Tryz.ntmps44
    go_wp2
    go_ret2
    exact ⟨rfl, rfl⟩
def zon (d : Nat) : Int := ((240 + d : Nat) : Int)
def outs (ds : List Nat) (k : Nat) : List Int := (ds.take k).map zon ++ List.replicate (10 - k) 0
theorem byt_bk {W : World} {o n : Nat} {zs : List Int} (h : Bk W o 5 (zs.map (Value.int .u8))) (hn : zs.length = n) (hr : ∀ z ∈ zs, 0 ≤ z ∧ z ≤ 255) : Byt W (some ⟨o, 0, none⟩) n zs :=
  ⟨hn, hr, fun _ => ⟨o, 0, rfl, fun i hi => by
    rw [Nat.zero_add]
    refine h.cell ?_
    rw [List.getElem?_map, List.getElem?_eq_getElem (by omega), List.getD_eq_getElem?_getD, List.getElem?_eq_getElem (by omega)]
    rfl⟩⟩
theorem outs_len {ds : List Nat} {k : Nat} (hl : ds.length = 10) (hk : k ≤ 10) : (outs ds k).length = 10 := by simp [outs, hl]; omega
theorem outs_succ {ds : List Nat} {k d : Nat} (hl : ds.length = 10) (hk : k < 10) (hd : ds[k]? = some d) : (outs ds k).set k (zon d) = outs ds (k + 1) := by
  obtain ⟨hi, he⟩ := List.getElem?_eq_some_iff.1 hd
  have hA : ((ds.take k).map zon).length = k := by simp; omega
  unfold outs
  rw [List.set_append_right _ _ (by omega), hA, Nat.sub_self, show 10 - k = (10 - (k + 1)) + 1 by omega, List.replicate_succ, List.set_cons_zero, List.take_succ_eq_append_getElem hi, he, List.map_append]
  simp
set_option maxRecDepth 1000000 in
set_option maxHeartbeats 8000000 in
theorem extend10_c (ds : List Nat) (hl : ds.length = 10) (hd : ∀ d ∈ ds, d < 10) (w : World) : Calls Tryz.prog 30 #[.string (dtx ds), .int .i64 10] w fun e w' => ∃ v, e = .returned v ∧ ∃ A cap, v = .tuple #[.slice A 10 cap, .int .i64 0] ∧ Byt w' A 10 (ds.map zon) ∧ Below w.heap.size w w' := by
  have mk : ∀ W, (Instr.makeSlice 22 (.int .i64 10) (.int .i64 10)).run Tryz.prog W = .ok (.slice (some ⟨W.heap.size, 0, none⟩) 10 10) (W.alloc (.cells (zeroB 10) 5)) := fun W => run_mk_b 10 (by omega) W
  have HS := Lib.hid (dtx_size ds)
  have HD := Lib.hid hd
  have HL := Lib.hid hl
  clear hd hl
  go_enter Tryz.func30, Tryz.ntmps30
  go_upto_region 1 with fail
  refine wp_region_list ?_
  simp only [List.append_eq, List.cons_append, List.nil_append]
  refine lsv (w' := w) ?_
  refine lsv (v := .slice (some ⟨w.heap.size, 0, none⟩) 10 10) (w' := w.alloc (.cells (zeroB 10) 5)) ?_
  have O1 : Bk (w.alloc (.cells (zeroB 10) 5)) w.heap.size 5 ((outs ds 0).map (Value.int .u8)) := Bk.new w _ 5
  have B1 := (Below.refl w.heap.size w).alloc (Nat.le_refl _) (.cells (zeroB 10) 5)
  obtain ⟨w1, hW⟩ : ∃ V, w.alloc (.cells (zeroB 10) 5) = V := ⟨_, rfl⟩
  rw [hW] at O1 B1
  rw [hW]
  clear hW mk
  obtain ⟨o, ho⟩ : ∃ k, w.heap.size = k := ⟨_, rfl⟩
  rw [ho] at O1 B1
  simp only [ho]
  have lo := O1.lt
  refine lsv (w' := w1) ?_
  refine wpList_nil ?_
  go_wp2
  go_loopw [14] (fun x W => ∃ k : Nat, k ≤ 10 ∧ x = .int .i64 (k : Int) ∧ Bk W o 5 ((outs ds k).map (Value.int .u8)) ∧ Below o w W) (fun x _ => 10 - (intOf x).toNat)
  case atStart => exact ⟨0, by omega, rfl, O1, B1⟩
  case round =>
    clear O1 B1 lo
    obtain ⟨k, hk, rfl, hO, hB⟩ := hrel
    rename World => W
    by_cases hlt : k < 10
    · have k1 : (k : Int) < 10 := by omega
      have k2 : ¬ (((dtx ds).size : Int) ≤ (k : Int)) := by rw [HS.out, HL.out]; omega
      have hi : k < ds.length := by rw [HL.out]; exact hlt
      obtain ⟨d, hdk⟩ : ∃ d, ds[k]? = some d := ⟨_, List.getElem?_eq_getElem hi⟩
      have hd10 := HD.out d (List.mem_of_getElem? hdk)
      have hix := fun W => dtx_get ds k d hdk hd10 W
      have EC := Lib.hid (fun W => ecode_c d hd10 W)
      have OS := Lib.hid (outs_succ HL.out hlt hdk)
      obtain ⟨c, hc⟩ : ∃ c : Int, ((48 + d : Nat) : Int) = c := ⟨_, rfl⟩
      rw [hc] at hix EC
      have L10 := outs_len (ds := ds) (k := k) HL.out hk
      have c1 : W.cell? ⟨o, k, none⟩ = some (.int .u8 ((outs ds k).getD k 0)) := by
        refine hO.cell ?_
        rw [List.getElem?_map, List.getElem?_eq_getElem (by omega), List.getD_eq_getElem?_getD, List.getElem?_eq_getElem (by omega)]
        rfl
      have f1 := hO.free
      have O2 := Lib.hid (hO.set_ k (.int .u8 64))
      have B2 := Lib.hid (below_ch hB ((Ch.refl W [o]).setCell (p := ⟨o, k, none⟩) (by simp) (.int .u8 64)) (by simp) (by have := hO.lt; omega))
      go_upto_region 5 with fail
      refine wp_region_list ?_
      simp only [List.append_eq, List.cons_append, List.nil_append]
      refine lsv (w' := W) ?_
      refine lsv (w' := W) ?_
      refine lsv (v := .pointer (some ⟨o, k, none⟩)) (w' := W) ?_
      refine lsk (w' := W.setCell ⟨o, k, none⟩ (.int .u8 64)) (by unfold execOp; go_simp; (try rfl)) ?_
      refine wpList_nil ?_
      obtain ⟨W2, hW⟩ : ∃ V, W.setCell ⟨o, k, none⟩ (.int .u8 64) = V := ⟨_, rfl⟩
      rw [hW] at O2 B2
      rw [hW]
      clear hW c1 f1 hO hB
      go_upto_region 10 with (go_at_call 44; refine nz (EC.out _) ?_)
      have c1 : W2.cell? ⟨o, k, none⟩ = some (.int .u8 64) := O2.out.cell (by rw [List.getElem?_set_self (by simp; omega)])
      have f1 := O2.out.free
      refine wp_region_list ?_
      simp only [List.append_eq, List.cons_append, List.nil_append]
      refine lsv (w' := W2) ?_
      refine lsv (w' := W2) ?_
      refine lsv (v := .int .u8 (zon d)) (w' := W2) ?_
      refine lsv (v := .pointer (some ⟨o, k, none⟩)) (w' := W2) ?_
      refine lsk (w' := W2.setCell ⟨o, k, none⟩ (.int .u8 (zon d))) (by unfold execOp; go_simp; (try rfl)) ?_
      refine wpList_nil ?_
      have O3 := O2.out.set_ k (.int .u8 (zon d))
      rw [List.set_set, ← List.map_set, OS.out] at O3
      have B3 := below_ch B2.out ((Ch.refl W2 [o]).setCell (p := ⟨o, k, none⟩) (by simp) (.int .u8 (zon d))) (by simp) (by have := O2.out.lt; omega)
      clear c1 f1 hix
      go_wp2
      go_roundw
      case rel => exact ⟨k + 1, by omega, by go_num, O3, B3⟩
      case measure => simp [intOf]; omega
    · obtain rfl : k = 10 := by omega
      have k1 : ¬ (((10 : Nat) : Int) < 10) := by omega
      go_wp2
      go_ret2
      have e10 : outs ds 10 = ds.map zon := by unfold outs; rw [List.take_of_length_le (by rw [HL.out]; omega)]; simp
      rw [e10] at hO
      exact ⟨_, rfl, some ⟨o, 0, none⟩, ⟨10, rfl⟩, byt_bk hO (by rw [List.length_map, HL.out]) (by
        intro z hz
        obtain ⟨d, hd, rfl⟩ := List.mem_map.1 hz
        have := HD.out d hd
        unfold zon
        omega), hB⟩
set_option maxRecDepth 1000000 in
set_option maxHeartbeats 8000000 in
theorem eencode_c (ds : List Nat) (hl : ds.length = 10) (hd : ∀ d ∈ ds, d < 10) (w : World) : Calls Tryz.prog 19 #[.string (dtx ds)] w fun e w' => ∃ v, e = .returned v ∧ ∃ A cap, v = .tuple #[.slice A 10 cap, .int .i64 0] ∧ Byt w' A 10 (ds.map zon) ∧ Below w.heap.size w w' := by
  have EC := Lib.hid (extend10_c ds hl hd w)
  have hs : ((dtx ds).size : Int) = 10 := by rw [dtx_size, hl]; rfl
  go_enter Tryz.func19, Tryz.ntmps19
  go_upto_region 1 with fail
  refine wp_region_list ?_
  simp only [List.append_eq, List.cons_append, List.nil_append]
  refine lsv (w' := w) ?_
  refine lsv (w' := w) ?_
  refine lsv (v := .int .i64 10) (w' := w) ?_
  refine lsce EC.out ?_
  intro v w1 Z
  obtain ⟨A, cap, rfl, hy, hb⟩ := Z.out
  have Y := Lib.hid (⟨hy, hb⟩ : Byt w1 A 10 (ds.map zon) ∧ Below w.heap.size w w1)
  clear Z hy hb EC
  refine lsv (w' := w1) ?_
  refine lsv (w' := w1) ?_
  refine lsv (w' := w1) ?_
  refine lsv (w' := w1) ?_
  refine wpList_nil ?_
  go_wp2
  go_ret2
  exact ⟨_, rfl, A, cap, rfl, Y.out.1, Y.out.2⟩
end Go.Proofs.YtljajnaclpbecaaGreatDoor

namespace Go.Proofs.YtljajnaclpbecaaGreatDoor
open Go.RowKit
set_option maxRecDepth 100000
set_option linter.unusedVariables false
set_option linter.unusedSimpArgs false
theorem tab_ch {w w' : World} {b : Nat} (h : Lib.TabIs Tryz.prog w "internal/strconv.uint64pow10" .u64 Lib.pow10Tab) (hc : Ch w w' [b]) (hg : b ≠ 2 ∧ 2 < w.heap.size) : Lib.TabIs Tryz.prog w' "internal/strconv.uint64pow10" .u64 Lib.pow10Tab := by
  have e := hc.block 2 hg.2 (by simp; omega)
  have g0 : Tryz.prog.globalNamed "internal/strconv.uint64pow10" = some 2 := by kernel_rfl
  unfold Lib.TabIs World.var? at h ⊢
  rw [g0] at h ⊢
  simp only [Option.bind_some] at h ⊢
  rw [e]
  exact h
section
variable {w0 w w' : World} {g : Nat} {F : Foot} {ix rs : List Int} {p : Ps} {bs bs' ks : List Int} {op fm r1 r2 x2 b1 d1 b2 d2 l1 l2 i2 : Int}
set_option maxRecDepth 1000000 in
set_option maxHeartbeats 8000000 in
theorem dcvd_c {zc : List Int} (h : DR w0 w g F [78, 2, 1, 0, 0, 0, 0, 0, 1024, 0, 0, 0] rs p bs ks) (hk : sCode (alP p.key) bs.length ks 1024 8 = 0) (hl : zc.length = 8) (ht : Lib.TabIs Tryz.prog w "internal/strconv.uint64pow10" .u64 Lib.pow10Tab) (hgt : F.gb ≠ 2 ∧ 2 < w.heap.size) (fb : ∀ W, Lib.TabIs Tryz.prog W "internal/strconv.uint64pow10" .u64 Lib.pow10Tab → Calls Tryz.prog 85 #[.int .u32 (rs.getD 1 0)] W fun e w' => ∃ v, e = .returned v ∧ ∃ A cap, v = .slice A 8 cap ∧ Byt w' A 8 zc ∧ Below W.heap.size W w') : Calls Tryz.prog 69 #[.pointer (some ⟨g, 0, none⟩)] w fun e w' => e = .returned (.int .i64 0) ∧ DR w0 w' g F [78, 2, 1, 0, 0, 0, 0, 0, 1024, 0, 0, 0] rs p (sPut (alP p.key) bs ks 1024 zc) ks ∧ Ch w w' [F.gb] := by
  have AC := Lib.hid (fun W (hW : DR w0 W g F [78, 2, 1, 0, 0, 0, 0, 0, 1024, 0, 0, 0] rs p bs ks) => da_c hW (by rfl) (by rfl) (by rfl))
  have PC := Lib.hid (fun W A cap (hW : DR w0 W g F [78, 2, 1, 0, 0, 0, 0, 0, 1024, 0, 0, 0] rs p bs ks) hy => dput_c (a := 1024) (A := A) (len := 8) (cap := cap) (ys := zc) hW hy (by omega) hk)
  have FB := Lib.hid fb
  have H := Lib.hid h
  clear h fb hk
  go_enter Tryz.func69, Tryz.ntmps69
  go_upto_region 1 with fail
  refine wp_region_held_drew (S := fun W => ∃ b, DR w0 W g F [78, 2, 1, 0, 0, 0, 0, 0, 1024, 0, 0, 0] rs p b ks ∧ True) (by kernel_rfl) ⟨_, H.out.drew, trivial⟩ (fun hHeld => ?_)
  replace H := Lib.hid H.out.drew
  have C0 := Lib.hid (show Ch w w.drew [F.gb] from Ch.of_below (dBelow' (Below.refl w.heap.size w) 1) [F.gb])
  obtain ⟨v0, hv⟩ : ∃ V, w.drew = V := ⟨_, rfl⟩
  rw [hv] at H hHeld C0 ⊢
  clear hv
  repeat refine tkd ?_
  refine wpAnyH_done (by with_unfolding_all rfl) ?_ _
  clear hHeld
  refine H.out.opn ?_
  intros
  go_upto_region 10 with fail
  refine wp_region_list ?_
  simp only [List.append_eq, List.cons_append, List.nil_append]
  refine lsv (w' := v0) ?_
  refine lsc (AC.out _ H.out) ?_
  intro v1 B
  have C1 := Lib.hid (C0.out.trans (Ch.of_below B.out [F.gb]))
  replace H := Lib.hid (H.out.keep B.out)
  clear B C0
  refine lsv (w' := v1) ?_
  refine lsv (w' := v1) ?_
  refine lsc (dneed_c _) ?_
  intro v2 hv
  obtain rfl := hv.out
  refine wpList_nil ?_
  go_upto_region 11 with fail
  refine wp_region_held_drew (S := fun W => ∃ b, DR w0 W g F [78, 2, 1, 0, 0, 0, 0, 0, 1024, 0, 0, 0] rs p b ks ∧ True) (by kernel_rfl) ⟨_, H.out.drew, trivial⟩ (fun hHeld => ?_)
  have Z := Lib.hid (show DR w0 v1.drew g F [78, 2, 1, 0, 0, 0, 0, 0, 1024, 0, 0, 0] rs p bs ks ∧ Ch w v1.drew [F.gb] from ⟨H.out.drew, C1.out.trans (Ch.of_below (dBelow' (Below.refl v1.heap.size v1) 1) _)⟩)
  obtain ⟨v3, hv⟩ : ∃ V, v1.drew = V := ⟨_, rfl⟩
  rw [hv] at Z hHeld ⊢
  clear hv H C1
  repeat refine tkd ?_
  refine tkc (R := fun W => DR w0 W g F [78, 2, 1, 0, 0, 0, 0, 0, 1024, 0, 0, 0] rs p bs ks ∧ Ch w W [F.gb]) ((AC.out _ Z.out.1).mono fun e w' h => ⟨h.1, Z.out.1.keep h.2, Z.out.2.trans (Ch.of_below h.2 _)⟩) (fun _ h => ⟨_, h.1, trivial⟩) ?_
  clear Z hHeld
  intro v4 Z hHeld
  repeat refine tkd ?_
  refine tkce (R := fun v W => (DR w0 W g F [78, 2, 1, 0, 0, 0, 0, 0, 1024, 0, 0, 0] rs p bs ks ∧ Ch w W [F.gb]) ∧ ∃ A cap, v = .slice A 8 cap ∧ Byt W A 8 zc) ((FB.out _ (tab_ch ht Z.out.2 hgt)).mono fun e w' ⟨v, he, A, cap, hv, hy, hb⟩ => ⟨v, he, ⟨Z.out.1.keep hb, Z.out.2.trans (Ch.of_below hb _)⟩, A, cap, hv, hy⟩) (fun _ _ h => ⟨_, h.1.1, trivial⟩) ?_
  clear Z hHeld
  intro v v5 Z hHeld
  obtain ⟨hZ, A, cap, rfl, hy⟩ := Z.out
  repeat refine tkd ?_
  refine tkc (R := fun W => DR w0 W g F [78, 2, 1, 0, 0, 0, 0, 0, 1024, 0, 0, 0] rs p (sPut (alP p.key) bs ks 1024 zc) ks ∧ Ch w W [F.gb]) ((PC.out _ _ _ hZ.1 hy).mono fun e w' h => ⟨h.1, h.2.1, hZ.2.trans h.2.2⟩) (fun _ h => ⟨_, h.1, trivial⟩) ?_
  clear Z hHeld hZ hy
  intro v6 Z hHeld
  repeat refine tkd ?_
  refine wpAnyH_done (by with_unfolding_all rfl) ?_ _
  clear hHeld
  go_wp2
  go_ret
  exact ⟨rfl, Z.out⟩
set_option maxRecDepth 1000000 in
set_option maxHeartbeats 8000000 in
theorem dunpk_c {zu : List Int} (h : DR w0 w g F [243, 6, 0, 0, 0, 0, 1040, 0, 1024, 9, 7, 0] rs p bs ks) (hk : sCode (alP p.key) bs.length ks 1040 10 = 0) (hf : sCode (alF p.key) bs.length ks 1024 8 = 0) (hl : zu.length = 10) (up : ∀ W b cap, Byt W (some ⟨b, 0, none⟩) 8 (sGet bs 1024 8) → Calls Tryz.prog 89 #[.slice (some ⟨b, 0, none⟩) 8 cap, .int .i64 10] W fun e w' => ∃ v, e = .returned v ∧ ∃ A cap, v = .slice A 10 cap ∧ Byt w' A 10 zu ∧ Below W.heap.size W w') : Calls Tryz.prog 69 #[.pointer (some ⟨g, 0, none⟩)] w fun e w' => e = .returned (.int .i64 0) ∧ DR w0 w' g F [243, 6, 0, 0, 0, 0, 1040, 0, 1024, 9, 7, 0] rs p (sPut (alP p.key) bs ks 1040 zu) ks ∧ Ch w w' [F.gb] := by
  have AC := Lib.hid (fun W (hW : DR w0 W g F [243, 6, 0, 0, 0, 0, 1040, 0, 1024, 9, 7, 0] rs p bs ks) => da1_c hW (by rfl) (by rfl) (by rfl))
  have SC := Lib.hid (fun W (hW : DR w0 W g F [243, 6, 0, 0, 0, 0, 1040, 0, 1024, 9, 7, 0] rs p bs ks) => dsecond_c (d := 1024) (n := 8) hW (by rfl) (by rfl) (by rfl) (by rfl) (by omega) (by rfl) hf)
  have PC := Lib.hid (fun W A cap (hW : DR w0 W g F [243, 6, 0, 0, 0, 0, 1040, 0, 1024, 9, 7, 0] rs p bs ks) hy => dput_c (a := 1040) (A := A) (len := 10) (cap := cap) (ys := zu) hW hy (by omega) hk)
  have UP := Lib.hid up
  have H := Lib.hid h
  clear h up hk hf
  go_enter Tryz.func69, Tryz.ntmps69
  go_upto_region 1 with fail
  refine wp_region_held_drew (S := fun W => ∃ b, DR w0 W g F [243, 6, 0, 0, 0, 0, 1040, 0, 1024, 9, 7, 0] rs p b ks ∧ True) (by kernel_rfl) ⟨_, H.out.drew, trivial⟩ (fun hHeld => ?_)
  replace H := Lib.hid H.out.drew
  have C0 := Lib.hid (show Ch w w.drew [F.gb] from Ch.of_below (dBelow' (Below.refl w.heap.size w) 1) [F.gb])
  obtain ⟨v0, hv⟩ : ∃ V, w.drew = V := ⟨_, rfl⟩
  rw [hv] at H hHeld C0 ⊢
  clear hv
  repeat refine tkd ?_
  refine wpAnyH_done (by with_unfolding_all rfl) ?_ _
  clear hHeld
  refine H.out.opn ?_
  intros
  have w10 : IntKind.i64.wrap 10 = 10 := rfl
  go_upto_region 15 with fail
  refine wp_region_list ?_
  simp only [List.append_eq, List.cons_append, List.nil_append]
  refine lsv (w' := v0) ?_
  refine lsv (w' := v0) ?_
  refine lsc (AC.out _ H.out) ?_
  intro v1 B
  have C1 := Lib.hid (C0.out.trans (Ch.of_below B.out [F.gb]))
  replace H := Lib.hid (H.out.keep B.out)
  clear B C0
  refine lsv (w' := v1) ?_
  refine lsce (SC.out _ H.out) ?_
  intro v v2 Z
  obtain ⟨b, cap, rfl, hy, -, -, hb⟩ := Z.out
  have C2 := Lib.hid (C1.out.trans (Ch.of_below hb [F.gb]))
  replace H := Lib.hid (H.out.keep hb)
  have Y := Lib.hid hy
  clear hb C1 Z hy
  refine lsv (w' := v2) ?_
  refine lsce (UP.out _ _ cap Y.out) ?_
  intro v v3 Z
  obtain ⟨A, cap', rfl, hy, hb⟩ := Z.out
  have C3 := Lib.hid (C2.out.trans (Ch.of_below hb [F.gb]))
  replace H := Lib.hid (H.out.keep hb)
  clear hb C2 Z Y
  refine lsc (PC.out _ _ _ H.out hy) ?_
  intro v4 Z
  refine wpList_nil ?_
  go_wp2
  go_ret
  exact ⟨rfl, Z.out.1, C3.out.trans Z.out.2⟩
end
end Go.Proofs.YtljajnaclpbecaaGreatDoor

