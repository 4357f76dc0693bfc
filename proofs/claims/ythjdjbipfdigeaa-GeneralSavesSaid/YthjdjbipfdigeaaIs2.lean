/- CONTRACTS of package isa: layout. No conditions but that the instruction lies in a block. -/
import Derived.Test.YthjdjbipfdigeaaIs0
import Derived.Test.YthjdjbipfdigeaaWdF
import Derived.Test.YthjdjbipfdigeaaRg
import Derived.Test.YthjdjbipfdigeaaKp
import Derived.Lib.Hide
import Derived.Outline
import Derived.Handy
import Derived.BigQuiet
import Derived.Deep.CutRange
import Derived.RegionTactic
import Derived.Deep.QuietTactic
namespace Go.Proofs.Ythjdjbipfdigeaa
open Go.RowKit
set_option linter.unusedVariables false
set_option linter.unusedSimpArgs false
/-- a field's variable: a pointer to the field's cell in block b, its bits, its place -/
def Fd (w : World) (base : Nat) (v : Value) (b c : Nat) (n at_ : Int) : Prop := ∃ x, v = .pointer (some ⟨x, 0, none⟩) ∧ base ≤ x ∧ w.cell? ⟨x, 0, none⟩ = some (.pointer (some ⟨b, c, none⟩)) ∧ w.cell? ⟨x, 1, none⟩ = some (.int .i64 n) ∧ w.cell? ⟨x, 2, none⟩ = some (.int .i64 at_)
theorem Fd.keep {w w' : World} {base : Nat} {v : Value} {b c : Nat} {n at_ : Int} (h : Fd w base v b c n at_) (hb : Below w.heap.size w w') : Fd w' base v b c n at_ := by
  obtain ⟨x, h0, h1, h2, h3, h4⟩ := h
  exact ⟨x, h0, h1, bcell_keep h2 hb, bcell_keep h3 hb, bcell_keep h4 hb⟩
theorem Fd.le {w : World} {base base' : Nat} {v : Value} {b c : Nat} {n at_ : Int} (h : Fd w base v b c n at_) (hb : base' ≤ base) : Fd w base' v b c n at_ := by
  obtain ⟨x, h0, h1, h2⟩ := h
  exact ⟨x, h0, Nat.le_trans hb h1, h2⟩
/-- the fields of a format: which cell, how many bits, at which half byte -/
def lay (form : Int) : List (Nat × Int × Int) := if form = 1 then [(2, 4, 2), (3, 4, 3)] else if form = 8 then [(2, 4, 2)] else if form = 7 then [(11, 8, 2)] else if form = 2 then [(2, 4, 2), (4, 4, 3), (7, 4, 4), (8, 12, 5)] else if form = 3 then [(2, 4, 2), (3, 4, 3), (7, 4, 4), (8, 12, 5)] else if form = 4 then [(11, 8, 2), (5, 4, 4), (6, 12, 5)] else if form = 9 then [(5, 4, 4), (6, 12, 5)] else if form = 5 then [(9, 8, 2), (5, 4, 4), (6, 12, 5), (7, 4, 8), (8, 12, 9)] else [(9, 4, 2), (10, 4, 3), (5, 4, 4), (6, 12, 5), (7, 4, 8), (8, 12, 9)]
def fvals (b : Nat) (l : List (Nat × Int × Int)) : List Value := l.flatMap fun f => [.pointer (some ⟨b, f.1, none⟩), .int .i64 f.2.1, .int .i64 f.2.2]
def layPost (b : Nat) (form : Int) (w : World) (e : Ending) (w' : World) : Prop := ∃ g, e = .returned (.slice (some ⟨g, 0, none⟩) (lay form).length (lay form).length) ∧ w.heap.size ≤ g ∧ w'.heap[g]? = some (.cells (fvals b (lay form)).toArray 84 (0, 0)) ∧ Below w.heap.size w w'
theorem below_d {B : Nat} {a w : World} (h : Below B a w) : Below B a w.drew := ⟨h.os, h.tape, h.output, h.size, h.block⟩
section
variable {w : World} {b c : Nat} {n at_ : Int} {T : TypeId} {o1 o2 o3 : Obj}
theorem al_keep (w : World) (o : Obj) : Below w.heap.size w (w.alloc o) := (Below.refl _ _).alloc (Nat.le_refl _) o
theorem Fd.new (w : World) (b c : Nat) (n at_ : Int) (T : TypeId) : Fd (w.alloc (.cells #[.pointer (some ⟨b, c, none⟩), .int .i64 n, .int .i64 at_] T)) w.heap.size (.pointer (some ⟨w.heap.size, 0, none⟩)) b c n at_ :=
  ⟨_, rfl, Nat.le_refl _, by simp, by simp, by simp⟩
theorem fd_drew {w : World} {base : Nat} {v : Value} (h : Fd w base v b c n at_) : Fd w.drew base v b c n at_ := h.keep (below_d (Below.refl _ _))
theorem fd3_a : Fd (((w.alloc (.cells #[.pointer (some ⟨b, c, none⟩), .int .i64 n, .int .i64 at_] T)).alloc o2).alloc o3).drew w.heap.size (.pointer (some ⟨w.heap.size, 0, none⟩)) b c n at_ := fd_drew (((Fd.new w b c n at_ T).keep (al_keep _ _)).keep (al_keep _ _))
theorem fd3_b : Fd (((w.alloc o1).alloc (.cells #[.pointer (some ⟨b, c, none⟩), .int .i64 n, .int .i64 at_] T)).alloc o3).drew w.heap.size (.pointer (some ⟨w.heap.size + 1, 0, none⟩)) b c n at_ := by
  have h := Fd.new (w.alloc o1) b c n at_ T
  rw [World.size_alloc] at h
  exact fd_drew ((h.le (Nat.le_succ _)).keep (al_keep _ _))
theorem fd3_c : Fd (((w.alloc o1).alloc o2).alloc (.cells #[.pointer (some ⟨b, c, none⟩), .int .i64 n, .int .i64 at_] T)).drew w.heap.size (.pointer (some ⟨w.heap.size + 1 + 1, 0, none⟩)) b c n at_ := by
  have h := Fd.new ((w.alloc o1).alloc o2) b c n at_ T
  rw [World.size_alloc, World.size_alloc] at h
  exact fd_drew (h.le (by omega))
theorem fd2_a : Fd ((w.alloc (.cells #[.pointer (some ⟨b, c, none⟩), .int .i64 n, .int .i64 at_] T)).alloc o2).drew w.heap.size (.pointer (some ⟨w.heap.size, 0, none⟩)) b c n at_ := fd_drew ((Fd.new w b c n at_ T).keep (al_keep _ _))
theorem fd2_b : Fd ((w.alloc o1).alloc (.cells #[.pointer (some ⟨b, c, none⟩), .int .i64 n, .int .i64 at_] T)).drew w.heap.size (.pointer (some ⟨w.heap.size + 1, 0, none⟩)) b c n at_ := by
  have h := Fd.new (w.alloc o1) b c n at_ T
  rw [World.size_alloc] at h
  exact fd_drew (h.le (Nat.le_succ _))
end
set_option maxRecDepth 100000 in
set_option maxHeartbeats 4000000 in
theorem layout_c (b : Nat) (form : Int) (w : World) (h : w.cell? ⟨b, 1, none⟩ = some (.int .i64 form)) : Calls Try.prog 53 #[.pointer (some ⟨b, 0, none⟩)] w (layPost b form w) := by
  have H := Lib.hid h
  clear h
  obtain ⟨w0, hw0⟩ : ∃ w0, w0 = w := ⟨_, rfl⟩
  have B0 := Lib.hid (show Below w.heap.size w w0 from hw0 ▸ Below.refl _ _)
  rw [← hw0] at H
  have HW := Lib.hid hw0
  suffices hmain : Calls Try.prog 53 #[.pointer (some ⟨b, 0, none⟩)] w0 (layPost b form w) by rw [HW.out] at hmain; exact hmain
  clear hw0
  go_enter Try.func53, Try.ntmps53
  go_upto_region 1 with fail
  go_cut [3, 4, 5] from 13 to 25 (fun s3 s4 s5 wx => Fd wx w.heap.size s3 b 2 4 2 ∧ Fd wx w.heap.size s4 b 3 4 3 ∧ Fd wx w.heap.size s5 b 4 4 3 ∧ Below w0.heap.size w0 wx)
  case first =>
    go_region
    all_goals (go_wp2_with fail; go_meet; exact ⟨(by first | exact Fd.le fd3_a B0.out.size | exact Fd.le fd3_b B0.out.size | exact Fd.le fd3_c B0.out.size), (by first | exact Fd.le fd3_a B0.out.size | exact Fd.le fd3_b B0.out.size | exact Fd.le fd3_c B0.out.size), (by first | exact Fd.le fd3_a B0.out.size | exact Fd.le fd3_b B0.out.size | exact Fd.le fd3_c B0.out.size), below_d ((((Below.refl _ _).alloc (Nat.le_refl _) _).alloc (by simp) _).alloc (by simp; omega) _)⟩)
  case rest =>
  obtain ⟨f3, f4, f5, hb⟩ := hcut
  obtain ⟨w1, hnew⟩ : ∃ x, x = wc := ⟨_, rfl⟩
  rw [← hnew] at hb f3 f4 f5
  rw [← hnew]
  clear hnew
  have G3 := Lib.hid f3
  have G4 := Lib.hid f4
  have G5 := Lib.hid f5
  have B1 := Lib.hid (B0.out.trans (hb.mono B0.out.size))
  replace H := Lib.hid (bcell_keep H.out hb)
  clear hb f3 f4 f5
  go_upto_region 2 with fail
  go_cut [6, 7, 8] from 25 to 37 (fun s6 s7 s8 wx => Fd wx w.heap.size s6 b 11 8 2 ∧ Fd wx w.heap.size s7 b 9 4 2 ∧ Fd wx w.heap.size s8 b 10 4 3 ∧ Below w1.heap.size w1 wx)
  case first =>
    go_region
    all_goals (go_wp2_with fail; go_meet; exact ⟨(by first | exact Fd.le fd3_a B1.out.size | exact Fd.le fd3_b B1.out.size | exact Fd.le fd3_c B1.out.size), (by first | exact Fd.le fd3_a B1.out.size | exact Fd.le fd3_b B1.out.size | exact Fd.le fd3_c B1.out.size), (by first | exact Fd.le fd3_a B1.out.size | exact Fd.le fd3_b B1.out.size | exact Fd.le fd3_c B1.out.size), below_d ((((Below.refl _ _).alloc (Nat.le_refl _) _).alloc (by simp) _).alloc (by simp; omega) _)⟩)
  case rest =>
  obtain ⟨f6, f7, f8, hb⟩ := hcut
  obtain ⟨w2, hnew⟩ : ∃ x, x = wc := ⟨_, rfl⟩
  rw [← hnew] at hb f6 f7 f8
  rw [← hnew]
  clear hnew
  have G6 := Lib.hid f6
  have G7 := Lib.hid f7
  have G8 := Lib.hid f8
  replace G3 := Lib.hid (G3.out.keep hb)
  replace G4 := Lib.hid (G4.out.keep hb)
  replace G5 := Lib.hid (G5.out.keep hb)
  have B2 := Lib.hid (B1.out.trans (hb.mono B1.out.size))
  replace H := Lib.hid (bcell_keep H.out hb)
  clear hb f6 f7 f8
  go_upto_region 3 with fail
  go_cut [9, 10] from 37 to 45 (fun s9 s10 wx => Fd wx w.heap.size s9 b 5 4 4 ∧ Fd wx w.heap.size s10 b 6 12 5 ∧ Below w2.heap.size w2 wx)
  case first =>
    go_region
    all_goals (go_wp2_with fail; go_meet; exact ⟨(by first | exact Fd.le fd2_a B2.out.size | exact Fd.le fd2_b B2.out.size), (by first | exact Fd.le fd2_a B2.out.size | exact Fd.le fd2_b B2.out.size), below_d (((Below.refl _ _).alloc (Nat.le_refl _) _).alloc (by simp) _)⟩)
  case rest =>
  obtain ⟨f9, f10, hb⟩ := hcut
  obtain ⟨w3, hnew⟩ : ∃ x, x = wc := ⟨_, rfl⟩
  rw [← hnew] at hb f9 f10
  rw [← hnew]
  clear hnew
  have G9 := Lib.hid f9
  have G10 := Lib.hid f10
  replace G3 := Lib.hid (G3.out.keep hb)
  replace G4 := Lib.hid (G4.out.keep hb)
  replace G5 := Lib.hid (G5.out.keep hb)
  replace G6 := Lib.hid (G6.out.keep hb)
  replace G7 := Lib.hid (G7.out.keep hb)
  replace G8 := Lib.hid (G8.out.keep hb)
  have B3 := Lib.hid (B2.out.trans (hb.mono B2.out.size))
  replace H := Lib.hid (bcell_keep H.out hb)
  clear hb f9 f10
  go_upto_region 4 with fail
  go_cut [11, 12] from 45 to 53 (fun s11 s12 wx => Fd wx w.heap.size s11 b 7 4 8 ∧ Fd wx w.heap.size s12 b 8 12 9 ∧ Below w3.heap.size w3 wx)
  case first =>
    go_region
    all_goals (go_wp2_with fail; go_meet; exact ⟨(by first | exact Fd.le fd2_a B3.out.size | exact Fd.le fd2_b B3.out.size), (by first | exact Fd.le fd2_a B3.out.size | exact Fd.le fd2_b B3.out.size), below_d (((Below.refl _ _).alloc (Nat.le_refl _) _).alloc (by simp) _)⟩)
  case rest =>
  obtain ⟨f11, f12, hb⟩ := hcut
  obtain ⟨w4, hnew⟩ : ∃ x, x = wc := ⟨_, rfl⟩
  rw [← hnew] at hb f11 f12
  rw [← hnew]
  clear hnew
  have G11 := Lib.hid f11
  have G12 := Lib.hid f12
  replace G3 := Lib.hid (G3.out.keep hb)
  replace G4 := Lib.hid (G4.out.keep hb)
  replace G5 := Lib.hid (G5.out.keep hb)
  replace G6 := Lib.hid (G6.out.keep hb)
  replace G7 := Lib.hid (G7.out.keep hb)
  replace G8 := Lib.hid (G8.out.keep hb)
  replace G9 := Lib.hid (G9.out.keep hb)
  replace G10 := Lib.hid (G10.out.keep hb)
  have B4 := Lib.hid (B3.out.trans (hb.mono B3.out.size))
  replace H := Lib.hid (bcell_keep H.out hb)
  clear hb f11 f12
  have c0 := H.out
  by_cases e1 : form = 1
  · subst e1
    have hl := Lib.hid (show lay 1 = [(2, 4, 2), (3, 4, 3)] from by decide)
    clear H
    obtain ⟨x3, rfl, _, c30, c31, c32⟩ := G3.out
    obtain ⟨x4, rfl, _, c40, c41, c42⟩ := G4.out
    clear G3 G4 G5 G6 G7 G8 G9 G10 G11 G12
    go_wp2_with fail
    all_goals go_ret
    all_goals unfold layPost
    all_goals rw [hl.out]
    all_goals exact ⟨w4.heap.size, rfl, B4.out.size, (heap_alloc_new w4 _), B4.out.alloc B4.out.size _⟩
  by_cases e8 : form = 8
  · subst e8
    have hl := Lib.hid (show lay 8 = [(2, 4, 2)] from by decide)
    clear H
    obtain ⟨x3, rfl, _, c30, c31, c32⟩ := G3.out
    clear G3 G4 G5 G6 G7 G8 G9 G10 G11 G12
    go_wp2_with fail
    all_goals go_ret
    all_goals unfold layPost
    all_goals rw [hl.out]
    all_goals exact ⟨w4.heap.size, rfl, B4.out.size, (heap_alloc_new w4 _), B4.out.alloc B4.out.size _⟩
  by_cases e7 : form = 7
  · subst e7
    have hl := Lib.hid (show lay 7 = [(11, 8, 2)] from by decide)
    clear H
    obtain ⟨x6, rfl, _, c60, c61, c62⟩ := G6.out
    clear G3 G4 G5 G6 G7 G8 G9 G10 G11 G12
    go_wp2_with fail
    all_goals go_ret
    all_goals unfold layPost
    all_goals rw [hl.out]
    all_goals exact ⟨w4.heap.size, rfl, B4.out.size, (heap_alloc_new w4 _), B4.out.alloc B4.out.size _⟩
  by_cases e2 : form = 2
  · subst e2
    have hl := Lib.hid (show lay 2 = [(2, 4, 2), (4, 4, 3), (7, 4, 4), (8, 12, 5)] from by decide)
    clear H
    obtain ⟨x3, rfl, _, c30, c31, c32⟩ := G3.out
    obtain ⟨x5, rfl, _, c50, c51, c52⟩ := G5.out
    clear G3 G4 G5 G6 G7 G8 G9 G10 G11 G12
    go_wp2_with fail
    go_region
    all_goals go_wp2_with fail
    all_goals go_ret
    all_goals unfold layPost
    all_goals rw [hl.out]
    all_goals exact ⟨w4.heap.size, rfl, B4.out.size, (heap_alloc_new w4 _), below_d (B4.out.alloc B4.out.size _)⟩
  by_cases e3 : form = 3
  · subst e3
    have hl := Lib.hid (show lay 3 = [(2, 4, 2), (3, 4, 3), (7, 4, 4), (8, 12, 5)] from by decide)
    clear H
    obtain ⟨x3, rfl, _, c30, c31, c32⟩ := G3.out
    obtain ⟨x4, rfl, _, c40, c41, c42⟩ := G4.out
    clear G3 G4 G5 G6 G7 G8 G9 G10 G11 G12
    go_wp2_with fail
    go_region
    all_goals go_wp2_with fail
    all_goals go_ret
    all_goals unfold layPost
    all_goals rw [hl.out]
    all_goals exact ⟨w4.heap.size, rfl, B4.out.size, (heap_alloc_new w4 _), below_d (B4.out.alloc B4.out.size _)⟩
  by_cases e4 : form = 4
  · subst e4
    have hl := Lib.hid (show lay 4 = [(11, 8, 2), (5, 4, 4), (6, 12, 5)] from by decide)
    clear H
    obtain ⟨x6, rfl, _, c60, c61, c62⟩ := G6.out
    obtain ⟨x9, rfl, _, c90, c91, c92⟩ := G9.out
    obtain ⟨x10, rfl, _, c100, c101, c102⟩ := G10.out
    clear G3 G4 G5 G6 G7 G8 G9 G10 G11 G12
    go_wp2_with fail
    all_goals go_ret
    all_goals unfold layPost
    all_goals rw [hl.out]
    all_goals exact ⟨w4.heap.size, rfl, B4.out.size, (heap_alloc_new w4 _), B4.out.alloc B4.out.size _⟩
  by_cases e9 : form = 9
  · subst e9
    have hl := Lib.hid (show lay 9 = [(5, 4, 4), (6, 12, 5)] from by decide)
    clear H
    obtain ⟨x9, rfl, _, c90, c91, c92⟩ := G9.out
    obtain ⟨x10, rfl, _, c100, c101, c102⟩ := G10.out
    clear G3 G4 G5 G6 G7 G8 G9 G10 G11 G12
    go_wp2_with fail
    all_goals go_ret
    all_goals unfold layPost
    all_goals rw [hl.out]
    all_goals exact ⟨w4.heap.size, rfl, B4.out.size, (heap_alloc_new w4 _), B4.out.alloc B4.out.size _⟩
  by_cases e5 : form = 5
  · subst e5
    have hl := Lib.hid (show lay 5 = [(9, 8, 2), (5, 4, 4), (6, 12, 5), (7, 4, 8), (8, 12, 9)] from by decide)
    clear H
    obtain ⟨x9, rfl, _, c90, c91, c92⟩ := G9.out
    obtain ⟨x10, rfl, _, c100, c101, c102⟩ := G10.out
    obtain ⟨x11, rfl, _, c110, c111, c112⟩ := G11.out
    obtain ⟨x12, rfl, _, c120, c121, c122⟩ := G12.out
    clear G3 G4 G5 G6 G7 G8 G9 G10 G11 G12
    go_wp2_with fail
    go_region
    all_goals go_wp2_with fail
    all_goals go_ret
    all_goals unfold layPost
    all_goals rw [hl.out]
    all_goals exact ⟨w4.heap.size, rfl, B4.out.size, (heap_alloc_new w4 _), below_d (B4.out.alloc B4.out.size _)⟩
  have hl := Lib.hid (show lay form = [(9, 4, 2), (10, 4, 3), (5, 4, 4), (6, 12, 5), (7, 4, 8), (8, 12, 9)] from by unfold lay; rw [if_neg e1, if_neg e8, if_neg e7, if_neg e2, if_neg e3, if_neg e4, if_neg e9, if_neg e5])
  have n1 : (form == 1) = false := by rw [beq_eq_false_iff_ne]; exact e1
  have n8 : (form == 8) = false := by rw [beq_eq_false_iff_ne]; exact e8
  have n7 : (form == 7) = false := by rw [beq_eq_false_iff_ne]; exact e7
  have n2 : (form == 2) = false := by rw [beq_eq_false_iff_ne]; exact e2
  have n3 : (form == 3) = false := by rw [beq_eq_false_iff_ne]; exact e3
  have n4 : (form == 4) = false := by rw [beq_eq_false_iff_ne]; exact e4
  have n9 : (form == 9) = false := by rw [beq_eq_false_iff_ne]; exact e9
  have n5 : (form == 5) = false := by rw [beq_eq_false_iff_ne]; exact e5
  clear H e1 e8 e7 e2 e3 e4 e9 e5
  obtain ⟨x7, rfl, _, c70, c71, c72⟩ := G7.out
  obtain ⟨x8, rfl, _, c80, c81, c82⟩ := G8.out
  obtain ⟨x9, rfl, _, c90, c91, c92⟩ := G9.out
  obtain ⟨x10, rfl, _, c100, c101, c102⟩ := G10.out
  obtain ⟨x11, rfl, _, c110, c111, c112⟩ := G11.out
  obtain ⟨x12, rfl, _, c120, c121, c122⟩ := G12.out
  clear G3 G4 G5 G6 G7 G8 G9 G10 G11 G12
  go_wp2_with fail
  all_goals go_ret
  all_goals unfold layPost
  all_goals rw [hl.out]
  all_goals exact ⟨w4.heap.size, rfl, B4.out.size, (heap_alloc_new w4 _), B4.out.alloc B4.out.size _⟩
end Go.Proofs.Ythjdjbipfdigeaa
