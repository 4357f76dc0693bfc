/- Contracts and laws on the way to the statement, text 2 of 24. Conditions: as each states them. -/
import Derived.Test.YthjdjbipfdigeaaGreatRu1
import Derived.Lib.Hide
import Derived.Outline
import Derived.Handy
import Derived.BigQuiet
import Derived.Deep.CutRange
import Derived.RegionTactic
import Derived.Deep.QuietTactic
import Derived.RangeFuncNested
import Derived.RangeFuncBound
import Derived.RangeFuncCalls
import Derived.RangeFuncLeaves
import Derived.Shelf.Abstract
import Derived.Shelf.RegionOpen
import Derived.WalkKit
import Derived.OwnWalkIn
import Derived.TacticsInMore
import Derived.LoopNIn
import Derived.LoopIn
import Derived.Laws.EntriesVeiled
import Derived.Laws.BitsAllLaws
import Derived.Scope
import Derived.Test.YthjdjbipfdigeaaGreatProg
import Derived.Laws.StructEq
import Derived.Laws.Tables
import Derived.TacticsIn
import Derived.Sort.QuietIn
namespace Go.Proofs.YthjdjbipfdigeaaGreat
open Go.RowKit
set_option linter.unusedVariables false
set_option linter.unusedSimpArgs false
/-- a field's variable: a pointer to the field's cell in block b, its bits, its place -/
def Fd (w : World) (base : Nat) (v : Value) (b c : Nat) (n at_ : Int) : Prop := ∃ x, v = .pointer (some ⟨x, 0, none⟩) ∧ base ≤ x ∧ w.cell? ⟨x, 0, none⟩ = some (.pointer (some ⟨b, c, none⟩)) ∧ w.cell? ⟨x, 1, none⟩ = some (.int .i64 n) ∧ w.cell? ⟨x, 2, none⟩ = some (.int .i64 at_)
theorem Fd.keep {w w' : World} {base : Nat} {v : Value} {b c : Nat} {n at_ : Int} (h : Fd w base v b c n at_) (hb : Below w.heap.size w w') : Fd w' base v b c n at_ := by
  obtain ⟨x, h0, h1, h2, h3, h4⟩ := h
  exact ⟨x, h0, h1, bcell_keep h2 hb, bcell_keep h3 hb, bcell_keep h4 hb⟩
theorem Fd.le {w : World} {base base' : Nat} {v : Value} {b c : Nat} {n at_ : Int} (h : Fd w base v b c n at_) (hb : base' ≤ base) : Fd w base' v b c n at_ := by
  obtain ⟨x, h0, h1, h2⟩ := h
  exact ⟨x, h0, Nat.le_trans hb h1, h2⟩
/-- the fields of a format: which cell, how many bits, at which half byte -/
def lay (form : Int) : List (Nat × Int × Int) := if form = 1 then [(2, 4, 2), (3, 4, 3)] else if form = 8 then [(2, 4, 2)] else if form = 7 then [(11, 8, 2)] else if form = 2 then [(2, 4, 2), (4, 4, 3), (7, 4, 4), (8, 12, 5)] else if form = 3 then [(2, 4, 2), (3, 4, 3), (7, 4, 4), (8, 12, 5)] else if form = 4 then [(11, 8, 2), (5, 4, 4), (6, 12, 5)] else if form = 9 then [(5, 4, 4), (6, 12, 5)] else if form = 5 then [(9, 8, 2), (5, 4, 4), (6, 12, 5), (7, 4, 8), (8, 12, 9)] else [(9, 4, 2), (10, 4, 3), (5, 4, 4), (6, 12, 5), (7, 4, 8), (8, 12, 9)]
def fvals (b : Nat) (l : List (Nat × Int × Int)) : List Value := l.flatMap fun f => [.pointer (some ⟨b, f.1, none⟩), .int .i64 f.2.1, .int .i64 f.2.2]
def layPost (b : Nat) (form : Int) (w : World) (e : Ending) (w' : World) : Prop := ∃ g, e = .returned (.slice (some ⟨g, 0, none⟩) (lay form).length (lay form).length) ∧ w.heap.size ≤ g ∧ w'.heap[g]? = some (.cells (fvals b (lay form)).toArray 85 (0, 0)) ∧ Below w.heap.size w w'
theorem below_d {B : Nat} {a w : World} (h : Below B a w) : Below B a w.drew := ⟨h.os, h.tape, h.output, h.size, h.block⟩
section
variable {w : World} {b c : Nat} {n at_ : Int} {T : TypeId} {o1 o2 o3 : Obj}
theorem al_keep (w : World) (o : Obj) : Below w.heap.size w (w.alloc o) := (Below.refl _ _).alloc (Nat.le_refl _) o
theorem Fd.new (w : World) (b c : Nat) (n at_ : Int) (T : TypeId) : Fd (w.alloc (.cells #[.pointer (some ⟨b, c, none⟩), .int .i64 n, .int .i64 at_] T)) w.heap.size (.pointer (some ⟨w.heap.size, 0, none⟩)) b c n at_ :=
  ⟨_, rfl, Nat.le_refl _, by simp, by simp, by simp⟩
theorem fd_drew {w : World} {base : Nat} {v : Value} (h : Fd w base v b c n at_) : Fd w.drew base v b c n at_ := h.keep (below_d (Below.refl _ _))
theorem fd3_a : Fd (((w.alloc (.cells #[.pointer (some ⟨b, c, none⟩), .int .i64 n, .int .i64 at_] T)).alloc o2).alloc o3).drew w.heap.size (.pointer (some ⟨w.heap.size, 0, none⟩)) b c n at_ := fd_drew (((Fd.new w b c n at_ T).keep (al_keep _ _)).keep (al_keep _ _))
theorem fd3_b : Fd (((w.alloc o1).alloc (.cells #[.pointer (some ⟨b, c, none⟩), .int .i64 n, .int .i64 at_] T)).alloc o3).drew w.heap.size (.pointer (some ⟨w.heap.size + 1, 0, none⟩)) b c n at_ := by
  have h := Fd.new (w.alloc o1) b c n at_ T
  rw [World.size_alloc] at h
  exact fd_drew ((h.le (Nat.le_succ _)).keep (al_keep _ _))
theorem fd3_c : Fd (((w.alloc o1).alloc o2).alloc (.cells #[.pointer (some ⟨b, c, none⟩), .int .i64 n, .int .i64 at_] T)).drew w.heap.size (.pointer (some ⟨w.heap.size + 1 + 1, 0, none⟩)) b c n at_ := by
  have h := Fd.new ((w.alloc o1).alloc o2) b c n at_ T
  rw [World.size_alloc, World.size_alloc] at h
  exact fd_drew (h.le (by omega))
theorem fd2_a : Fd ((w.alloc (.cells #[.pointer (some ⟨b, c, none⟩), .int .i64 n, .int .i64 at_] T)).alloc o2).drew w.heap.size (.pointer (some ⟨w.heap.size, 0, none⟩)) b c n at_ := fd_drew ((Fd.new w b c n at_ T).keep (al_keep _ _))
theorem fd2_b : Fd ((w.alloc o1).alloc (.cells #[.pointer (some ⟨b, c, none⟩), .int .i64 n, .int .i64 at_] T)).drew w.heap.size (.pointer (some ⟨w.heap.size + 1, 0, none⟩)) b c n at_ := by
  have h := Fd.new (w.alloc o1) b c n at_ T
  rw [World.size_alloc] at h
  exact fd_drew (h.le (Nat.le_succ _))
end
set_option maxRecDepth 100000 in
set_option maxHeartbeats 4000000 in
theorem layout_c (b : Nat) (form : Int) (w : World) (h : w.cell? ⟨b, 1, none⟩ = some (.int .i64 form)) : Calls Tryz.prog 93 #[.pointer (some ⟨b, 0, none⟩)] w (layPost b form w) := by
  have H := Lib.hid h
  clear h
  obtain ⟨w0, hw0⟩ : ∃ w0, w0 = w := ⟨_, rfl⟩
  have B0 := Lib.hid (show Below w.heap.size w w0 from hw0 ▸ Below.refl _ _)
  rw [← hw0] at H
  have HW := Lib.hid hw0
  suffices hmain : Calls Tryz.prog 93 #[.pointer (some ⟨b, 0, none⟩)] w0 (layPost b form w) by rw [HW.out] at hmain; exact hmain
  clear hw0
  go_enter Tryz.func93, Tryz.ntmps93
  go_upto_region 1 with fail
  go_cut [3, 4, 5] from 13 to 25 (fun s3 s4 s5 wx => Fd wx w.heap.size s3 b 2 4 2 ∧ Fd wx w.heap.size s4 b 3 4 3 ∧ Fd wx w.heap.size s5 b 4 4 3 ∧ Below w0.heap.size w0 wx)
  case first =>
    go_region
    all_goals (go_wp2_with fail; go_meet; exact ⟨(by first | exact Fd.le fd3_a B0.out.size | exact Fd.le fd3_b B0.out.size | exact Fd.le fd3_c B0.out.size), (by first | exact Fd.le fd3_a B0.out.size | exact Fd.le fd3_b B0.out.size | exact Fd.le fd3_c B0.out.size), (by first | exact Fd.le fd3_a B0.out.size | exact Fd.le fd3_b B0.out.size | exact Fd.le fd3_c B0.out.size), below_d ((((Below.refl _ _).alloc (Nat.le_refl _) _).alloc (by simp) _).alloc (by simp; omega) _)⟩)
  case rest =>
  obtain ⟨f3, f4, f5, hb⟩ := hcut
  obtain ⟨w1, hnew⟩ : ∃ x, x = wc := ⟨_, rfl⟩
  rw [← hnew] at hb f3 f4 f5
  rw [← hnew]
  clear hnew
  have G3 := Lib.hid f3
  have G4 := Lib.hid f4
  have G5 := Lib.hid f5
  have B1 := Lib.hid (B0.out.trans (hb.mono B0.out.size))
  replace H := Lib.hid (bcell_keep H.out hb)
  clear hb f3 f4 f5
  go_upto_region 2 with fail
  go_cut [6, 7, 8] from 25 to 37 (fun s6 s7 s8 wx => Fd wx w.heap.size s6 b 11 8 2 ∧ Fd wx w.heap.size s7 b 9 4 2 ∧ Fd wx w.heap.size s8 b 10 4 3 ∧ Below w1.heap.size w1 wx)
  case first =>
    go_region
    all_goals (go_wp2_with fail; go_meet; exact ⟨(by first | exact Fd.le fd3_a B1.out.size | exact Fd.le fd3_b B1.out.size | exact Fd.le fd3_c B1.out.size), (by first | exact Fd.le fd3_a B1.out.size | exact Fd.le fd3_b B1.out.size | exact Fd.le fd3_c B1.out.size), (by first | exact Fd.le fd3_a B1.out.size | exact Fd.le fd3_b B1.out.size | exact Fd.le fd3_c B1.out.size), below_d ((((Below.refl _ _).alloc (Nat.le_refl _) _).alloc (by simp) _).alloc (by simp; omega) _)⟩)
  case rest =>
  obtain ⟨f6, f7, f8, hb⟩ := hcut
  obtain ⟨w2, hnew⟩ : ∃ x, x = wc := ⟨_, rfl⟩
  rw [← hnew] at hb f6 f7 f8
  rw [← hnew]
  clear hnew
  have G6 := Lib.hid f6
  have G7 := Lib.hid f7
  have G8 := Lib.hid f8
  replace G3 := Lib.hid (G3.out.keep hb)
  replace G4 := Lib.hid (G4.out.keep hb)
  replace G5 := Lib.hid (G5.out.keep hb)
  have B2 := Lib.hid (B1.out.trans (hb.mono B1.out.size))
  replace H := Lib.hid (bcell_keep H.out hb)
  clear hb f6 f7 f8
  go_upto_region 3 with fail
  go_cut [9, 10] from 37 to 45 (fun s9 s10 wx => Fd wx w.heap.size s9 b 5 4 4 ∧ Fd wx w.heap.size s10 b 6 12 5 ∧ Below w2.heap.size w2 wx)
  case first =>
    go_region
    all_goals (go_wp2_with fail; go_meet; exact ⟨(by first | exact Fd.le fd2_a B2.out.size | exact Fd.le fd2_b B2.out.size), (by first | exact Fd.le fd2_a B2.out.size | exact Fd.le fd2_b B2.out.size), below_d (((Below.refl _ _).alloc (Nat.le_refl _) _).alloc (by simp) _)⟩)
  case rest =>
  obtain ⟨f9, f10, hb⟩ := hcut
  obtain ⟨w3, hnew⟩ : ∃ x, x = wc := ⟨_, rfl⟩
  rw [← hnew] at hb f9 f10
  rw [← hnew]
  clear hnew
  have G9 := Lib.hid f9
  have G10 := Lib.hid f10
  replace G3 := Lib.hid (G3.out.keep hb)
  replace G4 := Lib.hid (G4.out.keep hb)
  replace G5 := Lib.hid (G5.out.keep hb)
  replace G6 := Lib.hid (G6.out.keep hb)
  replace G7 := Lib.hid (G7.out.keep hb)
  replace G8 := Lib.hid (G8.out.keep hb)
  have B3 := Lib.hid (B2.out.trans (hb.mono B2.out.size))
  replace H := Lib.hid (bcell_keep H.out hb)
  clear hb f9 f10
  go_upto_region 4 with fail
  go_cut [11, 12] from 45 to 53 (fun s11 s12 wx => Fd wx w.heap.size s11 b 7 4 8 ∧ Fd wx w.heap.size s12 b 8 12 9 ∧ Below w3.heap.size w3 wx)
  case first =>
    go_region
    all_goals (go_wp2_with fail; go_meet; exact ⟨(by first | exact Fd.le fd2_a B3.out.size | exact Fd.le fd2_b B3.out.size), (by first | exact Fd.le fd2_a B3.out.size | exact Fd.le fd2_b B3.out.size), below_d (((Below.refl _ _).alloc (Nat.le_refl _) _).alloc (by simp) _)⟩)
  case rest =>
  obtain ⟨f11, f12, hb⟩ := hcut
  obtain ⟨w4, hnew⟩ : ∃ x, x = wc := ⟨_, rfl⟩
  rw [← hnew] at hb f11 f12
  rw [← hnew]
  clear hnew
  have G11 := Lib.hid f11
  have G12 := Lib.hid f12
  replace G3 := Lib.hid (G3.out.keep hb)
  replace G4 := Lib.hid (G4.out.keep hb)
  replace G5 := Lib.hid (G5.out.keep hb)
  replace G6 := Lib.hid (G6.out.keep hb)
  replace G7 := Lib.hid (G7.out.keep hb)
  replace G8 := Lib.hid (G8.out.keep hb)
  replace G9 := Lib.hid (G9.out.keep hb)
  replace G10 := Lib.hid (G10.out.keep hb)
  have B4 := Lib.hid (B3.out.trans (hb.mono B3.out.size))
  replace H := Lib.hid (bcell_keep H.out hb)
  clear hb f11 f12
  have c0 := H.out
  by_cases e1 : form = 1
  · subst e1
    have hl := Lib.hid (show lay 1 = [(2, 4, 2), (3, 4, 3)] from by decide)
    clear H
    obtain ⟨x3, rfl, _, c30, c31, c32⟩ := G3.out
    obtain ⟨x4, rfl, _, c40, c41, c42⟩ := G4.out
    clear G3 G4 G5 G6 G7 G8 G9 G10 G11 G12
    go_wp2_with fail
    all_goals go_ret
    all_goals unfold layPost
    all_goals rw [hl.out]
    all_goals exact ⟨w4.heap.size, rfl, B4.out.size, (heap_alloc_new w4 _), B4.out.alloc B4.out.size _⟩
  by_cases e8 : form = 8
  · subst e8
    have hl := Lib.hid (show lay 8 = [(2, 4, 2)] from by decide)
    clear H
    obtain ⟨x3, rfl, _, c30, c31, c32⟩ := G3.out
    clear G3 G4 G5 G6 G7 G8 G9 G10 G11 G12
    go_wp2_with fail
    all_goals go_ret
    all_goals unfold layPost
    all_goals rw [hl.out]
    all_goals exact ⟨w4.heap.size, rfl, B4.out.size, (heap_alloc_new w4 _), B4.out.alloc B4.out.size _⟩
  by_cases e7 : form = 7
  · subst e7
    have hl := Lib.hid (show lay 7 = [(11, 8, 2)] from by decide)
    clear H
    obtain ⟨x6, rfl, _, c60, c61, c62⟩ := G6.out
    clear G3 G4 G5 G6 G7 G8 G9 G10 G11 G12
    go_wp2_with fail
    all_goals go_ret
    all_goals unfold layPost
    all_goals rw [hl.out]
    all_goals exact ⟨w4.heap.size, rfl, B4.out.size, (heap_alloc_new w4 _), B4.out.alloc B4.out.size _⟩
  by_cases e2 : form = 2
  · subst e2
    have hl := Lib.hid (show lay 2 = [(2, 4, 2), (4, 4, 3), (7, 4, 4), (8, 12, 5)] from by decide)
    clear H
    obtain ⟨x3, rfl, _, c30, c31, c32⟩ := G3.out
    obtain ⟨x5, rfl, _, c50, c51, c52⟩ := G5.out
    clear G3 G4 G5 G6 G7 G8 G9 G10 G11 G12
    go_wp2_with fail
    go_region
    all_goals go_wp2_with fail
    all_goals go_ret
    all_goals unfold layPost
    all_goals rw [hl.out]
    all_goals exact ⟨w4.heap.size, rfl, B4.out.size, (heap_alloc_new w4 _), below_d (B4.out.alloc B4.out.size _)⟩
  by_cases e3 : form = 3
  · subst e3
    have hl := Lib.hid (show lay 3 = [(2, 4, 2), (3, 4, 3), (7, 4, 4), (8, 12, 5)] from by decide)
    clear H
    obtain ⟨x3, rfl, _, c30, c31, c32⟩ := G3.out
    obtain ⟨x4, rfl, _, c40, c41, c42⟩ := G4.out
    clear G3 G4 G5 G6 G7 G8 G9 G10 G11 G12
    go_wp2_with fail
    go_region
    all_goals go_wp2_with fail
    all_goals go_ret
    all_goals unfold layPost
    all_goals rw [hl.out]
    all_goals exact ⟨w4.heap.size, rfl, B4.out.size, (heap_alloc_new w4 _), below_d (B4.out.alloc B4.out.size _)⟩
  by_cases e4 : form = 4
  · subst e4
    have hl := Lib.hid (show lay 4 = [(11, 8, 2), (5, 4, 4), (6, 12, 5)] from by decide)
    clear H
    obtain ⟨x6, rfl, _, c60, c61, c62⟩ := G6.out
    obtain ⟨x9, rfl, _, c90, c91, c92⟩ := G9.out
    obtain ⟨x10, rfl, _, c100, c101, c102⟩ := G10.out
    clear G3 G4 G5 G6 G7 G8 G9 G10 G11 G12
    go_wp2_with fail
    all_goals go_ret
    all_goals unfold layPost
    all_goals rw [hl.out]
    all_goals exact ⟨w4.heap.size, rfl, B4.out.size, (heap_alloc_new w4 _), B4.out.alloc B4.out.size _⟩
  by_cases e9 : form = 9
  · subst e9
    have hl := Lib.hid (show lay 9 = [(5, 4, 4), (6, 12, 5)] from by decide)
    clear H
    obtain ⟨x9, rfl, _, c90, c91, c92⟩ := G9.out
    obtain ⟨x10, rfl, _, c100, c101, c102⟩ := G10.out
    clear G3 G4 G5 G6 G7 G8 G9 G10 G11 G12
    go_wp2_with fail
    all_goals go_ret
    all_goals unfold layPost
    all_goals rw [hl.out]
    all_goals exact ⟨w4.heap.size, rfl, B4.out.size, (heap_alloc_new w4 _), B4.out.alloc B4.out.size _⟩
  by_cases e5 : form = 5
  · subst e5
    have hl := Lib.hid (show lay 5 = [(9, 8, 2), (5, 4, 4), (6, 12, 5), (7, 4, 8), (8, 12, 9)] from by decide)
    clear H
    obtain ⟨x9, rfl, _, c90, c91, c92⟩ := G9.out
    obtain ⟨x10, rfl, _, c100, c101, c102⟩ := G10.out
    obtain ⟨x11, rfl, _, c110, c111, c112⟩ := G11.out
    obtain ⟨x12, rfl, _, c120, c121, c122⟩ := G12.out
    clear G3 G4 G5 G6 G7 G8 G9 G10 G11 G12
    go_wp2_with fail
    go_region
    all_goals go_wp2_with fail
    all_goals go_ret
    all_goals unfold layPost
    all_goals rw [hl.out]
    all_goals exact ⟨w4.heap.size, rfl, B4.out.size, (heap_alloc_new w4 _), below_d (B4.out.alloc B4.out.size _)⟩
  have hl := Lib.hid (show lay form = [(9, 4, 2), (10, 4, 3), (5, 4, 4), (6, 12, 5), (7, 4, 8), (8, 12, 9)] from by unfold lay; rw [if_neg e1, if_neg e8, if_neg e7, if_neg e2, if_neg e3, if_neg e4, if_neg e9, if_neg e5])
  have n1 : (form == 1) = false := by rw [beq_eq_false_iff_ne]; exact e1
  have n8 : (form == 8) = false := by rw [beq_eq_false_iff_ne]; exact e8
  have n7 : (form == 7) = false := by rw [beq_eq_false_iff_ne]; exact e7
  have n2 : (form == 2) = false := by rw [beq_eq_false_iff_ne]; exact e2
  have n3 : (form == 3) = false := by rw [beq_eq_false_iff_ne]; exact e3
  have n4 : (form == 4) = false := by rw [beq_eq_false_iff_ne]; exact e4
  have n9 : (form == 9) = false := by rw [beq_eq_false_iff_ne]; exact e9
  have n5 : (form == 5) = false := by rw [beq_eq_false_iff_ne]; exact e5
  clear H e1 e8 e7 e2 e3 e4 e9 e5
  obtain ⟨x7, rfl, _, c70, c71, c72⟩ := G7.out
  obtain ⟨x8, rfl, _, c80, c81, c82⟩ := G8.out
  obtain ⟨x9, rfl, _, c90, c91, c92⟩ := G9.out
  obtain ⟨x10, rfl, _, c100, c101, c102⟩ := G10.out
  obtain ⟨x11, rfl, _, c110, c111, c112⟩ := G11.out
  obtain ⟨x12, rfl, _, c120, c121, c122⟩ := G12.out
  clear G3 G4 G5 G6 G7 G8 G9 G10 G11 G12
  go_wp2_with fail
  all_goals go_ret
  all_goals unfold layPost
  all_goals rw [hl.out]
  all_goals exact ⟨w4.heap.size, rfl, B4.out.size, (heap_alloc_new w4 _), B4.out.alloc B4.out.size _⟩
end Go.Proofs.YthjdjbipfdigeaaGreat

namespace Go.Proofs.YthjdjbipfdigeaaGreat
open Go.RowKit Go.Shelf
set_option linter.unusedVariables false
set_option linter.unusedSimpArgs false
attribute [local go_sem] Oper.semAt_some

theorem fields_c (p : Option Addr) (w : World) : Calls Tryz.prog 40 #[.pointer p] w fun e w' => e = .returned (.func (.func 92) #[] #[.pointer (some ⟨w.heap.size, 0, none⟩)]) ∧ w' = w.alloc (.cells #[.pointer p] 82) := by
  go_enter Tryz.func40, Tryz.ntmps40
  go_wp2
  go_ret
  exact ⟨rfl, rfl⟩
/-- what a round keeps: the cells' blocks from n1 on -/
def KpC (n1 : Nat) (W W' : World) : Prop := W.heap.size ≤ W'.heap.size ∧ ∀ k o, n1 ≤ k → W.heap[k]? = some o → o.isCells = true → W'.heap[k]? = some o
theorem kpC_t {n1 : Nat} {A B C : World} (h : KpC n1 A B) (k : KpC n1 B C) : KpC n1 A C := ⟨Nat.le_trans h.1 k.1, fun i o hi ho hc => k.2 i o hi (h.2 i o hi ho hc) hc⟩
theorem kpC_b {n1 : Nat} {w : World} (W : World) (l : Nat) (o o' : Obj) (_ : w.heap.size ≤ l) (h : W.heap[l]? = some o) (hc : o.isCells = false) (_ : o.isWalk = false) : KpC n1 W (W.putObj l o') :=
  ⟨by simp, fun k u hk hu hcu => by
    have hne : k ≠ l := by rintro rfl; rw [h] at hu; injection hu with hu; rw [hu] at hc; rw [hc] at hcu; cases hcu
    exact (World.putObj_heap_other hne).trans hu⟩
theorem kpC_of_below {n1 : Nat} {W W' : World} (h : Below W.heap.size W W') : KpC n1 W W' := ⟨h.size, fun k o _ ho _ => (h.block k (Array.getElem?_eq_some_iff.1 ho).1).trans ho⟩
theorem kpC_set {n1 : Nat} (W : World) (p : Addr) (v : Value) (hp : p.block < n1) : KpC n1 W (W.setCell p v) := ⟨(KeepsWalks.setCell W p v).size, fun k o hk ho _ => (Below.heap_setCell W p v k (by omega)).trans ho⟩

abbrev FE := Nat × Int × Int
theorem fvals_get (b : Nat) : ∀ (l : List FE) (j : Nat) (x : FE), l[j]? = some x → (fvals b l)[j * 3]? = some (.pointer (some ⟨b, x.1, none⟩)) ∧ (fvals b l)[j * 3 + 1]? = some (.int .i64 x.2.1) ∧ (fvals b l)[j * 3 + 2]? = some (.int .i64 x.2.2)
  | [], j, x, h => by simp at h
  | y :: l, 0, x, h => by simp at h; subst h; exact ⟨rfl, rfl, rfl⟩
  | y :: l, j + 1, x, h => by
    have ih := fvals_get b l j x (by simpa using h)
    have e : fvals b (y :: l) = [.pointer (some ⟨b, y.1, none⟩), .int .i64 y.2.1, .int .i64 y.2.2] ++ fvals b l := rfl
    rw [e]
    have e2 : ∀ k, ([.pointer (some ⟨b, y.1, none⟩), .int .i64 y.2.1, .int .i64 y.2.2] ++ fvals b l : List Value)[k + 3]? = (fvals b l)[k]? := fun k => by rw [List.getElem?_append_right (by simp)]; rfl
    refine ⟨?_, ?_, ?_⟩
    · rw [show (j + 1) * 3 = j * 3 + 3 by omega, e2]; exact ih.1
    · rw [show (j + 1) * 3 + 1 = j * 3 + 1 + 3 by omega, e2]; exact ih.2.1
    · rw [show (j + 1) * 3 + 2 = j * 3 + 2 + 3 by omega, e2]; exact ih.2.2
theorem cell_of_list {w : World} {g : Nat} {l : List Value} {T : TypeId} (h : w.heap[g]? = some (.cells l.toArray T (0, 0))) {i : Nat} {v : Value} (hv : l[i]? = some v) : w.cell? ⟨g, i, none⟩ = some v := by
  rw [cell_blk h]; simpa using hv

theorem lay_len (form : Int) : (lay form).length ≤ 6 := by unfold lay; (repeat' split) <;> decide
theorem grown_of_below' {a w : World} {row : Option Nat} (h : Below a.heap.size a w) : a.grownBy w row := ⟨h.os, h.tape, h.output, h.size, fun i hi _ => h.block i hi⟩
set_option maxRecDepth 100000 in
set_option maxHeartbeats 2000000 in
theorem fields1_stops (p : FE → Prop) (n : Nat) (hn : 1 ≤ n) (b Bx n1 : Nat) (form : Int) (w : World) (hb : w.cell? ⟨b, 1, none⟩ = some (.int .i64 form)) (hx : w.cell? ⟨Bx, 0, none⟩ = some (.pointer (some ⟨b, 0, none⟩))) (h1 : n1 ≤ w.heap.size) (hp : ∀ x ∈ lay form, p x) :
    SeqStopsK Fence.wide n Tryz.prog 92 #[.pointer (some ⟨Bx, 0, none⟩)] (fun x : { x : FE // p x } => #[Value.agg #[.pointer (some ⟨b, x.1.1, none⟩), .int .i64 x.1.2.1, .int .i64 x.1.2.2]]) (KpC n1) (fun ys => ys.map (·.1) = lay form) (fun pre => ∃ c, c ≤ (lay form).length ∧ pre.map (·.1) = (lay form).take c) (lay form).length w := fun l J Jx W hW hA hAx hY h0 => by
  have C1 := (hW.cell (p := ⟨b, 1, none⟩) (World.block_lt_of_cell? w _ hb)).trans hb
  have C2 := (hW.cell (p := ⟨Bx, 0, none⟩) (World.block_lt_of_cell? w _ hx)).trans hx
  have HZ := hW.size
  obtain ⟨L, hL⟩ : ∃ L, lay form = L := ⟨_, rfl⟩
  obtain ⟨m, hm⟩ : ∃ m, L.length = m := ⟨_, rfl⟩
  have HM := Lib.hid hm
  have m6 : m ≤ 6 := by rw [← hm, ← hL]; exact lay_len form
  have LC := Lib.hid (layout_c b form W C1)
  unfold layPost at LC
  rw [hL] at hp
  rw [hL, hm] at LC hY
  rw [hL, hm]
  have HA := Lib.hid hA
  have HL := Lib.hid hL
  clear hm hb hx hL hA hAx
  refine callsIn_of_wp Tryz.func92 rfl trivial ?_ rfl
  simp only [Tryz.ntmps92, List.size_toArray, List.length_cons, List.length_nil, Nat.reduceAdd, Nat.reduceSub, Array.replicate_succ, Array.replicate_zero, List.push_toArray, List.append_toArray, List.nil_append, List.cons_append]
  gi_wp2_with (refine ⟨trivial, ?_⟩; gi_at_call 93; refine (callsIn_wide.2 LC.out).mono ?_; rintro e w1 ⟨g, rfl, hg, hh, hbl⟩)
  have H0 := Lib.hid (HA.out [] W w1 none h0 (grown_of_below' hbl) (fun r e => by cases e))
  have HH := Lib.hid hh
  have n1g : n1 ≤ g := by omega
  clear h0 hh hbl C1 C2 LC
  gi_loopw [8] (fun iv wr => ∃ (j : Nat) (pre : List { x : FE // p x }), j ≤ m ∧ iv = .int .i64 j ∧ pre.map (·.1) = L.take j ∧ J pre wr ∧ wr.heap[g]? = some (.cells (fvals b L).toArray 85 (0, 0))) (fun iv _ => m - (intOf iv).toNat)
  case atStart => exact ⟨0, [], by omega, rfl, rfl, H0.out, HH.out⟩
  case round =>
    obtain ⟨j, pre, hj, rfl, hpre, hJ, hgb⟩ := hrel
    have PR := Lib.hid hpre
    have PL := Lib.hid (show pre.length = j from by have := congrArg List.length hpre; rw [List.length_map, List.length_take] at this; have := HM.out; omega)
    clear hpre
    have HJ := Lib.hid hJ
    have HG := Lib.hid hgb
    clear hJ hgb H0 HH
    by_cases hlt : j < m
    · have hI : (j : Int) < (m : Int) := by omega
      obtain ⟨x, hx⟩ : ∃ x, L[j]? = some x := ⟨_, List.getElem?_eq_getElem (by rw [HM.out]; exact hlt)⟩
      obtain ⟨x, rfl⟩ : ∃ x' : { x : FE // p x }, x'.1 = x := ⟨⟨x, hp x (List.mem_of_getElem? hx)⟩, rfl⟩
      obtain ⟨f0, f1, f2⟩ := fvals_get b L j x.1 hx
      have d0 := cell_of_list HG.out f0
      have d1 := cell_of_list HG.out f1
      have d2 := cell_of_list HG.out f2
      have ST := Lib.hid (show (pre ++ [x]).map (·.1) = L.take (j + 1) by rw [List.map_append, PR.out, List.take_add_one, hx]; rfl)
      obtain ⟨fn, tmps, assign, body, hy, hR⟩ := hY pre x (wr.alloc (.cells #[.pointer (some ⟨b, x.1.1, none⟩), .int .i64 x.1.2.1, .int .i64 x.1.2.2] 85)) (HA.out _ wr _ none HJ.out (World.grownBy_alloc wr _ none) (fun r e => by cases e)) (by rw [PL.out]; exact hlt)
      clear f0 f1 f2 hx
      gi_wp2
      refine hR.mono ?_
      rintro e W3 (⟨rfl, hJ3, hk3⟩ | ⟨rfl, hJx3⟩)
      · gi_wp2
        go_roundw
        case rel => exact ⟨j + 1, _, by omega, by go_num, ST.out, hJ3, hk3.2 g _ n1g ((Below.heap_alloc wr _ g (Array.getElem?_eq_some_iff.1 HG.out).1).trans HG.out) rfl⟩
        case measure => simp [intOf]; omega
      · gi_wp2
        refine bodyPost_ret (results_none rfl _ _ _) rfl ?_
        exact ⟨⟨_, rfl⟩, .inr ⟨_, ⟨j + 1, by omega, ST.out⟩, hJx3⟩⟩
    · obtain rfl : j = m := by omega
      have HF := Lib.hid (show L.take j = L by rw [List.take_of_length_le (by rw [HM.out]; exact Nat.le_refl _)])
      gi_wp2
      go_end0
      exact ⟨⟨_, rfl⟩, .inl ⟨pre, PR.out.trans HF.out, HJ.out⟩⟩
end Go.Proofs.YthjdjbipfdigeaaGreat

namespace Go.Proofs.YthjdjbipfdigeaaGreat
open Go.RowKit
set_option linter.unusedVariables false
set_option linter.unusedSimpArgs false
/-- from 0 to most -/
def inr (n most : Int) : Bool := decide (0 ≤ n ∧ n ≤ most)
theorem inr_yes {n most : Int} (h : inr n most = true) : 0 ≤ n ∧ n ≤ most := by simpa [inr] using h
theorem inr_no {n most : Int} (h : inr n most = false) : ¬ (0 ≤ n ∧ n ≤ most) := by unfold inr at h; exact of_decide_eq_false h
/-- a valid program status word -/
def pok (m k c i q g a : Int) : Bool := inr m 255 && (inr k 15 && (inr c 65535 && (inr i 3 && (inr q 3 && (inr g 15 && inr a 16777215)))))
theorem pok_iff (m k c i q g a : Int) : pok m k c i q g a = true ↔ (0 ≤ m ∧ m ≤ 255) ∧ (0 ≤ k ∧ k ≤ 15) ∧ (0 ≤ c ∧ c ≤ 65535) ∧ (0 ≤ i ∧ i ≤ 3) ∧ (0 ≤ q ∧ q ≤ 3) ∧ (0 ≤ g ∧ g ≤ 15) ∧ (0 ≤ a ∧ a ≤ 16777215) := by
  simp [pok, inr]
/-- a branch -/
def pbr (mask cc : Int) : Bool := inr mask 15 && (inr cc 3 && decide (mask / (2 ^ (3 - cc.toNat) : Nat) % 2 = 1))
end Go.Proofs.YthjdjbipfdigeaaGreat

namespace Go.Proofs.YthjdjbipfdigeaaGreat
open Go.RowKit
set_option linter.unusedVariables false
theorem wrap_i64_nat (n : Nat) (h : n < 9223372036854775808) : IntKind.i64.wrap (n : Int) = n := by
  simp only [IntKind.wrap, IntKind.bits, IntKind.signed]; simp; omega
theorem ofInt64_nat (a : Int) (h0 : 0 ≤ a) (h1 : a ≤ 9223372036854775807) : (BitVec.ofInt 64 a).toNat = a.toNat := by rw [BitVec.toNat_ofInt]; omega
theorem i64_and (a b : Int) (h0 : 0 ≤ a) (h1 : a ≤ 9223372036854775807) (h2 : 0 ≤ b) (h3 : b ≤ 9223372036854775807) : bits .and .i64 a b = ((a.toNat &&& b.toNat : Nat) : Int) := by
  show IntKind.i64.wrap ((BitVec.ofInt 64 a &&& BitVec.ofInt 64 b).toNat : Int) = _
  rw [BitVec.toNat_and, ofInt64_nat a h0 h1, ofInt64_nat b h2 h3]
  exact wrap_i64_nat _ (Nat.lt_of_le_of_lt Nat.and_le_left (by omega))
/-- one bit -/
theorem i64_bit (i : Nat) (p a : Int) (hp : p = ((2 ^ i : Nat) : Int)) (hi : i ≤ 40) (h0 : 0 ≤ a) (h1 : a ≤ 9223372036854775807) : (bits .and .i64 a p != 0) = decide (a / p % 2 = 1) := by
  have hpos : 0 < 2 ^ i := Nat.two_pow_pos i
  have hle : 2 ^ i ≤ 2 ^ 40 := Nat.pow_le_pow_right (by omega) hi
  subst hp
  rw [i64_and a _ h0 h1 (by omega) (by omega), Int.toNat_natCast, nat_bit]
  obtain ⟨n, rfl⟩ := Int.eq_ofNat_of_zero_le h0
  rw [Int.toNat_natCast]
  have e : ((n : Int) / ((2 ^ i : Nat) : Int) % 2 = 1) ↔ n / 2 ^ i % 2 = 1 := by
    rw [← Int.natCast_ediv]; omega
  rw [Bool.eq_iff_iff, bne_iff_ne, decide_eq_true_iff, e]
  rcases Nat.mod_two_eq_zero_or_one (n / 2 ^ i) with h | h
  · rw [h]; simp
  · rw [h, Nat.one_mul]; exact ⟨fun _ => rfl, fun _ hc => by omega⟩
theorem andNot0 (u m : BitVec 64) : (u &&& ~~~m) = 0#64 ↔ u &&& m = u := by
  constructor
  · intro h
    apply BitVec.eq_of_getLsbD_eq
    intro i hi
    have h2 := congrArg (fun x => BitVec.getLsbD x i) h
    simp [hi] at h2
    simp
    exact h2
  · intro h
    rw [← h]
    apply BitVec.eq_of_getLsbD_eq
    intro i hi
    simp [hi]
theorem andNot_in (n : Nat) (m x : Int) (hm : m = ((2 ^ n - 1 : Nat) : Int)) (hn : n ≤ 8) (h0 : -9223372036854775808 ≤ x) (h1 : x ≤ 9223372036854775807) : (bits .andNot .i64 x m == 0) = inr x m := by
  have hle : 2 ^ n ≤ 2 ^ 8 := Nat.pow_le_pow_right (by omega) hn
  have hpos : 0 < 2 ^ n := Nat.two_pow_pos n
  have eb : bits .andNot .i64 x m = IntKind.i64.wrap ((BitVec.ofInt 64 x &&& ~~~BitVec.ofInt 64 m).toNat : Int) := rfl
  rw [Bool.eq_iff_iff, beq_iff_eq, eb]
  have e1 : IntKind.i64.wrap ((BitVec.ofInt 64 x &&& ~~~BitVec.ofInt 64 m).toNat : Int) = 0 ↔ (BitVec.ofInt 64 x &&& ~~~BitVec.ofInt 64 m) = 0#64 := by
    constructor
    · intro h
      apply BitVec.eq_of_toNat_eq
      have hl := (BitVec.ofInt 64 x &&& ~~~BitVec.ofInt 64 m).isLt
      revert h hl
      generalize (BitVec.ofInt 64 x &&& ~~~BitVec.ofInt 64 m).toNat = t
      intro h hl
      simp only [IntKind.wrap, IntKind.bits, IntKind.signed] at h
      simp at h ⊢
      split at h <;> omega
    · intro h; rw [h]; rfl
  rw [e1, andNot0]
  have e2 : (BitVec.ofInt 64 x &&& BitVec.ofInt 64 m = BitVec.ofInt 64 x) ↔ (BitVec.ofInt 64 x).toNat % 2 ^ n = (BitVec.ofInt 64 x).toNat := by
    rw [← BitVec.toNat_inj, BitVec.toNat_and, ofInt64_nat m (by omega) (by omega), hm, Int.toNat_natCast, Nat.and_two_pow_sub_one_eq_mod]
  rw [e2, BitVec.toNat_ofInt]
  unfold inr
  rw [decide_eq_true_iff]
  have e3 : (x % (2 ^ 64 : Nat)).toNat % 2 ^ n = (x % (2 ^ 64 : Nat)).toNat ↔ (x % (2 ^ 64 : Nat)).toNat < 2 ^ n := by
    constructor
    · intro h; rw [← h]; exact Nat.mod_lt _ hpos
    · exact Nat.mod_eq_of_lt
  rw [e3]
  omega
end Go.Proofs.YthjdjbipfdigeaaGreat

namespace Go.Proofs.YthjdjbipfdigeaaGreat
open Go.RowKit
set_option linter.unusedVariables false
set_option linter.unusedSimpArgs false
theorem digit_c (c : Int) (h0 : 48 ≤ c) (h1 : c ≤ 255) (w : World) : Calls Tryz.prog 167 #[.int .u8 c] w fun e w' => e = .returned (.int .i64 (dig c)) ∧ w = w' := by
  by_cases h : 65 ≤ c
  · have hd := Lib.hid (show dig c = c - 65 + 10 by unfold dig; rw [if_pos h]; omega)
    go_enter Tryz.func167, Tryz.ntmps167
    go_wp2
    go_ret
    exact ⟨by rw [hd.out]; rfl, rfl⟩
  · have hd := Lib.hid (show dig c = c - 48 by unfold dig; rw [if_neg h])
    go_enter Tryz.func167, Tryz.ntmps167
    go_wp2
    go_ret
    exact ⟨by rw [hd.out]; rfl, rfl⟩
set_option maxRecDepth 1000000 in
set_option maxHeartbeats 4000000 in
theorem code_c (k : Nat) (hk : k < 97) (w : World) : Calls Tryz.prog 152 #[.int .i64 ((8 * k : Nat) : Int)] w fun e w' => e = .returned (.int .i64 (opK k)) ∧ ∃ n, w' = w.drewN n := by
  have X := Lib.hid (tb_hex k hk)
  have O := Lib.hid (tb_op k hk)
  obtain ⟨a, ha⟩ : ∃ a, 8 * k = a := ⟨_, rfl⟩
  rw [ha] at X O ⊢
  have h1 : a ≤ 768 := by omega
  have m1 : (a : Int) < 776 := by omega
  have m2 : (a : Int) + 1 < 776 := by omega
  have m3 : 0 ≤ (a : Int) + 1 := by omega
  have hw : IntKind.i64.wrap ((a : Int) + 1) = ((a + 1 : Nat) : Int) := by simp only [IntKind.wrap, IntKind.bits, IntKind.signed]; simp; omega
  clear ha hk
  go_enter Tryz.func152, Tryz.ntmps152
  go_wp2_with fail
  refine wp_region_held_drew (S := (fun w' => ∃ n, w' = w.drewN n)) (by kernel_rfl) ?_ (fun hHeld => ?_)
  · (try dsimp only); exact ⟨1, rfl⟩
  refine' takeL (i := 0) (v := _) rfl (by kernel_rfl) (by kernel_rfl) (by kernel_rfl) (fun _ _ _ h => h) (Or.inl ⟨by rfl, ?yy1⟩) (by assumption) ?rr1
  case yy1 => intro w hSw; (try dsimp only at hSw); go_simp; (try with_reducible rfl)
  try simp only [Act.put, List.setIfInBounds_toArray, List.set_cons_zero, List.set_cons_succ]
  refine' takeL (i := 1) (v := _) rfl (by kernel_rfl) (by kernel_rfl) (by kernel_rfl) (fun _ _ _ h => h) (Or.inl ⟨by rfl, ?yy2⟩) (by assumption) ?rr2
  case yy2 => intro w hSw; (try dsimp only at hSw); go_simp; (try rw [tb_get _ _ _ (by kernel_rfl)]); (try with_reducible rfl)
  try simp only [Act.put, List.setIfInBounds_toArray, List.set_cons_zero, List.set_cons_succ]
  refine' takeL (i := 4) (v := _) rfl (by kernel_rfl) (by kernel_rfl) (by kernel_rfl) (fun _ _ _ h => h) (Or.inl ⟨by rfl, ?yy3⟩) (by assumption) ?rr3
  case yy3 => intro w hSw; (try dsimp only at hSw); go_simp; (try with_reducible rfl)
  try simp only [Act.put, List.setIfInBounds_toArray, List.set_cons_zero, List.set_cons_succ]
  refine' takeL (i := 5) (v := _) rfl (by kernel_rfl) (by kernel_rfl) (by kernel_rfl) (fun _ _ _ h => h) (Or.inl ⟨by rfl, ?yy4⟩) (by assumption) ?rr4
  case yy4 => intro w hSw; (try dsimp only at hSw); go_simp; (try with_reducible rfl)
  try simp only [Act.put, List.setIfInBounds_toArray, List.set_cons_zero, List.set_cons_succ]
  refine' takeL (i := 6) (v := _) rfl (by kernel_rfl) (by kernel_rfl) (by kernel_rfl) (fun _ _ _ h => h) (Or.inl ⟨by rfl, ?yy5⟩) (by assumption) ?rr5
  case yy5 => intro w hSw; (try dsimp only at hSw); go_simp; (try rw [tb_get _ _ _ (by kernel_rfl)]); (try with_reducible rfl)
  try simp only [Act.put, List.setIfInBounds_toArray, List.set_cons_zero, List.set_cons_succ]
  refine wpAnyH_ready (rs := [2]) (by kernel_rfl) (by simp) ?_
  refine consL rfl (fun K hK => ?_) AllReadyH.nil
  go_simp
  go_at_call 167
  refine (digit_c _ (by have := X.out; omega) (by have := X.out; omega) _).mono ?_
  rintro e _ ⟨rfl, rfl⟩
  go_wp2_with fail
  refine hK.out _ _ ?_ (fun hHeld => ?_)
  · (try dsimp only); exact hHeld
  clear hK K
  try simp only [Act.put, List.setIfInBounds_toArray, List.set_cons_zero, List.set_cons_succ]
  refine' takeL (i := 3) (v := _) rfl (by kernel_rfl) (by kernel_rfl) (by kernel_rfl) (fun _ _ _ h => h) (Or.inl ⟨by rfl, ?yy6⟩) (by assumption) ?rr6
  case yy6 => intro w hSw; (try dsimp only at hSw); go_simp; (try with_reducible rfl)
  try simp only [Act.put, List.setIfInBounds_toArray, List.set_cons_zero, List.set_cons_succ]
  refine wpAnyH_ready (rs := [7]) (by kernel_rfl) (by simp) ?_
  refine consL rfl (fun K hK => ?_) AllReadyH.nil
  go_simp
  go_at_call 167
  refine (digit_c _ (by have := X.out; omega) (by have := X.out; omega) _).mono ?_
  rintro e _ ⟨rfl, rfl⟩
  go_wp2_with fail
  refine hK.out _ _ ?_ (fun hHeld => ?_)
  · (try dsimp only); exact hHeld
  clear hK K
  try simp only [Act.put, List.setIfInBounds_toArray, List.set_cons_zero, List.set_cons_succ]
  refine' takeL (i := 8) (v := _) rfl (by kernel_rfl) (by kernel_rfl) (by kernel_rfl) (fun _ _ _ h => h) (Or.inl ⟨by rfl, ?yy7⟩) (by assumption) ?rr7
  case yy7 => intro w hSw; (try dsimp only at hSw); go_simp; (try with_reducible rfl)
  try simp only [Act.put, List.setIfInBounds_toArray, List.set_cons_zero, List.set_cons_succ]
  refine' takeL (i := 9) (v := _) rfl (by kernel_rfl) (by kernel_rfl) (by kernel_rfl) (fun _ _ _ h => h) (Or.inl ⟨by rfl, ?yy8⟩) (by assumption) ?rr8
  case yy8 => intro w hSw; (try dsimp only at hSw); go_simp; (try with_reducible rfl)
  try simp only [Act.put, List.setIfInBounds_toArray, List.set_cons_zero, List.set_cons_succ]
  refine wpAnyH_done (by kernel_rfl) ?_ _
  go_wp2
  go_ret
  exact ⟨by rw [← O.out]; show Ending.returned (.int .i64 (IntKind.i64.wrap (IntKind.i64.wrap (16 * dig ↑(tb a)) + dig ↑(tb (a + 1))))) = _; rw [wrap_hex (dig_range _ (by have := X.out; omega) (by have := X.out; omega)) (dig_range _ (by have := X.out; omega) (by have := X.out; omega))], 1, rfl⟩
theorem wrap_i64_id {n : Int} (h0 : -9223372036854775808 ≤ n) (h1 : n ≤ 9223372036854775807) : IntKind.i64.wrap n = n := by
  simp only [IntKind.wrap, IntKind.bits, IntKind.signed]; simp; omega
set_option maxRecDepth 1000000 in
set_option maxHeartbeats 4000000 in
theorem row_c (op : Int) (w : World) : Calls Tryz.prog 91 #[.int .i64 op] w fun e w' => e = .returned (.int .i64 (rowAt op)) ∧ ∃ n, w' = w.drewN n := by
  go_enter Tryz.func91, Tryz.ntmps91
  go_wp2_with (first | refine wp_scope_straight ?_ | refine wp_label ?_)
  go_loopw [3, 4] (fun f x wr => ∃ k : Nat, k ≤ 97 ∧ f = .int .i64 (-1) ∧ x = .int .i64 ((8 * k : Nat) : Int) ∧ (∀ j, j < k → opK j < op) ∧ ∃ n, wr = w.drewN n) (fun _ x _ => 776 - (intOf x).toNat)
  case atStart => exact ⟨0, by omega, rfl, rfl, by intro j hj; omega, 0, rfl⟩
  case round =>
    obtain ⟨k, hk, rfl, rfl, hlo, n, rfl⟩ := hrel
    have LO := Lib.hid hlo
    clear hlo
    by_cases hlt : k < 97
    · have hI : ((8 * k : Nat) : Int) < 776 := by omega
      obtain ⟨a, ha⟩ : ∃ a, 8 * k = a := ⟨_, rfl⟩
      have CC := Lib.hid (code_c k hlt)
      rw [ha] at CC hI
      rw [ha]
      have HA := Lib.hid ha
      clear ha
      obtain ⟨o, ho⟩ : ∃ o, opK k = o := ⟨_, rfl⟩
      rw [ho] at CC
      have HO := Lib.hid ho
      clear ho
      rcases (show o < op ∨ o = op ∨ op < o by omega) with h | h | h
      · go_wp2_with fail
        refine (CC.out _).mono ?_
        rintro e w1 ⟨rfl, n1, rfl⟩
        go_wp2_with fail
        refine ⟨⟨k + 1, by omega, rfl, ?_, ?_, _, rfl⟩, ?_⟩
        · congr 1; have := HA.out; omega
        · intro j hj
          rcases Nat.lt_or_ge j k with h2 | h2
          · exact LO.out j h2
          · rw [show j = k by omega, HO.out]; exact h
        · have := HA.out; simp [intOf]; omega
      · have hr := Lib.hid (show rowAt op = (a : Int) by unfold rowAt; rw [ix_of hlt (HO.out.trans h), if_pos hlt, HA.out])
        have e1 : (o == op) = true := by simp [h]
        have e2 : ¬ (o < op) := by omega
        clear h
        go_wp2_with fail
        refine (CC.out _).mono ?_
        rintro e w1 ⟨rfl, n1, rfl⟩
        go_wp2_with fail
        simp only [Exit.noGoto]
        go_ret
        exact ⟨by rw [hr.out]; rfl, _, rfl⟩
      · have hr := Lib.hid (show rowAt op = -1 by
          unfold rowAt
          rw [ix_none (op := op) fun j hj => ?_, if_neg (by omega)]
          rcases Nat.lt_or_ge j k with h2 | h2
          · have := LO.out j h2; omega
          · rcases Nat.lt_or_ge k j with h3 | h3
            · have := op_lt h3 hj; have := HO.out; omega
            · rw [show j = k by omega, HO.out]; omega)
        have e1 : (o == op) = false := by rw [beq_eq_false_iff_ne]; omega
        have e2 : ¬ (o < op) := by omega
        go_wp2_with fail
        refine (CC.out _).mono ?_
        rintro e w1 ⟨rfl, n1, rfl⟩
        go_wp2_with fail
        simp only [Exit.noGoto]
        go_ret
        exact ⟨by rw [hr.out]; rfl, _, rfl⟩
    · obtain rfl : k = 97 := by omega
      have hr := Lib.hid (show rowAt op = -1 by
        unfold rowAt
        rw [ix_none (op := op) fun j hj => by have := LO.out j hj; omega, if_neg (by omega)])
      go_wp2_with fail
      simp only [Exit.noGoto]
      go_ret
      exact ⟨by rw [hr.out]; rfl, _, rfl⟩
set_option maxRecDepth 1000000 in
set_option maxHeartbeats 4000000 in
theorem form_c (op : Int) (w : World) : Calls Tryz.prog 38 #[.int .i64 op] w fun e w' => e = .returned (.tuple #[.int .i64 (fmOf op), .bool (isOp op)]) ∧ ∃ n, w' = w.drewN n := by
  by_cases hx : ix op < 97
  · have F := Lib.hid (tb_fm _ hx)
    have R := Lib.hid (row_c op)
    have r1 := Lib.hid (show fmOf op = fmK (ix op) from by unfold fmOf; rw [if_pos hx])
    have r2 := Lib.hid (show isOp op = true from by unfold isOp; simpa using hx)
    have r3 := Lib.hid (show rowAt op = ((8 * ix op : Nat) : Int) from by unfold rowAt; rw [if_pos hx])
    obtain ⟨a, ha⟩ : ∃ a, 8 * ix op = a := ⟨_, rfl⟩
    rw [r3.out, ha] at R
    rw [ha] at F
    rw [r1.out, r2.out]
    have h1 : a ≤ 768 := by omega
    clear ha hx r1 r2 r3
    have m1 : 0 ≤ (a : Int) + 8 - 1 := by omega
    have m2 : (a : Int) + 8 - 1 < 776 := by omega
    have m3 : ¬ ((a : Int) < 0) := by omega
    go_enter Tryz.func38, Tryz.ntmps38
    go_wp2_with (go_at_call 91; refine (R.out _).mono ?_; rintro e w1 ⟨rfl, n1, rfl⟩)
    go_ret2
    refine ⟨?_, _, rfl⟩
    have e1 : ((tb (a + 7) : Int) - 97) % 256 + 1 = fmK (ix op) := by have := F.out; omega
    rw [tb_get _ _ _ (by kernel_rfl), e1]; rfl
  · have R := Lib.hid (row_c op)
    have r1 := Lib.hid (show fmOf op = 0 from by unfold fmOf; rw [if_neg hx])
    have r2 := Lib.hid (show isOp op = false from by unfold isOp; simpa using hx)
    have r3 := Lib.hid (show rowAt op = -1 from by unfold rowAt; rw [if_neg hx])
    rw [r3.out] at R
    rw [r1.out, r2.out]
    clear hx r1 r2 r3
    go_enter Tryz.func38, Tryz.ntmps38
    go_wp2_with (go_at_call 91; refine (R.out _).mono ?_; rintro e w1 ⟨rfl, n1, rfl⟩)
    go_ret2
    exact ⟨rfl, _, rfl⟩
theorem priv_c (op : Int) (w : World) : Calls Tryz.prog 39 #[.int .i64 op] w fun e w' => e = .returned (.bool (privB op)) ∧ w = w' := by
  by_cases h : op = 8 ∨ op = 9 ∨ op = 128 ∨ op = 130 ∨ op = 156 ∨ op = 157 ∨ op = 158 ∨ op = 159
  · have hr := Lib.hid (show privB op = true from by unfold privB; rw [decide_eq_true_iff]; omega)
    rcases h with rfl | rfl | rfl | rfl | rfl | rfl | rfl | rfl <;>
    · go_enter Tryz.func39, Tryz.ntmps39
      go_wp2
      go_ret
      exact ⟨by rw [hr.out]; rfl, rfl⟩
  · have hr := Lib.hid (show privB op = false from by unfold privB; rw [decide_eq_false_iff_not]; omega)
    have p8 : (op == 8) = false := by rw [beq_eq_false_iff_ne]; omega
    have p9 : (op == 9) = false := by rw [beq_eq_false_iff_ne]; omega
    have p128 : (op == 128) = false := by rw [beq_eq_false_iff_ne]; omega
    have p130 : (op == 130) = false := by rw [beq_eq_false_iff_ne]; omega
    have p156 : (op == 156) = false := by rw [beq_eq_false_iff_ne]; omega
    have p157 : (op == 157) = false := by rw [beq_eq_false_iff_ne]; omega
    have p158 : (op == 158) = false := by rw [beq_eq_false_iff_ne]; omega
    have p159 : (op == 159) = false := by rw [beq_eq_false_iff_ne]; omega
    clear h
    go_enter Tryz.func39, Tryz.ntmps39
    go_wp2
    go_ret
    exact ⟨by rw [hr.out]; rfl, rfl⟩
end Go.Proofs.YthjdjbipfdigeaaGreat

namespace Go.Proofs.YthjdjbipfdigeaaGreat
open Go.RowKit
set_option linter.unusedVariables false
set_option linter.unusedSimpArgs false
def eqiB (op fm r1 r2 x2 b1 d1 b2 d2 l1 l2 i2 op' fm' r1' r2' x2' b1' d1' b2' d2' l1' l2' i2' : Int) : Bool := op == op' && (fm == fm' && (r1 == r1' && (r2 == r2' && (x2 == x2' && (b1 == b1' && (d1 == d1' && (b2 == b2' && (d2 == d2' && (l1 == l1' && (l2 == l2' && (i2 == i2')))))))))))
set_option maxHeartbeats 1000000 in
theorem eqi_run (op fm r1 r2 x2 b1 d1 b2 d2 l1 l2 i2 op' fm' r1' r2' x2' b1' d1' b2' d2' l1' l2' i2' : Int) (w : World) : (Op.equalIn 10000 23 (.agg #[.int .i64 op, .int .i64 fm, .int .i64 r1, .int .i64 r2, .int .i64 x2, .int .i64 b1, .int .i64 d1, .int .i64 b2, .int .i64 d2, .int .i64 l1, .int .i64 l2, .int .i64 i2]) (.agg #[.int .i64 op', .int .i64 fm', .int .i64 r1', .int .i64 r2', .int .i64 x2', .int .i64 b1', .int .i64 d1', .int .i64 b2', .int .i64 d2', .int .i64 l1', .int .i64 l2', .int .i64 i2'])).run Tryz.prog w = .ok (eqiB op fm r1 r2 x2 b1 d1 b2 d2 l1 l2 i2 op' fm' r1' r2' x2' b1' d1' b2' d2' l1' l2' i2') w := by
  have hS : Tryz.prog.underlying 23 = some (.struct (Tryz.prog.fieldsOf 23)) := by kernel_rfl
  have hp : Tryz.prog.stoodInHeld 23 = false := by kernel_rfl
  rw [show (10000 : Nat) = 9999 + 1 from rfl, run_equalIn_agg w 9999 23 _ _ hS hp]
  simp only [Program.fieldsOf, Tryz.underlying23]
  go_simp
  unfold eqiB
  by_cases h_op : op = op'
  case neg => simp [h_op]
  subst h_op
  by_cases h_fm : fm = fm'
  case neg => simp [h_fm]
  subst h_fm
  by_cases h_r1 : r1 = r1'
  case neg => simp [h_r1]
  subst h_r1
  by_cases h_r2 : r2 = r2'
  case neg => simp [h_r2]
  subst h_r2
  by_cases h_x2 : x2 = x2'
  case neg => simp [h_x2]
  subst h_x2
  by_cases h_b1 : b1 = b1'
  case neg => simp [h_b1]
  subst h_b1
  by_cases h_d1 : d1 = d1'
  case neg => simp [h_d1]
  subst h_d1
  by_cases h_b2 : b2 = b2'
  case neg => simp [h_b2]
  subst h_b2
  by_cases h_d2 : d2 = d2'
  case neg => simp [h_d2]
  subst h_d2
  by_cases h_l1 : l1 = l1'
  case neg => simp [h_l1]
  subst h_l1
  by_cases h_l2 : l2 = l2'
  case neg => simp [h_l2]
  subst h_l2
  by_cases h_i2 : i2 = i2'
  case neg => simp [h_i2]
  subst h_i2
  simp
theorem eqi_guard : Tryz.prog.eqGuardType Tryz.prog.depth 23 = false := by kernel_rfl
theorem eqiB_iff (op fm r1 r2 x2 b1 d1 b2 d2 l1 l2 i2 op' fm' r1' r2' x2' b1' d1' b2' d2' l1' l2' i2' : Int) : eqiB op fm r1 r2 x2 b1 d1 b2 d2 l1 l2 i2 op' fm' r1' r2' x2' b1' d1' b2' d2' l1' l2' i2' = true ↔ op = op' ∧ fm = fm' ∧ r1 = r1' ∧ r2 = r2' ∧ x2 = x2' ∧ b1 = b1' ∧ d1 = d1' ∧ b2 = b2' ∧ d2 = d2' ∧ l1 = l1' ∧ l2 = l2' ∧ i2 = i2' := by
  unfold eqiB; simp only [Bool.and_eq_true, beq_iff_eq]
end Go.Proofs.YthjdjbipfdigeaaGreat

namespace Go.Proofs.YthjdjbipfdigeaaGreat
open Go.RowKit
set_option linter.unusedVariables false
section
variable {F : Fence} {n : Nat} {P : Program}
def noDefer (o : Oper) : Bool := match o.op with | .defer _ => false | _ => true
theorem noDefer_ne {o : Oper} (h : noDefer o = true) (c) : o.op ≠ .defer c := by
  intro e; unfold noDefer at h; rw [e] at h; cases h
theorem opIn_round {o : Oper} {a : Act} {w : World} {K : Act → World → Prop} {Q : Exit → Act → World → Prop} (l : Nat) (hro : F.round = none) (hd : noDefer o = true) (h : o.wpIn F n P a w K Q) : o.wpIn (F.inRound l) n P a w K Q := by
  unfold Oper.wpIn at *
  obtain ⟨h1, h2⟩ := h
  rw [hro, Oper.semAt_none] at h2
  refine ⟨h1, ?_⟩
  rw [Fence.inRound_round, Oper.semAt_some l a.eval o (noDefer_ne hd)]
  exact h2
theorem opsIn_round {ops : Array Oper} {i : Nat} {a : Act} {w : World} {K K' : Act → World → Prop} {Q : Exit → Act → World → Prop} (l : Nat) (hro : F.round = none) (hd : ops.toList.all noDefer = true) (hK : ∀ a w, K a w → K' a w) (h : wpOpIn F n P ops Q i K a w) : wpOpIn (F.inRound l) n P ops Q i K' a w := by
  unfold wpOpIn at *
  cases ho : ops[i]? with
  | none => simp only [ho] at h ⊢; exact hK _ _ h
  | some o =>
    simp only [ho] at h ⊢
    have hn : noDefer o = true := List.all_eq_true.1 hd o (Array.mem_toList_iff.2 (Array.mem_of_getElem? ho))
    split
    · next hw => rw [if_pos hw] at h; exact Oper.wpIn_mono hK (opIn_round l hro hn h)
    · next hw => rw [if_neg hw] at h; exact ⟨h.1, hK _ _ h.2⟩
theorem anyIn_round {ops : Array Oper} {Q : Exit → Act → World → Prop} (l : Nat) (hro : F.round = none) (hd : ops.toList.all noDefer = true) {md : Region.Mode} : ∀ (fuel : Nat) (listed : Array Bool) (a : Act) (w : World), wpAnyIn F n P md ops Q fuel listed a w → wpAnyIn (F.inRound l) n P md ops Q fuel listed a w
  | 0, _, _, _, h => h
  | fuel + 1, _, _, _, h => ⟨h.1, fun i hi => opsIn_round l hro hd (fun a w h => anyIn_round l hro hd fuel _ a w h) (h.2 i hi)⟩
theorem wpIn_round_quiet {l id : Nat} {Q : Exit → Act → World → Prop} {a : Act} {w : World} {L : List Oper} (hro : F.round = none) (hd : L.all noDefer = true) (hm : P.follows .mixedOrders = true) (hB : Region.lexB .any L.toArray = true)
    (h : wpQuietIn F n P L.toArray (fun w' => ∃ n, w' = w.drewN n) (fun a' => ∀ w', (∃ n, w' = w.drewN n) → Q .normal a' w') L a) : (Code.region id L.toArray true).wpIn (F.inRound l) n P Q a w := by
  simp only [Region.lexB, Bool.and_eq_true] at hB
  refine wpIn_region_any hm (anyIn_round l hro (by simpa using hd) _ _ _ _ (wpAnyIn_of_quiet (C := fun w' => ∃ n, w' = w.drewN n) (Q := fun a' => ∀ w', (∃ n, w' = w.drewN n) → Q .normal a' w') hro (fun _ w' hw' h => h w' hw') _ _ _ _ ⟨1, rfl⟩ ?_))
  have := wpAnyQIn_lex (F := F) (n := n) (C := fun w' => ∃ n, w' = w.drewN n) (md := .any) hB.1 L 0 (Array.replicate L.toArray.size false) a (by simp) (by simpa using hB.2) h
  simpa using this
end
end Go.Proofs.YthjdjbipfdigeaaGreat

