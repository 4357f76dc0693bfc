/- THE WALK of PswSteps: it returns true and writes nothing that was there. No conditions but the input's own ranges. -/
import Derived.Test.YtfjnmlklpebfcaaPwL
import Derived.Test.YtfjnmlklpebfcaaRow
import Derived.Deep.OwnRows
namespace Go.Proofs.Ytfjnmlklpebfcaa
open Go.RowKit
set_option linter.unusedVariables false
set_option linter.unusedSimpArgs false

attribute [local go_sem] eqp_run eqp_guard eqp_refl
theorem advance_ok (m k : Int) (M W P : Bool) (c i q g a : Int) (n : Int) (w : World) (hp : pok m k c i q g a = true) (hn : n = 2 ∨ n = 4 ∨ n = 6) : Calls Try.prog 24 #[.agg #[.int .i64 m, .int .i64 k, .bool M, .bool W, .bool P, .int .i64 c, .int .i64 i, .int .i64 q, .int .i64 g, .int .i64 a], .int .i64 n] w fun e w' => e = .returned (.agg #[.int .i64 m, .int .i64 k, .bool M, .bool W, .bool P, .int .i64 c, .int .i64 (n / 2), .int .i64 q, .int .i64 g, .int .i64 ((a + n) % 16777216)]) ∧ Below w.heap.size w w' := by
  have h := advance_c m k M W P c i q g a n w
  have e0 : padv (pok m k c i q g a) n = true := by rw [hp]; simp [padv, hn]
  rw [if_pos e0, if_pos e0] at h
  exact h
theorem steps_at {w w' : World} {a : Option Addr} {len cap : Nat} {zs : List Int} (h : IsRow .i64 w a len cap zs) (hb : Below w.heap.size w w') (k : Nat) (hk : k < len) : ∃ b off, a = some ⟨b, off, none⟩ ∧ w'.cell? ⟨b, off + k, none⟩ = some (.int .i64 (zs.getD k 0)) ∧ (Lit.int .i64 (zs.getD k 0)).wf = true := by
  rcases h with ⟨rfl, rfl, rfl, rfl⟩ | ⟨x, rfl, hl, hm, hz, hc, hw⟩
  · omega
  · obtain ⟨b, off, spot⟩ := x
    have h1 := hc 0 (by omega)
    have hspot : spot = none := by simpa [Addr.add] using World.cell?_spot h1
    subst hspot
    have h2 := hc k (by omega)
    have hadd : (⟨b, off, none⟩ : Addr).add k = ⟨b, off + k, none⟩ := by unfold Addr.add; split <;> simp_all
    rw [hadd] at h2
    refine ⟨b, off, rfl, bcell_keep h2 hb, hw _ ?_⟩
    rw [List.getD_eq_getElem?_getD, List.getElem?_eq_getElem (by omega)]
    exact List.getElem_mem _
theorem block_keep {w w' : World} {g : Nat} {C : Array Value} {t : TypeId} {fr : Nat × Nat} (h : w.heap[g]? = some (.cells C t fr)) (hb : Below w.heap.size w w') : w'.heap[g]? = some (.cells C t fr) := by
  have hlt : g < w.heap.size := (Array.getElem?_eq_some_iff.1 h).1
  exact (hb.block g hlt).trans h
theorem ten_far (w : World) (g g' : Nat) (hne : g' ≠ g) (y0 y1 y2 y3 y4 y5 y6 y7 y8 y9 : Value) : ((((((((((w.setCell ⟨g, 0, none⟩ y0).setCell ⟨g, 1, none⟩ y1).setCell ⟨g, 2, none⟩ y2).setCell ⟨g, 3, none⟩ y3).setCell ⟨g, 4, none⟩ y4).setCell ⟨g, 5, none⟩ y5).setCell ⟨g, 6, none⟩ y6).setCell ⟨g, 7, none⟩ y7).setCell ⟨g, 8, none⟩ y8).setCell ⟨g, 9, none⟩ y9).heap[g']? = w.heap[g']? :=
  ((Below.heap_setCell _ _ _ _ hne).trans ((Below.heap_setCell _ _ _ _ hne).trans ((Below.heap_setCell _ _ _ _ hne).trans ((Below.heap_setCell _ _ _ _ hne).trans ((Below.heap_setCell _ _ _ _ hne).trans ((Below.heap_setCell _ _ _ _ hne).trans ((Below.heap_setCell _ _ _ _ hne).trans ((Below.heap_setCell _ _ _ _ hne).trans ((Below.heap_setCell _ _ _ _ hne).trans ((Below.heap_setCell _ _ _ _ hne).trans rfl))))))))))
theorem blk_free {w : World} {g : Nat} {C : Array Value} {t : TypeId} (h : w.heap[g]? = some (.cells C t (0, 0))) (i : Nat) : w.frozen? ⟨g, i, none⟩ = false := by simp [World.frozen?, h]
set_option maxRecDepth 100000 in
set_option maxHeartbeats 4000000 in
theorem pswSteps_n (m k : Int) (M W P : Bool) (c i q g a : Int) (A : Option Addr) (len cap : Nat) (zs : List Int) (w : World) (hA : IsRow .i64 w A len cap zs) (hp : pok m k c i q g a = false) : Calls Try.prog 11 #[.agg #[.int .i64 m, .int .i64 k, .bool M, .bool W, .bool P, .int .i64 c, .int .i64 i, .int .i64 q, .int .i64 g, .int .i64 a], .slice A len cap] w fun e w' => e = .returned (.bool true) ∧ Below w.heap.size w w' := by
  clear hA
  go_enter Try.func11, Try.ntmps11
  go_wp2_with fail
  refine (valid_c m k M W P c i q g a _).mono ?_
  rintro e w1 ⟨rfl, hb⟩
  have HB1 := Lib.hid (show Below w.heap.size w w1 from ((Below.refl w.heap.size w).alloc (Nat.le_refl _) _).trans (hb.mono (by simp)))
  have hz0 : w.heap.size < w1.heap.size := by have := hb.size; simp at this; omega
  have G0 := Lib.hid (show w1.heap[w.heap.size]? = some (.cells #[.int .i64 m, .int .i64 k, .bool M, .bool W, .bool P, .int .i64 c, .int .i64 i, .int .i64 q, .int .i64 g, .int .i64 a] 23 (0, 0)) from block_keep (heap_alloc_new w _) hb)
  have c0 : w1.cell? ⟨w.heap.size, 0, none⟩ = some (.int .i64 m) := bcell_keep (w := (w.alloc (.cells #[.int .i64 m, .int .i64 k, .bool M, .bool W, .bool P, .int .i64 c, .int .i64 i, .int .i64 q, .int .i64 g, .int .i64 a] 23))) (by first | assumption | simp) hb
  have c1 : w1.cell? ⟨w.heap.size, 1, none⟩ = some (.int .i64 k) := bcell_keep (w := (w.alloc (.cells #[.int .i64 m, .int .i64 k, .bool M, .bool W, .bool P, .int .i64 c, .int .i64 i, .int .i64 q, .int .i64 g, .int .i64 a] 23))) (by first | assumption | simp) hb
  have c2 : w1.cell? ⟨w.heap.size, 2, none⟩ = some (.bool M) := bcell_keep (w := (w.alloc (.cells #[.int .i64 m, .int .i64 k, .bool M, .bool W, .bool P, .int .i64 c, .int .i64 i, .int .i64 q, .int .i64 g, .int .i64 a] 23))) (by first | assumption | simp) hb
  have c3 : w1.cell? ⟨w.heap.size, 3, none⟩ = some (.bool W) := bcell_keep (w := (w.alloc (.cells #[.int .i64 m, .int .i64 k, .bool M, .bool W, .bool P, .int .i64 c, .int .i64 i, .int .i64 q, .int .i64 g, .int .i64 a] 23))) (by first | assumption | simp) hb
  have c4 : w1.cell? ⟨w.heap.size, 4, none⟩ = some (.bool P) := bcell_keep (w := (w.alloc (.cells #[.int .i64 m, .int .i64 k, .bool M, .bool W, .bool P, .int .i64 c, .int .i64 i, .int .i64 q, .int .i64 g, .int .i64 a] 23))) (by first | assumption | simp) hb
  have c5 : w1.cell? ⟨w.heap.size, 5, none⟩ = some (.int .i64 c) := bcell_keep (w := (w.alloc (.cells #[.int .i64 m, .int .i64 k, .bool M, .bool W, .bool P, .int .i64 c, .int .i64 i, .int .i64 q, .int .i64 g, .int .i64 a] 23))) (by first | assumption | simp) hb
  have c6 : w1.cell? ⟨w.heap.size, 6, none⟩ = some (.int .i64 i) := bcell_keep (w := (w.alloc (.cells #[.int .i64 m, .int .i64 k, .bool M, .bool W, .bool P, .int .i64 c, .int .i64 i, .int .i64 q, .int .i64 g, .int .i64 a] 23))) (by first | assumption | simp) hb
  have c7 : w1.cell? ⟨w.heap.size, 7, none⟩ = some (.int .i64 q) := bcell_keep (w := (w.alloc (.cells #[.int .i64 m, .int .i64 k, .bool M, .bool W, .bool P, .int .i64 c, .int .i64 i, .int .i64 q, .int .i64 g, .int .i64 a] 23))) (by first | assumption | simp) hb
  have c8 : w1.cell? ⟨w.heap.size, 8, none⟩ = some (.int .i64 g) := bcell_keep (w := (w.alloc (.cells #[.int .i64 m, .int .i64 k, .bool M, .bool W, .bool P, .int .i64 c, .int .i64 i, .int .i64 q, .int .i64 g, .int .i64 a] 23))) (by first | assumption | simp) hb
  have c9 : w1.cell? ⟨w.heap.size, 9, none⟩ = some (.int .i64 a) := bcell_keep (w := (w.alloc (.cells #[.int .i64 m, .int .i64 k, .bool M, .bool W, .bool P, .int .i64 c, .int .i64 i, .int .i64 q, .int .i64 g, .int .i64 a] 23))) (by first | assumption | simp) hb
  clear hb
  rw [hp]
  go_wp2_with fail
  refine (works_c _).mono ?_
  rintro e w9 ⟨rfl, hb⟩
  have B9 := Lib.hid (HB1.out.trans (hb.mono HB1.out.size))
  clear hb
  go_wp2_with fail
  go_ret
  exact ⟨rfl, B9.out⟩

set_option maxRecDepth 100000 in
set_option maxHeartbeats 4000000 in
theorem pswSteps_l (m k : Int) (M W P : Bool) (c i q g a : Int) (A : Option Addr) (len cap : Nat) (zs : List Int) (w : World) (hA : IsRow .i64 w A len cap zs) (hl : (100 : Int) < len) (hp : pok m k c i q g a = true) : Calls Try.prog 11 #[.agg #[.int .i64 m, .int .i64 k, .bool M, .bool W, .bool P, .int .i64 c, .int .i64 i, .int .i64 q, .int .i64 g, .int .i64 a], .slice A len cap] w fun e w' => e = .returned (.bool true) ∧ Below w.heap.size w w' := by
  clear hA
  go_enter Try.func11, Try.ntmps11
  go_wp2_with fail
  refine (valid_c m k M W P c i q g a _).mono ?_
  rintro e w1 ⟨rfl, hb⟩
  have HB1 := Lib.hid (show Below w.heap.size w w1 from ((Below.refl w.heap.size w).alloc (Nat.le_refl _) _).trans (hb.mono (by simp)))
  have hz0 : w.heap.size < w1.heap.size := by have := hb.size; simp at this; omega
  have G0 := Lib.hid (show w1.heap[w.heap.size]? = some (.cells #[.int .i64 m, .int .i64 k, .bool M, .bool W, .bool P, .int .i64 c, .int .i64 i, .int .i64 q, .int .i64 g, .int .i64 a] 23 (0, 0)) from block_keep (heap_alloc_new w _) hb)
  have c0 : w1.cell? ⟨w.heap.size, 0, none⟩ = some (.int .i64 m) := bcell_keep (w := (w.alloc (.cells #[.int .i64 m, .int .i64 k, .bool M, .bool W, .bool P, .int .i64 c, .int .i64 i, .int .i64 q, .int .i64 g, .int .i64 a] 23))) (by first | assumption | simp) hb
  have c1 : w1.cell? ⟨w.heap.size, 1, none⟩ = some (.int .i64 k) := bcell_keep (w := (w.alloc (.cells #[.int .i64 m, .int .i64 k, .bool M, .bool W, .bool P, .int .i64 c, .int .i64 i, .int .i64 q, .int .i64 g, .int .i64 a] 23))) (by first | assumption | simp) hb
  have c2 : w1.cell? ⟨w.heap.size, 2, none⟩ = some (.bool M) := bcell_keep (w := (w.alloc (.cells #[.int .i64 m, .int .i64 k, .bool M, .bool W, .bool P, .int .i64 c, .int .i64 i, .int .i64 q, .int .i64 g, .int .i64 a] 23))) (by first | assumption | simp) hb
  have c3 : w1.cell? ⟨w.heap.size, 3, none⟩ = some (.bool W) := bcell_keep (w := (w.alloc (.cells #[.int .i64 m, .int .i64 k, .bool M, .bool W, .bool P, .int .i64 c, .int .i64 i, .int .i64 q, .int .i64 g, .int .i64 a] 23))) (by first | assumption | simp) hb
  have c4 : w1.cell? ⟨w.heap.size, 4, none⟩ = some (.bool P) := bcell_keep (w := (w.alloc (.cells #[.int .i64 m, .int .i64 k, .bool M, .bool W, .bool P, .int .i64 c, .int .i64 i, .int .i64 q, .int .i64 g, .int .i64 a] 23))) (by first | assumption | simp) hb
  have c5 : w1.cell? ⟨w.heap.size, 5, none⟩ = some (.int .i64 c) := bcell_keep (w := (w.alloc (.cells #[.int .i64 m, .int .i64 k, .bool M, .bool W, .bool P, .int .i64 c, .int .i64 i, .int .i64 q, .int .i64 g, .int .i64 a] 23))) (by first | assumption | simp) hb
  have c6 : w1.cell? ⟨w.heap.size, 6, none⟩ = some (.int .i64 i) := bcell_keep (w := (w.alloc (.cells #[.int .i64 m, .int .i64 k, .bool M, .bool W, .bool P, .int .i64 c, .int .i64 i, .int .i64 q, .int .i64 g, .int .i64 a] 23))) (by first | assumption | simp) hb
  have c7 : w1.cell? ⟨w.heap.size, 7, none⟩ = some (.int .i64 q) := bcell_keep (w := (w.alloc (.cells #[.int .i64 m, .int .i64 k, .bool M, .bool W, .bool P, .int .i64 c, .int .i64 i, .int .i64 q, .int .i64 g, .int .i64 a] 23))) (by first | assumption | simp) hb
  have c8 : w1.cell? ⟨w.heap.size, 8, none⟩ = some (.int .i64 g) := bcell_keep (w := (w.alloc (.cells #[.int .i64 m, .int .i64 k, .bool M, .bool W, .bool P, .int .i64 c, .int .i64 i, .int .i64 q, .int .i64 g, .int .i64 a] 23))) (by first | assumption | simp) hb
  have c9 : w1.cell? ⟨w.heap.size, 9, none⟩ = some (.int .i64 a) := bcell_keep (w := (w.alloc (.cells #[.int .i64 m, .int .i64 k, .bool M, .bool W, .bool P, .int .i64 c, .int .i64 i, .int .i64 q, .int .i64 g, .int .i64 a] 23))) (by first | assumption | simp) hb
  clear hb
  rw [hp]
  go_wp2_with fail
  refine (works_c _).mono ?_
  rintro e w9 ⟨rfl, hb⟩
  have B9 := Lib.hid (HB1.out.trans (hb.mono HB1.out.size))
  clear hb
  go_wp2_with fail
  go_ret
  exact ⟨rfl, B9.out⟩

set_option maxRecDepth 100000 in
set_option maxHeartbeats 4000000 in
theorem pswSteps_y (m k : Int) (M W P : Bool) (c i q g a : Int) (A : Option Addr) (len cap : Nat) (zs : List Int) (w : World) (hA : IsRow .i64 w A len cap zs) (hl : (len : Int) ≤ 100) (hp : pok m k c i q g a = true) : Calls Try.prog 11 #[.agg #[.int .i64 m, .int .i64 k, .bool M, .bool W, .bool P, .int .i64 c, .int .i64 i, .int .i64 q, .int .i64 g, .int .i64 a], .slice A len cap] w fun e w' => e = .returned (.bool true) ∧ Below w.heap.size w w' := by
  have HA := Lib.hid hA
  have HP := Lib.hid hp
  have hq := (pok_iff m k c i q g a).1 hp
  obtain ⟨⟨m0, m1⟩, ⟨k0, k1⟩, ⟨c0', c1'⟩, ⟨i0, i1⟩, ⟨q0, q1⟩, ⟨g0, g1⟩, a0, a1⟩ := hq
  clear hA
  go_enter Try.func11, Try.ntmps11
  go_wp2_with fail
  refine (valid_c m k M W P c i q g a _).mono ?_
  rintro e w1 ⟨rfl, hb⟩
  have HB1 := Lib.hid (show Below w.heap.size w w1 from ((Below.refl w.heap.size w).alloc (Nat.le_refl _) _).trans (hb.mono (by simp)))
  have hz0 : w.heap.size < w1.heap.size := by have := hb.size; simp at this; omega
  have G0 := Lib.hid (show w1.heap[w.heap.size]? = some (.cells #[.int .i64 m, .int .i64 k, .bool M, .bool W, .bool P, .int .i64 c, .int .i64 i, .int .i64 q, .int .i64 g, .int .i64 a] 23 (0, 0)) from block_keep (heap_alloc_new w _) hb)
  have c0 : w1.cell? ⟨w.heap.size, 0, none⟩ = some (.int .i64 m) := bcell_keep (w := (w.alloc (.cells #[.int .i64 m, .int .i64 k, .bool M, .bool W, .bool P, .int .i64 c, .int .i64 i, .int .i64 q, .int .i64 g, .int .i64 a] 23))) (by first | assumption | simp) hb
  have c1 : w1.cell? ⟨w.heap.size, 1, none⟩ = some (.int .i64 k) := bcell_keep (w := (w.alloc (.cells #[.int .i64 m, .int .i64 k, .bool M, .bool W, .bool P, .int .i64 c, .int .i64 i, .int .i64 q, .int .i64 g, .int .i64 a] 23))) (by first | assumption | simp) hb
  have c2 : w1.cell? ⟨w.heap.size, 2, none⟩ = some (.bool M) := bcell_keep (w := (w.alloc (.cells #[.int .i64 m, .int .i64 k, .bool M, .bool W, .bool P, .int .i64 c, .int .i64 i, .int .i64 q, .int .i64 g, .int .i64 a] 23))) (by first | assumption | simp) hb
  have c3 : w1.cell? ⟨w.heap.size, 3, none⟩ = some (.bool W) := bcell_keep (w := (w.alloc (.cells #[.int .i64 m, .int .i64 k, .bool M, .bool W, .bool P, .int .i64 c, .int .i64 i, .int .i64 q, .int .i64 g, .int .i64 a] 23))) (by first | assumption | simp) hb
  have c4 : w1.cell? ⟨w.heap.size, 4, none⟩ = some (.bool P) := bcell_keep (w := (w.alloc (.cells #[.int .i64 m, .int .i64 k, .bool M, .bool W, .bool P, .int .i64 c, .int .i64 i, .int .i64 q, .int .i64 g, .int .i64 a] 23))) (by first | assumption | simp) hb
  have c5 : w1.cell? ⟨w.heap.size, 5, none⟩ = some (.int .i64 c) := bcell_keep (w := (w.alloc (.cells #[.int .i64 m, .int .i64 k, .bool M, .bool W, .bool P, .int .i64 c, .int .i64 i, .int .i64 q, .int .i64 g, .int .i64 a] 23))) (by first | assumption | simp) hb
  have c6 : w1.cell? ⟨w.heap.size, 6, none⟩ = some (.int .i64 i) := bcell_keep (w := (w.alloc (.cells #[.int .i64 m, .int .i64 k, .bool M, .bool W, .bool P, .int .i64 c, .int .i64 i, .int .i64 q, .int .i64 g, .int .i64 a] 23))) (by first | assumption | simp) hb
  have c7 : w1.cell? ⟨w.heap.size, 7, none⟩ = some (.int .i64 q) := bcell_keep (w := (w.alloc (.cells #[.int .i64 m, .int .i64 k, .bool M, .bool W, .bool P, .int .i64 c, .int .i64 i, .int .i64 q, .int .i64 g, .int .i64 a] 23))) (by first | assumption | simp) hb
  have c8 : w1.cell? ⟨w.heap.size, 8, none⟩ = some (.int .i64 g) := bcell_keep (w := (w.alloc (.cells #[.int .i64 m, .int .i64 k, .bool M, .bool W, .bool P, .int .i64 c, .int .i64 i, .int .i64 q, .int .i64 g, .int .i64 a] 23))) (by first | assumption | simp) hb
  have c9 : w1.cell? ⟨w.heap.size, 9, none⟩ = some (.int .i64 a) := bcell_keep (w := (w.alloc (.cells #[.int .i64 m, .int .i64 k, .bool M, .bool W, .bool P, .int .i64 c, .int .i64 i, .int .i64 q, .int .i64 g, .int .i64 a] 23))) (by first | assumption | simp) hb
  clear hb
  rw [hp]
  clear hp
  go_wp2_with fail
  go_loopw [6, 7] (fun sv iv wr => ∃ (j : Nat) (s il : Int), j ≤ len ∧ iv = .int .i64 j ∧ sv = .int .i64 s ∧ 0 ≤ s ∧ s ≤ 6 * j ∧ 0 ≤ il ∧ il ≤ 3 ∧ Below w.heap.size w wr ∧ wr.heap[w.heap.size]? = some (.cells #[.int .i64 m, .int .i64 k, .bool M, .bool W, .bool P, .int .i64 c, .int .i64 i, .int .i64 q, .int .i64 g, .int .i64 a] 23 (0, 0)) ∧ wr.heap[w1.heap.size]? = some (.cells #[.int .i64 m, .int .i64 k, .bool M, .bool W, .bool P, .int .i64 c, .int .i64 il, .int .i64 q, .int .i64 g, .int .i64 ((a + s) % 16777216)] 23 (0, 0))) (fun _ iv _ => len - (intOf iv).toNat)
  case atStart =>
    exact ⟨0, 0, i, Nat.zero_le _, rfl, rfl, by omega, by omega, i0, i1, HB1.out.alloc HB1.out.size _, block_keep G0.out ((Below.refl w1.heap.size w1).alloc (Nat.le_refl _) _), by rw [heap_alloc_new]; simp; omega⟩
  case round =>
    obtain ⟨j, s, il, hj, rfl, rfl, s0, s1, il0, il1, hbl, hg0, hg1⟩ := hrel
    have HBl := Lib.hid hbl
    have G1 := Lib.hid hg0
    have G2 := Lib.hid hg1
    have p0 : wr.cell? ⟨w.heap.size, 0, none⟩ = some (.int .i64 m) := cell_blk hg0 0
    have p1 : wr.cell? ⟨w.heap.size, 1, none⟩ = some (.int .i64 k) := cell_blk hg0 1
    have p2 : wr.cell? ⟨w.heap.size, 2, none⟩ = some (.bool M) := cell_blk hg0 2
    have p3 : wr.cell? ⟨w.heap.size, 3, none⟩ = some (.bool W) := cell_blk hg0 3
    have p4 : wr.cell? ⟨w.heap.size, 4, none⟩ = some (.bool P) := cell_blk hg0 4
    have p5 : wr.cell? ⟨w.heap.size, 5, none⟩ = some (.int .i64 c) := cell_blk hg0 5
    have p6 : wr.cell? ⟨w.heap.size, 6, none⟩ = some (.int .i64 i) := cell_blk hg0 6
    have p7 : wr.cell? ⟨w.heap.size, 7, none⟩ = some (.int .i64 q) := cell_blk hg0 7
    have p8 : wr.cell? ⟨w.heap.size, 8, none⟩ = some (.int .i64 g) := cell_blk hg0 8
    have p9 : wr.cell? ⟨w.heap.size, 9, none⟩ = some (.int .i64 a) := cell_blk hg0 9
    have r0 : wr.cell? ⟨w1.heap.size, 0, none⟩ = some (.int .i64 m) := cell_blk hg1 0
    have r1 : wr.cell? ⟨w1.heap.size, 1, none⟩ = some (.int .i64 k) := cell_blk hg1 1
    have r2 : wr.cell? ⟨w1.heap.size, 2, none⟩ = some (.bool M) := cell_blk hg1 2
    have r3 : wr.cell? ⟨w1.heap.size, 3, none⟩ = some (.bool W) := cell_blk hg1 3
    have r4 : wr.cell? ⟨w1.heap.size, 4, none⟩ = some (.bool P) := cell_blk hg1 4
    have r5 : wr.cell? ⟨w1.heap.size, 5, none⟩ = some (.int .i64 c) := cell_blk hg1 5
    have r6 : wr.cell? ⟨w1.heap.size, 6, none⟩ = some (.int .i64 il) := cell_blk hg1 6
    have r7 : wr.cell? ⟨w1.heap.size, 7, none⟩ = some (.int .i64 q) := cell_blk hg1 7
    have r8 : wr.cell? ⟨w1.heap.size, 8, none⟩ = some (.int .i64 g) := cell_blk hg1 8
    have r9 : wr.cell? ⟨w1.heap.size, 9, none⟩ = some (.int .i64 ((a + s) % 16777216)) := cell_blk hg1 9
    clear hbl hg0 hg1
    by_cases hlt : j < len
    · obtain ⟨b, off, rfl, hcell, hwf⟩ := steps_at HA.out HBl.out j hlt
      have hk1 : (j : Int) < (len : Int) := by omega
      obtain ⟨x, hx⟩ : ∃ x, zs.getD j 0 = x := ⟨_, rfl⟩
      rw [hx] at hcell hwf
      clear hx
      have hcell' := Lib.hid hcell
      obtain ⟨r, hr⟩ : ∃ r, (IntKind.u64.wrap x).tmod 3 = r := ⟨_, rfl⟩
      have hr3 : r = 0 ∨ r = 1 ∨ r = 2 := by
        have h0 : 0 ≤ IntKind.u64.wrap x := by simp only [IntKind.wrap, IntKind.bits, IntKind.signed]; simp; omega
        rw [Int.tmod_eq_emod_of_nonneg h0] at hr; omega
      clear hcell hwf
      have hcell := hcell'.out
      rcases hr3 with rfl | rfl | rfl
      · go_wp2_with fail
        refine (advance_ok m k M W P c il q g ((a + s) % 16777216) 2 _ (by rw [pok_iff]; omega) (by omega)).mono ?_
        rintro e w3 ⟨rfl, hb⟩
        have HB3 := Lib.hid (HBl.out.trans (hb.mono HBl.out.size))
        have G3 := Lib.hid (block_keep G1.out hb)
        have G4 := Lib.hid (block_keep G2.out hb)
        have t0 : w3.cell? ⟨w1.heap.size, 0, none⟩ = some (.int .i64 m) := cell_blk G4.out 0
        have t1 : w3.cell? ⟨w1.heap.size, 1, none⟩ = some (.int .i64 k) := cell_blk G4.out 1
        have t2 : w3.cell? ⟨w1.heap.size, 2, none⟩ = some (.bool M) := cell_blk G4.out 2
        have t3 : w3.cell? ⟨w1.heap.size, 3, none⟩ = some (.bool W) := cell_blk G4.out 3
        have t4 : w3.cell? ⟨w1.heap.size, 4, none⟩ = some (.bool P) := cell_blk G4.out 4
        have t5 : w3.cell? ⟨w1.heap.size, 5, none⟩ = some (.int .i64 c) := cell_blk G4.out 5
        have t6 : w3.cell? ⟨w1.heap.size, 6, none⟩ = some (.int .i64 il) := cell_blk G4.out 6
        have t7 : w3.cell? ⟨w1.heap.size, 7, none⟩ = some (.int .i64 q) := cell_blk G4.out 7
        have t8 : w3.cell? ⟨w1.heap.size, 8, none⟩ = some (.int .i64 g) := cell_blk G4.out 8
        have t9 : w3.cell? ⟨w1.heap.size, 9, none⟩ = some (.int .i64 ((a + s) % 16777216)) := cell_blk G4.out 9
        have z0 : w3.frozen? ⟨w1.heap.size, 0, none⟩ = false := blk_free G4.out 0
        have z1 : w3.frozen? ⟨w1.heap.size, 1, none⟩ = false := blk_free G4.out 1
        have z2 : w3.frozen? ⟨w1.heap.size, 2, none⟩ = false := blk_free G4.out 2
        have z3 : w3.frozen? ⟨w1.heap.size, 3, none⟩ = false := blk_free G4.out 3
        have z4 : w3.frozen? ⟨w1.heap.size, 4, none⟩ = false := blk_free G4.out 4
        have z5 : w3.frozen? ⟨w1.heap.size, 5, none⟩ = false := blk_free G4.out 5
        have z6 : w3.frozen? ⟨w1.heap.size, 6, none⟩ = false := blk_free G4.out 6
        have z7 : w3.frozen? ⟨w1.heap.size, 7, none⟩ = false := blk_free G4.out 7
        have z8 : w3.frozen? ⟨w1.heap.size, 8, none⟩ = false := blk_free G4.out 8
        have z9 : w3.frozen? ⟨w1.heap.size, 9, none⟩ = false := blk_free G4.out 9
        clear hb
        simp only [Int.reduceDiv]
        go_wp2_with fail
        go_roundw
        case rel => exact ⟨j + 1, s + 2, 1, by omega, by go_num, rfl, by omega, by omega, by omega, by omega, by repeat' (first | with_reducible exact HB3.out | refine Below.setCell ?_ (Nat.le_of_lt hz0) _), (ten_far _ _ _ (Nat.ne_of_lt hz0) _ _ _ _ _ _ _ _ _ _).trans G3.out, by rw [show a + (s + 2) = a + s + 2 from by omega]; exact ten_cells _ _ _ _ _ _ _ _ _ _ _ _ _ _ _ _ _ _ _ _ _ _ _ _ G4.out⟩
        case measure => simp [intOf]; omega
      · go_wp2_with fail
        refine (advance_ok m k M W P c il q g ((a + s) % 16777216) 4 _ (by rw [pok_iff]; omega) (by omega)).mono ?_
        rintro e w3 ⟨rfl, hb⟩
        have HB3 := Lib.hid (HBl.out.trans (hb.mono HBl.out.size))
        have G3 := Lib.hid (block_keep G1.out hb)
        have G4 := Lib.hid (block_keep G2.out hb)
        have t0 : w3.cell? ⟨w1.heap.size, 0, none⟩ = some (.int .i64 m) := cell_blk G4.out 0
        have t1 : w3.cell? ⟨w1.heap.size, 1, none⟩ = some (.int .i64 k) := cell_blk G4.out 1
        have t2 : w3.cell? ⟨w1.heap.size, 2, none⟩ = some (.bool M) := cell_blk G4.out 2
        have t3 : w3.cell? ⟨w1.heap.size, 3, none⟩ = some (.bool W) := cell_blk G4.out 3
        have t4 : w3.cell? ⟨w1.heap.size, 4, none⟩ = some (.bool P) := cell_blk G4.out 4
        have t5 : w3.cell? ⟨w1.heap.size, 5, none⟩ = some (.int .i64 c) := cell_blk G4.out 5
        have t6 : w3.cell? ⟨w1.heap.size, 6, none⟩ = some (.int .i64 il) := cell_blk G4.out 6
        have t7 : w3.cell? ⟨w1.heap.size, 7, none⟩ = some (.int .i64 q) := cell_blk G4.out 7
        have t8 : w3.cell? ⟨w1.heap.size, 8, none⟩ = some (.int .i64 g) := cell_blk G4.out 8
        have t9 : w3.cell? ⟨w1.heap.size, 9, none⟩ = some (.int .i64 ((a + s) % 16777216)) := cell_blk G4.out 9
        have z0 : w3.frozen? ⟨w1.heap.size, 0, none⟩ = false := blk_free G4.out 0
        have z1 : w3.frozen? ⟨w1.heap.size, 1, none⟩ = false := blk_free G4.out 1
        have z2 : w3.frozen? ⟨w1.heap.size, 2, none⟩ = false := blk_free G4.out 2
        have z3 : w3.frozen? ⟨w1.heap.size, 3, none⟩ = false := blk_free G4.out 3
        have z4 : w3.frozen? ⟨w1.heap.size, 4, none⟩ = false := blk_free G4.out 4
        have z5 : w3.frozen? ⟨w1.heap.size, 5, none⟩ = false := blk_free G4.out 5
        have z6 : w3.frozen? ⟨w1.heap.size, 6, none⟩ = false := blk_free G4.out 6
        have z7 : w3.frozen? ⟨w1.heap.size, 7, none⟩ = false := blk_free G4.out 7
        have z8 : w3.frozen? ⟨w1.heap.size, 8, none⟩ = false := blk_free G4.out 8
        have z9 : w3.frozen? ⟨w1.heap.size, 9, none⟩ = false := blk_free G4.out 9
        clear hb
        simp only [Int.reduceDiv]
        go_wp2_with fail
        go_roundw
        case rel => exact ⟨j + 1, s + 4, 2, by omega, by go_num, rfl, by omega, by omega, by omega, by omega, by repeat' (first | with_reducible exact HB3.out | refine Below.setCell ?_ (Nat.le_of_lt hz0) _), (ten_far _ _ _ (Nat.ne_of_lt hz0) _ _ _ _ _ _ _ _ _ _).trans G3.out, by rw [show a + (s + 4) = a + s + 4 from by omega]; exact ten_cells _ _ _ _ _ _ _ _ _ _ _ _ _ _ _ _ _ _ _ _ _ _ _ _ G4.out⟩
        case measure => simp [intOf]; omega
      · go_wp2_with fail
        refine (advance_ok m k M W P c il q g ((a + s) % 16777216) 6 _ (by rw [pok_iff]; omega) (by omega)).mono ?_
        rintro e w3 ⟨rfl, hb⟩
        have HB3 := Lib.hid (HBl.out.trans (hb.mono HBl.out.size))
        have G3 := Lib.hid (block_keep G1.out hb)
        have G4 := Lib.hid (block_keep G2.out hb)
        have t0 : w3.cell? ⟨w1.heap.size, 0, none⟩ = some (.int .i64 m) := cell_blk G4.out 0
        have t1 : w3.cell? ⟨w1.heap.size, 1, none⟩ = some (.int .i64 k) := cell_blk G4.out 1
        have t2 : w3.cell? ⟨w1.heap.size, 2, none⟩ = some (.bool M) := cell_blk G4.out 2
        have t3 : w3.cell? ⟨w1.heap.size, 3, none⟩ = some (.bool W) := cell_blk G4.out 3
        have t4 : w3.cell? ⟨w1.heap.size, 4, none⟩ = some (.bool P) := cell_blk G4.out 4
        have t5 : w3.cell? ⟨w1.heap.size, 5, none⟩ = some (.int .i64 c) := cell_blk G4.out 5
        have t6 : w3.cell? ⟨w1.heap.size, 6, none⟩ = some (.int .i64 il) := cell_blk G4.out 6
        have t7 : w3.cell? ⟨w1.heap.size, 7, none⟩ = some (.int .i64 q) := cell_blk G4.out 7
        have t8 : w3.cell? ⟨w1.heap.size, 8, none⟩ = some (.int .i64 g) := cell_blk G4.out 8
        have t9 : w3.cell? ⟨w1.heap.size, 9, none⟩ = some (.int .i64 ((a + s) % 16777216)) := cell_blk G4.out 9
        have z0 : w3.frozen? ⟨w1.heap.size, 0, none⟩ = false := blk_free G4.out 0
        have z1 : w3.frozen? ⟨w1.heap.size, 1, none⟩ = false := blk_free G4.out 1
        have z2 : w3.frozen? ⟨w1.heap.size, 2, none⟩ = false := blk_free G4.out 2
        have z3 : w3.frozen? ⟨w1.heap.size, 3, none⟩ = false := blk_free G4.out 3
        have z4 : w3.frozen? ⟨w1.heap.size, 4, none⟩ = false := blk_free G4.out 4
        have z5 : w3.frozen? ⟨w1.heap.size, 5, none⟩ = false := blk_free G4.out 5
        have z6 : w3.frozen? ⟨w1.heap.size, 6, none⟩ = false := blk_free G4.out 6
        have z7 : w3.frozen? ⟨w1.heap.size, 7, none⟩ = false := blk_free G4.out 7
        have z8 : w3.frozen? ⟨w1.heap.size, 8, none⟩ = false := blk_free G4.out 8
        have z9 : w3.frozen? ⟨w1.heap.size, 9, none⟩ = false := blk_free G4.out 9
        clear hb
        simp only [Int.reduceDiv]
        go_wp2_with fail
        go_roundw
        case rel => exact ⟨j + 1, s + 6, 3, by omega, by go_num, rfl, by omega, by omega, by omega, by omega, by repeat' (first | with_reducible exact HB3.out | refine Below.setCell ?_ (Nat.le_of_lt hz0) _), (ten_far _ _ _ (Nat.ne_of_lt hz0) _ _ _ _ _ _ _ _ _ _).trans G3.out, by rw [show a + (s + 6) = a + s + 6 from by omega]; exact ten_cells _ _ _ _ _ _ _ _ _ _ _ _ _ _ _ _ _ _ _ _ _ _ _ _ G4.out⟩
        case measure => simp [intOf]; omega
    · obtain rfl : j = len := by omega
      have hz := cell_ltB r0
      have hz3 := cell_ltB p0
      clear hlt
      go_wp2_with fail
      refine (works_c _).mono ?_
      rintro e w9 ⟨rfl, hb⟩
      have B9 := Lib.hid ((HBl.out.alloc HBl.out.size _).trans (hb.mono (by have := HBl.out.size; simp; omega)))
      clear hb
      go_wp2_with fail
      go_ret
      exact ⟨rfl, B9.out⟩

theorem pswSteps_walk (m : Int) (k : Int) (M : Bool) (W : Bool) (P : Bool) (c : Int) (i : Int) (q : Int) (g : Int) (a : Int) (a1 : Option Addr) (len1 cap1 : Nat) (z1 : List Int) (w : World) (w0_0 : (Lit.int .i64 m).wf = true) (w0_1 : (Lit.int .i64 k).wf = true) (w0_5 : (Lit.int .i64 c).wf = true) (w0_6 : (Lit.int .i64 i).wf = true) (w0_7 : (Lit.int .i64 q).wf = true) (w0_8 : (Lit.int .i64 g).wf = true) (w0_9 : (Lit.int .i64 a).wf = true) (w1 : IsRow .i64 w a1 len1 cap1 z1) :
    Calls Try.prog 11 #[.agg #[.int .i64 m, .int .i64 k, .bool M, .bool W, .bool P, .int .i64 c, .int .i64 i, .int .i64 q, .int .i64 g, .int .i64 a], .slice a1 len1 cap1] w fun e w' => e = .returned (.bool true) ∧ Below w.heap.size w w' := by
  cases hp : pok m k c i q g a
  · exact pswSteps_n m k M W P c i q g a a1 len1 cap1 z1 w w1 hp
  · by_cases hl : (100 : Int) < (len1 : Int)
    · exact pswSteps_l m k M W P c i q g a a1 len1 cap1 z1 w w1 hl hp
    · exact pswSteps_y m k M W P c i q g a a1 len1 cap1 z1 w w1 (by omega) hp
end Go.Proofs.Ytfjnmlklpebfcaa
