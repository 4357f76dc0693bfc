/- FRAME: a State that came in (registers, a program status word, three cells more), opened to its cells. No conditions. -/
import Derived.Test.YthjdjbipfdigeaaFr
import Derived.OpenShut
namespace Go.Proofs.Ythjdjbipfdigeaa
open Go.ChangeShapes Go.WideShapes Go.ChangeAt Go.RowKit Go.Deep
set_option maxRecDepth 100000
set_option linter.unusedVariables false
section
variable {H : Type} {enc : TypeId × Value → H} {P : Program} {w : World} {base : Nat} {spare : Nat → Bool} {held : Bool}
theorem cells_arr {t e : TypeId} {k : IntKind} {n fuel : Nat} {cs : List Value} {x : DataW H × List MemPlace} (hs : P.underlying t = some (.array n e)) (he : P.underlying e = some (.int k)) (h1 : P.cellsOf e = 1) (hl : cs.length = n)
    (h : DataW.trod enc P w base spare held fuel t cs = some x) : ∃ zs : List Int, cs = zs.map (Value.int k) ∧ zs.length = n ∧ ∀ z ∈ zs, (Lit.int k z).wf = true := by
  obtain ⟨xs, m, _, hx, _, hlen, hg⟩ := DataW.trod_array hs h
  have key : ∀ i, i < n → ∃ z : Int, cs[i]? = some (.int k z) ∧ (Lit.int k z).wf = true := by
    intro i hi
    have h2 := hg i hi
    rw [h1, Nat.mul_one] at h2
    have hjc : i < cs.length := by omega
    have e1 : (cs.drop i).take 1 = [cs[i]] := by
      rw [List.drop_eq_getElem_cons hjc]; rfl
    rw [e1] at h2
    have hxj : xs[i]? = some (xs[i]'(by omega)) := List.getElem?_eq_getElem (by omega)
    obtain ⟨a, e0, _, wa⟩ := DataW.trod_int he (h2.trans hxj)
    simp at e0
    exact ⟨a, by rw [List.getElem?_eq_getElem hjc, e0], wa⟩
  obtain ⟨f, hf2⟩ := choose_lt (α := Int) (p := fun i z => cs[i]? = some (.int k z) ∧ (Lit.int k z).wf = true) key
  refine ⟨(List.range n).map f, ?_, by simp, ?_⟩
  · apply List.ext_getElem?
    intro i
    by_cases hi : i < n
    · rw [(hf2 i hi).1]; simp [hi]
    · rw [List.getElem?_eq_none (by omega)]; simp [hi]
  · intro z hz
    obtain ⟨i, hi, rfl⟩ := List.mem_map.1 hz
    exact (hf2 i (List.mem_range.1 hi)).2
theorem cells_fields {t : TypeId} {fs : Array Field} {fuel : Nat} {cs : List Value} {x : DataW H × List MemPlace} (hs : P.underlying t = some (.struct fs)) (hone : oneCellFields P fs = true) (hl : cs.length = fs.size)
    (h : DataW.trod enc P w base spare held fuel t cs = some x) : ∀ (j : Nat) (f : Field), fs[j]? = some f → ∃ (u : Value) (y : DataW H × List MemPlace) (n : Nat), cs[j]? = some u ∧ DataW.trod enc P w base spare held n f.type [u] = some y := by
  obtain ⟨xs, n, _, hx, _, hlen, hg⟩ := DataW.trod_struct hs h
  intro j f hj
  obtain ⟨o, k⟩ := hone_of hone j f hj
  have h1 := hg j f hj
  have hjl : j < fs.size := (Array.getElem?_eq_some_iff.1 hj).1
  have hjc : j < cs.length := by omega
  rw [o, k] at h1
  have e1 : (cs.drop j).take 1 = [cs[j]] := by
    rw [List.drop_eq_getElem_cons hjc]; rfl
  rw [e1] at h1
  have hxj : xs[j]? = some (xs[j]'(by omega)) := List.getElem?_eq_getElem (by omega)
  exact ⟨cs[j], _, n, List.getElem?_eq_getElem hjc, h1.trans hxj⟩
end
theorem list_10 {α : Type} : ∀ {l : List α}, l.length = 10 → ∃ a b c d e f g h i j, l = [a, b, c, d, e, f, g, h, i, j]
  | [a, b, c, d, e, f, g, h, i, j], _ => ⟨a, b, c, d, e, f, g, h, i, j, rfl⟩
theorem list_3 {α : Type} : ∀ {l : List α}, l.length = 3 → ∃ a b c, l = [a, b, c]
  | [a, b, c], _ => ⟨a, b, c, rfl⟩
theorem list_16 {α : Type} : ∀ {l : List α}, l.length = 16 → ∃ x0 x1 x2 x3 x4 x5 x6 x7 x8 x9 x10 x11 x12 x13 x14 x15, l = [x0, x1, x2, x3, x4, x5, x6, x7, x8, x9, x10, x11, x12, x13, x14, x15]
  | [x0, x1, x2, x3, x4, x5, x6, x7, x8, x9, x10, x11, x12, x13, x14, x15], _ => ⟨x0, x1, x2, x3, x4, x5, x6, x7, x8, x9, x10, x11, x12, x13, x14, x15, rfl⟩
/-- a status word's ten cells -/
theorem cells_psw {H : Type} {enc : TypeId × Value → H} {w : World} {base : Nat} {spare : Nat → Bool} {held : Bool} {fuel : Nat} {cs : List Value} {x : DataW H × List MemPlace} (hl : cs.length = 10) (h : DataW.trod enc Try.prog w base spare held fuel 30 cs = some x) :
    ∃ (m k : Int) (M W P : Bool) (c i q g a : Int), cs = [.int .i64 m, .int .i64 k, .bool M, .bool W, .bool P, .int .i64 c, .int .i64 i, .int .i64 q, .int .i64 g, .int .i64 a] := by
  have hf := cells_fields Try.underlying30 (by kernel_rfl) hl h
  obtain ⟨u0, y0, n0, g0, t0⟩ := hf 0 _ rfl
  obtain ⟨u1, y1, n1, g1, t1⟩ := hf 1 _ rfl
  obtain ⟨u2, y2, n2, g2, t2⟩ := hf 2 _ rfl
  obtain ⟨u3, y3, n3, g3, t3⟩ := hf 3 _ rfl
  obtain ⟨u4, y4, n4, g4, t4⟩ := hf 4 _ rfl
  obtain ⟨u5, y5, n5, g5, t5⟩ := hf 5 _ rfl
  obtain ⟨u6, y6, n6, g6, t6⟩ := hf 6 _ rfl
  obtain ⟨u7, y7, n7, g7, t7⟩ := hf 7 _ rfl
  obtain ⟨u8, y8, n8, g8, t8⟩ := hf 8 _ rfl
  obtain ⟨u9, y9, n9, g9, t9⟩ := hf 9 _ rfl
  obtain ⟨v0, v1, v2, v3, v4, v5, v6, v7, v8, v9, rfl⟩ := list_10 hl
  simp only [List.getElem?_cons_zero, List.getElem?_cons_succ, Option.some.injEq] at g0 g1 g2 g3 g4 g5 g6 g7 g8 g9
  subst g0 g1 g2 g3 g4 g5 g6 g7 g8 g9
  obtain ⟨z0, rfl, _⟩ := field_int Try.underlying3 t0
  obtain ⟨z1, rfl, _⟩ := field_int Try.underlying3 t1
  obtain ⟨z2, rfl⟩ := field_bool Try.underlying4 t2
  obtain ⟨z3, rfl⟩ := field_bool Try.underlying4 t3
  obtain ⟨z4, rfl⟩ := field_bool Try.underlying4 t4
  obtain ⟨z5, rfl, _⟩ := field_int Try.underlying3 t5
  obtain ⟨z6, rfl, _⟩ := field_int Try.underlying3 t6
  obtain ⟨z7, rfl, _⟩ := field_int Try.underlying3 t7
  obtain ⟨z8, rfl, _⟩ := field_int Try.underlying3 t8
  obtain ⟨z9, rfl, _⟩ := field_int Try.underlying3 t9
  exact ⟨z0, z1, z2, z3, z4, z5, z6, z7, z8, z9, rfl⟩
theorem open_state {H : Type} {enc : TypeId × Value → H} {w : World} {base : Nat} {spare : Nat → Bool} {held : Bool} {r : Reach} {b0 : Nat} {v : Value} {d : DataW H} {p : List MemPlace} (hv : Value.okWide Try.prog w r b0 36 v) (h : DataW.Trod enc Try.prog w base spare held 36 v d p) :
    ∃ (rs : List Int) (m k : Int) (M W P : Bool) (c i q g a : Int) (x y z : Value), v = .agg (rs.map (Value.int .u32) ++ [.int .i64 m, .int .i64 k, .bool M, .bool W, .bool P, .int .i64 c, .int .i64 i, .int .i64 q, .int .i64 g, .int .i64 a, x, y, z]).toArray ∧ rs.length = 16 ∧ ∀ z ∈ rs, (Lit.int .u32 z).wf = true := by
  obtain ⟨cs, rfl, hsz⟩ := okWide_struct Try.underlying36 hv
  obtain ⟨fuel, hf⟩ := h
  obtain ⟨xs, n, _, hx, _, hlen, hg⟩ := DataW.trod_struct Try.underlying36 hf
  have hs29 : cs.toList.length = 29 := by rw [Array.length_toList, hsz]; kernel_rfl
  have h0 := hg 0 _ rfl
  have h1 := hg 1 _ rfl
  have hxs : xs.length = 3 := hlen
  obtain ⟨x0, x1, x2, rfl⟩ := list_3 hxs
  have h0' : DataW.trod enc Try.prog w base spare held n 28 (cs.toList.take 16) = some x0 := h0
  have h1' : DataW.trod enc Try.prog w base spare held n 30 ((cs.toList.drop 16).take 10) = some x1 := h1
  obtain ⟨rs, e0, hr, wr⟩ := cells_arr (n := 16) (by kernel_rfl) Try.underlying26 (by kernel_rfl) (by rw [List.length_take, hs29]; decide) h0'
  obtain ⟨m, k, M, W, P, c, i, q, g, a, e1⟩ := cells_psw (by rw [List.length_take, List.length_drop, hs29]; decide) h1'
  obtain ⟨x, y, z, e2⟩ := list_3 (l := cs.toList.drop 26) (by rw [List.length_drop, hs29])
  refine ⟨rs, m, k, M, W, P, c, i, q, g, a, x, y, z, ?_, hr, wr⟩
  congr 1
  apply Array.toList_inj.mp
  have e3 : cs.toList = cs.toList.take 16 ++ ((cs.toList.drop 16).take 10 ++ cs.toList.drop 26) := by
    have e4 : cs.toList.drop 26 = (cs.toList.drop 16).drop 10 := by rw [List.drop_drop]
    rw [e4, List.take_append_drop, List.take_append_drop]
  rw [e3, e0, e1, e2]
  simp
end Go.Proofs.Ythjdjbipfdigeaa
