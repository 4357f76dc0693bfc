/- Rows.PswMasksSaid (jobshop/jobshoplaw06.PswMasks): whatever the input, the law returns true and each argument reads as it did. The frame of the proof; the walk lies in PswMasksW. No conditions. -/
import Derived.Test.YtfjnmlklpebfcaaFr
import Derived.Test.YtfjnmlklpebfcaaPswMasksW
namespace Go.Proofs.Ytfjnmlklpebfcaa.pswMasks
open Go.ChangeShapes Go.WideShapes Go.ChangeAt Go.RowKit
open Go.ChangeMaps (open_string shut_string)
set_option linter.unusedVariables false

set_option maxRecDepth 100000 in
theorem lifted (os : Os) (started : os.Started) (H : Type) (enc : TypeId × Value → H) :
    ReturnsInHanded {} Try.checked os 9 .any (Rows.pswMasksSpec.pre6 enc Try.prog Try.f9 Rows.pswMasksRow.domain false) (Rows.pswMasksSpec.post enc Try.prog Try.f9 false true false false) := by
  refine returnsInHanded_of_change (C := Try.checked) own started (by kernel_rfl) Try.func9
    (ChangeSpec.witness6 (enc := enc) (C := Try.checked) false ⟨#[], #[.agg #[.int .i64 0, .int .i64 0, .bool false, .bool false, .bool false, .int .i64 0, .int .i64 0, .int .i64 0, .int .i64 0, .int .i64 0], .int .i64 0, .agg #[.int .i64 0, .int .i64 0, .int .i64 0]], []⟩ 8 (by kernel_rfl) (by kernel_rfl) (by kernel_rfl) (by kernel_rfl)) ?_
  intro W base args ds gs before hval0 hW hcnd _
  have hval : ∀ (j : Nat) t v, Try.f9.params[j]? = some t → args[j]? = some v → Value.okWide Try.prog W .any base t v := hval0
  have hW' := hW
  obtain ⟨p, q, hA0, hV, rfl, hfz, hnd⟩ := hW
  have hA : DataW.TrodAll enc Try.prog W 0 (fun _ => true) true Try.f9.params.toList args.toList ds p := hA0
  rw [Try.params9] at hA hval
  obtain ⟨v0, vs0, d0, ds0, p0, q0, hargs, rfl, rfl, h0, r0⟩ := trodAll_cons hA
  obtain ⟨v1, vs1, d1, ds1, p1, q1, rfl, rfl, rfl, h1, r1⟩ := trodAll_cons r0
  obtain ⟨v2, vs2, d2, ds2, p2, q2, rfl, rfl, rfl, h2, r2⟩ := trodAll_cons r1
  obtain ⟨rfl, rfl, rfl⟩ := trodAll_nil r2
  obtain rfl : args = #[v0, v1, v2] := by cases args; simp_all
  obtain ⟨rfl, rfl⟩ := trodVars_none hV
  have k0 := h0
  have lt0 : ∀ x ∈ p0, x.block < W.heap.size := by obtain ⟨m, hm⟩ := k0; exact DataW.trod_lt m _ _ _ hm
  obtain ⟨cs0, rfl, sz0, hf0⟩ := open_aggs Try.underlying23 (by kernel_rfl) (by kernel_rfl) (hval 0 23 v0 rfl rfl) h0
  obtain ⟨u0_0, y0_0, n0_0, g0_0, t0_0⟩ := hf0 0 _ rfl
  obtain ⟨a0_0, rfl, w0_0⟩ := field_int Try.underlying3 t0_0
  obtain ⟨u0_1, y0_1, n0_1, g0_1, t0_1⟩ := hf0 1 _ rfl
  obtain ⟨a0_1, rfl, w0_1⟩ := field_int Try.underlying3 t0_1
  obtain ⟨u0_2, y0_2, n0_2, g0_2, t0_2⟩ := hf0 2 _ rfl
  obtain ⟨a0_2, rfl⟩ := field_bool Try.underlying4 t0_2
  obtain ⟨u0_3, y0_3, n0_3, g0_3, t0_3⟩ := hf0 3 _ rfl
  obtain ⟨a0_3, rfl⟩ := field_bool Try.underlying4 t0_3
  obtain ⟨u0_4, y0_4, n0_4, g0_4, t0_4⟩ := hf0 4 _ rfl
  obtain ⟨a0_4, rfl⟩ := field_bool Try.underlying4 t0_4
  obtain ⟨u0_5, y0_5, n0_5, g0_5, t0_5⟩ := hf0 5 _ rfl
  obtain ⟨a0_5, rfl, w0_5⟩ := field_int Try.underlying3 t0_5
  obtain ⟨u0_6, y0_6, n0_6, g0_6, t0_6⟩ := hf0 6 _ rfl
  obtain ⟨a0_6, rfl, w0_6⟩ := field_int Try.underlying3 t0_6
  obtain ⟨u0_7, y0_7, n0_7, g0_7, t0_7⟩ := hf0 7 _ rfl
  obtain ⟨a0_7, rfl, w0_7⟩ := field_int Try.underlying3 t0_7
  obtain ⟨u0_8, y0_8, n0_8, g0_8, t0_8⟩ := hf0 8 _ rfl
  obtain ⟨a0_8, rfl, w0_8⟩ := field_int Try.underlying3 t0_8
  obtain ⟨u0_9, y0_9, n0_9, g0_9, t0_9⟩ := hf0 9 _ rfl
  obtain ⟨a0_9, rfl, w0_9⟩ := field_int Try.underlying3 t0_9
  obtain rfl : cs0 = #[.int .i64 a0_0, .int .i64 a0_1, .bool a0_2, .bool a0_3, .bool a0_4, .int .i64 a0_5, .int .i64 a0_6, .int .i64 a0_7, .int .i64 a0_8, .int .i64 a0_9] := by
    apply Array.ext_getElem?
    intro j
    match j with
    | 0 => exact g0_0
    | 1 => exact g0_1
    | 2 => exact g0_2
    | 3 => exact g0_3
    | 4 => exact g0_4
    | 5 => exact g0_5
    | 6 => exact g0_6
    | 7 => exact g0_7
    | 8 => exact g0_8
    | 9 => exact g0_9
    | j + 10 =>
      rw [Array.getElem?_eq_none (by rw [sz0]; exact Nat.le_add_left _ _), Array.getElem?_eq_none (by exact Nat.le_add_left _ _)]
  obtain ⟨a1, rfl, rfl, rfl, w1⟩ := open_int Try.underlying3 (hval 1 3 v1 rfl rfl) h1
  have k2 := h2
  have lt2 : ∀ x ∈ p2, x.block < W.heap.size := by obtain ⟨m, hm⟩ := k2; exact DataW.trod_lt m _ _ _ hm
  obtain ⟨cs2, rfl, sz2, hf2⟩ := open_aggs Try.underlying35 (by kernel_rfl) (by kernel_rfl) (hval 2 35 v2 rfl rfl) h2
  obtain ⟨u2_0, y2_0, n2_0, g2_0, t2_0⟩ := hf2 0 _ rfl
  obtain ⟨a2_0, rfl, w2_0⟩ := field_int Try.underlying3 t2_0
  obtain ⟨u2_1, y2_1, n2_1, g2_1, t2_1⟩ := hf2 1 _ rfl
  obtain ⟨a2_1, rfl, w2_1⟩ := field_int Try.underlying3 t2_1
  obtain ⟨u2_2, y2_2, n2_2, g2_2, t2_2⟩ := hf2 2 _ rfl
  obtain ⟨a2_2, rfl, w2_2⟩ := field_int Try.underlying3 t2_2
  obtain rfl : cs2 = #[.int .i64 a2_0, .int .i64 a2_1, .int .i64 a2_2] := by
    apply Array.ext_getElem?
    intro j
    match j with
    | 0 => exact g2_0
    | 1 => exact g2_1
    | 2 => exact g2_2
    | j + 3 =>
      rw [Array.getElem?_eq_none (by rw [sz2]; exact Nat.le_add_left _ _), Array.getElem?_eq_none (by exact Nat.le_add_left _ _)]
  clear hA0 hval0
  refine (pswMasks_walk a0_0 a0_1 a0_2 a0_3 a0_4 a0_5 a0_6 a0_7 a0_8 a0_9 a1 a2_0 a2_1 a2_2 W w0_0 w0_1 w0_5 w0_6 w0_7 w0_8 w0_9 w1 w2_0 w2_1 w2_2).mono fun e W' ⟨he, bel⟩ => ?_
  subst he
  exact ⟨_, rfl, _, _, _, [], _, [], hW', trodAll_mk1 (shut_bool Try.underlying4 _), (trodAll_cons_mk (Below.trod laidOut (by kernel_rfl) (of_decide_eq_true (by kernel_rfl)) k0 bel lt0) (trodAll_cons_mk (shut_int Try.underlying3 w1) (trodAll_cons_mk (Below.trod laidOut (by kernel_rfl) (of_decide_eq_true (by kernel_rfl)) k2 bel lt2) trodAll_mk0))), rfl, bel.frame _, fun h => by cases h⟩

theorem over : Rows.pswMasksRow.holds Try.pinned (OpenSpec.ofChange Rows.pswMasksSpec) :=
  OpenClaim.holds_of_wide 9 Try.f9 rfl rfl rfl rfl rfl rfl rfl ⟨rfl, rfl, rfl, rfl, rfl⟩ rfl rfl rfl rfl rfl (by kernel_rfl) Try.func9 (by kernel_rfl)
    (of_decide_eq_true (by kernel_rfl)) (by unfold Func.isWrapper; first | (rw [if_pos (by decide +kernel)]; kernel_rfl) | (rw [if_neg (by decide +kernel)]; exact ⟨rfl, rfl⟩))
    (fun os started H enc _ => lifted os started H enc)

/-- THE STATEMENT -/
theorem proved : Rows.PswMasksSaid := over
#print axioms proved
end Go.Proofs.Ytfjnmlklpebfcaa.pswMasks
