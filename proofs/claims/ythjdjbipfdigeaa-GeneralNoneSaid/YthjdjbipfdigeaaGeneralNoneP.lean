/- Rows.GeneralNoneSaid (jobshop/jobshoplaw09.GeneralNone): whatever the input, the law returns true and each argument reads as it did. The frame of the proof; the walk lies in GeneralNoneW. No conditions. -/
import Derived.Test.YthjdjbipfdigeaaFr
import Derived.Test.YthjdjbipfdigeaaGeneralNoneW
import Derived.Test.YthjdjbipfdigeaaFrG
namespace Go.Proofs.Ythjdjbipfdigeaa.generalNone
open Go.ChangeShapes Go.WideShapes Go.ChangeAt Go.RowKit
open Go.ChangeMaps (open_string shut_string)
set_option linter.unusedVariables false

set_option maxRecDepth 100000 in
theorem lifted (os : Os) (started : os.Started) (H : Type) (enc : TypeId × Value → H) :
    ReturnsInHanded {} Try.checked os 4 .any (Rows.generalNoneSpec.pre6 enc Try.prog Try.f4 Rows.generalNoneRow.domain false) (Rows.generalNoneSpec.post enc Try.prog Try.f4 false true false false) := by
  refine returnsInHanded_of_change (C := Try.checked) own started (by kernel_rfl) Try.func4
    (ChangeSpec.witness6 (enc := enc) (C := Try.checked) false ⟨#[], #[.agg #[.int .i64 0, .int .i64 0, .int .i64 0, .int .i64 0, .int .i64 0, .int .i64 0, .int .i64 0, .int .i64 0, .int .i64 0, .int .i64 0, .int .i64 0, .int .i64 0], .agg #[.int .u32 0, .int .u32 0, .int .u32 0, .int .u32 0, .int .u32 0, .int .u32 0, .int .u32 0, .int .u32 0, .int .u32 0, .int .u32 0, .int .u32 0, .int .u32 0, .int .u32 0, .int .u32 0, .int .u32 0, .int .u32 0, .int .i64 0, .int .i64 0, .bool false, .bool false, .bool false, .int .i64 0, .int .i64 0, .int .i64 0, .int .i64 0, .int .i64 0, .int .u8 0, .slice none 0 0, .slice none 0 0]], []⟩ 8 (by kernel_rfl) (by kernel_rfl) (by kernel_rfl) (by kernel_rfl)) ?_
  intro W base args ds gs before hval0 hW hcnd _
  have hval : ∀ (j : Nat) t v, Try.f4.params[j]? = some t → args[j]? = some v → Value.okWide Try.prog W .any base t v := hval0
  have hW' := hW
  obtain ⟨p, q, hA0, hV, rfl, hfz, hnd⟩ := hW
  have hA : DataW.TrodAll enc Try.prog W 0 (fun _ => true) true Try.f4.params.toList args.toList ds p := hA0
  rw [Try.params4] at hA hval
  obtain ⟨v0, vs0, d0, ds0, p0, q0, hargs, rfl, rfl, h0, r0⟩ := trodAll_cons hA
  obtain ⟨v1, vs1, d1, ds1, p1, q1, rfl, rfl, rfl, h1, r1⟩ := trodAll_cons r0
  obtain ⟨rfl, rfl, rfl⟩ := trodAll_nil r1
  obtain rfl : args = #[v0, v1] := by cases args; simp_all
  obtain ⟨rfl, rfl⟩ := trodVars_none hV
  have k0 := h0
  have lt0 : ∀ x ∈ p0, x.block < W.heap.size := by obtain ⟨m, hm⟩ := k0; exact DataW.trod_lt m _ _ _ hm
  obtain ⟨cs0, rfl, sz0, hf0⟩ := open_aggs Try.underlying25 (by kernel_rfl) (by kernel_rfl) (hval 0 25 v0 rfl rfl) h0
  obtain ⟨u0_0, y0_0, n0_0, g0_0, t0_0⟩ := hf0 0 _ rfl
  obtain ⟨a0_0, rfl, w0_0⟩ := field_int Try.underlying3 t0_0
  obtain ⟨u0_1, y0_1, n0_1, g0_1, t0_1⟩ := hf0 1 _ rfl
  obtain ⟨a0_1, rfl, w0_1⟩ := field_int Try.underlying3 t0_1
  obtain ⟨u0_2, y0_2, n0_2, g0_2, t0_2⟩ := hf0 2 _ rfl
  obtain ⟨a0_2, rfl, w0_2⟩ := field_int Try.underlying3 t0_2
  obtain ⟨u0_3, y0_3, n0_3, g0_3, t0_3⟩ := hf0 3 _ rfl
  obtain ⟨a0_3, rfl, w0_3⟩ := field_int Try.underlying3 t0_3
  obtain ⟨u0_4, y0_4, n0_4, g0_4, t0_4⟩ := hf0 4 _ rfl
  obtain ⟨a0_4, rfl, w0_4⟩ := field_int Try.underlying3 t0_4
  obtain ⟨u0_5, y0_5, n0_5, g0_5, t0_5⟩ := hf0 5 _ rfl
  obtain ⟨a0_5, rfl, w0_5⟩ := field_int Try.underlying3 t0_5
  obtain ⟨u0_6, y0_6, n0_6, g0_6, t0_6⟩ := hf0 6 _ rfl
  obtain ⟨a0_6, rfl, w0_6⟩ := field_int Try.underlying3 t0_6
  obtain ⟨u0_7, y0_7, n0_7, g0_7, t0_7⟩ := hf0 7 _ rfl
  obtain ⟨a0_7, rfl, w0_7⟩ := field_int Try.underlying3 t0_7
  obtain ⟨u0_8, y0_8, n0_8, g0_8, t0_8⟩ := hf0 8 _ rfl
  obtain ⟨a0_8, rfl, w0_8⟩ := field_int Try.underlying3 t0_8
  obtain ⟨u0_9, y0_9, n0_9, g0_9, t0_9⟩ := hf0 9 _ rfl
  obtain ⟨a0_9, rfl, w0_9⟩ := field_int Try.underlying3 t0_9
  obtain ⟨u0_10, y0_10, n0_10, g0_10, t0_10⟩ := hf0 10 _ rfl
  obtain ⟨a0_10, rfl, w0_10⟩ := field_int Try.underlying3 t0_10
  obtain ⟨u0_11, y0_11, n0_11, g0_11, t0_11⟩ := hf0 11 _ rfl
  obtain ⟨a0_11, rfl, w0_11⟩ := field_int Try.underlying3 t0_11
  obtain rfl : cs0 = #[.int .i64 a0_0, .int .i64 a0_1, .int .i64 a0_2, .int .i64 a0_3, .int .i64 a0_4, .int .i64 a0_5, .int .i64 a0_6, .int .i64 a0_7, .int .i64 a0_8, .int .i64 a0_9, .int .i64 a0_10, .int .i64 a0_11] := by
    apply Array.ext_getElem?
    intro j
    match j with
    | 0 => exact g0_0
    | 1 => exact g0_1
    | 2 => exact g0_2
    | 3 => exact g0_3
    | 4 => exact g0_4
    | 5 => exact g0_5
    | 6 => exact g0_6
    | 7 => exact g0_7
    | 8 => exact g0_8
    | 9 => exact g0_9
    | 10 => exact g0_10
    | 11 => exact g0_11
    | j + 12 =>
      rw [Array.getElem?_eq_none (by rw [sz0]; exact Nat.le_add_left _ _), Array.getElem?_eq_none (by exact Nat.le_add_left _ _)]
  have k1 := h1
  have lt1 : ∀ x ∈ p1, x.block < W.heap.size := by obtain ⟨m, hm⟩ := k1; exact DataW.trod_lt m _ _ _ hm
  obtain ⟨rs1, m1, kk1, M1, W1, P1, c1, i1, qq1, g1, a1, x1, y1, z1, rfl, hr1, wr1⟩ := open_state (hval 1 36 v1 rfl rfl) h1
  clear hA0 hval0
  refine (generalNone_walk a0_0 a0_1 a0_2 a0_3 a0_4 a0_5 a0_6 a0_7 a0_8 a0_9 a0_10 a0_11 rs1 m1 kk1 M1 W1 P1 c1 i1 qq1 g1 a1 x1 y1 z1 W w0_0 w0_1 w0_2 w0_3 w0_4 w0_5 w0_6 w0_7 w0_8 w0_9 w0_10 w0_11 hr1).mono fun e W' ⟨he, bel⟩ => ?_
  subst he
  exact ⟨_, rfl, _, _, _, [], _, [], hW', trodAll_mk1 (shut_bool Try.underlying4 _), (trodAll_cons_mk (Below.trod laidOut (by kernel_rfl) (of_decide_eq_true (by kernel_rfl)) k0 bel lt0) (trodAll_cons_mk (Below.trod laidOut (by kernel_rfl) (of_decide_eq_true (by kernel_rfl)) k1 bel lt1) trodAll_mk0)), rfl, bel.frame _, fun h => by cases h⟩

theorem over : Rows.generalNoneRow.holds Try.pinned (OpenSpec.ofChange Rows.generalNoneSpec) :=
  OpenClaim.holds_of_wide 4 Try.f4 rfl rfl rfl rfl rfl rfl rfl ⟨rfl, rfl, rfl, rfl, rfl⟩ rfl rfl rfl rfl rfl (by kernel_rfl) Try.func4 (by kernel_rfl)
    (of_decide_eq_true (by kernel_rfl)) (by unfold Func.isWrapper; first | (rw [if_pos (by decide +kernel)]; kernel_rfl) | (rw [if_neg (by decide +kernel)]; exact ⟨rfl, rfl⟩))
    (fun os started H enc _ => lifted os started H enc)

/-- THE STATEMENT -/
theorem proved : Rows.GeneralNoneSaid := over
#print axioms proved
end Go.Proofs.Ythjdjbipfdigeaa.generalNone
