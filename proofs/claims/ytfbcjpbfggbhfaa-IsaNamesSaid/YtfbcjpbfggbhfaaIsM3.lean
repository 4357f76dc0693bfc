/- CONTRACTS of the reference: Find, Mask. No conditions but the numbers' own. -/
import Derived.Test.YtfbcjpbfggbhfaaIsR1
import Derived.Test.YtfbcjpbfggbhfaaIsM2
namespace Go.Proofs.Ytfbcjpbfggbhfaa
open Go.RowKit
set_option linter.unusedVariables false
set_option linter.unusedSimpArgs false
set_option maxRecDepth 1000000 in
set_option maxHeartbeats 4000000 in
theorem rfind_c (s : ByteArray) (w : World) : Calls Try.prog 25 #[.string s] w fun e w' => e = .returned (.tuple #[.int .i64 (fnOp s), .bool (fnOk s)]) ∧ Below w.heap.size w w' := by
  go_enter Try.func25, Try.ntmps25
  go_wp2_with fail
  refine (rows_c _).mono ?_
  rintro e w1 ⟨rfl, rfl⟩
  have HB := Lib.hid (show Below w.heap.size w (w.alloc (.cells rowsA 48)) from (Below.refl _ _).alloc (Nat.le_refl _) _)
  have HR := Lib.hid (fun j => cell_of_row (w.alloc (.cells rowsA 48)) w.heap.size j rowsA 48 (0, 0) (heap_alloc_new w _))
  obtain ⟨g, hg⟩ : ∃ g, w.heap.size = g := ⟨_, rfl⟩
  rw [hg] at HR
  obtain ⟨W0, hW0⟩ : ∃ W0, w.alloc (.cells rowsA 48) = W0 := ⟨_, rfl⟩
  rw [hW0] at HB HR ⊢
  simp only [hg]
  clear hW0
  go_wp2
  go_loopw [5] (fun x wr => ∃ k : Nat, k ≤ 97 ∧ x = .int .i64 (k : Int) ∧ (∀ j, j < k → strN (nmK j) ≠ s) ∧ wr = W0) (fun x _ => 97 - (intOf x).toNat)
  case atStart => exact ⟨0, by omega, rfl, by intro j hj; omega, rfl⟩
  case round =>
    obtain ⟨k, hk, rfl, hlo, hw⟩ := hrel
    subst hw
    have LO := Lib.hid hlo
    clear hlo
    by_cases hlt : k < 97
    · have hI : (k : Int) < 97 := by omega
      obtain ⟨r0, r1, r2⟩ := rows_get hlt
      rw [Nat.mul_comm 3 k] at r0 r1 r2
      have c0 := (HR.out _).trans r0
      have c1 := (HR.out _).trans r1
      obtain ⟨t, ht⟩ : ∃ t, strN (nmK k) = t := ⟨_, rfl⟩
      rw [ht] at c1
      have HT := Lib.hid ht
      clear ht r0 r1 r2
      by_cases h : t = s
      · subst h
        have hr := Lib.hid (fnOp_at hlt LO.out HT.out)
        go_wp2
        go_returns
        exact ⟨by rw [hr.out.1, hr.out.2]; rfl, HB.out⟩
      · have e1 : (t.toList == s.toList) = false := by rw [str_beq]; simpa using h
        go_wp2
        refine ⟨⟨k + 1, by omega, rfl, ?_, trivial⟩, by simp [intOf]; omega⟩
        intro j hj
        rcases Nat.lt_or_ge j k with h2 | h2
        · exact LO.out j h2
        · rw [show j = k by omega, HT.out]; exact h
    · obtain rfl : k = 97 := by omega
      have hr := Lib.hid (fnOp_none LO.out)
      go_wp2
      go_returns
      exact ⟨by rw [hr.out.1, hr.out.2]; rfl, HB.out⟩
def mnA : Array Value := #[.string ⟨#[78, 79, 80]⟩, .string ⟨#[66, 79]⟩, .string ⟨#[66, 72]⟩, .string ⟨#[66, 80]⟩, .string ⟨#[66, 76]⟩, .string ⟨#[66, 77]⟩, .string ⟨#[66, 78, 69]⟩, .string ⟨#[66, 78, 90]⟩, .string ⟨#[66, 69]⟩, .string ⟨#[66, 90]⟩, .string ⟨#[66, 78, 76]⟩, .string ⟨#[66, 78, 77]⟩, .string ⟨#[66, 78, 72]⟩, .string ⟨#[66, 78, 80]⟩, .string ⟨#[66, 78, 79]⟩, .string ⟨#[66]⟩]
def mvA : Array Value := #[.int .i64 0, .int .i64 1, .int .i64 2, .int .i64 2, .int .i64 4, .int .i64 4, .int .i64 7, .int .i64 7, .int .i64 8, .int .i64 8, .int .i64 11, .int .i64 11, .int .i64 13, .int .i64 13, .int .i64 14, .int .i64 15]
theorem mnA_eq : mnA = ((List.range 16).map fun k => Value.string (strN (mnK k))).toArray := rfl
theorem mvA_eq : mvA = ((List.range 16).map fun k => Value.int .i64 (mvK k)).toArray := rfl
theorem mnA_get {k : Nat} (h : k < 16) : mnA[k]? = some (.string (strN (mnK k))) ∧ mvA[k]? = some (.int .i64 (mvK k)) := by
  rw [mnA_eq, mvA_eq]
  simp only [List.getElem?_toArray, List.getElem?_map, List.getElem?_range h]
  exact ⟨rfl, rfl⟩
def addR (t : ByteArray) : ByteArray := t ++ ⟨#[82]⟩
theorem addR_none : ∀ k, k < 16 → ∀ j, j < 16 → strN (mnK j) ≠ addR (strN (mnK k)) := by decide +kernel
theorem addR_cut : ∀ k, k < 16 → cutR (addR (strN (mnK k))) = strN (mnK k) ∧ isR (addR (strN (mnK k))) = true := by decide +kernel
theorem addR_of {s : ByteArray} (h : isR s = true) : addR (cutR s) = s := by
  unfold isR at h
  simp only [Bool.and_eq_true, decide_eq_true_eq] at h
  obtain ⟨h0, h1⟩ := h
  unfold lastB at h1
  have hn : 0 < s.data.size := by have : (0 : Int) < (s.data.size : Nat) := h0; omega
  apply ByteArray.ext
  unfold addR cutR
  have e : s.data.getD (s.size - 1) 0 = 82 := by
    apply UInt8.toNat_inj.mp
    have : (s.data.getD (s.size - 1) 0).toNat = 82 := by omega
    rw [this]; rfl
  change s.data.getD (s.data.size - 1) 0 = 82 at e
  have hz : (s.data.extract 0 (s.data.size - 1)).size = s.data.size - 1 := by rw [Array.size_extract]; omega
  rw [ByteArray.data_append, ByteArray.data_extract]
  change s.data.extract 0 (s.data.size - 1) ++ #[82] = s.data
  have h82 : ∀ j (hj : j < (#[82] : Array UInt8).size), (#[82] : Array UInt8)[j] = 82 := by
    intro j hj; have : j = 0 := by simpa using hj
    subst this; rfl
  apply Array.ext
  · rw [Array.size_append, hz]; show s.data.size - 1 + 1 = _; omega
  · intro i h1 h2
    rw [Array.getElem_append]
    split
    · rw [Array.getElem_extract]; congr 1; omega
    · rename_i hi
      rw [hz] at hi
      obtain rfl : i = s.data.size - 1 := by omega
      rw [Array.getD_eq_getD_getElem?, Array.getElem?_eq_getElem h2] at e
      rw [h82]; exact e.symm
theorem mnK_size : ∀ k, k < 16 → (strN (mnK k)).size ≤ 3 := by decide +kernel
theorem mask_is_a {k : Nat} (hk : k < 16) : maskV (strN (mnK k)) = mvK k ∧ maskR (strN (mnK k)) = false ∧ maskO (strN (mnK k)) = true := by
  obtain ⟨h1, h2⟩ := mkV_at hk
  unfold maskV maskR maskO
  rw [h2, h1]; simp
theorem mask_is_b {k : Nat} (hk : k < 16) : maskV (addR (strN (mnK k))) = mvK k ∧ maskR (addR (strN (mnK k))) = true ∧ maskO (addR (strN (mnK k))) = true := by
  obtain ⟨h1, h2⟩ := mkV_at hk
  obtain ⟨h3, h4⟩ := mkV_none (addR_none k hk)
  obtain ⟨h5, h6⟩ := addR_cut k hk
  unfold maskV maskR maskO
  rw [h4, h5, h6, h2, h1]; simp
theorem mask_is_n {s : ByteArray} (h : ∀ k, k < 16 → strN (mnK k) ≠ s ∧ addR (strN (mnK k)) ≠ s) : maskV s = 0 ∧ maskR s = false ∧ maskO s = false := by
  obtain ⟨h3, h4⟩ := mkV_none (fun k hk => (h k hk).1)
  unfold maskV maskR maskO
  rw [h4]
  cases hr : isR s
  · simp
  · have h5 : ∀ k, k < 16 → strN (mnK k) ≠ cutR s := fun k hk he => (h k hk).2 (by rw [he]; exact addR_of hr)
    obtain ⟨h6, h7⟩ := mkV_none h5
    rw [h6, h7]; simp
set_option maxRecDepth 1000000 in
set_option maxHeartbeats 4000000 in
theorem rmask_c (s : ByteArray) (w : World) : Calls Try.prog 27 #[.string s] w fun e w' => e = .returned (.tuple #[.int .i64 (maskV s), .bool (maskR s), .bool (maskO s)]) ∧ Below w.heap.size w w' := by
  go_enter Try.func27, Try.ntmps27
  go_upto_region 3 with fail
  have HB := Lib.hid (show Below w.heap.size w ((w.alloc (.cells mnA 9)).alloc (.cells mvA 3)) from ((Below.refl _ _).alloc (Nat.le_refl _) _).alloc (by simp) _)
  have HR := Lib.hid (fun j => cell_of_row ((w.alloc (.cells mnA 9)).alloc (.cells mvA 3)) w.heap.size j mnA 9 (0, 0) ((Below.heap_alloc _ _ _ (by simp)).trans (heap_alloc_new w _)))
  have HV := Lib.hid (fun j => cell_of_row ((w.alloc (.cells mnA 9)).alloc (.cells mvA 3)) (w.heap.size + 1) j mvA 3 (0, 0) (heap_alloc2_new _ _ _))
  unfold mnA mvA at HB HR HV
  obtain ⟨W0, hW0⟩ : ∃ W0, (w.alloc (.cells #[.string ⟨#[78, 79, 80]⟩, .string ⟨#[66, 79]⟩, .string ⟨#[66, 72]⟩, .string ⟨#[66, 80]⟩, .string ⟨#[66, 76]⟩, .string ⟨#[66, 77]⟩, .string ⟨#[66, 78, 69]⟩, .string ⟨#[66, 78, 90]⟩, .string ⟨#[66, 69]⟩, .string ⟨#[66, 90]⟩, .string ⟨#[66, 78, 76]⟩, .string ⟨#[66, 78, 77]⟩, .string ⟨#[66, 78, 72]⟩, .string ⟨#[66, 78, 80]⟩, .string ⟨#[66, 78, 79]⟩, .string ⟨#[66]⟩] 9)).alloc (.cells #[.int .i64 0, .int .i64 1, .int .i64 2, .int .i64 2, .int .i64 4, .int .i64 4, .int .i64 7, .int .i64 7, .int .i64 8, .int .i64 8, .int .i64 11, .int .i64 11, .int .i64 13, .int .i64 13, .int .i64 14, .int .i64 15] 3) = W0 := ⟨_, rfl⟩
  rw [hW0] at HB HR HV ⊢
  clear hW0
  obtain ⟨g, hg⟩ : ∃ g, w.heap.size = g := ⟨_, rfl⟩
  obtain ⟨g1, hg1⟩ : ∃ g1, g + 1 = g1 := ⟨_, rfl⟩
  rw [hg] at HR
  rw [hg, hg1] at HV
  simp only [hg, hg1]
  go_upto_region 4 with fail
  go_loopw [7] (fun x wr => ∃ k : Nat, k ≤ 16 ∧ x = .int .i64 (k : Int) ∧ (∀ j, j < k → strN (mnK j) ≠ s ∧ addR (strN (mnK j)) ≠ s) ∧ wr = W0) (fun x _ => 16 - (intOf x).toNat)
  case atStart => exact ⟨0, by omega, rfl, by intro j hj; omega, rfl⟩
  case round =>
    obtain ⟨k, hk, rfl, hlo, hw⟩ := hrel
    subst hw
    have LO := Lib.hid hlo
    clear hlo
    by_cases hlt : k < 16
    · have hI : (k : Int) < 16 := by omega
      obtain ⟨r0, r1⟩ := mnA_get hlt
      have c0 := (HR.out _).trans r0
      have c1 := (HV.out _).trans r1
      have A1 := mask_is_a hlt
      have A2 := mask_is_b hlt
      have hz := mnK_size k hlt
      obtain ⟨t, ht⟩ : ∃ t, strN (mnK k) = t := ⟨_, rfl⟩
      obtain ⟨v, hv⟩ : ∃ v, mvK k = v := ⟨_, rfl⟩
      rw [ht] at c0 A1 A2 hz
      rw [hv] at c1 A1 A2
      have HT := Lib.hid ht
      have H1 := Lib.hid A1
      have H2 := Lib.hid A2
      clear ht hv r0 r1 A1 A2
      by_cases h : s = t
      · have e1 : (s.toList == t.toList) = true := by rw [str_beq]; simpa using h
        have HH := Lib.hid h
        clear h
        go_wp2
        go_ret3
        have H3 := H1.out
        rw [← HH.out] at H3
        exact ⟨by rw [H3.1, H3.2.1, H3.2.2]; rfl, HB.out⟩
      · have e1 : (s.toList == t.toList) = false := by rw [str_beq]; simpa using h
        by_cases h2 : s = addR t
        · have e2 : (s.toList == (t ++ (⟨#[82]⟩ : ByteArray)).toList) = true := by rw [str_beq]; exact decide_eq_true h2
          have HH := Lib.hid h2
          clear h2 h
          go_wp2
          go_ret3
          have H3 := H2.out
          rw [← HH.out] at H3
          exact ⟨by rw [H3.1, H3.2.1, H3.2.2]; rfl, HB.out⟩
        · have e2 : (s.toList == (t ++ (⟨#[82]⟩ : ByteArray)).toList) = false := by rw [str_beq]; exact decide_eq_false h2
          have HH := Lib.hid h2
          have HG := Lib.hid h
          clear h2 h
          go_wp2
          refine ⟨⟨k + 1, by omega, rfl, ?_, trivial⟩, by simp [intOf]; omega⟩
          intro j hj
          rcases Nat.lt_or_ge j k with h3 | h3
          · exact LO.out j h3
          · rw [show j = k by omega, HT.out]; exact ⟨fun q => HG.out q.symm, fun q => HH.out q.symm⟩
    · obtain rfl : k = 16 := by omega
      have hr := Lib.hid (mask_is_n LO.out)
      go_wp2
      go_ret3
      exact ⟨by rw [hr.out.1, hr.out.2.1, hr.out.2.2]; rfl, HB.out⟩
end Go.Proofs.Ytfbcjpbfggbhfaa
