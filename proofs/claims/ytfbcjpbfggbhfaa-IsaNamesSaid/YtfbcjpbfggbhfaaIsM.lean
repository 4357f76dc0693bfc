/- CONTRACTS of package isa: masks, Mask; of the reference: Find, Mask. No conditions. -/
import Derived.Test.YtfbcjpbfggbhfaaIsR1
namespace Go.Proofs.Ytfbcjpbfggbhfaa
open Go.RowKit
set_option linter.unusedVariables false
set_option linter.unusedSimpArgs false
/-- the extended mnemonics and their masks -/
def mnL : List (List Nat) := [[78, 79, 80], [66, 79], [66, 72], [66, 80], [66, 76], [66, 77], [66, 78, 69], [66, 78, 90], [66, 69], [66, 90], [66, 78, 76], [66, 78, 77], [66, 78, 72], [66, 78, 80], [66, 78, 79], [66]]
def mvL : List Int := [0, 1, 2, 2, 4, 4, 7, 7, 8, 8, 11, 11, 13, 13, 14, 15]
def mnK (k : Nat) : List Nat := mnL.getD k []
def mvK (k : Nat) : Int := mvL.getD k 0
def mix (s : ByteArray) : Nat := mnL.findIdx (fun l => decide (strN l = s))
def mkOk (s : ByteArray) : Bool := decide (mix s < 16)
def mkV (s : ByteArray) : Int := if mix s < 16 then mvK (mix s) else 0
theorem mix_at : ∀ k, k < 16 → mix (strN (mnK k)) = k := by decide +kernel
theorem mnK_get {k : Nat} (h : k < 16) : ∃ h : k < mnL.length, mnK k = mnL[k] := by
  have hl : mnL.length = 16 := by decide
  refine ⟨by omega, ?_⟩
  unfold mnK; rw [List.getD_eq_getElem?_getD, List.getElem?_eq_getElem (by omega)]; rfl
theorem mix_get {s : ByteArray} (h : mix s < 16) : strN (mnK (mix s)) = s := by
  have hl : mnL.length = 16 := by decide
  obtain ⟨h3, e⟩ := mnK_get h
  have h4 := List.findIdx_getElem (p := fun l => decide (strN l = s)) (xs := mnL) (w := h3)
  rw [e]; exact of_decide_eq_true h4
theorem mkV_at {k : Nat} (h : k < 16) : mkV (strN (mnK k)) = mvK k ∧ mkOk (strN (mnK k)) = true := by
  unfold mkV mkOk; rw [mix_at k h, if_pos h]; exact ⟨rfl, by simpa using h⟩
theorem mkV_none {s : ByteArray} (h : ∀ k, k < 16 → strN (mnK k) ≠ s) : mkV s = 0 ∧ mkOk s = false := by
  have : ¬ mix s < 16 := fun h1 => h _ h1 (mix_get h1)
  unfold mkV mkOk; rw [if_neg this]; exact ⟨rfl, by simpa using this⟩
set_option maxRecDepth 1000000 in
set_option maxHeartbeats 4000000 in
theorem masks_none (s : ByteArray) (w : World) (h0 : strN [78, 79, 80] ≠ s) (h1 : strN [66, 79] ≠ s) (h2 : strN [66, 72] ≠ s) (h3 : strN [66, 80] ≠ s) (h4 : strN [66, 76] ≠ s) (h5 : strN [66, 77] ≠ s) (h6 : strN [66, 78, 69] ≠ s) (h7 : strN [66, 78, 90] ≠ s) (h8 : strN [66, 69] ≠ s) (h9 : strN [66, 90] ≠ s) (h10 : strN [66, 78, 76] ≠ s) (h11 : strN [66, 78, 77] ≠ s) (h12 : strN [66, 78, 72] ≠ s) (h13 : strN [66, 78, 80] ≠ s) (h14 : strN [66, 78, 79] ≠ s) (h15 : strN [66] ≠ s) : Calls Try.prog 41 #[.string s] w fun e w' => e = .returned (.tuple #[.int .i64 0, .bool false]) ∧ w = w' := by
  have e0 : (s.toList == ([78, 79, 80] : List UInt8)) = false := by rw [show ([78, 79, 80] : List UInt8) = (⟨#[78, 79, 80]⟩ : ByteArray).toList from by decide +kernel, str_beq, decide_eq_false_iff_not]; exact fun h => h0 h.symm
  have e1 : (s.toList == ([66, 79] : List UInt8)) = false := by rw [show ([66, 79] : List UInt8) = (⟨#[66, 79]⟩ : ByteArray).toList from by decide +kernel, str_beq, decide_eq_false_iff_not]; exact fun h => h1 h.symm
  have e2 : (s.toList == ([66, 72] : List UInt8)) = false := by rw [show ([66, 72] : List UInt8) = (⟨#[66, 72]⟩ : ByteArray).toList from by decide +kernel, str_beq, decide_eq_false_iff_not]; exact fun h => h2 h.symm
  have e3 : (s.toList == ([66, 80] : List UInt8)) = false := by rw [show ([66, 80] : List UInt8) = (⟨#[66, 80]⟩ : ByteArray).toList from by decide +kernel, str_beq, decide_eq_false_iff_not]; exact fun h => h3 h.symm
  have e4 : (s.toList == ([66, 76] : List UInt8)) = false := by rw [show ([66, 76] : List UInt8) = (⟨#[66, 76]⟩ : ByteArray).toList from by decide +kernel, str_beq, decide_eq_false_iff_not]; exact fun h => h4 h.symm
  have e5 : (s.toList == ([66, 77] : List UInt8)) = false := by rw [show ([66, 77] : List UInt8) = (⟨#[66, 77]⟩ : ByteArray).toList from by decide +kernel, str_beq, decide_eq_false_iff_not]; exact fun h => h5 h.symm
  have e6 : (s.toList == ([66, 78, 69] : List UInt8)) = false := by rw [show ([66, 78, 69] : List UInt8) = (⟨#[66, 78, 69]⟩ : ByteArray).toList from by decide +kernel, str_beq, decide_eq_false_iff_not]; exact fun h => h6 h.symm
  have e7 : (s.toList == ([66, 78, 90] : List UInt8)) = false := by rw [show ([66, 78, 90] : List UInt8) = (⟨#[66, 78, 90]⟩ : ByteArray).toList from by decide +kernel, str_beq, decide_eq_false_iff_not]; exact fun h => h7 h.symm
  have e8 : (s.toList == ([66, 69] : List UInt8)) = false := by rw [show ([66, 69] : List UInt8) = (⟨#[66, 69]⟩ : ByteArray).toList from by decide +kernel, str_beq, decide_eq_false_iff_not]; exact fun h => h8 h.symm
  have e9 : (s.toList == ([66, 90] : List UInt8)) = false := by rw [show ([66, 90] : List UInt8) = (⟨#[66, 90]⟩ : ByteArray).toList from by decide +kernel, str_beq, decide_eq_false_iff_not]; exact fun h => h9 h.symm
  have e10 : (s.toList == ([66, 78, 76] : List UInt8)) = false := by rw [show ([66, 78, 76] : List UInt8) = (⟨#[66, 78, 76]⟩ : ByteArray).toList from by decide +kernel, str_beq, decide_eq_false_iff_not]; exact fun h => h10 h.symm
  have e11 : (s.toList == ([66, 78, 77] : List UInt8)) = false := by rw [show ([66, 78, 77] : List UInt8) = (⟨#[66, 78, 77]⟩ : ByteArray).toList from by decide +kernel, str_beq, decide_eq_false_iff_not]; exact fun h => h11 h.symm
  have e12 : (s.toList == ([66, 78, 72] : List UInt8)) = false := by rw [show ([66, 78, 72] : List UInt8) = (⟨#[66, 78, 72]⟩ : ByteArray).toList from by decide +kernel, str_beq, decide_eq_false_iff_not]; exact fun h => h12 h.symm
  have e13 : (s.toList == ([66, 78, 80] : List UInt8)) = false := by rw [show ([66, 78, 80] : List UInt8) = (⟨#[66, 78, 80]⟩ : ByteArray).toList from by decide +kernel, str_beq, decide_eq_false_iff_not]; exact fun h => h13 h.symm
  have e14 : (s.toList == ([66, 78, 79] : List UInt8)) = false := by rw [show ([66, 78, 79] : List UInt8) = (⟨#[66, 78, 79]⟩ : ByteArray).toList from by decide +kernel, str_beq, decide_eq_false_iff_not]; exact fun h => h14 h.symm
  have e15 : (s.toList == ([66] : List UInt8)) = false := by rw [show ([66] : List UInt8) = (⟨#[66]⟩ : ByteArray).toList from by decide +kernel, str_beq, decide_eq_false_iff_not]; exact fun h => h15 h.symm
  clear h0 h1 h2 h3 h4 h5 h6 h7 h8 h9 h10 h11 h12 h13 h14 h15
  go_enter Try.func41, Try.ntmps41
  go_wp2
  go_returns
  exact ⟨rfl, rfl⟩
set_option maxRecDepth 1000000 in
set_option maxHeartbeats 4000000 in
theorem masks_0 (w : World) : Calls Try.prog 41 #[.string ⟨#[78, 79, 80]⟩] w fun e w' => e = .returned (.tuple #[.int .i64 0, .bool true]) ∧ w = w' := by
  have e0 : ((⟨#[78, 79, 80]⟩ : ByteArray).toList == (⟨#[66]⟩ : ByteArray).toList) = false := by decide +kernel
  have ee : ((⟨#[78, 79, 80]⟩ : ByteArray).toList == (⟨#[78, 79, 80]⟩ : ByteArray).toList) = true := by simp
  go_enter Try.func41, Try.ntmps41
  go_wp2
  go_returns
  exact ⟨rfl, rfl⟩
set_option maxRecDepth 1000000 in
set_option maxHeartbeats 4000000 in
theorem masks_1 (w : World) : Calls Try.prog 41 #[.string ⟨#[66, 79]⟩] w fun e w' => e = .returned (.tuple #[.int .i64 1, .bool true]) ∧ w = w' := by
  have e0 : ((⟨#[66, 79]⟩ : ByteArray).toList == (⟨#[66]⟩ : ByteArray).toList) = false := by decide +kernel
  have e1 : ((⟨#[66, 79]⟩ : ByteArray).toList == (⟨#[78, 79, 80]⟩ : ByteArray).toList) = false := by decide +kernel
  have e2 : ((⟨#[66, 79]⟩ : ByteArray).toList == (⟨#[66, 72]⟩ : ByteArray).toList) = false := by decide +kernel
  have e3 : ((⟨#[66, 79]⟩ : ByteArray).toList == (⟨#[66, 80]⟩ : ByteArray).toList) = false := by decide +kernel
  have e4 : ((⟨#[66, 79]⟩ : ByteArray).toList == (⟨#[66, 76]⟩ : ByteArray).toList) = false := by decide +kernel
  have e5 : ((⟨#[66, 79]⟩ : ByteArray).toList == (⟨#[66, 77]⟩ : ByteArray).toList) = false := by decide +kernel
  have e6 : ((⟨#[66, 79]⟩ : ByteArray).toList == (⟨#[66, 69]⟩ : ByteArray).toList) = false := by decide +kernel
  have e7 : ((⟨#[66, 79]⟩ : ByteArray).toList == (⟨#[66, 90]⟩ : ByteArray).toList) = false := by decide +kernel
  have e8 : ((⟨#[66, 79]⟩ : ByteArray).toList == (⟨#[66, 78, 72]⟩ : ByteArray).toList) = false := by decide +kernel
  have e9 : ((⟨#[66, 79]⟩ : ByteArray).toList == (⟨#[66, 78, 80]⟩ : ByteArray).toList) = false := by decide +kernel
  have e10 : ((⟨#[66, 79]⟩ : ByteArray).toList == (⟨#[66, 78, 76]⟩ : ByteArray).toList) = false := by decide +kernel
  have e11 : ((⟨#[66, 79]⟩ : ByteArray).toList == (⟨#[66, 78, 77]⟩ : ByteArray).toList) = false := by decide +kernel
  have e12 : ((⟨#[66, 79]⟩ : ByteArray).toList == (⟨#[66, 78, 69]⟩ : ByteArray).toList) = false := by decide +kernel
  have e13 : ((⟨#[66, 79]⟩ : ByteArray).toList == (⟨#[66, 78, 90]⟩ : ByteArray).toList) = false := by decide +kernel
  have ee : ((⟨#[66, 79]⟩ : ByteArray).toList == (⟨#[66, 79]⟩ : ByteArray).toList) = true := by simp
  go_enter Try.func41, Try.ntmps41
  go_wp2
  go_returns
  exact ⟨rfl, rfl⟩
set_option maxRecDepth 1000000 in
set_option maxHeartbeats 4000000 in
theorem masks_2 (w : World) : Calls Try.prog 41 #[.string ⟨#[66, 72]⟩] w fun e w' => e = .returned (.tuple #[.int .i64 2, .bool true]) ∧ w = w' := by
  have e0 : ((⟨#[66, 72]⟩ : ByteArray).toList == (⟨#[66]⟩ : ByteArray).toList) = false := by decide +kernel
  have e1 : ((⟨#[66, 72]⟩ : ByteArray).toList == (⟨#[78, 79, 80]⟩ : ByteArray).toList) = false := by decide +kernel
  have ee : ((⟨#[66, 72]⟩ : ByteArray).toList == (⟨#[66, 72]⟩ : ByteArray).toList) = true := by simp
  go_enter Try.func41, Try.ntmps41
  go_wp2
  go_returns
  exact ⟨rfl, rfl⟩
set_option maxRecDepth 1000000 in
set_option maxHeartbeats 4000000 in
theorem masks_3 (w : World) : Calls Try.prog 41 #[.string ⟨#[66, 80]⟩] w fun e w' => e = .returned (.tuple #[.int .i64 2, .bool true]) ∧ w = w' := by
  have e0 : ((⟨#[66, 80]⟩ : ByteArray).toList == (⟨#[66]⟩ : ByteArray).toList) = false := by decide +kernel
  have e1 : ((⟨#[66, 80]⟩ : ByteArray).toList == (⟨#[78, 79, 80]⟩ : ByteArray).toList) = false := by decide +kernel
  have e2 : ((⟨#[66, 80]⟩ : ByteArray).toList == (⟨#[66, 72]⟩ : ByteArray).toList) = false := by decide +kernel
  have ee : ((⟨#[66, 80]⟩ : ByteArray).toList == (⟨#[66, 80]⟩ : ByteArray).toList) = true := by simp
  go_enter Try.func41, Try.ntmps41
  go_wp2
  go_returns
  exact ⟨rfl, rfl⟩
set_option maxRecDepth 1000000 in
set_option maxHeartbeats 4000000 in
theorem masks_4 (w : World) : Calls Try.prog 41 #[.string ⟨#[66, 76]⟩] w fun e w' => e = .returned (.tuple #[.int .i64 4, .bool true]) ∧ w = w' := by
  have e0 : ((⟨#[66, 76]⟩ : ByteArray).toList == (⟨#[66]⟩ : ByteArray).toList) = false := by decide +kernel
  have e1 : ((⟨#[66, 76]⟩ : ByteArray).toList == (⟨#[78, 79, 80]⟩ : ByteArray).toList) = false := by decide +kernel
  have e2 : ((⟨#[66, 76]⟩ : ByteArray).toList == (⟨#[66, 72]⟩ : ByteArray).toList) = false := by decide +kernel
  have e3 : ((⟨#[66, 76]⟩ : ByteArray).toList == (⟨#[66, 80]⟩ : ByteArray).toList) = false := by decide +kernel
  have ee : ((⟨#[66, 76]⟩ : ByteArray).toList == (⟨#[66, 76]⟩ : ByteArray).toList) = true := by simp
  go_enter Try.func41, Try.ntmps41
  go_wp2
  go_returns
  exact ⟨rfl, rfl⟩
set_option maxRecDepth 1000000 in
set_option maxHeartbeats 4000000 in
theorem masks_5 (w : World) : Calls Try.prog 41 #[.string ⟨#[66, 77]⟩] w fun e w' => e = .returned (.tuple #[.int .i64 4, .bool true]) ∧ w = w' := by
  have e0 : ((⟨#[66, 77]⟩ : ByteArray).toList == (⟨#[66]⟩ : ByteArray).toList) = false := by decide +kernel
  have e1 : ((⟨#[66, 77]⟩ : ByteArray).toList == (⟨#[78, 79, 80]⟩ : ByteArray).toList) = false := by decide +kernel
  have e2 : ((⟨#[66, 77]⟩ : ByteArray).toList == (⟨#[66, 72]⟩ : ByteArray).toList) = false := by decide +kernel
  have e3 : ((⟨#[66, 77]⟩ : ByteArray).toList == (⟨#[66, 80]⟩ : ByteArray).toList) = false := by decide +kernel
  have e4 : ((⟨#[66, 77]⟩ : ByteArray).toList == (⟨#[66, 76]⟩ : ByteArray).toList) = false := by decide +kernel
  have ee : ((⟨#[66, 77]⟩ : ByteArray).toList == (⟨#[66, 77]⟩ : ByteArray).toList) = true := by simp
  go_enter Try.func41, Try.ntmps41
  go_wp2
  go_returns
  exact ⟨rfl, rfl⟩
set_option maxRecDepth 1000000 in
set_option maxHeartbeats 4000000 in
theorem masks_6 (w : World) : Calls Try.prog 41 #[.string ⟨#[66, 78, 69]⟩] w fun e w' => e = .returned (.tuple #[.int .i64 7, .bool true]) ∧ w = w' := by
  have e0 : ((⟨#[66, 78, 69]⟩ : ByteArray).toList == (⟨#[66]⟩ : ByteArray).toList) = false := by decide +kernel
  have e1 : ((⟨#[66, 78, 69]⟩ : ByteArray).toList == (⟨#[78, 79, 80]⟩ : ByteArray).toList) = false := by decide +kernel
  have e2 : ((⟨#[66, 78, 69]⟩ : ByteArray).toList == (⟨#[66, 72]⟩ : ByteArray).toList) = false := by decide +kernel
  have e3 : ((⟨#[66, 78, 69]⟩ : ByteArray).toList == (⟨#[66, 80]⟩ : ByteArray).toList) = false := by decide +kernel
  have e4 : ((⟨#[66, 78, 69]⟩ : ByteArray).toList == (⟨#[66, 76]⟩ : ByteArray).toList) = false := by decide +kernel
  have e5 : ((⟨#[66, 78, 69]⟩ : ByteArray).toList == (⟨#[66, 77]⟩ : ByteArray).toList) = false := by decide +kernel
  have e6 : ((⟨#[66, 78, 69]⟩ : ByteArray).toList == (⟨#[66, 69]⟩ : ByteArray).toList) = false := by decide +kernel
  have e7 : ((⟨#[66, 78, 69]⟩ : ByteArray).toList == (⟨#[66, 90]⟩ : ByteArray).toList) = false := by decide +kernel
  have e8 : ((⟨#[66, 78, 69]⟩ : ByteArray).toList == (⟨#[66, 78, 72]⟩ : ByteArray).toList) = false := by decide +kernel
  have e9 : ((⟨#[66, 78, 69]⟩ : ByteArray).toList == (⟨#[66, 78, 80]⟩ : ByteArray).toList) = false := by decide +kernel
  have e10 : ((⟨#[66, 78, 69]⟩ : ByteArray).toList == (⟨#[66, 78, 76]⟩ : ByteArray).toList) = false := by decide +kernel
  have e11 : ((⟨#[66, 78, 69]⟩ : ByteArray).toList == (⟨#[66, 78, 77]⟩ : ByteArray).toList) = false := by decide +kernel
  have ee : ((⟨#[66, 78, 69]⟩ : ByteArray).toList == (⟨#[66, 78, 69]⟩ : ByteArray).toList) = true := by simp
  go_enter Try.func41, Try.ntmps41
  go_wp2
  go_returns
  exact ⟨rfl, rfl⟩
set_option maxRecDepth 1000000 in
set_option maxHeartbeats 4000000 in
theorem masks_7 (w : World) : Calls Try.prog 41 #[.string ⟨#[66, 78, 90]⟩] w fun e w' => e = .returned (.tuple #[.int .i64 7, .bool true]) ∧ w = w' := by
  have e0 : ((⟨#[66, 78, 90]⟩ : ByteArray).toList == (⟨#[66]⟩ : ByteArray).toList) = false := by decide +kernel
  have e1 : ((⟨#[66, 78, 90]⟩ : ByteArray).toList == (⟨#[78, 79, 80]⟩ : ByteArray).toList) = false := by decide +kernel
  have e2 : ((⟨#[66, 78, 90]⟩ : ByteArray).toList == (⟨#[66, 72]⟩ : ByteArray).toList) = false := by decide +kernel
  have e3 : ((⟨#[66, 78, 90]⟩ : ByteArray).toList == (⟨#[66, 80]⟩ : ByteArray).toList) = false := by decide +kernel
  have e4 : ((⟨#[66, 78, 90]⟩ : ByteArray).toList == (⟨#[66, 76]⟩ : ByteArray).toList) = false := by decide +kernel
  have e5 : ((⟨#[66, 78, 90]⟩ : ByteArray).toList == (⟨#[66, 77]⟩ : ByteArray).toList) = false := by decide +kernel
  have e6 : ((⟨#[66, 78, 90]⟩ : ByteArray).toList == (⟨#[66, 69]⟩ : ByteArray).toList) = false := by decide +kernel
  have e7 : ((⟨#[66, 78, 90]⟩ : ByteArray).toList == (⟨#[66, 90]⟩ : ByteArray).toList) = false := by decide +kernel
  have e8 : ((⟨#[66, 78, 90]⟩ : ByteArray).toList == (⟨#[66, 78, 72]⟩ : ByteArray).toList) = false := by decide +kernel
  have e9 : ((⟨#[66, 78, 90]⟩ : ByteArray).toList == (⟨#[66, 78, 80]⟩ : ByteArray).toList) = false := by decide +kernel
  have e10 : ((⟨#[66, 78, 90]⟩ : ByteArray).toList == (⟨#[66, 78, 76]⟩ : ByteArray).toList) = false := by decide +kernel
  have e11 : ((⟨#[66, 78, 90]⟩ : ByteArray).toList == (⟨#[66, 78, 77]⟩ : ByteArray).toList) = false := by decide +kernel
  have e12 : ((⟨#[66, 78, 90]⟩ : ByteArray).toList == (⟨#[66, 78, 69]⟩ : ByteArray).toList) = false := by decide +kernel
  have ee : ((⟨#[66, 78, 90]⟩ : ByteArray).toList == (⟨#[66, 78, 90]⟩ : ByteArray).toList) = true := by simp
  go_enter Try.func41, Try.ntmps41
  go_wp2
  go_returns
  exact ⟨rfl, rfl⟩
set_option maxRecDepth 1000000 in
set_option maxHeartbeats 4000000 in
theorem masks_8 (w : World) : Calls Try.prog 41 #[.string ⟨#[66, 69]⟩] w fun e w' => e = .returned (.tuple #[.int .i64 8, .bool true]) ∧ w = w' := by
  have e0 : ((⟨#[66, 69]⟩ : ByteArray).toList == (⟨#[66]⟩ : ByteArray).toList) = false := by decide +kernel
  have e1 : ((⟨#[66, 69]⟩ : ByteArray).toList == (⟨#[78, 79, 80]⟩ : ByteArray).toList) = false := by decide +kernel
  have e2 : ((⟨#[66, 69]⟩ : ByteArray).toList == (⟨#[66, 72]⟩ : ByteArray).toList) = false := by decide +kernel
  have e3 : ((⟨#[66, 69]⟩ : ByteArray).toList == (⟨#[66, 80]⟩ : ByteArray).toList) = false := by decide +kernel
  have e4 : ((⟨#[66, 69]⟩ : ByteArray).toList == (⟨#[66, 76]⟩ : ByteArray).toList) = false := by decide +kernel
  have e5 : ((⟨#[66, 69]⟩ : ByteArray).toList == (⟨#[66, 77]⟩ : ByteArray).toList) = false := by decide +kernel
  have ee : ((⟨#[66, 69]⟩ : ByteArray).toList == (⟨#[66, 69]⟩ : ByteArray).toList) = true := by simp
  go_enter Try.func41, Try.ntmps41
  go_wp2
  go_returns
  exact ⟨rfl, rfl⟩
set_option maxRecDepth 1000000 in
set_option maxHeartbeats 4000000 in
theorem masks_9 (w : World) : Calls Try.prog 41 #[.string ⟨#[66, 90]⟩] w fun e w' => e = .returned (.tuple #[.int .i64 8, .bool true]) ∧ w = w' := by
  have e0 : ((⟨#[66, 90]⟩ : ByteArray).toList == (⟨#[66]⟩ : ByteArray).toList) = false := by decide +kernel
  have e1 : ((⟨#[66, 90]⟩ : ByteArray).toList == (⟨#[78, 79, 80]⟩ : ByteArray).toList) = false := by decide +kernel
  have e2 : ((⟨#[66, 90]⟩ : ByteArray).toList == (⟨#[66, 72]⟩ : ByteArray).toList) = false := by decide +kernel
  have e3 : ((⟨#[66, 90]⟩ : ByteArray).toList == (⟨#[66, 80]⟩ : ByteArray).toList) = false := by decide +kernel
  have e4 : ((⟨#[66, 90]⟩ : ByteArray).toList == (⟨#[66, 76]⟩ : ByteArray).toList) = false := by decide +kernel
  have e5 : ((⟨#[66, 90]⟩ : ByteArray).toList == (⟨#[66, 77]⟩ : ByteArray).toList) = false := by decide +kernel
  have e6 : ((⟨#[66, 90]⟩ : ByteArray).toList == (⟨#[66, 69]⟩ : ByteArray).toList) = false := by decide +kernel
  have ee : ((⟨#[66, 90]⟩ : ByteArray).toList == (⟨#[66, 90]⟩ : ByteArray).toList) = true := by simp
  go_enter Try.func41, Try.ntmps41
  go_wp2
  go_returns
  exact ⟨rfl, rfl⟩
set_option maxRecDepth 1000000 in
set_option maxHeartbeats 4000000 in
theorem masks_10 (w : World) : Calls Try.prog 41 #[.string ⟨#[66, 78, 76]⟩] w fun e w' => e = .returned (.tuple #[.int .i64 11, .bool true]) ∧ w = w' := by
  have e0 : ((⟨#[66, 78, 76]⟩ : ByteArray).toList == (⟨#[66]⟩ : ByteArray).toList) = false := by decide +kernel
  have e1 : ((⟨#[66, 78, 76]⟩ : ByteArray).toList == (⟨#[78, 79, 80]⟩ : ByteArray).toList) = false := by decide +kernel
  have e2 : ((⟨#[66, 78, 76]⟩ : ByteArray).toList == (⟨#[66, 72]⟩ : ByteArray).toList) = false := by decide +kernel
  have e3 : ((⟨#[66, 78, 76]⟩ : ByteArray).toList == (⟨#[66, 80]⟩ : ByteArray).toList) = false := by decide +kernel
  have e4 : ((⟨#[66, 78, 76]⟩ : ByteArray).toList == (⟨#[66, 76]⟩ : ByteArray).toList) = false := by decide +kernel
  have e5 : ((⟨#[66, 78, 76]⟩ : ByteArray).toList == (⟨#[66, 77]⟩ : ByteArray).toList) = false := by decide +kernel
  have e6 : ((⟨#[66, 78, 76]⟩ : ByteArray).toList == (⟨#[66, 69]⟩ : ByteArray).toList) = false := by decide +kernel
  have e7 : ((⟨#[66, 78, 76]⟩ : ByteArray).toList == (⟨#[66, 90]⟩ : ByteArray).toList) = false := by decide +kernel
  have e8 : ((⟨#[66, 78, 76]⟩ : ByteArray).toList == (⟨#[66, 78, 72]⟩ : ByteArray).toList) = false := by decide +kernel
  have e9 : ((⟨#[66, 78, 76]⟩ : ByteArray).toList == (⟨#[66, 78, 80]⟩ : ByteArray).toList) = false := by decide +kernel
  have ee : ((⟨#[66, 78, 76]⟩ : ByteArray).toList == (⟨#[66, 78, 76]⟩ : ByteArray).toList) = true := by simp
  go_enter Try.func41, Try.ntmps41
  go_wp2
  go_returns
  exact ⟨rfl, rfl⟩
set_option maxRecDepth 1000000 in
set_option maxHeartbeats 4000000 in
theorem masks_11 (w : World) : Calls Try.prog 41 #[.string ⟨#[66, 78, 77]⟩] w fun e w' => e = .returned (.tuple #[.int .i64 11, .bool true]) ∧ w = w' := by
  have e0 : ((⟨#[66, 78, 77]⟩ : ByteArray).toList == (⟨#[66]⟩ : ByteArray).toList) = false := by decide +kernel
  have e1 : ((⟨#[66, 78, 77]⟩ : ByteArray).toList == (⟨#[78, 79, 80]⟩ : ByteArray).toList) = false := by decide +kernel
  have e2 : ((⟨#[66, 78, 77]⟩ : ByteArray).toList == (⟨#[66, 72]⟩ : ByteArray).toList) = false := by decide +kernel
  have e3 : ((⟨#[66, 78, 77]⟩ : ByteArray).toList == (⟨#[66, 80]⟩ : ByteArray).toList) = false := by decide +kernel
  have e4 : ((⟨#[66, 78, 77]⟩ : ByteArray).toList == (⟨#[66, 76]⟩ : ByteArray).toList) = false := by decide +kernel
  have e5 : ((⟨#[66, 78, 77]⟩ : ByteArray).toList == (⟨#[66, 77]⟩ : ByteArray).toList) = false := by decide +kernel
  have e6 : ((⟨#[66, 78, 77]⟩ : ByteArray).toList == (⟨#[66, 69]⟩ : ByteArray).toList) = false := by decide +kernel
  have e7 : ((⟨#[66, 78, 77]⟩ : ByteArray).toList == (⟨#[66, 90]⟩ : ByteArray).toList) = false := by decide +kernel
  have e8 : ((⟨#[66, 78, 77]⟩ : ByteArray).toList == (⟨#[66, 78, 72]⟩ : ByteArray).toList) = false := by decide +kernel
  have e9 : ((⟨#[66, 78, 77]⟩ : ByteArray).toList == (⟨#[66, 78, 80]⟩ : ByteArray).toList) = false := by decide +kernel
  have e10 : ((⟨#[66, 78, 77]⟩ : ByteArray).toList == (⟨#[66, 78, 76]⟩ : ByteArray).toList) = false := by decide +kernel
  have ee : ((⟨#[66, 78, 77]⟩ : ByteArray).toList == (⟨#[66, 78, 77]⟩ : ByteArray).toList) = true := by simp
  go_enter Try.func41, Try.ntmps41
  go_wp2
  go_returns
  exact ⟨rfl, rfl⟩
set_option maxRecDepth 1000000 in
set_option maxHeartbeats 4000000 in
theorem masks_12 (w : World) : Calls Try.prog 41 #[.string ⟨#[66, 78, 72]⟩] w fun e w' => e = .returned (.tuple #[.int .i64 13, .bool true]) ∧ w = w' := by
  have e0 : ((⟨#[66, 78, 72]⟩ : ByteArray).toList == (⟨#[66]⟩ : ByteArray).toList) = false := by decide +kernel
  have e1 : ((⟨#[66, 78, 72]⟩ : ByteArray).toList == (⟨#[78, 79, 80]⟩ : ByteArray).toList) = false := by decide +kernel
  have e2 : ((⟨#[66, 78, 72]⟩ : ByteArray).toList == (⟨#[66, 72]⟩ : ByteArray).toList) = false := by decide +kernel
  have e3 : ((⟨#[66, 78, 72]⟩ : ByteArray).toList == (⟨#[66, 80]⟩ : ByteArray).toList) = false := by decide +kernel
  have e4 : ((⟨#[66, 78, 72]⟩ : ByteArray).toList == (⟨#[66, 76]⟩ : ByteArray).toList) = false := by decide +kernel
  have e5 : ((⟨#[66, 78, 72]⟩ : ByteArray).toList == (⟨#[66, 77]⟩ : ByteArray).toList) = false := by decide +kernel
  have e6 : ((⟨#[66, 78, 72]⟩ : ByteArray).toList == (⟨#[66, 69]⟩ : ByteArray).toList) = false := by decide +kernel
  have e7 : ((⟨#[66, 78, 72]⟩ : ByteArray).toList == (⟨#[66, 90]⟩ : ByteArray).toList) = false := by decide +kernel
  have ee : ((⟨#[66, 78, 72]⟩ : ByteArray).toList == (⟨#[66, 78, 72]⟩ : ByteArray).toList) = true := by simp
  go_enter Try.func41, Try.ntmps41
  go_wp2
  go_returns
  exact ⟨rfl, rfl⟩
set_option maxRecDepth 1000000 in
set_option maxHeartbeats 4000000 in
theorem masks_13 (w : World) : Calls Try.prog 41 #[.string ⟨#[66, 78, 80]⟩] w fun e w' => e = .returned (.tuple #[.int .i64 13, .bool true]) ∧ w = w' := by
  have e0 : ((⟨#[66, 78, 80]⟩ : ByteArray).toList == (⟨#[66]⟩ : ByteArray).toList) = false := by decide +kernel
  have e1 : ((⟨#[66, 78, 80]⟩ : ByteArray).toList == (⟨#[78, 79, 80]⟩ : ByteArray).toList) = false := by decide +kernel
  have e2 : ((⟨#[66, 78, 80]⟩ : ByteArray).toList == (⟨#[66, 72]⟩ : ByteArray).toList) = false := by decide +kernel
  have e3 : ((⟨#[66, 78, 80]⟩ : ByteArray).toList == (⟨#[66, 80]⟩ : ByteArray).toList) = false := by decide +kernel
  have e4 : ((⟨#[66, 78, 80]⟩ : ByteArray).toList == (⟨#[66, 76]⟩ : ByteArray).toList) = false := by decide +kernel
  have e5 : ((⟨#[66, 78, 80]⟩ : ByteArray).toList == (⟨#[66, 77]⟩ : ByteArray).toList) = false := by decide +kernel
  have e6 : ((⟨#[66, 78, 80]⟩ : ByteArray).toList == (⟨#[66, 69]⟩ : ByteArray).toList) = false := by decide +kernel
  have e7 : ((⟨#[66, 78, 80]⟩ : ByteArray).toList == (⟨#[66, 90]⟩ : ByteArray).toList) = false := by decide +kernel
  have e8 : ((⟨#[66, 78, 80]⟩ : ByteArray).toList == (⟨#[66, 78, 72]⟩ : ByteArray).toList) = false := by decide +kernel
  have ee : ((⟨#[66, 78, 80]⟩ : ByteArray).toList == (⟨#[66, 78, 80]⟩ : ByteArray).toList) = true := by simp
  go_enter Try.func41, Try.ntmps41
  go_wp2
  go_returns
  exact ⟨rfl, rfl⟩
set_option maxRecDepth 1000000 in
set_option maxHeartbeats 4000000 in
theorem masks_14 (w : World) : Calls Try.prog 41 #[.string ⟨#[66, 78, 79]⟩] w fun e w' => e = .returned (.tuple #[.int .i64 14, .bool true]) ∧ w = w' := by
  have e0 : ((⟨#[66, 78, 79]⟩ : ByteArray).toList == (⟨#[66]⟩ : ByteArray).toList) = false := by decide +kernel
  have e1 : ((⟨#[66, 78, 79]⟩ : ByteArray).toList == (⟨#[78, 79, 80]⟩ : ByteArray).toList) = false := by decide +kernel
  have e2 : ((⟨#[66, 78, 79]⟩ : ByteArray).toList == (⟨#[66, 72]⟩ : ByteArray).toList) = false := by decide +kernel
  have e3 : ((⟨#[66, 78, 79]⟩ : ByteArray).toList == (⟨#[66, 80]⟩ : ByteArray).toList) = false := by decide +kernel
  have e4 : ((⟨#[66, 78, 79]⟩ : ByteArray).toList == (⟨#[66, 76]⟩ : ByteArray).toList) = false := by decide +kernel
  have e5 : ((⟨#[66, 78, 79]⟩ : ByteArray).toList == (⟨#[66, 77]⟩ : ByteArray).toList) = false := by decide +kernel
  have e6 : ((⟨#[66, 78, 79]⟩ : ByteArray).toList == (⟨#[66, 69]⟩ : ByteArray).toList) = false := by decide +kernel
  have e7 : ((⟨#[66, 78, 79]⟩ : ByteArray).toList == (⟨#[66, 90]⟩ : ByteArray).toList) = false := by decide +kernel
  have e8 : ((⟨#[66, 78, 79]⟩ : ByteArray).toList == (⟨#[66, 78, 72]⟩ : ByteArray).toList) = false := by decide +kernel
  have e9 : ((⟨#[66, 78, 79]⟩ : ByteArray).toList == (⟨#[66, 78, 80]⟩ : ByteArray).toList) = false := by decide +kernel
  have e10 : ((⟨#[66, 78, 79]⟩ : ByteArray).toList == (⟨#[66, 78, 76]⟩ : ByteArray).toList) = false := by decide +kernel
  have e11 : ((⟨#[66, 78, 79]⟩ : ByteArray).toList == (⟨#[66, 78, 77]⟩ : ByteArray).toList) = false := by decide +kernel
  have e12 : ((⟨#[66, 78, 79]⟩ : ByteArray).toList == (⟨#[66, 78, 69]⟩ : ByteArray).toList) = false := by decide +kernel
  have e13 : ((⟨#[66, 78, 79]⟩ : ByteArray).toList == (⟨#[66, 78, 90]⟩ : ByteArray).toList) = false := by decide +kernel
  have e14 : ((⟨#[66, 78, 79]⟩ : ByteArray).toList == (⟨#[66, 79]⟩ : ByteArray).toList) = false := by decide +kernel
  have ee : ((⟨#[66, 78, 79]⟩ : ByteArray).toList == (⟨#[66, 78, 79]⟩ : ByteArray).toList) = true := by simp
  go_enter Try.func41, Try.ntmps41
  go_wp2
  go_returns
  exact ⟨rfl, rfl⟩
set_option maxRecDepth 1000000 in
set_option maxHeartbeats 4000000 in
theorem masks_15 (w : World) : Calls Try.prog 41 #[.string ⟨#[66]⟩] w fun e w' => e = .returned (.tuple #[.int .i64 15, .bool true]) ∧ w = w' := by
  have ee : ((⟨#[66]⟩ : ByteArray).toList == (⟨#[66]⟩ : ByteArray).toList) = true := by simp
  go_enter Try.func41, Try.ntmps41
  go_wp2
  go_returns
  exact ⟨rfl, rfl⟩
theorem masks_c (s : ByteArray) (w : World) : Calls Try.prog 41 #[.string s] w fun e w' => e = .returned (.tuple #[.int .i64 (mkV s), .bool (mkOk s)]) ∧ w = w' := by
  by_cases h : mix s < 16
  · have hs := mix_get h
    obtain ⟨h1, h2⟩ := mkV_at h
    rw [hs] at h1 h2
    rw [h1, h2]
    clear h1 h2
    obtain ⟨k, hk⟩ : ∃ k, mix s = k := ⟨_, rfl⟩
    rw [hk] at h hs ⊢
    clear hk
    subst hs
    rcases (show k = 0 ∨ k = 1 ∨ k = 2 ∨ k = 3 ∨ k = 4 ∨ k = 5 ∨ k = 6 ∨ k = 7 ∨ k = 8 ∨ k = 9 ∨ k = 10 ∨ k = 11 ∨ k = 12 ∨ k = 13 ∨ k = 14 ∨ k = 15 by omega) with rfl | rfl | rfl | rfl | rfl | rfl | rfl | rfl | rfl | rfl | rfl | rfl | rfl | rfl | rfl | rfl
    · exact masks_0 w
    · exact masks_1 w
    · exact masks_2 w
    · exact masks_3 w
    · exact masks_4 w
    · exact masks_5 w
    · exact masks_6 w
    · exact masks_7 w
    · exact masks_8 w
    · exact masks_9 w
    · exact masks_10 w
    · exact masks_11 w
    · exact masks_12 w
    · exact masks_13 w
    · exact masks_14 w
    · exact masks_15 w
  · obtain ⟨h1, h2⟩ := mkV_none (s := s) (fun k hk e => h (by rw [← e, mix_at k hk]; exact hk))
    rw [h1, h2]
    have hn : ∀ k, k < 16 → strN (mnK k) ≠ s := fun k hk e => h (by rw [← e, mix_at k hk]; exact hk)
    exact masks_none s w (hn 0 (by omega)) (hn 1 (by omega)) (hn 2 (by omega)) (hn 3 (by omega)) (hn 4 (by omega)) (hn 5 (by omega)) (hn 6 (by omega)) (hn 7 (by omega)) (hn 8 (by omega)) (hn 9 (by omega)) (hn 10 (by omega)) (hn 11 (by omega)) (hn 12 (by omega)) (hn 13 (by omega)) (hn 14 (by omega)) (hn 15 (by omega))
end Go.Proofs.Ytfbcjpbfggbhfaa
