/- CONTRACT of the reference's within. No conditions. -/
import Derived.Test.YtfbcjpbfggbhfaaIsW2
namespace Go.Proofs.Ytfbcjpbfggbhfaa
open Go.RowKit
set_option linter.unusedVariables false
set_option linter.unusedSimpArgs false
def withB (fm r1 r2 x2 b1 d1 b2 d2 l1 l2 i2 : Int) : Bool := decide (halfB r1 = true ∧ halfB r2 = true ∧ halfB x2 = true ∧ halfB b1 = true ∧ halfB b2 = true ∧ halfB l2 = true ∧ 0 ≤ l1 ∧ l1 ≤ mostOf fm ∧ 0 ≤ d1 ∧ d1 ≤ 4095 ∧ 0 ≤ d2 ∧ d2 ≤ 4095 ∧ 0 ≤ i2 ∧ i2 ≤ 255)
theorem most_or (fm : Int) : (fm = 5 ∧ mostOf fm = 255) ∨ (fm ≠ 5 ∧ mostOf fm = 15) := by
  unfold mostOf; split <;> simp_all
theorem within_c (op fm r1 r2 x2 b1 d1 b2 d2 l1 l2 i2 : Int) (w : World) : Calls Try.prog 35 #[.agg #[.int .i64 op, .int .i64 fm, .int .i64 r1, .int .i64 r2, .int .i64 x2, .int .i64 b1, .int .i64 d1, .int .i64 b2, .int .i64 d2, .int .i64 l1, .int .i64 l2, .int .i64 i2]] w fun e w' => e = .returned (.bool (withB fm r1 r2 x2 b1 d1 b2 d2 l1 l2 i2)) ∧ Below w.heap.size w w' := by
  by_cases h0 : halfB r1 = true
  case neg =>
    rw [show withB fm r1 r2 x2 b1 d1 b2 d2 l1 l2 i2 = false from decide_eq_false (fun h => h0 (by simp only [h]))]
    exact within_0 op fm r1 r2 x2 b1 d1 b2 d2 l1 l2 i2 _ w (most_or fm) (by simpa using h0)
  by_cases h1 : halfB r2 = true
  case neg =>
    rw [show withB fm r1 r2 x2 b1 d1 b2 d2 l1 l2 i2 = false from decide_eq_false (fun h => h1 (by simp only [h]))]
    exact within_1 op fm r1 r2 x2 b1 d1 b2 d2 l1 l2 i2 _ w (most_or fm) h0 (by simpa using h1)
  by_cases h2 : halfB x2 = true
  case neg =>
    rw [show withB fm r1 r2 x2 b1 d1 b2 d2 l1 l2 i2 = false from decide_eq_false (fun h => h2 (by simp only [h]))]
    exact within_2 op fm r1 r2 x2 b1 d1 b2 d2 l1 l2 i2 _ w (most_or fm) h0 h1 (by simpa using h2)
  by_cases h3 : halfB b1 = true
  case neg =>
    rw [show withB fm r1 r2 x2 b1 d1 b2 d2 l1 l2 i2 = false from decide_eq_false (fun h => h3 (by simp only [h]))]
    exact within_3 op fm r1 r2 x2 b1 d1 b2 d2 l1 l2 i2 _ w (most_or fm) h0 h1 h2 (by simpa using h3)
  by_cases h4 : halfB b2 = true
  case neg =>
    rw [show withB fm r1 r2 x2 b1 d1 b2 d2 l1 l2 i2 = false from decide_eq_false (fun h => h4 (by simp only [h]))]
    exact within_4 op fm r1 r2 x2 b1 d1 b2 d2 l1 l2 i2 _ w (most_or fm) h0 h1 h2 h3 (by simpa using h4)
  by_cases h5 : halfB l2 = true
  case neg =>
    rw [show withB fm r1 r2 x2 b1 d1 b2 d2 l1 l2 i2 = false from decide_eq_false (fun h => h5 (by simp only [h]))]
    exact within_5 op fm r1 r2 x2 b1 d1 b2 d2 l1 l2 i2 _ w (most_or fm) h0 h1 h2 h3 h4 (by simpa using h5)
  by_cases h6 : 0 ≤ l1
  case neg =>
    rw [show withB fm r1 r2 x2 b1 d1 b2 d2 l1 l2 i2 = false from decide_eq_false (fun h => h6 (by simp only [h]))]
    exact within_6 op fm r1 r2 x2 b1 d1 b2 d2 l1 l2 i2 _ w (most_or fm) h0 h1 h2 h3 h4 h5 h6
  by_cases h7 : l1 ≤ mostOf fm
  case neg =>
    rw [show withB fm r1 r2 x2 b1 d1 b2 d2 l1 l2 i2 = false from decide_eq_false (fun h => h7 (by simp only [h]))]
    exact within_7 op fm r1 r2 x2 b1 d1 b2 d2 l1 l2 i2 _ w (most_or fm) h0 h1 h2 h3 h4 h5 h6 h7
  by_cases h8 : 0 ≤ d1
  case neg =>
    rw [show withB fm r1 r2 x2 b1 d1 b2 d2 l1 l2 i2 = false from decide_eq_false (fun h => h8 (by simp only [h]))]
    exact within_8 op fm r1 r2 x2 b1 d1 b2 d2 l1 l2 i2 _ w (most_or fm) h0 h1 h2 h3 h4 h5 h6 h7 h8
  by_cases h9 : d1 ≤ 4095
  case neg =>
    rw [show withB fm r1 r2 x2 b1 d1 b2 d2 l1 l2 i2 = false from decide_eq_false (fun h => h9 (by simp only [h]))]
    exact within_9 op fm r1 r2 x2 b1 d1 b2 d2 l1 l2 i2 _ w (most_or fm) h0 h1 h2 h3 h4 h5 h6 h7 h8 h9
  by_cases h10 : 0 ≤ d2
  case neg =>
    rw [show withB fm r1 r2 x2 b1 d1 b2 d2 l1 l2 i2 = false from decide_eq_false (fun h => h10 (by simp only [h]))]
    exact within_10 op fm r1 r2 x2 b1 d1 b2 d2 l1 l2 i2 _ w (most_or fm) h0 h1 h2 h3 h4 h5 h6 h7 h8 h9 h10
  by_cases h11 : d2 ≤ 4095
  case neg =>
    rw [show withB fm r1 r2 x2 b1 d1 b2 d2 l1 l2 i2 = false from decide_eq_false (fun h => h11 (by simp only [h]))]
    exact within_11 op fm r1 r2 x2 b1 d1 b2 d2 l1 l2 i2 _ w (most_or fm) h0 h1 h2 h3 h4 h5 h6 h7 h8 h9 h10 h11
  by_cases h12 : 0 ≤ i2
  case neg =>
    rw [show withB fm r1 r2 x2 b1 d1 b2 d2 l1 l2 i2 = false from decide_eq_false (fun h => h12 (by simp only [h]))]
    exact within_12 op fm r1 r2 x2 b1 d1 b2 d2 l1 l2 i2 _ w (most_or fm) h0 h1 h2 h3 h4 h5 h6 h7 h8 h9 h10 h11 h12
  by_cases h13 : i2 ≤ 255
  case neg =>
    rw [show withB fm r1 r2 x2 b1 d1 b2 d2 l1 l2 i2 = false from decide_eq_false (fun h => h13 (by simp only [h]))]
    exact within_13 op fm r1 r2 x2 b1 d1 b2 d2 l1 l2 i2 _ w (most_or fm) h0 h1 h2 h3 h4 h5 h6 h7 h8 h9 h10 h11 h12 h13
  rw [show withB fm r1 r2 x2 b1 d1 b2 d2 l1 l2 i2 = true from decide_eq_true ⟨h0, h1, h2, h3, h4, h5, h6, h7, h8, h9, h10, h11, h12, h13⟩]
  exact within_14 op fm r1 r2 x2 b1 d1 b2 d2 l1 l2 i2 _ w (most_or fm) h0 h1 h2 h3 h4 h5 h6 h7 h8 h9 h10 h11 h12 h13
end Go.Proofs.Ytfbcjpbfggbhfaa
