/- LAW: '==' of two instructions. No conditions. -/
import Derived.Test.YthjdjbipfdigeaaProg
import Derived.WalkKit
import Derived.Laws.StructEq
import Derived.Laws.Tables
namespace Go.Proofs.Ythjdjbipfdigeaa
open Go.RowKit
set_option linter.unusedVariables false
set_option linter.unusedSimpArgs false
def eqiB (op fm r1 r2 x2 b1 d1 b2 d2 l1 l2 i2 op' fm' r1' r2' x2' b1' d1' b2' d2' l1' l2' i2' : Int) : Bool := op == op' && (fm == fm' && (r1 == r1' && (r2 == r2' && (x2 == x2' && (b1 == b1' && (d1 == d1' && (b2 == b2' && (d2 == d2' && (l1 == l1' && (l2 == l2' && (i2 == i2')))))))))))
set_option maxHeartbeats 1000000 in
theorem eqi_run (op fm r1 r2 x2 b1 d1 b2 d2 l1 l2 i2 op' fm' r1' r2' x2' b1' d1' b2' d2' l1' l2' i2' : Int) (w : World) : (Op.equalIn 10000 25 (.agg #[.int .i64 op, .int .i64 fm, .int .i64 r1, .int .i64 r2, .int .i64 x2, .int .i64 b1, .int .i64 d1, .int .i64 b2, .int .i64 d2, .int .i64 l1, .int .i64 l2, .int .i64 i2]) (.agg #[.int .i64 op', .int .i64 fm', .int .i64 r1', .int .i64 r2', .int .i64 x2', .int .i64 b1', .int .i64 d1', .int .i64 b2', .int .i64 d2', .int .i64 l1', .int .i64 l2', .int .i64 i2'])).run Try.prog w = .ok (eqiB op fm r1 r2 x2 b1 d1 b2 d2 l1 l2 i2 op' fm' r1' r2' x2' b1' d1' b2' d2' l1' l2' i2') w := by
  have hS : Try.prog.underlying 25 = some (.struct (Try.prog.fieldsOf 25)) := by kernel_rfl
  have hp : Try.prog.stoodInHeld 25 = false := by kernel_rfl
  rw [show (10000 : Nat) = 9999 + 1 from rfl, run_equalIn_agg w 9999 25 _ _ hS hp]
  simp only [Program.fieldsOf, Try.underlying25]
  go_simp
  unfold eqiB
  by_cases h_op : op = op'
  case neg => simp [h_op]
  subst h_op
  by_cases h_fm : fm = fm'
  case neg => simp [h_fm]
  subst h_fm
  by_cases h_r1 : r1 = r1'
  case neg => simp [h_r1]
  subst h_r1
  by_cases h_r2 : r2 = r2'
  case neg => simp [h_r2]
  subst h_r2
  by_cases h_x2 : x2 = x2'
  case neg => simp [h_x2]
  subst h_x2
  by_cases h_b1 : b1 = b1'
  case neg => simp [h_b1]
  subst h_b1
  by_cases h_d1 : d1 = d1'
  case neg => simp [h_d1]
  subst h_d1
  by_cases h_b2 : b2 = b2'
  case neg => simp [h_b2]
  subst h_b2
  by_cases h_d2 : d2 = d2'
  case neg => simp [h_d2]
  subst h_d2
  by_cases h_l1 : l1 = l1'
  case neg => simp [h_l1]
  subst h_l1
  by_cases h_l2 : l2 = l2'
  case neg => simp [h_l2]
  subst h_l2
  by_cases h_i2 : i2 = i2'
  case neg => simp [h_i2]
  subst h_i2
  simp
theorem eqi_guard : Try.prog.eqGuardType Try.prog.depth 25 = false := by kernel_rfl
theorem eqiB_iff (op fm r1 r2 x2 b1 d1 b2 d2 l1 l2 i2 op' fm' r1' r2' x2' b1' d1' b2' d2' l1' l2' i2' : Int) : eqiB op fm r1 r2 x2 b1 d1 b2 d2 l1 l2 i2 op' fm' r1' r2' x2' b1' d1' b2' d2' l1' l2' i2' = true ↔ op = op' ∧ fm = fm' ∧ r1 = r1' ∧ r2 = r2' ∧ x2 = x2' ∧ b1 = b1' ∧ d1 = d1' ∧ b2 = b2' ∧ d2 = d2' ∧ l1 = l1' ∧ l2 = l2' ∧ i2 = i2' := by
  unfold eqiB; simp only [Bool.and_eq_true, beq_iff_eq]
end Go.Proofs.Ythjdjbipfdigeaa
