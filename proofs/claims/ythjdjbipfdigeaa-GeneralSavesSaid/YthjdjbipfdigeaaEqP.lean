/- LAW: '==' of two program status words. No conditions. -/
import Derived.Test.YthjdjbipfdigeaaProg
import Derived.WalkKit
import Derived.Laws.StructEq
import Derived.Laws.Tables
namespace Go.Proofs.Ythjdjbipfdigeaa
open Go.RowKit
set_option linter.unusedVariables false
set_option linter.unusedSimpArgs false
def eqpB (m k c i q g a m' k' c' i' q' g' a' : Int) (M W P M' W' P' : Bool) : Bool := m == m' && (k == k' && (M == M' && (W == W' && (P == P' && (c == c' && (i == i' && (q == q' && (g == g' && (a == a')))))))))
set_option maxHeartbeats 1000000 in
theorem eqp_run (m k c i q g a m' k' c' i' q' g' a' : Int) (M W P M' W' P' : Bool) (w : World) : (Op.equalIn 10000 30 (.agg #[.int .i64 m, .int .i64 k, .bool M, .bool W, .bool P, .int .i64 c, .int .i64 i, .int .i64 q, .int .i64 g, .int .i64 a]) (.agg #[.int .i64 m', .int .i64 k', .bool M', .bool W', .bool P', .int .i64 c', .int .i64 i', .int .i64 q', .int .i64 g', .int .i64 a'])).run Try.prog w = .ok (eqpB m k c i q g a m' k' c' i' q' g' a' M W P M' W' P') w := by
  have hS : Try.prog.underlying 30 = some (.struct (Try.prog.fieldsOf 30)) := by kernel_rfl
  have hp : Try.prog.stoodInHeld 30 = false := by kernel_rfl
  rw [show (10000 : Nat) = 9999 + 1 from rfl, run_equalIn_agg w 9999 30 _ _ hS hp]
  simp only [Program.fieldsOf, Try.underlying30]
  go_simp
  unfold eqpB
  by_cases h_m : m = m'
  case neg => simp [h_m]
  subst h_m
  by_cases h_k : k = k'
  case neg => simp [h_k]
  subst h_k
  by_cases h_M : M = M'
  case neg => simp [h_M]
  subst h_M
  by_cases h_W : W = W'
  case neg => simp [h_W]
  subst h_W
  by_cases h_P : P = P'
  case neg => simp [h_P]
  subst h_P
  by_cases h_c : c = c'
  case neg => simp [h_c]
  subst h_c
  by_cases h_i : i = i'
  case neg => simp [h_i]
  subst h_i
  by_cases h_q : q = q'
  case neg => simp [h_q]
  subst h_q
  by_cases h_g : g = g'
  case neg => simp [h_g]
  subst h_g
  by_cases h_a : a = a'
  case neg => simp [h_a]
  subst h_a
  simp
theorem eqp_guard : Try.prog.eqGuardType Try.prog.depth 30 = false := by kernel_rfl
theorem eqpB_iff (m k c i q g a m' k' c' i' q' g' a' : Int) (M W P M' W' P' : Bool) : eqpB m k c i q g a m' k' c' i' q' g' a' M W P M' W' P' = true ↔ m = m' ∧ k = k' ∧ M = M' ∧ W = W' ∧ P = P' ∧ c = c' ∧ i = i' ∧ q = q' ∧ g = g' ∧ a = a' := by
  unfold eqpB; simp only [Bool.and_eq_true, beq_iff_eq]
end Go.Proofs.Ythjdjbipfdigeaa
