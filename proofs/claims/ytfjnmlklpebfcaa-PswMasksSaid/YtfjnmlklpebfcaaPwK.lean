/- CONTRACTS of Advance in the form that the laws take. No conditions. -/
import Derived.Test.YtfjnmlklpebfcaaPwJ
namespace Go.Proofs.Ytfjnmlklpebfcaa
open Go.RowKit
set_option linter.unusedVariables false
/-- the address and the length code behind Advance -/
def pnA (b : Bool) (a n : Int) : Int := if padv b n = true then (a + n) % 16777216 else a
def pnI (b : Bool) (i n : Int) : Int := if padv b n = true then n / 2 else i
theorem advance_d (m k : Int) (M W P : Bool) (c i q g a : Int) (n : Int) (w : World) : Calls Try.prog 24 #[.agg #[.int .i64 m, .int .i64 k, .bool M, .bool W, .bool P, .int .i64 c, .int .i64 i, .int .i64 q, .int .i64 g, .int .i64 a], .int .i64 n] w fun e w' => e = .returned (.agg #[.int .i64 m, .int .i64 k, .bool M, .bool W, .bool P, .int .i64 c, .int .i64 (pnI (pok m k c i q g a) i n), .int .i64 q, .int .i64 g, .int .i64 (pnA (pok m k c i q g a) a n)]) ∧ Below w.heap.size w w' := advance_c m k M W P c i q g a n w
theorem radvance_d (m k : Int) (M W P : Bool) (c i q g a : Int) (n : Int) (w : World) : Calls Try.prog 25 #[.agg #[.int .i64 m, .int .i64 k, .bool M, .bool W, .bool P, .int .i64 c, .int .i64 i, .int .i64 q, .int .i64 g, .int .i64 a], .int .i64 n] w fun e w' => e = .returned (.agg #[.int .i64 m, .int .i64 k, .bool M, .bool W, .bool P, .int .i64 c, .int .i64 (pnI (pok m k c i q g a) i n), .int .i64 q, .int .i64 g, .int .i64 (pnA (pok m k c i q g a) a n)]) ∧ Below w.heap.size w w' := radvance_c m k M W P c i q g a n w
theorem eqp_refl (m k c i q g a : Int) (M W P : Bool) : eqpB m k c i q g a m k c i q g a M W P M W P = true := by simp [eqpB]
theorem decode_x (A : Option Addr) (len cap : Nat) (zs : List Int) (w : World) (hb : Byt w A len zs) (hl : (len : Int) ≤ 9223372036854775807) (hp : pdok len zs = true) (x0 x1 x2 x3 x4 x5 x6 x7 : Int)
    (h : x0 = zs.getD 0 0 ∧ x1 = zs.getD 1 0 ∧ x2 = zs.getD 2 0 ∧ x3 = zs.getD 3 0 ∧ x4 = zs.getD 4 0 ∧ x5 = zs.getD 5 0 ∧ x6 = zs.getD 6 0 ∧ x7 = zs.getD 7 0) :
    Calls Try.prog 18 #[.slice A len cap] w fun e w' => e = .returned (.tuple #[.agg #[.int .i64 (x0), .int .i64 (x1 / 16), .bool (decide (x1 / 4 % 2 = 1)), .bool (decide (x1 / 2 % 2 = 1)), .bool (decide (x1 % 2 = 1)), .int .i64 (256 * x2 + x3), .int .i64 (x4 / 64), .int .i64 (x4 / 16 % 4), .int .i64 (x4 % 16), .int .i64 (65536 * x5 + 256 * x6 + x7)], .bool true]) ∧ Below w.heap.size w w' := by
  obtain ⟨rfl, rfl, rfl, rfl, rfl, rfl, rfl, rfl⟩ := h
  exact decode_c_yes A len cap zs w hb hl hp
theorem rdecode_x (A : Option Addr) (len cap : Nat) (zs : List Int) (w : World) (hb : Byt w A len zs) (hl : (len : Int) ≤ 9223372036854775807) (hp : pdok len zs = true) (x0 x1 x2 x3 x4 x5 x6 x7 : Int)
    (h : x0 = zs.getD 0 0 ∧ x1 = zs.getD 1 0 ∧ x2 = zs.getD 2 0 ∧ x3 = zs.getD 3 0 ∧ x4 = zs.getD 4 0 ∧ x5 = zs.getD 5 0 ∧ x6 = zs.getD 6 0 ∧ x7 = zs.getD 7 0) :
    Calls Try.prog 19 #[.slice A len cap] w fun e w' => e = .returned (.tuple #[.agg #[.int .i64 (x0), .int .i64 (x1 / 16), .bool (decide (x1 / 4 % 2 = 1)), .bool (decide (x1 / 2 % 2 = 1)), .bool (decide (x1 % 2 = 1)), .int .i64 (256 * x2 + x3), .int .i64 (x4 / 64), .int .i64 (x4 / 16 % 4), .int .i64 (x4 % 16), .int .i64 (65536 * x5 + 256 * x6 + x7)], .bool true]) ∧ Below w.heap.size w w' := by
  obtain ⟨rfl, rfl, rfl, rfl, rfl, rfl, rfl, rfl⟩ := h
  exact rdecode_c_yes A len cap zs w hb hl hp
end Go.Proofs.Ytfjnmlklpebfcaa
