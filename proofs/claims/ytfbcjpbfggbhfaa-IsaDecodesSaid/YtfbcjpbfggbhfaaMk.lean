/- SMALL: a new slice of bytes, all zero. No conditions but its size. -/
import Derived.Test.YtfbcjpbfggbhfaaBo
import Derived.Laws.MakeOwn
namespace Go.Proofs.Ytfbcjpbfggbhfaa
open Go.RowKit
set_option linter.unusedVariables false
def zeroB (k : Nat) : Array Value := (List.replicate k (Value.int .u8 0)).toArray
def zeroI (k : Nat) : Array Value := (List.replicate k (Value.int .i64 0)).toArray
theorem info_int : (Try.prog.info? 3).map (fun i => (i.zero, i.size, i.bytes)) = some (some (.int .i64 0), 1, 8) := by kernel_rfl
theorem made_one (z : Value) (n : Nat) (hz : z.cells = #[z]) : madeCells z.cells n = (List.replicate n z).toArray := by
  rw [hz]
  unfold madeCells
  apply Array.ext
  · simp
  · intro i h1 h2
    simp [Nat.mod_one]
theorem run_mk_b (k : Nat) (hk : (k : Int) ≤ 1000000) (W : World) : (Instr.makeSlice 29 (.int .i64 (k : Int)) (.int .i64 (k : Int))).run Try.prog W = .ok (.slice (some ⟨W.heap.size, 0, none⟩) k k) (W.alloc (.cells (zeroB k) 5)) := by
  obtain ⟨i0, hi, hz0, hz1, hz2⟩ := info_parts info_u8
  have h := run_make (P := Try.prog) W 29 5 i0 (.int .u8 0) Try.underlying29 hi hz0 .i64 .i64 (k : Int) (k : Int) (by omega) (by omega) (by rw [hz2]; omega) (by omega)
  rw [hz1, Nat.mul_one, Int.toNat_natCast, made_one _ _ rfl] at h
  exact h
end Go.Proofs.Ytfbcjpbfggbhfaa
