/- CONTRACT of the reference's table of rows. No conditions. -/
import Derived.Test.YtfbcjpbfggbhfaaIs0
import Derived.Test.YtfbcjpbfggbhfaaWdF
import Derived.BigFrame
import Derived.WalkKit
import Derived.Below
namespace Go.Proofs.Ytfbcjpbfggbhfaa
open Go.RowKit
set_option linter.unusedVariables false
set_option linter.unusedSimpArgs false
/-- the rows, three cells each -/
def rowsA : Array Value := ((List.range 97).flatMap fun k => [.int .i64 (opK k), .string (strN (nmK k)), .int .i64 (fmK k)]).toArray
theorem wpList_stepR {P : Program} {ops : Array Oper} {rest : List Oper} {o : Oper} {a : Act} {w w' : World} {v : Value} {Q : Exit → Act → World → Prop} (hg : o.guard = none) (h : (execOp a.eval o).run P w = .ok (.value v) w') (hn : wpList P ops Q rest (a.put o.dst v) w') : wpList P ops Q (o :: rest) a w := by
  refine wpList_plain hg fun K hK => ?_
  unfold Oper.wp
  rw [h]
  exact hK _ _ hn
set_option maxRecDepth 1000000 in
set_option maxHeartbeats 4000000 in
theorem rows_c (w : World) : Calls Try.prog 40 #[] w fun e w' => e = .returned (.slice (some ⟨w.heap.size, 0, none⟩) 97 97) ∧ w' = w.alloc (.cells rowsA 48) := by
  refine calls_of_wp Try.func40 rfl ?_
  refine wp_seq ?_
  refine wp_region_list ?_
  refine wpList_stepR rfl rfl ?_
  refine wpList_nil ?_
  refine wp_seq ?_
  refine wp_region_list ?_
  simp only [List.append_eq, List.cons_append, List.nil_append]
  refine wpList_stepR (v := .agg #[.int .i64 4, .string ⟨#[83, 80, 77]⟩, .int .i64 8]) (w' := w) rfl (by kernel_rfl) ?_
  refine wpList_stepR (v := .agg #[.int .i64 5, .string ⟨#[66, 65, 76, 82]⟩, .int .i64 1]) (w' := w) rfl (by kernel_rfl) ?_
  refine wpList_stepR (v := .agg #[.int .i64 6, .string ⟨#[66, 67, 84, 82]⟩, .int .i64 1]) (w' := w) rfl (by kernel_rfl) ?_
  refine wpList_stepR (v := .agg #[.int .i64 7, .string ⟨#[66, 67, 82]⟩, .int .i64 1]) (w' := w) rfl (by kernel_rfl) ?_
  refine wpList_stepR (v := .agg #[.int .i64 8, .string ⟨#[83, 83, 75]⟩, .int .i64 1]) (w' := w) rfl (by kernel_rfl) ?_
  refine wpList_stepR (v := .agg #[.int .i64 9, .string ⟨#[73, 83, 75]⟩, .int .i64 1]) (w' := w) rfl (by kernel_rfl) ?_
  refine wpList_stepR (v := .agg #[.int .i64 10, .string ⟨#[83, 86, 67]⟩, .int .i64 7]) (w' := w) rfl (by kernel_rfl) ?_
  refine wpList_stepR (v := .agg #[.int .i64 16, .string ⟨#[76, 80, 82]⟩, .int .i64 1]) (w' := w) rfl (by kernel_rfl) ?_
  refine wpList_stepR (v := .agg #[.int .i64 17, .string ⟨#[76, 78, 82]⟩, .int .i64 1]) (w' := w) rfl (by kernel_rfl) ?_
  refine wpList_stepR (v := .agg #[.int .i64 18, .string ⟨#[76, 84, 82]⟩, .int .i64 1]) (w' := w) rfl (by kernel_rfl) ?_
  refine wpList_stepR (v := .agg #[.int .i64 19, .string ⟨#[76, 67, 82]⟩, .int .i64 1]) (w' := w) rfl (by kernel_rfl) ?_
  refine wpList_stepR (v := .agg #[.int .i64 20, .string ⟨#[78, 82]⟩, .int .i64 1]) (w' := w) rfl (by kernel_rfl) ?_
  refine wpList_stepR (v := .agg #[.int .i64 21, .string ⟨#[67, 76, 82]⟩, .int .i64 1]) (w' := w) rfl (by kernel_rfl) ?_
  refine wpList_stepR (v := .agg #[.int .i64 22, .string ⟨#[79, 82]⟩, .int .i64 1]) (w' := w) rfl (by kernel_rfl) ?_
  refine wpList_stepR (v := .agg #[.int .i64 23, .string ⟨#[88, 82]⟩, .int .i64 1]) (w' := w) rfl (by kernel_rfl) ?_
  refine wpList_stepR (v := .agg #[.int .i64 24, .string ⟨#[76, 82]⟩, .int .i64 1]) (w' := w) rfl (by kernel_rfl) ?_
  refine wpList_stepR (v := .agg #[.int .i64 25, .string ⟨#[67, 82]⟩, .int .i64 1]) (w' := w) rfl (by kernel_rfl) ?_
  refine wpList_stepR (v := .agg #[.int .i64 26, .string ⟨#[65, 82]⟩, .int .i64 1]) (w' := w) rfl (by kernel_rfl) ?_
  refine wpList_stepR (v := .agg #[.int .i64 27, .string ⟨#[83, 82]⟩, .int .i64 1]) (w' := w) rfl (by kernel_rfl) ?_
  refine wpList_stepR (v := .agg #[.int .i64 28, .string ⟨#[77, 82]⟩, .int .i64 1]) (w' := w) rfl (by kernel_rfl) ?_
  refine wpList_stepR (v := .agg #[.int .i64 29, .string ⟨#[68, 82]⟩, .int .i64 1]) (w' := w) rfl (by kernel_rfl) ?_
  refine wpList_stepR (v := .agg #[.int .i64 30, .string ⟨#[65, 76, 82]⟩, .int .i64 1]) (w' := w) rfl (by kernel_rfl) ?_
  refine wpList_stepR (v := .agg #[.int .i64 31, .string ⟨#[83, 76, 82]⟩, .int .i64 1]) (w' := w) rfl (by kernel_rfl) ?_
  refine wpList_stepR (v := .agg #[.int .i64 64, .string ⟨#[83, 84, 72]⟩, .int .i64 2]) (w' := w) rfl (by kernel_rfl) ?_
  refine wpList_stepR (v := .agg #[.int .i64 65, .string ⟨#[76, 65]⟩, .int .i64 2]) (w' := w) rfl (by kernel_rfl) ?_
  refine wpList_stepR (v := .agg #[.int .i64 66, .string ⟨#[83, 84, 67]⟩, .int .i64 2]) (w' := w) rfl (by kernel_rfl) ?_
  refine wpList_stepR (v := .agg #[.int .i64 67, .string ⟨#[73, 67]⟩, .int .i64 2]) (w' := w) rfl (by kernel_rfl) ?_
  refine wpList_stepR (v := .agg #[.int .i64 68, .string ⟨#[69, 88]⟩, .int .i64 2]) (w' := w) rfl (by kernel_rfl) ?_
  refine wpList_stepR (v := .agg #[.int .i64 69, .string ⟨#[66, 65, 76]⟩, .int .i64 2]) (w' := w) rfl (by kernel_rfl) ?_
  refine wpList_stepR (v := .agg #[.int .i64 70, .string ⟨#[66, 67, 84]⟩, .int .i64 2]) (w' := w) rfl (by kernel_rfl) ?_
  refine wpList_stepR (v := .agg #[.int .i64 71, .string ⟨#[66, 67]⟩, .int .i64 2]) (w' := w) rfl (by kernel_rfl) ?_
  refine wpList_stepR (v := .agg #[.int .i64 72, .string ⟨#[76, 72]⟩, .int .i64 2]) (w' := w) rfl (by kernel_rfl) ?_
  refine wpList_stepR (v := .agg #[.int .i64 73, .string ⟨#[67, 72]⟩, .int .i64 2]) (w' := w) rfl (by kernel_rfl) ?_
  refine wpList_stepR (v := .agg #[.int .i64 74, .string ⟨#[65, 72]⟩, .int .i64 2]) (w' := w) rfl (by kernel_rfl) ?_
  refine wpList_stepR (v := .agg #[.int .i64 75, .string ⟨#[83, 72]⟩, .int .i64 2]) (w' := w) rfl (by kernel_rfl) ?_
  refine wpList_stepR (v := .agg #[.int .i64 76, .string ⟨#[77, 72]⟩, .int .i64 2]) (w' := w) rfl (by kernel_rfl) ?_
  refine wpList_stepR (v := .agg #[.int .i64 78, .string ⟨#[67, 86, 68]⟩, .int .i64 2]) (w' := w) rfl (by kernel_rfl) ?_
  refine wpList_stepR (v := .agg #[.int .i64 79, .string ⟨#[67, 86, 66]⟩, .int .i64 2]) (w' := w) rfl (by kernel_rfl) ?_
  refine wpList_stepR (v := .agg #[.int .i64 80, .string ⟨#[83, 84]⟩, .int .i64 2]) (w' := w) rfl (by kernel_rfl) ?_
  refine wpList_stepR (v := .agg #[.int .i64 84, .string ⟨#[78]⟩, .int .i64 2]) (w' := w) rfl (by kernel_rfl) ?_
  refine wpList_stepR (v := .agg #[.int .i64 85, .string ⟨#[67, 76]⟩, .int .i64 2]) (w' := w) rfl (by kernel_rfl) ?_
  refine wpList_stepR (v := .agg #[.int .i64 86, .string ⟨#[79]⟩, .int .i64 2]) (w' := w) rfl (by kernel_rfl) ?_
  refine wpList_stepR (v := .agg #[.int .i64 87, .string ⟨#[88]⟩, .int .i64 2]) (w' := w) rfl (by kernel_rfl) ?_
  refine wpList_stepR (v := .agg #[.int .i64 88, .string ⟨#[76]⟩, .int .i64 2]) (w' := w) rfl (by kernel_rfl) ?_
  refine wpList_stepR (v := .agg #[.int .i64 89, .string ⟨#[67]⟩, .int .i64 2]) (w' := w) rfl (by kernel_rfl) ?_
  refine wpList_stepR (v := .agg #[.int .i64 90, .string ⟨#[65]⟩, .int .i64 2]) (w' := w) rfl (by kernel_rfl) ?_
  refine wpList_stepR (v := .agg #[.int .i64 91, .string ⟨#[83]⟩, .int .i64 2]) (w' := w) rfl (by kernel_rfl) ?_
  refine wpList_stepR (v := .agg #[.int .i64 92, .string ⟨#[77]⟩, .int .i64 2]) (w' := w) rfl (by kernel_rfl) ?_
  refine wpList_stepR (v := .agg #[.int .i64 93, .string ⟨#[68]⟩, .int .i64 2]) (w' := w) rfl (by kernel_rfl) ?_
  refine wpList_stepR (v := .agg #[.int .i64 94, .string ⟨#[65, 76]⟩, .int .i64 2]) (w' := w) rfl (by kernel_rfl) ?_
  refine wpList_stepR (v := .agg #[.int .i64 95, .string ⟨#[83, 76]⟩, .int .i64 2]) (w' := w) rfl (by kernel_rfl) ?_
  refine wpList_stepR (v := .agg #[.int .i64 128, .string ⟨#[83, 83, 77]⟩, .int .i64 9]) (w' := w) rfl (by kernel_rfl) ?_
  refine wpList_stepR (v := .agg #[.int .i64 130, .string ⟨#[76, 80, 83, 87]⟩, .int .i64 9]) (w' := w) rfl (by kernel_rfl) ?_
  refine wpList_stepR (v := .agg #[.int .i64 134, .string ⟨#[66, 88, 72]⟩, .int .i64 3]) (w' := w) rfl (by kernel_rfl) ?_
  refine wpList_stepR (v := .agg #[.int .i64 135, .string ⟨#[66, 88, 76, 69]⟩, .int .i64 3]) (w' := w) rfl (by kernel_rfl) ?_
  refine wpList_stepR (v := .agg #[.int .i64 136, .string ⟨#[83, 82, 76]⟩, .int .i64 3]) (w' := w) rfl (by kernel_rfl) ?_
  refine wpList_stepR (v := .agg #[.int .i64 137, .string ⟨#[83, 76, 76]⟩, .int .i64 3]) (w' := w) rfl (by kernel_rfl) ?_
  refine wpList_stepR (v := .agg #[.int .i64 138, .string ⟨#[83, 82, 65]⟩, .int .i64 3]) (w' := w) rfl (by kernel_rfl) ?_
  refine wpList_stepR (v := .agg #[.int .i64 139, .string ⟨#[83, 76, 65]⟩, .int .i64 3]) (w' := w) rfl (by kernel_rfl) ?_
  refine wpList_stepR (v := .agg #[.int .i64 140, .string ⟨#[83, 82, 68, 76]⟩, .int .i64 3]) (w' := w) rfl (by kernel_rfl) ?_
  refine wpList_stepR (v := .agg #[.int .i64 141, .string ⟨#[83, 76, 68, 76]⟩, .int .i64 3]) (w' := w) rfl (by kernel_rfl) ?_
  refine wpList_stepR (v := .agg #[.int .i64 142, .string ⟨#[83, 82, 68, 65]⟩, .int .i64 3]) (w' := w) rfl (by kernel_rfl) ?_
  refine wpList_stepR (v := .agg #[.int .i64 143, .string ⟨#[83, 76, 68, 65]⟩, .int .i64 3]) (w' := w) rfl (by kernel_rfl) ?_
  refine wpList_stepR (v := .agg #[.int .i64 144, .string ⟨#[83, 84, 77]⟩, .int .i64 3]) (w' := w) rfl (by kernel_rfl) ?_
  refine wpList_stepR (v := .agg #[.int .i64 145, .string ⟨#[84, 77]⟩, .int .i64 4]) (w' := w) rfl (by kernel_rfl) ?_
  refine wpList_stepR (v := .agg #[.int .i64 146, .string ⟨#[77, 86, 73]⟩, .int .i64 4]) (w' := w) rfl (by kernel_rfl) ?_
  refine wpList_stepR (v := .agg #[.int .i64 147, .string ⟨#[84, 83]⟩, .int .i64 9]) (w' := w) rfl (by kernel_rfl) ?_
  refine wpList_stepR (v := .agg #[.int .i64 148, .string ⟨#[78, 73]⟩, .int .i64 4]) (w' := w) rfl (by kernel_rfl) ?_
  refine wpList_stepR (v := .agg #[.int .i64 149, .string ⟨#[67, 76, 73]⟩, .int .i64 4]) (w' := w) rfl (by kernel_rfl) ?_
  refine wpList_stepR (v := .agg #[.int .i64 150, .string ⟨#[79, 73]⟩, .int .i64 4]) (w' := w) rfl (by kernel_rfl) ?_
  refine wpList_stepR (v := .agg #[.int .i64 151, .string ⟨#[88, 73]⟩, .int .i64 4]) (w' := w) rfl (by kernel_rfl) ?_
  refine wpList_stepR (v := .agg #[.int .i64 152, .string ⟨#[76, 77]⟩, .int .i64 3]) (w' := w) rfl (by kernel_rfl) ?_
  refine wpList_stepR (v := .agg #[.int .i64 156, .string ⟨#[83, 73, 79]⟩, .int .i64 9]) (w' := w) rfl (by kernel_rfl) ?_
  refine wpList_stepR (v := .agg #[.int .i64 157, .string ⟨#[84, 73, 79]⟩, .int .i64 9]) (w' := w) rfl (by kernel_rfl) ?_
  refine wpList_stepR (v := .agg #[.int .i64 158, .string ⟨#[72, 73, 79]⟩, .int .i64 9]) (w' := w) rfl (by kernel_rfl) ?_
  refine wpList_stepR (v := .agg #[.int .i64 159, .string ⟨#[84, 67, 72]⟩, .int .i64 9]) (w' := w) rfl (by kernel_rfl) ?_
  refine wpList_stepR (v := .agg #[.int .i64 209, .string ⟨#[77, 86, 78]⟩, .int .i64 5]) (w' := w) rfl (by kernel_rfl) ?_
  refine wpList_stepR (v := .agg #[.int .i64 210, .string ⟨#[77, 86, 67]⟩, .int .i64 5]) (w' := w) rfl (by kernel_rfl) ?_
  refine wpList_stepR (v := .agg #[.int .i64 211, .string ⟨#[77, 86, 90]⟩, .int .i64 5]) (w' := w) rfl (by kernel_rfl) ?_
  refine wpList_stepR (v := .agg #[.int .i64 212, .string ⟨#[78, 67]⟩, .int .i64 5]) (w' := w) rfl (by kernel_rfl) ?_
  refine wpList_stepR (v := .agg #[.int .i64 213, .string ⟨#[67, 76, 67]⟩, .int .i64 5]) (w' := w) rfl (by kernel_rfl) ?_
  refine wpList_stepR (v := .agg #[.int .i64 214, .string ⟨#[79, 67]⟩, .int .i64 5]) (w' := w) rfl (by kernel_rfl) ?_
  refine wpList_stepR (v := .agg #[.int .i64 215, .string ⟨#[88, 67]⟩, .int .i64 5]) (w' := w) rfl (by kernel_rfl) ?_
  refine wpList_stepR (v := .agg #[.int .i64 220, .string ⟨#[84, 82]⟩, .int .i64 5]) (w' := w) rfl (by kernel_rfl) ?_
  refine wpList_stepR (v := .agg #[.int .i64 221, .string ⟨#[84, 82, 84]⟩, .int .i64 5]) (w' := w) rfl (by kernel_rfl) ?_
  refine wpList_stepR (v := .agg #[.int .i64 222, .string ⟨#[69, 68]⟩, .int .i64 5]) (w' := w) rfl (by kernel_rfl) ?_
  refine wpList_stepR (v := .agg #[.int .i64 223, .string ⟨#[69, 68, 77, 75]⟩, .int .i64 5]) (w' := w) rfl (by kernel_rfl) ?_
  refine wpList_stepR (v := .agg #[.int .i64 240, .string ⟨#[83, 82, 80]⟩, .int .i64 6]) (w' := w) rfl (by kernel_rfl) ?_
  refine wpList_stepR (v := .agg #[.int .i64 241, .string ⟨#[77, 86, 79]⟩, .int .i64 6]) (w' := w) rfl (by kernel_rfl) ?_
  refine wpList_stepR (v := .agg #[.int .i64 242, .string ⟨#[80, 65, 67, 75]⟩, .int .i64 6]) (w' := w) rfl (by kernel_rfl) ?_
  refine wpList_stepR (v := .agg #[.int .i64 243, .string ⟨#[85, 78, 80, 75]⟩, .int .i64 6]) (w' := w) rfl (by kernel_rfl) ?_
  refine wpList_stepR (v := .agg #[.int .i64 248, .string ⟨#[90, 65, 80]⟩, .int .i64 6]) (w' := w) rfl (by kernel_rfl) ?_
  refine wpList_stepR (v := .agg #[.int .i64 249, .string ⟨#[67, 80]⟩, .int .i64 6]) (w' := w) rfl (by kernel_rfl) ?_
  refine wpList_stepR (v := .agg #[.int .i64 250, .string ⟨#[65, 80]⟩, .int .i64 6]) (w' := w) rfl (by kernel_rfl) ?_
  refine wpList_stepR (v := .agg #[.int .i64 251, .string ⟨#[83, 80]⟩, .int .i64 6]) (w' := w) rfl (by kernel_rfl) ?_
  refine wpList_stepR (v := .agg #[.int .i64 252, .string ⟨#[77, 80]⟩, .int .i64 6]) (w' := w) rfl (by kernel_rfl) ?_
  refine wpList_stepR (v := .agg #[.int .i64 253, .string ⟨#[68, 80]⟩, .int .i64 6]) (w' := w) rfl (by kernel_rfl) ?_
  refine wpList_stepR (v := .slice (some ⟨w.heap.size, 0, none⟩) 97 97) (w' := w.alloc (.cells rowsA 48)) rfl (by kernel_rfl) ?_
  refine wpList_stepR (v := .slice (some ⟨w.heap.size, 0, none⟩) 97 97) (w' := w.alloc (.cells rowsA 48)) rfl (by kernel_rfl) ?_
  refine wpList_nil ?_
  refine wp_ret ?_
  refine bodyPost_ret (v := .slice (some ⟨w.heap.size, 0, none⟩) 97 97) (by kernel_rfl) (by kernel_rfl) ?_
  exact ⟨rfl, rfl⟩
end Go.Proofs.Ytfbcjpbfggbhfaa
