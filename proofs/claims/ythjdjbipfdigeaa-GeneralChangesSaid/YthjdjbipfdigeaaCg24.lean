/- Contracts and laws on the way to the statement, text 24 of 25. Conditions: as each states them. -/
import Derived.Test.YthjdjbipfdigeaaCg1
import Derived.Test.YthjdjbipfdigeaaCg18
import Derived.Test.YthjdjbipfdigeaaCg20
import Derived.Test.YthjdjbipfdigeaaCg22
import Derived.Test.YthjdjbipfdigeaaCg23
namespace Go.Proofs.Ythjdjbipfdigeaa
open Go.RowKit
set_option maxRecDepth 100000
set_option linter.unusedVariables false
set_option linter.unusedSimpArgs false
set_option maxRecDepth 1000000 in
set_option maxHeartbeats 4000000 in
theorem catch_code (c : Int) (older : List PanicEntry) (a0 a1 a2 a3 a4 a5 a6 a7 a8 a9 a10 a11 a12 a13 a14 a15 : Int) (pm pk : Int) (pM pW pP : Bool) (pc pi pq pg pa : Int) (is : List Int) (L : List Nat) (w W0 : World) (X : XF w W0 L is [a0, a1, a2, a3, a4, a5, a6, a7, a8, a9, a10, a11, a12, a13, a14, a15] [.int .i64 pm, .int .i64 pk, .bool pM, .bool pW, .bool pP, .int .i64 pc, .int .i64 pi, .int .i64 pq, .int .i64 pg, .int .i64 pa] [.int .u32 0, .int .u32 0, .int .u32 0, .int .u32 0, .int .u32 0, .int .u32 0, .int .u32 0, .int .u32 0, .int .u32 0, .int .u32 0, .int .u32 0, .int .u32 0, .int .u32 0, .int .u32 0, .int .u32 0, .int .u32 0] [.int .i64 0, .int .i64 0, .bool false, .bool false, .bool false, .int .i64 0, .int .i64 0, .int .i64 0, .int .i64 0, .int .i64 0] (.int .i64 0)) :
    CallsD Try.prog 30 #[.pointer (some ⟨w.heap.size + 1, 0, none⟩), .pointer (some ⟨w.heap.size + 1 + 1, 0, none⟩), .pointer (some ⟨w.heap.size + 1 + 1 + 1, 0, none⟩), .pointer (some ⟨w.heap.size + 1 + 1 + 1 + 1, 0, none⟩), .pointer (some ⟨w.heap.size + 1 + 1 + 1 + 1 + 1, 0, none⟩)] (.panicking ({ v := .iface 65 (.int .i64 c), recovered := false } :: older)) W0 fun e u' w' => e = .returned (.tuple #[]) ∧ u' = .panicking ({ v := .iface 65 (.int .i64 c), recovered := true } :: older) ∧ XF w w' L is [a0, a1, a2, a3, a4, a5, a6, a7, a8, a9, a10, a11, a12, a13, a14, a15] [.int .i64 pm, .int .i64 pk, .bool pM, .bool pW, .bool pP, .int .i64 pc, .int .i64 pi, .int .i64 pq, .int .i64 pg, .int .i64 pa] [.int .u32 a0, .int .u32 a1, .int .u32 a2, .int .u32 a3, .int .u32 a4, .int .u32 a5, .int .u32 a6, .int .u32 a7, .int .u32 a8, .int .u32 a9, .int .u32 a10, .int .u32 a11, .int .u32 a12, .int .u32 a13, .int .u32 a14, .int .u32 a15] [.int .i64 pm, .int .i64 pk, .bool pM, .bool pW, .bool pP, .int .i64 pc, .int .i64 pi, .int .i64 pq, .int .i64 pg, .int .i64 pa] (.int .i64 c) ∧ Below w.heap.size W0 w' := by
  have X0 := Lib.hid X
  clear X
  have ca0 : W0.cell? ⟨w.heap.size + 1, 0, none⟩ = some (.int .u32 a0) := X0.out.b1.cell (c := 0) rfl
  have ca1 : W0.cell? ⟨w.heap.size + 1, 1, none⟩ = some (.int .u32 a1) := X0.out.b1.cell (c := 1) rfl
  have ca2 : W0.cell? ⟨w.heap.size + 1, 2, none⟩ = some (.int .u32 a2) := X0.out.b1.cell (c := 2) rfl
  have ca3 : W0.cell? ⟨w.heap.size + 1, 3, none⟩ = some (.int .u32 a3) := X0.out.b1.cell (c := 3) rfl
  have ca4 : W0.cell? ⟨w.heap.size + 1, 4, none⟩ = some (.int .u32 a4) := X0.out.b1.cell (c := 4) rfl
  have ca5 : W0.cell? ⟨w.heap.size + 1, 5, none⟩ = some (.int .u32 a5) := X0.out.b1.cell (c := 5) rfl
  have ca6 : W0.cell? ⟨w.heap.size + 1, 6, none⟩ = some (.int .u32 a6) := X0.out.b1.cell (c := 6) rfl
  have ca7 : W0.cell? ⟨w.heap.size + 1, 7, none⟩ = some (.int .u32 a7) := X0.out.b1.cell (c := 7) rfl
  have ca8 : W0.cell? ⟨w.heap.size + 1, 8, none⟩ = some (.int .u32 a8) := X0.out.b1.cell (c := 8) rfl
  have ca9 : W0.cell? ⟨w.heap.size + 1, 9, none⟩ = some (.int .u32 a9) := X0.out.b1.cell (c := 9) rfl
  have ca10 : W0.cell? ⟨w.heap.size + 1, 10, none⟩ = some (.int .u32 a10) := X0.out.b1.cell (c := 10) rfl
  have ca11 : W0.cell? ⟨w.heap.size + 1, 11, none⟩ = some (.int .u32 a11) := X0.out.b1.cell (c := 11) rfl
  have ca12 : W0.cell? ⟨w.heap.size + 1, 12, none⟩ = some (.int .u32 a12) := X0.out.b1.cell (c := 12) rfl
  have ca13 : W0.cell? ⟨w.heap.size + 1, 13, none⟩ = some (.int .u32 a13) := X0.out.b1.cell (c := 13) rfl
  have ca14 : W0.cell? ⟨w.heap.size + 1, 14, none⟩ = some (.int .u32 a14) := X0.out.b1.cell (c := 14) rfl
  have ca15 : W0.cell? ⟨w.heap.size + 1, 15, none⟩ = some (.int .u32 a15) := X0.out.b1.cell (c := 15) rfl
  have da0 : W0.cell? ⟨w.heap.size + 1 + 1, 0, none⟩ = some (.int .i64 pm) := X0.out.b2.cell (c := 0) rfl
  have da1 : W0.cell? ⟨w.heap.size + 1 + 1, 1, none⟩ = some (.int .i64 pk) := X0.out.b2.cell (c := 1) rfl
  have da2 : W0.cell? ⟨w.heap.size + 1 + 1, 2, none⟩ = some (.bool pM) := X0.out.b2.cell (c := 2) rfl
  have da3 : W0.cell? ⟨w.heap.size + 1 + 1, 3, none⟩ = some (.bool pW) := X0.out.b2.cell (c := 3) rfl
  have da4 : W0.cell? ⟨w.heap.size + 1 + 1, 4, none⟩ = some (.bool pP) := X0.out.b2.cell (c := 4) rfl
  have da5 : W0.cell? ⟨w.heap.size + 1 + 1, 5, none⟩ = some (.int .i64 pc) := X0.out.b2.cell (c := 5) rfl
  have da6 : W0.cell? ⟨w.heap.size + 1 + 1, 6, none⟩ = some (.int .i64 pi) := X0.out.b2.cell (c := 6) rfl
  have da7 : W0.cell? ⟨w.heap.size + 1 + 1, 7, none⟩ = some (.int .i64 pq) := X0.out.b2.cell (c := 7) rfl
  have da8 : W0.cell? ⟨w.heap.size + 1 + 1, 8, none⟩ = some (.int .i64 pg) := X0.out.b2.cell (c := 8) rfl
  have da9 : W0.cell? ⟨w.heap.size + 1 + 1, 9, none⟩ = some (.int .i64 pa) := X0.out.b2.cell (c := 9) rfl
  have xa0 : W0.cell? ⟨w.heap.size + 1 + 1 + 1, 0, none⟩ = some (.int .u32 0) := X0.out.b3.cell (c := 0) rfl
  have xaf0 := X0.out.b3.free 0
  have xa1 : W0.cell? ⟨w.heap.size + 1 + 1 + 1, 1, none⟩ = some (.int .u32 0) := X0.out.b3.cell (c := 1) rfl
  have xaf1 := X0.out.b3.free 1
  have xa2 : W0.cell? ⟨w.heap.size + 1 + 1 + 1, 2, none⟩ = some (.int .u32 0) := X0.out.b3.cell (c := 2) rfl
  have xaf2 := X0.out.b3.free 2
  have xa3 : W0.cell? ⟨w.heap.size + 1 + 1 + 1, 3, none⟩ = some (.int .u32 0) := X0.out.b3.cell (c := 3) rfl
  have xaf3 := X0.out.b3.free 3
  have xa4 : W0.cell? ⟨w.heap.size + 1 + 1 + 1, 4, none⟩ = some (.int .u32 0) := X0.out.b3.cell (c := 4) rfl
  have xaf4 := X0.out.b3.free 4
  have xa5 : W0.cell? ⟨w.heap.size + 1 + 1 + 1, 5, none⟩ = some (.int .u32 0) := X0.out.b3.cell (c := 5) rfl
  have xaf5 := X0.out.b3.free 5
  have xa6 : W0.cell? ⟨w.heap.size + 1 + 1 + 1, 6, none⟩ = some (.int .u32 0) := X0.out.b3.cell (c := 6) rfl
  have xaf6 := X0.out.b3.free 6
  have xa7 : W0.cell? ⟨w.heap.size + 1 + 1 + 1, 7, none⟩ = some (.int .u32 0) := X0.out.b3.cell (c := 7) rfl
  have xaf7 := X0.out.b3.free 7
  have xa8 : W0.cell? ⟨w.heap.size + 1 + 1 + 1, 8, none⟩ = some (.int .u32 0) := X0.out.b3.cell (c := 8) rfl
  have xaf8 := X0.out.b3.free 8
  have xa9 : W0.cell? ⟨w.heap.size + 1 + 1 + 1, 9, none⟩ = some (.int .u32 0) := X0.out.b3.cell (c := 9) rfl
  have xaf9 := X0.out.b3.free 9
  have xa10 : W0.cell? ⟨w.heap.size + 1 + 1 + 1, 10, none⟩ = some (.int .u32 0) := X0.out.b3.cell (c := 10) rfl
  have xaf10 := X0.out.b3.free 10
  have xa11 : W0.cell? ⟨w.heap.size + 1 + 1 + 1, 11, none⟩ = some (.int .u32 0) := X0.out.b3.cell (c := 11) rfl
  have xaf11 := X0.out.b3.free 11
  have xa12 : W0.cell? ⟨w.heap.size + 1 + 1 + 1, 12, none⟩ = some (.int .u32 0) := X0.out.b3.cell (c := 12) rfl
  have xaf12 := X0.out.b3.free 12
  have xa13 : W0.cell? ⟨w.heap.size + 1 + 1 + 1, 13, none⟩ = some (.int .u32 0) := X0.out.b3.cell (c := 13) rfl
  have xaf13 := X0.out.b3.free 13
  have xa14 : W0.cell? ⟨w.heap.size + 1 + 1 + 1, 14, none⟩ = some (.int .u32 0) := X0.out.b3.cell (c := 14) rfl
  have xaf14 := X0.out.b3.free 14
  have xa15 : W0.cell? ⟨w.heap.size + 1 + 1 + 1, 15, none⟩ = some (.int .u32 0) := X0.out.b3.cell (c := 15) rfl
  have xaf15 := X0.out.b3.free 15
  have ya0 : W0.cell? ⟨w.heap.size + 1 + 1 + 1 + 1, 0, none⟩ = some (.int .i64 0) := X0.out.b4.cell (c := 0) rfl
  have yaf0 := X0.out.b4.free 0
  have ya1 : W0.cell? ⟨w.heap.size + 1 + 1 + 1 + 1, 1, none⟩ = some (.int .i64 0) := X0.out.b4.cell (c := 1) rfl
  have yaf1 := X0.out.b4.free 1
  have ya2 : W0.cell? ⟨w.heap.size + 1 + 1 + 1 + 1, 2, none⟩ = some (.bool false) := X0.out.b4.cell (c := 2) rfl
  have yaf2 := X0.out.b4.free 2
  have ya3 : W0.cell? ⟨w.heap.size + 1 + 1 + 1 + 1, 3, none⟩ = some (.bool false) := X0.out.b4.cell (c := 3) rfl
  have yaf3 := X0.out.b4.free 3
  have ya4 : W0.cell? ⟨w.heap.size + 1 + 1 + 1 + 1, 4, none⟩ = some (.bool false) := X0.out.b4.cell (c := 4) rfl
  have yaf4 := X0.out.b4.free 4
  have ya5 : W0.cell? ⟨w.heap.size + 1 + 1 + 1 + 1, 5, none⟩ = some (.int .i64 0) := X0.out.b4.cell (c := 5) rfl
  have yaf5 := X0.out.b4.free 5
  have ya6 : W0.cell? ⟨w.heap.size + 1 + 1 + 1 + 1, 6, none⟩ = some (.int .i64 0) := X0.out.b4.cell (c := 6) rfl
  have yaf6 := X0.out.b4.free 6
  have ya7 : W0.cell? ⟨w.heap.size + 1 + 1 + 1 + 1, 7, none⟩ = some (.int .i64 0) := X0.out.b4.cell (c := 7) rfl
  have yaf7 := X0.out.b4.free 7
  have ya8 : W0.cell? ⟨w.heap.size + 1 + 1 + 1 + 1, 8, none⟩ = some (.int .i64 0) := X0.out.b4.cell (c := 8) rfl
  have yaf8 := X0.out.b4.free 8
  have ya9 : W0.cell? ⟨w.heap.size + 1 + 1 + 1 + 1, 9, none⟩ = some (.int .i64 0) := X0.out.b4.cell (c := 9) rfl
  have yaf9 := X0.out.b4.free 9
  have za0 : W0.cell? ⟨w.heap.size + 1 + 1 + 1 + 1 + 1, 0, none⟩ = some (.int .i64 0) := X0.out.b5.cell (c := 0) rfl
  have zaf0 := X0.out.b5.free 0
  refine callsD_of_wpS Try.func30 rfl fun c₀ cs hu => ?_
  simp only [Try.ntmps30, List.size_toArray, List.length_cons, List.length_nil, Nat.reduceAdd, Nat.reduceSub, Array.replicate_succ, Array.replicate_zero, List.push_toArray, List.append_toArray, List.nil_append, List.cons_append]
  apply wpS_seq
  apply wpS_region
  show wpOpsS _ _ _ [0, 1, 2, 3, 4, 5, 6] _ _ _
  refine opsS_rec (v := .iface 65 (.int .i64 c)) (cs' := { c₀ with mode := .panicking ({ v := .iface 65 (.int .i64 c), recovered := true } :: older) } :: cs) (w' := W0) rfl (by kernel_rfl) (by kernel_rfl) (by simp [recoverD, hu]) ?_
  refine opsS_value (v := .tuple #[.int .i64 c, .bool true]) (w' := W0) rfl (by kernel_rfl) (by kernel_rfl) ?_
  refine opsS_value (v := .tuple #[.int .i64 c, .bool true]) (w' := W0) rfl (by kernel_rfl) (by kernel_rfl) ?_
  refine opsS_value (v := .int .i64 c) (w' := W0) rfl (by kernel_rfl) (by kernel_rfl) ?_
  refine opsS_value (v := .bool true) (w' := W0) rfl (by kernel_rfl) (by kernel_rfl) ?_
  refine opsS_value (v := .int .i64 c) (w' := W0) rfl (by kernel_rfl) (by kernel_rfl) ?_
  refine opsS_value (v := .bool true) (w' := W0) rfl (by kernel_rfl) (by kernel_rfl) ?_
  simp only [Act.put, List.setIfInBounds_toArray, List.set_cons_zero, List.set_cons_succ]
  unfold wpOpsS
  simp only [Exit.thenS]
  refine wpS_of_wp ?_
  go_wp2
  obtain ⟨W1, hW1⟩ : ∃ W1, (((((((((((((((((((((((((((W0.setCell ⟨w.heap.size + 1 + 1 + 1, 0, none⟩ (.int .u32 a0)).setCell ⟨w.heap.size + 1 + 1 + 1, 1, none⟩ (.int .u32 a1)).setCell ⟨w.heap.size + 1 + 1 + 1, 2, none⟩ (.int .u32 a2)).setCell ⟨w.heap.size + 1 + 1 + 1, 3, none⟩ (.int .u32 a3)).setCell ⟨w.heap.size + 1 + 1 + 1, 4, none⟩ (.int .u32 a4)).setCell ⟨w.heap.size + 1 + 1 + 1, 5, none⟩ (.int .u32 a5)).setCell ⟨w.heap.size + 1 + 1 + 1, 6, none⟩ (.int .u32 a6)).setCell ⟨w.heap.size + 1 + 1 + 1, 7, none⟩ (.int .u32 a7)).setCell ⟨w.heap.size + 1 + 1 + 1, 8, none⟩ (.int .u32 a8)).setCell ⟨w.heap.size + 1 + 1 + 1, 9, none⟩ (.int .u32 a9)).setCell ⟨w.heap.size + 1 + 1 + 1, 10, none⟩ (.int .u32 a10)).setCell ⟨w.heap.size + 1 + 1 + 1, 11, none⟩ (.int .u32 a11)).setCell ⟨w.heap.size + 1 + 1 + 1, 12, none⟩ (.int .u32 a12)).setCell ⟨w.heap.size + 1 + 1 + 1, 13, none⟩ (.int .u32 a13)).setCell ⟨w.heap.size + 1 + 1 + 1, 14, none⟩ (.int .u32 a14)).setCell ⟨w.heap.size + 1 + 1 + 1, 15, none⟩ (.int .u32 a15)).setCell ⟨w.heap.size + 1 + 1 + 1 + 1, 0, none⟩ (.int .i64 pm)).setCell ⟨w.heap.size + 1 + 1 + 1 + 1, 1, none⟩ (.int .i64 pk)).setCell ⟨w.heap.size + 1 + 1 + 1 + 1, 2, none⟩ (.bool pM)).setCell ⟨w.heap.size + 1 + 1 + 1 + 1, 3, none⟩ (.bool pW)).setCell ⟨w.heap.size + 1 + 1 + 1 + 1, 4, none⟩ (.bool pP)).setCell ⟨w.heap.size + 1 + 1 + 1 + 1, 5, none⟩ (.int .i64 pc)).setCell ⟨w.heap.size + 1 + 1 + 1 + 1, 6, none⟩ (.int .i64 pi)).setCell ⟨w.heap.size + 1 + 1 + 1 + 1, 7, none⟩ (.int .i64 pq)).setCell ⟨w.heap.size + 1 + 1 + 1 + 1, 8, none⟩ (.int .i64 pg)).setCell ⟨w.heap.size + 1 + 1 + 1 + 1, 9, none⟩ (.int .i64 pa)).setCell ⟨w.heap.size + 1 + 1 + 1 + 1 + 1, 0, none⟩ (.int .i64 c)) = W1 := ⟨_, rfl⟩
  have X1 := Lib.hid (show XF w (((((((((((((((((((((((((((W0.setCell ⟨w.heap.size + 1 + 1 + 1, 0, none⟩ (.int .u32 a0)).setCell ⟨w.heap.size + 1 + 1 + 1, 1, none⟩ (.int .u32 a1)).setCell ⟨w.heap.size + 1 + 1 + 1, 2, none⟩ (.int .u32 a2)).setCell ⟨w.heap.size + 1 + 1 + 1, 3, none⟩ (.int .u32 a3)).setCell ⟨w.heap.size + 1 + 1 + 1, 4, none⟩ (.int .u32 a4)).setCell ⟨w.heap.size + 1 + 1 + 1, 5, none⟩ (.int .u32 a5)).setCell ⟨w.heap.size + 1 + 1 + 1, 6, none⟩ (.int .u32 a6)).setCell ⟨w.heap.size + 1 + 1 + 1, 7, none⟩ (.int .u32 a7)).setCell ⟨w.heap.size + 1 + 1 + 1, 8, none⟩ (.int .u32 a8)).setCell ⟨w.heap.size + 1 + 1 + 1, 9, none⟩ (.int .u32 a9)).setCell ⟨w.heap.size + 1 + 1 + 1, 10, none⟩ (.int .u32 a10)).setCell ⟨w.heap.size + 1 + 1 + 1, 11, none⟩ (.int .u32 a11)).setCell ⟨w.heap.size + 1 + 1 + 1, 12, none⟩ (.int .u32 a12)).setCell ⟨w.heap.size + 1 + 1 + 1, 13, none⟩ (.int .u32 a13)).setCell ⟨w.heap.size + 1 + 1 + 1, 14, none⟩ (.int .u32 a14)).setCell ⟨w.heap.size + 1 + 1 + 1, 15, none⟩ (.int .u32 a15)).setCell ⟨w.heap.size + 1 + 1 + 1 + 1, 0, none⟩ (.int .i64 pm)).setCell ⟨w.heap.size + 1 + 1 + 1 + 1, 1, none⟩ (.int .i64 pk)).setCell ⟨w.heap.size + 1 + 1 + 1 + 1, 2, none⟩ (.bool pM)).setCell ⟨w.heap.size + 1 + 1 + 1 + 1, 3, none⟩ (.bool pW)).setCell ⟨w.heap.size + 1 + 1 + 1 + 1, 4, none⟩ (.bool pP)).setCell ⟨w.heap.size + 1 + 1 + 1 + 1, 5, none⟩ (.int .i64 pc)).setCell ⟨w.heap.size + 1 + 1 + 1 + 1, 6, none⟩ (.int .i64 pi)).setCell ⟨w.heap.size + 1 + 1 + 1 + 1, 7, none⟩ (.int .i64 pq)).setCell ⟨w.heap.size + 1 + 1 + 1 + 1, 8, none⟩ (.int .i64 pg)).setCell ⟨w.heap.size + 1 + 1 + 1 + 1, 9, none⟩ (.int .i64 pa)).setCell ⟨w.heap.size + 1 + 1 + 1 + 1 + 1, 0, none⟩ (.int .i64 c)) L is [a0, a1, a2, a3, a4, a5, a6, a7, a8, a9, a10, a11, a12, a13, a14, a15] [.int .i64 pm, .int .i64 pk, .bool pM, .bool pW, .bool pP, .int .i64 pc, .int .i64 pi, .int .i64 pq, .int .i64 pg, .int .i64 pa] [.int .u32 a0, .int .u32 a1, .int .u32 a2, .int .u32 a3, .int .u32 a4, .int .u32 a5, .int .u32 a6, .int .u32 a7, .int .u32 a8, .int .u32 a9, .int .u32 a10, .int .u32 a11, .int .u32 a12, .int .u32 a13, .int .u32 a14, .int .u32 a15] [.int .i64 pm, .int .i64 pk, .bool pM, .bool pW, .bool pP, .int .i64 pc, .int .i64 pi, .int .i64 pq, .int .i64 pg, .int .i64 pa] (.int .i64 c) from (X0.out.give rfl rfl (.int .u32 a0) (.int .u32 a1) (.int .u32 a2) (.int .u32 a3) (.int .u32 a4) (.int .u32 a5) (.int .u32 a6) (.int .u32 a7) (.int .u32 a8) (.int .u32 a9) (.int .u32 a10) (.int .u32 a11) (.int .u32 a12) (.int .u32 a13) (.int .u32 a14) (.int .u32 a15) (.int .i64 pm) (.int .i64 pk) (.bool pM) (.bool pW) (.bool pP) (.int .i64 pc) (.int .i64 pi) (.int .i64 pq) (.int .i64 pg) (.int .i64 pa) (.int .i64 c)))
  have B1 := Lib.hid (show Below w.heap.size W0 (((((((((((((((((((((((((((W0.setCell ⟨w.heap.size + 1 + 1 + 1, 0, none⟩ (.int .u32 a0)).setCell ⟨w.heap.size + 1 + 1 + 1, 1, none⟩ (.int .u32 a1)).setCell ⟨w.heap.size + 1 + 1 + 1, 2, none⟩ (.int .u32 a2)).setCell ⟨w.heap.size + 1 + 1 + 1, 3, none⟩ (.int .u32 a3)).setCell ⟨w.heap.size + 1 + 1 + 1, 4, none⟩ (.int .u32 a4)).setCell ⟨w.heap.size + 1 + 1 + 1, 5, none⟩ (.int .u32 a5)).setCell ⟨w.heap.size + 1 + 1 + 1, 6, none⟩ (.int .u32 a6)).setCell ⟨w.heap.size + 1 + 1 + 1, 7, none⟩ (.int .u32 a7)).setCell ⟨w.heap.size + 1 + 1 + 1, 8, none⟩ (.int .u32 a8)).setCell ⟨w.heap.size + 1 + 1 + 1, 9, none⟩ (.int .u32 a9)).setCell ⟨w.heap.size + 1 + 1 + 1, 10, none⟩ (.int .u32 a10)).setCell ⟨w.heap.size + 1 + 1 + 1, 11, none⟩ (.int .u32 a11)).setCell ⟨w.heap.size + 1 + 1 + 1, 12, none⟩ (.int .u32 a12)).setCell ⟨w.heap.size + 1 + 1 + 1, 13, none⟩ (.int .u32 a13)).setCell ⟨w.heap.size + 1 + 1 + 1, 14, none⟩ (.int .u32 a14)).setCell ⟨w.heap.size + 1 + 1 + 1, 15, none⟩ (.int .u32 a15)).setCell ⟨w.heap.size + 1 + 1 + 1 + 1, 0, none⟩ (.int .i64 pm)).setCell ⟨w.heap.size + 1 + 1 + 1 + 1, 1, none⟩ (.int .i64 pk)).setCell ⟨w.heap.size + 1 + 1 + 1 + 1, 2, none⟩ (.bool pM)).setCell ⟨w.heap.size + 1 + 1 + 1 + 1, 3, none⟩ (.bool pW)).setCell ⟨w.heap.size + 1 + 1 + 1 + 1, 4, none⟩ (.bool pP)).setCell ⟨w.heap.size + 1 + 1 + 1 + 1, 5, none⟩ (.int .i64 pc)).setCell ⟨w.heap.size + 1 + 1 + 1 + 1, 6, none⟩ (.int .i64 pi)).setCell ⟨w.heap.size + 1 + 1 + 1 + 1, 7, none⟩ (.int .i64 pq)).setCell ⟨w.heap.size + 1 + 1 + 1 + 1, 8, none⟩ (.int .i64 pg)).setCell ⟨w.heap.size + 1 + 1 + 1 + 1, 9, none⟩ (.int .i64 pa)).setCell ⟨w.heap.size + 1 + 1 + 1 + 1 + 1, 0, none⟩ (.int .i64 c)) from ((below_s10 (below_s16 (Below.refl _ _) (by omega) (.int .u32 a0) (.int .u32 a1) (.int .u32 a2) (.int .u32 a3) (.int .u32 a4) (.int .u32 a5) (.int .u32 a6) (.int .u32 a7) (.int .u32 a8) (.int .u32 a9) (.int .u32 a10) (.int .u32 a11) (.int .u32 a12) (.int .u32 a13) (.int .u32 a14) (.int .u32 a15)) (by omega) (.int .i64 pm) (.int .i64 pk) (.bool pM) (.bool pW) (.bool pP) (.int .i64 pc) (.int .i64 pi) (.int .i64 pq) (.int .i64 pg) (.int .i64 pa)).setCell (p := ⟨_, 0, none⟩) (by first | (simp; done) | (simp; omega)) _))
  rw [hW1] at X1 B1
  try rw [hW1]
  exact ⟨rfl, .panicking ({ v := .iface 65 (.int .i64 c), recovered := true } :: older), by cases c₀; simp_all, .tuple #[], by simp [results, Try.results30], rfl, rfl, X1.out, B1.out⟩
set_option maxRecDepth 1000000 in
set_option maxHeartbeats 4000000 in
theorem Exec_code (op fm r1 r2 x2 b1 d1 b2 d2 l1 l2 i2 : Int) (a0 a1 a2 a3 a4 a5 a6 a7 a8 a9 a10 a11 a12 a13 a14 a15 : Int) (pm pk : Int) (pM pW pP : Bool) (pc pi pq pg pa : Int) (sg : Nat) (L : List Nat) (R : World → Prop) (c : Int) (w : World) (hkn : kn op = true) (hck : chk op fm [op, fm, r1, r2, x2, b1, d1, b2, d2, l1, l2, i2] = 0) (hv : pok pm pk pc pi pq pg pa = true) (hL : ∀ k, k ∈ L → k < w.heap.size) (hR : ∀ W W', R W → Below w.heap.size W W' → R W') (hex : ∀ (g : Nat) (W : World), w.heap.size ≤ g → Below w.heap.size w W → Mc W g [op, fm, r1, r2, x2, b1, d1, b2, d2, l1, l2, i2] [a0, a1, a2, a3, a4, a5, a6, a7, a8, a9, a10, a11, a12, a13, a14, a15] [a0, a1, a2, a3, a4, a5, a6, a7, a8, a9, a10, a11, a12, a13, a14, a15] [.int .i64 pm, .int .i64 pk, .bool pM, .bool pW, .bool pP, .int .i64 pc, .int .i64 pi, .int .i64 pq, .int .i64 pg, .int .i64 pa] (.pointer (some ⟨sg, 0, none⟩)) false → Calls Try.prog 31 #[.pointer (some ⟨g, 0, none⟩)] W fun e w' => e = .panicked [{ v := .iface 65 (.int .i64 c), recovered := false }] ∧ Ch W w' (g :: L) ∧ R w') : Calls Try.prog 14 #[.agg #[.int .i64 op, .int .i64 fm, .int .i64 r1, .int .i64 r2, .int .i64 x2, .int .i64 b1, .int .i64 d1, .int .i64 b2, .int .i64 d2, .int .i64 l1, .int .i64 l2, .int .i64 i2], .agg #[.int .u32 a0, .int .u32 a1, .int .u32 a2, .int .u32 a3, .int .u32 a4, .int .u32 a5, .int .u32 a6, .int .u32 a7, .int .u32 a8, .int .u32 a9, .int .u32 a10, .int .u32 a11, .int .u32 a12, .int .u32 a13, .int .u32 a14, .int .u32 a15], .agg #[.int .i64 pm, .int .i64 pk, .bool pM, .bool pW, .bool pP, .int .i64 pc, .int .i64 pi, .int .i64 pq, .int .i64 pg, .int .i64 pa], .pointer (some ⟨sg, 0, none⟩)] w fun e w' => e = .returned (.tuple #[.agg #[.int .u32 a0, .int .u32 a1, .int .u32 a2, .int .u32 a3, .int .u32 a4, .int .u32 a5, .int .u32 a6, .int .u32 a7, .int .u32 a8, .int .u32 a9, .int .u32 a10, .int .u32 a11, .int .u32 a12, .int .u32 a13, .int .u32 a14, .int .u32 a15], .agg #[.int .i64 pm, .int .i64 pk, .bool pM, .bool pW, .bool pP, .int .i64 pc, .int .i64 pi, .int .i64 pq, .int .i64 pg, .int .i64 pa], .int .i64 c]) ∧ R w' ∧ Ch w w' L := by
  have hmf : ∀ (fn : Fn) (first cap : Array Value) (w : World), (Instr.makeFunc fn first cap).run Try.prog w = .ok (.func fn first cap) w := fun _ _ _ _ => rfl
  have KC := Lib.hid (fun W => knows_c op W)
  rw [hkn] at KC
  have CC := Lib.hid (fun W => icheck_c op fm r1 r2 x2 b1 d1 b2 d2 l1 l2 i2 W)
  rw [hck] at CC
  have VC := Lib.hid (fun W => valid_c pm pk pM pW pP pc pi pq pg pa W)
  rw [hv] at VC
  have HX := Lib.hid hex
  have HLL := Lib.hid hL
  have HRR := Lib.hid hR
  clear hkn hck hv hex hL hR
  go_enter_defers Try.func14, Try.ntmps14
  go_upto_region 1 with fail
  have X0 := Lib.hid (show XF w ((((((w.alloc (.cells #[.int .i64 op, .int .i64 fm, .int .i64 r1, .int .i64 r2, .int .i64 x2, .int .i64 b1, .int .i64 d1, .int .i64 b2, .int .i64 d2, .int .i64 l1, .int .i64 l2, .int .i64 i2] 25)).alloc (.cells #[.int .u32 a0, .int .u32 a1, .int .u32 a2, .int .u32 a3, .int .u32 a4, .int .u32 a5, .int .u32 a6, .int .u32 a7, .int .u32 a8, .int .u32 a9, .int .u32 a10, .int .u32 a11, .int .u32 a12, .int .u32 a13, .int .u32 a14, .int .u32 a15] 28)).alloc (.cells #[.int .i64 pm, .int .i64 pk, .bool pM, .bool pW, .bool pP, .int .i64 pc, .int .i64 pi, .int .i64 pq, .int .i64 pg, .int .i64 pa] 30)).alloc (.cells #[.int .u32 0, .int .u32 0, .int .u32 0, .int .u32 0, .int .u32 0, .int .u32 0, .int .u32 0, .int .u32 0, .int .u32 0, .int .u32 0, .int .u32 0, .int .u32 0, .int .u32 0, .int .u32 0, .int .u32 0, .int .u32 0] 28)).alloc (.cells #[.int .i64 0, .int .i64 0, .bool false, .bool false, .bool false, .int .i64 0, .int .i64 0, .int .i64 0, .int .i64 0, .int .i64 0] 30)).alloc (.cells #[.int .i64 0] 3)) [] [op, fm, r1, r2, x2, b1, d1, b2, d2, l1, l2, i2] [a0, a1, a2, a3, a4, a5, a6, a7, a8, a9, a10, a11, a12, a13, a14, a15] [.int .i64 pm, .int .i64 pk, .bool pM, .bool pW, .bool pP, .int .i64 pc, .int .i64 pi, .int .i64 pq, .int .i64 pg, .int .i64 pa] [.int .u32 0, .int .u32 0, .int .u32 0, .int .u32 0, .int .u32 0, .int .u32 0, .int .u32 0, .int .u32 0, .int .u32 0, .int .u32 0, .int .u32 0, .int .u32 0, .int .u32 0, .int .u32 0, .int .u32 0, .int .u32 0] [.int .i64 0, .int .i64 0, .bool false, .bool false, .bool false, .int .i64 0, .int .i64 0, .int .i64 0, .int .i64 0, .int .i64 0] (.int .i64 0) from XF.start w [] [op, fm, r1, r2, x2, b1, d1, b2, d2, l1, l2, i2] [a0, a1, a2, a3, a4, a5, a6, a7, a8, a9, a10, a11, a12, a13, a14, a15] [.int .i64 pm, .int .i64 pk, .bool pM, .bool pW, .bool pP, .int .i64 pc, .int .i64 pi, .int .i64 pq, .int .i64 pg, .int .i64 pa] [.int .u32 0, .int .u32 0, .int .u32 0, .int .u32 0, .int .u32 0, .int .u32 0, .int .u32 0, .int .u32 0, .int .u32 0, .int .u32 0, .int .u32 0, .int .u32 0, .int .u32 0, .int .u32 0, .int .u32 0, .int .u32 0] [.int .i64 0, .int .i64 0, .bool false, .bool false, .bool false, .int .i64 0, .int .i64 0, .int .i64 0, .int .i64 0, .int .i64 0] (.int .i64 0))
  obtain ⟨W0, hW0⟩ : ∃ W0, ((((((w.alloc (.cells #[.int .i64 op, .int .i64 fm, .int .i64 r1, .int .i64 r2, .int .i64 x2, .int .i64 b1, .int .i64 d1, .int .i64 b2, .int .i64 d2, .int .i64 l1, .int .i64 l2, .int .i64 i2] 25)).alloc (.cells #[.int .u32 a0, .int .u32 a1, .int .u32 a2, .int .u32 a3, .int .u32 a4, .int .u32 a5, .int .u32 a6, .int .u32 a7, .int .u32 a8, .int .u32 a9, .int .u32 a10, .int .u32 a11, .int .u32 a12, .int .u32 a13, .int .u32 a14, .int .u32 a15] 28)).alloc (.cells #[.int .i64 pm, .int .i64 pk, .bool pM, .bool pW, .bool pP, .int .i64 pc, .int .i64 pi, .int .i64 pq, .int .i64 pg, .int .i64 pa] 30)).alloc (.cells #[.int .u32 0, .int .u32 0, .int .u32 0, .int .u32 0, .int .u32 0, .int .u32 0, .int .u32 0, .int .u32 0, .int .u32 0, .int .u32 0, .int .u32 0, .int .u32 0, .int .u32 0, .int .u32 0, .int .u32 0, .int .u32 0] 28)).alloc (.cells #[.int .i64 0, .int .i64 0, .bool false, .bool false, .bool false, .int .i64 0, .int .i64 0, .int .i64 0, .int .i64 0, .int .i64 0] 30)).alloc (.cells #[.int .i64 0] 3)) = W0 := ⟨_, rfl⟩
  rw [hW0] at X0
  try rw [hW0]
  clear hW0
  have hb0 : W0.cell? ⟨w.heap.size, 0, none⟩ = some (.int .i64 op) := X0.out.b0.cell (c := 0) rfl
  go_upto_region 3 with (first
    | (go_at_call 11; refine (KC.out _).mono ?_; rintro e w1 ⟨rfl, nk, hw1⟩; have X1 := Lib.hid (X0.out.keep (below_of_drew hw1)); clear hw1; have ka0 : w1.cell? ⟨w.heap.size, 0, none⟩ = some (.int .i64 op) := X1.out.b0.cell (c := 0) rfl; have ka1 : w1.cell? ⟨w.heap.size, 1, none⟩ = some (.int .i64 fm) := X1.out.b0.cell (c := 1) rfl; have ka2 : w1.cell? ⟨w.heap.size, 2, none⟩ = some (.int .i64 r1) := X1.out.b0.cell (c := 2) rfl; have ka3 : w1.cell? ⟨w.heap.size, 3, none⟩ = some (.int .i64 r2) := X1.out.b0.cell (c := 3) rfl; have ka4 : w1.cell? ⟨w.heap.size, 4, none⟩ = some (.int .i64 x2) := X1.out.b0.cell (c := 4) rfl; have ka5 : w1.cell? ⟨w.heap.size, 5, none⟩ = some (.int .i64 b1) := X1.out.b0.cell (c := 5) rfl; have ka6 : w1.cell? ⟨w.heap.size, 6, none⟩ = some (.int .i64 d1) := X1.out.b0.cell (c := 6) rfl; have ka7 : w1.cell? ⟨w.heap.size, 7, none⟩ = some (.int .i64 b2) := X1.out.b0.cell (c := 7) rfl; have ka8 : w1.cell? ⟨w.heap.size, 8, none⟩ = some (.int .i64 d2) := X1.out.b0.cell (c := 8) rfl; have ka9 : w1.cell? ⟨w.heap.size, 9, none⟩ = some (.int .i64 l1) := X1.out.b0.cell (c := 9) rfl; have ka10 : w1.cell? ⟨w.heap.size, 10, none⟩ = some (.int .i64 l2) := X1.out.b0.cell (c := 10) rfl; have ka11 : w1.cell? ⟨w.heap.size, 11, none⟩ = some (.int .i64 i2) := X1.out.b0.cell (c := 11) rfl)
    | (go_at_call 28; refine (CC.out _).mono ?_; rintro e w2 ⟨rfl, hb⟩; have X2 := Lib.hid (X1.out.keep hb); clear hb; have kb0 : w2.cell? ⟨w.heap.size + 1 + 1, 0, none⟩ = some (.int .i64 pm) := X2.out.b2.cell (c := 0) rfl; have kb1 : w2.cell? ⟨w.heap.size + 1 + 1, 1, none⟩ = some (.int .i64 pk) := X2.out.b2.cell (c := 1) rfl; have kb2 : w2.cell? ⟨w.heap.size + 1 + 1, 2, none⟩ = some (.bool pM) := X2.out.b2.cell (c := 2) rfl; have kb3 : w2.cell? ⟨w.heap.size + 1 + 1, 3, none⟩ = some (.bool pW) := X2.out.b2.cell (c := 3) rfl; have kb4 : w2.cell? ⟨w.heap.size + 1 + 1, 4, none⟩ = some (.bool pP) := X2.out.b2.cell (c := 4) rfl; have kb5 : w2.cell? ⟨w.heap.size + 1 + 1, 5, none⟩ = some (.int .i64 pc) := X2.out.b2.cell (c := 5) rfl; have kb6 : w2.cell? ⟨w.heap.size + 1 + 1, 6, none⟩ = some (.int .i64 pi) := X2.out.b2.cell (c := 6) rfl; have kb7 : w2.cell? ⟨w.heap.size + 1 + 1, 7, none⟩ = some (.int .i64 pq) := X2.out.b2.cell (c := 7) rfl; have kb8 : w2.cell? ⟨w.heap.size + 1 + 1, 8, none⟩ = some (.int .i64 pg) := X2.out.b2.cell (c := 8) rfl; have kb9 : w2.cell? ⟨w.heap.size + 1 + 1, 9, none⟩ = some (.int .i64 pa) := X2.out.b2.cell (c := 9) rfl)
    | (go_at_call 29; refine (VC.out _).mono ?_; rintro e W ⟨rfl, hb⟩; have X3 := Lib.hid (X2.out.keep hb); clear hb))
  clear X0 X1 X2 hb0 ka0 ka1 ka2 ka3 ka4 ka5 ka6 ka7 ka8 ka9 ka10 ka11 kb0 kb1 kb2 kb3 kb4 kb5 kb6 kb7 kb8 kb9
  have ka0 : W.cell? ⟨w.heap.size, 0, none⟩ = some (.int .i64 op) := X3.out.b0.cell (c := 0) rfl
  have ka1 : W.cell? ⟨w.heap.size, 1, none⟩ = some (.int .i64 fm) := X3.out.b0.cell (c := 1) rfl
  have ka2 : W.cell? ⟨w.heap.size, 2, none⟩ = some (.int .i64 r1) := X3.out.b0.cell (c := 2) rfl
  have ka3 : W.cell? ⟨w.heap.size, 3, none⟩ = some (.int .i64 r2) := X3.out.b0.cell (c := 3) rfl
  have ka4 : W.cell? ⟨w.heap.size, 4, none⟩ = some (.int .i64 x2) := X3.out.b0.cell (c := 4) rfl
  have ka5 : W.cell? ⟨w.heap.size, 5, none⟩ = some (.int .i64 b1) := X3.out.b0.cell (c := 5) rfl
  have ka6 : W.cell? ⟨w.heap.size, 6, none⟩ = some (.int .i64 d1) := X3.out.b0.cell (c := 6) rfl
  have ka7 : W.cell? ⟨w.heap.size, 7, none⟩ = some (.int .i64 b2) := X3.out.b0.cell (c := 7) rfl
  have ka8 : W.cell? ⟨w.heap.size, 8, none⟩ = some (.int .i64 d2) := X3.out.b0.cell (c := 8) rfl
  have ka9 : W.cell? ⟨w.heap.size, 9, none⟩ = some (.int .i64 l1) := X3.out.b0.cell (c := 9) rfl
  have ka10 : W.cell? ⟨w.heap.size, 10, none⟩ = some (.int .i64 l2) := X3.out.b0.cell (c := 10) rfl
  have ka11 : W.cell? ⟨w.heap.size, 11, none⟩ = some (.int .i64 i2) := X3.out.b0.cell (c := 11) rfl
  have kc0 : W.cell? ⟨w.heap.size + 1, 0, none⟩ = some (.int .u32 a0) := X3.out.b1.cell (c := 0) rfl
  have kc1 : W.cell? ⟨w.heap.size + 1, 1, none⟩ = some (.int .u32 a1) := X3.out.b1.cell (c := 1) rfl
  have kc2 : W.cell? ⟨w.heap.size + 1, 2, none⟩ = some (.int .u32 a2) := X3.out.b1.cell (c := 2) rfl
  have kc3 : W.cell? ⟨w.heap.size + 1, 3, none⟩ = some (.int .u32 a3) := X3.out.b1.cell (c := 3) rfl
  have kc4 : W.cell? ⟨w.heap.size + 1, 4, none⟩ = some (.int .u32 a4) := X3.out.b1.cell (c := 4) rfl
  have kc5 : W.cell? ⟨w.heap.size + 1, 5, none⟩ = some (.int .u32 a5) := X3.out.b1.cell (c := 5) rfl
  have kc6 : W.cell? ⟨w.heap.size + 1, 6, none⟩ = some (.int .u32 a6) := X3.out.b1.cell (c := 6) rfl
  have kc7 : W.cell? ⟨w.heap.size + 1, 7, none⟩ = some (.int .u32 a7) := X3.out.b1.cell (c := 7) rfl
  have kc8 : W.cell? ⟨w.heap.size + 1, 8, none⟩ = some (.int .u32 a8) := X3.out.b1.cell (c := 8) rfl
  have kc9 : W.cell? ⟨w.heap.size + 1, 9, none⟩ = some (.int .u32 a9) := X3.out.b1.cell (c := 9) rfl
  have kc10 : W.cell? ⟨w.heap.size + 1, 10, none⟩ = some (.int .u32 a10) := X3.out.b1.cell (c := 10) rfl
  have kc11 : W.cell? ⟨w.heap.size + 1, 11, none⟩ = some (.int .u32 a11) := X3.out.b1.cell (c := 11) rfl
  have kc12 : W.cell? ⟨w.heap.size + 1, 12, none⟩ = some (.int .u32 a12) := X3.out.b1.cell (c := 12) rfl
  have kc13 : W.cell? ⟨w.heap.size + 1, 13, none⟩ = some (.int .u32 a13) := X3.out.b1.cell (c := 13) rfl
  have kc14 : W.cell? ⟨w.heap.size + 1, 14, none⟩ = some (.int .u32 a14) := X3.out.b1.cell (c := 14) rfl
  have kc15 : W.cell? ⟨w.heap.size + 1, 15, none⟩ = some (.int .u32 a15) := X3.out.b1.cell (c := 15) rfl
  have kb0 : W.cell? ⟨w.heap.size + 1 + 1, 0, none⟩ = some (.int .i64 pm) := X3.out.b2.cell (c := 0) rfl
  have kb1 : W.cell? ⟨w.heap.size + 1 + 1, 1, none⟩ = some (.int .i64 pk) := X3.out.b2.cell (c := 1) rfl
  have kb2 : W.cell? ⟨w.heap.size + 1 + 1, 2, none⟩ = some (.bool pM) := X3.out.b2.cell (c := 2) rfl
  have kb3 : W.cell? ⟨w.heap.size + 1 + 1, 3, none⟩ = some (.bool pW) := X3.out.b2.cell (c := 3) rfl
  have kb4 : W.cell? ⟨w.heap.size + 1 + 1, 4, none⟩ = some (.bool pP) := X3.out.b2.cell (c := 4) rfl
  have kb5 : W.cell? ⟨w.heap.size + 1 + 1, 5, none⟩ = some (.int .i64 pc) := X3.out.b2.cell (c := 5) rfl
  have kb6 : W.cell? ⟨w.heap.size + 1 + 1, 6, none⟩ = some (.int .i64 pi) := X3.out.b2.cell (c := 6) rfl
  have kb7 : W.cell? ⟨w.heap.size + 1 + 1, 7, none⟩ = some (.int .i64 pq) := X3.out.b2.cell (c := 7) rfl
  have kb8 : W.cell? ⟨w.heap.size + 1 + 1, 8, none⟩ = some (.int .i64 pg) := X3.out.b2.cell (c := 8) rfl
  have kb9 : W.cell? ⟨w.heap.size + 1 + 1, 9, none⟩ = some (.int .i64 pa) := X3.out.b2.cell (c := 9) rfl
  go_upto_region 5 with fail
  clear ka0 ka1 ka2 ka3 ka4 ka5 ka6 ka7 ka8 ka9 ka10 ka11 kc0 kc1 kc2 kc3 kc4 kc5 kc6 kc7 kc8 kc9 kc10 kc11 kc12 kc13 kc14 kc15 kb0 kb1 kb2 kb3 kb4 kb5 kb6 kb7 kb8 kb9
  have M4 : Hid (Mc (W.alloc (.cells #[.int .i64 op, .int .i64 fm, .int .i64 r1, .int .i64 r2, .int .i64 x2, .int .i64 b1, .int .i64 d1, .int .i64 b2, .int .i64 d2, .int .i64 l1, .int .i64 l2, .int .i64 i2, .int .u32 a0, .int .u32 a1, .int .u32 a2, .int .u32 a3, .int .u32 a4, .int .u32 a5, .int .u32 a6, .int .u32 a7, .int .u32 a8, .int .u32 a9, .int .u32 a10, .int .u32 a11, .int .u32 a12, .int .u32 a13, .int .u32 a14, .int .u32 a15, .int .u32 a0, .int .u32 a1, .int .u32 a2, .int .u32 a3, .int .u32 a4, .int .u32 a5, .int .u32 a6, .int .u32 a7, .int .u32 a8, .int .u32 a9, .int .u32 a10, .int .u32 a11, .int .u32 a12, .int .u32 a13, .int .u32 a14, .int .u32 a15, .int .i64 pm, .int .i64 pk, .bool pM, .bool pW, .bool pP, .int .i64 pc, .int .i64 pi, .int .i64 pq, .int .i64 pg, .int .i64 pa, .pointer (some ⟨sg, 0, none⟩), .bool false] 69)) W.heap.size [op, fm, r1, r2, x2, b1, d1, b2, d2, l1, l2, i2] [a0, a1, a2, a3, a4, a5, a6, a7, a8, a9, a10, a11, a12, a13, a14, a15] [a0, a1, a2, a3, a4, a5, a6, a7, a8, a9, a10, a11, a12, a13, a14, a15] [.int .i64 pm, .int .i64 pk, .bool pM, .bool pW, .bool pP, .int .i64 pc, .int .i64 pi, .int .i64 pq, .int .i64 pg, .int .i64 pa] (.pointer (some ⟨sg, 0, none⟩)) false) := mc_new W [op, fm, r1, r2, x2, b1, d1, b2, d2, l1, l2, i2] [a0, a1, a2, a3, a4, a5, a6, a7, a8, a9, a10, a11, a12, a13, a14, a15] [a0, a1, a2, a3, a4, a5, a6, a7, a8, a9, a10, a11, a12, a13, a14, a15] [.int .i64 pm, .int .i64 pk, .bool pM, .bool pW, .bool pP, .int .i64 pc, .int .i64 pi, .int .i64 pq, .int .i64 pg, .int .i64 pa] (.pointer (some ⟨sg, 0, none⟩)) false rfl rfl rfl rfl
  have X4 := Lib.hid (X3.out.keep ((Below.refl W.heap.size W).alloc (Nat.le_refl _) (.cells #[.int .i64 op, .int .i64 fm, .int .i64 r1, .int .i64 r2, .int .i64 x2, .int .i64 b1, .int .i64 d1, .int .i64 b2, .int .i64 d2, .int .i64 l1, .int .i64 l2, .int .i64 i2, .int .u32 a0, .int .u32 a1, .int .u32 a2, .int .u32 a3, .int .u32 a4, .int .u32 a5, .int .u32 a6, .int .u32 a7, .int .u32 a8, .int .u32 a9, .int .u32 a10, .int .u32 a11, .int .u32 a12, .int .u32 a13, .int .u32 a14, .int .u32 a15, .int .u32 a0, .int .u32 a1, .int .u32 a2, .int .u32 a3, .int .u32 a4, .int .u32 a5, .int .u32 a6, .int .u32 a7, .int .u32 a8, .int .u32 a9, .int .u32 a10, .int .u32 a11, .int .u32 a12, .int .u32 a13, .int .u32 a14, .int .u32 a15, .int .i64 pm, .int .i64 pk, .bool pM, .bool pW, .bool pP, .int .i64 pc, .int .i64 pi, .int .i64 pq, .int .i64 pg, .int .i64 pa, .pointer (some ⟨sg, 0, none⟩), .bool false] 69)))
  have hgm : w.heap.size + 6 ≤ W.heap.size := by have := X3.out.b5.lt; omega
  obtain ⟨W4, hW4⟩ : ∃ W4, W.alloc (.cells #[.int .i64 op, .int .i64 fm, .int .i64 r1, .int .i64 r2, .int .i64 x2, .int .i64 b1, .int .i64 d1, .int .i64 b2, .int .i64 d2, .int .i64 l1, .int .i64 l2, .int .i64 i2, .int .u32 a0, .int .u32 a1, .int .u32 a2, .int .u32 a3, .int .u32 a4, .int .u32 a5, .int .u32 a6, .int .u32 a7, .int .u32 a8, .int .u32 a9, .int .u32 a10, .int .u32 a11, .int .u32 a12, .int .u32 a13, .int .u32 a14, .int .u32 a15, .int .u32 a0, .int .u32 a1, .int .u32 a2, .int .u32 a3, .int .u32 a4, .int .u32 a5, .int .u32 a6, .int .u32 a7, .int .u32 a8, .int .u32 a9, .int .u32 a10, .int .u32 a11, .int .u32 a12, .int .u32 a13, .int .u32 a14, .int .u32 a15, .int .i64 pm, .int .i64 pk, .bool pM, .bool pW, .bool pP, .int .i64 pc, .int .i64 pi, .int .i64 pq, .int .i64 pg, .int .i64 pa, .pointer (some ⟨sg, 0, none⟩), .bool false] 69) = W4 := ⟨_, rfl⟩
  rw [hW4] at M4 X4
  try rw [hW4]
  obtain ⟨gm, hg⟩ : ∃ gm, W.heap.size = gm := ⟨_, rfl⟩
  rw [hg] at M4 hgm
  simp only [hg]
  have B4 := Lib.hid (X4.out.be.below (Nat.le_refl _) (by simp))
  clear hW4 hg X3
  go_wp2_with (go_at_call 31; refine (HX.out gm W4 (by omega) B4.out M4.out).mono ?_; rintro e W5 ⟨rfl, hC, hr⟩; have X5 := Lib.hid (X4.out.ch hC HLL.out hgm); have R5 := Lib.hid hr; clear hC hr)
  trace_state
  refine leaves_cons (f := 30) (args := #[.pointer (some ⟨w.heap.size + 1, 0, none⟩), .pointer (some ⟨w.heap.size + 1 + 1, 0, none⟩), .pointer (some ⟨w.heap.size + 1 + 1 + 1, 0, none⟩), .pointer (some ⟨w.heap.size + 1 + 1 + 1 + 1, 0, none⟩), .pointer (some ⟨w.heap.size + 1 + 1 + 1 + 1 + 1, 0, none⟩)]) (by simp) (by simp [go_sem]) ?_
  refine (catch_code c [] a0 a1 a2 a3 a4 a5 a6 a7 a8 a9 a10 a11 a12 a13 a14 a15 pm pk pM pW pP pc pi pq pg pa _ L w W5 X5.out).mono ?_
  rintro e u' w'' ⟨rfl, rfl, hX, hB⟩
  have X6 := Lib.hid hX
  have c5 := X6.out.b5.cell (c := 0) rfl
  refine ⟨_, res_cells3 Try.results14 _ _ _ _ _ _ _ _ rfl rfl rfl X6.out.b3 X6.out.b4 X6.out.b5 Try.underlying28 rfl (by kernel_rfl) Try.underlying30 rfl (by kernel_rfl) (by go_simp), rfl, HRR.out _ _ R5.out hB, X6.out.be⟩
end Go.Proofs.Ythjdjbipfdigeaa

namespace Go.Proofs.Ythjdjbipfdigeaa
open Go.RowKit
set_option maxRecDepth 100000
set_option linter.unusedVariables false
set_option linter.unusedSimpArgs false
set_option maxRecDepth 1000000 in
set_option maxHeartbeats 8000000 in
theorem Exec_c (op fm r1 r2 x2 b1 d1 b2 d2 l1 l2 i2 : Int) (a0 a1 a2 a3 a4 a5 a6 a7 a8 a9 a10 a11 a12 a13 a14 a15 : Int) (pm pk : Int) (pM pW pP : Bool) (pc pi pq pg pa : Int) (F : Foot) (bs ks : List Int) (w : World) (hs : St 71 w F bs ks) (ro : ∀ z ∈ [a0, a1, a2, a3, a4, a5, a6, a7, a8, a9, a10, a11, a12, a13, a14, a15], 0 ≤ z ∧ z ≤ 4294967295) (O : Out) (hO : (xC op fm r1 r2 x2 b1 d1 b2 d2 l1 l2 i2 [a0, a1, a2, a3, a4, a5, a6, a7, a8, a9, a10, a11, a12, a13, a14, a15] pm pk pc pi pq pg pa bs ks) = O) : Calls Try.prog 14 #[.agg #[.int .i64 op, .int .i64 fm, .int .i64 r1, .int .i64 r2, .int .i64 x2, .int .i64 b1, .int .i64 d1, .int .i64 b2, .int .i64 d2, .int .i64 l1, .int .i64 l2, .int .i64 i2], .agg #[.int .u32 a0, .int .u32 a1, .int .u32 a2, .int .u32 a3, .int .u32 a4, .int .u32 a5, .int .u32 a6, .int .u32 a7, .int .u32 a8, .int .u32 a9, .int .u32 a10, .int .u32 a11, .int .u32 a12, .int .u32 a13, .int .u32 a14, .int .u32 a15], .agg #[.int .i64 pm, .int .i64 pk, .bool pM, .bool pW, .bool pP, .int .i64 pc, .int .i64 pi, .int .i64 pq, .int .i64 pg, .int .i64 pa], .pointer (some ⟨F.g, 0, none⟩)] w fun e w' => e = .returned (.tuple #[agR O.rs, .agg (psL pm pk pM pW pP pc pi O.cc O.pg O.ad).toArray, .int .i64 O.c]) ∧ St 71 w' F O.bs ks ∧ Ch w w' [F.gb] := by
  by_cases hkn : kn op = true
  rotate_left
  · refine (Exec_bad1 op fm r1 r2 x2 b1 d1 b2 d2 l1 l2 i2 a0 a1 a2 a3 a4 a5 a6 a7 a8 a9 a10 a11 a12 a13 a14 a15 pm pk pM pW pP pc pi pq pg pa F.g w (by simpa using hkn)).mono ?_
    rintro e w' ⟨rfl, hb⟩
    rw [← hO, show (xC op fm r1 r2 x2 b1 d1 b2 d2 l1 l2 i2 [a0, a1, a2, a3, a4, a5, a6, a7, a8, a9, a10, a11, a12, a13, a14, a15] pm pk pc pi pq pg pa bs ks) = ⟨1, [a0, a1, a2, a3, a4, a5, a6, a7, a8, a9, a10, a11, a12, a13, a14, a15], pq, pg, pa, false, bs⟩ from by unfold xC; rw [if_neg (by simp [hkn])]]
    exact ⟨rfl, hs.belowS hb, Ch.of_below hb _⟩
  by_cases hck : chk op fm [op, fm, r1, r2, x2, b1, d1, b2, d2, l1, l2, i2] = 0
  rotate_left
  · refine (Exec_bad2 op fm r1 r2 x2 b1 d1 b2 d2 l1 l2 i2 a0 a1 a2 a3 a4 a5 a6 a7 a8 a9 a10 a11 a12 a13 a14 a15 pm pk pM pW pP pc pi pq pg pa F.g w hkn hck).mono ?_
    rintro e w' ⟨rfl, hb⟩
    rw [← hO, show (xC op fm r1 r2 x2 b1 d1 b2 d2 l1 l2 i2 [a0, a1, a2, a3, a4, a5, a6, a7, a8, a9, a10, a11, a12, a13, a14, a15] pm pk pc pi pq pg pa bs ks) = ⟨1, [a0, a1, a2, a3, a4, a5, a6, a7, a8, a9, a10, a11, a12, a13, a14, a15], pq, pg, pa, false, bs⟩ from by unfold xC; rw [if_neg (by simp [hck])]]
    exact ⟨rfl, hs.belowS hb, Ch.of_below hb _⟩
  by_cases hv : pok pm pk pc pi pq pg pa = true
  rotate_left
  · refine (Exec_bad3 op fm r1 r2 x2 b1 d1 b2 d2 l1 l2 i2 a0 a1 a2 a3 a4 a5 a6 a7 a8 a9 a10 a11 a12 a13 a14 a15 pm pk pM pW pP pc pi pq pg pa F.g w hkn hck (by simpa using hv)).mono ?_
    rintro e w' ⟨rfl, hb⟩
    rw [← hO, show (xC op fm r1 r2 x2 b1 d1 b2 d2 l1 l2 i2 [a0, a1, a2, a3, a4, a5, a6, a7, a8, a9, a10, a11, a12, a13, a14, a15] pm pk pc pi pq pg pa bs ks) = ⟨1, [a0, a1, a2, a3, a4, a5, a6, a7, a8, a9, a10, a11, a12, a13, a14, a15], pq, pg, pa, false, bs⟩ from by unfold xC; rw [if_neg (by simp [hv])]]
    exact ⟨rfl, hs.belowS hb, Ch.of_below hb _⟩
  have hrg := chk_rng hck
  obtain ⟨-, hfo, ⟨hr10, hr11⟩, ⟨hr20, hr21⟩, ⟨hx0, hx1⟩, ⟨hb10, hb11⟩, hd1, ⟨hb20, hb21⟩, hd2, ⟨hl0, hl1⟩, -, hi2⟩ := hrg
  obtain ⟨n, rfl⟩ := Int.eq_ofNat_of_zero_le hr10
  obtain ⟨k, rfl⟩ := Int.eq_ofNat_of_zero_le hr20
  obtain ⟨xx, rfl⟩ := Int.eq_ofNat_of_zero_le hx0
  obtain ⟨bb1, rfl⟩ := Int.eq_ofNat_of_zero_le hb10
  obtain ⟨bb2, rfl⟩ := Int.eq_ofNat_of_zero_le hb20
  obtain ⟨ll, rfl⟩ := Int.eq_ofNat_of_zero_le hl0
  obtain ⟨-, -, -, -, -, q2, -⟩ := (pok_iff _ _ _ _ _ _ _).1 hv
  obtain ⟨u1, ha1⟩ : ∃ x, (d1 + sumB [a0, a1, a2, a3, a4, a5, a6, a7, a8, a9, a10, a11, a12, a13, a14, a15] [bb1]) % 16777216 = x := ⟨_, rfl⟩
  obtain ⟨u2, ha2⟩ : ∃ x, (d2 + sumB [a0, a1, a2, a3, a4, a5, a6, a7, a8, a9, a10, a11, a12, a13, a14, a15] [bb2, xx]) % 16777216 = x := ⟨_, rfl⟩
  obtain ⟨o, ho⟩ : ∃ o, exO ⟨[a0, a1, a2, a3, a4, a5, a6, a7, a8, a9, a10, a11, a12, a13, a14, a15], pk, pi, pq, pg, pa, bs, ks⟩ op fm n k u1 u2 ll i2 = o := ⟨_, rfl⟩
  have hx : (xC op fm (n : Int) (k : Int) (xx : Int) (bb1 : Int) d1 (bb2 : Int) d2 (ll : Int) l2 i2 [a0, a1, a2, a3, a4, a5, a6, a7, a8, a9, a10, a11, a12, a13, a14, a15] pm pk pc pi pq pg pa bs ks) = if o.c = 0 then { o with c := if o.ov = true ∧ 8 ≤ pg then 8 else 0 } else ⟨o.c, [a0, a1, a2, a3, a4, a5, a6, a7, a8, a9, a10, a11, a12, a13, a14, a15], pq, pg, pa, false, bs⟩ := by
    unfold xC
    rw [if_pos ⟨hkn, hck, hv⟩]
    simp only [Int.toNat_natCast, ha1, ha2, ho]
  rw [hx] at hO
  subst hO
  have HX : ∀ (g : Nat) (W : World), w.heap.size ≤ g → Below w.heap.size w W → Mc W g [op, fm, (n : Int), (k : Int), (xx : Int), (bb1 : Int), d1, (bb2 : Int), d2, (ll : Int), l2, i2] [a0, a1, a2, a3, a4, a5, a6, a7, a8, a9, a10, a11, a12, a13, a14, a15] [a0, a1, a2, a3, a4, a5, a6, a7, a8, a9, a10, a11, a12, a13, a14, a15] [.int .i64 pm, .int .i64 pk, .bool pM, .bool pW, .bool pP, .int .i64 pc, .int .i64 pi, .int .i64 pq, .int .i64 pg, .int .i64 pa] (.pointer (some ⟨F.g, 0, none⟩)) false → Calls Try.prog 31 #[.pointer (some ⟨g, 0, none⟩)] W (Ends g F [op, fm, (n : Int), (k : Int), (xx : Int), (bb1 : Int), d1, (bb2 : Int), d2, (ll : Int), l2, i2] [a0, a1, a2, a3, a4, a5, a6, a7, a8, a9, a10, a11, a12, a13, a14, a15] pm pk pM pW pP pc pi bs ks o W) := by
    intro g W hg hb hm
    have h1 := hs.ltg
    have h2 := hs.ltb
    have h3 := hs.ltk
    have := exec_gall g n k xx bb1 bb2 ll F op fm d1 d2 l2 i2 pm pk pM pW pP pc pi pq pg pa [a0, a1, a2, a3, a4, a5, a6, a7, a8, a9, a10, a11, a12, a13, a14, a15] bs ks W ⟨hm, hs.below hb h1 h2 h3, by omega, by omega, by omega⟩ ro (by omega) (by omega) (by omega) (by omega) (by omega) (by omega) hd1 hd2 hi2 u1 u2 ha1 ha2 hv hkn hfo
    rw [ho] at this
    exact this
  have hlen : o.rs.length = 16 := by rw [← ho, exO_len]; rfl
  have hF : ∀ k, k ∈ [F.gb] → k < w.heap.size := by simp; exact hs.ltb
  have hR : ∀ (B : List Int) (W W' : World), St 71 W F B ks → Below w.heap.size W W' → St 71 W' F B ks := fun B W W' h hb => h.below hb hs.ltg hs.ltb hs.ltk
  clear hx
  by_cases hc : o.c = 0
  · rw [if_pos hc]
    obtain ⟨oc, ors, occ, opg, oad, oov, obs⟩ := o
    simp only at hlen hc
    subst hc
    obtain ⟨N_0, N_1, N_2, N_3, N_4, N_5, N_6, N_7, N_8, N_9, N_10, N_11, N_12, N_13, N_14, N_15, rfl⟩ := list_16 hlen
    have HY : ∀ (g : Nat) (W : World), w.heap.size ≤ g → Below w.heap.size w W → Mc W g [op, fm, (n : Int), (k : Int), (xx : Int), (bb1 : Int), d1, (bb2 : Int), d2, (ll : Int), l2, i2] [a0, a1, a2, a3, a4, a5, a6, a7, a8, a9, a10, a11, a12, a13, a14, a15] [a0, a1, a2, a3, a4, a5, a6, a7, a8, a9, a10, a11, a12, a13, a14, a15] [.int .i64 pm, .int .i64 pk, .bool pM, .bool pW, .bool pP, .int .i64 pc, .int .i64 pi, .int .i64 pq, .int .i64 pg, .int .i64 pa] (.pointer (some ⟨F.g, 0, none⟩)) false → Calls Try.prog 31 #[.pointer (some ⟨g, 0, none⟩)] W fun e w' => e = .returned (.tuple #[]) ∧ Mc w' g [op, fm, (n : Int), (k : Int), (xx : Int), (bb1 : Int), d1, (bb2 : Int), d2, (ll : Int), l2, i2] [a0, a1, a2, a3, a4, a5, a6, a7, a8, a9, a10, a11, a12, a13, a14, a15] [N_0, N_1, N_2, N_3, N_4, N_5, N_6, N_7, N_8, N_9, N_10, N_11, N_12, N_13, N_14, N_15] (psL pm pk pM pW pP pc pi occ opg oad) (.pointer (some ⟨F.g, 0, none⟩)) oov ∧ Ch W w' [g, F.gb] ∧ St 71 w' F obs ks := by
      intro g W hg hb hm
      refine (HX g W hg hb hm).mono ?_
      rintro e w' ⟨h1, -, h3⟩
      obtain ⟨h4, h5⟩ := h1 rfl
      exact ⟨h4, h5.m, h3, h5.st⟩
    cases oov
    · refine (Exec_plain op fm (n : Int) (k : Int) (xx : Int) (bb1 : Int) d1 (bb2 : Int) d2 (ll : Int) l2 i2 a0 a1 a2 a3 a4 a5 a6 a7 a8 a9 a10 a11 a12 a13 a14 a15 pm pk pM pW pP pc pi pq pg pa F.g [F.gb] (fun w' => St 71 w' F obs ks) N_0 N_1 N_2 N_3 N_4 N_5 N_6 N_7 N_8 N_9 N_10 N_11 N_12 N_13 N_14 N_15 pm pk pM pW pP pc pi occ opg oad false w hkn hck hv hF (hR obs) (fun g W hg hb hm => HY g W hg hb hm) rfl).mono ?_
      rintro e w' ⟨rfl, h1, h2⟩
      exact ⟨by simp [agR, psL], h1, h2⟩
    · by_cases h8 : 8 ≤ pg
      · obtain ⟨p, rfl⟩ := Int.eq_ofNat_of_zero_le q2.1
        refine (Exec_over op fm (n : Int) (k : Int) (xx : Int) (bb1 : Int) d1 (bb2 : Int) d2 (ll : Int) l2 i2 a0 a1 a2 a3 a4 a5 a6 a7 a8 a9 a10 a11 a12 a13 a14 a15 pm pk pM pW pP pc pi pq (p : Int) pa F.g [F.gb] (fun w' => St 71 w' F obs ks) N_0 N_1 N_2 N_3 N_4 N_5 N_6 N_7 N_8 N_9 N_10 N_11 N_12 N_13 N_14 N_15 pm pk pM pW pP pc pi occ opg oad true w hkn hck hv hF (hR obs) (fun g W hg hb hm => HY g W hg hb hm) rfl (by rw [and8_lt p (by omega), if_pos (by omega)])).mono ?_
        rintro e w' ⟨rfl, h1, h2⟩
        rw [if_pos ⟨rfl, h8⟩]
        exact ⟨by simp [agR, psL], h1, h2⟩
      · obtain ⟨p, rfl⟩ := Int.eq_ofNat_of_zero_le q2.1
        refine (Exec_under op fm (n : Int) (k : Int) (xx : Int) (bb1 : Int) d1 (bb2 : Int) d2 (ll : Int) l2 i2 a0 a1 a2 a3 a4 a5 a6 a7 a8 a9 a10 a11 a12 a13 a14 a15 pm pk pM pW pP pc pi pq (p : Int) pa F.g [F.gb] (fun w' => St 71 w' F obs ks) N_0 N_1 N_2 N_3 N_4 N_5 N_6 N_7 N_8 N_9 N_10 N_11 N_12 N_13 N_14 N_15 pm pk pM pW pP pc pi occ opg oad true w hkn hck hv hF (hR obs) (fun g W hg hb hm => HY g W hg hb hm) rfl (by rw [and8_lt p (by omega), if_neg (by omega)])).mono ?_
        rintro e w' ⟨rfl, h1, h2⟩
        rw [if_neg (fun hx => h8 hx.2)]
        exact ⟨by simp [agR, psL], h1, h2⟩
  · rw [if_neg hc]
    refine (Exec_code op fm (n : Int) (k : Int) (xx : Int) (bb1 : Int) d1 (bb2 : Int) d2 (ll : Int) l2 i2 a0 a1 a2 a3 a4 a5 a6 a7 a8 a9 a10 a11 a12 a13 a14 a15 pm pk pM pW pP pc pi pq pg pa F.g [F.gb] (fun w' => St 71 w' F bs ks) o.c w hkn hck hv hF (hR bs) (fun g W hg hb hm => ?_)).mono ?_
    · refine (HX g W hg hb hm).mono ?_
      rintro e w' ⟨-, h2, h3⟩
      obtain ⟨h4, rs, ps, ov, h5⟩ := h2 hc
      exact ⟨h4, h3, h5.st⟩
    · rintro e w' ⟨rfl, h1, h2⟩
      exact ⟨by simp [agR, psL], h1, h2⟩
end Go.Proofs.Ythjdjbipfdigeaa

namespace Go.Proofs.Ythjdjbipfdigeaa
open Go.RowKit
set_option linter.unusedVariables false

theorem row_byt {w : World} {a : Option Addr} {len cap : Nat} {zs : List Int} (h : IsRow .u8 w a len cap zs) : Byt w a len (zs.take len) ∧ (a = none → cap = 0) ∧ len ≤ cap ∧ cap ≤ maxLen := by
  rcases h with ⟨rfl, rfl, rfl, rfl⟩ | ⟨x, rfl, hl, hm, hz, hc, hw⟩
  · exact ⟨⟨rfl, by simp, fun h => absurd h (by omega)⟩, fun _ => rfl, Nat.le_refl _, Nat.zero_le _⟩
  · refine ⟨⟨by rw [List.length_take]; omega, fun n hn => ?_, fun h0 => ?_⟩, (by intro h; cases h), hl, hm⟩
    · exact bounds_u8 (hw n (List.mem_of_mem_take hn))
    · obtain ⟨b, off, spot⟩ := x
      have h1 := hc 0 (by omega)
      have hspot : spot = none := by simpa [Addr.add] using World.cell?_spot h1
      subst hspot
      refine ⟨b, off, rfl, fun i hi => ?_⟩
      have h2 := hc i (by omega)
      have hadd : (⟨b, off, none⟩ : Addr).add i = ⟨b, off + i, none⟩ := by unfold Addr.add; split <;> simp_all
      rw [hadd] at h2
      rw [h2]
      simp [List.getD_eq_getElem?_getD, hi]

section
variable {w : World} {base n : Nat} {zs : List Int} {g cap : Nat}
theorem Own.cell (h : Own w base (.slice (some ⟨g, 0, none⟩) n cap) n zs) {k : Nat} (hk : k < n) : w.cell? ⟨g, k, none⟩ = some (.int .u8 (zs.getD k 0)) := by
  obtain ⟨b, off, e, hc⟩ := h.byt.2.2 (by omega)
  injection e with e; injection e with e1 e2; subst e1 e2
  have := hc k hk
  rwa [Nat.zero_add] at this
theorem Own.free (h : Own w base (.slice (some ⟨g, 0, none⟩) n cap) n zs) (k : Nat) : w.frozen? ⟨g, k, none⟩ = false := by
  obtain ⟨cur, q1, _⟩ := Own.heap h
  simp [World.frozen?, q1]
end
end Go.Proofs.Ythjdjbipfdigeaa

