/- Contracts and laws on the way to the statement, text 10 of 12. Conditions: as each states them. -/
import Derived.Test.YthjdjbipfdigeaaSw1
import Derived.Test.YthjdjbipfdigeaaSw6
import Derived.Test.YthjdjbipfdigeaaSw9
namespace Go.Proofs.Ythjdjbipfdigeaa
open Go.RowKit
set_option maxRecDepth 100000
set_option linter.unusedVariables false
set_option linter.unusedSimpArgs false
theorem mc_new (W : World) (is os rs : List Int) (ps : List Value) (s : Value) (ov : Bool) (h1 : is.length = 12) (h2 : os.length = 16) (h3 : rs.length = 16) (h4 : ps.length = 10) : Mc (W.alloc (.cells (mcC is os rs ps s ov).toArray 69)) W.heap.size is os rs ps s ov := ⟨heap_alloc_new W _, h1, h2, h3, h4⟩
set_option maxRecDepth 1000000 in
set_option maxHeartbeats 4000000 in
theorem Exec_plain (op fm r1 r2 x2 b1 d1 b2 d2 l1 l2 i2 : Int) (a0 a1 a2 a3 a4 a5 a6 a7 a8 a9 a10 a11 a12 a13 a14 a15 : Int) (pm pk : Int) (pM pW pP : Bool) (pc pi pq pg pa : Int) (sg : Nat) (L : List Nat) (R : World → Prop) (n0 n1 n2 n3 n4 n5 n6 n7 n8 n9 n10 n11 n12 n13 n14 n15 : Int) (vm vk : Int) (vM vW vP : Bool) (vc vi vq vg va : Int) (ov : Bool) (w : World) (hkn : kn op = true) (hck : chk op fm [op, fm, r1, r2, x2, b1, d1, b2, d2, l1, l2, i2] = 0) (hv : pok pm pk pc pi pq pg pa = true) (hL : ∀ k, k ∈ L → k < w.heap.size) (hR : ∀ W W', R W → Below w.heap.size W W' → R W') (hex : ∀ (g : Nat) (W : World), w.heap.size ≤ g → Below w.heap.size w W → Mc W g [op, fm, r1, r2, x2, b1, d1, b2, d2, l1, l2, i2] [a0, a1, a2, a3, a4, a5, a6, a7, a8, a9, a10, a11, a12, a13, a14, a15] [a0, a1, a2, a3, a4, a5, a6, a7, a8, a9, a10, a11, a12, a13, a14, a15] [.int .i64 pm, .int .i64 pk, .bool pM, .bool pW, .bool pP, .int .i64 pc, .int .i64 pi, .int .i64 pq, .int .i64 pg, .int .i64 pa] (.pointer (some ⟨sg, 0, none⟩)) false → Calls Try.prog 31 #[.pointer (some ⟨g, 0, none⟩)] W fun e w' => e = .returned (.tuple #[]) ∧ Mc w' g [op, fm, r1, r2, x2, b1, d1, b2, d2, l1, l2, i2] [a0, a1, a2, a3, a4, a5, a6, a7, a8, a9, a10, a11, a12, a13, a14, a15] [n0, n1, n2, n3, n4, n5, n6, n7, n8, n9, n10, n11, n12, n13, n14, n15] [(.int .i64 vm), (.int .i64 vk), (.bool vM), (.bool vW), (.bool vP), (.int .i64 vc), (.int .i64 vi), (.int .i64 vq), (.int .i64 vg), (.int .i64 va)] (.pointer (some ⟨sg, 0, none⟩)) ov ∧ Ch W w' (g :: L) ∧ R w') (ho : ov = false) : Calls Try.prog 14 #[.agg #[.int .i64 op, .int .i64 fm, .int .i64 r1, .int .i64 r2, .int .i64 x2, .int .i64 b1, .int .i64 d1, .int .i64 b2, .int .i64 d2, .int .i64 l1, .int .i64 l2, .int .i64 i2], .agg #[.int .u32 a0, .int .u32 a1, .int .u32 a2, .int .u32 a3, .int .u32 a4, .int .u32 a5, .int .u32 a6, .int .u32 a7, .int .u32 a8, .int .u32 a9, .int .u32 a10, .int .u32 a11, .int .u32 a12, .int .u32 a13, .int .u32 a14, .int .u32 a15], .agg #[.int .i64 pm, .int .i64 pk, .bool pM, .bool pW, .bool pP, .int .i64 pc, .int .i64 pi, .int .i64 pq, .int .i64 pg, .int .i64 pa], .pointer (some ⟨sg, 0, none⟩)] w fun e w' => e = .returned (.tuple #[.agg #[.int .u32 n0, .int .u32 n1, .int .u32 n2, .int .u32 n3, .int .u32 n4, .int .u32 n5, .int .u32 n6, .int .u32 n7, .int .u32 n8, .int .u32 n9, .int .u32 n10, .int .u32 n11, .int .u32 n12, .int .u32 n13, .int .u32 n14, .int .u32 n15], .agg #[(.int .i64 vm), (.int .i64 vk), (.bool vM), (.bool vW), (.bool vP), (.int .i64 vc), (.int .i64 vi), (.int .i64 vq), (.int .i64 vg), (.int .i64 va)], .int .i64 0]) ∧ R w' ∧ Ch w w' L := by
  have hmf : ∀ (fn : Fn) (first cap : Array Value) (w : World), (Instr.makeFunc fn first cap).run Try.prog w = .ok (.func fn first cap) w := fun _ _ _ _ => rfl
  have KC := Lib.hid (fun W => knows_c op W)
  rw [hkn] at KC
  have CC := Lib.hid (fun W => icheck_c op fm r1 r2 x2 b1 d1 b2 d2 l1 l2 i2 W)
  rw [hck] at CC
  have VC := Lib.hid (fun W => valid_c pm pk pM pW pP pc pi pq pg pa W)
  rw [hv] at VC
  subst ho
  have HX := Lib.hid hex
  have HLL := Lib.hid hL
  have HRR := Lib.hid hR
  clear hkn hck hv hex hL hR
  go_enter_defers Try.func14, Try.ntmps14
  go_upto_region 1 with fail
  have X0 := Lib.hid (show XF w ((((((w.alloc (.cells #[.int .i64 op, .int .i64 fm, .int .i64 r1, .int .i64 r2, .int .i64 x2, .int .i64 b1, .int .i64 d1, .int .i64 b2, .int .i64 d2, .int .i64 l1, .int .i64 l2, .int .i64 i2] 25)).alloc (.cells #[.int .u32 a0, .int .u32 a1, .int .u32 a2, .int .u32 a3, .int .u32 a4, .int .u32 a5, .int .u32 a6, .int .u32 a7, .int .u32 a8, .int .u32 a9, .int .u32 a10, .int .u32 a11, .int .u32 a12, .int .u32 a13, .int .u32 a14, .int .u32 a15] 28)).alloc (.cells #[.int .i64 pm, .int .i64 pk, .bool pM, .bool pW, .bool pP, .int .i64 pc, .int .i64 pi, .int .i64 pq, .int .i64 pg, .int .i64 pa] 30)).alloc (.cells #[.int .u32 0, .int .u32 0, .int .u32 0, .int .u32 0, .int .u32 0, .int .u32 0, .int .u32 0, .int .u32 0, .int .u32 0, .int .u32 0, .int .u32 0, .int .u32 0, .int .u32 0, .int .u32 0, .int .u32 0, .int .u32 0] 28)).alloc (.cells #[.int .i64 0, .int .i64 0, .bool false, .bool false, .bool false, .int .i64 0, .int .i64 0, .int .i64 0, .int .i64 0, .int .i64 0] 30)).alloc (.cells #[.int .i64 0] 3)) [] [op, fm, r1, r2, x2, b1, d1, b2, d2, l1, l2, i2] [a0, a1, a2, a3, a4, a5, a6, a7, a8, a9, a10, a11, a12, a13, a14, a15] [.int .i64 pm, .int .i64 pk, .bool pM, .bool pW, .bool pP, .int .i64 pc, .int .i64 pi, .int .i64 pq, .int .i64 pg, .int .i64 pa] [.int .u32 0, .int .u32 0, .int .u32 0, .int .u32 0, .int .u32 0, .int .u32 0, .int .u32 0, .int .u32 0, .int .u32 0, .int .u32 0, .int .u32 0, .int .u32 0, .int .u32 0, .int .u32 0, .int .u32 0, .int .u32 0] [.int .i64 0, .int .i64 0, .bool false, .bool false, .bool false, .int .i64 0, .int .i64 0, .int .i64 0, .int .i64 0, .int .i64 0] (.int .i64 0) from XF.start w [] [op, fm, r1, r2, x2, b1, d1, b2, d2, l1, l2, i2] [a0, a1, a2, a3, a4, a5, a6, a7, a8, a9, a10, a11, a12, a13, a14, a15] [.int .i64 pm, .int .i64 pk, .bool pM, .bool pW, .bool pP, .int .i64 pc, .int .i64 pi, .int .i64 pq, .int .i64 pg, .int .i64 pa] [.int .u32 0, .int .u32 0, .int .u32 0, .int .u32 0, .int .u32 0, .int .u32 0, .int .u32 0, .int .u32 0, .int .u32 0, .int .u32 0, .int .u32 0, .int .u32 0, .int .u32 0, .int .u32 0, .int .u32 0, .int .u32 0] [.int .i64 0, .int .i64 0, .bool false, .bool false, .bool false, .int .i64 0, .int .i64 0, .int .i64 0, .int .i64 0, .int .i64 0] (.int .i64 0))
  obtain ⟨W0, hW0⟩ : ∃ W0, ((((((w.alloc (.cells #[.int .i64 op, .int .i64 fm, .int .i64 r1, .int .i64 r2, .int .i64 x2, .int .i64 b1, .int .i64 d1, .int .i64 b2, .int .i64 d2, .int .i64 l1, .int .i64 l2, .int .i64 i2] 25)).alloc (.cells #[.int .u32 a0, .int .u32 a1, .int .u32 a2, .int .u32 a3, .int .u32 a4, .int .u32 a5, .int .u32 a6, .int .u32 a7, .int .u32 a8, .int .u32 a9, .int .u32 a10, .int .u32 a11, .int .u32 a12, .int .u32 a13, .int .u32 a14, .int .u32 a15] 28)).alloc (.cells #[.int .i64 pm, .int .i64 pk, .bool pM, .bool pW, .bool pP, .int .i64 pc, .int .i64 pi, .int .i64 pq, .int .i64 pg, .int .i64 pa] 30)).alloc (.cells #[.int .u32 0, .int .u32 0, .int .u32 0, .int .u32 0, .int .u32 0, .int .u32 0, .int .u32 0, .int .u32 0, .int .u32 0, .int .u32 0, .int .u32 0, .int .u32 0, .int .u32 0, .int .u32 0, .int .u32 0, .int .u32 0] 28)).alloc (.cells #[.int .i64 0, .int .i64 0, .bool false, .bool false, .bool false, .int .i64 0, .int .i64 0, .int .i64 0, .int .i64 0, .int .i64 0] 30)).alloc (.cells #[.int .i64 0] 3)) = W0 := ⟨_, rfl⟩
  rw [hW0] at X0
  try rw [hW0]
  clear hW0
  have hb0 : W0.cell? ⟨w.heap.size, 0, none⟩ = some (.int .i64 op) := X0.out.b0.cell (c := 0) rfl
  go_upto_region 3 with (first
    | (go_at_call 11; refine (KC.out _).mono ?_; rintro e w1 ⟨rfl, nk, hw1⟩; have X1 := Lib.hid (X0.out.keep (below_of_drew hw1)); clear hw1; have ka0 : w1.cell? ⟨w.heap.size, 0, none⟩ = some (.int .i64 op) := X1.out.b0.cell (c := 0) rfl; have ka1 : w1.cell? ⟨w.heap.size, 1, none⟩ = some (.int .i64 fm) := X1.out.b0.cell (c := 1) rfl; have ka2 : w1.cell? ⟨w.heap.size, 2, none⟩ = some (.int .i64 r1) := X1.out.b0.cell (c := 2) rfl; have ka3 : w1.cell? ⟨w.heap.size, 3, none⟩ = some (.int .i64 r2) := X1.out.b0.cell (c := 3) rfl; have ka4 : w1.cell? ⟨w.heap.size, 4, none⟩ = some (.int .i64 x2) := X1.out.b0.cell (c := 4) rfl; have ka5 : w1.cell? ⟨w.heap.size, 5, none⟩ = some (.int .i64 b1) := X1.out.b0.cell (c := 5) rfl; have ka6 : w1.cell? ⟨w.heap.size, 6, none⟩ = some (.int .i64 d1) := X1.out.b0.cell (c := 6) rfl; have ka7 : w1.cell? ⟨w.heap.size, 7, none⟩ = some (.int .i64 b2) := X1.out.b0.cell (c := 7) rfl; have ka8 : w1.cell? ⟨w.heap.size, 8, none⟩ = some (.int .i64 d2) := X1.out.b0.cell (c := 8) rfl; have ka9 : w1.cell? ⟨w.heap.size, 9, none⟩ = some (.int .i64 l1) := X1.out.b0.cell (c := 9) rfl; have ka10 : w1.cell? ⟨w.heap.size, 10, none⟩ = some (.int .i64 l2) := X1.out.b0.cell (c := 10) rfl; have ka11 : w1.cell? ⟨w.heap.size, 11, none⟩ = some (.int .i64 i2) := X1.out.b0.cell (c := 11) rfl)
    | (go_at_call 28; refine (CC.out _).mono ?_; rintro e w2 ⟨rfl, hb⟩; have X2 := Lib.hid (X1.out.keep hb); clear hb; have kb0 : w2.cell? ⟨w.heap.size + 1 + 1, 0, none⟩ = some (.int .i64 pm) := X2.out.b2.cell (c := 0) rfl; have kb1 : w2.cell? ⟨w.heap.size + 1 + 1, 1, none⟩ = some (.int .i64 pk) := X2.out.b2.cell (c := 1) rfl; have kb2 : w2.cell? ⟨w.heap.size + 1 + 1, 2, none⟩ = some (.bool pM) := X2.out.b2.cell (c := 2) rfl; have kb3 : w2.cell? ⟨w.heap.size + 1 + 1, 3, none⟩ = some (.bool pW) := X2.out.b2.cell (c := 3) rfl; have kb4 : w2.cell? ⟨w.heap.size + 1 + 1, 4, none⟩ = some (.bool pP) := X2.out.b2.cell (c := 4) rfl; have kb5 : w2.cell? ⟨w.heap.size + 1 + 1, 5, none⟩ = some (.int .i64 pc) := X2.out.b2.cell (c := 5) rfl; have kb6 : w2.cell? ⟨w.heap.size + 1 + 1, 6, none⟩ = some (.int .i64 pi) := X2.out.b2.cell (c := 6) rfl; have kb7 : w2.cell? ⟨w.heap.size + 1 + 1, 7, none⟩ = some (.int .i64 pq) := X2.out.b2.cell (c := 7) rfl; have kb8 : w2.cell? ⟨w.heap.size + 1 + 1, 8, none⟩ = some (.int .i64 pg) := X2.out.b2.cell (c := 8) rfl; have kb9 : w2.cell? ⟨w.heap.size + 1 + 1, 9, none⟩ = some (.int .i64 pa) := X2.out.b2.cell (c := 9) rfl)
    | (go_at_call 29; refine (VC.out _).mono ?_; rintro e W ⟨rfl, hb⟩; have X3 := Lib.hid (X2.out.keep hb); clear hb))
  clear X0 X1 X2 hb0 ka0 ka1 ka2 ka3 ka4 ka5 ka6 ka7 ka8 ka9 ka10 ka11 kb0 kb1 kb2 kb3 kb4 kb5 kb6 kb7 kb8 kb9
  have ka0 : W.cell? ⟨w.heap.size, 0, none⟩ = some (.int .i64 op) := X3.out.b0.cell (c := 0) rfl
  have ka1 : W.cell? ⟨w.heap.size, 1, none⟩ = some (.int .i64 fm) := X3.out.b0.cell (c := 1) rfl
  have ka2 : W.cell? ⟨w.heap.size, 2, none⟩ = some (.int .i64 r1) := X3.out.b0.cell (c := 2) rfl
  have ka3 : W.cell? ⟨w.heap.size, 3, none⟩ = some (.int .i64 r2) := X3.out.b0.cell (c := 3) rfl
  have ka4 : W.cell? ⟨w.heap.size, 4, none⟩ = some (.int .i64 x2) := X3.out.b0.cell (c := 4) rfl
  have ka5 : W.cell? ⟨w.heap.size, 5, none⟩ = some (.int .i64 b1) := X3.out.b0.cell (c := 5) rfl
  have ka6 : W.cell? ⟨w.heap.size, 6, none⟩ = some (.int .i64 d1) := X3.out.b0.cell (c := 6) rfl
  have ka7 : W.cell? ⟨w.heap.size, 7, none⟩ = some (.int .i64 b2) := X3.out.b0.cell (c := 7) rfl
  have ka8 : W.cell? ⟨w.heap.size, 8, none⟩ = some (.int .i64 d2) := X3.out.b0.cell (c := 8) rfl
  have ka9 : W.cell? ⟨w.heap.size, 9, none⟩ = some (.int .i64 l1) := X3.out.b0.cell (c := 9) rfl
  have ka10 : W.cell? ⟨w.heap.size, 10, none⟩ = some (.int .i64 l2) := X3.out.b0.cell (c := 10) rfl
  have ka11 : W.cell? ⟨w.heap.size, 11, none⟩ = some (.int .i64 i2) := X3.out.b0.cell (c := 11) rfl
  have kc0 : W.cell? ⟨w.heap.size + 1, 0, none⟩ = some (.int .u32 a0) := X3.out.b1.cell (c := 0) rfl
  have kc1 : W.cell? ⟨w.heap.size + 1, 1, none⟩ = some (.int .u32 a1) := X3.out.b1.cell (c := 1) rfl
  have kc2 : W.cell? ⟨w.heap.size + 1, 2, none⟩ = some (.int .u32 a2) := X3.out.b1.cell (c := 2) rfl
  have kc3 : W.cell? ⟨w.heap.size + 1, 3, none⟩ = some (.int .u32 a3) := X3.out.b1.cell (c := 3) rfl
  have kc4 : W.cell? ⟨w.heap.size + 1, 4, none⟩ = some (.int .u32 a4) := X3.out.b1.cell (c := 4) rfl
  have kc5 : W.cell? ⟨w.heap.size + 1, 5, none⟩ = some (.int .u32 a5) := X3.out.b1.cell (c := 5) rfl
  have kc6 : W.cell? ⟨w.heap.size + 1, 6, none⟩ = some (.int .u32 a6) := X3.out.b1.cell (c := 6) rfl
  have kc7 : W.cell? ⟨w.heap.size + 1, 7, none⟩ = some (.int .u32 a7) := X3.out.b1.cell (c := 7) rfl
  have kc8 : W.cell? ⟨w.heap.size + 1, 8, none⟩ = some (.int .u32 a8) := X3.out.b1.cell (c := 8) rfl
  have kc9 : W.cell? ⟨w.heap.size + 1, 9, none⟩ = some (.int .u32 a9) := X3.out.b1.cell (c := 9) rfl
  have kc10 : W.cell? ⟨w.heap.size + 1, 10, none⟩ = some (.int .u32 a10) := X3.out.b1.cell (c := 10) rfl
  have kc11 : W.cell? ⟨w.heap.size + 1, 11, none⟩ = some (.int .u32 a11) := X3.out.b1.cell (c := 11) rfl
  have kc12 : W.cell? ⟨w.heap.size + 1, 12, none⟩ = some (.int .u32 a12) := X3.out.b1.cell (c := 12) rfl
  have kc13 : W.cell? ⟨w.heap.size + 1, 13, none⟩ = some (.int .u32 a13) := X3.out.b1.cell (c := 13) rfl
  have kc14 : W.cell? ⟨w.heap.size + 1, 14, none⟩ = some (.int .u32 a14) := X3.out.b1.cell (c := 14) rfl
  have kc15 : W.cell? ⟨w.heap.size + 1, 15, none⟩ = some (.int .u32 a15) := X3.out.b1.cell (c := 15) rfl
  have kb0 : W.cell? ⟨w.heap.size + 1 + 1, 0, none⟩ = some (.int .i64 pm) := X3.out.b2.cell (c := 0) rfl
  have kb1 : W.cell? ⟨w.heap.size + 1 + 1, 1, none⟩ = some (.int .i64 pk) := X3.out.b2.cell (c := 1) rfl
  have kb2 : W.cell? ⟨w.heap.size + 1 + 1, 2, none⟩ = some (.bool pM) := X3.out.b2.cell (c := 2) rfl
  have kb3 : W.cell? ⟨w.heap.size + 1 + 1, 3, none⟩ = some (.bool pW) := X3.out.b2.cell (c := 3) rfl
  have kb4 : W.cell? ⟨w.heap.size + 1 + 1, 4, none⟩ = some (.bool pP) := X3.out.b2.cell (c := 4) rfl
  have kb5 : W.cell? ⟨w.heap.size + 1 + 1, 5, none⟩ = some (.int .i64 pc) := X3.out.b2.cell (c := 5) rfl
  have kb6 : W.cell? ⟨w.heap.size + 1 + 1, 6, none⟩ = some (.int .i64 pi) := X3.out.b2.cell (c := 6) rfl
  have kb7 : W.cell? ⟨w.heap.size + 1 + 1, 7, none⟩ = some (.int .i64 pq) := X3.out.b2.cell (c := 7) rfl
  have kb8 : W.cell? ⟨w.heap.size + 1 + 1, 8, none⟩ = some (.int .i64 pg) := X3.out.b2.cell (c := 8) rfl
  have kb9 : W.cell? ⟨w.heap.size + 1 + 1, 9, none⟩ = some (.int .i64 pa) := X3.out.b2.cell (c := 9) rfl
  go_upto_region 5 with fail
  clear ka0 ka1 ka2 ka3 ka4 ka5 ka6 ka7 ka8 ka9 ka10 ka11 kc0 kc1 kc2 kc3 kc4 kc5 kc6 kc7 kc8 kc9 kc10 kc11 kc12 kc13 kc14 kc15 kb0 kb1 kb2 kb3 kb4 kb5 kb6 kb7 kb8 kb9
  have M4 : Hid (Mc (W.alloc (.cells #[.int .i64 op, .int .i64 fm, .int .i64 r1, .int .i64 r2, .int .i64 x2, .int .i64 b1, .int .i64 d1, .int .i64 b2, .int .i64 d2, .int .i64 l1, .int .i64 l2, .int .i64 i2, .int .u32 a0, .int .u32 a1, .int .u32 a2, .int .u32 a3, .int .u32 a4, .int .u32 a5, .int .u32 a6, .int .u32 a7, .int .u32 a8, .int .u32 a9, .int .u32 a10, .int .u32 a11, .int .u32 a12, .int .u32 a13, .int .u32 a14, .int .u32 a15, .int .u32 a0, .int .u32 a1, .int .u32 a2, .int .u32 a3, .int .u32 a4, .int .u32 a5, .int .u32 a6, .int .u32 a7, .int .u32 a8, .int .u32 a9, .int .u32 a10, .int .u32 a11, .int .u32 a12, .int .u32 a13, .int .u32 a14, .int .u32 a15, .int .i64 pm, .int .i64 pk, .bool pM, .bool pW, .bool pP, .int .i64 pc, .int .i64 pi, .int .i64 pq, .int .i64 pg, .int .i64 pa, .pointer (some ⟨sg, 0, none⟩), .bool false] 69)) W.heap.size [op, fm, r1, r2, x2, b1, d1, b2, d2, l1, l2, i2] [a0, a1, a2, a3, a4, a5, a6, a7, a8, a9, a10, a11, a12, a13, a14, a15] [a0, a1, a2, a3, a4, a5, a6, a7, a8, a9, a10, a11, a12, a13, a14, a15] [.int .i64 pm, .int .i64 pk, .bool pM, .bool pW, .bool pP, .int .i64 pc, .int .i64 pi, .int .i64 pq, .int .i64 pg, .int .i64 pa] (.pointer (some ⟨sg, 0, none⟩)) false) := mc_new W [op, fm, r1, r2, x2, b1, d1, b2, d2, l1, l2, i2] [a0, a1, a2, a3, a4, a5, a6, a7, a8, a9, a10, a11, a12, a13, a14, a15] [a0, a1, a2, a3, a4, a5, a6, a7, a8, a9, a10, a11, a12, a13, a14, a15] [.int .i64 pm, .int .i64 pk, .bool pM, .bool pW, .bool pP, .int .i64 pc, .int .i64 pi, .int .i64 pq, .int .i64 pg, .int .i64 pa] (.pointer (some ⟨sg, 0, none⟩)) false rfl rfl rfl rfl
  have X4 := Lib.hid (X3.out.keep ((Below.refl W.heap.size W).alloc (Nat.le_refl _) (.cells #[.int .i64 op, .int .i64 fm, .int .i64 r1, .int .i64 r2, .int .i64 x2, .int .i64 b1, .int .i64 d1, .int .i64 b2, .int .i64 d2, .int .i64 l1, .int .i64 l2, .int .i64 i2, .int .u32 a0, .int .u32 a1, .int .u32 a2, .int .u32 a3, .int .u32 a4, .int .u32 a5, .int .u32 a6, .int .u32 a7, .int .u32 a8, .int .u32 a9, .int .u32 a10, .int .u32 a11, .int .u32 a12, .int .u32 a13, .int .u32 a14, .int .u32 a15, .int .u32 a0, .int .u32 a1, .int .u32 a2, .int .u32 a3, .int .u32 a4, .int .u32 a5, .int .u32 a6, .int .u32 a7, .int .u32 a8, .int .u32 a9, .int .u32 a10, .int .u32 a11, .int .u32 a12, .int .u32 a13, .int .u32 a14, .int .u32 a15, .int .i64 pm, .int .i64 pk, .bool pM, .bool pW, .bool pP, .int .i64 pc, .int .i64 pi, .int .i64 pq, .int .i64 pg, .int .i64 pa, .pointer (some ⟨sg, 0, none⟩), .bool false] 69)))
  have hgm : w.heap.size + 6 ≤ W.heap.size := by have := X3.out.b5.lt; omega
  obtain ⟨W4, hW4⟩ : ∃ W4, W.alloc (.cells #[.int .i64 op, .int .i64 fm, .int .i64 r1, .int .i64 r2, .int .i64 x2, .int .i64 b1, .int .i64 d1, .int .i64 b2, .int .i64 d2, .int .i64 l1, .int .i64 l2, .int .i64 i2, .int .u32 a0, .int .u32 a1, .int .u32 a2, .int .u32 a3, .int .u32 a4, .int .u32 a5, .int .u32 a6, .int .u32 a7, .int .u32 a8, .int .u32 a9, .int .u32 a10, .int .u32 a11, .int .u32 a12, .int .u32 a13, .int .u32 a14, .int .u32 a15, .int .u32 a0, .int .u32 a1, .int .u32 a2, .int .u32 a3, .int .u32 a4, .int .u32 a5, .int .u32 a6, .int .u32 a7, .int .u32 a8, .int .u32 a9, .int .u32 a10, .int .u32 a11, .int .u32 a12, .int .u32 a13, .int .u32 a14, .int .u32 a15, .int .i64 pm, .int .i64 pk, .bool pM, .bool pW, .bool pP, .int .i64 pc, .int .i64 pi, .int .i64 pq, .int .i64 pg, .int .i64 pa, .pointer (some ⟨sg, 0, none⟩), .bool false] 69) = W4 := ⟨_, rfl⟩
  rw [hW4] at M4 X4
  try rw [hW4]
  obtain ⟨gm, hg⟩ : ∃ gm, W.heap.size = gm := ⟨_, rfl⟩
  rw [hg] at M4 hgm
  simp only [hg]
  have B4 := Lib.hid (X4.out.be.below (Nat.le_refl _) (by simp))
  clear hW4 hg X3
  go_upto_region 6 with (go_at_call 31; refine (HX.out gm W4 (by omega) B4.out M4.out).mono ?_; rintro e W5 ⟨rfl, hM, hC, hr⟩; have M5 := Lib.hid hM; have X5 := Lib.hid (X4.out.ch hC HLL.out hgm); have R5 := Lib.hid hr; clear hM hC hr)
  have cv := M5.out.cv
  have hgm' : gm ≠ w.heap.size + 1 + 1 + 1 ∧ gm ≠ w.heap.size + 1 + 1 + 1 + 1 ∧ gm ≠ w.heap.size + 1 + 1 + 1 + 1 + 1 := by omega
  obtain ⟨hq1, hq2, hq3⟩ := hgm'
  go_upto_region 8 with fail
  clear cv
  have mr0 : W5.cell? ⟨gm, 28, none⟩ = some (.int .u32 n0) := M5.out.cr (n := 0) (by omega)
  have mr1 : W5.cell? ⟨gm, 29, none⟩ = some (.int .u32 n1) := M5.out.cr (n := 1) (by omega)
  have mr2 : W5.cell? ⟨gm, 30, none⟩ = some (.int .u32 n2) := M5.out.cr (n := 2) (by omega)
  have mr3 : W5.cell? ⟨gm, 31, none⟩ = some (.int .u32 n3) := M5.out.cr (n := 3) (by omega)
  have mr4 : W5.cell? ⟨gm, 32, none⟩ = some (.int .u32 n4) := M5.out.cr (n := 4) (by omega)
  have mr5 : W5.cell? ⟨gm, 33, none⟩ = some (.int .u32 n5) := M5.out.cr (n := 5) (by omega)
  have mr6 : W5.cell? ⟨gm, 34, none⟩ = some (.int .u32 n6) := M5.out.cr (n := 6) (by omega)
  have mr7 : W5.cell? ⟨gm, 35, none⟩ = some (.int .u32 n7) := M5.out.cr (n := 7) (by omega)
  have mr8 : W5.cell? ⟨gm, 36, none⟩ = some (.int .u32 n8) := M5.out.cr (n := 8) (by omega)
  have mr9 : W5.cell? ⟨gm, 37, none⟩ = some (.int .u32 n9) := M5.out.cr (n := 9) (by omega)
  have mr10 : W5.cell? ⟨gm, 38, none⟩ = some (.int .u32 n10) := M5.out.cr (n := 10) (by omega)
  have mr11 : W5.cell? ⟨gm, 39, none⟩ = some (.int .u32 n11) := M5.out.cr (n := 11) (by omega)
  have mr12 : W5.cell? ⟨gm, 40, none⟩ = some (.int .u32 n12) := M5.out.cr (n := 12) (by omega)
  have mr13 : W5.cell? ⟨gm, 41, none⟩ = some (.int .u32 n13) := M5.out.cr (n := 13) (by omega)
  have mr14 : W5.cell? ⟨gm, 42, none⟩ = some (.int .u32 n14) := M5.out.cr (n := 14) (by omega)
  have mr15 : W5.cell? ⟨gm, 43, none⟩ = some (.int .u32 n15) := M5.out.cr (n := 15) (by omega)
  have mp0 : W5.cell? ⟨gm, 44, none⟩ = some (.int .i64 vm) := M5.out.cp (n := 0) (by omega)
  have mp1 : W5.cell? ⟨gm, 45, none⟩ = some (.int .i64 vk) := M5.out.cp (n := 1) (by omega)
  have mp2 : W5.cell? ⟨gm, 46, none⟩ = some (.bool vM) := M5.out.cp (n := 2) (by omega)
  have mp3 : W5.cell? ⟨gm, 47, none⟩ = some (.bool vW) := M5.out.cp (n := 3) (by omega)
  have mp4 : W5.cell? ⟨gm, 48, none⟩ = some (.bool vP) := M5.out.cp (n := 4) (by omega)
  have mp5 : W5.cell? ⟨gm, 49, none⟩ = some (.int .i64 vc) := M5.out.cp (n := 5) (by omega)
  have mp6 : W5.cell? ⟨gm, 50, none⟩ = some (.int .i64 vi) := M5.out.cp (n := 6) (by omega)
  have mp7 : W5.cell? ⟨gm, 51, none⟩ = some (.int .i64 vq) := M5.out.cp (n := 7) (by omega)
  have mp8 : W5.cell? ⟨gm, 52, none⟩ = some (.int .i64 vg) := M5.out.cp (n := 8) (by omega)
  have mp9 : W5.cell? ⟨gm, 53, none⟩ = some (.int .i64 va) := M5.out.cp (n := 9) (by omega)
  have xa0 : W5.cell? ⟨w.heap.size + 1 + 1 + 1, 0, none⟩ = some (.int .u32 0) := X5.out.b3.cell (c := 0) rfl
  have xaf0 := X5.out.b3.free 0
  have xa1 : W5.cell? ⟨w.heap.size + 1 + 1 + 1, 1, none⟩ = some (.int .u32 0) := X5.out.b3.cell (c := 1) rfl
  have xaf1 := X5.out.b3.free 1
  have xa2 : W5.cell? ⟨w.heap.size + 1 + 1 + 1, 2, none⟩ = some (.int .u32 0) := X5.out.b3.cell (c := 2) rfl
  have xaf2 := X5.out.b3.free 2
  have xa3 : W5.cell? ⟨w.heap.size + 1 + 1 + 1, 3, none⟩ = some (.int .u32 0) := X5.out.b3.cell (c := 3) rfl
  have xaf3 := X5.out.b3.free 3
  have xa4 : W5.cell? ⟨w.heap.size + 1 + 1 + 1, 4, none⟩ = some (.int .u32 0) := X5.out.b3.cell (c := 4) rfl
  have xaf4 := X5.out.b3.free 4
  have xa5 : W5.cell? ⟨w.heap.size + 1 + 1 + 1, 5, none⟩ = some (.int .u32 0) := X5.out.b3.cell (c := 5) rfl
  have xaf5 := X5.out.b3.free 5
  have xa6 : W5.cell? ⟨w.heap.size + 1 + 1 + 1, 6, none⟩ = some (.int .u32 0) := X5.out.b3.cell (c := 6) rfl
  have xaf6 := X5.out.b3.free 6
  have xa7 : W5.cell? ⟨w.heap.size + 1 + 1 + 1, 7, none⟩ = some (.int .u32 0) := X5.out.b3.cell (c := 7) rfl
  have xaf7 := X5.out.b3.free 7
  have xa8 : W5.cell? ⟨w.heap.size + 1 + 1 + 1, 8, none⟩ = some (.int .u32 0) := X5.out.b3.cell (c := 8) rfl
  have xaf8 := X5.out.b3.free 8
  have xa9 : W5.cell? ⟨w.heap.size + 1 + 1 + 1, 9, none⟩ = some (.int .u32 0) := X5.out.b3.cell (c := 9) rfl
  have xaf9 := X5.out.b3.free 9
  have xa10 : W5.cell? ⟨w.heap.size + 1 + 1 + 1, 10, none⟩ = some (.int .u32 0) := X5.out.b3.cell (c := 10) rfl
  have xaf10 := X5.out.b3.free 10
  have xa11 : W5.cell? ⟨w.heap.size + 1 + 1 + 1, 11, none⟩ = some (.int .u32 0) := X5.out.b3.cell (c := 11) rfl
  have xaf11 := X5.out.b3.free 11
  have xa12 : W5.cell? ⟨w.heap.size + 1 + 1 + 1, 12, none⟩ = some (.int .u32 0) := X5.out.b3.cell (c := 12) rfl
  have xaf12 := X5.out.b3.free 12
  have xa13 : W5.cell? ⟨w.heap.size + 1 + 1 + 1, 13, none⟩ = some (.int .u32 0) := X5.out.b3.cell (c := 13) rfl
  have xaf13 := X5.out.b3.free 13
  have xa14 : W5.cell? ⟨w.heap.size + 1 + 1 + 1, 14, none⟩ = some (.int .u32 0) := X5.out.b3.cell (c := 14) rfl
  have xaf14 := X5.out.b3.free 14
  have xa15 : W5.cell? ⟨w.heap.size + 1 + 1 + 1, 15, none⟩ = some (.int .u32 0) := X5.out.b3.cell (c := 15) rfl
  have xaf15 := X5.out.b3.free 15
  have ya0 : W5.cell? ⟨w.heap.size + 1 + 1 + 1 + 1, 0, none⟩ = some (.int .i64 0) := X5.out.b4.cell (c := 0) rfl
  have yaf0 := X5.out.b4.free 0
  have ya1 : W5.cell? ⟨w.heap.size + 1 + 1 + 1 + 1, 1, none⟩ = some (.int .i64 0) := X5.out.b4.cell (c := 1) rfl
  have yaf1 := X5.out.b4.free 1
  have ya2 : W5.cell? ⟨w.heap.size + 1 + 1 + 1 + 1, 2, none⟩ = some (.bool false) := X5.out.b4.cell (c := 2) rfl
  have yaf2 := X5.out.b4.free 2
  have ya3 : W5.cell? ⟨w.heap.size + 1 + 1 + 1 + 1, 3, none⟩ = some (.bool false) := X5.out.b4.cell (c := 3) rfl
  have yaf3 := X5.out.b4.free 3
  have ya4 : W5.cell? ⟨w.heap.size + 1 + 1 + 1 + 1, 4, none⟩ = some (.bool false) := X5.out.b4.cell (c := 4) rfl
  have yaf4 := X5.out.b4.free 4
  have ya5 : W5.cell? ⟨w.heap.size + 1 + 1 + 1 + 1, 5, none⟩ = some (.int .i64 0) := X5.out.b4.cell (c := 5) rfl
  have yaf5 := X5.out.b4.free 5
  have ya6 : W5.cell? ⟨w.heap.size + 1 + 1 + 1 + 1, 6, none⟩ = some (.int .i64 0) := X5.out.b4.cell (c := 6) rfl
  have yaf6 := X5.out.b4.free 6
  have ya7 : W5.cell? ⟨w.heap.size + 1 + 1 + 1 + 1, 7, none⟩ = some (.int .i64 0) := X5.out.b4.cell (c := 7) rfl
  have yaf7 := X5.out.b4.free 7
  have ya8 : W5.cell? ⟨w.heap.size + 1 + 1 + 1 + 1, 8, none⟩ = some (.int .i64 0) := X5.out.b4.cell (c := 8) rfl
  have yaf8 := X5.out.b4.free 8
  have ya9 : W5.cell? ⟨w.heap.size + 1 + 1 + 1 + 1, 9, none⟩ = some (.int .i64 0) := X5.out.b4.cell (c := 9) rfl
  have yaf9 := X5.out.b4.free 9
  have za0 : W5.cell? ⟨w.heap.size + 1 + 1 + 1 + 1 + 1, 0, none⟩ = some (.int .i64 0) := X5.out.b5.cell (c := 0) rfl
  have zaf0 := X5.out.b5.free 0
  go_region
  obtain ⟨W6, hW6⟩ : ∃ W6, (((((((((((((((((((((((((((W5.setCell ⟨w.heap.size + 1 + 1 + 1, 0, none⟩ (.int .u32 n0)).setCell ⟨w.heap.size + 1 + 1 + 1, 1, none⟩ (.int .u32 n1)).setCell ⟨w.heap.size + 1 + 1 + 1, 2, none⟩ (.int .u32 n2)).setCell ⟨w.heap.size + 1 + 1 + 1, 3, none⟩ (.int .u32 n3)).setCell ⟨w.heap.size + 1 + 1 + 1, 4, none⟩ (.int .u32 n4)).setCell ⟨w.heap.size + 1 + 1 + 1, 5, none⟩ (.int .u32 n5)).setCell ⟨w.heap.size + 1 + 1 + 1, 6, none⟩ (.int .u32 n6)).setCell ⟨w.heap.size + 1 + 1 + 1, 7, none⟩ (.int .u32 n7)).setCell ⟨w.heap.size + 1 + 1 + 1, 8, none⟩ (.int .u32 n8)).setCell ⟨w.heap.size + 1 + 1 + 1, 9, none⟩ (.int .u32 n9)).setCell ⟨w.heap.size + 1 + 1 + 1, 10, none⟩ (.int .u32 n10)).setCell ⟨w.heap.size + 1 + 1 + 1, 11, none⟩ (.int .u32 n11)).setCell ⟨w.heap.size + 1 + 1 + 1, 12, none⟩ (.int .u32 n12)).setCell ⟨w.heap.size + 1 + 1 + 1, 13, none⟩ (.int .u32 n13)).setCell ⟨w.heap.size + 1 + 1 + 1, 14, none⟩ (.int .u32 n14)).setCell ⟨w.heap.size + 1 + 1 + 1, 15, none⟩ (.int .u32 n15)).setCell ⟨w.heap.size + 1 + 1 + 1 + 1, 0, none⟩ ((.int .i64 vm))).setCell ⟨w.heap.size + 1 + 1 + 1 + 1, 1, none⟩ ((.int .i64 vk))).setCell ⟨w.heap.size + 1 + 1 + 1 + 1, 2, none⟩ ((.bool vM))).setCell ⟨w.heap.size + 1 + 1 + 1 + 1, 3, none⟩ ((.bool vW))).setCell ⟨w.heap.size + 1 + 1 + 1 + 1, 4, none⟩ ((.bool vP))).setCell ⟨w.heap.size + 1 + 1 + 1 + 1, 5, none⟩ ((.int .i64 vc))).setCell ⟨w.heap.size + 1 + 1 + 1 + 1, 6, none⟩ ((.int .i64 vi))).setCell ⟨w.heap.size + 1 + 1 + 1 + 1, 7, none⟩ ((.int .i64 vq))).setCell ⟨w.heap.size + 1 + 1 + 1 + 1, 8, none⟩ ((.int .i64 vg))).setCell ⟨w.heap.size + 1 + 1 + 1 + 1, 9, none⟩ ((.int .i64 va))).setCell ⟨w.heap.size + 1 + 1 + 1 + 1 + 1, 0, none⟩ (.int .i64 0)).drew = W6 := ⟨_, rfl⟩
  have X6 := Lib.hid (show XF w (((((((((((((((((((((((((((W5.setCell ⟨w.heap.size + 1 + 1 + 1, 0, none⟩ (.int .u32 n0)).setCell ⟨w.heap.size + 1 + 1 + 1, 1, none⟩ (.int .u32 n1)).setCell ⟨w.heap.size + 1 + 1 + 1, 2, none⟩ (.int .u32 n2)).setCell ⟨w.heap.size + 1 + 1 + 1, 3, none⟩ (.int .u32 n3)).setCell ⟨w.heap.size + 1 + 1 + 1, 4, none⟩ (.int .u32 n4)).setCell ⟨w.heap.size + 1 + 1 + 1, 5, none⟩ (.int .u32 n5)).setCell ⟨w.heap.size + 1 + 1 + 1, 6, none⟩ (.int .u32 n6)).setCell ⟨w.heap.size + 1 + 1 + 1, 7, none⟩ (.int .u32 n7)).setCell ⟨w.heap.size + 1 + 1 + 1, 8, none⟩ (.int .u32 n8)).setCell ⟨w.heap.size + 1 + 1 + 1, 9, none⟩ (.int .u32 n9)).setCell ⟨w.heap.size + 1 + 1 + 1, 10, none⟩ (.int .u32 n10)).setCell ⟨w.heap.size + 1 + 1 + 1, 11, none⟩ (.int .u32 n11)).setCell ⟨w.heap.size + 1 + 1 + 1, 12, none⟩ (.int .u32 n12)).setCell ⟨w.heap.size + 1 + 1 + 1, 13, none⟩ (.int .u32 n13)).setCell ⟨w.heap.size + 1 + 1 + 1, 14, none⟩ (.int .u32 n14)).setCell ⟨w.heap.size + 1 + 1 + 1, 15, none⟩ (.int .u32 n15)).setCell ⟨w.heap.size + 1 + 1 + 1 + 1, 0, none⟩ ((.int .i64 vm))).setCell ⟨w.heap.size + 1 + 1 + 1 + 1, 1, none⟩ ((.int .i64 vk))).setCell ⟨w.heap.size + 1 + 1 + 1 + 1, 2, none⟩ ((.bool vM))).setCell ⟨w.heap.size + 1 + 1 + 1 + 1, 3, none⟩ ((.bool vW))).setCell ⟨w.heap.size + 1 + 1 + 1 + 1, 4, none⟩ ((.bool vP))).setCell ⟨w.heap.size + 1 + 1 + 1 + 1, 5, none⟩ ((.int .i64 vc))).setCell ⟨w.heap.size + 1 + 1 + 1 + 1, 6, none⟩ ((.int .i64 vi))).setCell ⟨w.heap.size + 1 + 1 + 1 + 1, 7, none⟩ ((.int .i64 vq))).setCell ⟨w.heap.size + 1 + 1 + 1 + 1, 8, none⟩ ((.int .i64 vg))).setCell ⟨w.heap.size + 1 + 1 + 1 + 1, 9, none⟩ ((.int .i64 va))).setCell ⟨w.heap.size + 1 + 1 + 1 + 1 + 1, 0, none⟩ (.int .i64 0)).drew L [op, fm, r1, r2, x2, b1, d1, b2, d2, l1, l2, i2] [a0, a1, a2, a3, a4, a5, a6, a7, a8, a9, a10, a11, a12, a13, a14, a15] [.int .i64 pm, .int .i64 pk, .bool pM, .bool pW, .bool pP, .int .i64 pc, .int .i64 pi, .int .i64 pq, .int .i64 pg, .int .i64 pa] [.int .u32 n0, .int .u32 n1, .int .u32 n2, .int .u32 n3, .int .u32 n4, .int .u32 n5, .int .u32 n6, .int .u32 n7, .int .u32 n8, .int .u32 n9, .int .u32 n10, .int .u32 n11, .int .u32 n12, .int .u32 n13, .int .u32 n14, .int .u32 n15] [(.int .i64 vm), (.int .i64 vk), (.bool vM), (.bool vW), (.bool vP), (.int .i64 vc), (.int .i64 vi), (.int .i64 vq), (.int .i64 vg), (.int .i64 va)] (.int .i64 0) from (X5.out.give rfl rfl (.int .u32 n0) (.int .u32 n1) (.int .u32 n2) (.int .u32 n3) (.int .u32 n4) (.int .u32 n5) (.int .u32 n6) (.int .u32 n7) (.int .u32 n8) (.int .u32 n9) (.int .u32 n10) (.int .u32 n11) (.int .u32 n12) (.int .u32 n13) (.int .u32 n14) (.int .u32 n15) (.int .i64 vm) (.int .i64 vk) (.bool vM) (.bool vW) (.bool vP) (.int .i64 vc) (.int .i64 vi) (.int .i64 vq) (.int .i64 vg) (.int .i64 va) (.int .i64 0)).drewN 1)
  have R6 := Lib.hid (HRR.out W5 (((((((((((((((((((((((((((W5.setCell ⟨w.heap.size + 1 + 1 + 1, 0, none⟩ (.int .u32 n0)).setCell ⟨w.heap.size + 1 + 1 + 1, 1, none⟩ (.int .u32 n1)).setCell ⟨w.heap.size + 1 + 1 + 1, 2, none⟩ (.int .u32 n2)).setCell ⟨w.heap.size + 1 + 1 + 1, 3, none⟩ (.int .u32 n3)).setCell ⟨w.heap.size + 1 + 1 + 1, 4, none⟩ (.int .u32 n4)).setCell ⟨w.heap.size + 1 + 1 + 1, 5, none⟩ (.int .u32 n5)).setCell ⟨w.heap.size + 1 + 1 + 1, 6, none⟩ (.int .u32 n6)).setCell ⟨w.heap.size + 1 + 1 + 1, 7, none⟩ (.int .u32 n7)).setCell ⟨w.heap.size + 1 + 1 + 1, 8, none⟩ (.int .u32 n8)).setCell ⟨w.heap.size + 1 + 1 + 1, 9, none⟩ (.int .u32 n9)).setCell ⟨w.heap.size + 1 + 1 + 1, 10, none⟩ (.int .u32 n10)).setCell ⟨w.heap.size + 1 + 1 + 1, 11, none⟩ (.int .u32 n11)).setCell ⟨w.heap.size + 1 + 1 + 1, 12, none⟩ (.int .u32 n12)).setCell ⟨w.heap.size + 1 + 1 + 1, 13, none⟩ (.int .u32 n13)).setCell ⟨w.heap.size + 1 + 1 + 1, 14, none⟩ (.int .u32 n14)).setCell ⟨w.heap.size + 1 + 1 + 1, 15, none⟩ (.int .u32 n15)).setCell ⟨w.heap.size + 1 + 1 + 1 + 1, 0, none⟩ ((.int .i64 vm))).setCell ⟨w.heap.size + 1 + 1 + 1 + 1, 1, none⟩ ((.int .i64 vk))).setCell ⟨w.heap.size + 1 + 1 + 1 + 1, 2, none⟩ ((.bool vM))).setCell ⟨w.heap.size + 1 + 1 + 1 + 1, 3, none⟩ ((.bool vW))).setCell ⟨w.heap.size + 1 + 1 + 1 + 1, 4, none⟩ ((.bool vP))).setCell ⟨w.heap.size + 1 + 1 + 1 + 1, 5, none⟩ ((.int .i64 vc))).setCell ⟨w.heap.size + 1 + 1 + 1 + 1, 6, none⟩ ((.int .i64 vi))).setCell ⟨w.heap.size + 1 + 1 + 1 + 1, 7, none⟩ ((.int .i64 vq))).setCell ⟨w.heap.size + 1 + 1 + 1 + 1, 8, none⟩ ((.int .i64 vg))).setCell ⟨w.heap.size + 1 + 1 + 1 + 1, 9, none⟩ ((.int .i64 va))).setCell ⟨w.heap.size + 1 + 1 + 1 + 1 + 1, 0, none⟩ (.int .i64 0)).drew R5.out (dBelow' ((below_s10 (below_s16 (Below.refl _ _) (by omega) (.int .u32 n0) (.int .u32 n1) (.int .u32 n2) (.int .u32 n3) (.int .u32 n4) (.int .u32 n5) (.int .u32 n6) (.int .u32 n7) (.int .u32 n8) (.int .u32 n9) (.int .u32 n10) (.int .u32 n11) (.int .u32 n12) (.int .u32 n13) (.int .u32 n14) (.int .u32 n15)) (by omega) (.int .i64 vm) (.int .i64 vk) (.bool vM) (.bool vW) (.bool vP) (.int .i64 vc) (.int .i64 vi) (.int .i64 vq) (.int .i64 vg) (.int .i64 va)).setCell (p := ⟨_, 0, none⟩) (by first | (simp; done) | (simp; omega)) _) 1))
  rw [hW6] at X6 R6
  rw [hW6]
  clear hW6 X5 M5 R5 mr0 mr1 mr2 mr3 mr4 mr5 mr6 mr7 mr8 mr9 mr10 mr11 mr12 mr13 mr14 mr15 mp0 mp1 mp2 mp3 mp4 mp5 mp6 mp7 mp8 mp9 xa0 xaf0 xa1 xaf1 xa2 xaf2 xa3 xaf3 xa4 xaf4 xa5 xaf5 xa6 xaf6 xa7 xaf7 xa8 xaf8 xa9 xaf9 xa10 xaf10 xa11 xaf11 xa12 xaf12 xa13 xaf13 xa14 xaf14 xa15 xaf15 ya0 yaf0 ya1 yaf1 ya2 yaf2 ya3 yaf3 ya4 yaf4 ya5 yaf5 ya6 yaf6 ya7 yaf7 ya8 yaf8 ya9 yaf9 za0 zaf0
  go_wp2
  refine leaves_cons (f := 30) (args := #[.pointer (some ⟨w.heap.size + 1, 0, none⟩), .pointer (some ⟨w.heap.size + 1 + 1, 0, none⟩), .pointer (some ⟨w.heap.size + 1 + 1 + 1, 0, none⟩), .pointer (some ⟨w.heap.size + 1 + 1 + 1 + 1, 0, none⟩), .pointer (some ⟨w.heap.size + 1 + 1 + 1 + 1 + 1, 0, none⟩)]) (by simp) (by simp [go_sem]) ?_
  refine (catch_idle _ _ _ _ _ _).mono ?_
  rintro e u' w'' ⟨rfl, rfl, hw6⟩
  subst hw6
  have c5 := X6.out.b5.cell (c := 0) rfl
  exact ⟨_, res_cells3 Try.results14 _ _ _ _ _ _ _ _ rfl rfl rfl X6.out.b3 X6.out.b4 X6.out.b5 Try.underlying28 rfl (by kernel_rfl) Try.underlying30 rfl (by kernel_rfl) (by go_simp), rfl, R6.out, X6.out.be⟩
end Go.Proofs.Ythjdjbipfdigeaa

namespace Go.Proofs.Ythjdjbipfdigeaa
open Go.RowKit
set_option maxRecDepth 100000
set_option linter.unusedVariables false
set_option linter.unusedSimpArgs false
theorem Byt.chd {w w' : World} {b off len : Nat} {zs : List Int} {L : List Nat} (h : Byt w (some ⟨b, off, none⟩) len zs) (hc : Ch w w' L) (hb : b < w.heap.size) (hL : b ∉ L) : Byt w' (some ⟨b, off, none⟩) len zs := by
  refine ⟨h.1, h.2.1, fun h0 => ?_⟩
  obtain ⟨b', off', e, hcell⟩ := h.2.2 h0
  injection e with e; injection e with e1 e2; subst e1 e2
  exact ⟨b, off, rfl, fun i hi => by rw [← hcell i hi]; unfold World.cell?; rw [hc.block b hb hL]⟩
theorem Byt.lt {w : World} {b off len : Nat} {zs : List Int} (h : Byt w (some ⟨b, off, none⟩) len zs) (h0 : 0 < len) : b < w.heap.size := by
  obtain ⟨b', off', e, hcell⟩ := h.2.2 h0
  injection e with e; injection e with e1 e2; subst e1 e2
  have h1 := hcell 0 h0
  rcases Nat.lt_or_ge b w.heap.size with h2 | h2
  · exact h2
  · unfold World.cell? at h1; simp only [Array.getElem?_eq_none h2] at h1; cases h1
theorem put9 {F : Foot} {bs ks : List Int} (w : World) (h : St 71 w F bs ks) (a n cp : Nat) (A : Option Addr) (ys : List Int) (h1 : a + n ≤ bs.length) (h2 : bs.length ≤ 65536) (hy : Byt w A n ys) : Calls Try.prog 16 #[.pointer (some ⟨F.g, 0, none⟩), .int .i64 (a : Int), .slice A n cp, .int .i64 0] w fun e w' => e = .returned (.int .i64 0) ∧ St 71 w' F (sPut (alP 0) bs ks (a : Int) ys) ks ∧ Ch w w' [F.gb] := by
  refine (put_c w h (a : Int) 0 A n cp ys hy (by omega)).mono ?_
  rintro e w' ⟨he, hs, hg⟩
  rw [codeH _ alP_0 _ _ _ _ h1] at he
  exact ⟨he, hs, Ch.of_grown hg⟩
theorem get9 {F : Foot} {bs ks : List Int} (w : World) (h : St 71 w F bs ks) (a : Nat) (n N : Int) (X : List Int) (h0 : 1 ≤ n) (h1 : a + n ≤ (bs.length : Int)) (hX : sGet bs (a : Int) n = X) : Calls Try.prog 19 #[.pointer (some ⟨F.g, 0, none⟩), .int .i64 (a : Int), .int .i64 n] w fun e w' => ∃ b m c : Nat, e = .returned (.slice (some ⟨b, 0, none⟩) m c) ∧ (m : Int) = n ∧ Byt w' (some ⟨b, 0, none⟩) m X ∧ w.heap.size ≤ b ∧ Below w.heap.size w w' := by
  refine (bytes_c w h (a : Int) n).mono ?_
  rintro e w' ⟨A, m, c, he, ho, hb⟩
  rw [hX] at ho
  obtain ⟨k, rfl⟩ := Int.eq_ofNat_of_zero_le (show 0 ≤ n by omega)
  have hm : m = k := by rw [← ho.len, ← hX]; exact get_len _ _ _ (by omega)
  obtain ⟨g, cap, hv, hg, -⟩ := ho.pos (by omega)
  injection hv with hA h2 h3
  subst hA h3
  exact ⟨g, m, c, he, by omega, ho.byt, hg, hb⟩
theorem same9_t (A : Option Addr) (n c : Nat) (xs : List Int) (A' : Option Addr) (n' c' : Nat) (ys : List Int) (w : World) (h1 : Byt w A n xs) (h2 : Byt w A' n' ys) (he : xs = ys) (hn : n ≤ 65536) : Calls Try.prog 18 #[.slice A n c, .slice A' n' c'] w fun e w' => e = .returned (.bool true) ∧ Below w.heap.size w w' := by
  have hl := h1.1
  have hl' := h2.1
  refine (same9_c A n c xs A' n' c' ys w h1 h2 (by omega) (by rw [← he] at hl'; omega)).mono ?_
  rintro e w' ⟨h, d, rfl⟩
  rw [decide_eq_true he] at h
  exact ⟨h, dBelow' (Below.refl _ _) d⟩
theorem exec_ss (op : Int) (hop : op = 210 ∨ op = 215) {F : Foot} {bs ks : List Int} (w : World) (h : St 71 w F bs ks) (cc L : Int) (l a b : Nat) (hL : L = (l : Int)) (hl : l < 256) (hc : 0 ≤ cc ∧ cc ≤ 3) (ha : a + (l + 1) ≤ bs.length) (hb : b + (l + 1) ≤ bs.length) (hs : bs.length ≤ 65536) (X Y Z : List Int) (q : Int) (hX : sGet bs (a : Int) ((l + 1 : Nat) : Int) = X) (hY : sGet bs (b : Int) ((l + 1 : Nat) : Int) = Y) (hZ : cmb (cb op) X Y ((a : Int) - (b : Int)) (l + 1) = Z) (hq : (if op = 215 then cmbS (cb op) X Y ((a : Int) - (b : Int)) (l + 1) else cc) = q) : Calls Try.prog 14 #[.agg #[.int .i64 op, .int .i64 5, .int .i64 0, .int .i64 0, .int .i64 0, .int .i64 14, .int .i64 0, .int .i64 15, .int .i64 0, .int .i64 L, .int .i64 0, .int .i64 0], .agg #[.int .u32 0, .int .u32 0, .int .u32 0, .int .u32 0, .int .u32 0, .int .u32 0, .int .u32 0, .int .u32 0, .int .u32 0, .int .u32 0, .int .u32 0, .int .u32 0, .int .u32 0, .int .u32 0, .int .u32 (a : Int), .int .u32 (b : Int)], .agg #[.int .i64 0, .int .i64 0, .bool false, .bool false, .bool false, .int .i64 0, .int .i64 0, .int .i64 cc, .int .i64 0, .int .i64 0], .pointer (some ⟨F.g, 0, none⟩)] w fun e w' => e = .returned (.tuple #[.agg #[.int .u32 0, .int .u32 0, .int .u32 0, .int .u32 0, .int .u32 0, .int .u32 0, .int .u32 0, .int .u32 0, .int .u32 0, .int .u32 0, .int .u32 0, .int .u32 0, .int .u32 0, .int .u32 0, .int .u32 (a : Int), .int .u32 (b : Int)], .agg #[.int .i64 0, .int .i64 0, .bool false, .bool false, .bool false, .int .i64 0, .int .i64 0, .int .i64 q, .int .i64 0, .int .i64 0], .int .i64 0]) ∧ St 71 w' F (sPut (alP 0) bs ks (a : Int) Z) ks ∧ Ch w w' [F.gb] := by
  subst hL
  have hx := exO_ss op hop [0, 0, 0, 0, 0, 0, 0, 0, 0, 0, 0, 0, 0, 0, (a : Int), (b : Int)] bs ks cc l a b ha hb X Y hX hY
  rw [hZ, hq] at hx
  have hv : pok 0 0 0 0 cc 0 0 = true := by simp [pok, inr]; omega
  have ro : ∀ z ∈ [0, 0, 0, 0, 0, 0, 0, 0, 0, 0, 0, 0, 0, 0, (a : Int), (b : Int)], 0 ≤ z ∧ z ≤ 4294967295 := by
    intro z hz
    simp only [List.mem_cons, List.not_mem_nil, or_false] at hz
    omega
  have hF : ∀ k, k ∈ [F.gb] → k < w.heap.size := by simp; exact h.ltb
  have e1 : (0 + sumB [0, 0, 0, 0, 0, 0, 0, 0, 0, 0, 0, 0, 0, 0, (a : Int), (b : Int)] [14]) % 16777216 = (a : Int) := by
    have h1 : sumB [0, 0, 0, 0, 0, 0, 0, 0, 0, 0, 0, 0, 0, 0, (a : Int), (b : Int)] [14] = (a : Int) + 0 := by simp [sumB, baseV]
    rw [h1]; omega
  have e2 : (0 + sumB [0, 0, 0, 0, 0, 0, 0, 0, 0, 0, 0, 0, 0, 0, (a : Int), (b : Int)] [15, 0]) % 16777216 = (b : Int) := by
    have h1 : sumB [0, 0, 0, 0, 0, 0, 0, 0, 0, 0, 0, 0, 0, 0, (a : Int), (b : Int)] [15, 0] = (b : Int) + (0 + 0) := by simp [sumB, baseV]
    rw [h1]; omega
  refine (Exec_plain op 5 0 0 0 14 0 15 0 (l : Int) 0 0 0 0 0 0 0 0 0 0 0 0 0 0 0 0 (a : Int) (b : Int) 0 0 false false false 0 0 cc 0 0 F.g [F.gb] (fun w' => St 71 w' F (sPut (alP 0) bs ks (a : Int) Z) ks) 0 0 0 0 0 0 0 0 0 0 0 0 0 0 (a : Int) (b : Int) 0 0 false false false 0 0 q 0 0 false w (chk_s2 op hop l hl).1 (chk_s2 op hop l hl).2 hv hF (fun W W' hh hb' => hh.below hb' h.ltg h.ltb h.ltk) (fun g W hg hbw hm => ?_) rfl).mono ?_
  · have h1 := h.ltg
    have h2 := h.ltb
    have h3 := h.ltk
    have hM : MS W g F (isL op 5 0 0 0 14 0 15 0 l 0 0) [0, 0, 0, 0, 0, 0, 0, 0, 0, 0, 0, 0, 0, 0, (a : Int), (b : Int)] [0, 0, 0, 0, 0, 0, 0, 0, 0, 0, 0, 0, 0, 0, (a : Int), (b : Int)] (psL 0 0 false false false 0 0 cc 0 0) false bs ks := ⟨hm, h.below hbw h1 h2 h3, by omega, by omega, by omega⟩
    have hE : Calls Try.prog 31 #[.pointer (some ⟨g, 0, none⟩)] W (Ends g F (isL op 5 0 0 0 14 0 15 0 l 0 0) [0, 0, 0, 0, 0, 0, 0, 0, 0, 0, 0, 0, 0, 0, (a : Int), (b : Int)] 0 0 false false false 0 0 bs ks (exO ⟨[0, 0, 0, 0, 0, 0, 0, 0, 0, 0, 0, 0, 0, 0, (a : Int), (b : Int)], 0, 0, cc, 0, 0, bs, ks⟩ op 5 0 0 (a : Int) (b : Int) l 0) W) := by
      rcases hop with rfl | rfl
      · exact exec_gl210 g 0 0 0 14 15 l F 210 5 0 0 0 0 0 0 false false false 0 0 cc 0 0 _ bs ks W hM ro (by omega) (by omega) (by omega) (by omega) (by omega) hl (by omega) (by omega) (by omega) (a : Int) (b : Int) e1 e2 rfl
      · exact exec_gl215 g 0 0 0 14 15 l F 215 5 0 0 0 0 0 0 false false false 0 0 cc 0 0 _ bs ks W hM ro (by omega) (by omega) (by omega) (by omega) (by omega) hl (by omega) (by omega) (by omega) (a : Int) (b : Int) e1 e2 rfl
    rw [hx] at hE
    refine hE.mono ?_
    rintro e w' ⟨h4, -, h6⟩
    obtain ⟨h7, h8⟩ := h4 rfl
    exact ⟨h7, h8.m, h6, h8.st⟩
  · rintro e w' ⟨rfl, h4, h5⟩
    exact ⟨rfl, h4, h5⟩
theorem exec_sn (op : Int) (hop : op = 210 ∨ op = 215) {F : Foot} {bs ks : List Int} (w : World) (h : St 71 w F bs ks) (cc : Int) (n a b : Nat) (n0 : 1 ≤ n) (n1 : n ≤ 256) (hc : 0 ≤ cc ∧ cc ≤ 3) (ha : a + n ≤ bs.length) (hb : b + n ≤ bs.length) (hs : bs.length ≤ 65536) (X Y Z : List Int) (q : Int) (hX : sGet bs (a : Int) (n : Int) = X) (hY : sGet bs (b : Int) (n : Int) = Y) (hZ : cmb (cb op) X Y ((a : Int) - (b : Int)) n = Z) (hq : (if op = 215 then cmbS (cb op) X Y ((a : Int) - (b : Int)) n else cc) = q) : Calls Try.prog 14 #[.agg #[.int .i64 op, .int .i64 5, .int .i64 0, .int .i64 0, .int .i64 0, .int .i64 14, .int .i64 0, .int .i64 15, .int .i64 0, .int .i64 ((n : Int) - 1), .int .i64 0, .int .i64 0], .agg #[.int .u32 0, .int .u32 0, .int .u32 0, .int .u32 0, .int .u32 0, .int .u32 0, .int .u32 0, .int .u32 0, .int .u32 0, .int .u32 0, .int .u32 0, .int .u32 0, .int .u32 0, .int .u32 0, .int .u32 (a : Int), .int .u32 (b : Int)], .agg #[.int .i64 0, .int .i64 0, .bool false, .bool false, .bool false, .int .i64 0, .int .i64 0, .int .i64 cc, .int .i64 0, .int .i64 0], .pointer (some ⟨F.g, 0, none⟩)] w fun e w' => e = .returned (.tuple #[.agg #[.int .u32 0, .int .u32 0, .int .u32 0, .int .u32 0, .int .u32 0, .int .u32 0, .int .u32 0, .int .u32 0, .int .u32 0, .int .u32 0, .int .u32 0, .int .u32 0, .int .u32 0, .int .u32 0, .int .u32 (a : Int), .int .u32 (b : Int)], .agg #[.int .i64 0, .int .i64 0, .bool false, .bool false, .bool false, .int .i64 0, .int .i64 0, .int .i64 q, .int .i64 0, .int .i64 0], .int .i64 0]) ∧ St 71 w' F (sPut (alP 0) bs ks (a : Int) Z) ks ∧ Ch w w' [F.gb] := by
  obtain ⟨l, rfl⟩ : ∃ l, n = l + 1 := ⟨n - 1, by omega⟩
  exact exec_ss op hop w h cc _ l a b (by omega) (by omega) hc ha hb hs X Y Z q hX hY hZ hq
theorem getD_255 {bs : List Int} (h : ∀ z ∈ bs, 0 ≤ z ∧ z ≤ 255) (j : Nat) : 0 ≤ bs.getD j 0 ∧ bs.getD j 0 ≤ 255 := by
  rw [List.getD_eq_getElem?_getD]
  rcases Nat.lt_or_ge j bs.length with hi | hi
  · rw [List.getElem?_eq_getElem hi]; exact h _ (List.getElem_mem hi)
  · rw [List.getElem?_eq_none hi]; simp
end Go.Proofs.Ythjdjbipfdigeaa

namespace Go.Proofs.Ythjdjbipfdigeaa
open Go.RowKit
set_option linter.unusedVariables false

theorem row_byt {w : World} {a : Option Addr} {len cap : Nat} {zs : List Int} (h : IsRow .u8 w a len cap zs) : Byt w a len (zs.take len) ∧ (a = none → cap = 0) ∧ len ≤ cap ∧ cap ≤ maxLen := by
  rcases h with ⟨rfl, rfl, rfl, rfl⟩ | ⟨x, rfl, hl, hm, hz, hc, hw⟩
  · exact ⟨⟨rfl, by simp, fun h => absurd h (by omega)⟩, fun _ => rfl, Nat.le_refl _, Nat.zero_le _⟩
  · refine ⟨⟨by rw [List.length_take]; omega, fun n hn => ?_, fun h0 => ?_⟩, (by intro h; cases h), hl, hm⟩
    · exact bounds_u8 (hw n (List.mem_of_mem_take hn))
    · obtain ⟨b, off, spot⟩ := x
      have h1 := hc 0 (by omega)
      have hspot : spot = none := by simpa [Addr.add] using World.cell?_spot h1
      subst hspot
      refine ⟨b, off, rfl, fun i hi => ?_⟩
      have h2 := hc i (by omega)
      have hadd : (⟨b, off, none⟩ : Addr).add i = ⟨b, off + i, none⟩ := by unfold Addr.add; split <;> simp_all
      rw [hadd] at h2
      rw [h2]
      simp [List.getD_eq_getElem?_getD, hi]

section
variable {w : World} {base n : Nat} {zs : List Int} {g cap : Nat}
/-- a byte of the call's own is stored -/
theorem Own.store (h : Own w base (.slice (some ⟨g, 0, none⟩) n cap) n zs) {k : Nat} (hk : k < n) {y : Int} (hy : 0 ≤ y ∧ y ≤ 255) : Own (w.setCell ⟨g, k, none⟩ (.int .u8 y)) base (.slice (some ⟨g, 0, none⟩) n cap) n (zs.set k y) := by
  obtain ⟨cur, q1, q2, q3, q4, q5, q6⟩ := Own.heap h
  have hh : (w.setCell ⟨g, k, none⟩ (.int .u8 y)).heap[g]? = some (.cells (cur.set k (.int .u8 y)).toArray 5 (0, 0)) := by
    rw [setCell_eq_setRow w g k cur.toArray 5 (0, 0) _ q1, setRow_heap w g _ _ _ _ q1]
    simp
  refine Own.of_heap hh (by simpa using q2) ?_ (by simpa using h.len) q4 q5 q6 ?_
  · rw [List.take_set, q3, List.map_set]
  · intro z hz
    rcases List.mem_or_eq_of_mem_set hz with hz | rfl
    · exact h.2 z hz
    · exact hy
theorem Own.cell (h : Own w base (.slice (some ⟨g, 0, none⟩) n cap) n zs) {k : Nat} (hk : k < n) : w.cell? ⟨g, k, none⟩ = some (.int .u8 (zs.getD k 0)) := by
  obtain ⟨b, off, e, hc⟩ := h.byt.2.2 (by omega)
  injection e with e; injection e with e1 e2; subst e1 e2
  have := hc k hk
  rwa [Nat.zero_add] at this
theorem Own.free (h : Own w base (.slice (some ⟨g, 0, none⟩) n cap) n zs) (k : Nat) : w.frozen? ⟨g, k, none⟩ = false := by
  obtain ⟨cur, q1, _⟩ := Own.heap h
  simp [World.frozen?, q1]
end
end Go.Proofs.Ythjdjbipfdigeaa

namespace Go.Proofs.Ythjdjbipfdigeaa
open Go.RowKit
set_option maxRecDepth 100000
set_option linter.unusedVariables false
set_option linter.unusedSimpArgs false
/-- what the loop has copied -/
def cpy (zs : List Int) (n k : Nat) : List Int := zs.take k ++ List.replicate (n - k) 0
theorem cpy_set (zs : List Int) (n k : Nat) (h1 : k < n) (h2 : k < zs.length) : (cpy zs n k).set k (zs.getD k 0) = cpy zs n (k + 1) := by
  unfold cpy
  have hl : (zs.take k).length = k := by rw [List.length_take]; omega
  rw [List.set_append_right _ _ (by omega), hl, Nat.sub_self, show n - k = (n - (k + 1)) + 1 by omega, List.replicate_succ, List.set_cons_zero, List.take_succ_eq_append_getElem h2, List.append_assoc, List.getD_eq_getElem?_getD, List.getElem?_eq_getElem h2]
  rfl
set_option maxRecDepth 1000000 in
set_option maxHeartbeats 8000000 in
theorem swaps_loop {u0 u2 u3 u4 u8 u9 u10 u11 u12 u13 u14 u15 u16 u17 u18 u19 u20 u21 u22 u23 u24 u25 u26 u27 u28 u29 u30 u31 u32 u33 u34 u35 u36 u37 u38 u39 u40 u41 u42 u43 u44 u45 u46 u47 u48 u49 u50 u51 u52 u53 u54 u55 u56 u57 u58 u59 u60 u61 u62 u63 u64 u65 u66 u67 u68 u69 u70 u71 u72 u73 u74 u75 u76 u77 u78 u79 u80 u81 u82 u83 u84 u85 u86 u87 u88 u89 u90 u91 u92 u93 u94 u95 u96 u97 u98 u99 u100 u101 u102 u103 u104 u105 u106 u107 u108 u109 u110 u111 u112 u113 u114 u115 u116 u117 u118 u119 u120 u121 u122 u123 u124 u125 u126 u127 u128 u129 u130 u131 u132 u133 : Value} {A2 : Option Addr} {len2 cap2 gc n : Nat} {zs : List Int} {body : Code} (hbody : (Try.f7.body.bind loopAtH) = some body) {Q : Exit → Act → World → Prop} {ds : List Deferred} {W : World} (hn : n ≤ 256) (h2 : Byt W A2 len2 zs) (hlen : (len2 : Int) ≤ 9223372036854775807) (base : Nat) (hbb : ∀ b off, A2 = some ⟨b, off, none⟩ → 0 < len2 → b < base) (hc : Own W base (.slice (some ⟨gc, 0, none⟩) n n) n (List.replicate n 0)) (hQ : ∀ (c : List PanicEntry) (a a' : Act) (w : World), a'.defers = a.defers → Q (.panic c) a' w → Q (.panic c) a w)
    (h : ∀ (w' : World) (k : Nat) (x7 x34 x35 x36 x37 x38 x39 x40 x41 x42 x43 x44 x45 x46 x47 x48 x49 x50 x51 : Value), k ≤ n → k ≤ zs.length → Own w' base (.slice (some ⟨gc, 0, none⟩) n n) n (cpy zs n k) → Ch W w' [gc] → Q (.exit 0) { tmps := #[u0, .slice A2 len2 cap2, u2, u3, u4, .int .i64 (n : Int), .slice (some ⟨gc, 0, none⟩) n n, x7, u8, u9, u10, u11, u12, u13, u14, u15, u16, u17, u18, u19, u20, u21, u22, u23, u24, u25, u26, u27, u28, u29, u30, u31, u32, u33, x34, x35, x36, x37, x38, x39, x40, x41, x42, x43, x44, x45, x46, x47, x48, x49, x50, x51, u52, u53, u54, u55, u56, u57, u58, u59, u60, u61, u62, u63, u64, u65, u66, u67, u68, u69, u70, u71, u72, u73, u74, u75, u76, u77, u78, u79, u80, u81, u82, u83, u84, u85, u86, u87, u88, u89, u90, u91, u92, u93, u94, u95, u96, u97, u98, u99, u100, u101, u102, u103, u104, u105, u106, u107, u108, u109, u110, u111, u112, u113, u114, u115, u116, u117, u118, u119, u120, u121, u122, u123, u124, u125, u126, u127, u128, u129, u130, u131, u132, u133], defers := ds } w') : Code.wp Try.prog (Code.loop body) Q { tmps := #[u0, .slice A2 len2 cap2, u2, u3, u4, .int .i64 (n : Int), .slice (some ⟨gc, 0, none⟩) n n, .int .i64 0, u8, u9, u10, u11, u12, u13, u14, u15, u16, u17, u18, u19, u20, u21, u22, u23, u24, u25, u26, u27, u28, u29, u30, u31, u32, u33, u34, u35, u36, u37, u38, u39, u40, u41, u42, u43, u44, u45, u46, u47, u48, u49, u50, u51, u52, u53, u54, u55, u56, u57, u58, u59, u60, u61, u62, u63, u64, u65, u66, u67, u68, u69, u70, u71, u72, u73, u74, u75, u76, u77, u78, u79, u80, u81, u82, u83, u84, u85, u86, u87, u88, u89, u90, u91, u92, u93, u94, u95, u96, u97, u98, u99, u100, u101, u102, u103, u104, u105, u106, u107, u108, u109, u110, u111, u112, u113, u114, u115, u116, u117, u118, u119, u120, u121, u122, u123, u124, u125, u126, u127, u128, u129, u130, u131, u132, u133], defers := ds } W := by
  simp [Try.f7, loopAtH] at hbody
  subst hbody
  have HY := Lib.hid h2
  have HO := Lib.hid hc
  have HBB := Lib.hid hbb
  have HP := Lib.hid hQ
  have HE := Lib.hid h
  have hzl := h2.1
  have HZ := Lib.hid hzl
  clear h2 hc hbb hQ h hzl
  dsimp only
  go_loopw [7] (fun x w' => ∃ k : Nat, k ≤ n ∧ k ≤ len2 ∧ x = .int .i64 (k : Int) ∧ Own w' base (.slice (some ⟨gc, 0, none⟩) n n) n (cpy zs n k) ∧ Ch W w' [gc]) (fun x _ => n - (intOf x).toNat)
  case atStart => exact ⟨0, by omega, by omega, rfl, HO.out, Ch.refl _ _⟩
  case round =>
    obtain ⟨k, hk, hk2, rfl, ho, hch⟩ := hrel
    have O1 := Lib.hid ho
    have C1 := Lib.hid hch
    clear ho hch
    by_cases hlt : k < n
    · have i0 : (k : Int) < (n : Int) := by omega
      have e0 : decide ((k : Int) < (n : Int)) = true := by simp; omega
      by_cases hlt2 : k < len2
      · have i1 : (k : Int) < (len2 : Int) := by omega
        have hbase : base ≤ gc := by obtain ⟨cur, -, -, -, h4, -⟩ := O1.out.heap; exact h4
        have hr := HY.out.range k
        obtain ⟨v, hv⟩ : ∃ v, zs.getD k 0 = v := ⟨_, rfl⟩
        rw [hv] at hr
        have hcell : ∃ b off, A2 = some ⟨b, off, none⟩ ∧ wr.cell? ⟨b, off + k, none⟩ = some (.int .u8 v) := by
          obtain ⟨b, off, hA, hcl⟩ := HY.out.at_ (by omega)
          subst hA
          refine ⟨b, off, rfl, ?_⟩
          have hb := HBB.out b off rfl (by omega)
          have hy := HY.out.chd C1.out (HY.out.lt (by omega)) (by simp; omega)
          obtain ⟨b', off', e, hc⟩ := hy.2.2 (by omega)
          injection e with e; injection e with e1 e2; subst e1 e2
          rw [hc k hlt2, hv]
        obtain ⟨b, off, rfl, hcb⟩ := hcell
        have hcc := O1.out.cell hlt
        have hcf := O1.out.free k
        have HV := Lib.hid hv
        clear hv
        go_wp2
        refine ⟨⟨k + 1, by omega, by omega, rfl, ?_, C1.out.setCell (by simp) _⟩, by simp [intOf]; omega⟩
        have hs := O1.out.store hlt hr
        rw [← HV.out, cpy_set zs n k hlt (by rw [HZ.out]; exact hlt2)] at hs
        rw [HV.out] at hs
        exact hs
      · have i1 : ¬ (k : Int) < (len2 : Int) := by omega
        go_wp2
        exact HE.out wr k _ _ _ _ _ _ _ _ _ _ _ _ _ _ _ _ _ _ _ hk (by rw [HZ.out]; exact hk2) O1.out C1.out
    · have i0 : ¬ (k : Int) < (n : Int) := by omega
      go_wp2
      exact HE.out wr k _ _ _ _ _ _ _ _ _ _ _ _ _ _ _ _ _ _ _ hk (by rw [HZ.out]; exact hk2) O1.out C1.out
theorem xor_swap (u v : Nat) (hu : u < 256) (hv : v < 256) : bits .xor .u8 (v : Int) (bits .xor .u8 (u : Int) (v : Int)) = (u : Int) ∧ bits .xor .u8 (bits .xor .u8 (u : Int) (v : Int)) (u : Int) = (v : Int) := by
  have hx : u ^^^ v < 2 ^ 8 := Nat.xor_lt_two_pow (by omega) (by omega)
  rw [u8_xor_nat u v hu hv, u8_xor_nat v _ hv (by omega), u8_xor_nat _ u (by omega) hu]
  refine ⟨?_, ?_⟩
  · rw [Nat.xor_comm u v, ← Nat.xor_assoc, Nat.xor_self, Nat.zero_xor]
  · rw [Nat.xor_comm (u ^^^ v) u, ← Nat.xor_assoc, Nat.xor_self, Nat.zero_xor]
theorem cb_xor (x y : Int) : cb 215 x y = bits .xor .u8 x y := by simp [cb]
theorem swaps_law (ys cs : List Int) (n : Nat) (hy : ys.length = n) (hc : cs.length = n) (ry : ∀ z ∈ ys, 0 ≤ z ∧ z ≤ 255) (rc : ∀ z ∈ cs, 0 ≤ z ∧ z ≤ 255) (n0 : 1 ≤ n) (n1 : n ≤ 256) : ∃ bs1 bs2 bs3 bs4 bs5 Z : List Int, sPut (alP 0) (z0 2048) (z0 1) ((100 : Nat) : Int) ys = bs1 ∧ sPut (alP 0) bs1 (z0 1) ((1000 : Nat) : Int) cs = bs2 ∧ sPut (alP 0) bs2 (z0 1) ((100 : Nat) : Int) Z = bs3 ∧ sPut (alP 0) bs3 (z0 1) ((1000 : Nat) : Int) ys = bs4 ∧ sPut (alP 0) bs4 (z0 1) ((100 : Nat) : Int) cs = bs5 ∧ (bs1.length = 2048 ∧ bs2.length = 2048 ∧ bs3.length = 2048 ∧ bs4.length = 2048 ∧ bs5.length = 2048) ∧
    sGet bs2 ((100 : Nat) : Int) (n : Int) = ys ∧ sGet bs2 ((1000 : Nat) : Int) (n : Int) = cs ∧ cmb (cb 215) ys cs (((100 : Nat) : Int) - ((1000 : Nat) : Int)) n = Z ∧
    sGet bs3 ((1000 : Nat) : Int) (n : Int) = cs ∧ sGet bs3 ((100 : Nat) : Int) (n : Int) = Z ∧ cmb (cb 215) cs Z (((1000 : Nat) : Int) - ((100 : Nat) : Int)) n = ys ∧
    sGet bs4 ((100 : Nat) : Int) (n : Int) = Z ∧ sGet bs4 ((1000 : Nat) : Int) (n : Int) = ys ∧ cmb (cb 215) Z ys (((100 : Nat) : Int) - ((1000 : Nat) : Int)) n = cs ∧
    sGet bs5 ((100 : Nat) : Int) (n : Int) = cs ∧ sGet bs5 ((1000 : Nat) : Int) (n : Int) = ys := by
  obtain ⟨Z, hZ⟩ : ∃ x, cmb (cb 215) ys cs (((100 : Nat) : Int) - ((1000 : Nat) : Int)) n = x := ⟨_, rfl⟩
  have lZ : Z.length = n := by rw [← hZ, cmb_len, hy]
  have aZ : ∀ j, j < n → Z.getD j 0 = bits .xor .u8 (ys.getD j 0) (cs.getD j 0) := fun j hj => by
    rw [← hZ, cmb_at _ _ _ _ n (by omega) (by omega) n (by omega) j, if_pos hj, cb_xor]
  have ax : ∀ j, bits .xor .u8 (cs.getD j 0) (bits .xor .u8 (ys.getD j 0) (cs.getD j 0)) = ys.getD j 0 ∧ bits .xor .u8 (bits .xor .u8 (ys.getD j 0) (cs.getD j 0)) (ys.getD j 0) = cs.getD j 0 := fun j => by
    have h1 := getD_255 ry j
    have h2 := getD_255 rc j
    obtain ⟨u, hu⟩ := Int.eq_ofNat_of_zero_le h1.1
    obtain ⟨v, hv⟩ := Int.eq_ofNat_of_zero_le h2.1
    rw [hu, hv]
    exact xor_swap u v (by omega) (by omega)
  obtain ⟨bs1, h1⟩ : ∃ x, sPut (alP 0) (z0 2048) (z0 1) ((100 : Nat) : Int) ys = x := ⟨_, rfl⟩
  obtain ⟨bs2, h2⟩ : ∃ x, sPut (alP 0) bs1 (z0 1) ((1000 : Nat) : Int) cs = x := ⟨_, rfl⟩
  obtain ⟨bs3, h3⟩ : ∃ x, sPut (alP 0) bs2 (z0 1) ((100 : Nat) : Int) Z = x := ⟨_, rfl⟩
  obtain ⟨bs4, h4⟩ : ∃ x, sPut (alP 0) bs3 (z0 1) ((1000 : Nat) : Int) ys = x := ⟨_, rfl⟩
  obtain ⟨bs5, h5⟩ : ∃ x, sPut (alP 0) bs4 (z0 1) ((100 : Nat) : Int) cs = x := ⟨_, rfl⟩
  have hz : (z0 2048).length = 2048 := z0_len 2048
  have l1 : bs1.length = 2048 := by rw [← h1, put_len _ _ _ _ (by omega), hz]
  have l2 : bs2.length = 2048 := by rw [← h2, put_len _ _ _ _ (by omega), l1]
  have l3 : bs3.length = 2048 := by rw [← h3, put_len _ _ _ _ (by omega), l2]
  have l4 : bs4.length = 2048 := by rw [← h4, put_len _ _ _ _ (by omega), l3]
  have l5 : bs5.length = 2048 := by rw [← h5, put_len _ _ _ _ (by omega), l4]
  have same : ∀ (bs ks zs : List Int) (a : Nat), zs.length = n → a + n ≤ bs.length → sGet (sPut (alP 0) bs ks (a : Int) zs) (a : Int) (n : Int) = zs := fun bs ks zs a hl hb => by have := get_put_same bs ks zs a (by omega); rw [hl] at this; exact this
  have g1 : sGet bs1 ((100 : Nat) : Int) (n : Int) = ys := by rw [← h1]; exact same _ _ _ _ hy (by omega)
  have g2a : sGet bs2 ((100 : Nat) : Int) (n : Int) = ys := by rw [← h2, get_put_far _ _ _ _ _ _ (by omega) (by omega) (by omega), g1]
  have g2b : sGet bs2 ((1000 : Nat) : Int) (n : Int) = cs := by rw [← h2]; exact same _ _ _ _ hc (by omega)
  have g3a : sGet bs3 ((100 : Nat) : Int) (n : Int) = Z := by rw [← h3]; exact same _ _ _ _ lZ (by omega)
  have g3b : sGet bs3 ((1000 : Nat) : Int) (n : Int) = cs := by rw [← h3, get_put_far _ _ _ _ _ _ (by omega) (by omega) (by omega), g2b]
  have g4a : sGet bs4 ((100 : Nat) : Int) (n : Int) = Z := by rw [← h4, get_put_far _ _ _ _ _ _ (by omega) (by omega) (by omega), g3a]
  have g4b : sGet bs4 ((1000 : Nat) : Int) (n : Int) = ys := by rw [← h4]; exact same _ _ _ _ hy (by omega)
  have g5a : sGet bs5 ((100 : Nat) : Int) (n : Int) = cs := by rw [← h5]; exact same _ _ _ _ hc (by omega)
  have g5b : sGet bs5 ((1000 : Nat) : Int) (n : Int) = ys := by rw [← h5, get_put_far _ _ _ _ _ _ (by omega) (by omega) (by omega), g4b]
  refine ⟨bs1, bs2, bs3, bs4, bs5, Z, h1, h2, h3, h4, h5, ⟨l1, l2, l3, l4, l5⟩, g2a, g2b, hZ, g3b, g3a, ?_, g4a, g4b, ?_, g5a, g5b⟩
  · exact cmb_eq _ _ _ _ _ n hc hy (by omega) (fun j hj => by rw [cb_xor, aZ j hj]; exact (ax j).1)
  · exact cmb_eq _ _ _ _ _ n lZ hc (by omega) (fun j hj => by rw [cb_xor, aZ j hj]; exact (ax j).2)
end Go.Proofs.Ythjdjbipfdigeaa

