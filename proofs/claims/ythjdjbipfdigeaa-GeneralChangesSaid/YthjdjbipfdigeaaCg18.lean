/- Contracts and laws on the way to the statement, text 18 of 25. Conditions: as each states them. -/
import Derived.Test.YthjdjbipfdigeaaCg5
import Derived.Test.YthjdjbipfdigeaaCg6
import Derived.Test.YthjdjbipfdigeaaCg11
import Derived.Test.YthjdjbipfdigeaaCg15
import Derived.Test.YthjdjbipfdigeaaCg17
namespace Go.Proofs.Ythjdjbipfdigeaa
open Go.RowKit
set_option maxRecDepth 100000
set_option linter.unusedVariables false
set_option linter.unusedSimpArgs false
theorem and8_lt : ∀ n : Nat, n < 16 → bits .and .i64 (n : Int) 8 = if 8 ≤ n then 8 else 0 := by decide +kernel
theorem mc_new (W : World) (is os rs : List Int) (ps : List Value) (s : Value) (ov : Bool) (h1 : is.length = 12) (h2 : os.length = 16) (h3 : rs.length = 16) (h4 : ps.length = 10) : Mc (W.alloc (.cells (mcC is os rs ps s ov).toArray 69)) W.heap.size is os rs ps s ov := ⟨heap_alloc_new W _, h1, h2, h3, h4⟩
set_option maxRecDepth 1000000 in
set_option maxHeartbeats 4000000 in
theorem Exec_plain (op fm r1 r2 x2 b1 d1 b2 d2 l1 l2 i2 : Int) (a0 a1 a2 a3 a4 a5 a6 a7 a8 a9 a10 a11 a12 a13 a14 a15 : Int) (pm pk : Int) (pM pW pP : Bool) (pc pi pq pg pa : Int) (sg : Nat) (L : List Nat) (R : World → Prop) (n0 n1 n2 n3 n4 n5 n6 n7 n8 n9 n10 n11 n12 n13 n14 n15 : Int) (vm vk : Int) (vM vW vP : Bool) (vc vi vq vg va : Int) (ov : Bool) (w : World) (hkn : kn op = true) (hck : chk op fm [op, fm, r1, r2, x2, b1, d1, b2, d2, l1, l2, i2] = 0) (hv : pok pm pk pc pi pq pg pa = true) (hL : ∀ k, k ∈ L → k < w.heap.size) (hR : ∀ W W', R W → Below w.heap.size W W' → R W') (hex : ∀ (g : Nat) (W : World), w.heap.size ≤ g → Below w.heap.size w W → Mc W g [op, fm, r1, r2, x2, b1, d1, b2, d2, l1, l2, i2] [a0, a1, a2, a3, a4, a5, a6, a7, a8, a9, a10, a11, a12, a13, a14, a15] [a0, a1, a2, a3, a4, a5, a6, a7, a8, a9, a10, a11, a12, a13, a14, a15] [.int .i64 pm, .int .i64 pk, .bool pM, .bool pW, .bool pP, .int .i64 pc, .int .i64 pi, .int .i64 pq, .int .i64 pg, .int .i64 pa] (.pointer (some ⟨sg, 0, none⟩)) false → Calls Try.prog 31 #[.pointer (some ⟨g, 0, none⟩)] W fun e w' => e = .returned (.tuple #[]) ∧ Mc w' g [op, fm, r1, r2, x2, b1, d1, b2, d2, l1, l2, i2] [a0, a1, a2, a3, a4, a5, a6, a7, a8, a9, a10, a11, a12, a13, a14, a15] [n0, n1, n2, n3, n4, n5, n6, n7, n8, n9, n10, n11, n12, n13, n14, n15] [(.int .i64 vm), (.int .i64 vk), (.bool vM), (.bool vW), (.bool vP), (.int .i64 vc), (.int .i64 vi), (.int .i64 vq), (.int .i64 vg), (.int .i64 va)] (.pointer (some ⟨sg, 0, none⟩)) ov ∧ Ch W w' (g :: L) ∧ R w') (ho : ov = false) : Calls Try.prog 14 #[.agg #[.int .i64 op, .int .i64 fm, .int .i64 r1, .int .i64 r2, .int .i64 x2, .int .i64 b1, .int .i64 d1, .int .i64 b2, .int .i64 d2, .int .i64 l1, .int .i64 l2, .int .i64 i2], .agg #[.int .u32 a0, .int .u32 a1, .int .u32 a2, .int .u32 a3, .int .u32 a4, .int .u32 a5, .int .u32 a6, .int .u32 a7, .int .u32 a8, .int .u32 a9, .int .u32 a10, .int .u32 a11, .int .u32 a12, .int .u32 a13, .int .u32 a14, .int .u32 a15], .agg #[.int .i64 pm, .int .i64 pk, .bool pM, .bool pW, .bool pP, .int .i64 pc, .int .i64 pi, .int .i64 pq, .int .i64 pg, .int .i64 pa], .pointer (some ⟨sg, 0, none⟩)] w fun e w' => e = .returned (.tuple #[.agg #[.int .u32 n0, .int .u32 n1, .int .u32 n2, .int .u32 n3, .int .u32 n4, .int .u32 n5, .int .u32 n6, .int .u32 n7, .int .u32 n8, .int .u32 n9, .int .u32 n10, .int .u32 n11, .int .u32 n12, .int .u32 n13, .int .u32 n14, .int .u32 n15], .agg #[(.int .i64 vm), (.int .i64 vk), (.bool vM), (.bool vW), (.bool vP), (.int .i64 vc), (.int .i64 vi), (.int .i64 vq), (.int .i64 vg), (.int .i64 va)], .int .i64 0]) ∧ R w' ∧ Ch w w' L := by
  have hmf : ∀ (fn : Fn) (first cap : Array Value) (w : World), (Instr.makeFunc fn first cap).run Try.prog w = .ok (.func fn first cap) w := fun _ _ _ _ => rfl
  have KC := Lib.hid (fun W => knows_c op W)
  rw [hkn] at KC
  have CC := Lib.hid (fun W => icheck_c op fm r1 r2 x2 b1 d1 b2 d2 l1 l2 i2 W)
  rw [hck] at CC
  have VC := Lib.hid (fun W => valid_c pm pk pM pW pP pc pi pq pg pa W)
  rw [hv] at VC
  subst ho
  have HX := Lib.hid hex
  have HLL := Lib.hid hL
  have HRR := Lib.hid hR
  clear hkn hck hv hex hL hR
  go_enter_defers Try.func14, Try.ntmps14
  go_upto_region 1 with fail
  have X0 := Lib.hid (show XF w ((((((w.alloc (.cells #[.int .i64 op, .int .i64 fm, .int .i64 r1, .int .i64 r2, .int .i64 x2, .int .i64 b1, .int .i64 d1, .int .i64 b2, .int .i64 d2, .int .i64 l1, .int .i64 l2, .int .i64 i2] 25)).alloc (.cells #[.int .u32 a0, .int .u32 a1, .int .u32 a2, .int .u32 a3, .int .u32 a4, .int .u32 a5, .int .u32 a6, .int .u32 a7, .int .u32 a8, .int .u32 a9, .int .u32 a10, .int .u32 a11, .int .u32 a12, .int .u32 a13, .int .u32 a14, .int .u32 a15] 28)).alloc (.cells #[.int .i64 pm, .int .i64 pk, .bool pM, .bool pW, .bool pP, .int .i64 pc, .int .i64 pi, .int .i64 pq, .int .i64 pg, .int .i64 pa] 30)).alloc (.cells #[.int .u32 0, .int .u32 0, .int .u32 0, .int .u32 0, .int .u32 0, .int .u32 0, .int .u32 0, .int .u32 0, .int .u32 0, .int .u32 0, .int .u32 0, .int .u32 0, .int .u32 0, .int .u32 0, .int .u32 0, .int .u32 0] 28)).alloc (.cells #[.int .i64 0, .int .i64 0, .bool false, .bool false, .bool false, .int .i64 0, .int .i64 0, .int .i64 0, .int .i64 0, .int .i64 0] 30)).alloc (.cells #[.int .i64 0] 3)) [] [op, fm, r1, r2, x2, b1, d1, b2, d2, l1, l2, i2] [a0, a1, a2, a3, a4, a5, a6, a7, a8, a9, a10, a11, a12, a13, a14, a15] [.int .i64 pm, .int .i64 pk, .bool pM, .bool pW, .bool pP, .int .i64 pc, .int .i64 pi, .int .i64 pq, .int .i64 pg, .int .i64 pa] [.int .u32 0, .int .u32 0, .int .u32 0, .int .u32 0, .int .u32 0, .int .u32 0, .int .u32 0, .int .u32 0, .int .u32 0, .int .u32 0, .int .u32 0, .int .u32 0, .int .u32 0, .int .u32 0, .int .u32 0, .int .u32 0] [.int .i64 0, .int .i64 0, .bool false, .bool false, .bool false, .int .i64 0, .int .i64 0, .int .i64 0, .int .i64 0, .int .i64 0] (.int .i64 0) from XF.start w [] [op, fm, r1, r2, x2, b1, d1, b2, d2, l1, l2, i2] [a0, a1, a2, a3, a4, a5, a6, a7, a8, a9, a10, a11, a12, a13, a14, a15] [.int .i64 pm, .int .i64 pk, .bool pM, .bool pW, .bool pP, .int .i64 pc, .int .i64 pi, .int .i64 pq, .int .i64 pg, .int .i64 pa] [.int .u32 0, .int .u32 0, .int .u32 0, .int .u32 0, .int .u32 0, .int .u32 0, .int .u32 0, .int .u32 0, .int .u32 0, .int .u32 0, .int .u32 0, .int .u32 0, .int .u32 0, .int .u32 0, .int .u32 0, .int .u32 0] [.int .i64 0, .int .i64 0, .bool false, .bool false, .bool false, .int .i64 0, .int .i64 0, .int .i64 0, .int .i64 0, .int .i64 0] (.int .i64 0))
  obtain ⟨W0, hW0⟩ : ∃ W0, ((((((w.alloc (.cells #[.int .i64 op, .int .i64 fm, .int .i64 r1, .int .i64 r2, .int .i64 x2, .int .i64 b1, .int .i64 d1, .int .i64 b2, .int .i64 d2, .int .i64 l1, .int .i64 l2, .int .i64 i2] 25)).alloc (.cells #[.int .u32 a0, .int .u32 a1, .int .u32 a2, .int .u32 a3, .int .u32 a4, .int .u32 a5, .int .u32 a6, .int .u32 a7, .int .u32 a8, .int .u32 a9, .int .u32 a10, .int .u32 a11, .int .u32 a12, .int .u32 a13, .int .u32 a14, .int .u32 a15] 28)).alloc (.cells #[.int .i64 pm, .int .i64 pk, .bool pM, .bool pW, .bool pP, .int .i64 pc, .int .i64 pi, .int .i64 pq, .int .i64 pg, .int .i64 pa] 30)).alloc (.cells #[.int .u32 0, .int .u32 0, .int .u32 0, .int .u32 0, .int .u32 0, .int .u32 0, .int .u32 0, .int .u32 0, .int .u32 0, .int .u32 0, .int .u32 0, .int .u32 0, .int .u32 0, .int .u32 0, .int .u32 0, .int .u32 0] 28)).alloc (.cells #[.int .i64 0, .int .i64 0, .bool false, .bool false, .bool false, .int .i64 0, .int .i64 0, .int .i64 0, .int .i64 0, .int .i64 0] 30)).alloc (.cells #[.int .i64 0] 3)) = W0 := ⟨_, rfl⟩
  rw [hW0] at X0
  try rw [hW0]
  clear hW0
  have hb0 : W0.cell? ⟨w.heap.size, 0, none⟩ = some (.int .i64 op) := X0.out.b0.cell (c := 0) rfl
  go_upto_region 3 with (first
    | (go_at_call 11; refine (KC.out _).mono ?_; rintro e w1 ⟨rfl, nk, hw1⟩; have X1 := Lib.hid (X0.out.keep (below_of_drew hw1)); clear hw1; have ka0 : w1.cell? ⟨w.heap.size, 0, none⟩ = some (.int .i64 op) := X1.out.b0.cell (c := 0) rfl; have ka1 : w1.cell? ⟨w.heap.size, 1, none⟩ = some (.int .i64 fm) := X1.out.b0.cell (c := 1) rfl; have ka2 : w1.cell? ⟨w.heap.size, 2, none⟩ = some (.int .i64 r1) := X1.out.b0.cell (c := 2) rfl; have ka3 : w1.cell? ⟨w.heap.size, 3, none⟩ = some (.int .i64 r2) := X1.out.b0.cell (c := 3) rfl; have ka4 : w1.cell? ⟨w.heap.size, 4, none⟩ = some (.int .i64 x2) := X1.out.b0.cell (c := 4) rfl; have ka5 : w1.cell? ⟨w.heap.size, 5, none⟩ = some (.int .i64 b1) := X1.out.b0.cell (c := 5) rfl; have ka6 : w1.cell? ⟨w.heap.size, 6, none⟩ = some (.int .i64 d1) := X1.out.b0.cell (c := 6) rfl; have ka7 : w1.cell? ⟨w.heap.size, 7, none⟩ = some (.int .i64 b2) := X1.out.b0.cell (c := 7) rfl; have ka8 : w1.cell? ⟨w.heap.size, 8, none⟩ = some (.int .i64 d2) := X1.out.b0.cell (c := 8) rfl; have ka9 : w1.cell? ⟨w.heap.size, 9, none⟩ = some (.int .i64 l1) := X1.out.b0.cell (c := 9) rfl; have ka10 : w1.cell? ⟨w.heap.size, 10, none⟩ = some (.int .i64 l2) := X1.out.b0.cell (c := 10) rfl; have ka11 : w1.cell? ⟨w.heap.size, 11, none⟩ = some (.int .i64 i2) := X1.out.b0.cell (c := 11) rfl)
    | (go_at_call 28; refine (CC.out _).mono ?_; rintro e w2 ⟨rfl, hb⟩; have X2 := Lib.hid (X1.out.keep hb); clear hb; have kb0 : w2.cell? ⟨w.heap.size + 1 + 1, 0, none⟩ = some (.int .i64 pm) := X2.out.b2.cell (c := 0) rfl; have kb1 : w2.cell? ⟨w.heap.size + 1 + 1, 1, none⟩ = some (.int .i64 pk) := X2.out.b2.cell (c := 1) rfl; have kb2 : w2.cell? ⟨w.heap.size + 1 + 1, 2, none⟩ = some (.bool pM) := X2.out.b2.cell (c := 2) rfl; have kb3 : w2.cell? ⟨w.heap.size + 1 + 1, 3, none⟩ = some (.bool pW) := X2.out.b2.cell (c := 3) rfl; have kb4 : w2.cell? ⟨w.heap.size + 1 + 1, 4, none⟩ = some (.bool pP) := X2.out.b2.cell (c := 4) rfl; have kb5 : w2.cell? ⟨w.heap.size + 1 + 1, 5, none⟩ = some (.int .i64 pc) := X2.out.b2.cell (c := 5) rfl; have kb6 : w2.cell? ⟨w.heap.size + 1 + 1, 6, none⟩ = some (.int .i64 pi) := X2.out.b2.cell (c := 6) rfl; have kb7 : w2.cell? ⟨w.heap.size + 1 + 1, 7, none⟩ = some (.int .i64 pq) := X2.out.b2.cell (c := 7) rfl; have kb8 : w2.cell? ⟨w.heap.size + 1 + 1, 8, none⟩ = some (.int .i64 pg) := X2.out.b2.cell (c := 8) rfl; have kb9 : w2.cell? ⟨w.heap.size + 1 + 1, 9, none⟩ = some (.int .i64 pa) := X2.out.b2.cell (c := 9) rfl)
    | (go_at_call 29; refine (VC.out _).mono ?_; rintro e W ⟨rfl, hb⟩; have X3 := Lib.hid (X2.out.keep hb); clear hb))
  clear X0 X1 X2 hb0 ka0 ka1 ka2 ka3 ka4 ka5 ka6 ka7 ka8 ka9 ka10 ka11 kb0 kb1 kb2 kb3 kb4 kb5 kb6 kb7 kb8 kb9
  have ka0 : W.cell? ⟨w.heap.size, 0, none⟩ = some (.int .i64 op) := X3.out.b0.cell (c := 0) rfl
  have ka1 : W.cell? ⟨w.heap.size, 1, none⟩ = some (.int .i64 fm) := X3.out.b0.cell (c := 1) rfl
  have ka2 : W.cell? ⟨w.heap.size, 2, none⟩ = some (.int .i64 r1) := X3.out.b0.cell (c := 2) rfl
  have ka3 : W.cell? ⟨w.heap.size, 3, none⟩ = some (.int .i64 r2) := X3.out.b0.cell (c := 3) rfl
  have ka4 : W.cell? ⟨w.heap.size, 4, none⟩ = some (.int .i64 x2) := X3.out.b0.cell (c := 4) rfl
  have ka5 : W.cell? ⟨w.heap.size, 5, none⟩ = some (.int .i64 b1) := X3.out.b0.cell (c := 5) rfl
  have ka6 : W.cell? ⟨w.heap.size, 6, none⟩ = some (.int .i64 d1) := X3.out.b0.cell (c := 6) rfl
  have ka7 : W.cell? ⟨w.heap.size, 7, none⟩ = some (.int .i64 b2) := X3.out.b0.cell (c := 7) rfl
  have ka8 : W.cell? ⟨w.heap.size, 8, none⟩ = some (.int .i64 d2) := X3.out.b0.cell (c := 8) rfl
  have ka9 : W.cell? ⟨w.heap.size, 9, none⟩ = some (.int .i64 l1) := X3.out.b0.cell (c := 9) rfl
  have ka10 : W.cell? ⟨w.heap.size, 10, none⟩ = some (.int .i64 l2) := X3.out.b0.cell (c := 10) rfl
  have ka11 : W.cell? ⟨w.heap.size, 11, none⟩ = some (.int .i64 i2) := X3.out.b0.cell (c := 11) rfl
  have kc0 : W.cell? ⟨w.heap.size + 1, 0, none⟩ = some (.int .u32 a0) := X3.out.b1.cell (c := 0) rfl
  have kc1 : W.cell? ⟨w.heap.size + 1, 1, none⟩ = some (.int .u32 a1) := X3.out.b1.cell (c := 1) rfl
  have kc2 : W.cell? ⟨w.heap.size + 1, 2, none⟩ = some (.int .u32 a2) := X3.out.b1.cell (c := 2) rfl
  have kc3 : W.cell? ⟨w.heap.size + 1, 3, none⟩ = some (.int .u32 a3) := X3.out.b1.cell (c := 3) rfl
  have kc4 : W.cell? ⟨w.heap.size + 1, 4, none⟩ = some (.int .u32 a4) := X3.out.b1.cell (c := 4) rfl
  have kc5 : W.cell? ⟨w.heap.size + 1, 5, none⟩ = some (.int .u32 a5) := X3.out.b1.cell (c := 5) rfl
  have kc6 : W.cell? ⟨w.heap.size + 1, 6, none⟩ = some (.int .u32 a6) := X3.out.b1.cell (c := 6) rfl
  have kc7 : W.cell? ⟨w.heap.size + 1, 7, none⟩ = some (.int .u32 a7) := X3.out.b1.cell (c := 7) rfl
  have kc8 : W.cell? ⟨w.heap.size + 1, 8, none⟩ = some (.int .u32 a8) := X3.out.b1.cell (c := 8) rfl
  have kc9 : W.cell? ⟨w.heap.size + 1, 9, none⟩ = some (.int .u32 a9) := X3.out.b1.cell (c := 9) rfl
  have kc10 : W.cell? ⟨w.heap.size + 1, 10, none⟩ = some (.int .u32 a10) := X3.out.b1.cell (c := 10) rfl
  have kc11 : W.cell? ⟨w.heap.size + 1, 11, none⟩ = some (.int .u32 a11) := X3.out.b1.cell (c := 11) rfl
  have kc12 : W.cell? ⟨w.heap.size + 1, 12, none⟩ = some (.int .u32 a12) := X3.out.b1.cell (c := 12) rfl
  have kc13 : W.cell? ⟨w.heap.size + 1, 13, none⟩ = some (.int .u32 a13) := X3.out.b1.cell (c := 13) rfl
  have kc14 : W.cell? ⟨w.heap.size + 1, 14, none⟩ = some (.int .u32 a14) := X3.out.b1.cell (c := 14) rfl
  have kc15 : W.cell? ⟨w.heap.size + 1, 15, none⟩ = some (.int .u32 a15) := X3.out.b1.cell (c := 15) rfl
  have kb0 : W.cell? ⟨w.heap.size + 1 + 1, 0, none⟩ = some (.int .i64 pm) := X3.out.b2.cell (c := 0) rfl
  have kb1 : W.cell? ⟨w.heap.size + 1 + 1, 1, none⟩ = some (.int .i64 pk) := X3.out.b2.cell (c := 1) rfl
  have kb2 : W.cell? ⟨w.heap.size + 1 + 1, 2, none⟩ = some (.bool pM) := X3.out.b2.cell (c := 2) rfl
  have kb3 : W.cell? ⟨w.heap.size + 1 + 1, 3, none⟩ = some (.bool pW) := X3.out.b2.cell (c := 3) rfl
  have kb4 : W.cell? ⟨w.heap.size + 1 + 1, 4, none⟩ = some (.bool pP) := X3.out.b2.cell (c := 4) rfl
  have kb5 : W.cell? ⟨w.heap.size + 1 + 1, 5, none⟩ = some (.int .i64 pc) := X3.out.b2.cell (c := 5) rfl
  have kb6 : W.cell? ⟨w.heap.size + 1 + 1, 6, none⟩ = some (.int .i64 pi) := X3.out.b2.cell (c := 6) rfl
  have kb7 : W.cell? ⟨w.heap.size + 1 + 1, 7, none⟩ = some (.int .i64 pq) := X3.out.b2.cell (c := 7) rfl
  have kb8 : W.cell? ⟨w.heap.size + 1 + 1, 8, none⟩ = some (.int .i64 pg) := X3.out.b2.cell (c := 8) rfl
  have kb9 : W.cell? ⟨w.heap.size + 1 + 1, 9, none⟩ = some (.int .i64 pa) := X3.out.b2.cell (c := 9) rfl
  go_upto_region 5 with fail
  clear ka0 ka1 ka2 ka3 ka4 ka5 ka6 ka7 ka8 ka9 ka10 ka11 kc0 kc1 kc2 kc3 kc4 kc5 kc6 kc7 kc8 kc9 kc10 kc11 kc12 kc13 kc14 kc15 kb0 kb1 kb2 kb3 kb4 kb5 kb6 kb7 kb8 kb9
  have M4 : Hid (Mc (W.alloc (.cells #[.int .i64 op, .int .i64 fm, .int .i64 r1, .int .i64 r2, .int .i64 x2, .int .i64 b1, .int .i64 d1, .int .i64 b2, .int .i64 d2, .int .i64 l1, .int .i64 l2, .int .i64 i2, .int .u32 a0, .int .u32 a1, .int .u32 a2, .int .u32 a3, .int .u32 a4, .int .u32 a5, .int .u32 a6, .int .u32 a7, .int .u32 a8, .int .u32 a9, .int .u32 a10, .int .u32 a11, .int .u32 a12, .int .u32 a13, .int .u32 a14, .int .u32 a15, .int .u32 a0, .int .u32 a1, .int .u32 a2, .int .u32 a3, .int .u32 a4, .int .u32 a5, .int .u32 a6, .int .u32 a7, .int .u32 a8, .int .u32 a9, .int .u32 a10, .int .u32 a11, .int .u32 a12, .int .u32 a13, .int .u32 a14, .int .u32 a15, .int .i64 pm, .int .i64 pk, .bool pM, .bool pW, .bool pP, .int .i64 pc, .int .i64 pi, .int .i64 pq, .int .i64 pg, .int .i64 pa, .pointer (some ⟨sg, 0, none⟩), .bool false] 69)) W.heap.size [op, fm, r1, r2, x2, b1, d1, b2, d2, l1, l2, i2] [a0, a1, a2, a3, a4, a5, a6, a7, a8, a9, a10, a11, a12, a13, a14, a15] [a0, a1, a2, a3, a4, a5, a6, a7, a8, a9, a10, a11, a12, a13, a14, a15] [.int .i64 pm, .int .i64 pk, .bool pM, .bool pW, .bool pP, .int .i64 pc, .int .i64 pi, .int .i64 pq, .int .i64 pg, .int .i64 pa] (.pointer (some ⟨sg, 0, none⟩)) false) := mc_new W [op, fm, r1, r2, x2, b1, d1, b2, d2, l1, l2, i2] [a0, a1, a2, a3, a4, a5, a6, a7, a8, a9, a10, a11, a12, a13, a14, a15] [a0, a1, a2, a3, a4, a5, a6, a7, a8, a9, a10, a11, a12, a13, a14, a15] [.int .i64 pm, .int .i64 pk, .bool pM, .bool pW, .bool pP, .int .i64 pc, .int .i64 pi, .int .i64 pq, .int .i64 pg, .int .i64 pa] (.pointer (some ⟨sg, 0, none⟩)) false rfl rfl rfl rfl
  have X4 := Lib.hid (X3.out.keep ((Below.refl W.heap.size W).alloc (Nat.le_refl _) (.cells #[.int .i64 op, .int .i64 fm, .int .i64 r1, .int .i64 r2, .int .i64 x2, .int .i64 b1, .int .i64 d1, .int .i64 b2, .int .i64 d2, .int .i64 l1, .int .i64 l2, .int .i64 i2, .int .u32 a0, .int .u32 a1, .int .u32 a2, .int .u32 a3, .int .u32 a4, .int .u32 a5, .int .u32 a6, .int .u32 a7, .int .u32 a8, .int .u32 a9, .int .u32 a10, .int .u32 a11, .int .u32 a12, .int .u32 a13, .int .u32 a14, .int .u32 a15, .int .u32 a0, .int .u32 a1, .int .u32 a2, .int .u32 a3, .int .u32 a4, .int .u32 a5, .int .u32 a6, .int .u32 a7, .int .u32 a8, .int .u32 a9, .int .u32 a10, .int .u32 a11, .int .u32 a12, .int .u32 a13, .int .u32 a14, .int .u32 a15, .int .i64 pm, .int .i64 pk, .bool pM, .bool pW, .bool pP, .int .i64 pc, .int .i64 pi, .int .i64 pq, .int .i64 pg, .int .i64 pa, .pointer (some ⟨sg, 0, none⟩), .bool false] 69)))
  have hgm : w.heap.size + 6 ≤ W.heap.size := by have := X3.out.b5.lt; omega
  obtain ⟨W4, hW4⟩ : ∃ W4, W.alloc (.cells #[.int .i64 op, .int .i64 fm, .int .i64 r1, .int .i64 r2, .int .i64 x2, .int .i64 b1, .int .i64 d1, .int .i64 b2, .int .i64 d2, .int .i64 l1, .int .i64 l2, .int .i64 i2, .int .u32 a0, .int .u32 a1, .int .u32 a2, .int .u32 a3, .int .u32 a4, .int .u32 a5, .int .u32 a6, .int .u32 a7, .int .u32 a8, .int .u32 a9, .int .u32 a10, .int .u32 a11, .int .u32 a12, .int .u32 a13, .int .u32 a14, .int .u32 a15, .int .u32 a0, .int .u32 a1, .int .u32 a2, .int .u32 a3, .int .u32 a4, .int .u32 a5, .int .u32 a6, .int .u32 a7, .int .u32 a8, .int .u32 a9, .int .u32 a10, .int .u32 a11, .int .u32 a12, .int .u32 a13, .int .u32 a14, .int .u32 a15, .int .i64 pm, .int .i64 pk, .bool pM, .bool pW, .bool pP, .int .i64 pc, .int .i64 pi, .int .i64 pq, .int .i64 pg, .int .i64 pa, .pointer (some ⟨sg, 0, none⟩), .bool false] 69) = W4 := ⟨_, rfl⟩
  rw [hW4] at M4 X4
  try rw [hW4]
  obtain ⟨gm, hg⟩ : ∃ gm, W.heap.size = gm := ⟨_, rfl⟩
  rw [hg] at M4 hgm
  simp only [hg]
  have B4 := Lib.hid (X4.out.be.below (Nat.le_refl _) (by simp))
  clear hW4 hg X3
  go_upto_region 6 with (go_at_call 31; refine (HX.out gm W4 (by omega) B4.out M4.out).mono ?_; rintro e W5 ⟨rfl, hM, hC, hr⟩; have M5 := Lib.hid hM; have X5 := Lib.hid (X4.out.ch hC HLL.out hgm); have R5 := Lib.hid hr; clear hM hC hr)
  have cv := M5.out.cv
  have hgm' : gm ≠ w.heap.size + 1 + 1 + 1 ∧ gm ≠ w.heap.size + 1 + 1 + 1 + 1 ∧ gm ≠ w.heap.size + 1 + 1 + 1 + 1 + 1 := by omega
  obtain ⟨hq1, hq2, hq3⟩ := hgm'
  go_upto_region 8 with fail
  clear cv
  have mr0 : W5.cell? ⟨gm, 28, none⟩ = some (.int .u32 n0) := M5.out.cr (n := 0) (by omega)
  have mr1 : W5.cell? ⟨gm, 29, none⟩ = some (.int .u32 n1) := M5.out.cr (n := 1) (by omega)
  have mr2 : W5.cell? ⟨gm, 30, none⟩ = some (.int .u32 n2) := M5.out.cr (n := 2) (by omega)
  have mr3 : W5.cell? ⟨gm, 31, none⟩ = some (.int .u32 n3) := M5.out.cr (n := 3) (by omega)
  have mr4 : W5.cell? ⟨gm, 32, none⟩ = some (.int .u32 n4) := M5.out.cr (n := 4) (by omega)
  have mr5 : W5.cell? ⟨gm, 33, none⟩ = some (.int .u32 n5) := M5.out.cr (n := 5) (by omega)
  have mr6 : W5.cell? ⟨gm, 34, none⟩ = some (.int .u32 n6) := M5.out.cr (n := 6) (by omega)
  have mr7 : W5.cell? ⟨gm, 35, none⟩ = some (.int .u32 n7) := M5.out.cr (n := 7) (by omega)
  have mr8 : W5.cell? ⟨gm, 36, none⟩ = some (.int .u32 n8) := M5.out.cr (n := 8) (by omega)
  have mr9 : W5.cell? ⟨gm, 37, none⟩ = some (.int .u32 n9) := M5.out.cr (n := 9) (by omega)
  have mr10 : W5.cell? ⟨gm, 38, none⟩ = some (.int .u32 n10) := M5.out.cr (n := 10) (by omega)
  have mr11 : W5.cell? ⟨gm, 39, none⟩ = some (.int .u32 n11) := M5.out.cr (n := 11) (by omega)
  have mr12 : W5.cell? ⟨gm, 40, none⟩ = some (.int .u32 n12) := M5.out.cr (n := 12) (by omega)
  have mr13 : W5.cell? ⟨gm, 41, none⟩ = some (.int .u32 n13) := M5.out.cr (n := 13) (by omega)
  have mr14 : W5.cell? ⟨gm, 42, none⟩ = some (.int .u32 n14) := M5.out.cr (n := 14) (by omega)
  have mr15 : W5.cell? ⟨gm, 43, none⟩ = some (.int .u32 n15) := M5.out.cr (n := 15) (by omega)
  have mp0 : W5.cell? ⟨gm, 44, none⟩ = some (.int .i64 vm) := M5.out.cp (n := 0) (by omega)
  have mp1 : W5.cell? ⟨gm, 45, none⟩ = some (.int .i64 vk) := M5.out.cp (n := 1) (by omega)
  have mp2 : W5.cell? ⟨gm, 46, none⟩ = some (.bool vM) := M5.out.cp (n := 2) (by omega)
  have mp3 : W5.cell? ⟨gm, 47, none⟩ = some (.bool vW) := M5.out.cp (n := 3) (by omega)
  have mp4 : W5.cell? ⟨gm, 48, none⟩ = some (.bool vP) := M5.out.cp (n := 4) (by omega)
  have mp5 : W5.cell? ⟨gm, 49, none⟩ = some (.int .i64 vc) := M5.out.cp (n := 5) (by omega)
  have mp6 : W5.cell? ⟨gm, 50, none⟩ = some (.int .i64 vi) := M5.out.cp (n := 6) (by omega)
  have mp7 : W5.cell? ⟨gm, 51, none⟩ = some (.int .i64 vq) := M5.out.cp (n := 7) (by omega)
  have mp8 : W5.cell? ⟨gm, 52, none⟩ = some (.int .i64 vg) := M5.out.cp (n := 8) (by omega)
  have mp9 : W5.cell? ⟨gm, 53, none⟩ = some (.int .i64 va) := M5.out.cp (n := 9) (by omega)
  have xa0 : W5.cell? ⟨w.heap.size + 1 + 1 + 1, 0, none⟩ = some (.int .u32 0) := X5.out.b3.cell (c := 0) rfl
  have xaf0 := X5.out.b3.free 0
  have xa1 : W5.cell? ⟨w.heap.size + 1 + 1 + 1, 1, none⟩ = some (.int .u32 0) := X5.out.b3.cell (c := 1) rfl
  have xaf1 := X5.out.b3.free 1
  have xa2 : W5.cell? ⟨w.heap.size + 1 + 1 + 1, 2, none⟩ = some (.int .u32 0) := X5.out.b3.cell (c := 2) rfl
  have xaf2 := X5.out.b3.free 2
  have xa3 : W5.cell? ⟨w.heap.size + 1 + 1 + 1, 3, none⟩ = some (.int .u32 0) := X5.out.b3.cell (c := 3) rfl
  have xaf3 := X5.out.b3.free 3
  have xa4 : W5.cell? ⟨w.heap.size + 1 + 1 + 1, 4, none⟩ = some (.int .u32 0) := X5.out.b3.cell (c := 4) rfl
  have xaf4 := X5.out.b3.free 4
  have xa5 : W5.cell? ⟨w.heap.size + 1 + 1 + 1, 5, none⟩ = some (.int .u32 0) := X5.out.b3.cell (c := 5) rfl
  have xaf5 := X5.out.b3.free 5
  have xa6 : W5.cell? ⟨w.heap.size + 1 + 1 + 1, 6, none⟩ = some (.int .u32 0) := X5.out.b3.cell (c := 6) rfl
  have xaf6 := X5.out.b3.free 6
  have xa7 : W5.cell? ⟨w.heap.size + 1 + 1 + 1, 7, none⟩ = some (.int .u32 0) := X5.out.b3.cell (c := 7) rfl
  have xaf7 := X5.out.b3.free 7
  have xa8 : W5.cell? ⟨w.heap.size + 1 + 1 + 1, 8, none⟩ = some (.int .u32 0) := X5.out.b3.cell (c := 8) rfl
  have xaf8 := X5.out.b3.free 8
  have xa9 : W5.cell? ⟨w.heap.size + 1 + 1 + 1, 9, none⟩ = some (.int .u32 0) := X5.out.b3.cell (c := 9) rfl
  have xaf9 := X5.out.b3.free 9
  have xa10 : W5.cell? ⟨w.heap.size + 1 + 1 + 1, 10, none⟩ = some (.int .u32 0) := X5.out.b3.cell (c := 10) rfl
  have xaf10 := X5.out.b3.free 10
  have xa11 : W5.cell? ⟨w.heap.size + 1 + 1 + 1, 11, none⟩ = some (.int .u32 0) := X5.out.b3.cell (c := 11) rfl
  have xaf11 := X5.out.b3.free 11
  have xa12 : W5.cell? ⟨w.heap.size + 1 + 1 + 1, 12, none⟩ = some (.int .u32 0) := X5.out.b3.cell (c := 12) rfl
  have xaf12 := X5.out.b3.free 12
  have xa13 : W5.cell? ⟨w.heap.size + 1 + 1 + 1, 13, none⟩ = some (.int .u32 0) := X5.out.b3.cell (c := 13) rfl
  have xaf13 := X5.out.b3.free 13
  have xa14 : W5.cell? ⟨w.heap.size + 1 + 1 + 1, 14, none⟩ = some (.int .u32 0) := X5.out.b3.cell (c := 14) rfl
  have xaf14 := X5.out.b3.free 14
  have xa15 : W5.cell? ⟨w.heap.size + 1 + 1 + 1, 15, none⟩ = some (.int .u32 0) := X5.out.b3.cell (c := 15) rfl
  have xaf15 := X5.out.b3.free 15
  have ya0 : W5.cell? ⟨w.heap.size + 1 + 1 + 1 + 1, 0, none⟩ = some (.int .i64 0) := X5.out.b4.cell (c := 0) rfl
  have yaf0 := X5.out.b4.free 0
  have ya1 : W5.cell? ⟨w.heap.size + 1 + 1 + 1 + 1, 1, none⟩ = some (.int .i64 0) := X5.out.b4.cell (c := 1) rfl
  have yaf1 := X5.out.b4.free 1
  have ya2 : W5.cell? ⟨w.heap.size + 1 + 1 + 1 + 1, 2, none⟩ = some (.bool false) := X5.out.b4.cell (c := 2) rfl
  have yaf2 := X5.out.b4.free 2
  have ya3 : W5.cell? ⟨w.heap.size + 1 + 1 + 1 + 1, 3, none⟩ = some (.bool false) := X5.out.b4.cell (c := 3) rfl
  have yaf3 := X5.out.b4.free 3
  have ya4 : W5.cell? ⟨w.heap.size + 1 + 1 + 1 + 1, 4, none⟩ = some (.bool false) := X5.out.b4.cell (c := 4) rfl
  have yaf4 := X5.out.b4.free 4
  have ya5 : W5.cell? ⟨w.heap.size + 1 + 1 + 1 + 1, 5, none⟩ = some (.int .i64 0) := X5.out.b4.cell (c := 5) rfl
  have yaf5 := X5.out.b4.free 5
  have ya6 : W5.cell? ⟨w.heap.size + 1 + 1 + 1 + 1, 6, none⟩ = some (.int .i64 0) := X5.out.b4.cell (c := 6) rfl
  have yaf6 := X5.out.b4.free 6
  have ya7 : W5.cell? ⟨w.heap.size + 1 + 1 + 1 + 1, 7, none⟩ = some (.int .i64 0) := X5.out.b4.cell (c := 7) rfl
  have yaf7 := X5.out.b4.free 7
  have ya8 : W5.cell? ⟨w.heap.size + 1 + 1 + 1 + 1, 8, none⟩ = some (.int .i64 0) := X5.out.b4.cell (c := 8) rfl
  have yaf8 := X5.out.b4.free 8
  have ya9 : W5.cell? ⟨w.heap.size + 1 + 1 + 1 + 1, 9, none⟩ = some (.int .i64 0) := X5.out.b4.cell (c := 9) rfl
  have yaf9 := X5.out.b4.free 9
  have za0 : W5.cell? ⟨w.heap.size + 1 + 1 + 1 + 1 + 1, 0, none⟩ = some (.int .i64 0) := X5.out.b5.cell (c := 0) rfl
  have zaf0 := X5.out.b5.free 0
  go_region
  obtain ⟨W6, hW6⟩ : ∃ W6, (((((((((((((((((((((((((((W5.setCell ⟨w.heap.size + 1 + 1 + 1, 0, none⟩ (.int .u32 n0)).setCell ⟨w.heap.size + 1 + 1 + 1, 1, none⟩ (.int .u32 n1)).setCell ⟨w.heap.size + 1 + 1 + 1, 2, none⟩ (.int .u32 n2)).setCell ⟨w.heap.size + 1 + 1 + 1, 3, none⟩ (.int .u32 n3)).setCell ⟨w.heap.size + 1 + 1 + 1, 4, none⟩ (.int .u32 n4)).setCell ⟨w.heap.size + 1 + 1 + 1, 5, none⟩ (.int .u32 n5)).setCell ⟨w.heap.size + 1 + 1 + 1, 6, none⟩ (.int .u32 n6)).setCell ⟨w.heap.size + 1 + 1 + 1, 7, none⟩ (.int .u32 n7)).setCell ⟨w.heap.size + 1 + 1 + 1, 8, none⟩ (.int .u32 n8)).setCell ⟨w.heap.size + 1 + 1 + 1, 9, none⟩ (.int .u32 n9)).setCell ⟨w.heap.size + 1 + 1 + 1, 10, none⟩ (.int .u32 n10)).setCell ⟨w.heap.size + 1 + 1 + 1, 11, none⟩ (.int .u32 n11)).setCell ⟨w.heap.size + 1 + 1 + 1, 12, none⟩ (.int .u32 n12)).setCell ⟨w.heap.size + 1 + 1 + 1, 13, none⟩ (.int .u32 n13)).setCell ⟨w.heap.size + 1 + 1 + 1, 14, none⟩ (.int .u32 n14)).setCell ⟨w.heap.size + 1 + 1 + 1, 15, none⟩ (.int .u32 n15)).setCell ⟨w.heap.size + 1 + 1 + 1 + 1, 0, none⟩ ((.int .i64 vm))).setCell ⟨w.heap.size + 1 + 1 + 1 + 1, 1, none⟩ ((.int .i64 vk))).setCell ⟨w.heap.size + 1 + 1 + 1 + 1, 2, none⟩ ((.bool vM))).setCell ⟨w.heap.size + 1 + 1 + 1 + 1, 3, none⟩ ((.bool vW))).setCell ⟨w.heap.size + 1 + 1 + 1 + 1, 4, none⟩ ((.bool vP))).setCell ⟨w.heap.size + 1 + 1 + 1 + 1, 5, none⟩ ((.int .i64 vc))).setCell ⟨w.heap.size + 1 + 1 + 1 + 1, 6, none⟩ ((.int .i64 vi))).setCell ⟨w.heap.size + 1 + 1 + 1 + 1, 7, none⟩ ((.int .i64 vq))).setCell ⟨w.heap.size + 1 + 1 + 1 + 1, 8, none⟩ ((.int .i64 vg))).setCell ⟨w.heap.size + 1 + 1 + 1 + 1, 9, none⟩ ((.int .i64 va))).setCell ⟨w.heap.size + 1 + 1 + 1 + 1 + 1, 0, none⟩ (.int .i64 0)).drew = W6 := ⟨_, rfl⟩
  have X6 := Lib.hid (show XF w (((((((((((((((((((((((((((W5.setCell ⟨w.heap.size + 1 + 1 + 1, 0, none⟩ (.int .u32 n0)).setCell ⟨w.heap.size + 1 + 1 + 1, 1, none⟩ (.int .u32 n1)).setCell ⟨w.heap.size + 1 + 1 + 1, 2, none⟩ (.int .u32 n2)).setCell ⟨w.heap.size + 1 + 1 + 1, 3, none⟩ (.int .u32 n3)).setCell ⟨w.heap.size + 1 + 1 + 1, 4, none⟩ (.int .u32 n4)).setCell ⟨w.heap.size + 1 + 1 + 1, 5, none⟩ (.int .u32 n5)).setCell ⟨w.heap.size + 1 + 1 + 1, 6, none⟩ (.int .u32 n6)).setCell ⟨w.heap.size + 1 + 1 + 1, 7, none⟩ (.int .u32 n7)).setCell ⟨w.heap.size + 1 + 1 + 1, 8, none⟩ (.int .u32 n8)).setCell ⟨w.heap.size + 1 + 1 + 1, 9, none⟩ (.int .u32 n9)).setCell ⟨w.heap.size + 1 + 1 + 1, 10, none⟩ (.int .u32 n10)).setCell ⟨w.heap.size + 1 + 1 + 1, 11, none⟩ (.int .u32 n11)).setCell ⟨w.heap.size + 1 + 1 + 1, 12, none⟩ (.int .u32 n12)).setCell ⟨w.heap.size + 1 + 1 + 1, 13, none⟩ (.int .u32 n13)).setCell ⟨w.heap.size + 1 + 1 + 1, 14, none⟩ (.int .u32 n14)).setCell ⟨w.heap.size + 1 + 1 + 1, 15, none⟩ (.int .u32 n15)).setCell ⟨w.heap.size + 1 + 1 + 1 + 1, 0, none⟩ ((.int .i64 vm))).setCell ⟨w.heap.size + 1 + 1 + 1 + 1, 1, none⟩ ((.int .i64 vk))).setCell ⟨w.heap.size + 1 + 1 + 1 + 1, 2, none⟩ ((.bool vM))).setCell ⟨w.heap.size + 1 + 1 + 1 + 1, 3, none⟩ ((.bool vW))).setCell ⟨w.heap.size + 1 + 1 + 1 + 1, 4, none⟩ ((.bool vP))).setCell ⟨w.heap.size + 1 + 1 + 1 + 1, 5, none⟩ ((.int .i64 vc))).setCell ⟨w.heap.size + 1 + 1 + 1 + 1, 6, none⟩ ((.int .i64 vi))).setCell ⟨w.heap.size + 1 + 1 + 1 + 1, 7, none⟩ ((.int .i64 vq))).setCell ⟨w.heap.size + 1 + 1 + 1 + 1, 8, none⟩ ((.int .i64 vg))).setCell ⟨w.heap.size + 1 + 1 + 1 + 1, 9, none⟩ ((.int .i64 va))).setCell ⟨w.heap.size + 1 + 1 + 1 + 1 + 1, 0, none⟩ (.int .i64 0)).drew L [op, fm, r1, r2, x2, b1, d1, b2, d2, l1, l2, i2] [a0, a1, a2, a3, a4, a5, a6, a7, a8, a9, a10, a11, a12, a13, a14, a15] [.int .i64 pm, .int .i64 pk, .bool pM, .bool pW, .bool pP, .int .i64 pc, .int .i64 pi, .int .i64 pq, .int .i64 pg, .int .i64 pa] [.int .u32 n0, .int .u32 n1, .int .u32 n2, .int .u32 n3, .int .u32 n4, .int .u32 n5, .int .u32 n6, .int .u32 n7, .int .u32 n8, .int .u32 n9, .int .u32 n10, .int .u32 n11, .int .u32 n12, .int .u32 n13, .int .u32 n14, .int .u32 n15] [(.int .i64 vm), (.int .i64 vk), (.bool vM), (.bool vW), (.bool vP), (.int .i64 vc), (.int .i64 vi), (.int .i64 vq), (.int .i64 vg), (.int .i64 va)] (.int .i64 0) from (X5.out.give rfl rfl (.int .u32 n0) (.int .u32 n1) (.int .u32 n2) (.int .u32 n3) (.int .u32 n4) (.int .u32 n5) (.int .u32 n6) (.int .u32 n7) (.int .u32 n8) (.int .u32 n9) (.int .u32 n10) (.int .u32 n11) (.int .u32 n12) (.int .u32 n13) (.int .u32 n14) (.int .u32 n15) (.int .i64 vm) (.int .i64 vk) (.bool vM) (.bool vW) (.bool vP) (.int .i64 vc) (.int .i64 vi) (.int .i64 vq) (.int .i64 vg) (.int .i64 va) (.int .i64 0)).drewN 1)
  have R6 := Lib.hid (HRR.out W5 (((((((((((((((((((((((((((W5.setCell ⟨w.heap.size + 1 + 1 + 1, 0, none⟩ (.int .u32 n0)).setCell ⟨w.heap.size + 1 + 1 + 1, 1, none⟩ (.int .u32 n1)).setCell ⟨w.heap.size + 1 + 1 + 1, 2, none⟩ (.int .u32 n2)).setCell ⟨w.heap.size + 1 + 1 + 1, 3, none⟩ (.int .u32 n3)).setCell ⟨w.heap.size + 1 + 1 + 1, 4, none⟩ (.int .u32 n4)).setCell ⟨w.heap.size + 1 + 1 + 1, 5, none⟩ (.int .u32 n5)).setCell ⟨w.heap.size + 1 + 1 + 1, 6, none⟩ (.int .u32 n6)).setCell ⟨w.heap.size + 1 + 1 + 1, 7, none⟩ (.int .u32 n7)).setCell ⟨w.heap.size + 1 + 1 + 1, 8, none⟩ (.int .u32 n8)).setCell ⟨w.heap.size + 1 + 1 + 1, 9, none⟩ (.int .u32 n9)).setCell ⟨w.heap.size + 1 + 1 + 1, 10, none⟩ (.int .u32 n10)).setCell ⟨w.heap.size + 1 + 1 + 1, 11, none⟩ (.int .u32 n11)).setCell ⟨w.heap.size + 1 + 1 + 1, 12, none⟩ (.int .u32 n12)).setCell ⟨w.heap.size + 1 + 1 + 1, 13, none⟩ (.int .u32 n13)).setCell ⟨w.heap.size + 1 + 1 + 1, 14, none⟩ (.int .u32 n14)).setCell ⟨w.heap.size + 1 + 1 + 1, 15, none⟩ (.int .u32 n15)).setCell ⟨w.heap.size + 1 + 1 + 1 + 1, 0, none⟩ ((.int .i64 vm))).setCell ⟨w.heap.size + 1 + 1 + 1 + 1, 1, none⟩ ((.int .i64 vk))).setCell ⟨w.heap.size + 1 + 1 + 1 + 1, 2, none⟩ ((.bool vM))).setCell ⟨w.heap.size + 1 + 1 + 1 + 1, 3, none⟩ ((.bool vW))).setCell ⟨w.heap.size + 1 + 1 + 1 + 1, 4, none⟩ ((.bool vP))).setCell ⟨w.heap.size + 1 + 1 + 1 + 1, 5, none⟩ ((.int .i64 vc))).setCell ⟨w.heap.size + 1 + 1 + 1 + 1, 6, none⟩ ((.int .i64 vi))).setCell ⟨w.heap.size + 1 + 1 + 1 + 1, 7, none⟩ ((.int .i64 vq))).setCell ⟨w.heap.size + 1 + 1 + 1 + 1, 8, none⟩ ((.int .i64 vg))).setCell ⟨w.heap.size + 1 + 1 + 1 + 1, 9, none⟩ ((.int .i64 va))).setCell ⟨w.heap.size + 1 + 1 + 1 + 1 + 1, 0, none⟩ (.int .i64 0)).drew R5.out (dBelow' ((below_s10 (below_s16 (Below.refl _ _) (by omega) (.int .u32 n0) (.int .u32 n1) (.int .u32 n2) (.int .u32 n3) (.int .u32 n4) (.int .u32 n5) (.int .u32 n6) (.int .u32 n7) (.int .u32 n8) (.int .u32 n9) (.int .u32 n10) (.int .u32 n11) (.int .u32 n12) (.int .u32 n13) (.int .u32 n14) (.int .u32 n15)) (by omega) (.int .i64 vm) (.int .i64 vk) (.bool vM) (.bool vW) (.bool vP) (.int .i64 vc) (.int .i64 vi) (.int .i64 vq) (.int .i64 vg) (.int .i64 va)).setCell (p := ⟨_, 0, none⟩) (by first | (simp; done) | (simp; omega)) _) 1))
  rw [hW6] at X6 R6
  rw [hW6]
  clear hW6 X5 M5 R5 mr0 mr1 mr2 mr3 mr4 mr5 mr6 mr7 mr8 mr9 mr10 mr11 mr12 mr13 mr14 mr15 mp0 mp1 mp2 mp3 mp4 mp5 mp6 mp7 mp8 mp9 xa0 xaf0 xa1 xaf1 xa2 xaf2 xa3 xaf3 xa4 xaf4 xa5 xaf5 xa6 xaf6 xa7 xaf7 xa8 xaf8 xa9 xaf9 xa10 xaf10 xa11 xaf11 xa12 xaf12 xa13 xaf13 xa14 xaf14 xa15 xaf15 ya0 yaf0 ya1 yaf1 ya2 yaf2 ya3 yaf3 ya4 yaf4 ya5 yaf5 ya6 yaf6 ya7 yaf7 ya8 yaf8 ya9 yaf9 za0 zaf0
  go_wp2
  refine leaves_cons (f := 30) (args := #[.pointer (some ⟨w.heap.size + 1, 0, none⟩), .pointer (some ⟨w.heap.size + 1 + 1, 0, none⟩), .pointer (some ⟨w.heap.size + 1 + 1 + 1, 0, none⟩), .pointer (some ⟨w.heap.size + 1 + 1 + 1 + 1, 0, none⟩), .pointer (some ⟨w.heap.size + 1 + 1 + 1 + 1 + 1, 0, none⟩)]) (by simp) (by simp [go_sem]) ?_
  refine (catch_idle _ _ _ _ _ _).mono ?_
  rintro e u' w'' ⟨rfl, rfl, hw6⟩
  subst hw6
  have c5 := X6.out.b5.cell (c := 0) rfl
  exact ⟨_, res_cells3 Try.results14 _ _ _ _ _ _ _ _ rfl rfl rfl X6.out.b3 X6.out.b4 X6.out.b5 Try.underlying28 rfl (by kernel_rfl) Try.underlying30 rfl (by kernel_rfl) (by go_simp), rfl, R6.out, X6.out.be⟩
end Go.Proofs.Ythjdjbipfdigeaa

namespace Go.Proofs.Ythjdjbipfdigeaa
open Go.RowKit
set_option maxRecDepth 100000
set_option linter.unusedVariables false
set_option linter.unusedSimpArgs false
theorem Byt.chd {w w' : World} {b off len : Nat} {zs : List Int} {L : List Nat} (h : Byt w (some ⟨b, off, none⟩) len zs) (hc : Ch w w' L) (hb : b < w.heap.size) (hL : b ∉ L) : Byt w' (some ⟨b, off, none⟩) len zs := by
  refine ⟨h.1, h.2.1, fun h0 => ?_⟩
  obtain ⟨b', off', e, hcell⟩ := h.2.2 h0
  injection e with e; injection e with e1 e2; subst e1 e2
  exact ⟨b, off, rfl, fun i hi => by rw [← hcell i hi]; unfold World.cell?; rw [hc.block b hb hL]⟩
theorem Byt.lt {w : World} {b off len : Nat} {zs : List Int} (h : Byt w (some ⟨b, off, none⟩) len zs) (h0 : 0 < len) : b < w.heap.size := by
  obtain ⟨b', off', e, hcell⟩ := h.2.2 h0
  injection e with e; injection e with e1 e2; subst e1 e2
  have h1 := hcell 0 h0
  rcases Nat.lt_or_ge b w.heap.size with h2 | h2
  · exact h2
  · unfold World.cell? at h1; simp only [Array.getElem?_eq_none h2] at h1; cases h1
theorem get9 {F : Foot} {bs ks : List Int} (w : World) (h : St 71 w F bs ks) (a : Nat) (n N : Int) (X : List Int) (h0 : 1 ≤ n) (h1 : a + n ≤ (bs.length : Int)) (hX : sGet bs (a : Int) n = X) : Calls Try.prog 19 #[.pointer (some ⟨F.g, 0, none⟩), .int .i64 (a : Int), .int .i64 n] w fun e w' => ∃ b m c : Nat, e = .returned (.slice (some ⟨b, 0, none⟩) m c) ∧ (m : Int) = n ∧ Byt w' (some ⟨b, 0, none⟩) m X ∧ w.heap.size ≤ b ∧ Below w.heap.size w w' := by
  refine (bytes_c w h (a : Int) n).mono ?_
  rintro e w' ⟨A, m, c, he, ho, hb⟩
  rw [hX] at ho
  obtain ⟨k, rfl⟩ := Int.eq_ofNat_of_zero_le (show 0 ≤ n by omega)
  have hm : m = k := by rw [← ho.len, ← hX]; exact get_len _ _ _ (by omega)
  obtain ⟨g, cap, hv, hg, -⟩ := ho.pos (by omega)
  injection hv with hA h2 h3
  subst hA h3
  exact ⟨g, m, c, he, by omega, ho.byt, hg, hb⟩
theorem same9_t (A : Option Addr) (n c : Nat) (xs : List Int) (A' : Option Addr) (n' c' : Nat) (ys : List Int) (w : World) (h1 : Byt w A n xs) (h2 : Byt w A' n' ys) (he : xs = ys) (hn : n ≤ 65536) : Calls Try.prog 18 #[.slice A n c, .slice A' n' c'] w fun e w' => e = .returned (.bool true) ∧ Below w.heap.size w w' := by
  have hl := h1.1
  have hl' := h2.1
  refine (same9_c A n c xs A' n' c' ys w h1 h2 (by omega) (by rw [← he] at hl'; omega)).mono ?_
  rintro e w' ⟨h, d, rfl⟩
  rw [decide_eq_true he] at h
  exact ⟨h, dBelow' (Below.refl _ _) d⟩
end Go.Proofs.Ythjdjbipfdigeaa

namespace Go.Proofs.Ythjdjbipfdigeaa
open Go.RowKit
set_option maxRecDepth 100000
set_option linter.unusedVariables false
set_option linter.unusedSimpArgs false
theorem wr_len (p : Pre) (a n : Int) (ys : List Int) (cc : Int) : (p.wr a n ys cc).rs = p.os := by unfold Pre.wr; split <;> rfl
theorem brO_len (p : Pre) (op : Int) (n k : Nat) (a : Int) : (brO p op n k a).rs.length = p.os.length := by
  unfold brO
  repeat' split
  all_goals simp [Pre.br]
theorem ite_len (c : Prop) [Decidable c] (x y : Out) : (if c then x else y).rs.length = if c then x.rs.length else y.rs.length := by split <;> rfl
theorem arO_len (p : Pre) (op : Int) (n : Nat) (c v : Int) : (arO p op n c v).rs.length = p.os.length := by
  unfold arO
  simp only [ite_len, Pre.rg, Pre.st, Pre.no, List.length_set, ite_self]
theorem shO_len (p : Pre) (op : Int) (n : Nat) (a : Int) : (shO p op n a).rs.length = p.os.length := by
  unfold shO
  repeat' split
  all_goals simp [Pre.rg, Pre.st, Pre.no]
theorem lmR_len' (rs : List Int) (n : Nat) (zs : List Int) : ∀ k, (lmR rs n zs k).length = rs.length
  | 0 => rfl
  | k + 1 => by simp [lmR, lmR_len' rs n zs k]
theorem mvO_len (p : Pre) (op : Int) (n m : Nat) (a : Int) : (mvO p op n m a).rs.length = p.os.length := by
  unfold mvO
  repeat' split
  all_goals simp [Pre.rg, Pre.st, Pre.no, wr_len, lmR_len']
theorem imO_len (p : Pre) (op : Int) (a i : Int) : (imO p op a i).rs.length = p.os.length := by
  unfold imO
  repeat' split
  all_goals simp [Pre.rg, Pre.st, Pre.no, wr_len]
theorem scnR_len (os rs : List Int) (a : Int) (o : Option (Nat × Int)) : (scnR os rs a o).length = rs.length := by
  unfold scnR; split <;> simp
theorem loO_len (p : Pre) (op : Int) (N : Nat) (a b : Int) : (loO p op N a b).rs.length = p.os.length := by
  unfold loO
  repeat' split
  all_goals simp [Pre.rg, Pre.st, Pre.no, wr_len, scnR_len]
theorem exO_len (p : Pre) (op fm : Int) (n k : Nat) (a1 a : Int) (l1 : Nat) (i2 : Int) : (exO p op fm n k a1 a l1 i2).rs.length = p.os.length := by
  unfold exO
  repeat' split
  · exact brO_len ..
  · exact shO_len ..
  · simp [Pre.rg]
  · exact mvO_len ..
  · exact imO_len ..
  · exact loO_len ..
  · exact arO_len ..
def agR (rs : List Int) : Value := .agg (rs.map (Value.int .u32)).toArray
def xC (op fm r1 r2 x2 b1 d1 b2 d2 l1 l2 i2 : Int) (os : List Int) (m key cd il cc pg ad : Int) (bs ks : List Int) : Out :=
  if kn op = true ∧ chk op fm [op, fm, r1, r2, x2, b1, d1, b2, d2, l1, l2, i2] = 0 ∧ pok m key cd il cc pg ad = true then
    if (exO ⟨os, key, il, cc, pg, ad, bs, ks⟩ op fm r1.toNat r2.toNat ((d1 + sumB os [b1.toNat]) % 16777216) ((d2 + sumB os [b2.toNat, x2.toNat]) % 16777216) l1.toNat i2).c = 0 then { exO ⟨os, key, il, cc, pg, ad, bs, ks⟩ op fm r1.toNat r2.toNat ((d1 + sumB os [b1.toNat]) % 16777216) ((d2 + sumB os [b2.toNat, x2.toNat]) % 16777216) l1.toNat i2 with c := if (exO ⟨os, key, il, cc, pg, ad, bs, ks⟩ op fm r1.toNat r2.toNat ((d1 + sumB os [b1.toNat]) % 16777216) ((d2 + sumB os [b2.toNat, x2.toNat]) % 16777216) l1.toNat i2).ov = true ∧ 8 ≤ pg then 8 else 0 }
    else ⟨(exO ⟨os, key, il, cc, pg, ad, bs, ks⟩ op fm r1.toNat r2.toNat ((d1 + sumB os [b1.toNat]) % 16777216) ((d2 + sumB os [b2.toNat, x2.toNat]) % 16777216) l1.toNat i2).c, os, cc, pg, ad, false, bs⟩
  else ⟨1, os, cc, pg, ad, false, bs⟩
theorem list_16 {α : Type} : ∀ {l : List α}, l.length = 16 → ∃ x0 x1 x2 x3 x4 x5 x6 x7 x8 x9 x10 x11 x12 x13 x14 x15, l = [x0, x1, x2, x3, x4, x5, x6, x7, x8, x9, x10, x11, x12, x13, x14, x15]
  | [x0, x1, x2, x3, x4, x5, x6, x7, x8, x9, x10, x11, x12, x13, x14, x15], _ => ⟨_, _, _, _, _, _, _, _, _, _, _, _, _, _, _, _, rfl⟩
end Go.Proofs.Ythjdjbipfdigeaa

namespace Go.Proofs.Ythjdjbipfdigeaa
open Go.RowKit
set_option maxRecDepth 100000
set_option linter.unusedVariables false
set_option linter.unusedSimpArgs false
theorem sgn_in (n : Int) : 0 ≤ sgn n ∧ sgn n ≤ 3 := by unfold sgn; split <;> (try split) <;> omega
theorem rccQ_in (n : Int) : 0 ≤ rcc n ∧ rcc n ≤ 3 := by unfold rcc; have := sgn_in n; split <;> omega
theorem lcc_in (v : Int) (b : Bool) : 0 ≤ lcc v b ∧ lcc v b ≤ 3 := by unfold lcc; split <;> split <;> omega
theorem slc_in (v : Int) (p : Nat) : 0 ≤ slc v p ∧ slc v p ≤ 3 := by unfold slc; split; (· omega); (· exact sgn_in _)
theorem dlc_in (v : Int) (p : Nat) : 0 ≤ dlc v p ∧ dlc v p ≤ 3 := by unfold dlc; split; (· omega); (· exact sgn_in _)
theorem sgnQ_in (op v : Int) : 0 ≤ sgnQ op v ∧ sgnQ op v ≤ 3 := by unfold sgnQ; split; (· exact rccQ_in _); (· exact sgn_in _)
theorem cmbS_in (f : Int → Int → Int) (x y : List Int) (d : Int) : ∀ k, 0 ≤ cmbS f x y d k ∧ cmbS f x y d k ≤ 3
  | 0 => by simp [cmbS]
  | k + 1 => by rw [cmbS]; split; (· exact cmbS_in f x y d k); (· omega)
theorem clc_in : ∀ x y : List Int, 0 ≤ clc x y ∧ clc x y ≤ 3
  | [], _ => by simp [clc]
  | _ :: _, [] => by simp [clc]
  | a :: x, b :: y => by rw [clc]; split; (· exact clc_in x y); (· exact sgn_in _)
theorem scnQ_in (N : Nat) (o : Option (Nat × Int)) : 0 ≤ scnQ N o ∧ scnQ N o ≤ 3 := by unfold scnQ; split <;> (try split) <;> omega
theorem put_may {al : Int → Bool} {bs ks ys : List Int} {a : Int} {j : Nat} (h : (sPut al bs ks a ys).getD j 0 ≠ bs.getD j 0) : al (ks.getD (j / 2048) 0) = true := by
  unfold sPut at h
  by_cases hc : sCode al bs.length ks a ys.length = 0
  · rw [if_pos hc] at h
    have hin := sCode_zero hc
    obtain ⟨h0, h1, h2, h3⟩ := sIn_yes hin
    have hok : okB al ks a.toNat ys.length = true := by
      unfold sCode at hc
      rw [if_pos hin] at hc
      by_cases ho : okB al ks a.toNat ((ys.length : Nat) : Int).toNat = true
      · simpa using ho
      · rw [if_neg ho] at hc; omega
    have hlen : a.toNat + ys.length ≤ bs.length := by omega
    simp only [List.getD_eq_getElem?_getD] at h
    rw [splice_get bs a.toNat ys hlen j] at h
    by_cases c1 : j < a.toNat
    · rw [if_pos c1] at h; exact absurd rfl h
    · rw [if_neg c1] at h
      by_cases c2 : j < a.toNat + ys.length
      · unfold okB at hok
        rw [List.all_eq_true] at hok
        have := hok (j - a.toNat) (List.mem_range.2 (by omega))
        rw [show a.toNat + (j - a.toNat) = j by omega] at this
        exact this
      · rw [if_neg c2] at h; exact absurd rfl h
  · rw [if_neg hc] at h; exact absurd rfl h
/-- what may change -/
structure Mild (p : Pre) (op : Int) (br : Bool) (o : Out) : Prop where
  pg : op ≠ 4 → o.pg = p.pg
  ad : br = false → o.ad = p.ad
  c : 0 ≤ o.cc ∧ o.cc ≤ 3
  g : 0 ≤ o.pg ∧ o.pg ≤ 15
  a : 0 ≤ o.ad ∧ o.ad ≤ 16777215
  b : ∀ j, o.bs.getD j 0 ≠ p.bs.getD j 0 → alP p.key (p.ks.getD (j / 2048) 0) = true
def brcB (op : Int) : Bool := decide ((5 ≤ op ∧ op ≤ 7) ∨ (69 ≤ op ∧ op ≤ 71) ∨ op = 134 ∨ op = 135)
section
variable {p : Pre} {op : Int} {br : Bool}
structure Okay (p : Pre) : Prop where
  cc : 0 ≤ p.cc ∧ p.cc ≤ 3
  pg : 0 ≤ p.pg ∧ p.pg ≤ 15
  ad : 0 ≤ p.ad ∧ p.ad ≤ 16777215
theorem mild_no (h : Okay p) (c : Int) : Mild p op br (p.no c) := ⟨fun _ => rfl, fun _ => rfl, h.cc, h.pg, h.ad, fun _ hj => absurd rfl hj⟩
theorem mild_rg (h : Okay p) (rs : List Int) : Mild p op br (p.rg rs) := ⟨fun _ => rfl, fun _ => rfl, h.cc, h.pg, h.ad, fun _ hj => absurd rfl hj⟩
theorem mild_st (h : Okay p) (rs : List Int) (q : Int) (ov : Bool) (hq : 0 ≤ q ∧ q ≤ 3) : Mild p op br (p.st rs q ov) := ⟨fun _ => rfl, fun _ => rfl, hq, h.pg, h.ad, fun _ hj => absurd rfl hj⟩
theorem mild_wr (h : Okay p) (a n : Int) (ys : List Int) (q : Int) (hq : 0 ≤ q ∧ q ≤ 3) : Mild p op br (p.wr a n ys q) := by
  unfold Pre.wr
  split
  · exact ⟨fun _ => rfl, fun _ => rfl, hq, h.pg, h.ad, fun _ hj => put_may hj⟩
  · exact mild_no h _
theorem mild_br (h : Okay p) (rs : List Int) (t : Bool) (tg : Int) (ht : 0 ≤ tg ∧ tg ≤ 16777215) (hb : br = true) : Mild p op br (p.br rs t tg) := by
  refine ⟨fun _ => rfl, fun e => ?_, h.cc, h.pg, ?_, fun _ hj => absurd rfl hj⟩
  · rw [hb] at e; cases e
  · unfold Pre.br; dsimp only; split; (· exact ht); (· exact h.ad)
end
theorem one3 (c : Prop) [Decidable c] : 0 ≤ (if c then (0 : Int) else 1) ∧ (if c then (0 : Int) else 1) ≤ 3 := by split <;> omega
theorem mild_brO (p : Pre) (op : Int) (n k : Nat) (a : Int) (h : Okay p) (ha : 0 ≤ a ∧ a ≤ 16777215) (hop : op = 4 ∨ op = 5 ∨ op = 6 ∨ op = 7 ∨ op = 69 ∨ op = 70 ∨ op = 71 ∨ op = 134 ∨ op = 135) : Mild p op (brcB op) (brO p op n k a) := by
  have hm : ∀ x : Int, 0 ≤ x % 16777216 ∧ x % 16777216 ≤ 16777215 := fun x => by omega
  unfold brO
  by_cases h4 : op = 4
  · rw [if_pos h4]
    subst h4
    exact ⟨fun e => absurd rfl e, fun _ => rfl, ⟨by dsimp only; omega, by dsimp only; omega⟩, ⟨by dsimp only; omega, by dsimp only; omega⟩, h.ad, fun _ hj => absurd rfl hj⟩
  · have hb : brcB op = true := by unfold brcB; simp; omega
    rw [if_neg h4]
    repeat' split
    all_goals (first | exact mild_br h _ _ _ (hm _) hb | exact mild_br h _ _ _ ha hb)
theorem mild_arO (p : Pre) (op : Int) (br : Bool) (n : Nat) (c v : Int) (h : Okay p) : Mild p op br (arO p op n c v) := by
  have hi : ∀ (c : Prop) [Decidable c] (x y : Out), Mild p op br x → Mild p op br y → Mild p op br (if c then x else y) := fun c _ x y hx hy => by split; (· exact hx); (· exact hy)
  unfold arO
  repeat' (first | with_reducible exact mild_no h _ | with_reducible exact mild_rg h _ | with_reducible exact mild_st h _ _ _ (sgnQ_in _ _) | with_reducible exact mild_st h _ _ _ (rccQ_in _) | with_reducible exact mild_st h _ _ _ (lcc_in _ _) | with_reducible exact mild_st h _ _ _ (sgn_in _) | with_reducible exact mild_st h _ _ _ (one3 _) | apply hi)
theorem mild_shO (p : Pre) (op : Int) (br : Bool) (n : Nat) (a : Int) (h : Okay p) : Mild p op br (shO p op n a) := by
  have hi : ∀ (c : Prop) [Decidable c] (x y : Out), Mild p op br x → Mild p op br y → Mild p op br (if c then x else y) := fun c _ x y hx hy => by split; (· exact hx); (· exact hy)
  unfold shO
  repeat' (first | with_reducible exact mild_no h _ | with_reducible exact mild_rg h _ | with_reducible exact mild_st h _ _ _ (sgn_in _) | with_reducible exact mild_st h _ _ _ (slc_in _ _) | with_reducible exact mild_st h _ _ _ (dlc_in _ _) | apply hi)
theorem mild_mvO (p : Pre) (op : Int) (br : Bool) (n m : Nat) (a : Int) (h : Okay p) : Mild p op br (mvO p op n m a) := by
  have hi : ∀ (c : Prop) [Decidable c] (x y : Out), Mild p op br x → Mild p op br y → Mild p op br (if c then x else y) := fun c _ x y hx hy => by split; (· exact hx); (· exact hy)
  unfold mvO
  repeat' (first | with_reducible exact mild_no h _ | with_reducible exact mild_rg h _ | with_reducible exact mild_wr h _ _ _ _ h.cc | apply hi)
theorem mild_imO (p : Pre) (op : Int) (br : Bool) (a i : Int) (h : Okay p) (hr : ∀ z ∈ p.bs, 0 ≤ z ∧ z ≤ 255) : Mild p op br (imO p op a i) := by
  have hi : ∀ (c : Prop) [Decidable c] (x y : Out), Mild p op br x → Mild p op br y → Mild p op br (if c then x else y) := fun c _ x y hx hy => by split; (· exact hx); (· exact hy)
  have h7 : 0 ≤ (sGet p.bs a 1).getD 0 0 / 128 ∧ (sGet p.bs a 1).getD 0 0 / 128 ≤ 3 := by have := sGet_in a 1 hr 0; omega
  have h3 : ∀ (c d : Prop) [Decidable c] [Decidable d], 0 ≤ (if c then (0 : Int) else if d then 3 else 1) ∧ (if c then (0 : Int) else if d then 3 else 1) ≤ 3 := fun c d _ _ => by split; (· omega); (· split <;> omega)
  unfold imO
  repeat' (first | with_reducible exact mild_no h _ | with_reducible exact mild_wr h _ _ _ _ h.cc | with_reducible exact mild_st h _ _ _ (h3 _ _) | with_reducible exact mild_st h _ _ _ (sgn_in _) | with_reducible exact mild_wr h _ _ _ _ h7 | with_reducible exact mild_wr h _ _ _ _ (one3 _) | apply hi)
theorem mild_loO (p : Pre) (op : Int) (br : Bool) (N : Nat) (a b : Int) (h : Okay p) : Mild p op br (loO p op N a b) := by
  have hi : ∀ (c : Prop) [Decidable c] (x y : Out), Mild p op br x → Mild p op br y → Mild p op br (if c then x else y) := fun c _ x y hx hy => by split; (· exact hx); (· exact hy)
  have hc : ∀ (c : Prop) [Decidable c] (x : Int), 0 ≤ x ∧ x ≤ 3 → 0 ≤ (if c then x else p.cc) ∧ (if c then x else p.cc) ≤ 3 := fun c _ x hx => by split; (· exact hx); (· exact h.cc)
  have hs : Mild p op br (match scn p.bs p.ks p.key a b N 0 with | (c, o) => if c = 0 then ⟨0, scnR p.os p.os a o, scnQ N o, p.pg, p.ad, false, p.bs⟩ else p.no c) := by
    obtain ⟨c, o⟩ := scn p.bs p.ks p.key a b N 0
    dsimp only
    apply hi
    · exact ⟨fun _ => rfl, fun _ => rfl, scnQ_in _ _, h.pg, h.ad, fun _ hj => absurd rfl hj⟩
    · exact mild_no h _
  unfold loO
  repeat' (first | exact hs | with_reducible exact mild_no h _ | with_reducible exact mild_wr h _ _ _ _ h.cc | with_reducible exact mild_st h _ _ _ (clc_in _ _) | with_reducible exact mild_wr h _ _ _ _ (hc _ _ (cmbS_in _ _ _ _ _)) | apply hi)
theorem mild_exO (p : Pre) (op fm : Int) (n k : Nat) (a1 a : Int) (l1 : Nat) (i2 : Int) (h : Okay p) (hr : ∀ z ∈ p.bs, 0 ≤ z ∧ z ≤ 255) (ha : 0 ≤ a ∧ a ≤ 16777215) (hkn : kn op = true) : Mild p op (brcB op) (exO p op fm n k a1 a l1 i2) := by
  have hi : ∀ (c : Prop) [Decidable c] (x y : Out), Mild p op (brcB op) x → Mild p op (brcB op) y → Mild p op (brcB op) (if c then x else y) := fun c _ x y hx hy => by split; (· exact hx); (· exact hy)
  unfold exO
  by_cases hb : op < 16 ∨ (69 ≤ op ∧ op ≤ 71) ∨ op = 134 ∨ op = 135
  · rw [if_pos hb]
    refine mild_brO p op n k a h ha ?_
    have : ∀ x ∈ knL, (x < 16 ∨ (69 ≤ x ∧ x ≤ 71) ∨ x = 134 ∨ x = 135) → (x = 4 ∨ x = 5 ∨ x = 6 ∨ x = 7 ∨ x = 69 ∨ x = 70 ∨ x = 71 ∨ x = 134 ∨ x = 135) := by decide +kernel
    exact this op (of_decide_eq_true hkn) hb
  · rw [if_neg hb]
    repeat' (first | with_reducible exact mild_shO _ _ _ _ _ h | with_reducible exact mild_rg h _ | with_reducible exact mild_mvO _ _ _ _ _ _ h | with_reducible exact mild_imO _ _ _ _ _ h hr | with_reducible exact mild_loO _ _ _ _ _ _ h | with_reducible exact mild_arO _ _ _ _ _ _ h | apply hi)
end Go.Proofs.Ythjdjbipfdigeaa

namespace Go.Proofs.Ythjdjbipfdigeaa
open Go.RowKit
set_option maxRecDepth 100000
set_option linter.unusedVariables false
set_option linter.unusedSimpArgs false
theorem xC_ref (op fm r1 r2 x2 b1 d1 b2 d2 l1 l2 i2 : Int) (os : List Int) (m key cd il cc pg ad : Int) (bs ks : List Int) (h0 : (xC op fm r1 r2 x2 b1 d1 b2 d2 l1 l2 i2 os m key cd il cc pg ad bs ks).c ≠ 0) (h8 : (xC op fm r1 r2 x2 b1 d1 b2 d2 l1 l2 i2 os m key cd il cc pg ad bs ks).c ≠ 8) : (xC op fm r1 r2 x2 b1 d1 b2 d2 l1 l2 i2 os m key cd il cc pg ad bs ks).rs = os ∧ (xC op fm r1 r2 x2 b1 d1 b2 d2 l1 l2 i2 os m key cd il cc pg ad bs ks).cc = cc ∧ (xC op fm r1 r2 x2 b1 d1 b2 d2 l1 l2 i2 os m key cd il cc pg ad bs ks).pg = pg ∧ (xC op fm r1 r2 x2 b1 d1 b2 d2 l1 l2 i2 os m key cd il cc pg ad bs ks).ad = ad ∧ (xC op fm r1 r2 x2 b1 d1 b2 d2 l1 l2 i2 os m key cd il cc pg ad bs ks).bs = bs := by
  unfold xC at h0 h8 ⊢
  split at h0
  · rename_i hc
    rw [if_pos hc] at h8 ⊢
    split at h0
    · rename_i h1
      rw [if_pos h1] at h8 ⊢
      dsimp only at h0 h8
      split at h0
      · rename_i h2; rw [if_pos h2] at h8; exact absurd rfl h8
      · exact absurd rfl h0
    · rename_i h1
      rw [if_neg h1]
      exact ⟨rfl, rfl, rfl, rfl, rfl⟩
  · rename_i hc
    rw [if_neg hc]
    exact ⟨rfl, rfl, rfl, rfl, rfl⟩
theorem xC_mild (op fm r1 r2 x2 b1 d1 b2 d2 l1 l2 i2 : Int) (os : List Int) (m key cd il cc pg ad : Int) (bs ks : List Int) (hr : ∀ z ∈ bs, 0 ≤ z ∧ z ≤ 255) (h : (xC op fm r1 r2 x2 b1 d1 b2 d2 l1 l2 i2 os m key cd il cc pg ad bs ks).c = 0 ∨ (xC op fm r1 r2 x2 b1 d1 b2 d2 l1 l2 i2 os m key cd il cc pg ad bs ks).c = 8) : Mild ⟨os, key, il, cc, pg, ad, bs, ks⟩ op (brcB op) (xC op fm r1 r2 x2 b1 d1 b2 d2 l1 l2 i2 os m key cd il cc pg ad bs ks) := by
  by_cases hc : kn op = true ∧ chk op fm [op, fm, r1, r2, x2, b1, d1, b2, d2, l1, l2, i2] = 0 ∧ pok m key cd il cc pg ad = true
  · obtain ⟨-, -, -, -, q1, q2, q3⟩ := (pok_iff _ _ _ _ _ _ _).1 hc.2.2
    have hok : Okay ⟨os, key, il, cc, pg, ad, bs, ks⟩ := ⟨q1, q2, q3⟩
    have hm := mild_exO ⟨os, key, il, cc, pg, ad, bs, ks⟩ op fm r1.toNat r2.toNat ((d1 + sumB os [b1.toNat]) % 16777216) ((d2 + sumB os [b2.toNat, x2.toNat]) % 16777216) l1.toNat i2 hok hr (by omega) hc.1
    unfold xC
    rw [if_pos hc]
    split
    · exact ⟨hm.pg, hm.ad, hm.c, hm.g, hm.a, hm.b⟩
    · exact ⟨fun _ => rfl, fun _ => rfl, q1, q2, q3, fun _ hj => absurd rfl hj⟩
  · unfold xC at h
    rw [if_neg hc] at h
    simp at h
theorem xC_len (op fm r1 r2 x2 b1 d1 b2 d2 l1 l2 i2 : Int) (os : List Int) (m key cd il cc pg ad : Int) (bs ks : List Int) : (xC op fm r1 r2 x2 b1 d1 b2 d2 l1 l2 i2 os m key cd il cc pg ad bs ks).rs.length = os.length := by
  unfold xC
  split
  · split
    · exact exO_len ..
    · rfl
  · rfl
end Go.Proofs.Ythjdjbipfdigeaa

