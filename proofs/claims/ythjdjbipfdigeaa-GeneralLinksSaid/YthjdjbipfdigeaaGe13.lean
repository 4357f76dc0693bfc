/- CONTRACTS: exec on a branch; Exec on BALR, SPM, BCR. Conditions: the numbers in their ranges. -/
import Derived.Test.YthjdjbipfdigeaaGe12
import Derived.Test.YthjdjbipfdigeaaGe10
namespace Go.Proofs.Ythjdjbipfdigeaa
open Go.RowKit
set_option maxRecDepth 100000
set_option linter.unusedVariables false
set_option linter.unusedSimpArgs false
set_option maxRecDepth 1000000 in
set_option maxHeartbeats 4000000 in
theorem exec_lt16 (g : Nat) (op : Int) (R : World → Prop) (w : World) (c0 : w.cell? ⟨g, 0, none⟩ = some (.int .i64 op)) (h16 : op < 16) (hb : Calls Try.prog 42 #[.pointer (some ⟨g, 0, none⟩)] w fun e w' => e = .returned (.tuple #[]) ∧ R w') : Calls Try.prog 31 #[.pointer (some ⟨g, 0, none⟩)] w fun e w' => e = .returned (.tuple #[]) ∧ R w' := by
  have HB := Lib.hid hb
  clear hb
  go_enter Try.func31, Try.ntmps31
  go_wp2_with (go_at_call 42; refine HB.out.mono ?_; rintro e w3 ⟨rfl, hR⟩; have HR := Lib.hid hR; clear hR)
  go_end0
  exact ⟨by rfl, HR.out⟩
theorem chk_balr : ∀ n : Nat, n < 16 → chk 5 1 [5, 1, (n : Int), 0, 0, 0, 0, 0, 0, 0, 0, 0] = 0 := by decide +kernel
theorem chk_spm : ∀ n : Nat, n < 16 → chk 4 8 [4, 8, (n : Int), 0, 0, 0, 0, 0, 0, 0, 0, 0] = 0 := by decide +kernel
theorem chk_bcr : ∀ n : Nat, n < 16 → chk 7 1 [7, 1, 15, (n : Int), 0, 0, 0, 0, 0, 0, 0, 0] = 0 := by decide +kernel
theorem list16 {α : Type} : ∀ {l : List α}, l.length = 16 → ∃ n0 n1 n2 n3 n4 n5 n6 n7 n8 n9 n10 n11 n12 n13 n14 n15, l = [n0, n1, n2, n3, n4, n5, n6, n7, n8, n9, n10, n11, n12, n13, n14, n15]
  | [n0, n1, n2, n3, n4, n5, n6, n7, n8, n9, n10, n11, n12, n13, n14, n15], _ => ⟨n0, n1, n2, n3, n4, n5, n6, n7, n8, n9, n10, n11, n12, n13, n14, n15, rfl⟩
def linkV (q p a : Int) : Int := 1 * 1073741824 + q * 268435456 + p * 16777216 + a
theorem run_balr (n sp : Nat) (q p a : Int) (hn : n < 16) (q0 : 0 ≤ q ∧ q ≤ 3) (p0 : 0 ≤ p ∧ p ≤ 15) (a0 : 0 ≤ a ∧ a ≤ 16777215) (n0 n1 n2 n3 n4 n5 n6 n7 n8 n9 n10 n11 n12 n13 n14 n15 : Int) (hs : (List.replicate 16 (0 : Int)).set n (linkV q p a) = [n0, n1, n2, n3, n4, n5, n6, n7, n8, n9, n10, n11, n12, n13, n14, n15]) (w : World) :
    Calls Try.prog 14 #[.agg #[.int .i64 5, .int .i64 1, .int .i64 (n : Int), .int .i64 0, .int .i64 0, .int .i64 0, .int .i64 0, .int .i64 0, .int .i64 0, .int .i64 0, .int .i64 0, .int .i64 0], .agg #[.int .u32 0, .int .u32 0, .int .u32 0, .int .u32 0, .int .u32 0, .int .u32 0, .int .u32 0, .int .u32 0, .int .u32 0, .int .u32 0, .int .u32 0, .int .u32 0, .int .u32 0, .int .u32 0, .int .u32 0, .int .u32 0], .agg #[.int .i64 0, .int .i64 0, .bool false, .bool false, .bool false, .int .i64 0, .int .i64 1, .int .i64 q, .int .i64 p, .int .i64 a], .pointer (some ⟨sp, 0, none⟩)] w fun e w' => e = .returned (.tuple #[.agg #[.int .u32 n0, .int .u32 n1, .int .u32 n2, .int .u32 n3, .int .u32 n4, .int .u32 n5, .int .u32 n6, .int .u32 n7, .int .u32 n8, .int .u32 n9, .int .u32 n10, .int .u32 n11, .int .u32 n12, .int .u32 n13, .int .u32 n14, .int .u32 n15], .agg #[.int .i64 0, .int .i64 0, .bool false, .bool false, .bool false, .int .i64 0, .int .i64 1, .int .i64 q, .int .i64 p, .int .i64 a], .int .i64 0]) ∧ Below w.heap.size w w' := by
  refine (Exec_plain 5 1 (n : Int) 0 0 0 0 0 0 0 0 0 0 0 0 0 0 0 0 0 0 0 0 0 0 0 0 0 0 0 false false false 0 1 q p a sp [] (fun _ => True) n0 n1 n2 n3 n4 n5 n6 n7 n8 n9 n10 n11 n12 n13 n14 n15 0 0 false false false 0 1 q p a false w (by decide +kernel) (chk_balr n hn) (by simp [pok, inr]; omega) (by simp) (fun _ _ _ _ => trivial) (fun g W hg hb hm => ?_) rfl).mono ?_
  · refine (exec_lt16 g 5 (fun w' => Mc w' g [5, 1, (n : Int), 0, 0, 0, 0, 0, 0, 0, 0, 0] (List.replicate 16 0) ((List.replicate 16 (0 : Int)).set n (linkV q p a)) [.int .i64 0, .int .i64 0, .bool false, .bool false, .bool false, .int .i64 0, .int .i64 1, .int .i64 q, .int .i64 p, .int .i64 a] (.pointer (some ⟨sp, 0, none⟩)) false ∧ Ch W w' [g]) W (hm.ci (c := 0) (by omega)) (by omega) ?_).mono ?_
    · exact (branch_balr g n 0 _ 0 0 false false false 0 1 q p a _ _ _ _ _ W hm rfl rfl rfl hn rfl (by omega) rfl rfl rfl (by decide) rfl rfl ⟨by omega, by omega⟩ q0 p0 a0)
    · rintro e w' ⟨rfl, hM, hC⟩
      rw [hs] at hM
      exact ⟨rfl, hM, hC, trivial⟩
  · rintro e w' ⟨rfl, -, hc⟩
    exact ⟨rfl, hc.below (Nat.le_refl _) (by simp)⟩
theorem run_spm (n sp : Nat) (v : Int) (hn : n < 16) (n0 n1 n2 n3 n4 n5 n6 n7 n8 n9 n10 n11 n12 n13 n14 n15 : Int) (hv : [n0, n1, n2, n3, n4, n5, n6, n7, n8, n9, n10, n11, n12, n13, n14, n15].getD n 0 = v) (v0 : 0 ≤ v) (v1 : v ≤ 4294967295) (w : World) :
    Calls Try.prog 14 #[.agg #[.int .i64 4, .int .i64 8, .int .i64 (n : Int), .int .i64 0, .int .i64 0, .int .i64 0, .int .i64 0, .int .i64 0, .int .i64 0, .int .i64 0, .int .i64 0, .int .i64 0], .agg #[.int .u32 n0, .int .u32 n1, .int .u32 n2, .int .u32 n3, .int .u32 n4, .int .u32 n5, .int .u32 n6, .int .u32 n7, .int .u32 n8, .int .u32 n9, .int .u32 n10, .int .u32 n11, .int .u32 n12, .int .u32 n13, .int .u32 n14, .int .u32 n15], .agg #[.int .i64 0, .int .i64 0, .bool false, .bool false, .bool false, .int .i64 0, .int .i64 0, .int .i64 0, .int .i64 0, .int .i64 0], .pointer (some ⟨sp, 0, none⟩)] w fun e w' => e = .returned (.tuple #[.agg #[.int .u32 n0, .int .u32 n1, .int .u32 n2, .int .u32 n3, .int .u32 n4, .int .u32 n5, .int .u32 n6, .int .u32 n7, .int .u32 n8, .int .u32 n9, .int .u32 n10, .int .u32 n11, .int .u32 n12, .int .u32 n13, .int .u32 n14, .int .u32 n15], .agg #[.int .i64 0, .int .i64 0, .bool false, .bool false, .bool false, .int .i64 0, .int .i64 0, .int .i64 (v / 268435456 % 4), .int .i64 (v / 16777216 % 16), .int .i64 0], .int .i64 0]) ∧ Below w.heap.size w w' := by
  refine (Exec_plain 4 8 (n : Int) 0 0 0 0 0 0 0 0 0 n0 n1 n2 n3 n4 n5 n6 n7 n8 n9 n10 n11 n12 n13 n14 n15 0 0 false false false 0 0 0 0 0 sp [] (fun _ => True) n0 n1 n2 n3 n4 n5 n6 n7 n8 n9 n10 n11 n12 n13 n14 n15 0 0 false false false 0 0 (v / 268435456 % 4) (v / 16777216 % 16) 0 false w (by decide +kernel) (chk_spm n hn) (by decide +kernel) (by simp) (fun _ _ _ _ => trivial) (fun g W hg hb hm => ?_) rfl).mono ?_
  · refine (exec_lt16 g 4 (fun w' => Mc w' g [4, 8, (n : Int), 0, 0, 0, 0, 0, 0, 0, 0, 0] [n0, n1, n2, n3, n4, n5, n6, n7, n8, n9, n10, n11, n12, n13, n14, n15] [n0, n1, n2, n3, n4, n5, n6, n7, n8, n9, n10, n11, n12, n13, n14, n15] (([.int .i64 0, .int .i64 0, .bool false, .bool false, .bool false, .int .i64 0, .int .i64 0, .int .i64 0, .int .i64 0, .int .i64 0] : List Value).set 7 (.int .i64 (v / 268435456 % 4)) |>.set 8 (.int .i64 (v / 16777216 % 16))) (.pointer (some ⟨sp, 0, none⟩)) false ∧ Ch W w' [g]) W (hm.ci (c := 0) (by omega)) (by omega) ?_).mono ?_
    · exact branch_spm g n v _ _ _ _ _ _ W hm rfl rfl hn hv v0 v1
    · rintro e w' ⟨rfl, hM, hC⟩
      exact ⟨rfl, hM, hC, trivial⟩
  · rintro e w' ⟨rfl, -, hc⟩
    exact ⟨rfl, hc.below (Nat.le_refl _) (by simp)⟩
theorem run_bcr (n sp : Nat) (v : Int) (hn : n < 16) (hn0 : n ≠ 0) (n0 n1 n2 n3 n4 n5 n6 n7 n8 n9 n10 n11 n12 n13 n14 n15 : Int) (hv : [n0, n1, n2, n3, n4, n5, n6, n7, n8, n9, n10, n11, n12, n13, n14, n15].getD n 0 = v) (hr : ∀ z ∈ [n0, n1, n2, n3, n4, n5, n6, n7, n8, n9, n10, n11, n12, n13, n14, n15], 0 ≤ z ∧ z ≤ 4294967295) (w : World) :
    Calls Try.prog 14 #[.agg #[.int .i64 7, .int .i64 1, .int .i64 15, .int .i64 (n : Int), .int .i64 0, .int .i64 0, .int .i64 0, .int .i64 0, .int .i64 0, .int .i64 0, .int .i64 0, .int .i64 0], .agg #[.int .u32 n0, .int .u32 n1, .int .u32 n2, .int .u32 n3, .int .u32 n4, .int .u32 n5, .int .u32 n6, .int .u32 n7, .int .u32 n8, .int .u32 n9, .int .u32 n10, .int .u32 n11, .int .u32 n12, .int .u32 n13, .int .u32 n14, .int .u32 n15], .agg #[.int .i64 0, .int .i64 0, .bool false, .bool false, .bool false, .int .i64 0, .int .i64 0, .int .i64 0, .int .i64 0, .int .i64 0], .pointer (some ⟨sp, 0, none⟩)] w fun e w' => e = .returned (.tuple #[.agg #[.int .u32 n0, .int .u32 n1, .int .u32 n2, .int .u32 n3, .int .u32 n4, .int .u32 n5, .int .u32 n6, .int .u32 n7, .int .u32 n8, .int .u32 n9, .int .u32 n10, .int .u32 n11, .int .u32 n12, .int .u32 n13, .int .u32 n14, .int .u32 n15], .agg #[.int .i64 0, .int .i64 0, .bool false, .bool false, .bool false, .int .i64 0, .int .i64 0, .int .i64 0, .int .i64 0, .int .i64 (v % 16777216)], .int .i64 0]) ∧ Below w.heap.size w w' := by
  refine (Exec_plain 7 1 15 (n : Int) 0 0 0 0 0 0 0 0 n0 n1 n2 n3 n4 n5 n6 n7 n8 n9 n10 n11 n12 n13 n14 n15 0 0 false false false 0 0 0 0 0 sp [] (fun _ => True) n0 n1 n2 n3 n4 n5 n6 n7 n8 n9 n10 n11 n12 n13 n14 n15 0 0 false false false 0 0 0 0 (v % 16777216) false w (by decide +kernel) (chk_bcr n hn) (by decide +kernel) (by simp) (fun _ _ _ _ => trivial) (fun g W hg hb hm => ?_) rfl).mono ?_
  · refine (exec_lt16 g 7 (fun w' => Mc w' g [7, 1, 15, (n : Int), 0, 0, 0, 0, 0, 0, 0, 0] [n0, n1, n2, n3, n4, n5, n6, n7, n8, n9, n10, n11, n12, n13, n14, n15] [n0, n1, n2, n3, n4, n5, n6, n7, n8, n9, n10, n11, n12, n13, n14, n15] (([.int .i64 0, .int .i64 0, .bool false, .bool false, .bool false, .int .i64 0, .int .i64 0, .int .i64 0, .int .i64 0, .int .i64 0] : List Value).set 9 (.int .i64 ([n0, n1, n2, n3, n4, n5, n6, n7, n8, n9, n10, n11, n12, n13, n14, n15].getD n 0 % 16777216))) (.pointer (some ⟨sp, 0, none⟩)) false ∧ Ch W w' [g]) W (hm.ci (c := 0) (by omega)) (by omega) ?_).mono ?_
    · exact branch_bcr g 15 n _ 0 0 false false false 0 0 0 0 0 _ _ _ _ _ W hm rfl rfl rfl (by omega) rfl hn rfl rfl rfl hr rfl hn0 (by decide +kernel) ⟨by omega, by omega⟩
    · rintro e w' ⟨rfl, hM, hC⟩
      rw [hv] at hM
      exact ⟨rfl, hM, hC, trivial⟩
  · rintro e w' ⟨rfl, -, hc⟩
    exact ⟨rfl, hc.below (Nat.le_refl _) (by simp)⟩
end Go.Proofs.Ythjdjbipfdigeaa
