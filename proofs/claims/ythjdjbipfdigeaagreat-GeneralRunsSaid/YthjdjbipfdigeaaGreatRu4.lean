/- Contracts and laws on the way to the statement, text 4 of 24. Conditions: as each states them. -/
import Derived.Test.YthjdjbipfdigeaaGreatRu1
import Derived.Test.YthjdjbipfdigeaaGreatRu2
import Derived.Test.YthjdjbipfdigeaaGreatRu3
import Derived.Deep.Cut
import Derived.BigRegion
import Derived.Deep.RegionHeld3
import Derived.Recover
import Derived.Defers
import Derived.Test.YthjdjbipfdigeaaGreatProg
import Derived.Lib.Hide
import Derived.Outline
import Derived.Below
import Derived.Handy
import Derived.Deep.Draws
import Derived.Laws.CopyOwn
import Derived.Laws.MakeOwn
namespace Go.Proofs.YthjdjbipfdigeaaGreat
open Go.RowKit
set_option maxRecDepth 100000
set_option linter.unusedVariables false
set_option linter.unusedSimpArgs false
theorem opsS_value {P : Program} {ops : Array Oper} {Q : Exit → Act → List Frame → World → Prop} {i : Nat} {rest : List Nat} {a : Act} {cs : List Frame} {w w' : World} {o : Oper} {v : Value} (ho : ops[i]? = some o) (hw : Region.wanted o (yielded ops a.tmps) = true) (hr : (execOp a.eval o).run P w = .ok (.value v) w') (h : wpOpsS P ops Q rest (a.put o.dst v) cs w') : wpOpsS P ops Q (i :: rest) a cs w := by
  simp only [wpOpsS, ho, hw, if_true, hr]
  exact h
theorem opsS_rec {P : Program} {ops : Array Oper} {Q : Exit → Act → List Frame → World → Prop} {i : Nat} {rest : List Nat} {a : Act} {cs cs' : List Frame} {w w' : World} {o : Oper} {v : Value} (ho : ops[i]? = some o) (hw : Region.wanted o (yielded ops a.tmps) = true) (hr : (execOp a.eval o).run P w = .ok .recover w') (hc : recoverD cs = some (v, cs')) (h : wpOpsS P ops Q rest (a.put o.dst v) cs' w') : wpOpsS P ops Q (i :: rest) a cs w := by
  simp only [wpOpsS, ho, hw, if_true, hr, hc]
  exact h
theorem opsS_idle {P : Program} {ops : Array Oper} {Q : Exit → Act → List Frame → World → Prop} {i : Nat} {rest : List Nat} {a : Act} {cs : List Frame} {w w' : World} {o : Oper} (ho : ops[i]? = some o) (hw : Region.wanted o (yielded ops a.tmps) = true) (hr : (execOp a.eval o).run P w = .ok .recover w') (hc : recoverD cs = none) (h : wpOpsS P ops Q rest (a.put o.dst .nilIface) cs w') : wpOpsS P ops Q (i :: rest) a cs w := by
  simp only [wpOpsS, ho, hw, if_true, hr, hc]
  exact h
set_option maxHeartbeats 4000000 in
theorem catch_idle (r p nr np en : Value) (w : World) :
    CallsD Tryz.prog 19 #[r, p, nr, np, en] .returning w fun e u' w' => e = .returned (.tuple #[]) ∧ u' = .returning ∧ w' = w := by
  refine callsD_of_wpS Tryz.func19 rfl fun c₀ cs hu => ?_
  simp only [Tryz.ntmps19, List.size_toArray, List.length_cons, List.length_nil, Nat.reduceAdd, Nat.reduceSub, Array.replicate_succ, Array.replicate_zero, List.push_toArray, List.append_toArray, List.nil_append, List.cons_append]
  apply wpS_seq
  apply wpS_region
  show wpOpsS _ _ _ [0, 1, 2, 3, 4, 5, 6] _ _ _
  refine opsS_idle (w' := w) rfl (by kernel_rfl) (by kernel_rfl) (by simp [recoverD, hu]) ?_
  refine opsS_value (v := .tuple #[.int .i64 0, .bool false]) (w' := w) rfl (by kernel_rfl) (by kernel_rfl) ?_
  refine opsS_value (v := .tuple #[.int .i64 0, .bool false]) (w' := w) rfl (by kernel_rfl) (by kernel_rfl) ?_
  refine opsS_value (v := .int .i64 0) (w' := w) rfl (by kernel_rfl) (by kernel_rfl) ?_
  refine opsS_value (v := .bool false) (w' := w) rfl (by kernel_rfl) (by kernel_rfl) ?_
  refine opsS_value (v := .int .i64 0) (w' := w) rfl (by kernel_rfl) (by kernel_rfl) ?_
  refine opsS_value (v := .bool false) (w' := w) rfl (by kernel_rfl) (by kernel_rfl) ?_
  simp only [Act.put, List.setIfInBounds_toArray, List.set_cons_zero, List.set_cons_succ]
  unfold wpOpsS
  simp only [Exit.thenS]
  refine wpS_of_wp ?_
  go_wp2
  exact ⟨rfl, .returning, by cases c₀; simp_all, .tuple #[], by simp [results, Tryz.results19], rfl, rfl, rfl⟩
end Go.Proofs.YthjdjbipfdigeaaGreat

namespace Go.Proofs.YthjdjbipfdigeaaGreat
open Go.RowKit
set_option linter.unusedVariables false
set_option linter.unusedSimpArgs false
def knL : List Int := [4, 5, 6, 7, 16, 17, 18, 19, 20, 21, 22, 23, 24, 25, 26, 27, 28, 29, 30, 31, 64, 65, 66, 67, 69, 70, 71, 72, 73, 74, 75, 76, 80, 84, 85, 86, 87, 88, 89, 90, 91, 92, 93, 94, 95, 134, 135, 136, 137, 138, 139, 140, 141, 142, 143, 144, 145, 146, 147, 148, 149, 150, 151, 152, 209, 210, 211, 212, 213, 214, 215, 220, 221]
def kn (op : Int) : Bool := decide (op ∈ knL)
def knB (op : Int) : Bool := isOp op && (!privB op && (!decide (op ∈ [10, 68, 78, 79, 222, 223]) && decide (op < 240)))
theorem isOp_in {op : Int} (h : isOp op = true) : 4 ≤ op ∧ op ≤ 253 := by
  unfold isOp at h; rw [decide_eq_true_iff] at h
  have := op_range _ h; rwa [ix_op h] at this
theorem knB_lt : ∀ n : Nat, n < 256 → knB (n : Int) = kn (n : Int) := by decide +kernel
theorem knL_in : ∀ op ∈ knL, 0 ≤ op ∧ op ≤ 255 := by decide
theorem knB_eq (op : Int) : knB op = kn op := by
  by_cases h : 0 ≤ op ∧ op ≤ 255
  · have e : ((op.toNat : Nat) : Int) = op := Int.toNat_of_nonneg h.1
    rw [← e]; exact knB_lt _ (by omega)
  · have h1 : isOp op = false := by
      cases hi : isOp op
      · rfl
      · have := isOp_in hi; omega
    have h2 : kn op = false := decide_eq_false (fun hm => h (knL_in op hm))
    rw [h2]; unfold knB; rw [h1]; rfl
set_option maxRecDepth 1000000 in
set_option maxHeartbeats 4000000 in
theorem knows_no (op : Int) (w : World) (h : isOp op = false) : Calls Tryz.prog 16 #[.int .i64 op] w fun e w' => e = .returned (.bool false) ∧ ∃ n, w' = w.drewN n := by
  have FC := Lib.hid (form_c op)
  have PC := Lib.hid (priv_c op)
  obtain ⟨f, hf⟩ : ∃ f, fmOf op = f := ⟨_, rfl⟩
  rw [hf] at FC
  clear hf
  rw [h] at FC
  clear h
  go_enter Tryz.func16, Tryz.ntmps16
  go_wp2_with (first
    | (go_at_call 38; refine (FC.out _).mono ?_; rintro e w1 ⟨rfl, n1, rfl⟩)
    | (go_at_call 39; refine (PC.out _).mono ?_; rintro e w2 ⟨rfl, hw2⟩; subst hw2))
  go_ret
  exact ⟨by first | rfl | (show Ending.returned (.bool (decide (op < 240))) = _; rw [decide_eq_false (by omega)]), _, rfl⟩
set_option maxRecDepth 1000000 in
set_option maxHeartbeats 4000000 in
theorem knows_priv (op : Int) (w : World) (h : isOp op = true) (hp : privB op = true) : Calls Tryz.prog 16 #[.int .i64 op] w fun e w' => e = .returned (.bool false) ∧ ∃ n, w' = w.drewN n := by
  have FC := Lib.hid (form_c op)
  have PC := Lib.hid (priv_c op)
  obtain ⟨f, hf⟩ : ∃ f, fmOf op = f := ⟨_, rfl⟩
  rw [hf] at FC
  clear hf
  rw [h] at FC
  rw [hp] at PC
  clear h hp
  go_enter Tryz.func16, Tryz.ntmps16
  go_wp2_with (first
    | (go_at_call 38; refine (FC.out _).mono ?_; rintro e w1 ⟨rfl, n1, rfl⟩)
    | (go_at_call 39; refine (PC.out _).mono ?_; rintro e w2 ⟨rfl, hw2⟩; subst hw2))
  go_ret
  exact ⟨by first | rfl | (show Ending.returned (.bool (decide (op < 240))) = _; rw [decide_eq_false (by omega)]), _, rfl⟩
set_option maxRecDepth 1000000 in
set_option maxHeartbeats 4000000 in
theorem knows_yes (op : Int) (w : World) (h : isOp op = true) (hp : privB op = false) (h10 : op ≠ 10) (h68 : op ≠ 68) (h78 : op ≠ 78) (h79 : op ≠ 79) (h222 : op ≠ 222) (h223 : op ≠ 223) (hl : op < 240) : Calls Tryz.prog 16 #[.int .i64 op] w fun e w' => e = .returned (.bool true) ∧ ∃ n, w' = w.drewN n := by
  have FC := Lib.hid (form_c op)
  have PC := Lib.hid (priv_c op)
  obtain ⟨f, hf⟩ : ∃ f, fmOf op = f := ⟨_, rfl⟩
  rw [hf] at FC
  clear hf
  rw [h] at FC
  rw [hp] at PC
  clear h hp
  have e10 : (op == 10) = false := by simpa using h10
  have e68 : (op == 68) = false := by simpa using h68
  have e78 : (op == 78) = false := by simpa using h78
  have e79 : (op == 79) = false := by simpa using h79
  have e222 : (op == 222) = false := by simpa using h222
  have e223 : (op == 223) = false := by simpa using h223
  clear h10 h68 h78 h79 h222 h223
  go_enter Tryz.func16, Tryz.ntmps16
  go_wp2_with (first
    | (go_at_call 38; refine (FC.out _).mono ?_; rintro e w1 ⟨rfl, n1, rfl⟩)
    | (go_at_call 39; refine (PC.out _).mono ?_; rintro e w2 ⟨rfl, hw2⟩; subst hw2))
  go_ret
  exact ⟨by first | rfl | (show Ending.returned (.bool (decide (op < 240))) = _; rw [decide_eq_false (by omega)]), _, rfl⟩
set_option maxRecDepth 1000000 in
set_option maxHeartbeats 4000000 in
theorem knows_ge (op : Int) (w : World) (h : isOp op = true) (hp : privB op = false) (h10 : op ≠ 10) (h68 : op ≠ 68) (h78 : op ≠ 78) (h79 : op ≠ 79) (h222 : op ≠ 222) (h223 : op ≠ 223) (hl : ¬ op < 240) : Calls Tryz.prog 16 #[.int .i64 op] w fun e w' => e = .returned (.bool false) ∧ ∃ n, w' = w.drewN n := by
  have FC := Lib.hid (form_c op)
  have PC := Lib.hid (priv_c op)
  obtain ⟨f, hf⟩ : ∃ f, fmOf op = f := ⟨_, rfl⟩
  rw [hf] at FC
  clear hf
  rw [h] at FC
  rw [hp] at PC
  clear h hp
  have e10 : (op == 10) = false := by simpa using h10
  have e68 : (op == 68) = false := by simpa using h68
  have e78 : (op == 78) = false := by simpa using h78
  have e79 : (op == 79) = false := by simpa using h79
  have e222 : (op == 222) = false := by simpa using h222
  have e223 : (op == 223) = false := by simpa using h223
  clear h10 h68 h78 h79 h222 h223
  go_enter Tryz.func16, Tryz.ntmps16
  go_wp2_with (first
    | (go_at_call 38; refine (FC.out _).mono ?_; rintro e w1 ⟨rfl, n1, rfl⟩)
    | (go_at_call 39; refine (PC.out _).mono ?_; rintro e w2 ⟨rfl, hw2⟩; subst hw2))
  go_ret
  exact ⟨by first | rfl | (show Ending.returned (.bool (decide (op < 240))) = _; rw [decide_eq_false (by omega)]), _, rfl⟩
set_option maxRecDepth 1000000 in
set_option maxHeartbeats 4000000 in
theorem knows_at10 (op : Int) (w : World) (h : isOp op = true) (hp : privB op = false) (hk : op = 10) : Calls Tryz.prog 16 #[.int .i64 op] w fun e w' => e = .returned (.bool false) ∧ ∃ n, w' = w.drewN n := by
  have FC := Lib.hid (form_c op)
  have PC := Lib.hid (priv_c op)
  obtain ⟨f, hf⟩ : ∃ f, fmOf op = f := ⟨_, rfl⟩
  rw [hf] at FC
  clear hf
  rw [h] at FC
  rw [hp] at PC
  clear h hp
  have e10 : (op == 10) = true := by rw [hk]; rfl
  have e68 : (op == 68) = false := by rw [hk]; rfl
  have e78 : (op == 78) = false := by rw [hk]; rfl
  have e79 : (op == 79) = false := by rw [hk]; rfl
  have e222 : (op == 222) = false := by rw [hk]; rfl
  have e223 : (op == 223) = false := by rw [hk]; rfl
  clear hk
  go_enter Tryz.func16, Tryz.ntmps16
  go_wp2_with (first
    | (go_at_call 38; refine (FC.out _).mono ?_; rintro e w1 ⟨rfl, n1, rfl⟩)
    | (go_at_call 39; refine (PC.out _).mono ?_; rintro e w2 ⟨rfl, hw2⟩; subst hw2))
  go_ret
  exact ⟨by first | rfl | (show Ending.returned (.bool (decide (op < 240))) = _; rw [decide_eq_false (by omega)]), _, rfl⟩
set_option maxRecDepth 1000000 in
set_option maxHeartbeats 4000000 in
theorem knows_at68 (op : Int) (w : World) (h : isOp op = true) (hp : privB op = false) (hk : op = 68) : Calls Tryz.prog 16 #[.int .i64 op] w fun e w' => e = .returned (.bool false) ∧ ∃ n, w' = w.drewN n := by
  have FC := Lib.hid (form_c op)
  have PC := Lib.hid (priv_c op)
  obtain ⟨f, hf⟩ : ∃ f, fmOf op = f := ⟨_, rfl⟩
  rw [hf] at FC
  clear hf
  rw [h] at FC
  rw [hp] at PC
  clear h hp
  have e10 : (op == 10) = false := by rw [hk]; rfl
  have e68 : (op == 68) = true := by rw [hk]; rfl
  have e78 : (op == 78) = false := by rw [hk]; rfl
  have e79 : (op == 79) = false := by rw [hk]; rfl
  have e222 : (op == 222) = false := by rw [hk]; rfl
  have e223 : (op == 223) = false := by rw [hk]; rfl
  clear hk
  go_enter Tryz.func16, Tryz.ntmps16
  go_wp2_with (first
    | (go_at_call 38; refine (FC.out _).mono ?_; rintro e w1 ⟨rfl, n1, rfl⟩)
    | (go_at_call 39; refine (PC.out _).mono ?_; rintro e w2 ⟨rfl, hw2⟩; subst hw2))
  go_ret
  exact ⟨by first | rfl | (show Ending.returned (.bool (decide (op < 240))) = _; rw [decide_eq_false (by omega)]), _, rfl⟩
set_option maxRecDepth 1000000 in
set_option maxHeartbeats 4000000 in
theorem knows_at78 (op : Int) (w : World) (h : isOp op = true) (hp : privB op = false) (hk : op = 78) : Calls Tryz.prog 16 #[.int .i64 op] w fun e w' => e = .returned (.bool false) ∧ ∃ n, w' = w.drewN n := by
  have FC := Lib.hid (form_c op)
  have PC := Lib.hid (priv_c op)
  obtain ⟨f, hf⟩ : ∃ f, fmOf op = f := ⟨_, rfl⟩
  rw [hf] at FC
  clear hf
  rw [h] at FC
  rw [hp] at PC
  clear h hp
  have e10 : (op == 10) = false := by rw [hk]; rfl
  have e68 : (op == 68) = false := by rw [hk]; rfl
  have e78 : (op == 78) = true := by rw [hk]; rfl
  have e79 : (op == 79) = false := by rw [hk]; rfl
  have e222 : (op == 222) = false := by rw [hk]; rfl
  have e223 : (op == 223) = false := by rw [hk]; rfl
  clear hk
  go_enter Tryz.func16, Tryz.ntmps16
  go_wp2_with (first
    | (go_at_call 38; refine (FC.out _).mono ?_; rintro e w1 ⟨rfl, n1, rfl⟩)
    | (go_at_call 39; refine (PC.out _).mono ?_; rintro e w2 ⟨rfl, hw2⟩; subst hw2))
  go_ret
  exact ⟨by first | rfl | (show Ending.returned (.bool (decide (op < 240))) = _; rw [decide_eq_false (by omega)]), _, rfl⟩
set_option maxRecDepth 1000000 in
set_option maxHeartbeats 4000000 in
theorem knows_at79 (op : Int) (w : World) (h : isOp op = true) (hp : privB op = false) (hk : op = 79) : Calls Tryz.prog 16 #[.int .i64 op] w fun e w' => e = .returned (.bool false) ∧ ∃ n, w' = w.drewN n := by
  have FC := Lib.hid (form_c op)
  have PC := Lib.hid (priv_c op)
  obtain ⟨f, hf⟩ : ∃ f, fmOf op = f := ⟨_, rfl⟩
  rw [hf] at FC
  clear hf
  rw [h] at FC
  rw [hp] at PC
  clear h hp
  have e10 : (op == 10) = false := by rw [hk]; rfl
  have e68 : (op == 68) = false := by rw [hk]; rfl
  have e78 : (op == 78) = false := by rw [hk]; rfl
  have e79 : (op == 79) = true := by rw [hk]; rfl
  have e222 : (op == 222) = false := by rw [hk]; rfl
  have e223 : (op == 223) = false := by rw [hk]; rfl
  clear hk
  go_enter Tryz.func16, Tryz.ntmps16
  go_wp2_with (first
    | (go_at_call 38; refine (FC.out _).mono ?_; rintro e w1 ⟨rfl, n1, rfl⟩)
    | (go_at_call 39; refine (PC.out _).mono ?_; rintro e w2 ⟨rfl, hw2⟩; subst hw2))
  go_ret
  exact ⟨by first | rfl | (show Ending.returned (.bool (decide (op < 240))) = _; rw [decide_eq_false (by omega)]), _, rfl⟩
set_option maxRecDepth 1000000 in
set_option maxHeartbeats 4000000 in
theorem knows_at222 (op : Int) (w : World) (h : isOp op = true) (hp : privB op = false) (hk : op = 222) : Calls Tryz.prog 16 #[.int .i64 op] w fun e w' => e = .returned (.bool false) ∧ ∃ n, w' = w.drewN n := by
  have FC := Lib.hid (form_c op)
  have PC := Lib.hid (priv_c op)
  obtain ⟨f, hf⟩ : ∃ f, fmOf op = f := ⟨_, rfl⟩
  rw [hf] at FC
  clear hf
  rw [h] at FC
  rw [hp] at PC
  clear h hp
  have e10 : (op == 10) = false := by rw [hk]; rfl
  have e68 : (op == 68) = false := by rw [hk]; rfl
  have e78 : (op == 78) = false := by rw [hk]; rfl
  have e79 : (op == 79) = false := by rw [hk]; rfl
  have e222 : (op == 222) = true := by rw [hk]; rfl
  have e223 : (op == 223) = false := by rw [hk]; rfl
  clear hk
  go_enter Tryz.func16, Tryz.ntmps16
  go_wp2_with (first
    | (go_at_call 38; refine (FC.out _).mono ?_; rintro e w1 ⟨rfl, n1, rfl⟩)
    | (go_at_call 39; refine (PC.out _).mono ?_; rintro e w2 ⟨rfl, hw2⟩; subst hw2))
  go_ret
  exact ⟨by first | rfl | (show Ending.returned (.bool (decide (op < 240))) = _; rw [decide_eq_false (by omega)]), _, rfl⟩
set_option maxRecDepth 1000000 in
set_option maxHeartbeats 4000000 in
theorem knows_at223 (op : Int) (w : World) (h : isOp op = true) (hp : privB op = false) (hk : op = 223) : Calls Tryz.prog 16 #[.int .i64 op] w fun e w' => e = .returned (.bool false) ∧ ∃ n, w' = w.drewN n := by
  have FC := Lib.hid (form_c op)
  have PC := Lib.hid (priv_c op)
  obtain ⟨f, hf⟩ : ∃ f, fmOf op = f := ⟨_, rfl⟩
  rw [hf] at FC
  clear hf
  rw [h] at FC
  rw [hp] at PC
  clear h hp
  have e10 : (op == 10) = false := by rw [hk]; rfl
  have e68 : (op == 68) = false := by rw [hk]; rfl
  have e78 : (op == 78) = false := by rw [hk]; rfl
  have e79 : (op == 79) = false := by rw [hk]; rfl
  have e222 : (op == 222) = false := by rw [hk]; rfl
  have e223 : (op == 223) = true := by rw [hk]; rfl
  clear hk
  go_enter Tryz.func16, Tryz.ntmps16
  go_wp2_with (first
    | (go_at_call 38; refine (FC.out _).mono ?_; rintro e w1 ⟨rfl, n1, rfl⟩)
    | (go_at_call 39; refine (PC.out _).mono ?_; rintro e w2 ⟨rfl, hw2⟩; subst hw2))
  go_ret
  exact ⟨by first | rfl | (show Ending.returned (.bool (decide (op < 240))) = _; rw [decide_eq_false (by omega)]), _, rfl⟩
theorem knows_c (op : Int) (w : World) : Calls Tryz.prog 16 #[.int .i64 op] w fun e w' => e = .returned (.bool (kn op)) ∧ ∃ n, w' = w.drewN n := by
  rw [← knB_eq]
  unfold knB
  cases h : isOp op
  · exact knows_no op w h
  cases hp : privB op
  case true => exact knows_priv op w h hp
  by_cases h10 : op = 10
  · rw [show decide (op ∈ [10, 68, 78, 79, 222, 223]) = true from decide_eq_true (by rw [h10]; decide)]
    exact knows_at10 op w h hp h10
  by_cases h68 : op = 68
  · rw [show decide (op ∈ [10, 68, 78, 79, 222, 223]) = true from decide_eq_true (by rw [h68]; decide)]
    exact knows_at68 op w h hp h68
  by_cases h78 : op = 78
  · rw [show decide (op ∈ [10, 68, 78, 79, 222, 223]) = true from decide_eq_true (by rw [h78]; decide)]
    exact knows_at78 op w h hp h78
  by_cases h79 : op = 79
  · rw [show decide (op ∈ [10, 68, 78, 79, 222, 223]) = true from decide_eq_true (by rw [h79]; decide)]
    exact knows_at79 op w h hp h79
  by_cases h222 : op = 222
  · rw [show decide (op ∈ [10, 68, 78, 79, 222, 223]) = true from decide_eq_true (by rw [h222]; decide)]
    exact knows_at222 op w h hp h222
  by_cases h223 : op = 223
  · rw [show decide (op ∈ [10, 68, 78, 79, 222, 223]) = true from decide_eq_true (by rw [h223]; decide)]
    exact knows_at223 op w h hp h223
  rw [show decide (op ∈ [10, 68, 78, 79, 222, 223]) = false from decide_eq_false (by simp only [List.mem_cons, List.not_mem_nil, or_false]; omega)]
  by_cases hl : op < 240
  · rw [decide_eq_true hl]; exact knows_yes op w h hp h10 h68 h78 h79 h222 h223 hl
  · rw [decide_eq_false hl]; exact knows_ge op w h hp h10 h68 h78 h79 h222 h223 hl
set_option maxRecDepth 1000000 in
set_option maxHeartbeats 4000000 in
theorem rops_c (w : World) : Calls Tryz.prog 49 #[] w fun e w' => e = .returned (.slice (some ⟨w.heap.size, 0, none⟩) 73 73) ∧ w' = w.alloc (.cells #[.int .i64 4, .int .i64 5, .int .i64 6, .int .i64 7, .int .i64 16, .int .i64 17, .int .i64 18, .int .i64 19, .int .i64 20, .int .i64 21, .int .i64 22, .int .i64 23, .int .i64 24, .int .i64 25, .int .i64 26, .int .i64 27, .int .i64 28, .int .i64 29, .int .i64 30, .int .i64 31, .int .i64 64, .int .i64 65, .int .i64 66, .int .i64 67, .int .i64 69, .int .i64 70, .int .i64 71, .int .i64 72, .int .i64 73, .int .i64 74, .int .i64 75, .int .i64 76, .int .i64 80, .int .i64 84, .int .i64 85, .int .i64 86, .int .i64 87, .int .i64 88, .int .i64 89, .int .i64 90, .int .i64 91, .int .i64 92, .int .i64 93, .int .i64 94, .int .i64 95, .int .i64 134, .int .i64 135, .int .i64 136, .int .i64 137, .int .i64 138, .int .i64 139, .int .i64 140, .int .i64 141, .int .i64 142, .int .i64 143, .int .i64 144, .int .i64 145, .int .i64 146, .int .i64 147, .int .i64 148, .int .i64 149, .int .i64 150, .int .i64 151, .int .i64 152, .int .i64 209, .int .i64 210, .int .i64 211, .int .i64 212, .int .i64 213, .int .i64 214, .int .i64 215, .int .i64 220, .int .i64 221] 3) := by
  go_enter Tryz.func49, Tryz.ntmps49
  go_wp2
  go_ret
  exact ⟨by rfl, rfl⟩
def knA : Array Value := #[.int .i64 4, .int .i64 5, .int .i64 6, .int .i64 7, .int .i64 16, .int .i64 17, .int .i64 18, .int .i64 19, .int .i64 20, .int .i64 21, .int .i64 22, .int .i64 23, .int .i64 24, .int .i64 25, .int .i64 26, .int .i64 27, .int .i64 28, .int .i64 29, .int .i64 30, .int .i64 31, .int .i64 64, .int .i64 65, .int .i64 66, .int .i64 67, .int .i64 69, .int .i64 70, .int .i64 71, .int .i64 72, .int .i64 73, .int .i64 74, .int .i64 75, .int .i64 76, .int .i64 80, .int .i64 84, .int .i64 85, .int .i64 86, .int .i64 87, .int .i64 88, .int .i64 89, .int .i64 90, .int .i64 91, .int .i64 92, .int .i64 93, .int .i64 94, .int .i64 95, .int .i64 134, .int .i64 135, .int .i64 136, .int .i64 137, .int .i64 138, .int .i64 139, .int .i64 140, .int .i64 141, .int .i64 142, .int .i64 143, .int .i64 144, .int .i64 145, .int .i64 146, .int .i64 147, .int .i64 148, .int .i64 149, .int .i64 150, .int .i64 151, .int .i64 152, .int .i64 209, .int .i64 210, .int .i64 211, .int .i64 212, .int .i64 213, .int .i64 214, .int .i64 215, .int .i64 220, .int .i64 221]
theorem knA_get {k : Nat} (h : k < 73) : knA[k]? = some (.int .i64 (knL.getD k 0)) := by
  have e : knA = (knL.map (Value.int .i64)).toArray := rfl
  have hl : knL.length = 73 := rfl
  rw [e]
  simp only [List.getElem?_toArray, List.getElem?_map]
  rw [List.getD_eq_getElem?_getD, List.getElem?_eq_getElem (by omega)]; rfl
theorem kn_at {op : Int} {k : Nat} (h : k < 73) (he : knL.getD k 0 = op) : kn op = true := by
  have hl : knL.length = 73 := rfl
  rw [List.getD_eq_getElem?_getD, List.getElem?_eq_getElem (by omega)] at he
  exact decide_eq_true (by rw [← he]; exact List.getElem_mem _)
theorem kn_none {op : Int} (h : ∀ j, j < 73 → knL.getD j 0 ≠ op) : kn op = false := by
  refine decide_eq_false (fun hm => ?_)
  obtain ⟨j, hj, e⟩ := List.getElem_of_mem hm
  have hl : knL.length = 73 := rfl
  refine h j (by omega) ?_
  rw [List.getD_eq_getElem?_getD, List.getElem?_eq_getElem hj]; exact e
set_option maxRecDepth 1000000 in
set_option maxHeartbeats 4000000 in
theorem rknows_c (op : Int) (w : World) : Calls Tryz.prog 21 #[.int .i64 op] w fun e w' => e = .returned (.bool (kn op)) ∧ Below w.heap.size w w' := by
  go_enter Tryz.func21, Tryz.ntmps21
  go_wp2_with fail
  refine (rops_c _).mono ?_
  rintro e w1 ⟨rfl, rfl⟩
  have HB := Lib.hid (show Below w.heap.size w (w.alloc (.cells knA 3)) from (Below.refl _ _).alloc (Nat.le_refl _) _)
  have HR := Lib.hid (fun j => cell_of_row (w.alloc (.cells knA 3)) w.heap.size j knA 3 (0, 0) (heap_alloc_new w _))
  unfold knA at HB HR
  obtain ⟨g, hg⟩ : ∃ g, w.heap.size = g := ⟨_, rfl⟩
  rw [hg] at HR
  obtain ⟨W0, hW0⟩ : ∃ W0, w.alloc (.cells #[.int .i64 4, .int .i64 5, .int .i64 6, .int .i64 7, .int .i64 16, .int .i64 17, .int .i64 18, .int .i64 19, .int .i64 20, .int .i64 21, .int .i64 22, .int .i64 23, .int .i64 24, .int .i64 25, .int .i64 26, .int .i64 27, .int .i64 28, .int .i64 29, .int .i64 30, .int .i64 31, .int .i64 64, .int .i64 65, .int .i64 66, .int .i64 67, .int .i64 69, .int .i64 70, .int .i64 71, .int .i64 72, .int .i64 73, .int .i64 74, .int .i64 75, .int .i64 76, .int .i64 80, .int .i64 84, .int .i64 85, .int .i64 86, .int .i64 87, .int .i64 88, .int .i64 89, .int .i64 90, .int .i64 91, .int .i64 92, .int .i64 93, .int .i64 94, .int .i64 95, .int .i64 134, .int .i64 135, .int .i64 136, .int .i64 137, .int .i64 138, .int .i64 139, .int .i64 140, .int .i64 141, .int .i64 142, .int .i64 143, .int .i64 144, .int .i64 145, .int .i64 146, .int .i64 147, .int .i64 148, .int .i64 149, .int .i64 150, .int .i64 151, .int .i64 152, .int .i64 209, .int .i64 210, .int .i64 211, .int .i64 212, .int .i64 213, .int .i64 214, .int .i64 215, .int .i64 220, .int .i64 221] 3) = W0 := ⟨_, rfl⟩
  rw [hW0] at HB HR ⊢
  simp only [hg]
  clear hW0
  have HA := Lib.hid (fun j (hj : j < 73) => (HR.out j).trans (knA_get hj))
  clear HR
  go_wp2
  go_loopw [4] (fun x wr => ∃ k : Nat, k ≤ 73 ∧ x = .int .i64 (k : Int) ∧ (∀ j, j < k → knL.getD j 0 ≠ op) ∧ wr = W0) (fun x _ => 73 - (intOf x).toNat)
  case atStart => exact ⟨0, by omega, rfl, by intro j hj; omega, rfl⟩
  case round =>
    obtain ⟨k, hk, rfl, hlo, hw⟩ := hrel
    subst hw
    have LO := Lib.hid hlo
    clear hlo
    by_cases hlt : k < 73
    · have hI : (k : Int) < 73 := by omega
      have c0 := HA.out k hlt
      obtain ⟨o, ho⟩ : ∃ o, knL.getD k 0 = o := ⟨_, rfl⟩
      rw [ho] at c0
      have HO := Lib.hid ho
      clear ho
      by_cases h : o = op
      · have hx := Lib.hid (kn_at hlt (HO.out.trans h))
        have e0 : (o == op) = true := by simpa using h
        clear h
        go_wp2
        go_ret
        rw [hx.out]
        exact ⟨by rfl, HB.out⟩
      · have e0 : (o == op) = false := by simpa using h
        have HN := Lib.hid h
        clear h
        go_wp2
        refine ⟨⟨k + 1, by omega, rfl, ?_, trivial⟩, by simp [intOf]; omega⟩
        intro j hj
        rcases Nat.lt_or_ge j k with h2 | h2
        · exact LO.out j h2
        · rw [show j = k by omega, HO.out]; exact HN.out
    · obtain rfl : k = 73 := by omega
      have hx := Lib.hid (kn_none LO.out)
      go_wp2
      go_ret
      rw [hx.out]
      exact ⟨by rfl, HB.out⟩
end Go.Proofs.YthjdjbipfdigeaaGreat

namespace Go.Proofs.YthjdjbipfdigeaaGreat
open Go.RowKit
set_option linter.unusedVariables false
set_option linter.unusedSimpArgs false

theorem pin_c (n most : Int) (w : World) : Calls Tryz.prog 53 #[.int .i64 n, .int .i64 most] w fun e w' => e = .returned (.bool (inr n most)) ∧ w = w' := by
  cases hi : inr n most
  · have h := inr_no hi
    by_cases h0 : 0 ≤ n
    · have h1 : ¬ n ≤ most := by omega
      clear h hi
      go_enter Tryz.func53, Tryz.ntmps53
      go_wp2
      go_ret
      exact ⟨rfl, rfl⟩
    · clear h hi
      go_enter Tryz.func53, Tryz.ntmps53
      go_wp2
      go_ret
      exact ⟨rfl, rfl⟩
  · have h := inr_yes hi
    have h0 := h.1
    have h1 := h.2
    clear h hi
    go_enter Tryz.func53, Tryz.ntmps53
    go_wp2
    go_ret
    exact ⟨rfl, rfl⟩

set_option maxHeartbeats 1000000 in
theorem rvalid_c (m k : Int) (M W P : Bool) (c i q g a : Int) (w : World) : Calls Tryz.prog 23 #[.agg #[.int .i64 m, .int .i64 k, .bool M, .bool W, .bool P, .int .i64 c, .int .i64 i, .int .i64 q, .int .i64 g, .int .i64 a]] w fun e w' => e = .returned (.bool (pok m k c i q g a)) ∧ Below w.heap.size w w' := by
  cases t0 : inr m 255
  · have hr := Lib.hid (show pok m k c i q g a = false from by simp [pok, t0])
    go_enter Tryz.func23, Tryz.ntmps23
    go_wp2_with (go_at_call 53; refine (pin_c _ _ _).mono ?_; rintro e w' ⟨rfl, rfl⟩)
    go_ret
    exact ⟨by rw [hr.out]; rfl, (Below.refl _ _).alloc (Nat.le_refl _) _⟩
  · skip
    cases t1 : inr k 15
    · have hr := Lib.hid (show pok m k c i q g a = false from by simp [pok, t0, t1])
      go_enter Tryz.func23, Tryz.ntmps23
      go_wp2_with (go_at_call 53; refine (pin_c _ _ _).mono ?_; rintro e w' ⟨rfl, rfl⟩)
      go_ret
      exact ⟨by rw [hr.out]; rfl, (Below.refl _ _).alloc (Nat.le_refl _) _⟩
    · skip
      cases t2 : inr c 65535
      · have hr := Lib.hid (show pok m k c i q g a = false from by simp [pok, t0, t1, t2])
        go_enter Tryz.func23, Tryz.ntmps23
        go_wp2_with (go_at_call 53; refine (pin_c _ _ _).mono ?_; rintro e w' ⟨rfl, rfl⟩)
        go_ret
        exact ⟨by rw [hr.out]; rfl, (Below.refl _ _).alloc (Nat.le_refl _) _⟩
      · skip
        cases t3 : inr i 3
        · have hr := Lib.hid (show pok m k c i q g a = false from by simp [pok, t0, t1, t2, t3])
          go_enter Tryz.func23, Tryz.ntmps23
          go_wp2_with (go_at_call 53; refine (pin_c _ _ _).mono ?_; rintro e w' ⟨rfl, rfl⟩)
          go_ret
          exact ⟨by rw [hr.out]; rfl, (Below.refl _ _).alloc (Nat.le_refl _) _⟩
        · skip
          cases t4 : inr q 3
          · have hr := Lib.hid (show pok m k c i q g a = false from by simp [pok, t0, t1, t2, t3, t4])
            go_enter Tryz.func23, Tryz.ntmps23
            go_wp2_with (go_at_call 53; refine (pin_c _ _ _).mono ?_; rintro e w' ⟨rfl, rfl⟩)
            go_ret
            exact ⟨by rw [hr.out]; rfl, (Below.refl _ _).alloc (Nat.le_refl _) _⟩
          · skip
            cases t5 : inr g 15
            · have hr := Lib.hid (show pok m k c i q g a = false from by simp [pok, t0, t1, t2, t3, t4, t5])
              go_enter Tryz.func23, Tryz.ntmps23
              go_wp2_with (go_at_call 53; refine (pin_c _ _ _).mono ?_; rintro e w' ⟨rfl, rfl⟩)
              go_ret
              exact ⟨by rw [hr.out]; rfl, (Below.refl _ _).alloc (Nat.le_refl _) _⟩
            · skip
              cases t6 : inr a 16777215
              · have hr := Lib.hid (show pok m k c i q g a = false from by simp [pok, t0, t1, t2, t3, t4, t5, t6])
                go_enter Tryz.func23, Tryz.ntmps23
                go_wp2_with (go_at_call 53; refine (pin_c _ _ _).mono ?_; rintro e w' ⟨rfl, rfl⟩)
                go_ret
                exact ⟨by rw [hr.out]; rfl, (Below.refl _ _).alloc (Nat.le_refl _) _⟩
              · have hr := Lib.hid (show pok m k c i q g a = true from by simp [pok, t0, t1, t2, t3, t4, t5, t6])
                go_enter Tryz.func23, Tryz.ntmps23
                go_wp2_with (go_at_call 53; refine (pin_c _ _ _).mono ?_; rintro e w' ⟨rfl, rfl⟩)
                go_ret
                exact ⟨by rw [hr.out]; rfl, (Below.refl _ _).alloc (Nat.le_refl _) _⟩

end Go.Proofs.YthjdjbipfdigeaaGreat

namespace Go.Proofs.YthjdjbipfdigeaaGreat
open Go.RowKit
set_option maxRecDepth 100000
set_option linter.unusedVariables false
set_option linter.unusedSimpArgs false

set_option maxHeartbeats 1000000 in
theorem limits_c (m k : Int) (M W P : Bool) (c i q g a : Int) (w : World) : Calls Tryz.prog 41 #[.agg #[.int .i64 m, .int .i64 k, .bool M, .bool W, .bool P, .int .i64 c, .int .i64 i, .int .i64 q, .int .i64 g, .int .i64 a]] w fun e w' => e = .returned (.agg #[.int .i64 m, .int .i64 255, .int .i64 k, .int .i64 15, .int .i64 c, .int .i64 65535, .int .i64 i, .int .i64 3, .int .i64 q, .int .i64 3, .int .i64 g, .int .i64 15, .int .i64 a, .int .i64 16777215]) ∧ Below w.heap.size w w' := by
  go_enter Tryz.func41, Tryz.ntmps41
  go_wp2
  go_returns
  exact ⟨rfl, ((Below.refl w.heap.size w).alloc (Nat.le_refl _) _).alloc (by simp) _⟩

theorem sz_limit : Tryz.prog.types[87].size = 2 := by kernel_rfl

set_option maxHeartbeats 2000000 in
theorem valid_c (m k : Int) (M W P : Bool) (c i q g a : Int) (w : World) : Calls Tryz.prog 18 #[.agg #[.int .i64 m, .int .i64 k, .bool M, .bool W, .bool P, .int .i64 c, .int .i64 i, .int .i64 q, .int .i64 g, .int .i64 a]] w fun e w' => e = .returned (.bool (pok m k c i q g a)) ∧ Below w.heap.size w w' := by
  go_enter Tryz.func18, Tryz.ntmps18
  go_wp2_with fail
  refine (limits_c m k M W P c i q g a _).mono ?_
  rintro e w1 ⟨rfl, hb⟩
  have HB := Lib.hid (show Below w.heap.size w w1 from ((Below.refl _ _).alloc (Nat.le_refl _) _).trans (hb.mono (by simp)))
  clear hb
  go_wp2_with fail
  go_loopw [7] (fun x wr => ∃ n : Nat, n ≤ 7 ∧ x = .int .i64 n ∧ Below w.heap.size w wr ∧ (([inr m 255, inr k 15, inr c 65535, inr i 3, inr q 3, inr g 15, inr a 16777215] : List Bool).take n).all id = true) (fun x _ => 7 - (intOf x).toNat)
  case atStart => exact ⟨0, Nat.zero_le _, rfl, HB.out, rfl⟩
  case round =>
    obtain ⟨n, hn, rfl, hbl, hall⟩ := hrel
    have HW := Lib.hid hbl
    have HS := Lib.hid hbl.size
    clear hbl
    match n, hn with
    | 0, _ =>
      have hx : (#[.int .i64 m, .int .i64 255, .int .i64 k, .int .i64 15, .int .i64 c, .int .i64 65535, .int .i64 i, .int .i64 3, .int .i64 q, .int .i64 3, .int .i64 g, .int .i64 15, .int .i64 a, .int .i64 16777215] : Array Value).extract (Int.toNat 0 * Tryz.prog.types[87].size) (Int.toNat 0 * Tryz.prog.types[87].size + Tryz.prog.types[87].size) = #[.int .i64 m, .int .i64 255] := by rw [sz_limit]; rfl
      have hp : True := by first | trivial | simpa using hall
      have HP := Lib.hid hp
      clear hall hp
      cases t : inr m 255
      · have hr := Lib.hid (show pok m k c i q g a = false from by simp [pok, t])
        have u := inr_no t
        clear t
        by_cases u0 : 0 ≤ m
        · have u1 : ¬ m ≤ 255 := by omega
          clear u
          go_wp2_with fail
          rename_i hK
          refine hK _ _ ?_
          rw [hx]
          go_wp2_with fail
          go_ret
          exact ⟨by rw [hr.out]; rfl, HW.out.alloc HS.out _⟩
        · clear u
          go_wp2_with fail
          rename_i hK
          refine hK _ _ ?_
          rw [hx]
          go_wp2_with fail
          go_ret
          exact ⟨by rw [hr.out]; rfl, HW.out.alloc HS.out _⟩
      · have ht := Lib.hid t
        have u0 := (inr_yes t).1
        have u1 := (inr_yes t).2
        clear t
        go_wp2_with fail
        rename_i hK
        refine hK _ _ ?_
        rw [hx]
        go_wp2_with fail
        go_roundw
        case rel => exact ⟨1, by omega, by go_num, HW.out.alloc HS.out _, by have := HP.out; simp [this, ht.out]⟩
        case measure => simp [intOf]
    | 1, _ =>
      have hx : (#[.int .i64 m, .int .i64 255, .int .i64 k, .int .i64 15, .int .i64 c, .int .i64 65535, .int .i64 i, .int .i64 3, .int .i64 q, .int .i64 3, .int .i64 g, .int .i64 15, .int .i64 a, .int .i64 16777215] : Array Value).extract (Int.toNat 1 * Tryz.prog.types[87].size) (Int.toNat 1 * Tryz.prog.types[87].size + Tryz.prog.types[87].size) = #[.int .i64 k, .int .i64 15] := by rw [sz_limit]; rfl
      have hp : inr m 255 = true := by first | trivial | simpa using hall
      have HP := Lib.hid hp
      clear hall hp
      cases t : inr k 15
      · have hr := Lib.hid (show pok m k c i q g a = false from by simp [pok, t])
        have u := inr_no t
        clear t
        by_cases u0 : 0 ≤ k
        · have u1 : ¬ k ≤ 15 := by omega
          clear u
          go_wp2_with fail
          rename_i hK
          refine hK _ _ ?_
          rw [hx]
          go_wp2_with fail
          go_ret
          exact ⟨by rw [hr.out]; rfl, HW.out.alloc HS.out _⟩
        · clear u
          go_wp2_with fail
          rename_i hK
          refine hK _ _ ?_
          rw [hx]
          go_wp2_with fail
          go_ret
          exact ⟨by rw [hr.out]; rfl, HW.out.alloc HS.out _⟩
      · have ht := Lib.hid t
        have u0 := (inr_yes t).1
        have u1 := (inr_yes t).2
        clear t
        go_wp2_with fail
        rename_i hK
        refine hK _ _ ?_
        rw [hx]
        go_wp2_with fail
        go_roundw
        case rel => exact ⟨2, by omega, by go_num, HW.out.alloc HS.out _, by have := HP.out; simp [this, ht.out]⟩
        case measure => simp [intOf]
    | 2, _ =>
      have hx : (#[.int .i64 m, .int .i64 255, .int .i64 k, .int .i64 15, .int .i64 c, .int .i64 65535, .int .i64 i, .int .i64 3, .int .i64 q, .int .i64 3, .int .i64 g, .int .i64 15, .int .i64 a, .int .i64 16777215] : Array Value).extract (Int.toNat 2 * Tryz.prog.types[87].size) (Int.toNat 2 * Tryz.prog.types[87].size + Tryz.prog.types[87].size) = #[.int .i64 c, .int .i64 65535] := by rw [sz_limit]; rfl
      have hp : inr m 255 = true ∧ inr k 15 = true := by first | trivial | simpa using hall
      have HP := Lib.hid hp
      clear hall hp
      cases t : inr c 65535
      · have hr := Lib.hid (show pok m k c i q g a = false from by simp [pok, t])
        have u := inr_no t
        clear t
        by_cases u0 : 0 ≤ c
        · have u1 : ¬ c ≤ 65535 := by omega
          clear u
          go_wp2_with fail
          rename_i hK
          refine hK _ _ ?_
          rw [hx]
          go_wp2_with fail
          go_ret
          exact ⟨by rw [hr.out]; rfl, HW.out.alloc HS.out _⟩
        · clear u
          go_wp2_with fail
          rename_i hK
          refine hK _ _ ?_
          rw [hx]
          go_wp2_with fail
          go_ret
          exact ⟨by rw [hr.out]; rfl, HW.out.alloc HS.out _⟩
      · have ht := Lib.hid t
        have u0 := (inr_yes t).1
        have u1 := (inr_yes t).2
        clear t
        go_wp2_with fail
        rename_i hK
        refine hK _ _ ?_
        rw [hx]
        go_wp2_with fail
        go_roundw
        case rel => exact ⟨3, by omega, by go_num, HW.out.alloc HS.out _, by have := HP.out; simp [this, ht.out]⟩
        case measure => simp [intOf]
    | 3, _ =>
      have hx : (#[.int .i64 m, .int .i64 255, .int .i64 k, .int .i64 15, .int .i64 c, .int .i64 65535, .int .i64 i, .int .i64 3, .int .i64 q, .int .i64 3, .int .i64 g, .int .i64 15, .int .i64 a, .int .i64 16777215] : Array Value).extract (Int.toNat 3 * Tryz.prog.types[87].size) (Int.toNat 3 * Tryz.prog.types[87].size + Tryz.prog.types[87].size) = #[.int .i64 i, .int .i64 3] := by rw [sz_limit]; rfl
      have hp : inr m 255 = true ∧ inr k 15 = true ∧ inr c 65535 = true := by first | trivial | simpa using hall
      have HP := Lib.hid hp
      clear hall hp
      cases t : inr i 3
      · have hr := Lib.hid (show pok m k c i q g a = false from by simp [pok, t])
        have u := inr_no t
        clear t
        by_cases u0 : 0 ≤ i
        · have u1 : ¬ i ≤ 3 := by omega
          clear u
          go_wp2_with fail
          rename_i hK
          refine hK _ _ ?_
          rw [hx]
          go_wp2_with fail
          go_ret
          exact ⟨by rw [hr.out]; rfl, HW.out.alloc HS.out _⟩
        · clear u
          go_wp2_with fail
          rename_i hK
          refine hK _ _ ?_
          rw [hx]
          go_wp2_with fail
          go_ret
          exact ⟨by rw [hr.out]; rfl, HW.out.alloc HS.out _⟩
      · have ht := Lib.hid t
        have u0 := (inr_yes t).1
        have u1 := (inr_yes t).2
        clear t
        go_wp2_with fail
        rename_i hK
        refine hK _ _ ?_
        rw [hx]
        go_wp2_with fail
        go_roundw
        case rel => exact ⟨4, by omega, by go_num, HW.out.alloc HS.out _, by have := HP.out; simp [this, ht.out]⟩
        case measure => simp [intOf]
    | 4, _ =>
      have hx : (#[.int .i64 m, .int .i64 255, .int .i64 k, .int .i64 15, .int .i64 c, .int .i64 65535, .int .i64 i, .int .i64 3, .int .i64 q, .int .i64 3, .int .i64 g, .int .i64 15, .int .i64 a, .int .i64 16777215] : Array Value).extract (Int.toNat 4 * Tryz.prog.types[87].size) (Int.toNat 4 * Tryz.prog.types[87].size + Tryz.prog.types[87].size) = #[.int .i64 q, .int .i64 3] := by rw [sz_limit]; rfl
      have hp : inr m 255 = true ∧ inr k 15 = true ∧ inr c 65535 = true ∧ inr i 3 = true := by first | trivial | simpa using hall
      have HP := Lib.hid hp
      clear hall hp
      cases t : inr q 3
      · have hr := Lib.hid (show pok m k c i q g a = false from by simp [pok, t])
        have u := inr_no t
        clear t
        by_cases u0 : 0 ≤ q
        · have u1 : ¬ q ≤ 3 := by omega
          clear u
          go_wp2_with fail
          rename_i hK
          refine hK _ _ ?_
          rw [hx]
          go_wp2_with fail
          go_ret
          exact ⟨by rw [hr.out]; rfl, HW.out.alloc HS.out _⟩
        · clear u
          go_wp2_with fail
          rename_i hK
          refine hK _ _ ?_
          rw [hx]
          go_wp2_with fail
          go_ret
          exact ⟨by rw [hr.out]; rfl, HW.out.alloc HS.out _⟩
      · have ht := Lib.hid t
        have u0 := (inr_yes t).1
        have u1 := (inr_yes t).2
        clear t
        go_wp2_with fail
        rename_i hK
        refine hK _ _ ?_
        rw [hx]
        go_wp2_with fail
        go_roundw
        case rel => exact ⟨5, by omega, by go_num, HW.out.alloc HS.out _, by have := HP.out; simp [this, ht.out]⟩
        case measure => simp [intOf]
    | 5, _ =>
      have hx : (#[.int .i64 m, .int .i64 255, .int .i64 k, .int .i64 15, .int .i64 c, .int .i64 65535, .int .i64 i, .int .i64 3, .int .i64 q, .int .i64 3, .int .i64 g, .int .i64 15, .int .i64 a, .int .i64 16777215] : Array Value).extract (Int.toNat 5 * Tryz.prog.types[87].size) (Int.toNat 5 * Tryz.prog.types[87].size + Tryz.prog.types[87].size) = #[.int .i64 g, .int .i64 15] := by rw [sz_limit]; rfl
      have hp : inr m 255 = true ∧ inr k 15 = true ∧ inr c 65535 = true ∧ inr i 3 = true ∧ inr q 3 = true := by first | trivial | simpa using hall
      have HP := Lib.hid hp
      clear hall hp
      cases t : inr g 15
      · have hr := Lib.hid (show pok m k c i q g a = false from by simp [pok, t])
        have u := inr_no t
        clear t
        by_cases u0 : 0 ≤ g
        · have u1 : ¬ g ≤ 15 := by omega
          clear u
          go_wp2_with fail
          rename_i hK
          refine hK _ _ ?_
          rw [hx]
          go_wp2_with fail
          go_ret
          exact ⟨by rw [hr.out]; rfl, HW.out.alloc HS.out _⟩
        · clear u
          go_wp2_with fail
          rename_i hK
          refine hK _ _ ?_
          rw [hx]
          go_wp2_with fail
          go_ret
          exact ⟨by rw [hr.out]; rfl, HW.out.alloc HS.out _⟩
      · have ht := Lib.hid t
        have u0 := (inr_yes t).1
        have u1 := (inr_yes t).2
        clear t
        go_wp2_with fail
        rename_i hK
        refine hK _ _ ?_
        rw [hx]
        go_wp2_with fail
        go_roundw
        case rel => exact ⟨6, by omega, by go_num, HW.out.alloc HS.out _, by have := HP.out; simp [this, ht.out]⟩
        case measure => simp [intOf]
    | 6, _ =>
      have hx : (#[.int .i64 m, .int .i64 255, .int .i64 k, .int .i64 15, .int .i64 c, .int .i64 65535, .int .i64 i, .int .i64 3, .int .i64 q, .int .i64 3, .int .i64 g, .int .i64 15, .int .i64 a, .int .i64 16777215] : Array Value).extract (Int.toNat 6 * Tryz.prog.types[87].size) (Int.toNat 6 * Tryz.prog.types[87].size + Tryz.prog.types[87].size) = #[.int .i64 a, .int .i64 16777215] := by rw [sz_limit]; rfl
      have hp : inr m 255 = true ∧ inr k 15 = true ∧ inr c 65535 = true ∧ inr i 3 = true ∧ inr q 3 = true ∧ inr g 15 = true := by first | trivial | simpa using hall
      have HP := Lib.hid hp
      clear hall hp
      cases t : inr a 16777215
      · have hr := Lib.hid (show pok m k c i q g a = false from by simp [pok, t])
        have u := inr_no t
        clear t
        by_cases u0 : 0 ≤ a
        · have u1 : ¬ a ≤ 16777215 := by omega
          clear u
          go_wp2_with fail
          rename_i hK
          refine hK _ _ ?_
          rw [hx]
          go_wp2_with fail
          go_ret
          exact ⟨by rw [hr.out]; rfl, HW.out.alloc HS.out _⟩
        · clear u
          go_wp2_with fail
          rename_i hK
          refine hK _ _ ?_
          rw [hx]
          go_wp2_with fail
          go_ret
          exact ⟨by rw [hr.out]; rfl, HW.out.alloc HS.out _⟩
      · have ht := Lib.hid t
        have u0 := (inr_yes t).1
        have u1 := (inr_yes t).2
        clear t
        go_wp2_with fail
        rename_i hK
        refine hK _ _ ?_
        rw [hx]
        go_wp2_with fail
        go_roundw
        case rel => exact ⟨7, by omega, by go_num, HW.out.alloc HS.out _, by have := HP.out; simp [this, ht.out]⟩
        case measure => simp [intOf]
    | 7, _ =>
      have hr := Lib.hid (show pok m k c i q g a = true from by simpa [pok] using hall)
      clear hall
      go_wp2_with fail
      go_ret
      exact ⟨by rw [hr.out]; rfl, HW.out⟩

end Go.Proofs.YthjdjbipfdigeaaGreat

namespace Go.Proofs.YthjdjbipfdigeaaGreat
open Go.RowKit
set_option maxRecDepth 100000
set_option linter.unusedVariables false
set_option linter.unusedSimpArgs false
/-- a block of cells -/
def Bk (W : World) (g : Nat) (T : TypeId) (cs : List Value) : Prop := W.heap[g]? = some (.cells cs.toArray T (0, 0))
section
variable {W W' : World} {g : Nat} {T : TypeId} {cs : List Value}
theorem Bk.cell (h : Bk W g T cs) {c : Nat} {v : Value} (hc : cs[c]? = some v) : W.cell? ⟨g, c, none⟩ = some v := by rw [cell_blk h c]; simpa using hc
theorem Bk.free (h : Bk W g T cs) (c : Nat) : W.frozen? ⟨g, c, none⟩ = false := by unfold Bk at h; simp [World.frozen?, h]
theorem Bk.lt (h : Bk W g T cs) : g < W.heap.size := (Array.getElem?_eq_some_iff.1 h).1
theorem Bk.kept (h : Bk W g T cs) (hk : W'.heap[g]? = W.heap[g]?) : Bk W' g T cs := hk.trans h
theorem Bk.keep (h : Bk W g T cs) (hb : Below W.heap.size W W') : Bk W' g T cs := h.kept (hb.block _ h.lt)
theorem Bk.ch {L : List Nat} (h : Bk W g T cs) (hb : Ch W W' L) (hg : g ∉ L) : Bk W' g T cs := h.kept (hb.block _ h.lt hg)
theorem Bk.alloc (h : Bk W g T cs) (o : Obj) : Bk (W.alloc o) g T cs := h.kept (Below.heap_alloc W o _ h.lt)
theorem Bk.new (W : World) (cs : List Value) (T : TypeId) : Bk (W.alloc (.cells cs.toArray T)) W.heap.size T cs := heap_alloc_new W _
theorem Bk.drewN (h : Bk W g T cs) (n : Nat) : Bk (W.drewN n) g T cs := h
theorem Bk.set_ (h : Bk W g T cs) (c : Nat) (v : Value) : Bk (W.setCell ⟨g, c, none⟩ v) g T (cs.set c v) := by
  unfold Bk at h ⊢
  rw [setCell_eq_setRow W g c _ _ (0, 0) _ h, setRow_heap W g _ _ _ _ h, List.setIfInBounds_toArray]
theorem Bk.other (h : Bk W g T cs) {p : Addr} (v : Value) (hp : p.block ≠ g) : Bk (W.setCell p v) g T cs := h.kept (Below.heap_setCell W p v g (Ne.symm hp))
end
/-- Exec's own blocks: the instruction, registers and status word as given, and the results' cells -/
structure XF (w W : World) (L : List Nat) (is rs : List Int) (ps nr np : List Value) (en : Value) : Prop where
  b0 : Bk W w.heap.size 23 (is.map (Value.int .i64))
  b1 : Bk W (w.heap.size + 1) 26 (rs.map (Value.int .u32))
  b2 : Bk W (w.heap.size + 1 + 1) 28 ps
  b3 : Bk W (w.heap.size + 1 + 1 + 1) 26 nr
  b4 : Bk W (w.heap.size + 1 + 1 + 1 + 1) 28 np
  b5 : Bk W (w.heap.size + 1 + 1 + 1 + 1 + 1) 3 [en]
  be : Ch w W L
theorem XF.start (w : World) (L : List Nat) (is rs : List Int) (ps nr np : List Value) (en : Value) : XF w ((((((w.alloc (.cells (is.map (Value.int .i64)).toArray 23)).alloc (.cells (rs.map (Value.int .u32)).toArray 26)).alloc (.cells ps.toArray 28)).alloc (.cells nr.toArray 26)).alloc (.cells np.toArray 28)).alloc (.cells [en].toArray 3)) L is rs ps nr np en := by
  refine ⟨?_, ?_, ?_, ?_, ?_, ?_, ?_⟩
  · exact (((((Bk.new w _ _).alloc _).alloc _).alloc _).alloc _).alloc _
  · have := Bk.new (w.alloc (.cells (is.map (Value.int .i64)).toArray 23)) (rs.map (Value.int .u32)) 26
    rw [World.size_alloc] at this
    exact (((this.alloc _).alloc _).alloc _).alloc _
  · have := Bk.new ((w.alloc (.cells (is.map (Value.int .i64)).toArray 23)).alloc (.cells (rs.map (Value.int .u32)).toArray 26)) ps 28
    rw [World.size_alloc, World.size_alloc] at this
    exact ((this.alloc _).alloc _).alloc _
  · have := Bk.new (((w.alloc (.cells (is.map (Value.int .i64)).toArray 23)).alloc (.cells (rs.map (Value.int .u32)).toArray 26)).alloc (.cells ps.toArray 28)) nr 26
    rw [World.size_alloc, World.size_alloc, World.size_alloc] at this
    exact (this.alloc _).alloc _
  · have := Bk.new ((((w.alloc (.cells (is.map (Value.int .i64)).toArray 23)).alloc (.cells (rs.map (Value.int .u32)).toArray 26)).alloc (.cells ps.toArray 28)).alloc (.cells nr.toArray 26)) np 28
    rw [World.size_alloc, World.size_alloc, World.size_alloc, World.size_alloc] at this
    exact this.alloc _
  · have := Bk.new (((((w.alloc (.cells (is.map (Value.int .i64)).toArray 23)).alloc (.cells (rs.map (Value.int .u32)).toArray 26)).alloc (.cells ps.toArray 28)).alloc (.cells nr.toArray 26)).alloc (.cells np.toArray 28)) [en] 3
    rw [World.size_alloc, World.size_alloc, World.size_alloc, World.size_alloc, World.size_alloc] at this
    exact this
  · exact ((((((Ch.refl w L).alloc _).alloc _).alloc _).alloc _).alloc _).alloc _
section
variable {w W W' : World} {L : List Nat} {is rs : List Int} {ps nr np : List Value} {en : Value}
theorem XF.keep (h : XF w W L is rs ps nr np en) (hb : Below W.heap.size W W') : XF w W' L is rs ps nr np en := ⟨h.b0.keep hb, h.b1.keep hb, h.b2.keep hb, h.b3.keep hb, h.b4.keep hb, h.b5.keep hb, h.be.trans (Ch.of_below hb L)⟩
theorem XF.drewN (h : XF w W L is rs ps nr np en) (n : Nat) : XF w (W.drewN n) L is rs ps nr np en := ⟨h.b0, h.b1, h.b2, h.b3, h.b4, h.b5, h.be.drewN n⟩
theorem XF.ch {g : Nat} (h : XF w W [] is rs ps nr np en) (hc : Ch W W' (g :: L)) (hL : ∀ k, k ∈ L → k < w.heap.size) (hg : w.heap.size + 6 ≤ g) : XF w W' L is rs ps nr np en := by
  have hn : ∀ k, w.heap.size ≤ k → k < w.heap.size + 6 → k ∉ g :: L := fun k h1 h2 hk => by
    rcases List.mem_cons.mp hk with hk | hk
    · omega
    · have := hL k hk; omega
  exact ⟨h.b0.ch hc (hn _ (by omega) (by omega)), h.b1.ch hc (hn _ (by omega) (by omega)), h.b2.ch hc (hn _ (by omega) (by omega)), h.b3.ch hc (hn _ (by omega) (by omega)), h.b4.ch hc (hn _ (by omega) (by omega)), h.b5.ch hc (hn _ (by omega) (by omega)), ⟨hc.os.trans h.be.os, hc.tape.trans h.be.tape, hc.output.trans h.be.output, Nat.le_trans h.be.size hc.size, fun k hk hkL => (hc.block k (Nat.lt_of_lt_of_le hk h.be.size) (fun hm => by rcases List.mem_cons.mp hm with hm | hm; (· omega); (· exact hkL hm))).trans (h.be.block k hk (by simp))⟩⟩
end
theorem res_cells3 {P : Program} {fn : Func} {p q r : Tmp} {tp tq tr : TypeId} (h : fn.results = #[.cell p tp, .cell q tq, .cell r tr]) (tmps : Array Value) (w : World) (g g' g'' : Nat) (cs cs' : List Value) (v : Value) {T T' T'' : TypeId} {d d' : TypeDesc}
    (hp : tmps.getD p undef = .pointer (some ⟨g, 0, none⟩)) (hq : tmps.getD q undef = .pointer (some ⟨g', 0, none⟩)) (hr : tmps.getD r undef = .pointer (some ⟨g'', 0, none⟩)) (hg : Bk w g T cs) (hg' : Bk w g' T' cs') (hg'' : Bk w g'' T'' [v])
    (hu : P.underlying tp = some d) (hd : (match d with | .struct _ | .array _ _ => true | _ => false) = true) (hi : (P.info? tp).map (·.size) = some cs.length)
    (hu' : P.underlying tq = some d') (hd' : (match d' with | .struct _ | .array _ _ => true | _ => false) = true) (hi' : (P.info? tq).map (·.size) = some cs'.length)
    (hv : (loadVar tr ⟨g'', 0, none⟩).run P w = .ok v w) :
    (results fn tmps).run P w = .ok (.tuple #[.agg cs.toArray, .agg cs'.toArray, v]) w := by
  have hp' : tmps[p]?.getD undef = .pointer (some ⟨g, 0, none⟩) := by simpa using hp
  have hq' : tmps[q]?.getD undef = .pointer (some ⟨g', 0, none⟩) := by simpa using hq
  have hr' : tmps[r]?.getD undef = .pointer (some ⟨g'', 0, none⟩) := by simpa using hr
  simp [results, h, hp', hq', hr', asAddr, run_loadVar_row w g T tp cs.toArray (0, 0) d hg hu hd (by simpa using hi), run_loadVar_row w g' T' tq cs'.toArray (0, 0) d' hg' hu' hd' (by simpa using hi'), hv]
end Go.Proofs.YthjdjbipfdigeaaGreat

namespace Go.Proofs.YthjdjbipfdigeaaGreat
open Go.RowKit
theorem dBelow {B : Nat} {a w : World} (h : Below B a w) (n : Nat) : Below B a (w.drewN n) := ⟨h.os, h.tape, h.output, h.size, h.block⟩
end Go.Proofs.YthjdjbipfdigeaaGreat

namespace Go.Proofs.YthjdjbipfdigeaaGreat
open Go.RowKit
set_option maxRecDepth 100000
set_option linter.unusedVariables false

/-- is a range in a storage of N bytes? -/
def sIn (N : Nat) (addr n : Int) : Bool := decide (0 ≤ addr ∧ 0 ≤ n ∧ addr ≤ (N : Int) ∧ n ≤ (N : Int) - addr)
theorem sIn_yes {N : Nat} {addr n : Int} (h : sIn N addr n = true) : 0 ≤ addr ∧ 0 ≤ n ∧ addr ≤ (N : Int) ∧ n ≤ (N : Int) - addr := by simpa [sIn] using h
/-- may a key store, fetch, in a block of key k? -/
def alP (key k : Int) : Bool := decide (key = 0 ∨ key = k / 2)
def alF (key k : Int) : Bool := decide (key = 0 ∨ key = k / 2 ∨ k % 2 = 0)
/-- may every byte of a range be touched? -/
def okB (al : Int → Bool) (ks : List Int) (a n : Nat) : Bool := (List.range n).all fun j => al (ks.getD ((a + j) / 2048) 0)
/-- the code of an access -/
def sCode (al : Int → Bool) (N : Nat) (ks : List Int) (addr n : Int) : Int := if sIn N addr n = true then (if okB al ks addr.toNat n.toNat = true then 0 else 4) else 5
/-- the bytes of a range -/
def sGet (bs : List Int) (addr n : Int) : List Int := if sIn bs.length addr n = true then (bs.drop addr.toNat).take n.toNat else []
/-- is an address in the storage? -/
def sAt (N : Nat) (addr : Int) : Bool := decide (0 ≤ addr ∧ addr < (N : Int))
/-- block g is a row of c cells of type e, of which the first are vs -/
def Rw (w : World) (g : Nat) (e : TypeId) (c : Nat) (vs : List Value) : Prop :=
  ∃ cur : List Value, w.heap[g]? = some (.cells cur.toArray e (0, 0)) ∧ cur.length = c ∧ cur.take vs.length = vs ∧ c ≤ maxLen

section
variable {w w' : World} {g c : Nat} {e : TypeId} {vs : List Value}
theorem Rw.lt (h : Rw w g e c vs) : g < w.heap.size := by obtain ⟨cur, h1, _⟩ := h; exact (Array.getElem?_eq_some_iff.1 h1).1
theorem Rw.len (h : Rw w g e c vs) : vs.length ≤ c := by
  obtain ⟨cur, _, h2, h3, _⟩ := h
  have := congrArg List.length h3
  rw [List.length_take] at this; omega
theorem Rw.cell (h : Rw w g e c vs) {i : Nat} (hi : i < vs.length) : w.cell? ⟨g, i, none⟩ = some vs[i] := by
  obtain ⟨cur, h1, h2, h3, _⟩ := h
  have e1 : cur[i]? = some vs[i] := by
    have h4 : (cur.take vs.length)[i]? = some vs[i] := by rw [h3]; exact List.getElem?_eq_getElem hi
    rwa [List.getElem?_take, if_pos hi] at h4
  simp [World.cell?, h1, e1]
theorem Rw.free (h : Rw w g e c vs) (i : Nat) : w.frozen? ⟨g, i, none⟩ = false := by obtain ⟨cur, h1, _⟩ := h; simp [World.frozen?, h1]
theorem Rw.keep (h : Rw w g e c vs) (hk : w'.heap[g]? = w.heap[g]?) : Rw w' g e c vs := by obtain ⟨cur, h1, h2⟩ := h; exact ⟨cur, hk.trans h1, h2⟩
theorem Rw.set_ (h : Rw w g e c vs) {i : Nat} (v : Value) : Rw (w.setCell ⟨g, i, none⟩ v) g e c (vs.set i v) := by
  obtain ⟨cur, h1, h2, h3, h4⟩ := h
  refine ⟨cur.set i v, ?_, by simpa using h2, by rw [List.length_set, List.take_set, h3], h4⟩
  rw [setCell_eq_setRow w g i cur.toArray e (0, 0) _ h1, setRow_heap w g _ _ _ _ h1]
  simp
theorem Rw.ne {g' c' : Nat} {e' : TypeId} {vs' : List Value} (h : Rw w g e c vs) (h' : Rw w g' e' c' vs') (he : e ≠ e') : g ≠ g' := by
  rintro rfl
  obtain ⟨cur, h1, _⟩ := h
  obtain ⟨cur', h1', _⟩ := h'
  rw [h1] at h1'
  injection h1' with h1'
  injection h1' with _ ht
  exact he ht
theorem Rw.ne_blk {g' : Nat} {e' : TypeId} {C : Array Value} (h : Rw w g e c vs) (h' : w.heap[g']? = some (.cells C e' (0, 0))) (he : e ≠ e') : g ≠ g' := by
  rintro rfl
  obtain ⟨cur, h1, _⟩ := h
  rw [h1] at h'
  injection h' with h'
  injection h' with _ ht
  exact he ht
theorem Rw.new (w : World) (C : Array Value) (e : TypeId) (vs : List Value) (hC : C.toList = vs) (hm : vs.length ≤ maxLen) : Rw (w.alloc (.cells C e)) w.heap.size e vs.length vs := by
  refine ⟨C.toList, ?_, by rw [hC], by rw [hC, List.take_length], hm⟩
  have := heap_alloc_new w (.cells C e)
  simpa using this
/-- cells laid over a row from place k on -/
theorem Rw.lay (h : Rw w g e c vs) (k : Nat) (us : List Value) (hk : k + us.length ≤ vs.length) : ∃ cur : List Value, w.heap[g]? = some (.cells cur.toArray e (0, 0)) ∧ cur.length = c ∧
    Rw (w.setRow g (splice cur k us).toArray) g e c (splice vs k us) := by
  obtain ⟨cur, h1, h2, h3, h4⟩ := h
  have hl : vs.length ≤ cur.length := by have := congrArg List.length h3; rw [List.length_take] at this; omega
  refine ⟨cur, h1, h2, splice cur k us, setRow_heap w g _ _ _ _ h1, ?_, ?_, h4⟩
  · rw [length_splice _ _ _ (by omega), h2]
  · rw [length_splice _ _ _ hk, take_splice _ _ _ _ hk hl, h3]
end

/-- A storage: the struct in block g, its bytes in block gb, its keys in block gk. -/
structure Foot where
  g : Nat
  gb : Nat
  gk : Nat
  cb : Nat
  ck : Nat
structure St (T : TypeId) (w : World) (F : Foot) (bs ks : List Int) : Prop where
  hd : w.heap[F.g]? = some (.cells #[.slice (some ⟨F.gb, 0, none⟩) bs.length F.cb, .slice (some ⟨F.gk, 0, none⟩) ks.length F.ck] T (0, 0))
  b : Rw w F.gb 5 F.cb (bs.map (Value.int .u8))
  k : Rw w F.gk 3 F.ck (ks.map (Value.int .i64))
  rb : ∀ z ∈ bs, 0 ≤ z ∧ z ≤ 255
  rk : ∀ z ∈ ks, 0 ≤ z ∧ z ≤ 31
  ln : bs.length = 2048 * ks.length
  l0 : 1 ≤ ks.length
  l1 : ks.length ≤ 32
/-- two storages apart -/
def Foot.apart (F F' : Foot) : Prop := F.g ≠ F'.g ∧ F.gb ≠ F'.gb ∧ F.gk ≠ F'.gk

section
variable {T T' : TypeId} {w w' : World} {F F' : Foot} {bs ks bs' ks' : List Int}
theorem St.ltg (h : St T w F bs ks) : F.g < w.heap.size := (Array.getElem?_eq_some_iff.1 h.hd).1
theorem St.ltb (h : St T w F bs ks) : F.gb < w.heap.size := h.b.lt
theorem St.ltk (h : St T w F bs ks) : F.gk < w.heap.size := h.k.lt
theorem St.keep (h : St T w F bs ks) (h1 : w'.heap[F.g]? = w.heap[F.g]?) (h2 : w'.heap[F.gb]? = w.heap[F.gb]?) (h3 : w'.heap[F.gk]? = w.heap[F.gk]?) : St T w' F bs ks :=
  ⟨h1.trans h.hd, h.b.keep h2, h.k.keep h3, h.rb, h.rk, h.ln, h.l0, h.l1⟩
theorem St.below {B : Nat} (h : St T w F bs ks) (hb : Below B w w') (h1 : F.g < B) (h2 : F.gb < B) (h3 : F.gk < B) : St T w' F bs ks := h.keep (hb.block _ h1) (hb.block _ h2) (hb.block _ h3)
theorem St.belowS (h : St T w F bs ks) (hb : Below w.heap.size w w') : St T w' F bs ks := h.below hb h.ltg h.ltb h.ltk
theorem St.drewN (h : St T w F bs ks) (n : Nat) : St T (w.drewN n) F bs ks := h.keep rfl rfl rfl
theorem St.alloc (h : St T w F bs ks) (o : Obj) : St T (w.alloc o) F bs ks := h.keep (Below.heap_alloc w o _ h.ltg) (Below.heap_alloc w o _ h.ltb) (Below.heap_alloc w o _ h.ltk)
theorem St.grown {row : Option Nat} (h : St T w F bs ks) (hb : w.grownBy w' row) (h1 : some F.g ≠ row) (h2 : some F.gb ≠ row) (h3 : some F.gk ≠ row) : St T w' F bs ks :=
  h.keep (hb.block _ h.ltg h1) (hb.block _ h.ltb h2) (hb.block _ h.ltk h3)
theorem St.cell0 (h : St T w F bs ks) : w.cell? ⟨F.g, 0, none⟩ = some (.slice (some ⟨F.gb, 0, none⟩) bs.length F.cb) := cell_blk h.hd 0
theorem St.cell1 (h : St T w F bs ks) : w.cell? ⟨F.g, 1, none⟩ = some (.slice (some ⟨F.gk, 0, none⟩) ks.length F.ck) := cell_blk h.hd 1
theorem St.byte (h : St T w F bs ks) {i : Nat} (hi : i < bs.length) : w.cell? ⟨F.gb, i, none⟩ = some (.int .u8 (bs.getD i 0)) := by
  rw [h.b.cell (by simpa using hi)]; simp [List.getD_eq_getElem?_getD, hi]
theorem St.key (h : St T w F bs ks) {i : Nat} (hi : i < ks.length) : w.cell? ⟨F.gk, i, none⟩ = some (.int .i64 (ks.getD i 0)) := by
  rw [h.k.cell (by simpa using hi)]; simp [List.getD_eq_getElem?_getD, hi]
theorem St.keyr (h : St T w F bs ks) (i : Nat) : 0 ≤ ks.getD i 0 ∧ ks.getD i 0 ≤ 31 := by
  rw [List.getD_eq_getElem?_getD]
  rcases Nat.lt_or_ge i ks.length with hi | hi
  · rw [List.getElem?_eq_getElem hi]; exact h.rk _ (List.getElem_mem hi)
  · rw [List.getElem?_eq_none hi]; simp
theorem St.capb (h : St T w F bs ks) : bs.length ≤ F.cb := by have := h.b.len; simpa using this
theorem St.capk (h : St T w F bs ks) : ks.length ≤ F.ck := by have := h.k.len; simpa using this
theorem St.maxb (h : St T w F bs ks) : F.cb ≤ maxLen := by obtain ⟨cur, _, _, _, h4⟩ := h.b; exact h4
theorem St.byt (h : St T w F bs ks) {a n : Nat} (hn : a + n ≤ bs.length) : Byt w (some ⟨F.gb, a, none⟩) n ((bs.drop a).take n) := by
  refine ⟨by rw [List.length_take, List.length_drop]; omega, fun z hz => h.rb z (List.mem_of_mem_drop (List.mem_of_mem_take hz)), fun _ => ⟨F.gb, a, rfl, fun i hi => ?_⟩⟩
  rw [h.byte (by omega)]
  simp [List.getD_eq_getElem?_getD, hi]
/-- the three blocks are not one -/
theorem St.nbk (h : St T w F bs ks) : F.gb ≠ F.gk := h.b.ne h.k (by decide)
theorem St.ngb (h : St T w F bs ks) (hT : T ≠ 5) : F.gb ≠ F.g := h.b.ne_blk h.hd (Ne.symm hT)
theorem St.ngk (h : St T w F bs ks) (hT : T ≠ 3) : F.gk ≠ F.g := h.k.ne_blk h.hd (Ne.symm hT)
/-- a key is stored -/
theorem St.setKey (h : St T w F bs ks) (hT : T ≠ 3) {i : Nat} {v : Int} (hv : 0 ≤ v ∧ v ≤ 31) : St T (w.setCell ⟨F.gk, i, none⟩ (.int .i64 v)) F bs (ks.set i v) := by
  refine ⟨?_, ?_, ?_, h.rb, ?_, by rw [List.length_set]; exact h.ln, by rw [List.length_set]; exact h.l0, by rw [List.length_set]; exact h.l1⟩
  · rw [List.length_set]; exact (Below.heap_setCell _ _ _ _ (Ne.symm (h.ngk hT))).trans h.hd
  · exact h.b.keep (Below.heap_setCell _ _ _ _ h.nbk)
  · rw [List.map_set]; exact h.k.set_ _
  · intro z hz
    rcases List.mem_or_eq_of_mem_set hz with hz | rfl
    · exact h.rk z hz
    · exact hv
/-- a byte is stored -/
theorem St.setByte (h : St T w F bs ks) (hT : T ≠ 5) {i : Nat} {v : Int} (hv : 0 ≤ v ∧ v ≤ 255) : St T (w.setCell ⟨F.gb, i, none⟩ (.int .u8 v)) F (bs.set i v) ks := by
  refine ⟨?_, ?_, ?_, ?_, h.rk, by rw [List.length_set]; exact h.ln, h.l0, h.l1⟩
  · rw [List.length_set]; exact (Below.heap_setCell _ _ _ _ (Ne.symm (h.ngb hT))).trans h.hd
  · rw [List.map_set]; exact h.b.set_ _
  · exact h.k.keep (Below.heap_setCell _ _ _ _ (Ne.symm h.nbk))
  · intro z hz
    rcases List.mem_or_eq_of_mem_set hz with hz | rfl
    · exact h.rb z hz
    · exact hv
/-- bytes are laid over it -/
theorem St.lay (h : St T w F bs ks) (hT : T ≠ 5) (k : Nat) (ys : List Int) (hy : ∀ z ∈ ys, 0 ≤ z ∧ z ≤ 255) (hk : k + ys.length ≤ bs.length) :
    ∃ cur : List Value, w.heap[F.gb]? = some (.cells cur.toArray 5 (0, 0)) ∧ cur.length = F.cb ∧ St T (w.setRow F.gb (splice cur k (ys.map (Value.int .u8))).toArray) F (splice bs k ys) ks := by
  obtain ⟨cur, h1, h2, h3⟩ := h.b.lay k (ys.map (Value.int .u8)) (by simpa using hk)
  refine ⟨cur, h1, h2, ?_, ?_, ?_, splice_range _ _ _ h.rb hy, h.rk, by rw [length_splice _ _ _ hk]; exact h.ln, h.l0, h.l1⟩
  · rw [length_splice _ _ _ hk]; exact (setRow_other _ _ _ _ (Ne.symm (h.ngb hT))).trans h.hd
  · rw [← splice_map]; exact h3
  · exact h.k.keep (setRow_other _ _ _ _ (Ne.symm h.nbk))
end

theorem grown_setRow (w : World) (g : Nat) (cs : Array Value) : w.grownBy (w.setRow g cs) (some g) := ⟨rfl, rfl, rfl, by simp [World.setRow], fun k _ hk => setRow_other w g k cs (fun e => hk (by rw [e]))⟩
theorem grown_setCell (w : World) (g i : Nat) (v : Value) : w.grownBy (w.setCell ⟨g, i, none⟩ v) (some g) := ⟨rfl, rfl, rfl, by simp [World.setCell], fun k _ hk => Below.heap_setCell w _ v k (fun e => hk (by rw [e]))⟩
theorem grown_drewN {a w : World} {row : Option Nat} (h : a.grownBy w row) (n : Nat) : a.grownBy (w.drewN n) row := ⟨h.os, h.tape, h.output, h.size, h.block⟩
theorem grown_of_below {a w : World} (h : Below a.heap.size a w) (row : Option Nat) : a.grownBy w row := ⟨h.os, h.tape, h.output, h.size, fun i hi _ => h.block i hi⟩
theorem grown_trans {a b c : World} {row : Option Nat} (h : a.grownBy b row) (k : b.grownBy c row) : a.grownBy c row :=
  ⟨k.os.trans h.os, k.tape.trans h.tape, k.output.trans h.output, Nat.le_trans h.size k.size, fun i hi hne => (k.block i (Nat.lt_of_lt_of_le hi h.size) hne).trans (h.block i hi hne)⟩
end Go.Proofs.YthjdjbipfdigeaaGreat

