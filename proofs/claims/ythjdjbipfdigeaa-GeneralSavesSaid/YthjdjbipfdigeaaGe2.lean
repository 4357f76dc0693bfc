/- CONTRACTS of Knows of package general and of the reference. No conditions. -/
import Derived.Test.YthjdjbipfdigeaaIs4
namespace Go.Proofs.Ythjdjbipfdigeaa
open Go.RowKit
set_option linter.unusedVariables false
set_option linter.unusedSimpArgs false
def knL : List Int := [4, 5, 6, 7, 16, 17, 18, 19, 20, 21, 22, 23, 24, 25, 26, 27, 28, 29, 30, 31, 64, 65, 66, 67, 69, 70, 71, 72, 73, 74, 75, 76, 80, 84, 85, 86, 87, 88, 89, 90, 91, 92, 93, 94, 95, 134, 135, 136, 137, 138, 139, 140, 141, 142, 143, 144, 145, 146, 147, 148, 149, 150, 151, 152, 209, 210, 211, 212, 213, 214, 215, 220, 221]
def kn (op : Int) : Bool := decide (op ∈ knL)
def knB (op : Int) : Bool := isOp op && (!privB op && (!decide (op ∈ [10, 68, 78, 79, 222, 223]) && decide (op < 240)))
theorem isOp_in {op : Int} (h : isOp op = true) : 4 ≤ op ∧ op ≤ 253 := by
  unfold isOp at h; rw [decide_eq_true_iff] at h
  have := op_range _ h; rwa [ix_op h] at this
theorem knB_lt : ∀ n : Nat, n < 256 → knB (n : Int) = kn (n : Int) := by decide +kernel
theorem knL_in : ∀ op ∈ knL, 0 ≤ op ∧ op ≤ 255 := by decide
theorem knB_eq (op : Int) : knB op = kn op := by
  by_cases h : 0 ≤ op ∧ op ≤ 255
  · have e : ((op.toNat : Nat) : Int) = op := Int.toNat_of_nonneg h.1
    rw [← e]; exact knB_lt _ (by omega)
  · have h1 : isOp op = false := by
      cases hi : isOp op
      · rfl
      · have := isOp_in hi; omega
    have h2 : kn op = false := decide_eq_false (fun hm => h (knL_in op hm))
    rw [h2]; unfold knB; rw [h1]; rfl
set_option maxRecDepth 1000000 in
set_option maxHeartbeats 4000000 in
theorem knows_no (op : Int) (w : World) (h : isOp op = false) : Calls Try.prog 11 #[.int .i64 op] w fun e w' => e = .returned (.bool false) ∧ ∃ n, w' = w.drewN n := by
  have FC := Lib.hid (form_c op)
  have PC := Lib.hid (priv_c op)
  obtain ⟨f, hf⟩ : ∃ f, fmOf op = f := ⟨_, rfl⟩
  rw [hf] at FC
  clear hf
  rw [h] at FC
  clear h
  go_enter Try.func11, Try.ntmps11
  go_wp2_with (first
    | (go_at_call 25; refine (FC.out _).mono ?_; rintro e w1 ⟨rfl, n1, rfl⟩)
    | (go_at_call 26; refine (PC.out _).mono ?_; rintro e w2 ⟨rfl, hw2⟩; subst hw2))
  go_ret
  exact ⟨by first | rfl | (show Ending.returned (.bool (decide (op < 240))) = _; rw [decide_eq_false (by omega)]), _, rfl⟩
set_option maxRecDepth 1000000 in
set_option maxHeartbeats 4000000 in
theorem knows_priv (op : Int) (w : World) (h : isOp op = true) (hp : privB op = true) : Calls Try.prog 11 #[.int .i64 op] w fun e w' => e = .returned (.bool false) ∧ ∃ n, w' = w.drewN n := by
  have FC := Lib.hid (form_c op)
  have PC := Lib.hid (priv_c op)
  obtain ⟨f, hf⟩ : ∃ f, fmOf op = f := ⟨_, rfl⟩
  rw [hf] at FC
  clear hf
  rw [h] at FC
  rw [hp] at PC
  clear h hp
  go_enter Try.func11, Try.ntmps11
  go_wp2_with (first
    | (go_at_call 25; refine (FC.out _).mono ?_; rintro e w1 ⟨rfl, n1, rfl⟩)
    | (go_at_call 26; refine (PC.out _).mono ?_; rintro e w2 ⟨rfl, hw2⟩; subst hw2))
  go_ret
  exact ⟨by first | rfl | (show Ending.returned (.bool (decide (op < 240))) = _; rw [decide_eq_false (by omega)]), _, rfl⟩
set_option maxRecDepth 1000000 in
set_option maxHeartbeats 4000000 in
theorem knows_yes (op : Int) (w : World) (h : isOp op = true) (hp : privB op = false) (h10 : op ≠ 10) (h68 : op ≠ 68) (h78 : op ≠ 78) (h79 : op ≠ 79) (h222 : op ≠ 222) (h223 : op ≠ 223) (hl : op < 240) : Calls Try.prog 11 #[.int .i64 op] w fun e w' => e = .returned (.bool true) ∧ ∃ n, w' = w.drewN n := by
  have FC := Lib.hid (form_c op)
  have PC := Lib.hid (priv_c op)
  obtain ⟨f, hf⟩ : ∃ f, fmOf op = f := ⟨_, rfl⟩
  rw [hf] at FC
  clear hf
  rw [h] at FC
  rw [hp] at PC
  clear h hp
  have e10 : (op == 10) = false := by simpa using h10
  have e68 : (op == 68) = false := by simpa using h68
  have e78 : (op == 78) = false := by simpa using h78
  have e79 : (op == 79) = false := by simpa using h79
  have e222 : (op == 222) = false := by simpa using h222
  have e223 : (op == 223) = false := by simpa using h223
  clear h10 h68 h78 h79 h222 h223
  go_enter Try.func11, Try.ntmps11
  go_wp2_with (first
    | (go_at_call 25; refine (FC.out _).mono ?_; rintro e w1 ⟨rfl, n1, rfl⟩)
    | (go_at_call 26; refine (PC.out _).mono ?_; rintro e w2 ⟨rfl, hw2⟩; subst hw2))
  go_ret
  exact ⟨by first | rfl | (show Ending.returned (.bool (decide (op < 240))) = _; rw [decide_eq_false (by omega)]), _, rfl⟩
set_option maxRecDepth 1000000 in
set_option maxHeartbeats 4000000 in
theorem knows_ge (op : Int) (w : World) (h : isOp op = true) (hp : privB op = false) (h10 : op ≠ 10) (h68 : op ≠ 68) (h78 : op ≠ 78) (h79 : op ≠ 79) (h222 : op ≠ 222) (h223 : op ≠ 223) (hl : ¬ op < 240) : Calls Try.prog 11 #[.int .i64 op] w fun e w' => e = .returned (.bool false) ∧ ∃ n, w' = w.drewN n := by
  have FC := Lib.hid (form_c op)
  have PC := Lib.hid (priv_c op)
  obtain ⟨f, hf⟩ : ∃ f, fmOf op = f := ⟨_, rfl⟩
  rw [hf] at FC
  clear hf
  rw [h] at FC
  rw [hp] at PC
  clear h hp
  have e10 : (op == 10) = false := by simpa using h10
  have e68 : (op == 68) = false := by simpa using h68
  have e78 : (op == 78) = false := by simpa using h78
  have e79 : (op == 79) = false := by simpa using h79
  have e222 : (op == 222) = false := by simpa using h222
  have e223 : (op == 223) = false := by simpa using h223
  clear h10 h68 h78 h79 h222 h223
  go_enter Try.func11, Try.ntmps11
  go_wp2_with (first
    | (go_at_call 25; refine (FC.out _).mono ?_; rintro e w1 ⟨rfl, n1, rfl⟩)
    | (go_at_call 26; refine (PC.out _).mono ?_; rintro e w2 ⟨rfl, hw2⟩; subst hw2))
  go_ret
  exact ⟨by first | rfl | (show Ending.returned (.bool (decide (op < 240))) = _; rw [decide_eq_false (by omega)]), _, rfl⟩
set_option maxRecDepth 1000000 in
set_option maxHeartbeats 4000000 in
theorem knows_at10 (op : Int) (w : World) (h : isOp op = true) (hp : privB op = false) (hk : op = 10) : Calls Try.prog 11 #[.int .i64 op] w fun e w' => e = .returned (.bool false) ∧ ∃ n, w' = w.drewN n := by
  have FC := Lib.hid (form_c op)
  have PC := Lib.hid (priv_c op)
  obtain ⟨f, hf⟩ : ∃ f, fmOf op = f := ⟨_, rfl⟩
  rw [hf] at FC
  clear hf
  rw [h] at FC
  rw [hp] at PC
  clear h hp
  have e10 : (op == 10) = true := by rw [hk]; rfl
  have e68 : (op == 68) = false := by rw [hk]; rfl
  have e78 : (op == 78) = false := by rw [hk]; rfl
  have e79 : (op == 79) = false := by rw [hk]; rfl
  have e222 : (op == 222) = false := by rw [hk]; rfl
  have e223 : (op == 223) = false := by rw [hk]; rfl
  clear hk
  go_enter Try.func11, Try.ntmps11
  go_wp2_with (first
    | (go_at_call 25; refine (FC.out _).mono ?_; rintro e w1 ⟨rfl, n1, rfl⟩)
    | (go_at_call 26; refine (PC.out _).mono ?_; rintro e w2 ⟨rfl, hw2⟩; subst hw2))
  go_ret
  exact ⟨by first | rfl | (show Ending.returned (.bool (decide (op < 240))) = _; rw [decide_eq_false (by omega)]), _, rfl⟩
set_option maxRecDepth 1000000 in
set_option maxHeartbeats 4000000 in
theorem knows_at68 (op : Int) (w : World) (h : isOp op = true) (hp : privB op = false) (hk : op = 68) : Calls Try.prog 11 #[.int .i64 op] w fun e w' => e = .returned (.bool false) ∧ ∃ n, w' = w.drewN n := by
  have FC := Lib.hid (form_c op)
  have PC := Lib.hid (priv_c op)
  obtain ⟨f, hf⟩ : ∃ f, fmOf op = f := ⟨_, rfl⟩
  rw [hf] at FC
  clear hf
  rw [h] at FC
  rw [hp] at PC
  clear h hp
  have e10 : (op == 10) = false := by rw [hk]; rfl
  have e68 : (op == 68) = true := by rw [hk]; rfl
  have e78 : (op == 78) = false := by rw [hk]; rfl
  have e79 : (op == 79) = false := by rw [hk]; rfl
  have e222 : (op == 222) = false := by rw [hk]; rfl
  have e223 : (op == 223) = false := by rw [hk]; rfl
  clear hk
  go_enter Try.func11, Try.ntmps11
  go_wp2_with (first
    | (go_at_call 25; refine (FC.out _).mono ?_; rintro e w1 ⟨rfl, n1, rfl⟩)
    | (go_at_call 26; refine (PC.out _).mono ?_; rintro e w2 ⟨rfl, hw2⟩; subst hw2))
  go_ret
  exact ⟨by first | rfl | (show Ending.returned (.bool (decide (op < 240))) = _; rw [decide_eq_false (by omega)]), _, rfl⟩
set_option maxRecDepth 1000000 in
set_option maxHeartbeats 4000000 in
theorem knows_at78 (op : Int) (w : World) (h : isOp op = true) (hp : privB op = false) (hk : op = 78) : Calls Try.prog 11 #[.int .i64 op] w fun e w' => e = .returned (.bool false) ∧ ∃ n, w' = w.drewN n := by
  have FC := Lib.hid (form_c op)
  have PC := Lib.hid (priv_c op)
  obtain ⟨f, hf⟩ : ∃ f, fmOf op = f := ⟨_, rfl⟩
  rw [hf] at FC
  clear hf
  rw [h] at FC
  rw [hp] at PC
  clear h hp
  have e10 : (op == 10) = false := by rw [hk]; rfl
  have e68 : (op == 68) = false := by rw [hk]; rfl
  have e78 : (op == 78) = true := by rw [hk]; rfl
  have e79 : (op == 79) = false := by rw [hk]; rfl
  have e222 : (op == 222) = false := by rw [hk]; rfl
  have e223 : (op == 223) = false := by rw [hk]; rfl
  clear hk
  go_enter Try.func11, Try.ntmps11
  go_wp2_with (first
    | (go_at_call 25; refine (FC.out _).mono ?_; rintro e w1 ⟨rfl, n1, rfl⟩)
    | (go_at_call 26; refine (PC.out _).mono ?_; rintro e w2 ⟨rfl, hw2⟩; subst hw2))
  go_ret
  exact ⟨by first | rfl | (show Ending.returned (.bool (decide (op < 240))) = _; rw [decide_eq_false (by omega)]), _, rfl⟩
set_option maxRecDepth 1000000 in
set_option maxHeartbeats 4000000 in
theorem knows_at79 (op : Int) (w : World) (h : isOp op = true) (hp : privB op = false) (hk : op = 79) : Calls Try.prog 11 #[.int .i64 op] w fun e w' => e = .returned (.bool false) ∧ ∃ n, w' = w.drewN n := by
  have FC := Lib.hid (form_c op)
  have PC := Lib.hid (priv_c op)
  obtain ⟨f, hf⟩ : ∃ f, fmOf op = f := ⟨_, rfl⟩
  rw [hf] at FC
  clear hf
  rw [h] at FC
  rw [hp] at PC
  clear h hp
  have e10 : (op == 10) = false := by rw [hk]; rfl
  have e68 : (op == 68) = false := by rw [hk]; rfl
  have e78 : (op == 78) = false := by rw [hk]; rfl
  have e79 : (op == 79) = true := by rw [hk]; rfl
  have e222 : (op == 222) = false := by rw [hk]; rfl
  have e223 : (op == 223) = false := by rw [hk]; rfl
  clear hk
  go_enter Try.func11, Try.ntmps11
  go_wp2_with (first
    | (go_at_call 25; refine (FC.out _).mono ?_; rintro e w1 ⟨rfl, n1, rfl⟩)
    | (go_at_call 26; refine (PC.out _).mono ?_; rintro e w2 ⟨rfl, hw2⟩; subst hw2))
  go_ret
  exact ⟨by first | rfl | (show Ending.returned (.bool (decide (op < 240))) = _; rw [decide_eq_false (by omega)]), _, rfl⟩
set_option maxRecDepth 1000000 in
set_option maxHeartbeats 4000000 in
theorem knows_at222 (op : Int) (w : World) (h : isOp op = true) (hp : privB op = false) (hk : op = 222) : Calls Try.prog 11 #[.int .i64 op] w fun e w' => e = .returned (.bool false) ∧ ∃ n, w' = w.drewN n := by
  have FC := Lib.hid (form_c op)
  have PC := Lib.hid (priv_c op)
  obtain ⟨f, hf⟩ : ∃ f, fmOf op = f := ⟨_, rfl⟩
  rw [hf] at FC
  clear hf
  rw [h] at FC
  rw [hp] at PC
  clear h hp
  have e10 : (op == 10) = false := by rw [hk]; rfl
  have e68 : (op == 68) = false := by rw [hk]; rfl
  have e78 : (op == 78) = false := by rw [hk]; rfl
  have e79 : (op == 79) = false := by rw [hk]; rfl
  have e222 : (op == 222) = true := by rw [hk]; rfl
  have e223 : (op == 223) = false := by rw [hk]; rfl
  clear hk
  go_enter Try.func11, Try.ntmps11
  go_wp2_with (first
    | (go_at_call 25; refine (FC.out _).mono ?_; rintro e w1 ⟨rfl, n1, rfl⟩)
    | (go_at_call 26; refine (PC.out _).mono ?_; rintro e w2 ⟨rfl, hw2⟩; subst hw2))
  go_ret
  exact ⟨by first | rfl | (show Ending.returned (.bool (decide (op < 240))) = _; rw [decide_eq_false (by omega)]), _, rfl⟩
set_option maxRecDepth 1000000 in
set_option maxHeartbeats 4000000 in
theorem knows_at223 (op : Int) (w : World) (h : isOp op = true) (hp : privB op = false) (hk : op = 223) : Calls Try.prog 11 #[.int .i64 op] w fun e w' => e = .returned (.bool false) ∧ ∃ n, w' = w.drewN n := by
  have FC := Lib.hid (form_c op)
  have PC := Lib.hid (priv_c op)
  obtain ⟨f, hf⟩ : ∃ f, fmOf op = f := ⟨_, rfl⟩
  rw [hf] at FC
  clear hf
  rw [h] at FC
  rw [hp] at PC
  clear h hp
  have e10 : (op == 10) = false := by rw [hk]; rfl
  have e68 : (op == 68) = false := by rw [hk]; rfl
  have e78 : (op == 78) = false := by rw [hk]; rfl
  have e79 : (op == 79) = false := by rw [hk]; rfl
  have e222 : (op == 222) = false := by rw [hk]; rfl
  have e223 : (op == 223) = true := by rw [hk]; rfl
  clear hk
  go_enter Try.func11, Try.ntmps11
  go_wp2_with (first
    | (go_at_call 25; refine (FC.out _).mono ?_; rintro e w1 ⟨rfl, n1, rfl⟩)
    | (go_at_call 26; refine (PC.out _).mono ?_; rintro e w2 ⟨rfl, hw2⟩; subst hw2))
  go_ret
  exact ⟨by first | rfl | (show Ending.returned (.bool (decide (op < 240))) = _; rw [decide_eq_false (by omega)]), _, rfl⟩
theorem knows_c (op : Int) (w : World) : Calls Try.prog 11 #[.int .i64 op] w fun e w' => e = .returned (.bool (kn op)) ∧ ∃ n, w' = w.drewN n := by
  rw [← knB_eq]
  unfold knB
  cases h : isOp op
  · exact knows_no op w h
  cases hp : privB op
  case true => exact knows_priv op w h hp
  by_cases h10 : op = 10
  · rw [show decide (op ∈ [10, 68, 78, 79, 222, 223]) = true from decide_eq_true (by rw [h10]; decide)]
    exact knows_at10 op w h hp h10
  by_cases h68 : op = 68
  · rw [show decide (op ∈ [10, 68, 78, 79, 222, 223]) = true from decide_eq_true (by rw [h68]; decide)]
    exact knows_at68 op w h hp h68
  by_cases h78 : op = 78
  · rw [show decide (op ∈ [10, 68, 78, 79, 222, 223]) = true from decide_eq_true (by rw [h78]; decide)]
    exact knows_at78 op w h hp h78
  by_cases h79 : op = 79
  · rw [show decide (op ∈ [10, 68, 78, 79, 222, 223]) = true from decide_eq_true (by rw [h79]; decide)]
    exact knows_at79 op w h hp h79
  by_cases h222 : op = 222
  · rw [show decide (op ∈ [10, 68, 78, 79, 222, 223]) = true from decide_eq_true (by rw [h222]; decide)]
    exact knows_at222 op w h hp h222
  by_cases h223 : op = 223
  · rw [show decide (op ∈ [10, 68, 78, 79, 222, 223]) = true from decide_eq_true (by rw [h223]; decide)]
    exact knows_at223 op w h hp h223
  rw [show decide (op ∈ [10, 68, 78, 79, 222, 223]) = false from decide_eq_false (by simp only [List.mem_cons, List.not_mem_nil, or_false]; omega)]
  by_cases hl : op < 240
  · rw [decide_eq_true hl]; exact knows_yes op w h hp h10 h68 h78 h79 h222 h223 hl
  · rw [decide_eq_false hl]; exact knows_ge op w h hp h10 h68 h78 h79 h222 h223 hl
set_option maxRecDepth 1000000 in
set_option maxHeartbeats 4000000 in
theorem rops_c (w : World) : Calls Try.prog 27 #[] w fun e w' => e = .returned (.slice (some ⟨w.heap.size, 0, none⟩) 73 73) ∧ w' = w.alloc (.cells #[.int .i64 4, .int .i64 5, .int .i64 6, .int .i64 7, .int .i64 16, .int .i64 17, .int .i64 18, .int .i64 19, .int .i64 20, .int .i64 21, .int .i64 22, .int .i64 23, .int .i64 24, .int .i64 25, .int .i64 26, .int .i64 27, .int .i64 28, .int .i64 29, .int .i64 30, .int .i64 31, .int .i64 64, .int .i64 65, .int .i64 66, .int .i64 67, .int .i64 69, .int .i64 70, .int .i64 71, .int .i64 72, .int .i64 73, .int .i64 74, .int .i64 75, .int .i64 76, .int .i64 80, .int .i64 84, .int .i64 85, .int .i64 86, .int .i64 87, .int .i64 88, .int .i64 89, .int .i64 90, .int .i64 91, .int .i64 92, .int .i64 93, .int .i64 94, .int .i64 95, .int .i64 134, .int .i64 135, .int .i64 136, .int .i64 137, .int .i64 138, .int .i64 139, .int .i64 140, .int .i64 141, .int .i64 142, .int .i64 143, .int .i64 144, .int .i64 145, .int .i64 146, .int .i64 147, .int .i64 148, .int .i64 149, .int .i64 150, .int .i64 151, .int .i64 152, .int .i64 209, .int .i64 210, .int .i64 211, .int .i64 212, .int .i64 213, .int .i64 214, .int .i64 215, .int .i64 220, .int .i64 221] 3) := by
  go_enter Try.func27, Try.ntmps27
  go_wp2
  go_ret
  exact ⟨by rfl, rfl⟩
def knA : Array Value := #[.int .i64 4, .int .i64 5, .int .i64 6, .int .i64 7, .int .i64 16, .int .i64 17, .int .i64 18, .int .i64 19, .int .i64 20, .int .i64 21, .int .i64 22, .int .i64 23, .int .i64 24, .int .i64 25, .int .i64 26, .int .i64 27, .int .i64 28, .int .i64 29, .int .i64 30, .int .i64 31, .int .i64 64, .int .i64 65, .int .i64 66, .int .i64 67, .int .i64 69, .int .i64 70, .int .i64 71, .int .i64 72, .int .i64 73, .int .i64 74, .int .i64 75, .int .i64 76, .int .i64 80, .int .i64 84, .int .i64 85, .int .i64 86, .int .i64 87, .int .i64 88, .int .i64 89, .int .i64 90, .int .i64 91, .int .i64 92, .int .i64 93, .int .i64 94, .int .i64 95, .int .i64 134, .int .i64 135, .int .i64 136, .int .i64 137, .int .i64 138, .int .i64 139, .int .i64 140, .int .i64 141, .int .i64 142, .int .i64 143, .int .i64 144, .int .i64 145, .int .i64 146, .int .i64 147, .int .i64 148, .int .i64 149, .int .i64 150, .int .i64 151, .int .i64 152, .int .i64 209, .int .i64 210, .int .i64 211, .int .i64 212, .int .i64 213, .int .i64 214, .int .i64 215, .int .i64 220, .int .i64 221]
theorem knA_get {k : Nat} (h : k < 73) : knA[k]? = some (.int .i64 (knL.getD k 0)) := by
  have e : knA = (knL.map (Value.int .i64)).toArray := rfl
  have hl : knL.length = 73 := rfl
  rw [e]
  simp only [List.getElem?_toArray, List.getElem?_map]
  rw [List.getD_eq_getElem?_getD, List.getElem?_eq_getElem (by omega)]; rfl
theorem kn_at {op : Int} {k : Nat} (h : k < 73) (he : knL.getD k 0 = op) : kn op = true := by
  have hl : knL.length = 73 := rfl
  rw [List.getD_eq_getElem?_getD, List.getElem?_eq_getElem (by omega)] at he
  exact decide_eq_true (by rw [← he]; exact List.getElem_mem _)
theorem kn_none {op : Int} (h : ∀ j, j < 73 → knL.getD j 0 ≠ op) : kn op = false := by
  refine decide_eq_false (fun hm => ?_)
  obtain ⟨j, hj, e⟩ := List.getElem_of_mem hm
  have hl : knL.length = 73 := rfl
  refine h j (by omega) ?_
  rw [List.getD_eq_getElem?_getD, List.getElem?_eq_getElem hj]; exact e
set_option maxRecDepth 1000000 in
set_option maxHeartbeats 4000000 in
theorem rknows_c (op : Int) (w : World) : Calls Try.prog 12 #[.int .i64 op] w fun e w' => e = .returned (.bool (kn op)) ∧ Below w.heap.size w w' := by
  go_enter Try.func12, Try.ntmps12
  go_wp2_with fail
  refine (rops_c _).mono ?_
  rintro e w1 ⟨rfl, rfl⟩
  have HB := Lib.hid (show Below w.heap.size w (w.alloc (.cells knA 3)) from (Below.refl _ _).alloc (Nat.le_refl _) _)
  have HR := Lib.hid (fun j => cell_of_row (w.alloc (.cells knA 3)) w.heap.size j knA 3 (0, 0) (heap_alloc_new w _))
  unfold knA at HB HR
  obtain ⟨g, hg⟩ : ∃ g, w.heap.size = g := ⟨_, rfl⟩
  rw [hg] at HR
  obtain ⟨W0, hW0⟩ : ∃ W0, w.alloc (.cells #[.int .i64 4, .int .i64 5, .int .i64 6, .int .i64 7, .int .i64 16, .int .i64 17, .int .i64 18, .int .i64 19, .int .i64 20, .int .i64 21, .int .i64 22, .int .i64 23, .int .i64 24, .int .i64 25, .int .i64 26, .int .i64 27, .int .i64 28, .int .i64 29, .int .i64 30, .int .i64 31, .int .i64 64, .int .i64 65, .int .i64 66, .int .i64 67, .int .i64 69, .int .i64 70, .int .i64 71, .int .i64 72, .int .i64 73, .int .i64 74, .int .i64 75, .int .i64 76, .int .i64 80, .int .i64 84, .int .i64 85, .int .i64 86, .int .i64 87, .int .i64 88, .int .i64 89, .int .i64 90, .int .i64 91, .int .i64 92, .int .i64 93, .int .i64 94, .int .i64 95, .int .i64 134, .int .i64 135, .int .i64 136, .int .i64 137, .int .i64 138, .int .i64 139, .int .i64 140, .int .i64 141, .int .i64 142, .int .i64 143, .int .i64 144, .int .i64 145, .int .i64 146, .int .i64 147, .int .i64 148, .int .i64 149, .int .i64 150, .int .i64 151, .int .i64 152, .int .i64 209, .int .i64 210, .int .i64 211, .int .i64 212, .int .i64 213, .int .i64 214, .int .i64 215, .int .i64 220, .int .i64 221] 3) = W0 := ⟨_, rfl⟩
  rw [hW0] at HB HR ⊢
  simp only [hg]
  clear hW0
  have HA := Lib.hid (fun j (hj : j < 73) => (HR.out j).trans (knA_get hj))
  clear HR
  go_wp2
  go_loopw [4] (fun x wr => ∃ k : Nat, k ≤ 73 ∧ x = .int .i64 (k : Int) ∧ (∀ j, j < k → knL.getD j 0 ≠ op) ∧ wr = W0) (fun x _ => 73 - (intOf x).toNat)
  case atStart => exact ⟨0, by omega, rfl, by intro j hj; omega, rfl⟩
  case round =>
    obtain ⟨k, hk, rfl, hlo, hw⟩ := hrel
    subst hw
    have LO := Lib.hid hlo
    clear hlo
    by_cases hlt : k < 73
    · have hI : (k : Int) < 73 := by omega
      have c0 := HA.out k hlt
      obtain ⟨o, ho⟩ : ∃ o, knL.getD k 0 = o := ⟨_, rfl⟩
      rw [ho] at c0
      have HO := Lib.hid ho
      clear ho
      by_cases h : o = op
      · have hx := Lib.hid (kn_at hlt (HO.out.trans h))
        have e0 : (o == op) = true := by simpa using h
        clear h
        go_wp2
        go_ret
        rw [hx.out]
        exact ⟨by rfl, HB.out⟩
      · have e0 : (o == op) = false := by simpa using h
        have HN := Lib.hid h
        clear h
        go_wp2
        refine ⟨⟨k + 1, by omega, rfl, ?_, trivial⟩, by simp [intOf]; omega⟩
        intro j hj
        rcases Nat.lt_or_ge j k with h2 | h2
        · exact LO.out j h2
        · rw [show j = k by omega, HO.out]; exact HN.out
    · obtain rfl : k = 73 := by omega
      have hx := Lib.hid (kn_none LO.out)
      go_wp2
      go_ret
      rw [hx.out]
      exact ⟨by rfl, HB.out⟩
end Go.Proofs.Ythjdjbipfdigeaa
