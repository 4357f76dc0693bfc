/- Contracts and laws on the way to the statement, text 17 of 25. Conditions: as each states them. -/
import Derived.Test.YthjdjbipfdigeaaKn2
import Derived.Test.YthjdjbipfdigeaaKn3
import Derived.Test.YthjdjbipfdigeaaKn13
import Derived.Test.YthjdjbipfdigeaaKn15
import Derived.Test.YthjdjbipfdigeaaKn16
import Derived.Recover
import Derived.Defers
namespace Go.Proofs.Ythjdjbipfdigeaa
open Go.RowKit
set_option linter.unusedVariables false
set_option linter.unusedSimpArgs false
def knL : List Int := [4, 5, 6, 7, 16, 17, 18, 19, 20, 21, 22, 23, 24, 25, 26, 27, 28, 29, 30, 31, 64, 65, 66, 67, 69, 70, 71, 72, 73, 74, 75, 76, 80, 84, 85, 86, 87, 88, 89, 90, 91, 92, 93, 94, 95, 134, 135, 136, 137, 138, 139, 140, 141, 142, 143, 144, 145, 146, 147, 148, 149, 150, 151, 152, 209, 210, 211, 212, 213, 214, 215, 220, 221]
def kn (op : Int) : Bool := decide (op ∈ knL)
def knB (op : Int) : Bool := isOp op && (!privB op && (!decide (op ∈ [10, 68, 78, 79, 222, 223]) && decide (op < 240)))
theorem isOp_in {op : Int} (h : isOp op = true) : 4 ≤ op ∧ op ≤ 253 := by
  unfold isOp at h; rw [decide_eq_true_iff] at h
  have := op_range _ h; rwa [ix_op h] at this
theorem knB_lt : ∀ n : Nat, n < 256 → knB (n : Int) = kn (n : Int) := by decide +kernel
theorem knL_in : ∀ op ∈ knL, 0 ≤ op ∧ op ≤ 255 := by decide
theorem knB_eq (op : Int) : knB op = kn op := by
  by_cases h : 0 ≤ op ∧ op ≤ 255
  · have e : ((op.toNat : Nat) : Int) = op := Int.toNat_of_nonneg h.1
    rw [← e]; exact knB_lt _ (by omega)
  · have h1 : isOp op = false := by
      cases hi : isOp op
      · rfl
      · have := isOp_in hi; omega
    have h2 : kn op = false := decide_eq_false (fun hm => h (knL_in op hm))
    rw [h2]; unfold knB; rw [h1]; rfl
set_option maxRecDepth 1000000 in
set_option maxHeartbeats 4000000 in
theorem knows_no (op : Int) (w : World) (h : isOp op = false) : Calls Try.prog 11 #[.int .i64 op] w fun e w' => e = .returned (.bool false) ∧ ∃ n, w' = w.drewN n := by
  have FC := Lib.hid (form_c op)
  have PC := Lib.hid (priv_c op)
  obtain ⟨f, hf⟩ : ∃ f, fmOf op = f := ⟨_, rfl⟩
  rw [hf] at FC
  clear hf
  rw [h] at FC
  clear h
  go_enter Try.func11, Try.ntmps11
  go_wp2_with (first
    | (go_at_call 25; refine (FC.out _).mono ?_; rintro e w1 ⟨rfl, n1, rfl⟩)
    | (go_at_call 26; refine (PC.out _).mono ?_; rintro e w2 ⟨rfl, hw2⟩; subst hw2))
  go_ret
  exact ⟨by first | rfl | (show Ending.returned (.bool (decide (op < 240))) = _; rw [decide_eq_false (by omega)]), _, rfl⟩
set_option maxRecDepth 1000000 in
set_option maxHeartbeats 4000000 in
theorem knows_priv (op : Int) (w : World) (h : isOp op = true) (hp : privB op = true) : Calls Try.prog 11 #[.int .i64 op] w fun e w' => e = .returned (.bool false) ∧ ∃ n, w' = w.drewN n := by
  have FC := Lib.hid (form_c op)
  have PC := Lib.hid (priv_c op)
  obtain ⟨f, hf⟩ : ∃ f, fmOf op = f := ⟨_, rfl⟩
  rw [hf] at FC
  clear hf
  rw [h] at FC
  rw [hp] at PC
  clear h hp
  go_enter Try.func11, Try.ntmps11
  go_wp2_with (first
    | (go_at_call 25; refine (FC.out _).mono ?_; rintro e w1 ⟨rfl, n1, rfl⟩)
    | (go_at_call 26; refine (PC.out _).mono ?_; rintro e w2 ⟨rfl, hw2⟩; subst hw2))
  go_ret
  exact ⟨by first | rfl | (show Ending.returned (.bool (decide (op < 240))) = _; rw [decide_eq_false (by omega)]), _, rfl⟩
set_option maxRecDepth 1000000 in
set_option maxHeartbeats 4000000 in
theorem knows_yes (op : Int) (w : World) (h : isOp op = true) (hp : privB op = false) (h10 : op ≠ 10) (h68 : op ≠ 68) (h78 : op ≠ 78) (h79 : op ≠ 79) (h222 : op ≠ 222) (h223 : op ≠ 223) (hl : op < 240) : Calls Try.prog 11 #[.int .i64 op] w fun e w' => e = .returned (.bool true) ∧ ∃ n, w' = w.drewN n := by
  have FC := Lib.hid (form_c op)
  have PC := Lib.hid (priv_c op)
  obtain ⟨f, hf⟩ : ∃ f, fmOf op = f := ⟨_, rfl⟩
  rw [hf] at FC
  clear hf
  rw [h] at FC
  rw [hp] at PC
  clear h hp
  have e10 : (op == 10) = false := by simpa using h10
  have e68 : (op == 68) = false := by simpa using h68
  have e78 : (op == 78) = false := by simpa using h78
  have e79 : (op == 79) = false := by simpa using h79
  have e222 : (op == 222) = false := by simpa using h222
  have e223 : (op == 223) = false := by simpa using h223
  clear h10 h68 h78 h79 h222 h223
  go_enter Try.func11, Try.ntmps11
  go_wp2_with (first
    | (go_at_call 25; refine (FC.out _).mono ?_; rintro e w1 ⟨rfl, n1, rfl⟩)
    | (go_at_call 26; refine (PC.out _).mono ?_; rintro e w2 ⟨rfl, hw2⟩; subst hw2))
  go_ret
  exact ⟨by first | rfl | (show Ending.returned (.bool (decide (op < 240))) = _; rw [decide_eq_false (by omega)]), _, rfl⟩
set_option maxRecDepth 1000000 in
set_option maxHeartbeats 4000000 in
theorem knows_ge (op : Int) (w : World) (h : isOp op = true) (hp : privB op = false) (h10 : op ≠ 10) (h68 : op ≠ 68) (h78 : op ≠ 78) (h79 : op ≠ 79) (h222 : op ≠ 222) (h223 : op ≠ 223) (hl : ¬ op < 240) : Calls Try.prog 11 #[.int .i64 op] w fun e w' => e = .returned (.bool false) ∧ ∃ n, w' = w.drewN n := by
  have FC := Lib.hid (form_c op)
  have PC := Lib.hid (priv_c op)
  obtain ⟨f, hf⟩ : ∃ f, fmOf op = f := ⟨_, rfl⟩
  rw [hf] at FC
  clear hf
  rw [h] at FC
  rw [hp] at PC
  clear h hp
  have e10 : (op == 10) = false := by simpa using h10
  have e68 : (op == 68) = false := by simpa using h68
  have e78 : (op == 78) = false := by simpa using h78
  have e79 : (op == 79) = false := by simpa using h79
  have e222 : (op == 222) = false := by simpa using h222
  have e223 : (op == 223) = false := by simpa using h223
  clear h10 h68 h78 h79 h222 h223
  go_enter Try.func11, Try.ntmps11
  go_wp2_with (first
    | (go_at_call 25; refine (FC.out _).mono ?_; rintro e w1 ⟨rfl, n1, rfl⟩)
    | (go_at_call 26; refine (PC.out _).mono ?_; rintro e w2 ⟨rfl, hw2⟩; subst hw2))
  go_ret
  exact ⟨by first | rfl | (show Ending.returned (.bool (decide (op < 240))) = _; rw [decide_eq_false (by omega)]), _, rfl⟩
set_option maxRecDepth 1000000 in
set_option maxHeartbeats 4000000 in
theorem knows_at10 (op : Int) (w : World) (h : isOp op = true) (hp : privB op = false) (hk : op = 10) : Calls Try.prog 11 #[.int .i64 op] w fun e w' => e = .returned (.bool false) ∧ ∃ n, w' = w.drewN n := by
  have FC := Lib.hid (form_c op)
  have PC := Lib.hid (priv_c op)
  obtain ⟨f, hf⟩ : ∃ f, fmOf op = f := ⟨_, rfl⟩
  rw [hf] at FC
  clear hf
  rw [h] at FC
  rw [hp] at PC
  clear h hp
  have e10 : (op == 10) = true := by rw [hk]; rfl
  have e68 : (op == 68) = false := by rw [hk]; rfl
  have e78 : (op == 78) = false := by rw [hk]; rfl
  have e79 : (op == 79) = false := by rw [hk]; rfl
  have e222 : (op == 222) = false := by rw [hk]; rfl
  have e223 : (op == 223) = false := by rw [hk]; rfl
  clear hk
  go_enter Try.func11, Try.ntmps11
  go_wp2_with (first
    | (go_at_call 25; refine (FC.out _).mono ?_; rintro e w1 ⟨rfl, n1, rfl⟩)
    | (go_at_call 26; refine (PC.out _).mono ?_; rintro e w2 ⟨rfl, hw2⟩; subst hw2))
  go_ret
  exact ⟨by first | rfl | (show Ending.returned (.bool (decide (op < 240))) = _; rw [decide_eq_false (by omega)]), _, rfl⟩
set_option maxRecDepth 1000000 in
set_option maxHeartbeats 4000000 in
theorem knows_at68 (op : Int) (w : World) (h : isOp op = true) (hp : privB op = false) (hk : op = 68) : Calls Try.prog 11 #[.int .i64 op] w fun e w' => e = .returned (.bool false) ∧ ∃ n, w' = w.drewN n := by
  have FC := Lib.hid (form_c op)
  have PC := Lib.hid (priv_c op)
  obtain ⟨f, hf⟩ : ∃ f, fmOf op = f := ⟨_, rfl⟩
  rw [hf] at FC
  clear hf
  rw [h] at FC
  rw [hp] at PC
  clear h hp
  have e10 : (op == 10) = false := by rw [hk]; rfl
  have e68 : (op == 68) = true := by rw [hk]; rfl
  have e78 : (op == 78) = false := by rw [hk]; rfl
  have e79 : (op == 79) = false := by rw [hk]; rfl
  have e222 : (op == 222) = false := by rw [hk]; rfl
  have e223 : (op == 223) = false := by rw [hk]; rfl
  clear hk
  go_enter Try.func11, Try.ntmps11
  go_wp2_with (first
    | (go_at_call 25; refine (FC.out _).mono ?_; rintro e w1 ⟨rfl, n1, rfl⟩)
    | (go_at_call 26; refine (PC.out _).mono ?_; rintro e w2 ⟨rfl, hw2⟩; subst hw2))
  go_ret
  exact ⟨by first | rfl | (show Ending.returned (.bool (decide (op < 240))) = _; rw [decide_eq_false (by omega)]), _, rfl⟩
set_option maxRecDepth 1000000 in
set_option maxHeartbeats 4000000 in
theorem knows_at78 (op : Int) (w : World) (h : isOp op = true) (hp : privB op = false) (hk : op = 78) : Calls Try.prog 11 #[.int .i64 op] w fun e w' => e = .returned (.bool false) ∧ ∃ n, w' = w.drewN n := by
  have FC := Lib.hid (form_c op)
  have PC := Lib.hid (priv_c op)
  obtain ⟨f, hf⟩ : ∃ f, fmOf op = f := ⟨_, rfl⟩
  rw [hf] at FC
  clear hf
  rw [h] at FC
  rw [hp] at PC
  clear h hp
  have e10 : (op == 10) = false := by rw [hk]; rfl
  have e68 : (op == 68) = false := by rw [hk]; rfl
  have e78 : (op == 78) = true := by rw [hk]; rfl
  have e79 : (op == 79) = false := by rw [hk]; rfl
  have e222 : (op == 222) = false := by rw [hk]; rfl
  have e223 : (op == 223) = false := by rw [hk]; rfl
  clear hk
  go_enter Try.func11, Try.ntmps11
  go_wp2_with (first
    | (go_at_call 25; refine (FC.out _).mono ?_; rintro e w1 ⟨rfl, n1, rfl⟩)
    | (go_at_call 26; refine (PC.out _).mono ?_; rintro e w2 ⟨rfl, hw2⟩; subst hw2))
  go_ret
  exact ⟨by first | rfl | (show Ending.returned (.bool (decide (op < 240))) = _; rw [decide_eq_false (by omega)]), _, rfl⟩
set_option maxRecDepth 1000000 in
set_option maxHeartbeats 4000000 in
theorem knows_at79 (op : Int) (w : World) (h : isOp op = true) (hp : privB op = false) (hk : op = 79) : Calls Try.prog 11 #[.int .i64 op] w fun e w' => e = .returned (.bool false) ∧ ∃ n, w' = w.drewN n := by
  have FC := Lib.hid (form_c op)
  have PC := Lib.hid (priv_c op)
  obtain ⟨f, hf⟩ : ∃ f, fmOf op = f := ⟨_, rfl⟩
  rw [hf] at FC
  clear hf
  rw [h] at FC
  rw [hp] at PC
  clear h hp
  have e10 : (op == 10) = false := by rw [hk]; rfl
  have e68 : (op == 68) = false := by rw [hk]; rfl
  have e78 : (op == 78) = false := by rw [hk]; rfl
  have e79 : (op == 79) = true := by rw [hk]; rfl
  have e222 : (op == 222) = false := by rw [hk]; rfl
  have e223 : (op == 223) = false := by rw [hk]; rfl
  clear hk
  go_enter Try.func11, Try.ntmps11
  go_wp2_with (first
    | (go_at_call 25; refine (FC.out _).mono ?_; rintro e w1 ⟨rfl, n1, rfl⟩)
    | (go_at_call 26; refine (PC.out _).mono ?_; rintro e w2 ⟨rfl, hw2⟩; subst hw2))
  go_ret
  exact ⟨by first | rfl | (show Ending.returned (.bool (decide (op < 240))) = _; rw [decide_eq_false (by omega)]), _, rfl⟩
set_option maxRecDepth 1000000 in
set_option maxHeartbeats 4000000 in
theorem knows_at222 (op : Int) (w : World) (h : isOp op = true) (hp : privB op = false) (hk : op = 222) : Calls Try.prog 11 #[.int .i64 op] w fun e w' => e = .returned (.bool false) ∧ ∃ n, w' = w.drewN n := by
  have FC := Lib.hid (form_c op)
  have PC := Lib.hid (priv_c op)
  obtain ⟨f, hf⟩ : ∃ f, fmOf op = f := ⟨_, rfl⟩
  rw [hf] at FC
  clear hf
  rw [h] at FC
  rw [hp] at PC
  clear h hp
  have e10 : (op == 10) = false := by rw [hk]; rfl
  have e68 : (op == 68) = false := by rw [hk]; rfl
  have e78 : (op == 78) = false := by rw [hk]; rfl
  have e79 : (op == 79) = false := by rw [hk]; rfl
  have e222 : (op == 222) = true := by rw [hk]; rfl
  have e223 : (op == 223) = false := by rw [hk]; rfl
  clear hk
  go_enter Try.func11, Try.ntmps11
  go_wp2_with (first
    | (go_at_call 25; refine (FC.out _).mono ?_; rintro e w1 ⟨rfl, n1, rfl⟩)
    | (go_at_call 26; refine (PC.out _).mono ?_; rintro e w2 ⟨rfl, hw2⟩; subst hw2))
  go_ret
  exact ⟨by first | rfl | (show Ending.returned (.bool (decide (op < 240))) = _; rw [decide_eq_false (by omega)]), _, rfl⟩
set_option maxRecDepth 1000000 in
set_option maxHeartbeats 4000000 in
theorem knows_at223 (op : Int) (w : World) (h : isOp op = true) (hp : privB op = false) (hk : op = 223) : Calls Try.prog 11 #[.int .i64 op] w fun e w' => e = .returned (.bool false) ∧ ∃ n, w' = w.drewN n := by
  have FC := Lib.hid (form_c op)
  have PC := Lib.hid (priv_c op)
  obtain ⟨f, hf⟩ : ∃ f, fmOf op = f := ⟨_, rfl⟩
  rw [hf] at FC
  clear hf
  rw [h] at FC
  rw [hp] at PC
  clear h hp
  have e10 : (op == 10) = false := by rw [hk]; rfl
  have e68 : (op == 68) = false := by rw [hk]; rfl
  have e78 : (op == 78) = false := by rw [hk]; rfl
  have e79 : (op == 79) = false := by rw [hk]; rfl
  have e222 : (op == 222) = false := by rw [hk]; rfl
  have e223 : (op == 223) = true := by rw [hk]; rfl
  clear hk
  go_enter Try.func11, Try.ntmps11
  go_wp2_with (first
    | (go_at_call 25; refine (FC.out _).mono ?_; rintro e w1 ⟨rfl, n1, rfl⟩)
    | (go_at_call 26; refine (PC.out _).mono ?_; rintro e w2 ⟨rfl, hw2⟩; subst hw2))
  go_ret
  exact ⟨by first | rfl | (show Ending.returned (.bool (decide (op < 240))) = _; rw [decide_eq_false (by omega)]), _, rfl⟩
theorem knows_c (op : Int) (w : World) : Calls Try.prog 11 #[.int .i64 op] w fun e w' => e = .returned (.bool (kn op)) ∧ ∃ n, w' = w.drewN n := by
  rw [← knB_eq]
  unfold knB
  cases h : isOp op
  · exact knows_no op w h
  cases hp : privB op
  case true => exact knows_priv op w h hp
  by_cases h10 : op = 10
  · rw [show decide (op ∈ [10, 68, 78, 79, 222, 223]) = true from decide_eq_true (by rw [h10]; decide)]
    exact knows_at10 op w h hp h10
  by_cases h68 : op = 68
  · rw [show decide (op ∈ [10, 68, 78, 79, 222, 223]) = true from decide_eq_true (by rw [h68]; decide)]
    exact knows_at68 op w h hp h68
  by_cases h78 : op = 78
  · rw [show decide (op ∈ [10, 68, 78, 79, 222, 223]) = true from decide_eq_true (by rw [h78]; decide)]
    exact knows_at78 op w h hp h78
  by_cases h79 : op = 79
  · rw [show decide (op ∈ [10, 68, 78, 79, 222, 223]) = true from decide_eq_true (by rw [h79]; decide)]
    exact knows_at79 op w h hp h79
  by_cases h222 : op = 222
  · rw [show decide (op ∈ [10, 68, 78, 79, 222, 223]) = true from decide_eq_true (by rw [h222]; decide)]
    exact knows_at222 op w h hp h222
  by_cases h223 : op = 223
  · rw [show decide (op ∈ [10, 68, 78, 79, 222, 223]) = true from decide_eq_true (by rw [h223]; decide)]
    exact knows_at223 op w h hp h223
  rw [show decide (op ∈ [10, 68, 78, 79, 222, 223]) = false from decide_eq_false (by simp only [List.mem_cons, List.not_mem_nil, or_false]; omega)]
  by_cases hl : op < 240
  · rw [decide_eq_true hl]; exact knows_yes op w h hp h10 h68 h78 h79 h222 h223 hl
  · rw [decide_eq_false hl]; exact knows_ge op w h hp h10 h68 h78 h79 h222 h223 hl
end Go.Proofs.Ythjdjbipfdigeaa

namespace Go.Proofs.Ythjdjbipfdigeaa
open Go.RowKit
set_option maxRecDepth 100000
set_option linter.unusedVariables false
set_option linter.unusedSimpArgs false
theorem opV_in (op fm : Int) (os : List Int) (k : Nat) (bs : List Int) (a : Int) (ro : ∀ z ∈ os, 0 ≤ z ∧ z ≤ 4294967295) (hr : ∀ z ∈ bs, 0 ≤ z ∧ z ≤ 255) : 0 ≤ opV op fm os k bs a ∧ opV op fm os k bs a ≤ 4294967295 := by
  unfold opV
  split
  · exact getD_in ro k
  · split
    · unfold g2V hfv lo32; omega
    · unfold g4V flv
      have h0 := sGet_in a 4 hr 0
      have h1 := sGet_in a 4 hr 1
      have h2 := sGet_in a 4 hr 2
      have h3 := sGet_in a 4 hr 3
      omega
set_option maxRecDepth 1000000 in
set_option maxHeartbeats 8000000 in
theorem exec_gp28 (g n k x2 b1 b2 l1 : Nat) (F : Foot) (op fm d1 d2 l2 i2 : Int) (m key : Int) (M W P : Bool) (cd il cc pg ad : Int) (os bs ks : List Int) (w : World) (h : MS w g F (isL op fm n k x2 b1 d1 b2 d2 l1 l2 i2) os os (psL m key M W P cd il cc pg ad) false bs ks) (ro : ∀ z ∈ os, 0 ≤ z ∧ z ≤ 4294967295) (hn16 : n < 16) (hk16 : k < 16) (hx16 : x2 < 16) (hb116 : b1 < 16) (hb216 : b2 < 16) (hl1 : l1 < 256) (hd1 : 0 ≤ d1 ∧ d1 < 4096) (hd2 : 0 ≤ d2 ∧ d2 < 4096) (hi2 : 0 ≤ i2 ∧ i2 < 256) (a1 a : Int) (ha1 : (d1 + sumB os [b1]) % 16777216 = a1) (ha : (d2 + sumB os [b2, x2]) % 16777216 = a)  (hop : op = 28) : Calls Try.prog 31 #[.pointer (some ⟨g, 0, none⟩)] w (Ends g F (isL op fm n k x2 b1 d1 b2 d2 l1 l2 i2) os m key M W P cd il bs ks (exO (⟨os, key, il, cc, pg, ad, bs, ks⟩ : Pre) op fm n k a1 a l1 i2) w) := by
  have c0 : w.cell? ⟨g, 0, none⟩ = some (.int .i64 op) := h.m.ci (c := 0) (by omega)
  have hb0 : 0 ≤ a ∧ a ≤ 16777215 := by omega
  have hb1 : 0 ≤ a1 ∧ a1 ≤ 16777215 := by omega
  have hsec : ∀ (W' : World) (rs' : List Int) (ps' : List Value) (ov' : Bool) (bs' : List Int), MS W' g F (isL op fm n k x2 b1 d1 b2 d2 l1 l2 i2) os rs' ps' ov' bs' ks → Calls Try.prog 44 #[.pointer (some ⟨g, 0, none⟩)] W' fun e w' => e = .returned (.int .i64 a) ∧ Ch W' w' [] := fun W' rs' ps' ov' bs' hm => by rw [← ha]; exact second_c g b2 x2 d2 _ _ _ _ _ _ _ hm.m ro rfl hd2.1 (by omega) rfl hb216 rfl hx16
  have hfir : ∀ (W' : World) (rs' : List Int) (ps' : List Value) (ov' : Bool) (bs' : List Int), MS W' g F (isL op fm n k x2 b1 d1 b2 d2 l1 l2 i2) os rs' ps' ov' bs' ks → Calls Try.prog 71 #[.pointer (some ⟨g, 0, none⟩)] W' fun e w' => e = .returned (.int .i64 a1) ∧ Ch W' w' [] := fun W' rs' ps' ov' bs' hm => by rw [← ha1]; exact first_c g b1 d1 _ _ _ _ _ _ _ hm.m ro rfl hd1.1 (by omega) rfl hb116
  have hs := fun W' => hsec W' os (psL m key M W P cd il cc pg ad) false bs
  have vr := opV_in op fm os k bs a ro h.st.rb
  obtain ⟨c, hc⟩ : ∃ c, opC op fm bs ks key a = c := ⟨_, rfl⟩
  obtain ⟨v, hv⟩ : ∃ v, opV op fm os k bs a = v := ⟨_, rfl⟩
  have e1 : exO (⟨os, key, il, cc, pg, ad, bs, ks⟩ : Pre) op fm n k a1 a l1 i2 = arO (⟨os, key, il, cc, pg, ad, bs, ks⟩ : Pre) op n c v := by unfold exO; rw [if_neg (by omega), if_neg (by omega), if_neg (by omega), if_neg (by omega), if_neg (by omega), if_neg (by omega)]; dsimp only; rw [hc, hv]
  rw [e1]
  have hno := fun W hm hc0 => operand_no g k F (isL op fm n k x2 b1 d1 b2 d2 l1 l2 i2) _ _ _ _ _ _ op fm key a W hm rfl rfl rfl hs hb0.1 hb0.2 c hc hc0
  have hyes := fun W hm hc0 => operand_ok g k F (isL op fm n k x2 b1 d1 b2 d2 l1 l2 i2) _ _ _ _ _ _ op fm key a W hm rfl rfl rfl hk16 rfl hs hb0.1 hb0.2 (hc.trans hc0)
  rw [hv] at vr
  simp only [hv] at hyes
  subst hop
  by_cases hev : n % 2 = 1
  · refine (exec_art_no (by omega) _ 6 w c0 (arith_p28_no g _ 6 w c0 (product_odd g n F _ _ _ _ _ _ _ w h  rfl hn16 hev))).mono ?_
    rintro e w' ⟨rfl, hM, hC⟩
    exact ends_no (c := 6) (by unfold arO; rw [if_pos (by decide), if_pos hev]; rfl) (by decide) rfl hM hC (by simp)
  by_cases hc0 : c = 0
  rotate_left
  · refine (exec_art_no (by omega) _ c w c0 (arith_p28_no g _ c w c0 (product_no g n F _ _ _ _ _ _ _ w h  rfl hn16 c (fun W hm => hno W hm hc0) (by omega)))).mono ?_
    rintro e w' ⟨rfl, hM, hC⟩
    exact ends_no (c := c) (by unfold arO; rw [if_pos (by decide), if_neg hev, if_pos hc0]; rfl) hc0 rfl hM hC (by simp)
  refine (exec_art (by omega) _ w c0 (arith_p28 g _ w c0 (product_28 g n (n + 1) F _ _ _ _ _ _ _ w h  rfl hn16 v (fun W hm => hyes W hm hc0) vr.1 vr.2 ro (by omega) rfl rfl))).mono ?_
  rintro e w' ⟨rfl, hM, hC⟩
  unfold arO
  rw [if_pos (by decide), if_neg hev, if_neg (by simp [hc0]), if_pos (by decide)]
  exact ends_ok rfl rfl hM hC (by simp)
set_option maxRecDepth 1000000 in
set_option maxHeartbeats 8000000 in
theorem exec_gp29 (g n k x2 b1 b2 l1 : Nat) (F : Foot) (op fm d1 d2 l2 i2 : Int) (m key : Int) (M W P : Bool) (cd il cc pg ad : Int) (os bs ks : List Int) (w : World) (h : MS w g F (isL op fm n k x2 b1 d1 b2 d2 l1 l2 i2) os os (psL m key M W P cd il cc pg ad) false bs ks) (ro : ∀ z ∈ os, 0 ≤ z ∧ z ≤ 4294967295) (hn16 : n < 16) (hk16 : k < 16) (hx16 : x2 < 16) (hb116 : b1 < 16) (hb216 : b2 < 16) (hl1 : l1 < 256) (hd1 : 0 ≤ d1 ∧ d1 < 4096) (hd2 : 0 ≤ d2 ∧ d2 < 4096) (hi2 : 0 ≤ i2 ∧ i2 < 256) (a1 a : Int) (ha1 : (d1 + sumB os [b1]) % 16777216 = a1) (ha : (d2 + sumB os [b2, x2]) % 16777216 = a)  (hop : op = 29) : Calls Try.prog 31 #[.pointer (some ⟨g, 0, none⟩)] w (Ends g F (isL op fm n k x2 b1 d1 b2 d2 l1 l2 i2) os m key M W P cd il bs ks (exO (⟨os, key, il, cc, pg, ad, bs, ks⟩ : Pre) op fm n k a1 a l1 i2) w) := by
  have c0 : w.cell? ⟨g, 0, none⟩ = some (.int .i64 op) := h.m.ci (c := 0) (by omega)
  have hb0 : 0 ≤ a ∧ a ≤ 16777215 := by omega
  have hb1 : 0 ≤ a1 ∧ a1 ≤ 16777215 := by omega
  have hsec : ∀ (W' : World) (rs' : List Int) (ps' : List Value) (ov' : Bool) (bs' : List Int), MS W' g F (isL op fm n k x2 b1 d1 b2 d2 l1 l2 i2) os rs' ps' ov' bs' ks → Calls Try.prog 44 #[.pointer (some ⟨g, 0, none⟩)] W' fun e w' => e = .returned (.int .i64 a) ∧ Ch W' w' [] := fun W' rs' ps' ov' bs' hm => by rw [← ha]; exact second_c g b2 x2 d2 _ _ _ _ _ _ _ hm.m ro rfl hd2.1 (by omega) rfl hb216 rfl hx16
  have hfir : ∀ (W' : World) (rs' : List Int) (ps' : List Value) (ov' : Bool) (bs' : List Int), MS W' g F (isL op fm n k x2 b1 d1 b2 d2 l1 l2 i2) os rs' ps' ov' bs' ks → Calls Try.prog 71 #[.pointer (some ⟨g, 0, none⟩)] W' fun e w' => e = .returned (.int .i64 a1) ∧ Ch W' w' [] := fun W' rs' ps' ov' bs' hm => by rw [← ha1]; exact first_c g b1 d1 _ _ _ _ _ _ _ hm.m ro rfl hd1.1 (by omega) rfl hb116
  have hs := fun W' => hsec W' os (psL m key M W P cd il cc pg ad) false bs
  have vr := opV_in op fm os k bs a ro h.st.rb
  obtain ⟨c, hc⟩ : ∃ c, opC op fm bs ks key a = c := ⟨_, rfl⟩
  obtain ⟨v, hv⟩ : ∃ v, opV op fm os k bs a = v := ⟨_, rfl⟩
  have e1 : exO (⟨os, key, il, cc, pg, ad, bs, ks⟩ : Pre) op fm n k a1 a l1 i2 = arO (⟨os, key, il, cc, pg, ad, bs, ks⟩ : Pre) op n c v := by unfold exO; rw [if_neg (by omega), if_neg (by omega), if_neg (by omega), if_neg (by omega), if_neg (by omega), if_neg (by omega)]; dsimp only; rw [hc, hv]
  rw [e1]
  have hno := fun W hm hc0 => operand_no g k F (isL op fm n k x2 b1 d1 b2 d2 l1 l2 i2) _ _ _ _ _ _ op fm key a W hm rfl rfl rfl hs hb0.1 hb0.2 c hc hc0
  have hyes := fun W hm hc0 => operand_ok g k F (isL op fm n k x2 b1 d1 b2 d2 l1 l2 i2) _ _ _ _ _ _ op fm key a W hm rfl rfl rfl hk16 rfl hs hb0.1 hb0.2 (hc.trans hc0)
  rw [hv] at vr
  simp only [hv] at hyes
  subst hop
  by_cases hev : n % 2 = 1
  · refine (exec_art_no (by omega) _ 6 w c0 (arith_p29_no g _ 6 w c0 (product_odd g n F _ _ _ _ _ _ _ w h  rfl hn16 hev))).mono ?_
    rintro e w' ⟨rfl, hM, hC⟩
    exact ends_no (c := 6) (by unfold arO; rw [if_pos (by decide), if_pos hev]; rfl) (by decide) rfl hM hC (by simp)
  by_cases hc0 : c = 0
  rotate_left
  · refine (exec_art_no (by omega) _ c w c0 (arith_p29_no g _ c w c0 (product_no g n F _ _ _ _ _ _ _ w h  rfl hn16 c (fun W hm => hno W hm hc0) (by omega)))).mono ?_
    rintro e w' ⟨rfl, hM, hC⟩
    exact ends_no (c := c) (by unfold arO; rw [if_pos (by decide), if_neg hev, if_pos hc0]; rfl) hc0 rfl hM hC (by simp)
  by_cases hd : dok (sg64 (dbl (os.getD n 0) (os.getD (n + 1) 0))) (sg v) = true
  · refine (exec_art (by omega) _ w c0 (arith_p29 g _ w c0 (product_29 g n (n + 1) F _ _ _ _ _ _ _ w h  rfl hn16 v (fun W hm => hyes W hm hc0) vr.1 vr.2 ro (by omega) rfl rfl hd))).mono ?_
    rintro e w' ⟨rfl, hM, hC⟩
    unfold arO
    rw [if_pos (by decide), if_neg hev, if_neg (by simp [hc0]), if_neg (by decide), if_pos hd]
    exact ends_ok rfl rfl hM hC (by simp)
  · refine (exec_art_no (by omega) _ 9 w c0 (arith_p29_no g _ 9 w c0 (product_29_no g n (n + 1) F _ _ _ _ _ _ _ w h  rfl hn16 v (fun W hm => hyes W hm hc0) vr.1 vr.2 ro (by omega) rfl rfl (by simpa using hd)))).mono ?_
    rintro e w' ⟨rfl, hM, hC⟩
    exact ends_no (c := 9) (by unfold arO; rw [if_pos (by decide), if_neg hev, if_neg (by simp [hc0]), if_neg (by decide), if_neg hd]; rfl) (by decide) rfl hM hC (by simp)
set_option maxRecDepth 1000000 in
set_option maxHeartbeats 8000000 in
theorem exec_gp92 (g n k x2 b1 b2 l1 : Nat) (F : Foot) (op fm d1 d2 l2 i2 : Int) (m key : Int) (M W P : Bool) (cd il cc pg ad : Int) (os bs ks : List Int) (w : World) (h : MS w g F (isL op fm n k x2 b1 d1 b2 d2 l1 l2 i2) os os (psL m key M W P cd il cc pg ad) false bs ks) (ro : ∀ z ∈ os, 0 ≤ z ∧ z ≤ 4294967295) (hn16 : n < 16) (hk16 : k < 16) (hx16 : x2 < 16) (hb116 : b1 < 16) (hb216 : b2 < 16) (hl1 : l1 < 256) (hd1 : 0 ≤ d1 ∧ d1 < 4096) (hd2 : 0 ≤ d2 ∧ d2 < 4096) (hi2 : 0 ≤ i2 ∧ i2 < 256) (a1 a : Int) (ha1 : (d1 + sumB os [b1]) % 16777216 = a1) (ha : (d2 + sumB os [b2, x2]) % 16777216 = a)  (hop : op = 92) : Calls Try.prog 31 #[.pointer (some ⟨g, 0, none⟩)] w (Ends g F (isL op fm n k x2 b1 d1 b2 d2 l1 l2 i2) os m key M W P cd il bs ks (exO (⟨os, key, il, cc, pg, ad, bs, ks⟩ : Pre) op fm n k a1 a l1 i2) w) := by
  have c0 : w.cell? ⟨g, 0, none⟩ = some (.int .i64 op) := h.m.ci (c := 0) (by omega)
  have hb0 : 0 ≤ a ∧ a ≤ 16777215 := by omega
  have hb1 : 0 ≤ a1 ∧ a1 ≤ 16777215 := by omega
  have hsec : ∀ (W' : World) (rs' : List Int) (ps' : List Value) (ov' : Bool) (bs' : List Int), MS W' g F (isL op fm n k x2 b1 d1 b2 d2 l1 l2 i2) os rs' ps' ov' bs' ks → Calls Try.prog 44 #[.pointer (some ⟨g, 0, none⟩)] W' fun e w' => e = .returned (.int .i64 a) ∧ Ch W' w' [] := fun W' rs' ps' ov' bs' hm => by rw [← ha]; exact second_c g b2 x2 d2 _ _ _ _ _ _ _ hm.m ro rfl hd2.1 (by omega) rfl hb216 rfl hx16
  have hfir : ∀ (W' : World) (rs' : List Int) (ps' : List Value) (ov' : Bool) (bs' : List Int), MS W' g F (isL op fm n k x2 b1 d1 b2 d2 l1 l2 i2) os rs' ps' ov' bs' ks → Calls Try.prog 71 #[.pointer (some ⟨g, 0, none⟩)] W' fun e w' => e = .returned (.int .i64 a1) ∧ Ch W' w' [] := fun W' rs' ps' ov' bs' hm => by rw [← ha1]; exact first_c g b1 d1 _ _ _ _ _ _ _ hm.m ro rfl hd1.1 (by omega) rfl hb116
  have hs := fun W' => hsec W' os (psL m key M W P cd il cc pg ad) false bs
  have vr := opV_in op fm os k bs a ro h.st.rb
  obtain ⟨c, hc⟩ : ∃ c, opC op fm bs ks key a = c := ⟨_, rfl⟩
  obtain ⟨v, hv⟩ : ∃ v, opV op fm os k bs a = v := ⟨_, rfl⟩
  have e1 : exO (⟨os, key, il, cc, pg, ad, bs, ks⟩ : Pre) op fm n k a1 a l1 i2 = arO (⟨os, key, il, cc, pg, ad, bs, ks⟩ : Pre) op n c v := by unfold exO; rw [if_neg (by omega), if_neg (by omega), if_neg (by omega), if_neg (by omega), if_neg (by omega), if_neg (by omega)]; dsimp only; rw [hc, hv]
  rw [e1]
  have hno := fun W hm hc0 => operand_no g k F (isL op fm n k x2 b1 d1 b2 d2 l1 l2 i2) _ _ _ _ _ _ op fm key a W hm rfl rfl rfl hs hb0.1 hb0.2 c hc hc0
  have hyes := fun W hm hc0 => operand_ok g k F (isL op fm n k x2 b1 d1 b2 d2 l1 l2 i2) _ _ _ _ _ _ op fm key a W hm rfl rfl rfl hk16 rfl hs hb0.1 hb0.2 (hc.trans hc0)
  rw [hv] at vr
  simp only [hv] at hyes
  subst hop
  by_cases hev : n % 2 = 1
  · refine (exec_art_no (by omega) _ 6 w c0 (arith_p92_no g _ 6 w c0 (product_odd g n F _ _ _ _ _ _ _ w h  rfl hn16 hev))).mono ?_
    rintro e w' ⟨rfl, hM, hC⟩
    exact ends_no (c := 6) (by unfold arO; rw [if_pos (by decide), if_pos hev]; rfl) (by decide) rfl hM hC (by simp)
  by_cases hc0 : c = 0
  rotate_left
  · refine (exec_art_no (by omega) _ c w c0 (arith_p92_no g _ c w c0 (product_no g n F _ _ _ _ _ _ _ w h  rfl hn16 c (fun W hm => hno W hm hc0) (by omega)))).mono ?_
    rintro e w' ⟨rfl, hM, hC⟩
    exact ends_no (c := c) (by unfold arO; rw [if_pos (by decide), if_neg hev, if_pos hc0]; rfl) hc0 rfl hM hC (by simp)
  refine (exec_art (by omega) _ w c0 (arith_p92 g _ w c0 (product_92 g n (n + 1) F _ _ _ _ _ _ _ w h  rfl hn16 v (fun W hm => hyes W hm hc0) vr.1 vr.2 ro (by omega) rfl rfl))).mono ?_
  rintro e w' ⟨rfl, hM, hC⟩
  unfold arO
  rw [if_pos (by decide), if_neg hev, if_neg (by simp [hc0]), if_pos (by decide)]
  exact ends_ok rfl rfl hM hC (by simp)
set_option maxRecDepth 1000000 in
set_option maxHeartbeats 8000000 in
theorem exec_gp93 (g n k x2 b1 b2 l1 : Nat) (F : Foot) (op fm d1 d2 l2 i2 : Int) (m key : Int) (M W P : Bool) (cd il cc pg ad : Int) (os bs ks : List Int) (w : World) (h : MS w g F (isL op fm n k x2 b1 d1 b2 d2 l1 l2 i2) os os (psL m key M W P cd il cc pg ad) false bs ks) (ro : ∀ z ∈ os, 0 ≤ z ∧ z ≤ 4294967295) (hn16 : n < 16) (hk16 : k < 16) (hx16 : x2 < 16) (hb116 : b1 < 16) (hb216 : b2 < 16) (hl1 : l1 < 256) (hd1 : 0 ≤ d1 ∧ d1 < 4096) (hd2 : 0 ≤ d2 ∧ d2 < 4096) (hi2 : 0 ≤ i2 ∧ i2 < 256) (a1 a : Int) (ha1 : (d1 + sumB os [b1]) % 16777216 = a1) (ha : (d2 + sumB os [b2, x2]) % 16777216 = a)  (hop : op = 93) : Calls Try.prog 31 #[.pointer (some ⟨g, 0, none⟩)] w (Ends g F (isL op fm n k x2 b1 d1 b2 d2 l1 l2 i2) os m key M W P cd il bs ks (exO (⟨os, key, il, cc, pg, ad, bs, ks⟩ : Pre) op fm n k a1 a l1 i2) w) := by
  have c0 : w.cell? ⟨g, 0, none⟩ = some (.int .i64 op) := h.m.ci (c := 0) (by omega)
  have hb0 : 0 ≤ a ∧ a ≤ 16777215 := by omega
  have hb1 : 0 ≤ a1 ∧ a1 ≤ 16777215 := by omega
  have hsec : ∀ (W' : World) (rs' : List Int) (ps' : List Value) (ov' : Bool) (bs' : List Int), MS W' g F (isL op fm n k x2 b1 d1 b2 d2 l1 l2 i2) os rs' ps' ov' bs' ks → Calls Try.prog 44 #[.pointer (some ⟨g, 0, none⟩)] W' fun e w' => e = .returned (.int .i64 a) ∧ Ch W' w' [] := fun W' rs' ps' ov' bs' hm => by rw [← ha]; exact second_c g b2 x2 d2 _ _ _ _ _ _ _ hm.m ro rfl hd2.1 (by omega) rfl hb216 rfl hx16
  have hfir : ∀ (W' : World) (rs' : List Int) (ps' : List Value) (ov' : Bool) (bs' : List Int), MS W' g F (isL op fm n k x2 b1 d1 b2 d2 l1 l2 i2) os rs' ps' ov' bs' ks → Calls Try.prog 71 #[.pointer (some ⟨g, 0, none⟩)] W' fun e w' => e = .returned (.int .i64 a1) ∧ Ch W' w' [] := fun W' rs' ps' ov' bs' hm => by rw [← ha1]; exact first_c g b1 d1 _ _ _ _ _ _ _ hm.m ro rfl hd1.1 (by omega) rfl hb116
  have hs := fun W' => hsec W' os (psL m key M W P cd il cc pg ad) false bs
  have vr := opV_in op fm os k bs a ro h.st.rb
  obtain ⟨c, hc⟩ : ∃ c, opC op fm bs ks key a = c := ⟨_, rfl⟩
  obtain ⟨v, hv⟩ : ∃ v, opV op fm os k bs a = v := ⟨_, rfl⟩
  have e1 : exO (⟨os, key, il, cc, pg, ad, bs, ks⟩ : Pre) op fm n k a1 a l1 i2 = arO (⟨os, key, il, cc, pg, ad, bs, ks⟩ : Pre) op n c v := by unfold exO; rw [if_neg (by omega), if_neg (by omega), if_neg (by omega), if_neg (by omega), if_neg (by omega), if_neg (by omega)]; dsimp only; rw [hc, hv]
  rw [e1]
  have hno := fun W hm hc0 => operand_no g k F (isL op fm n k x2 b1 d1 b2 d2 l1 l2 i2) _ _ _ _ _ _ op fm key a W hm rfl rfl rfl hs hb0.1 hb0.2 c hc hc0
  have hyes := fun W hm hc0 => operand_ok g k F (isL op fm n k x2 b1 d1 b2 d2 l1 l2 i2) _ _ _ _ _ _ op fm key a W hm rfl rfl rfl hk16 rfl hs hb0.1 hb0.2 (hc.trans hc0)
  rw [hv] at vr
  simp only [hv] at hyes
  subst hop
  by_cases hev : n % 2 = 1
  · refine (exec_art_no (by omega) _ 6 w c0 (arith_p93_no g _ 6 w c0 (product_odd g n F _ _ _ _ _ _ _ w h  rfl hn16 hev))).mono ?_
    rintro e w' ⟨rfl, hM, hC⟩
    exact ends_no (c := 6) (by unfold arO; rw [if_pos (by decide), if_pos hev]; rfl) (by decide) rfl hM hC (by simp)
  by_cases hc0 : c = 0
  rotate_left
  · refine (exec_art_no (by omega) _ c w c0 (arith_p93_no g _ c w c0 (product_no g n F _ _ _ _ _ _ _ w h  rfl hn16 c (fun W hm => hno W hm hc0) (by omega)))).mono ?_
    rintro e w' ⟨rfl, hM, hC⟩
    exact ends_no (c := c) (by unfold arO; rw [if_pos (by decide), if_neg hev, if_pos hc0]; rfl) hc0 rfl hM hC (by simp)
  by_cases hd : dok (sg64 (dbl (os.getD n 0) (os.getD (n + 1) 0))) (sg v) = true
  · refine (exec_art (by omega) _ w c0 (arith_p93 g _ w c0 (product_93 g n (n + 1) F _ _ _ _ _ _ _ w h  rfl hn16 v (fun W hm => hyes W hm hc0) vr.1 vr.2 ro (by omega) rfl rfl hd))).mono ?_
    rintro e w' ⟨rfl, hM, hC⟩
    unfold arO
    rw [if_pos (by decide), if_neg hev, if_neg (by simp [hc0]), if_neg (by decide), if_pos hd]
    exact ends_ok rfl rfl hM hC (by simp)
  · refine (exec_art_no (by omega) _ 9 w c0 (arith_p93_no g _ 9 w c0 (product_93_no g n (n + 1) F _ _ _ _ _ _ _ w h  rfl hn16 v (fun W hm => hyes W hm hc0) vr.1 vr.2 ro (by omega) rfl rfl (by simpa using hd)))).mono ?_
    rintro e w' ⟨rfl, hM, hC⟩
    exact ends_no (c := 9) (by unfold arO; rw [if_pos (by decide), if_neg hev, if_neg (by simp [hc0]), if_neg (by decide), if_neg hd]; rfl) (by decide) rfl hM hC (by simp)
set_option maxRecDepth 1000000 in
set_option maxHeartbeats 8000000 in
theorem exec_ga (g n k x2 b1 b2 l1 : Nat) (F : Foot) (op fm d1 d2 l2 i2 : Int) (m key : Int) (M W P : Bool) (cd il cc pg ad : Int) (os bs ks : List Int) (w : World) (h : MS w g F (isL op fm n k x2 b1 d1 b2 d2 l1 l2 i2) os os (psL m key M W P cd il cc pg ad) false bs ks) (ro : ∀ z ∈ os, 0 ≤ z ∧ z ≤ 4294967295) (hn16 : n < 16) (hk16 : k < 16) (hx16 : x2 < 16) (hb116 : b1 < 16) (hb216 : b2 < 16) (hl1 : l1 < 256) (hd1 : 0 ≤ d1 ∧ d1 < 4096) (hd2 : 0 ≤ d2 ∧ d2 < 4096) (hi2 : 0 ≤ i2 ∧ i2 < 256) (a1 a : Int) (ha1 : (d1 + sumB os [b1]) % 16777216 = a1) (ha : (d2 + sumB os [b2, x2]) % 16777216 = a)  (hop : (16 ≤ op ∧ op ≤ 31) ∨ (72 ≤ op ∧ op ≤ 76) ∨ (84 ≤ op ∧ op ≤ 95)) (hpr : ¬ (op = 28 ∨ op = 29 ∨ op = 92 ∨ op = 93)) : Calls Try.prog 31 #[.pointer (some ⟨g, 0, none⟩)] w (Ends g F (isL op fm n k x2 b1 d1 b2 d2 l1 l2 i2) os m key M W P cd il bs ks (exO (⟨os, key, il, cc, pg, ad, bs, ks⟩ : Pre) op fm n k a1 a l1 i2) w) := by
  have c0 : w.cell? ⟨g, 0, none⟩ = some (.int .i64 op) := h.m.ci (c := 0) (by omega)
  have hb0 : 0 ≤ a ∧ a ≤ 16777215 := by omega
  have hb1 : 0 ≤ a1 ∧ a1 ≤ 16777215 := by omega
  have hsec : ∀ (W' : World) (rs' : List Int) (ps' : List Value) (ov' : Bool) (bs' : List Int), MS W' g F (isL op fm n k x2 b1 d1 b2 d2 l1 l2 i2) os rs' ps' ov' bs' ks → Calls Try.prog 44 #[.pointer (some ⟨g, 0, none⟩)] W' fun e w' => e = .returned (.int .i64 a) ∧ Ch W' w' [] := fun W' rs' ps' ov' bs' hm => by rw [← ha]; exact second_c g b2 x2 d2 _ _ _ _ _ _ _ hm.m ro rfl hd2.1 (by omega) rfl hb216 rfl hx16
  have hfir : ∀ (W' : World) (rs' : List Int) (ps' : List Value) (ov' : Bool) (bs' : List Int), MS W' g F (isL op fm n k x2 b1 d1 b2 d2 l1 l2 i2) os rs' ps' ov' bs' ks → Calls Try.prog 71 #[.pointer (some ⟨g, 0, none⟩)] W' fun e w' => e = .returned (.int .i64 a1) ∧ Ch W' w' [] := fun W' rs' ps' ov' bs' hm => by rw [← ha1]; exact first_c g b1 d1 _ _ _ _ _ _ _ hm.m ro rfl hd1.1 (by omega) rfl hb116
  have hs := fun W' => hsec W' os (psL m key M W P cd il cc pg ad) false bs
  have vr := opV_in op fm os k bs a ro h.st.rb
  obtain ⟨c, hc⟩ : ∃ c, opC op fm bs ks key a = c := ⟨_, rfl⟩
  obtain ⟨v, hv⟩ : ∃ v, opV op fm os k bs a = v := ⟨_, rfl⟩
  have e1 : exO (⟨os, key, il, cc, pg, ad, bs, ks⟩ : Pre) op fm n k a1 a l1 i2 = arO (⟨os, key, il, cc, pg, ad, bs, ks⟩ : Pre) op n c v := by unfold exO; rw [if_neg (by omega), if_neg (by omega), if_neg (by omega), if_neg (by omega), if_neg (by omega), if_neg (by omega)]; dsimp only; rw [hc, hv]
  rw [e1]
  have hno := fun W hm hc0 => operand_no g k F (isL op fm n k x2 b1 d1 b2 d2 l1 l2 i2) _ _ _ _ _ _ op fm key a W hm rfl rfl rfl hs hb0.1 hb0.2 c hc hc0
  have hyes := fun W hm hc0 => operand_ok g k F (isL op fm n k x2 b1 d1 b2 d2 l1 l2 i2) _ _ _ _ _ _ op fm key a W hm rfl rfl rfl hk16 rfl hs hb0.1 hb0.2 (hc.trans hc0)
  rw [hv] at vr
  simp only [hv] at hyes
  by_cases hc0 : c = 0
  rotate_left
  · refine (exec_art_no hop _ c w c0 (arith_no g n F _ _ _ _ _ _ _ w h  rfl hn16 c (fun W hm => hno W hm hc0) op rfl (by omega))).mono ?_
    rintro e w' ⟨rfl, hM, hC⟩
    exact ends_no (c := c) (by unfold arO; rw [if_neg hpr, if_pos hc0]; rfl) hc0 rfl hM hC (by simp)
  by_cases hld : op = 24 ∨ op = 88 ∨ op = 72
  · refine (exec_art hop _ w c0 (arith_ld g n F _ _ _ _ _ _ _ w h  rfl hn16 v (fun W hm => hyes W hm hc0) vr.1 vr.2 ro op rfl hld)).mono ?_
    rintro e w' ⟨rfl, hM, hC⟩
    unfold arO
    rw [if_neg hpr, if_neg (by simp [hc0]), if_pos hld]
    exact ends_ok rfl rfl hM hC (by simp)
  by_cases hsg : op = 16 ∨ op = 17 ∨ op = 18 ∨ op = 19
  · refine (exec_art hop _ w c0 (arith_sg g n F _ _ _ _ _ _ _ w h  rfl hn16 v (fun W hm => hyes W hm hc0) vr.1 vr.2 ro op rfl hsg)).mono ?_
    rintro e w' ⟨rfl, hM, hC⟩
    unfold arO
    rw [if_neg hpr, if_neg (by simp [hc0]), if_neg hld, if_pos hsg]
    exact ends_ok rfl rfl hM hC (by simp)
  by_cases hadd : op = 26 ∨ op = 90 ∨ op = 74
  · refine (exec_art hop _ w c0 (arith_add g n F _ _ _ _ _ _ _ w h  rfl hn16 v (fun W hm => hyes W hm hc0) vr.1 vr.2 ro op rfl hadd)).mono ?_
    rintro e w' ⟨rfl, hM, hC⟩
    unfold arO
    rw [if_neg hpr, if_neg (by simp [hc0]), if_neg hld, if_neg hsg, if_pos hadd]
    exact ends_ok rfl rfl hM hC (by simp)
  by_cases hsub : op = 27 ∨ op = 91 ∨ op = 75
  · refine (exec_art hop _ w c0 (arith_sub g n F _ _ _ _ _ _ _ w h  rfl hn16 v (fun W hm => hyes W hm hc0) vr.1 vr.2 ro op rfl hsub)).mono ?_
    rintro e w' ⟨rfl, hM, hC⟩
    unfold arO
    rw [if_neg hpr, if_neg (by simp [hc0]), if_neg hld, if_neg hsg, if_neg hadd, if_pos hsub]
    exact ends_ok rfl rfl hM hC (by simp)
  by_cases haddl : op = 30 ∨ op = 94
  · refine (exec_art hop _ w c0 (arith_addl g n F _ _ _ _ _ _ _ w h  rfl hn16 v (fun W hm => hyes W hm hc0) vr.1 vr.2 ro op rfl haddl)).mono ?_
    rintro e w' ⟨rfl, hM, hC⟩
    unfold arO
    rw [if_neg hpr, if_neg (by simp [hc0]), if_neg hld, if_neg hsg, if_neg hadd, if_neg hsub, if_pos haddl]
    exact ends_ok rfl rfl hM hC (by simp)
  by_cases hsubl : op = 31 ∨ op = 95
  · refine (exec_art hop _ w c0 (arith_subl g n F _ _ _ _ _ _ _ w h  rfl hn16 v (fun W hm => hyes W hm hc0) vr.1 vr.2 ro op rfl hsubl)).mono ?_
    rintro e w' ⟨rfl, hM, hC⟩
    unfold arO
    rw [if_neg hpr, if_neg (by simp [hc0]), if_neg hld, if_neg hsg, if_neg hadd, if_neg hsub, if_neg haddl, if_pos hsubl]
    exact ends_ok rfl rfl hM hC (by simp)
  by_cases hcmp : op = 25 ∨ op = 89 ∨ op = 73
  · refine (exec_art hop _ w c0 (arith_cmp g n F _ _ _ _ _ _ _ w h  rfl hn16 v (fun W hm => hyes W hm hc0) vr.1 vr.2 ro op rfl hcmp)).mono ?_
    rintro e w' ⟨rfl, hM, hC⟩
    unfold arO
    rw [if_neg hpr, if_neg (by simp [hc0]), if_neg hld, if_neg hsg, if_neg hadd, if_neg hsub, if_neg haddl, if_neg hsubl, if_pos hcmp]
    exact ends_ok rfl rfl hM hC (by simp)
  by_cases hcmpl : op = 21 ∨ op = 85
  · refine (exec_art hop _ w c0 (arith_cmpl g n F _ _ _ _ _ _ _ w h  rfl hn16 v (fun W hm => hyes W hm hc0) vr.1 vr.2 ro op rfl hcmpl)).mono ?_
    rintro e w' ⟨rfl, hM, hC⟩
    unfold arO
    rw [if_neg hpr, if_neg (by simp [hc0]), if_neg hld, if_neg hsg, if_neg hadd, if_neg hsub, if_neg haddl, if_neg hsubl, if_neg hcmp, if_pos hcmpl]
    exact ends_ok rfl rfl hM hC (by simp)
  by_cases hand : op = 20 ∨ op = 84
  · refine (exec_art hop _ w c0 (arith_and g n F _ _ _ _ _ _ _ w h  rfl hn16 v (fun W hm => hyes W hm hc0) vr.1 vr.2 ro op rfl hand)).mono ?_
    rintro e w' ⟨rfl, hM, hC⟩
    unfold arO
    rw [if_neg hpr, if_neg (by simp [hc0]), if_neg hld, if_neg hsg, if_neg hadd, if_neg hsub, if_neg haddl, if_neg hsubl, if_neg hcmp, if_neg hcmpl, if_pos hand]
    exact ends_ok rfl rfl hM hC (by simp)
  by_cases hor : op = 22 ∨ op = 86
  · refine (exec_art hop _ w c0 (arith_or g n F _ _ _ _ _ _ _ w h  rfl hn16 v (fun W hm => hyes W hm hc0) vr.1 vr.2 ro op rfl hor)).mono ?_
    rintro e w' ⟨rfl, hM, hC⟩
    unfold arO
    rw [if_neg hpr, if_neg (by simp [hc0]), if_neg hld, if_neg hsg, if_neg hadd, if_neg hsub, if_neg haddl, if_neg hsubl, if_neg hcmp, if_neg hcmpl, if_neg hand, if_pos hor]
    exact ends_ok rfl rfl hM hC (by simp)
  by_cases hxor : op = 23 ∨ op = 87
  · refine (exec_art hop _ w c0 (arith_xor g n F _ _ _ _ _ _ _ w h  rfl hn16 v (fun W hm => hyes W hm hc0) vr.1 vr.2 ro op rfl hxor)).mono ?_
    rintro e w' ⟨rfl, hM, hC⟩
    unfold arO
    rw [if_neg hpr, if_neg (by simp [hc0]), if_neg hld, if_neg hsg, if_neg hadd, if_neg hsub, if_neg haddl, if_neg hsubl, if_neg hcmp, if_neg hcmpl, if_neg hand, if_neg hor, if_pos hxor]
    exact ends_ok rfl rfl hM hC (by simp)
  refine (exec_art hop _ w c0 (arith_mh g n F _ _ _ _ _ _ _ w h  rfl hn16 v (fun W hm => hyes W hm hc0) vr.1 vr.2 ro op rfl (by omega))).mono ?_
  rintro e w' ⟨rfl, hM, hC⟩
  unfold arO
  rw [if_neg hpr, if_neg (by simp [hc0]), if_neg hld, if_neg hsg, if_neg hadd, if_neg hsub, if_neg haddl, if_neg hsubl, if_neg hcmp, if_neg hcmpl, if_neg hand, if_neg hor, if_neg hxor]
  exact ends_ok rfl rfl hM hC (by simp)
theorem kn_mem {op : Int} (h : kn op = true) : op ∈ knL := of_decide_eq_true h
theorem kn_grp : ∀ op ∈ knL, (op = 4 ∨ op = 5 ∨ op = 6 ∨ op = 7 ∨ op = 69 ∨ op = 70 ∨ op = 71 ∨ op = 134 ∨ op = 135) ∨ (136 ≤ op ∧ op ≤ 143) ∨ op = 65 ∨ op = 64 ∨ op = 66 ∨ op = 67 ∨ op = 80 ∨ op = 144 ∨ op = 152 ∨ (145 ≤ op ∧ op ≤ 151) ∨ op = 209 ∨ op = 210 ∨ op = 211 ∨ op = 212 ∨ op = 213 ∨ op = 214 ∨ op = 215 ∨ op = 220 ∨ op = 221 ∨ op = 28 ∨ op = 29 ∨ op = 92 ∨ op = 93 ∨ (((16 ≤ op ∧ op ≤ 31) ∨ (72 ≤ op ∧ op ≤ 76) ∨ (84 ≤ op ∧ op ≤ 95)) ∧ ¬ (op = 28 ∨ op = 29 ∨ op = 92 ∨ op = 93)) := by decide +kernel
theorem kn_fm : ∀ op ∈ knL, (op = 4 ∧ fmOf op = 8) ∨ (op ≠ 4 ∧ op < 64 ∧ fmOf op = 1) ∨ (64 ≤ op ∧ fmOf op ≠ 1) := by decide +kernel
set_option maxRecDepth 1000000 in
set_option maxHeartbeats 8000000 in
theorem exec_gall (g n k x2 b1 b2 l1 : Nat) (F : Foot) (op fm d1 d2 l2 i2 : Int) (m key : Int) (M W P : Bool) (cd il cc pg ad : Int) (os bs ks : List Int) (w : World) (h : MS w g F (isL op fm n k x2 b1 d1 b2 d2 l1 l2 i2) os os (psL m key M W P cd il cc pg ad) false bs ks) (ro : ∀ z ∈ os, 0 ≤ z ∧ z ≤ 4294967295) (hn16 : n < 16) (hk16 : k < 16) (hx16 : x2 < 16) (hb116 : b1 < 16) (hb216 : b2 < 16) (hl1 : l1 < 256) (hd1 : 0 ≤ d1 ∧ d1 < 4096) (hd2 : 0 ≤ d2 ∧ d2 < 4096) (hi2 : 0 ≤ i2 ∧ i2 < 256) (a1 a : Int) (ha1 : (d1 + sumB os [b1]) % 16777216 = a1) (ha : (d2 + sumB os [b2, x2]) % 16777216 = a) (hps : pok m key cd il cc pg ad = true) (hkn : kn op = true) (hfo : fmOf op = fm) : Calls Try.prog 31 #[.pointer (some ⟨g, 0, none⟩)] w (Ends g F (isL op fm n k x2 b1 d1 b2 d2 l1 l2 i2) os m key M W P cd il bs ks (exO (⟨os, key, il, cc, pg, ad, bs, ks⟩ : Pre) op fm n k a1 a l1 i2) w) := by
  have hfm : op ≠ 4 → (fm = 1 ↔ op < 64) := by
    have := kn_fm op (kn_mem hkn)
    rw [hfo] at this
    omega
  rcases kn_grp op (kn_mem hkn) with hg | hg | hg | hg | hg | hg | hg | hg | hg | hg | hg | hg | hg | hg | hg | hg | hg | hg | hg | hg | hg | hg | hg | ⟨hg, hg2⟩
  · exact exec_gb g n k x2 b1 b2 l1 F op fm d1 d2 l2 i2 m key M W P cd il cc pg ad os bs ks w h ro hn16 hk16 hx16 hb116 hb216 hl1 hd1 hd2 hi2 a1 a ha1 ha hps hg hfm
  · exact exec_gs g n k x2 b1 b2 l1 F op fm d1 d2 l2 i2 m key M W P cd il cc pg ad os bs ks w h ro hn16 hk16 hx16 hb116 hb216 hl1 hd1 hd2 hi2 a1 a ha1 ha hg
  · exact exec_gla g n k x2 b1 b2 l1 F op fm d1 d2 l2 i2 m key M W P cd il cc pg ad os bs ks w h ro hn16 hk16 hx16 hb116 hb216 hl1 hd1 hd2 hi2 a1 a ha1 ha hg
  · exact exec_gm64 g n k x2 b1 b2 l1 F op fm d1 d2 l2 i2 m key M W P cd il cc pg ad os bs ks w h ro hn16 hk16 hx16 hb116 hb216 hl1 hd1 hd2 hi2 a1 a ha1 ha hg
  · exact exec_gm66 g n k x2 b1 b2 l1 F op fm d1 d2 l2 i2 m key M W P cd il cc pg ad os bs ks w h ro hn16 hk16 hx16 hb116 hb216 hl1 hd1 hd2 hi2 a1 a ha1 ha hg
  · exact exec_gm67 g n k x2 b1 b2 l1 F op fm d1 d2 l2 i2 m key M W P cd il cc pg ad os bs ks w h ro hn16 hk16 hx16 hb116 hb216 hl1 hd1 hd2 hi2 a1 a ha1 ha hg
  · exact exec_gm80 g n k x2 b1 b2 l1 F op fm d1 d2 l2 i2 m key M W P cd il cc pg ad os bs ks w h ro hn16 hk16 hx16 hb116 hb216 hl1 hd1 hd2 hi2 a1 a ha1 ha hg
  · exact exec_gm144 g n k x2 b1 b2 l1 F op fm d1 d2 l2 i2 m key M W P cd il cc pg ad os bs ks w h ro hn16 hk16 hx16 hb116 hb216 hl1 hd1 hd2 hi2 a1 a ha1 ha hg
  · exact exec_gm152 g n k x2 b1 b2 l1 F op fm d1 d2 l2 i2 m key M W P cd il cc pg ad os bs ks w h ro hn16 hk16 hx16 hb116 hb216 hl1 hd1 hd2 hi2 a1 a ha1 ha hg
  · exact exec_gi g n k x2 b1 b2 l1 F op fm d1 d2 l2 i2 m key M W P cd il cc pg ad os bs ks w h ro hn16 hk16 hx16 hb116 hb216 hl1 hd1 hd2 hi2 a1 a ha1 ha hg
  · exact exec_gl209 g n k x2 b1 b2 l1 F op fm d1 d2 l2 i2 m key M W P cd il cc pg ad os bs ks w h ro hn16 hk16 hx16 hb116 hb216 hl1 hd1 hd2 hi2 a1 a ha1 ha hg
  · exact exec_gl210 g n k x2 b1 b2 l1 F op fm d1 d2 l2 i2 m key M W P cd il cc pg ad os bs ks w h ro hn16 hk16 hx16 hb116 hb216 hl1 hd1 hd2 hi2 a1 a ha1 ha hg
  · exact exec_gl211 g n k x2 b1 b2 l1 F op fm d1 d2 l2 i2 m key M W P cd il cc pg ad os bs ks w h ro hn16 hk16 hx16 hb116 hb216 hl1 hd1 hd2 hi2 a1 a ha1 ha hg
  · exact exec_gl212 g n k x2 b1 b2 l1 F op fm d1 d2 l2 i2 m key M W P cd il cc pg ad os bs ks w h ro hn16 hk16 hx16 hb116 hb216 hl1 hd1 hd2 hi2 a1 a ha1 ha hg
  · exact exec_gl213 g n k x2 b1 b2 l1 F op fm d1 d2 l2 i2 m key M W P cd il cc pg ad os bs ks w h ro hn16 hk16 hx16 hb116 hb216 hl1 hd1 hd2 hi2 a1 a ha1 ha hg
  · exact exec_gl214 g n k x2 b1 b2 l1 F op fm d1 d2 l2 i2 m key M W P cd il cc pg ad os bs ks w h ro hn16 hk16 hx16 hb116 hb216 hl1 hd1 hd2 hi2 a1 a ha1 ha hg
  · exact exec_gl215 g n k x2 b1 b2 l1 F op fm d1 d2 l2 i2 m key M W P cd il cc pg ad os bs ks w h ro hn16 hk16 hx16 hb116 hb216 hl1 hd1 hd2 hi2 a1 a ha1 ha hg
  · exact exec_gl220 g n k x2 b1 b2 l1 F op fm d1 d2 l2 i2 m key M W P cd il cc pg ad os bs ks w h ro hn16 hk16 hx16 hb116 hb216 hl1 hd1 hd2 hi2 a1 a ha1 ha hg
  · exact exec_gl221 g n k x2 b1 b2 l1 F op fm d1 d2 l2 i2 m key M W P cd il cc pg ad os bs ks w h ro hn16 hk16 hx16 hb116 hb216 hl1 hd1 hd2 hi2 a1 a ha1 ha hg
  · exact exec_gp28 g n k x2 b1 b2 l1 F op fm d1 d2 l2 i2 m key M W P cd il cc pg ad os bs ks w h ro hn16 hk16 hx16 hb116 hb216 hl1 hd1 hd2 hi2 a1 a ha1 ha hg
  · exact exec_gp29 g n k x2 b1 b2 l1 F op fm d1 d2 l2 i2 m key M W P cd il cc pg ad os bs ks w h ro hn16 hk16 hx16 hb116 hb216 hl1 hd1 hd2 hi2 a1 a ha1 ha hg
  · exact exec_gp92 g n k x2 b1 b2 l1 F op fm d1 d2 l2 i2 m key M W P cd il cc pg ad os bs ks w h ro hn16 hk16 hx16 hb116 hb216 hl1 hd1 hd2 hi2 a1 a ha1 ha hg
  · exact exec_gp93 g n k x2 b1 b2 l1 F op fm d1 d2 l2 i2 m key M W P cd il cc pg ad os bs ks w h ro hn16 hk16 hx16 hb116 hb216 hl1 hd1 hd2 hi2 a1 a ha1 ha hg
  · exact exec_ga g n k x2 b1 b2 l1 F op fm d1 d2 l2 i2 m key M W P cd il cc pg ad os bs ks w h ro hn16 hk16 hx16 hb116 hb216 hl1 hd1 hd2 hi2 a1 a ha1 ha hg hg2
end Go.Proofs.Ythjdjbipfdigeaa

namespace Go.Proofs.Ythjdjbipfdigeaa
open Go.RowKit
set_option maxRecDepth 100000
set_option linter.unusedVariables false
set_option linter.unusedSimpArgs false
theorem wr_len (p : Pre) (a n : Int) (ys : List Int) (cc : Int) : (p.wr a n ys cc).rs = p.os := by unfold Pre.wr; split <;> rfl
theorem brO_len (p : Pre) (op : Int) (n k : Nat) (a : Int) : (brO p op n k a).rs.length = p.os.length := by
  unfold brO
  repeat' split
  all_goals simp [Pre.br]
theorem ite_len (c : Prop) [Decidable c] (x y : Out) : (if c then x else y).rs.length = if c then x.rs.length else y.rs.length := by split <;> rfl
theorem arO_len (p : Pre) (op : Int) (n : Nat) (c v : Int) : (arO p op n c v).rs.length = p.os.length := by
  unfold arO
  simp only [ite_len, Pre.rg, Pre.st, Pre.no, List.length_set, ite_self]
theorem shO_len (p : Pre) (op : Int) (n : Nat) (a : Int) : (shO p op n a).rs.length = p.os.length := by
  unfold shO
  repeat' split
  all_goals simp [Pre.rg, Pre.st, Pre.no]
theorem lmR_len' (rs : List Int) (n : Nat) (zs : List Int) : ∀ k, (lmR rs n zs k).length = rs.length
  | 0 => rfl
  | k + 1 => by simp [lmR, lmR_len' rs n zs k]
theorem mvO_len (p : Pre) (op : Int) (n m : Nat) (a : Int) : (mvO p op n m a).rs.length = p.os.length := by
  unfold mvO
  repeat' split
  all_goals simp [Pre.rg, Pre.st, Pre.no, wr_len, lmR_len']
theorem imO_len (p : Pre) (op : Int) (a i : Int) : (imO p op a i).rs.length = p.os.length := by
  unfold imO
  repeat' split
  all_goals simp [Pre.rg, Pre.st, Pre.no, wr_len]
theorem scnR_len (os rs : List Int) (a : Int) (o : Option (Nat × Int)) : (scnR os rs a o).length = rs.length := by
  unfold scnR; split <;> simp
theorem loO_len (p : Pre) (op : Int) (N : Nat) (a b : Int) : (loO p op N a b).rs.length = p.os.length := by
  unfold loO
  repeat' split
  all_goals simp [Pre.rg, Pre.st, Pre.no, wr_len, scnR_len]
theorem exO_len (p : Pre) (op fm : Int) (n k : Nat) (a1 a : Int) (l1 : Nat) (i2 : Int) : (exO p op fm n k a1 a l1 i2).rs.length = p.os.length := by
  unfold exO
  repeat' split
  · exact brO_len ..
  · exact shO_len ..
  · simp [Pre.rg]
  · exact mvO_len ..
  · exact imO_len ..
  · exact loO_len ..
  · exact arO_len ..
def agR (rs : List Int) : Value := .agg (rs.map (Value.int .u32)).toArray
def xC (op fm r1 r2 x2 b1 d1 b2 d2 l1 l2 i2 : Int) (os : List Int) (m key cd il cc pg ad : Int) (bs ks : List Int) : Out :=
  if kn op = true ∧ chk op fm [op, fm, r1, r2, x2, b1, d1, b2, d2, l1, l2, i2] = 0 ∧ pok m key cd il cc pg ad = true then
    if (exO ⟨os, key, il, cc, pg, ad, bs, ks⟩ op fm r1.toNat r2.toNat ((d1 + sumB os [b1.toNat]) % 16777216) ((d2 + sumB os [b2.toNat, x2.toNat]) % 16777216) l1.toNat i2).c = 0 then { exO ⟨os, key, il, cc, pg, ad, bs, ks⟩ op fm r1.toNat r2.toNat ((d1 + sumB os [b1.toNat]) % 16777216) ((d2 + sumB os [b2.toNat, x2.toNat]) % 16777216) l1.toNat i2 with c := if (exO ⟨os, key, il, cc, pg, ad, bs, ks⟩ op fm r1.toNat r2.toNat ((d1 + sumB os [b1.toNat]) % 16777216) ((d2 + sumB os [b2.toNat, x2.toNat]) % 16777216) l1.toNat i2).ov = true ∧ 8 ≤ pg then 8 else 0 }
    else ⟨(exO ⟨os, key, il, cc, pg, ad, bs, ks⟩ op fm r1.toNat r2.toNat ((d1 + sumB os [b1.toNat]) % 16777216) ((d2 + sumB os [b2.toNat, x2.toNat]) % 16777216) l1.toNat i2).c, os, cc, pg, ad, false, bs⟩
  else ⟨1, os, cc, pg, ad, false, bs⟩
theorem list_16 {α : Type} : ∀ {l : List α}, l.length = 16 → ∃ x0 x1 x2 x3 x4 x5 x6 x7 x8 x9 x10 x11 x12 x13 x14 x15, l = [x0, x1, x2, x3, x4, x5, x6, x7, x8, x9, x10, x11, x12, x13, x14, x15]
  | [x0, x1, x2, x3, x4, x5, x6, x7, x8, x9, x10, x11, x12, x13, x14, x15], _ => ⟨_, _, _, _, _, _, _, _, _, _, _, _, _, _, _, _, rfl⟩
end Go.Proofs.Ythjdjbipfdigeaa

namespace Go.Proofs.Ythjdjbipfdigeaa
open Go.RowKit
set_option maxRecDepth 100000
set_option linter.unusedVariables false
set_option linter.unusedSimpArgs false
set_option maxRecDepth 1000000 in
set_option maxHeartbeats 4000000 in
theorem exec_ar (g n m : Nat) (is os rs : List Int) (ps : List Value) (s : Value) (ov : Bool) (w : World) (hm : Mc w g is os rs ps s ov) (h0 : is.getD 0 0 = 26) (hf : is.getD 1 0 = 1) (hn : is.getD 2 0 = (n : Int)) (hn16 : n < 16) (hk : is.getD 3 0 = (m : Int)) (hk16 : m < 16) (ro : ∀ z ∈ os, 0 ≤ z ∧ z ≤ 4294967295) : Calls Try.prog 31 #[.pointer (some ⟨g, 0, none⟩)] w fun e w' => e = .returned (.tuple #[]) ∧ Mc w' g is os (rs.set n (lo32 (sg (os.getD n 0) + sg (os.getD m 0)))) (ps.set 7 (.int .i64 (rcc (sg (os.getD n 0) + sg (os.getD m 0))))) s (ovf (sg (os.getD n 0) + sg (os.getD m 0))) ∧ Ch w w' [g] := by
  have c0 := hm.ci (c := 0) (by omega)
  rw [h0] at c0
  have AC := Lib.hid (arith_ar g n m is os rs ps s ov w hm h0 hf hn hn16 hk hk16 ro)
  clear hm h0 hf hn hk ro
  go_enter Try.func31, Try.ntmps31
  go_wp2_with (go_at_call 48; refine AC.out.mono ?_; rintro e w3 ⟨rfl, hM3, hC3⟩; have HM3 := Lib.hid hM3; have HC3 := Lib.hid hC3; clear hM3 hC3)
  go_end0
  exact ⟨by rfl, HM3.out, HC3.out⟩
theorem opsS_value {P : Program} {ops : Array Oper} {Q : Exit → Act → List Frame → World → Prop} {i : Nat} {rest : List Nat} {a : Act} {cs : List Frame} {w w' : World} {o : Oper} {v : Value} (ho : ops[i]? = some o) (hw : Region.wanted o (yielded ops a.tmps) = true) (hr : (execOp a.eval o).run P w = .ok (.value v) w') (h : wpOpsS P ops Q rest (a.put o.dst v) cs w') : wpOpsS P ops Q (i :: rest) a cs w := by
  simp only [wpOpsS, ho, hw, if_true, hr]
  exact h
theorem opsS_rec {P : Program} {ops : Array Oper} {Q : Exit → Act → List Frame → World → Prop} {i : Nat} {rest : List Nat} {a : Act} {cs cs' : List Frame} {w w' : World} {o : Oper} {v : Value} (ho : ops[i]? = some o) (hw : Region.wanted o (yielded ops a.tmps) = true) (hr : (execOp a.eval o).run P w = .ok .recover w') (hc : recoverD cs = some (v, cs')) (h : wpOpsS P ops Q rest (a.put o.dst v) cs' w') : wpOpsS P ops Q (i :: rest) a cs w := by
  simp only [wpOpsS, ho, hw, if_true, hr, hc]
  exact h
theorem opsS_idle {P : Program} {ops : Array Oper} {Q : Exit → Act → List Frame → World → Prop} {i : Nat} {rest : List Nat} {a : Act} {cs : List Frame} {w w' : World} {o : Oper} (ho : ops[i]? = some o) (hw : Region.wanted o (yielded ops a.tmps) = true) (hr : (execOp a.eval o).run P w = .ok .recover w') (hc : recoverD cs = none) (h : wpOpsS P ops Q rest (a.put o.dst .nilIface) cs w') : wpOpsS P ops Q (i :: rest) a cs w := by
  simp only [wpOpsS, ho, hw, if_true, hr, hc]
  exact h
set_option maxHeartbeats 4000000 in
theorem catch_idle (r p nr np en : Value) (w : World) :
    CallsD Try.prog 30 #[r, p, nr, np, en] .returning w fun e u' w' => e = .returned (.tuple #[]) ∧ u' = .returning ∧ w' = w := by
  refine callsD_of_wpS Try.func30 rfl fun c₀ cs hu => ?_
  simp only [Try.ntmps30, List.size_toArray, List.length_cons, List.length_nil, Nat.reduceAdd, Nat.reduceSub, Array.replicate_succ, Array.replicate_zero, List.push_toArray, List.append_toArray, List.nil_append, List.cons_append]
  apply wpS_seq
  apply wpS_region
  show wpOpsS _ _ _ [0, 1, 2, 3, 4, 5, 6] _ _ _
  refine opsS_idle (w' := w) rfl (by kernel_rfl) (by kernel_rfl) (by simp [recoverD, hu]) ?_
  refine opsS_value (v := .tuple #[.int .i64 0, .bool false]) (w' := w) rfl (by kernel_rfl) (by kernel_rfl) ?_
  refine opsS_value (v := .tuple #[.int .i64 0, .bool false]) (w' := w) rfl (by kernel_rfl) (by kernel_rfl) ?_
  refine opsS_value (v := .int .i64 0) (w' := w) rfl (by kernel_rfl) (by kernel_rfl) ?_
  refine opsS_value (v := .bool false) (w' := w) rfl (by kernel_rfl) (by kernel_rfl) ?_
  refine opsS_value (v := .int .i64 0) (w' := w) rfl (by kernel_rfl) (by kernel_rfl) ?_
  refine opsS_value (v := .bool false) (w' := w) rfl (by kernel_rfl) (by kernel_rfl) ?_
  simp only [Act.put, List.setIfInBounds_toArray, List.set_cons_zero, List.set_cons_succ]
  unfold wpOpsS
  simp only [Exit.thenS]
  refine wpS_of_wp ?_
  go_wp2
  exact ⟨rfl, .returning, by cases c₀; simp_all, .tuple #[], by simp [results, Try.results30], rfl, rfl, rfl⟩
end Go.Proofs.Ythjdjbipfdigeaa

