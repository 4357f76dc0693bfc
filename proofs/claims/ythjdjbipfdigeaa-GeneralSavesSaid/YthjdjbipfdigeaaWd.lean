/- PLAIN: what the functions of package word (layer 1) compute, as functions on whole numbers; and the facts about them. No program in sight. No conditions. -/
import Derived.WalkKit
import Derived.Laws.BitsAllLaws
namespace Go.Proofs.Ythjdjbipfdigeaa
open Go.RowKit
set_option linter.unusedVariables false

/-- the signed value of a word -/
def sg (a : Int) : Int := if a < 2147483648 then a else a - 4294967296
/-- 0, 1, 2 for nought, less, more -/
def sgn (n : Int) : Int := if n = 0 then 0 else if n < 0 then 1 else 2
/-- the low word -/
def lo32 (n : Int) : Int := n % 4294967296
/-- does n overflow a signed word? -/
def ovf (n : Int) : Bool := decide (n < -2147483648 ∨ 2147483647 < n)
/-- the condition code of an exact result -/
def rcc (n : Int) : Int := if ovf n = true then 3 else sgn n
/-- the condition code of a logical result -/
def lcc (v : Int) (high : Bool) : Int := (if v = 0 then 0 else 1) + (if high = true then 2 else 0)
/-- the 64 bits of two words -/
def dbl (hi lo : Int) : Int := hi * 4294967296 + lo
/-- the signed value of 64 bits -/
def sg64 (x : Int) : Int := if x < 9223372036854775808 then x else x - 18446744073709551616
def ovf64 (n : Int) : Bool := decide (n < -9223372036854775808 ∨ 9223372036854775807 < n)
/-- division: does it succeed, quotient, remainder -/
def dok (n d : Int) : Bool := decide (d ≠ 0 ∧ -2147483648 ≤ n.tdiv d ∧ n.tdiv d ≤ 2147483647)
def dquo (n d : Int) : Int := if dok n d = true then lo32 (n.tdiv d) else 0
def drem (n d : Int) : Int := if dok n d = true then lo32 (n.tmod d) else 0
/-- the number of places, modulo 64 -/
def plc (n : Int) : Nat := (n % 64).toNat
/-- shifts of a word -/
def slv (v : Int) (p : Nat) : Int := (if v < 2147483648 then 0 else 2147483648) + sg v * 2 ^ p % 2147483648
def slo (v : Int) (p : Nat) : Bool := ovf (sg v * 2 ^ p)
def slc (v : Int) (p : Nat) : Int := if slo v p = true then 3 else sgn (sg (slv v p))
def srv (v : Int) (p : Nat) : Int := lo32 (sg v / 2 ^ p)
def slg (v : Int) (p : Nat) (left : Bool) : Int := if left = true then lo32 (v * 2 ^ p) else v / 2 ^ p
/-- shifts of a double word -/
def dlv (x : Int) (p : Nat) : Int := (if x < 9223372036854775808 then 0 else 9223372036854775808) + sg64 x * 2 ^ p % 9223372036854775808
def dlo (x : Int) (p : Nat) : Bool := ovf64 (sg64 x * 2 ^ p)
def dlc (x : Int) (p : Nat) : Int := if dlo x p = true then 3 else sgn (sg64 (dlv x p))
def drv (x : Int) (p : Nat) : Int := sg64 x / 2 ^ p % 18446744073709551616
def dlg (x : Int) (p : Nat) (left : Bool) : Int := if left = true then x * 2 ^ p % 18446744073709551616 else x / 2 ^ p

/-! ### bounds -/
theorem sg_lo (a : Int) (h0 : 0 ≤ a) : -2147483648 ≤ sg a := by unfold sg; split <;> omega
theorem sg_hi (a : Int) (h1 : a ≤ 4294967295) : sg a ≤ 2147483647 := by unfold sg; split <;> omega
theorem wrap32_sg (a : Int) (h0 : 0 ≤ a) (h1 : a ≤ 4294967295) : wrap32 a = sg a := by unfold wrap32 sg; split <;> omega
theorem lo32_lo (n : Int) : 0 ≤ lo32 n := by unfold lo32; omega
theorem lo32_hi (n : Int) : lo32 n ≤ 4294967295 := by unfold lo32; omega
theorem lo32_is (n : Int) : n % 4294967296 = lo32 n := rfl
theorem lo32_id (n : Int) (h0 : 0 ≤ n) (h1 : n ≤ 4294967295) : lo32 n = n := by unfold lo32; omega
theorem sgn_lo (n : Int) : 0 ≤ sgn n := by unfold sgn; split; · omega
                                           split <;> omega
theorem sgn_hi (n : Int) : sgn n ≤ 2 := by unfold sgn; split; · omega
                                           split <;> omega
theorem sgn_zero (n : Int) (h : n = 0) : sgn n = 0 := by simp [sgn, h]
theorem sgn_neg (n : Int) (h : n < 0) : sgn n = 1 := by unfold sgn; rw [if_neg (by omega), if_pos h]
theorem sgn_pos (n : Int) (h : 0 < n) : sgn n = 2 := by unfold sgn; rw [if_neg (by omega), if_neg (by omega)]
theorem sg64_lo (a : Int) (h0 : 0 ≤ a) : -9223372036854775808 ≤ sg64 a := by unfold sg64; split <;> omega
theorem sg64_hi (a : Int) (h1 : a ≤ 18446744073709551615) : sg64 a ≤ 9223372036854775807 := by unfold sg64; split <;> omega
theorem wrap64_sg (a : Int) (h0 : 0 ≤ a) (h1 : a ≤ 18446744073709551615) : wrap64 a = sg64 a := by unfold wrap64 sg64; split <;> omega
theorem sg64_mod (a : Int) (h0 : 0 ≤ a) (h1 : a ≤ 18446744073709551615) : sg64 a % 18446744073709551616 = a := by unfold sg64; split <;> omega
theorem sg_mod (a : Int) (h0 : 0 ≤ a) (h1 : a ≤ 4294967295) : sg a % 4294967296 = a := by unfold sg; split <;> omega
theorem dbl_lo (a b : Int) (ha : 0 ≤ a) (hb : 0 ≤ b) : 0 ≤ dbl a b := by unfold dbl; omega
theorem dbl_hi (a b : Int) (ha : a ≤ 4294967295) (hb : b ≤ 4294967295) : dbl a b ≤ 18446744073709551615 := by unfold dbl; omega
theorem dbl_is (a b : Int) : a * 4294967296 + b = dbl a b := rfl
theorem plc_hi (n : Int) : plc n ≤ 63 := by unfold plc; omega
theorem plc_is (n : Int) : n % 64 = (plc n : Int) := by unfold plc; omega
theorem ovf_iff (n : Int) : ovf n = true ↔ (n < -2147483648 ∨ 2147483647 < n) := by simp [ovf]
theorem ovf_no (n : Int) : ovf n = false ↔ (-2147483648 ≤ n ∧ n ≤ 2147483647) := by unfold ovf; rw [decide_eq_false_iff_not]; omega
theorem ovf64_iff (n : Int) : ovf64 n = true ↔ (n < -9223372036854775808 ∨ 9223372036854775807 < n) := by simp [ovf64]
theorem ovf64_no (n : Int) : ovf64 n = false ↔ (-9223372036854775808 ≤ n ∧ n ≤ 9223372036854775807) := by unfold ovf64; rw [decide_eq_false_iff_not]; omega

/-! ### what Go's text asks of an exact result -/
theorem fits_test (n : Int) (h0 : -9223372036854775808 ≤ n) (h1 : n ≤ 9223372036854775807) : (wrap64 (wrap32 n) != n) = ovf n := by
  rw [Bool.eq_iff_iff, ovf_iff, bne_iff_ne]; unfold wrap64 wrap32; omega
theorem sg_lo32 (n : Int) : sg (lo32 n) = wrap32 n := by unfold sg lo32 wrap32; split <;> omega
theorem signed_test (n : Int) : (sg (lo32 n) != n) = ovf n := by
  rw [Bool.eq_iff_iff, ovf_iff, bne_iff_ne, sg_lo32]; unfold wrap32; omega
theorem sg_lo32_in (n : Int) (h : ovf n = false) : sg (lo32 n) = n := by rw [ovf_no] at h; rw [sg_lo32]; unfold wrap32; omega
theorem rcc_over (n : Int) (h : ovf n = true) : rcc n = 3 := by simp [rcc, h]
theorem rcc_in (n : Int) (h : ovf n = false) : rcc n = sgn n := by simp [rcc, h]
theorem sg_zero : sg 0 = 0 := rfl

/-! ### products: two signed words fit 64 bits -/
theorem mul_box (x y A B : Int) (hx0 : -A ≤ x) (hx1 : x ≤ A) (hy0 : -B ≤ y) (hy1 : y ≤ B) : -(A * B) ≤ x * y ∧ x * y ≤ A * B := by
  have hA : 0 ≤ A := by omega
  have hB : 0 ≤ B := by omega
  have h1 : 0 ≤ (A - x) * (B + y) := Int.mul_nonneg (by omega) (by omega)
  have h2 : 0 ≤ (A + x) * (B - y) := Int.mul_nonneg (by omega) (by omega)
  have h3 : 0 ≤ (A - x) * (B - y) := Int.mul_nonneg (by omega) (by omega)
  have h4 : 0 ≤ (A + x) * (B + y) := Int.mul_nonneg (by omega) (by omega)
  simp only [Int.sub_mul, Int.mul_sub, Int.add_mul, Int.mul_add] at h1 h2 h3 h4
  constructor <;> omega
theorem prod_lo (a b : Int) (ha : 0 ≤ a) (ha' : a ≤ 4294967295) (hb : 0 ≤ b) (hb' : b ≤ 4294967295) : -4611686018427387904 ≤ sg a * sg b := by
  have := (mul_box (sg a) (sg b) 2147483648 2147483648 (sg_lo a ha) (by have := sg_hi a ha'; omega) (sg_lo b hb) (by have := sg_hi b hb'; omega)).1; omega
theorem prod_hi (a b : Int) (ha : 0 ≤ a) (ha' : a ≤ 4294967295) (hb : 0 ≤ b) (hb' : b ≤ 4294967295) : sg a * sg b ≤ 4611686018427387904 := by
  have := (mul_box (sg a) (sg b) 2147483648 2147483648 (sg_lo a ha) (by have := sg_hi a ha'; omega) (sg_lo b hb) (by have := sg_hi b hb'; omega)).2; omega
theorem hi_mod (n : Int) : lo32 (n % 18446744073709551616 / 4294967296) = lo32 (n / 4294967296) := by unfold lo32; omega
theorem lo_mod (n : Int) : lo32 (n % 18446744073709551616) = lo32 n := by unfold lo32; omega

/-! ### bits -/
theorem or_dbl (a b : Int) (ha : 0 ≤ a) (ha' : a ≤ 4294967295) (hb : 0 ≤ b) (hb' : b ≤ 4294967295) : bits .or .u64 (a * 4294967296) b = dbl a b := by
  rw [u64_or _ _ (by omega) (by omega) (by omega) (by omega), nat_join 32 _ _ (by omega) (by omega)]; unfold dbl; omega
theorem and_sign (a : Int) (ha : 0 ≤ a) (ha' : a ≤ 4294967295) : bits .and .u32 a 2147483648 = if a < 2147483648 then 0 else 2147483648 := by
  rw [u32_and _ _ ha (by omega) (by omega) (by omega)]
  have := nat_bit 31 a.toNat
  simp only [show (2147483648 : Int).toNat = 2 ^ 31 from rfl, this]
  split <;> omega
theorem andNot_sign (a : Int) (ha : 0 ≤ a) (ha' : a ≤ 4294967295) : bits .andNot .u32 a 2147483648 = a % 2147483648 := by
  rw [u32_andNot _ _ ha (by omega) (by omega) (by omega)]
  have := nat_mask31 a.toNat
  simp only [show 4294967295 - (2147483648 : Int).toNat = 2147483647 from rfl, this]
  omega
theorem or_sign (s x : Int) (hs : s = 0 ∨ s = 2147483648) (hx : 0 ≤ x) (hx' : x < 2147483648) : bits .or .u32 s x = s + x := by
  rw [u32_or _ _ (by omega) (by omega) (by omega) (by omega), nat_join 31 _ _ (by omega) (by omega)]; omega
theorem and_sign64 (a : Int) (ha : 0 ≤ a) (ha' : a ≤ 18446744073709551615) : bits .and .u64 a 9223372036854775808 = if a < 9223372036854775808 then 0 else 9223372036854775808 := by
  rw [u64_and _ _ ha (by omega) (by omega) (by omega)]
  have := nat_bit 63 a.toNat
  simp only [show (9223372036854775808 : Int).toNat = 2 ^ 63 from rfl, this]
  split <;> omega
theorem andNot_sign64 (a : Int) (ha : 0 ≤ a) (ha' : a ≤ 18446744073709551615) : bits .andNot .u64 a 9223372036854775808 = a % 9223372036854775808 := by
  rw [u64_andNot _ _ ha (by omega) (by omega) (by omega)]
  have := nat_mask63 a.toNat
  simp only [show 18446744073709551615 - (9223372036854775808 : Int).toNat = 9223372036854775807 from rfl, this]
  omega
theorem or_sign64 (s x : Int) (hs : s = 0 ∨ s = 9223372036854775808) (hx : 0 ≤ x) (hx' : x < 9223372036854775808) : bits .or .u64 s x = s + x := by
  rw [u64_or _ _ (by omega) (by omega) (by omega) (by omega), nat_join 63 _ _ (by omega) (by omega)]; omega
theorem and_one64 (a : Int) (ha : 0 ≤ a) (ha' : a ≤ 18446744073709551615) : bits .and .u64 a 1 = a % 2 := by
  rw [u64_and _ _ ha (by omega) (by omega) (by omega)]
  have := nat_mask1 a.toNat
  simp only [show (1 : Int).toNat = 1 from rfl, this]
  omega

/-! ### powers of two -/
theorem pow_pos2 (p : Nat) : (0 : Int) < 2 ^ p := Int.pow_pos (by decide)
theorem pow_le (p q : Nat) (h : p ≤ q) : (2 : Int) ^ p ≤ 2 ^ q := by
  have := Nat.pow_le_pow_right (n := 2) (by decide) h
  exact_mod_cast this
theorem pow_split (p q : Nat) (h : p ≤ q) : ∃ r : Int, 0 < r ∧ (2 : Int) ^ q = 2 ^ p * r := ⟨2 ^ (q - p), pow_pos2 _, by rw [← Int.pow_add]; congr 1; omega⟩
theorem pow_ge32 (p : Nat) (h : 32 ≤ p) : ∃ r : Int, 0 < r ∧ (2 : Int) ^ p = 4294967296 * r := pow_split 32 p h
theorem pow_le31 (p : Nat) (h : p < 32) : (2 : Int) ^ p ≤ 2147483648 := pow_le p 31 (by omega)

/-! ### the shift to the left of a word -/
theorem slv_sum (v : Int) (p : Nat) : slv v p = (if v < 2147483648 then 0 else 2147483648) + sg v * 2 ^ p % 2147483648 := rfl
theorem slv_lo (v : Int) (p : Nat) : 0 ≤ slv v p := by unfold slv; split <;> omega
theorem slv_hi (v : Int) (p : Nat) : slv v p ≤ 4294967295 := by unfold slv; split <;> omega
theorem slv_ge32 (v : Int) (p : Nat) (h : 32 ≤ p) : slv v p = if v < 2147483648 then 0 else 2147483648 := by
  obtain ⟨r, _, e⟩ := pow_ge32 p h
  unfold slv
  rw [e, show sg v * (4294967296 * r) = 2147483648 * (2 * (sg v * r)) from by rw [Int.mul_left_comm]; omega, Int.mul_emod_right]; omega
theorem slo_ge32 (v : Int) (p : Nat) (h : 32 ≤ p) (h0 : 0 ≤ v) (h1 : v ≤ 4294967295) : slo v p = (v != 0) := by
  obtain ⟨r, hr, e⟩ := pow_ge32 p h
  unfold slo
  rw [Bool.eq_iff_iff, ovf_iff, bne_iff_ne, e, show sg v * (4294967296 * r) = 4294967296 * (sg v * r) from by rw [Int.mul_left_comm]]
  by_cases hv : v = 0
  · subst hv; simp [sg_zero]
  · have : sg v < 0 ∨ 0 < sg v := by unfold sg; split <;> omega
    rcases this with hs | hs
    · have h2 : sg v * r ≤ -1 := by have := Int.mul_neg_of_neg_of_pos hs hr; omega
      constructor <;> omega
    · have h2 : 1 ≤ sg v * r := by have := Int.mul_pos hs hr; omega
      constructor <;> omega
theorem exact_box (v : Int) (p : Nat) (h : p < 32) (h0 : 0 ≤ v) (h1 : v ≤ 4294967295) : -4611686018427387904 ≤ sg v * 2 ^ p ∧ sg v * 2 ^ p ≤ 4611686018427387904 := by
  have := mul_box (sg v) (2 ^ p) 2147483648 2147483648 (sg_lo v h0) (by have := sg_hi v h1; omega) (by have := pow_pos2 p; omega) (pow_le31 p h)
  omega
theorem exact_high (n : Int) : ovf n = true ↔ (¬ n / 2147483648 = 0 ∧ ¬ n / 2147483648 = -1) := by rw [ovf_iff]; omega
/-- one place more, as the reference takes it -/
theorem slv_succ (v : Int) (k : Nat) (h0 : 0 ≤ v) (h1 : v ≤ 4294967295) : slv v (k + 1) = v / 2147483648 * 2147483648 + slv v k * 2 % 2147483648 := by
  unfold slv
  rw [Int.pow_succ, ← Int.mul_assoc]
  split <;> omega
theorem slo_succ (v : Int) (k : Nat) (h0 : 0 ≤ v) (_h1 : v ≤ 4294967295) : slo v (k + 1) = (slo v k || (slv v k / 1073741824 % 2 != v / 2147483648)) := by
  unfold slo slv
  rw [Bool.eq_iff_iff, Bool.or_eq_true, ovf_iff, ovf_iff, bne_iff_ne, Int.pow_succ, ← Int.mul_assoc]
  have hs : (v < 2147483648 ∧ 0 ≤ sg v * 2 ^ k) ∨ (¬ v < 2147483648 ∧ sg v * 2 ^ k < 0) := by
    have hp := pow_pos2 k
    by_cases hv : v < 2147483648
    · exact .inl ⟨hv, Int.mul_nonneg (by unfold sg; rw [if_pos hv]; exact h0) (by omega)⟩
    · exact .inr ⟨hv, Int.mul_neg_of_neg_of_pos (by unfold sg; rw [if_neg hv]; omega) hp⟩
  generalize sg v * 2 ^ k = m at *
  rcases hs with ⟨hv, hm⟩ | ⟨hv, hm⟩
  · rw [if_pos hv]; omega
  · rw [if_neg hv]; omega
theorem slv_zero (v : Int) (h0 : 0 ≤ v) (h1 : v ≤ 4294967295) : slv v 0 = v := by unfold slv sg; simp only [Int.pow_zero]; split <;> omega
theorem slo_zero (v : Int) (h0 : 0 ≤ v) (h1 : v ≤ 4294967295) : slo v 0 = false := by
  unfold slo; rw [ovf_no, Int.pow_zero, Int.mul_one]; exact ⟨sg_lo v h0, sg_hi v h1⟩

/-! ### the shift to the left of a double word -/
theorem dlv_lo (v : Int) (p : Nat) : 0 ≤ dlv v p := by unfold dlv; split <;> omega
theorem dlv_hi (v : Int) (p : Nat) : dlv v p ≤ 18446744073709551615 := by unfold dlv; split <;> omega
theorem dlv_low (v : Int) (p : Nat) : v * 2 ^ p % 18446744073709551616 % 9223372036854775808 = sg64 v * 2 ^ p % 9223372036854775808 := by
  unfold sg64
  split
  · omega
  · rw [Int.sub_mul]; omega
theorem dlo_test (x : Int) (p : Nat) (hp : p ≤ 63) (h0 : 0 ≤ x) (h1 : x ≤ 18446744073709551615) : (wrap64 (sg64 x * 2 ^ p) / 2 ^ p != sg64 x) = dlo x p := by
  unfold dlo
  rw [Bool.eq_iff_iff, ovf64_iff, bne_iff_ne]
  have hpos := pow_pos2 p
  by_cases h : -9223372036854775808 ≤ sg64 x * 2 ^ p ∧ sg64 x * 2 ^ p ≤ 9223372036854775807
  · rw [IntWalk.wrap64_in _ h, Int.mul_ediv_cancel _ (by omega)]
    constructor
    · intro hh; exact absurd rfl hh
    · intro hh; omega
  · constructor
    · intro _; omega
    · intro _ he
      obtain ⟨r, hr, e⟩ := pow_split p 64 (by omega)
      have e64 : (18446744073709551616 : Int) = 2 ^ p * r := by rw [← e]; rfl
      obtain ⟨j, hj⟩ : ∃ j : Int, wrap64 (sg64 x * 2 ^ p) = sg64 x * 2 ^ p + 18446744073709551616 * j := ⟨-((sg64 x * 2 ^ p + 9223372036854775808) / 18446744073709551616), by unfold wrap64; omega⟩
      have hj0 : j ≠ 0 := by
        rintro rfl
        have hw : wrap64 (sg64 x * 2 ^ p) = sg64 x * 2 ^ p := by rw [hj]; omega
        have hb : -9223372036854775808 ≤ wrap64 (sg64 x * 2 ^ p) ∧ wrap64 (sg64 x * 2 ^ p) ≤ 9223372036854775807 := by unfold wrap64; omega
        rw [hw] at hb
        exact h hb
      have h3 : sg64 x * 2 ^ p + 18446744073709551616 * j = (sg64 x + r * j) * 2 ^ p := by
        rw [e64, Int.add_mul, Int.mul_assoc, Int.mul_comm (r * j) (2 ^ p)]
      rw [hj, h3, Int.mul_ediv_cancel _ (by omega)] at he
      have h4 : r * j = 0 := by omega
      rcases Int.mul_eq_zero.mp h4 with h5 | h5
      · omega
      · exact hj0 h5
theorem dlv_succ (v : Int) (k : Nat) (h0 : 0 ≤ v) (h1 : v ≤ 18446744073709551615) : dlv v (k + 1) = v / 9223372036854775808 * 9223372036854775808 + dlv v k * 2 % 9223372036854775808 := by
  unfold dlv
  rw [Int.pow_succ, ← Int.mul_assoc]
  split <;> omega
theorem dlo_succ (v : Int) (k : Nat) (h0 : 0 ≤ v) (h1 : v ≤ 18446744073709551615) : dlo v (k + 1) = (dlo v k || (dlv v k / 4611686018427387904 % 2 != v / 9223372036854775808)) := by
  unfold dlo dlv
  rw [Bool.eq_iff_iff, Bool.or_eq_true, ovf64_iff, ovf64_iff, bne_iff_ne, Int.pow_succ, ← Int.mul_assoc]
  have hs : (v < 9223372036854775808 ∧ 0 ≤ sg64 v * 2 ^ k) ∨ (¬ v < 9223372036854775808 ∧ sg64 v * 2 ^ k < 0) := by
    have hp := pow_pos2 k
    by_cases hv : v < 9223372036854775808
    · exact .inl ⟨hv, Int.mul_nonneg (by unfold sg64; rw [if_pos hv]; exact h0) (by omega)⟩
    · exact .inr ⟨hv, Int.mul_neg_of_neg_of_pos (by unfold sg64; rw [if_neg hv]; omega) hp⟩
  generalize sg64 v * 2 ^ k = m at *
  rcases hs with ⟨hv, hm⟩ | ⟨hv, hm⟩
  · rw [if_pos hv]; omega
  · rw [if_neg hv]; omega
theorem dlv_zero (v : Int) (h0 : 0 ≤ v) (h1 : v ≤ 18446744073709551615) : dlv v 0 = v := by unfold dlv sg64; simp only [Int.pow_zero]; split <;> omega
theorem dlo_zero (v : Int) (h0 : 0 ≤ v) (h1 : v ≤ 18446744073709551615) : dlo v 0 = false := by
  unfold dlo; rw [ovf64_no, Int.pow_zero, Int.mul_one]; exact ⟨sg64_lo v h0, sg64_hi v h1⟩

/-! ### shifts to the right -/
theorem ediv_pow_succ (m : Int) (k : Nat) : m / 2 ^ (k + 1) = m / 2 ^ k / 2 := by
  rw [Int.pow_succ, Int.ediv_ediv_of_nonneg (by have := pow_pos2 k; omega)]
theorem ediv_pow_box (m : Int) (p : Nat) (B : Int) (h0 : -B ≤ m) (h1 : m ≤ B - 1) (hB : 0 ≤ B) : -B ≤ m / 2 ^ p ∧ m / 2 ^ p ≤ B - 1 := by
  have hp := pow_pos2 p
  constructor
  · have h2 : -B * 2 ^ p ≤ m := by
      have : -B * 2 ^ p ≤ -B * 1 := Int.mul_le_mul_of_nonpos_left (by omega) (by omega)
      omega
    exact (Int.le_ediv_iff_mul_le hp).mpr h2
  · have h3 : m < B * 2 ^ p := by
      have : B * 1 ≤ B * 2 ^ p := Int.mul_le_mul_of_nonneg_left (by omega) hB
      omega
    have := (Int.ediv_lt_iff_lt_mul hp).mpr h3
    omega
theorem sr_min (v : Int) (p : Nat) (h0 : 0 ≤ v) (h1 : v ≤ 4294967295) : sg v / 2 ^ min p 32 = sg v / 2 ^ p := by
  by_cases h : p ≤ 32
  · rw [Nat.min_eq_left h]
  · rw [Nat.min_eq_right (by omega)]
    have hl := sg_lo v h0
    have hu := sg_hi v h1
    have hp := pow_le 32 p (by omega)
    by_cases hs : 0 ≤ sg v
    · rw [Int.ediv_eq_zero_of_lt hs (by omega), Int.ediv_eq_zero_of_lt hs (by omega)]
    · have e1 : sg v / 2 ^ 32 = -1 := by omega
      have e2 : sg v / 2 ^ p = -1 := by
        have hpos := pow_pos2 p
        have a1 : -1 ≤ sg v / 2 ^ p := (Int.le_ediv_iff_mul_le hpos).mpr (by omega)
        have a2 := Int.ediv_neg_of_neg_of_pos (by omega : sg v < 0) hpos
        omega
      rw [e1, e2]
theorem srv_lo (v : Int) (p : Nat) : 0 ≤ srv v p := lo32_lo _
theorem srv_hi (v : Int) (p : Nat) : srv v p ≤ 4294967295 := lo32_hi _
theorem srv_zero (v : Int) (h0 : 0 ≤ v) (h1 : v ≤ 4294967295) : srv v 0 = v := by unfold srv; rw [Int.pow_zero, Int.ediv_one]; exact sg_mod v h0 h1
theorem srv_succ (v : Int) (k : Nat) (h0 : 0 ≤ v) (h1 : v ≤ 4294967295) : srv v (k + 1) = v / 2147483648 * 2147483648 + srv v k / 2 := by
  unfold srv lo32
  rw [ediv_pow_succ]
  have hb := ediv_pow_box (sg v) k 2147483648 (sg_lo v h0) (by have := sg_hi v h1; omega) (by omega)
  have hs : (v < 2147483648 ∧ 0 ≤ sg v / 2 ^ k) ∨ (¬ v < 2147483648 ∧ sg v / 2 ^ k < 0) := by
    by_cases hv : v < 2147483648
    · exact .inl ⟨hv, Int.ediv_nonneg (by unfold sg; rw [if_pos hv]; exact h0) (by have := pow_pos2 k; omega)⟩
    · exact .inr ⟨hv, Int.ediv_neg_of_neg_of_pos (by unfold sg; rw [if_neg hv]; omega) (pow_pos2 k)⟩
  generalize sg v / 2 ^ k = m at *
  omega
theorem drv_lo (v : Int) (p : Nat) : 0 ≤ drv v p := by unfold drv; omega
theorem drv_hi (v : Int) (p : Nat) : drv v p ≤ 18446744073709551615 := by unfold drv; omega
theorem drv_zero (v : Int) (h0 : 0 ≤ v) (h1 : v ≤ 18446744073709551615) : drv v 0 = v := by unfold drv; rw [Int.pow_zero, Int.ediv_one]; exact sg64_mod v h0 h1
theorem drv_succ (v : Int) (k : Nat) (h0 : 0 ≤ v) (h1 : v ≤ 18446744073709551615) : drv v (k + 1) = v / 9223372036854775808 * 9223372036854775808 + drv v k / 2 := by
  unfold drv
  rw [ediv_pow_succ]
  have hb := ediv_pow_box (sg64 v) k 9223372036854775808 (sg64_lo v h0) (by have := sg64_hi v h1; omega) (by omega)
  have hs : (v < 9223372036854775808 ∧ 0 ≤ sg64 v / 2 ^ k) ∨ (¬ v < 9223372036854775808 ∧ sg64 v / 2 ^ k < 0) := by
    by_cases hv : v < 9223372036854775808
    · exact .inl ⟨hv, Int.ediv_nonneg (by unfold sg64; rw [if_pos hv]; exact h0) (by have := pow_pos2 k; omega)⟩
    · exact .inr ⟨hv, Int.ediv_neg_of_neg_of_pos (by unfold sg64; rw [if_neg hv]; omega) (pow_pos2 k)⟩
  generalize sg64 v / 2 ^ k = m at *
  omega
theorem dr_box (x : Int) (p : Nat) (h0 : 0 ≤ x) (h1 : x ≤ 18446744073709551615) : -9223372036854775808 ≤ sg64 x / 2 ^ p ∧ sg64 x / 2 ^ p ≤ 9223372036854775807 := by
  have := ediv_pow_box (sg64 x) p 9223372036854775808 (sg64_lo x h0) (by have := sg64_hi x h1; omega) (by omega)
  omega
theorem sgn_drv (x : Int) (p : Nat) (h0 : 0 ≤ x) (h1 : x ≤ 18446744073709551615) : sg64 (drv x p) = sg64 x / 2 ^ p := by
  have hb := dr_box x p h0 h1
  unfold drv
  generalize sg64 x / 2 ^ p = m at *
  unfold sg64
  split <;> omega
/-! ### logical shifts -/
theorem slg_zero (v : Int) (l : Bool) (h0 : 0 ≤ v) (h1 : v ≤ 4294967295) : slg v 0 l = v := by unfold slg lo32; simp only [Int.pow_zero]; cases l <;> simp; omega
theorem slg_left (v : Int) (k : Nat) : slg v (k + 1) true = lo32 (slg v k true * 2) := by
  simp only [slg, lo32, if_true, Int.pow_succ, ← Int.mul_assoc]; omega
theorem slg_right (v : Int) (k : Nat) : slg v (k + 1) false = slg v k false / 2 := by
  simp [slg, ediv_pow_succ]
theorem slg_lo (v : Int) (k : Nat) (l : Bool) (h0 : 0 ≤ v) : 0 ≤ slg v k l := by
  unfold slg; split
  · exact lo32_lo _
  · exact Int.ediv_nonneg h0 (by have := pow_pos2 k; omega)
theorem ediv_pow_le (v : Int) (k : Nat) (h0 : 0 ≤ v) : v / 2 ^ k ≤ v := Int.ediv_le_self _ h0
theorem slg_hi (v : Int) (k : Nat) (l : Bool) (h0 : 0 ≤ v) (h1 : v ≤ 4294967295) : slg v k l ≤ 4294967295 := by
  unfold slg; split
  · exact lo32_hi _
  · have := ediv_pow_le v k h0; omega
theorem slg_min (v : Int) (p : Nat) (h0 : 0 ≤ v) (h1 : v ≤ 4294967295) : v / 2 ^ min p 32 = v / 2 ^ p := by
  by_cases h : p ≤ 32
  · rw [Nat.min_eq_left h]
  · rw [Nat.min_eq_right (by omega)]
    have hp := pow_le 32 p (by omega)
    rw [Int.ediv_eq_zero_of_lt h0 (by omega), Int.ediv_eq_zero_of_lt h0 (by omega)]
theorem slg_minL (v : Int) (p : Nat) : lo32 (v * 2 ^ min p 32) = lo32 (v * 2 ^ p) := by
  by_cases h : p ≤ 32
  · rw [Nat.min_eq_left h]
  · rw [Nat.min_eq_right (by omega)]
    obtain ⟨r, _, e⟩ := pow_ge32 p (by omega)
    unfold lo32
    rw [e, Int.mul_left_comm, Int.mul_emod_right]; omega
theorem dlg_zero (v : Int) (l : Bool) (h0 : 0 ≤ v) (h1 : v ≤ 18446744073709551615) : dlg v 0 l = v := by unfold dlg; simp only [Int.pow_zero]; cases l <;> simp; omega
theorem dlg_left (v : Int) (k : Nat) : dlg v (k + 1) true = dlg v k true * 2 % 18446744073709551616 := by
  simp only [dlg, if_true, Int.pow_succ, ← Int.mul_assoc]; omega
theorem dlg_right (v : Int) (k : Nat) : dlg v (k + 1) false = dlg v k false / 2 := by
  simp [dlg, ediv_pow_succ]
theorem dlg_lo (v : Int) (k : Nat) (l : Bool) (h0 : 0 ≤ v) : 0 ≤ dlg v k l := by
  unfold dlg; split
  · omega
  · exact Int.ediv_nonneg h0 (by have := pow_pos2 k; omega)
theorem dlg_hi (v : Int) (k : Nat) (l : Bool) (h0 : 0 ≤ v) (h1 : v ≤ 18446744073709551615) : dlg v k l ≤ 18446744073709551615 := by
  unfold dlg; split
  · omega
  · have := ediv_pow_le v k h0; omega

/-! ### division -/
theorem quo_test (n d : Int) (hd : d ≠ 0) (hn : -9223372036854775808 ≤ n) (hn' : n ≤ 9223372036854775807) : (wrap64 (wrap32 (wrap64 (n.tdiv d))) != wrap64 (n.tdiv d)) = !dok n d := by
  have hb : -9223372036854775808 ≤ n.tdiv d ∧ n.tdiv d ≤ 9223372036854775808 := by
    have h1 : (n.tdiv d).natAbs ≤ n.natAbs := by rw [Int.natAbs_tdiv]; exact Nat.div_le_self _ _
    omega
  unfold dok
  generalize n.tdiv d = q at *
  rw [Bool.eq_iff_iff]
  simp only [bne_iff_ne, Bool.not_eq_true', decide_eq_false_iff_not]
  unfold wrap64 wrap32
  omega
theorem dok_zero (n : Int) : dok n 0 = false := by simp [dok]
theorem dok_in (n d : Int) (h : dok n d = true) : d ≠ 0 ∧ -2147483648 ≤ n.tdiv d ∧ n.tdiv d ≤ 2147483647 := by simpa [dok] using h
theorem drem_ok (n d : Int) (h : dok n d = true) : drem n d = lo32 (n.tmod d) := by simp [drem, h]
theorem dquo_ok (n d : Int) (h : dok n d = true) : dquo n d = lo32 (n.tdiv d) := by simp [dquo, h]
theorem drem_no (n d : Int) (h : dok n d = false) : drem n d = 0 := by simp [drem, h]
theorem dquo_no (n d : Int) (h : dok n d = false) : dquo n d = 0 := by simp [dquo, h]
theorem dok_least (d : Int) (h0 : -2147483648 ≤ d) (h1 : d ≤ 2147483647) : dok (-9223372036854775808) d = false := by
  unfold dok
  rw [decide_eq_false_iff_not]
  rintro ⟨hd, h2, h3⟩
  have e := Int.mul_tdiv_add_tmod (-9223372036854775808) d
  have hr : ((-9223372036854775808 : Int).tmod d).natAbs < d.natAbs := by
    rw [Int.natAbs_tmod]; exact Nat.mod_lt _ (by omega)
  have hm := mul_box d ((-9223372036854775808 : Int).tdiv d) 2147483648 2147483648 (by omega) (by omega) (by omega) (by omega)
  generalize (-9223372036854775808 : Int).tdiv d = q at *
  generalize (-9223372036854775808 : Int).tmod d = r at *
  omega

/-! ### division, as the reference takes it -/
theorem tdiv_box (n d : Int) (hn : -9223372036854775808 < n) (hn' : n ≤ 9223372036854775807) : -9223372036854775808 < n.tdiv d ∧ n.tdiv d ≤ 9223372036854775807 := by
  have h1 : (n.tdiv d).natAbs ≤ n.natAbs := by rw [Int.natAbs_tdiv]; exact Nat.div_le_self _ _
  omega
theorem rquo_in (n d : Int) (_hd : d ≠ 0) (hn : -9223372036854775808 < n) (hn' : n ≤ 9223372036854775807) : wrap64 (n.tdiv d) = n.tdiv d := by
  have := tdiv_box n d hn hn'; exact IntWalk.wrap64_in _ (by omega)
theorem rquo_test (n d : Int) (hd : d ≠ 0) (_hn : -9223372036854775808 < n) (_hn' : n ≤ 9223372036854775807) : (sg (lo32 (n.tdiv d)) != n.tdiv d) = !dok n d := by
  rw [signed_test]; unfold dok
  rw [Bool.eq_iff_iff, ovf_iff]
  simp only [Bool.not_eq_true', decide_eq_false_iff_not]
  omega
theorem rrem_in (n d : Int) (_hd : d ≠ 0) (hn : -9223372036854775808 ≤ n) (hn' : n ≤ 9223372036854775807) : n - n.tdiv d * d = n.tmod d := by
  have := Int.tmod_add_tdiv_mul n d; omega

theorem rrem_w (n d : Int) : lo32 (wrap64 (n - wrap64 (n.tdiv d * d))) = lo32 (n.tmod d) := by
  have := Int.tmod_add_tdiv_mul n d
  generalize n.tdiv d * d = x at *
  unfold lo32 wrap64; omega

/-! ### the logical results -/
theorem sum_high (a b : Int) (ha : 0 ≤ a) (ha' : a ≤ 4294967295) (hb : 0 ≤ b) (hb' : b ≤ 4294967295) : decide (lo32 (a + b) < a) = decide (4294967296 ≤ a + b) := by
  rw [Bool.eq_iff_iff, decide_eq_true_iff, decide_eq_true_iff]; unfold lo32; omega
end Go.Proofs.Ythjdjbipfdigeaa
