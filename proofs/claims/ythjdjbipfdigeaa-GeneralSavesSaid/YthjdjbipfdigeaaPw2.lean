/- PLAIN: bits of 64-bit and 8-bit numbers as package psw uses them. No program in sight. No conditions but ranges. -/
import Derived.Test.YthjdjbipfdigeaaPw
import Derived.Laws.BitsAllLaws
namespace Go.Proofs.Ythjdjbipfdigeaa
open Go.RowKit
set_option linter.unusedVariables false
theorem wrap_i64_nat (n : Nat) (h : n < 9223372036854775808) : IntKind.i64.wrap (n : Int) = n := by
  simp only [IntKind.wrap, IntKind.bits, IntKind.signed]; simp; omega
theorem ofInt64_nat (a : Int) (h0 : 0 ≤ a) (h1 : a ≤ 9223372036854775807) : (BitVec.ofInt 64 a).toNat = a.toNat := by rw [BitVec.toNat_ofInt]; omega
theorem i64_and (a b : Int) (h0 : 0 ≤ a) (h1 : a ≤ 9223372036854775807) (h2 : 0 ≤ b) (h3 : b ≤ 9223372036854775807) : bits .and .i64 a b = ((a.toNat &&& b.toNat : Nat) : Int) := by
  show IntKind.i64.wrap ((BitVec.ofInt 64 a &&& BitVec.ofInt 64 b).toNat : Int) = _
  rw [BitVec.toNat_and, ofInt64_nat a h0 h1, ofInt64_nat b h2 h3]
  exact wrap_i64_nat _ (Nat.lt_of_le_of_lt Nat.and_le_left (by omega))
theorem i64_or (a b : Int) (h0 : 0 ≤ a) (h1 : a ≤ 9223372036854775807) (h2 : 0 ≤ b) (h3 : b ≤ 9223372036854775807) : bits .or .i64 a b = ((a.toNat ||| b.toNat : Nat) : Int) := by
  show IntKind.i64.wrap ((BitVec.ofInt 64 a ||| BitVec.ofInt 64 b).toNat : Int) = _
  rw [BitVec.toNat_or, ofInt64_nat a h0 h1, ofInt64_nat b h2 h3]
  exact wrap_i64_nat _ (Nat.or_lt_two_pow (n := 63) (by omega) (by omega))
/-- one bit -/
theorem i64_bit (i : Nat) (p a : Int) (hp : p = ((2 ^ i : Nat) : Int)) (hi : i ≤ 40) (h0 : 0 ≤ a) (h1 : a ≤ 9223372036854775807) : (bits .and .i64 a p != 0) = decide (a / p % 2 = 1) := by
  have hpos : 0 < 2 ^ i := Nat.two_pow_pos i
  have hle : 2 ^ i ≤ 2 ^ 40 := Nat.pow_le_pow_right (by omega) hi
  subst hp
  rw [i64_and a _ h0 h1 (by omega) (by omega), Int.toNat_natCast, nat_bit]
  obtain ⟨n, rfl⟩ := Int.eq_ofNat_of_zero_le h0
  rw [Int.toNat_natCast]
  have e : ((n : Int) / ((2 ^ i : Nat) : Int) % 2 = 1) ↔ n / 2 ^ i % 2 = 1 := by
    rw [← Int.natCast_ediv]; omega
  rw [Bool.eq_iff_iff, bne_iff_ne, decide_eq_true_iff, e]
  rcases Nat.mod_two_eq_zero_or_one (n / 2 ^ i) with h | h
  · rw [h]; simp
  · rw [h, Nat.one_mul]; exact ⟨fun _ => rfl, fun _ hc => by omega⟩
theorem andNot0 (u m : BitVec 64) : (u &&& ~~~m) = 0#64 ↔ u &&& m = u := by
  constructor
  · intro h
    apply BitVec.eq_of_getLsbD_eq
    intro i hi
    have h2 := congrArg (fun x => BitVec.getLsbD x i) h
    simp [hi] at h2
    simp
    exact h2
  · intro h
    rw [← h]
    apply BitVec.eq_of_getLsbD_eq
    intro i hi
    simp [hi]
theorem andNot_in (n : Nat) (m x : Int) (hm : m = ((2 ^ n - 1 : Nat) : Int)) (hn : n ≤ 8) (h0 : -9223372036854775808 ≤ x) (h1 : x ≤ 9223372036854775807) : (bits .andNot .i64 x m == 0) = inr x m := by
  have hle : 2 ^ n ≤ 2 ^ 8 := Nat.pow_le_pow_right (by omega) hn
  have hpos : 0 < 2 ^ n := Nat.two_pow_pos n
  have eb : bits .andNot .i64 x m = IntKind.i64.wrap ((BitVec.ofInt 64 x &&& ~~~BitVec.ofInt 64 m).toNat : Int) := rfl
  rw [Bool.eq_iff_iff, beq_iff_eq, eb]
  have e1 : IntKind.i64.wrap ((BitVec.ofInt 64 x &&& ~~~BitVec.ofInt 64 m).toNat : Int) = 0 ↔ (BitVec.ofInt 64 x &&& ~~~BitVec.ofInt 64 m) = 0#64 := by
    constructor
    · intro h
      apply BitVec.eq_of_toNat_eq
      have hl := (BitVec.ofInt 64 x &&& ~~~BitVec.ofInt 64 m).isLt
      revert h hl
      generalize (BitVec.ofInt 64 x &&& ~~~BitVec.ofInt 64 m).toNat = t
      intro h hl
      simp only [IntKind.wrap, IntKind.bits, IntKind.signed] at h
      simp at h ⊢
      split at h <;> omega
    · intro h; rw [h]; rfl
  rw [e1, andNot0]
  have e2 : (BitVec.ofInt 64 x &&& BitVec.ofInt 64 m = BitVec.ofInt 64 x) ↔ (BitVec.ofInt 64 x).toNat % 2 ^ n = (BitVec.ofInt 64 x).toNat := by
    rw [← BitVec.toNat_inj, BitVec.toNat_and, ofInt64_nat m (by omega) (by omega), hm, Int.toNat_natCast, Nat.and_two_pow_sub_one_eq_mod]
  rw [e2, BitVec.toNat_ofInt]
  unfold inr
  rw [decide_eq_true_iff]
  have e3 : (x % (2 ^ 64 : Nat)).toNat % 2 ^ n = (x % (2 ^ 64 : Nat)).toNat ↔ (x % (2 ^ 64 : Nat)).toNat < 2 ^ n := by
    constructor
    · intro h; rw [← h]; exact Nat.mod_lt _ hpos
    · exact Nat.mod_eq_of_lt
  rw [e3]
  omega
theorem i64_low (n : Nat) (m a : Int) (hm : m = ((2 ^ n - 1 : Nat) : Int)) (hn : n ≤ 40) (h0 : 0 ≤ a) (h1 : a ≤ 9223372036854775807) : bits .and .i64 a m = a % ((2 ^ n : Nat) : Int) := by
  have hle : 2 ^ n ≤ 2 ^ 40 := Nat.pow_le_pow_right (by omega) hn
  have hpos : 0 < 2 ^ n := Nat.two_pow_pos n
  rw [i64_and a m h0 h1 (by omega) (by omega), hm, Int.toNat_natCast, Nat.and_two_pow_sub_one_eq_mod]
  obtain ⟨k, rfl⟩ := Int.eq_ofNat_of_zero_le h0
  simp
theorem i64_join (i : Nat) (p x y : Int) (hp : p = ((2 ^ i : Nat) : Int)) (hx : 0 ≤ x) (hx' : x ≤ 9223372036854775807) (hm : x % p = 0) (hy : 0 ≤ y) (hy' : y < p) (hyy : y ≤ 9223372036854775807) : bits .or .i64 x y = x + y := by
  subst hp
  rw [i64_or _ _ hx hx' hy hyy]
  obtain ⟨a, rfl⟩ := Int.eq_ofNat_of_zero_le hx
  obtain ⟨b, rfl⟩ := Int.eq_ofNat_of_zero_le hy
  rw [Int.toNat_natCast, Int.toNat_natCast, nat_join i _ _ (by have := hm; rw [← Int.natCast_emod] at this; omega) (by omega)]
  simp
theorem u8_join (i : Nat) (p x y : Int) (hp : p = ((2 ^ i : Nat) : Int)) (hx : 0 ≤ x) (hx' : x ≤ 255) (hm : x % p = 0) (hy : 0 ≤ y) (hy' : y < p) (hyy : y ≤ 255) : bits .or .u8 x y = x + y := by
  subst hp
  rw [u8_or _ _ hx (by omega) hy (by omega)]
  obtain ⟨a, rfl⟩ := Int.eq_ofNat_of_zero_le hx
  obtain ⟨b, rfl⟩ := Int.eq_ofNat_of_zero_le hy
  rw [Int.toNat_natCast, Int.toNat_natCast, nat_join i _ _ (by have := hm; rw [← Int.natCast_emod] at this; omega) (by omega)]
  simp
theorem u8_bit (i : Nat) (p a : Int) (hp : p = ((2 ^ i : Nat) : Int)) (hi : i ≤ 7) (h0 : 0 ≤ a) (h1 : a ≤ 255) : (bits .and .u8 a p != 0) = decide (a / p % 2 = 1) := by
  have hpos : 0 < 2 ^ i := Nat.two_pow_pos i
  have hle : 2 ^ i ≤ 2 ^ 7 := Nat.pow_le_pow_right (by omega) hi
  subst hp
  rw [u8_and a _ h0 (by omega) (by omega) (by omega), Int.toNat_natCast, nat_bit]
  obtain ⟨n, rfl⟩ := Int.eq_ofNat_of_zero_le h0
  rw [Int.toNat_natCast]
  have e : ((n : Int) / ((2 ^ i : Nat) : Int) % 2 = 1) ↔ n / 2 ^ i % 2 = 1 := by
    rw [← Int.natCast_ediv]; omega
  rw [Bool.eq_iff_iff, bne_iff_ne, decide_eq_true_iff, e]
  rcases Nat.mod_two_eq_zero_or_one (n / 2 ^ i) with h | h
  · rw [h]; simp
  · rw [h, Nat.one_mul]; exact ⟨fun _ => rfl, fun _ hc => by omega⟩
theorem u8_low (n : Nat) (m a : Int) (hm : m = ((2 ^ n - 1 : Nat) : Int)) (hn : n ≤ 8) (h0 : 0 ≤ a) (h1 : a ≤ 255) : bits .and .u8 a m = a % ((2 ^ n : Nat) : Int) := by
  have hle : 2 ^ n ≤ 2 ^ 8 := Nat.pow_le_pow_right (by omega) hn
  have hpos : 0 < 2 ^ n := Nat.two_pow_pos n
  rw [u8_and a m h0 (by omega) (by omega) (by omega), hm, Int.toNat_natCast, Nat.and_two_pow_sub_one_eq_mod]
  obtain ⟨k, rfl⟩ := Int.eq_ofNat_of_zero_le h0
  simp
end Go.Proofs.Ythjdjbipfdigeaa
