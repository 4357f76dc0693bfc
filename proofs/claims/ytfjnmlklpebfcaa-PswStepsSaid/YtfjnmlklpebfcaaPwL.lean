/- PLAIN facts of package psw (Encode and Decode undo each other; more mask bits; complementary masks) and the contracts in the form that the laws take. No conditions but ranges. -/
import Derived.Test.YtfjnmlklpebfcaaPwK
import Derived.Test.YtfjnmlklpebfcaaPwG
import Derived.Test.YtfjnmlklpebfcaaKp
namespace Go.Proofs.Ytfjnmlklpebfcaa
open Go.RowKit
set_option linter.unusedVariables false
set_option linter.unusedSimpArgs false
theorem i64_lowx (n : Nat) (m a : Int) (hm : m = ((2 ^ n - 1 : Nat) : Int)) (hn : n ≤ 40) : bits .and .i64 a m = a % ((2 ^ n : Nat) : Int) := by
  have hle : 2 ^ n ≤ 2 ^ 40 := Nat.pow_le_pow_right (by omega) hn
  have hpos : 0 < 2 ^ n := Nat.two_pow_pos n
  have hdvd : ((2 ^ n : Nat) : Int) ∣ ((2 ^ 64 : Nat) : Int) := by
    have h1 : (2 ^ n : Nat) ∣ 2 ^ 64 := Nat.pow_dvd_pow 2 (by omega)
    exact Int.natCast_dvd_natCast.2 h1
  show IntKind.i64.wrap ((BitVec.ofInt 64 a &&& BitVec.ofInt 64 m).toNat : Int) = _
  rw [BitVec.toNat_and, ofInt64_nat m (by omega) (by omega), hm, Int.toNat_natCast, Nat.and_two_pow_sub_one_eq_mod]
  have hlt : (BitVec.ofInt 64 a).toNat % 2 ^ n < 2 ^ n := Nat.mod_lt _ hpos
  rw [wrap_i64_nat _ (by omega), Int.natCast_emod, BitVec.toNat_ofInt]
  have h2 : (((a % ((2 ^ 64 : Nat) : Int)).toNat : Nat) : Int) = a % ((2 ^ 64 : Nat) : Int) := Int.toNat_of_nonneg (Int.emod_nonneg _ (by omega))
  rw [h2, Int.emod_emod_of_dvd _ hdvd]
theorem branches_once_fin : ∀ (i : Fin 16) (j : Fin 4), pbr (i.val : Int) (j.val : Int) = !(pbr (15 - (i.val : Int)) (j.val : Int)) ∧ pbr 15 (j.val : Int) = true := by decide
theorem branches_once (m c : Int) (h0 : 0 ≤ m) (h1 : m ≤ 15) (h2 : 0 ≤ c) (h3 : c ≤ 3) : (pbr m c != pbr (15 - m) c) = true ∧ pbr 15 c = true := by
  obtain ⟨i, rfl⟩ := Int.eq_ofNat_of_zero_le h0
  obtain ⟨j, rfl⟩ := Int.eq_ofNat_of_zero_le h2
  have := branches_once_fin ⟨i, by omega⟩ ⟨j, by omega⟩
  refine ⟨?_, this.2⟩
  rw [this.1]; simp
/-- bit i stays set in a union -/
theorem or_bit (a b : Int) (ha : 0 ≤ a) (ha' : a ≤ 9223372036854775807) (hb : 0 ≤ b) (hb' : b ≤ 9223372036854775807) (i : Nat) (h : a / ((2 ^ i : Nat) : Int) % 2 = 1) : bits .or .i64 a b / ((2 ^ i : Nat) : Int) % 2 = 1 := by
  rw [i64_or a b ha ha' hb hb']
  obtain ⟨x, rfl⟩ := Int.eq_ofNat_of_zero_le ha
  obtain ⟨y, rfl⟩ := Int.eq_ofNat_of_zero_le hb
  rw [Int.toNat_natCast, Int.toNat_natCast]
  have h1 : x / 2 ^ i % 2 = 1 := by rw [← Int.natCast_ediv] at h; omega
  have h2 : (x ||| y).testBit i = true := by rw [Nat.testBit_or, Nat.testBit_eq_decide_div_mod_eq, h1]; simp
  rw [Nat.testBit_eq_decide_div_mod_eq, decide_eq_true_iff] at h2
  rw [← Int.natCast_ediv]; omega
theorem or_le (n : Nat) (a b : Int) (ha : 0 ≤ a) (ha' : a < ((2 ^ n : Nat) : Int)) (hb : 0 ≤ b) (hb' : b < ((2 ^ n : Nat) : Int)) (hn : n ≤ 40) : 0 ≤ bits .or .i64 a b ∧ bits .or .i64 a b < ((2 ^ n : Nat) : Int) := by
  have hle : 2 ^ n ≤ 2 ^ 40 := Nat.pow_le_pow_right (by omega) hn
  rw [i64_or a b ha (by omega) hb (by omega)]
  have : a.toNat ||| b.toNat < 2 ^ n := Nat.or_lt_two_pow (by omega) (by omega)
  omega
/-- more bits withdraw no admission -/
theorem padm_mono (m g m' g' : Int) (M M' : Bool) (cl code ch : Int) (hm : ∀ i : Nat, m / ((2 ^ i : Nat) : Int) % 2 = 1 → m' / ((2 ^ i : Nat) : Int) % 2 = 1) (hg : ∀ i : Nat, g / ((2 ^ i : Nat) : Int) % 2 = 1 → g' / ((2 ^ i : Nat) : Int) % 2 = 1) (hM : M = true → M' = true)
    (h : padm m g M cl code ch = true) : padm m' g' M' cl code ch = true := by
  have m0 := hm 0
  have g3 := hg 3
  have g2 := hg 2
  have mi := hm (7 - ch.toNat)
  clear hm hg
  unfold padm at h ⊢
  by_cases h1 : cl = 1
  · simp [h1] at h ⊢; simp at m0; exact m0 h
  by_cases h2 : cl = 2
  · simp [h2]
  by_cases h3 : cl = 3
  · simp [h3, pprog] at h ⊢
    by_cases c8 : code = 8
    · simp [c8] at h ⊢; exact g3 h
    by_cases c10 : code = 10
    · simp [c10] at h ⊢; exact g2 h
    simp [c8, c10] at h ⊢; exact h
  by_cases h4 : cl = 4
  · simp [h4] at h ⊢; exact hM h
  by_cases h5 : cl = 5
  · simp [h5, pio] at h ⊢; exact ⟨h.1, by have := mi; simp at this; exact this h.2⟩
  simp [h1, h2, h3, h4, h5] at h
theorem dec_enc (x0 x1 x2 x3 x4 x5 x6 x7 : Int) (h0 : 0 ≤ x0) (g0 : x0 ≤ 255) (h1 : 0 ≤ x1) (g1 : x1 ≤ 255) (h2 : 0 ≤ x2) (g2 : x2 ≤ 255) (h3 : 0 ≤ x3) (g3 : x3 ≤ 255) (h4 : 0 ≤ x4) (g4 : x4 ≤ 255) (h5 : 0 ≤ x5) (g5 : x5 ≤ 255) (h6 : 0 ≤ x6) (g6 : x6 ≤ 255) (h7 : 0 ≤ x7) (g7 : x7 ≤ 255) (hx : x1 / 8 % 2 = 0) :
    pok x0 (x1 / 16) (256 * x2 + x3) (x4 / 64) (x4 / 16 % 4) (x4 % 16) (65536 * x5 + 256 * x6 + x7) = true ∧
    penc x0 (x1 / 16) (decide (x1 / 4 % 2 = 1)) (decide (x1 / 2 % 2 = 1)) (decide (x1 % 2 = 1)) (256 * x2 + x3) (x4 / 64) (x4 / 16 % 4) (x4 % 16) (65536 * x5 + 256 * x6 + x7) = [x0, x1, x2, x3, x4, x5, x6, x7] := by
  constructor
  · rw [pok_iff]; omega
  · unfold penc
    have e1 : psec (x1 / 16) (decide (x1 / 4 % 2 = 1)) (decide (x1 / 2 % 2 = 1)) (decide (x1 % 2 = 1)) = x1 := by
      unfold psec b2i
      by_cases a : x1 / 4 % 2 = 1 <;> by_cases b : x1 / 2 % 2 = 1 <;> by_cases c : x1 % 2 = 1 <;> simp [a, b, c] <;> omega
    rw [e1]
    congr 1
    congr 1
    congr 1
    · omega
    congr 1
    · omega
    congr 1
    · omega
    congr 1
    · omega
    congr 1
    · omega
    congr 1
    omega
theorem list8 (zs : List Int) (h : zs.length = 8) : ∃ x0 x1 x2 x3 x4 x5 x6 x7, zs = [x0, x1, x2, x3, x4, x5, x6, x7] := by
  match zs, h with
  | [x0, x1, x2, x3, x4, x5, x6, x7], _ => exact ⟨_, _, _, _, _, _, _, _, rfl⟩
/-- Decode of an encoding -/
theorem decode_enc (A : Option Addr) (n cap : Nat) (m k : Int) (M W P : Bool) (c i q g a : Int) (w : World) (hp : pok m k c i q g a = true) (hb : Byt w A n (penc m k M W P c i q g a)) :
    Calls Try.prog 18 #[.slice A n cap] w fun e w' => e = .returned (.tuple #[.agg #[.int .i64 m, .int .i64 k, .bool M, .bool W, .bool P, .int .i64 c, .int .i64 i, .int .i64 q, .int .i64 g, .int .i64 a], .bool true]) ∧ Below w.heap.size w w' := by
  have hq := (pok_iff m k c i q g a).1 hp
  have hn : n = 8 := by rw [← hb.1]; rfl
  subst hn
  have hps : psec k M W P / 8 % 2 = 0 ∧ psec k M W P / 16 = k ∧ decide (psec k M W P / 4 % 2 = 1) = M ∧ decide (psec k M W P / 2 % 2 = 1) = W ∧ decide (psec k M W P % 2 = 1) = P := by
    unfold psec b2i
    cases M <;> cases W <;> cases P <;> simp <;> omega
  have hd : pdok 8 (penc m k M W P c i q g a) = true := by unfold pdok penc; simp [hps.1]
  have hc := decode_x A 8 cap _ w hb (by omega) hd m (psec k M W P) (c / 256) (c % 256) (64 * i + 16 * q + g) (a / 65536) (a / 256 % 256) (a % 256) ⟨rfl, rfl, rfl, rfl, rfl, rfl, rfl, rfl⟩
  rw [hps.2.1, hps.2.2.1, hps.2.2.2.1, hps.2.2.2.2] at hc
  have e1 : 256 * (c / 256) + c % 256 = c := by omega
  have e2 : (64 * i + 16 * q + g) / 64 = i := by omega
  have e3 : (64 * i + 16 * q + g) / 16 % 4 = q := by omega
  have e4 : (64 * i + 16 * q + g) % 16 = g := by omega
  have e5 : 65536 * (a / 65536) + 256 * (a / 256 % 256) + a % 256 = a := by omega
  rw [e1, e2, e3, e4, e5] at hc
  exact hc
end Go.Proofs.Ytfjnmlklpebfcaa
