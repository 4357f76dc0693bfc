/- PLAIN: a slice of bytes as a list of numbers; what the fields of package word are. No conditions. -/
import Derived.Test.YthjdjbipfdigeaaWd
import Derived.Below
import Derived.Deep.Draws
namespace Go.Proofs.Ythjdjbipfdigeaa
open Go.RowKit
set_option linter.unusedVariables false

/-- The slice value '.slice A len _' holds the bytes zs in the world w (nil too, where zs is empty). -/
def Byt (w : World) (A : Option Addr) (len : Nat) (zs : List Int) : Prop :=
  zs.length = len ∧ (∀ n ∈ zs, 0 ≤ n ∧ n ≤ 255) ∧ (0 < len → ∃ b off, A = some ⟨b, off, none⟩ ∧ ∀ i, i < len → w.cell? ⟨b, off + i, none⟩ = some (.int .u8 (zs.getD i 0)))

theorem Byt.range {w : World} {A : Option Addr} {len : Nat} {zs : List Int} (h : Byt w A len zs) (i : Nat) : 0 ≤ zs.getD i 0 ∧ zs.getD i 0 ≤ 255 := by
  rw [List.getD_eq_getElem?_getD]
  rcases Nat.lt_or_ge i zs.length with hi | hi
  · rw [List.getElem?_eq_getElem hi]; exact h.2.1 _ (List.getElem_mem hi)
  · rw [List.getElem?_eq_none hi]; simp
theorem Byt.at_ {w : World} {A : Option Addr} {len : Nat} {zs : List Int} (h : Byt w A len zs) (h0 : 0 < len) : ∃ b off, A = some ⟨b, off, none⟩ ∧ ∀ i, i < len → w.cell? ⟨b, off + i, none⟩ = some (.int .u8 (zs.getD i 0)) := h.2.2 h0
theorem Byt.keep {w w' : World} {A : Option Addr} {len : Nat} {zs : List Int} (h : Byt w A len zs) (hb : Below w.heap.size w w') : Byt w' A len zs := by
  refine ⟨h.1, h.2.1, fun h0 => ?_⟩
  obtain ⟨b, off, e, hc⟩ := h.2.2 h0
  refine ⟨b, off, e, fun i hi => ?_⟩
  have h1 := hc i hi
  rw [← h1]
  refine hb.cell (p := ⟨b, off + i, none⟩) ?_
  rcases Nat.lt_or_ge b w.heap.size with h2 | h2
  · exact h2
  · unfold World.cell? at h1; simp only [Array.getElem?_eq_none h2] at h1; cases h1
theorem Byt.drewN {w : World} {A : Option Addr} {len : Nat} {zs : List Int} (h : Byt w A len zs) (n : Nat) : Byt (w.drewN n) A len zs := h
theorem Byt.cut {w : World} {b off len : Nat} {zs : List Int} (h : Byt w (some ⟨b, off, none⟩) len zs) (k : Nat) (hk : k ≤ len) : Byt w (some ⟨b, off + k, none⟩) (len - k) (zs.drop k) := by
  refine ⟨by rw [List.length_drop, h.1], fun n hn => h.2.1 n (List.mem_of_mem_drop hn), fun h0 => ?_⟩
  obtain ⟨b', off', e, hc⟩ := h.2.2 (by omega)
  injection e with e; injection e with e1 e2; subst e1 e2
  refine ⟨b, off + k, rfl, fun i hi => ?_⟩
  have := hc (k + i) (by omega)
  rw [Nat.add_assoc, this]
  simp [List.getD_eq_getElem?_getD, List.getElem?_drop]
theorem Byt.pre {w : World} {A : Option Addr} {len : Nat} {zs : List Int} (h : Byt w A len zs) (k : Nat) (hk : k ≤ len) : Byt w A k (zs.take k) := by
  refine ⟨by rw [List.length_take, h.1]; omega, fun n hn => h.2.1 n (List.mem_of_mem_take hn), fun h0 => ?_⟩
  obtain ⟨b, off, e, hc⟩ := h.2.2 (by omega)
  refine ⟨b, off, e, fun i hi => ?_⟩
  rw [hc i (by omega)]
  simp [List.getD_eq_getElem?_getD, hi]

/-- does a field of n bytes from 'at_' on lie within len bytes? -/
def fitB (len : Nat) (at_ : Int) (n : Int) : Bool := decide (0 ≤ at_ ∧ at_ ≤ (len : Int) - n)
theorem fitB_yes {len : Nat} {at_ n : Int} (h : fitB len at_ n = true) : 0 ≤ at_ ∧ at_ ≤ (len : Int) - n := by simpa [fitB] using h
theorem fitB_no {len : Nat} {at_ n : Int} (h : fitB len at_ n = false) : ¬ (0 ≤ at_ ∧ at_ ≤ (len : Int) - n) := by unfold fitB at h; exact of_decide_eq_false h

/-- 16 bits with their sign -/
def sx16 (h : Int) : Int := if h < 32768 then h else h - 65536
/-- a halfword, extended to a word -/
def hfv (x y : Int) : Int := lo32 (sx16 (x * 256 + y))
/-- a fullword -/
def flv (x y z u : Int) : Int := x * 16777216 + y * 65536 + z * 256 + u
theorem sx16_lo (h : Int) (h0 : 0 ≤ h) : -32768 ≤ sx16 h := by unfold sx16; split <;> omega
theorem sx16_hi (h : Int) (h1 : h ≤ 65535) : sx16 h ≤ 32767 := by unfold sx16; split <;> omega
theorem wrap_i16 (n : Int) : IntKind.i16.wrap n = (n + 32768) % 65536 - 32768 := by
  simp only [IntKind.wrap, IntKind.bits, IntKind.signed]; simp; split <;> omega
theorem wrap_i16_sx (h : Int) (h0 : 0 ≤ h) (h1 : h ≤ 65535) : IntKind.i16.wrap h = sx16 h := by rw [wrap_i16]; unfold sx16; split <;> omega
theorem or_half (x y : Int) (hx : 0 ≤ x) (hx' : x ≤ 255) (hy : 0 ≤ y) (hy' : y ≤ 255) : bits .or .i16 (IntKind.i16.wrap (x * 256)) y = sx16 (x * 256 + y) := by
  show IntKind.i16.wrap ((BitVec.ofInt 16 (IntKind.i16.wrap (x * 256)) ||| BitVec.ofInt 16 y).toNat : Int) = _
  have e1 : (BitVec.ofInt 16 (IntKind.i16.wrap (x * 256))).toNat = (x * 256).toNat := by rw [BitVec.toNat_ofInt, wrap_i16]; omega
  have e2 : (BitVec.ofInt 16 y).toNat = y.toNat := by rw [BitVec.toNat_ofInt]; omega
  rw [BitVec.toNat_or, e1, e2, nat_join 8 _ _ (by omega) (by omega), ← wrap_i16_sx _ (by omega) (by omega)]
  congr 1; omega
theorem or_32 (i : Nat) (x y : Int) (p : Int) (hp : p = 2 ^ i) (hx : 0 ≤ x) (hx' : x ≤ 4294967295) (hm : x % p = 0) (hy : 0 ≤ y) (hy' : y < p) (hyy : y ≤ 4294967295) : bits .or .u32 x y = x + y := by
  subst hp
  rw [u32_or _ _ (by omega) (by omega) (by omega) (by omega), nat_join i _ _ ?_ ?_]
  · omega
  · have : ((x.toNat % 2 ^ i : Nat) : Int) = 0 := by rw [Int.natCast_emod]; simpa [Int.toNat_of_nonneg hx] using hm
    omega
  · have : ((y.toNat : Nat) : Int) < ((2 ^ i : Nat) : Int) := by simpa [Int.toNat_of_nonneg hy] using hy'
    omega
end Go.Proofs.Ythjdjbipfdigeaa
