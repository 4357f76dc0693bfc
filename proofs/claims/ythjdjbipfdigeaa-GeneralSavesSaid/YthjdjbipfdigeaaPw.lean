/- PLAIN: what package psw computes, as functions on whole numbers. No program in sight. No conditions. -/
import Derived.WalkKit
namespace Go.Proofs.Ythjdjbipfdigeaa
open Go.RowKit
set_option linter.unusedVariables false
set_option linter.unusedSimpArgs false
/-- from 0 to most -/
def inr (n most : Int) : Bool := decide (0 ≤ n ∧ n ≤ most)
theorem inr_yes {n most : Int} (h : inr n most = true) : 0 ≤ n ∧ n ≤ most := by simpa [inr] using h
theorem inr_no {n most : Int} (h : inr n most = false) : ¬ (0 ≤ n ∧ n ≤ most) := by unfold inr at h; exact of_decide_eq_false h
/-- a valid program status word -/
def pok (m k c i q g a : Int) : Bool := inr m 255 && (inr k 15 && (inr c 65535 && (inr i 3 && (inr q 3 && (inr g 15 && inr a 16777215)))))
theorem pok_iff (m k c i q g a : Int) : pok m k c i q g a = true ↔ (0 ≤ m ∧ m ≤ 255) ∧ (0 ≤ k ∧ k ≤ 15) ∧ (0 ≤ c ∧ c ≤ 65535) ∧ (0 ≤ i ∧ i ≤ 3) ∧ (0 ≤ q ∧ q ≤ 3) ∧ (0 ≤ g ∧ g ≤ 15) ∧ (0 ≤ a ∧ a ≤ 16777215) := by
  simp [pok, inr]
/-- the second byte, and the encoding -/
def b2i (b : Bool) (v : Int) : Int := if b = true then v else 0
def psec (k : Int) (M W P : Bool) : Int := 16 * k + (b2i M 4 + b2i W 2 + b2i P 1)
def penc (m k : Int) (M W P : Bool) (c i q g a : Int) : List Int := [m, psec k M W P, c / 256, c % 256, 64 * i + 16 * q + g, a / 65536, a / 256 % 256, a % 256]
/-- decoding -/
def pdok (len : Nat) (zs : List Int) : Bool := decide (len = 8 ∧ zs.getD 1 0 / 8 % 2 = 0)
/-- a branch -/
def pbr (mask cc : Int) : Bool := inr mask 15 && (inr cc 3 && decide (mask / (2 ^ (3 - cc.toNat) : Nat) % 2 = 1))
/-- admission -/
def pprog (g code : Int) : Bool := if code = 8 then decide (g / 8 % 2 = 1) else if code = 10 then decide (g / 4 % 2 = 1) else decide (1 ≤ code ∧ code ≤ 11)
def pio (m ch : Int) : Bool := inr ch 6 && decide (m / (2 ^ (7 - ch.toNat) : Nat) % 2 = 1)
def padm (m g : Int) (M : Bool) (cl code ch : Int) : Bool :=
  if cl = 1 then decide (m % 2 = 1) else if cl = 2 then true else if cl = 3 then pprog g code else if cl = 4 then M else if cl = 5 then pio m ch else false
/-- advance -/
def padv (ok : Bool) (n : Int) : Bool := ok && decide (n = 2 ∨ n = 4 ∨ n = 6)
end Go.Proofs.Ythjdjbipfdigeaa
