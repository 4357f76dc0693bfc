/- PLAIN: the instructions (codes, names, formats) as lists; what package isa computes of them, as functions. No program in sight. -/
import Derived.Test.YthjdjbipfdigeaaProg
import Derived.KernelRfl
namespace Go.Proofs.Ythjdjbipfdigeaa
set_option linter.unusedVariables false

/-- the codes, in ascending order -/
def opL : List Int := [4, 5, 6, 7, 8, 9, 10, 16, 17, 18, 19, 20, 21, 22, 23, 24, 25, 26, 27, 28, 29, 30, 31, 64, 65, 66, 67, 68, 69, 70, 71, 72, 73, 74, 75, 76, 78, 79, 80, 84, 85, 86, 87, 88, 89, 90, 91, 92, 93, 94, 95, 128, 130, 134, 135, 136, 137, 138, 139, 140, 141, 142, 143, 144, 145, 146, 147, 148, 149, 150, 151, 152, 156, 157, 158, 159, 209, 210, 211, 212, 213, 214, 215, 220, 221, 222, 223, 240, 241, 242, 243, 248, 249, 250, 251, 252, 253]
/-- their formats -/
def fmL : List Int := [8, 1, 1, 1, 1, 1, 7, 1, 1, 1, 1, 1, 1, 1, 1, 1, 1, 1, 1, 1, 1, 1, 1, 2, 2, 2, 2, 2, 2, 2, 2, 2, 2, 2, 2, 2, 2, 2, 2, 2, 2, 2, 2, 2, 2, 2, 2, 2, 2, 2, 2, 9, 9, 3, 3, 3, 3, 3, 3, 3, 3, 3, 3, 3, 4, 4, 9, 4, 4, 4, 4, 3, 9, 9, 9, 9, 5, 5, 5, 5, 5, 5, 5, 5, 5, 5, 5, 6, 6, 6, 6, 6, 6, 6, 6, 6, 6]
/-- their names, letter by letter -/
def nmL : List (List Nat) := [[83, 80, 77], [66, 65, 76, 82], [66, 67, 84, 82], [66, 67, 82], [83, 83, 75], [73, 83, 75], [83, 86, 67], [76, 80, 82], [76, 78, 82], [76, 84, 82], [76, 67, 82], [78, 82], [67, 76, 82], [79, 82], [88, 82], [76, 82], [67, 82], [65, 82], [83, 82], [77, 82], [68, 82], [65, 76, 82], [83, 76, 82], [83, 84, 72], [76, 65], [83, 84, 67], [73, 67], [69, 88], [66, 65, 76], [66, 67, 84], [66, 67], [76, 72], [67, 72], [65, 72], [83, 72], [77, 72], [67, 86, 68], [67, 86, 66], [83, 84], [78], [67, 76], [79], [88], [76], [67], [65], [83], [77], [68], [65, 76], [83, 76], [83, 83, 77], [76, 80, 83, 87], [66, 88, 72], [66, 88, 76, 69], [83, 82, 76], [83, 76, 76], [83, 82, 65], [83, 76, 65], [83, 82, 68, 76], [83, 76, 68, 76], [83, 82, 68, 65], [83, 76, 68, 65], [83, 84, 77], [84, 77], [77, 86, 73], [84, 83], [78, 73], [67, 76, 73], [79, 73], [88, 73], [76, 77], [83, 73, 79], [84, 73, 79], [72, 73, 79], [84, 67, 72], [77, 86, 78], [77, 86, 67], [77, 86, 90], [78, 67], [67, 76, 67], [79, 67], [88, 67], [84, 82], [84, 82, 84], [69, 68], [69, 68, 77, 75], [83, 82, 80], [77, 86, 79], [80, 65, 67, 75], [85, 78, 80, 75], [90, 65, 80], [67, 80], [65, 80], [83, 80], [77, 80], [68, 80]]
def opK (k : Nat) : Int := opL.getD k 0
def fmK (k : Nat) : Int := fmL.getD k 0
def nmK (k : Nat) : List Nat := nmL.getD k []
def strN (l : List Nat) : ByteArray := ⟨(l.map Nat.toUInt8).toArray⟩
/-- a hexadecimal digit -/
def hexd (n : Nat) : Nat := if n < 10 then 48 + n else 55 + n
/-- a row of the table: code, name, format -/
def rowK (k : Nat) : List Nat := [hexd ((opK k).toNat / 16), hexd ((opK k).toNat % 16)] ++ (nmK k ++ List.replicate (5 - (nmK k).length) 32) ++ [96 + (fmK k).toNat]
def tbL : List Nat := (List.range 97).flatMap rowK
def tbA : Array UInt8 := (tbL.map Nat.toUInt8).toArray
def tb (i : Nat) : Nat := tbL.getD i 0
theorem tb_get (d : Array UInt8) (i : Nat) (h : i < (ByteArray.mk d).size) (hd : d = tbA) : ((ByteArray.mk d)[i]'h).toNat = tb i := by
  subst hd
  have h1 : i < tbL.length := by
    have : (ByteArray.mk tbA).size = tbL.length := by show tbA.size = _; simp [tbA]
    omega
  have hs : ∀ z ∈ tbL, z < 256 := by decide +kernel
  have h2 : ((ByteArray.mk tbA)[i]'h) = Nat.toUInt8 tbL[i] := by
    show tbA[i]'_ = _
    simp [tbA]
  rw [h2]
  unfold tb
  rw [List.getD_eq_getElem?_getD, List.getElem?_eq_getElem h1]
  show (Nat.toUInt8 tbL[i]).toNat = tbL[i]
  have := hs _ (List.getElem_mem h1)
  simp [Nat.toUInt8]
  omega
theorem tb_cut (d : Array UInt8) (i j : Nat) (hd : d = tbA) : (ByteArray.mk d).extract i j = strN ((tbL.drop i).take (j - i)) := by
  subst hd
  apply ByteArray.ext
  show _ = ((((tbL.drop i).take (j - i)).map Nat.toUInt8)).toArray
  rw [ByteArray.data_extract]
  show (tbL.map Nat.toUInt8).toArray.extract i j = _
  rw [List.extract_toArray, List.extract_eq_take_drop]
  rw [List.map_take, List.map_drop]
def dig (c : Int) : Int := if 65 ≤ c then c - 55 else c - 48
theorem tb_op : ∀ k, k < 97 → 16 * dig (tb (8 * k)) + dig (tb (8 * k + 1)) = opK k := by decide +kernel
theorem tb_hex : ∀ k, k < 97 → 48 ≤ tb (8 * k) ∧ tb (8 * k) ≤ 255 ∧ 48 ≤ tb (8 * k + 1) ∧ tb (8 * k + 1) ≤ 255 := by decide +kernel
theorem tb_fm : ∀ k, k < 97 → 97 ≤ tb (8 * k + 7) ∧ tb (8 * k + 7) ≤ 105 ∧ (tb (8 * k + 7) : Int) - 97 + 1 = fmK k := by decide +kernel
theorem op_up : ∀ k, k < 96 → opK k < opK (k + 1) := by decide +kernel
theorem op_range : ∀ k, k < 97 → 4 ≤ opK k ∧ opK k ≤ 253 := by decide +kernel
theorem nm_len : ∀ k, k < 97 → 1 ≤ (nmK k).length ∧ (nmK k).length ≤ 5 ∧ tb (8 * k + (nmK k).length + 1) ≠ 32 := by decide +kernel
theorem nm_pad : ∀ k, k < 97 → ∀ j, j < 5 → (nmK k).length ≤ j → tb (8 * k + j + 2) = 32 := by decide +kernel
theorem nm_cut : ∀ k, k < 97 → (tbL.drop (8 * k + 2)).take (nmK k).length = nmK k := by decide +kernel
theorem op_lt {j k : Nat} (hj : j < k) (hk : k < 97) : opK j < opK k := by
  induction k with
  | zero => omega
  | succ k ih =>
    have h1 := op_up k (by omega)
    rcases Nat.lt_or_ge j k with h | h
    · have := ih h (by omega); omega
    · rw [show j = k by omega]; exact h1
/-- the place of a code in the list (97: it isn't there) -/
def ix (op : Int) : Nat := opL.findIdx (· == op)
theorem ix_le (op : Int) : ix op ≤ 97 := by
  have : ix op ≤ opL.length := List.findIdx_le_length
  have h2 : opL.length = 97 := by decide +kernel
  omega
theorem ix_of {op : Int} {k : Nat} (hk : k < 97) (h : opK k = op) : ix op = k := by
  have hl : opL.length = 97 := by decide +kernel
  refine (List.findIdx_eq (by omega)).2 ⟨?_, fun j hj => ?_⟩
  · have : opK k = opL[k]'(by omega) := by unfold opK; rw [List.getD_eq_getElem?_getD, List.getElem?_eq_getElem (by omega)]; rfl
    rw [← this, h]; simp
  · have e : opK j = opL[j]'(by omega) := by unfold opK; rw [List.getD_eq_getElem?_getD, List.getElem?_eq_getElem (by omega)]; rfl
    have := op_lt hj hk
    rw [← e]; simp; omega
theorem ix_op {op : Int} (h : ix op < 97) : opK (ix op) = op := by
  have hl : opL.length = 97 := by decide +kernel
  have h1 : ix op < opL.length := by omega
  have h2 := List.findIdx_getElem (p := fun x => x == op) (xs := opL) (w := h1)
  have e : opK (ix op) = opL[ix op]'h1 := by unfold opK; rw [List.getD_eq_getElem?_getD, List.getElem?_eq_getElem h1]; rfl
  rw [e]
  exact eq_of_beq h2
theorem ix_none {op : Int} (h : ∀ k, k < 97 → opK k ≠ op) : ix op = 97 := by
  have := ix_le op
  rcases Nat.lt_or_ge (ix op) 97 with h1 | h1
  · exact absurd (ix_op h1) (h _ h1)
  · omega
theorem dig_range (c : Int) (h0 : 48 ≤ c) (h1 : c ≤ 255) : 0 ≤ dig c ∧ dig c ≤ 255 := by unfold dig; split <;> omega
theorem wrap_hex {x y : Int} (hx : 0 ≤ x ∧ x ≤ 255) (hy : 0 ≤ y ∧ y ≤ 255) : IntKind.i64.wrap (IntKind.i64.wrap (16 * x) + y) = 16 * x + y := by
  simp only [IntKind.wrap, IntKind.bits, IntKind.signed]; simp; omega
/-- what row answers -/
def rowAt (op : Int) : Int := if ix op < 97 then ((8 * ix op : Nat) : Int) else -1
/-- what Form answers -/
def isOp (op : Int) : Bool := decide (ix op < 97)
def fmOf (op : Int) : Int := if ix op < 97 then fmK (ix op) else 0
/-- what Name answers -/
def nmOf (op : Int) : List Nat := if ix op < 97 then nmK (ix op) else []
/-- what Length answers -/
def lenOf (op : Int) : Int := if 0 ≤ op ∧ op ≤ 255 then (if op < 64 then 2 else if op < 192 then 4 else 6) else 0
/-- a half byte -/
def nib (zs : List Int) (at_ : Nat) : Int := if at_ % 2 = 0 then zs.getD (at_ / 2) 0 / 16 else zs.getD (at_ / 2) 0 % 16
def privB (op : Int) : Bool := decide (op = 8 ∨ op = 9 ∨ op = 128 ∨ op = 130 ∨ (156 ≤ op ∧ op ≤ 159))
end Go.Proofs.Ythjdjbipfdigeaa
