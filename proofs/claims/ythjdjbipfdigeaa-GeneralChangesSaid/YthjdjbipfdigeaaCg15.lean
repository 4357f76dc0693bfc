/- Contracts and laws on the way to the statement, text 15 of 25. Conditions: as each states them. -/
import Derived.Test.YthjdjbipfdigeaaCg1
import Derived.Test.YthjdjbipfdigeaaCg2
import Derived.Test.YthjdjbipfdigeaaCg5
import Derived.Test.YthjdjbipfdigeaaCg7
import Derived.Test.YthjdjbipfdigeaaCg10
import Derived.Test.YthjdjbipfdigeaaCg11
import Derived.Test.YthjdjbipfdigeaaCg12
import Derived.Test.YthjdjbipfdigeaaCg13
import Derived.Test.YthjdjbipfdigeaaCg14
import Derived.Test.YthjdjbipfdigeaaProg
import Derived.Deep.QuietTactic
import Derived.BigQuiet
import Derived.Lib.Hide
import Derived.Outline
namespace Go.Proofs.Ythjdjbipfdigeaa
open Go.RowKit
set_option maxRecDepth 100000
set_option linter.unusedVariables false
set_option linter.unusedSimpArgs false
/-- what an instruction works on -/
structure Pre where
  os : List Int
  key : Int
  il : Int
  cc : Int
  pg : Int
  ad : Int
  bs : List Int
  ks : List Int
/-- what it leaves: a code, the registers, condition code, program mask, address, overflow, bytes -/
structure Out where
  c : Int
  rs : List Int
  cc : Int
  pg : Int
  ad : Int
  ov : Bool
  bs : List Int
namespace Pre
def no (p : Pre) (c : Int) : Out := ⟨c, p.os, p.cc, p.pg, p.ad, false, p.bs⟩
def rg (p : Pre) (rs : List Int) : Out := ⟨0, rs, p.cc, p.pg, p.ad, false, p.bs⟩
def st (p : Pre) (rs : List Int) (cc : Int) (ov : Bool) : Out := ⟨0, rs, cc, p.pg, p.ad, ov, p.bs⟩
def br (p : Pre) (rs : List Int) (t : Bool) (tgt : Int) : Out := ⟨0, rs, p.cc, p.pg, if t = true then tgt else p.ad, false, p.bs⟩
def pc (p : Pre) (a n : Int) : Int := sCode (alP p.key) p.bs.length p.ks a n
def fc (p : Pre) (a n : Int) : Int := sCode (alF p.key) p.bs.length p.ks a n
def wr (p : Pre) (a n : Int) (ys : List Int) (cc : Int) : Out := if p.pc a n = 0 then ⟨0, p.os, cc, p.pg, p.ad, false, sPut (alP p.key) p.bs p.ks a ys⟩ else p.no (p.pc a n)
end Pre
def brO (p : Pre) (op : Int) (n k : Nat) (a : Int) : Out :=
  if op = 4 then ⟨0, p.os, p.os.getD n 0 / 268435456 % 4, p.os.getD n 0 / 16777216 % 16, p.ad, false, p.bs⟩
  else if op = 5 then p.br (p.os.set n (p.il * 1073741824 + p.cc * 268435456 + p.pg * 16777216 + p.ad)) (decide (k ≠ 0)) (p.os.getD k 0 % 16777216)
  else if op = 69 then p.br (p.os.set n (p.il * 1073741824 + p.cc * 268435456 + p.pg * 16777216 + p.ad)) true a
  else if op = 6 then p.br (p.os.set n (lo32 (p.os.getD n 0 - 1))) ((p.os.getD n 0 != 1) && decide (k ≠ 0)) (p.os.getD k 0 % 16777216)
  else if op = 70 then p.br (p.os.set n (lo32 (p.os.getD n 0 - 1))) (p.os.getD n 0 != 1) a
  else if op = 7 then p.br p.os (pbr (n : Int) p.cc && decide (k ≠ 0)) (p.os.getD k 0 % 16777216)
  else if op = 71 then p.br p.os (pbr (n : Int) p.cc) a
  else if op = 134 then p.br (p.os.set n (lo32 (p.os.getD n 0 + p.os.getD k 0))) (sgn (sg (lo32 (p.os.getD n 0 + p.os.getD k 0)) - sg (p.os.getD (k / 2 * 2 + 1) 0)) == 2) a
  else p.br (p.os.set n (lo32 (p.os.getD n 0 + p.os.getD k 0))) (!(sgn (sg (lo32 (p.os.getD n 0 + p.os.getD k 0)) - sg (p.os.getD (k / 2 * 2 + 1) 0)) == 2)) a
def arO (p : Pre) (op : Int) (n : Nat) (c v : Int) : Out :=
  if op = 28 ∨ op = 29 ∨ op = 92 ∨ op = 93 then
    if n % 2 = 1 then p.no 6 else if c ≠ 0 then p.no c
    else if op = 28 ∨ op = 92 then p.rg ((p.os.set n (lo32 (sg (p.os.getD (n + 1) 0) * sg v / 4294967296))).set (n + 1) (lo32 (sg (p.os.getD (n + 1) 0) * sg v)))
    else if dok (sg64 (dbl (p.os.getD n 0) (p.os.getD (n + 1) 0))) (sg v) = true then p.rg ((p.os.set n (drem (sg64 (dbl (p.os.getD n 0) (p.os.getD (n + 1) 0))) (sg v))).set (n + 1) (dquo (sg64 (dbl (p.os.getD n 0) (p.os.getD (n + 1) 0))) (sg v)))
    else p.no 9
  else if c ≠ 0 then p.no c
  else if op = 24 ∨ op = 88 ∨ op = 72 then p.rg (p.os.set n v)
  else if op = 16 ∨ op = 17 ∨ op = 18 ∨ op = 19 then p.st (p.os.set n (sgnV op v)) (sgnQ op v) (sgnO op v)
  else if op = 26 ∨ op = 90 ∨ op = 74 then p.st (p.os.set n (lo32 (sg (p.os.getD n 0) + sg v))) (rcc (sg (p.os.getD n 0) + sg v)) (ovf (sg (p.os.getD n 0) + sg v))
  else if op = 27 ∨ op = 91 ∨ op = 75 then p.st (p.os.set n (lo32 (sg (p.os.getD n 0) - sg v))) (rcc (sg (p.os.getD n 0) - sg v)) (ovf (sg (p.os.getD n 0) - sg v))
  else if op = 30 ∨ op = 94 then p.st (p.os.set n (lo32 (p.os.getD n 0 + v))) (lcc (lo32 (p.os.getD n 0 + v)) (decide (4294967296 ≤ p.os.getD n 0 + v))) false
  else if op = 31 ∨ op = 95 then p.st (p.os.set n (lo32 (p.os.getD n 0 - v))) (lcc (lo32 (p.os.getD n 0 - v)) (decide (v ≤ p.os.getD n 0))) false
  else if op = 25 ∨ op = 89 ∨ op = 73 then p.st p.os (sgn (sg (p.os.getD n 0) - sg v)) false
  else if op = 21 ∨ op = 85 then p.st p.os (sgn (p.os.getD n 0 - v)) false
  else if op = 20 ∨ op = 84 then p.st (p.os.set n (bits .and .u32 (p.os.getD n 0) v)) (if bits .and .u32 (p.os.getD n 0) v = 0 then 0 else 1) false
  else if op = 22 ∨ op = 86 then p.st (p.os.set n (bits .or .u32 (p.os.getD n 0) v)) (if bits .or .u32 (p.os.getD n 0) v = 0 then 0 else 1) false
  else if op = 23 ∨ op = 87 then p.st (p.os.set n (bits .xor .u32 (p.os.getD n 0) v)) (if bits .xor .u32 (p.os.getD n 0) v = 0 then 0 else 1) false
  else p.rg (p.os.set n (lo32 (sg (p.os.getD n 0) * sg v)))
def shO (p : Pre) (op : Int) (n : Nat) (a : Int) : Out :=
  if 140 ≤ op ∧ n % 2 = 1 then p.no 6
  else if op = 136 then p.rg (p.os.set n (slg (p.os.getD n 0) (plc a) false))
  else if op = 137 then p.rg (p.os.set n (slg (p.os.getD n 0) (plc a) true))
  else if op = 138 then p.st (p.os.set n (srv (p.os.getD n 0) (plc a))) (sgn (sg (srv (p.os.getD n 0) (plc a)))) false
  else if op = 139 then p.st (p.os.set n (slv (p.os.getD n 0) (plc a))) (slc (p.os.getD n 0) (plc a)) (slo (p.os.getD n 0) (plc a))
  else if op = 140 then p.rg ((p.os.set n (lo32 (dlg (dbl (p.os.getD n 0) (p.os.getD (n + 1) 0)) (plc a) false / 4294967296))).set (n + 1) (lo32 (dlg (dbl (p.os.getD n 0) (p.os.getD (n + 1) 0)) (plc a) false)))
  else if op = 141 then p.rg ((p.os.set n (lo32 (dlg (dbl (p.os.getD n 0) (p.os.getD (n + 1) 0)) (plc a) true / 4294967296))).set (n + 1) (lo32 (dlg (dbl (p.os.getD n 0) (p.os.getD (n + 1) 0)) (plc a) true)))
  else if op = 142 then p.st ((p.os.set n (lo32 (drv (dbl (p.os.getD n 0) (p.os.getD (n + 1) 0)) (plc a) / 4294967296))).set (n + 1) (lo32 (drv (dbl (p.os.getD n 0) (p.os.getD (n + 1) 0)) (plc a)))) (sgn (sg64 (drv (dbl (p.os.getD n 0) (p.os.getD (n + 1) 0)) (plc a)))) false
  else p.st ((p.os.set n (lo32 (dlv (dbl (p.os.getD n 0) (p.os.getD (n + 1) 0)) (plc a) / 4294967296))).set (n + 1) (lo32 (dlv (dbl (p.os.getD n 0) (p.os.getD (n + 1) 0)) (plc a)))) (dlc (dbl (p.os.getD n 0) (p.os.getD (n + 1) 0)) (plc a)) (dlo (dbl (p.os.getD n 0) (p.os.getD (n + 1) 0)) (plc a))
/-- the number of registers of STM and LM -/
def cnt (n m : Nat) : Nat := (m + 16 - n) % 16 + 1
def mvO (p : Pre) (op : Int) (n m : Nat) (a : Int) : Out :=
  if op = 80 then (if a % 4 = 0 then p.wr a 4 (fb (p.os.getD n 0)) p.cc else p.no 6)
  else if op = 64 then (if a % 2 = 0 then p.wr a 2 ((fb (p.os.getD n 0)).drop 2) p.cc else p.no 6)
  else if op = 66 then p.wr a 1 ((fb (p.os.getD n 0)).drop 3) p.cc
  else if op = 67 then (if p.fc a 1 = 0 then p.rg (p.os.set n (p.os.getD n 0 / 256 * 256 + (sGet p.bs a 1).getD 0 0)) else p.no (p.fc a 1))
  else if op = 144 then (if a % 4 = 0 then p.wr a ((4 * cnt n m : Nat) : Int) (stB p.os n (cnt n m)) p.cc else p.no 6)
  else (if a % 4 = 0 then (if p.fc a ((4 * cnt n m : Nat) : Int) = 0 then p.rg (lmR p.os n (sGet p.bs a ((4 * cnt n m : Nat) : Int)) (cnt n m)) else p.no (p.fc a ((4 * cnt n m : Nat) : Int))) else p.no 6)
/-- the byte that an immediate instruction makes -/
def imB (op b i : Int) : Int := if op = 148 then bits .and .u8 b i else if op = 150 then bits .or .u8 b i else bits .xor .u8 b i
def imO (p : Pre) (op : Int) (a i : Int) : Out :=
  if op = 146 then p.wr a 1 [i] p.cc
  else if p.fc a 1 ≠ 0 then p.no (p.fc a 1)
  else if op = 145 then p.st p.os (if bits .and .u8 ((sGet p.bs a 1).getD 0 0) i = 0 then 0 else if bits .and .u8 ((sGet p.bs a 1).getD 0 0) i = i then 3 else 1) false
  else if op = 149 then p.st p.os (sgn ((sGet p.bs a 1).getD 0 0 - i)) false
  else if op = 147 then p.wr a 1 [255] ((sGet p.bs a 1).getD 0 0 / 128)
  else p.wr a 1 [imB op ((sGet p.bs a 1).getD 0 0) i] (if imB op ((sGet p.bs a 1).getD 0 0) i = 0 then 0 else 1)
def loO (p : Pre) (op : Int) (N : Nat) (a b : Int) : Out :=
  if op = 221 then (match scn p.bs p.ks p.key a b N 0 with
    | (c, o) => if c = 0 then ⟨0, scnR p.os p.os a o, scnQ N o, p.pg, p.ad, false, p.bs⟩ else p.no c)
  else if p.fc a N ≠ 0 then p.no (p.fc a N)
  else if op = 220 then (if trE p.bs p.ks (sGet p.bs a N) p.key b N = 0 then p.wr a N (trS p.bs (sGet p.bs a N) a b N) p.cc else p.no (trE p.bs p.ks (sGet p.bs a N) p.key b N))
  else if p.fc b N ≠ 0 then p.no (p.fc b N)
  else if op = 213 then p.st p.os (clc (sGet p.bs a N) (sGet p.bs b N)) false
  else p.wr a N (cmb (cb op) (sGet p.bs a N) (sGet p.bs b N) (a - b) N) (if op = 212 ∨ op = 214 ∨ op = 215 then cmbS (cb op) (sGet p.bs a N) (sGet p.bs b N) (a - b) N else p.cc)
/-- what exec does -/
def exO (p : Pre) (op fm : Int) (n k : Nat) (a1 a : Int) (l1 : Nat) (i2 : Int) : Out :=
  if op < 16 ∨ (69 ≤ op ∧ op ≤ 71) ∨ op = 134 ∨ op = 135 then brO p op n k a
  else if 136 ≤ op ∧ op ≤ 143 then shO p op n a
  else if op = 65 then p.rg (p.os.set n a)
  else if op = 64 ∨ op = 66 ∨ op = 67 ∨ op = 80 ∨ op = 144 ∨ op = 152 then mvO p op n k a
  else if 145 ≤ op ∧ op ≤ 151 then imO p op a1 i2
  else if 208 ≤ op then loO p op (l1 + 1) a1 a
  else arO p op n (opC op fm p.bs p.ks p.key a) (opV op fm p.os k p.bs a)
theorem chkv_1 (op r1 r2 x2 b1 d1 b2 d2 l1 l2 i2 : Int) (hi : isOp op = true) (hf : fmOf op = 1) : chk op 1 [op, 1, r1, r2, x2, b1, d1, b2, d2, l1, l2, i2] = if (0 ≤ r1 ∧ r1 < 16) ∧ (0 ≤ r2 ∧ r2 < 16) ∧ x2 = 0 ∧ b1 = 0 ∧ d1 = 0 ∧ b2 = 0 ∧ d2 = 0 ∧ l1 = 0 ∧ l2 = 0 ∧ i2 = 0 then 0 else 6 := by
  unfold chk
  rw [if_pos ⟨hi, hf⟩]
  by_cases h : (0 ≤ r1 ∧ r1 < 16) ∧ (0 ≤ r2 ∧ r2 < 16) ∧ x2 = 0 ∧ b1 = 0 ∧ d1 = 0 ∧ b2 = 0 ∧ d2 = 0 ∧ l1 = 0 ∧ l2 = 0 ∧ i2 = 0
  · rw [if_pos h]
    have hh := h
    simp [lay, scan]
    (repeat' split) <;> first | rfl | (exfalso; simp_all; done) | (exfalso; simp_all; omega) | omega | (rename_i ys heq hy; subst hy; exfalso; (repeat' split at heq) <;> first | (cases heq; done) | (simp_all; done) | (simp_all; omega))
  · rw [if_neg h]
    simp [lay, scan]
    (repeat' split) <;> first | rfl | (exfalso; simp_all; done) | (exfalso; simp_all; omega) | omega | (rename_i ys heq hy; subst hy; exfalso; (repeat' split at heq) <;> first | (cases heq; done) | (simp_all; done) | (simp_all; omega))
theorem chkv_7 (op r1 r2 x2 b1 d1 b2 d2 l1 l2 i2 : Int) (hi : isOp op = true) (hf : fmOf op = 7) : chk op 7 [op, 7, r1, r2, x2, b1, d1, b2, d2, l1, l2, i2] = if r1 = 0 ∧ r2 = 0 ∧ x2 = 0 ∧ b1 = 0 ∧ d1 = 0 ∧ b2 = 0 ∧ d2 = 0 ∧ l1 = 0 ∧ l2 = 0 ∧ (0 ≤ i2 ∧ i2 < 256) then 0 else 6 := by
  unfold chk
  rw [if_pos ⟨hi, hf⟩]
  by_cases h : r1 = 0 ∧ r2 = 0 ∧ x2 = 0 ∧ b1 = 0 ∧ d1 = 0 ∧ b2 = 0 ∧ d2 = 0 ∧ l1 = 0 ∧ l2 = 0 ∧ (0 ≤ i2 ∧ i2 < 256)
  · rw [if_pos h]
    have hh := h
    simp [lay, scan]
    (repeat' split) <;> first | rfl | (exfalso; simp_all; done) | (exfalso; simp_all; omega) | omega | (rename_i ys heq hy; subst hy; exfalso; (repeat' split at heq) <;> first | (cases heq; done) | (simp_all; done) | (simp_all; omega))
  · rw [if_neg h]
    simp [lay, scan]
    (repeat' split) <;> first | rfl | (exfalso; simp_all; done) | (exfalso; simp_all; omega) | omega | (rename_i ys heq hy; subst hy; exfalso; (repeat' split at heq) <;> first | (cases heq; done) | (simp_all; done) | (simp_all; omega))
theorem chkv_8 (op r1 r2 x2 b1 d1 b2 d2 l1 l2 i2 : Int) (hi : isOp op = true) (hf : fmOf op = 8) : chk op 8 [op, 8, r1, r2, x2, b1, d1, b2, d2, l1, l2, i2] = if (0 ≤ r1 ∧ r1 < 16) ∧ r2 = 0 ∧ x2 = 0 ∧ b1 = 0 ∧ d1 = 0 ∧ b2 = 0 ∧ d2 = 0 ∧ l1 = 0 ∧ l2 = 0 ∧ i2 = 0 then 0 else 6 := by
  unfold chk
  rw [if_pos ⟨hi, hf⟩]
  by_cases h : (0 ≤ r1 ∧ r1 < 16) ∧ r2 = 0 ∧ x2 = 0 ∧ b1 = 0 ∧ d1 = 0 ∧ b2 = 0 ∧ d2 = 0 ∧ l1 = 0 ∧ l2 = 0 ∧ i2 = 0
  · rw [if_pos h]
    have hh := h
    simp [lay, scan]
    (repeat' split) <;> first | rfl | (exfalso; simp_all; done) | (exfalso; simp_all; omega) | omega | (rename_i ys heq hy; subst hy; exfalso; (repeat' split at heq) <;> first | (cases heq; done) | (simp_all; done) | (simp_all; omega))
  · rw [if_neg h]
    simp [lay, scan]
    (repeat' split) <;> first | rfl | (exfalso; simp_all; done) | (exfalso; simp_all; omega) | omega | (rename_i ys heq hy; subst hy; exfalso; (repeat' split at heq) <;> first | (cases heq; done) | (simp_all; done) | (simp_all; omega))
theorem chkv_2 (op r1 r2 x2 b1 d1 b2 d2 l1 l2 i2 : Int) (hi : isOp op = true) (hf : fmOf op = 2) : chk op 2 [op, 2, r1, r2, x2, b1, d1, b2, d2, l1, l2, i2] = if (0 ≤ r1 ∧ r1 < 16) ∧ r2 = 0 ∧ (0 ≤ x2 ∧ x2 < 16) ∧ b1 = 0 ∧ d1 = 0 ∧ (0 ≤ b2 ∧ b2 < 16) ∧ (0 ≤ d2 ∧ d2 < 4096) ∧ l1 = 0 ∧ l2 = 0 ∧ i2 = 0 then 0 else 6 := by
  unfold chk
  rw [if_pos ⟨hi, hf⟩]
  by_cases h : (0 ≤ r1 ∧ r1 < 16) ∧ r2 = 0 ∧ (0 ≤ x2 ∧ x2 < 16) ∧ b1 = 0 ∧ d1 = 0 ∧ (0 ≤ b2 ∧ b2 < 16) ∧ (0 ≤ d2 ∧ d2 < 4096) ∧ l1 = 0 ∧ l2 = 0 ∧ i2 = 0
  · rw [if_pos h]
    have hh := h
    simp [lay, scan]
    (repeat' split) <;> first | rfl | (exfalso; simp_all; done) | (exfalso; simp_all; omega) | omega | (rename_i ys heq hy; subst hy; exfalso; (repeat' split at heq) <;> first | (cases heq; done) | (simp_all; done) | (simp_all; omega))
  · rw [if_neg h]
    simp [lay, scan]
    (repeat' split) <;> first | rfl | (exfalso; simp_all; done) | (exfalso; simp_all; omega) | omega | (rename_i ys heq hy; subst hy; exfalso; (repeat' split at heq) <;> first | (cases heq; done) | (simp_all; done) | (simp_all; omega))
theorem chkv_3 (op r1 r2 x2 b1 d1 b2 d2 l1 l2 i2 : Int) (hi : isOp op = true) (hf : fmOf op = 3) : chk op 3 [op, 3, r1, r2, x2, b1, d1, b2, d2, l1, l2, i2] = if (0 ≤ r1 ∧ r1 < 16) ∧ (0 ≤ r2 ∧ r2 < 16) ∧ x2 = 0 ∧ b1 = 0 ∧ d1 = 0 ∧ (0 ≤ b2 ∧ b2 < 16) ∧ (0 ≤ d2 ∧ d2 < 4096) ∧ l1 = 0 ∧ l2 = 0 ∧ i2 = 0 then 0 else 6 := by
  unfold chk
  rw [if_pos ⟨hi, hf⟩]
  by_cases h : (0 ≤ r1 ∧ r1 < 16) ∧ (0 ≤ r2 ∧ r2 < 16) ∧ x2 = 0 ∧ b1 = 0 ∧ d1 = 0 ∧ (0 ≤ b2 ∧ b2 < 16) ∧ (0 ≤ d2 ∧ d2 < 4096) ∧ l1 = 0 ∧ l2 = 0 ∧ i2 = 0
  · rw [if_pos h]
    have hh := h
    simp [lay, scan]
    (repeat' split) <;> first | rfl | (exfalso; simp_all; done) | (exfalso; simp_all; omega) | omega | (rename_i ys heq hy; subst hy; exfalso; (repeat' split at heq) <;> first | (cases heq; done) | (simp_all; done) | (simp_all; omega))
  · rw [if_neg h]
    simp [lay, scan]
    (repeat' split) <;> first | rfl | (exfalso; simp_all; done) | (exfalso; simp_all; omega) | omega | (rename_i ys heq hy; subst hy; exfalso; (repeat' split at heq) <;> first | (cases heq; done) | (simp_all; done) | (simp_all; omega))
theorem chkv_4 (op r1 r2 x2 b1 d1 b2 d2 l1 l2 i2 : Int) (hi : isOp op = true) (hf : fmOf op = 4) : chk op 4 [op, 4, r1, r2, x2, b1, d1, b2, d2, l1, l2, i2] = if r1 = 0 ∧ r2 = 0 ∧ x2 = 0 ∧ (0 ≤ b1 ∧ b1 < 16) ∧ (0 ≤ d1 ∧ d1 < 4096) ∧ b2 = 0 ∧ d2 = 0 ∧ l1 = 0 ∧ l2 = 0 ∧ (0 ≤ i2 ∧ i2 < 256) then 0 else 6 := by
  unfold chk
  rw [if_pos ⟨hi, hf⟩]
  by_cases h : r1 = 0 ∧ r2 = 0 ∧ x2 = 0 ∧ (0 ≤ b1 ∧ b1 < 16) ∧ (0 ≤ d1 ∧ d1 < 4096) ∧ b2 = 0 ∧ d2 = 0 ∧ l1 = 0 ∧ l2 = 0 ∧ (0 ≤ i2 ∧ i2 < 256)
  · rw [if_pos h]
    have hh := h
    simp [lay, scan]
    (repeat' split) <;> first | rfl | (exfalso; simp_all; done) | (exfalso; simp_all; omega) | omega | (rename_i ys heq hy; subst hy; exfalso; (repeat' split at heq) <;> first | (cases heq; done) | (simp_all; done) | (simp_all; omega))
  · rw [if_neg h]
    simp [lay, scan]
    (repeat' split) <;> first | rfl | (exfalso; simp_all; done) | (exfalso; simp_all; omega) | omega | (rename_i ys heq hy; subst hy; exfalso; (repeat' split at heq) <;> first | (cases heq; done) | (simp_all; done) | (simp_all; omega))
theorem chkv_9 (op r1 r2 x2 b1 d1 b2 d2 l1 l2 i2 : Int) (hi : isOp op = true) (hf : fmOf op = 9) : chk op 9 [op, 9, r1, r2, x2, b1, d1, b2, d2, l1, l2, i2] = if r1 = 0 ∧ r2 = 0 ∧ x2 = 0 ∧ (0 ≤ b1 ∧ b1 < 16) ∧ (0 ≤ d1 ∧ d1 < 4096) ∧ b2 = 0 ∧ d2 = 0 ∧ l1 = 0 ∧ l2 = 0 ∧ i2 = 0 then 0 else 6 := by
  unfold chk
  rw [if_pos ⟨hi, hf⟩]
  by_cases h : r1 = 0 ∧ r2 = 0 ∧ x2 = 0 ∧ (0 ≤ b1 ∧ b1 < 16) ∧ (0 ≤ d1 ∧ d1 < 4096) ∧ b2 = 0 ∧ d2 = 0 ∧ l1 = 0 ∧ l2 = 0 ∧ i2 = 0
  · rw [if_pos h]
    have hh := h
    simp [lay, scan]
    (repeat' split) <;> first | rfl | (exfalso; simp_all; done) | (exfalso; simp_all; omega) | omega | (rename_i ys heq hy; subst hy; exfalso; (repeat' split at heq) <;> first | (cases heq; done) | (simp_all; done) | (simp_all; omega))
  · rw [if_neg h]
    simp [lay, scan]
    (repeat' split) <;> first | rfl | (exfalso; simp_all; done) | (exfalso; simp_all; omega) | omega | (rename_i ys heq hy; subst hy; exfalso; (repeat' split at heq) <;> first | (cases heq; done) | (simp_all; done) | (simp_all; omega))
theorem chkv_5 (op r1 r2 x2 b1 d1 b2 d2 l1 l2 i2 : Int) (hi : isOp op = true) (hf : fmOf op = 5) : chk op 5 [op, 5, r1, r2, x2, b1, d1, b2, d2, l1, l2, i2] = if r1 = 0 ∧ r2 = 0 ∧ x2 = 0 ∧ (0 ≤ b1 ∧ b1 < 16) ∧ (0 ≤ d1 ∧ d1 < 4096) ∧ (0 ≤ b2 ∧ b2 < 16) ∧ (0 ≤ d2 ∧ d2 < 4096) ∧ (0 ≤ l1 ∧ l1 < 256) ∧ l2 = 0 ∧ i2 = 0 then 0 else 6 := by
  unfold chk
  rw [if_pos ⟨hi, hf⟩]
  by_cases h : r1 = 0 ∧ r2 = 0 ∧ x2 = 0 ∧ (0 ≤ b1 ∧ b1 < 16) ∧ (0 ≤ d1 ∧ d1 < 4096) ∧ (0 ≤ b2 ∧ b2 < 16) ∧ (0 ≤ d2 ∧ d2 < 4096) ∧ (0 ≤ l1 ∧ l1 < 256) ∧ l2 = 0 ∧ i2 = 0
  · rw [if_pos h]
    have hh := h
    simp [lay, scan]
    (repeat' split) <;> first | rfl | (exfalso; simp_all; done) | (exfalso; simp_all; omega) | omega | (rename_i ys heq hy; subst hy; exfalso; (repeat' split at heq) <;> first | (cases heq; done) | (simp_all; done) | (simp_all; omega))
  · rw [if_neg h]
    simp [lay, scan]
    (repeat' split) <;> first | rfl | (exfalso; simp_all; done) | (exfalso; simp_all; omega) | omega | (rename_i ys heq hy; subst hy; exfalso; (repeat' split at heq) <;> first | (cases heq; done) | (simp_all; done) | (simp_all; omega))
theorem chkv_6 (op r1 r2 x2 b1 d1 b2 d2 l1 l2 i2 : Int) (hi : isOp op = true) (hf : fmOf op = 6) : chk op 6 [op, 6, r1, r2, x2, b1, d1, b2, d2, l1, l2, i2] = if r1 = 0 ∧ r2 = 0 ∧ x2 = 0 ∧ (0 ≤ b1 ∧ b1 < 16) ∧ (0 ≤ d1 ∧ d1 < 4096) ∧ (0 ≤ b2 ∧ b2 < 16) ∧ (0 ≤ d2 ∧ d2 < 4096) ∧ (0 ≤ l1 ∧ l1 < 16) ∧ (0 ≤ l2 ∧ l2 < 16) ∧ i2 = 0 then 0 else 6 := by
  unfold chk
  rw [if_pos ⟨hi, hf⟩]
  by_cases h : r1 = 0 ∧ r2 = 0 ∧ x2 = 0 ∧ (0 ≤ b1 ∧ b1 < 16) ∧ (0 ≤ d1 ∧ d1 < 4096) ∧ (0 ≤ b2 ∧ b2 < 16) ∧ (0 ≤ d2 ∧ d2 < 4096) ∧ (0 ≤ l1 ∧ l1 < 16) ∧ (0 ≤ l2 ∧ l2 < 16) ∧ i2 = 0
  · rw [if_pos h]
    have hh := h
    simp [lay, scan]
    (repeat' split) <;> first | rfl | (exfalso; simp_all; done) | (exfalso; simp_all; omega) | omega | (rename_i ys heq hy; subst hy; exfalso; (repeat' split at heq) <;> first | (cases heq; done) | (simp_all; done) | (simp_all; omega))
  · rw [if_neg h]
    simp [lay, scan]
    (repeat' split) <;> first | rfl | (exfalso; simp_all; done) | (exfalso; simp_all; omega) | omega | (rename_i ys heq hy; subst hy; exfalso; (repeat' split at heq) <;> first | (cases heq; done) | (simp_all; done) | (simp_all; omega))
theorem fm_in : ∀ k, k < 97 → 1 ≤ fmK k ∧ fmK k ≤ 9 := by decide +kernel
theorem fm_cases {op : Int} (h : isOp op = true) : 1 ≤ fmOf op ∧ fmOf op ≤ 9 := by
  unfold isOp at h; rw [decide_eq_true_iff] at h
  unfold fmOf
  rw [if_pos h]; exact fm_in (ix op) h
theorem chk_rng {op fm r1 r2 x2 b1 d1 b2 d2 l1 l2 i2 : Int} (h : chk op fm [op, fm, r1, r2, x2, b1, d1, b2, d2, l1, l2, i2] = 0) : isOp op = true ∧ fmOf op = fm ∧ (0 ≤ r1 ∧ r1 < 16) ∧ (0 ≤ r2 ∧ r2 < 16) ∧ (0 ≤ x2 ∧ x2 < 16) ∧ (0 ≤ b1 ∧ b1 < 16) ∧ (0 ≤ d1 ∧ d1 < 4096) ∧ (0 ≤ b2 ∧ b2 < 16) ∧ (0 ≤ d2 ∧ d2 < 4096) ∧ (0 ≤ l1 ∧ l1 < 256) ∧ (0 ≤ l2 ∧ l2 < 16) ∧ (0 ≤ i2 ∧ i2 < 256) := by
  have hi : isOp op = true ∧ fmOf op = fm := by
    unfold chk at h
    by_cases hc : isOp op = true ∧ fmOf op = fm
    · exact hc
    · rw [if_neg hc] at h; cases h
  obtain ⟨h1, h2⟩ := hi
  obtain ⟨f1, f2⟩ := fm_cases h1
  rw [h2] at f1 f2
  refine ⟨h1, h2, ?_⟩
  have hf : fm = 1 ∨ fm = 7 ∨ fm = 8 ∨ fm = 2 ∨ fm = 3 ∨ fm = 4 ∨ fm = 9 ∨ fm = 5 ∨ fm = 6 := by omega
  rcases hf with rfl | rfl | rfl | rfl | rfl | rfl | rfl | rfl | rfl
  · rw [chkv_1 _ _ _ _ _ _ _ _ _ _ _ h1 h2] at h; split at h <;> omega
  · rw [chkv_7 _ _ _ _ _ _ _ _ _ _ _ h1 h2] at h; split at h <;> omega
  · rw [chkv_8 _ _ _ _ _ _ _ _ _ _ _ h1 h2] at h; split at h <;> omega
  · rw [chkv_2 _ _ _ _ _ _ _ _ _ _ _ h1 h2] at h; split at h <;> omega
  · rw [chkv_3 _ _ _ _ _ _ _ _ _ _ _ h1 h2] at h; split at h <;> omega
  · rw [chkv_4 _ _ _ _ _ _ _ _ _ _ _ h1 h2] at h; split at h <;> omega
  · rw [chkv_9 _ _ _ _ _ _ _ _ _ _ _ h1 h2] at h; split at h <;> omega
  · rw [chkv_5 _ _ _ _ _ _ _ _ _ _ _ h1 h2] at h; split at h <;> omega
  · rw [chkv_6 _ _ _ _ _ _ _ _ _ _ _ h1 h2] at h; split at h <;> omega
end Go.Proofs.Ythjdjbipfdigeaa

namespace Go.Proofs.Ythjdjbipfdigeaa
open Go.RowKit
set_option maxRecDepth 100000
set_option linter.unusedVariables false
set_option linter.unusedSimpArgs false
theorem get_eq (bs : List Int) (a n : Nat) (h : a + n ≤ bs.length) : sGet bs (a : Int) (n : Int) = (bs.drop a).take n := by
  unfold sGet
  rw [if_pos (show sIn bs.length (a : Int) (n : Int) = true from by unfold sIn; exact decide_eq_true (by omega)), Int.toNat_natCast, Int.toNat_natCast]
theorem get_len (bs : List Int) (a n : Nat) (h : a + n ≤ bs.length) : (sGet bs (a : Int) (n : Int)).length = n := by
  rw [get_eq bs a n h]; simp; omega
end Go.Proofs.Ythjdjbipfdigeaa

namespace Go.Proofs.Ythjdjbipfdigeaa
open Go.RowKit
set_option linter.unusedVariables false

theorem take_next_eq9 {zs zs' : List Int} {k : Nat} (h : zs.take k = zs'.take k) (hk : k < zs.length) (hk' : k < zs'.length) (e : zs.getD k 0 = zs'.getD k 0) : zs.take (k + 1) = zs'.take (k + 1) := by
  rw [List.take_succ_eq_append_getElem hk, List.take_succ_eq_append_getElem hk', h]
  rw [List.getD_eq_getElem?_getD, List.getD_eq_getElem?_getD, List.getElem?_eq_getElem hk, List.getElem?_eq_getElem hk'] at e
  simp only [Option.getD_some] at e
  rw [e]

set_option maxHeartbeats 1000000 in
theorem same9_c (A : Option Addr) (len cap : Nat) (zs : List Int) (A' : Option Addr) (len' cap' : Nat) (zs' : List Int) (w : World) (hb : Byt w A len zs) (hb' : Byt w A' len' zs') (hl : (len : Int) ≤ 9223372036854775807) (hl' : (len' : Int) ≤ 9223372036854775807) :
    Calls Try.prog 18 #[.slice A len cap, .slice A' len' cap'] w fun e w' => e = .returned (.bool (decide (zs = zs'))) ∧ ∃ n, w' = w.drewN n := by
  by_cases hne : len = len'
  · subst hne
    have e0 : ((len : Int) != (len : Int)) = false := by simp
    have H1 := Lib.hid hb.1
    have H2 := Lib.hid hb'.1
    have HB := Lib.hid hb
    have HB' := Lib.hid hb'
    clear hb hb'
    go_enter Try.func18, Try.ntmps18
    go_wp2
    go_loopw [4, 5] (fun r i wr => ∃ k : Nat, k ≤ len ∧ i = .int .i64 k ∧ zs.take k = zs'.take k ∧ ∃ n, wr = w.drewN n) (fun _ i _ => len - (intOf i).toNat)
    case atStart => exact ⟨0, Nat.zero_le _, rfl, by simp, 0, rfl⟩
    case round =>
      obtain ⟨k, hk, rfl, heq, n, rfl⟩ := hrel
      have Heq := Lib.hid heq
      clear heq
      by_cases hlt : k < len
      · obtain ⟨b, off, rfl, hc⟩ := HB.out.at_ (by omega)
        obtain ⟨b', off', rfl, hc'⟩ := HB'.out.at_ (by omega)
        have c1 := hc k hlt
        have c2 := hc' k hlt
        clear hc hc'
        obtain ⟨x, hx⟩ : ∃ x, zs.getD k 0 = x := ⟨_, rfl⟩
        obtain ⟨y, hy⟩ : ∃ y, zs'.getD k 0 = y := ⟨_, rfl⟩
        rw [hx] at c1
        rw [hy] at c2
        have k1 : (k : Int) < (len : Int) := by omega
        have Hx := Lib.hid hx
        have Hy := Lib.hid hy
        clear hx hy
        by_cases hxy : x = y
        · subst hxy
          have t0 : (x != x) = false := by simp
          go_wp2
          go_quiet (fail)
          go_wp2
          go_roundw
          case rel => exact ⟨k + 1, by omega, by go_num, take_next_eq9 Heq.out (by rw [H1.out]; exact hlt) (by rw [H2.out]; exact hlt) (by rw [Hx.out, Hy.out]), _, rfl⟩
          case measure => simp [intOf]; omega
        · have t0 : (x != y) = true := by simpa using hxy
          have hfin := Lib.hid (show decide (zs = zs') = false from by rw [decide_eq_false_iff_not]; rintro rfl; exact hxy (Hx.out.symm.trans Hy.out))
          go_wp2
          go_quiet (fail)
          go_wp2
          go_ret
          exact ⟨by rw [hfin.out]; rfl, _, World.drewN_drewN _ _ _⟩
      · obtain rfl : k = len := by omega
        have hfin := Lib.hid (show decide (zs = zs') = true from by
          rw [decide_eq_true_iff]
          have := Heq.out
          rwa [List.take_of_length_le (by rw [H1.out]; exact Nat.le_refl _), List.take_of_length_le (by rw [H2.out]; exact Nat.le_refl _)] at this)
        go_wp2
        go_ret
        exact ⟨by rw [hfin.out]; rfl, _, rfl⟩
  · have e0 : ((len : Int) != (len' : Int)) = true := by simp; omega
    have hfin := Lib.hid (show decide (zs = zs') = false from by rw [decide_eq_false_iff_not]; rintro rfl; exact hne (hb.1.symm.trans hb'.1))
    clear hb hb' hne
    go_enter Try.func18, Try.ntmps18
    go_wp2
    go_ret
    exact ⟨by rw [hfin.out]; rfl, 0, rfl⟩
end Go.Proofs.Ythjdjbipfdigeaa

namespace Go.Proofs.Ythjdjbipfdigeaa
open Go.RowKit
set_option maxRecDepth 100000
set_option linter.unusedVariables false
set_option linter.unusedSimpArgs false
set_option maxRecDepth 1000000 in
set_option maxHeartbeats 8000000 in
theorem arith_ld (g n : Nat) (F : Foot) (is os rs : List Int) (ps : List Value) (ov : Bool) (bs ks : List Int) (w : World) (h : MS w g F is os rs ps ov bs ks) (hn : is.getD 2 0 = (n : Int)) (hn16 : n < 16) (v : Int) (hop : ∀ W, MS W g F is os rs ps ov bs ks → Calls Try.prog 85 #[.pointer (some ⟨g, 0, none⟩)] W fun e w' => e = .returned (.int .u32 v) ∧ MS w' g F is os rs ps ov bs ks ∧ Ch W w' []) (v0 : 0 ≤ v) (v1 : v ≤ 4294967295) (ro : ∀ z ∈ os, 0 ≤ z ∧ z ≤ 4294967295) (op : Int) (h0 : is.getD 0 0 = op) (hol : op = 24 ∨ op = 88 ∨ op = 72) : Calls Try.prog 48 #[.pointer (some ⟨g, 0, none⟩)] w fun e w' => e = .returned (.tuple #[]) ∧ MS w' g F is os (rs.set n v) ps ov bs ks ∧ Ch w w' [g] := by
  have e28 : (op == 28) = false := by rcases hol with rfl | rfl | rfl <;> rfl
  have e29 : (op == 29) = false := by rcases hol with rfl | rfl | rfl <;> rfl
  have e92 : (op == 92) = false := by rcases hol with rfl | rfl | rfl <;> rfl
  have e93 : (op == 93) = false := by rcases hol with rfl | rfl | rfl <;> rfl
  have HOL := Lib.hid hol
  have c0 := h.m.ci (c := 0) (by omega)
  rw [h0] at c0
  have H0 := Lib.hid h0
  have HM := Lib.hid (h.drewN 1)
  have HN := Lib.hid hn
  have D0 := Lib.hid ((Ch.refl w [g]).drewN 1)
  have OC := Lib.hid hop
  have i0 : (n : Int) < 16 := by omega
  have i1 : (0 : Int) ≤ (n : Int) := by omega
  obtain ⟨a, ha⟩ : ∃ a, os.getD n 0 = a := ⟨_, rfl⟩
  have HA := Lib.hid ha
  have ra := getD_in ro n
  rw [ha] at ra
  try rw [ha]
  clear h h0 hn hop ha ro hol
  go_enter Try.func48, Try.ntmps48
  go_upto_region 6 with fail
  clear c0 e28 e29 e92 e93
  have s2 := HM.out.m.ci (c := 2) (by omega)
  rw [HN.out] at s2
  have s12 := HM.out.m.co hn16
  rw [HA.out] at s12
  go_region_held3 (fun w' => w'.cell? ⟨g, 2, none⟩ = some (.int .i64 (n : Int)) ∧ w'.cell? ⟨g, 12 + n, none⟩ = some (.int .u32 a)) (first | exact ⟨s2, s12⟩ | exact ⟨t2, t12⟩) ((go_at_call 85; refine (OC.out _ HM.out).mono ?_; rintro e w5 ⟨rfl, hM, hC⟩; have t2 := hM.m.ci (c := 2) (by omega); rw [HN.out] at t2; have t12 := hM.m.co hn16; rw [HA.out] at t12; have M5 := Lib.hid hM; have C5 := Lib.hid (D0.out.trans (hC.mono (by simp))); clear hM hC))
  clear t2 t12 s2 s12
  have c0 := M5.out.m.ci (c := 0) (by omega)
  rw [H0.out] at c0
  rcases HOL.out with rfl | rfl | rfl
  all_goals (clear HOL)
  all_goals
    have c2 : w5.cell? ⟨g, 2, none⟩ = some (.int .i64 (n : Int)) := by have hq := M5.out.m.ci (c := 2) (by omega); rw [HN.out] at hq; exact hq
    have c3 := M5.out.m.cr hn16
    have f3 := M5.out.m.free (28 + n)
    go_upto_region 11 with fail
    go_region
    go_wp2
    first | go_end0 | refine bodyPost_ret (results_none rfl _ _ _) rfl ?_
    exact ⟨rfl, (M5.out.setr hn16 _).drewN 1, (C5.out.setCell (by simp) _).drewN 1⟩
set_option maxRecDepth 1000000 in
set_option maxHeartbeats 8000000 in
theorem arith_sg (g n : Nat) (F : Foot) (is os rs : List Int) (ps : List Value) (ov : Bool) (bs ks : List Int) (w : World) (h : MS w g F is os rs ps ov bs ks) (hn : is.getD 2 0 = (n : Int)) (hn16 : n < 16) (v : Int) (hop : ∀ W, MS W g F is os rs ps ov bs ks → Calls Try.prog 85 #[.pointer (some ⟨g, 0, none⟩)] W fun e w' => e = .returned (.int .u32 v) ∧ MS w' g F is os rs ps ov bs ks ∧ Ch W w' []) (v0 : 0 ≤ v) (v1 : v ≤ 4294967295) (ro : ∀ z ∈ os, 0 ≤ z ∧ z ≤ 4294967295) (op : Int) (h0 : is.getD 0 0 = op) (hol : op = 16 ∨ op = 17 ∨ op = 18 ∨ op = 19) : Calls Try.prog 48 #[.pointer (some ⟨g, 0, none⟩)] w fun e w' => e = .returned (.tuple #[]) ∧ MS w' g F is os (rs.set n (sgnV op v)) (ps.set 7 (.int .i64 (sgnQ op v))) (sgnO op v) bs ks ∧ Ch w w' [g] := by
  have e28 : (op == 28) = false := by rcases hol with rfl | rfl | rfl | rfl <;> rfl
  have e29 : (op == 29) = false := by rcases hol with rfl | rfl | rfl | rfl <;> rfl
  have e92 : (op == 92) = false := by rcases hol with rfl | rfl | rfl | rfl <;> rfl
  have e93 : (op == 93) = false := by rcases hol with rfl | rfl | rfl | rfl <;> rfl
  have HOL := Lib.hid hol
  have c0 := h.m.ci (c := 0) (by omega)
  rw [h0] at c0
  have H0 := Lib.hid h0
  have HM := Lib.hid (h.drewN 1)
  have HN := Lib.hid hn
  have D0 := Lib.hid ((Ch.refl w [g]).drewN 1)
  have OC := Lib.hid hop
  have i0 : (n : Int) < 16 := by omega
  have i1 : (0 : Int) ≤ (n : Int) := by omega
  obtain ⟨a, ha⟩ : ∃ a, os.getD n 0 = a := ⟨_, rfl⟩
  have HA := Lib.hid ha
  have ra := getD_in ro n
  rw [ha] at ra
  try rw [ha]
  clear h h0 hn hop ha ro hol
  go_enter Try.func48, Try.ntmps48
  go_upto_region 6 with fail
  clear c0 e28 e29 e92 e93
  have s2 := HM.out.m.ci (c := 2) (by omega)
  rw [HN.out] at s2
  have s12 := HM.out.m.co hn16
  rw [HA.out] at s12
  go_region_held3 (fun w' => w'.cell? ⟨g, 2, none⟩ = some (.int .i64 (n : Int)) ∧ w'.cell? ⟨g, 12 + n, none⟩ = some (.int .u32 a)) (first | exact ⟨s2, s12⟩ | exact ⟨t2, t12⟩) ((go_at_call 85; refine (OC.out _ HM.out).mono ?_; rintro e w5 ⟨rfl, hM, hC⟩; have t2 := hM.m.ci (c := 2) (by omega); rw [HN.out] at t2; have t12 := hM.m.co hn16; rw [HA.out] at t12; have M5 := Lib.hid hM; have C5 := Lib.hid (D0.out.trans (hC.mono (by simp))); clear hM hC))
  clear t2 t12 s2 s12
  have c0 := M5.out.m.ci (c := 0) (by omega)
  rw [H0.out] at c0
  rcases HOL.out with rfl | rfl | rfl | rfl
  all_goals (clear HOL)
  all_goals
    go_wp2_with (go_at_call 86; refine (signs_m _ v v0 v1 g n F is os rs ps ov bs ks _ M5.out HN.out hn16 H0.out (by simp)).mono ?_; rintro e w6 ⟨rfl, hM6, hC6⟩; have M6 := Lib.hid hM6; have C6 := Lib.hid (C5.out.trans hC6); clear hM6 hC6)
    first | go_end0 | refine bodyPost_ret (results_none rfl _ _ _) rfl ?_
    exact ⟨rfl, M6.out, C6.out⟩
set_option maxRecDepth 1000000 in
set_option maxHeartbeats 8000000 in
theorem arith_add (g n : Nat) (F : Foot) (is os rs : List Int) (ps : List Value) (ov : Bool) (bs ks : List Int) (w : World) (h : MS w g F is os rs ps ov bs ks) (hn : is.getD 2 0 = (n : Int)) (hn16 : n < 16) (v : Int) (hop : ∀ W, MS W g F is os rs ps ov bs ks → Calls Try.prog 85 #[.pointer (some ⟨g, 0, none⟩)] W fun e w' => e = .returned (.int .u32 v) ∧ MS w' g F is os rs ps ov bs ks ∧ Ch W w' []) (v0 : 0 ≤ v) (v1 : v ≤ 4294967295) (ro : ∀ z ∈ os, 0 ≤ z ∧ z ≤ 4294967295) (op : Int) (h0 : is.getD 0 0 = op) (hol : op = 26 ∨ op = 90 ∨ op = 74) : Calls Try.prog 48 #[.pointer (some ⟨g, 0, none⟩)] w fun e w' => e = .returned (.tuple #[]) ∧ MS w' g F is os (rs.set n (lo32 (sg (os.getD n 0) + sg v))) (ps.set 7 (.int .i64 (rcc (sg (os.getD n 0) + sg v)))) (ovf (sg (os.getD n 0) + sg v)) bs ks ∧ Ch w w' [g] := by
  have e28 : (op == 28) = false := by rcases hol with rfl | rfl | rfl <;> rfl
  have e29 : (op == 29) = false := by rcases hol with rfl | rfl | rfl <;> rfl
  have e92 : (op == 92) = false := by rcases hol with rfl | rfl | rfl <;> rfl
  have e93 : (op == 93) = false := by rcases hol with rfl | rfl | rfl <;> rfl
  have HOL := Lib.hid hol
  have c0 := h.m.ci (c := 0) (by omega)
  rw [h0] at c0
  have H0 := Lib.hid h0
  have HM := Lib.hid (h.drewN 1)
  have HN := Lib.hid hn
  have D0 := Lib.hid ((Ch.refl w [g]).drewN 1)
  have OC := Lib.hid hop
  have i0 : (n : Int) < 16 := by omega
  have i1 : (0 : Int) ≤ (n : Int) := by omega
  obtain ⟨a, ha⟩ : ∃ a, os.getD n 0 = a := ⟨_, rfl⟩
  have HA := Lib.hid ha
  have ra := getD_in ro n
  rw [ha] at ra
  try rw [ha]
  clear h h0 hn hop ha ro hol
  go_enter Try.func48, Try.ntmps48
  go_upto_region 6 with fail
  clear c0 e28 e29 e92 e93
  have s2 := HM.out.m.ci (c := 2) (by omega)
  rw [HN.out] at s2
  have s12 := HM.out.m.co hn16
  rw [HA.out] at s12
  go_region_held3 (fun w' => w'.cell? ⟨g, 2, none⟩ = some (.int .i64 (n : Int)) ∧ w'.cell? ⟨g, 12 + n, none⟩ = some (.int .u32 a)) (first | exact ⟨s2, s12⟩ | exact ⟨t2, t12⟩) ((go_at_call 85; refine (OC.out _ HM.out).mono ?_; rintro e w5 ⟨rfl, hM, hC⟩; have t2 := hM.m.ci (c := 2) (by omega); rw [HN.out] at t2; have t12 := hM.m.co hn16; rw [HA.out] at t12; have M5 := Lib.hid hM; have C5 := Lib.hid (D0.out.trans (hC.mono (by simp))); clear hM hC))
  clear t2 t12 s2 s12
  have c0 := M5.out.m.ci (c := 0) (by omega)
  rw [H0.out] at c0
  rcases HOL.out with rfl | rfl | rfl
  all_goals (clear HOL)
  all_goals
    go_wp2_with (first
      | (go_at_call 87; refine (add_c a v ra.1 ra.2 v0 v1 _).mono ?_; rintro e w2 ⟨rfl, hw2⟩; subst hw2)
      | (go_at_call 58; refine (set_m g n F is os rs ps ov bs ks _ _ _ _ M5.out HN.out hn16).mono ?_; rintro e w6 ⟨rfl, hM6, hC6⟩; have M6 := Lib.hid hM6; have C6 := Lib.hid (C5.out.trans hC6); clear hM6 hC6))
    first | go_end0 | refine bodyPost_ret (results_none rfl _ _ _) rfl ?_
    exact ⟨rfl, M6.out, C6.out⟩
set_option maxRecDepth 1000000 in
set_option maxHeartbeats 8000000 in
theorem arith_sub (g n : Nat) (F : Foot) (is os rs : List Int) (ps : List Value) (ov : Bool) (bs ks : List Int) (w : World) (h : MS w g F is os rs ps ov bs ks) (hn : is.getD 2 0 = (n : Int)) (hn16 : n < 16) (v : Int) (hop : ∀ W, MS W g F is os rs ps ov bs ks → Calls Try.prog 85 #[.pointer (some ⟨g, 0, none⟩)] W fun e w' => e = .returned (.int .u32 v) ∧ MS w' g F is os rs ps ov bs ks ∧ Ch W w' []) (v0 : 0 ≤ v) (v1 : v ≤ 4294967295) (ro : ∀ z ∈ os, 0 ≤ z ∧ z ≤ 4294967295) (op : Int) (h0 : is.getD 0 0 = op) (hol : op = 27 ∨ op = 91 ∨ op = 75) : Calls Try.prog 48 #[.pointer (some ⟨g, 0, none⟩)] w fun e w' => e = .returned (.tuple #[]) ∧ MS w' g F is os (rs.set n (lo32 (sg (os.getD n 0) - sg v))) (ps.set 7 (.int .i64 (rcc (sg (os.getD n 0) - sg v)))) (ovf (sg (os.getD n 0) - sg v)) bs ks ∧ Ch w w' [g] := by
  have e28 : (op == 28) = false := by rcases hol with rfl | rfl | rfl <;> rfl
  have e29 : (op == 29) = false := by rcases hol with rfl | rfl | rfl <;> rfl
  have e92 : (op == 92) = false := by rcases hol with rfl | rfl | rfl <;> rfl
  have e93 : (op == 93) = false := by rcases hol with rfl | rfl | rfl <;> rfl
  have HOL := Lib.hid hol
  have c0 := h.m.ci (c := 0) (by omega)
  rw [h0] at c0
  have H0 := Lib.hid h0
  have HM := Lib.hid (h.drewN 1)
  have HN := Lib.hid hn
  have D0 := Lib.hid ((Ch.refl w [g]).drewN 1)
  have OC := Lib.hid hop
  have i0 : (n : Int) < 16 := by omega
  have i1 : (0 : Int) ≤ (n : Int) := by omega
  obtain ⟨a, ha⟩ : ∃ a, os.getD n 0 = a := ⟨_, rfl⟩
  have HA := Lib.hid ha
  have ra := getD_in ro n
  rw [ha] at ra
  try rw [ha]
  clear h h0 hn hop ha ro hol
  go_enter Try.func48, Try.ntmps48
  go_upto_region 6 with fail
  clear c0 e28 e29 e92 e93
  have s2 := HM.out.m.ci (c := 2) (by omega)
  rw [HN.out] at s2
  have s12 := HM.out.m.co hn16
  rw [HA.out] at s12
  go_region_held3 (fun w' => w'.cell? ⟨g, 2, none⟩ = some (.int .i64 (n : Int)) ∧ w'.cell? ⟨g, 12 + n, none⟩ = some (.int .u32 a)) (first | exact ⟨s2, s12⟩ | exact ⟨t2, t12⟩) ((go_at_call 85; refine (OC.out _ HM.out).mono ?_; rintro e w5 ⟨rfl, hM, hC⟩; have t2 := hM.m.ci (c := 2) (by omega); rw [HN.out] at t2; have t12 := hM.m.co hn16; rw [HA.out] at t12; have M5 := Lib.hid hM; have C5 := Lib.hid (D0.out.trans (hC.mono (by simp))); clear hM hC))
  clear t2 t12 s2 s12
  have c0 := M5.out.m.ci (c := 0) (by omega)
  rw [H0.out] at c0
  rcases HOL.out with rfl | rfl | rfl
  all_goals (clear HOL)
  all_goals
    go_wp2_with (first
      | (go_at_call 88; refine (sub_c a v ra.1 ra.2 v0 v1 _).mono ?_; rintro e w2 ⟨rfl, hw2⟩; subst hw2)
      | (go_at_call 58; refine (set_m g n F is os rs ps ov bs ks _ _ _ _ M5.out HN.out hn16).mono ?_; rintro e w6 ⟨rfl, hM6, hC6⟩; have M6 := Lib.hid hM6; have C6 := Lib.hid (C5.out.trans hC6); clear hM6 hC6))
    first | go_end0 | refine bodyPost_ret (results_none rfl _ _ _) rfl ?_
    exact ⟨rfl, M6.out, C6.out⟩
end Go.Proofs.Ythjdjbipfdigeaa

namespace Go.Proofs.Ythjdjbipfdigeaa
open Go.RowKit
set_option maxRecDepth 100000
set_option linter.unusedVariables false
set_option linter.unusedSimpArgs false
set_option maxRecDepth 1000000 in
set_option maxHeartbeats 8000000 in
theorem arith_no (g n : Nat) (F : Foot) (is os rs : List Int) (ps : List Value) (ov : Bool) (bs ks : List Int) (w : World) (h : MS w g F is os rs ps ov bs ks) (hn : is.getD 2 0 = (n : Int)) (hn16 : n < 16) (c : Int) (hop : ∀ W, MS W g F is os rs ps ov bs ks → Calls Try.prog 85 #[.pointer (some ⟨g, 0, none⟩)] W fun e w' => e = .panicked [{ v := .iface 65 (.int .i64 c), recovered := false }] ∧ MS w' g F is os rs ps ov bs ks ∧ Ch W w' []) (op : Int) (h0 : is.getD 0 0 = op) (hol : op ≠ 28 ∧ op ≠ 29 ∧ op ≠ 92 ∧ op ≠ 93) : Calls Try.prog 48 #[.pointer (some ⟨g, 0, none⟩)] w fun e w' => e = .panicked [{ v := .iface 65 (.int .i64 c), recovered := false }] ∧ MS w' g F is os rs ps ov bs ks ∧ Ch w w' [g] := by
  have e28 : (op == 28) = false := by simp; omega
  have e29 : (op == 29) = false := by simp; omega
  have e92 : (op == 92) = false := by simp; omega
  have e93 : (op == 93) = false := by simp; omega
  have c0 := h.m.ci (c := 0) (by omega)
  rw [h0] at c0
  have H0 := Lib.hid h0
  have HM := Lib.hid (h.drewN 1)
  have HN := Lib.hid hn
  have D0 := Lib.hid ((Ch.refl w [g]).drewN 1)
  have OC := Lib.hid hop
  have i0 : (n : Int) < 16 := by omega
  have i1 : (0 : Int) ≤ (n : Int) := by omega
  obtain ⟨a, ha⟩ : ∃ a, os.getD n 0 = a := ⟨_, rfl⟩
  have HA := Lib.hid ha
  clear h h0 hn hop ha hol
  go_enter Try.func48, Try.ntmps48
  go_upto_region 6 with fail
  clear c0 e28 e29 e92 e93
  refine wp_region_held_drew (S := (fun w' => ∃ (rs' : List Int) (ps' : List Value), Mc w' g is os rs' ps' (.pointer (some ⟨F.g, 0, none⟩)) ov)) (by kernel_rfl) ?_ (fun hHeld => ?_)
  · (try dsimp only); exact ⟨_, _, HM.out.m⟩
  refine' takeL (i := 0) (v := _) rfl (by kernel_rfl) (by kernel_rfl) (by kernel_rfl) (fun _ _ _ h => h) (Or.inl ⟨by rfl, ?yy1⟩) (by assumption) ?rr1
  case yy1 => intro w hSw; (try dsimp only at hSw); go_simp; (try with_reducible rfl)
  try simp only [Act.put, List.setIfInBounds_toArray, List.set_cons_zero, List.set_cons_succ]
  refine' takeL (i := 1) (v := _) rfl (by kernel_rfl) (by kernel_rfl) (by kernel_rfl) (fun _ _ _ h => h) (Or.inl ⟨by rfl, ?yy2⟩) (by assumption) ?rr2
  case yy2 => intro w hSw; (try dsimp only at hSw); go_simp; (try with_reducible rfl)
  try simp only [Act.put, List.setIfInBounds_toArray, List.set_cons_zero, List.set_cons_succ]
  refine' takeL (i := 2) (v := _) rfl (by kernel_rfl) (by kernel_rfl) (by kernel_rfl) (fun _ _ _ h => h) (Or.inl ⟨by rfl, ?yy3⟩) (by assumption) ?rr3
  case yy3 => intro w hSw; (try dsimp only at hSw); go_simp; (try with_reducible rfl)
  try simp only [Act.put, List.setIfInBounds_toArray, List.set_cons_zero, List.set_cons_succ]
  refine' takeL (i := 3) (v := _) rfl (by kernel_rfl) (by kernel_rfl) (by kernel_rfl) (fun _ _ _ h => h) (Or.inl ⟨by rfl, ?yy4⟩) (by assumption) ?rr4
  case yy4 => intro w hSw; (try dsimp only at hSw); go_simp; (try with_reducible rfl)
  try simp only [Act.put, List.setIfInBounds_toArray, List.set_cons_zero, List.set_cons_succ]
  refine' takeL (i := 4) (v := _) rfl (by kernel_rfl) (by kernel_rfl) (by kernel_rfl) (fun _ _ _ h => h) (Or.inl ⟨by rfl, ?yy5⟩) (by assumption) ?rr5
  case yy5 => intro w hSw; (try dsimp only at hSw); go_simp; (try with_reducible rfl)
  try simp only [Act.put, List.setIfInBounds_toArray, List.set_cons_zero, List.set_cons_succ]
  refine' takeL (i := 5) (v := .int .i64 (n : Int)) rfl (by kernel_rfl) (by kernel_rfl) (by kernel_rfl) (fun _ _ _ h => h) (Or.inl ⟨by rfl, ?yy6⟩) (by assumption) ?rr6
  case yy6 => intro w hSw; (try dsimp only at hSw); obtain ⟨rs', ps', hx⟩ := hSw; have hq := hx.ci (c := 2) (by omega); rw [HN.out] at hq; go_simp; (try with_reducible rfl)
  try simp only [Act.put, List.setIfInBounds_toArray, List.set_cons_zero, List.set_cons_succ]
  refine' takeL (i := 6) (v := _) rfl (by kernel_rfl) (by kernel_rfl) (by kernel_rfl) (fun _ _ _ h => h) (Or.inl ⟨by rfl, ?yy7⟩) (by assumption) ?rr7
  case yy7 => intro w hSw; (try dsimp only at hSw); go_simp; (try with_reducible rfl)
  try simp only [Act.put, List.setIfInBounds_toArray, List.set_cons_zero, List.set_cons_succ]
  refine' takeL (i := 7) (v := _) rfl (by kernel_rfl) (by kernel_rfl) (by kernel_rfl) (fun _ _ _ h => h) (Or.inl ⟨by rfl, ?yy8⟩) (by assumption) ?rr8
  case yy8 => intro w hSw; (try dsimp only at hSw); go_simp; (try with_reducible rfl)
  try simp only [Act.put, List.setIfInBounds_toArray, List.set_cons_zero, List.set_cons_succ]
  refine' takeL (i := 8) (v := _) rfl (by kernel_rfl) (by kernel_rfl) (by kernel_rfl) (fun _ _ _ h => h) (Or.inl ⟨by rfl, ?yy9⟩) (by assumption) ?rr9
  case yy9 => intro w hSw; (try dsimp only at hSw); go_simp; (try with_reducible rfl)
  try simp only [Act.put, List.setIfInBounds_toArray, List.set_cons_zero, List.set_cons_succ]
  refine' takeL (i := 9) (v := .int .u32 a) rfl (by kernel_rfl) (by kernel_rfl) (by kernel_rfl) (fun _ _ _ h => h) (Or.inl ⟨by rfl, ?yy10⟩) (by assumption) ?rr10
  case yy10 => intro w hSw; (try dsimp only at hSw); obtain ⟨rs', ps', hx⟩ := hSw; have hq := hx.co hn16; rw [HA.out] at hq; go_simp; (try with_reducible rfl)
  try simp only [Act.put, List.setIfInBounds_toArray, List.set_cons_zero, List.set_cons_succ]
  refine' takeL (i := 10) (v := _) rfl (by kernel_rfl) (by kernel_rfl) (by kernel_rfl) (fun _ _ _ h => h) (Or.inl ⟨by rfl, ?yy11⟩) (by assumption) ?rr11
  case yy11 => intro w hSw; (try dsimp only at hSw); go_simp; (try with_reducible rfl)
  try simp only [Act.put, List.setIfInBounds_toArray, List.set_cons_zero, List.set_cons_succ]
  refine wpAnyH_ready (rs := [11]) (by kernel_rfl) (by simp) ?_
  refine consL rfl (fun K hK => ?_) AllReadyH.nil
  go_simp
  go_at_call 85
  refine (OC.out _ HM.out).mono ?_
  rintro e w5 ⟨rfl, hM, hC⟩
  exact ⟨rfl, rfl, hM, D0.out.trans (hC.mono (by simp))⟩
set_option maxRecDepth 1000000 in
set_option maxHeartbeats 8000000 in
theorem arith_p28 (g : Nat) (P : World → Prop) (w : World) (c0 : w.cell? ⟨g, 0, none⟩ = some (.int .i64 28)) (hb : Calls Try.prog 84 #[.pointer (some ⟨g, 0, none⟩)] w fun e w' => e = .returned (.tuple #[]) ∧ P w') : Calls Try.prog 48 #[.pointer (some ⟨g, 0, none⟩)] w fun e w' => e = .returned (.tuple #[]) ∧ P w' := by
  have HB := Lib.hid hb
  clear hb
  go_enter Try.func48, Try.ntmps48
  go_wp2_with (go_at_call 84; refine HB.out.mono ?_; rintro e w3 ⟨rfl, hR⟩; have HR := Lib.hid hR; clear hR)
  first | go_end0 | refine bodyPost_ret (results_none rfl _ _ _) rfl ?_
  exact ⟨rfl, HR.out⟩
set_option maxRecDepth 1000000 in
set_option maxHeartbeats 8000000 in
theorem arith_p28_no (g : Nat) (P : World → Prop) (c : Int) (w : World) (c0 : w.cell? ⟨g, 0, none⟩ = some (.int .i64 28)) (hb : Calls Try.prog 84 #[.pointer (some ⟨g, 0, none⟩)] w fun e w' => e = .panicked [{ v := .iface 65 (.int .i64 c), recovered := false }] ∧ P w') : Calls Try.prog 48 #[.pointer (some ⟨g, 0, none⟩)] w fun e w' => e = .panicked [{ v := .iface 65 (.int .i64 c), recovered := false }] ∧ P w' := by
  have HB := Lib.hid hb
  clear hb
  go_enter Try.func48, Try.ntmps48
  go_wp2_with (go_at_call 84; refine HB.out.mono ?_; rintro e w3 ⟨rfl, hR⟩; have HR := Lib.hid hR; clear hR)
  exact ⟨rfl, rfl, HR.out⟩
set_option maxRecDepth 1000000 in
set_option maxHeartbeats 8000000 in
theorem arith_p29 (g : Nat) (P : World → Prop) (w : World) (c0 : w.cell? ⟨g, 0, none⟩ = some (.int .i64 29)) (hb : Calls Try.prog 84 #[.pointer (some ⟨g, 0, none⟩)] w fun e w' => e = .returned (.tuple #[]) ∧ P w') : Calls Try.prog 48 #[.pointer (some ⟨g, 0, none⟩)] w fun e w' => e = .returned (.tuple #[]) ∧ P w' := by
  have HB := Lib.hid hb
  clear hb
  go_enter Try.func48, Try.ntmps48
  go_wp2_with (go_at_call 84; refine HB.out.mono ?_; rintro e w3 ⟨rfl, hR⟩; have HR := Lib.hid hR; clear hR)
  first | go_end0 | refine bodyPost_ret (results_none rfl _ _ _) rfl ?_
  exact ⟨rfl, HR.out⟩
set_option maxRecDepth 1000000 in
set_option maxHeartbeats 8000000 in
theorem arith_p29_no (g : Nat) (P : World → Prop) (c : Int) (w : World) (c0 : w.cell? ⟨g, 0, none⟩ = some (.int .i64 29)) (hb : Calls Try.prog 84 #[.pointer (some ⟨g, 0, none⟩)] w fun e w' => e = .panicked [{ v := .iface 65 (.int .i64 c), recovered := false }] ∧ P w') : Calls Try.prog 48 #[.pointer (some ⟨g, 0, none⟩)] w fun e w' => e = .panicked [{ v := .iface 65 (.int .i64 c), recovered := false }] ∧ P w' := by
  have HB := Lib.hid hb
  clear hb
  go_enter Try.func48, Try.ntmps48
  go_wp2_with (go_at_call 84; refine HB.out.mono ?_; rintro e w3 ⟨rfl, hR⟩; have HR := Lib.hid hR; clear hR)
  exact ⟨rfl, rfl, HR.out⟩
set_option maxRecDepth 1000000 in
set_option maxHeartbeats 8000000 in
theorem arith_p92 (g : Nat) (P : World → Prop) (w : World) (c0 : w.cell? ⟨g, 0, none⟩ = some (.int .i64 92)) (hb : Calls Try.prog 84 #[.pointer (some ⟨g, 0, none⟩)] w fun e w' => e = .returned (.tuple #[]) ∧ P w') : Calls Try.prog 48 #[.pointer (some ⟨g, 0, none⟩)] w fun e w' => e = .returned (.tuple #[]) ∧ P w' := by
  have HB := Lib.hid hb
  clear hb
  go_enter Try.func48, Try.ntmps48
  go_wp2_with (go_at_call 84; refine HB.out.mono ?_; rintro e w3 ⟨rfl, hR⟩; have HR := Lib.hid hR; clear hR)
  first | go_end0 | refine bodyPost_ret (results_none rfl _ _ _) rfl ?_
  exact ⟨rfl, HR.out⟩
set_option maxRecDepth 1000000 in
set_option maxHeartbeats 8000000 in
theorem arith_p92_no (g : Nat) (P : World → Prop) (c : Int) (w : World) (c0 : w.cell? ⟨g, 0, none⟩ = some (.int .i64 92)) (hb : Calls Try.prog 84 #[.pointer (some ⟨g, 0, none⟩)] w fun e w' => e = .panicked [{ v := .iface 65 (.int .i64 c), recovered := false }] ∧ P w') : Calls Try.prog 48 #[.pointer (some ⟨g, 0, none⟩)] w fun e w' => e = .panicked [{ v := .iface 65 (.int .i64 c), recovered := false }] ∧ P w' := by
  have HB := Lib.hid hb
  clear hb
  go_enter Try.func48, Try.ntmps48
  go_wp2_with (go_at_call 84; refine HB.out.mono ?_; rintro e w3 ⟨rfl, hR⟩; have HR := Lib.hid hR; clear hR)
  exact ⟨rfl, rfl, HR.out⟩
set_option maxRecDepth 1000000 in
set_option maxHeartbeats 8000000 in
theorem arith_p93 (g : Nat) (P : World → Prop) (w : World) (c0 : w.cell? ⟨g, 0, none⟩ = some (.int .i64 93)) (hb : Calls Try.prog 84 #[.pointer (some ⟨g, 0, none⟩)] w fun e w' => e = .returned (.tuple #[]) ∧ P w') : Calls Try.prog 48 #[.pointer (some ⟨g, 0, none⟩)] w fun e w' => e = .returned (.tuple #[]) ∧ P w' := by
  have HB := Lib.hid hb
  clear hb
  go_enter Try.func48, Try.ntmps48
  go_wp2_with (go_at_call 84; refine HB.out.mono ?_; rintro e w3 ⟨rfl, hR⟩; have HR := Lib.hid hR; clear hR)
  first | go_end0 | refine bodyPost_ret (results_none rfl _ _ _) rfl ?_
  exact ⟨rfl, HR.out⟩
set_option maxRecDepth 1000000 in
set_option maxHeartbeats 8000000 in
theorem arith_p93_no (g : Nat) (P : World → Prop) (c : Int) (w : World) (c0 : w.cell? ⟨g, 0, none⟩ = some (.int .i64 93)) (hb : Calls Try.prog 84 #[.pointer (some ⟨g, 0, none⟩)] w fun e w' => e = .panicked [{ v := .iface 65 (.int .i64 c), recovered := false }] ∧ P w') : Calls Try.prog 48 #[.pointer (some ⟨g, 0, none⟩)] w fun e w' => e = .panicked [{ v := .iface 65 (.int .i64 c), recovered := false }] ∧ P w' := by
  have HB := Lib.hid hb
  clear hb
  go_enter Try.func48, Try.ntmps48
  go_wp2_with (go_at_call 84; refine HB.out.mono ?_; rintro e w3 ⟨rfl, hR⟩; have HR := Lib.hid hR; clear hR)
  exact ⟨rfl, rfl, HR.out⟩
end Go.Proofs.Ythjdjbipfdigeaa

