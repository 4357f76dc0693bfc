/- Contracts and laws on the way to the statement, text 9 of 12. Conditions: as each states them. -/
import Derived.Test.YthjdjbipfdigeaaSw1
import Derived.Test.YthjdjbipfdigeaaSw2
import Derived.Test.YthjdjbipfdigeaaSw3
import Derived.Test.YthjdjbipfdigeaaSw5
import Derived.Test.YthjdjbipfdigeaaSw8
import Derived.Test.YthjdjbipfdigeaaProg
import Derived.Lib.Hide
import Derived.Outline
import Derived.Deep.QuietTactic
import Derived.BigQuiet
import Derived.Laws.BitsAllLaws
import Derived.Deep.RegionHeld3
import Derived.BigRegion
import Derived.IntWalk
import Derived.RegionTactic
import Derived.Handy
namespace Go.Proofs.Ythjdjbipfdigeaa
open Go.RowKit
set_option maxRecDepth 100000
set_option linter.unusedVariables false
set_option linter.unusedSimpArgs false
def cb (op x y : Int) : Int := if op = 209 then x / 16 * 16 + y % 16 else if op = 210 then y else if op = 211 then y / 16 * 16 + x % 16 else if op = 212 then bits .and .u8 x y else if op = 214 then bits .or .u8 x y else bits .xor .u8 x y
theorem cb_in (op x y : Int) (x0 : 0 ≤ x) (x1 : x ≤ 255) (y0 : 0 ≤ y) (y1 : y ≤ 255) : 0 ≤ cb op x y ∧ cb op x y ≤ 255 := by
  unfold cb
  repeat' split
  · omega
  · omega
  · omega
  · exact bounds_u8 (wf_bits .and .u8 x y)
  · exact bounds_u8 (wf_bits .or .u8 x y)
  · exact bounds_u8 (wf_bits .xor .u8 x y)
set_option maxRecDepth 1000000 in
set_option maxHeartbeats 8000000 in
theorem clo_210 (x y : Int) (w : World) (x0 : 0 ≤ x) (x1 : x ≤ 255) (y0 : 0 ≤ y) (y1 : y ≤ 255) : Calls Try.prog 76 #[.int .u8 x, .int .u8 y] w fun e w' => e = .returned (.int .u8 (cb 210 x y)) ∧ w = w' := by
  go_enter Try.func76, Try.ntmps76
  go_wp2
  go_ret
  exact ⟨by rfl, rfl⟩
theorem clo_call_210 (args : Array Value) (W : World) : Sem.run Try.prog (callFunc 76 args) W = .ok (.enter 76 args) W := by kernel_rfl
set_option maxRecDepth 1000000 in
set_option maxHeartbeats 8000000 in
theorem clo_215 (x y : Int) (w : World) (x0 : 0 ≤ x) (x1 : x ≤ 255) (y0 : 0 ≤ y) (y1 : y ≤ 255) : Calls Try.prog 80 #[.int .u8 x, .int .u8 y] w fun e w' => e = .returned (.int .u8 (cb 215 x y)) ∧ w = w' := by
  go_enter Try.func80, Try.ntmps80
  go_wp2
  go_ret
  exact ⟨by rfl, rfl⟩
theorem clo_call_215 (args : Array Value) (W : World) : Sem.run Try.prog (callFunc 80 args) W = .ok (.enter 80 args) W := by kernel_rfl
set_option maxRecDepth 1000000 in
set_option maxHeartbeats 8000000 in
theorem long_210 (g : Nat) (P : World → Prop) (w : World) (c0 : w.cell? ⟨g, 0, none⟩ = some (.int .i64 210)) (hb : Calls Try.prog 74 #[.pointer (some ⟨g, 0, none⟩), .func (.func 76) #[] #[], .bool false] w fun e w' => e = .returned (.tuple #[]) ∧ P w') : Calls Try.prog 47 #[.pointer (some ⟨g, 0, none⟩)] w fun e w' => e = .returned (.tuple #[]) ∧ P w' := by
  have HB := Lib.hid hb
  clear hb
  go_enter Try.func47, Try.ntmps47
  go_wp2_with (go_at_call 74; refine HB.out.mono ?_; rintro e w3 ⟨rfl, hR⟩; have HR := Lib.hid hR; clear hR)
  first | go_end0 | refine bodyPost_ret (results_none rfl _ _ _) rfl ?_
  exact ⟨rfl, HR.out⟩
set_option maxRecDepth 1000000 in
set_option maxHeartbeats 8000000 in
theorem long_210_no (g : Nat) (P : World → Prop) (c : Int) (w : World) (c0 : w.cell? ⟨g, 0, none⟩ = some (.int .i64 210)) (hb : Calls Try.prog 74 #[.pointer (some ⟨g, 0, none⟩), .func (.func 76) #[] #[], .bool false] w fun e w' => e = .panicked [{ v := .iface 65 (.int .i64 c), recovered := false }] ∧ P w') : Calls Try.prog 47 #[.pointer (some ⟨g, 0, none⟩)] w fun e w' => e = .panicked [{ v := .iface 65 (.int .i64 c), recovered := false }] ∧ P w' := by
  have HB := Lib.hid hb
  clear hb
  go_enter Try.func47, Try.ntmps47
  go_wp2_with (go_at_call 74; refine HB.out.mono ?_; rintro e w3 ⟨rfl, hR⟩; have HR := Lib.hid hR; clear hR)
  exact ⟨rfl, rfl, HR.out⟩
set_option maxRecDepth 1000000 in
set_option maxHeartbeats 8000000 in
theorem long_215 (g : Nat) (P : World → Prop) (w : World) (c0 : w.cell? ⟨g, 0, none⟩ = some (.int .i64 215)) (hb : Calls Try.prog 74 #[.pointer (some ⟨g, 0, none⟩), .func (.func 80) #[] #[], .bool true] w fun e w' => e = .returned (.tuple #[]) ∧ P w') : Calls Try.prog 47 #[.pointer (some ⟨g, 0, none⟩)] w fun e w' => e = .returned (.tuple #[]) ∧ P w' := by
  have HB := Lib.hid hb
  clear hb
  go_enter Try.func47, Try.ntmps47
  go_wp2_with (go_at_call 74; refine HB.out.mono ?_; rintro e w3 ⟨rfl, hR⟩; have HR := Lib.hid hR; clear hR)
  first | go_end0 | refine bodyPost_ret (results_none rfl _ _ _) rfl ?_
  exact ⟨rfl, HR.out⟩
set_option maxRecDepth 1000000 in
set_option maxHeartbeats 8000000 in
theorem long_215_no (g : Nat) (P : World → Prop) (c : Int) (w : World) (c0 : w.cell? ⟨g, 0, none⟩ = some (.int .i64 215)) (hb : Calls Try.prog 74 #[.pointer (some ⟨g, 0, none⟩), .func (.func 80) #[] #[], .bool true] w fun e w' => e = .panicked [{ v := .iface 65 (.int .i64 c), recovered := false }] ∧ P w') : Calls Try.prog 47 #[.pointer (some ⟨g, 0, none⟩)] w fun e w' => e = .panicked [{ v := .iface 65 (.int .i64 c), recovered := false }] ∧ P w' := by
  have HB := Lib.hid hb
  clear hb
  go_enter Try.func47, Try.ntmps47
  go_wp2_with (go_at_call 74; refine HB.out.mono ?_; rintro e w3 ⟨rfl, hR⟩; have HR := Lib.hid hR; clear hR)
  exact ⟨rfl, rfl, HR.out⟩
end Go.Proofs.Ythjdjbipfdigeaa

namespace Go.Proofs.Ythjdjbipfdigeaa
open Go.RowKit
set_option maxRecDepth 100000
set_option linter.unusedVariables false
set_option linter.unusedSimpArgs false
set_option maxRecDepth 1000000 in
set_option maxHeartbeats 8000000 in
theorem exec_l (g : Nat) (op : Int) (lo : 208 ≤ op) (hi : op ≤ 255) (P : World → Prop) (w : World) (c0 : w.cell? ⟨g, 0, none⟩ = some (.int .i64 op)) (hb : Calls Try.prog 47 #[.pointer (some ⟨g, 0, none⟩)] w fun e w' => e = .returned (.tuple #[]) ∧ P w') : Calls Try.prog 31 #[.pointer (some ⟨g, 0, none⟩)] w fun e w' => e = .returned (.tuple #[]) ∧ P w' := by
  have klt16 : ¬ op < 16 := by omega
  have kge69 : op ≥ 69 := by omega
  have kle71 : ¬ op ≤ 71 := by omega
  have keq134 : (op == 134) = false := by simp; omega
  have keq135 : (op == 135) = false := by simp; omega
  have kge136 : op ≥ 136 := by omega
  have kle143 : ¬ op ≤ 143 := by omega
  have keq65 : (op == 65) = false := by simp; omega
  have kge64 : op ≥ 64 := by omega
  have kle67 : ¬ op ≤ 67 := by omega
  have keq80 : (op == 80) = false := by simp; omega
  have keq144 : (op == 144) = false := by simp; omega
  have keq152 : (op == 152) = false := by simp; omega
  have kge145 : op ≥ 145 := by omega
  have kle151 : ¬ op ≤ 151 := by omega
  have kge208 : op ≥ 208 := by omega
  have HB := Lib.hid hb
  clear hb
  go_enter Try.func31, Try.ntmps31
  go_wp2_with (go_at_call 47; refine HB.out.mono ?_; rintro e w3 ⟨rfl, hR⟩; have HR := Lib.hid hR; clear hR)
  first | go_end0 | refine bodyPost_ret (results_none rfl _ _ _) rfl ?_
  exact ⟨rfl, HR.out⟩
set_option maxRecDepth 1000000 in
set_option maxHeartbeats 8000000 in
theorem exec_l_no (g : Nat) (op : Int) (lo : 208 ≤ op) (hi : op ≤ 255) (P : World → Prop) (c : Int) (w : World) (c0 : w.cell? ⟨g, 0, none⟩ = some (.int .i64 op)) (hb : Calls Try.prog 47 #[.pointer (some ⟨g, 0, none⟩)] w fun e w' => e = .panicked [{ v := .iface 65 (.int .i64 c), recovered := false }] ∧ P w') : Calls Try.prog 31 #[.pointer (some ⟨g, 0, none⟩)] w fun e w' => e = .panicked [{ v := .iface 65 (.int .i64 c), recovered := false }] ∧ P w' := by
  have klt16 : ¬ op < 16 := by omega
  have kge69 : op ≥ 69 := by omega
  have kle71 : ¬ op ≤ 71 := by omega
  have keq134 : (op == 134) = false := by simp; omega
  have keq135 : (op == 135) = false := by simp; omega
  have kge136 : op ≥ 136 := by omega
  have kle143 : ¬ op ≤ 143 := by omega
  have keq65 : (op == 65) = false := by simp; omega
  have kge64 : op ≥ 64 := by omega
  have kle67 : ¬ op ≤ 67 := by omega
  have keq80 : (op == 80) = false := by simp; omega
  have keq144 : (op == 144) = false := by simp; omega
  have keq152 : (op == 152) = false := by simp; omega
  have kge145 : op ≥ 145 := by omega
  have kle151 : ¬ op ≤ 151 := by omega
  have kge208 : op ≥ 208 := by omega
  have HB := Lib.hid hb
  clear hb
  go_enter Try.func31, Try.ntmps31
  go_wp2_with (go_at_call 47; refine HB.out.mono ?_; rintro e w3 ⟨rfl, hR⟩; have HR := Lib.hid hR; clear hR)
  exact ⟨rfl, rfl, HR.out⟩
end Go.Proofs.Ythjdjbipfdigeaa

namespace Go.Proofs.Ythjdjbipfdigeaa
open Go.RowKit
set_option maxRecDepth 100000
set_option linter.unusedVariables false
set_option linter.unusedSimpArgs false
/-- TR, byte by byte -/
def trS (bs xs : List Int) (a b : Int) : Nat → List Int
  | 0 => xs
  | k + 1 => (trS bs xs a b k).set k (if a ≤ b + xs.getD k 0 ∧ b + xs.getD k 0 < a + (k : Int) then (trS bs xs a b k).getD (b + xs.getD k 0 - a).toNat 0 else (sGet bs (b + xs.getD k 0) 1).getD 0 0)
def trE (bs ks xs : List Int) (key b : Int) : Nat → Int
  | 0 => 0
  | k + 1 => if trE bs ks xs key b k = 0 then sCode (alF key) bs.length ks (b + xs.getD k 0) 1 else trE bs ks xs key b k
end Go.Proofs.Ythjdjbipfdigeaa

namespace Go.Proofs.Ythjdjbipfdigeaa
open Go.RowKit
set_option maxRecDepth 100000
set_option linter.unusedVariables false
set_option linter.unusedSimpArgs false
/-- TRT from byte k on: the code that is thrown, or what was found -/
def scn (bs ks : List Int) (key a b : Int) : Nat → Nat → Int × Option (Nat × Int)
  | 0, _ => (0, none)
  | m + 1, k => if sCode (alF key) bs.length ks (a + (k : Int)) 1 = 0 then
      (if sCode (alF key) bs.length ks (b + (sGet bs (a + (k : Int)) 1).getD 0 0) 1 = 0 then
        (if (sGet bs (b + (sGet bs (a + (k : Int)) 1).getD 0 0) 1).getD 0 0 = 0 then scn bs ks key a b m (k + 1) else (0, some (k, (sGet bs (b + (sGet bs (a + (k : Int)) 1).getD 0 0) 1).getD 0 0)))
        else (sCode (alF key) bs.length ks (b + (sGet bs (a + (k : Int)) 1).getD 0 0) 1, none))
      else (sCode (alF key) bs.length ks (a + (k : Int)) 1, none)
def scnR (os rs : List Int) (a : Int) : Option (Nat × Int) → List Int
  | none => rs
  | some (k, f) => (rs.set 1 (os.getD 1 0 / 16777216 * 16777216 + (a + (k : Int)))).set 2 (os.getD 2 0 / 256 * 256 + f)
def scnQ (N : Nat) : Option (Nat × Int) → Int
  | none => 0
  | some (k, _) => if k + 1 = N then 2 else 1
end Go.Proofs.Ythjdjbipfdigeaa

namespace Go.Proofs.Ythjdjbipfdigeaa
open Go.RowKit
set_option maxRecDepth 100000
set_option linter.unusedVariables false
set_option linter.unusedSimpArgs false
def lmR (rs : List Int) (n : Nat) (zs : List Int) : Nat → List Int
  | 0 => rs
  | k + 1 => (lmR rs n zs k).set ((n + k) % 16) (flv (zs.getD (4 * k) 0) (zs.getD (4 * k + 1) 0) (zs.getD (4 * k + 2) 0) (zs.getD (4 * k + 3) 0))
end Go.Proofs.Ythjdjbipfdigeaa

namespace Go.Proofs.Ythjdjbipfdigeaa
open Go.RowKit
set_option maxRecDepth 100000
set_option linter.unusedVariables false
set_option linter.unusedSimpArgs false
/-- what an instruction works on -/
structure Pre where
  os : List Int
  key : Int
  il : Int
  cc : Int
  pg : Int
  ad : Int
  bs : List Int
  ks : List Int
/-- what it leaves: a code, the registers, condition code, program mask, address, overflow, bytes -/
structure Out where
  c : Int
  rs : List Int
  cc : Int
  pg : Int
  ad : Int
  ov : Bool
  bs : List Int
namespace Pre
def no (p : Pre) (c : Int) : Out := ⟨c, p.os, p.cc, p.pg, p.ad, false, p.bs⟩
def rg (p : Pre) (rs : List Int) : Out := ⟨0, rs, p.cc, p.pg, p.ad, false, p.bs⟩
def st (p : Pre) (rs : List Int) (cc : Int) (ov : Bool) : Out := ⟨0, rs, cc, p.pg, p.ad, ov, p.bs⟩
def br (p : Pre) (rs : List Int) (t : Bool) (tgt : Int) : Out := ⟨0, rs, p.cc, p.pg, if t = true then tgt else p.ad, false, p.bs⟩
def pc (p : Pre) (a n : Int) : Int := sCode (alP p.key) p.bs.length p.ks a n
def fc (p : Pre) (a n : Int) : Int := sCode (alF p.key) p.bs.length p.ks a n
def wr (p : Pre) (a n : Int) (ys : List Int) (cc : Int) : Out := if p.pc a n = 0 then ⟨0, p.os, cc, p.pg, p.ad, false, sPut (alP p.key) p.bs p.ks a ys⟩ else p.no (p.pc a n)
end Pre
def brO (p : Pre) (op : Int) (n k : Nat) (a : Int) : Out :=
  if op = 4 then ⟨0, p.os, p.os.getD n 0 / 268435456 % 4, p.os.getD n 0 / 16777216 % 16, p.ad, false, p.bs⟩
  else if op = 5 then p.br (p.os.set n (p.il * 1073741824 + p.cc * 268435456 + p.pg * 16777216 + p.ad)) (decide (k ≠ 0)) (p.os.getD k 0 % 16777216)
  else if op = 69 then p.br (p.os.set n (p.il * 1073741824 + p.cc * 268435456 + p.pg * 16777216 + p.ad)) true a
  else if op = 6 then p.br (p.os.set n (lo32 (p.os.getD n 0 - 1))) ((p.os.getD n 0 != 1) && decide (k ≠ 0)) (p.os.getD k 0 % 16777216)
  else if op = 70 then p.br (p.os.set n (lo32 (p.os.getD n 0 - 1))) (p.os.getD n 0 != 1) a
  else if op = 7 then p.br p.os (pbr (n : Int) p.cc && decide (k ≠ 0)) (p.os.getD k 0 % 16777216)
  else if op = 71 then p.br p.os (pbr (n : Int) p.cc) a
  else if op = 134 then p.br (p.os.set n (lo32 (p.os.getD n 0 + p.os.getD k 0))) (sgn (sg (lo32 (p.os.getD n 0 + p.os.getD k 0)) - sg (p.os.getD (k / 2 * 2 + 1) 0)) == 2) a
  else p.br (p.os.set n (lo32 (p.os.getD n 0 + p.os.getD k 0))) (!(sgn (sg (lo32 (p.os.getD n 0 + p.os.getD k 0)) - sg (p.os.getD (k / 2 * 2 + 1) 0)) == 2)) a
def arO (p : Pre) (op : Int) (n : Nat) (c v : Int) : Out :=
  if op = 28 ∨ op = 29 ∨ op = 92 ∨ op = 93 then
    if n % 2 = 1 then p.no 6 else if c ≠ 0 then p.no c
    else if op = 28 ∨ op = 92 then p.rg ((p.os.set n (lo32 (sg (p.os.getD (n + 1) 0) * sg v / 4294967296))).set (n + 1) (lo32 (sg (p.os.getD (n + 1) 0) * sg v)))
    else if dok (sg64 (dbl (p.os.getD n 0) (p.os.getD (n + 1) 0))) (sg v) = true then p.rg ((p.os.set n (drem (sg64 (dbl (p.os.getD n 0) (p.os.getD (n + 1) 0))) (sg v))).set (n + 1) (dquo (sg64 (dbl (p.os.getD n 0) (p.os.getD (n + 1) 0))) (sg v)))
    else p.no 9
  else if c ≠ 0 then p.no c
  else if op = 24 ∨ op = 88 ∨ op = 72 then p.rg (p.os.set n v)
  else if op = 16 ∨ op = 17 ∨ op = 18 ∨ op = 19 then p.st (p.os.set n (sgnV op v)) (sgnQ op v) (sgnO op v)
  else if op = 26 ∨ op = 90 ∨ op = 74 then p.st (p.os.set n (lo32 (sg (p.os.getD n 0) + sg v))) (rcc (sg (p.os.getD n 0) + sg v)) (ovf (sg (p.os.getD n 0) + sg v))
  else if op = 27 ∨ op = 91 ∨ op = 75 then p.st (p.os.set n (lo32 (sg (p.os.getD n 0) - sg v))) (rcc (sg (p.os.getD n 0) - sg v)) (ovf (sg (p.os.getD n 0) - sg v))
  else if op = 30 ∨ op = 94 then p.st (p.os.set n (lo32 (p.os.getD n 0 + v))) (lcc (lo32 (p.os.getD n 0 + v)) (decide (4294967296 ≤ p.os.getD n 0 + v))) false
  else if op = 31 ∨ op = 95 then p.st (p.os.set n (lo32 (p.os.getD n 0 - v))) (lcc (lo32 (p.os.getD n 0 - v)) (decide (v ≤ p.os.getD n 0))) false
  else if op = 25 ∨ op = 89 ∨ op = 73 then p.st p.os (sgn (sg (p.os.getD n 0) - sg v)) false
  else if op = 21 ∨ op = 85 then p.st p.os (sgn (p.os.getD n 0 - v)) false
  else if op = 20 ∨ op = 84 then p.st (p.os.set n (bits .and .u32 (p.os.getD n 0) v)) (if bits .and .u32 (p.os.getD n 0) v = 0 then 0 else 1) false
  else if op = 22 ∨ op = 86 then p.st (p.os.set n (bits .or .u32 (p.os.getD n 0) v)) (if bits .or .u32 (p.os.getD n 0) v = 0 then 0 else 1) false
  else if op = 23 ∨ op = 87 then p.st (p.os.set n (bits .xor .u32 (p.os.getD n 0) v)) (if bits .xor .u32 (p.os.getD n 0) v = 0 then 0 else 1) false
  else p.rg (p.os.set n (lo32 (sg (p.os.getD n 0) * sg v)))
def shO (p : Pre) (op : Int) (n : Nat) (a : Int) : Out :=
  if 140 ≤ op ∧ n % 2 = 1 then p.no 6
  else if op = 136 then p.rg (p.os.set n (slg (p.os.getD n 0) (plc a) false))
  else if op = 137 then p.rg (p.os.set n (slg (p.os.getD n 0) (plc a) true))
  else if op = 138 then p.st (p.os.set n (srv (p.os.getD n 0) (plc a))) (sgn (sg (srv (p.os.getD n 0) (plc a)))) false
  else if op = 139 then p.st (p.os.set n (slv (p.os.getD n 0) (plc a))) (slc (p.os.getD n 0) (plc a)) (slo (p.os.getD n 0) (plc a))
  else if op = 140 then p.rg ((p.os.set n (lo32 (dlg (dbl (p.os.getD n 0) (p.os.getD (n + 1) 0)) (plc a) false / 4294967296))).set (n + 1) (lo32 (dlg (dbl (p.os.getD n 0) (p.os.getD (n + 1) 0)) (plc a) false)))
  else if op = 141 then p.rg ((p.os.set n (lo32 (dlg (dbl (p.os.getD n 0) (p.os.getD (n + 1) 0)) (plc a) true / 4294967296))).set (n + 1) (lo32 (dlg (dbl (p.os.getD n 0) (p.os.getD (n + 1) 0)) (plc a) true)))
  else if op = 142 then p.st ((p.os.set n (lo32 (drv (dbl (p.os.getD n 0) (p.os.getD (n + 1) 0)) (plc a) / 4294967296))).set (n + 1) (lo32 (drv (dbl (p.os.getD n 0) (p.os.getD (n + 1) 0)) (plc a)))) (sgn (sg64 (drv (dbl (p.os.getD n 0) (p.os.getD (n + 1) 0)) (plc a)))) false
  else p.st ((p.os.set n (lo32 (dlv (dbl (p.os.getD n 0) (p.os.getD (n + 1) 0)) (plc a) / 4294967296))).set (n + 1) (lo32 (dlv (dbl (p.os.getD n 0) (p.os.getD (n + 1) 0)) (plc a)))) (dlc (dbl (p.os.getD n 0) (p.os.getD (n + 1) 0)) (plc a)) (dlo (dbl (p.os.getD n 0) (p.os.getD (n + 1) 0)) (plc a))
/-- the number of registers of STM and LM -/
def cnt (n m : Nat) : Nat := (m + 16 - n) % 16 + 1
def mvO (p : Pre) (op : Int) (n m : Nat) (a : Int) : Out :=
  if op = 80 then (if a % 4 = 0 then p.wr a 4 (fb (p.os.getD n 0)) p.cc else p.no 6)
  else if op = 64 then (if a % 2 = 0 then p.wr a 2 ((fb (p.os.getD n 0)).drop 2) p.cc else p.no 6)
  else if op = 66 then p.wr a 1 ((fb (p.os.getD n 0)).drop 3) p.cc
  else if op = 67 then (if p.fc a 1 = 0 then p.rg (p.os.set n (p.os.getD n 0 / 256 * 256 + (sGet p.bs a 1).getD 0 0)) else p.no (p.fc a 1))
  else if op = 144 then (if a % 4 = 0 then p.wr a ((4 * cnt n m : Nat) : Int) (stB p.os n (cnt n m)) p.cc else p.no 6)
  else (if a % 4 = 0 then (if p.fc a ((4 * cnt n m : Nat) : Int) = 0 then p.rg (lmR p.os n (sGet p.bs a ((4 * cnt n m : Nat) : Int)) (cnt n m)) else p.no (p.fc a ((4 * cnt n m : Nat) : Int))) else p.no 6)
/-- the byte that an immediate instruction makes -/
def imB (op b i : Int) : Int := if op = 148 then bits .and .u8 b i else if op = 150 then bits .or .u8 b i else bits .xor .u8 b i
def imO (p : Pre) (op : Int) (a i : Int) : Out :=
  if op = 146 then p.wr a 1 [i] p.cc
  else if p.fc a 1 ≠ 0 then p.no (p.fc a 1)
  else if op = 145 then p.st p.os (if bits .and .u8 ((sGet p.bs a 1).getD 0 0) i = 0 then 0 else if bits .and .u8 ((sGet p.bs a 1).getD 0 0) i = i then 3 else 1) false
  else if op = 149 then p.st p.os (sgn ((sGet p.bs a 1).getD 0 0 - i)) false
  else if op = 147 then p.wr a 1 [255] ((sGet p.bs a 1).getD 0 0 / 128)
  else p.wr a 1 [imB op ((sGet p.bs a 1).getD 0 0) i] (if imB op ((sGet p.bs a 1).getD 0 0) i = 0 then 0 else 1)
def loO (p : Pre) (op : Int) (N : Nat) (a b : Int) : Out :=
  if op = 221 then (match scn p.bs p.ks p.key a b N 0 with
    | (c, o) => if c = 0 then ⟨0, scnR p.os p.os a o, scnQ N o, p.pg, p.ad, false, p.bs⟩ else p.no c)
  else if p.fc a N ≠ 0 then p.no (p.fc a N)
  else if op = 220 then (if trE p.bs p.ks (sGet p.bs a N) p.key b N = 0 then p.wr a N (trS p.bs (sGet p.bs a N) a b N) p.cc else p.no (trE p.bs p.ks (sGet p.bs a N) p.key b N))
  else if p.fc b N ≠ 0 then p.no (p.fc b N)
  else if op = 213 then p.st p.os (clc (sGet p.bs a N) (sGet p.bs b N)) false
  else p.wr a N (cmb (cb op) (sGet p.bs a N) (sGet p.bs b N) (a - b) N) (if op = 212 ∨ op = 214 ∨ op = 215 then cmbS (cb op) (sGet p.bs a N) (sGet p.bs b N) (a - b) N else p.cc)
/-- what exec does -/
def exO (p : Pre) (op fm : Int) (n k : Nat) (a1 a : Int) (l1 : Nat) (i2 : Int) : Out :=
  if op < 16 ∨ (69 ≤ op ∧ op ≤ 71) ∨ op = 134 ∨ op = 135 then brO p op n k a
  else if 136 ≤ op ∧ op ≤ 143 then shO p op n a
  else if op = 65 then p.rg (p.os.set n a)
  else if op = 64 ∨ op = 66 ∨ op = 67 ∨ op = 80 ∨ op = 144 ∨ op = 152 then mvO p op n k a
  else if 145 ≤ op ∧ op ≤ 151 then imO p op a1 i2
  else if 208 ≤ op then loO p op (l1 + 1) a1 a
  else arO p op n (opC op fm p.bs p.ks p.key a) (opV op fm p.os k p.bs a)
end Go.Proofs.Ythjdjbipfdigeaa

namespace Go.Proofs.Ythjdjbipfdigeaa
open Go.RowKit
set_option maxRecDepth 100000
set_option linter.unusedVariables false
set_option linter.unusedSimpArgs false
theorem ext_getD {l m : List Int} (h : l.length = m.length) (hj : ∀ j, j < l.length → l.getD j 0 = m.getD j 0) : l = m := by
  apply List.ext_getElem h
  intro j h1 h2
  have := hj j h1
  rw [List.getD_eq_getElem?_getD, List.getD_eq_getElem?_getD, List.getElem?_eq_getElem h1, List.getElem?_eq_getElem h2] at this
  exact this
theorem alP_0 (k : Int) : alP 0 k = true := by simp [alP]
theorem alF_0 (k : Int) : alF 0 k = true := by simp [alF]
theorem codeH (al : Int → Bool) (hal : ∀ k, al k = true) (N : Nat) (ks : List Int) (a n : Nat) (h : a + n ≤ N) : sCode al N ks (a : Int) (n : Int) = 0 := by
  unfold sCode
  rw [if_pos (show sIn N (a : Int) (n : Int) = true from by unfold sIn; exact decide_eq_true (by omega)), if_pos]
  unfold okB; rw [List.all_eq_true]; intro j _; exact hal _
theorem put_eq (bs ks ys : List Int) (a : Nat) (h : a + ys.length ≤ bs.length) : sPut (alP 0) bs ks (a : Int) ys = splice bs a ys := by
  unfold sPut
  rw [if_pos (codeH _ alP_0 _ _ _ _ h), Int.toNat_natCast]
theorem put_len (bs ks ys : List Int) (a : Nat) (h : a + ys.length ≤ bs.length) : (sPut (alP 0) bs ks (a : Int) ys).length = bs.length := by
  rw [put_eq bs ks ys a h]; unfold splice; simp; omega
theorem put_getD (bs ks ys : List Int) (a j : Nat) (h : a + ys.length ≤ bs.length) : (sPut (alP 0) bs ks (a : Int) ys).getD j 0 = if a ≤ j ∧ j < a + ys.length then ys.getD (j - a) 0 else bs.getD j 0 := by
  rw [put_eq bs ks ys a h]
  simp only [List.getD_eq_getElem?_getD]
  rw [splice_get bs a ys h j]
  by_cases h1 : j < a
  · rw [if_pos h1, if_neg (by omega)]
  · rw [if_neg h1]
    by_cases h2 : j < a + ys.length
    · rw [if_pos h2, if_pos (by omega)]
    · rw [if_neg h2, if_neg (by omega)]
theorem get_eq (bs : List Int) (a n : Nat) (h : a + n ≤ bs.length) : sGet bs (a : Int) (n : Int) = (bs.drop a).take n := by
  unfold sGet
  rw [if_pos (show sIn bs.length (a : Int) (n : Int) = true from by unfold sIn; exact decide_eq_true (by omega)), Int.toNat_natCast, Int.toNat_natCast]
theorem get_len (bs : List Int) (a n : Nat) (h : a + n ≤ bs.length) : (sGet bs (a : Int) (n : Int)).length = n := by
  rw [get_eq bs a n h]; simp; omega
theorem get_getD (bs : List Int) (a n j : Nat) (h : a + n ≤ bs.length) (hj : j < n) : (sGet bs (a : Int) (n : Int)).getD j 0 = bs.getD (a + j) 0 := by
  rw [get_eq bs a n h]
  simp only [List.getD_eq_getElem?_getD]
  rw [List.getElem?_take, if_pos hj, List.getElem?_drop]
/-- bytes put are got -/
theorem get_put_same (bs ks ys : List Int) (a : Nat) (h : a + ys.length ≤ bs.length) : sGet (sPut (alP 0) bs ks (a : Int) ys) (a : Int) (ys.length : Int) = ys := by
  have hl := put_len bs ks ys a h
  apply ext_getD
  · rw [get_len _ _ _ (by omega)]
  · intro j hj
    rw [get_len _ _ _ (by omega)] at hj
    rw [get_getD _ _ _ _ (by omega) hj, put_getD bs ks ys a (a + j) h, if_pos (by omega), show a + j - a = j by omega]
/-- bytes elsewhere are as they were -/
theorem get_put_far (bs ks ys : List Int) (a b n : Nat) (h : a + ys.length ≤ bs.length) (hb : b + n ≤ bs.length) (hd : b + n ≤ a ∨ a + ys.length ≤ b) : sGet (sPut (alP 0) bs ks (a : Int) ys) (b : Int) (n : Int) = sGet bs (b : Int) (n : Int) := by
  have hl := put_len bs ks ys a h
  apply ext_getD
  · rw [get_len _ _ _ (by omega), get_len _ _ _ hb]
  · intro j hj
    rw [get_len _ _ _ (by omega)] at hj
    rw [get_getD _ _ _ _ (by omega) hj, get_getD _ _ _ _ hb hj, put_getD bs ks ys a (b + j) h, if_neg (by omega)]
/-- operands that do not overlap, or are the same -/
theorem cmb_at (f : Int → Int → Int) (x y : List Int) (d : Int) (N : Nat) (hN : N ≤ x.length) (hd : d ≤ 0 ∨ (N : Int) ≤ d) : ∀ k, k ≤ N → ∀ j, (cmb f x y d k).getD j 0 = if j < k then f (x.getD j 0) (y.getD j 0) else x.getD j 0
  | 0, _, j => by simp [cmb]
  | k + 1, hk, j => by
    have ih := cmb_at f x y d N hN hd k (by omega)
    have hl := cmb_len f x y d k
    rw [cmb, if_neg (show ¬ (0 < d ∧ d ≤ (k : Int)) by omega)]
    by_cases h : k = j
    · subst h
      rw [getD_set_same _ _ _ (by omega), ih k, if_neg (by omega), if_pos (by omega)]
    · rw [getD_set_other _ _ _ _ h, ih j]
      by_cases h2 : j < k
      · rw [if_pos h2, if_pos (by omega)]
      · rw [if_neg h2, if_neg (by omega)]
theorem cmb_eq (f : Int → Int → Int) (x y z : List Int) (d : Int) (N : Nat) (hx : x.length = N) (hz : z.length = N) (hd : d ≤ 0 ∨ (N : Int) ≤ d) (hf : ∀ j, j < N → f (x.getD j 0) (y.getD j 0) = z.getD j 0) : cmb f x y d N = z := by
  apply ext_getD
  · rw [cmb_len, hx, hz]
  · intro j hj
    rw [cmb_len, hx] at hj
    rw [cmb_at f x y d N (by omega) hd N (by omega) j, if_pos hj, hf j hj]
theorem chk_ss : ∀ l : Nat, l < 256 → chk 210 5 [210, 5, 0, 0, 0, 14, 0, 15, 0, (l : Int), 0, 0] = 0 ∧ chk 215 5 [215, 5, 0, 0, 0, 14, 0, 15, 0, (l : Int), 0, 0] = 0 := by decide +kernel
theorem chk_s2 (op : Int) (hop : op = 210 ∨ op = 215) (l : Nat) (hl : l < 256) : kn op = true ∧ chk op 5 [op, 5, 0, 0, 0, 14, 0, 15, 0, (l : Int), 0, 0] = 0 := by
  rcases hop with rfl | rfl
  · exact ⟨by decide +kernel, (chk_ss l hl).1⟩
  · exact ⟨by decide +kernel, (chk_ss l hl).2⟩
/-- what MVC and XC leave -/
theorem exO_ss (op : Int) (hop : op = 210 ∨ op = 215) (os bs ks : List Int) (cc : Int) (l a b : Nat) (ha : a + (l + 1) ≤ bs.length) (hb : b + (l + 1) ≤ bs.length) (X Y : List Int) (hX : sGet bs (a : Int) ((l + 1 : Nat) : Int) = X) (hY : sGet bs (b : Int) ((l + 1 : Nat) : Int) = Y) :
    exO ⟨os, 0, 0, cc, 0, 0, bs, ks⟩ op 5 0 0 (a : Int) (b : Int) l 0 = ⟨0, os, if op = 215 then cmbS (cb op) X Y ((a : Int) - (b : Int)) (l + 1) else cc, 0, 0, false, sPut (alP 0) bs ks (a : Int) (cmb (cb op) X Y ((a : Int) - (b : Int)) (l + 1))⟩ := by
  have f1 : sCode (alF 0) bs.length ks (a : Int) ((l + 1 : Nat) : Int) = 0 := codeH _ alF_0 _ _ _ _ ha
  have f2 : sCode (alF 0) bs.length ks (b : Int) ((l + 1 : Nat) : Int) = 0 := codeH _ alF_0 _ _ _ _ hb
  have f3 : sCode (alP 0) bs.length ks (a : Int) ((l + 1 : Nat) : Int) = 0 := codeH _ alP_0 _ _ _ _ ha
  have e0 : exO ⟨os, 0, 0, cc, 0, 0, bs, ks⟩ op 5 0 0 (a : Int) (b : Int) l 0 = loO ⟨os, 0, 0, cc, 0, 0, bs, ks⟩ op (l + 1) (a : Int) (b : Int) := by
    unfold exO; rw [if_neg (by omega), if_neg (by omega), if_neg (by omega), if_neg (by omega), if_neg (by omega), if_pos (by omega)]
  rw [e0]
  unfold loO Pre.fc
  rw [if_neg (by omega), if_neg (by simpa using f1), if_neg (by omega), if_neg (by simpa using f2), if_neg (by omega)]
  dsimp only
  rw [hX, hY]
  unfold Pre.wr Pre.pc
  rw [if_pos f3]
  rcases hop with rfl | rfl <;> rfl
theorem xor_self : ∀ n : Nat, n < 256 → bits .xor .u8 (n : Int) (n : Int) = 0 := by decide +kernel
end Go.Proofs.Ythjdjbipfdigeaa

namespace Go.Proofs.Ythjdjbipfdigeaa
open Go.RowKit
set_option linter.unusedVariables false

theorem take_next_eq9 {zs zs' : List Int} {k : Nat} (h : zs.take k = zs'.take k) (hk : k < zs.length) (hk' : k < zs'.length) (e : zs.getD k 0 = zs'.getD k 0) : zs.take (k + 1) = zs'.take (k + 1) := by
  rw [List.take_succ_eq_append_getElem hk, List.take_succ_eq_append_getElem hk', h]
  rw [List.getD_eq_getElem?_getD, List.getD_eq_getElem?_getD, List.getElem?_eq_getElem hk, List.getElem?_eq_getElem hk'] at e
  simp only [Option.getD_some] at e
  rw [e]

set_option maxHeartbeats 1000000 in
theorem same9_c (A : Option Addr) (len cap : Nat) (zs : List Int) (A' : Option Addr) (len' cap' : Nat) (zs' : List Int) (w : World) (hb : Byt w A len zs) (hb' : Byt w A' len' zs') (hl : (len : Int) ≤ 9223372036854775807) (hl' : (len' : Int) ≤ 9223372036854775807) :
    Calls Try.prog 18 #[.slice A len cap, .slice A' len' cap'] w fun e w' => e = .returned (.bool (decide (zs = zs'))) ∧ ∃ n, w' = w.drewN n := by
  by_cases hne : len = len'
  · subst hne
    have e0 : ((len : Int) != (len : Int)) = false := by simp
    have H1 := Lib.hid hb.1
    have H2 := Lib.hid hb'.1
    have HB := Lib.hid hb
    have HB' := Lib.hid hb'
    clear hb hb'
    go_enter Try.func18, Try.ntmps18
    go_wp2
    go_loopw [4, 5] (fun r i wr => ∃ k : Nat, k ≤ len ∧ i = .int .i64 k ∧ zs.take k = zs'.take k ∧ ∃ n, wr = w.drewN n) (fun _ i _ => len - (intOf i).toNat)
    case atStart => exact ⟨0, Nat.zero_le _, rfl, by simp, 0, rfl⟩
    case round =>
      obtain ⟨k, hk, rfl, heq, n, rfl⟩ := hrel
      have Heq := Lib.hid heq
      clear heq
      by_cases hlt : k < len
      · obtain ⟨b, off, rfl, hc⟩ := HB.out.at_ (by omega)
        obtain ⟨b', off', rfl, hc'⟩ := HB'.out.at_ (by omega)
        have c1 := hc k hlt
        have c2 := hc' k hlt
        clear hc hc'
        obtain ⟨x, hx⟩ : ∃ x, zs.getD k 0 = x := ⟨_, rfl⟩
        obtain ⟨y, hy⟩ : ∃ y, zs'.getD k 0 = y := ⟨_, rfl⟩
        rw [hx] at c1
        rw [hy] at c2
        have k1 : (k : Int) < (len : Int) := by omega
        have Hx := Lib.hid hx
        have Hy := Lib.hid hy
        clear hx hy
        by_cases hxy : x = y
        · subst hxy
          have t0 : (x != x) = false := by simp
          go_wp2
          go_quiet (fail)
          go_wp2
          go_roundw
          case rel => exact ⟨k + 1, by omega, by go_num, take_next_eq9 Heq.out (by rw [H1.out]; exact hlt) (by rw [H2.out]; exact hlt) (by rw [Hx.out, Hy.out]), _, rfl⟩
          case measure => simp [intOf]; omega
        · have t0 : (x != y) = true := by simpa using hxy
          have hfin := Lib.hid (show decide (zs = zs') = false from by rw [decide_eq_false_iff_not]; rintro rfl; exact hxy (Hx.out.symm.trans Hy.out))
          go_wp2
          go_quiet (fail)
          go_wp2
          go_ret
          exact ⟨by rw [hfin.out]; rfl, _, World.drewN_drewN _ _ _⟩
      · obtain rfl : k = len := by omega
        have hfin := Lib.hid (show decide (zs = zs') = true from by
          rw [decide_eq_true_iff]
          have := Heq.out
          rwa [List.take_of_length_le (by rw [H1.out]; exact Nat.le_refl _), List.take_of_length_le (by rw [H2.out]; exact Nat.le_refl _)] at this)
        go_wp2
        go_ret
        exact ⟨by rw [hfin.out]; rfl, _, rfl⟩
  · have e0 : ((len : Int) != (len' : Int)) = true := by simp; omega
    have hfin := Lib.hid (show decide (zs = zs') = false from by rw [decide_eq_false_iff_not]; rintro rfl; exact hne (hb.1.symm.trans hb'.1))
    clear hb hb' hne
    go_enter Try.func18, Try.ntmps18
    go_wp2
    go_ret
    exact ⟨by rw [hfin.out]; rfl, 0, rfl⟩
end Go.Proofs.Ythjdjbipfdigeaa

namespace Go.Proofs.Ythjdjbipfdigeaa
open Go.RowKit
set_option maxRecDepth 100000
set_option linter.unusedVariables false
set_option linter.unusedSimpArgs false

theorem Rw.zerosB (w : World) (k : Nat) (hk : k ≤ maxLen) : Rw (w.alloc (.cells (zeroB k) 5)) w.heap.size 5 k ((List.replicate k (0 : Int)).map (Value.int .u8)) := by
  have h := Rw.new w (zeroB k) 5 ((List.replicate k (0 : Int)).map (Value.int .u8)) (by simp [zeroB]) (by simpa using hk)
  simpa using h
theorem Rw.zerosI (w : World) (k : Nat) (hk : k ≤ maxLen) : Rw (w.alloc (.cells (zeroI k) 3)) w.heap.size 3 k ((List.replicate k (0 : Int)).map (Value.int .i64)) := by
  have h := Rw.new w (zeroI k) 3 ((List.replicate k (0 : Int)).map (Value.int .i64)) (by simp [zeroI]) (by simpa using hk)
  simpa using h
theorem Rw.alloc {w : World} {g c : Nat} {e : TypeId} {vs : List Value} (h : Rw w g e c vs) (o : Obj) : Rw (w.alloc o) g e c vs := h.keep (Below.heap_alloc w o _ h.lt)
theorem Rw.belowS {w w' : World} {g c : Nat} {e : TypeId} {vs : List Value} (h : Rw w g e c vs) (hb : Below w.heap.size w w') : Rw w' g e c vs := h.keep (hb.block _ h.lt)
/-- the struct laid round its rows -/
theorem St.make {T : TypeId} {w : World} {gb gk cb ck : Nat} {bs ks : List Int} (hb : Rw w gb 5 cb (bs.map (Value.int .u8))) (hk : Rw w gk 3 ck (ks.map (Value.int .i64))) (rb : ∀ z ∈ bs, 0 ≤ z ∧ z ≤ 255) (rk : ∀ z ∈ ks, 0 ≤ z ∧ z ≤ 31) (ln : bs.length = 2048 * ks.length) (l0 : 1 ≤ ks.length) (l1 : ks.length ≤ 32)
    (N m : Nat) (hN : bs.length = N) (hm : ks.length = m) :
    St T (w.alloc (.cells #[.slice (some ⟨gb, 0, none⟩) N cb, .slice (some ⟨gk, 0, none⟩) m ck] T)) ⟨w.heap.size, gb, gk, cb, ck⟩ bs ks :=
  ⟨by subst hN hm; exact heap_alloc_new w _, hb.alloc _, hk.alloc _, rb, rk, ln, l0, l1⟩
/-- zeros -/
def z0 (k : Nat) : List Int := List.replicate k 0
theorem z0_len (k : Nat) : (z0 k).length = k := by simp [z0]
theorem z0_mem {k : Nat} {z : Int} (h : z ∈ z0 k) : z = 0 := List.eq_of_mem_replicate h
theorem new_st1 (T : TypeId) (w : World) (N m : Nat) (h : 2048 * m = N) (h1 : 1 ≤ m) (h2 : m ≤ 32) :
    St T (((w.alloc (.cells (zeroB N) 5)).alloc (.cells (zeroI m) 3)).alloc (.cells #[.slice (some ⟨w.heap.size, 0, none⟩) N N, .slice (some ⟨w.heap.size + 1, 0, none⟩) m m] T)) ⟨w.heap.size + 1 + 1, w.heap.size, w.heap.size + 1, N, m⟩ (z0 N) (z0 m) := by
  have hk := Rw.zerosI (w.alloc (.cells (zeroB N) 5)) m (by unfold maxLen; omega)
  have hb := (Rw.zerosB w N (by unfold maxLen; omega)).alloc (.cells (zeroI m) 3)
  rw [World.size_alloc] at hk
  have h3 := St.make (T := T) (bs := z0 N) (ks := z0 m) hb hk (fun z hz => by rw [z0_mem hz]; omega) (fun z hz => by rw [z0_mem hz]; omega) (by rw [z0_len, z0_len]; omega) (by rw [z0_len]; exact h1) (by rw [z0_len]; exact h2) N m (z0_len _) (z0_len _)
  simp only [World.size_alloc] at h3
  exact h3
theorem new_st2 (T : TypeId) (w : World) (N m : Nat) (h : 2048 * m = N) (h1 : 1 ≤ m) (h2 : m ≤ 32) :
    St T (((w.alloc (.cells (zeroI m) 3)).alloc (.cells (zeroB N) 5)).alloc (.cells #[.slice (some ⟨w.heap.size + 1, 0, none⟩) N N, .slice (some ⟨w.heap.size, 0, none⟩) m m] T)) ⟨w.heap.size + 1 + 1, w.heap.size + 1, w.heap.size, N, m⟩ (z0 N) (z0 m) := by
  have hb := Rw.zerosB (w.alloc (.cells (zeroI m) 3)) N (by unfold maxLen; omega)
  have hk := (Rw.zerosI w m (by unfold maxLen; omega)).alloc (.cells (zeroB N) 5)
  rw [World.size_alloc] at hb
  have h3 := St.make (T := T) (bs := z0 N) (ks := z0 m) hb hk (fun z hz => by rw [z0_mem hz]; omega) (fun z hz => by rw [z0_mem hz]; omega) (by rw [z0_len, z0_len]; omega) (by rw [z0_len]; exact h1) (by rw [z0_len]; exact h2) N m (z0_len _) (z0_len _)
  simp only [World.size_alloc] at h3
  exact h3
theorem below3 (w : World) (a b c : Obj) : Below w.heap.size w ((((w.alloc a).alloc b).alloc c).drew) := dBelow ((((Below.refl w.heap.size w).alloc (Nat.le_refl _) _).alloc (by simp) _).alloc (by simp; omega) _) 1
/-- a storage that is new: pointer value v -/
def NewSt (T : TypeId) (w : World) (bs ks : List Int) (v : Value) (w' : World) : Prop := ∃ F : Foot, v = .pointer (some ⟨F.g, 0, none⟩) ∧ St T w' F bs ks ∧ Below w.heap.size w w' ∧ w.heap.size ≤ F.g ∧ w.heap.size ≤ F.gb ∧ w.heap.size ≤ F.gk

def newPost (m : Nat) (w : World) (e : Ending) (w' : World) : Prop := ∃ v, e = .returned (.tuple #[v, .int .i64 0]) ∧ NewSt 71 w (z0 (2048 * m)) (z0 m) v w'
set_option maxHeartbeats 2000000 in
theorem new_yes (m : Nat) (h1 : 1 ≤ m) (h2 : m ≤ 32) (w : World) : Calls Try.prog 15 #[.int .i64 ((2048 * m : Nat) : Int)] w (newPost m w) := by
  obtain ⟨N, hN⟩ : ∃ N, 2048 * m = N := ⟨_, rfl⟩
  rw [hN]
  have a1 : (2048 : Int) ≤ (N : Int) := by omega
  have a2 : (N : Int) ≤ 65536 := by omega
  have a3 : ((N : Int) % 2048 != 0) = false := by rw [bne_eq_false_iff_eq]; omega
  have hmk := fun W => run_mk_b N (by omega) W
  have hmi := fun W => run_mk_i m (by omega) W
  have d1 : (N : Int).tdiv 2048 = (m : Int) := by rw [Int.tdiv_eq_ediv_of_nonneg (by omega)]; omega
  have d2 : (N : Int) / 2048 = (m : Int) := by omega
  have d3 : IntKind.i64.wrap (m : Int) = (m : Int) := by rw [IntKind.wrap_i64]; omega
  have HN := Lib.hid hN
  have M1 := Lib.hid h1
  have M2 := Lib.hid h2
  clear hN h1 h2
  go_enter Try.func15, Try.ntmps15
  go_wp2
  go_region
  skip
  all_goals
    go_wp2
    go_ret2
    first
      | exact ⟨_, rfl, ⟨_, _, _, _, _⟩, rfl, by rw [HN.out]; exact (new_st1 _ w N m HN.out M1.out M2.out).drewN 1, below3 _ _ _ _, by simp; omega, by simp, by simp⟩
      | exact ⟨_, rfl, ⟨_, _, _, _, _⟩, rfl, by rw [HN.out]; exact (new_st2 _ w N m HN.out M1.out M2.out).drewN 1, below3 _ _ _ _, by simp; omega, by simp, by simp⟩

end Go.Proofs.Ythjdjbipfdigeaa

namespace Go.Proofs.Ythjdjbipfdigeaa
open Go.RowKit
set_option maxRecDepth 100000
set_option linter.unusedVariables false
set_option linter.unusedSimpArgs false
/-- the cells of an instruction, of a status word -/
def isL (op fm : Int) (n k x2 b1 : Nat) (d1 : Int) (b2 : Nat) (d2 : Int) (l1 : Nat) (l2 i2 : Int) : List Int := [op, fm, (n : Int), (k : Int), (x2 : Int), (b1 : Int), d1, (b2 : Int), d2, (l1 : Int), l2, i2]
def psL (m key : Int) (M W P : Bool) (cd il cc pg ad : Int) : List Value := [.int .i64 m, .int .i64 key, .bool M, .bool W, .bool P, .int .i64 cd, .int .i64 il, .int .i64 cc, .int .i64 pg, .int .i64 ad]
/-- how exec ends -/
def Ends (g : Nat) (F : Foot) (is os : List Int) (m key : Int) (M W P : Bool) (cd il : Int) (bs ks : List Int) (o : Out) (w : World) (e : Ending) (w' : World) : Prop :=
  (o.c = 0 → e = .returned (.tuple #[]) ∧ MS w' g F is os o.rs (psL m key M W P cd il o.cc o.pg o.ad) o.ov o.bs ks) ∧ (o.c ≠ 0 → e = .panicked [{ v := .iface 65 (.int .i64 o.c), recovered := false }] ∧ ∃ rs ps ov, MS w' g F is os rs ps ov bs ks) ∧ Ch w w' [g, F.gb]
section
variable {g : Nat} {F : Foot} {is os : List Int} {m key : Int} {M W P : Bool} {cd il : Int} {bs ks : List Int} {o : Out} {w w' : World} {e : Ending} {rs : List Int} {ps : List Value} {ov : Bool}
theorem ends_ok {L : List Nat} (hc : o.c = 0) (he : e = .returned (.tuple #[])) (hM : MS w' g F is os o.rs (psL m key M W P cd il o.cc o.pg o.ad) o.ov o.bs ks) (hC : Ch w w' L) (hL : ∀ k, k ∈ L → k ∈ [g, F.gb]) : Ends g F is os m key M W P cd il bs ks o w e w' :=
  ⟨fun _ => ⟨he, hM⟩, fun h => absurd hc h, hC.mono hL⟩
theorem ends_no {L : List Nat} {c : Int} (hc : o.c = c) (hc0 : c ≠ 0) (he : e = .panicked [{ v := .iface 65 (.int .i64 c), recovered := false }]) (hM : MS w' g F is os rs ps ov bs ks) (hC : Ch w w' L) (hL : ∀ k, k ∈ L → k ∈ [g, F.gb]) : Ends g F is os m key M W P cd il bs ks o w e w' :=
  ⟨fun h => absurd (hc.symm.trans h) hc0, fun _ => ⟨by rw [hc]; exact he, _, _, _, hM⟩, hC.mono hL⟩
end
end Go.Proofs.Ythjdjbipfdigeaa

namespace Go.Proofs.Ythjdjbipfdigeaa
open Go.RowKit
set_option maxRecDepth 100000
set_option linter.unusedVariables false
set_option linter.unusedSimpArgs false
set_option maxRecDepth 1000000 in
set_option maxHeartbeats 8000000 in
theorem exec_gl210 (g n k x2 b1 b2 l1 : Nat) (F : Foot) (op fm d1 d2 l2 i2 : Int) (m key : Int) (M W P : Bool) (cd il cc pg ad : Int) (os bs ks : List Int) (w : World) (h : MS w g F (isL op fm n k x2 b1 d1 b2 d2 l1 l2 i2) os os (psL m key M W P cd il cc pg ad) false bs ks) (ro : ∀ z ∈ os, 0 ≤ z ∧ z ≤ 4294967295) (hn16 : n < 16) (hk16 : k < 16) (hx16 : x2 < 16) (hb116 : b1 < 16) (hb216 : b2 < 16) (hl1 : l1 < 256) (hd1 : 0 ≤ d1 ∧ d1 < 4096) (hd2 : 0 ≤ d2 ∧ d2 < 4096) (hi2 : 0 ≤ i2 ∧ i2 < 256) (a1 a : Int) (ha1 : (d1 + sumB os [b1]) % 16777216 = a1) (ha : (d2 + sumB os [b2, x2]) % 16777216 = a)  (hop : op = 210) : Calls Try.prog 31 #[.pointer (some ⟨g, 0, none⟩)] w (Ends g F (isL op fm n k x2 b1 d1 b2 d2 l1 l2 i2) os m key M W P cd il bs ks (exO (⟨os, key, il, cc, pg, ad, bs, ks⟩ : Pre) op fm n k a1 a l1 i2) w) := by
  have c0 : w.cell? ⟨g, 0, none⟩ = some (.int .i64 op) := h.m.ci (c := 0) (by omega)
  have hb0 : 0 ≤ a ∧ a ≤ 16777215 := by omega
  have hb1 : 0 ≤ a1 ∧ a1 ≤ 16777215 := by omega
  have hsec : ∀ (W' : World) (rs' : List Int) (ps' : List Value) (ov' : Bool) (bs' : List Int), MS W' g F (isL op fm n k x2 b1 d1 b2 d2 l1 l2 i2) os rs' ps' ov' bs' ks → Calls Try.prog 44 #[.pointer (some ⟨g, 0, none⟩)] W' fun e w' => e = .returned (.int .i64 a) ∧ Ch W' w' [] := fun W' rs' ps' ov' bs' hm => by rw [← ha]; exact second_c g b2 x2 d2 _ _ _ _ _ _ _ hm.m ro rfl hd2.1 (by omega) rfl hb216 rfl hx16
  have hfir : ∀ (W' : World) (rs' : List Int) (ps' : List Value) (ov' : Bool) (bs' : List Int), MS W' g F (isL op fm n k x2 b1 d1 b2 d2 l1 l2 i2) os rs' ps' ov' bs' ks → Calls Try.prog 71 #[.pointer (some ⟨g, 0, none⟩)] W' fun e w' => e = .returned (.int .i64 a1) ∧ Ch W' w' [] := fun W' rs' ps' ov' bs' hm => by rw [← ha1]; exact first_c g b1 d1 _ _ _ _ _ _ _ hm.m ro rfl hd1.1 (by omega) rfl hb116
  have hs := fun W' => hsec W' os (psL m key M W P cd il cc pg ad) false bs
  have hs1 := fun W' => hfir W' os (psL m key M W P cd il cc pg ad) false bs
  have e1 : exO (⟨os, key, il, cc, pg, ad, bs, ks⟩ : Pre) 210 fm n k a1 a l1 i2 = loO (⟨os, key, il, cc, pg, ad, bs, ks⟩ : Pre) 210 (l1 + 1) a1 a := rfl
  subst hop
  rw [e1]
  by_cases hf1 : sCode (alF key) bs.length ks a1 ((l1 + 1 : Nat) : Int) = 0
  rotate_left
  · refine (exec_l_no g 210 (by omega) (by omega) _ _ w c0 (long_210_no g _ _ w c0 (combine_no1 g 76 (l1 + 1) (cb 210) false F _ _ _ _ _ _ _ key a1 a w h (show ((l1 : Nat) : Int) + 1 = ((l1 + 1 : Nat) : Int) by omega) (by omega) rfl hs1 hs hb1.1 hb1.2 hb0.1 hb0.2  _ rfl hf1))).mono ?_
    rintro e w' ⟨rfl, hM, hC⟩
    exact ends_no (show Out.c (loO (⟨os, key, il, cc, pg, ad, bs, ks⟩ : Pre) 210 (l1 + 1) a1 a) = _ by unfold loO Pre.fc; rw [if_neg (by decide), if_pos hf1]; rfl) hf1 rfl hM hC (by simp)
  by_cases hf2 : sCode (alF key) bs.length ks a ((l1 + 1 : Nat) : Int) = 0
  rotate_left
  · refine (exec_l_no g 210 (by omega) (by omega) _ _ w c0 (long_210_no g _ _ w c0 (combine_no2 g 76 (l1 + 1) (cb 210) false F _ _ _ _ _ _ _ key a1 a w h (show ((l1 : Nat) : Int) + 1 = ((l1 + 1 : Nat) : Int) by omega) (by omega) rfl hs1 hs hb1.1 hb1.2 hb0.1 hb0.2  hf1 _ rfl hf2))).mono ?_
    rintro e w' ⟨rfl, hM, hC⟩
    exact ends_no (show Out.c (loO (⟨os, key, il, cc, pg, ad, bs, ks⟩ : Pre) 210 (l1 + 1) a1 a) = _ by unfold loO Pre.fc; rw [if_neg (by decide), if_neg (by simpa using hf1), if_neg (by decide), if_pos hf2]; rfl) hf2 rfl hM hC (by simp)
  obtain ⟨c, hcd⟩ : ∃ c, sCode (alP key) bs.length ks a1 ((l1 + 1 : Nat) : Int) = c := ⟨_, rfl⟩
  have hst := combine_m g 76 (l1 + 1) (cb 210) false F _ _ _ _ _ _ _ key a1 a w h (show ((l1 : Nat) : Int) + 1 = ((l1 + 1 : Nat) : Int) by omega) (by omega) rfl hs1 hs hb1.1 hb1.2 hb0.1 hb0.2  (by omega) hf1 hf2 (clo_call_210) (fun x y W => clo_210 x y W) (fun x y => cb_in 210 x y) c hcd
  have e2 : loO (⟨os, key, il, cc, pg, ad, bs, ks⟩ : Pre) 210 (l1 + 1) a1 a = Pre.wr (⟨os, key, il, cc, pg, ad, bs, ks⟩ : Pre) a1 ((l1 + 1 : Nat) : Int) (cmb (cb 210) (sGet bs a1 ((l1 + 1 : Nat) : Int)) (sGet bs a ((l1 + 1 : Nat) : Int)) (a1 - a) (l1 + 1)) cc := by unfold loO Pre.fc; rw [if_neg (by decide), if_neg (by simpa using hf1), if_neg (by decide), if_neg (by simpa using hf2), if_neg (by decide)]; rfl
  rw [e2]
  by_cases hc : c = 0
  · have hcp := hcd.trans hc
    refine (exec_l g 210 (by omega) (by omega) (fun w' => MS w' g F (isL 210 fm n k x2 b1 d1 b2 d2 l1 l2 i2) os os (psL m key M W P cd il cc pg ad) false (sPut (alP key) bs ks a1 (cmb (cb 210) (sGet bs a1 ((l1 + 1 : Nat) : Int)) (sGet bs a ((l1 + 1 : Nat) : Int)) (a1 - a) (l1 + 1))) ks ∧ Ch w w' [g, F.gb]) w c0 (long_210 g _ w c0 (hst.mono ?_))).mono ?_
    · rintro e w' ⟨h1, h2, h3⟩; exact ⟨(h1 hc).1, (h1 hc).2, h3⟩
    rintro e w' ⟨rfl, hM, hC⟩
    have e3 : Pre.wr (⟨os, key, il, cc, pg, ad, bs, ks⟩ : Pre) a1 ((l1 + 1 : Nat) : Int) (cmb (cb 210) (sGet bs a1 ((l1 + 1 : Nat) : Int)) (sGet bs a ((l1 + 1 : Nat) : Int)) (a1 - a) (l1 + 1)) cc = ⟨0, os, cc, pg, ad, false, (sPut (alP key) bs ks a1 (cmb (cb 210) (sGet bs a1 ((l1 + 1 : Nat) : Int)) (sGet bs a ((l1 + 1 : Nat) : Int)) (a1 - a) (l1 + 1)))⟩ := by unfold Pre.wr Pre.pc; rw [if_pos hcp]
    rw [e3]
    exact ends_ok rfl rfl hM hC (by simp)
  · refine (exec_l_no g 210 (by omega) (by omega) (fun w' => MS w' g F (isL 210 fm n k x2 b1 d1 b2 d2 l1 l2 i2) os os (psL m key M W P cd il cc pg ad) false bs ks ∧ Ch w w' [g, F.gb]) c w c0 (long_210_no g _ c w c0 (hst.mono ?_))).mono ?_
    · rintro e w' ⟨h1, h2, h3⟩; exact ⟨(h2 hc).1, (h2 hc).2, h3⟩
    rintro e w' ⟨rfl, hM, hC⟩
    exact ends_no (c := c) (by unfold Pre.wr Pre.pc; rw [hcd, if_neg hc]; rfl) hc rfl hM hC (by simp)
set_option maxRecDepth 1000000 in
set_option maxHeartbeats 8000000 in
theorem exec_gl215 (g n k x2 b1 b2 l1 : Nat) (F : Foot) (op fm d1 d2 l2 i2 : Int) (m key : Int) (M W P : Bool) (cd il cc pg ad : Int) (os bs ks : List Int) (w : World) (h : MS w g F (isL op fm n k x2 b1 d1 b2 d2 l1 l2 i2) os os (psL m key M W P cd il cc pg ad) false bs ks) (ro : ∀ z ∈ os, 0 ≤ z ∧ z ≤ 4294967295) (hn16 : n < 16) (hk16 : k < 16) (hx16 : x2 < 16) (hb116 : b1 < 16) (hb216 : b2 < 16) (hl1 : l1 < 256) (hd1 : 0 ≤ d1 ∧ d1 < 4096) (hd2 : 0 ≤ d2 ∧ d2 < 4096) (hi2 : 0 ≤ i2 ∧ i2 < 256) (a1 a : Int) (ha1 : (d1 + sumB os [b1]) % 16777216 = a1) (ha : (d2 + sumB os [b2, x2]) % 16777216 = a)  (hop : op = 215) : Calls Try.prog 31 #[.pointer (some ⟨g, 0, none⟩)] w (Ends g F (isL op fm n k x2 b1 d1 b2 d2 l1 l2 i2) os m key M W P cd il bs ks (exO (⟨os, key, il, cc, pg, ad, bs, ks⟩ : Pre) op fm n k a1 a l1 i2) w) := by
  have c0 : w.cell? ⟨g, 0, none⟩ = some (.int .i64 op) := h.m.ci (c := 0) (by omega)
  have hb0 : 0 ≤ a ∧ a ≤ 16777215 := by omega
  have hb1 : 0 ≤ a1 ∧ a1 ≤ 16777215 := by omega
  have hsec : ∀ (W' : World) (rs' : List Int) (ps' : List Value) (ov' : Bool) (bs' : List Int), MS W' g F (isL op fm n k x2 b1 d1 b2 d2 l1 l2 i2) os rs' ps' ov' bs' ks → Calls Try.prog 44 #[.pointer (some ⟨g, 0, none⟩)] W' fun e w' => e = .returned (.int .i64 a) ∧ Ch W' w' [] := fun W' rs' ps' ov' bs' hm => by rw [← ha]; exact second_c g b2 x2 d2 _ _ _ _ _ _ _ hm.m ro rfl hd2.1 (by omega) rfl hb216 rfl hx16
  have hfir : ∀ (W' : World) (rs' : List Int) (ps' : List Value) (ov' : Bool) (bs' : List Int), MS W' g F (isL op fm n k x2 b1 d1 b2 d2 l1 l2 i2) os rs' ps' ov' bs' ks → Calls Try.prog 71 #[.pointer (some ⟨g, 0, none⟩)] W' fun e w' => e = .returned (.int .i64 a1) ∧ Ch W' w' [] := fun W' rs' ps' ov' bs' hm => by rw [← ha1]; exact first_c g b1 d1 _ _ _ _ _ _ _ hm.m ro rfl hd1.1 (by omega) rfl hb116
  have hs := fun W' => hsec W' os (psL m key M W P cd il cc pg ad) false bs
  have hs1 := fun W' => hfir W' os (psL m key M W P cd il cc pg ad) false bs
  have e1 : exO (⟨os, key, il, cc, pg, ad, bs, ks⟩ : Pre) 215 fm n k a1 a l1 i2 = loO (⟨os, key, il, cc, pg, ad, bs, ks⟩ : Pre) 215 (l1 + 1) a1 a := rfl
  subst hop
  rw [e1]
  by_cases hf1 : sCode (alF key) bs.length ks a1 ((l1 + 1 : Nat) : Int) = 0
  rotate_left
  · refine (exec_l_no g 215 (by omega) (by omega) _ _ w c0 (long_215_no g _ _ w c0 (combine_no1 g 80 (l1 + 1) (cb 215) true F _ _ _ _ _ _ _ key a1 a w h (show ((l1 : Nat) : Int) + 1 = ((l1 + 1 : Nat) : Int) by omega) (by omega) rfl hs1 hs hb1.1 hb1.2 hb0.1 hb0.2  _ rfl hf1))).mono ?_
    rintro e w' ⟨rfl, hM, hC⟩
    exact ends_no (show Out.c (loO (⟨os, key, il, cc, pg, ad, bs, ks⟩ : Pre) 215 (l1 + 1) a1 a) = _ by unfold loO Pre.fc; rw [if_neg (by decide), if_pos hf1]; rfl) hf1 rfl hM hC (by simp)
  by_cases hf2 : sCode (alF key) bs.length ks a ((l1 + 1 : Nat) : Int) = 0
  rotate_left
  · refine (exec_l_no g 215 (by omega) (by omega) _ _ w c0 (long_215_no g _ _ w c0 (combine_no2 g 80 (l1 + 1) (cb 215) true F _ _ _ _ _ _ _ key a1 a w h (show ((l1 : Nat) : Int) + 1 = ((l1 + 1 : Nat) : Int) by omega) (by omega) rfl hs1 hs hb1.1 hb1.2 hb0.1 hb0.2  hf1 _ rfl hf2))).mono ?_
    rintro e w' ⟨rfl, hM, hC⟩
    exact ends_no (show Out.c (loO (⟨os, key, il, cc, pg, ad, bs, ks⟩ : Pre) 215 (l1 + 1) a1 a) = _ by unfold loO Pre.fc; rw [if_neg (by decide), if_neg (by simpa using hf1), if_neg (by decide), if_pos hf2]; rfl) hf2 rfl hM hC (by simp)
  obtain ⟨c, hcd⟩ : ∃ c, sCode (alP key) bs.length ks a1 ((l1 + 1 : Nat) : Int) = c := ⟨_, rfl⟩
  have hst := combine_m g 80 (l1 + 1) (cb 215) true F _ _ _ _ _ _ _ key a1 a w h (show ((l1 : Nat) : Int) + 1 = ((l1 + 1 : Nat) : Int) by omega) (by omega) rfl hs1 hs hb1.1 hb1.2 hb0.1 hb0.2  (by omega) hf1 hf2 (clo_call_215) (fun x y W => clo_215 x y W) (fun x y => cb_in 215 x y) c hcd
  have e2 : loO (⟨os, key, il, cc, pg, ad, bs, ks⟩ : Pre) 215 (l1 + 1) a1 a = Pre.wr (⟨os, key, il, cc, pg, ad, bs, ks⟩ : Pre) a1 ((l1 + 1 : Nat) : Int) (cmb (cb 215) (sGet bs a1 ((l1 + 1 : Nat) : Int)) (sGet bs a ((l1 + 1 : Nat) : Int)) (a1 - a) (l1 + 1)) (cmbS (cb 215) (sGet bs a1 ((l1 + 1 : Nat) : Int)) (sGet bs a ((l1 + 1 : Nat) : Int)) (a1 - a) (l1 + 1)) := by unfold loO Pre.fc; rw [if_neg (by decide), if_neg (by simpa using hf1), if_neg (by decide), if_neg (by simpa using hf2), if_neg (by decide)]; rfl
  rw [e2]
  by_cases hc : c = 0
  · have hcp := hcd.trans hc
    refine (exec_l g 215 (by omega) (by omega) (fun w' => MS w' g F (isL 215 fm n k x2 b1 d1 b2 d2 l1 l2 i2) os os (psL m key M W P cd il (cmbS (cb 215) (sGet bs a1 ((l1 + 1 : Nat) : Int)) (sGet bs a ((l1 + 1 : Nat) : Int)) (a1 - a) (l1 + 1)) pg ad) false (sPut (alP key) bs ks a1 (cmb (cb 215) (sGet bs a1 ((l1 + 1 : Nat) : Int)) (sGet bs a ((l1 + 1 : Nat) : Int)) (a1 - a) (l1 + 1))) ks ∧ Ch w w' [g, F.gb]) w c0 (long_215 g _ w c0 (hst.mono ?_))).mono ?_
    · rintro e w' ⟨h1, h2, h3⟩; exact ⟨(h1 hc).1, (h1 hc).2, h3⟩
    rintro e w' ⟨rfl, hM, hC⟩
    have e3 : Pre.wr (⟨os, key, il, cc, pg, ad, bs, ks⟩ : Pre) a1 ((l1 + 1 : Nat) : Int) (cmb (cb 215) (sGet bs a1 ((l1 + 1 : Nat) : Int)) (sGet bs a ((l1 + 1 : Nat) : Int)) (a1 - a) (l1 + 1)) (cmbS (cb 215) (sGet bs a1 ((l1 + 1 : Nat) : Int)) (sGet bs a ((l1 + 1 : Nat) : Int)) (a1 - a) (l1 + 1)) = ⟨0, os, (cmbS (cb 215) (sGet bs a1 ((l1 + 1 : Nat) : Int)) (sGet bs a ((l1 + 1 : Nat) : Int)) (a1 - a) (l1 + 1)), pg, ad, false, (sPut (alP key) bs ks a1 (cmb (cb 215) (sGet bs a1 ((l1 + 1 : Nat) : Int)) (sGet bs a ((l1 + 1 : Nat) : Int)) (a1 - a) (l1 + 1)))⟩ := by unfold Pre.wr Pre.pc; rw [if_pos hcp]
    rw [e3]
    exact ends_ok rfl rfl hM hC (by simp)
  · refine (exec_l_no g 215 (by omega) (by omega) (fun w' => MS w' g F (isL 215 fm n k x2 b1 d1 b2 d2 l1 l2 i2) os os (psL m key M W P cd il cc pg ad) false bs ks ∧ Ch w w' [g, F.gb]) c w c0 (long_215_no g _ c w c0 (hst.mono ?_))).mono ?_
    · rintro e w' ⟨h1, h2, h3⟩; exact ⟨(h2 hc).1, (h2 hc).2, h3⟩
    rintro e w' ⟨rfl, hM, hC⟩
    exact ends_no (c := c) (by unfold Pre.wr Pre.pc; rw [hcd, if_neg hc]; rfl) hc rfl hM hC (by simp)
end Go.Proofs.Ythjdjbipfdigeaa

