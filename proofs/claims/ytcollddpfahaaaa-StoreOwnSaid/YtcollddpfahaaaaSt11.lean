/- CONTRACTS of package jobshoplaw07: key, has, bytes. No conditions but that the storage reads as one. -/
import Derived.Test.YtcollddpfahaaaaSt10
import Derived.Laws.BytesArg
import Derived.Laws.Strings
import Derived.Lib.Hide
import Derived.Outline
import Derived.Handy
import Derived.BigQuiet
import Derived.Deep.QuietTactic
namespace Go.Proofs.Ytcollddpfahaaaa
open Go.RowKit
set_option linter.unusedVariables false
set_option linter.unusedSimpArgs false

theorem key_c {F : Foot} {bs ks : List Int} (w : World) (h : St 66 w F bs ks) (addr want : Int) (is : Bool) (hv : sKV bs.length ks addr = want) (ha : sAt bs.length addr = is) : Calls Try.prog 26 #[.pointer (some ⟨F.g, 0, none⟩), .int .i64 addr, .int .i64 want, .bool is] w fun e w' => e = .returned (.bool true) ∧ w = w' := by
  have H := Lib.hid h
  have HV := Lib.hid hv
  have HA := Lib.hid ha
  have e1 : (want == want) = true := by simp
  have e2 : (is == is) = true := by simp
  clear h hv ha
  go_enter Try.func26, Try.ntmps26
  go_wp2_with (first | (go_at_call 24; refine (keyof_c _ H.out _).mono ?_; rintro e w2 ⟨rfl, rfl⟩; rw [HV.out, HA.out]))
  go_ret
  exact ⟨rfl, rfl⟩
theorem has_c {F : Foot} {bs ks : List Int} (w : World) (h : St 66 w F bs ks) (addr n key code : Int) (A : Option Addr) (len cap : Nat) (ys : List Int) (hy : Byt w A len ys) (hv : sFet (alF key) bs ks addr n = ys) (ha : sCode (alF key) bs.length ks addr n = code) : Calls Try.prog 27 #[.pointer (some ⟨F.g, 0, none⟩), .int .i64 addr, .int .i64 n, .int .i64 key, .slice A len cap, .int .i64 code] w fun e w' => e = .returned (.bool true) ∧ Below w.heap.size w w' := by
  have H := Lib.hid h
  have HY := Lib.hid hy
  have HV := Lib.hid hv
  have HA := Lib.hid ha
  have e1 : (code == code) = true := by simp
  clear h hv ha hy
  go_enter Try.func27, Try.ntmps27
  go_wp2_with (first | (go_at_call 21; refine (fetch_c _ H.out _ _ _).mono ?_; rintro e w2 ⟨A2, m2, c2, rfl, ho, hb⟩; rw [HV.out] at ho; rw [HA.out]; have k1 := conv_byt ho.byt c2; have k2 := conv_byt (HY.out.keep hb) cap; have HB := Lib.hid hb; clear ho hb))
  go_ret
  exact ⟨rfl, HB.out⟩
theorem lbytes_c (kind : Int) (addr n key : Int) (A : Option Addr) (len cap : Nat) (h0 : (len : Int) ≤ (cap : Int)) (h1 : (cap : Int) ≤ 9223372036854775807) (w : World) : Calls Try.prog 28 #[.agg #[.int .u8 kind, .int .i64 addr, .int .i64 n, .int .i64 key, .slice A len cap]] w fun e w' => e = .returned (.slice A (min len 5000) cap) ∧ Below w.heap.size w w' := by
  by_cases hlt : (5000 : Int) < (len : Int)
  · have hm : min len 5000 = 5000 := by omega
    have q0 : (5000 : Int) ≤ (cap : Int) := by omega
    rw [hm]
    go_enter Try.func28, Try.ntmps28
    go_wp2
    go_ret
    exact ⟨rfl, (Below.refl w.heap.size w).alloc (Nat.le_refl _) _⟩
  · have hm : min len 5000 = len := by omega
    rw [hm]
    go_enter Try.func28, Try.ntmps28
    go_wp2
    go_ret
    exact ⟨rfl, (Below.refl w.heap.size w).alloc (Nat.le_refl _) _⟩

end Go.Proofs.Ytcollddpfahaaaa
