/- Contracts and laws on the way to the statement, text 1 of 24. Conditions: as each states them. -/
import Derived.Test.YthjdjbipfdigeaaGreatRows
import Derived.WalkKit
import Derived.ProofKit
import Derived.OpenShut
import Derived.ShutString
import Derived.ChangeOld
import Derived.Below
import Derived.Carry
import Derived.Deep.Slices
import Derived.Deep.Fields
import Derived.ChangeSame
import Derived.Deep.Draws
import Derived.Test.YthjdjbipfdigeaaGreatProg
import Derived.Deep.RegionHeld3
import Derived.Lib.Hide
import Derived.Laws.BitsAllLaws
import Derived.Laws.AppendOwn
import Derived.Laws.AppendOwnNone
import Derived.Laws.OwnMore
import Derived.Laws.CopyOwn
import Derived.OwnWalk
import Derived.KernelRfl
namespace Go.Proofs.YthjdjbipfdigeaaGreat
open Go.ChangeShapes Go.WideShapes Go.ChangeAt Go.RowKit Go.Deep
open Go.ChangeMaps (open_string shut_string)

theorem own : ownKnob Tryz.prog.godebug = none := by kernel_rfl
theorem laidOut : laidOutB Tryz.prog = true := by kernel_rfl

/-- WHAT THE WALK IS TOLD OF A SLICE OF INTEGERS THAT CAME IN: it is nil; or it leads to a row of 'cap' cells, the numbers 'zs' (the first 'len' are its elements, the rest its spare room), each fitting its kind. -/
def IsRow (k : IntKind) (w : World) (a : Option Addr) (len cap : Nat) (zs : List Int) : Prop :=
  (a = none ∧ len = 0 ∧ cap = 0 ∧ zs = []) ∨
  ∃ x, a = some x ∧ len ≤ cap ∧ cap ≤ maxLen ∧ zs.length = cap ∧ (∀ i, i < zs.length → w.cell? (x.add i) = some (.int k (zs.getD i 0))) ∧ ∀ n ∈ zs, (Lit.int k n).wf = true

section
variable {H : Type} {enc : TypeId × Value → H} {P : Program} {w : World} {base : Nat} {spare : Nat → Bool} {held : Bool}
theorem field_int {t : TypeId} {k : IntKind} {u : Value} {y : DataW H × List MemPlace} {n : Nat} (ht : P.underlying t = some (.int k)) (h : DataW.trod enc P w base spare held n t [u] = some y) : ∃ a : Int, u = .int k a ∧ (Lit.int k a).wf = true := by
  obtain ⟨a, e0, _, wa⟩ := DataW.trod_int ht h
  simp at e0
  exact ⟨a, e0, wa⟩
theorem field_bool {t : TypeId} {u : Value} {y : DataW H × List MemPlace} {n : Nat} (ht : P.underlying t = some .bool) (h : DataW.trod enc P w base spare held n t [u] = some y) : ∃ a : Bool, u = .bool a := by
  obtain ⟨a, e0, _⟩ := DataW.trod_bool ht h
  simp at e0
  exact ⟨a, e0⟩
end
end Go.Proofs.YthjdjbipfdigeaaGreat

namespace Go.Proofs.YthjdjbipfdigeaaGreat
open Go.RowKit
set_option linter.unusedVariables false
theorem wpAnyH_mono {P : Program} {ops : Array Oper} {Q : Exit → Act → World → Prop} {md : Region.Mode} {S S' : World → Prop} (hs : ∀ w, S' w → S w) : ∀ (fuel : Nat) (l : Array Bool) (a : Act) (w : World), wpAnyH P md ops Q S' fuel l a w → wpAnyH P md ops Q S fuel l a w
  | 0, _, _, _, h => h
  | fuel + 1, _, _, _, h => ⟨h.1, fun i hi => wpOp_mono (fun a' w' h' => ⟨hs _ h'.1, wpAnyH_mono hs fuel _ a' w' h'.2⟩) (h.2 i hi)⟩
theorem wpAnyH_more {P : Program} {ops : Array Oper} {Q : Exit → Act → World → Prop} {md : Region.Mode} {S : World → Prop} (S' : World → Prop) {fuel : Nat} {l : Array Bool} {a : Act} {w : World} (h0 : S' w) (hs : ∀ w, S' w → S w) (h : S' w → wpAnyH P md ops Q S' fuel l a w) : wpAnyH P md ops Q S fuel l a w := wpAnyH_mono hs _ _ _ _ (h h0)
theorem takeL {P : Program} {L : List Oper} {Q : Exit → Act → World → Prop} {md : Region.Mode} {S : World → Prop} {i : Nat} {oi : Oper} {v : Value} {fuel : Nat} {listed : Array Bool} {a : Act} {w : World} (hi : L[i]? = some oi)
    (hs : Region.noSelect L.toArray = true) (hf : Region.free md L.toArray listed i = true) (hr : (Region.ready md L.toArray listed).contains i = true)
    (hQ : ∀ c a w, Q (.panic c) (a.put oi.dst v) w → Q (.panic c) a w) (hy : YieldsIf P L.toArray S oi v a) (hS : S w)
    (h : wpAnyH P md L.toArray Q S fuel (listed.setIfInBounds i true) (a.put oi.dst v) w) : wpAnyH P md L.toArray Q S (fuel + 1) listed a w := wpAnyH_take (by simpa using hi) hs hf hr hQ hy hS h
theorem consL {P : Program} {L : List Oper} {Q : Exit → Act → World → Prop} {md : Region.Mode} {S : World → Prop} {fuel : Nat} {listed : Array Bool} {a : Act} {w : World} {i : Nat} {o : Oper} {rs : List Nat} (ho : L[i]? = some o)
    (h : ∀ K' : Act → World → Prop, Shut (∀ a w, S w → (S w → wpAnyH P md L.toArray Q S fuel (listed.setIfInBounds i true) a w) → K' a w) → if Region.wanted o (yielded L.toArray a.tmps) = true then Oper.wp P o a w K' Q else K' (a.put o.dst undef) w)
    (hs : AllReadyH P md L.toArray Q S fuel listed a w rs) : AllReadyH P md L.toArray Q S fuel listed a w (i :: rs) := AllReadyH.cons (by simpa using ho) h hs
end Go.Proofs.YthjdjbipfdigeaaGreat

namespace Go.Proofs.YthjdjbipfdigeaaGreat
open Go.RowKit
set_option maxRecDepth 100000
set_option linter.unusedVariables false
/-- an operation that makes or writes nothing -/
def still : Op → Bool
  | .call _ | .store _ _ _ | .alloc _ | .box _ _ | .build _ _ | .buildSlice _ _ _ | .makeSlice _ _ _ => false
  | _ => true
/-- the first operation that may be taken -/
def nxt (md : Region.Mode) (L : List Oper) (listed : Array Bool) : Option Nat := (Region.ready md L.toArray listed).find? fun i => (L[i]?.elim false fun o => still o.op) && Region.free md L.toArray listed i
theorem nxt_spec {md : Region.Mode} {L : List Oper} {listed : Array Bool} {i : Nat} (h : nxt md L listed = some i) : Region.free md L.toArray listed i = true ∧ (Region.ready md L.toArray listed).contains i = true :=
  ⟨(Bool.and_eq_true _ _ ▸ List.find?_some h : _ ∧ _).2, by simpa using List.mem_of_find?_eq_some h⟩
def nxg (md : Region.Mode) (L : List Oper) (listed : Array Bool) (ts : Array Value) : Option Nat := (Region.ready md L.toArray listed).find? fun i => (L[i]?.elim false fun o => !Region.wanted o (yielded L.toArray ts)) && Region.free md L.toArray listed i
theorem nxg_spec {md : Region.Mode} {L : List Oper} {listed : Array Bool} {ts : Array Value} {i : Nat} (h : nxg md L listed ts = some i) : Region.free md L.toArray listed i = true ∧ (Region.ready md L.toArray listed).contains i = true :=
  ⟨(Bool.and_eq_true _ _ ▸ List.find?_some h : _ ∧ _).2, by simpa using List.mem_of_find?_eq_some h⟩
section
variable {P : Program} {L : List Oper} {Q : Exit → Act → World → Prop} {md : Region.Mode} {S : World → Prop} {i : Nat} {v : Value} {oi : Oper} {fuel : Nat} {listed : Array Bool} {a : Act} {w : World} {X : Prop}
theorem tkn (h : X) (hn : nxt md L listed = some i := by with_unfolding_all rfl) (hi : L[i]? = some oi := by rfl)
    (hw : Region.wanted oi (yielded L.toArray a.tmps) = true := by rfl) (y : ∀ w, S w → (execOp a.eval oi).run P w = .ok (.value v) w := by (intro w hSw; (try dsimp only at hSw); go_simp; (try with_reducible rfl)))
    (hP : wpAnyH P md L.toArray Q S fuel (listed.setIfInBounds i true) (a.put oi.dst v) w = X := by (simp only [Act.put, List.setIfInBounds_toArray, List.set_cons_zero, List.set_cons_succ]; try rfl))
    (hs : Region.noSelect L.toArray = true := by kernel_rfl) 
    (hQ : ∀ c a w, Q (.panic c) (a.put oi.dst v) w → Q (.panic c) a w := by exact fun _ _ _ h => h) (hS : S w := by assumption) : wpAnyH P md L.toArray Q S (fuel + 1) listed a w := takeL hi hs (nxt_spec hn).1 (nxt_spec hn).2 hQ (.inl ⟨hw, y⟩) hS (hP ▸ h)
/-- an operation whose guard is off -/
theorem tks (h : X) (hn : nxg md L listed a.tmps = some i := by with_unfolding_all rfl) (hi : L[i]? = some oi := by rfl)
    (hw : Region.wanted oi (yielded L.toArray a.tmps) = false := by rfl)
    (hP : wpAnyH P md L.toArray Q S fuel (listed.setIfInBounds i true) (a.put oi.dst undef) w = X := by (simp only [Act.put, List.setIfInBounds_toArray, List.set_cons_zero, List.set_cons_succ]; try rfl))
    (hs : Region.noSelect L.toArray = true := by kernel_rfl) 
    (hQ : ∀ c a w, Q (.panic c) (a.put oi.dst undef) w → Q (.panic c) a w := by exact fun _ _ _ h => h) (hS : S w := by assumption) : wpAnyH P md L.toArray Q S (fuel + 1) listed a w := takeL hi hs (nxg_spec hn).1 (nxg_spec hn).2 hQ (.inr ⟨hw, rfl⟩) hS (hP ▸ h)
/-- a call that alone may come up: its contract keeps S -/
theorem tkc {f : FuncId} {args : Array Value} {R : World → Prop} {X : World → Prop} (hc : Calls P f args w fun e w' => e = .returned v ∧ R w') (hRS : ∀ w', R w' → S w') (h : ∀ w', Hid (R w') → S w' → X w') (hr : Region.ready md L.toArray listed = [i] := by with_unfolding_all rfl) (hi : L[i]? = some oi := by rfl)
    (hw : Region.wanted oi (yielded L.toArray a.tmps) = true := by rfl) (hx : (execOp a.eval oi).run P w = .ok (.enter f args) w := by (go_simp; (try with_reducible rfl)))
    (hP : ∀ w', wpAnyH P md L.toArray Q S fuel (listed.setIfInBounds i true) (a.put oi.dst v) w' = X w' := by (intro w'; simp only [Act.put, List.setIfInBounds_toArray, List.set_cons_zero, List.set_cons_succ]; try rfl)) : wpAnyH P md L.toArray Q S (fuel + 1) listed a w := by
  refine ⟨fun h0 => (by rw [hr] at h0; cases h0), fun j hj => ?_⟩
  rw [hr, List.mem_singleton] at hj
  subst hj
  have hi' : L.toArray[j]? = some oi := by simpa using hi
  unfold wpOp
  simp only [hi', hw, if_true]
  refine .inl ?_
  unfold Oper.wp
  rw [hx]
  refine Calls.mono hc fun e w' he => ?_
  obtain ⟨rfl, hR⟩ := he
  exact ⟨hRS _ hR, (hP w').symm ▸ h w' (Lib.hid hR) (hRS _ hR)⟩
/-- a call that alone may come up, whose result is known by R -/
theorem tkce {f : FuncId} {args : Array Value} {R : Value → World → Prop} {X : Value → World → Prop} (hc : Calls P f args w fun e w' => ∃ v, e = .returned v ∧ R v w') (hRS : ∀ v w', R v w' → S w') (h : ∀ v w', Hid (R v w') → S w' → X v w') (hr : Region.ready md L.toArray listed = [i] := by with_unfolding_all rfl) (hi : L[i]? = some oi := by rfl)
    (hw : Region.wanted oi (yielded L.toArray a.tmps) = true := by rfl) (hx : (execOp a.eval oi).run P w = .ok (.enter f args) w := by (go_simp; (try with_reducible rfl)))
    (hP : ∀ v w', wpAnyH P md L.toArray Q S fuel (listed.setIfInBounds i true) (a.put oi.dst v) w' = X v w' := by (intro v w'; simp only [Act.put, List.setIfInBounds_toArray, List.set_cons_zero, List.set_cons_succ]; try rfl)) : wpAnyH P md L.toArray Q S (fuel + 1) listed a w := by
  refine ⟨fun h0 => (by rw [hr] at h0; cases h0), fun j hj => ?_⟩
  rw [hr, List.mem_singleton] at hj
  subst hj
  have hi' : L.toArray[j]? = some oi := by simpa using hi
  unfold wpOp
  simp only [hi', hw, if_true]
  refine .inl ?_
  unfold Oper.wp
  rw [hx]
  refine Calls.mono hc fun e w' he => ?_
  obtain ⟨v, rfl, hR⟩ := he
  exact ⟨hRS _ _ hR, (hP v w').symm ▸ h v w' (Lib.hid hR) (hRS _ _ hR)⟩
/-- a store that alone may come up: its world is known by R alone from there on -/
theorem tkw {w1 : World} {R : World → Prop} {X : World → Prop} (hR : R w1) (hRS : ∀ w', R w' → S w') (h : ∀ w', Hid (R w') → S w' → X w') (hr : Region.ready md L.toArray listed = [i] := by with_unfolding_all rfl) (hi : L[i]? = some oi := by rfl)
    (hw : Region.wanted oi (yielded L.toArray a.tmps) = true := by rfl) (hx : (execOp a.eval oi).run P w = .ok .skip w1 := by (go_simp; (try with_reducible rfl)))
    (hP : ∀ w', wpAnyH P md L.toArray Q S fuel (listed.setIfInBounds i true) (a.put oi.dst undef) w' = X w' := by (intro w'; simp only [Act.put, List.setIfInBounds_toArray, List.set_cons_zero, List.set_cons_succ]; try rfl)) : wpAnyH P md L.toArray Q S (fuel + 1) listed a w := by
  refine ⟨fun h0 => (by rw [hr] at h0; cases h0), fun j hj => ?_⟩
  rw [hr, List.mem_singleton] at hj
  subst hj
  have hi' : L.toArray[j]? = some oi := by simpa using hi
  unfold wpOp
  simp only [hi', hw, if_true]
  refine .inl ?_
  unfold Oper.wp
  rw [hx]
  exact ⟨hRS _ hR, (hP _).symm ▸ h _ (Lib.hid hR) (hRS _ hR)⟩
end
/-- a call's contract, its result and what it leaves under a hidden name -/
theorem nx {P : Program} {f : FuncId} {args : Array Value} {w : World} {v : Value} {R : World → Prop} {Q : Ending → World → Prop} (hc : Calls P f args w fun e w' => e = .returned v ∧ R w') (h : ∀ w', Hid (R w') → Q (.returned v) w') : Calls P f args w Q := hc.mono fun _ w' he => he.1 ▸ h w' (Lib.hid he.2)
theorem nxe {P : Program} {f : FuncId} {args : Array Value} {w : World} {R : Value → World → Prop} {Q : Ending → World → Prop} (hc : Calls P f args w fun e w' => ∃ v, e = .returned v ∧ R v w') (h : ∀ v w', Hid (R v w') → Q (.returned v) w') : Calls P f args w Q := hc.mono fun _ w' ⟨v, he, hR⟩ => he ▸ h v w' (Lib.hid hR)
end Go.Proofs.YthjdjbipfdigeaaGreat

namespace Go.Proofs.YthjdjbipfdigeaaGreat
open Go.RowKit
set_option linter.unusedVariables false

/-- the signed value of a word -/
def sg (a : Int) : Int := if a < 2147483648 then a else a - 4294967296
/-- 0, 1, 2 for nought, less, more -/
def sgn (n : Int) : Int := if n = 0 then 0 else if n < 0 then 1 else 2
/-- the low word -/
def lo32 (n : Int) : Int := n % 4294967296
/-- does n overflow a signed word? -/
def ovf (n : Int) : Bool := decide (n < -2147483648 ∨ 2147483647 < n)
/-- the condition code of an exact result -/
def rcc (n : Int) : Int := if ovf n = true then 3 else sgn n
/-- the condition code of a logical result -/
def lcc (v : Int) (high : Bool) : Int := (if v = 0 then 0 else 1) + (if high = true then 2 else 0)
/-- the 64 bits of two words -/
def dbl (hi lo : Int) : Int := hi * 4294967296 + lo
/-- the signed value of 64 bits -/
def sg64 (x : Int) : Int := if x < 9223372036854775808 then x else x - 18446744073709551616
def ovf64 (n : Int) : Bool := decide (n < -9223372036854775808 ∨ 9223372036854775807 < n)
/-- division: does it succeed, quotient, remainder -/
def dok (n d : Int) : Bool := decide (d ≠ 0 ∧ -2147483648 ≤ n.tdiv d ∧ n.tdiv d ≤ 2147483647)
def dquo (n d : Int) : Int := if dok n d = true then lo32 (n.tdiv d) else 0
def drem (n d : Int) : Int := if dok n d = true then lo32 (n.tmod d) else 0
/-- the number of places, modulo 64 -/
def plc (n : Int) : Nat := (n % 64).toNat
/-- shifts of a word -/
def slv (v : Int) (p : Nat) : Int := (if v < 2147483648 then 0 else 2147483648) + sg v * 2 ^ p % 2147483648
def slo (v : Int) (p : Nat) : Bool := ovf (sg v * 2 ^ p)
def slc (v : Int) (p : Nat) : Int := if slo v p = true then 3 else sgn (sg (slv v p))
def srv (v : Int) (p : Nat) : Int := lo32 (sg v / 2 ^ p)
def slg (v : Int) (p : Nat) (left : Bool) : Int := if left = true then lo32 (v * 2 ^ p) else v / 2 ^ p
/-- shifts of a double word -/
def dlv (x : Int) (p : Nat) : Int := (if x < 9223372036854775808 then 0 else 9223372036854775808) + sg64 x * 2 ^ p % 9223372036854775808
def dlo (x : Int) (p : Nat) : Bool := ovf64 (sg64 x * 2 ^ p)
def dlc (x : Int) (p : Nat) : Int := if dlo x p = true then 3 else sgn (sg64 (dlv x p))
def drv (x : Int) (p : Nat) : Int := sg64 x / 2 ^ p % 18446744073709551616
def dlg (x : Int) (p : Nat) (left : Bool) : Int := if left = true then x * 2 ^ p % 18446744073709551616 else x / 2 ^ p

theorem sg_lo (a : Int) (h0 : 0 ≤ a) : -2147483648 ≤ sg a := by unfold sg; split <;> omega
theorem sg_hi (a : Int) (h1 : a ≤ 4294967295) : sg a ≤ 2147483647 := by unfold sg; split <;> omega
theorem wrap32_sg (a : Int) (h0 : 0 ≤ a) (h1 : a ≤ 4294967295) : wrap32 a = sg a := by unfold wrap32 sg; split <;> omega
theorem lo32_lo (n : Int) : 0 ≤ lo32 n := by unfold lo32; omega
theorem lo32_hi (n : Int) : lo32 n ≤ 4294967295 := by unfold lo32; omega
theorem lo32_is (n : Int) : n % 4294967296 = lo32 n := rfl
theorem lo32_id (n : Int) (h0 : 0 ≤ n) (h1 : n ≤ 4294967295) : lo32 n = n := by unfold lo32; omega
theorem sgn_neg (n : Int) (h : n < 0) : sgn n = 1 := by unfold sgn; rw [if_neg (by omega), if_pos h]
theorem sgn_pos (n : Int) (h : 0 < n) : sgn n = 2 := by unfold sgn; rw [if_neg (by omega), if_neg (by omega)]
theorem sg64_lo (a : Int) (h0 : 0 ≤ a) : -9223372036854775808 ≤ sg64 a := by unfold sg64; split <;> omega
theorem sg64_hi (a : Int) (h1 : a ≤ 18446744073709551615) : sg64 a ≤ 9223372036854775807 := by unfold sg64; split <;> omega
theorem wrap64_sg (a : Int) (h0 : 0 ≤ a) (h1 : a ≤ 18446744073709551615) : wrap64 a = sg64 a := by unfold wrap64 sg64; split <;> omega
theorem sg64_mod (a : Int) (h0 : 0 ≤ a) (h1 : a ≤ 18446744073709551615) : sg64 a % 18446744073709551616 = a := by unfold sg64; split <;> omega
theorem sg_mod (a : Int) (h0 : 0 ≤ a) (h1 : a ≤ 4294967295) : sg a % 4294967296 = a := by unfold sg; split <;> omega
theorem dbl_lo (a b : Int) (ha : 0 ≤ a) (hb : 0 ≤ b) : 0 ≤ dbl a b := by unfold dbl; omega
theorem dbl_hi (a b : Int) (ha : a ≤ 4294967295) (hb : b ≤ 4294967295) : dbl a b ≤ 18446744073709551615 := by unfold dbl; omega
theorem dbl_is (a b : Int) : a * 4294967296 + b = dbl a b := rfl
theorem plc_hi (n : Int) : plc n ≤ 63 := by unfold plc; omega
theorem plc_is (n : Int) : n % 64 = (plc n : Int) := by unfold plc; omega
theorem ovf_iff (n : Int) : ovf n = true ↔ (n < -2147483648 ∨ 2147483647 < n) := by simp [ovf]
theorem ovf_no (n : Int) : ovf n = false ↔ (-2147483648 ≤ n ∧ n ≤ 2147483647) := by unfold ovf; rw [decide_eq_false_iff_not]; omega
theorem ovf64_iff (n : Int) : ovf64 n = true ↔ (n < -9223372036854775808 ∨ 9223372036854775807 < n) := by simp [ovf64]
theorem ovf64_no (n : Int) : ovf64 n = false ↔ (-9223372036854775808 ≤ n ∧ n ≤ 9223372036854775807) := by unfold ovf64; rw [decide_eq_false_iff_not]; omega

theorem fits_test (n : Int) (h0 : -9223372036854775808 ≤ n) (h1 : n ≤ 9223372036854775807) : (wrap64 (wrap32 n) != n) = ovf n := by
  rw [Bool.eq_iff_iff, ovf_iff, bne_iff_ne]; unfold wrap64 wrap32; omega
theorem sg_lo32 (n : Int) : sg (lo32 n) = wrap32 n := by unfold sg lo32 wrap32; split <;> omega
theorem signed_test (n : Int) : (sg (lo32 n) != n) = ovf n := by
  rw [Bool.eq_iff_iff, ovf_iff, bne_iff_ne, sg_lo32]; unfold wrap32; omega
theorem sg_lo32_in (n : Int) (h : ovf n = false) : sg (lo32 n) = n := by rw [ovf_no] at h; rw [sg_lo32]; unfold wrap32; omega
theorem rcc_over (n : Int) (h : ovf n = true) : rcc n = 3 := by simp [rcc, h]
theorem rcc_in (n : Int) (h : ovf n = false) : rcc n = sgn n := by simp [rcc, h]
theorem sg_zero : sg 0 = 0 := rfl

theorem mul_box (x y A B : Int) (hx0 : -A ≤ x) (hx1 : x ≤ A) (hy0 : -B ≤ y) (hy1 : y ≤ B) : -(A * B) ≤ x * y ∧ x * y ≤ A * B := by
  have hA : 0 ≤ A := by omega
  have hB : 0 ≤ B := by omega
  have h1 : 0 ≤ (A - x) * (B + y) := Int.mul_nonneg (by omega) (by omega)
  have h2 : 0 ≤ (A + x) * (B - y) := Int.mul_nonneg (by omega) (by omega)
  have h3 : 0 ≤ (A - x) * (B - y) := Int.mul_nonneg (by omega) (by omega)
  have h4 : 0 ≤ (A + x) * (B + y) := Int.mul_nonneg (by omega) (by omega)
  simp only [Int.sub_mul, Int.mul_sub, Int.add_mul, Int.mul_add] at h1 h2 h3 h4
  constructor <;> omega
theorem prod_lo (a b : Int) (ha : 0 ≤ a) (ha' : a ≤ 4294967295) (hb : 0 ≤ b) (hb' : b ≤ 4294967295) : -4611686018427387904 ≤ sg a * sg b := by
  have := (mul_box (sg a) (sg b) 2147483648 2147483648 (sg_lo a ha) (by have := sg_hi a ha'; omega) (sg_lo b hb) (by have := sg_hi b hb'; omega)).1; omega
theorem prod_hi (a b : Int) (ha : 0 ≤ a) (ha' : a ≤ 4294967295) (hb : 0 ≤ b) (hb' : b ≤ 4294967295) : sg a * sg b ≤ 4611686018427387904 := by
  have := (mul_box (sg a) (sg b) 2147483648 2147483648 (sg_lo a ha) (by have := sg_hi a ha'; omega) (sg_lo b hb) (by have := sg_hi b hb'; omega)).2; omega
theorem hi_mod (n : Int) : lo32 (n % 18446744073709551616 / 4294967296) = lo32 (n / 4294967296) := by unfold lo32; omega
theorem lo_mod (n : Int) : lo32 (n % 18446744073709551616) = lo32 n := by unfold lo32; omega

theorem or_dbl (a b : Int) (ha : 0 ≤ a) (ha' : a ≤ 4294967295) (hb : 0 ≤ b) (hb' : b ≤ 4294967295) : bits .or .u64 (a * 4294967296) b = dbl a b := by
  rw [u64_or _ _ (by omega) (by omega) (by omega) (by omega), nat_join 32 _ _ (by omega) (by omega)]; unfold dbl; omega
theorem and_sign (a : Int) (ha : 0 ≤ a) (ha' : a ≤ 4294967295) : bits .and .u32 a 2147483648 = if a < 2147483648 then 0 else 2147483648 := by
  rw [u32_and _ _ ha (by omega) (by omega) (by omega)]
  have := nat_bit 31 a.toNat
  simp only [show (2147483648 : Int).toNat = 2 ^ 31 from rfl, this]
  split <;> omega
theorem andNot_sign (a : Int) (ha : 0 ≤ a) (ha' : a ≤ 4294967295) : bits .andNot .u32 a 2147483648 = a % 2147483648 := by
  rw [u32_andNot _ _ ha (by omega) (by omega) (by omega)]
  have := nat_mask31 a.toNat
  simp only [show 4294967295 - (2147483648 : Int).toNat = 2147483647 from rfl, this]
  omega
theorem or_sign (s x : Int) (hs : s = 0 ∨ s = 2147483648) (hx : 0 ≤ x) (hx' : x < 2147483648) : bits .or .u32 s x = s + x := by
  rw [u32_or _ _ (by omega) (by omega) (by omega) (by omega), nat_join 31 _ _ (by omega) (by omega)]; omega
theorem and_sign64 (a : Int) (ha : 0 ≤ a) (ha' : a ≤ 18446744073709551615) : bits .and .u64 a 9223372036854775808 = if a < 9223372036854775808 then 0 else 9223372036854775808 := by
  rw [u64_and _ _ ha (by omega) (by omega) (by omega)]
  have := nat_bit 63 a.toNat
  simp only [show (9223372036854775808 : Int).toNat = 2 ^ 63 from rfl, this]
  split <;> omega
theorem andNot_sign64 (a : Int) (ha : 0 ≤ a) (ha' : a ≤ 18446744073709551615) : bits .andNot .u64 a 9223372036854775808 = a % 9223372036854775808 := by
  rw [u64_andNot _ _ ha (by omega) (by omega) (by omega)]
  have := nat_mask63 a.toNat
  simp only [show 18446744073709551615 - (9223372036854775808 : Int).toNat = 9223372036854775807 from rfl, this]
  omega
theorem or_sign64 (s x : Int) (hs : s = 0 ∨ s = 9223372036854775808) (hx : 0 ≤ x) (hx' : x < 9223372036854775808) : bits .or .u64 s x = s + x := by
  rw [u64_or _ _ (by omega) (by omega) (by omega) (by omega), nat_join 63 _ _ (by omega) (by omega)]; omega
theorem and_one64 (a : Int) (ha : 0 ≤ a) (ha' : a ≤ 18446744073709551615) : bits .and .u64 a 1 = a % 2 := by
  rw [u64_and _ _ ha (by omega) (by omega) (by omega)]
  have := nat_mask1 a.toNat
  simp only [show (1 : Int).toNat = 1 from rfl, this]
  omega

theorem pow_pos2 (p : Nat) : (0 : Int) < 2 ^ p := Int.pow_pos (by decide)
theorem pow_le (p q : Nat) (h : p ≤ q) : (2 : Int) ^ p ≤ 2 ^ q := by
  have := Nat.pow_le_pow_right (n := 2) (by decide) h
  exact_mod_cast this
theorem pow_split (p q : Nat) (h : p ≤ q) : ∃ r : Int, 0 < r ∧ (2 : Int) ^ q = 2 ^ p * r := ⟨2 ^ (q - p), pow_pos2 _, by rw [← Int.pow_add]; congr 1; omega⟩
theorem pow_ge32 (p : Nat) (h : 32 ≤ p) : ∃ r : Int, 0 < r ∧ (2 : Int) ^ p = 4294967296 * r := pow_split 32 p h
theorem pow_le31 (p : Nat) (h : p < 32) : (2 : Int) ^ p ≤ 2147483648 := pow_le p 31 (by omega)

theorem slv_lo (v : Int) (p : Nat) : 0 ≤ slv v p := by unfold slv; split <;> omega
theorem slv_hi (v : Int) (p : Nat) : slv v p ≤ 4294967295 := by unfold slv; split <;> omega
theorem slv_ge32 (v : Int) (p : Nat) (h : 32 ≤ p) : slv v p = if v < 2147483648 then 0 else 2147483648 := by
  obtain ⟨r, _, e⟩ := pow_ge32 p h
  unfold slv
  rw [e, show sg v * (4294967296 * r) = 2147483648 * (2 * (sg v * r)) from by rw [Int.mul_left_comm]; omega, Int.mul_emod_right]; omega
theorem slo_ge32 (v : Int) (p : Nat) (h : 32 ≤ p) (h0 : 0 ≤ v) (h1 : v ≤ 4294967295) : slo v p = (v != 0) := by
  obtain ⟨r, hr, e⟩ := pow_ge32 p h
  unfold slo
  rw [Bool.eq_iff_iff, ovf_iff, bne_iff_ne, e, show sg v * (4294967296 * r) = 4294967296 * (sg v * r) from by rw [Int.mul_left_comm]]
  by_cases hv : v = 0
  · subst hv; simp [sg_zero]
  · have : sg v < 0 ∨ 0 < sg v := by unfold sg; split <;> omega
    rcases this with hs | hs
    · have h2 : sg v * r ≤ -1 := by have := Int.mul_neg_of_neg_of_pos hs hr; omega
      constructor <;> omega
    · have h2 : 1 ≤ sg v * r := by have := Int.mul_pos hs hr; omega
      constructor <;> omega
theorem exact_box (v : Int) (p : Nat) (h : p < 32) (h0 : 0 ≤ v) (h1 : v ≤ 4294967295) : -4611686018427387904 ≤ sg v * 2 ^ p ∧ sg v * 2 ^ p ≤ 4611686018427387904 := by
  have := mul_box (sg v) (2 ^ p) 2147483648 2147483648 (sg_lo v h0) (by have := sg_hi v h1; omega) (by have := pow_pos2 p; omega) (pow_le31 p h)
  omega
theorem exact_high (n : Int) : ovf n = true ↔ (¬ n / 2147483648 = 0 ∧ ¬ n / 2147483648 = -1) := by rw [ovf_iff]; omega
/-- one place more, as the reference takes it -/
theorem slv_succ (v : Int) (k : Nat) (h0 : 0 ≤ v) (h1 : v ≤ 4294967295) : slv v (k + 1) = v / 2147483648 * 2147483648 + slv v k * 2 % 2147483648 := by
  unfold slv
  rw [Int.pow_succ, ← Int.mul_assoc]
  split <;> omega
theorem slo_succ (v : Int) (k : Nat) (h0 : 0 ≤ v) (_h1 : v ≤ 4294967295) : slo v (k + 1) = (slo v k || (slv v k / 1073741824 % 2 != v / 2147483648)) := by
  unfold slo slv
  rw [Bool.eq_iff_iff, Bool.or_eq_true, ovf_iff, ovf_iff, bne_iff_ne, Int.pow_succ, ← Int.mul_assoc]
  have hs : (v < 2147483648 ∧ 0 ≤ sg v * 2 ^ k) ∨ (¬ v < 2147483648 ∧ sg v * 2 ^ k < 0) := by
    have hp := pow_pos2 k
    by_cases hv : v < 2147483648
    · exact .inl ⟨hv, Int.mul_nonneg (by unfold sg; rw [if_pos hv]; exact h0) (by omega)⟩
    · exact .inr ⟨hv, Int.mul_neg_of_neg_of_pos (by unfold sg; rw [if_neg hv]; omega) hp⟩
  generalize sg v * 2 ^ k = m at *
  rcases hs with ⟨hv, hm⟩ | ⟨hv, hm⟩
  · rw [if_pos hv]; omega
  · rw [if_neg hv]; omega
theorem slv_zero (v : Int) (h0 : 0 ≤ v) (h1 : v ≤ 4294967295) : slv v 0 = v := by unfold slv sg; simp only [Int.pow_zero]; split <;> omega
theorem slo_zero (v : Int) (h0 : 0 ≤ v) (h1 : v ≤ 4294967295) : slo v 0 = false := by
  unfold slo; rw [ovf_no, Int.pow_zero, Int.mul_one]; exact ⟨sg_lo v h0, sg_hi v h1⟩

theorem dlv_lo (v : Int) (p : Nat) : 0 ≤ dlv v p := by unfold dlv; split <;> omega
theorem dlv_hi (v : Int) (p : Nat) : dlv v p ≤ 18446744073709551615 := by unfold dlv; split <;> omega
theorem dlv_low (v : Int) (p : Nat) : v * 2 ^ p % 18446744073709551616 % 9223372036854775808 = sg64 v * 2 ^ p % 9223372036854775808 := by
  unfold sg64
  split
  · omega
  · rw [Int.sub_mul]; omega
theorem dlo_test (x : Int) (p : Nat) (hp : p ≤ 63) (h0 : 0 ≤ x) (h1 : x ≤ 18446744073709551615) : (wrap64 (sg64 x * 2 ^ p) / 2 ^ p != sg64 x) = dlo x p := by
  unfold dlo
  rw [Bool.eq_iff_iff, ovf64_iff, bne_iff_ne]
  have hpos := pow_pos2 p
  by_cases h : -9223372036854775808 ≤ sg64 x * 2 ^ p ∧ sg64 x * 2 ^ p ≤ 9223372036854775807
  · rw [IntWalk.wrap64_in _ h, Int.mul_ediv_cancel _ (by omega)]
    constructor
    · intro hh; exact absurd rfl hh
    · intro hh; omega
  · constructor
    · intro _; omega
    · intro _ he
      obtain ⟨r, hr, e⟩ := pow_split p 64 (by omega)
      have e64 : (18446744073709551616 : Int) = 2 ^ p * r := by rw [← e]; rfl
      obtain ⟨j, hj⟩ : ∃ j : Int, wrap64 (sg64 x * 2 ^ p) = sg64 x * 2 ^ p + 18446744073709551616 * j := ⟨-((sg64 x * 2 ^ p + 9223372036854775808) / 18446744073709551616), by unfold wrap64; omega⟩
      have hj0 : j ≠ 0 := by
        rintro rfl
        have hw : wrap64 (sg64 x * 2 ^ p) = sg64 x * 2 ^ p := by rw [hj]; omega
        have hb : -9223372036854775808 ≤ wrap64 (sg64 x * 2 ^ p) ∧ wrap64 (sg64 x * 2 ^ p) ≤ 9223372036854775807 := by unfold wrap64; omega
        rw [hw] at hb
        exact h hb
      have h3 : sg64 x * 2 ^ p + 18446744073709551616 * j = (sg64 x + r * j) * 2 ^ p := by
        rw [e64, Int.add_mul, Int.mul_assoc, Int.mul_comm (r * j) (2 ^ p)]
      rw [hj, h3, Int.mul_ediv_cancel _ (by omega)] at he
      have h4 : r * j = 0 := by omega
      rcases Int.mul_eq_zero.mp h4 with h5 | h5
      · omega
      · exact hj0 h5
theorem dlv_succ (v : Int) (k : Nat) (h0 : 0 ≤ v) (h1 : v ≤ 18446744073709551615) : dlv v (k + 1) = v / 9223372036854775808 * 9223372036854775808 + dlv v k * 2 % 9223372036854775808 := by
  unfold dlv
  rw [Int.pow_succ, ← Int.mul_assoc]
  split <;> omega
theorem dlo_succ (v : Int) (k : Nat) (h0 : 0 ≤ v) (h1 : v ≤ 18446744073709551615) : dlo v (k + 1) = (dlo v k || (dlv v k / 4611686018427387904 % 2 != v / 9223372036854775808)) := by
  unfold dlo dlv
  rw [Bool.eq_iff_iff, Bool.or_eq_true, ovf64_iff, ovf64_iff, bne_iff_ne, Int.pow_succ, ← Int.mul_assoc]
  have hs : (v < 9223372036854775808 ∧ 0 ≤ sg64 v * 2 ^ k) ∨ (¬ v < 9223372036854775808 ∧ sg64 v * 2 ^ k < 0) := by
    have hp := pow_pos2 k
    by_cases hv : v < 9223372036854775808
    · exact .inl ⟨hv, Int.mul_nonneg (by unfold sg64; rw [if_pos hv]; exact h0) (by omega)⟩
    · exact .inr ⟨hv, Int.mul_neg_of_neg_of_pos (by unfold sg64; rw [if_neg hv]; omega) hp⟩
  generalize sg64 v * 2 ^ k = m at *
  rcases hs with ⟨hv, hm⟩ | ⟨hv, hm⟩
  · rw [if_pos hv]; omega
  · rw [if_neg hv]; omega
theorem dlv_zero (v : Int) (h0 : 0 ≤ v) (h1 : v ≤ 18446744073709551615) : dlv v 0 = v := by unfold dlv sg64; simp only [Int.pow_zero]; split <;> omega
theorem dlo_zero (v : Int) (h0 : 0 ≤ v) (h1 : v ≤ 18446744073709551615) : dlo v 0 = false := by
  unfold dlo; rw [ovf64_no, Int.pow_zero, Int.mul_one]; exact ⟨sg64_lo v h0, sg64_hi v h1⟩

theorem ediv_pow_succ (m : Int) (k : Nat) : m / 2 ^ (k + 1) = m / 2 ^ k / 2 := by
  rw [Int.pow_succ, Int.ediv_ediv_of_nonneg (by have := pow_pos2 k; omega)]
theorem ediv_pow_box (m : Int) (p : Nat) (B : Int) (h0 : -B ≤ m) (h1 : m ≤ B - 1) (hB : 0 ≤ B) : -B ≤ m / 2 ^ p ∧ m / 2 ^ p ≤ B - 1 := by
  have hp := pow_pos2 p
  constructor
  · have h2 : -B * 2 ^ p ≤ m := by
      have : -B * 2 ^ p ≤ -B * 1 := Int.mul_le_mul_of_nonpos_left (by omega) (by omega)
      omega
    exact (Int.le_ediv_iff_mul_le hp).mpr h2
  · have h3 : m < B * 2 ^ p := by
      have : B * 1 ≤ B * 2 ^ p := Int.mul_le_mul_of_nonneg_left (by omega) hB
      omega
    have := (Int.ediv_lt_iff_lt_mul hp).mpr h3
    omega
theorem sr_min (v : Int) (p : Nat) (h0 : 0 ≤ v) (h1 : v ≤ 4294967295) : sg v / 2 ^ min p 32 = sg v / 2 ^ p := by
  by_cases h : p ≤ 32
  · rw [Nat.min_eq_left h]
  · rw [Nat.min_eq_right (by omega)]
    have hl := sg_lo v h0
    have hu := sg_hi v h1
    have hp := pow_le 32 p (by omega)
    by_cases hs : 0 ≤ sg v
    · rw [Int.ediv_eq_zero_of_lt hs (by omega), Int.ediv_eq_zero_of_lt hs (by omega)]
    · have e1 : sg v / 2 ^ 32 = -1 := by omega
      have e2 : sg v / 2 ^ p = -1 := by
        have hpos := pow_pos2 p
        have a1 : -1 ≤ sg v / 2 ^ p := (Int.le_ediv_iff_mul_le hpos).mpr (by omega)
        have a2 := Int.ediv_neg_of_neg_of_pos (by omega : sg v < 0) hpos
        omega
      rw [e1, e2]
theorem srv_lo (v : Int) (p : Nat) : 0 ≤ srv v p := lo32_lo _
theorem srv_hi (v : Int) (p : Nat) : srv v p ≤ 4294967295 := lo32_hi _
theorem srv_zero (v : Int) (h0 : 0 ≤ v) (h1 : v ≤ 4294967295) : srv v 0 = v := by unfold srv; rw [Int.pow_zero, Int.ediv_one]; exact sg_mod v h0 h1
theorem srv_succ (v : Int) (k : Nat) (h0 : 0 ≤ v) (h1 : v ≤ 4294967295) : srv v (k + 1) = v / 2147483648 * 2147483648 + srv v k / 2 := by
  unfold srv lo32
  rw [ediv_pow_succ]
  have hb := ediv_pow_box (sg v) k 2147483648 (sg_lo v h0) (by have := sg_hi v h1; omega) (by omega)
  have hs : (v < 2147483648 ∧ 0 ≤ sg v / 2 ^ k) ∨ (¬ v < 2147483648 ∧ sg v / 2 ^ k < 0) := by
    by_cases hv : v < 2147483648
    · exact .inl ⟨hv, Int.ediv_nonneg (by unfold sg; rw [if_pos hv]; exact h0) (by have := pow_pos2 k; omega)⟩
    · exact .inr ⟨hv, Int.ediv_neg_of_neg_of_pos (by unfold sg; rw [if_neg hv]; omega) (pow_pos2 k)⟩
  generalize sg v / 2 ^ k = m at *
  omega
theorem drv_lo (v : Int) (p : Nat) : 0 ≤ drv v p := by unfold drv; omega
theorem drv_hi (v : Int) (p : Nat) : drv v p ≤ 18446744073709551615 := by unfold drv; omega
theorem drv_zero (v : Int) (h0 : 0 ≤ v) (h1 : v ≤ 18446744073709551615) : drv v 0 = v := by unfold drv; rw [Int.pow_zero, Int.ediv_one]; exact sg64_mod v h0 h1
theorem drv_succ (v : Int) (k : Nat) (h0 : 0 ≤ v) (h1 : v ≤ 18446744073709551615) : drv v (k + 1) = v / 9223372036854775808 * 9223372036854775808 + drv v k / 2 := by
  unfold drv
  rw [ediv_pow_succ]
  have hb := ediv_pow_box (sg64 v) k 9223372036854775808 (sg64_lo v h0) (by have := sg64_hi v h1; omega) (by omega)
  have hs : (v < 9223372036854775808 ∧ 0 ≤ sg64 v / 2 ^ k) ∨ (¬ v < 9223372036854775808 ∧ sg64 v / 2 ^ k < 0) := by
    by_cases hv : v < 9223372036854775808
    · exact .inl ⟨hv, Int.ediv_nonneg (by unfold sg64; rw [if_pos hv]; exact h0) (by have := pow_pos2 k; omega)⟩
    · exact .inr ⟨hv, Int.ediv_neg_of_neg_of_pos (by unfold sg64; rw [if_neg hv]; omega) (pow_pos2 k)⟩
  generalize sg64 v / 2 ^ k = m at *
  omega
theorem dr_box (x : Int) (p : Nat) (h0 : 0 ≤ x) (h1 : x ≤ 18446744073709551615) : -9223372036854775808 ≤ sg64 x / 2 ^ p ∧ sg64 x / 2 ^ p ≤ 9223372036854775807 := by
  have := ediv_pow_box (sg64 x) p 9223372036854775808 (sg64_lo x h0) (by have := sg64_hi x h1; omega) (by omega)
  omega
theorem sgn_drv (x : Int) (p : Nat) (h0 : 0 ≤ x) (h1 : x ≤ 18446744073709551615) : sg64 (drv x p) = sg64 x / 2 ^ p := by
  have hb := dr_box x p h0 h1
  unfold drv
  generalize sg64 x / 2 ^ p = m at *
  unfold sg64
  split <;> omega
theorem slg_zero (v : Int) (l : Bool) (h0 : 0 ≤ v) (h1 : v ≤ 4294967295) : slg v 0 l = v := by unfold slg lo32; simp only [Int.pow_zero]; cases l <;> simp; omega
theorem slg_left (v : Int) (k : Nat) : slg v (k + 1) true = lo32 (slg v k true * 2) := by
  simp only [slg, lo32, if_true, Int.pow_succ, ← Int.mul_assoc]; omega
theorem slg_right (v : Int) (k : Nat) : slg v (k + 1) false = slg v k false / 2 := by
  simp [slg, ediv_pow_succ]
theorem slg_lo (v : Int) (k : Nat) (l : Bool) (h0 : 0 ≤ v) : 0 ≤ slg v k l := by
  unfold slg; split
  · exact lo32_lo _
  · exact Int.ediv_nonneg h0 (by have := pow_pos2 k; omega)
theorem ediv_pow_le (v : Int) (k : Nat) (h0 : 0 ≤ v) : v / 2 ^ k ≤ v := Int.ediv_le_self _ h0
theorem slg_hi (v : Int) (k : Nat) (l : Bool) (h0 : 0 ≤ v) (h1 : v ≤ 4294967295) : slg v k l ≤ 4294967295 := by
  unfold slg; split
  · exact lo32_hi _
  · have := ediv_pow_le v k h0; omega
theorem slg_min (v : Int) (p : Nat) (h0 : 0 ≤ v) (h1 : v ≤ 4294967295) : v / 2 ^ min p 32 = v / 2 ^ p := by
  by_cases h : p ≤ 32
  · rw [Nat.min_eq_left h]
  · rw [Nat.min_eq_right (by omega)]
    have hp := pow_le 32 p (by omega)
    rw [Int.ediv_eq_zero_of_lt h0 (by omega), Int.ediv_eq_zero_of_lt h0 (by omega)]
theorem slg_minL (v : Int) (p : Nat) : lo32 (v * 2 ^ min p 32) = lo32 (v * 2 ^ p) := by
  by_cases h : p ≤ 32
  · rw [Nat.min_eq_left h]
  · rw [Nat.min_eq_right (by omega)]
    obtain ⟨r, _, e⟩ := pow_ge32 p (by omega)
    unfold lo32
    rw [e, Int.mul_left_comm, Int.mul_emod_right]; omega
theorem dlg_zero (v : Int) (l : Bool) (h0 : 0 ≤ v) (h1 : v ≤ 18446744073709551615) : dlg v 0 l = v := by unfold dlg; simp only [Int.pow_zero]; cases l <;> simp; omega
theorem dlg_left (v : Int) (k : Nat) : dlg v (k + 1) true = dlg v k true * 2 % 18446744073709551616 := by
  simp only [dlg, if_true, Int.pow_succ, ← Int.mul_assoc]; omega
theorem dlg_right (v : Int) (k : Nat) : dlg v (k + 1) false = dlg v k false / 2 := by
  simp [dlg, ediv_pow_succ]
theorem dlg_lo (v : Int) (k : Nat) (l : Bool) (h0 : 0 ≤ v) : 0 ≤ dlg v k l := by
  unfold dlg; split
  · omega
  · exact Int.ediv_nonneg h0 (by have := pow_pos2 k; omega)
theorem dlg_hi (v : Int) (k : Nat) (l : Bool) (h0 : 0 ≤ v) (h1 : v ≤ 18446744073709551615) : dlg v k l ≤ 18446744073709551615 := by
  unfold dlg; split
  · omega
  · have := ediv_pow_le v k h0; omega

theorem quo_test (n d : Int) (hd : d ≠ 0) (hn : -9223372036854775808 ≤ n) (hn' : n ≤ 9223372036854775807) : (wrap64 (wrap32 (wrap64 (n.tdiv d))) != wrap64 (n.tdiv d)) = !dok n d := by
  have hb : -9223372036854775808 ≤ n.tdiv d ∧ n.tdiv d ≤ 9223372036854775808 := by
    have h1 : (n.tdiv d).natAbs ≤ n.natAbs := by rw [Int.natAbs_tdiv]; exact Nat.div_le_self _ _
    omega
  unfold dok
  generalize n.tdiv d = q at *
  rw [Bool.eq_iff_iff]
  simp only [bne_iff_ne, Bool.not_eq_true', decide_eq_false_iff_not]
  unfold wrap64 wrap32
  omega
theorem dok_zero (n : Int) : dok n 0 = false := by simp [dok]
theorem dok_in (n d : Int) (h : dok n d = true) : d ≠ 0 ∧ -2147483648 ≤ n.tdiv d ∧ n.tdiv d ≤ 2147483647 := by simpa [dok] using h
theorem drem_ok (n d : Int) (h : dok n d = true) : drem n d = lo32 (n.tmod d) := by simp [drem, h]
theorem dquo_ok (n d : Int) (h : dok n d = true) : dquo n d = lo32 (n.tdiv d) := by simp [dquo, h]
theorem dok_least (d : Int) (h0 : -2147483648 ≤ d) (h1 : d ≤ 2147483647) : dok (-9223372036854775808) d = false := by
  unfold dok
  rw [decide_eq_false_iff_not]
  rintro ⟨hd, h2, h3⟩
  have e := Int.mul_tdiv_add_tmod (-9223372036854775808) d
  have hr : ((-9223372036854775808 : Int).tmod d).natAbs < d.natAbs := by
    rw [Int.natAbs_tmod]; exact Nat.mod_lt _ (by omega)
  have hm := mul_box d ((-9223372036854775808 : Int).tdiv d) 2147483648 2147483648 (by omega) (by omega) (by omega) (by omega)
  generalize (-9223372036854775808 : Int).tdiv d = q at *
  generalize (-9223372036854775808 : Int).tmod d = r at *
  omega

theorem tdiv_box (n d : Int) (hn : -9223372036854775808 < n) (hn' : n ≤ 9223372036854775807) : -9223372036854775808 < n.tdiv d ∧ n.tdiv d ≤ 9223372036854775807 := by
  have h1 : (n.tdiv d).natAbs ≤ n.natAbs := by rw [Int.natAbs_tdiv]; exact Nat.div_le_self _ _
  omega
theorem rquo_in (n d : Int) (_hd : d ≠ 0) (hn : -9223372036854775808 < n) (hn' : n ≤ 9223372036854775807) : wrap64 (n.tdiv d) = n.tdiv d := by
  have := tdiv_box n d hn hn'; exact IntWalk.wrap64_in _ (by omega)
theorem rquo_test (n d : Int) (hd : d ≠ 0) (_hn : -9223372036854775808 < n) (_hn' : n ≤ 9223372036854775807) : (sg (lo32 (n.tdiv d)) != n.tdiv d) = !dok n d := by
  rw [signed_test]; unfold dok
  rw [Bool.eq_iff_iff, ovf_iff]
  simp only [Bool.not_eq_true', decide_eq_false_iff_not]
  omega
theorem rrem_w (n d : Int) : lo32 (wrap64 (n - wrap64 (n.tdiv d * d))) = lo32 (n.tmod d) := by
  have := Int.tmod_add_tdiv_mul n d
  generalize n.tdiv d * d = x at *
  unfold lo32 wrap64; omega

theorem sum_high (a b : Int) (ha : 0 ≤ a) (ha' : a ≤ 4294967295) (hb : 0 ≤ b) (hb' : b ≤ 4294967295) : decide (lo32 (a + b) < a) = decide (4294967296 ≤ a + b) := by
  rw [Bool.eq_iff_iff, decide_eq_true_iff, decide_eq_true_iff]; unfold lo32; omega
end Go.Proofs.YthjdjbipfdigeaaGreat

namespace Go.Proofs.YthjdjbipfdigeaaGreat
open Go.RowKit
set_option linter.unusedVariables false

/-- The slice value '.slice A len _' holds the bytes zs in the world w (nil too, where zs is empty). -/
def Byt (w : World) (A : Option Addr) (len : Nat) (zs : List Int) : Prop :=
  zs.length = len ∧ (∀ n ∈ zs, 0 ≤ n ∧ n ≤ 255) ∧ (0 < len → ∃ b off, A = some ⟨b, off, none⟩ ∧ ∀ i, i < len → w.cell? ⟨b, off + i, none⟩ = some (.int .u8 (zs.getD i 0)))

theorem Byt.range {w : World} {A : Option Addr} {len : Nat} {zs : List Int} (h : Byt w A len zs) (i : Nat) : 0 ≤ zs.getD i 0 ∧ zs.getD i 0 ≤ 255 := by
  rw [List.getD_eq_getElem?_getD]
  rcases Nat.lt_or_ge i zs.length with hi | hi
  · rw [List.getElem?_eq_getElem hi]; exact h.2.1 _ (List.getElem_mem hi)
  · rw [List.getElem?_eq_none hi]; simp
theorem Byt.at_ {w : World} {A : Option Addr} {len : Nat} {zs : List Int} (h : Byt w A len zs) (h0 : 0 < len) : ∃ b off, A = some ⟨b, off, none⟩ ∧ ∀ i, i < len → w.cell? ⟨b, off + i, none⟩ = some (.int .u8 (zs.getD i 0)) := h.2.2 h0
theorem Byt.keep {w w' : World} {A : Option Addr} {len : Nat} {zs : List Int} (h : Byt w A len zs) (hb : Below w.heap.size w w') : Byt w' A len zs := by
  refine ⟨h.1, h.2.1, fun h0 => ?_⟩
  obtain ⟨b, off, e, hc⟩ := h.2.2 h0
  refine ⟨b, off, e, fun i hi => ?_⟩
  have h1 := hc i hi
  rw [← h1]
  refine hb.cell (p := ⟨b, off + i, none⟩) ?_
  rcases Nat.lt_or_ge b w.heap.size with h2 | h2
  · exact h2
  · unfold World.cell? at h1; simp only [Array.getElem?_eq_none h2] at h1; cases h1
theorem Byt.drewN {w : World} {A : Option Addr} {len : Nat} {zs : List Int} (h : Byt w A len zs) (n : Nat) : Byt (w.drewN n) A len zs := h
theorem Byt.pre {w : World} {A : Option Addr} {len : Nat} {zs : List Int} (h : Byt w A len zs) (k : Nat) (hk : k ≤ len) : Byt w A k (zs.take k) := by
  refine ⟨by rw [List.length_take, h.1]; omega, fun n hn => h.2.1 n (List.mem_of_mem_take hn), fun h0 => ?_⟩
  obtain ⟨b, off, e, hc⟩ := h.2.2 (by omega)
  refine ⟨b, off, e, fun i hi => ?_⟩
  rw [hc i (by omega)]
  simp [List.getD_eq_getElem?_getD, hi]

/-- does a field of n bytes from 'at_' on lie within len bytes? -/
def fitB (len : Nat) (at_ : Int) (n : Int) : Bool := decide (0 ≤ at_ ∧ at_ ≤ (len : Int) - n)
theorem fitB_yes {len : Nat} {at_ n : Int} (h : fitB len at_ n = true) : 0 ≤ at_ ∧ at_ ≤ (len : Int) - n := by simpa [fitB] using h
theorem fitB_no {len : Nat} {at_ n : Int} (h : fitB len at_ n = false) : ¬ (0 ≤ at_ ∧ at_ ≤ (len : Int) - n) := by unfold fitB at h; exact of_decide_eq_false h

/-- 16 bits with their sign -/
def sx16 (h : Int) : Int := if h < 32768 then h else h - 65536
/-- a halfword, extended to a word -/
def hfv (x y : Int) : Int := lo32 (sx16 (x * 256 + y))
/-- a fullword -/
def flv (x y z u : Int) : Int := x * 16777216 + y * 65536 + z * 256 + u
theorem sx16_lo (h : Int) (h0 : 0 ≤ h) : -32768 ≤ sx16 h := by unfold sx16; split <;> omega
theorem sx16_hi (h : Int) (h1 : h ≤ 65535) : sx16 h ≤ 32767 := by unfold sx16; split <;> omega
theorem wrap_i16 (n : Int) : IntKind.i16.wrap n = (n + 32768) % 65536 - 32768 := by
  simp only [IntKind.wrap, IntKind.bits, IntKind.signed]; simp; split <;> omega
theorem wrap_i16_sx (h : Int) (h0 : 0 ≤ h) (h1 : h ≤ 65535) : IntKind.i16.wrap h = sx16 h := by rw [wrap_i16]; unfold sx16; split <;> omega
theorem or_half (x y : Int) (hx : 0 ≤ x) (hx' : x ≤ 255) (hy : 0 ≤ y) (hy' : y ≤ 255) : bits .or .i16 (IntKind.i16.wrap (x * 256)) y = sx16 (x * 256 + y) := by
  show IntKind.i16.wrap ((BitVec.ofInt 16 (IntKind.i16.wrap (x * 256)) ||| BitVec.ofInt 16 y).toNat : Int) = _
  have e1 : (BitVec.ofInt 16 (IntKind.i16.wrap (x * 256))).toNat = (x * 256).toNat := by rw [BitVec.toNat_ofInt, wrap_i16]; omega
  have e2 : (BitVec.ofInt 16 y).toNat = y.toNat := by rw [BitVec.toNat_ofInt]; omega
  rw [BitVec.toNat_or, e1, e2, nat_join 8 _ _ (by omega) (by omega), ← wrap_i16_sx _ (by omega) (by omega)]
  congr 1; omega
theorem or_32 (i : Nat) (x y : Int) (p : Int) (hp : p = 2 ^ i) (hx : 0 ≤ x) (hx' : x ≤ 4294967295) (hm : x % p = 0) (hy : 0 ≤ y) (hy' : y < p) (hyy : y ≤ 4294967295) : bits .or .u32 x y = x + y := by
  subst hp
  rw [u32_or _ _ (by omega) (by omega) (by omega) (by omega), nat_join i _ _ ?_ ?_]
  · omega
  · have : ((x.toNat % 2 ^ i : Nat) : Int) = 0 := by rw [Int.natCast_emod]; simpa [Int.toNat_of_nonneg hx] using hm
    omega
  · have : ((y.toNat : Nat) : Int) < ((2 ^ i : Nat) : Int) := by simpa [Int.toNat_of_nonneg hy] using hy'
    omega
end Go.Proofs.YthjdjbipfdigeaaGreat

namespace Go.Proofs.YthjdjbipfdigeaaGreat
open Go.RowKit
set_option linter.unusedVariables false

theorem info_u8 : (Tryz.prog.info? 5).map (fun i => (i.zero, i.size, i.bytes)) = some (some (.int .u8 0), 1, 1) := by kernel_rfl

theorem cell_blk {w : World} {g : Nat} {C : Array Value} {t : TypeId} {fr : Nat × Nat} (h : w.heap[g]? = some (.cells C t fr)) (i : Nat) : w.cell? ⟨g, i, none⟩ = C[i]? := by simp [World.cell?, h]

/-- The slice value v of n bytes zs is the call's own: nil, or the head of a block from 'base' on. -/
def Own (w : World) (base : Nat) (v : Value) (n : Nat) (zs : List Int) : Prop :=
  w.ownsRow base 5 1 v n (zs.map (Value.int .u8)) ∧ ∀ z ∈ zs, 0 ≤ z ∧ z ≤ 255

section
variable {w w' : World} {base n : Nat} {v : Value} {zs : List Int}
theorem Own.len (h : Own w base v n zs) : zs.length = n := by have := h.1.1; simpa using this
theorem Own.nil (w : World) (base : Nat) : Own w base (.slice none 0 0) 0 [] := ⟨World.ownsRow_nil w base _ _, by simp⟩
theorem Own.empty (w : World) (base : Nat) (hb : base ≤ w.heap.size) : Own (w.alloc (.cells #[] 5)) base (.slice (some ⟨w.heap.size, 0, none⟩) 0 0) 0 [] :=
  ⟨World.ownsRow_made w #[] 0 hb (Nat.zero_le _) rfl, by simp⟩
theorem Own.alloc (h : Own w base v n zs) (o : Obj) : Own (w.alloc o) base v n zs := ⟨h.1.alloc o, h.2⟩
theorem Own.drewN (h : Own w base v n zs) (k : Nat) : Own (w.drewN k) base v n zs := h
theorem Own.below {B : Nat} (h : Own w base v n zs) (hb : Below B w w') (hv : ∀ g, v.ownBlock = some g → g < B) : Own w' base v n zs := by
  refine ⟨⟨h.1.1, ?_⟩, h.2⟩
  rcases h.1.2 with h0 | ⟨g, cap, cur, rfl, hg, hh, r⟩
  · exact .inl h0
  · exact .inr ⟨g, cap, cur, rfl, hg, (hb.block g (hv g rfl)).trans hh, r⟩
theorem Own.form (h : Own w base v n zs) : (v = .slice none 0 0 ∧ n = 0) ∨ ∃ g cap, v = .slice (some ⟨g, 0, none⟩) n cap ∧ base ≤ g ∧ g < w.heap.size ∧ n ≤ cap ∧ cap ≤ maxLen := by
  rcases h.1.2 with h0 | ⟨g, cap, cur, rfl, hg, hh, h1, h2, _⟩
  · exact .inl h0
  · exact .inr ⟨g, cap, rfl, hg, (Array.getElem?_eq_some_iff.1 hh).1, h1, h2⟩
theorem Own.pos (h : Own w base v n zs) (h0 : 0 < n) : ∃ g cap, v = .slice (some ⟨g, 0, none⟩) n cap ∧ base ≤ g ∧ g < w.heap.size ∧ n ≤ cap ∧ cap ≤ maxLen := by
  rcases h.form with ⟨_, h1⟩ | h1
  · omega
  · exact h1
theorem Own.heap {g cap : Nat} (h : Own w base (.slice (some ⟨g, 0, none⟩) n cap) n zs) : ∃ cur : List Value, w.heap[g]? = some (.cells cur.toArray 5 (0, 0)) ∧ cur.length = cap ∧ cur.take n = zs.map (Value.int .u8) ∧ base ≤ g ∧ n ≤ cap ∧ cap ≤ maxLen := by
  rcases h.1.2 with ⟨h0, _⟩ | ⟨g', cap', cur, hv, hg, hh, h1, h2, h3, h4⟩
  · cases h0
  · injection hv with hA _ hc
    injection hA with hA; injection hA with hA
    subst hA hc
    exact ⟨cur.toList, by simpa using hh, by simpa using h3, by simpa using h4, hg, h1, h2⟩
theorem Own.of_heap {g cap : Nat} {cur : List Value} (h : w.heap[g]? = some (.cells cur.toArray 5 (0, 0))) (hl : cur.length = cap) (ht : cur.take n = zs.map (Value.int .u8)) (hz : zs.length = n) (hg : base ≤ g) (hn : n ≤ cap) (hm : cap ≤ maxLen) (hr : ∀ z ∈ zs, 0 ≤ z ∧ z ≤ 255) :
    Own w base (.slice (some ⟨g, 0, none⟩) n cap) n zs :=
  ⟨⟨by simp [hz], .inr ⟨g, cap, cur.toArray, rfl, hg, h, hn, hm, by simp [hl], by simpa using ht⟩⟩, hr⟩
/-- it reads as its bytes -/
theorem Own.byt {A : Option Addr} {cap : Nat} (h : Own w base (.slice A n cap) n zs) : Byt w A n zs := by
  refine ⟨h.len, h.2, fun h0 => ?_⟩
  rcases h.1.2 with ⟨_, hn⟩ | ⟨g, cap', cur, hv, _, hh, _, _, _, ht⟩
  · omega
  · injection hv with hA _ hc
    refine ⟨g, 0, hA, fun i hi => ?_⟩
    have hz : i < zs.length := by rw [h.len]; exact hi
    have e : (cur.toList.take (n * 1))[i]? = some (.int .u8 zs[i]) := by rw [ht]; simp [hz]
    rw [List.getElem?_take, if_pos (by omega)] at e
    have e2 : cur[i]? = some (.int .u8 zs[i]) := by simpa using e
    simp [World.cell?, hh, e2, List.getD_eq_getElem?_getD, hz]
theorem Own.block (h : Own w base v n zs) : ∀ g, v.ownBlock = some g → base ≤ g ∧ g < w.heap.size := h.1.lt
end

/-- a new block of bytes, written out -/
theorem byt_new (w : World) (zs : List Int) (hr : ∀ z ∈ zs, 0 ≤ z ∧ z ≤ 255) (C : Array Value) (hC : C.toList = zs.map (Value.int .u8)) (n : Nat) (hn : zs.length = n) (e : TypeId) : Byt (w.alloc (.cells C e)) (some ⟨w.heap.size, 0, none⟩) n zs := by
  refine ⟨hn, hr, fun _ => ⟨w.heap.size, 0, rfl, fun i hi => ?_⟩⟩
  have hz : i < zs.length := by omega
  have e1 : C[i]? = some (.int .u8 zs[i]) := by rw [← Array.getElem?_toList, hC]; simp [hz]
  have e2 : (w.alloc (.cells C e)).heap[w.heap.size]? = some (.cells C e (0, 0)) := heap_alloc_new w _
  rw [cell_blk e2, Nat.zero_add, e1]; simp [List.getD_eq_getElem?_getD, hz]

theorem addr_plus (b off j : Nat) : (⟨b, off, none⟩ : Addr).add j = ⟨b, off + j, none⟩ := by unfold Addr.add; split <;> simp_all
/-- APPEND of bytes onto the call's own -/
theorem wpList_append_bytes {w : World} {ops : Array Oper} {rest : List Oper} {o : Oper} {a : Act} {Q : Exit → Act → World → Prop} (hgd : o.guard = none) (s x : Operand)
    (ho : o.op = .call { callee := .builtin .append, args := #[s, x], argTypes := #[29, 29] })
    (base : Nat) (v : Value) (n : Nat) (zs : List Int) (hs : a.eval s = v) (hown : Own w base v n zs)
    (A : Option Addr) (m c : Nat) (ys : List Int) (hx : a.eval x = .slice A m c) (hy : Byt w A m ys) (hc : A = none → c = 0) (h63 : n + m ≤ 140737488355328) (hbase : base ≤ w.heap.size)
    (h : ∀ v' w', Own w' base v' (n + m) (zs ++ ys) → w.grownBy w' v.ownBlock → wpList Tryz.prog ops Q rest (a.put o.dst v') w') : wpList Tryz.prog ops Q (o :: rest) a w := by
  obtain ⟨i0, hi, hz0, hz1, hz2⟩ := info_parts info_u8
  rcases A with _ | ad
  · have hm : m = 0 := by
      rcases Nat.eq_zero_or_pos m with h0 | h0
      · exact h0
      · obtain ⟨b, off, e, _⟩ := hy.2.2 h0; cases e
    subst hm
    obtain rfl : ys = [] := List.eq_nil_of_length_eq_zero hy.1
    rw [hc rfl] at hx
    refine wpList_append_own_none hgd s x 29 ho base 5 i0 1 Tryz.underlying29 hi v n _ hs hown.1 hx ?_
    exact h v w (by simpa using hown) (World.grownBy.refl w _)
  · refine wpList_append_own w hgd s x 29 ho base 5 i0 (.int .u8 0) 1 1 Tryz.underlying29 hi hz0 hz1 hz2 rfl (by decide) v n _ hs hown.1 ad m c (ys.map (Value.int .u8)) hx (by simp [hy.1]) ?_ (by simp [Value.oneCell']) (by unfold maxLen; omega) (by omega) hbase ?_
    · intro j u hu
      have hj : j < ys.length := by
        rcases Nat.lt_or_ge j ys.length with h1 | h1
        · exact h1
        · rw [List.getElem?_eq_none (by simpa using h1)] at hu; cases hu
      obtain ⟨b, off, e, hcell⟩ := hy.2.2 (by rw [← hy.1]; omega)
      obtain rfl := Option.some.inj e
      have h2 := hcell j (by rw [← hy.1]; exact hj)
      have hadd := addr_plus b off j
      rw [hadd, h2]
      simp [hj] at hu
      simp [List.getD_eq_getElem?_getD, hj, hu]
    · intro v' w' h1 h2 _
      refine h v' w' ⟨by simpa using h1, ?_⟩ h2
      intro z hz
      rcases List.mem_append.mp hz with hz | hz
      · exact hown.2 z hz
      · exact hy.2.1 z hz

theorem splice_map (f : Int → Value) (L : List Int) (k : Nat) (ys : List Int) : splice (L.map f) k (ys.map f) = (splice L k ys).map f := by simp [splice]
theorem splice_range (L : List Int) (k : Nat) (ys : List Int) (h1 : ∀ z ∈ L, 0 ≤ z ∧ z ≤ 255) (h2 : ∀ z ∈ ys, 0 ≤ z ∧ z ≤ 255) : ∀ z ∈ splice L k ys, 0 ≤ z ∧ z ≤ 255 := by
  intro z hz
  unfold splice at hz
  rcases List.mem_append.mp hz with hz | hz
  · exact h1 z (List.mem_of_mem_take hz)
  · rcases List.mem_append.mp hz with hz | hz
    · exact h2 z hz
    · exact h1 z (List.mem_of_mem_drop hz)
theorem take_splice {α : Type} (L : List α) (k n : Nat) (ys : List α) (h : k + ys.length ≤ n) (hn : n ≤ L.length) : (splice L k ys).take n = splice (L.take n) k ys := by
  have e1 : L.drop (k + ys.length) = (L.take n).drop (k + ys.length) ++ L.drop n := by
    conv => lhs; rw [← List.take_append_drop n L]
    rw [List.drop_append_of_le_length (by rw [List.length_take]; omega)]
  have e2 : L.take k = (L.take n).take k := by rw [List.take_take, Nat.min_eq_left (by omega)]
  have e3 : splice L k ys = splice (L.take n) k ys ++ L.drop n := by
    unfold splice; rw [e1, e2]; simp only [List.append_assoc]
  rw [e3]
  exact List.take_left' (by rw [length_splice _ _ _ (by rw [List.length_take]; omega), List.length_take]; omega)

/-- a slice's bytes as cells, at the address's own spelling -/
theorem Byt.cells {w : World} {b off m : Nat} {ys : List Int} (h : Byt w (some ⟨b, off, none⟩) m ys) (h0 : 0 < m) : ∀ j u, (ys.map (Value.int .u8))[j]? = some u → w.cell? ((⟨b, off, none⟩ : Addr).add j) = some u := by
  intro j u hu
  have hj : j < ys.length := by
    rcases Nat.lt_or_ge j ys.length with h1 | h1
    · exact h1
    · rw [List.getElem?_eq_none (by simpa using h1)] at hu; cases hu
  obtain ⟨b', off', e, hcell⟩ := h.2.2 h0
  injection e with e; injection e with e1 e2; subst e1 e2
  have h2 := hcell j (by rw [← h.1]; exact hj)
  have hadd : (⟨b, off, none⟩ : Addr).add j = ⟨b, off + j, none⟩ := by unfold Addr.add; split <;> simp_all
  rw [hadd, h2]
  simp [hj] at hu
  simp [List.getD_eq_getElem?_getD, hj, hu]

end Go.Proofs.YthjdjbipfdigeaaGreat

namespace Go.Proofs.YthjdjbipfdigeaaGreat
open Go.RowKit
set_option linter.unusedVariables false
theorem bcell_keep {w w' : World} {b o : Nat} {v : Value} (h : w.cell? ⟨b, o, none⟩ = some v) (hb : Below w.heap.size w w') : w'.cell? ⟨b, o, none⟩ = some v := by
  have hlt : b < w.heap.size := by
    rcases Nat.lt_or_ge b w.heap.size with h2 | h2
    · exact h2
    · unfold World.cell? at h; simp only [Array.getElem?_eq_none h2] at h; cases h
  exact (hb.cell (p := ⟨b, o, none⟩) hlt).trans h
theorem bbelow_keep {B : Nat} {a w w' : World} (h : Below B a w) (hB : B ≤ a.heap.size) (hb : Below w.heap.size w w') : Below B a w' := h.trans (hb.mono (Nat.le_trans hB h.size))
/-- a slice of bytes, behind a name that no tactic takes apart -/
structure BytI (w : World) (A : Option Addr) (n : Nat) (zs : List Int) : Prop where
  out : Byt w A n zs
theorem BytI.keep {w w' : World} {A : Option Addr} {n : Nat} {zs : List Int} (h : BytI w A n zs) (hb : Below w.heap.size w w') : BytI w' A n zs := ⟨h.out.keep hb⟩
theorem below_of_drew {w w' : World} {n : Nat} (h : w' = w.drewN n) : Below w.heap.size w w' := by subst h; exact ⟨(Below.refl w.heap.size w).os, (Below.refl w.heap.size w).tape, (Below.refl w.heap.size w).output, (Below.refl w.heap.size w).size, (Below.refl w.heap.size w).block⟩
theorem below_draw (w : World) (n : Nat) : Below w.heap.size w (w.drewN n) := ⟨(Below.refl w.heap.size w).os, (Below.refl w.heap.size w).tape, (Below.refl w.heap.size w).output, (Below.refl w.heap.size w).size, (Below.refl w.heap.size w).block⟩
end Go.Proofs.YthjdjbipfdigeaaGreat

namespace Go.Proofs.YthjdjbipfdigeaaGreat
set_option linter.unusedVariables false

/-- the codes, in ascending order -/
def opL : List Int := [4, 5, 6, 7, 8, 9, 10, 16, 17, 18, 19, 20, 21, 22, 23, 24, 25, 26, 27, 28, 29, 30, 31, 64, 65, 66, 67, 68, 69, 70, 71, 72, 73, 74, 75, 76, 78, 79, 80, 84, 85, 86, 87, 88, 89, 90, 91, 92, 93, 94, 95, 128, 130, 134, 135, 136, 137, 138, 139, 140, 141, 142, 143, 144, 145, 146, 147, 148, 149, 150, 151, 152, 156, 157, 158, 159, 209, 210, 211, 212, 213, 214, 215, 220, 221, 222, 223, 240, 241, 242, 243, 248, 249, 250, 251, 252, 253]
/-- their formats -/
def fmL : List Int := [8, 1, 1, 1, 1, 1, 7, 1, 1, 1, 1, 1, 1, 1, 1, 1, 1, 1, 1, 1, 1, 1, 1, 2, 2, 2, 2, 2, 2, 2, 2, 2, 2, 2, 2, 2, 2, 2, 2, 2, 2, 2, 2, 2, 2, 2, 2, 2, 2, 2, 2, 9, 9, 3, 3, 3, 3, 3, 3, 3, 3, 3, 3, 3, 4, 4, 9, 4, 4, 4, 4, 3, 9, 9, 9, 9, 5, 5, 5, 5, 5, 5, 5, 5, 5, 5, 5, 6, 6, 6, 6, 6, 6, 6, 6, 6, 6]
/-- their names, letter by letter -/
def nmL : List (List Nat) := [[83, 80, 77], [66, 65, 76, 82], [66, 67, 84, 82], [66, 67, 82], [83, 83, 75], [73, 83, 75], [83, 86, 67], [76, 80, 82], [76, 78, 82], [76, 84, 82], [76, 67, 82], [78, 82], [67, 76, 82], [79, 82], [88, 82], [76, 82], [67, 82], [65, 82], [83, 82], [77, 82], [68, 82], [65, 76, 82], [83, 76, 82], [83, 84, 72], [76, 65], [83, 84, 67], [73, 67], [69, 88], [66, 65, 76], [66, 67, 84], [66, 67], [76, 72], [67, 72], [65, 72], [83, 72], [77, 72], [67, 86, 68], [67, 86, 66], [83, 84], [78], [67, 76], [79], [88], [76], [67], [65], [83], [77], [68], [65, 76], [83, 76], [83, 83, 77], [76, 80, 83, 87], [66, 88, 72], [66, 88, 76, 69], [83, 82, 76], [83, 76, 76], [83, 82, 65], [83, 76, 65], [83, 82, 68, 76], [83, 76, 68, 76], [83, 82, 68, 65], [83, 76, 68, 65], [83, 84, 77], [84, 77], [77, 86, 73], [84, 83], [78, 73], [67, 76, 73], [79, 73], [88, 73], [76, 77], [83, 73, 79], [84, 73, 79], [72, 73, 79], [84, 67, 72], [77, 86, 78], [77, 86, 67], [77, 86, 90], [78, 67], [67, 76, 67], [79, 67], [88, 67], [84, 82], [84, 82, 84], [69, 68], [69, 68, 77, 75], [83, 82, 80], [77, 86, 79], [80, 65, 67, 75], [85, 78, 80, 75], [90, 65, 80], [67, 80], [65, 80], [83, 80], [77, 80], [68, 80]]
def opK (k : Nat) : Int := opL.getD k 0
def fmK (k : Nat) : Int := fmL.getD k 0
def nmK (k : Nat) : List Nat := nmL.getD k []
def strN (l : List Nat) : ByteArray := ⟨(l.map Nat.toUInt8).toArray⟩
/-- a hexadecimal digit -/
def hexd (n : Nat) : Nat := if n < 10 then 48 + n else 55 + n
/-- a row of the table: code, name, format -/
def rowK (k : Nat) : List Nat := [hexd ((opK k).toNat / 16), hexd ((opK k).toNat % 16)] ++ (nmK k ++ List.replicate (5 - (nmK k).length) 32) ++ [96 + (fmK k).toNat]
def tbL : List Nat := (List.range 97).flatMap rowK
def tbA : Array UInt8 := (tbL.map Nat.toUInt8).toArray
def tb (i : Nat) : Nat := tbL.getD i 0
theorem tb_get (d : Array UInt8) (i : Nat) (h : i < (ByteArray.mk d).size) (hd : d = tbA) : ((ByteArray.mk d)[i]'h).toNat = tb i := by
  subst hd
  have h1 : i < tbL.length := by
    have : (ByteArray.mk tbA).size = tbL.length := by show tbA.size = _; simp [tbA]
    omega
  have hs : ∀ z ∈ tbL, z < 256 := by decide +kernel
  have h2 : ((ByteArray.mk tbA)[i]'h) = Nat.toUInt8 tbL[i] := by
    show tbA[i]'_ = _
    simp [tbA]
  rw [h2]
  unfold tb
  rw [List.getD_eq_getElem?_getD, List.getElem?_eq_getElem h1]
  show (Nat.toUInt8 tbL[i]).toNat = tbL[i]
  have := hs _ (List.getElem_mem h1)
  simp [Nat.toUInt8]
  omega
def dig (c : Int) : Int := if 65 ≤ c then c - 55 else c - 48
theorem tb_op : ∀ k, k < 97 → 16 * dig (tb (8 * k)) + dig (tb (8 * k + 1)) = opK k := by decide +kernel
theorem tb_hex : ∀ k, k < 97 → 48 ≤ tb (8 * k) ∧ tb (8 * k) ≤ 255 ∧ 48 ≤ tb (8 * k + 1) ∧ tb (8 * k + 1) ≤ 255 := by decide +kernel
theorem tb_fm : ∀ k, k < 97 → 97 ≤ tb (8 * k + 7) ∧ tb (8 * k + 7) ≤ 105 ∧ (tb (8 * k + 7) : Int) - 97 + 1 = fmK k := by decide +kernel
theorem op_up : ∀ k, k < 96 → opK k < opK (k + 1) := by decide +kernel
theorem op_range : ∀ k, k < 97 → 4 ≤ opK k ∧ opK k ≤ 253 := by decide +kernel
theorem op_lt {j k : Nat} (hj : j < k) (hk : k < 97) : opK j < opK k := by
  induction k with
  | zero => omega
  | succ k ih =>
    have h1 := op_up k (by omega)
    rcases Nat.lt_or_ge j k with h | h
    · have := ih h (by omega); omega
    · rw [show j = k by omega]; exact h1
/-- the place of a code in the list (97: it isn't there) -/
def ix (op : Int) : Nat := opL.findIdx (· == op)
theorem ix_le (op : Int) : ix op ≤ 97 := by
  have : ix op ≤ opL.length := List.findIdx_le_length
  have h2 : opL.length = 97 := by decide +kernel
  omega
theorem ix_of {op : Int} {k : Nat} (hk : k < 97) (h : opK k = op) : ix op = k := by
  have hl : opL.length = 97 := by decide +kernel
  refine (List.findIdx_eq (by omega)).2 ⟨?_, fun j hj => ?_⟩
  · have : opK k = opL[k]'(by omega) := by unfold opK; rw [List.getD_eq_getElem?_getD, List.getElem?_eq_getElem (by omega)]; rfl
    rw [← this, h]; simp
  · have e : opK j = opL[j]'(by omega) := by unfold opK; rw [List.getD_eq_getElem?_getD, List.getElem?_eq_getElem (by omega)]; rfl
    have := op_lt hj hk
    rw [← e]; simp; omega
theorem ix_op {op : Int} (h : ix op < 97) : opK (ix op) = op := by
  have hl : opL.length = 97 := by decide +kernel
  have h1 : ix op < opL.length := by omega
  have h2 := List.findIdx_getElem (p := fun x => x == op) (xs := opL) (w := h1)
  have e : opK (ix op) = opL[ix op]'h1 := by unfold opK; rw [List.getD_eq_getElem?_getD, List.getElem?_eq_getElem h1]; rfl
  rw [e]
  exact eq_of_beq h2
theorem ix_none {op : Int} (h : ∀ k, k < 97 → opK k ≠ op) : ix op = 97 := by
  have := ix_le op
  rcases Nat.lt_or_ge (ix op) 97 with h1 | h1
  · exact absurd (ix_op h1) (h _ h1)
  · omega
theorem dig_range (c : Int) (h0 : 48 ≤ c) (h1 : c ≤ 255) : 0 ≤ dig c ∧ dig c ≤ 255 := by unfold dig; split <;> omega
theorem wrap_hex {x y : Int} (hx : 0 ≤ x ∧ x ≤ 255) (hy : 0 ≤ y ∧ y ≤ 255) : IntKind.i64.wrap (IntKind.i64.wrap (16 * x) + y) = 16 * x + y := by
  simp only [IntKind.wrap, IntKind.bits, IntKind.signed]; simp; omega
/-- what row answers -/
def rowAt (op : Int) : Int := if ix op < 97 then ((8 * ix op : Nat) : Int) else -1
/-- what Form answers -/
def isOp (op : Int) : Bool := decide (ix op < 97)
def fmOf (op : Int) : Int := if ix op < 97 then fmK (ix op) else 0
/-- what Name answers -/
def nmOf (op : Int) : List Nat := if ix op < 97 then nmK (ix op) else []
/-- what Length answers -/
def lenOf (op : Int) : Int := if 0 ≤ op ∧ op ≤ 255 then (if op < 64 then 2 else if op < 192 then 4 else 6) else 0
def privB (op : Int) : Bool := decide (op = 8 ∨ op = 9 ∨ op = 128 ∨ op = 130 ∨ (156 ≤ op ∧ op ≤ 159))
end Go.Proofs.YthjdjbipfdigeaaGreat

