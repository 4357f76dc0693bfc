/- Contracts and laws on the way to the statement, text 1 of 10. Conditions: as each states them. -/
import Derived.Test.YtljajnaclpbecaaGreatDoorRows
import Derived.WalkKit
import Derived.ProofKit
import Derived.OpenShut
import Derived.ShutString
import Derived.ChangeOld
import Derived.Below
import Derived.Carry
import Derived.Deep.Slices
import Derived.Deep.Fields
import Derived.ChangeSame
import Derived.Deep.Draws
import Derived.Test.YtljajnaclpbecaaGreatDoorProg
import Derived.Deep.RegionHeld3
import Derived.Lib.Hide
import Derived.Laws.BitsAllLaws
import Derived.Laws.AppendOwn
import Derived.Laws.AppendOwnNone
import Derived.Laws.OwnMore
import Derived.Laws.CopyOwn
import Derived.OwnWalk
import Derived.KernelRfl
import Derived.Outline
import Derived.Handy
import Derived.BigQuiet
import Derived.Deep.CutRange
import Derived.RegionTactic
import Derived.Deep.QuietTactic
import Derived.RangeFuncNested
import Derived.RangeFuncBound
import Derived.RangeFuncCalls
import Derived.RangeFuncLeaves
import Derived.Shelf.Abstract
import Derived.Shelf.RegionOpen
import Derived.OwnWalkIn
import Derived.TacticsInMore
import Derived.LoopNIn
import Derived.LoopIn
import Derived.Laws.EntriesVeiled
import Derived.Scope
import Derived.Laws.StructEq
import Derived.Laws.Tables
import Derived.TacticsIn
import Derived.Sort.QuietIn
namespace Go.Proofs.YtljajnaclpbecaaGreatDoor
open Go.ChangeShapes Go.WideShapes Go.ChangeAt Go.RowKit Go.Deep
open Go.ChangeMaps (open_string shut_string)

theorem own : ownKnob Tryz.prog.godebug = none := by kernel_rfl
end Go.Proofs.YtljajnaclpbecaaGreatDoor

namespace Go.Proofs.YtljajnaclpbecaaGreatDoor
open Go.RowKit
set_option linter.unusedVariables false
theorem takeL {P : Program} {L : List Oper} {Q : Exit → Act → World → Prop} {md : Region.Mode} {S : World → Prop} {i : Nat} {oi : Oper} {v : Value} {fuel : Nat} {listed : Array Bool} {a : Act} {w : World} (hi : L[i]? = some oi)
    (hs : Region.noSelect L.toArray = true) (hf : Region.free md L.toArray listed i = true) (hr : (Region.ready md L.toArray listed).contains i = true)
    (hQ : ∀ c a w, Q (.panic c) (a.put oi.dst v) w → Q (.panic c) a w) (hy : YieldsIf P L.toArray S oi v a) (hS : S w)
    (h : wpAnyH P md L.toArray Q S fuel (listed.setIfInBounds i true) (a.put oi.dst v) w) : wpAnyH P md L.toArray Q S (fuel + 1) listed a w := wpAnyH_take (by simpa using hi) hs hf hr hQ hy hS h
theorem consL {P : Program} {L : List Oper} {Q : Exit → Act → World → Prop} {md : Region.Mode} {S : World → Prop} {fuel : Nat} {listed : Array Bool} {a : Act} {w : World} {i : Nat} {o : Oper} {rs : List Nat} (ho : L[i]? = some o)
    (h : ∀ K' : Act → World → Prop, Shut (∀ a w, S w → (S w → wpAnyH P md L.toArray Q S fuel (listed.setIfInBounds i true) a w) → K' a w) → if Region.wanted o (yielded L.toArray a.tmps) = true then Oper.wp P o a w K' Q else K' (a.put o.dst undef) w)
    (hs : AllReadyH P md L.toArray Q S fuel listed a w rs) : AllReadyH P md L.toArray Q S fuel listed a w (i :: rs) := AllReadyH.cons (by simpa using ho) h hs
end Go.Proofs.YtljajnaclpbecaaGreatDoor

namespace Go.Proofs.YtljajnaclpbecaaGreatDoor
open Go.RowKit
set_option maxRecDepth 100000
set_option linter.unusedVariables false
/-- an operation that makes or writes nothing -/
def still : Op → Bool
  | .call _ | .store _ _ _ | .alloc _ | .box _ _ | .build _ _ | .buildSlice _ _ _ | .makeSlice _ _ _ => false
  | _ => true
/-- the first operation that may be taken -/
def nxt (md : Region.Mode) (L : List Oper) (listed : Array Bool) : Option Nat := (Region.ready md L.toArray listed).find? fun i => (L[i]?.elim false fun o => still o.op) && Region.free md L.toArray listed i
theorem nxt_spec {md : Region.Mode} {L : List Oper} {listed : Array Bool} {i : Nat} (h : nxt md L listed = some i) : Region.free md L.toArray listed i = true ∧ (Region.ready md L.toArray listed).contains i = true :=
  ⟨(Bool.and_eq_true _ _ ▸ List.find?_some h : _ ∧ _).2, by simpa using List.mem_of_find?_eq_some h⟩
section
variable {P : Program} {L : List Oper} {Q : Exit → Act → World → Prop} {md : Region.Mode} {S : World → Prop} {i : Nat} {v : Value} {oi : Oper} {fuel : Nat} {listed : Array Bool} {a : Act} {w : World} {X : Prop}
theorem tkn (h : X) (hn : nxt md L listed = some i := by with_unfolding_all rfl) (hi : L[i]? = some oi := by rfl)
    (hw : Region.wanted oi (yielded L.toArray a.tmps) = true := by rfl) (y : ∀ w, S w → (execOp a.eval oi).run P w = .ok (.value v) w := by (intro w hSw; (try dsimp only at hSw); go_simp; (try with_reducible rfl)))
    (hP : wpAnyH P md L.toArray Q S fuel (listed.setIfInBounds i true) (a.put oi.dst v) w = X := by (simp only [Act.put, List.setIfInBounds_toArray, List.set_cons_zero, List.set_cons_succ]; try rfl))
    (hs : Region.noSelect L.toArray = true := by kernel_rfl) 
    (hQ : ∀ c a w, Q (.panic c) (a.put oi.dst v) w → Q (.panic c) a w := by exact fun _ _ _ h => h) (hS : S w := by assumption) : wpAnyH P md L.toArray Q S (fuel + 1) listed a w := takeL hi hs (nxt_spec hn).1 (nxt_spec hn).2 hQ (.inl ⟨hw, y⟩) hS (hP ▸ h)
/-- a call that alone may come up: its contract keeps S -/
theorem tkc {f : FuncId} {args : Array Value} {R : World → Prop} {X : World → Prop} (hc : Calls P f args w fun e w' => e = .returned v ∧ R w') (hRS : ∀ w', R w' → S w') (h : ∀ w', Hid (R w') → S w' → X w') (hr : Region.ready md L.toArray listed = [i] := by with_unfolding_all rfl) (hi : L[i]? = some oi := by rfl)
    (hw : Region.wanted oi (yielded L.toArray a.tmps) = true := by rfl) (hx : (execOp a.eval oi).run P w = .ok (.enter f args) w := by (go_simp; (try with_reducible rfl)))
    (hP : ∀ w', wpAnyH P md L.toArray Q S fuel (listed.setIfInBounds i true) (a.put oi.dst v) w' = X w' := by (intro w'; simp only [Act.put, List.setIfInBounds_toArray, List.set_cons_zero, List.set_cons_succ]; try rfl)) : wpAnyH P md L.toArray Q S (fuel + 1) listed a w := by
  refine ⟨fun h0 => (by rw [hr] at h0; cases h0), fun j hj => ?_⟩
  rw [hr, List.mem_singleton] at hj
  subst hj
  have hi' : L.toArray[j]? = some oi := by simpa using hi
  unfold wpOp
  simp only [hi', hw, if_true]
  refine .inl ?_
  unfold Oper.wp
  rw [hx]
  refine Calls.mono hc fun e w' he => ?_
  obtain ⟨rfl, hR⟩ := he
  exact ⟨hRS _ hR, (hP w').symm ▸ h w' (Lib.hid hR) (hRS _ hR)⟩
/-- a call that alone may come up, whose result is known by R -/
theorem tkce {f : FuncId} {args : Array Value} {R : Value → World → Prop} {X : Value → World → Prop} (hc : Calls P f args w fun e w' => ∃ v, e = .returned v ∧ R v w') (hRS : ∀ v w', R v w' → S w') (h : ∀ v w', Hid (R v w') → S w' → X v w') (hr : Region.ready md L.toArray listed = [i] := by with_unfolding_all rfl) (hi : L[i]? = some oi := by rfl)
    (hw : Region.wanted oi (yielded L.toArray a.tmps) = true := by rfl) (hx : (execOp a.eval oi).run P w = .ok (.enter f args) w := by (go_simp; (try with_reducible rfl)))
    (hP : ∀ v w', wpAnyH P md L.toArray Q S fuel (listed.setIfInBounds i true) (a.put oi.dst v) w' = X v w' := by (intro v w'; simp only [Act.put, List.setIfInBounds_toArray, List.set_cons_zero, List.set_cons_succ]; try rfl)) : wpAnyH P md L.toArray Q S (fuel + 1) listed a w := by
  refine ⟨fun h0 => (by rw [hr] at h0; cases h0), fun j hj => ?_⟩
  rw [hr, List.mem_singleton] at hj
  subst hj
  have hi' : L.toArray[j]? = some oi := by simpa using hi
  unfold wpOp
  simp only [hi', hw, if_true]
  refine .inl ?_
  unfold Oper.wp
  rw [hx]
  refine Calls.mono hc fun e w' he => ?_
  obtain ⟨v, rfl, hR⟩ := he
  exact ⟨hRS _ _ hR, (hP v w').symm ▸ h v w' (Lib.hid hR) (hRS _ _ hR)⟩
/-- a store that alone may come up: its world is known by R alone from there on -/
theorem tkw {w1 : World} {R : World → Prop} {X : World → Prop} (hR : R w1) (hRS : ∀ w', R w' → S w') (h : ∀ w', Hid (R w') → S w' → X w') (hr : Region.ready md L.toArray listed = [i] := by with_unfolding_all rfl) (hi : L[i]? = some oi := by rfl)
    (hw : Region.wanted oi (yielded L.toArray a.tmps) = true := by rfl) (hx : (execOp a.eval oi).run P w = .ok .skip w1 := by (go_simp; (try with_reducible rfl)))
    (hP : ∀ w', wpAnyH P md L.toArray Q S fuel (listed.setIfInBounds i true) (a.put oi.dst undef) w' = X w' := by (intro w'; simp only [Act.put, List.setIfInBounds_toArray, List.set_cons_zero, List.set_cons_succ]; try rfl)) : wpAnyH P md L.toArray Q S (fuel + 1) listed a w := by
  refine ⟨fun h0 => (by rw [hr] at h0; cases h0), fun j hj => ?_⟩
  rw [hr, List.mem_singleton] at hj
  subst hj
  have hi' : L.toArray[j]? = some oi := by simpa using hi
  unfold wpOp
  simp only [hi', hw, if_true]
  refine .inl ?_
  unfold Oper.wp
  rw [hx]
  exact ⟨hRS _ hR, (hP _).symm ▸ h _ (Lib.hid hR) (hRS _ hR)⟩
end
/-- a call's contract, its result and what it leaves under a hidden name -/
theorem nx {P : Program} {f : FuncId} {args : Array Value} {w : World} {v : Value} {R : World → Prop} {Q : Ending → World → Prop} (hc : Calls P f args w fun e w' => e = .returned v ∧ R w') (h : ∀ w', Hid (R w') → Q (.returned v) w') : Calls P f args w Q := hc.mono fun _ w' he => he.1 ▸ h w' (Lib.hid he.2)
end Go.Proofs.YtljajnaclpbecaaGreatDoor

namespace Go.Proofs.YtljajnaclpbecaaGreatDoor
open Go.RowKit
set_option linter.unusedVariables false

/-- the signed value of a word -/
def sg (a : Int) : Int := if a < 2147483648 then a else a - 4294967296
/-- 0, 1, 2 for nought, less, more -/
def sgn (n : Int) : Int := if n = 0 then 0 else if n < 0 then 1 else 2
/-- the low word -/
def lo32 (n : Int) : Int := n % 4294967296
/-- does n overflow a signed word? -/
def ovf (n : Int) : Bool := decide (n < -2147483648 ∨ 2147483647 < n)
/-- the condition code of an exact result -/
def rcc (n : Int) : Int := if ovf n = true then 3 else sgn n
/-- the condition code of a logical result -/
def lcc (v : Int) (high : Bool) : Int := (if v = 0 then 0 else 1) + (if high = true then 2 else 0)
/-- the 64 bits of two words -/
def dbl (hi lo : Int) : Int := hi * 4294967296 + lo
/-- the signed value of 64 bits -/
def sg64 (x : Int) : Int := if x < 9223372036854775808 then x else x - 18446744073709551616
/-- division: does it succeed, quotient, remainder -/
def dok (n d : Int) : Bool := decide (d ≠ 0 ∧ -2147483648 ≤ n.tdiv d ∧ n.tdiv d ≤ 2147483647)
def dquo (n d : Int) : Int := if dok n d = true then lo32 (n.tdiv d) else 0
def drem (n d : Int) : Int := if dok n d = true then lo32 (n.tmod d) else 0
theorem sg_lo (a : Int) (h0 : 0 ≤ a) : -2147483648 ≤ sg a := by unfold sg; split <;> omega
theorem sg_hi (a : Int) (h1 : a ≤ 4294967295) : sg a ≤ 2147483647 := by unfold sg; split <;> omega
theorem wrap32_sg (a : Int) (h0 : 0 ≤ a) (h1 : a ≤ 4294967295) : wrap32 a = sg a := by unfold wrap32 sg; split <;> omega
theorem lo32_is (n : Int) : n % 4294967296 = lo32 n := rfl
theorem sgn_neg (n : Int) (h : n < 0) : sgn n = 1 := by unfold sgn; rw [if_neg (by omega), if_pos h]
theorem sgn_pos (n : Int) (h : 0 < n) : sgn n = 2 := by unfold sgn; rw [if_neg (by omega), if_neg (by omega)]
theorem ovf_iff (n : Int) : ovf n = true ↔ (n < -2147483648 ∨ 2147483647 < n) := by simp [ovf]
theorem fits_test (n : Int) (h0 : -9223372036854775808 ≤ n) (h1 : n ≤ 9223372036854775807) : (wrap64 (wrap32 n) != n) = ovf n := by
  rw [Bool.eq_iff_iff, ovf_iff, bne_iff_ne]; unfold wrap64 wrap32; omega
theorem rcc_over (n : Int) (h : ovf n = true) : rcc n = 3 := by simp [rcc, h]
theorem rcc_in (n : Int) (h : ovf n = false) : rcc n = sgn n := by simp [rcc, h]
end Go.Proofs.YtljajnaclpbecaaGreatDoor

namespace Go.Proofs.YtljajnaclpbecaaGreatDoor
open Go.RowKit
set_option linter.unusedVariables false

/-- The slice value '.slice A len _' holds the bytes zs in the world w (nil too, where zs is empty). -/
def Byt (w : World) (A : Option Addr) (len : Nat) (zs : List Int) : Prop :=
  zs.length = len ∧ (∀ n ∈ zs, 0 ≤ n ∧ n ≤ 255) ∧ (0 < len → ∃ b off, A = some ⟨b, off, none⟩ ∧ ∀ i, i < len → w.cell? ⟨b, off + i, none⟩ = some (.int .u8 (zs.getD i 0)))

theorem Byt.range {w : World} {A : Option Addr} {len : Nat} {zs : List Int} (h : Byt w A len zs) (i : Nat) : 0 ≤ zs.getD i 0 ∧ zs.getD i 0 ≤ 255 := by
  rw [List.getD_eq_getElem?_getD]
  rcases Nat.lt_or_ge i zs.length with hi | hi
  · rw [List.getElem?_eq_getElem hi]; exact h.2.1 _ (List.getElem_mem hi)
  · rw [List.getElem?_eq_none hi]; simp
theorem Byt.at_ {w : World} {A : Option Addr} {len : Nat} {zs : List Int} (h : Byt w A len zs) (h0 : 0 < len) : ∃ b off, A = some ⟨b, off, none⟩ ∧ ∀ i, i < len → w.cell? ⟨b, off + i, none⟩ = some (.int .u8 (zs.getD i 0)) := h.2.2 h0
theorem Byt.keep {w w' : World} {A : Option Addr} {len : Nat} {zs : List Int} (h : Byt w A len zs) (hb : Below w.heap.size w w') : Byt w' A len zs := by
  refine ⟨h.1, h.2.1, fun h0 => ?_⟩
  obtain ⟨b, off, e, hc⟩ := h.2.2 h0
  refine ⟨b, off, e, fun i hi => ?_⟩
  have h1 := hc i hi
  rw [← h1]
  refine hb.cell (p := ⟨b, off + i, none⟩) ?_
  rcases Nat.lt_or_ge b w.heap.size with h2 | h2
  · exact h2
  · unfold World.cell? at h1; simp only [Array.getElem?_eq_none h2] at h1; cases h1
theorem Byt.drewN {w : World} {A : Option Addr} {len : Nat} {zs : List Int} (h : Byt w A len zs) (n : Nat) : Byt (w.drewN n) A len zs := h
theorem Byt.pre {w : World} {A : Option Addr} {len : Nat} {zs : List Int} (h : Byt w A len zs) (k : Nat) (hk : k ≤ len) : Byt w A k (zs.take k) := by
  refine ⟨by rw [List.length_take, h.1]; omega, fun n hn => h.2.1 n (List.mem_of_mem_take hn), fun h0 => ?_⟩
  obtain ⟨b, off, e, hc⟩ := h.2.2 (by omega)
  refine ⟨b, off, e, fun i hi => ?_⟩
  rw [hc i (by omega)]
  simp [List.getD_eq_getElem?_getD, hi]

/-- does a field of n bytes from 'at_' on lie within len bytes? -/
def fitB (len : Nat) (at_ : Int) (n : Int) : Bool := decide (0 ≤ at_ ∧ at_ ≤ (len : Int) - n)
theorem fitB_yes {len : Nat} {at_ n : Int} (h : fitB len at_ n = true) : 0 ≤ at_ ∧ at_ ≤ (len : Int) - n := by simpa [fitB] using h
/-- 16 bits with their sign -/
def sx16 (h : Int) : Int := if h < 32768 then h else h - 65536
/-- a halfword, extended to a word -/
def hfv (x y : Int) : Int := lo32 (sx16 (x * 256 + y))
/-- a fullword -/
def flv (x y z u : Int) : Int := x * 16777216 + y * 65536 + z * 256 + u
theorem sx16_lo (h : Int) (h0 : 0 ≤ h) : -32768 ≤ sx16 h := by unfold sx16; split <;> omega
theorem sx16_hi (h : Int) (h1 : h ≤ 65535) : sx16 h ≤ 32767 := by unfold sx16; split <;> omega
theorem wrap_i16 (n : Int) : IntKind.i16.wrap n = (n + 32768) % 65536 - 32768 := by
  simp only [IntKind.wrap, IntKind.bits, IntKind.signed]; simp; split <;> omega
theorem wrap_i16_sx (h : Int) (h0 : 0 ≤ h) (h1 : h ≤ 65535) : IntKind.i16.wrap h = sx16 h := by rw [wrap_i16]; unfold sx16; split <;> omega
theorem or_half (x y : Int) (hx : 0 ≤ x) (hx' : x ≤ 255) (hy : 0 ≤ y) (hy' : y ≤ 255) : bits .or .i16 (IntKind.i16.wrap (x * 256)) y = sx16 (x * 256 + y) := by
  show IntKind.i16.wrap ((BitVec.ofInt 16 (IntKind.i16.wrap (x * 256)) ||| BitVec.ofInt 16 y).toNat : Int) = _
  have e1 : (BitVec.ofInt 16 (IntKind.i16.wrap (x * 256))).toNat = (x * 256).toNat := by rw [BitVec.toNat_ofInt, wrap_i16]; omega
  have e2 : (BitVec.ofInt 16 y).toNat = y.toNat := by rw [BitVec.toNat_ofInt]; omega
  rw [BitVec.toNat_or, e1, e2, nat_join 8 _ _ (by omega) (by omega), ← wrap_i16_sx _ (by omega) (by omega)]
  congr 1; omega
theorem or_32 (i : Nat) (x y : Int) (p : Int) (hp : p = 2 ^ i) (hx : 0 ≤ x) (hx' : x ≤ 4294967295) (hm : x % p = 0) (hy : 0 ≤ y) (hy' : y < p) (hyy : y ≤ 4294967295) : bits .or .u32 x y = x + y := by
  subst hp
  rw [u32_or _ _ (by omega) (by omega) (by omega) (by omega), nat_join i _ _ ?_ ?_]
  · omega
  · have : ((x.toNat % 2 ^ i : Nat) : Int) = 0 := by rw [Int.natCast_emod]; simpa [Int.toNat_of_nonneg hx] using hm
    omega
  · have : ((y.toNat : Nat) : Int) < ((2 ^ i : Nat) : Int) := by simpa [Int.toNat_of_nonneg hy] using hy'
    omega
end Go.Proofs.YtljajnaclpbecaaGreatDoor

namespace Go.Proofs.YtljajnaclpbecaaGreatDoor
open Go.RowKit
set_option linter.unusedVariables false

theorem info_u8 : (Tryz.prog.info? 5).map (fun i => (i.zero, i.size, i.bytes)) = some (some (.int .u8 0), 1, 1) := by kernel_rfl

theorem cell_blk {w : World} {g : Nat} {C : Array Value} {t : TypeId} {fr : Nat × Nat} (h : w.heap[g]? = some (.cells C t fr)) (i : Nat) : w.cell? ⟨g, i, none⟩ = C[i]? := by simp [World.cell?, h]

/-- The slice value v of n bytes zs is the call's own: nil, or the head of a block from 'base' on. -/
def Own (w : World) (base : Nat) (v : Value) (n : Nat) (zs : List Int) : Prop :=
  w.ownsRow base 5 1 v n (zs.map (Value.int .u8)) ∧ ∀ z ∈ zs, 0 ≤ z ∧ z ≤ 255

section
variable {w w' : World} {base n : Nat} {v : Value} {zs : List Int}
theorem Own.len (h : Own w base v n zs) : zs.length = n := by have := h.1.1; simpa using this
theorem Own.nil (w : World) (base : Nat) : Own w base (.slice none 0 0) 0 [] := ⟨World.ownsRow_nil w base _ _, by simp⟩
theorem Own.alloc (h : Own w base v n zs) (o : Obj) : Own (w.alloc o) base v n zs := ⟨h.1.alloc o, h.2⟩
theorem Own.drewN (h : Own w base v n zs) (k : Nat) : Own (w.drewN k) base v n zs := h
theorem Own.below {B : Nat} (h : Own w base v n zs) (hb : Below B w w') (hv : ∀ g, v.ownBlock = some g → g < B) : Own w' base v n zs := by
  refine ⟨⟨h.1.1, ?_⟩, h.2⟩
  rcases h.1.2 with h0 | ⟨g, cap, cur, rfl, hg, hh, r⟩
  · exact .inl h0
  · exact .inr ⟨g, cap, cur, rfl, hg, (hb.block g (hv g rfl)).trans hh, r⟩
theorem Own.form (h : Own w base v n zs) : (v = .slice none 0 0 ∧ n = 0) ∨ ∃ g cap, v = .slice (some ⟨g, 0, none⟩) n cap ∧ base ≤ g ∧ g < w.heap.size ∧ n ≤ cap ∧ cap ≤ maxLen := by
  rcases h.1.2 with h0 | ⟨g, cap, cur, rfl, hg, hh, h1, h2, _⟩
  · exact .inl h0
  · exact .inr ⟨g, cap, rfl, hg, (Array.getElem?_eq_some_iff.1 hh).1, h1, h2⟩
theorem Own.pos (h : Own w base v n zs) (h0 : 0 < n) : ∃ g cap, v = .slice (some ⟨g, 0, none⟩) n cap ∧ base ≤ g ∧ g < w.heap.size ∧ n ≤ cap ∧ cap ≤ maxLen := by
  rcases h.form with ⟨_, h1⟩ | h1
  · omega
  · exact h1
theorem Own.heap {g cap : Nat} (h : Own w base (.slice (some ⟨g, 0, none⟩) n cap) n zs) : ∃ cur : List Value, w.heap[g]? = some (.cells cur.toArray 5 (0, 0)) ∧ cur.length = cap ∧ cur.take n = zs.map (Value.int .u8) ∧ base ≤ g ∧ n ≤ cap ∧ cap ≤ maxLen := by
  rcases h.1.2 with ⟨h0, _⟩ | ⟨g', cap', cur, hv, hg, hh, h1, h2, h3, h4⟩
  · cases h0
  · injection hv with hA _ hc
    injection hA with hA; injection hA with hA
    subst hA hc
    exact ⟨cur.toList, by simpa using hh, by simpa using h3, by simpa using h4, hg, h1, h2⟩
theorem Own.of_heap {g cap : Nat} {cur : List Value} (h : w.heap[g]? = some (.cells cur.toArray 5 (0, 0))) (hl : cur.length = cap) (ht : cur.take n = zs.map (Value.int .u8)) (hz : zs.length = n) (hg : base ≤ g) (hn : n ≤ cap) (hm : cap ≤ maxLen) (hr : ∀ z ∈ zs, 0 ≤ z ∧ z ≤ 255) :
    Own w base (.slice (some ⟨g, 0, none⟩) n cap) n zs :=
  ⟨⟨by simp [hz], .inr ⟨g, cap, cur.toArray, rfl, hg, h, hn, hm, by simp [hl], by simpa using ht⟩⟩, hr⟩
/-- it reads as its bytes -/
theorem Own.byt {A : Option Addr} {cap : Nat} (h : Own w base (.slice A n cap) n zs) : Byt w A n zs := by
  refine ⟨h.len, h.2, fun h0 => ?_⟩
  rcases h.1.2 with ⟨_, hn⟩ | ⟨g, cap', cur, hv, _, hh, _, _, _, ht⟩
  · omega
  · injection hv with hA _ hc
    refine ⟨g, 0, hA, fun i hi => ?_⟩
    have hz : i < zs.length := by rw [h.len]; exact hi
    have e : (cur.toList.take (n * 1))[i]? = some (.int .u8 zs[i]) := by rw [ht]; simp [hz]
    rw [List.getElem?_take, if_pos (by omega)] at e
    have e2 : cur[i]? = some (.int .u8 zs[i]) := by simpa using e
    simp [World.cell?, hh, e2, List.getD_eq_getElem?_getD, hz]
theorem Own.block (h : Own w base v n zs) : ∀ g, v.ownBlock = some g → base ≤ g ∧ g < w.heap.size := h.1.lt
end

/-- a new block of bytes, written out -/
theorem byt_new (w : World) (zs : List Int) (hr : ∀ z ∈ zs, 0 ≤ z ∧ z ≤ 255) (C : Array Value) (hC : C.toList = zs.map (Value.int .u8)) (n : Nat) (hn : zs.length = n) (e : TypeId) : Byt (w.alloc (.cells C e)) (some ⟨w.heap.size, 0, none⟩) n zs := by
  refine ⟨hn, hr, fun _ => ⟨w.heap.size, 0, rfl, fun i hi => ?_⟩⟩
  have hz : i < zs.length := by omega
  have e1 : C[i]? = some (.int .u8 zs[i]) := by rw [← Array.getElem?_toList, hC]; simp [hz]
  have e2 : (w.alloc (.cells C e)).heap[w.heap.size]? = some (.cells C e (0, 0)) := heap_alloc_new w _
  rw [cell_blk e2, Nat.zero_add, e1]; simp [List.getD_eq_getElem?_getD, hz]

theorem splice_map (f : Int → Value) (L : List Int) (k : Nat) (ys : List Int) : splice (L.map f) k (ys.map f) = (splice L k ys).map f := by simp [splice]
theorem splice_range (L : List Int) (k : Nat) (ys : List Int) (h1 : ∀ z ∈ L, 0 ≤ z ∧ z ≤ 255) (h2 : ∀ z ∈ ys, 0 ≤ z ∧ z ≤ 255) : ∀ z ∈ splice L k ys, 0 ≤ z ∧ z ≤ 255 := by
  intro z hz
  unfold splice at hz
  rcases List.mem_append.mp hz with hz | hz
  · exact h1 z (List.mem_of_mem_take hz)
  · rcases List.mem_append.mp hz with hz | hz
    · exact h2 z hz
    · exact h1 z (List.mem_of_mem_drop hz)
theorem take_splice {α : Type} (L : List α) (k n : Nat) (ys : List α) (h : k + ys.length ≤ n) (hn : n ≤ L.length) : (splice L k ys).take n = splice (L.take n) k ys := by
  have e1 : L.drop (k + ys.length) = (L.take n).drop (k + ys.length) ++ L.drop n := by
    conv => lhs; rw [← List.take_append_drop n L]
    rw [List.drop_append_of_le_length (by rw [List.length_take]; omega)]
  have e2 : L.take k = (L.take n).take k := by rw [List.take_take, Nat.min_eq_left (by omega)]
  have e3 : splice L k ys = splice (L.take n) k ys ++ L.drop n := by
    unfold splice; rw [e1, e2]; simp only [List.append_assoc]
  rw [e3]
  exact List.take_left' (by rw [length_splice _ _ _ (by rw [List.length_take]; omega), List.length_take]; omega)

/-- a slice's bytes as cells, at the address's own spelling -/
theorem Byt.cells {w : World} {b off m : Nat} {ys : List Int} (h : Byt w (some ⟨b, off, none⟩) m ys) (h0 : 0 < m) : ∀ j u, (ys.map (Value.int .u8))[j]? = some u → w.cell? ((⟨b, off, none⟩ : Addr).add j) = some u := by
  intro j u hu
  have hj : j < ys.length := by
    rcases Nat.lt_or_ge j ys.length with h1 | h1
    · exact h1
    · rw [List.getElem?_eq_none (by simpa using h1)] at hu; cases hu
  obtain ⟨b', off', e, hcell⟩ := h.2.2 h0
  injection e with e; injection e with e1 e2; subst e1 e2
  have h2 := hcell j (by rw [← h.1]; exact hj)
  have hadd : (⟨b, off, none⟩ : Addr).add j = ⟨b, off + j, none⟩ := by unfold Addr.add; split <;> simp_all
  rw [hadd, h2]
  simp [hj] at hu
  simp [List.getD_eq_getElem?_getD, hj, hu]

end Go.Proofs.YtljajnaclpbecaaGreatDoor

namespace Go.Proofs.YtljajnaclpbecaaGreatDoor
open Go.RowKit
set_option linter.unusedVariables false
theorem bcell_keep {w w' : World} {b o : Nat} {v : Value} (h : w.cell? ⟨b, o, none⟩ = some v) (hb : Below w.heap.size w w') : w'.cell? ⟨b, o, none⟩ = some v := by
  have hlt : b < w.heap.size := by
    rcases Nat.lt_or_ge b w.heap.size with h2 | h2
    · exact h2
    · unfold World.cell? at h; simp only [Array.getElem?_eq_none h2] at h; cases h
  exact (hb.cell (p := ⟨b, o, none⟩) hlt).trans h
/-- a slice of bytes, behind a name that no tactic takes apart -/
structure BytI (w : World) (A : Option Addr) (n : Nat) (zs : List Int) : Prop where
  out : Byt w A n zs
theorem BytI.keep {w w' : World} {A : Option Addr} {n : Nat} {zs : List Int} (h : BytI w A n zs) (hb : Below w.heap.size w w') : BytI w' A n zs := ⟨h.out.keep hb⟩
theorem below_of_drew {w w' : World} {n : Nat} (h : w' = w.drewN n) : Below w.heap.size w w' := by subst h; exact ⟨(Below.refl w.heap.size w).os, (Below.refl w.heap.size w).tape, (Below.refl w.heap.size w).output, (Below.refl w.heap.size w).size, (Below.refl w.heap.size w).block⟩
theorem below_draw (w : World) (n : Nat) : Below w.heap.size w (w.drewN n) := ⟨(Below.refl w.heap.size w).os, (Below.refl w.heap.size w).tape, (Below.refl w.heap.size w).output, (Below.refl w.heap.size w).size, (Below.refl w.heap.size w).block⟩
end Go.Proofs.YtljajnaclpbecaaGreatDoor

namespace Go.Proofs.YtljajnaclpbecaaGreatDoor
set_option linter.unusedVariables false

/-- the codes, in ascending order -/
def opL : List Int := [4, 5, 6, 7, 8, 9, 10, 16, 17, 18, 19, 20, 21, 22, 23, 24, 25, 26, 27, 28, 29, 30, 31, 64, 65, 66, 67, 68, 69, 70, 71, 72, 73, 74, 75, 76, 78, 79, 80, 84, 85, 86, 87, 88, 89, 90, 91, 92, 93, 94, 95, 128, 130, 134, 135, 136, 137, 138, 139, 140, 141, 142, 143, 144, 145, 146, 147, 148, 149, 150, 151, 152, 156, 157, 158, 159, 209, 210, 211, 212, 213, 214, 215, 220, 221, 222, 223, 240, 241, 242, 243, 248, 249, 250, 251, 252, 253]
/-- their formats -/
def fmL : List Int := [8, 1, 1, 1, 1, 1, 7, 1, 1, 1, 1, 1, 1, 1, 1, 1, 1, 1, 1, 1, 1, 1, 1, 2, 2, 2, 2, 2, 2, 2, 2, 2, 2, 2, 2, 2, 2, 2, 2, 2, 2, 2, 2, 2, 2, 2, 2, 2, 2, 2, 2, 9, 9, 3, 3, 3, 3, 3, 3, 3, 3, 3, 3, 3, 4, 4, 9, 4, 4, 4, 4, 3, 9, 9, 9, 9, 5, 5, 5, 5, 5, 5, 5, 5, 5, 5, 5, 6, 6, 6, 6, 6, 6, 6, 6, 6, 6]
/-- their names, letter by letter -/
def nmL : List (List Nat) := [[83, 80, 77], [66, 65, 76, 82], [66, 67, 84, 82], [66, 67, 82], [83, 83, 75], [73, 83, 75], [83, 86, 67], [76, 80, 82], [76, 78, 82], [76, 84, 82], [76, 67, 82], [78, 82], [67, 76, 82], [79, 82], [88, 82], [76, 82], [67, 82], [65, 82], [83, 82], [77, 82], [68, 82], [65, 76, 82], [83, 76, 82], [83, 84, 72], [76, 65], [83, 84, 67], [73, 67], [69, 88], [66, 65, 76], [66, 67, 84], [66, 67], [76, 72], [67, 72], [65, 72], [83, 72], [77, 72], [67, 86, 68], [67, 86, 66], [83, 84], [78], [67, 76], [79], [88], [76], [67], [65], [83], [77], [68], [65, 76], [83, 76], [83, 83, 77], [76, 80, 83, 87], [66, 88, 72], [66, 88, 76, 69], [83, 82, 76], [83, 76, 76], [83, 82, 65], [83, 76, 65], [83, 82, 68, 76], [83, 76, 68, 76], [83, 82, 68, 65], [83, 76, 68, 65], [83, 84, 77], [84, 77], [77, 86, 73], [84, 83], [78, 73], [67, 76, 73], [79, 73], [88, 73], [76, 77], [83, 73, 79], [84, 73, 79], [72, 73, 79], [84, 67, 72], [77, 86, 78], [77, 86, 67], [77, 86, 90], [78, 67], [67, 76, 67], [79, 67], [88, 67], [84, 82], [84, 82, 84], [69, 68], [69, 68, 77, 75], [83, 82, 80], [77, 86, 79], [80, 65, 67, 75], [85, 78, 80, 75], [90, 65, 80], [67, 80], [65, 80], [83, 80], [77, 80], [68, 80]]
def opK (k : Nat) : Int := opL.getD k 0
def fmK (k : Nat) : Int := fmL.getD k 0
def nmK (k : Nat) : List Nat := nmL.getD k []
/-- a hexadecimal digit -/
def hexd (n : Nat) : Nat := if n < 10 then 48 + n else 55 + n
/-- a row of the table: code, name, format -/
def rowK (k : Nat) : List Nat := [hexd ((opK k).toNat / 16), hexd ((opK k).toNat % 16)] ++ (nmK k ++ List.replicate (5 - (nmK k).length) 32) ++ [96 + (fmK k).toNat]
def tbL : List Nat := (List.range 97).flatMap rowK
def tbA : Array UInt8 := (tbL.map Nat.toUInt8).toArray
def tb (i : Nat) : Nat := tbL.getD i 0
theorem tb_get (d : Array UInt8) (i : Nat) (h : i < (ByteArray.mk d).size) (hd : d = tbA) : ((ByteArray.mk d)[i]'h).toNat = tb i := by
  subst hd
  have h1 : i < tbL.length := by
    have : (ByteArray.mk tbA).size = tbL.length := by show tbA.size = _; simp [tbA]
    omega
  have hs : ∀ z ∈ tbL, z < 256 := by decide +kernel
  have h2 : ((ByteArray.mk tbA)[i]'h) = Nat.toUInt8 tbL[i] := by
    show tbA[i]'_ = _
    simp [tbA]
  rw [h2]
  unfold tb
  rw [List.getD_eq_getElem?_getD, List.getElem?_eq_getElem h1]
  show (Nat.toUInt8 tbL[i]).toNat = tbL[i]
  have := hs _ (List.getElem_mem h1)
  simp [Nat.toUInt8]
  omega
def dig (c : Int) : Int := if 65 ≤ c then c - 55 else c - 48
theorem tb_op : ∀ k, k < 97 → 16 * dig (tb (8 * k)) + dig (tb (8 * k + 1)) = opK k := by decide +kernel
theorem tb_hex : ∀ k, k < 97 → 48 ≤ tb (8 * k) ∧ tb (8 * k) ≤ 255 ∧ 48 ≤ tb (8 * k + 1) ∧ tb (8 * k + 1) ≤ 255 := by decide +kernel
theorem tb_fm : ∀ k, k < 97 → 97 ≤ tb (8 * k + 7) ∧ tb (8 * k + 7) ≤ 105 ∧ (tb (8 * k + 7) : Int) - 97 + 1 = fmK k := by decide +kernel
theorem op_up : ∀ k, k < 96 → opK k < opK (k + 1) := by decide +kernel
theorem op_range : ∀ k, k < 97 → 4 ≤ opK k ∧ opK k ≤ 253 := by decide +kernel
theorem op_lt {j k : Nat} (hj : j < k) (hk : k < 97) : opK j < opK k := by
  induction k with
  | zero => omega
  | succ k ih =>
    have h1 := op_up k (by omega)
    rcases Nat.lt_or_ge j k with h | h
    · have := ih h (by omega); omega
    · rw [show j = k by omega]; exact h1
/-- the place of a code in the list (97: it isn't there) -/
def ix (op : Int) : Nat := opL.findIdx (· == op)
theorem ix_le (op : Int) : ix op ≤ 97 := by
  have : ix op ≤ opL.length := List.findIdx_le_length
  have h2 : opL.length = 97 := by decide +kernel
  omega
theorem ix_of {op : Int} {k : Nat} (hk : k < 97) (h : opK k = op) : ix op = k := by
  have hl : opL.length = 97 := by decide +kernel
  refine (List.findIdx_eq (by omega)).2 ⟨?_, fun j hj => ?_⟩
  · have : opK k = opL[k]'(by omega) := by unfold opK; rw [List.getD_eq_getElem?_getD, List.getElem?_eq_getElem (by omega)]; rfl
    rw [← this, h]; simp
  · have e : opK j = opL[j]'(by omega) := by unfold opK; rw [List.getD_eq_getElem?_getD, List.getElem?_eq_getElem (by omega)]; rfl
    have := op_lt hj hk
    rw [← e]; simp; omega
theorem ix_op {op : Int} (h : ix op < 97) : opK (ix op) = op := by
  have hl : opL.length = 97 := by decide +kernel
  have h1 : ix op < opL.length := by omega
  have h2 := List.findIdx_getElem (p := fun x => x == op) (xs := opL) (w := h1)
  have e : opK (ix op) = opL[ix op]'h1 := by unfold opK; rw [List.getD_eq_getElem?_getD, List.getElem?_eq_getElem h1]; rfl
  rw [e]
  exact eq_of_beq h2
theorem ix_none {op : Int} (h : ∀ k, k < 97 → opK k ≠ op) : ix op = 97 := by
  have := ix_le op
  rcases Nat.lt_or_ge (ix op) 97 with h1 | h1
  · exact absurd (ix_op h1) (h _ h1)
  · omega
theorem dig_range (c : Int) (h0 : 48 ≤ c) (h1 : c ≤ 255) : 0 ≤ dig c ∧ dig c ≤ 255 := by unfold dig; split <;> omega
theorem wrap_hex {x y : Int} (hx : 0 ≤ x ∧ x ≤ 255) (hy : 0 ≤ y ∧ y ≤ 255) : IntKind.i64.wrap (IntKind.i64.wrap (16 * x) + y) = 16 * x + y := by
  simp only [IntKind.wrap, IntKind.bits, IntKind.signed]; simp; omega
/-- what row answers -/
def rowAt (op : Int) : Int := if ix op < 97 then ((8 * ix op : Nat) : Int) else -1
/-- what Form answers -/
def isOp (op : Int) : Bool := decide (ix op < 97)
def fmOf (op : Int) : Int := if ix op < 97 then fmK (ix op) else 0
/-- what Length answers -/
def lenOf (op : Int) : Int := if 0 ≤ op ∧ op ≤ 255 then (if op < 64 then 2 else if op < 192 then 4 else 6) else 0
/-- a half byte -/
def nib (zs : List Int) (at_ : Nat) : Int := if at_ % 2 = 0 then zs.getD (at_ / 2) 0 / 16 else zs.getD (at_ / 2) 0 % 16
def privB (op : Int) : Bool := decide (op = 8 ∨ op = 9 ∨ op = 128 ∨ op = 130 ∨ (156 ≤ op ∧ op ≤ 159))
end Go.Proofs.YtljajnaclpbecaaGreatDoor

namespace Go.Proofs.YtljajnaclpbecaaGreatDoor
open Go.RowKit
set_option linter.unusedVariables false
set_option linter.unusedSimpArgs false
/-- a field's variable: a pointer to the field's cell in block b, its bits, its place -/
def Fd (w : World) (base : Nat) (v : Value) (b c : Nat) (n at_ : Int) : Prop := ∃ x, v = .pointer (some ⟨x, 0, none⟩) ∧ base ≤ x ∧ w.cell? ⟨x, 0, none⟩ = some (.pointer (some ⟨b, c, none⟩)) ∧ w.cell? ⟨x, 1, none⟩ = some (.int .i64 n) ∧ w.cell? ⟨x, 2, none⟩ = some (.int .i64 at_)
theorem Fd.keep {w w' : World} {base : Nat} {v : Value} {b c : Nat} {n at_ : Int} (h : Fd w base v b c n at_) (hb : Below w.heap.size w w') : Fd w' base v b c n at_ := by
  obtain ⟨x, h0, h1, h2, h3, h4⟩ := h
  exact ⟨x, h0, h1, bcell_keep h2 hb, bcell_keep h3 hb, bcell_keep h4 hb⟩
theorem Fd.le {w : World} {base base' : Nat} {v : Value} {b c : Nat} {n at_ : Int} (h : Fd w base v b c n at_) (hb : base' ≤ base) : Fd w base' v b c n at_ := by
  obtain ⟨x, h0, h1, h2⟩ := h
  exact ⟨x, h0, Nat.le_trans hb h1, h2⟩
/-- the fields of a format: which cell, how many bits, at which half byte -/
def lay (form : Int) : List (Nat × Int × Int) := if form = 1 then [(2, 4, 2), (3, 4, 3)] else if form = 8 then [(2, 4, 2)] else if form = 7 then [(11, 8, 2)] else if form = 2 then [(2, 4, 2), (4, 4, 3), (7, 4, 4), (8, 12, 5)] else if form = 3 then [(2, 4, 2), (3, 4, 3), (7, 4, 4), (8, 12, 5)] else if form = 4 then [(11, 8, 2), (5, 4, 4), (6, 12, 5)] else if form = 9 then [(5, 4, 4), (6, 12, 5)] else if form = 5 then [(9, 8, 2), (5, 4, 4), (6, 12, 5), (7, 4, 8), (8, 12, 9)] else [(9, 4, 2), (10, 4, 3), (5, 4, 4), (6, 12, 5), (7, 4, 8), (8, 12, 9)]
def fvals (b : Nat) (l : List (Nat × Int × Int)) : List Value := l.flatMap fun f => [.pointer (some ⟨b, f.1, none⟩), .int .i64 f.2.1, .int .i64 f.2.2]
def layPost (b : Nat) (form : Int) (w : World) (e : Ending) (w' : World) : Prop := ∃ g, e = .returned (.slice (some ⟨g, 0, none⟩) (lay form).length (lay form).length) ∧ w.heap.size ≤ g ∧ w'.heap[g]? = some (.cells (fvals b (lay form)).toArray 106 (0, 0)) ∧ Below w.heap.size w w'
theorem below_d {B : Nat} {a w : World} (h : Below B a w) : Below B a w.drew := ⟨h.os, h.tape, h.output, h.size, h.block⟩
section
variable {w : World} {b c : Nat} {n at_ : Int} {T : TypeId} {o1 o2 o3 : Obj}
theorem al_keep (w : World) (o : Obj) : Below w.heap.size w (w.alloc o) := (Below.refl _ _).alloc (Nat.le_refl _) o
theorem Fd.new (w : World) (b c : Nat) (n at_ : Int) (T : TypeId) : Fd (w.alloc (.cells #[.pointer (some ⟨b, c, none⟩), .int .i64 n, .int .i64 at_] T)) w.heap.size (.pointer (some ⟨w.heap.size, 0, none⟩)) b c n at_ :=
  ⟨_, rfl, Nat.le_refl _, by simp, by simp, by simp⟩
theorem fd_drew {w : World} {base : Nat} {v : Value} (h : Fd w base v b c n at_) : Fd w.drew base v b c n at_ := h.keep (below_d (Below.refl _ _))
theorem fd3_a : Fd (((w.alloc (.cells #[.pointer (some ⟨b, c, none⟩), .int .i64 n, .int .i64 at_] T)).alloc o2).alloc o3).drew w.heap.size (.pointer (some ⟨w.heap.size, 0, none⟩)) b c n at_ := fd_drew (((Fd.new w b c n at_ T).keep (al_keep _ _)).keep (al_keep _ _))
theorem fd3_b : Fd (((w.alloc o1).alloc (.cells #[.pointer (some ⟨b, c, none⟩), .int .i64 n, .int .i64 at_] T)).alloc o3).drew w.heap.size (.pointer (some ⟨w.heap.size + 1, 0, none⟩)) b c n at_ := by
  have h := Fd.new (w.alloc o1) b c n at_ T
  rw [World.size_alloc] at h
  exact fd_drew ((h.le (Nat.le_succ _)).keep (al_keep _ _))
theorem fd3_c : Fd (((w.alloc o1).alloc o2).alloc (.cells #[.pointer (some ⟨b, c, none⟩), .int .i64 n, .int .i64 at_] T)).drew w.heap.size (.pointer (some ⟨w.heap.size + 1 + 1, 0, none⟩)) b c n at_ := by
  have h := Fd.new ((w.alloc o1).alloc o2) b c n at_ T
  rw [World.size_alloc, World.size_alloc] at h
  exact fd_drew (h.le (by omega))
theorem fd2_a : Fd ((w.alloc (.cells #[.pointer (some ⟨b, c, none⟩), .int .i64 n, .int .i64 at_] T)).alloc o2).drew w.heap.size (.pointer (some ⟨w.heap.size, 0, none⟩)) b c n at_ := fd_drew ((Fd.new w b c n at_ T).keep (al_keep _ _))
theorem fd2_b : Fd ((w.alloc o1).alloc (.cells #[.pointer (some ⟨b, c, none⟩), .int .i64 n, .int .i64 at_] T)).drew w.heap.size (.pointer (some ⟨w.heap.size + 1, 0, none⟩)) b c n at_ := by
  have h := Fd.new (w.alloc o1) b c n at_ T
  rw [World.size_alloc] at h
  exact fd_drew (h.le (Nat.le_succ _))
end
set_option maxRecDepth 100000 in
set_option maxHeartbeats 4000000 in
theorem layout_c (b : Nat) (form : Int) (w : World) (h : w.cell? ⟨b, 1, none⟩ = some (.int .i64 form)) : Calls Tryz.prog 56 #[.pointer (some ⟨b, 0, none⟩)] w (layPost b form w) := by
  have H := Lib.hid h
  clear h
  obtain ⟨w0, hw0⟩ : ∃ w0, w0 = w := ⟨_, rfl⟩
  have B0 := Lib.hid (show Below w.heap.size w w0 from hw0 ▸ Below.refl _ _)
  rw [← hw0] at H
  have HW := Lib.hid hw0
  suffices hmain : Calls Tryz.prog 56 #[.pointer (some ⟨b, 0, none⟩)] w0 (layPost b form w) by rw [HW.out] at hmain; exact hmain
  clear hw0
  go_enter Tryz.func56, Tryz.ntmps56
  go_upto_region 1 with fail
  go_cut [3, 4, 5] from 13 to 25 (fun s3 s4 s5 wx => Fd wx w.heap.size s3 b 2 4 2 ∧ Fd wx w.heap.size s4 b 3 4 3 ∧ Fd wx w.heap.size s5 b 4 4 3 ∧ Below w0.heap.size w0 wx)
  case first =>
    go_region
    all_goals (go_wp2_with fail; go_meet; exact ⟨(by first | exact Fd.le fd3_a B0.out.size | exact Fd.le fd3_b B0.out.size | exact Fd.le fd3_c B0.out.size), (by first | exact Fd.le fd3_a B0.out.size | exact Fd.le fd3_b B0.out.size | exact Fd.le fd3_c B0.out.size), (by first | exact Fd.le fd3_a B0.out.size | exact Fd.le fd3_b B0.out.size | exact Fd.le fd3_c B0.out.size), below_d ((((Below.refl _ _).alloc (Nat.le_refl _) _).alloc (by simp) _).alloc (by simp; omega) _)⟩)
  case rest =>
  obtain ⟨f3, f4, f5, hb⟩ := hcut
  obtain ⟨w1, hnew⟩ : ∃ x, x = wc := ⟨_, rfl⟩
  rw [← hnew] at hb f3 f4 f5
  rw [← hnew]
  clear hnew
  have G3 := Lib.hid f3
  have G4 := Lib.hid f4
  have G5 := Lib.hid f5
  have B1 := Lib.hid (B0.out.trans (hb.mono B0.out.size))
  replace H := Lib.hid (bcell_keep H.out hb)
  clear hb f3 f4 f5
  go_upto_region 2 with fail
  go_cut [6, 7, 8] from 25 to 37 (fun s6 s7 s8 wx => Fd wx w.heap.size s6 b 11 8 2 ∧ Fd wx w.heap.size s7 b 9 4 2 ∧ Fd wx w.heap.size s8 b 10 4 3 ∧ Below w1.heap.size w1 wx)
  case first =>
    go_region
    all_goals (go_wp2_with fail; go_meet; exact ⟨(by first | exact Fd.le fd3_a B1.out.size | exact Fd.le fd3_b B1.out.size | exact Fd.le fd3_c B1.out.size), (by first | exact Fd.le fd3_a B1.out.size | exact Fd.le fd3_b B1.out.size | exact Fd.le fd3_c B1.out.size), (by first | exact Fd.le fd3_a B1.out.size | exact Fd.le fd3_b B1.out.size | exact Fd.le fd3_c B1.out.size), below_d ((((Below.refl _ _).alloc (Nat.le_refl _) _).alloc (by simp) _).alloc (by simp; omega) _)⟩)
  case rest =>
  obtain ⟨f6, f7, f8, hb⟩ := hcut
  obtain ⟨w2, hnew⟩ : ∃ x, x = wc := ⟨_, rfl⟩
  rw [← hnew] at hb f6 f7 f8
  rw [← hnew]
  clear hnew
  have G6 := Lib.hid f6
  have G7 := Lib.hid f7
  have G8 := Lib.hid f8
  replace G3 := Lib.hid (G3.out.keep hb)
  replace G4 := Lib.hid (G4.out.keep hb)
  replace G5 := Lib.hid (G5.out.keep hb)
  have B2 := Lib.hid (B1.out.trans (hb.mono B1.out.size))
  replace H := Lib.hid (bcell_keep H.out hb)
  clear hb f6 f7 f8
  go_upto_region 3 with fail
  go_cut [9, 10] from 37 to 45 (fun s9 s10 wx => Fd wx w.heap.size s9 b 5 4 4 ∧ Fd wx w.heap.size s10 b 6 12 5 ∧ Below w2.heap.size w2 wx)
  case first =>
    go_region
    all_goals (go_wp2_with fail; go_meet; exact ⟨(by first | exact Fd.le fd2_a B2.out.size | exact Fd.le fd2_b B2.out.size), (by first | exact Fd.le fd2_a B2.out.size | exact Fd.le fd2_b B2.out.size), below_d (((Below.refl _ _).alloc (Nat.le_refl _) _).alloc (by simp) _)⟩)
  case rest =>
  obtain ⟨f9, f10, hb⟩ := hcut
  obtain ⟨w3, hnew⟩ : ∃ x, x = wc := ⟨_, rfl⟩
  rw [← hnew] at hb f9 f10
  rw [← hnew]
  clear hnew
  have G9 := Lib.hid f9
  have G10 := Lib.hid f10
  replace G3 := Lib.hid (G3.out.keep hb)
  replace G4 := Lib.hid (G4.out.keep hb)
  replace G5 := Lib.hid (G5.out.keep hb)
  replace G6 := Lib.hid (G6.out.keep hb)
  replace G7 := Lib.hid (G7.out.keep hb)
  replace G8 := Lib.hid (G8.out.keep hb)
  have B3 := Lib.hid (B2.out.trans (hb.mono B2.out.size))
  replace H := Lib.hid (bcell_keep H.out hb)
  clear hb f9 f10
  go_upto_region 4 with fail
  go_cut [11, 12] from 45 to 53 (fun s11 s12 wx => Fd wx w.heap.size s11 b 7 4 8 ∧ Fd wx w.heap.size s12 b 8 12 9 ∧ Below w3.heap.size w3 wx)
  case first =>
    go_region
    all_goals (go_wp2_with fail; go_meet; exact ⟨(by first | exact Fd.le fd2_a B3.out.size | exact Fd.le fd2_b B3.out.size), (by first | exact Fd.le fd2_a B3.out.size | exact Fd.le fd2_b B3.out.size), below_d (((Below.refl _ _).alloc (Nat.le_refl _) _).alloc (by simp) _)⟩)
  case rest =>
  obtain ⟨f11, f12, hb⟩ := hcut
  obtain ⟨w4, hnew⟩ : ∃ x, x = wc := ⟨_, rfl⟩
  rw [← hnew] at hb f11 f12
  rw [← hnew]
  clear hnew
  have G11 := Lib.hid f11
  have G12 := Lib.hid f12
  replace G3 := Lib.hid (G3.out.keep hb)
  replace G4 := Lib.hid (G4.out.keep hb)
  replace G5 := Lib.hid (G5.out.keep hb)
  replace G6 := Lib.hid (G6.out.keep hb)
  replace G7 := Lib.hid (G7.out.keep hb)
  replace G8 := Lib.hid (G8.out.keep hb)
  replace G9 := Lib.hid (G9.out.keep hb)
  replace G10 := Lib.hid (G10.out.keep hb)
  have B4 := Lib.hid (B3.out.trans (hb.mono B3.out.size))
  replace H := Lib.hid (bcell_keep H.out hb)
  clear hb f11 f12
  have c0 := H.out
  by_cases e1 : form = 1
  · subst e1
    have hl := Lib.hid (show lay 1 = [(2, 4, 2), (3, 4, 3)] from by decide)
    clear H
    obtain ⟨x3, rfl, _, c30, c31, c32⟩ := G3.out
    obtain ⟨x4, rfl, _, c40, c41, c42⟩ := G4.out
    clear G3 G4 G5 G6 G7 G8 G9 G10 G11 G12
    go_wp2_with fail
    all_goals go_ret
    all_goals unfold layPost
    all_goals rw [hl.out]
    all_goals exact ⟨w4.heap.size, rfl, B4.out.size, (heap_alloc_new w4 _), B4.out.alloc B4.out.size _⟩
  by_cases e8 : form = 8
  · subst e8
    have hl := Lib.hid (show lay 8 = [(2, 4, 2)] from by decide)
    clear H
    obtain ⟨x3, rfl, _, c30, c31, c32⟩ := G3.out
    clear G3 G4 G5 G6 G7 G8 G9 G10 G11 G12
    go_wp2_with fail
    all_goals go_ret
    all_goals unfold layPost
    all_goals rw [hl.out]
    all_goals exact ⟨w4.heap.size, rfl, B4.out.size, (heap_alloc_new w4 _), B4.out.alloc B4.out.size _⟩
  by_cases e7 : form = 7
  · subst e7
    have hl := Lib.hid (show lay 7 = [(11, 8, 2)] from by decide)
    clear H
    obtain ⟨x6, rfl, _, c60, c61, c62⟩ := G6.out
    clear G3 G4 G5 G6 G7 G8 G9 G10 G11 G12
    go_wp2_with fail
    all_goals go_ret
    all_goals unfold layPost
    all_goals rw [hl.out]
    all_goals exact ⟨w4.heap.size, rfl, B4.out.size, (heap_alloc_new w4 _), B4.out.alloc B4.out.size _⟩
  by_cases e2 : form = 2
  · subst e2
    have hl := Lib.hid (show lay 2 = [(2, 4, 2), (4, 4, 3), (7, 4, 4), (8, 12, 5)] from by decide)
    clear H
    obtain ⟨x3, rfl, _, c30, c31, c32⟩ := G3.out
    obtain ⟨x5, rfl, _, c50, c51, c52⟩ := G5.out
    clear G3 G4 G5 G6 G7 G8 G9 G10 G11 G12
    go_wp2_with fail
    go_region
    all_goals go_wp2_with fail
    all_goals go_ret
    all_goals unfold layPost
    all_goals rw [hl.out]
    all_goals exact ⟨w4.heap.size, rfl, B4.out.size, (heap_alloc_new w4 _), below_d (B4.out.alloc B4.out.size _)⟩
  by_cases e3 : form = 3
  · subst e3
    have hl := Lib.hid (show lay 3 = [(2, 4, 2), (3, 4, 3), (7, 4, 4), (8, 12, 5)] from by decide)
    clear H
    obtain ⟨x3, rfl, _, c30, c31, c32⟩ := G3.out
    obtain ⟨x4, rfl, _, c40, c41, c42⟩ := G4.out
    clear G3 G4 G5 G6 G7 G8 G9 G10 G11 G12
    go_wp2_with fail
    go_region
    all_goals go_wp2_with fail
    all_goals go_ret
    all_goals unfold layPost
    all_goals rw [hl.out]
    all_goals exact ⟨w4.heap.size, rfl, B4.out.size, (heap_alloc_new w4 _), below_d (B4.out.alloc B4.out.size _)⟩
  by_cases e4 : form = 4
  · subst e4
    have hl := Lib.hid (show lay 4 = [(11, 8, 2), (5, 4, 4), (6, 12, 5)] from by decide)
    clear H
    obtain ⟨x6, rfl, _, c60, c61, c62⟩ := G6.out
    obtain ⟨x9, rfl, _, c90, c91, c92⟩ := G9.out
    obtain ⟨x10, rfl, _, c100, c101, c102⟩ := G10.out
    clear G3 G4 G5 G6 G7 G8 G9 G10 G11 G12
    go_wp2_with fail
    all_goals go_ret
    all_goals unfold layPost
    all_goals rw [hl.out]
    all_goals exact ⟨w4.heap.size, rfl, B4.out.size, (heap_alloc_new w4 _), B4.out.alloc B4.out.size _⟩
  by_cases e9 : form = 9
  · subst e9
    have hl := Lib.hid (show lay 9 = [(5, 4, 4), (6, 12, 5)] from by decide)
    clear H
    obtain ⟨x9, rfl, _, c90, c91, c92⟩ := G9.out
    obtain ⟨x10, rfl, _, c100, c101, c102⟩ := G10.out
    clear G3 G4 G5 G6 G7 G8 G9 G10 G11 G12
    go_wp2_with fail
    all_goals go_ret
    all_goals unfold layPost
    all_goals rw [hl.out]
    all_goals exact ⟨w4.heap.size, rfl, B4.out.size, (heap_alloc_new w4 _), B4.out.alloc B4.out.size _⟩
  by_cases e5 : form = 5
  · subst e5
    have hl := Lib.hid (show lay 5 = [(9, 8, 2), (5, 4, 4), (6, 12, 5), (7, 4, 8), (8, 12, 9)] from by decide)
    clear H
    obtain ⟨x9, rfl, _, c90, c91, c92⟩ := G9.out
    obtain ⟨x10, rfl, _, c100, c101, c102⟩ := G10.out
    obtain ⟨x11, rfl, _, c110, c111, c112⟩ := G11.out
    obtain ⟨x12, rfl, _, c120, c121, c122⟩ := G12.out
    clear G3 G4 G5 G6 G7 G8 G9 G10 G11 G12
    go_wp2_with fail
    go_region
    all_goals go_wp2_with fail
    all_goals go_ret
    all_goals unfold layPost
    all_goals rw [hl.out]
    all_goals exact ⟨w4.heap.size, rfl, B4.out.size, (heap_alloc_new w4 _), below_d (B4.out.alloc B4.out.size _)⟩
  have hl := Lib.hid (show lay form = [(9, 4, 2), (10, 4, 3), (5, 4, 4), (6, 12, 5), (7, 4, 8), (8, 12, 9)] from by unfold lay; rw [if_neg e1, if_neg e8, if_neg e7, if_neg e2, if_neg e3, if_neg e4, if_neg e9, if_neg e5])
  have n1 : (form == 1) = false := by rw [beq_eq_false_iff_ne]; exact e1
  have n8 : (form == 8) = false := by rw [beq_eq_false_iff_ne]; exact e8
  have n7 : (form == 7) = false := by rw [beq_eq_false_iff_ne]; exact e7
  have n2 : (form == 2) = false := by rw [beq_eq_false_iff_ne]; exact e2
  have n3 : (form == 3) = false := by rw [beq_eq_false_iff_ne]; exact e3
  have n4 : (form == 4) = false := by rw [beq_eq_false_iff_ne]; exact e4
  have n9 : (form == 9) = false := by rw [beq_eq_false_iff_ne]; exact e9
  have n5 : (form == 5) = false := by rw [beq_eq_false_iff_ne]; exact e5
  clear H e1 e8 e7 e2 e3 e4 e9 e5
  obtain ⟨x7, rfl, _, c70, c71, c72⟩ := G7.out
  obtain ⟨x8, rfl, _, c80, c81, c82⟩ := G8.out
  obtain ⟨x9, rfl, _, c90, c91, c92⟩ := G9.out
  obtain ⟨x10, rfl, _, c100, c101, c102⟩ := G10.out
  obtain ⟨x11, rfl, _, c110, c111, c112⟩ := G11.out
  obtain ⟨x12, rfl, _, c120, c121, c122⟩ := G12.out
  clear G3 G4 G5 G6 G7 G8 G9 G10 G11 G12
  go_wp2_with fail
  all_goals go_ret
  all_goals unfold layPost
  all_goals rw [hl.out]
  all_goals exact ⟨w4.heap.size, rfl, B4.out.size, (heap_alloc_new w4 _), B4.out.alloc B4.out.size _⟩
end Go.Proofs.YtljajnaclpbecaaGreatDoor

namespace Go.Proofs.YtljajnaclpbecaaGreatDoor
open Go.RowKit Go.Shelf
set_option linter.unusedVariables false
set_option linter.unusedSimpArgs false
attribute [local go_sem] Oper.semAt_some

theorem fields_c (p : Option Addr) (w : World) : Calls Tryz.prog 43 #[.pointer p] w fun e w' => e = .returned (.func (.func 55) #[] #[.pointer (some ⟨w.heap.size, 0, none⟩)]) ∧ w' = w.alloc (.cells #[.pointer p] 103) := by
  go_enter Tryz.func43, Tryz.ntmps43
  go_wp2
  go_ret
  exact ⟨rfl, rfl⟩
/-- what a round keeps: the cells' blocks from n1 on -/
def KpC (n1 : Nat) (W W' : World) : Prop := W.heap.size ≤ W'.heap.size ∧ ∀ k o, n1 ≤ k → W.heap[k]? = some o → o.isCells = true → W'.heap[k]? = some o
theorem kpC_t {n1 : Nat} {A B C : World} (h : KpC n1 A B) (k : KpC n1 B C) : KpC n1 A C := ⟨Nat.le_trans h.1 k.1, fun i o hi ho hc => k.2 i o hi (h.2 i o hi ho hc) hc⟩
theorem kpC_b {n1 : Nat} {w : World} (W : World) (l : Nat) (o o' : Obj) (_ : w.heap.size ≤ l) (h : W.heap[l]? = some o) (hc : o.isCells = false) (_ : o.isWalk = false) : KpC n1 W (W.putObj l o') :=
  ⟨by simp, fun k u hk hu hcu => by
    have hne : k ≠ l := by rintro rfl; rw [h] at hu; injection hu with hu; rw [hu] at hc; rw [hc] at hcu; cases hcu
    exact (World.putObj_heap_other hne).trans hu⟩
theorem kpC_refl (n1 : Nat) (W : World) : KpC n1 W W := ⟨Nat.le_refl _, fun _ _ _ h _ => h⟩
theorem kpC_of_below {n1 : Nat} {W W' : World} (h : Below W.heap.size W W') : KpC n1 W W' := ⟨h.size, fun k o _ ho _ => (h.block k (Array.getElem?_eq_some_iff.1 ho).1).trans ho⟩
theorem kpC_set {n1 : Nat} (W : World) (p : Addr) (v : Value) (hp : p.block < n1) : KpC n1 W (W.setCell p v) := ⟨(KeepsWalks.setCell W p v).size, fun k o hk ho _ => (Below.heap_setCell W p v k (by omega)).trans ho⟩

abbrev FE := Nat × Int × Int
theorem fvals_get (b : Nat) : ∀ (l : List FE) (j : Nat) (x : FE), l[j]? = some x → (fvals b l)[j * 3]? = some (.pointer (some ⟨b, x.1, none⟩)) ∧ (fvals b l)[j * 3 + 1]? = some (.int .i64 x.2.1) ∧ (fvals b l)[j * 3 + 2]? = some (.int .i64 x.2.2)
  | [], j, x, h => by simp at h
  | y :: l, 0, x, h => by simp at h; subst h; exact ⟨rfl, rfl, rfl⟩
  | y :: l, j + 1, x, h => by
    have ih := fvals_get b l j x (by simpa using h)
    have e : fvals b (y :: l) = [.pointer (some ⟨b, y.1, none⟩), .int .i64 y.2.1, .int .i64 y.2.2] ++ fvals b l := rfl
    rw [e]
    have e2 : ∀ k, ([.pointer (some ⟨b, y.1, none⟩), .int .i64 y.2.1, .int .i64 y.2.2] ++ fvals b l : List Value)[k + 3]? = (fvals b l)[k]? := fun k => by rw [List.getElem?_append_right (by simp)]; rfl
    refine ⟨?_, ?_, ?_⟩
    · rw [show (j + 1) * 3 = j * 3 + 3 by omega, e2]; exact ih.1
    · rw [show (j + 1) * 3 + 1 = j * 3 + 1 + 3 by omega, e2]; exact ih.2.1
    · rw [show (j + 1) * 3 + 2 = j * 3 + 2 + 3 by omega, e2]; exact ih.2.2
theorem cell_of_list {w : World} {g : Nat} {l : List Value} {T : TypeId} (h : w.heap[g]? = some (.cells l.toArray T (0, 0))) {i : Nat} {v : Value} (hv : l[i]? = some v) : w.cell? ⟨g, i, none⟩ = some v := by
  rw [cell_blk h]; simpa using hv

theorem lay_len (form : Int) : (lay form).length ≤ 6 := by unfold lay; (repeat' split) <;> decide
theorem grown_of_below' {a w : World} {row : Option Nat} (h : Below a.heap.size a w) : a.grownBy w row := ⟨h.os, h.tape, h.output, h.size, fun i hi _ => h.block i hi⟩
set_option maxRecDepth 100000 in
set_option maxHeartbeats 2000000 in
theorem fields1_stops (p : FE → Prop) (n : Nat) (hn : 1 ≤ n) (b Bx n1 : Nat) (form : Int) (w : World) (hb : w.cell? ⟨b, 1, none⟩ = some (.int .i64 form)) (hx : w.cell? ⟨Bx, 0, none⟩ = some (.pointer (some ⟨b, 0, none⟩))) (h1 : n1 ≤ w.heap.size) (hp : ∀ x ∈ lay form, p x) :
    SeqStopsK Fence.wide n Tryz.prog 55 #[.pointer (some ⟨Bx, 0, none⟩)] (fun x : { x : FE // p x } => #[Value.agg #[.pointer (some ⟨b, x.1.1, none⟩), .int .i64 x.1.2.1, .int .i64 x.1.2.2]]) (KpC n1) (fun ys => ys.map (·.1) = lay form) (fun pre => ∃ c, c ≤ (lay form).length ∧ pre.map (·.1) = (lay form).take c) (lay form).length w := fun l J Jx W hW hA hAx hY h0 => by
  have C1 := (hW.cell (p := ⟨b, 1, none⟩) (World.block_lt_of_cell? w _ hb)).trans hb
  have C2 := (hW.cell (p := ⟨Bx, 0, none⟩) (World.block_lt_of_cell? w _ hx)).trans hx
  have HZ := hW.size
  obtain ⟨L, hL⟩ : ∃ L, lay form = L := ⟨_, rfl⟩
  obtain ⟨m, hm⟩ : ∃ m, L.length = m := ⟨_, rfl⟩
  have HM := Lib.hid hm
  have m6 : m ≤ 6 := by rw [← hm, ← hL]; exact lay_len form
  have LC := Lib.hid (layout_c b form W C1)
  unfold layPost at LC
  rw [hL] at hp
  rw [hL, hm] at LC hY
  rw [hL, hm]
  have HA := Lib.hid hA
  have HL := Lib.hid hL
  clear hm hb hx hL hA hAx
  refine callsIn_of_wp Tryz.func55 rfl trivial ?_ rfl
  simp only [Tryz.ntmps55, List.size_toArray, List.length_cons, List.length_nil, Nat.reduceAdd, Nat.reduceSub, Array.replicate_succ, Array.replicate_zero, List.push_toArray, List.append_toArray, List.nil_append, List.cons_append]
  gi_wp2_with (refine ⟨trivial, ?_⟩; gi_at_call 56; refine (callsIn_wide.2 LC.out).mono ?_; rintro e w1 ⟨g, rfl, hg, hh, hbl⟩)
  have H0 := Lib.hid (HA.out [] W w1 none h0 (grown_of_below' hbl) (fun r e => by cases e))
  have HH := Lib.hid hh
  have n1g : n1 ≤ g := by omega
  clear h0 hh hbl C1 C2 LC
  gi_loopw [8] (fun iv wr => ∃ (j : Nat) (pre : List { x : FE // p x }), j ≤ m ∧ iv = .int .i64 j ∧ pre.map (·.1) = L.take j ∧ J pre wr ∧ wr.heap[g]? = some (.cells (fvals b L).toArray 106 (0, 0))) (fun iv _ => m - (intOf iv).toNat)
  case atStart => exact ⟨0, [], by omega, rfl, rfl, H0.out, HH.out⟩
  case round =>
    obtain ⟨j, pre, hj, rfl, hpre, hJ, hgb⟩ := hrel
    have PR := Lib.hid hpre
    have PL := Lib.hid (show pre.length = j from by have := congrArg List.length hpre; rw [List.length_map, List.length_take] at this; have := HM.out; omega)
    clear hpre
    have HJ := Lib.hid hJ
    have HG := Lib.hid hgb
    clear hJ hgb H0 HH
    by_cases hlt : j < m
    · have hI : (j : Int) < (m : Int) := by omega
      obtain ⟨x, hx⟩ : ∃ x, L[j]? = some x := ⟨_, List.getElem?_eq_getElem (by rw [HM.out]; exact hlt)⟩
      obtain ⟨x, rfl⟩ : ∃ x' : { x : FE // p x }, x'.1 = x := ⟨⟨x, hp x (List.mem_of_getElem? hx)⟩, rfl⟩
      obtain ⟨f0, f1, f2⟩ := fvals_get b L j x.1 hx
      have d0 := cell_of_list HG.out f0
      have d1 := cell_of_list HG.out f1
      have d2 := cell_of_list HG.out f2
      have ST := Lib.hid (show (pre ++ [x]).map (·.1) = L.take (j + 1) by rw [List.map_append, PR.out, List.take_add_one, hx]; rfl)
      obtain ⟨fn, tmps, assign, body, hy, hR⟩ := hY pre x (wr.alloc (.cells #[.pointer (some ⟨b, x.1.1, none⟩), .int .i64 x.1.2.1, .int .i64 x.1.2.2] 106)) (HA.out _ wr _ none HJ.out (World.grownBy_alloc wr _ none) (fun r e => by cases e)) (by rw [PL.out]; exact hlt)
      clear f0 f1 f2 hx
      gi_wp2
      refine hR.mono ?_
      rintro e W3 (⟨rfl, hJ3, hk3⟩ | ⟨rfl, hJx3⟩)
      · gi_wp2
        go_roundw
        case rel => exact ⟨j + 1, _, by omega, by go_num, ST.out, hJ3, hk3.2 g _ n1g ((Below.heap_alloc wr _ g (Array.getElem?_eq_some_iff.1 HG.out).1).trans HG.out) rfl⟩
        case measure => simp [intOf]; omega
      · gi_wp2
        refine bodyPost_ret (results_none rfl _ _ _) rfl ?_
        exact ⟨⟨_, rfl⟩, .inr ⟨_, ⟨j + 1, by omega, ST.out⟩, hJx3⟩⟩
    · obtain rfl : j = m := by omega
      have HF := Lib.hid (show L.take j = L by rw [List.take_of_length_le (by rw [HM.out]; exact Nat.le_refl _)])
      gi_wp2
      go_end0
      exact ⟨⟨_, rfl⟩, .inl ⟨pre, PR.out.trans HF.out, HJ.out⟩⟩
end Go.Proofs.YtljajnaclpbecaaGreatDoor

namespace Go.Proofs.YtljajnaclpbecaaGreatDoor
open Go.RowKit
set_option linter.unusedVariables false
set_option linter.unusedSimpArgs false
/-- from 0 to most -/
def inr (n most : Int) : Bool := decide (0 ≤ n ∧ n ≤ most)
theorem inr_yes {n most : Int} (h : inr n most = true) : 0 ≤ n ∧ n ≤ most := by simpa [inr] using h
theorem inr_no {n most : Int} (h : inr n most = false) : ¬ (0 ≤ n ∧ n ≤ most) := by unfold inr at h; exact of_decide_eq_false h
/-- a valid program status word -/
def pok (m k c i q g a : Int) : Bool := inr m 255 && (inr k 15 && (inr c 65535 && (inr i 3 && (inr q 3 && (inr g 15 && inr a 16777215)))))
theorem pok_iff (m k c i q g a : Int) : pok m k c i q g a = true ↔ (0 ≤ m ∧ m ≤ 255) ∧ (0 ≤ k ∧ k ≤ 15) ∧ (0 ≤ c ∧ c ≤ 65535) ∧ (0 ≤ i ∧ i ≤ 3) ∧ (0 ≤ q ∧ q ≤ 3) ∧ (0 ≤ g ∧ g ≤ 15) ∧ (0 ≤ a ∧ a ≤ 16777215) := by
  simp [pok, inr]
/-- advance -/
def padv (ok : Bool) (n : Int) : Bool := ok && decide (n = 2 ∨ n = 4 ∨ n = 6)
end Go.Proofs.YtljajnaclpbecaaGreatDoor

namespace Go.Proofs.YtljajnaclpbecaaGreatDoor
open Go.RowKit
set_option linter.unusedVariables false
theorem wrap_i64_nat (n : Nat) (h : n < 9223372036854775808) : IntKind.i64.wrap (n : Int) = n := by
  simp only [IntKind.wrap, IntKind.bits, IntKind.signed]; simp; omega
theorem ofInt64_nat (a : Int) (h0 : 0 ≤ a) (h1 : a ≤ 9223372036854775807) : (BitVec.ofInt 64 a).toNat = a.toNat := by rw [BitVec.toNat_ofInt]; omega
theorem i64_and (a b : Int) (h0 : 0 ≤ a) (h1 : a ≤ 9223372036854775807) (h2 : 0 ≤ b) (h3 : b ≤ 9223372036854775807) : bits .and .i64 a b = ((a.toNat &&& b.toNat : Nat) : Int) := by
  show IntKind.i64.wrap ((BitVec.ofInt 64 a &&& BitVec.ofInt 64 b).toNat : Int) = _
  rw [BitVec.toNat_and, ofInt64_nat a h0 h1, ofInt64_nat b h2 h3]
  exact wrap_i64_nat _ (Nat.lt_of_le_of_lt Nat.and_le_left (by omega))
theorem i64_or (a b : Int) (h0 : 0 ≤ a) (h1 : a ≤ 9223372036854775807) (h2 : 0 ≤ b) (h3 : b ≤ 9223372036854775807) : bits .or .i64 a b = ((a.toNat ||| b.toNat : Nat) : Int) := by
  show IntKind.i64.wrap ((BitVec.ofInt 64 a ||| BitVec.ofInt 64 b).toNat : Int) = _
  rw [BitVec.toNat_or, ofInt64_nat a h0 h1, ofInt64_nat b h2 h3]
  exact wrap_i64_nat _ (Nat.or_lt_two_pow (n := 63) (by omega) (by omega))
theorem i64_low (n : Nat) (m a : Int) (hm : m = ((2 ^ n - 1 : Nat) : Int)) (hn : n ≤ 40) (h0 : 0 ≤ a) (h1 : a ≤ 9223372036854775807) : bits .and .i64 a m = a % ((2 ^ n : Nat) : Int) := by
  have hle : 2 ^ n ≤ 2 ^ 40 := Nat.pow_le_pow_right (by omega) hn
  have hpos : 0 < 2 ^ n := Nat.two_pow_pos n
  rw [i64_and a m h0 h1 (by omega) (by omega), hm, Int.toNat_natCast, Nat.and_two_pow_sub_one_eq_mod]
  obtain ⟨k, rfl⟩ := Int.eq_ofNat_of_zero_le h0
  simp
theorem i64_join (i : Nat) (p x y : Int) (hp : p = ((2 ^ i : Nat) : Int)) (hx : 0 ≤ x) (hx' : x ≤ 9223372036854775807) (hm : x % p = 0) (hy : 0 ≤ y) (hy' : y < p) (hyy : y ≤ 9223372036854775807) : bits .or .i64 x y = x + y := by
  subst hp
  rw [i64_or _ _ hx hx' hy hyy]
  obtain ⟨a, rfl⟩ := Int.eq_ofNat_of_zero_le hx
  obtain ⟨b, rfl⟩ := Int.eq_ofNat_of_zero_le hy
  rw [Int.toNat_natCast, Int.toNat_natCast, nat_join i _ _ (by have := hm; rw [← Int.natCast_emod] at this; omega) (by omega)]
  simp
theorem u8_low (n : Nat) (m a : Int) (hm : m = ((2 ^ n - 1 : Nat) : Int)) (hn : n ≤ 8) (h0 : 0 ≤ a) (h1 : a ≤ 255) : bits .and .u8 a m = a % ((2 ^ n : Nat) : Int) := by
  have hle : 2 ^ n ≤ 2 ^ 8 := Nat.pow_le_pow_right (by omega) hn
  have hpos : 0 < 2 ^ n := Nat.two_pow_pos n
  rw [u8_and a m h0 (by omega) (by omega) (by omega), hm, Int.toNat_natCast, Nat.and_two_pow_sub_one_eq_mod]
  obtain ⟨k, rfl⟩ := Int.eq_ofNat_of_zero_le h0
  simp
end Go.Proofs.YtljajnaclpbecaaGreatDoor

namespace Go.Proofs.YtljajnaclpbecaaGreatDoor
open Go.RowKit
theorem quiet_add_left {P : Program} {f : FuncId} {args : Array Value} {w : World} {a n : Nat} {v : Value}
    (h : Calls P f args (w.drewN (a + n)) fun e w' => e = .returned v ∧ w.drewN (a + n) = w') :
    Calls P f args (w.drewN (a + n)) fun e w'' => e = .returned v ∧ ∃ m, w'' = w.drewN (a + m) :=
  h.mono fun _ _ ⟨he, hm⟩ => ⟨he, n, hm.symm⟩
end Go.Proofs.YtljajnaclpbecaaGreatDoor

namespace Go.Proofs.YtljajnaclpbecaaGreatDoor
open Go.RowKit
set_option linter.unusedVariables false
set_option linter.unusedSimpArgs false
theorem digit_c (c : Int) (h0 : 48 ≤ c) (h1 : c ≤ 255) (w : World) : Calls Tryz.prog 161 #[.int .u8 c] w fun e w' => e = .returned (.int .i64 (dig c)) ∧ w = w' := by
  by_cases h : 65 ≤ c
  · have hd := Lib.hid (show dig c = c - 65 + 10 by unfold dig; rw [if_pos h]; omega)
    go_enter Tryz.func161, Tryz.ntmps161
    go_wp2
    go_ret
    exact ⟨by rw [hd.out]; rfl, rfl⟩
  · have hd := Lib.hid (show dig c = c - 48 by unfold dig; rw [if_neg h])
    go_enter Tryz.func161, Tryz.ntmps161
    go_wp2
    go_ret
    exact ⟨by rw [hd.out]; rfl, rfl⟩
set_option maxRecDepth 1000000 in
set_option maxHeartbeats 4000000 in
theorem code_c (k : Nat) (hk : k < 97) (w : World) : Calls Tryz.prog 101 #[.int .i64 ((8 * k : Nat) : Int)] w fun e w' => e = .returned (.int .i64 (opK k)) ∧ ∃ n, w' = w.drewN n := by
  have X := Lib.hid (tb_hex k hk)
  have O := Lib.hid (tb_op k hk)
  obtain ⟨a, ha⟩ : ∃ a, 8 * k = a := ⟨_, rfl⟩
  rw [ha] at X O ⊢
  have h1 : a ≤ 768 := by omega
  have m1 : (a : Int) < 776 := by omega
  have m2 : (a : Int) + 1 < 776 := by omega
  have m3 : 0 ≤ (a : Int) + 1 := by omega
  have hw : IntKind.i64.wrap ((a : Int) + 1) = ((a + 1 : Nat) : Int) := by simp only [IntKind.wrap, IntKind.bits, IntKind.signed]; simp; omega
  clear ha hk
  go_enter Tryz.func101, Tryz.ntmps101
  go_wp2_with fail
  refine wp_region_held_drew (S := (fun w' => ∃ n, w' = w.drewN n)) (by kernel_rfl) ?_ (fun hHeld => ?_)
  · (try dsimp only); exact ⟨1, rfl⟩
  refine' takeL (i := 0) (v := _) rfl (by kernel_rfl) (by kernel_rfl) (by kernel_rfl) (fun _ _ _ h => h) (Or.inl ⟨by rfl, ?yy1⟩) (by assumption) ?rr1
  case yy1 => intro w hSw; (try dsimp only at hSw); go_simp; (try with_reducible rfl)
  try simp only [Act.put, List.setIfInBounds_toArray, List.set_cons_zero, List.set_cons_succ]
  refine' takeL (i := 1) (v := _) rfl (by kernel_rfl) (by kernel_rfl) (by kernel_rfl) (fun _ _ _ h => h) (Or.inl ⟨by rfl, ?yy2⟩) (by assumption) ?rr2
  case yy2 => intro w hSw; (try dsimp only at hSw); go_simp; (try rw [tb_get _ _ _ (by kernel_rfl)]); (try with_reducible rfl)
  try simp only [Act.put, List.setIfInBounds_toArray, List.set_cons_zero, List.set_cons_succ]
  refine' takeL (i := 4) (v := _) rfl (by kernel_rfl) (by kernel_rfl) (by kernel_rfl) (fun _ _ _ h => h) (Or.inl ⟨by rfl, ?yy3⟩) (by assumption) ?rr3
  case yy3 => intro w hSw; (try dsimp only at hSw); go_simp; (try with_reducible rfl)
  try simp only [Act.put, List.setIfInBounds_toArray, List.set_cons_zero, List.set_cons_succ]
  refine' takeL (i := 5) (v := _) rfl (by kernel_rfl) (by kernel_rfl) (by kernel_rfl) (fun _ _ _ h => h) (Or.inl ⟨by rfl, ?yy4⟩) (by assumption) ?rr4
  case yy4 => intro w hSw; (try dsimp only at hSw); go_simp; (try with_reducible rfl)
  try simp only [Act.put, List.setIfInBounds_toArray, List.set_cons_zero, List.set_cons_succ]
  refine' takeL (i := 6) (v := _) rfl (by kernel_rfl) (by kernel_rfl) (by kernel_rfl) (fun _ _ _ h => h) (Or.inl ⟨by rfl, ?yy5⟩) (by assumption) ?rr5
  case yy5 => intro w hSw; (try dsimp only at hSw); go_simp; (try rw [tb_get _ _ _ (by kernel_rfl)]); (try with_reducible rfl)
  try simp only [Act.put, List.setIfInBounds_toArray, List.set_cons_zero, List.set_cons_succ]
  refine wpAnyH_ready (rs := [2]) (by kernel_rfl) (by simp) ?_
  refine consL rfl (fun K hK => ?_) AllReadyH.nil
  go_simp
  go_at_call 161
  refine (digit_c _ (by have := X.out; omega) (by have := X.out; omega) _).mono ?_
  rintro e _ ⟨rfl, rfl⟩
  go_wp2_with fail
  refine hK.out _ _ ?_ (fun hHeld => ?_)
  · (try dsimp only); exact hHeld
  clear hK K
  try simp only [Act.put, List.setIfInBounds_toArray, List.set_cons_zero, List.set_cons_succ]
  refine' takeL (i := 3) (v := _) rfl (by kernel_rfl) (by kernel_rfl) (by kernel_rfl) (fun _ _ _ h => h) (Or.inl ⟨by rfl, ?yy6⟩) (by assumption) ?rr6
  case yy6 => intro w hSw; (try dsimp only at hSw); go_simp; (try with_reducible rfl)
  try simp only [Act.put, List.setIfInBounds_toArray, List.set_cons_zero, List.set_cons_succ]
  refine wpAnyH_ready (rs := [7]) (by kernel_rfl) (by simp) ?_
  refine consL rfl (fun K hK => ?_) AllReadyH.nil
  go_simp
  go_at_call 161
  refine (digit_c _ (by have := X.out; omega) (by have := X.out; omega) _).mono ?_
  rintro e _ ⟨rfl, rfl⟩
  go_wp2_with fail
  refine hK.out _ _ ?_ (fun hHeld => ?_)
  · (try dsimp only); exact hHeld
  clear hK K
  try simp only [Act.put, List.setIfInBounds_toArray, List.set_cons_zero, List.set_cons_succ]
  refine' takeL (i := 8) (v := _) rfl (by kernel_rfl) (by kernel_rfl) (by kernel_rfl) (fun _ _ _ h => h) (Or.inl ⟨by rfl, ?yy7⟩) (by assumption) ?rr7
  case yy7 => intro w hSw; (try dsimp only at hSw); go_simp; (try with_reducible rfl)
  try simp only [Act.put, List.setIfInBounds_toArray, List.set_cons_zero, List.set_cons_succ]
  refine' takeL (i := 9) (v := _) rfl (by kernel_rfl) (by kernel_rfl) (by kernel_rfl) (fun _ _ _ h => h) (Or.inl ⟨by rfl, ?yy8⟩) (by assumption) ?rr8
  case yy8 => intro w hSw; (try dsimp only at hSw); go_simp; (try with_reducible rfl)
  try simp only [Act.put, List.setIfInBounds_toArray, List.set_cons_zero, List.set_cons_succ]
  refine wpAnyH_done (by kernel_rfl) ?_ _
  go_wp2
  go_ret
  exact ⟨by rw [← O.out]; show Ending.returned (.int .i64 (IntKind.i64.wrap (IntKind.i64.wrap (16 * dig ↑(tb a)) + dig ↑(tb (a + 1))))) = _; rw [wrap_hex (dig_range _ (by have := X.out; omega) (by have := X.out; omega)) (dig_range _ (by have := X.out; omega) (by have := X.out; omega))], 1, rfl⟩
theorem wrap_i64_id {n : Int} (h0 : -9223372036854775808 ≤ n) (h1 : n ≤ 9223372036854775807) : IntKind.i64.wrap n = n := by
  simp only [IntKind.wrap, IntKind.bits, IntKind.signed]; simp; omega
set_option maxRecDepth 1000000 in
set_option maxHeartbeats 4000000 in
theorem row_c (op : Int) (w : World) : Calls Tryz.prog 70 #[.int .i64 op] w fun e w' => e = .returned (.int .i64 (rowAt op)) ∧ ∃ n, w' = w.drewN n := by
  go_enter Tryz.func70, Tryz.ntmps70
  go_wp2_with (first | refine wp_scope_straight ?_ | refine wp_label ?_)
  go_loopw [3, 4] (fun f x wr => ∃ k : Nat, k ≤ 97 ∧ f = .int .i64 (-1) ∧ x = .int .i64 ((8 * k : Nat) : Int) ∧ (∀ j, j < k → opK j < op) ∧ ∃ n, wr = w.drewN n) (fun _ x _ => 776 - (intOf x).toNat)
  case atStart => exact ⟨0, by omega, rfl, rfl, by intro j hj; omega, 0, rfl⟩
  case round =>
    obtain ⟨k, hk, rfl, rfl, hlo, n, rfl⟩ := hrel
    have LO := Lib.hid hlo
    clear hlo
    by_cases hlt : k < 97
    · have hI : ((8 * k : Nat) : Int) < 776 := by omega
      obtain ⟨a, ha⟩ : ∃ a, 8 * k = a := ⟨_, rfl⟩
      have CC := Lib.hid (code_c k hlt)
      rw [ha] at CC hI
      rw [ha]
      have HA := Lib.hid ha
      clear ha
      obtain ⟨o, ho⟩ : ∃ o, opK k = o := ⟨_, rfl⟩
      rw [ho] at CC
      have HO := Lib.hid ho
      clear ho
      rcases (show o < op ∨ o = op ∨ op < o by omega) with h | h | h
      · go_wp2_with fail
        refine (CC.out _).mono ?_
        rintro e w1 ⟨rfl, n1, rfl⟩
        go_wp2_with fail
        refine ⟨⟨k + 1, by omega, rfl, ?_, ?_, _, rfl⟩, ?_⟩
        · congr 1; have := HA.out; omega
        · intro j hj
          rcases Nat.lt_or_ge j k with h2 | h2
          · exact LO.out j h2
          · rw [show j = k by omega, HO.out]; exact h
        · have := HA.out; simp [intOf]; omega
      · have hr := Lib.hid (show rowAt op = (a : Int) by unfold rowAt; rw [ix_of hlt (HO.out.trans h), if_pos hlt, HA.out])
        have e1 : (o == op) = true := by simp [h]
        have e2 : ¬ (o < op) := by omega
        clear h
        go_wp2_with fail
        refine (CC.out _).mono ?_
        rintro e w1 ⟨rfl, n1, rfl⟩
        go_wp2_with fail
        simp only [Exit.noGoto]
        go_ret
        exact ⟨by rw [hr.out]; rfl, _, rfl⟩
      · have hr := Lib.hid (show rowAt op = -1 by
          unfold rowAt
          rw [ix_none (op := op) fun j hj => ?_, if_neg (by omega)]
          rcases Nat.lt_or_ge j k with h2 | h2
          · have := LO.out j h2; omega
          · rcases Nat.lt_or_ge k j with h3 | h3
            · have := op_lt h3 hj; have := HO.out; omega
            · rw [show j = k by omega, HO.out]; omega)
        have e1 : (o == op) = false := by rw [beq_eq_false_iff_ne]; omega
        have e2 : ¬ (o < op) := by omega
        go_wp2_with fail
        refine (CC.out _).mono ?_
        rintro e w1 ⟨rfl, n1, rfl⟩
        go_wp2_with fail
        simp only [Exit.noGoto]
        go_ret
        exact ⟨by rw [hr.out]; rfl, _, rfl⟩
    · obtain rfl : k = 97 := by omega
      have hr := Lib.hid (show rowAt op = -1 by
        unfold rowAt
        rw [ix_none (op := op) fun j hj => by have := LO.out j hj; omega, if_neg (by omega)])
      go_wp2_with fail
      simp only [Exit.noGoto]
      go_ret
      exact ⟨by rw [hr.out]; rfl, _, rfl⟩
set_option maxRecDepth 1000000 in
set_option maxHeartbeats 4000000 in
theorem form_c (op : Int) (w : World) : Calls Tryz.prog 54 #[.int .i64 op] w fun e w' => e = .returned (.tuple #[.int .i64 (fmOf op), .bool (isOp op)]) ∧ ∃ n, w' = w.drewN n := by
  by_cases hx : ix op < 97
  · have F := Lib.hid (tb_fm _ hx)
    have R := Lib.hid (row_c op)
    have r1 := Lib.hid (show fmOf op = fmK (ix op) from by unfold fmOf; rw [if_pos hx])
    have r2 := Lib.hid (show isOp op = true from by unfold isOp; simpa using hx)
    have r3 := Lib.hid (show rowAt op = ((8 * ix op : Nat) : Int) from by unfold rowAt; rw [if_pos hx])
    obtain ⟨a, ha⟩ : ∃ a, 8 * ix op = a := ⟨_, rfl⟩
    rw [r3.out, ha] at R
    rw [ha] at F
    rw [r1.out, r2.out]
    have h1 : a ≤ 768 := by omega
    clear ha hx r1 r2 r3
    have m1 : 0 ≤ (a : Int) + 8 - 1 := by omega
    have m2 : (a : Int) + 8 - 1 < 776 := by omega
    have m3 : ¬ ((a : Int) < 0) := by omega
    go_enter Tryz.func54, Tryz.ntmps54
    go_wp2_with (go_at_call 70; refine (R.out _).mono ?_; rintro e w1 ⟨rfl, n1, rfl⟩)
    go_ret2
    refine ⟨?_, _, rfl⟩
    have e1 : ((tb (a + 7) : Int) - 97) % 256 + 1 = fmK (ix op) := by have := F.out; omega
    rw [tb_get _ _ _ (by kernel_rfl), e1]; rfl
  · have R := Lib.hid (row_c op)
    have r1 := Lib.hid (show fmOf op = 0 from by unfold fmOf; rw [if_neg hx])
    have r2 := Lib.hid (show isOp op = false from by unfold isOp; simpa using hx)
    have r3 := Lib.hid (show rowAt op = -1 from by unfold rowAt; rw [if_neg hx])
    rw [r3.out] at R
    rw [r1.out, r2.out]
    clear hx r1 r2 r3
    go_enter Tryz.func54, Tryz.ntmps54
    go_wp2_with (go_at_call 70; refine (R.out _).mono ?_; rintro e w1 ⟨rfl, n1, rfl⟩)
    go_ret2
    exact ⟨rfl, _, rfl⟩
theorem length_c (op : Int) (h0 : -9223372036854775808 ≤ op) (h1 : op ≤ 9223372036854775807) (w : World) : Calls Tryz.prog 42 #[.int .i64 op] w fun e w' => e = .returned (.int .i64 (lenOf op)) ∧ w = w' := by
  rcases (show op < 0 ∨ 255 < op ∨ (0 ≤ op ∧ op < 64) ∨ (64 ≤ op ∧ op < 128) ∨ (128 ≤ op ∧ op < 192) ∨ (192 ≤ op ∧ op ≤ 255) by omega) with h | h | ⟨h, h2⟩ | ⟨h, h2⟩ | ⟨h, h2⟩ | ⟨h, h2⟩
  · have hd := Lib.hid (show lenOf op = 0 from by unfold lenOf; rw [if_neg (by omega)])
    go_enter Tryz.func42, Tryz.ntmps42
    go_wp2
    go_ret
    exact ⟨by rw [hd.out]; rfl, rfl⟩
  · have hd := Lib.hid (show lenOf op = 0 from by unfold lenOf; rw [if_neg (by omega)])
    have e1 : ¬ (op < 0) := by omega
    go_enter Tryz.func42, Tryz.ntmps42
    go_wp2
    go_ret
    exact ⟨by rw [hd.out]; rfl, rfl⟩
  · have hd := Lib.hid (show lenOf op = 2 from by unfold lenOf; rw [if_pos (by omega), if_pos (by omega)])
    have i0 : ∀ W, (Instr.index 118 (.agg #[.int .i64 2, .int .i64 4, .int .i64 4, .int .i64 6]) (.int .i64 0)).run Tryz.prog W = .ok (.int .i64 2) W := fun _ => by kernel_rfl
    have e1 : op / 64 = 0 := by omega
    have e2 : ¬ (op < 0) := by omega
    have e3 : ¬ (255 < op) := by omega
    clear h h2
    go_enter Tryz.func42, Tryz.ntmps42
    go_wp2
    go_ret
    exact ⟨by rw [hd.out]; rfl, rfl⟩
  · have hd := Lib.hid (show lenOf op = 4 from by unfold lenOf; rw [if_pos (by omega), if_neg (by omega), if_pos (by omega)])
    have i1 : ∀ W, (Instr.index 118 (.agg #[.int .i64 2, .int .i64 4, .int .i64 4, .int .i64 6]) (.int .i64 1)).run Tryz.prog W = .ok (.int .i64 4) W := fun _ => by kernel_rfl
    have e1 : op / 64 = 1 := by omega
    have e2 : ¬ (op < 0) := by omega
    have e3 : ¬ (255 < op) := by omega
    clear h h2
    go_enter Tryz.func42, Tryz.ntmps42
    go_wp2
    go_ret
    exact ⟨by rw [hd.out]; rfl, rfl⟩
  · have hd := Lib.hid (show lenOf op = 4 from by unfold lenOf; rw [if_pos (by omega), if_neg (by omega), if_pos (by omega)])
    have i2 : ∀ W, (Instr.index 118 (.agg #[.int .i64 2, .int .i64 4, .int .i64 4, .int .i64 6]) (.int .i64 2)).run Tryz.prog W = .ok (.int .i64 4) W := fun _ => by kernel_rfl
    have e1 : op / 64 = 2 := by omega
    have e2 : ¬ (op < 0) := by omega
    have e3 : ¬ (255 < op) := by omega
    clear h h2
    go_enter Tryz.func42, Tryz.ntmps42
    go_wp2
    go_ret
    exact ⟨by rw [hd.out]; rfl, rfl⟩
  · have hd := Lib.hid (show lenOf op = 6 from by unfold lenOf; rw [if_pos (by omega), if_neg (by omega), if_neg (by omega)])
    have i3 : ∀ W, (Instr.index 118 (.agg #[.int .i64 2, .int .i64 4, .int .i64 4, .int .i64 6]) (.int .i64 3)).run Tryz.prog W = .ok (.int .i64 6) W := fun _ => by kernel_rfl
    have e1 : op / 64 = 3 := by omega
    have e2 : ¬ (op < 0) := by omega
    have e3 : ¬ (255 < op) := by omega
    clear h h2
    go_enter Tryz.func42, Tryz.ntmps42
    go_wp2
    go_ret
    exact ⟨by rw [hd.out]; rfl, rfl⟩
theorem nibble_c (A : Option Addr) (len cap : Nat) (zs : List Int) (at_ : Nat) (w : World) (hb : Byt w A len zs) (h : at_ / 2 < len) (hl : (len : Int) ≤ 9223372036854775807) (h9 : at_ ≤ 1000) : Calls Tryz.prog 58 #[.slice A len cap, .int .i64 at_] w fun e w' => e = .returned (.int .i64 (nib zs at_)) ∧ w = w' := by
  obtain ⟨b, off, rfl, hc⟩ := hb.at_ (by omega)
  have c1 := hc _ h
  have rg := hb.range (at_ / 2)
  obtain ⟨x, hx⟩ : ∃ x, zs.getD (at_ / 2) 0 = x := ⟨_, rfl⟩
  rw [hx] at c1 rg
  obtain ⟨r0, r1⟩ := rg
  obtain ⟨q, hq⟩ : ∃ q, at_ / 2 = q := ⟨_, rfl⟩
  rw [hq] at c1 h
  have d1 : (at_ : Int) / 2 = (q : Int) := by omega
  have q1 : (q : Int) < (len : Int) := by omega
  clear hc hb
  rcases Nat.mod_two_eq_zero_or_one at_ with h2 | h2
  · have hn := Lib.hid (show nib zs at_ = x / 16 from by unfold nib; rw [if_pos h2, hx])
    have d2 : (at_ : Int) % 2 = 0 := by omega
    clear hx hq h h2
    go_enter Tryz.func58, Tryz.ntmps58
    go_wp2
    go_ret
    exact ⟨by rw [hn.out]; rfl, rfl⟩
  · have hn := Lib.hid (show nib zs at_ = x % 16 from by unfold nib; rw [if_neg (by omega), hx])
    have d2 : (at_ : Int) % 2 = 1 := by omega
    have d3 := u8_low 4 15 x (by rfl) (by omega) r0 r1
    clear hx hq h h2
    go_enter Tryz.func58, Tryz.ntmps58
    go_wp2
    go_ret
    exact ⟨by rw [hn.out]; rfl, rfl⟩
theorem priv_c (op : Int) (w : World) : Calls Tryz.prog 49 #[.int .i64 op] w fun e w' => e = .returned (.bool (privB op)) ∧ w = w' := by
  by_cases h : op = 8 ∨ op = 9 ∨ op = 128 ∨ op = 130 ∨ op = 156 ∨ op = 157 ∨ op = 158 ∨ op = 159
  · have hr := Lib.hid (show privB op = true from by unfold privB; rw [decide_eq_true_iff]; omega)
    rcases h with rfl | rfl | rfl | rfl | rfl | rfl | rfl | rfl <;>
    · go_enter Tryz.func49, Tryz.ntmps49
      go_wp2
      go_ret
      exact ⟨by rw [hr.out]; rfl, rfl⟩
  · have hr := Lib.hid (show privB op = false from by unfold privB; rw [decide_eq_false_iff_not]; omega)
    have p8 : (op == 8) = false := by rw [beq_eq_false_iff_ne]; omega
    have p9 : (op == 9) = false := by rw [beq_eq_false_iff_ne]; omega
    have p128 : (op == 128) = false := by rw [beq_eq_false_iff_ne]; omega
    have p130 : (op == 130) = false := by rw [beq_eq_false_iff_ne]; omega
    have p156 : (op == 156) = false := by rw [beq_eq_false_iff_ne]; omega
    have p157 : (op == 157) = false := by rw [beq_eq_false_iff_ne]; omega
    have p158 : (op == 158) = false := by rw [beq_eq_false_iff_ne]; omega
    have p159 : (op == 159) = false := by rw [beq_eq_false_iff_ne]; omega
    clear h
    go_enter Tryz.func49, Tryz.ntmps49
    go_wp2
    go_ret
    exact ⟨by rw [hr.out]; rfl, rfl⟩
end Go.Proofs.YtljajnaclpbecaaGreatDoor

namespace Go.Proofs.YtljajnaclpbecaaGreatDoor
open Go.RowKit
set_option linter.unusedVariables false
set_option linter.unusedSimpArgs false
def eqiB (op fm r1 r2 x2 b1 d1 b2 d2 l1 l2 i2 op' fm' r1' r2' x2' b1' d1' b2' d2' l1' l2' i2' : Int) : Bool := op == op' && (fm == fm' && (r1 == r1' && (r2 == r2' && (x2 == x2' && (b1 == b1' && (d1 == d1' && (b2 == b2' && (d2 == d2' && (l1 == l1' && (l2 == l2' && (i2 == i2')))))))))))
set_option maxHeartbeats 1000000 in
theorem eqi_run (op fm r1 r2 x2 b1 d1 b2 d2 l1 l2 i2 op' fm' r1' r2' x2' b1' d1' b2' d2' l1' l2' i2' : Int) (w : World) : (Op.equalIn 10000 54 (.agg #[.int .i64 op, .int .i64 fm, .int .i64 r1, .int .i64 r2, .int .i64 x2, .int .i64 b1, .int .i64 d1, .int .i64 b2, .int .i64 d2, .int .i64 l1, .int .i64 l2, .int .i64 i2]) (.agg #[.int .i64 op', .int .i64 fm', .int .i64 r1', .int .i64 r2', .int .i64 x2', .int .i64 b1', .int .i64 d1', .int .i64 b2', .int .i64 d2', .int .i64 l1', .int .i64 l2', .int .i64 i2'])).run Tryz.prog w = .ok (eqiB op fm r1 r2 x2 b1 d1 b2 d2 l1 l2 i2 op' fm' r1' r2' x2' b1' d1' b2' d2' l1' l2' i2') w := by
  have hS : Tryz.prog.underlying 54 = some (.struct (Tryz.prog.fieldsOf 54)) := by kernel_rfl
  have hp : Tryz.prog.stoodInHeld 54 = false := by kernel_rfl
  rw [show (10000 : Nat) = 9999 + 1 from rfl, run_equalIn_agg w 9999 54 _ _ hS hp]
  simp only [Program.fieldsOf, Tryz.underlying54]
  go_simp
  unfold eqiB
  by_cases h_op : op = op'
  case neg => simp [h_op]
  subst h_op
  by_cases h_fm : fm = fm'
  case neg => simp [h_fm]
  subst h_fm
  by_cases h_r1 : r1 = r1'
  case neg => simp [h_r1]
  subst h_r1
  by_cases h_r2 : r2 = r2'
  case neg => simp [h_r2]
  subst h_r2
  by_cases h_x2 : x2 = x2'
  case neg => simp [h_x2]
  subst h_x2
  by_cases h_b1 : b1 = b1'
  case neg => simp [h_b1]
  subst h_b1
  by_cases h_d1 : d1 = d1'
  case neg => simp [h_d1]
  subst h_d1
  by_cases h_b2 : b2 = b2'
  case neg => simp [h_b2]
  subst h_b2
  by_cases h_d2 : d2 = d2'
  case neg => simp [h_d2]
  subst h_d2
  by_cases h_l1 : l1 = l1'
  case neg => simp [h_l1]
  subst h_l1
  by_cases h_l2 : l2 = l2'
  case neg => simp [h_l2]
  subst h_l2
  by_cases h_i2 : i2 = i2'
  case neg => simp [h_i2]
  subst h_i2
  simp
theorem eqi_guard : Tryz.prog.eqGuardType Tryz.prog.depth 54 = false := by kernel_rfl
theorem eqiB_iff (op fm r1 r2 x2 b1 d1 b2 d2 l1 l2 i2 op' fm' r1' r2' x2' b1' d1' b2' d2' l1' l2' i2' : Int) : eqiB op fm r1 r2 x2 b1 d1 b2 d2 l1 l2 i2 op' fm' r1' r2' x2' b1' d1' b2' d2' l1' l2' i2' = true ↔ op = op' ∧ fm = fm' ∧ r1 = r1' ∧ r2 = r2' ∧ x2 = x2' ∧ b1 = b1' ∧ d1 = d1' ∧ b2 = b2' ∧ d2 = d2' ∧ l1 = l1' ∧ l2 = l2' ∧ i2 = i2' := by
  unfold eqiB; simp only [Bool.and_eq_true, beq_iff_eq]
end Go.Proofs.YtljajnaclpbecaaGreatDoor

namespace Go.Proofs.YtljajnaclpbecaaGreatDoor
open Go.RowKit
set_option linter.unusedVariables false
section
variable {F : Fence} {n : Nat} {P : Program}
def noDefer (o : Oper) : Bool := match o.op with | .defer _ => false | _ => true
theorem noDefer_ne {o : Oper} (h : noDefer o = true) (c) : o.op ≠ .defer c := by
  intro e; unfold noDefer at h; rw [e] at h; cases h
theorem opIn_round {o : Oper} {a : Act} {w : World} {K : Act → World → Prop} {Q : Exit → Act → World → Prop} (l : Nat) (hro : F.round = none) (hd : noDefer o = true) (h : o.wpIn F n P a w K Q) : o.wpIn (F.inRound l) n P a w K Q := by
  unfold Oper.wpIn at *
  obtain ⟨h1, h2⟩ := h
  rw [hro, Oper.semAt_none] at h2
  refine ⟨h1, ?_⟩
  rw [Fence.inRound_round, Oper.semAt_some l a.eval o (noDefer_ne hd)]
  exact h2
theorem opsIn_round {ops : Array Oper} {i : Nat} {a : Act} {w : World} {K K' : Act → World → Prop} {Q : Exit → Act → World → Prop} (l : Nat) (hro : F.round = none) (hd : ops.toList.all noDefer = true) (hK : ∀ a w, K a w → K' a w) (h : wpOpIn F n P ops Q i K a w) : wpOpIn (F.inRound l) n P ops Q i K' a w := by
  unfold wpOpIn at *
  cases ho : ops[i]? with
  | none => simp only [ho] at h ⊢; exact hK _ _ h
  | some o =>
    simp only [ho] at h ⊢
    have hn : noDefer o = true := List.all_eq_true.1 hd o (Array.mem_toList_iff.2 (Array.mem_of_getElem? ho))
    split
    · next hw => rw [if_pos hw] at h; exact Oper.wpIn_mono hK (opIn_round l hro hn h)
    · next hw => rw [if_neg hw] at h; exact ⟨h.1, hK _ _ h.2⟩
theorem anyIn_round {ops : Array Oper} {Q : Exit → Act → World → Prop} (l : Nat) (hro : F.round = none) (hd : ops.toList.all noDefer = true) {md : Region.Mode} : ∀ (fuel : Nat) (listed : Array Bool) (a : Act) (w : World), wpAnyIn F n P md ops Q fuel listed a w → wpAnyIn (F.inRound l) n P md ops Q fuel listed a w
  | 0, _, _, _, h => h
  | fuel + 1, _, _, _, h => ⟨h.1, fun i hi => opsIn_round l hro hd (fun a w h => anyIn_round l hro hd fuel _ a w h) (h.2 i hi)⟩
theorem wpIn_round_quiet {l id : Nat} {Q : Exit → Act → World → Prop} {a : Act} {w : World} {L : List Oper} (hro : F.round = none) (hd : L.all noDefer = true) (hm : P.follows .mixedOrders = true) (hB : Region.lexB .any L.toArray = true)
    (h : wpQuietIn F n P L.toArray (fun w' => ∃ n, w' = w.drewN n) (fun a' => ∀ w', (∃ n, w' = w.drewN n) → Q .normal a' w') L a) : (Code.region id L.toArray true).wpIn (F.inRound l) n P Q a w := by
  simp only [Region.lexB, Bool.and_eq_true] at hB
  refine wpIn_region_any hm (anyIn_round l hro (by simpa using hd) _ _ _ _ (wpAnyIn_of_quiet (C := fun w' => ∃ n, w' = w.drewN n) (Q := fun a' => ∀ w', (∃ n, w' = w.drewN n) → Q .normal a' w') hro (fun _ w' hw' h => h w' hw') _ _ _ _ ⟨1, rfl⟩ ?_))
  have := wpAnyQIn_lex (F := F) (n := n) (C := fun w' => ∃ n, w' = w.drewN n) (md := .any) hB.1 L 0 (Array.replicate L.toArray.size false) a (by simp) (by simpa using hB.2) h
  simpa using this
end
end Go.Proofs.YtljajnaclpbecaaGreatDoor

