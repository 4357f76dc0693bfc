/- Contracts and laws on the way to the statement, text 1 of 5. Conditions: as each states them. -/
import Derived.Test.YthjdjbipfdigeaaRows
import Derived.WalkKit
import Derived.ProofKit
import Derived.OpenShut
import Derived.ShutString
import Derived.ChangeOld
import Derived.Below
import Derived.Carry
import Derived.Deep.Slices
import Derived.Deep.Fields
import Derived.ChangeSame
import Derived.Deep.Draws
import Derived.Laws.BitsAllLaws
import Derived.Test.YthjdjbipfdigeaaProg
import Derived.Laws.AppendOwn
import Derived.Laws.AppendOwnNone
import Derived.Laws.OwnMore
import Derived.Laws.CopyOwn
import Derived.OwnWalk
import Derived.KernelRfl
import Derived.Deep.RegionHeld3
import Derived.Lib.Hide
import Derived.Outline
import Derived.Handy
import Derived.BigQuiet
import Derived.Deep.CutRange
import Derived.RegionTactic
import Derived.Deep.QuietTactic
import Derived.RangeFuncNested
import Derived.RangeFuncBound
import Derived.RangeFuncCalls
import Derived.RangeFuncLeaves
import Derived.Shelf.Abstract
import Derived.Shelf.RegionOpen
import Derived.OwnWalkIn
import Derived.TacticsInMore
import Derived.LoopNIn
import Derived.LoopIn
import Derived.Laws.EntriesVeiled
import Derived.Scope
import Derived.Laws.StructEq
import Derived.Laws.Tables
import Derived.TacticsIn
import Derived.Sort.QuietIn
import Derived.RegionIn
import Derived.Deep.Cut
import Derived.BigRegion
import Derived.Laws.MakeOwn
namespace Go.Proofs.Ythjdjbipfdigeaa
open Go.ChangeShapes Go.WideShapes Go.ChangeAt Go.RowKit Go.Deep
open Go.ChangeMaps (open_string shut_string)

theorem own : ownKnob Try.prog.godebug = none := by kernel_rfl
theorem laidOut : laidOutB Try.prog = true := by kernel_rfl

/-- WHAT THE WALK IS TOLD OF A SLICE OF INTEGERS THAT CAME IN: it is nil; or it leads to a row of 'cap' cells, the numbers 'zs' (the first 'len' are its elements, the rest its spare room), each fitting its kind. -/
def IsRow (k : IntKind) (w : World) (a : Option Addr) (len cap : Nat) (zs : List Int) : Prop :=
  (a = none ∧ len = 0 ∧ cap = 0 ∧ zs = []) ∨
  ∃ x, a = some x ∧ len ≤ cap ∧ cap ≤ maxLen ∧ zs.length = cap ∧ (∀ i, i < zs.length → w.cell? (x.add i) = some (.int k (zs.getD i 0))) ∧ ∀ n ∈ zs, (Lit.int k n).wf = true

section
variable {H : Type} {enc : TypeId × Value → H} {P : Program} {w : World} {base : Nat} {spare : Nat → Bool} {held : Bool}
theorem open_row {t e : TypeId} {k : IntKind} {a : Option Addr} {len cap : Nat} {d : DataW H} {p : List MemPlace} (ht : P.underlying t = some (.slice e)) (he : P.underlying e = some (.int k)) (hC : P.cellsOf e = 1)
    (h : DataW.Trod enc P w 0 (fun _ => true) true t (.slice a len cap) d p) : ∃ zs, IsRow k w a len cap zs := by
  obtain ⟨fuel, hf⟩ := h
  rcases open_ints ht he hC hf with ⟨hcs, _⟩ | ⟨x, l, c, zs, hcs, _, hl, hm, hz, hx, hcell, hwz⟩
  · simp [Value.cells] at hcs
    obtain ⟨rfl, rfl, rfl⟩ := hcs
    exact ⟨[], .inl ⟨rfl, rfl, rfl, rfl⟩⟩
  · simp [Value.cells] at hcs
    obtain ⟨rfl, rfl, rfl⟩ := hcs
    exact ⟨zs, .inr ⟨_, rfl, hl, hm, by simpa using hz, hcell, hwz⟩⟩

end
end Go.Proofs.Ythjdjbipfdigeaa

namespace Go.Proofs.Ythjdjbipfdigeaa
open Go.RowKit
set_option linter.unusedVariables false

/-- the signed value of a word -/
def sg (a : Int) : Int := if a < 2147483648 then a else a - 4294967296
/-- 0, 1, 2 for nought, less, more -/
def sgn (n : Int) : Int := if n = 0 then 0 else if n < 0 then 1 else 2
/-- the low word -/
def lo32 (n : Int) : Int := n % 4294967296
/-- does n overflow a signed word? -/
def ovf (n : Int) : Bool := decide (n < -2147483648 ∨ 2147483647 < n)
/-- the condition code of an exact result -/
def rcc (n : Int) : Int := if ovf n = true then 3 else sgn n
/-- the condition code of a logical result -/
def lcc (v : Int) (high : Bool) : Int := (if v = 0 then 0 else 1) + (if high = true then 2 else 0)
/-- the 64 bits of two words -/
def dbl (hi lo : Int) : Int := hi * 4294967296 + lo
/-- the signed value of 64 bits -/
def sg64 (x : Int) : Int := if x < 9223372036854775808 then x else x - 18446744073709551616
def ovf64 (n : Int) : Bool := decide (n < -9223372036854775808 ∨ 9223372036854775807 < n)
/-- division: does it succeed, quotient, remainder -/
def dok (n d : Int) : Bool := decide (d ≠ 0 ∧ -2147483648 ≤ n.tdiv d ∧ n.tdiv d ≤ 2147483647)
def dquo (n d : Int) : Int := if dok n d = true then lo32 (n.tdiv d) else 0
def drem (n d : Int) : Int := if dok n d = true then lo32 (n.tmod d) else 0
/-- the number of places, modulo 64 -/
def plc (n : Int) : Nat := (n % 64).toNat
/-- shifts of a word -/
def slv (v : Int) (p : Nat) : Int := (if v < 2147483648 then 0 else 2147483648) + sg v * 2 ^ p % 2147483648
def slo (v : Int) (p : Nat) : Bool := ovf (sg v * 2 ^ p)
def slc (v : Int) (p : Nat) : Int := if slo v p = true then 3 else sgn (sg (slv v p))
def srv (v : Int) (p : Nat) : Int := lo32 (sg v / 2 ^ p)
def slg (v : Int) (p : Nat) (left : Bool) : Int := if left = true then lo32 (v * 2 ^ p) else v / 2 ^ p
/-- shifts of a double word -/
def dlv (x : Int) (p : Nat) : Int := (if x < 9223372036854775808 then 0 else 9223372036854775808) + sg64 x * 2 ^ p % 9223372036854775808
def dlo (x : Int) (p : Nat) : Bool := ovf64 (sg64 x * 2 ^ p)
def dlc (x : Int) (p : Nat) : Int := if dlo x p = true then 3 else sgn (sg64 (dlv x p))
def drv (x : Int) (p : Nat) : Int := sg64 x / 2 ^ p % 18446744073709551616
def dlg (x : Int) (p : Nat) (left : Bool) : Int := if left = true then x * 2 ^ p % 18446744073709551616 else x / 2 ^ p

theorem sg_lo (a : Int) (h0 : 0 ≤ a) : -2147483648 ≤ sg a := by unfold sg; split <;> omega
theorem sg_hi (a : Int) (h1 : a ≤ 4294967295) : sg a ≤ 2147483647 := by unfold sg; split <;> omega
theorem wrap32_sg (a : Int) (h0 : 0 ≤ a) (h1 : a ≤ 4294967295) : wrap32 a = sg a := by unfold wrap32 sg; split <;> omega
theorem sgn_neg (n : Int) (h : n < 0) : sgn n = 1 := by unfold sgn; rw [if_neg (by omega), if_pos h]
theorem sgn_pos (n : Int) (h : 0 < n) : sgn n = 2 := by unfold sgn; rw [if_neg (by omega), if_neg (by omega)]
theorem ovf_iff (n : Int) : ovf n = true ↔ (n < -2147483648 ∨ 2147483647 < n) := by simp [ovf]
theorem fits_test (n : Int) (h0 : -9223372036854775808 ≤ n) (h1 : n ≤ 9223372036854775807) : (wrap64 (wrap32 n) != n) = ovf n := by
  rw [Bool.eq_iff_iff, ovf_iff, bne_iff_ne]; unfold wrap64 wrap32; omega
theorem rcc_over (n : Int) (h : ovf n = true) : rcc n = 3 := by simp [rcc, h]
theorem rcc_in (n : Int) (h : ovf n = false) : rcc n = sgn n := by simp [rcc, h]
end Go.Proofs.Ythjdjbipfdigeaa

namespace Go.Proofs.Ythjdjbipfdigeaa
open Go.RowKit
set_option linter.unusedVariables false

/-- The slice value '.slice A len _' holds the bytes zs in the world w (nil too, where zs is empty). -/
def Byt (w : World) (A : Option Addr) (len : Nat) (zs : List Int) : Prop :=
  zs.length = len ∧ (∀ n ∈ zs, 0 ≤ n ∧ n ≤ 255) ∧ (0 < len → ∃ b off, A = some ⟨b, off, none⟩ ∧ ∀ i, i < len → w.cell? ⟨b, off + i, none⟩ = some (.int .u8 (zs.getD i 0)))

theorem Byt.range {w : World} {A : Option Addr} {len : Nat} {zs : List Int} (h : Byt w A len zs) (i : Nat) : 0 ≤ zs.getD i 0 ∧ zs.getD i 0 ≤ 255 := by
  rw [List.getD_eq_getElem?_getD]
  rcases Nat.lt_or_ge i zs.length with hi | hi
  · rw [List.getElem?_eq_getElem hi]; exact h.2.1 _ (List.getElem_mem hi)
  · rw [List.getElem?_eq_none hi]; simp
theorem Byt.at_ {w : World} {A : Option Addr} {len : Nat} {zs : List Int} (h : Byt w A len zs) (h0 : 0 < len) : ∃ b off, A = some ⟨b, off, none⟩ ∧ ∀ i, i < len → w.cell? ⟨b, off + i, none⟩ = some (.int .u8 (zs.getD i 0)) := h.2.2 h0
theorem Byt.keep {w w' : World} {A : Option Addr} {len : Nat} {zs : List Int} (h : Byt w A len zs) (hb : Below w.heap.size w w') : Byt w' A len zs := by
  refine ⟨h.1, h.2.1, fun h0 => ?_⟩
  obtain ⟨b, off, e, hc⟩ := h.2.2 h0
  refine ⟨b, off, e, fun i hi => ?_⟩
  have h1 := hc i hi
  rw [← h1]
  refine hb.cell (p := ⟨b, off + i, none⟩) ?_
  rcases Nat.lt_or_ge b w.heap.size with h2 | h2
  · exact h2
  · unfold World.cell? at h1; simp only [Array.getElem?_eq_none h2] at h1; cases h1
theorem Byt.drewN {w : World} {A : Option Addr} {len : Nat} {zs : List Int} (h : Byt w A len zs) (n : Nat) : Byt (w.drewN n) A len zs := h
theorem Byt.pre {w : World} {A : Option Addr} {len : Nat} {zs : List Int} (h : Byt w A len zs) (k : Nat) (hk : k ≤ len) : Byt w A k (zs.take k) := by
  refine ⟨by rw [List.length_take, h.1]; omega, fun n hn => h.2.1 n (List.mem_of_mem_take hn), fun h0 => ?_⟩
  obtain ⟨b, off, e, hc⟩ := h.2.2 (by omega)
  refine ⟨b, off, e, fun i hi => ?_⟩
  rw [hc i (by omega)]
  simp [List.getD_eq_getElem?_getD, hi]

/-- 16 bits with their sign -/
def sx16 (h : Int) : Int := if h < 32768 then h else h - 65536
/-- a halfword, extended to a word -/
def hfv (x y : Int) : Int := lo32 (sx16 (x * 256 + y))
/-- a fullword -/
def flv (x y z u : Int) : Int := x * 16777216 + y * 65536 + z * 256 + u
end Go.Proofs.Ythjdjbipfdigeaa

namespace Go.Proofs.Ythjdjbipfdigeaa
open Go.RowKit
set_option linter.unusedVariables false

theorem info_u8 : (Try.prog.info? 5).map (fun i => (i.zero, i.size, i.bytes)) = some (some (.int .u8 0), 1, 1) := by kernel_rfl

theorem cell_blk {w : World} {g : Nat} {C : Array Value} {t : TypeId} {fr : Nat × Nat} (h : w.heap[g]? = some (.cells C t fr)) (i : Nat) : w.cell? ⟨g, i, none⟩ = C[i]? := by simp [World.cell?, h]

/-- The slice value v of n bytes zs is the call's own: nil, or the head of a block from 'base' on. -/
def Own (w : World) (base : Nat) (v : Value) (n : Nat) (zs : List Int) : Prop :=
  w.ownsRow base 5 1 v n (zs.map (Value.int .u8)) ∧ ∀ z ∈ zs, 0 ≤ z ∧ z ≤ 255

section
variable {w w' : World} {base n : Nat} {v : Value} {zs : List Int}
theorem Own.len (h : Own w base v n zs) : zs.length = n := by have := h.1.1; simpa using this
theorem Own.nil (w : World) (base : Nat) : Own w base (.slice none 0 0) 0 [] := ⟨World.ownsRow_nil w base _ _, by simp⟩
theorem Own.alloc (h : Own w base v n zs) (o : Obj) : Own (w.alloc o) base v n zs := ⟨h.1.alloc o, h.2⟩
theorem Own.drewN (h : Own w base v n zs) (k : Nat) : Own (w.drewN k) base v n zs := h
theorem Own.below {B : Nat} (h : Own w base v n zs) (hb : Below B w w') (hv : ∀ g, v.ownBlock = some g → g < B) : Own w' base v n zs := by
  refine ⟨⟨h.1.1, ?_⟩, h.2⟩
  rcases h.1.2 with h0 | ⟨g, cap, cur, rfl, hg, hh, r⟩
  · exact .inl h0
  · exact .inr ⟨g, cap, cur, rfl, hg, (hb.block g (hv g rfl)).trans hh, r⟩
theorem Own.form (h : Own w base v n zs) : (v = .slice none 0 0 ∧ n = 0) ∨ ∃ g cap, v = .slice (some ⟨g, 0, none⟩) n cap ∧ base ≤ g ∧ g < w.heap.size ∧ n ≤ cap ∧ cap ≤ maxLen := by
  rcases h.1.2 with h0 | ⟨g, cap, cur, rfl, hg, hh, h1, h2, _⟩
  · exact .inl h0
  · exact .inr ⟨g, cap, rfl, hg, (Array.getElem?_eq_some_iff.1 hh).1, h1, h2⟩
theorem Own.pos (h : Own w base v n zs) (h0 : 0 < n) : ∃ g cap, v = .slice (some ⟨g, 0, none⟩) n cap ∧ base ≤ g ∧ g < w.heap.size ∧ n ≤ cap ∧ cap ≤ maxLen := by
  rcases h.form with ⟨_, h1⟩ | h1
  · omega
  · exact h1
theorem Own.heap {g cap : Nat} (h : Own w base (.slice (some ⟨g, 0, none⟩) n cap) n zs) : ∃ cur : List Value, w.heap[g]? = some (.cells cur.toArray 5 (0, 0)) ∧ cur.length = cap ∧ cur.take n = zs.map (Value.int .u8) ∧ base ≤ g ∧ n ≤ cap ∧ cap ≤ maxLen := by
  rcases h.1.2 with ⟨h0, _⟩ | ⟨g', cap', cur, hv, hg, hh, h1, h2, h3, h4⟩
  · cases h0
  · injection hv with hA _ hc
    injection hA with hA; injection hA with hA
    subst hA hc
    exact ⟨cur.toList, by simpa using hh, by simpa using h3, by simpa using h4, hg, h1, h2⟩
theorem Own.of_heap {g cap : Nat} {cur : List Value} (h : w.heap[g]? = some (.cells cur.toArray 5 (0, 0))) (hl : cur.length = cap) (ht : cur.take n = zs.map (Value.int .u8)) (hz : zs.length = n) (hg : base ≤ g) (hn : n ≤ cap) (hm : cap ≤ maxLen) (hr : ∀ z ∈ zs, 0 ≤ z ∧ z ≤ 255) :
    Own w base (.slice (some ⟨g, 0, none⟩) n cap) n zs :=
  ⟨⟨by simp [hz], .inr ⟨g, cap, cur.toArray, rfl, hg, h, hn, hm, by simp [hl], by simpa using ht⟩⟩, hr⟩
/-- it reads as its bytes -/
theorem Own.byt {A : Option Addr} {cap : Nat} (h : Own w base (.slice A n cap) n zs) : Byt w A n zs := by
  refine ⟨h.len, h.2, fun h0 => ?_⟩
  rcases h.1.2 with ⟨_, hn⟩ | ⟨g, cap', cur, hv, _, hh, _, _, _, ht⟩
  · omega
  · injection hv with hA _ hc
    refine ⟨g, 0, hA, fun i hi => ?_⟩
    have hz : i < zs.length := by rw [h.len]; exact hi
    have e : (cur.toList.take (n * 1))[i]? = some (.int .u8 zs[i]) := by rw [ht]; simp [hz]
    rw [List.getElem?_take, if_pos (by omega)] at e
    have e2 : cur[i]? = some (.int .u8 zs[i]) := by simpa using e
    simp [World.cell?, hh, e2, List.getD_eq_getElem?_getD, hz]
theorem Own.block (h : Own w base v n zs) : ∀ g, v.ownBlock = some g → base ≤ g ∧ g < w.heap.size := h.1.lt
end

/-- a new block of bytes, written out -/
theorem byt_new (w : World) (zs : List Int) (hr : ∀ z ∈ zs, 0 ≤ z ∧ z ≤ 255) (C : Array Value) (hC : C.toList = zs.map (Value.int .u8)) (n : Nat) (hn : zs.length = n) (e : TypeId) : Byt (w.alloc (.cells C e)) (some ⟨w.heap.size, 0, none⟩) n zs := by
  refine ⟨hn, hr, fun _ => ⟨w.heap.size, 0, rfl, fun i hi => ?_⟩⟩
  have hz : i < zs.length := by omega
  have e1 : C[i]? = some (.int .u8 zs[i]) := by rw [← Array.getElem?_toList, hC]; simp [hz]
  have e2 : (w.alloc (.cells C e)).heap[w.heap.size]? = some (.cells C e (0, 0)) := heap_alloc_new w _
  rw [cell_blk e2, Nat.zero_add, e1]; simp [List.getD_eq_getElem?_getD, hz]

theorem splice_map (f : Int → Value) (L : List Int) (k : Nat) (ys : List Int) : splice (L.map f) k (ys.map f) = (splice L k ys).map f := by simp [splice]
theorem splice_range (L : List Int) (k : Nat) (ys : List Int) (h1 : ∀ z ∈ L, 0 ≤ z ∧ z ≤ 255) (h2 : ∀ z ∈ ys, 0 ≤ z ∧ z ≤ 255) : ∀ z ∈ splice L k ys, 0 ≤ z ∧ z ≤ 255 := by
  intro z hz
  unfold splice at hz
  rcases List.mem_append.mp hz with hz | hz
  · exact h1 z (List.mem_of_mem_take hz)
  · rcases List.mem_append.mp hz with hz | hz
    · exact h2 z hz
    · exact h1 z (List.mem_of_mem_drop hz)
theorem take_splice {α : Type} (L : List α) (k n : Nat) (ys : List α) (h : k + ys.length ≤ n) (hn : n ≤ L.length) : (splice L k ys).take n = splice (L.take n) k ys := by
  have e1 : L.drop (k + ys.length) = (L.take n).drop (k + ys.length) ++ L.drop n := by
    conv => lhs; rw [← List.take_append_drop n L]
    rw [List.drop_append_of_le_length (by rw [List.length_take]; omega)]
  have e2 : L.take k = (L.take n).take k := by rw [List.take_take, Nat.min_eq_left (by omega)]
  have e3 : splice L k ys = splice (L.take n) k ys ++ L.drop n := by
    unfold splice; rw [e1, e2]; simp only [List.append_assoc]
  rw [e3]
  exact List.take_left' (by rw [length_splice _ _ _ (by rw [List.length_take]; omega), List.length_take]; omega)

/-- a slice's bytes as cells, at the address's own spelling -/
theorem Byt.cells {w : World} {b off m : Nat} {ys : List Int} (h : Byt w (some ⟨b, off, none⟩) m ys) (h0 : 0 < m) : ∀ j u, (ys.map (Value.int .u8))[j]? = some u → w.cell? ((⟨b, off, none⟩ : Addr).add j) = some u := by
  intro j u hu
  have hj : j < ys.length := by
    rcases Nat.lt_or_ge j ys.length with h1 | h1
    · exact h1
    · rw [List.getElem?_eq_none (by simpa using h1)] at hu; cases hu
  obtain ⟨b', off', e, hcell⟩ := h.2.2 h0
  injection e with e; injection e with e1 e2; subst e1 e2
  have h2 := hcell j (by rw [← h.1]; exact hj)
  have hadd : (⟨b, off, none⟩ : Addr).add j = ⟨b, off + j, none⟩ := by unfold Addr.add; split <;> simp_all
  rw [hadd, h2]
  simp [hj] at hu
  simp [List.getD_eq_getElem?_getD, hj, hu]

end Go.Proofs.Ythjdjbipfdigeaa

namespace Go.Proofs.Ythjdjbipfdigeaa
open Go.RowKit
set_option linter.unusedVariables false
theorem bcell_keep {w w' : World} {b o : Nat} {v : Value} (h : w.cell? ⟨b, o, none⟩ = some v) (hb : Below w.heap.size w w') : w'.cell? ⟨b, o, none⟩ = some v := by
  have hlt : b < w.heap.size := by
    rcases Nat.lt_or_ge b w.heap.size with h2 | h2
    · exact h2
    · unfold World.cell? at h; simp only [Array.getElem?_eq_none h2] at h; cases h
  exact (hb.cell (p := ⟨b, o, none⟩) hlt).trans h
/-- a slice of bytes, behind a name that no tactic takes apart -/
structure BytI (w : World) (A : Option Addr) (n : Nat) (zs : List Int) : Prop where
  out : Byt w A n zs
theorem BytI.keep {w w' : World} {A : Option Addr} {n : Nat} {zs : List Int} (h : BytI w A n zs) (hb : Below w.heap.size w w') : BytI w' A n zs := ⟨h.out.keep hb⟩
theorem below_of_drew {w w' : World} {n : Nat} (h : w' = w.drewN n) : Below w.heap.size w w' := by subst h; exact ⟨(Below.refl w.heap.size w).os, (Below.refl w.heap.size w).tape, (Below.refl w.heap.size w).output, (Below.refl w.heap.size w).size, (Below.refl w.heap.size w).block⟩
theorem below_draw (w : World) (n : Nat) : Below w.heap.size w (w.drewN n) := ⟨(Below.refl w.heap.size w).os, (Below.refl w.heap.size w).tape, (Below.refl w.heap.size w).output, (Below.refl w.heap.size w).size, (Below.refl w.heap.size w).block⟩
end Go.Proofs.Ythjdjbipfdigeaa

namespace Go.Proofs.Ythjdjbipfdigeaa
set_option linter.unusedVariables false

/-- the codes, in ascending order -/
def opL : List Int := [4, 5, 6, 7, 8, 9, 10, 16, 17, 18, 19, 20, 21, 22, 23, 24, 25, 26, 27, 28, 29, 30, 31, 64, 65, 66, 67, 68, 69, 70, 71, 72, 73, 74, 75, 76, 78, 79, 80, 84, 85, 86, 87, 88, 89, 90, 91, 92, 93, 94, 95, 128, 130, 134, 135, 136, 137, 138, 139, 140, 141, 142, 143, 144, 145, 146, 147, 148, 149, 150, 151, 152, 156, 157, 158, 159, 209, 210, 211, 212, 213, 214, 215, 220, 221, 222, 223, 240, 241, 242, 243, 248, 249, 250, 251, 252, 253]
/-- their formats -/
def fmL : List Int := [8, 1, 1, 1, 1, 1, 7, 1, 1, 1, 1, 1, 1, 1, 1, 1, 1, 1, 1, 1, 1, 1, 1, 2, 2, 2, 2, 2, 2, 2, 2, 2, 2, 2, 2, 2, 2, 2, 2, 2, 2, 2, 2, 2, 2, 2, 2, 2, 2, 2, 2, 9, 9, 3, 3, 3, 3, 3, 3, 3, 3, 3, 3, 3, 4, 4, 9, 4, 4, 4, 4, 3, 9, 9, 9, 9, 5, 5, 5, 5, 5, 5, 5, 5, 5, 5, 5, 6, 6, 6, 6, 6, 6, 6, 6, 6, 6]
/-- their names, letter by letter -/
def nmL : List (List Nat) := [[83, 80, 77], [66, 65, 76, 82], [66, 67, 84, 82], [66, 67, 82], [83, 83, 75], [73, 83, 75], [83, 86, 67], [76, 80, 82], [76, 78, 82], [76, 84, 82], [76, 67, 82], [78, 82], [67, 76, 82], [79, 82], [88, 82], [76, 82], [67, 82], [65, 82], [83, 82], [77, 82], [68, 82], [65, 76, 82], [83, 76, 82], [83, 84, 72], [76, 65], [83, 84, 67], [73, 67], [69, 88], [66, 65, 76], [66, 67, 84], [66, 67], [76, 72], [67, 72], [65, 72], [83, 72], [77, 72], [67, 86, 68], [67, 86, 66], [83, 84], [78], [67, 76], [79], [88], [76], [67], [65], [83], [77], [68], [65, 76], [83, 76], [83, 83, 77], [76, 80, 83, 87], [66, 88, 72], [66, 88, 76, 69], [83, 82, 76], [83, 76, 76], [83, 82, 65], [83, 76, 65], [83, 82, 68, 76], [83, 76, 68, 76], [83, 82, 68, 65], [83, 76, 68, 65], [83, 84, 77], [84, 77], [77, 86, 73], [84, 83], [78, 73], [67, 76, 73], [79, 73], [88, 73], [76, 77], [83, 73, 79], [84, 73, 79], [72, 73, 79], [84, 67, 72], [77, 86, 78], [77, 86, 67], [77, 86, 90], [78, 67], [67, 76, 67], [79, 67], [88, 67], [84, 82], [84, 82, 84], [69, 68], [69, 68, 77, 75], [83, 82, 80], [77, 86, 79], [80, 65, 67, 75], [85, 78, 80, 75], [90, 65, 80], [67, 80], [65, 80], [83, 80], [77, 80], [68, 80]]
def opK (k : Nat) : Int := opL.getD k 0
def fmK (k : Nat) : Int := fmL.getD k 0
def nmK (k : Nat) : List Nat := nmL.getD k []
/-- a hexadecimal digit -/
def hexd (n : Nat) : Nat := if n < 10 then 48 + n else 55 + n
/-- a row of the table: code, name, format -/
def rowK (k : Nat) : List Nat := [hexd ((opK k).toNat / 16), hexd ((opK k).toNat % 16)] ++ (nmK k ++ List.replicate (5 - (nmK k).length) 32) ++ [96 + (fmK k).toNat]
def tbL : List Nat := (List.range 97).flatMap rowK
def tbA : Array UInt8 := (tbL.map Nat.toUInt8).toArray
def tb (i : Nat) : Nat := tbL.getD i 0
theorem tb_get (d : Array UInt8) (i : Nat) (h : i < (ByteArray.mk d).size) (hd : d = tbA) : ((ByteArray.mk d)[i]'h).toNat = tb i := by
  subst hd
  have h1 : i < tbL.length := by
    have : (ByteArray.mk tbA).size = tbL.length := by show tbA.size = _; simp [tbA]
    omega
  have hs : ∀ z ∈ tbL, z < 256 := by decide +kernel
  have h2 : ((ByteArray.mk tbA)[i]'h) = Nat.toUInt8 tbL[i] := by
    show tbA[i]'_ = _
    simp [tbA]
  rw [h2]
  unfold tb
  rw [List.getD_eq_getElem?_getD, List.getElem?_eq_getElem h1]
  show (Nat.toUInt8 tbL[i]).toNat = tbL[i]
  have := hs _ (List.getElem_mem h1)
  simp [Nat.toUInt8]
  omega
def dig (c : Int) : Int := if 65 ≤ c then c - 55 else c - 48
theorem tb_op : ∀ k, k < 97 → 16 * dig (tb (8 * k)) + dig (tb (8 * k + 1)) = opK k := by decide +kernel
theorem tb_hex : ∀ k, k < 97 → 48 ≤ tb (8 * k) ∧ tb (8 * k) ≤ 255 ∧ 48 ≤ tb (8 * k + 1) ∧ tb (8 * k + 1) ≤ 255 := by decide +kernel
theorem tb_fm : ∀ k, k < 97 → 97 ≤ tb (8 * k + 7) ∧ tb (8 * k + 7) ≤ 105 ∧ (tb (8 * k + 7) : Int) - 97 + 1 = fmK k := by decide +kernel
theorem op_up : ∀ k, k < 96 → opK k < opK (k + 1) := by decide +kernel
theorem op_range : ∀ k, k < 97 → 4 ≤ opK k ∧ opK k ≤ 253 := by decide +kernel
theorem op_lt {j k : Nat} (hj : j < k) (hk : k < 97) : opK j < opK k := by
  induction k with
  | zero => omega
  | succ k ih =>
    have h1 := op_up k (by omega)
    rcases Nat.lt_or_ge j k with h | h
    · have := ih h (by omega); omega
    · rw [show j = k by omega]; exact h1
/-- the place of a code in the list (97: it isn't there) -/
def ix (op : Int) : Nat := opL.findIdx (· == op)
theorem ix_le (op : Int) : ix op ≤ 97 := by
  have : ix op ≤ opL.length := List.findIdx_le_length
  have h2 : opL.length = 97 := by decide +kernel
  omega
theorem ix_of {op : Int} {k : Nat} (hk : k < 97) (h : opK k = op) : ix op = k := by
  have hl : opL.length = 97 := by decide +kernel
  refine (List.findIdx_eq (by omega)).2 ⟨?_, fun j hj => ?_⟩
  · have : opK k = opL[k]'(by omega) := by unfold opK; rw [List.getD_eq_getElem?_getD, List.getElem?_eq_getElem (by omega)]; rfl
    rw [← this, h]; simp
  · have e : opK j = opL[j]'(by omega) := by unfold opK; rw [List.getD_eq_getElem?_getD, List.getElem?_eq_getElem (by omega)]; rfl
    have := op_lt hj hk
    rw [← e]; simp; omega
theorem ix_op {op : Int} (h : ix op < 97) : opK (ix op) = op := by
  have hl : opL.length = 97 := by decide +kernel
  have h1 : ix op < opL.length := by omega
  have h2 := List.findIdx_getElem (p := fun x => x == op) (xs := opL) (w := h1)
  have e : opK (ix op) = opL[ix op]'h1 := by unfold opK; rw [List.getD_eq_getElem?_getD, List.getElem?_eq_getElem h1]; rfl
  rw [e]
  exact eq_of_beq h2
theorem ix_none {op : Int} (h : ∀ k, k < 97 → opK k ≠ op) : ix op = 97 := by
  have := ix_le op
  rcases Nat.lt_or_ge (ix op) 97 with h1 | h1
  · exact absurd (ix_op h1) (h _ h1)
  · omega
theorem dig_range (c : Int) (h0 : 48 ≤ c) (h1 : c ≤ 255) : 0 ≤ dig c ∧ dig c ≤ 255 := by unfold dig; split <;> omega
theorem wrap_hex {x y : Int} (hx : 0 ≤ x ∧ x ≤ 255) (hy : 0 ≤ y ∧ y ≤ 255) : IntKind.i64.wrap (IntKind.i64.wrap (16 * x) + y) = 16 * x + y := by
  simp only [IntKind.wrap, IntKind.bits, IntKind.signed]; simp; omega
/-- what row answers -/
def rowAt (op : Int) : Int := if ix op < 97 then ((8 * ix op : Nat) : Int) else -1
/-- what Form answers -/
def isOp (op : Int) : Bool := decide (ix op < 97)
def fmOf (op : Int) : Int := if ix op < 97 then fmK (ix op) else 0
def privB (op : Int) : Bool := decide (op = 8 ∨ op = 9 ∨ op = 128 ∨ op = 130 ∨ (156 ≤ op ∧ op ≤ 159))
end Go.Proofs.Ythjdjbipfdigeaa

namespace Go.Proofs.Ythjdjbipfdigeaa
open Go.RowKit
set_option linter.unusedVariables false
theorem takeL {P : Program} {L : List Oper} {Q : Exit → Act → World → Prop} {md : Region.Mode} {S : World → Prop} {i : Nat} {oi : Oper} {v : Value} {fuel : Nat} {listed : Array Bool} {a : Act} {w : World} (hi : L[i]? = some oi)
    (hs : Region.noSelect L.toArray = true) (hf : Region.free md L.toArray listed i = true) (hr : (Region.ready md L.toArray listed).contains i = true)
    (hQ : ∀ c a w, Q (.panic c) (a.put oi.dst v) w → Q (.panic c) a w) (hy : YieldsIf P L.toArray S oi v a) (hS : S w)
    (h : wpAnyH P md L.toArray Q S fuel (listed.setIfInBounds i true) (a.put oi.dst v) w) : wpAnyH P md L.toArray Q S (fuel + 1) listed a w := wpAnyH_take (by simpa using hi) hs hf hr hQ hy hS h
theorem consL {P : Program} {L : List Oper} {Q : Exit → Act → World → Prop} {md : Region.Mode} {S : World → Prop} {fuel : Nat} {listed : Array Bool} {a : Act} {w : World} {i : Nat} {o : Oper} {rs : List Nat} (ho : L[i]? = some o)
    (h : ∀ K' : Act → World → Prop, Shut (∀ a w, S w → (S w → wpAnyH P md L.toArray Q S fuel (listed.setIfInBounds i true) a w) → K' a w) → if Region.wanted o (yielded L.toArray a.tmps) = true then Oper.wp P o a w K' Q else K' (a.put o.dst undef) w)
    (hs : AllReadyH P md L.toArray Q S fuel listed a w rs) : AllReadyH P md L.toArray Q S fuel listed a w (i :: rs) := AllReadyH.cons (by simpa using ho) h hs
end Go.Proofs.Ythjdjbipfdigeaa

namespace Go.Proofs.Ythjdjbipfdigeaa
open Go.RowKit
set_option linter.unusedVariables false
set_option linter.unusedSimpArgs false
/-- a field's variable: a pointer to the field's cell in block b, its bits, its place -/
def Fd (w : World) (base : Nat) (v : Value) (b c : Nat) (n at_ : Int) : Prop := ∃ x, v = .pointer (some ⟨x, 0, none⟩) ∧ base ≤ x ∧ w.cell? ⟨x, 0, none⟩ = some (.pointer (some ⟨b, c, none⟩)) ∧ w.cell? ⟨x, 1, none⟩ = some (.int .i64 n) ∧ w.cell? ⟨x, 2, none⟩ = some (.int .i64 at_)
theorem Fd.keep {w w' : World} {base : Nat} {v : Value} {b c : Nat} {n at_ : Int} (h : Fd w base v b c n at_) (hb : Below w.heap.size w w') : Fd w' base v b c n at_ := by
  obtain ⟨x, h0, h1, h2, h3, h4⟩ := h
  exact ⟨x, h0, h1, bcell_keep h2 hb, bcell_keep h3 hb, bcell_keep h4 hb⟩
theorem Fd.le {w : World} {base base' : Nat} {v : Value} {b c : Nat} {n at_ : Int} (h : Fd w base v b c n at_) (hb : base' ≤ base) : Fd w base' v b c n at_ := by
  obtain ⟨x, h0, h1, h2⟩ := h
  exact ⟨x, h0, Nat.le_trans hb h1, h2⟩
/-- the fields of a format: which cell, how many bits, at which half byte -/
def lay (form : Int) : List (Nat × Int × Int) := if form = 1 then [(2, 4, 2), (3, 4, 3)] else if form = 8 then [(2, 4, 2)] else if form = 7 then [(11, 8, 2)] else if form = 2 then [(2, 4, 2), (4, 4, 3), (7, 4, 4), (8, 12, 5)] else if form = 3 then [(2, 4, 2), (3, 4, 3), (7, 4, 4), (8, 12, 5)] else if form = 4 then [(11, 8, 2), (5, 4, 4), (6, 12, 5)] else if form = 9 then [(5, 4, 4), (6, 12, 5)] else if form = 5 then [(9, 8, 2), (5, 4, 4), (6, 12, 5), (7, 4, 8), (8, 12, 9)] else [(9, 4, 2), (10, 4, 3), (5, 4, 4), (6, 12, 5), (7, 4, 8), (8, 12, 9)]
def fvals (b : Nat) (l : List (Nat × Int × Int)) : List Value := l.flatMap fun f => [.pointer (some ⟨b, f.1, none⟩), .int .i64 f.2.1, .int .i64 f.2.2]
def layPost (b : Nat) (form : Int) (w : World) (e : Ending) (w' : World) : Prop := ∃ g, e = .returned (.slice (some ⟨g, 0, none⟩) (lay form).length (lay form).length) ∧ w.heap.size ≤ g ∧ w'.heap[g]? = some (.cells (fvals b (lay form)).toArray 84 (0, 0)) ∧ Below w.heap.size w w'
theorem below_d {B : Nat} {a w : World} (h : Below B a w) : Below B a w.drew := ⟨h.os, h.tape, h.output, h.size, h.block⟩
section
variable {w : World} {b c : Nat} {n at_ : Int} {T : TypeId} {o1 o2 o3 : Obj}
theorem al_keep (w : World) (o : Obj) : Below w.heap.size w (w.alloc o) := (Below.refl _ _).alloc (Nat.le_refl _) o
theorem Fd.new (w : World) (b c : Nat) (n at_ : Int) (T : TypeId) : Fd (w.alloc (.cells #[.pointer (some ⟨b, c, none⟩), .int .i64 n, .int .i64 at_] T)) w.heap.size (.pointer (some ⟨w.heap.size, 0, none⟩)) b c n at_ :=
  ⟨_, rfl, Nat.le_refl _, by simp, by simp, by simp⟩
theorem fd_drew {w : World} {base : Nat} {v : Value} (h : Fd w base v b c n at_) : Fd w.drew base v b c n at_ := h.keep (below_d (Below.refl _ _))
theorem fd3_a : Fd (((w.alloc (.cells #[.pointer (some ⟨b, c, none⟩), .int .i64 n, .int .i64 at_] T)).alloc o2).alloc o3).drew w.heap.size (.pointer (some ⟨w.heap.size, 0, none⟩)) b c n at_ := fd_drew (((Fd.new w b c n at_ T).keep (al_keep _ _)).keep (al_keep _ _))
theorem fd3_b : Fd (((w.alloc o1).alloc (.cells #[.pointer (some ⟨b, c, none⟩), .int .i64 n, .int .i64 at_] T)).alloc o3).drew w.heap.size (.pointer (some ⟨w.heap.size + 1, 0, none⟩)) b c n at_ := by
  have h := Fd.new (w.alloc o1) b c n at_ T
  rw [World.size_alloc] at h
  exact fd_drew ((h.le (Nat.le_succ _)).keep (al_keep _ _))
theorem fd3_c : Fd (((w.alloc o1).alloc o2).alloc (.cells #[.pointer (some ⟨b, c, none⟩), .int .i64 n, .int .i64 at_] T)).drew w.heap.size (.pointer (some ⟨w.heap.size + 1 + 1, 0, none⟩)) b c n at_ := by
  have h := Fd.new ((w.alloc o1).alloc o2) b c n at_ T
  rw [World.size_alloc, World.size_alloc] at h
  exact fd_drew (h.le (by omega))
theorem fd2_a : Fd ((w.alloc (.cells #[.pointer (some ⟨b, c, none⟩), .int .i64 n, .int .i64 at_] T)).alloc o2).drew w.heap.size (.pointer (some ⟨w.heap.size, 0, none⟩)) b c n at_ := fd_drew ((Fd.new w b c n at_ T).keep (al_keep _ _))
theorem fd2_b : Fd ((w.alloc o1).alloc (.cells #[.pointer (some ⟨b, c, none⟩), .int .i64 n, .int .i64 at_] T)).drew w.heap.size (.pointer (some ⟨w.heap.size + 1, 0, none⟩)) b c n at_ := by
  have h := Fd.new (w.alloc o1) b c n at_ T
  rw [World.size_alloc] at h
  exact fd_drew (h.le (Nat.le_succ _))
end
set_option maxRecDepth 100000 in
set_option maxHeartbeats 4000000 in
theorem layout_c (b : Nat) (form : Int) (w : World) (h : w.cell? ⟨b, 1, none⟩ = some (.int .i64 form)) : Calls Try.prog 53 #[.pointer (some ⟨b, 0, none⟩)] w (layPost b form w) := by
  have H := Lib.hid h
  clear h
  obtain ⟨w0, hw0⟩ : ∃ w0, w0 = w := ⟨_, rfl⟩
  have B0 := Lib.hid (show Below w.heap.size w w0 from hw0 ▸ Below.refl _ _)
  rw [← hw0] at H
  have HW := Lib.hid hw0
  suffices hmain : Calls Try.prog 53 #[.pointer (some ⟨b, 0, none⟩)] w0 (layPost b form w) by rw [HW.out] at hmain; exact hmain
  clear hw0
  go_enter Try.func53, Try.ntmps53
  go_upto_region 1 with fail
  go_cut [3, 4, 5] from 13 to 25 (fun s3 s4 s5 wx => Fd wx w.heap.size s3 b 2 4 2 ∧ Fd wx w.heap.size s4 b 3 4 3 ∧ Fd wx w.heap.size s5 b 4 4 3 ∧ Below w0.heap.size w0 wx)
  case first =>
    go_region
    all_goals (go_wp2_with fail; go_meet; exact ⟨(by first | exact Fd.le fd3_a B0.out.size | exact Fd.le fd3_b B0.out.size | exact Fd.le fd3_c B0.out.size), (by first | exact Fd.le fd3_a B0.out.size | exact Fd.le fd3_b B0.out.size | exact Fd.le fd3_c B0.out.size), (by first | exact Fd.le fd3_a B0.out.size | exact Fd.le fd3_b B0.out.size | exact Fd.le fd3_c B0.out.size), below_d ((((Below.refl _ _).alloc (Nat.le_refl _) _).alloc (by simp) _).alloc (by simp; omega) _)⟩)
  case rest =>
  obtain ⟨f3, f4, f5, hb⟩ := hcut
  obtain ⟨w1, hnew⟩ : ∃ x, x = wc := ⟨_, rfl⟩
  rw [← hnew] at hb f3 f4 f5
  rw [← hnew]
  clear hnew
  have G3 := Lib.hid f3
  have G4 := Lib.hid f4
  have G5 := Lib.hid f5
  have B1 := Lib.hid (B0.out.trans (hb.mono B0.out.size))
  replace H := Lib.hid (bcell_keep H.out hb)
  clear hb f3 f4 f5
  go_upto_region 2 with fail
  go_cut [6, 7, 8] from 25 to 37 (fun s6 s7 s8 wx => Fd wx w.heap.size s6 b 11 8 2 ∧ Fd wx w.heap.size s7 b 9 4 2 ∧ Fd wx w.heap.size s8 b 10 4 3 ∧ Below w1.heap.size w1 wx)
  case first =>
    go_region
    all_goals (go_wp2_with fail; go_meet; exact ⟨(by first | exact Fd.le fd3_a B1.out.size | exact Fd.le fd3_b B1.out.size | exact Fd.le fd3_c B1.out.size), (by first | exact Fd.le fd3_a B1.out.size | exact Fd.le fd3_b B1.out.size | exact Fd.le fd3_c B1.out.size), (by first | exact Fd.le fd3_a B1.out.size | exact Fd.le fd3_b B1.out.size | exact Fd.le fd3_c B1.out.size), below_d ((((Below.refl _ _).alloc (Nat.le_refl _) _).alloc (by simp) _).alloc (by simp; omega) _)⟩)
  case rest =>
  obtain ⟨f6, f7, f8, hb⟩ := hcut
  obtain ⟨w2, hnew⟩ : ∃ x, x = wc := ⟨_, rfl⟩
  rw [← hnew] at hb f6 f7 f8
  rw [← hnew]
  clear hnew
  have G6 := Lib.hid f6
  have G7 := Lib.hid f7
  have G8 := Lib.hid f8
  replace G3 := Lib.hid (G3.out.keep hb)
  replace G4 := Lib.hid (G4.out.keep hb)
  replace G5 := Lib.hid (G5.out.keep hb)
  have B2 := Lib.hid (B1.out.trans (hb.mono B1.out.size))
  replace H := Lib.hid (bcell_keep H.out hb)
  clear hb f6 f7 f8
  go_upto_region 3 with fail
  go_cut [9, 10] from 37 to 45 (fun s9 s10 wx => Fd wx w.heap.size s9 b 5 4 4 ∧ Fd wx w.heap.size s10 b 6 12 5 ∧ Below w2.heap.size w2 wx)
  case first =>
    go_region
    all_goals (go_wp2_with fail; go_meet; exact ⟨(by first | exact Fd.le fd2_a B2.out.size | exact Fd.le fd2_b B2.out.size), (by first | exact Fd.le fd2_a B2.out.size | exact Fd.le fd2_b B2.out.size), below_d (((Below.refl _ _).alloc (Nat.le_refl _) _).alloc (by simp) _)⟩)
  case rest =>
  obtain ⟨f9, f10, hb⟩ := hcut
  obtain ⟨w3, hnew⟩ : ∃ x, x = wc := ⟨_, rfl⟩
  rw [← hnew] at hb f9 f10
  rw [← hnew]
  clear hnew
  have G9 := Lib.hid f9
  have G10 := Lib.hid f10
  replace G3 := Lib.hid (G3.out.keep hb)
  replace G4 := Lib.hid (G4.out.keep hb)
  replace G5 := Lib.hid (G5.out.keep hb)
  replace G6 := Lib.hid (G6.out.keep hb)
  replace G7 := Lib.hid (G7.out.keep hb)
  replace G8 := Lib.hid (G8.out.keep hb)
  have B3 := Lib.hid (B2.out.trans (hb.mono B2.out.size))
  replace H := Lib.hid (bcell_keep H.out hb)
  clear hb f9 f10
  go_upto_region 4 with fail
  go_cut [11, 12] from 45 to 53 (fun s11 s12 wx => Fd wx w.heap.size s11 b 7 4 8 ∧ Fd wx w.heap.size s12 b 8 12 9 ∧ Below w3.heap.size w3 wx)
  case first =>
    go_region
    all_goals (go_wp2_with fail; go_meet; exact ⟨(by first | exact Fd.le fd2_a B3.out.size | exact Fd.le fd2_b B3.out.size), (by first | exact Fd.le fd2_a B3.out.size | exact Fd.le fd2_b B3.out.size), below_d (((Below.refl _ _).alloc (Nat.le_refl _) _).alloc (by simp) _)⟩)
  case rest =>
  obtain ⟨f11, f12, hb⟩ := hcut
  obtain ⟨w4, hnew⟩ : ∃ x, x = wc := ⟨_, rfl⟩
  rw [← hnew] at hb f11 f12
  rw [← hnew]
  clear hnew
  have G11 := Lib.hid f11
  have G12 := Lib.hid f12
  replace G3 := Lib.hid (G3.out.keep hb)
  replace G4 := Lib.hid (G4.out.keep hb)
  replace G5 := Lib.hid (G5.out.keep hb)
  replace G6 := Lib.hid (G6.out.keep hb)
  replace G7 := Lib.hid (G7.out.keep hb)
  replace G8 := Lib.hid (G8.out.keep hb)
  replace G9 := Lib.hid (G9.out.keep hb)
  replace G10 := Lib.hid (G10.out.keep hb)
  have B4 := Lib.hid (B3.out.trans (hb.mono B3.out.size))
  replace H := Lib.hid (bcell_keep H.out hb)
  clear hb f11 f12
  have c0 := H.out
  by_cases e1 : form = 1
  · subst e1
    have hl := Lib.hid (show lay 1 = [(2, 4, 2), (3, 4, 3)] from by decide)
    clear H
    obtain ⟨x3, rfl, _, c30, c31, c32⟩ := G3.out
    obtain ⟨x4, rfl, _, c40, c41, c42⟩ := G4.out
    clear G3 G4 G5 G6 G7 G8 G9 G10 G11 G12
    go_wp2_with fail
    all_goals go_ret
    all_goals unfold layPost
    all_goals rw [hl.out]
    all_goals exact ⟨w4.heap.size, rfl, B4.out.size, (heap_alloc_new w4 _), B4.out.alloc B4.out.size _⟩
  by_cases e8 : form = 8
  · subst e8
    have hl := Lib.hid (show lay 8 = [(2, 4, 2)] from by decide)
    clear H
    obtain ⟨x3, rfl, _, c30, c31, c32⟩ := G3.out
    clear G3 G4 G5 G6 G7 G8 G9 G10 G11 G12
    go_wp2_with fail
    all_goals go_ret
    all_goals unfold layPost
    all_goals rw [hl.out]
    all_goals exact ⟨w4.heap.size, rfl, B4.out.size, (heap_alloc_new w4 _), B4.out.alloc B4.out.size _⟩
  by_cases e7 : form = 7
  · subst e7
    have hl := Lib.hid (show lay 7 = [(11, 8, 2)] from by decide)
    clear H
    obtain ⟨x6, rfl, _, c60, c61, c62⟩ := G6.out
    clear G3 G4 G5 G6 G7 G8 G9 G10 G11 G12
    go_wp2_with fail
    all_goals go_ret
    all_goals unfold layPost
    all_goals rw [hl.out]
    all_goals exact ⟨w4.heap.size, rfl, B4.out.size, (heap_alloc_new w4 _), B4.out.alloc B4.out.size _⟩
  by_cases e2 : form = 2
  · subst e2
    have hl := Lib.hid (show lay 2 = [(2, 4, 2), (4, 4, 3), (7, 4, 4), (8, 12, 5)] from by decide)
    clear H
    obtain ⟨x3, rfl, _, c30, c31, c32⟩ := G3.out
    obtain ⟨x5, rfl, _, c50, c51, c52⟩ := G5.out
    clear G3 G4 G5 G6 G7 G8 G9 G10 G11 G12
    go_wp2_with fail
    go_region
    all_goals go_wp2_with fail
    all_goals go_ret
    all_goals unfold layPost
    all_goals rw [hl.out]
    all_goals exact ⟨w4.heap.size, rfl, B4.out.size, (heap_alloc_new w4 _), below_d (B4.out.alloc B4.out.size _)⟩
  by_cases e3 : form = 3
  · subst e3
    have hl := Lib.hid (show lay 3 = [(2, 4, 2), (3, 4, 3), (7, 4, 4), (8, 12, 5)] from by decide)
    clear H
    obtain ⟨x3, rfl, _, c30, c31, c32⟩ := G3.out
    obtain ⟨x4, rfl, _, c40, c41, c42⟩ := G4.out
    clear G3 G4 G5 G6 G7 G8 G9 G10 G11 G12
    go_wp2_with fail
    go_region
    all_goals go_wp2_with fail
    all_goals go_ret
    all_goals unfold layPost
    all_goals rw [hl.out]
    all_goals exact ⟨w4.heap.size, rfl, B4.out.size, (heap_alloc_new w4 _), below_d (B4.out.alloc B4.out.size _)⟩
  by_cases e4 : form = 4
  · subst e4
    have hl := Lib.hid (show lay 4 = [(11, 8, 2), (5, 4, 4), (6, 12, 5)] from by decide)
    clear H
    obtain ⟨x6, rfl, _, c60, c61, c62⟩ := G6.out
    obtain ⟨x9, rfl, _, c90, c91, c92⟩ := G9.out
    obtain ⟨x10, rfl, _, c100, c101, c102⟩ := G10.out
    clear G3 G4 G5 G6 G7 G8 G9 G10 G11 G12
    go_wp2_with fail
    all_goals go_ret
    all_goals unfold layPost
    all_goals rw [hl.out]
    all_goals exact ⟨w4.heap.size, rfl, B4.out.size, (heap_alloc_new w4 _), B4.out.alloc B4.out.size _⟩
  by_cases e9 : form = 9
  · subst e9
    have hl := Lib.hid (show lay 9 = [(5, 4, 4), (6, 12, 5)] from by decide)
    clear H
    obtain ⟨x9, rfl, _, c90, c91, c92⟩ := G9.out
    obtain ⟨x10, rfl, _, c100, c101, c102⟩ := G10.out
    clear G3 G4 G5 G6 G7 G8 G9 G10 G11 G12
    go_wp2_with fail
    all_goals go_ret
    all_goals unfold layPost
    all_goals rw [hl.out]
    all_goals exact ⟨w4.heap.size, rfl, B4.out.size, (heap_alloc_new w4 _), B4.out.alloc B4.out.size _⟩
  by_cases e5 : form = 5
  · subst e5
    have hl := Lib.hid (show lay 5 = [(9, 8, 2), (5, 4, 4), (6, 12, 5), (7, 4, 8), (8, 12, 9)] from by decide)
    clear H
    obtain ⟨x9, rfl, _, c90, c91, c92⟩ := G9.out
    obtain ⟨x10, rfl, _, c100, c101, c102⟩ := G10.out
    obtain ⟨x11, rfl, _, c110, c111, c112⟩ := G11.out
    obtain ⟨x12, rfl, _, c120, c121, c122⟩ := G12.out
    clear G3 G4 G5 G6 G7 G8 G9 G10 G11 G12
    go_wp2_with fail
    go_region
    all_goals go_wp2_with fail
    all_goals go_ret
    all_goals unfold layPost
    all_goals rw [hl.out]
    all_goals exact ⟨w4.heap.size, rfl, B4.out.size, (heap_alloc_new w4 _), below_d (B4.out.alloc B4.out.size _)⟩
  have hl := Lib.hid (show lay form = [(9, 4, 2), (10, 4, 3), (5, 4, 4), (6, 12, 5), (7, 4, 8), (8, 12, 9)] from by unfold lay; rw [if_neg e1, if_neg e8, if_neg e7, if_neg e2, if_neg e3, if_neg e4, if_neg e9, if_neg e5])
  have n1 : (form == 1) = false := by rw [beq_eq_false_iff_ne]; exact e1
  have n8 : (form == 8) = false := by rw [beq_eq_false_iff_ne]; exact e8
  have n7 : (form == 7) = false := by rw [beq_eq_false_iff_ne]; exact e7
  have n2 : (form == 2) = false := by rw [beq_eq_false_iff_ne]; exact e2
  have n3 : (form == 3) = false := by rw [beq_eq_false_iff_ne]; exact e3
  have n4 : (form == 4) = false := by rw [beq_eq_false_iff_ne]; exact e4
  have n9 : (form == 9) = false := by rw [beq_eq_false_iff_ne]; exact e9
  have n5 : (form == 5) = false := by rw [beq_eq_false_iff_ne]; exact e5
  clear H e1 e8 e7 e2 e3 e4 e9 e5
  obtain ⟨x7, rfl, _, c70, c71, c72⟩ := G7.out
  obtain ⟨x8, rfl, _, c80, c81, c82⟩ := G8.out
  obtain ⟨x9, rfl, _, c90, c91, c92⟩ := G9.out
  obtain ⟨x10, rfl, _, c100, c101, c102⟩ := G10.out
  obtain ⟨x11, rfl, _, c110, c111, c112⟩ := G11.out
  obtain ⟨x12, rfl, _, c120, c121, c122⟩ := G12.out
  clear G3 G4 G5 G6 G7 G8 G9 G10 G11 G12
  go_wp2_with fail
  all_goals go_ret
  all_goals unfold layPost
  all_goals rw [hl.out]
  all_goals exact ⟨w4.heap.size, rfl, B4.out.size, (heap_alloc_new w4 _), B4.out.alloc B4.out.size _⟩
end Go.Proofs.Ythjdjbipfdigeaa

namespace Go.Proofs.Ythjdjbipfdigeaa
open Go.RowKit Go.Shelf
set_option linter.unusedVariables false
set_option linter.unusedSimpArgs false
attribute [local go_sem] Oper.semAt_some

theorem fields_c (p : Option Addr) (w : World) : Calls Try.prog 40 #[.pointer p] w fun e w' => e = .returned (.func (.func 52) #[] #[.pointer (some ⟨w.heap.size, 0, none⟩)]) ∧ w' = w.alloc (.cells #[.pointer p] 81) := by
  go_enter Try.func40, Try.ntmps40
  go_wp2
  go_ret
  exact ⟨rfl, rfl⟩
/-- what a round keeps: the cells' blocks from n1 on -/
def KpC (n1 : Nat) (W W' : World) : Prop := W.heap.size ≤ W'.heap.size ∧ ∀ k o, n1 ≤ k → W.heap[k]? = some o → o.isCells = true → W'.heap[k]? = some o
theorem kpC_t {n1 : Nat} {A B C : World} (h : KpC n1 A B) (k : KpC n1 B C) : KpC n1 A C := ⟨Nat.le_trans h.1 k.1, fun i o hi ho hc => k.2 i o hi (h.2 i o hi ho hc) hc⟩
theorem kpC_b {n1 : Nat} {w : World} (W : World) (l : Nat) (o o' : Obj) (_ : w.heap.size ≤ l) (h : W.heap[l]? = some o) (hc : o.isCells = false) (_ : o.isWalk = false) : KpC n1 W (W.putObj l o') :=
  ⟨by simp, fun k u hk hu hcu => by
    have hne : k ≠ l := by rintro rfl; rw [h] at hu; injection hu with hu; rw [hu] at hc; rw [hc] at hcu; cases hcu
    exact (World.putObj_heap_other hne).trans hu⟩
theorem kpC_of_below {n1 : Nat} {W W' : World} (h : Below W.heap.size W W') : KpC n1 W W' := ⟨h.size, fun k o _ ho _ => (h.block k (Array.getElem?_eq_some_iff.1 ho).1).trans ho⟩
theorem kpC_set {n1 : Nat} (W : World) (p : Addr) (v : Value) (hp : p.block < n1) : KpC n1 W (W.setCell p v) := ⟨(KeepsWalks.setCell W p v).size, fun k o hk ho _ => (Below.heap_setCell W p v k (by omega)).trans ho⟩

abbrev FE := Nat × Int × Int
theorem fvals_get (b : Nat) : ∀ (l : List FE) (j : Nat) (x : FE), l[j]? = some x → (fvals b l)[j * 3]? = some (.pointer (some ⟨b, x.1, none⟩)) ∧ (fvals b l)[j * 3 + 1]? = some (.int .i64 x.2.1) ∧ (fvals b l)[j * 3 + 2]? = some (.int .i64 x.2.2)
  | [], j, x, h => by simp at h
  | y :: l, 0, x, h => by simp at h; subst h; exact ⟨rfl, rfl, rfl⟩
  | y :: l, j + 1, x, h => by
    have ih := fvals_get b l j x (by simpa using h)
    have e : fvals b (y :: l) = [.pointer (some ⟨b, y.1, none⟩), .int .i64 y.2.1, .int .i64 y.2.2] ++ fvals b l := rfl
    rw [e]
    have e2 : ∀ k, ([.pointer (some ⟨b, y.1, none⟩), .int .i64 y.2.1, .int .i64 y.2.2] ++ fvals b l : List Value)[k + 3]? = (fvals b l)[k]? := fun k => by rw [List.getElem?_append_right (by simp)]; rfl
    refine ⟨?_, ?_, ?_⟩
    · rw [show (j + 1) * 3 = j * 3 + 3 by omega, e2]; exact ih.1
    · rw [show (j + 1) * 3 + 1 = j * 3 + 1 + 3 by omega, e2]; exact ih.2.1
    · rw [show (j + 1) * 3 + 2 = j * 3 + 2 + 3 by omega, e2]; exact ih.2.2
theorem cell_of_list {w : World} {g : Nat} {l : List Value} {T : TypeId} (h : w.heap[g]? = some (.cells l.toArray T (0, 0))) {i : Nat} {v : Value} (hv : l[i]? = some v) : w.cell? ⟨g, i, none⟩ = some v := by
  rw [cell_blk h]; simpa using hv

theorem lay_len (form : Int) : (lay form).length ≤ 6 := by unfold lay; (repeat' split) <;> decide
theorem grown_of_below' {a w : World} {row : Option Nat} (h : Below a.heap.size a w) : a.grownBy w row := ⟨h.os, h.tape, h.output, h.size, fun i hi _ => h.block i hi⟩
set_option maxRecDepth 100000 in
set_option maxHeartbeats 2000000 in
theorem fields1_stops (p : FE → Prop) (n : Nat) (hn : 1 ≤ n) (b Bx n1 : Nat) (form : Int) (w : World) (hb : w.cell? ⟨b, 1, none⟩ = some (.int .i64 form)) (hx : w.cell? ⟨Bx, 0, none⟩ = some (.pointer (some ⟨b, 0, none⟩))) (h1 : n1 ≤ w.heap.size) (hp : ∀ x ∈ lay form, p x) :
    SeqStopsK Fence.wide n Try.prog 52 #[.pointer (some ⟨Bx, 0, none⟩)] (fun x : { x : FE // p x } => #[Value.agg #[.pointer (some ⟨b, x.1.1, none⟩), .int .i64 x.1.2.1, .int .i64 x.1.2.2]]) (KpC n1) (fun ys => ys.map (·.1) = lay form) (fun pre => ∃ c, c ≤ (lay form).length ∧ pre.map (·.1) = (lay form).take c) (lay form).length w := fun l J Jx W hW hA hAx hY h0 => by
  have C1 := (hW.cell (p := ⟨b, 1, none⟩) (World.block_lt_of_cell? w _ hb)).trans hb
  have C2 := (hW.cell (p := ⟨Bx, 0, none⟩) (World.block_lt_of_cell? w _ hx)).trans hx
  have HZ := hW.size
  obtain ⟨L, hL⟩ : ∃ L, lay form = L := ⟨_, rfl⟩
  obtain ⟨m, hm⟩ : ∃ m, L.length = m := ⟨_, rfl⟩
  have HM := Lib.hid hm
  have m6 : m ≤ 6 := by rw [← hm, ← hL]; exact lay_len form
  have LC := Lib.hid (layout_c b form W C1)
  unfold layPost at LC
  rw [hL] at hp
  rw [hL, hm] at LC hY
  rw [hL, hm]
  have HA := Lib.hid hA
  have HL := Lib.hid hL
  clear hm hb hx hL hA hAx
  refine callsIn_of_wp Try.func52 rfl trivial ?_ rfl
  simp only [Try.ntmps52, List.size_toArray, List.length_cons, List.length_nil, Nat.reduceAdd, Nat.reduceSub, Array.replicate_succ, Array.replicate_zero, List.push_toArray, List.append_toArray, List.nil_append, List.cons_append]
  gi_wp2_with (refine ⟨trivial, ?_⟩; gi_at_call 53; refine (callsIn_wide.2 LC.out).mono ?_; rintro e w1 ⟨g, rfl, hg, hh, hbl⟩)
  have H0 := Lib.hid (HA.out [] W w1 none h0 (grown_of_below' hbl) (fun r e => by cases e))
  have HH := Lib.hid hh
  have n1g : n1 ≤ g := by omega
  clear h0 hh hbl C1 C2 LC
  gi_loopw [8] (fun iv wr => ∃ (j : Nat) (pre : List { x : FE // p x }), j ≤ m ∧ iv = .int .i64 j ∧ pre.map (·.1) = L.take j ∧ J pre wr ∧ wr.heap[g]? = some (.cells (fvals b L).toArray 84 (0, 0))) (fun iv _ => m - (intOf iv).toNat)
  case atStart => exact ⟨0, [], by omega, rfl, rfl, H0.out, HH.out⟩
  case round =>
    obtain ⟨j, pre, hj, rfl, hpre, hJ, hgb⟩ := hrel
    have PR := Lib.hid hpre
    have PL := Lib.hid (show pre.length = j from by have := congrArg List.length hpre; rw [List.length_map, List.length_take] at this; have := HM.out; omega)
    clear hpre
    have HJ := Lib.hid hJ
    have HG := Lib.hid hgb
    clear hJ hgb H0 HH
    by_cases hlt : j < m
    · have hI : (j : Int) < (m : Int) := by omega
      obtain ⟨x, hx⟩ : ∃ x, L[j]? = some x := ⟨_, List.getElem?_eq_getElem (by rw [HM.out]; exact hlt)⟩
      obtain ⟨x, rfl⟩ : ∃ x' : { x : FE // p x }, x'.1 = x := ⟨⟨x, hp x (List.mem_of_getElem? hx)⟩, rfl⟩
      obtain ⟨f0, f1, f2⟩ := fvals_get b L j x.1 hx
      have d0 := cell_of_list HG.out f0
      have d1 := cell_of_list HG.out f1
      have d2 := cell_of_list HG.out f2
      have ST := Lib.hid (show (pre ++ [x]).map (·.1) = L.take (j + 1) by rw [List.map_append, PR.out, List.take_add_one, hx]; rfl)
      obtain ⟨fn, tmps, assign, body, hy, hR⟩ := hY pre x (wr.alloc (.cells #[.pointer (some ⟨b, x.1.1, none⟩), .int .i64 x.1.2.1, .int .i64 x.1.2.2] 84)) (HA.out _ wr _ none HJ.out (World.grownBy_alloc wr _ none) (fun r e => by cases e)) (by rw [PL.out]; exact hlt)
      clear f0 f1 f2 hx
      gi_wp2
      refine hR.mono ?_
      rintro e W3 (⟨rfl, hJ3, hk3⟩ | ⟨rfl, hJx3⟩)
      · gi_wp2
        go_roundw
        case rel => exact ⟨j + 1, _, by omega, by go_num, ST.out, hJ3, hk3.2 g _ n1g ((Below.heap_alloc wr _ g (Array.getElem?_eq_some_iff.1 HG.out).1).trans HG.out) rfl⟩
        case measure => simp [intOf]; omega
      · gi_wp2
        refine bodyPost_ret (results_none rfl _ _ _) rfl ?_
        exact ⟨⟨_, rfl⟩, .inr ⟨_, ⟨j + 1, by omega, ST.out⟩, hJx3⟩⟩
    · obtain rfl : j = m := by omega
      have HF := Lib.hid (show L.take j = L by rw [List.take_of_length_le (by rw [HM.out]; exact Nat.le_refl _)])
      gi_wp2
      go_end0
      exact ⟨⟨_, rfl⟩, .inl ⟨pre, PR.out.trans HF.out, HJ.out⟩⟩
end Go.Proofs.Ythjdjbipfdigeaa

namespace Go.Proofs.Ythjdjbipfdigeaa
open Go.RowKit
set_option linter.unusedVariables false
set_option linter.unusedSimpArgs false
/-- from 0 to most -/
def inr (n most : Int) : Bool := decide (0 ≤ n ∧ n ≤ most)
theorem inr_yes {n most : Int} (h : inr n most = true) : 0 ≤ n ∧ n ≤ most := by simpa [inr] using h
theorem inr_no {n most : Int} (h : inr n most = false) : ¬ (0 ≤ n ∧ n ≤ most) := by unfold inr at h; exact of_decide_eq_false h
/-- a valid program status word -/
def pok (m k c i q g a : Int) : Bool := inr m 255 && (inr k 15 && (inr c 65535 && (inr i 3 && (inr q 3 && (inr g 15 && inr a 16777215)))))
/-- a branch -/
def pbr (mask cc : Int) : Bool := inr mask 15 && (inr cc 3 && decide (mask / (2 ^ (3 - cc.toNat) : Nat) % 2 = 1))
end Go.Proofs.Ythjdjbipfdigeaa

namespace Go.Proofs.Ythjdjbipfdigeaa
open Go.RowKit
set_option linter.unusedVariables false
set_option linter.unusedSimpArgs false
theorem digit_c (c : Int) (h0 : 48 ≤ c) (h1 : c ≤ 255) (w : World) : Calls Try.prog 95 #[.int .u8 c] w fun e w' => e = .returned (.int .i64 (dig c)) ∧ w = w' := by
  by_cases h : 65 ≤ c
  · have hd := Lib.hid (show dig c = c - 65 + 10 by unfold dig; rw [if_pos h]; omega)
    go_enter Try.func95, Try.ntmps95
    go_wp2
    go_ret
    exact ⟨by rw [hd.out]; rfl, rfl⟩
  · have hd := Lib.hid (show dig c = c - 48 by unfold dig; rw [if_neg h])
    go_enter Try.func95, Try.ntmps95
    go_wp2
    go_ret
    exact ⟨by rw [hd.out]; rfl, rfl⟩
set_option maxRecDepth 1000000 in
set_option maxHeartbeats 4000000 in
theorem code_c (k : Nat) (hk : k < 97) (w : World) : Calls Try.prog 51 #[.int .i64 ((8 * k : Nat) : Int)] w fun e w' => e = .returned (.int .i64 (opK k)) ∧ ∃ n, w' = w.drewN n := by
  have X := Lib.hid (tb_hex k hk)
  have O := Lib.hid (tb_op k hk)
  obtain ⟨a, ha⟩ : ∃ a, 8 * k = a := ⟨_, rfl⟩
  rw [ha] at X O ⊢
  have h1 : a ≤ 768 := by omega
  have m1 : (a : Int) < 776 := by omega
  have m2 : (a : Int) + 1 < 776 := by omega
  have m3 : 0 ≤ (a : Int) + 1 := by omega
  have hw : IntKind.i64.wrap ((a : Int) + 1) = ((a + 1 : Nat) : Int) := by simp only [IntKind.wrap, IntKind.bits, IntKind.signed]; simp; omega
  clear ha hk
  go_enter Try.func51, Try.ntmps51
  go_wp2_with fail
  refine wp_region_held_drew (S := (fun w' => ∃ n, w' = w.drewN n)) (by kernel_rfl) ?_ (fun hHeld => ?_)
  · (try dsimp only); exact ⟨1, rfl⟩
  refine' takeL (i := 0) (v := _) rfl (by kernel_rfl) (by kernel_rfl) (by kernel_rfl) (fun _ _ _ h => h) (Or.inl ⟨by rfl, ?yy1⟩) (by assumption) ?rr1
  case yy1 => intro w hSw; (try dsimp only at hSw); go_simp; (try with_reducible rfl)
  try simp only [Act.put, List.setIfInBounds_toArray, List.set_cons_zero, List.set_cons_succ]
  refine' takeL (i := 1) (v := _) rfl (by kernel_rfl) (by kernel_rfl) (by kernel_rfl) (fun _ _ _ h => h) (Or.inl ⟨by rfl, ?yy2⟩) (by assumption) ?rr2
  case yy2 => intro w hSw; (try dsimp only at hSw); go_simp; (try rw [tb_get _ _ _ (by kernel_rfl)]); (try with_reducible rfl)
  try simp only [Act.put, List.setIfInBounds_toArray, List.set_cons_zero, List.set_cons_succ]
  refine' takeL (i := 4) (v := _) rfl (by kernel_rfl) (by kernel_rfl) (by kernel_rfl) (fun _ _ _ h => h) (Or.inl ⟨by rfl, ?yy3⟩) (by assumption) ?rr3
  case yy3 => intro w hSw; (try dsimp only at hSw); go_simp; (try with_reducible rfl)
  try simp only [Act.put, List.setIfInBounds_toArray, List.set_cons_zero, List.set_cons_succ]
  refine' takeL (i := 5) (v := _) rfl (by kernel_rfl) (by kernel_rfl) (by kernel_rfl) (fun _ _ _ h => h) (Or.inl ⟨by rfl, ?yy4⟩) (by assumption) ?rr4
  case yy4 => intro w hSw; (try dsimp only at hSw); go_simp; (try with_reducible rfl)
  try simp only [Act.put, List.setIfInBounds_toArray, List.set_cons_zero, List.set_cons_succ]
  refine' takeL (i := 6) (v := _) rfl (by kernel_rfl) (by kernel_rfl) (by kernel_rfl) (fun _ _ _ h => h) (Or.inl ⟨by rfl, ?yy5⟩) (by assumption) ?rr5
  case yy5 => intro w hSw; (try dsimp only at hSw); go_simp; (try rw [tb_get _ _ _ (by kernel_rfl)]); (try with_reducible rfl)
  try simp only [Act.put, List.setIfInBounds_toArray, List.set_cons_zero, List.set_cons_succ]
  refine wpAnyH_ready (rs := [2]) (by kernel_rfl) (by simp) ?_
  refine consL rfl (fun K hK => ?_) AllReadyH.nil
  go_simp
  go_at_call 95
  refine (digit_c _ (by have := X.out; omega) (by have := X.out; omega) _).mono ?_
  rintro e _ ⟨rfl, rfl⟩
  go_wp2_with fail
  refine hK.out _ _ ?_ (fun hHeld => ?_)
  · (try dsimp only); exact hHeld
  clear hK K
  try simp only [Act.put, List.setIfInBounds_toArray, List.set_cons_zero, List.set_cons_succ]
  refine' takeL (i := 3) (v := _) rfl (by kernel_rfl) (by kernel_rfl) (by kernel_rfl) (fun _ _ _ h => h) (Or.inl ⟨by rfl, ?yy6⟩) (by assumption) ?rr6
  case yy6 => intro w hSw; (try dsimp only at hSw); go_simp; (try with_reducible rfl)
  try simp only [Act.put, List.setIfInBounds_toArray, List.set_cons_zero, List.set_cons_succ]
  refine wpAnyH_ready (rs := [7]) (by kernel_rfl) (by simp) ?_
  refine consL rfl (fun K hK => ?_) AllReadyH.nil
  go_simp
  go_at_call 95
  refine (digit_c _ (by have := X.out; omega) (by have := X.out; omega) _).mono ?_
  rintro e _ ⟨rfl, rfl⟩
  go_wp2_with fail
  refine hK.out _ _ ?_ (fun hHeld => ?_)
  · (try dsimp only); exact hHeld
  clear hK K
  try simp only [Act.put, List.setIfInBounds_toArray, List.set_cons_zero, List.set_cons_succ]
  refine' takeL (i := 8) (v := _) rfl (by kernel_rfl) (by kernel_rfl) (by kernel_rfl) (fun _ _ _ h => h) (Or.inl ⟨by rfl, ?yy7⟩) (by assumption) ?rr7
  case yy7 => intro w hSw; (try dsimp only at hSw); go_simp; (try with_reducible rfl)
  try simp only [Act.put, List.setIfInBounds_toArray, List.set_cons_zero, List.set_cons_succ]
  refine' takeL (i := 9) (v := _) rfl (by kernel_rfl) (by kernel_rfl) (by kernel_rfl) (fun _ _ _ h => h) (Or.inl ⟨by rfl, ?yy8⟩) (by assumption) ?rr8
  case yy8 => intro w hSw; (try dsimp only at hSw); go_simp; (try with_reducible rfl)
  try simp only [Act.put, List.setIfInBounds_toArray, List.set_cons_zero, List.set_cons_succ]
  refine wpAnyH_done (by kernel_rfl) ?_ _
  go_wp2
  go_ret
  exact ⟨by rw [← O.out]; show Ending.returned (.int .i64 (IntKind.i64.wrap (IntKind.i64.wrap (16 * dig ↑(tb a)) + dig ↑(tb (a + 1))))) = _; rw [wrap_hex (dig_range _ (by have := X.out; omega) (by have := X.out; omega)) (dig_range _ (by have := X.out; omega) (by have := X.out; omega))], 1, rfl⟩
theorem wrap_i64_id {n : Int} (h0 : -9223372036854775808 ≤ n) (h1 : n ≤ 9223372036854775807) : IntKind.i64.wrap n = n := by
  simp only [IntKind.wrap, IntKind.bits, IntKind.signed]; simp; omega
set_option maxRecDepth 1000000 in
set_option maxHeartbeats 4000000 in
theorem row_c (op : Int) (w : World) : Calls Try.prog 39 #[.int .i64 op] w fun e w' => e = .returned (.int .i64 (rowAt op)) ∧ ∃ n, w' = w.drewN n := by
  go_enter Try.func39, Try.ntmps39
  go_wp2_with (first | refine wp_scope_straight ?_ | refine wp_label ?_)
  go_loopw [3, 4] (fun f x wr => ∃ k : Nat, k ≤ 97 ∧ f = .int .i64 (-1) ∧ x = .int .i64 ((8 * k : Nat) : Int) ∧ (∀ j, j < k → opK j < op) ∧ ∃ n, wr = w.drewN n) (fun _ x _ => 776 - (intOf x).toNat)
  case atStart => exact ⟨0, by omega, rfl, rfl, by intro j hj; omega, 0, rfl⟩
  case round =>
    obtain ⟨k, hk, rfl, rfl, hlo, n, rfl⟩ := hrel
    have LO := Lib.hid hlo
    clear hlo
    by_cases hlt : k < 97
    · have hI : ((8 * k : Nat) : Int) < 776 := by omega
      obtain ⟨a, ha⟩ : ∃ a, 8 * k = a := ⟨_, rfl⟩
      have CC := Lib.hid (code_c k hlt)
      rw [ha] at CC hI
      rw [ha]
      have HA := Lib.hid ha
      clear ha
      obtain ⟨o, ho⟩ : ∃ o, opK k = o := ⟨_, rfl⟩
      rw [ho] at CC
      have HO := Lib.hid ho
      clear ho
      rcases (show o < op ∨ o = op ∨ op < o by omega) with h | h | h
      · go_wp2_with fail
        refine (CC.out _).mono ?_
        rintro e w1 ⟨rfl, n1, rfl⟩
        go_wp2_with fail
        refine ⟨⟨k + 1, by omega, rfl, ?_, ?_, _, rfl⟩, ?_⟩
        · congr 1; have := HA.out; omega
        · intro j hj
          rcases Nat.lt_or_ge j k with h2 | h2
          · exact LO.out j h2
          · rw [show j = k by omega, HO.out]; exact h
        · have := HA.out; simp [intOf]; omega
      · have hr := Lib.hid (show rowAt op = (a : Int) by unfold rowAt; rw [ix_of hlt (HO.out.trans h), if_pos hlt, HA.out])
        have e1 : (o == op) = true := by simp [h]
        have e2 : ¬ (o < op) := by omega
        clear h
        go_wp2_with fail
        refine (CC.out _).mono ?_
        rintro e w1 ⟨rfl, n1, rfl⟩
        go_wp2_with fail
        simp only [Exit.noGoto]
        go_ret
        exact ⟨by rw [hr.out]; rfl, _, rfl⟩
      · have hr := Lib.hid (show rowAt op = -1 by
          unfold rowAt
          rw [ix_none (op := op) fun j hj => ?_, if_neg (by omega)]
          rcases Nat.lt_or_ge j k with h2 | h2
          · have := LO.out j h2; omega
          · rcases Nat.lt_or_ge k j with h3 | h3
            · have := op_lt h3 hj; have := HO.out; omega
            · rw [show j = k by omega, HO.out]; omega)
        have e1 : (o == op) = false := by rw [beq_eq_false_iff_ne]; omega
        have e2 : ¬ (o < op) := by omega
        go_wp2_with fail
        refine (CC.out _).mono ?_
        rintro e w1 ⟨rfl, n1, rfl⟩
        go_wp2_with fail
        simp only [Exit.noGoto]
        go_ret
        exact ⟨by rw [hr.out]; rfl, _, rfl⟩
    · obtain rfl : k = 97 := by omega
      have hr := Lib.hid (show rowAt op = -1 by
        unfold rowAt
        rw [ix_none (op := op) fun j hj => by have := LO.out j hj; omega, if_neg (by omega)])
      go_wp2_with fail
      simp only [Exit.noGoto]
      go_ret
      exact ⟨by rw [hr.out]; rfl, _, rfl⟩
set_option maxRecDepth 1000000 in
set_option maxHeartbeats 4000000 in
theorem form_c (op : Int) (w : World) : Calls Try.prog 25 #[.int .i64 op] w fun e w' => e = .returned (.tuple #[.int .i64 (fmOf op), .bool (isOp op)]) ∧ ∃ n, w' = w.drewN n := by
  by_cases hx : ix op < 97
  · have F := Lib.hid (tb_fm _ hx)
    have R := Lib.hid (row_c op)
    have r1 := Lib.hid (show fmOf op = fmK (ix op) from by unfold fmOf; rw [if_pos hx])
    have r2 := Lib.hid (show isOp op = true from by unfold isOp; simpa using hx)
    have r3 := Lib.hid (show rowAt op = ((8 * ix op : Nat) : Int) from by unfold rowAt; rw [if_pos hx])
    obtain ⟨a, ha⟩ : ∃ a, 8 * ix op = a := ⟨_, rfl⟩
    rw [r3.out, ha] at R
    rw [ha] at F
    rw [r1.out, r2.out]
    have h1 : a ≤ 768 := by omega
    clear ha hx r1 r2 r3
    have m1 : 0 ≤ (a : Int) + 8 - 1 := by omega
    have m2 : (a : Int) + 8 - 1 < 776 := by omega
    have m3 : ¬ ((a : Int) < 0) := by omega
    go_enter Try.func25, Try.ntmps25
    go_wp2_with (go_at_call 39; refine (R.out _).mono ?_; rintro e w1 ⟨rfl, n1, rfl⟩)
    go_ret2
    refine ⟨?_, _, rfl⟩
    have e1 : ((tb (a + 7) : Int) - 97) % 256 + 1 = fmK (ix op) := by have := F.out; omega
    rw [tb_get _ _ _ (by kernel_rfl), e1]; rfl
  · have R := Lib.hid (row_c op)
    have r1 := Lib.hid (show fmOf op = 0 from by unfold fmOf; rw [if_neg hx])
    have r2 := Lib.hid (show isOp op = false from by unfold isOp; simpa using hx)
    have r3 := Lib.hid (show rowAt op = -1 from by unfold rowAt; rw [if_neg hx])
    rw [r3.out] at R
    rw [r1.out, r2.out]
    clear hx r1 r2 r3
    go_enter Try.func25, Try.ntmps25
    go_wp2_with (go_at_call 39; refine (R.out _).mono ?_; rintro e w1 ⟨rfl, n1, rfl⟩)
    go_ret2
    exact ⟨rfl, _, rfl⟩
theorem priv_c (op : Int) (w : World) : Calls Try.prog 26 #[.int .i64 op] w fun e w' => e = .returned (.bool (privB op)) ∧ w = w' := by
  by_cases h : op = 8 ∨ op = 9 ∨ op = 128 ∨ op = 130 ∨ op = 156 ∨ op = 157 ∨ op = 158 ∨ op = 159
  · have hr := Lib.hid (show privB op = true from by unfold privB; rw [decide_eq_true_iff]; omega)
    rcases h with rfl | rfl | rfl | rfl | rfl | rfl | rfl | rfl <;>
    · go_enter Try.func26, Try.ntmps26
      go_wp2
      go_ret
      exact ⟨by rw [hr.out]; rfl, rfl⟩
  · have hr := Lib.hid (show privB op = false from by unfold privB; rw [decide_eq_false_iff_not]; omega)
    have p8 : (op == 8) = false := by rw [beq_eq_false_iff_ne]; omega
    have p9 : (op == 9) = false := by rw [beq_eq_false_iff_ne]; omega
    have p128 : (op == 128) = false := by rw [beq_eq_false_iff_ne]; omega
    have p130 : (op == 130) = false := by rw [beq_eq_false_iff_ne]; omega
    have p156 : (op == 156) = false := by rw [beq_eq_false_iff_ne]; omega
    have p157 : (op == 157) = false := by rw [beq_eq_false_iff_ne]; omega
    have p158 : (op == 158) = false := by rw [beq_eq_false_iff_ne]; omega
    have p159 : (op == 159) = false := by rw [beq_eq_false_iff_ne]; omega
    clear h
    go_enter Try.func26, Try.ntmps26
    go_wp2
    go_ret
    exact ⟨by rw [hr.out]; rfl, rfl⟩
end Go.Proofs.Ythjdjbipfdigeaa

namespace Go.Proofs.Ythjdjbipfdigeaa
open Go.RowKit
set_option linter.unusedVariables false
set_option linter.unusedSimpArgs false
def eqiB (op fm r1 r2 x2 b1 d1 b2 d2 l1 l2 i2 op' fm' r1' r2' x2' b1' d1' b2' d2' l1' l2' i2' : Int) : Bool := op == op' && (fm == fm' && (r1 == r1' && (r2 == r2' && (x2 == x2' && (b1 == b1' && (d1 == d1' && (b2 == b2' && (d2 == d2' && (l1 == l1' && (l2 == l2' && (i2 == i2')))))))))))
set_option maxHeartbeats 1000000 in
theorem eqi_run (op fm r1 r2 x2 b1 d1 b2 d2 l1 l2 i2 op' fm' r1' r2' x2' b1' d1' b2' d2' l1' l2' i2' : Int) (w : World) : (Op.equalIn 10000 25 (.agg #[.int .i64 op, .int .i64 fm, .int .i64 r1, .int .i64 r2, .int .i64 x2, .int .i64 b1, .int .i64 d1, .int .i64 b2, .int .i64 d2, .int .i64 l1, .int .i64 l2, .int .i64 i2]) (.agg #[.int .i64 op', .int .i64 fm', .int .i64 r1', .int .i64 r2', .int .i64 x2', .int .i64 b1', .int .i64 d1', .int .i64 b2', .int .i64 d2', .int .i64 l1', .int .i64 l2', .int .i64 i2'])).run Try.prog w = .ok (eqiB op fm r1 r2 x2 b1 d1 b2 d2 l1 l2 i2 op' fm' r1' r2' x2' b1' d1' b2' d2' l1' l2' i2') w := by
  have hS : Try.prog.underlying 25 = some (.struct (Try.prog.fieldsOf 25)) := by kernel_rfl
  have hp : Try.prog.stoodInHeld 25 = false := by kernel_rfl
  rw [show (10000 : Nat) = 9999 + 1 from rfl, run_equalIn_agg w 9999 25 _ _ hS hp]
  simp only [Program.fieldsOf, Try.underlying25]
  go_simp
  unfold eqiB
  by_cases h_op : op = op'
  case neg => simp [h_op]
  subst h_op
  by_cases h_fm : fm = fm'
  case neg => simp [h_fm]
  subst h_fm
  by_cases h_r1 : r1 = r1'
  case neg => simp [h_r1]
  subst h_r1
  by_cases h_r2 : r2 = r2'
  case neg => simp [h_r2]
  subst h_r2
  by_cases h_x2 : x2 = x2'
  case neg => simp [h_x2]
  subst h_x2
  by_cases h_b1 : b1 = b1'
  case neg => simp [h_b1]
  subst h_b1
  by_cases h_d1 : d1 = d1'
  case neg => simp [h_d1]
  subst h_d1
  by_cases h_b2 : b2 = b2'
  case neg => simp [h_b2]
  subst h_b2
  by_cases h_d2 : d2 = d2'
  case neg => simp [h_d2]
  subst h_d2
  by_cases h_l1 : l1 = l1'
  case neg => simp [h_l1]
  subst h_l1
  by_cases h_l2 : l2 = l2'
  case neg => simp [h_l2]
  subst h_l2
  by_cases h_i2 : i2 = i2'
  case neg => simp [h_i2]
  subst h_i2
  simp
theorem eqi_guard : Try.prog.eqGuardType Try.prog.depth 25 = false := by kernel_rfl
theorem eqiB_iff (op fm r1 r2 x2 b1 d1 b2 d2 l1 l2 i2 op' fm' r1' r2' x2' b1' d1' b2' d2' l1' l2' i2' : Int) : eqiB op fm r1 r2 x2 b1 d1 b2 d2 l1 l2 i2 op' fm' r1' r2' x2' b1' d1' b2' d2' l1' l2' i2' = true ↔ op = op' ∧ fm = fm' ∧ r1 = r1' ∧ r2 = r2' ∧ x2 = x2' ∧ b1 = b1' ∧ d1 = d1' ∧ b2 = b2' ∧ d2 = d2' ∧ l1 = l1' ∧ l2 = l2' ∧ i2 = i2' := by
  unfold eqiB; simp only [Bool.and_eq_true, beq_iff_eq]
end Go.Proofs.Ythjdjbipfdigeaa

namespace Go.Proofs.Ythjdjbipfdigeaa
open Go.RowKit
set_option linter.unusedVariables false
section
variable {F : Fence} {n : Nat} {P : Program}
def noDefer (o : Oper) : Bool := match o.op with | .defer _ => false | _ => true
theorem noDefer_ne {o : Oper} (h : noDefer o = true) (c) : o.op ≠ .defer c := by
  intro e; unfold noDefer at h; rw [e] at h; cases h
theorem opIn_round {o : Oper} {a : Act} {w : World} {K : Act → World → Prop} {Q : Exit → Act → World → Prop} (l : Nat) (hro : F.round = none) (hd : noDefer o = true) (h : o.wpIn F n P a w K Q) : o.wpIn (F.inRound l) n P a w K Q := by
  unfold Oper.wpIn at *
  obtain ⟨h1, h2⟩ := h
  rw [hro, Oper.semAt_none] at h2
  refine ⟨h1, ?_⟩
  rw [Fence.inRound_round, Oper.semAt_some l a.eval o (noDefer_ne hd)]
  exact h2
theorem opsIn_round {ops : Array Oper} {i : Nat} {a : Act} {w : World} {K K' : Act → World → Prop} {Q : Exit → Act → World → Prop} (l : Nat) (hro : F.round = none) (hd : ops.toList.all noDefer = true) (hK : ∀ a w, K a w → K' a w) (h : wpOpIn F n P ops Q i K a w) : wpOpIn (F.inRound l) n P ops Q i K' a w := by
  unfold wpOpIn at *
  cases ho : ops[i]? with
  | none => simp only [ho] at h ⊢; exact hK _ _ h
  | some o =>
    simp only [ho] at h ⊢
    have hn : noDefer o = true := List.all_eq_true.1 hd o (Array.mem_toList_iff.2 (Array.mem_of_getElem? ho))
    split
    · next hw => rw [if_pos hw] at h; exact Oper.wpIn_mono hK (opIn_round l hro hn h)
    · next hw => rw [if_neg hw] at h; exact ⟨h.1, hK _ _ h.2⟩
theorem anyIn_round {ops : Array Oper} {Q : Exit → Act → World → Prop} (l : Nat) (hro : F.round = none) (hd : ops.toList.all noDefer = true) {md : Region.Mode} : ∀ (fuel : Nat) (listed : Array Bool) (a : Act) (w : World), wpAnyIn F n P md ops Q fuel listed a w → wpAnyIn (F.inRound l) n P md ops Q fuel listed a w
  | 0, _, _, _, h => h
  | fuel + 1, _, _, _, h => ⟨h.1, fun i hi => opsIn_round l hro hd (fun a w h => anyIn_round l hro hd fuel _ a w h) (h.2 i hi)⟩
theorem wpIn_round_quiet {l id : Nat} {Q : Exit → Act → World → Prop} {a : Act} {w : World} {L : List Oper} (hro : F.round = none) (hd : L.all noDefer = true) (hm : P.follows .mixedOrders = true) (hB : Region.lexB .any L.toArray = true)
    (h : wpQuietIn F n P L.toArray (fun w' => ∃ n, w' = w.drewN n) (fun a' => ∀ w', (∃ n, w' = w.drewN n) → Q .normal a' w') L a) : (Code.region id L.toArray true).wpIn (F.inRound l) n P Q a w := by
  simp only [Region.lexB, Bool.and_eq_true] at hB
  refine wpIn_region_any hm (anyIn_round l hro (by simpa using hd) _ _ _ _ (wpAnyIn_of_quiet (C := fun w' => ∃ n, w' = w.drewN n) (Q := fun a' => ∀ w', (∃ n, w' = w.drewN n) → Q .normal a' w') hro (fun _ w' hw' h => h w' hw') _ _ _ _ ⟨1, rfl⟩ ?_))
  have := wpAnyQIn_lex (F := F) (n := n) (C := fun w' => ∃ n, w' = w.drewN n) (md := .any) hB.1 L 0 (Array.replicate L.toArray.size false) a (by simp) (by simpa using hB.2) h
  simpa using this
end
end Go.Proofs.Ythjdjbipfdigeaa

namespace Go.Proofs.Ythjdjbipfdigeaa
open Go.RowKit Go.Shelf
set_option linter.unusedVariables false
set_option linter.unusedSimpArgs false
attribute [local go_sem] Oper.semAt_some eqi_run eqi_guard

/-- the fields of a format, one after another: in range? each is set to zero -/
def scan : List FE → List Int → Option (List Int)
  | [], xs => some xs
  | f :: fs, xs => if 0 ≤ xs.getD f.1 0 ∧ xs.getD f.1 0 < 2 ^ f.2.1.toNat then scan fs (xs.set f.1 0) else none
theorem scan_app : ∀ (l : List FE) (f : FE) (xs : List Int), scan (l ++ [f]) xs = (scan l xs).bind fun ys => if 0 ≤ ys.getD f.1 0 ∧ ys.getD f.1 0 < 2 ^ f.2.1.toNat then some (ys.set f.1 0) else none
  | [], f, xs => by simp [scan]
  | g :: l, f, xs => by
    simp only [scan, List.cons_append]
    by_cases h : 0 ≤ xs.getD g.1 0 ∧ xs.getD g.1 0 < 2 ^ g.2.1.toNat
    · rw [if_pos h, if_pos h, scan_app l f]
    · rw [if_neg h, if_neg h]; rfl
theorem scan_pre : ∀ (l m : List FE) (xs : List Int), scan l xs = none → scan (l ++ m) xs = none
  | [], m, xs, h => by simp [scan] at h
  | f :: l, m, xs, h => by
    simp only [scan, List.cons_append] at h ⊢
    split
    · next hc => rw [if_pos hc] at h; exact scan_pre l m _ h
    · rfl
theorem scan_take {l : List FE} {c : Nat} {xs : List Int} (h : scan (l.take c) xs = none) : scan l xs = none := by
  have := scan_pre _ (l.drop c) xs h
  rwa [List.take_append_drop] at this
theorem list_12 {α : Type} : ∀ {l : List α}, l.length = 12 → ∃ a b c d e f g h i j k m, l = [a, b, c, d, e, f, g, h, i, j, k, m]
  | [a, b, c, d, e, f, g, h, i, j, k, m], _ => ⟨a, b, c, d, e, f, g, h, i, j, k, m, rfl⟩
/-- what Check answers -/
def chk (op fm : Int) (xs : List Int) : Int := if isOp op = true ∧ fmOf op = fm then (match scan (lay fm) xs with | none => 6 | some ys => if ys = [op, fm, 0, 0, 0, 0, 0, 0, 0, 0, 0, 0] then 0 else 6) else 80
theorem dBelow' {B : Nat} {a w : World} (h : Below B a w) (n : Nat) : Below B a (w.drewN n) := ⟨h.os, h.tape, h.output, h.size, h.block⟩
def okF (x : FE) : Prop := 2 ≤ x.1 ∧ x.1 ≤ 11 ∧ (x.2.1 = 4 ∨ x.2.1 = 8 ∨ x.2.1 = 12)
theorem lay_ok (form : Int) : ∀ x ∈ lay form, okF x := by
  unfold lay okF; (repeat' split) <;> decide
theorem alloc4_heap (w : World) (o0 o1 o2 o3 : Obj) (n : Nat) : (((((w.alloc o0).alloc o1).drewN n).alloc o2).alloc o3).heap[w.heap.size]? = some o0 := by
  rw [Below.heap_alloc _ _ _ (by simp; omega), Below.heap_alloc _ _ _ (by simp; omega)]
  show ((w.alloc o0).alloc o1).heap[w.heap.size]? = some o0
  rw [Below.heap_alloc _ _ _ (by simp)]
  exact heap_alloc_new w o0
theorem alloc4_heap1 (w : World) (o0 o1 o2 o3 : Obj) (n : Nat) : (((((w.alloc o0).alloc o1).drewN n).alloc o2).alloc o3).heap[w.heap.size + 1]? = some o1 := by
  rw [Below.heap_alloc _ _ _ (by simp), Below.heap_alloc _ _ _ (by simp)]
  show ((w.alloc o0).alloc o1).heap[w.heap.size + 1]? = some o1
  have := heap_alloc_new (w.alloc o0) o1
  rwa [World.size_alloc] at this
theorem alloc4_heap2 (w : World) (o0 o1 o2 o3 : Obj) (n : Nat) : (((((w.alloc o0).alloc o1).drewN n).alloc o2).alloc o3).heap[w.heap.size + 1 + 1]? = some o2 := by
  rw [Below.heap_alloc _ _ _ (by simp)]
  have := heap_alloc_new (((w.alloc o0).alloc o1).drewN n) o2
  rwa [show (((w.alloc o0).alloc o1).drewN n).heap.size = w.heap.size + 1 + 1 by simp] at this
theorem alloc4_heap3 (w : World) (o0 o1 o2 o3 : Obj) (n : Nat) : (((((w.alloc o0).alloc o1).drewN n).alloc o2).alloc o3).heap[w.heap.size + 1 + 1 + 1]? = some o3 := by
  have := heap_alloc_new ((((w.alloc o0).alloc o1).drewN n).alloc o2) o3
  rwa [show ((((w.alloc o0).alloc o1).drewN n).alloc o2).heap.size = w.heap.size + 1 + 1 + 1 by simp] at this
/-- a block of cells abides what a loop's law turns -/
theorem blk_kept {A B : World} {k : Nat} {cs : Array Value} {T : TypeId} {row : Option Nat} (h : A.heap[k]? = some (.cells cs T (0, 0))) (hg : A.grownBy B row) (hr : ∀ r, row = some r → ∃ o : Obj, A.heap[r]? = some o ∧ o.isCells = false) : B.heap[k]? = some (.cells cs T (0, 0)) := by
  refine (hg.block k (Array.getElem?_eq_some_iff.1 h).1 (fun e => ?_)).trans h
  obtain ⟨o, ho, hc⟩ := hr k e.symm
  rw [h] at ho; injection ho with ho; rw [← ho] at hc; cases hc
/-- a struct of numbers in a block -/
def Blk (W : World) (g : Nat) (T : TypeId) (ys : List Int) : Prop := W.heap[g]? = some (.cells (ys.map (Value.int .i64)).toArray T (0, 0))
theorem Blk.cell {W : World} {g : Nat} {T : TypeId} {ys : List Int} (h : Blk W g T ys) {c : Nat} (hc : c < ys.length) : W.cell? ⟨g, c, none⟩ = some (.int .i64 (ys.getD c 0)) := by
  rw [cell_blk h]; simp [List.getD_eq_getElem?_getD, hc]
theorem Blk.free {W : World} {g : Nat} {T : TypeId} {ys : List Int} (h : Blk W g T ys) (c : Nat) : W.frozen? ⟨g, c, none⟩ = false := by
  unfold Blk at h; simp [World.frozen?, h]
theorem Blk.set_ {W : World} {g : Nat} {T : TypeId} {ys : List Int} (h : Blk W g T ys) (c : Nat) (v : Int) : Blk (W.setCell ⟨g, c, none⟩ (.int .i64 v)) g T (ys.set c v) := by
  unfold Blk at *
  rw [setCell_eq_setRow W g c _ T (0, 0) _ h, setRow_heap W g _ _ _ _ h]
  simp [List.map_set]
theorem Blk.other {W : World} {g : Nat} {T : TypeId} {ys : List Int} (h : Blk W g T ys) {p : Addr} (v : Value) (hp : p.block ≠ g) : Blk (W.setCell p v) g T ys := (Below.heap_setCell W p v g (Ne.symm hp)).trans h
theorem Blk.alloc {W : World} {g : Nat} {T : TypeId} {ys : List Int} (h : Blk W g T ys) (o : Obj) : Blk (W.alloc o) g T ys := (Below.heap_alloc W o g (Array.getElem?_eq_some_iff.1 h).1).trans h
theorem Blk.keep {W W' : World} {g : Nat} {T : TypeId} {ys : List Int} (h : Blk W g T ys) (hb : Below W.heap.size W W') : Blk W' g T ys := (hb.block _ (Array.getElem?_eq_some_iff.1 h).1).trans h
theorem Blk.kept {A B : World} {g : Nat} {T : TypeId} {ys : List Int} {row : Option Nat} (h : Blk A g T ys) (hg : A.grownBy B row) (hr : ∀ r, row = some r → ∃ o : Obj, A.heap[r]? = some o ∧ o.isCells = false) : Blk B g T ys := blk_kept h hg hr
theorem Blk.drewN {W : World} {g : Nat} {T : TypeId} {ys : List Int} (h : Blk W g T ys) (n : Nat) : Blk (W.drewN n) g T ys := h
theorem keeps_drewN (W : World) (n : Nat) : KeepsOthers W (W.drewN n) := ⟨Nat.le_refl _, fun _ _ h _ => h⟩
theorem kpC_drewN (n1 : Nat) (W : World) (n : Nat) : KpC n1 W (W.drewN n) := ⟨Nat.le_refl _, fun _ _ _ h _ => h⟩
/-- the round's variable f, boxed -/
def FBox (W : World) (fb rb : Nat) (x : FE) : Prop := W.heap[fb]? = some (.cells #[.pointer (some ⟨rb, x.1, none⟩), .int .i64 x.2.1, .int .i64 x.2.2] 84 (0, 0))
set_option maxRecDepth 100000 in
set_option maxHeartbeats 4000000 in
theorem icheck_c (op fm r1 r2 x2 b1 d1 b2 d2 l1 l2 i2 : Int) (w : World) : Calls Try.prog 28 #[.agg #[.int .i64 op, .int .i64 fm, .int .i64 r1, .int .i64 r2, .int .i64 x2, .int .i64 b1, .int .i64 d1, .int .i64 b2, .int .i64 d2, .int .i64 l1, .int .i64 l2, .int .i64 i2]] w fun e w' => e = .returned (.int .i64 (chk op fm [op, fm, r1, r2, x2, b1, d1, b2, d2, l1, l2, i2])) ∧ Below w.heap.size w w' := by
  refine (callsIn_wide (n := 5)).1 ?_
  refine callsIn_of_wp_marks Try.func28 rfl trivial ?_ rfl
  simp only [Try.ntmps28, List.size_toArray, List.length_cons, List.length_nil, Nat.reduceAdd, Nat.reduceSub, Array.replicate_succ, Array.replicate_zero, List.push_toArray, List.append_toArray, List.nil_append, List.cons_append]
  obtain ⟨io, hio⟩ : ∃ x, isOp op = x := ⟨_, rfl⟩
  obtain ⟨fo, hfo⟩ : ∃ x, fmOf op = x := ⟨_, rfl⟩
  have FC := Lib.hid (form_c op)
  rw [hio, hfo] at FC
  by_cases hA : io = true ∧ fo = fm
  · obtain ⟨rfl, rfl⟩ := hA
    have hne : (fo != fo) = false := by simp
    have hr := Lib.hid (show chk op fo [op, fo, r1, r2, x2, b1, d1, b2, d2, l1, l2, i2] = (match scan (lay fo) [op, fo, r1, r2, x2, b1, d1, b2, d2, l1, l2, i2] with | none => 6 | some ys => if ys = [op, fo, 0, 0, 0, 0, 0, 0, 0, 0, 0, 0] then 0 else 6) from by unfold chk; rw [if_pos ⟨hio, hfo⟩])
    clear hio hfo
    gi_wp2_with (refine ⟨trivial, ?_⟩; first | (gi_at_call 25; refine (callsIn_wide.2 (FC.out _)).mono ?_; rintro e w1 ⟨rfl, n1, rfl⟩) | (gi_at_call 40; refine (callsIn_wide.2 (fields_c _ _)).mono ?_; rintro e w1 ⟨rfl, rfl⟩))
    obtain ⟨W0, hW0⟩ : ∃ W0, (((((w.alloc (.cells #[.int .i64 op, .int .i64 fo, .int .i64 r1, .int .i64 r2, .int .i64 x2, .int .i64 b1, .int .i64 d1, .int .i64 b2, .int .i64 d2, .int .i64 l1, .int .i64 l2, .int .i64 i2] 25)).alloc (.cells #[.int .i64 0] 41)).drewN n1).alloc (.cells #[.int .i64 op, .int .i64 fo, .int .i64 r1, .int .i64 r2, .int .i64 x2, .int .i64 b1, .int .i64 d1, .int .i64 b2, .int .i64 d2, .int .i64 l1, .int .i64 l2, .int .i64 i2] 25)).alloc (.cells #[.pointer (some ⟨w.heap.size + 1 + 1, 0, none⟩)] 81)) = W0 := ⟨_, rfl⟩
    rw [hW0]
    have hz : W0.heap.size = w.heap.size + 4 := by rw [← hW0]; simp
    have hB0 : Below w.heap.size w W0 := by rw [← hW0]; exact ((dBelow' (((Below.refl w.heap.size w).alloc (Nat.le_refl _) _).alloc (by simp) _) n1).alloc (by simp; omega) _).alloc (by simp; omega) _
    have q0 : Blk W0 w.heap.size 25 [op, fo, r1, r2, x2, b1, d1, b2, d2, l1, l2, i2] := by rw [← hW0]; exact alloc4_heap _ _ _ _ _ _
    have q1 : Blk W0 (w.heap.size + 1) 41 [0] := by rw [← hW0]; exact alloc4_heap1 _ _ _ _ _ _
    have q2 : Blk W0 (w.heap.size + 1 + 1) 25 [op, fo, r1, r2, x2, b1, d1, b2, d2, l1, l2, i2] := by rw [← hW0]; exact alloc4_heap2 _ _ _ _ _ _
    have q3 : W0.heap[w.heap.size + 1 + 1 + 1]? = some (.cells #[.pointer (some ⟨w.heap.size + 1 + 1, 0, none⟩)] 81 (0, 0)) := by rw [← hW0]; exact alloc4_heap3 _ _ _ _ _ _
    clear hW0
    obtain ⟨xs, hxs⟩ : ∃ xs, xs = [op, fo, r1, r2, x2, b1, d1, b2, d2, l1, l2, i2] := ⟨_, rfl⟩
    rw [← hxs] at q2
    have XS := Lib.hid hxs
    have xl : xs.length = 12 := by rw [hxs]; rfl
    refine wpIn_rangeFunc_ownH rfl (by omega) (gf := 52) (lb := #[.pointer (some ⟨w.heap.size + 1 + 1 + 1, 0, none⟩)]) rfl trivial (enters_of Try.func52 (by kernel_rfl) rfl)
      (fields1_stops okF (5 - 1) (by omega) (w.heap.size + 1 + 1) (w.heap.size + 1 + 1 + 1) W0.heap.size fo W0 (by rw [q2.cell (by omega), hxs]; rfl) (by rw [cell_blk q3]; rfl) (Nat.le_refl _) (lay_ok fo)) kpC_t kpC_b (Below.refl _ _) (fun _ => rfl)
      (fun pre W => (W0.heap.size ≤ W.heap.size ∧ ∃ ys, scan (pre.map (·.1)) xs = some ys ∧ ys.length = 12 ∧ Blk W (w.heap.size + 1 + 1) 25 ys ∧ Blk W w.heap.size 25 [op, fo, r1, r2, x2, b1, d1, b2, d2, l1, l2, i2] ∧ Blk W (w.heap.size + 1) 41 [0]) ∧ Below w.heap.size w W)
      (fun c pre W => (c = .ret ∧ scan (pre.map (·.1)) xs = none ∧ Blk W (w.heap.size + 1) 41 [6]) ∧ Below w.heap.size w W)
      (OwnFrom.and (Own.from (fun s A B row hs hg hr => by obtain ⟨h0, ys, h1, h2, h3, h4, h5⟩ := hs; exact ⟨Nat.le_trans h0 hg.size, ys, h1, h2, h3.kept hg hr, h4.kept hg hr, h5.kept hg hr⟩) _) (ownFrom_below (Nat.le_refl _) (by omega)))
      (fun c => OwnFrom.and (Own.from (fun s A B row hs hg hr => ⟨hs.1, hs.2.1, hs.2.2.kept hg hr⟩) _) (ownFrom_below (Nat.le_refl _) (by omega)))
      ⟨⟨Nat.le_refl _, xs, rfl, xl, q2, q0, q1⟩, hB0⟩
      (fun x a' W => ∃ fb, W0.heap.size ≤ fb ∧ FBox W fb (w.heap.size + 1 + 1) x.1 ∧ a' = { tmps := #[.agg #[.int .i64 op, .int .i64 fo, .int .i64 r1, .int .i64 r2, .int .i64 x2, .int .i64 b1, .int .i64 d1, .int .i64 b2, .int .i64 d2, .int .i64 l1, .int .i64 l2, .int .i64 i2], .pointer (some ⟨w.heap.size, 0, none⟩), .pointer (some ⟨w.heap.size + 1, 0, none⟩), .int .i64 fo, .bool true, .pointer (some ⟨w.heap.size + 1 + 1, 0, none⟩), .pointer (some ⟨fb, 0, none⟩), .tuple #[.int .i64 fo, .bool true], .pointer (some ⟨w.heap.size, 0, none⟩), .int .i64 op, .tuple #[.int .i64 fo, .bool true], .int .i64 fo, .bool true, .bool true, .bool false, .bool false, .int .i64 fo, .pointer (some ⟨w.heap.size, 1, none⟩), .int .i64 fo, .bool false, .bool false, .agg #[.int .i64 op, .int .i64 fo, .int .i64 r1, .int .i64 r2, .int .i64 x2, .int .i64 b1, .int .i64 d1, .int .i64 b2, .int .i64 d2, .int .i64 l1, .int .i64 l2, .int .i64 i2], .func (.func 52) #[] #[.pointer (some ⟨w.heap.size + 1 + 1 + 1, 0, none⟩)], .agg #[.pointer (some ⟨w.heap.size + 1 + 1, x.1.1, none⟩), .int .i64 x.1.2.1, .int .i64 x.1.2.2], undef, undef, undef, undef, undef, undef, undef, undef, undef, undef, undef, undef, undef, undef, undef, undef, undef, undef, undef, undef, undef, undef, undef, undef, undef], defers := [] })
      (fun x a' => Own.from (fun s A B row hs hg hr => by obtain ⟨fb, h1, h2, h3⟩ := hs; exact ⟨fb, h1, blk_kept h2 hg hr, h3⟩) _) ?assign ?body ?done ?stop
    case assign =>
      intro l pre x W K hI hK
      gi_wp2
      obtain ⟨⟨h0, ys, h1, h2, h3, h4, h5⟩, hB⟩ := hI
      exact hK _ _ ((KeepsOthers.alloc _ _).from _) (kpC_of_below (al_keep W _)) ⟨⟨by simp; omega, ys, h1, h2, h3.alloc _, h4.alloc _, h5.alloc _⟩, hB.alloc (by omega) _⟩ ⟨W.heap.size, h0, heap_alloc_new W _, rfl⟩
    case body =>
      rintro l pre ⟨⟨c, n, at_⟩, ok1, ok2, ok3⟩ a' W hl hrr ⟨⟨h0, ys, h1, h2, h3, h4, h5⟩, hB⟩ ⟨fb, hfb, hF, rfl⟩ hlen
      have k0 : W.cell? ⟨fb, 0, none⟩ = some (.pointer (some ⟨w.heap.size + 1 + 1, c, none⟩)) := by rw [cell_blk hF]; rfl
      have k1 : W.cell? ⟨fb, 1, none⟩ = some (.int .i64 n) := by rw [cell_blk hF]; rfl
      have k2 := h3.cell (c := c) (by dsimp only at ok2; omega)
      have k3 := h3.free c
      have k4 := h5.cell (c := 0) (by decide)
      have k5 := h5.free 0
      have SC := Lib.hid (scan_app (pre.map (·.1)) (c, n, at_) xs)
      rw [h1] at SC
      obtain ⟨v, hv⟩ : ∃ v, ys.getD c 0 = v := ⟨_, rfl⟩
      rw [hv] at k2
      have HS := Lib.hid (And.intro h2 (And.intro h3 (And.intro h4 (And.intro h5 (And.intro hB (And.intro h0 hv))))))
      dsimp only at ok1 ok2 ok3
      clear h1 h2 h3 h4 h5 hB h0 hF hv hr
      have hmx : Try.prog.follows .mixedOrders = true := by kernel_rfl
      rcases ok3 with rfl | rfl | rfl
      · have pw : (2 : Int) ^ Int.toNat 4 = 16 := by decide
        have SC' := SC
        by_cases e1 : v < 0
        · gi_wp2
          refine wpIn_round_quiet rfl (by kernel_rfl) (by kernel_rfl) (by kernel_rfl) ?_
          repeat (gi_big_quiet_step (fail))
          refine wpQuietIn_nil ?_
          rintro _ ⟨nq, rfl⟩
          gi_wp2
          obtain ⟨h2, h3, h4, h5, hB, h0, hv⟩ := HS.out
          exact ⟨((keeps_drewN W nq).trans (KeepsOthers.setCell _ _ _)).from _, ⟨rfl, by rw [List.map_append]; refine SC.out.trans ?_; rw [Option.bind_some, if_neg (by rw [hv, pw]; omega)], (h5.drewN nq).set_ 0 6⟩, (dBelow' hB nq).setCell (p := ⟨w.heap.size + 1, 0, none⟩) (by simp) _⟩
        · have g1 : decide (v < 0) = false := by rw [decide_eq_false_iff_not]; exact e1
          by_cases e2 : 16 ≤ v
          · have g2 : decide (16 ≤ v) = true := by rw [decide_eq_true_iff]; exact e2
            clear e1
            gi_wp2
            refine wpIn_round_quiet rfl (by kernel_rfl) (by kernel_rfl) (by kernel_rfl) ?_
            repeat (gi_big_quiet_step (fail))
            refine wpQuietIn_nil ?_
            rintro _ ⟨nq, rfl⟩
            gi_wp2
            obtain ⟨h2, h3, h4, h5, hB, h0, hv⟩ := HS.out
            exact ⟨((keeps_drewN W nq).trans (KeepsOthers.setCell _ _ _)).from _, ⟨rfl, by rw [List.map_append]; refine SC.out.trans ?_; rw [Option.bind_some, if_neg (by rw [hv, pw]; omega)], (h5.drewN nq).set_ 0 6⟩, (dBelow' hB nq).setCell (p := ⟨w.heap.size + 1, 0, none⟩) (by simp) _⟩
          · have g2 : decide (16 ≤ v) = false := by rw [decide_eq_false_iff_not]; exact e2
            have E1 := Lib.hid e1
            have E2 := Lib.hid e2
            clear e1 e2
            gi_wp2
            refine wpIn_round_quiet rfl (by kernel_rfl) (by kernel_rfl) (by kernel_rfl) ?_
            repeat (gi_big_quiet_step (fail))
            refine wpQuietIn_nil ?_
            rintro _ ⟨nq, rfl⟩
            gi_wp2
            obtain ⟨h2, h3, h4, h5, hB, h0, hv⟩ := HS.out
            have e1 := E1.out
            have e2 := E2.out
            exact ⟨((keeps_drewN W nq).trans (KeepsOthers.setCell _ _ _)).from _, kpC_t (kpC_drewN _ W nq) (kpC_set _ _ _ (by show w.heap.size + 1 + 1 < _; omega)), ⟨by simp; omega, _, by rw [List.map_append]; refine SC.out.trans ?_; rw [Option.bind_some, if_pos (by rw [hv, pw]; omega)], by rw [List.length_set]; exact h2, (h3.drewN nq).set_ c 0, (h4.drewN nq).other _ (by simp; omega), (h5.drewN nq).other _ (by simp)⟩, (dBelow' hB nq).setCell (p := ⟨w.heap.size + 1 + 1, c, none⟩) (by simp; omega) _⟩
      · have pw : (2 : Int) ^ Int.toNat 8 = 256 := by decide
        have SC' := SC
        by_cases e1 : v < 0
        · gi_wp2
          refine wpIn_round_quiet rfl (by kernel_rfl) (by kernel_rfl) (by kernel_rfl) ?_
          repeat (gi_big_quiet_step (fail))
          refine wpQuietIn_nil ?_
          rintro _ ⟨nq, rfl⟩
          gi_wp2
          obtain ⟨h2, h3, h4, h5, hB, h0, hv⟩ := HS.out
          exact ⟨((keeps_drewN W nq).trans (KeepsOthers.setCell _ _ _)).from _, ⟨rfl, by rw [List.map_append]; refine SC.out.trans ?_; rw [Option.bind_some, if_neg (by rw [hv, pw]; omega)], (h5.drewN nq).set_ 0 6⟩, (dBelow' hB nq).setCell (p := ⟨w.heap.size + 1, 0, none⟩) (by simp) _⟩
        · have g1 : decide (v < 0) = false := by rw [decide_eq_false_iff_not]; exact e1
          by_cases e2 : 256 ≤ v
          · have g2 : decide (256 ≤ v) = true := by rw [decide_eq_true_iff]; exact e2
            clear e1
            gi_wp2
            refine wpIn_round_quiet rfl (by kernel_rfl) (by kernel_rfl) (by kernel_rfl) ?_
            repeat (gi_big_quiet_step (fail))
            refine wpQuietIn_nil ?_
            rintro _ ⟨nq, rfl⟩
            gi_wp2
            obtain ⟨h2, h3, h4, h5, hB, h0, hv⟩ := HS.out
            exact ⟨((keeps_drewN W nq).trans (KeepsOthers.setCell _ _ _)).from _, ⟨rfl, by rw [List.map_append]; refine SC.out.trans ?_; rw [Option.bind_some, if_neg (by rw [hv, pw]; omega)], (h5.drewN nq).set_ 0 6⟩, (dBelow' hB nq).setCell (p := ⟨w.heap.size + 1, 0, none⟩) (by simp) _⟩
          · have g2 : decide (256 ≤ v) = false := by rw [decide_eq_false_iff_not]; exact e2
            have E1 := Lib.hid e1
            have E2 := Lib.hid e2
            clear e1 e2
            gi_wp2
            refine wpIn_round_quiet rfl (by kernel_rfl) (by kernel_rfl) (by kernel_rfl) ?_
            repeat (gi_big_quiet_step (fail))
            refine wpQuietIn_nil ?_
            rintro _ ⟨nq, rfl⟩
            gi_wp2
            obtain ⟨h2, h3, h4, h5, hB, h0, hv⟩ := HS.out
            have e1 := E1.out
            have e2 := E2.out
            exact ⟨((keeps_drewN W nq).trans (KeepsOthers.setCell _ _ _)).from _, kpC_t (kpC_drewN _ W nq) (kpC_set _ _ _ (by show w.heap.size + 1 + 1 < _; omega)), ⟨by simp; omega, _, by rw [List.map_append]; refine SC.out.trans ?_; rw [Option.bind_some, if_pos (by rw [hv, pw]; omega)], by rw [List.length_set]; exact h2, (h3.drewN nq).set_ c 0, (h4.drewN nq).other _ (by simp; omega), (h5.drewN nq).other _ (by simp)⟩, (dBelow' hB nq).setCell (p := ⟨w.heap.size + 1 + 1, c, none⟩) (by simp; omega) _⟩
      · have pw : (2 : Int) ^ Int.toNat 12 = 4096 := by decide
        have SC' := SC
        by_cases e1 : v < 0
        · gi_wp2
          refine wpIn_round_quiet rfl (by kernel_rfl) (by kernel_rfl) (by kernel_rfl) ?_
          repeat (gi_big_quiet_step (fail))
          refine wpQuietIn_nil ?_
          rintro _ ⟨nq, rfl⟩
          gi_wp2
          obtain ⟨h2, h3, h4, h5, hB, h0, hv⟩ := HS.out
          exact ⟨((keeps_drewN W nq).trans (KeepsOthers.setCell _ _ _)).from _, ⟨rfl, by rw [List.map_append]; refine SC.out.trans ?_; rw [Option.bind_some, if_neg (by rw [hv, pw]; omega)], (h5.drewN nq).set_ 0 6⟩, (dBelow' hB nq).setCell (p := ⟨w.heap.size + 1, 0, none⟩) (by simp) _⟩
        · have g1 : decide (v < 0) = false := by rw [decide_eq_false_iff_not]; exact e1
          by_cases e2 : 4096 ≤ v
          · have g2 : decide (4096 ≤ v) = true := by rw [decide_eq_true_iff]; exact e2
            clear e1
            gi_wp2
            refine wpIn_round_quiet rfl (by kernel_rfl) (by kernel_rfl) (by kernel_rfl) ?_
            repeat (gi_big_quiet_step (fail))
            refine wpQuietIn_nil ?_
            rintro _ ⟨nq, rfl⟩
            gi_wp2
            obtain ⟨h2, h3, h4, h5, hB, h0, hv⟩ := HS.out
            exact ⟨((keeps_drewN W nq).trans (KeepsOthers.setCell _ _ _)).from _, ⟨rfl, by rw [List.map_append]; refine SC.out.trans ?_; rw [Option.bind_some, if_neg (by rw [hv, pw]; omega)], (h5.drewN nq).set_ 0 6⟩, (dBelow' hB nq).setCell (p := ⟨w.heap.size + 1, 0, none⟩) (by simp) _⟩
          · have g2 : decide (4096 ≤ v) = false := by rw [decide_eq_false_iff_not]; exact e2
            have E1 := Lib.hid e1
            have E2 := Lib.hid e2
            clear e1 e2
            gi_wp2
            refine wpIn_round_quiet rfl (by kernel_rfl) (by kernel_rfl) (by kernel_rfl) ?_
            repeat (gi_big_quiet_step (fail))
            refine wpQuietIn_nil ?_
            rintro _ ⟨nq, rfl⟩
            gi_wp2
            obtain ⟨h2, h3, h4, h5, hB, h0, hv⟩ := HS.out
            have e1 := E1.out
            have e2 := E2.out
            exact ⟨((keeps_drewN W nq).trans (KeepsOthers.setCell _ _ _)).from _, kpC_t (kpC_drewN _ W nq) (kpC_set _ _ _ (by show w.heap.size + 1 + 1 < _; omega)), ⟨by simp; omega, _, by rw [List.map_append]; refine SC.out.trans ?_; rw [Option.bind_some, if_pos (by rw [hv, pw]; omega)], by rw [List.length_set]; exact h2, (h3.drewN nq).set_ c 0, (h4.drewN nq).other _ (by simp; omega), (h5.drewN nq).other _ (by simp)⟩, (dBelow' hB nq).setCell (p := ⟨w.heap.size + 1 + 1, c, none⟩) (by simp; omega) _⟩
    case done =>
      rintro D pre W hD hys ⟨⟨h0, ys, h1, h2, h3, h4, h5⟩, hB⟩ hK
      rw [hys] at h1
      obtain ⟨z0, z1, z2, z3, z4, z5, z6, z7, z8, z9, z10, z11, rfl⟩ := list_12 h2
      rw [← XS.out] at hr
      rw [h1] at hr
      have c0 : W.cell? ⟨w.heap.size + 1 + 1, 0, none⟩ = some (.int .i64 z0) := h3.cell (c := 0) (by simp)
      have c1 : W.cell? ⟨w.heap.size + 1 + 1, 1, none⟩ = some (.int .i64 z1) := h3.cell (c := 1) (by simp)
      have c2 : W.cell? ⟨w.heap.size + 1 + 1, 2, none⟩ = some (.int .i64 z2) := h3.cell (c := 2) (by simp)
      have c3 : W.cell? ⟨w.heap.size + 1 + 1, 3, none⟩ = some (.int .i64 z3) := h3.cell (c := 3) (by simp)
      have c4 : W.cell? ⟨w.heap.size + 1 + 1, 4, none⟩ = some (.int .i64 z4) := h3.cell (c := 4) (by simp)
      have c5 : W.cell? ⟨w.heap.size + 1 + 1, 5, none⟩ = some (.int .i64 z5) := h3.cell (c := 5) (by simp)
      have c6 : W.cell? ⟨w.heap.size + 1 + 1, 6, none⟩ = some (.int .i64 z6) := h3.cell (c := 6) (by simp)
      have c7 : W.cell? ⟨w.heap.size + 1 + 1, 7, none⟩ = some (.int .i64 z7) := h3.cell (c := 7) (by simp)
      have c8 : W.cell? ⟨w.heap.size + 1 + 1, 8, none⟩ = some (.int .i64 z8) := h3.cell (c := 8) (by simp)
      have c9 : W.cell? ⟨w.heap.size + 1 + 1, 9, none⟩ = some (.int .i64 z9) := h3.cell (c := 9) (by simp)
      have c10 : W.cell? ⟨w.heap.size + 1 + 1, 10, none⟩ = some (.int .i64 z10) := h3.cell (c := 10) (by simp)
      have c11 : W.cell? ⟨w.heap.size + 1 + 1, 11, none⟩ = some (.int .i64 z11) := h3.cell (c := 11) (by simp)
      have b0 : W.cell? ⟨w.heap.size, 0, none⟩ = some (.int .i64 op) := h4.cell (c := 0) (by simp)
      have b1' : W.cell? ⟨w.heap.size, 1, none⟩ = some (.int .i64 fo) := h4.cell (c := 1) (by simp)
      have f5 := h5.free 0
      have g5 := h5.cell (c := 0) (by simp)
      have HS := Lib.hid (And.intro h5 (And.intro hB hK))
      have hl5 := h5
      clear h1 h2 h3 h4 h5 hB q0 q1 q2 q3
      by_cases hE : [z0, z1, z2, z3, z4, z5, z6, z7, z8, z9, z10, z11] = [op, fo, 0, 0, 0, 0, 0, 0, 0, 0, 0, 0]
      · have eq : eqiB z0 z1 z2 z3 z4 z5 z6 z7 z8 z9 z10 z11 op fo 0 0 0 0 0 0 0 0 0 0 = true := by rw [eqiB_iff]; simpa using hE
        have fin := Lib.hid (show chk op fo [op, fo, r1, r2, x2, b1, d1, b2, d2, l1, l2, i2] = 0 from by rw [← XS.out]; refine hr.out.trans ?_; show (if _ then (0 : Int) else 6) = 0; rw [if_pos hE])
        clear hr
        simp only [List.cons.injEq, and_true] at hE
        obtain ⟨rfl, rfl, rfl, rfl, rfl, rfl, rfl, rfl, rfl, rfl, rfl, rfl⟩ := hE
        clear eq
        gi_wp2
        obtain ⟨h5, hB, hK⟩ := HS.out
        have hK' := (KeepsOthers.setCell W ⟨w.heap.size + 1, 0, none⟩ (.int .i64 0)).same D _ hK rfl
        refine ⟨by simp, .inl ⟨_, _, rfl, run_takeDeferred hK', ?_⟩⟩
        have hc5 := cell_kept ((h5.set_ 0 0).cell (c := 0) (by simp)) (grownBy_putObj' _ D (.deferred none)) (fun r e => by cases e; exact ⟨_, hK', rfl⟩)
        refine ⟨.int .i64 0, ?_, by rw [fin.out], (hB.setCell (p := ⟨w.heap.size + 1, 0, none⟩) (by simp) _).trans (belowK_b (w := w) (Nat.le_refl _) _ D _ _ (by omega) hK' rfl rfl)⟩
        simp [results, Try.results28, go_sem, hc5]
      · have eq : eqiB z0 z1 z2 z3 z4 z5 z6 z7 z8 z9 z10 z11 op fo 0 0 0 0 0 0 0 0 0 0 = false := by rw [Bool.eq_false_iff]; intro h; rw [eqiB_iff] at h; exact hE (by simpa using h)
        have hq := fun W => eqi_run z0 z1 z2 z3 z4 z5 z6 z7 z8 z9 z10 z11 op fo 0 0 0 0 0 0 0 0 0 0 W
        simp only [eq] at hq
        have fin := Lib.hid (show chk op fo [op, fo, r1, r2, x2, b1, d1, b2, d2, l1, l2, i2] = 6 from by rw [← XS.out]; refine hr.out.trans ?_; show (if _ then (0 : Int) else 6) = 6; rw [if_neg hE])
        clear hr hE
        gi_wp2
        obtain ⟨h5, hB, hK⟩ := HS.out
        have hK' := (KeepsOthers.setCell W ⟨w.heap.size + 1, 0, none⟩ (.int .i64 6)).same D _ hK rfl
        refine ⟨by simp, .inl ⟨_, _, rfl, run_takeDeferred hK', ?_⟩⟩
        have hc5 := cell_kept ((h5.set_ 0 6).cell (c := 0) (by simp)) (grownBy_putObj' _ D (.deferred none)) (fun r e => by cases e; exact ⟨_, hK', rfl⟩)
        refine ⟨.int .i64 6, ?_, by rw [fin.out], (hB.setCell (p := ⟨w.heap.size + 1, 0, none⟩) (by simp) _).trans (belowK_b (w := w) (Nat.le_refl _) _ D _ _ (by omega) hK' rfl rfl)⟩
        simp [results, Try.results28, go_sem, hc5]
    case stop =>
      rintro D c pre W hD ⟨cc, hcc, hpre⟩ ⟨⟨rfl, hsc, h5⟩, hB⟩ hK
      have fin := Lib.hid (show chk op fo [op, fo, r1, r2, x2, b1, d1, b2, d2, l1, l2, i2] = 6 from by rw [hr.out, ← XS.out, scan_take (c := cc) (by rw [← hpre]; exact hsc)])
      gi_wp2
      refine ⟨by simp, .inl ⟨_, _, rfl, run_takeDeferred hK, ?_⟩⟩
      have hc5 := cell_kept (h5.cell (c := 0) (by simp)) (grownBy_putObj' _ D (.deferred none)) (fun r e => by cases e; exact ⟨_, hK, rfl⟩)
      refine ⟨.int .i64 6, ?_, by rw [fin.out], hB.trans (belowK_b (w := w) (Nat.le_refl _) W D _ _ (by omega) hK rfl rfl)⟩
      simp [results, Try.results28, go_sem, hc5]
  · have hr := Lib.hid (show chk op fm [op, fm, r1, r2, x2, b1, d1, b2, d2, l1, l2, i2] = 80 from by unfold chk; rw [if_neg (by rw [hio, hfo]; exact hA)])
    cases io
    · clear hA hio hfo
      gi_wp2_with (refine ⟨trivial, ?_⟩; gi_at_call 25; refine (callsIn_wide.2 (FC.out _)).mono ?_; rintro e w1 ⟨rfl, n1, rfl⟩)
      refine ⟨.int .i64 80, by simp [results, Try.results28, go_sem], by rw [hr.out], ?_⟩
      exact (dBelow' (((Below.refl w.heap.size w).alloc (Nat.le_refl _) _).alloc (by simp) _) n1).setCell (p := ⟨w.heap.size + 1, 0, none⟩) (by simp) _
    · have hne : (fo != fm) = true := by rw [bne_iff_ne]; exact fun e => hA ⟨rfl, e⟩
      clear hA hio hfo
      gi_wp2_with (refine ⟨trivial, ?_⟩; gi_at_call 25; refine (callsIn_wide.2 (FC.out _)).mono ?_; rintro e w1 ⟨rfl, n1, rfl⟩)
      refine ⟨.int .i64 80, by simp [results, Try.results28, go_sem], by rw [hr.out], ?_⟩
      exact (dBelow' (((Below.refl w.heap.size w).alloc (Nat.le_refl _) _).alloc (by simp) _) n1).setCell (p := ⟨w.heap.size + 1, 0, none⟩) (by simp) _
end Go.Proofs.Ythjdjbipfdigeaa

namespace Go.Proofs.Ythjdjbipfdigeaa
open Go.RowKit
set_option linter.unusedVariables false
set_option linter.unusedSimpArgs false
/-- the cells of a machine -/
def mcC (is os rs : List Int) (ps : List Value) (s : Value) (ov : Bool) : List Value := is.map (Value.int .i64) ++ (os.map (Value.int .u32) ++ (rs.map (Value.int .u32) ++ (ps ++ [s, .bool ov])))
def Mc (w : World) (g : Nat) (is os rs : List Int) (ps : List Value) (s : Value) (ov : Bool) : Prop := w.heap[g]? = some (.cells (mcC is os rs ps s ov).toArray 69 (0, 0)) ∧ is.length = 12 ∧ os.length = 16 ∧ rs.length = 16 ∧ ps.length = 10
section
variable {w w' : World} {g : Nat} {is os rs : List Int} {ps : List Value} {s : Value} {ov : Bool}
theorem Mc.cellAt (h : Mc w g is os rs ps s ov) (c : Nat) : w.cell? ⟨g, c, none⟩ = (mcC is os rs ps s ov)[c]? := by rw [cell_blk h.1 c]; simp
theorem Mc.lt (h : Mc w g is os rs ps s ov) : g < w.heap.size := (Array.getElem?_eq_some_iff.1 h.1).1
theorem Mc.ci (h : Mc w g is os rs ps s ov) {c : Nat} (hc : c < 12) : w.cell? ⟨g, c, none⟩ = some (.int .i64 (is.getD c 0)) := by
  obtain ⟨h0, h1, h2, h3, h4⟩ := h
  rw [Mc.cellAt ⟨h0, h1, h2, h3, h4⟩]; unfold mcC
  rw [List.getElem?_append_left (by simp; omega), List.getElem?_map, List.getD_eq_getElem?_getD, List.getElem?_eq_getElem (by omega)]; rfl
theorem Mc.co (h : Mc w g is os rs ps s ov) {n : Nat} (hn : n < 16) : w.cell? ⟨g, 12 + n, none⟩ = some (.int .u32 (os.getD n 0)) := by
  obtain ⟨h0, h1, h2, h3, h4⟩ := h
  rw [Mc.cellAt ⟨h0, h1, h2, h3, h4⟩]; unfold mcC
  rw [List.getElem?_append_right (by simp; omega), List.getElem?_append_left (by simp; omega), List.length_map, h1, show 12 + n - 12 = n by omega, List.getElem?_map, List.getD_eq_getElem?_getD, List.getElem?_eq_getElem (by omega)]; rfl
theorem Mc.cr (h : Mc w g is os rs ps s ov) {n : Nat} (hn : n < 16) : w.cell? ⟨g, 28 + n, none⟩ = some (.int .u32 (rs.getD n 0)) := by
  obtain ⟨h0, h1, h2, h3, h4⟩ := h
  rw [Mc.cellAt ⟨h0, h1, h2, h3, h4⟩]; unfold mcC
  rw [List.getElem?_append_right (by simp; omega), List.getElem?_append_right (by simp; omega), List.getElem?_append_left (by simp; omega), List.length_map, List.length_map, h1, h2, show 28 + n - 12 - 16 = n by omega, List.getElem?_map, List.getD_eq_getElem?_getD, List.getElem?_eq_getElem (by omega)]; rfl
theorem Mc.cp (h : Mc w g is os rs ps s ov) {n : Nat} (hn : n < 10) : w.cell? ⟨g, 44 + n, none⟩ = some (ps.getD n undef) := by
  obtain ⟨h0, h1, h2, h3, h4⟩ := h
  rw [Mc.cellAt ⟨h0, h1, h2, h3, h4⟩]; unfold mcC
  rw [List.getElem?_append_right (by simp; omega), List.getElem?_append_right (by simp; omega), List.getElem?_append_right (by simp; omega), List.getElem?_append_left (by simp; omega), List.length_map, List.length_map, List.length_map, h1, h2, h3, show 44 + n - 12 - 16 - 16 = n by omega, List.getD_eq_getElem?_getD, List.getElem?_eq_getElem (by omega)]; rfl
theorem Mc.cs (h : Mc w g is os rs ps s ov) : w.cell? ⟨g, 54, none⟩ = some s := by
  obtain ⟨h0, h1, h2, h3, h4⟩ := h
  rw [Mc.cellAt ⟨h0, h1, h2, h3, h4⟩]; unfold mcC
  rw [List.getElem?_append_right (by simp; omega), List.getElem?_append_right (by simp; omega), List.getElem?_append_right (by simp; omega), List.getElem?_append_right (by simp; omega), List.length_map, List.length_map, List.length_map, h1, h2, h3, h4]; rfl
theorem Mc.cv (h : Mc w g is os rs ps s ov) : w.cell? ⟨g, 55, none⟩ = some (.bool ov) := by
  obtain ⟨h0, h1, h2, h3, h4⟩ := h
  rw [Mc.cellAt ⟨h0, h1, h2, h3, h4⟩]; unfold mcC
  rw [List.getElem?_append_right (by simp; omega), List.getElem?_append_right (by simp; omega), List.getElem?_append_right (by simp; omega), List.getElem?_append_right (by simp; omega), List.length_map, List.length_map, List.length_map, h1, h2, h3, h4]; rfl
theorem Mc.free (h : Mc w g is os rs ps s ov) (c : Nat) : w.frozen? ⟨g, c, none⟩ = false := by simp [World.frozen?, h.1]
theorem Mc.kept (h : Mc w g is os rs ps s ov) (hk : w'.heap[g]? = w.heap[g]?) : Mc w' g is os rs ps s ov := ⟨hk.trans h.1, h.2⟩
theorem Mc.keep (h : Mc w g is os rs ps s ov) (hb : Below w.heap.size w w') : Mc w' g is os rs ps s ov := h.kept (hb.block _ h.lt)
theorem Mc.alloc (h : Mc w g is os rs ps s ov) (o : Obj) : Mc (w.alloc o) g is os rs ps s ov := h.kept (Below.heap_alloc w o _ h.lt)
theorem Mc.drewN (h : Mc w g is os rs ps s ov) (n : Nat) : Mc (w.drewN n) g is os rs ps s ov := h
theorem Mc.other (h : Mc w g is os rs ps s ov) {p : Addr} (v : Value) (hp : p.block ≠ g) : Mc (w.setCell p v) g is os rs ps s ov := h.kept (Below.heap_setCell w p v g (Ne.symm hp))
theorem Mc.setr (h : Mc w g is os rs ps s ov) {n : Nat} (hn : n < 16) (v : Int) : Mc (w.setCell ⟨g, 28 + n, none⟩ (.int .u32 v)) g is os (rs.set n v) ps s ov := by
  obtain ⟨h0, h1, h2, h3, h4⟩ := h
  refine ⟨?_, h1, h2, by simpa using h3, h4⟩
  rw [setCell_eq_setRow w g (28 + n) _ _ (0, 0) _ h0, setRow_heap w g _ _ _ _ h0, List.setIfInBounds_toArray]
  congr 3
  unfold mcC
  rw [List.set_append_right _ _ (by simp; omega), List.set_append_right _ _ (by simp; omega), List.set_append_left _ _ (by simp; omega), List.length_map, List.length_map, h1, h2, show 28 + n - 12 - 16 = n by omega, List.map_set]
theorem Mc.setp (h : Mc w g is os rs ps s ov) {n : Nat} (hn : n < 10) (v : Value) : Mc (w.setCell ⟨g, 44 + n, none⟩ v) g is os rs (ps.set n v) s ov := by
  obtain ⟨h0, h1, h2, h3, h4⟩ := h
  refine ⟨?_, h1, h2, h3, by simpa using h4⟩
  rw [setCell_eq_setRow w g (44 + n) _ _ (0, 0) _ h0, setRow_heap w g _ _ _ _ h0, List.setIfInBounds_toArray]
  congr 3
  unfold mcC
  rw [List.set_append_right _ _ (by simp; omega), List.set_append_right _ _ (by simp; omega), List.set_append_right _ _ (by simp; omega), List.set_append_left _ _ (by simp; omega), List.length_map, List.length_map, List.length_map, h1, h2, h3, show 44 + n - 12 - 16 - 16 = n by omega]
theorem Mc.setv (h : Mc w g is os rs ps s ov) (b : Bool) : Mc (w.setCell ⟨g, 55, none⟩ (.bool b)) g is os rs ps s b := by
  obtain ⟨h0, h1, h2, h3, h4⟩ := h
  refine ⟨?_, h1, h2, h3, h4⟩
  rw [setCell_eq_setRow w g 55 _ _ (0, 0) _ h0, setRow_heap w g _ _ _ _ h0, List.setIfInBounds_toArray]
  congr 3
  unfold mcC
  rw [List.set_append_right _ _ (by simp; omega), List.set_append_right _ _ (by simp; omega), List.set_append_right _ _ (by simp; omega), List.set_append_right _ _ (by simp; omega), List.length_map, List.length_map, List.length_map, h1, h2, h3, h4]
  rfl
end
/-- only the blocks of L may have changed -/
structure Ch (w w' : World) (L : List Nat) : Prop where
  os : w'.os = w.os
  tape : w'.tape = w.tape
  output : w'.output = w.output
  size : w.heap.size ≤ w'.heap.size
  block : ∀ k, k < w.heap.size → k ∉ L → w'.heap[k]? = w.heap[k]?
theorem Ch.refl (w : World) (L : List Nat) : Ch w w L := ⟨rfl, rfl, rfl, Nat.le_refl _, fun _ _ _ => rfl⟩
theorem Ch.trans {a b c : World} {L : List Nat} (h : Ch a b L) (k : Ch b c L) : Ch a c L := ⟨k.os.trans h.os, k.tape.trans h.tape, k.output.trans h.output, Nat.le_trans h.size k.size, fun i hi hL => (k.block i (Nat.lt_of_lt_of_le hi h.size) hL).trans (h.block i hi hL)⟩
theorem Ch.mono {a b : World} {L M : List Nat} (h : Ch a b L) (hs : ∀ k, k ∈ L → k ∈ M) : Ch a b M := ⟨h.os, h.tape, h.output, h.size, fun i hi hM => h.block i hi (fun hk => hM (hs i hk))⟩
theorem Ch.of_below {a b : World} (h : Below a.heap.size a b) (L : List Nat) : Ch a b L := ⟨h.os, h.tape, h.output, h.size, fun i hi _ => h.block i hi⟩
theorem Ch.setCell {a b : World} {L : List Nat} (h : Ch a b L) {p : Addr} (hp : p.block ∈ L) (v : Value) : Ch a (b.setCell p v) L :=
  h.trans ⟨rfl, rfl, rfl, by simp [World.setCell], fun k _ hk => Below.heap_setCell b p v k (fun e => hk (e ▸ hp))⟩
theorem Ch.setNew {a b : World} {L : List Nat} (h : Ch a b L) {p : Addr} (hp : a.heap.size ≤ p.block) (v : Value) : Ch a (b.setCell p v) L :=
  ⟨h.os, h.tape, h.output, by have := h.size; simpa [World.setCell] using this, fun k hk hL => (Below.heap_setCell b p v k (by omega)).trans (h.block k hk hL)⟩
theorem Ch.drewN {a b : World} {L : List Nat} (h : Ch a b L) (n : Nat) : Ch a (b.drewN n) L := ⟨h.os, h.tape, h.output, h.size, h.block⟩
theorem Ch.alloc {a b : World} {L : List Nat} (h : Ch a b L) (o : Obj) : Ch a (b.alloc o) L := ⟨h.os, h.tape, h.output, by have := h.size; simp; omega, fun k hk hL => (Below.heap_alloc b o k (Nat.lt_of_lt_of_le hk h.size)).trans (h.block k hk hL)⟩
theorem Ch.below {a b : World} {L : List Nat} {B : Nat} (h : Ch a b L) (hB : B ≤ a.heap.size) (hL : ∀ k, k ∈ L → B ≤ k) : Below B a b := ⟨h.os, h.tape, h.output, h.size, fun i hi => h.block i (by omega) (fun hk => by have := hL i hk; omega)⟩
theorem Ch.kept {a b : World} {L : List Nat} (h : Ch a b L) {k : Nat} (hk : k < a.heap.size) (hL : k ∉ L) : b.heap[k]? = a.heap[k]? := h.block k hk hL
end Go.Proofs.Ythjdjbipfdigeaa

namespace Go.Proofs.Ythjdjbipfdigeaa
open Go.RowKit
set_option linter.unusedVariables false
set_option linter.unusedSimpArgs false
set_option maxRecDepth 1000000 in
set_option maxHeartbeats 4000000 in
theorem set_c (g n : Nat) (v cc : Int) (o : Bool) (is os rs : List Int) (ps : List Value) (s : Value) (ov : Bool) (w : World) (hm : Mc w g is os rs ps s ov) (hn : is.getD 2 0 = (n : Int)) (hn16 : n < 16) : Calls Try.prog 58 #[.pointer (some ⟨g, 0, none⟩), .int .u32 v, .int .i64 cc, .bool o] w fun e w' => e = .returned (.tuple #[]) ∧ Mc w' g is os (rs.set n v) (ps.set 7 (.int .i64 cc)) s o ∧ Ch w w' [g] := by
  have c2 := hm.ci (c := 2) (by omega)
  rw [hn] at c2
  have c3 := hm.cr hn16
  have c4 := hm.cp (n := 7) (by omega)
  have c5 := hm.cv
  have f3 := hm.free (28 + n)
  have f4 := hm.free 51
  have f5 := hm.free 55
  have i0 : (n : Int) < 16 := by omega
  have i1 : (0 : Int) ≤ (n : Int) := by omega
  have HM := Lib.hid hm
  clear hm hn
  go_enter Try.func58, Try.ntmps58
  go_upto_region 0 with fail
  go_region
  go_wp2
  go_end0
  refine ⟨rfl, ?_, ?_⟩
  · exact (((HM.out.setr hn16 v).setp (n := 7) (by omega) (.int .i64 cc)).setv o).drewN 1
  · exact ((((Ch.refl w [g]).setCell (by simp) _).setCell (by simp) _).setCell (by simp) _).drewN 1
end Go.Proofs.Ythjdjbipfdigeaa

namespace Go.Proofs.Ythjdjbipfdigeaa
open Go.RowKit
set_option linter.unusedVariables false

set_option maxHeartbeats 400000 in
theorem sign_c (n : Int) (w : World) :
    Calls Try.prog 96 #[.int .i64 n] w fun e w' => e = .returned (.int .i64 (sgn n)) ∧ w = w' := by
  by_cases h0 : n = 0
  · subst h0
    go_enter Try.func96, Try.ntmps96
    go_wp2
    go_ret
    exact ⟨rfl, rfl⟩
  · have e0 : (n == 0) = false := by simpa using h0
    by_cases h1 : n < 0
    · have hs := Lib.hid (sgn_neg n h1)
      go_enter Try.func96, Try.ntmps96
      go_wp2
      go_ret
      exact ⟨by rw [hs.out]; rfl, rfl⟩
    · have hs := Lib.hid (sgn_pos n (by omega))
      go_enter Try.func96, Try.ntmps96
      go_wp2
      go_ret
      exact ⟨by rw [hs.out]; rfl, rfl⟩

set_option maxHeartbeats 400000 in
theorem result_c (n : Int) (hn : -9223372036854775808 ≤ n) (hn' : n ≤ 9223372036854775807) (w : World) :
    Calls Try.prog 105 #[.int .i64 n] w fun e w' => e = .returned (.tuple #[.int .u32 (lo32 n), .int .i64 (rcc n), .bool (ovf n)]) ∧ w = w' := by
  have et := fits_test n hn hn'
  cases ho : ovf n
  · have hr := Lib.hid (rcc_in n ho)
    rw [ho] at et
    clear ho
    go_enter Try.func105, Try.ntmps105
    go_wp2_with (go_at_call 96; refine (sign_c _ _).mono ?_; rintro e w' ⟨rfl, rfl⟩)
    go_ret3
    exact ⟨by rw [hr.out]; rfl, rfl⟩
  · have hr := Lib.hid (rcc_over n ho)
    rw [ho] at et
    clear ho
    go_enter Try.func105, Try.ntmps105
    go_wp2_with (go_at_call 96; refine (sign_c _ _).mono ?_; rintro e w' ⟨rfl, rfl⟩)
    go_ret3
    exact ⟨by rw [hr.out]; rfl, rfl⟩

set_option maxHeartbeats 400000 in
theorem add_c (a b : Int) (ha : 0 ≤ a) (ha' : a ≤ 4294967295) (hb : 0 ≤ b) (hb' : b ≤ 4294967295) (w : World) :
    Calls Try.prog 87 #[.int .u32 a, .int .u32 b] w fun e w' => e = .returned (.tuple #[.int .u32 (lo32 (sg a + sg b)), .int .i64 (rcc (sg a + sg b)), .bool (ovf (sg a + sg b))]) ∧ w = w' := by
  have ea := wrap32_sg a ha ha'
  have la := sg_lo a ha
  have ua := sg_hi a ha'
  have eb := wrap32_sg b hb hb'
  have lb := sg_lo b hb
  have ub := sg_hi b hb'
  go_enter Try.func87, Try.ntmps87
  go_wp2_with (go_at_call 105; refine (result_c _ (by omega) (by omega) _).mono ?_; rintro e w' ⟨rfl, rfl⟩)
  go_ret3
  exact ⟨rfl, rfl⟩

end Go.Proofs.Ythjdjbipfdigeaa

namespace Go.Proofs.Ythjdjbipfdigeaa
open Go.RowKit
set_option linter.unusedVariables false
set_option linter.unusedSimpArgs false
set_option maxRecDepth 1000000 in
set_option maxHeartbeats 4000000 in
theorem operand_rr (g n : Nat) (is os rs : List Int) (ps : List Value) (s : Value) (ov : Bool) (w : World) (hm : Mc w g is os rs ps s ov) (hf : is.getD 1 0 = 1) (hn : is.getD 3 0 = (n : Int)) (hn16 : n < 16) : Calls Try.prog 85 #[.pointer (some ⟨g, 0, none⟩)] w fun e w' => e = .returned (.int .u32 (os.getD n 0)) ∧ ∃ d, w' = w.drewN d := by
  have c0 := hm.ci (c := 0) (by omega)
  have c1 := hm.ci (c := 1) (by omega)
  have c3 := hm.ci (c := 3) (by omega)
  rw [hf] at c1
  rw [hn] at c3
  have c4 := hm.co hn16
  have i0 : (n : Int) < 16 := by omega
  have i1 : (0 : Int) ≤ (n : Int) := by omega
  clear hm hn hf
  go_enter Try.func85, Try.ntmps85
  go_upto_region 4 with fail
  go_region
  go_wp2
  go_ret
  exact ⟨by rfl, 1, rfl⟩
set_option maxRecDepth 1000000 in
set_option maxHeartbeats 4000000 in
theorem arith_ar (g n m : Nat) (is os rs : List Int) (ps : List Value) (s : Value) (ov : Bool) (w : World) (hm : Mc w g is os rs ps s ov) (h0 : is.getD 0 0 = 26) (hf : is.getD 1 0 = 1) (hn : is.getD 2 0 = (n : Int)) (hn16 : n < 16) (hk : is.getD 3 0 = (m : Int)) (hk16 : m < 16) (ro : ∀ z ∈ os, 0 ≤ z ∧ z ≤ 4294967295) : Calls Try.prog 48 #[.pointer (some ⟨g, 0, none⟩)] w fun e w' => e = .returned (.tuple #[]) ∧ Mc w' g is os (rs.set n (lo32 (sg (os.getD n 0) + sg (os.getD m 0)))) (ps.set 7 (.int .i64 (rcc (sg (os.getD n 0) + sg (os.getD m 0))))) s (ovf (sg (os.getD n 0) + sg (os.getD m 0))) ∧ Ch w w' [g] := by
  have c0 := hm.ci (c := 0) (by omega)
  rw [h0] at c0
  have c2 := hm.ci (c := 2) (by omega)
  rw [hn] at c2
  have c4 := hm.co hn16
  have i0 : (n : Int) < 16 := by omega
  have i1 : (0 : Int) ≤ (n : Int) := by omega
  have HM := Lib.hid hm
  have OC := Lib.hid (fun W (h : Mc W g is os rs ps s ov) => operand_rr g m is os rs ps s ov W h hf hk hk16)
  have HN := Lib.hid hn
  have H26 := Lib.hid h0
  obtain ⟨a, ha⟩ : ∃ a, os.getD n 0 = a := ⟨_, rfl⟩
  obtain ⟨b, hb⟩ : ∃ b, os.getD m 0 = b := ⟨_, rfl⟩
  have ra : 0 ≤ a ∧ a ≤ 4294967295 := by rw [← ha, List.getD_eq_getElem?_getD, List.getElem?_eq_getElem (by have := hm.2.2.1; omega)]; exact ro _ (List.getElem_mem _)
  have rb : 0 ≤ b ∧ b ≤ 4294967295 := by rw [← hb, List.getD_eq_getElem?_getD, List.getElem?_eq_getElem (by have := hm.2.2.1; omega)]; exact ro _ (List.getElem_mem _)
  rw [ha] at c4
  rw [ha, hb]
  simp only [hb] at OC
  have HA := Lib.hid ha
  clear hm h0 hf hn hk ro hb ha
  go_enter Try.func48, Try.ntmps48
  go_upto_region 6 with fail
  clear c0 c2 c4
  refine wp_region_held_drew (S := (fun w' => Mc w' g is os rs ps s ov ∧ Ch w w' [g])) (by kernel_rfl) ?_ (fun hHeld => ?_)
  · (try dsimp only); exact ⟨HM.out.drewN 1, (Ch.refl _ _).drewN 1⟩
  refine' takeL (i := 0) (v := _) rfl (by kernel_rfl) (by kernel_rfl) (by kernel_rfl) (fun _ _ _ h => h) (Or.inl ⟨by rfl, ?yy1⟩) (by assumption) ?rr1
  case yy1 => intro w hSw; (try dsimp only at hSw); go_simp; (try with_reducible rfl)
  try simp only [Act.put, List.setIfInBounds_toArray, List.set_cons_zero, List.set_cons_succ]
  refine' takeL (i := 1) (v := _) rfl (by kernel_rfl) (by kernel_rfl) (by kernel_rfl) (fun _ _ _ h => h) (Or.inl ⟨by rfl, ?yy2⟩) (by assumption) ?rr2
  case yy2 => intro w hSw; (try dsimp only at hSw); go_simp; (try with_reducible rfl)
  try simp only [Act.put, List.setIfInBounds_toArray, List.set_cons_zero, List.set_cons_succ]
  refine' takeL (i := 2) (v := _) rfl (by kernel_rfl) (by kernel_rfl) (by kernel_rfl) (fun _ _ _ h => h) (Or.inl ⟨by rfl, ?yy3⟩) (by assumption) ?rr3
  case yy3 => intro w hSw; (try dsimp only at hSw); go_simp; (try with_reducible rfl)
  try simp only [Act.put, List.setIfInBounds_toArray, List.set_cons_zero, List.set_cons_succ]
  refine' takeL (i := 3) (v := _) rfl (by kernel_rfl) (by kernel_rfl) (by kernel_rfl) (fun _ _ _ h => h) (Or.inl ⟨by rfl, ?yy4⟩) (by assumption) ?rr4
  case yy4 => intro w hSw; (try dsimp only at hSw); go_simp; (try with_reducible rfl)
  try simp only [Act.put, List.setIfInBounds_toArray, List.set_cons_zero, List.set_cons_succ]
  refine' takeL (i := 4) (v := _) rfl (by kernel_rfl) (by kernel_rfl) (by kernel_rfl) (fun _ _ _ h => h) (Or.inl ⟨by rfl, ?yy5⟩) (by assumption) ?rr5
  case yy5 => intro w hSw; (try dsimp only at hSw); go_simp; (try with_reducible rfl)
  try simp only [Act.put, List.setIfInBounds_toArray, List.set_cons_zero, List.set_cons_succ]
  refine' takeL (i := 5) (v := .int .i64 (n : Int)) rfl (by kernel_rfl) (by kernel_rfl) (by kernel_rfl) (fun _ _ _ h => h) (Or.inl ⟨by rfl, ?yy6⟩) (by assumption) ?rr6
  case yy6 => intro w hSw; (try dsimp only at hSw); have hc := hSw.1.ci (c := 2) (by omega); rw [HN.out] at hc; go_simp; (try with_reducible rfl)
  try simp only [Act.put, List.setIfInBounds_toArray, List.set_cons_zero, List.set_cons_succ]
  refine' takeL (i := 6) (v := _) rfl (by kernel_rfl) (by kernel_rfl) (by kernel_rfl) (fun _ _ _ h => h) (Or.inl ⟨by rfl, ?yy7⟩) (by assumption) ?rr7
  case yy7 => intro w hSw; (try dsimp only at hSw); go_simp; (try with_reducible rfl)
  try simp only [Act.put, List.setIfInBounds_toArray, List.set_cons_zero, List.set_cons_succ]
  refine' takeL (i := 7) (v := _) rfl (by kernel_rfl) (by kernel_rfl) (by kernel_rfl) (fun _ _ _ h => h) (Or.inl ⟨by rfl, ?yy8⟩) (by assumption) ?rr8
  case yy8 => intro w hSw; (try dsimp only at hSw); go_simp; (try with_reducible rfl)
  try simp only [Act.put, List.setIfInBounds_toArray, List.set_cons_zero, List.set_cons_succ]
  refine' takeL (i := 8) (v := _) rfl (by kernel_rfl) (by kernel_rfl) (by kernel_rfl) (fun _ _ _ h => h) (Or.inl ⟨by rfl, ?yy9⟩) (by assumption) ?rr9
  case yy9 => intro w hSw; (try dsimp only at hSw); go_simp; (try with_reducible rfl)
  try simp only [Act.put, List.setIfInBounds_toArray, List.set_cons_zero, List.set_cons_succ]
  refine' takeL (i := 9) (v := .int .u32 a) rfl (by kernel_rfl) (by kernel_rfl) (by kernel_rfl) (fun _ _ _ h => h) (Or.inl ⟨by rfl, ?yy10⟩) (by assumption) ?rr10
  case yy10 => intro w hSw; (try dsimp only at hSw); have hc := hSw.1.co hn16; rw [HA.out] at hc; go_simp; (try with_reducible rfl)
  try simp only [Act.put, List.setIfInBounds_toArray, List.set_cons_zero, List.set_cons_succ]
  refine' takeL (i := 10) (v := _) rfl (by kernel_rfl) (by kernel_rfl) (by kernel_rfl) (fun _ _ _ h => h) (Or.inl ⟨by rfl, ?yy11⟩) (by assumption) ?rr11
  case yy11 => intro w hSw; (try dsimp only at hSw); go_simp; (try with_reducible rfl)
  try simp only [Act.put, List.setIfInBounds_toArray, List.set_cons_zero, List.set_cons_succ]
  refine wpAnyH_ready (rs := [11]) (by kernel_rfl) (by simp) ?_
  refine consL rfl (fun K hK => ?_) AllReadyH.nil
  go_simp
  go_at_call 85
  refine (OC.out _ hHeld.1).mono ?_
  rintro e w5 ⟨rfl, d5, hw5⟩
  have BX := Lib.hid (show ((fun w' => Mc w' g is os rs ps s ov ∧ Ch w w' [g])) w5 from by rw [hw5]; exact ⟨hHeld.1.drewN d5, hHeld.2.drewN d5⟩)
  clear hHeld hw5
  go_wp2_with fail
  refine hK.out _ _ ?_ (fun hHeld => ?_)
  · (try dsimp only); exact BX.out
  clear hK K
  try simp only [Act.put, List.setIfInBounds_toArray, List.set_cons_zero, List.set_cons_succ]
  refine' takeL (i := 12) (v := _) rfl (by kernel_rfl) (by kernel_rfl) (by kernel_rfl) (fun _ _ _ h => h) (Or.inl ⟨by rfl, ?yy12⟩) (by assumption) ?rr12
  case yy12 => intro w hSw; (try dsimp only at hSw); go_simp; (try with_reducible rfl)
  try simp only [Act.put, List.setIfInBounds_toArray, List.set_cons_zero, List.set_cons_succ]
  refine' takeL (i := 13) (v := _) rfl (by kernel_rfl) (by kernel_rfl) (by kernel_rfl) (fun _ _ _ h => h) (Or.inl ⟨by rfl, ?yy13⟩) (by assumption) ?rr13
  case yy13 => intro w hSw; (try dsimp only at hSw); go_simp; (try with_reducible rfl)
  try simp only [Act.put, List.setIfInBounds_toArray, List.set_cons_zero, List.set_cons_succ]
  refine wpAnyH_done (by kernel_rfl) ?_ _
  obtain ⟨hM, hC⟩ := hHeld
  have c0' := hM.ci (c := 0) (by omega)
  rw [H26.out] at c0'
  have AC := Lib.hid (fun W => add_c a b ra.1 ra.2 rb.1 rb.2 W)
  have HMM := Lib.hid hM
  have HCC := Lib.hid hC
  clear hM hC
  go_wp2_with (first
    | (go_at_call 87; refine (AC.out _).mono ?_; rintro e w2 ⟨rfl, hw2⟩; subst hw2)
    | (go_at_call 58; refine (set_c g n _ _ _ is os rs ps s ov _ HMM.out HN.out hn16).mono ?_; rintro e w3 ⟨rfl, hM3, hC3⟩; have HM3 := Lib.hid hM3; have HC3 := Lib.hid hC3; clear hM3 hC3))
  go_end0
  exact ⟨by rfl, HM3.out, HCC.out.trans HC3.out⟩
end Go.Proofs.Ythjdjbipfdigeaa

namespace Go.Proofs.Ythjdjbipfdigeaa
open Go.RowKit
set_option maxRecDepth 100000
set_option linter.unusedVariables false
set_option linter.unusedSimpArgs false
/-- what a register adds to an address -/
def baseV (os : List Int) (n : Nat) : Int := if n = 0 then 0 else os.getD n 0
def sumB (os : List Int) : List Nat → Int
  | [] => 0
  | n :: l => baseV os n + sumB os l
theorem sumB_app (os : List Int) : ∀ (l m : List Nat), sumB os (l ++ m) = sumB os l + sumB os m
  | [], m => by simp [sumB]
  | n :: l, m => by simp only [List.cons_append, sumB, sumB_app os l m]; omega
theorem getD_in {os : List Int} (ro : ∀ z ∈ os, 0 ≤ z ∧ z ≤ 4294967295) (n : Nat) : 0 ≤ os.getD n 0 ∧ os.getD n 0 ≤ 4294967295 := by
  rw [List.getD_eq_getElem?_getD]
  rcases Nat.lt_or_ge n os.length with h | h
  · rw [List.getElem?_eq_getElem h]; exact ro _ (List.getElem_mem _)
  · rw [List.getElem?_eq_none h]; exact ⟨by decide, by decide⟩
theorem baseV_in {os : List Int} (ro : ∀ z ∈ os, 0 ≤ z ∧ z ≤ 4294967295) (n : Nat) : 0 ≤ baseV os n ∧ baseV os n ≤ 4294967295 := by
  unfold baseV; split
  · exact ⟨by decide, by decide⟩
  · exact getD_in ro n
theorem sumB_in {os : List Int} (ro : ∀ z ∈ os, 0 ≤ z ∧ z ≤ 4294967295) : ∀ l : List Nat, 0 ≤ sumB os l ∧ sumB os l ≤ 4294967295 * l.length
  | [] => by simp [sumB]
  | n :: l => by
    have h1 := baseV_in ro n
    have h2 := sumB_in ro l
    simp only [sumB, List.length_cons]
    omega
set_option maxRecDepth 1000000 in
set_option maxHeartbeats 4000000 in
theorem address_c (g b : Nat) (d : Int) (ns : List Nat) (cap : Nat) (is os rs : List Int) (ps : List Value) (s : Value) (ov : Bool) (w : World) (hm : Mc w g is os rs ps s ov) (ro : ∀ z ∈ os, 0 ≤ z ∧ z ≤ 4294967295) (hd : 0 ≤ d) (hd' : d ≤ 4095) (hl : ns.length ≤ 2) (hn : ∀ n ∈ ns, n < 16) (hc : ∀ i, i < ns.length → w.cell? ⟨b, i, none⟩ = some (.int .i64 ((ns.getD i 0 : Nat) : Int))) : Calls Try.prog 64 #[.pointer (some ⟨g, 0, none⟩), .int .i64 d, .slice (some ⟨b, 0, none⟩) ns.length cap] w fun e w' => e = .returned (.int .i64 ((d + sumB os ns) % 16777216)) ∧ w = w' := by
  have HM := Lib.hid hm
  have HC := Lib.hid hc
  have HN := Lib.hid hn
  have RO := Lib.hid ro
  obtain ⟨L, hL⟩ : ∃ L, ns.length = L := ⟨_, rfl⟩
  rw [hL] at hl
  have LL := Lib.hid hL
  simp only [hL]
  clear hm hc hn ro hL
  go_enter Try.func64, Try.ntmps64
  go_wp2
  go_loopw [1, 11] (fun dv x wr => ∃ k : Nat, k ≤ L ∧ x = .int .i64 (k : Int) ∧ dv = .int .i64 (d + sumB os (ns.take k)) ∧ wr = w) (fun _ x _ => L - (intOf x).toNat)
  case atStart => exact ⟨0, by omega, rfl, by simp [sumB], rfl⟩
  case round =>
    obtain ⟨k, hk, rfl, rfl, hw⟩ := hrel
    subst hw
    by_cases hlt : k < L
    · have hI : (k : Int) < (L : Int) := by omega
      have c0 := HC.out k (by have := LL.out; omega)
      obtain ⟨n, hn⟩ : ∃ n, ns.getD k 0 = n := ⟨_, rfl⟩
      rw [hn] at c0
      have ht : ns.take (k + 1) = ns.take k ++ [n] := by
        rw [List.take_add_one, ← hn, List.getD_eq_getElem?_getD, List.getElem?_eq_getElem (by have := LL.out; omega)]; rfl
      have hn16 : n < 16 := HN.out n (by rw [← hn, List.getD_eq_getElem?_getD, List.getElem?_eq_getElem (by have := LL.out; omega)]; exact List.getElem_mem _)
      have hs := sumB_in RO.out (ns.take k)
      have hlen : (ns.take k).length = k := by rw [List.length_take]; have := LL.out; omega
      rw [hlen] at hs
      obtain ⟨S, hS⟩ : ∃ S, sumB os (ns.take k) = S := ⟨_, rfl⟩
      rw [hS] at hs ⊢
      have HS := Lib.hid (show sumB os (ns.take (k + 1)) = S + baseV os n from by rw [ht, sumB_app, hS]; simp [sumB])
      have s0 := hs.1
      have s1 : S ≤ 4294967295 * 2 := by have := hs.2; omega
      clear hn ht hs hlen hS
      rcases Nat.eq_zero_or_pos n with h0 | h0
      · subst h0
        have HB := Lib.hid (show sumB os (ns.take (k + 1)) = S from by rw [HS.out]; simp [baseV])
        go_wp2
        exact ⟨⟨k + 1, by omega, rfl, by rw [HB.out], trivial⟩, by simp [intOf]; omega⟩
      · have e0 : ((n : Int) != 0) = true := by simp; omega
        have c1 := HM.out.co hn16
        obtain ⟨v, hv⟩ : ∃ v, os.getD n 0 = v := ⟨_, rfl⟩
        rw [hv] at c1
        have rv : 0 ≤ v ∧ v ≤ 4294967295 := by rw [← hv]; exact getD_in RO.out n
        obtain ⟨v0, v1⟩ := rv
        have HB := Lib.hid (show sumB os (ns.take (k + 1)) = S + v from by rw [HS.out, ← hv]; unfold baseV; rw [if_neg (by omega)])
        have i0 : (n : Int) < 16 := by omega
        have i1 : (0 : Int) ≤ (n : Int) := by omega
        clear hv HS
        go_wp2
        refine ⟨⟨k + 1, by omega, rfl, ?_, trivial⟩, by simp [intOf]; omega⟩
        rw [HB.out]
        go_num
    · obtain rfl : k = L := by omega
      have hs := sumB_in RO.out ns
      have hs2 : (ns.length : Int) ≤ 2 := by have := LL.out; omega
      have ht : ns.take k = ns := by rw [← LL.out]; exact List.take_length
      rw [ht]
      obtain ⟨S, hS⟩ : ∃ S, sumB os ns = S := ⟨_, rfl⟩
      rw [hS] at hs ⊢
      have s0 := hs.1
      have s1 : S ≤ 4294967295 * 2 := by have := hs.2; omega
      have t0 : 0 ≤ d + S := by omega
      clear hs ht
      go_wp2
      go_ret
      exact ⟨by rw [hS]; rfl, rfl⟩
set_option maxRecDepth 1000000 in
set_option maxHeartbeats 4000000 in
theorem second_c (g n0 n1 : Nat) (d : Int) (is os rs : List Int) (ps : List Value) (s : Value) (ov : Bool) (w : World) (hm : Mc w g is os rs ps s ov) (ro : ∀ z ∈ os, 0 ≤ z ∧ z ≤ 4294967295) (hd0 : is.getD 8 0 = d) (hd : 0 ≤ d) (hd' : d ≤ 4095) (hn0 : is.getD 7 0 = (n0 : Int)) (h160 : n0 < 16) (hn1 : is.getD 4 0 = (n1 : Int)) (h161 : n1 < 16) : Calls Try.prog 44 #[.pointer (some ⟨g, 0, none⟩)] w fun e w' => e = .returned (.int .i64 ((d + sumB os [n0, n1]) % 16777216)) ∧ Ch w w' [] := by
  have HM := Lib.hid hm
  have RO := Lib.hid ro
  have HD := Lib.hid hd0
  have HN0 := Lib.hid hn0
  have HN1 := Lib.hid hn1
  clear hm ro hd0 hn0 hn1
  go_enter Try.func44, Try.ntmps44
  go_upto_region 1 with fail
  refine wp_region_held_drew (S := (fun w' => Mc w' g is os rs ps s ov ∧ Ch w w' [])) (by kernel_rfl) ?_ (fun hHeld => ?_)
  · (try dsimp only); exact ⟨HM.out.drewN 1, (Ch.refl _ _).drewN 1⟩
  refine' takeL (i := 0) (v := _) rfl (by kernel_rfl) (by kernel_rfl) (by kernel_rfl) (fun _ _ _ h => h) (Or.inl ⟨by rfl, ?yy1⟩) (by assumption) ?rr1
  case yy1 => intro w hSw; (try dsimp only at hSw); go_simp; (try with_reducible rfl)
  try simp only [Act.put, List.setIfInBounds_toArray, List.set_cons_zero, List.set_cons_succ]
  refine' takeL (i := 1) (v := _) rfl (by kernel_rfl) (by kernel_rfl) (by kernel_rfl) (fun _ _ _ h => h) (Or.inl ⟨by rfl, ?yy2⟩) (by assumption) ?rr2
  case yy2 => intro w hSw; (try dsimp only at hSw); go_simp; (try with_reducible rfl)
  try simp only [Act.put, List.setIfInBounds_toArray, List.set_cons_zero, List.set_cons_succ]
  refine' takeL (i := 2) (v := _) rfl (by kernel_rfl) (by kernel_rfl) (by kernel_rfl) (fun _ _ _ h => h) (Or.inl ⟨by rfl, ?yy3⟩) (by assumption) ?rr3
  case yy3 => intro w hSw; (try dsimp only at hSw); go_simp; (try with_reducible rfl)
  try simp only [Act.put, List.setIfInBounds_toArray, List.set_cons_zero, List.set_cons_succ]
  refine' takeL (i := 3) (v := _) rfl (by kernel_rfl) (by kernel_rfl) (by kernel_rfl) (fun _ _ _ h => h) (Or.inl ⟨by rfl, ?yy4⟩) (by assumption) ?rr4
  case yy4 => intro w hSw; (try dsimp only at hSw); go_simp; (try with_reducible rfl)
  try simp only [Act.put, List.setIfInBounds_toArray, List.set_cons_zero, List.set_cons_succ]
  refine' takeL (i := 4) (v := _) rfl (by kernel_rfl) (by kernel_rfl) (by kernel_rfl) (fun _ _ _ h => h) (Or.inl ⟨by rfl, ?yy5⟩) (by assumption) ?rr5
  case yy5 => intro w hSw; (try dsimp only at hSw); go_simp; (try with_reducible rfl)
  try simp only [Act.put, List.setIfInBounds_toArray, List.set_cons_zero, List.set_cons_succ]
  refine' takeL (i := 5) (v := .int .i64 d) rfl (by kernel_rfl) (by kernel_rfl) (by kernel_rfl) (fun _ _ _ h => h) (Or.inl ⟨by rfl, ?yy6⟩) (by assumption) ?rr6
  case yy6 => intro w hSw; (try dsimp only at hSw); have hc := hSw.1.ci (c := 8) (by omega); rw [HD.out] at hc; go_simp; (try with_reducible rfl)
  try simp only [Act.put, List.setIfInBounds_toArray, List.set_cons_zero, List.set_cons_succ]
  refine' takeL (i := 6) (v := _) rfl (by kernel_rfl) (by kernel_rfl) (by kernel_rfl) (fun _ _ _ h => h) (Or.inl ⟨by rfl, ?yy7⟩) (by assumption) ?rr7
  case yy7 => intro w hSw; (try dsimp only at hSw); go_simp; (try with_reducible rfl)
  try simp only [Act.put, List.setIfInBounds_toArray, List.set_cons_zero, List.set_cons_succ]
  refine' takeL (i := 7) (v := _) rfl (by kernel_rfl) (by kernel_rfl) (by kernel_rfl) (fun _ _ _ h => h) (Or.inl ⟨by rfl, ?yy8⟩) (by assumption) ?rr8
  case yy8 => intro w hSw; (try dsimp only at hSw); go_simp; (try with_reducible rfl)
  try simp only [Act.put, List.setIfInBounds_toArray, List.set_cons_zero, List.set_cons_succ]
  refine' takeL (i := 8) (v := _) rfl (by kernel_rfl) (by kernel_rfl) (by kernel_rfl) (fun _ _ _ h => h) (Or.inl ⟨by rfl, ?yy9⟩) (by assumption) ?rr9
  case yy9 => intro w hSw; (try dsimp only at hSw); go_simp; (try with_reducible rfl)
  try simp only [Act.put, List.setIfInBounds_toArray, List.set_cons_zero, List.set_cons_succ]
  refine' takeL (i := 9) (v := _) rfl (by kernel_rfl) (by kernel_rfl) (by kernel_rfl) (fun _ _ _ h => h) (Or.inl ⟨by rfl, ?yy10⟩) (by assumption) ?rr10
  case yy10 => intro w hSw; (try dsimp only at hSw); go_simp; (try with_reducible rfl)
  try simp only [Act.put, List.setIfInBounds_toArray, List.set_cons_zero, List.set_cons_succ]
  refine' takeL (i := 10) (v := .int .i64 (n0 : Int)) rfl (by kernel_rfl) (by kernel_rfl) (by kernel_rfl) (fun _ _ _ h => h) (Or.inl ⟨by rfl, ?yy11⟩) (by assumption) ?rr11
  case yy11 => intro w hSw; (try dsimp only at hSw); have hc := hSw.1.ci (c := 7) (by omega); rw [HN0.out] at hc; go_simp; (try with_reducible rfl)
  try simp only [Act.put, List.setIfInBounds_toArray, List.set_cons_zero, List.set_cons_succ]
  refine' takeL (i := 11) (v := _) rfl (by kernel_rfl) (by kernel_rfl) (by kernel_rfl) (fun _ _ _ h => h) (Or.inl ⟨by rfl, ?yy12⟩) (by assumption) ?rr12
  case yy12 => intro w hSw; (try dsimp only at hSw); go_simp; (try with_reducible rfl)
  try simp only [Act.put, List.setIfInBounds_toArray, List.set_cons_zero, List.set_cons_succ]
  refine' takeL (i := 12) (v := _) rfl (by kernel_rfl) (by kernel_rfl) (by kernel_rfl) (fun _ _ _ h => h) (Or.inl ⟨by rfl, ?yy13⟩) (by assumption) ?rr13
  case yy13 => intro w hSw; (try dsimp only at hSw); go_simp; (try with_reducible rfl)
  try simp only [Act.put, List.setIfInBounds_toArray, List.set_cons_zero, List.set_cons_succ]
  refine' takeL (i := 13) (v := _) rfl (by kernel_rfl) (by kernel_rfl) (by kernel_rfl) (fun _ _ _ h => h) (Or.inl ⟨by rfl, ?yy14⟩) (by assumption) ?rr14
  case yy14 => intro w hSw; (try dsimp only at hSw); go_simp; (try with_reducible rfl)
  try simp only [Act.put, List.setIfInBounds_toArray, List.set_cons_zero, List.set_cons_succ]
  refine' takeL (i := 14) (v := _) rfl (by kernel_rfl) (by kernel_rfl) (by kernel_rfl) (fun _ _ _ h => h) (Or.inl ⟨by rfl, ?yy15⟩) (by assumption) ?rr15
  case yy15 => intro w hSw; (try dsimp only at hSw); go_simp; (try with_reducible rfl)
  try simp only [Act.put, List.setIfInBounds_toArray, List.set_cons_zero, List.set_cons_succ]
  refine' takeL (i := 15) (v := .int .i64 (n1 : Int)) rfl (by kernel_rfl) (by kernel_rfl) (by kernel_rfl) (fun _ _ _ h => h) (Or.inl ⟨by rfl, ?yy16⟩) (by assumption) ?rr16
  case yy16 => intro w hSw; (try dsimp only at hSw); have hc := hSw.1.ci (c := 4) (by omega); rw [HN1.out] at hc; go_simp; (try with_reducible rfl)
  try simp only [Act.put, List.setIfInBounds_toArray, List.set_cons_zero, List.set_cons_succ]
  refine wpAnyH_ready (rs := [16]) (by kernel_rfl) (by simp) ?_
  refine consL rfl (fun K hK => ?_) AllReadyH.nil
  go_simp
  refine hK.out _ _ ?_ (fun hHeld => ?_)
  · exact ⟨hHeld.1.alloc _, hHeld.2.alloc _⟩
  clear hK K
  try simp only [Act.put, List.setIfInBounds_toArray, List.set_cons_zero, List.set_cons_succ]
  have hcell : ∀ i, i < [n0, n1].length → ((w.alloc (.cells #[.int .i64 (n0 : Int), .int .i64 (n1 : Int)] 3)).drew).cell? ⟨w.heap.size, i, none⟩ = some (.int .i64 (([n0, n1].getD i 0 : Nat) : Int)) := by
    intro i hi
    rw [cell_blk (show ((w.alloc (.cells #[.int .i64 (n0 : Int), .int .i64 (n1 : Int)] 3)).drew).heap[w.heap.size]? = _ from heap_alloc_new w _) i]
    match i, hi with
    | 0, _ => rfl
    | 1, _ => rfl
  have hmem : ∀ n ∈ [n0, n1], n < 16 := by intro n hn; simp at hn; omega
  refine wpAnyH_ready (rs := [17]) (by kernel_rfl) (by simp) ?_
  refine consL rfl (fun K hK => ?_) AllReadyH.nil
  go_simp
  go_at_call 64
  refine (address_c g w.heap.size d [n0, n1] 2 is os rs ps s ov _ hHeld.1 RO.out hd hd' (by simp) hmem hcell).mono ?_
  rintro e w5 ⟨rfl, hw5⟩
  subst hw5
  go_wp2_with fail
  refine hK.out _ _ ?_ (fun hHeld => ?_)
  · (try dsimp only); exact hHeld
  clear hK K
  try simp only [Act.put, List.setIfInBounds_toArray, List.set_cons_zero, List.set_cons_succ]
  refine' takeL (i := 18) (v := _) rfl (by kernel_rfl) (by kernel_rfl) (by kernel_rfl) (fun _ _ _ h => h) (Or.inl ⟨by rfl, ?yy17⟩) (by assumption) ?rr17
  case yy17 => intro w hSw; (try dsimp only at hSw); go_simp; (try with_reducible rfl)
  try simp only [Act.put, List.setIfInBounds_toArray, List.set_cons_zero, List.set_cons_succ]
  refine wpAnyH_done (by kernel_rfl) ?_ _
  go_wp2
  go_ret
  exact ⟨by rfl, hHeld.2⟩
set_option maxRecDepth 1000000 in
set_option maxHeartbeats 4000000 in
theorem first_c (g n0 : Nat) (d : Int) (is os rs : List Int) (ps : List Value) (s : Value) (ov : Bool) (w : World) (hm : Mc w g is os rs ps s ov) (ro : ∀ z ∈ os, 0 ≤ z ∧ z ≤ 4294967295) (hd0 : is.getD 6 0 = d) (hd : 0 ≤ d) (hd' : d ≤ 4095) (hn0 : is.getD 5 0 = (n0 : Int)) (h160 : n0 < 16) : Calls Try.prog 71 #[.pointer (some ⟨g, 0, none⟩)] w fun e w' => e = .returned (.int .i64 ((d + sumB os [n0]) % 16777216)) ∧ Ch w w' [] := by
  have HM := Lib.hid hm
  have RO := Lib.hid ro
  have HD := Lib.hid hd0
  have HN0 := Lib.hid hn0
  clear hm ro hd0 hn0
  go_enter Try.func71, Try.ntmps71
  go_upto_region 1 with fail
  refine wp_region_held_drew (S := (fun w' => Mc w' g is os rs ps s ov ∧ Ch w w' [])) (by kernel_rfl) ?_ (fun hHeld => ?_)
  · (try dsimp only); exact ⟨HM.out.drewN 1, (Ch.refl _ _).drewN 1⟩
  refine' takeL (i := 0) (v := _) rfl (by kernel_rfl) (by kernel_rfl) (by kernel_rfl) (fun _ _ _ h => h) (Or.inl ⟨by rfl, ?yy18⟩) (by assumption) ?rr18
  case yy18 => intro w hSw; (try dsimp only at hSw); go_simp; (try with_reducible rfl)
  try simp only [Act.put, List.setIfInBounds_toArray, List.set_cons_zero, List.set_cons_succ]
  refine' takeL (i := 1) (v := _) rfl (by kernel_rfl) (by kernel_rfl) (by kernel_rfl) (fun _ _ _ h => h) (Or.inl ⟨by rfl, ?yy19⟩) (by assumption) ?rr19
  case yy19 => intro w hSw; (try dsimp only at hSw); go_simp; (try with_reducible rfl)
  try simp only [Act.put, List.setIfInBounds_toArray, List.set_cons_zero, List.set_cons_succ]
  refine' takeL (i := 2) (v := _) rfl (by kernel_rfl) (by kernel_rfl) (by kernel_rfl) (fun _ _ _ h => h) (Or.inl ⟨by rfl, ?yy20⟩) (by assumption) ?rr20
  case yy20 => intro w hSw; (try dsimp only at hSw); go_simp; (try with_reducible rfl)
  try simp only [Act.put, List.setIfInBounds_toArray, List.set_cons_zero, List.set_cons_succ]
  refine' takeL (i := 3) (v := _) rfl (by kernel_rfl) (by kernel_rfl) (by kernel_rfl) (fun _ _ _ h => h) (Or.inl ⟨by rfl, ?yy21⟩) (by assumption) ?rr21
  case yy21 => intro w hSw; (try dsimp only at hSw); go_simp; (try with_reducible rfl)
  try simp only [Act.put, List.setIfInBounds_toArray, List.set_cons_zero, List.set_cons_succ]
  refine' takeL (i := 4) (v := _) rfl (by kernel_rfl) (by kernel_rfl) (by kernel_rfl) (fun _ _ _ h => h) (Or.inl ⟨by rfl, ?yy22⟩) (by assumption) ?rr22
  case yy22 => intro w hSw; (try dsimp only at hSw); go_simp; (try with_reducible rfl)
  try simp only [Act.put, List.setIfInBounds_toArray, List.set_cons_zero, List.set_cons_succ]
  refine' takeL (i := 5) (v := .int .i64 d) rfl (by kernel_rfl) (by kernel_rfl) (by kernel_rfl) (fun _ _ _ h => h) (Or.inl ⟨by rfl, ?yy23⟩) (by assumption) ?rr23
  case yy23 => intro w hSw; (try dsimp only at hSw); have hc := hSw.1.ci (c := 6) (by omega); rw [HD.out] at hc; go_simp; (try with_reducible rfl)
  try simp only [Act.put, List.setIfInBounds_toArray, List.set_cons_zero, List.set_cons_succ]
  refine' takeL (i := 6) (v := _) rfl (by kernel_rfl) (by kernel_rfl) (by kernel_rfl) (fun _ _ _ h => h) (Or.inl ⟨by rfl, ?yy24⟩) (by assumption) ?rr24
  case yy24 => intro w hSw; (try dsimp only at hSw); go_simp; (try with_reducible rfl)
  try simp only [Act.put, List.setIfInBounds_toArray, List.set_cons_zero, List.set_cons_succ]
  refine' takeL (i := 7) (v := _) rfl (by kernel_rfl) (by kernel_rfl) (by kernel_rfl) (fun _ _ _ h => h) (Or.inl ⟨by rfl, ?yy25⟩) (by assumption) ?rr25
  case yy25 => intro w hSw; (try dsimp only at hSw); go_simp; (try with_reducible rfl)
  try simp only [Act.put, List.setIfInBounds_toArray, List.set_cons_zero, List.set_cons_succ]
  refine' takeL (i := 8) (v := _) rfl (by kernel_rfl) (by kernel_rfl) (by kernel_rfl) (fun _ _ _ h => h) (Or.inl ⟨by rfl, ?yy26⟩) (by assumption) ?rr26
  case yy26 => intro w hSw; (try dsimp only at hSw); go_simp; (try with_reducible rfl)
  try simp only [Act.put, List.setIfInBounds_toArray, List.set_cons_zero, List.set_cons_succ]
  refine' takeL (i := 9) (v := _) rfl (by kernel_rfl) (by kernel_rfl) (by kernel_rfl) (fun _ _ _ h => h) (Or.inl ⟨by rfl, ?yy27⟩) (by assumption) ?rr27
  case yy27 => intro w hSw; (try dsimp only at hSw); go_simp; (try with_reducible rfl)
  try simp only [Act.put, List.setIfInBounds_toArray, List.set_cons_zero, List.set_cons_succ]
  refine' takeL (i := 10) (v := .int .i64 (n0 : Int)) rfl (by kernel_rfl) (by kernel_rfl) (by kernel_rfl) (fun _ _ _ h => h) (Or.inl ⟨by rfl, ?yy28⟩) (by assumption) ?rr28
  case yy28 => intro w hSw; (try dsimp only at hSw); have hc := hSw.1.ci (c := 5) (by omega); rw [HN0.out] at hc; go_simp; (try with_reducible rfl)
  try simp only [Act.put, List.setIfInBounds_toArray, List.set_cons_zero, List.set_cons_succ]
  refine wpAnyH_ready (rs := [11]) (by kernel_rfl) (by simp) ?_
  refine consL rfl (fun K hK => ?_) AllReadyH.nil
  go_simp
  refine hK.out _ _ ?_ (fun hHeld => ?_)
  · exact ⟨hHeld.1.alloc _, hHeld.2.alloc _⟩
  clear hK K
  try simp only [Act.put, List.setIfInBounds_toArray, List.set_cons_zero, List.set_cons_succ]
  have hcell : ∀ i, i < [n0].length → ((w.alloc (.cells #[.int .i64 (n0 : Int)] 3)).drew).cell? ⟨w.heap.size, i, none⟩ = some (.int .i64 (([n0].getD i 0 : Nat) : Int)) := by
    intro i hi
    rw [cell_blk (show ((w.alloc (.cells #[.int .i64 (n0 : Int)] 3)).drew).heap[w.heap.size]? = _ from heap_alloc_new w _) i]
    match i, hi with
    | 0, _ => rfl
  have hmem : ∀ n ∈ [n0], n < 16 := by intro n hn; simp at hn; omega
  refine wpAnyH_ready (rs := [12]) (by kernel_rfl) (by simp) ?_
  refine consL rfl (fun K hK => ?_) AllReadyH.nil
  go_simp
  go_at_call 64
  refine (address_c g w.heap.size d [n0] 1 is os rs ps s ov _ hHeld.1 RO.out hd hd' (by simp) hmem hcell).mono ?_
  rintro e w5 ⟨rfl, hw5⟩
  subst hw5
  go_wp2_with fail
  refine hK.out _ _ ?_ (fun hHeld => ?_)
  · (try dsimp only); exact hHeld
  clear hK K
  try simp only [Act.put, List.setIfInBounds_toArray, List.set_cons_zero, List.set_cons_succ]
  refine' takeL (i := 13) (v := _) rfl (by kernel_rfl) (by kernel_rfl) (by kernel_rfl) (fun _ _ _ h => h) (Or.inl ⟨by rfl, ?yy29⟩) (by assumption) ?rr29
  case yy29 => intro w hSw; (try dsimp only at hSw); go_simp; (try with_reducible rfl)
  try simp only [Act.put, List.setIfInBounds_toArray, List.set_cons_zero, List.set_cons_succ]
  refine wpAnyH_done (by kernel_rfl) ?_ _
  go_wp2
  go_ret
  exact ⟨by rfl, hHeld.2⟩
end Go.Proofs.Ythjdjbipfdigeaa

namespace Go.Proofs.Ythjdjbipfdigeaa
open Go.RowKit
theorem dBelow {B : Nat} {a w : World} (h : Below B a w) (n : Nat) : Below B a (w.drewN n) := ⟨h.os, h.tape, h.output, h.size, h.block⟩
end Go.Proofs.Ythjdjbipfdigeaa

namespace Go.Proofs.Ythjdjbipfdigeaa
open Go.RowKit
set_option maxRecDepth 100000
set_option linter.unusedVariables false

/-- is a range in a storage of N bytes? -/
def sIn (N : Nat) (addr n : Int) : Bool := decide (0 ≤ addr ∧ 0 ≤ n ∧ addr ≤ (N : Int) ∧ n ≤ (N : Int) - addr)
theorem sIn_yes {N : Nat} {addr n : Int} (h : sIn N addr n = true) : 0 ≤ addr ∧ 0 ≤ n ∧ addr ≤ (N : Int) ∧ n ≤ (N : Int) - addr := by simpa [sIn] using h
/-- may a key store, fetch, in a block of key k? -/
def alP (key k : Int) : Bool := decide (key = 0 ∨ key = k / 2)
def alF (key k : Int) : Bool := decide (key = 0 ∨ key = k / 2 ∨ k % 2 = 0)
/-- may every byte of a range be touched? -/
def okB (al : Int → Bool) (ks : List Int) (a n : Nat) : Bool := (List.range n).all fun j => al (ks.getD ((a + j) / 2048) 0)
/-- the code of an access -/
def sCode (al : Int → Bool) (N : Nat) (ks : List Int) (addr n : Int) : Int := if sIn N addr n = true then (if okB al ks addr.toNat n.toNat = true then 0 else 4) else 5
/-- the bytes of a range -/
def sGet (bs : List Int) (addr n : Int) : List Int := if sIn bs.length addr n = true then (bs.drop addr.toNat).take n.toNat else []
/-- block g is a row of c cells of type e, of which the first are vs -/
def Rw (w : World) (g : Nat) (e : TypeId) (c : Nat) (vs : List Value) : Prop :=
  ∃ cur : List Value, w.heap[g]? = some (.cells cur.toArray e (0, 0)) ∧ cur.length = c ∧ cur.take vs.length = vs ∧ c ≤ maxLen

section
variable {w w' : World} {g c : Nat} {e : TypeId} {vs : List Value}
theorem Rw.lt (h : Rw w g e c vs) : g < w.heap.size := by obtain ⟨cur, h1, _⟩ := h; exact (Array.getElem?_eq_some_iff.1 h1).1
theorem Rw.len (h : Rw w g e c vs) : vs.length ≤ c := by
  obtain ⟨cur, _, h2, h3, _⟩ := h
  have := congrArg List.length h3
  rw [List.length_take] at this; omega
theorem Rw.cell (h : Rw w g e c vs) {i : Nat} (hi : i < vs.length) : w.cell? ⟨g, i, none⟩ = some vs[i] := by
  obtain ⟨cur, h1, h2, h3, _⟩ := h
  have e1 : cur[i]? = some vs[i] := by
    have h4 : (cur.take vs.length)[i]? = some vs[i] := by rw [h3]; exact List.getElem?_eq_getElem hi
    rwa [List.getElem?_take, if_pos hi] at h4
  simp [World.cell?, h1, e1]
theorem Rw.free (h : Rw w g e c vs) (i : Nat) : w.frozen? ⟨g, i, none⟩ = false := by obtain ⟨cur, h1, _⟩ := h; simp [World.frozen?, h1]
theorem Rw.keep (h : Rw w g e c vs) (hk : w'.heap[g]? = w.heap[g]?) : Rw w' g e c vs := by obtain ⟨cur, h1, h2⟩ := h; exact ⟨cur, hk.trans h1, h2⟩
theorem Rw.set_ (h : Rw w g e c vs) {i : Nat} (v : Value) : Rw (w.setCell ⟨g, i, none⟩ v) g e c (vs.set i v) := by
  obtain ⟨cur, h1, h2, h3, h4⟩ := h
  refine ⟨cur.set i v, ?_, by simpa using h2, by rw [List.length_set, List.take_set, h3], h4⟩
  rw [setCell_eq_setRow w g i cur.toArray e (0, 0) _ h1, setRow_heap w g _ _ _ _ h1]
  simp
theorem Rw.ne {g' c' : Nat} {e' : TypeId} {vs' : List Value} (h : Rw w g e c vs) (h' : Rw w g' e' c' vs') (he : e ≠ e') : g ≠ g' := by
  rintro rfl
  obtain ⟨cur, h1, _⟩ := h
  obtain ⟨cur', h1', _⟩ := h'
  rw [h1] at h1'
  injection h1' with h1'
  injection h1' with _ ht
  exact he ht
theorem Rw.ne_blk {g' : Nat} {e' : TypeId} {C : Array Value} (h : Rw w g e c vs) (h' : w.heap[g']? = some (.cells C e' (0, 0))) (he : e ≠ e') : g ≠ g' := by
  rintro rfl
  obtain ⟨cur, h1, _⟩ := h
  rw [h1] at h'
  injection h' with h'
  injection h' with _ ht
  exact he ht
theorem Rw.new (w : World) (C : Array Value) (e : TypeId) (vs : List Value) (hC : C.toList = vs) (hm : vs.length ≤ maxLen) : Rw (w.alloc (.cells C e)) w.heap.size e vs.length vs := by
  refine ⟨C.toList, ?_, by rw [hC], by rw [hC, List.take_length], hm⟩
  have := heap_alloc_new w (.cells C e)
  simpa using this
/-- cells laid over a row from place k on -/
theorem Rw.lay (h : Rw w g e c vs) (k : Nat) (us : List Value) (hk : k + us.length ≤ vs.length) : ∃ cur : List Value, w.heap[g]? = some (.cells cur.toArray e (0, 0)) ∧ cur.length = c ∧
    Rw (w.setRow g (splice cur k us).toArray) g e c (splice vs k us) := by
  obtain ⟨cur, h1, h2, h3, h4⟩ := h
  have hl : vs.length ≤ cur.length := by have := congrArg List.length h3; rw [List.length_take] at this; omega
  refine ⟨cur, h1, h2, splice cur k us, setRow_heap w g _ _ _ _ h1, ?_, ?_, h4⟩
  · rw [length_splice _ _ _ (by omega), h2]
  · rw [length_splice _ _ _ hk, take_splice _ _ _ _ hk hl, h3]
end

/-- A storage: the struct in block g, its bytes in block gb, its keys in block gk. -/
structure Foot where
  g : Nat
  gb : Nat
  gk : Nat
  cb : Nat
  ck : Nat
structure St (T : TypeId) (w : World) (F : Foot) (bs ks : List Int) : Prop where
  hd : w.heap[F.g]? = some (.cells #[.slice (some ⟨F.gb, 0, none⟩) bs.length F.cb, .slice (some ⟨F.gk, 0, none⟩) ks.length F.ck] T (0, 0))
  b : Rw w F.gb 5 F.cb (bs.map (Value.int .u8))
  k : Rw w F.gk 3 F.ck (ks.map (Value.int .i64))
  rb : ∀ z ∈ bs, 0 ≤ z ∧ z ≤ 255
  rk : ∀ z ∈ ks, 0 ≤ z ∧ z ≤ 31
  ln : bs.length = 2048 * ks.length
  l0 : 1 ≤ ks.length
  l1 : ks.length ≤ 32
section
variable {T T' : TypeId} {w w' : World} {F F' : Foot} {bs ks bs' ks' : List Int}
theorem St.ltg (h : St T w F bs ks) : F.g < w.heap.size := (Array.getElem?_eq_some_iff.1 h.hd).1
theorem St.ltb (h : St T w F bs ks) : F.gb < w.heap.size := h.b.lt
theorem St.ltk (h : St T w F bs ks) : F.gk < w.heap.size := h.k.lt
theorem St.keep (h : St T w F bs ks) (h1 : w'.heap[F.g]? = w.heap[F.g]?) (h2 : w'.heap[F.gb]? = w.heap[F.gb]?) (h3 : w'.heap[F.gk]? = w.heap[F.gk]?) : St T w' F bs ks :=
  ⟨h1.trans h.hd, h.b.keep h2, h.k.keep h3, h.rb, h.rk, h.ln, h.l0, h.l1⟩
theorem St.below {B : Nat} (h : St T w F bs ks) (hb : Below B w w') (h1 : F.g < B) (h2 : F.gb < B) (h3 : F.gk < B) : St T w' F bs ks := h.keep (hb.block _ h1) (hb.block _ h2) (hb.block _ h3)
theorem St.belowS (h : St T w F bs ks) (hb : Below w.heap.size w w') : St T w' F bs ks := h.below hb h.ltg h.ltb h.ltk
theorem St.drewN (h : St T w F bs ks) (n : Nat) : St T (w.drewN n) F bs ks := h.keep rfl rfl rfl
theorem St.alloc (h : St T w F bs ks) (o : Obj) : St T (w.alloc o) F bs ks := h.keep (Below.heap_alloc w o _ h.ltg) (Below.heap_alloc w o _ h.ltb) (Below.heap_alloc w o _ h.ltk)
theorem St.cell0 (h : St T w F bs ks) : w.cell? ⟨F.g, 0, none⟩ = some (.slice (some ⟨F.gb, 0, none⟩) bs.length F.cb) := cell_blk h.hd 0
theorem St.cell1 (h : St T w F bs ks) : w.cell? ⟨F.g, 1, none⟩ = some (.slice (some ⟨F.gk, 0, none⟩) ks.length F.ck) := cell_blk h.hd 1
theorem St.byte (h : St T w F bs ks) {i : Nat} (hi : i < bs.length) : w.cell? ⟨F.gb, i, none⟩ = some (.int .u8 (bs.getD i 0)) := by
  rw [h.b.cell (by simpa using hi)]; simp [List.getD_eq_getElem?_getD, hi]
theorem St.key (h : St T w F bs ks) {i : Nat} (hi : i < ks.length) : w.cell? ⟨F.gk, i, none⟩ = some (.int .i64 (ks.getD i 0)) := by
  rw [h.k.cell (by simpa using hi)]; simp [List.getD_eq_getElem?_getD, hi]
theorem St.keyr (h : St T w F bs ks) (i : Nat) : 0 ≤ ks.getD i 0 ∧ ks.getD i 0 ≤ 31 := by
  rw [List.getD_eq_getElem?_getD]
  rcases Nat.lt_or_ge i ks.length with hi | hi
  · rw [List.getElem?_eq_getElem hi]; exact h.rk _ (List.getElem_mem hi)
  · rw [List.getElem?_eq_none hi]; simp
theorem St.capb (h : St T w F bs ks) : bs.length ≤ F.cb := by have := h.b.len; simpa using this
theorem St.maxb (h : St T w F bs ks) : F.cb ≤ maxLen := by obtain ⟨cur, _, _, _, h4⟩ := h.b; exact h4
theorem St.byt (h : St T w F bs ks) {a n : Nat} (hn : a + n ≤ bs.length) : Byt w (some ⟨F.gb, a, none⟩) n ((bs.drop a).take n) := by
  refine ⟨by rw [List.length_take, List.length_drop]; omega, fun z hz => h.rb z (List.mem_of_mem_drop (List.mem_of_mem_take hz)), fun _ => ⟨F.gb, a, rfl, fun i hi => ?_⟩⟩
  rw [h.byte (by omega)]
  simp [List.getD_eq_getElem?_getD, hi]
/-- the three blocks are not one -/
theorem St.nbk (h : St T w F bs ks) : F.gb ≠ F.gk := h.b.ne h.k (by decide)
theorem St.ngb (h : St T w F bs ks) (hT : T ≠ 5) : F.gb ≠ F.g := h.b.ne_blk h.hd (Ne.symm hT)
/-- bytes are laid over it -/
theorem St.lay (h : St T w F bs ks) (hT : T ≠ 5) (k : Nat) (ys : List Int) (hy : ∀ z ∈ ys, 0 ≤ z ∧ z ≤ 255) (hk : k + ys.length ≤ bs.length) :
    ∃ cur : List Value, w.heap[F.gb]? = some (.cells cur.toArray 5 (0, 0)) ∧ cur.length = F.cb ∧ St T (w.setRow F.gb (splice cur k (ys.map (Value.int .u8))).toArray) F (splice bs k ys) ks := by
  obtain ⟨cur, h1, h2, h3⟩ := h.b.lay k (ys.map (Value.int .u8)) (by simpa using hk)
  refine ⟨cur, h1, h2, ?_, ?_, ?_, splice_range _ _ _ h.rb hy, h.rk, by rw [length_splice _ _ _ hk]; exact h.ln, h.l0, h.l1⟩
  · rw [length_splice _ _ _ hk]; exact (setRow_other _ _ _ _ (Ne.symm (h.ngb hT))).trans h.hd
  · rw [← splice_map]; exact h3
  · exact h.k.keep (setRow_other _ _ _ _ (Ne.symm h.nbk))
end

theorem grown_setRow (w : World) (g : Nat) (cs : Array Value) : w.grownBy (w.setRow g cs) (some g) := ⟨rfl, rfl, rfl, by simp [World.setRow], fun k _ hk => setRow_other w g k cs (fun e => hk (by rw [e]))⟩
theorem grown_of_below {a w : World} (h : Below a.heap.size a w) (row : Option Nat) : a.grownBy w row := ⟨h.os, h.tape, h.output, h.size, fun i hi _ => h.block i hi⟩
theorem grown_trans {a b c : World} {row : Option Nat} (h : a.grownBy b row) (k : b.grownBy c row) : a.grownBy c row :=
  ⟨k.os.trans h.os, k.tape.trans h.tape, k.output.trans h.output, Nat.le_trans h.size k.size, fun i hi hne => (k.block i (Nat.lt_of_lt_of_le hi h.size) hne).trans (h.block i hi hne)⟩
end Go.Proofs.Ythjdjbipfdigeaa

namespace Go.Proofs.Ythjdjbipfdigeaa
open Go.RowKit
set_option maxRecDepth 100000
set_option linter.unusedVariables false
set_option linter.unusedSimpArgs false

theorem in_c {F : Foot} {bs ks : List Int} (w : World) (h : St 71 w F bs ks) (addr n : Int) : Calls Try.prog 34 #[.pointer (some ⟨F.g, 0, none⟩), .int .i64 addr, .int .i64 n] w fun e w' => e = .returned (.bool (sIn bs.length addr n)) ∧ w = w' := by
  obtain ⟨N, hN⟩ : ∃ N, bs.length = N := ⟨_, rfl⟩
  obtain ⟨m, hm⟩ : ∃ m, ks.length = m := ⟨_, rfl⟩
  have c0 := h.cell0
  have c1 := h.cell1
  have H := Lib.hid h
  have ln := h.ln
  have l0 := h.l0
  have l1 := h.l1
  rw [hN] at c0 ln ⊢
  rw [hm] at c1 ln l0 l1
  have HN := Lib.hid hN
  have HM := Lib.hid hm
  have n0 : (2048 : Int) ≤ (N : Int) := by omega
  have n1 : (N : Int) ≤ 65536 := by omega
  have m0 : (1 : Int) ≤ (m : Int) := by omega
  have m1 : (m : Int) ≤ 32 := by omega
  have LN := Lib.hid ln
  clear hN hm h ln l0 l1
  by_cases b1 : 0 ≤ addr
  case neg =>
    have hr := Lib.hid (show sIn N addr n = false from by simp [sIn]; omega)
    go_enter Try.func34, Try.ntmps34
    go_wp2
    go_ret
    exact ⟨by rw [hr.out]; rfl, rfl⟩
  by_cases b1 : 0 ≤ n
  case neg =>
    have hr := Lib.hid (show sIn N addr n = false from by simp [sIn]; omega)
    go_enter Try.func34, Try.ntmps34
    go_wp2
    go_ret
    exact ⟨by rw [hr.out]; rfl, rfl⟩
  by_cases b1 : addr ≤ (N : Int)
  case neg =>
    have hr := Lib.hid (show sIn N addr n = false from by simp [sIn]; omega)
    go_enter Try.func34, Try.ntmps34
    go_wp2
    go_ret
    exact ⟨by rw [hr.out]; rfl, rfl⟩
  by_cases b1 : n ≤ (N : Int) - addr
  case neg =>
    have hr := Lib.hid (show sIn N addr n = false from by simp [sIn]; omega)
    go_enter Try.func34, Try.ntmps34
    go_wp2
    go_ret
    exact ⟨by rw [hr.out]; rfl, rfl⟩
  have hr := Lib.hid (show sIn N addr n = true from by simp [sIn]; omega)
  go_enter Try.func34, Try.ntmps34
  go_wp2
  go_ret
  exact ⟨by rw [hr.out]; rfl, rfl⟩

end Go.Proofs.Ythjdjbipfdigeaa

