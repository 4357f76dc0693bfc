/- Contracts and laws on the way to the statement, text 5 of 24. Conditions: as each states them. -/
import Derived.Test.YthjdjbipfdigeaaGreatRu1
import Derived.Test.YthjdjbipfdigeaaGreatRu3
import Derived.Test.YthjdjbipfdigeaaGreatRu4
import Derived.Lib.Hide
import Derived.Outline
import Derived.Handy
import Derived.BigQuiet
import Derived.Deep.QuietTactic
import Derived.Lib.SliceRun
import Derived.Laws.IdiomCopy
import Derived.StillTailTactics
namespace Go.Proofs.YthjdjbipfdigeaaGreat
open Go.RowKit
set_option maxRecDepth 100000
set_option linter.unusedVariables false
set_option linter.unusedSimpArgs false

theorem in_c {F : Foot} {bs ks : List Int} (w : World) (h : St 77 w F bs ks) (addr n : Int) : Calls Tryz.prog 88 #[.pointer (some ⟨F.g, 0, none⟩), .int .i64 addr, .int .i64 n] w fun e w' => e = .returned (.bool (sIn bs.length addr n)) ∧ w = w' := by
  obtain ⟨N, hN⟩ : ∃ N, bs.length = N := ⟨_, rfl⟩
  obtain ⟨m, hm⟩ : ∃ m, ks.length = m := ⟨_, rfl⟩
  have c0 := h.cell0
  have c1 := h.cell1
  have H := Lib.hid h
  have ln := h.ln
  have l0 := h.l0
  have l1 := h.l1
  rw [hN] at c0 ln ⊢
  rw [hm] at c1 ln l0 l1
  have HN := Lib.hid hN
  have HM := Lib.hid hm
  have n0 : (2048 : Int) ≤ (N : Int) := by omega
  have n1 : (N : Int) ≤ 65536 := by omega
  have m0 : (1 : Int) ≤ (m : Int) := by omega
  have m1 : (m : Int) ≤ 32 := by omega
  have LN := Lib.hid ln
  clear hN hm h ln l0 l1
  by_cases b1 : 0 ≤ addr
  case neg =>
    have hr := Lib.hid (show sIn N addr n = false from by simp [sIn]; omega)
    go_enter Tryz.func88, Tryz.ntmps88
    go_wp2
    go_ret
    exact ⟨by rw [hr.out]; rfl, rfl⟩
  by_cases b1 : 0 ≤ n
  case neg =>
    have hr := Lib.hid (show sIn N addr n = false from by simp [sIn]; omega)
    go_enter Tryz.func88, Tryz.ntmps88
    go_wp2
    go_ret
    exact ⟨by rw [hr.out]; rfl, rfl⟩
  by_cases b1 : addr ≤ (N : Int)
  case neg =>
    have hr := Lib.hid (show sIn N addr n = false from by simp [sIn]; omega)
    go_enter Tryz.func88, Tryz.ntmps88
    go_wp2
    go_ret
    exact ⟨by rw [hr.out]; rfl, rfl⟩
  by_cases b1 : n ≤ (N : Int) - addr
  case neg =>
    have hr := Lib.hid (show sIn N addr n = false from by simp [sIn]; omega)
    go_enter Tryz.func88, Tryz.ntmps88
    go_wp2
    go_ret
    exact ⟨by rw [hr.out]; rfl, rfl⟩
  have hr := Lib.hid (show sIn N addr n = true from by simp [sIn]; omega)
  go_enter Tryz.func88, Tryz.ntmps88
  go_wp2
  go_ret
  exact ⟨by rw [hr.out]; rfl, rfl⟩

theorem rin_c {F : Foot} {bs ks : List Int} (w : World) (h : St 70 w F bs ks) (addr n : Int) : Calls Tryz.prog 90 #[.pointer (some ⟨F.g, 0, none⟩), .int .i64 addr, .int .i64 n] w fun e w' => e = .returned (.bool (sIn bs.length addr n)) ∧ w = w' := by
  obtain ⟨N, hN⟩ : ∃ N, bs.length = N := ⟨_, rfl⟩
  obtain ⟨m, hm⟩ : ∃ m, ks.length = m := ⟨_, rfl⟩
  have c0 := h.cell0
  have c1 := h.cell1
  have H := Lib.hid h
  have ln := h.ln
  have l0 := h.l0
  have l1 := h.l1
  rw [hN] at c0 ln ⊢
  rw [hm] at c1 ln l0 l1
  have HN := Lib.hid hN
  have HM := Lib.hid hm
  have n0 : (2048 : Int) ≤ (N : Int) := by omega
  have n1 : (N : Int) ≤ 65536 := by omega
  have m0 : (1 : Int) ≤ (m : Int) := by omega
  have m1 : (m : Int) ≤ 32 := by omega
  have LN := Lib.hid ln
  clear hN hm h ln l0 l1
  by_cases b1 : 0 ≤ addr
  case neg =>
    have hr := Lib.hid (show sIn N addr n = false from by simp [sIn]; omega)
    go_enter Tryz.func90, Tryz.ntmps90
    go_wp2
    go_ret
    exact ⟨by rw [hr.out]; rfl, rfl⟩
  by_cases b1 : 0 ≤ n
  case neg =>
    have hr := Lib.hid (show sIn N addr n = false from by simp [sIn]; omega)
    go_enter Tryz.func90, Tryz.ntmps90
    go_wp2
    go_ret
    exact ⟨by rw [hr.out]; rfl, rfl⟩
  by_cases b1 : addr ≤ (N : Int)
  case neg =>
    have hr := Lib.hid (show sIn N addr n = false from by simp [sIn]; omega)
    go_enter Tryz.func90, Tryz.ntmps90
    go_wp2
    go_ret
    exact ⟨by rw [hr.out]; rfl, rfl⟩
  by_cases b1 : n ≤ (N : Int) - addr
  case neg =>
    have hr := Lib.hid (show sIn N addr n = false from by simp [sIn]; omega)
    go_enter Tryz.func90, Tryz.ntmps90
    go_wp2
    go_ret
    exact ⟨by rw [hr.out]; rfl, rfl⟩
  have hr := Lib.hid (show sIn N addr n = true from by simp [sIn]; omega)
  go_enter Tryz.func90, Tryz.ntmps90
  go_wp2
  go_ret
  exact ⟨by rw [hr.out]; rfl, rfl⟩

theorem size_c {F : Foot} {bs ks : List Int} (w : World) (h : St 77 w F bs ks)  : Calls Tryz.prog 32 #[.pointer (some ⟨F.g, 0, none⟩)] w fun e w' => e = .returned (.int .i64 bs.length) ∧ w = w' := by
  obtain ⟨N, hN⟩ : ∃ N, bs.length = N := ⟨_, rfl⟩
  obtain ⟨m, hm⟩ : ∃ m, ks.length = m := ⟨_, rfl⟩
  have c0 := h.cell0
  have c1 := h.cell1
  have H := Lib.hid h
  have ln := h.ln
  have l0 := h.l0
  have l1 := h.l1
  rw [hN] at c0 ln ⊢
  rw [hm] at c1 ln l0 l1
  have HN := Lib.hid hN
  have HM := Lib.hid hm
  have n0 : (2048 : Int) ≤ (N : Int) := by omega
  have n1 : (N : Int) ≤ 65536 := by omega
  have m0 : (1 : Int) ≤ (m : Int) := by omega
  have m1 : (m : Int) ≤ 32 := by omega
  have LN := Lib.hid ln
  clear hN hm h ln l0 l1
  go_enter Tryz.func32, Tryz.ntmps32
  go_wp2
  go_ret
  exact ⟨rfl, rfl⟩

/-- the key that KeyOf returns -/
def sKV (N : Nat) (ks : List Int) (addr : Int) : Int := if sAt N addr = true then ks.getD (addr / 2048).toNat 0 else 0

theorem keyof_c {F : Foot} {bs ks : List Int} (w : World) (h : St 77 w F bs ks) (addr : Int) : Calls Tryz.prog 31 #[.pointer (some ⟨F.g, 0, none⟩), .int .i64 addr] w fun e w' => e = .returned (.tuple #[.int .i64 (sKV bs.length ks addr), .bool (sAt bs.length addr)]) ∧ w = w' := by
  obtain ⟨N, hN⟩ : ∃ N, bs.length = N := ⟨_, rfl⟩
  obtain ⟨m, hm⟩ : ∃ m, ks.length = m := ⟨_, rfl⟩
  have c0 := h.cell0
  have c1 := h.cell1
  have H := Lib.hid h
  have ln := h.ln
  have l0 := h.l0
  have l1 := h.l1
  rw [hN] at c0 ln ⊢
  rw [hm] at c1 ln l0 l1
  have HN := Lib.hid hN
  have HM := Lib.hid hm
  have n0 : (2048 : Int) ≤ (N : Int) := by omega
  have n1 : (N : Int) ≤ 65536 := by omega
  have m0 : (1 : Int) ≤ (m : Int) := by omega
  have m1 : (m : Int) ≤ 32 := by omega
  have LN := Lib.hid ln
  clear hN hm h ln l0 l1
  by_cases b1 : 0 ≤ addr
  case neg =>
    have hr := Lib.hid (show sAt N addr = false from by simp [sAt]; omega)
    go_enter Tryz.func31, Tryz.ntmps31
    go_wp2
    go_ret2
    exact ⟨by unfold sKV; rw [hr.out]; rfl, rfl⟩
  by_cases b2 : addr < (N : Int)
  case neg =>
    have hr := Lib.hid (show sAt N addr = false from by simp [sAt]; omega)
    go_enter Tryz.func31, Tryz.ntmps31
    go_wp2
    go_ret2
    exact ⟨by unfold sKV; rw [hr.out]; rfl, rfl⟩
  have hr := Lib.hid (show sAt N addr = true from by simp [sAt]; omega)
  have i0 : 0 ≤ addr / 2048 := by omega
  have i1 : addr / 2048 < (m : Int) := by have := LN.out; omega
  have ck := H.out.key (i := (addr / 2048).toNat) (by rw [HM.out]; omega)
  obtain ⟨kv, hk⟩ : ∃ kv, ks.getD (addr / 2048).toNat 0 = kv := ⟨_, rfl⟩
  rw [hk] at ck
  have HK := Lib.hid hk
  clear hk
  go_enter Tryz.func31, Tryz.ntmps31
  go_wp2
  go_ret2
  exact ⟨by unfold sKV; rw [hr.out, if_pos rfl, HK.out]; rfl, rfl⟩

/-- is a key? -/
def sKey (k : Int) : Bool := decide (0 ≤ k ∧ k ≤ 31)
def sSet (N : Nat) (ks : List Int) (addr key : Int) : List Int := if (sAt N addr && sKey key) = true then ks.set (addr / 2048).toNat key else ks

theorem setkey_c {F : Foot} {bs ks : List Int} (w : World) (h : St 77 w F bs ks) (addr key : Int) : Calls Tryz.prog 14 #[.pointer (some ⟨F.g, 0, none⟩), .int .i64 addr, .int .i64 key] w fun e w' => e = .returned (.bool (sAt bs.length addr && sKey key)) ∧ St 77 w' F bs (sSet bs.length ks addr key) ∧ w.grownBy w' (some F.gk) := by
  obtain ⟨N, hN⟩ : ∃ N, bs.length = N := ⟨_, rfl⟩
  obtain ⟨m, hm⟩ : ∃ m, ks.length = m := ⟨_, rfl⟩
  have c0 := h.cell0
  have c1 := h.cell1
  have H := Lib.hid h
  have ln := h.ln
  have l0 := h.l0
  have l1 := h.l1
  rw [hN] at c0 ln ⊢
  rw [hm] at c1 ln l0 l1
  have HN := Lib.hid hN
  have HM := Lib.hid hm
  have n0 : (2048 : Int) ≤ (N : Int) := by omega
  have n1 : (N : Int) ≤ 65536 := by omega
  have m0 : (1 : Int) ≤ (m : Int) := by omega
  have m1 : (m : Int) ≤ 32 := by omega
  have LN := Lib.hid ln
  clear hN hm h ln l0 l1
  by_cases b1 : 0 ≤ addr
  case neg =>
    have hr := Lib.hid (show (sAt N addr && sKey key) = false from by simp [sAt, sKey]; omega)
    go_enter Tryz.func14, Tryz.ntmps14
    go_wp2
    go_ret
    exact ⟨by rw [hr.out]; rfl, by unfold sSet; rw [hr.out]; exact H.out, World.grownBy.refl w _⟩
  by_cases b2 : addr < (N : Int)
  case neg =>
    have hr := Lib.hid (show (sAt N addr && sKey key) = false from by simp [sAt, sKey]; omega)
    go_enter Tryz.func14, Tryz.ntmps14
    go_wp2
    go_ret
    exact ⟨by rw [hr.out]; rfl, by unfold sSet; rw [hr.out]; exact H.out, World.grownBy.refl w _⟩
  by_cases b3 : 0 ≤ key
  case neg =>
    have hr := Lib.hid (show (sAt N addr && sKey key) = false from by simp [sAt, sKey]; omega)
    go_enter Tryz.func14, Tryz.ntmps14
    go_wp2
    go_ret
    exact ⟨by rw [hr.out]; rfl, by unfold sSet; rw [hr.out]; exact H.out, World.grownBy.refl w _⟩
  by_cases b4 : key ≤ 31
  case neg =>
    have hr := Lib.hid (show (sAt N addr && sKey key) = false from by simp [sAt, sKey]; omega)
    go_enter Tryz.func14, Tryz.ntmps14
    go_wp2
    go_ret
    exact ⟨by rw [hr.out]; rfl, by unfold sSet; rw [hr.out]; exact H.out, World.grownBy.refl w _⟩
  have hr := Lib.hid (show (sAt N addr && sKey key) = true from by simp [sAt, sKey]; omega)
  have i0 : 0 ≤ addr / 2048 := by omega
  have i1 : addr / 2048 < (m : Int) := by have := LN.out; omega
  have ck := H.out.key (i := (addr / 2048).toNat) (by rw [HM.out]; omega)
  obtain ⟨kv, hk⟩ : ∃ kv, ks.getD (addr / 2048).toNat 0 = kv := ⟨_, rfl⟩
  rw [hk] at ck
  clear hk
  have fk := H.out.k.free (addr / 2048).toNat
  go_enter Tryz.func14, Tryz.ntmps14
  go_wp2
  go_ret
  exact ⟨by rw [hr.out]; rfl, by unfold sSet; rw [hr.out]; exact H.out.setKey (by decide) ⟨b3, b4⟩, grown_setCell _ _ _ _⟩

theorem rsetkey_c {F : Foot} {bs ks : List Int} (w : World) (h : St 70 w F bs ks) (addr key : Int) : Calls Tryz.prog 15 #[.pointer (some ⟨F.g, 0, none⟩), .int .i64 addr, .int .i64 key] w fun e w' => e = .returned (.bool (sAt bs.length addr && sKey key)) ∧ St 70 w' F bs (sSet bs.length ks addr key) ∧ w.grownBy w' (some F.gk) := by
  obtain ⟨N, hN⟩ : ∃ N, bs.length = N := ⟨_, rfl⟩
  obtain ⟨m, hm⟩ : ∃ m, ks.length = m := ⟨_, rfl⟩
  have c0 := h.cell0
  have c1 := h.cell1
  have H := Lib.hid h
  have ln := h.ln
  have l0 := h.l0
  have l1 := h.l1
  rw [hN] at c0 ln ⊢
  rw [hm] at c1 ln l0 l1
  have HN := Lib.hid hN
  have HM := Lib.hid hm
  have n0 : (2048 : Int) ≤ (N : Int) := by omega
  have n1 : (N : Int) ≤ 65536 := by omega
  have m0 : (1 : Int) ≤ (m : Int) := by omega
  have m1 : (m : Int) ≤ 32 := by omega
  have LN := Lib.hid ln
  clear hN hm h ln l0 l1
  by_cases b1 : 0 ≤ addr
  case neg =>
    have hr := Lib.hid (show (sAt N addr && sKey key) = false from by simp [sAt, sKey]; omega)
    go_enter Tryz.func15, Tryz.ntmps15
    go_wp2
    go_ret
    exact ⟨by rw [hr.out]; rfl, by unfold sSet; rw [hr.out]; exact H.out, World.grownBy.refl w _⟩
  by_cases b2 : addr < (N : Int)
  case neg =>
    have hr := Lib.hid (show (sAt N addr && sKey key) = false from by simp [sAt, sKey]; omega)
    go_enter Tryz.func15, Tryz.ntmps15
    go_wp2
    go_ret
    exact ⟨by rw [hr.out]; rfl, by unfold sSet; rw [hr.out]; exact H.out, World.grownBy.refl w _⟩
  by_cases b3 : 0 ≤ key
  case neg =>
    have hr := Lib.hid (show (sAt N addr && sKey key) = false from by simp [sAt, sKey]; omega)
    go_enter Tryz.func15, Tryz.ntmps15
    go_wp2
    go_ret
    exact ⟨by rw [hr.out]; rfl, by unfold sSet; rw [hr.out]; exact H.out, World.grownBy.refl w _⟩
  by_cases b4 : key ≤ 31
  case neg =>
    have hr := Lib.hid (show (sAt N addr && sKey key) = false from by simp [sAt, sKey]; omega)
    go_enter Tryz.func15, Tryz.ntmps15
    go_wp2
    go_ret
    exact ⟨by rw [hr.out]; rfl, by unfold sSet; rw [hr.out]; exact H.out, World.grownBy.refl w _⟩
  have hr := Lib.hid (show (sAt N addr && sKey key) = true from by simp [sAt, sKey]; omega)
  have i0 : 0 ≤ addr / 2048 := by omega
  have i1 : addr / 2048 < (m : Int) := by have := LN.out; omega
  have ck := H.out.key (i := (addr / 2048).toNat) (by rw [HM.out]; omega)
  obtain ⟨kv, hk⟩ : ∃ kv, ks.getD (addr / 2048).toNat 0 = kv := ⟨_, rfl⟩
  rw [hk] at ck
  clear hk
  have fk := H.out.k.free (addr / 2048).toNat
  go_enter Tryz.func15, Tryz.ntmps15
  go_wp2
  go_ret
  exact ⟨by rw [hr.out]; rfl, by unfold sSet; rw [hr.out]; exact H.out.setKey (by decide) ⟨b3, b4⟩, grown_setCell _ _ _ _⟩

end Go.Proofs.YthjdjbipfdigeaaGreat

namespace Go.Proofs.YthjdjbipfdigeaaGreat
open Go.RowKit
set_option maxRecDepth 100000
set_option linter.unusedVariables false

theorem splice_get {α : Type} (L : List α) (k : Nat) (us : List α) (h : k + us.length ≤ L.length) (i : Nat) : (splice L k us)[i]? = if i < k then L[i]? else if i < k + us.length then us[i - k]? else L[i]? := by
  unfold splice
  rw [List.getElem?_append]
  rw [List.length_take]
  by_cases h1 : i < k
  · rw [if_pos (by omega), if_pos h1, List.getElem?_take, if_pos h1]
  · rw [if_neg (by omega), if_neg h1, List.getElem?_append, show min k L.length = k from by omega]
    by_cases h2 : i < k + us.length
    · rw [if_pos (by omega), if_pos h2]
    · rw [if_neg (by omega), if_neg h2, List.getElem?_drop]
      congr 1; omega
theorem splice_set {α : Type} (L : List α) (k : Nat) (us : List α) (y : α) (h : k + us.length < L.length) : (splice L k us).set (k + us.length) y = splice L k (us ++ [y]) := by
  apply List.ext_getElem?
  intro i
  rw [List.getElem?_set, splice_get _ _ _ (by omega), splice_get _ _ _ (by simp; omega), length_splice _ _ _ (by omega)]
  simp only [List.length_append, List.length_cons, List.length_nil]
  by_cases h1 : k + us.length = i
  · subst h1
    rw [if_pos rfl, if_pos h, if_neg (by omega), if_pos (by omega), List.getElem?_append, if_neg (by omega)]
    simp
  · rw [if_neg h1]
    by_cases h2 : i < k
    · rw [if_pos h2, if_pos h2]
    · rw [if_neg h2, if_neg h2]
      by_cases h3 : i < k + us.length
      · rw [if_pos h3, if_pos (by omega), List.getElem?_append, if_pos (by omega)]
      · rw [if_neg h3, if_neg (by omega)]
theorem splice_nil {α : Type} (L : List α) (k : Nat) : splice L k [] = L := by simp [splice]
/-- k zero bytes, k zero numbers, behind a name -/
def zeroB (k : Nat) : Array Value := (List.replicate k (Value.int .u8 0)).toArray
def zeroI (k : Nat) : Array Value := (List.replicate k (Value.int .i64 0)).toArray
theorem info_int : (Tryz.prog.info? 3).map (fun i => (i.zero, i.size, i.bytes)) = some (some (.int .i64 0), 1, 8) := by kernel_rfl
theorem made_one (z : Value) (n : Nat) (hz : z.cells = #[z]) : madeCells z.cells n = (List.replicate n z).toArray := by
  rw [hz]
  unfold madeCells
  apply Array.ext
  · simp
  · intro i h1 h2
    simp [Nat.mod_one]
theorem run_mk_b (k : Nat) (hk : (k : Int) ≤ 1000000) (W : World) : (Instr.makeSlice 29 (.int .i64 (k : Int)) (.int .i64 (k : Int))).run Tryz.prog W = .ok (.slice (some ⟨W.heap.size, 0, none⟩) k k) (W.alloc (.cells (zeroB k) 5)) := by
  obtain ⟨i0, hi, hz0, hz1, hz2⟩ := info_parts info_u8
  have h := run_make (P := Tryz.prog) W 29 5 i0 (.int .u8 0) Tryz.underlying29 hi hz0 .i64 .i64 (k : Int) (k : Int) (by omega) (by omega) (by rw [hz2]; omega) (by omega)
  rw [hz1, Nat.mul_one, Int.toNat_natCast, made_one _ _ rfl] at h
  exact h
theorem run_mk_i (k : Nat) (hk : (k : Int) ≤ 1000000) (W : World) : (Instr.makeSlice 68 (.int .i64 (k : Int)) (.int .i64 (k : Int))).run Tryz.prog W = .ok (.slice (some ⟨W.heap.size, 0, none⟩) k k) (W.alloc (.cells (zeroI k) 3)) := by
  obtain ⟨i0, hi, hz0, hz1, hz2⟩ := info_parts info_int
  have h := run_make (P := Tryz.prog) W 68 3 i0 (.int .i64 0) Tryz.underlying68 hi hz0 .i64 .i64 (k : Int) (k : Int) (by omega) (by omega) (by rw [hz2]; omega) (by omega)
  rw [hz1, Nat.mul_one, Int.toNat_natCast, made_one _ _ rfl] at h
  exact h
theorem own_zeros (W : World) (k base : Nat) (hb : base ≤ W.heap.size) (hk : k ≤ maxLen) : Own (W.alloc (.cells (zeroB k) 5)) base (.slice (some ⟨W.heap.size, 0, none⟩) k k) k (List.replicate k 0) := by
  refine Own.of_heap (cur := List.replicate k (Value.int .u8 0)) (heap_alloc_new W _) (by simp) ?_ (by simp) hb (Nat.le_refl _) hk ?_
  · rw [List.take_of_length_le (by simp)]; simp
  · intro z hz; rw [List.eq_of_mem_replicate hz]; omega

section
variable {T : TypeId} {w : World} {F : Foot} {bs ks : List Int}
/-- COPY out of a storage into new bytes -/
theorem run_copy_from (h : St T w F bs ks) {base g k a : Nat} {c' : Nat} {zs : List Int} {X : Option Addr} (hO : Own w base (.slice (some ⟨g, 0, none⟩) k k) k zs) (ha : a + k ≤ bs.length) (hX : X = some ⟨F.gb, a, none⟩ ∨ (X = some ⟨F.gb, 0, none⟩ ∧ k = 0)) :
    ∃ w2, (Builtin.copy_ #[29, 29] 3 #[.slice (some ⟨g, 0, none⟩) k k, .slice X (bs.length - a) c']).run Tryz.prog w = .ok (.int .i64 (k : Int)) w2 ∧
      Own w2 base (.slice (some ⟨g, 0, none⟩) k k) k ((bs.drop a).take k) ∧ Below base w w2 := by
  obtain ⟨i0, hi, hz0, hz1, hz2⟩ := info_parts info_u8
  have hone : (Tryz.prog.info? 5).map (·.size) = some 1 := by rw [hi]; simp [hz1]
  obtain ⟨cur, q1, q2, q3, q4, q5, q6⟩ := Own.heap hO
  have hby := h.byt (a := a) (n := k) (by omega)
  have hlen : (((bs.drop a).take k).map (Value.int .u8)).length = k := by simp; omega
  obtain ⟨ad, rfl, hsrc⟩ : ∃ ad, X = some ad ∧ ∀ j u, (((bs.drop a).take k).map (Value.int .u8))[j]? = some u → w.cell? (ad.add j) = some u := by
    rcases hX with rfl | ⟨rfl, rfl⟩
    · refine ⟨_, rfl, ?_⟩
      rcases Nat.eq_zero_or_pos k with rfl | h0
      · intro j u hu; simp at hu
      · exact hby.cells h0
    · exact ⟨_, rfl, by intro j u hu; simp at hu⟩
  have hrun := run_copy_row (P := Tryz.prog) w 29 29 3 5 g 0 k k ad (bs.length - a) c' cur.toArray 5 (((bs.drop a).take k).map (Value.int .u8)) Tryz.underlying29 hone q1 (by rw [hlen]; exact (Nat.min_eq_right (by omega)).symm) hsrc (by rw [hlen]; simp; omega) (by intro v hv; obtain ⟨z, _, rfl⟩ := List.mem_map.1 hv; rfl)
  have e : cur.toArray.toList.take 0 ++ ((bs.drop a).take k).map (Value.int .u8) ++ cur.toArray.toList.drop (0 + (((bs.drop a).take k).map (Value.int .u8)).length) = ((bs.drop a).take k).map (Value.int .u8) := by
    rw [hlen]; simp [List.drop_of_length_le (show cur.length ≤ k by omega)]
  rw [e, hlen] at hrun
  refine ⟨_, hrun, ?_, below_setRow (Below.refl _ _) q4 _⟩
  refine Own.of_heap (setRow_heap w g _ _ _ _ q1) hlen ?_ hby.1 q4 q5 q6 hby.2.1
  rw [List.take_of_length_le (by rw [hlen]; exact Nat.le_refl _)]
/-- COPY of bytes into a storage -/
theorem run_copy_to (h : St T w F bs ks) (hT : T ≠ 5) {a len c dc : Nat} {ys : List Int} {A X : Option Addr} (hy : Byt w A len ys) (ha : a + len ≤ bs.length) (hX : X = some ⟨F.gb, a, none⟩ ∨ (X = some ⟨F.gb, 0, none⟩ ∧ len = 0)) :
    ∃ w2, (Builtin.copy_ #[29, 29] 3 #[.slice X (bs.length - a) dc, .slice A len c]).run Tryz.prog w = .ok (.int .i64 (len : Int)) w2 ∧
      St T w2 F (splice bs a ys) ks ∧ w.grownBy w2 (some F.gb) := by
  obtain ⟨i0, hi, hz0, hz1, hz2⟩ := info_parts info_u8
  have hone : (Tryz.prog.info? 5).map (·.size) = some 1 := by rw [hi]; simp [hz1]
  rcases Nat.eq_zero_or_pos len with rfl | h0
  · obtain rfl : ys = [] := List.eq_nil_of_length_eq_zero hy.1
    have hrun := run_copy_none (P := Tryz.prog) w 29 29 3 5 X A (bs.length - a) dc 0 c Tryz.underlying29 hone (by simp)
    exact ⟨w, hrun, by rw [splice_nil]; exact h, World.grownBy.refl w _⟩
  · obtain ⟨b, off, rfl, _⟩ := hy.2.2 h0
    obtain rfl : X = some ⟨F.gb, a, none⟩ := by
      rcases hX with h1 | ⟨_, h2⟩
      · exact h1
      · omega
    obtain ⟨cur, h1, h2, h3⟩ := h.lay hT a ys hy.2.1 (by rw [hy.1]; exact ha)
    have hlen : (ys.map (Value.int .u8)).length = len := by simp [hy.1]
    have hcap := h.capb
    have hrun := run_copy_row (P := Tryz.prog) w 29 29 3 5 F.gb a (bs.length - a) dc ⟨b, off, none⟩ len c cur.toArray 5 (ys.map (Value.int .u8)) Tryz.underlying29 hone h1 (by rw [hlen]; exact (Nat.min_eq_left (by omega)).symm) (hy.cells h0) (by rw [hlen]; simp; omega) (by intro v hv; obtain ⟨z, _, rfl⟩ := List.mem_map.1 hv; rfl)
    have e : cur.toArray.toList.take a ++ ys.map (Value.int .u8) ++ cur.toArray.toList.drop (a + (ys.map (Value.int .u8)).length) = splice cur a (ys.map (Value.int .u8)) := by simp [splice]
    rw [e, hlen] at hrun
    exact ⟨_, hrun, h3, grown_setRow _ _ _⟩
end
end Go.Proofs.YthjdjbipfdigeaaGreat

namespace Go.Proofs.YthjdjbipfdigeaaGreat
open Go.RowKit
set_option maxRecDepth 100000
set_option linter.unusedVariables false
set_option linter.unusedSimpArgs false

/-- the call returns a slice of its own that holds zs, and writes nothing that was there -/
def GivesB (w : World) (zs : List Int) (e : Ending) (w' : World) : Prop := ∃ A m c, e = .returned (.slice A m c) ∧ Own w' w.heap.size (.slice A m c) m zs ∧ Below w.heap.size w w'
theorem sGet_no {N : Nat} {bs : List Int} {addr n : Int} (hN : bs.length = N) (h : sIn N addr n = false) : sGet bs addr n = [] := by unfold sGet; rw [hN, h]; rfl
theorem sGet_yes {N a k : Nat} {bs : List Int} (hN : bs.length = N) (h : sIn N (a : Int) (k : Int) = true) : sGet bs (a : Int) (k : Int) = (bs.drop a).take k := by unfold sGet; rw [hN, h]; simp

set_option maxHeartbeats 1000000 in
theorem bytes_c {F : Foot} {bs ks : List Int} (w : World) (h : St 77 w F bs ks) (addr n : Int) : Calls Tryz.prog 34 #[.pointer (some ⟨F.g, 0, none⟩), .int .i64 addr, .int .i64 n] w (GivesB w (sGet bs addr n)) := by
  obtain ⟨N, hN⟩ : ∃ N, bs.length = N := ⟨_, rfl⟩
  have c0 := h.cell0
  have H := Lib.hid h
  have n0 : (2048 : Int) ≤ (N : Int) := by have := h.ln; have := h.l0; omega
  have n1 : (N : Int) ≤ 65536 := by have := h.ln; have := h.l1; omega
  rw [hN] at c0
  have HN := Lib.hid hN
  have ltg := H.out.ltg
  clear hN h
  cases hi : sIn N addr n
  · rw [sGet_no HN.out hi]
    go_enter Tryz.func34, Tryz.ntmps34
    go_wp2_with (go_at_call 88; refine (in_c _ H.out _ _).mono ?_; rintro e w1 ⟨rfl, rfl⟩; rw [HN.out, hi])
    go_ret
    exact ⟨none, 0, 0, rfl, Own.nil _ _, Below.refl _ _⟩
  obtain ⟨b0, b1, b2, b3⟩ := sIn_yes hi
  obtain ⟨a, rfl⟩ := Int.eq_ofNat_of_zero_le b0
  obtain ⟨k, rfl⟩ := Int.eq_ofNat_of_zero_le b1
  have a0 : (a : Int) ≤ (N : Int) := b2
  have a1 : (a : Int) + (k : Int) ≤ (N : Int) := by omega
  have g0 := Lib.hid (show a + k ≤ bs.length from by rw [HN.out]; omega)
  have lb := H.out.capb
  rw [HN.out] at lb
  have lbb := H.out.maxb
  unfold maxLen at lbb
  have kN : (k : Int) ≤ 1000000 := by omega
  have aN : a ≤ N := by omega
  have kk : k ≤ N - a := by omega
  rw [sGet_yes HN.out hi]
  by_cases hcap : F.cb = a
  · obtain rfl : N = a := by omega
    obtain rfl : k = 0 := by omega
    rw [show ((0 : Nat) : Int) = 0 from rfl] at hi ⊢
    have hmk : ∀ W : World, (Instr.makeSlice 29 (.int .i64 0) (.int .i64 0)).run Tryz.prog W = .ok (.slice (some ⟨W.heap.size, 0, none⟩) 0 0) (W.alloc (.cells (zeroB 0) 5)) := fun W => run_mk_b 0 (by decide) W
    obtain ⟨w2, hcp, ho, hb⟩ := run_copy_from (H.out.alloc (.cells (zeroB 0) 5)) (own_zeros w 0 w.heap.size (Nat.le_refl _) (by decide)) g0.out (c' := 0) (.inr ⟨rfl, rfl⟩)
    rw [HN.out, Nat.sub_self] at hcp
    have hcp' : (Builtin.copy_ #[29, 29] 3 #[.slice (some ⟨w.heap.size, 0, none⟩) 0 0, .slice (some ⟨F.gb, 0, none⟩) 0 0]).run Tryz.prog (w.alloc (.cells (zeroB 0) 5)) = .ok (.int .i64 0) w2 := hcp
    have HO := Lib.hid ho
    have HB := Lib.hid hb
    rw [hcap] at c0
    clear ho hb hcp hcap lb lbb
    go_enter Tryz.func34, Tryz.ntmps34
    go_wp2_with (go_at_call 88; refine (in_c _ H.out _ _).mono ?_; rintro e w1 ⟨rfl, rfl⟩; rw [HN.out, hi])
    go_ret
    exact ⟨_, _, _, rfl, HO.out, ((Below.refl w.heap.size w).alloc (Nat.le_refl _) _).trans HB.out⟩
  · have hmk := fun W => run_mk_b k kN W
    obtain ⟨w2, hcp, ho, hb⟩ := run_copy_from (H.out.alloc (.cells (zeroB k) 5)) (own_zeros w k w.heap.size (Nat.le_refl _) (by unfold maxLen; omega)) g0.out (c' := F.cb - a) (.inl rfl)
    rw [HN.out] at hcp
    have HO := Lib.hid ho
    have HB := Lib.hid hb
    clear ho hb
    go_enter Tryz.func34, Tryz.ntmps34
    go_wp2_with (go_at_call 88; refine (in_c _ H.out _ _).mono ?_; rintro e w1 ⟨rfl, rfl⟩; rw [HN.out, hi])
    go_ret
    exact ⟨_, _, _, rfl, HO.out, ((Below.refl w.heap.size w).alloc (Nat.le_refl _) _).trans HB.out⟩

set_option maxHeartbeats 1000000 in
theorem rbytes_c {F : Foot} {bs ks : List Int} (w : World) (h : St 70 w F bs ks) (addr n : Int) : Calls Tryz.prog 165 #[.pointer (some ⟨F.g, 0, none⟩), .int .i64 addr, .int .i64 n] w (GivesB w (sGet bs addr n)) := by
  obtain ⟨N, hN⟩ : ∃ N, bs.length = N := ⟨_, rfl⟩
  have c0 := h.cell0
  have H := Lib.hid h
  have n0 : (2048 : Int) ≤ (N : Int) := by have := h.ln; have := h.l0; omega
  have n1 : (N : Int) ≤ 65536 := by have := h.ln; have := h.l1; omega
  rw [hN] at c0
  have HN := Lib.hid hN
  have ltg := H.out.ltg
  clear hN h
  cases hi : sIn N addr n
  · rw [sGet_no HN.out hi]
    go_enter Tryz.func165, Tryz.ntmps165
    go_wp2_with (go_at_call 90; refine (rin_c _ H.out _ _).mono ?_; rintro e w1 ⟨rfl, rfl⟩; rw [HN.out, hi])
    go_ret
    exact ⟨none, 0, 0, rfl, Own.nil _ _, Below.refl _ _⟩
  obtain ⟨b0, b1, b2, b3⟩ := sIn_yes hi
  obtain ⟨a, rfl⟩ := Int.eq_ofNat_of_zero_le b0
  obtain ⟨k, rfl⟩ := Int.eq_ofNat_of_zero_le b1
  have a0 : (a : Int) ≤ (N : Int) := b2
  have a1 : (a : Int) + (k : Int) ≤ (N : Int) := by omega
  have g0 := Lib.hid (show a + k ≤ bs.length from by rw [HN.out]; omega)
  have lb := H.out.capb
  rw [HN.out] at lb
  have lbb := H.out.maxb
  unfold maxLen at lbb
  have kN : (k : Int) ≤ 1000000 := by omega
  have aN : a ≤ N := by omega
  have kk : k ≤ N - a := by omega
  rw [sGet_yes HN.out hi]
  by_cases hcap : F.cb = a
  · obtain rfl : N = a := by omega
    obtain rfl : k = 0 := by omega
    rw [show ((0 : Nat) : Int) = 0 from rfl] at hi ⊢
    have HY := Lib.hid (show Byt w (some ⟨F.gb, 0, none⟩) 0 ((bs.drop N).take 0) from ⟨by simp, by simp, fun h => absurd h (by omega)⟩)
    rw [hcap] at c0
    clear hcap lb lbb
    go_enter Tryz.func165, Tryz.ntmps165
    go_wp2_with (first | (go_at_call 90; refine (rin_c _ H.out _ _).mono ?_; rintro e w1 ⟨rfl, rfl⟩; rw [HN.out, hi]) | (at_builtin; refine wpList_append_bytes rfl _ _ rfl w.heap.size (.slice (some ⟨w.heap.size, 0, none⟩) 0 0) 0 [] rfl (Own.empty w w.heap.size (Nat.le_refl _)) (some ⟨F.gb, 0, none⟩) 0 0 ((bs.drop N).take 0) rfl (HY.out.keep ((Below.refl _ _).alloc (Nat.le_refl _) _)) (by intro h; cases h) (by omega) (by simp) ?_; intro v' w1 hown hg; rw [Nat.zero_add, List.nil_append] at hown; have HO := Lib.hid hown; have HG := Lib.hid hg; clear hown hg))
    go_ret
    rcases HO.out.form with ⟨h1, h2⟩ | ⟨g, cap, h1, _⟩
    · first | subst h2 | clear h2
      exact ⟨none, 0, 0, by rw [h1]; rfl, by rw [← h1]; exact HO.out, ((Below.refl w.heap.size w).alloc (Nat.le_refl _) _).grown HG.out (by simp) (by intro g hg; simp [Value.ownBlock] at hg; omega)⟩
    · exact ⟨_, _, cap, by rw [h1]; rfl, by rw [← h1]; exact HO.out, ((Below.refl w.heap.size w).alloc (Nat.le_refl _) _).grown HG.out (by simp) (by intro g hg; simp [Value.ownBlock] at hg; omega)⟩
  · have hby := H.out.byt (a := a) (n := k) (by have := g0.out; omega)
    have HY := Lib.hid (show Byt w (some ⟨F.gb, a, none⟩) (a + k - a) ((bs.drop a).take k) from by rw [Nat.add_sub_cancel_left]; exact hby)
    clear hby
    go_enter Tryz.func165, Tryz.ntmps165
    go_wp2_with (first | (go_at_call 90; refine (rin_c _ H.out _ _).mono ?_; rintro e w1 ⟨rfl, rfl⟩; rw [HN.out, hi]) | (at_builtin; refine wpList_append_bytes rfl _ _ rfl w.heap.size (.slice (some ⟨w.heap.size, 0, none⟩) 0 0) 0 [] rfl (Own.empty w w.heap.size (Nat.le_refl _)) (some ⟨F.gb, a, none⟩) (a + k - a) (F.cb - a) ((bs.drop a).take k) rfl (HY.out.keep ((Below.refl _ _).alloc (Nat.le_refl _) _)) (by intro h; cases h) (by omega) (by simp) ?_; intro v' w1 hown hg; rw [Nat.zero_add, Nat.add_sub_cancel_left, List.nil_append] at hown; have HO := Lib.hid hown; have HG := Lib.hid hg; clear hown hg))
    go_ret
    rcases HO.out.form with ⟨h1, h2⟩ | ⟨g, cap, h1, _⟩
    · first | subst h2 | clear h2
      exact ⟨none, 0, 0, by rw [h1]; rfl, by rw [← h1]; exact HO.out, ((Below.refl w.heap.size w).alloc (Nat.le_refl _) _).grown HG.out (by simp) (by intro g hg; simp [Value.ownBlock] at hg; omega)⟩
    · exact ⟨_, _, cap, by rw [h1]; rfl, by rw [← h1]; exact HO.out, ((Below.refl w.heap.size w).alloc (Nat.le_refl _) _).grown HG.out (by simp) (by intro g hg; simp [Value.ownBlock] at hg; omega)⟩

end Go.Proofs.YthjdjbipfdigeaaGreat

namespace Go.Proofs.YthjdjbipfdigeaaGreat
open Go.RowKit
set_option maxRecDepth 100000
set_option linter.unusedVariables false
set_option linter.unusedSimpArgs false

theorem okB_zero (al : Int → Bool) (ks : List Int) (a : Nat) : okB al ks a 0 = true := by simp [okB]
theorem okB_succ (al : Int → Bool) (ks : List Int) (a n : Nat) : okB al ks a (n + 1) = (okB al ks a n && al (ks.getD ((a + n) / 2048) 0)) := by
  unfold okB
  rw [List.range_succ, List.all_append]
  simp
theorem okB_false {al : Int → Bool} {ks : List Int} {a n j : Nat} (hj : j < n) (h : al (ks.getD ((a + j) / 2048) 0) = false) : okB al ks a n = false := by
  rw [Bool.eq_false_iff]
  intro h1
  unfold okB at h1
  rw [List.all_eq_true] at h1
  have := h1 j (List.mem_range.2 hj)
  rw [h] at this; cases this
theorem sCode_no {al : Int → Bool} {N : Nat} {ks : List Int} {addr n : Int} (h : sIn N addr n = false) : sCode al N ks addr n = 5 := by unfold sCode; rw [h]; rfl
theorem sCode_yes {al : Int → Bool} {N : Nat} {ks : List Int} {a n : Nat} (h : sIn N (a : Int) (n : Int) = true) : sCode al N ks (a : Int) (n : Int) = if okB al ks a n = true then 0 else 4 := by unfold sCode; rw [h]; simp

set_option maxHeartbeats 2000000 in
theorem rcode_p {F : Foot} {bs ks : List Int} (w : World) (h : St 70 w F bs ks) (addr n key : Int) : Calls Tryz.prog 37 #[.pointer (some ⟨F.g, 0, none⟩), .int .i64 addr, .int .i64 n, .int .i64 key, .bool false] w fun e w' => e = .returned (.int .i64 (sCode (alP key) bs.length ks addr n)) ∧ w = w' := by
  obtain ⟨N, hN⟩ : ∃ N, bs.length = N := ⟨_, rfl⟩
  obtain ⟨m, hm⟩ : ∃ m, ks.length = m := ⟨_, rfl⟩
  have c0 := h.cell0
  have c1 := h.cell1
  have H := Lib.hid h
  have LN := Lib.hid (show N = 2048 * m from by rw [← hN, ← hm]; exact h.ln)
  have n0 : (2048 : Int) ≤ (N : Int) := by have := h.ln; have := h.l0; omega
  have n1 : (N : Int) ≤ 65536 := by have := h.ln; have := h.l1; omega
  rw [hN] at c0
  rw [hm] at c1
  have HN := Lib.hid hN
  have HM := Lib.hid hm
  have ltg := H.out.ltg
  clear hN hm h
  rw [HN.out]
  cases hi : sIn N addr n
  · rw [sCode_no hi]
    go_enter Tryz.func37, Tryz.ntmps37
    go_wp2_with (go_at_call 90; refine (rin_c _ H.out _ _).mono ?_; rintro e w1 ⟨rfl, rfl⟩; rw [HN.out, hi])
    go_ret
    exact ⟨rfl, rfl⟩
  obtain ⟨b0, b1, b2, b3⟩ := sIn_yes hi
  obtain ⟨a, rfl⟩ := Int.eq_ofNat_of_zero_le b0
  obtain ⟨k, rfl⟩ := Int.eq_ofNat_of_zero_le b1
  rw [sCode_yes hi]
  have a0 : (a : Int) ≤ (N : Int) := b2
  have a1 : (a : Int) + (k : Int) ≤ (N : Int) := by omega
  obtain ⟨r, hr⟩ : ∃ r : Int, (if okB (alP key) ks a k = true then 0 else 4) = r := ⟨_, rfl⟩
  rw [hr]
  have HR := Lib.hid hr
  clear hr
  go_enter Tryz.func37, Tryz.ntmps37
  go_wp2_with (go_at_call 90; refine (rin_c _ H.out _ _).mono ?_; rintro e w1 ⟨rfl, rfl⟩; rw [HN.out, hi])
  go_loop [11] (fun iv => ∃ x : Nat, a ≤ x ∧ x ≤ a + k ∧ iv = .int .i64 x ∧ okB (alP key) ks a (x - a) = true) (fun iv => a + k - (intOf iv).toNat)
  case atStart => exact ⟨a, Nat.le_refl _, by omega, rfl, by rw [Nat.sub_self]; exact okB_zero _ _ _⟩
  case round =>
    obtain ⟨x, x0, x1, rfl, hok⟩ := hrel
    have OK := Lib.hid hok
    clear hok
    by_cases hlt : (x : Int) < (a : Int) + (k : Int)
    · have i0 : 0 ≤ (x : Int) / 2048 := by omega
      have i1 : (x : Int) / 2048 < (m : Int) := by have := LN.out; omega
      have ck := H.out.key (i := x / 2048) (by rw [HM.out]; have := LN.out; omega)
      have rk := H.out.keyr (x / 2048)
      obtain ⟨kv, hk⟩ : ∃ kv, ks.getD (x / 2048) 0 = kv := ⟨_, rfl⟩
      rw [hk] at ck rk
      have HK := Lib.hid hk
      obtain ⟨k0, k1⟩ := rk
      clear hk
      have st := Lib.hid (show okB (alP key) ks a (x + 1 - a) = alP key kv from by rw [show x + 1 - a = (x - a) + 1 from by omega, okB_succ, OK.out, show a + (x - a) = x from by omega, HK.out]; rfl)
      have fl := fun h : alP key kv = false => (show okB (alP key) ks a k = false from okB_false (j := x - a) (by omega) (by rw [show a + (x - a) = x from by omega, HK.out]; exact h))
      have FL := Lib.hid fl
      clear fl
      by_cases q0 : key = 0
      · subst q0
        have ok := Lib.hid (show alP 0 kv = true from by simp [alP] <;> omega)
        go_wp2
        go_round
        case rel => exact ⟨x + 1, by omega, by omega, by go_num, by rw [st.out]; exact ok.out⟩
        case measure => simp [intOf]; omega
      have e1 : (key != 0) = true := by simpa using q0
      by_cases q1 : key = kv / 2
      · have e2 : (key != kv / 2) = false := by rw [bne_eq_false_iff_eq]; exact q1
        have ok := Lib.hid (show alP key kv = true from by simp [alP] <;> omega)
        clear q1
        go_wp2
        go_round
        case rel => exact ⟨x + 1, by omega, by omega, by go_num, by rw [st.out]; exact ok.out⟩
        case measure => simp [intOf]; omega
      have e2 : (key != kv / 2) = true := by rw [bne_iff_ne]; exact q1
      have bad := Lib.hid (FL.out (show alP key kv = false from by simp [alP] <;> omega))
      clear q0 q1
      go_wp2
      go_ret
      exact ⟨by rw [← HR.out, bad.out]; rfl, rfl⟩
    · obtain rfl : x = a + k := by omega
      have fin := Lib.hid (show r = 0 from by rw [← HR.out, show okB (alP key) ks a k = true from by have := OK.out; rwa [Nat.add_sub_cancel_left] at this]; rfl)
      go_wp2
      go_ret
      exact ⟨by rw [fin.out]; rfl, rfl⟩

set_option maxHeartbeats 2000000 in
theorem rcode_f {F : Foot} {bs ks : List Int} (w : World) (h : St 70 w F bs ks) (addr n key : Int) : Calls Tryz.prog 37 #[.pointer (some ⟨F.g, 0, none⟩), .int .i64 addr, .int .i64 n, .int .i64 key, .bool true] w fun e w' => e = .returned (.int .i64 (sCode (alF key) bs.length ks addr n)) ∧ w = w' := by
  obtain ⟨N, hN⟩ : ∃ N, bs.length = N := ⟨_, rfl⟩
  obtain ⟨m, hm⟩ : ∃ m, ks.length = m := ⟨_, rfl⟩
  have c0 := h.cell0
  have c1 := h.cell1
  have H := Lib.hid h
  have LN := Lib.hid (show N = 2048 * m from by rw [← hN, ← hm]; exact h.ln)
  have n0 : (2048 : Int) ≤ (N : Int) := by have := h.ln; have := h.l0; omega
  have n1 : (N : Int) ≤ 65536 := by have := h.ln; have := h.l1; omega
  rw [hN] at c0
  rw [hm] at c1
  have HN := Lib.hid hN
  have HM := Lib.hid hm
  have ltg := H.out.ltg
  clear hN hm h
  rw [HN.out]
  cases hi : sIn N addr n
  · rw [sCode_no hi]
    go_enter Tryz.func37, Tryz.ntmps37
    go_wp2_with (go_at_call 90; refine (rin_c _ H.out _ _).mono ?_; rintro e w1 ⟨rfl, rfl⟩; rw [HN.out, hi])
    go_ret
    exact ⟨rfl, rfl⟩
  obtain ⟨b0, b1, b2, b3⟩ := sIn_yes hi
  obtain ⟨a, rfl⟩ := Int.eq_ofNat_of_zero_le b0
  obtain ⟨k, rfl⟩ := Int.eq_ofNat_of_zero_le b1
  rw [sCode_yes hi]
  have a0 : (a : Int) ≤ (N : Int) := b2
  have a1 : (a : Int) + (k : Int) ≤ (N : Int) := by omega
  obtain ⟨r, hr⟩ : ∃ r : Int, (if okB (alF key) ks a k = true then 0 else 4) = r := ⟨_, rfl⟩
  rw [hr]
  have HR := Lib.hid hr
  clear hr
  go_enter Tryz.func37, Tryz.ntmps37
  go_wp2_with (go_at_call 90; refine (rin_c _ H.out _ _).mono ?_; rintro e w1 ⟨rfl, rfl⟩; rw [HN.out, hi])
  go_loop [11] (fun iv => ∃ x : Nat, a ≤ x ∧ x ≤ a + k ∧ iv = .int .i64 x ∧ okB (alF key) ks a (x - a) = true) (fun iv => a + k - (intOf iv).toNat)
  case atStart => exact ⟨a, Nat.le_refl _, by omega, rfl, by rw [Nat.sub_self]; exact okB_zero _ _ _⟩
  case round =>
    obtain ⟨x, x0, x1, rfl, hok⟩ := hrel
    have OK := Lib.hid hok
    clear hok
    by_cases hlt : (x : Int) < (a : Int) + (k : Int)
    · have i0 : 0 ≤ (x : Int) / 2048 := by omega
      have i1 : (x : Int) / 2048 < (m : Int) := by have := LN.out; omega
      have ck := H.out.key (i := x / 2048) (by rw [HM.out]; have := LN.out; omega)
      have rk := H.out.keyr (x / 2048)
      obtain ⟨kv, hk⟩ : ∃ kv, ks.getD (x / 2048) 0 = kv := ⟨_, rfl⟩
      rw [hk] at ck rk
      have HK := Lib.hid hk
      obtain ⟨k0, k1⟩ := rk
      clear hk
      have st := Lib.hid (show okB (alF key) ks a (x + 1 - a) = alF key kv from by rw [show x + 1 - a = (x - a) + 1 from by omega, okB_succ, OK.out, show a + (x - a) = x from by omega, HK.out]; rfl)
      have fl := fun h : alF key kv = false => (show okB (alF key) ks a k = false from okB_false (j := x - a) (by omega) (by rw [show a + (x - a) = x from by omega, HK.out]; exact h))
      have FL := Lib.hid fl
      clear fl
      by_cases q0 : key = 0
      · subst q0
        have ok := Lib.hid (show alF 0 kv = true from by simp [alF] <;> omega)
        go_wp2
        go_round
        case rel => exact ⟨x + 1, by omega, by omega, by go_num, by rw [st.out]; exact ok.out⟩
        case measure => simp [intOf]; omega
      have e1 : (key != 0) = true := by simpa using q0
      by_cases q1 : key = kv / 2
      · have e2 : (key != kv / 2) = false := by rw [bne_eq_false_iff_eq]; exact q1
        have ok := Lib.hid (show alF key kv = true from by simp [alF] <;> omega)
        clear q1
        go_wp2
        go_round
        case rel => exact ⟨x + 1, by omega, by omega, by go_num, by rw [st.out]; exact ok.out⟩
        case measure => simp [intOf]; omega
      have e2 : (key != kv / 2) = true := by rw [bne_iff_ne]; exact q1
      by_cases q2 : kv % 2 = 0
      · have e3 : (kv % 2 == 1) = false := by rw [beq_eq_false_iff_ne]; omega
        have ok := Lib.hid (show alF key kv = true from by simp [alF] <;> omega)
        clear q2
        go_wp2
        go_round
        case rel => exact ⟨x + 1, by omega, by omega, by go_num, by rw [st.out]; exact ok.out⟩
        case measure => simp [intOf]; omega
      have e3 : (kv % 2 == 1) = true := by rw [beq_iff_eq]; omega
      have bad := Lib.hid (FL.out (show alF key kv = false from by simp [alF] <;> omega))
      clear q0 q1
      go_wp2
      go_ret
      exact ⟨by rw [← HR.out, bad.out]; rfl, rfl⟩
    · obtain rfl : x = a + k := by omega
      have fin := Lib.hid (show r = 0 from by rw [← HR.out, show okB (alF key) ks a k = true from by have := OK.out; rwa [Nat.add_sub_cancel_left] at this]; rfl)
      go_wp2
      go_ret
      exact ⟨by rw [fin.out]; rfl, rfl⟩

end Go.Proofs.YthjdjbipfdigeaaGreat

namespace Go.Proofs.YthjdjbipfdigeaaGreat
open Go.RowKit
set_option maxRecDepth 100000
set_option linter.unusedVariables false
set_option linter.unusedSimpArgs false

/-- the bytes behind a Put, behind a Clear; what a Fetch returns -/
def sPut (al : Int → Bool) (bs ks : List Int) (addr : Int) (ys : List Int) : List Int := if sCode al bs.length ks addr ys.length = 0 then splice bs addr.toNat ys else bs
def sFet (al : Int → Bool) (bs ks : List Int) (addr n : Int) : List Int := if sCode al bs.length ks addr n = 0 then sGet bs addr n else []
theorem sCode_zero {al : Int → Bool} {N : Nat} {ks : List Int} {addr n : Int} (h : sCode al N ks addr n = 0) : sIn N addr n = true := by
  cases hi : sIn N addr n
  · rw [sCode_no hi] at h; cases h
  · rfl
theorem byt_far {w w' : World} {A : Option Addr} {len g : Nat} {ys : List Int} (h : Byt w A len ys) (hg : w.grownBy w' (some g)) (hA : 0 < len → ∀ x, A = some x → x.block ≠ g) : Byt w' A len ys := by
  refine ⟨h.1, h.2.1, fun h0 => ?_⟩
  obtain ⟨b, off, rfl, hc⟩ := h.2.2 h0
  refine ⟨b, off, rfl, fun i hi => hg.cell (hc i hi) ?_⟩
  intro e; injection e with e; exact hA h0 _ rfl e
/-- the call returns a slice of its own that holds zs, and a code -/
def GivesC (w : World) (zs : List Int) (c : Int) (e : Ending) (w' : World) : Prop := ∃ A m cap, e = .returned (.tuple #[.slice A m cap, .int .i64 c]) ∧ Own w' w.heap.size (.slice A m cap) m zs ∧ Below w.heap.size w w'

set_option maxHeartbeats 2000000 in
theorem rput_c {F : Foot} {bs ks : List Int} (w : World) (h : St 70 w F bs ks) (addr key : Int) (A : Option Addr) (len cap : Nat) (ys : List Int) (hy : Byt w A len ys) (hl : (len : Int) ≤ 9223372036854775807) (hA : 0 < len → ∀ x, A = some x → x.block ≠ F.gb) : Calls Tryz.prog 13 #[.pointer (some ⟨F.g, 0, none⟩), .int .i64 addr, .slice A len cap, .int .i64 key] w fun e w' => e = .returned (.int .i64 (sCode (alP key) bs.length ks addr len)) ∧ St 70 w' F (sPut (alP key) bs ks addr ys) ks ∧ w.grownBy w' (some F.gb) := by
  obtain ⟨N, hN⟩ : ∃ N, bs.length = N := ⟨_, rfl⟩
  obtain ⟨m, hm⟩ : ∃ m, ks.length = m := ⟨_, rfl⟩
  have c0 := h.cell0
  have c1 := h.cell1
  have H := Lib.hid h
  have LN := Lib.hid (show N = 2048 * m from by rw [← hN, ← hm]; exact h.ln)
  have n0 : (2048 : Int) ≤ (N : Int) := by have := h.ln; have := h.l0; omega
  have n1 : (N : Int) ≤ 65536 := by have := h.ln; have := h.l1; omega
  rw [hN] at c0
  rw [hm] at c1
  have HN := Lib.hid hN
  have HM := Lib.hid hm
  have ltg := H.out.ltg
  clear hN hm h
  have HY := Lib.hid hy
  have HA := Lib.hid hA
  have HL := Lib.hid hy.1
  clear hy hA
  obtain ⟨r, hr⟩ : ∃ r, sCode (alP key) bs.length ks addr len = r := ⟨_, rfl⟩
  rw [hr]
  have HR := Lib.hid hr
  by_cases h0 : r = 0
  · subst h0
    have hin := sCode_zero hr
    rw [HN.out] at hin
    obtain ⟨b0, b1, b2, b3⟩ := sIn_yes hin
    obtain ⟨a, rfl⟩ := Int.eq_ofNat_of_zero_le b0
    have g0 := Lib.hid (show a + len ≤ bs.length from by rw [HN.out]; omega)
    have a1 : (a : Int) + (len : Int) ≤ (N : Int) := by omega
    have hp := Lib.hid (show sPut (alP key) bs ks (a : Int) ys = splice bs a ys from by unfold sPut; rw [HL.out, hr, if_pos rfl]; simp)
    clear hr hin
    go_enter Tryz.func13, Tryz.ntmps13
    go_wp2_with (go_at_call 37; refine (rcode_p _ H.out _ _ _).mono ?_; rintro e w1 ⟨rfl, rfl⟩; rw [HR.out])
    go_loopw [10] (fun iv wr => ∃ i : Nat, i ≤ len ∧ iv = .int .i64 i ∧ St 70 wr F (splice bs a (ys.take i)) ks ∧ w.grownBy wr (some F.gb)) (fun iv _ => len - (intOf iv).toNat)
    case atStart => exact ⟨0, Nat.zero_le _, rfl, by rw [List.take_zero, splice_nil]; exact H.out, World.grownBy.refl w _⟩
    case round =>
      obtain ⟨i, i0, rfl, hst, hgr⟩ := hrel
      have ST := Lib.hid hst
      have GR := Lib.hid hgr
      clear hst hgr
      by_cases hlt : (i : Int) < (len : Int)
      · have hY := byt_far HY.out GR.out HA.out
        obtain ⟨b, off, rfl, hc⟩ := hY.at_ (by omega)
        have cy := hc i (by omega)
        have ry := hY.range i
        obtain ⟨y, hyy⟩ : ∃ y, ys.getD i 0 = y := ⟨_, rfl⟩
        rw [hyy] at cy ry
        have RY := Lib.hid ry
        have st' := Lib.hid (show (splice bs a (ys.take i)).set (a + i) y = splice bs a (ys.take (i + 1)) from by
          have hl : (ys.take i).length = i := by rw [List.length_take, HL.out]; omega
          have h1 := splice_set bs a (ys.take i) y (by rw [hl]; have := g0.out; omega)
          rw [hl] at h1
          rw [h1]
          congr 1
          rw [List.take_succ_eq_append_getElem (by rw [HL.out]; omega)]
          rw [List.getD_eq_getElem?_getD, List.getElem?_eq_getElem (by rw [HL.out]; omega)] at hyy
          simp at hyy
          rw [hyy])
        clear hY hc hyy ry
        have ll := Lib.hid (show (splice bs a (ys.take i)).length = N from by rw [length_splice _ _ _ (by rw [List.length_take, HL.out]; have := g0.out; omega), HN.out])
        have d0 := ST.out.cell0
        rw [ll.out] at d0
        have cb := ST.out.byte (i := a + i) (by rw [ll.out]; omega)
        obtain ⟨ov, hov⟩ : ∃ ov, (splice bs a (ys.take i)).getD (a + i) 0 = ov := ⟨_, rfl⟩
        rw [hov] at cb
        have fb := ST.out.b.free (a + i)
        have j0 : 0 ≤ (a : Int) + (i : Int) := by omega
        have j1 : (a : Int) + (i : Int) < (N : Int) := by omega
        have ws : IntKind.i64.wrap ((a : Int) + (i : Int)) = (a : Int) + (i : Int) := by rw [IntKind.wrap_i64]; omega
        have wt : ((a : Int) + (i : Int)).toNat = a + i := by omega
        clear hov
        go_wp2
        refine wp_region_still_tail 12 (by kernel_rfl) (by kernel_rfl) ?_
        change wpStill _ _ (World.drew _) (fun a => wpList _ _ _ _ a (World.drew _)) _ _
        simp only [List.append_eq, List.cons_append, List.nil_append, List.take_succ_cons, List.take_zero, List.drop_succ_cons, List.drop_zero]
        repeat still_step
        refine wpStill_nil ?_
        clear ws wt
        go_wp2
        go_roundw
        case rel => exact ⟨i + 1, by omega, by go_num, by rw [← st'.out]; exact (ST.out.drewN 1).setByte (by decide) RY.out, grown_trans (grown_drewN GR.out 1) (grown_setCell _ _ _ _)⟩
        case measure => simp [intOf]; omega
      · obtain rfl : i = len := by omega
        have fin := Lib.hid (show St 70 wr F (sPut (alP key) bs ks (a : Int) ys) ks from by rw [hp.out]; have h1 := ST.out; rwa [List.take_of_length_le (by rw [HL.out]; exact Nat.le_refl _)] at h1)
        go_wp2
        go_ret
        exact ⟨rfl, fin.out, GR.out⟩
  · have e0 : (r == 0) = false := by simpa using h0
    have hp := Lib.hid (show sPut (alP key) bs ks addr ys = bs from by unfold sPut; rw [HL.out, hr, if_neg h0])
    clear hr h0
    go_enter Tryz.func13, Tryz.ntmps13
    go_wp2_with (go_at_call 37; refine (rcode_p _ H.out _ _ _).mono ?_; rintro e w1 ⟨rfl, rfl⟩; rw [HR.out])
    refine wp_loop_rounds 1 ?_
    rw [rounds_succ]
    by_cases hlt : (0 : Int) < (len : Int)
    all_goals
      go_wp2
      go_ret
      exact ⟨rfl, by rw [hp.out]; exact H.out, World.grownBy.refl w _⟩

set_option maxHeartbeats 1000000 in
theorem rfetch_c {F : Foot} {bs ks : List Int} (w : World) (h : St 70 w F bs ks) (addr n key : Int) : Calls Tryz.prog 143 #[.pointer (some ⟨F.g, 0, none⟩), .int .i64 addr, .int .i64 n, .int .i64 key] w (GivesC w (sFet (alF key) bs ks addr n) (sCode (alF key) bs.length ks addr n)) := by
  have H := Lib.hid h
  clear h
  obtain ⟨r, hr⟩ : ∃ r, sCode (alF key) bs.length ks addr n = r := ⟨_, rfl⟩
  by_cases h0 : r = 0
  · subst h0
    have hf := Lib.hid (show sFet (alF key) bs ks addr n = sGet bs addr n from by unfold sFet; rw [hr, if_pos rfl])
    rw [hf.out, hr]
    have HR := Lib.hid hr
    clear hr
    go_enter Tryz.func143, Tryz.ntmps143
    go_wp2_with (first | (go_at_call 37; refine (rcode_f _ H.out _ _ _).mono ?_; rintro e w1 ⟨rfl, rfl⟩; rw [HR.out]) | (go_at_call 165; refine (rbytes_c _ H.out _ _).mono ?_; rintro e w1 ⟨A, m, cap, rfl, ho, hb⟩; have HO := Lib.hid ho; have HB := Lib.hid hb; clear ho hb))
    go_ret2
    exact ⟨A, m, cap, rfl, HO.out, HB.out⟩
  · have e0 : (r != 0) = true := by simpa using h0
    have hf := Lib.hid (show sFet (alF key) bs ks addr n = [] from by unfold sFet; rw [hr, if_neg h0])
    rw [hf.out, hr]
    have HR := Lib.hid hr
    clear hr h0
    go_enter Tryz.func143, Tryz.ntmps143
    go_wp2_with (go_at_call 37; refine (rcode_f _ H.out _ _ _).mono ?_; rintro e w1 ⟨rfl, rfl⟩; rw [HR.out])
    go_ret2
    exact ⟨none, 0, 0, rfl, Own.nil _ _, Below.refl _ _⟩

end Go.Proofs.YthjdjbipfdigeaaGreat

namespace Go.Proofs.YthjdjbipfdigeaaGreat
open Go.RowKit
set_option maxRecDepth 100000
set_option linter.unusedVariables false
set_option linter.unusedSimpArgs false
/-- an instruction, a status word -/
structure In where
  op : Int
  fm : Int
  n : Nat
  k : Nat
  x : Nat
  b : Nat
  d : Int
  b' : Nat
  d' : Int
  l : Nat
  l' : Int
  i : Int
def In.v (I : In) : List Value := [.int .i64 I.op, .int .i64 I.fm, .int .i64 (I.n : Int), .int .i64 (I.k : Int), .int .i64 (I.x : Int), .int .i64 (I.b : Int), .int .i64 I.d, .int .i64 (I.b' : Int), .int .i64 I.d', .int .i64 (I.l : Int), .int .i64 I.l', .int .i64 I.i]
structure Ps where
  m : Int
  key : Int
  M : Bool
  W : Bool
  P : Bool
  cd : Int
  il : Int
  cc : Int
  pg : Int
  ad : Int
def Ps.v (q : Ps) : List Value := [.int .i64 q.m, .int .i64 q.key, .bool q.M, .bool q.W, .bool q.P, .int .i64 q.cd, .int .i64 q.il, .int .i64 q.cc, .int .i64 q.pg, .int .i64 q.ad]
structure In.ok (I : In) : Prop where
  n : I.n < 16
  k : I.k < 16
  x : I.x < 16
  b : I.b < 16
  d : 0 ≤ I.d ∧ I.d ≤ 4095
  b' : I.b' < 16
  d' : 0 ≤ I.d' ∧ I.d' ≤ 4095
  l : I.l < 256
  i : 0 ≤ I.i ∧ I.i ≤ 255
def In.a (I : In) (os : List Int) : Int := (I.d' + sumB os [I.b', I.x]) % 16777216
def In.a1 (I : In) (os : List Int) : Int := (I.d + sumB os [I.b]) % 16777216
def rcC (I : In) (os rs : List Int) (p q : Ps) (s : Value) (c : Int) : List Value := I.v ++ (os.map (Value.int .u32) ++ (rs.map (Value.int .u32) ++ (p.v ++ (q.v ++ [s, .int .i64 c]))))
/-- the reference's machine and its storage; since the world w0 only the machine's block and the storage's bytes may have changed -/
structure RS (w0 w : World) (g : Nat) (G : Foot) (I : In) (os rs : List Int) (p q : Ps) (c : Int) (bs ks : List Int) : Prop where
  m : Bk w g 67 (rcC I os rs p q (.pointer (some ⟨G.g, 0, none⟩)) c)
  st : St 70 w G bs ks
  b : Ch w0 w [g, G.gb]
  n0 : g ≠ G.g
  n1 : g ≠ G.gb
  n2 : g ≠ G.gk
  ol : os.length = 16
  rl : rs.length = 16
  ro : ∀ z ∈ os, 0 ≤ z ∧ z ≤ 4294967295
  ix : I.ok
section
variable {w0 w w' : World} {g : Nat} {G : Foot} {I : In} {os rs : List Int} {p q : Ps} {c : Int} {bs ks : List Int}
theorem RS.at_ (h : RS w0 w g G I os rs p q c bs ks) {j : Nat} {v : Value} (hv : (rcC I os rs p q (.pointer (some ⟨G.g, 0, none⟩)) c)[j]? = some v) : w.cell? ⟨g, j, none⟩ = some v := h.m.cell hv
theorem RS.ci (h : RS w0 w g G I os rs p q c bs ks) {j : Nat} {v : Value} (hv : I.v[j]? = some v) : w.cell? ⟨g, j, none⟩ = some v := by
  refine h.at_ ?_
  have hj : j < I.v.length := (List.getElem?_eq_some_iff.1 hv).1
  unfold rcC
  rw [List.getElem?_append_left hj, hv]
theorem RS.co (h : RS w0 w g G I os rs p q c bs ks) {n : Nat} (hn : n < 16) : w.cell? ⟨g, 12 + n, none⟩ = some (.int .u32 (os.getD n 0)) := by
  refine h.at_ ?_
  have := h.ol
  unfold rcC
  rw [List.getElem?_append_right (by simp [In.v]), List.getElem?_append_left (by simp [In.v]; omega), show I.v.length = 12 from rfl, show 12 + n - 12 = n by omega, List.getElem?_map, List.getD_eq_getElem?_getD, List.getElem?_eq_getElem (by omega)]; rfl
theorem RS.cr (h : RS w0 w g G I os rs p q c bs ks) {n : Nat} (hn : n < 16) : w.cell? ⟨g, 28 + n, none⟩ = some (.int .u32 (rs.getD n 0)) := by
  refine h.at_ ?_
  have := h.ol
  have := h.rl
  unfold rcC
  rw [List.getElem?_append_right (by simp [In.v]; omega), List.getElem?_append_right (by simp [In.v]; omega), List.getElem?_append_left (by simp [In.v]; omega)]
  simp only [List.length_map, show I.v.length = 12 from rfl, h.ol]
  rw [show 28 + n - 12 - 16 = n by omega, List.getElem?_map, List.getD_eq_getElem?_getD, List.getElem?_eq_getElem (by omega)]; rfl
theorem RS.cp (h : RS w0 w g G I os rs p q c bs ks) {j : Nat} {v : Value} (hv : p.v[j]? = some v) : w.cell? ⟨g, 44 + j, none⟩ = some v := by
  refine h.at_ ?_
  have := h.ol
  have := h.rl
  have hj : j < p.v.length := (List.getElem?_eq_some_iff.1 hv).1
  unfold rcC
  rw [List.getElem?_append_right (by simp [In.v]; omega), List.getElem?_append_right (by simp [In.v]; omega), List.getElem?_append_right (by simp [In.v]; omega), List.getElem?_append_left (by simp [In.v]; omega)]
  simp only [List.length_map, show I.v.length = 12 from rfl, h.ol, h.rl]
  rw [show 44 + j - 12 - 16 - 16 = j by omega]; exact hv
theorem RS.cq (h : RS w0 w g G I os rs p q c bs ks) {j : Nat} {v : Value} (hv : q.v[j]? = some v) : w.cell? ⟨g, 54 + j, none⟩ = some v := by
  refine h.at_ ?_
  have := h.ol
  have := h.rl
  have hj : j < 10 := (List.getElem?_eq_some_iff.1 hv).1
  unfold rcC
  rw [List.getElem?_append_right (by simp [In.v]; omega), List.getElem?_append_right (by simp [In.v]; omega), List.getElem?_append_right (by simp [In.v]; omega), List.getElem?_append_right (by simp [In.v, Ps.v]; omega), List.getElem?_append_left (by simp [In.v, Ps.v]; omega)]
  simp only [List.length_map, show I.v.length = 12 from rfl, show p.v.length = 10 from rfl, h.ol, h.rl]
  rw [show 54 + j - 12 - 16 - 16 - 10 = j by omega]; exact hv
theorem RS.cs (h : RS w0 w g G I os rs p q c bs ks) : w.cell? ⟨g, 64, none⟩ = some (.pointer (some ⟨G.g, 0, none⟩)) := by
  refine h.at_ ?_
  have := h.ol
  have := h.rl
  unfold rcC
  rw [List.getElem?_append_right (by simp [In.v]), List.getElem?_append_right (by simp [In.v]; omega), List.getElem?_append_right (by simp [In.v]; omega), List.getElem?_append_right (by simp [In.v, Ps.v]; omega), List.getElem?_append_right (by simp [In.v, Ps.v]; omega)]
  simp [In.v, Ps.v, h.ol, h.rl]
theorem RS.cc (h : RS w0 w g G I os rs p q c bs ks) : w.cell? ⟨g, 65, none⟩ = some (.int .i64 c) := by
  refine h.at_ ?_
  have := h.ol
  have := h.rl
  unfold rcC
  rw [List.getElem?_append_right (by simp [In.v]), List.getElem?_append_right (by simp [In.v]; omega), List.getElem?_append_right (by simp [In.v]; omega), List.getElem?_append_right (by simp [In.v, Ps.v]; omega), List.getElem?_append_right (by simp [In.v, Ps.v]; omega)]
  simp [In.v, Ps.v, h.ol, h.rl]
theorem RS.fz (h : RS w0 w g G I os rs p q c bs ks) (j : Nat) : w.frozen? ⟨g, j, none⟩ = false := h.m.free j
theorem RS.keep (h : RS w0 w g G I os rs p q c bs ks) (hb : Below w.heap.size w w') : RS w0 w' g G I os rs p q c bs ks :=
  { h with m := h.m.keep hb, st := h.st.belowS hb, b := h.b.trans (Ch.of_below hb _) }
theorem RS.drewN (h : RS w0 w g G I os rs p q c bs ks) (n : Nat) : RS w0 (w.drewN n) g G I os rs p q c bs ks := h.keep (dBelow' (Below.refl _ _) n)
theorem RS.drew (h : RS w0 w g G I os rs p q c bs ks) : RS w0 w.drew g G I os rs p q c bs ks := h.drewN 1
theorem RS.set_ (h : RS w0 w g G I os rs p q c bs ks) {j : Nat} {v : Value} {rs' : List Int} {q' : Ps} {c' : Int} (hl : rs'.length = 16) (he : (rcC I os rs p q (.pointer (some ⟨G.g, 0, none⟩)) c).set j v = rcC I os rs' p q' (.pointer (some ⟨G.g, 0, none⟩)) c') : RS w0 (w.setCell ⟨g, j, none⟩ v) g G I os rs' p q' c' bs ks :=
  { h with m := he ▸ h.m.set_ j v, rl := hl, st := h.st.keep (Below.heap_setCell w _ v _ h.n0.symm) (Below.heap_setCell w _ v _ h.n1.symm) (Below.heap_setCell w _ v _ h.n2.symm), b := h.b.setCell (by simp) v }
theorem RS.setr (h : RS w0 w g G I os rs p q c bs ks) {n : Nat} (hn : n < 16) (v : Int) : RS w0 (w.setCell ⟨g, 28 + n, none⟩ (.int .u32 v)) g G I os (rs.set n v) p q c bs ks := by
  have := h.ol
  have := h.rl
  refine h.set_ (by simpa using h.rl) ?_
  unfold rcC
  rw [List.set_append_right _ _ (by simp [In.v]; omega), List.set_append_right _ _ (by simp [In.v]; omega), List.set_append_left _ _ (by simp [In.v]; omega)]
  simp only [List.length_map, show I.v.length = 12 from rfl, h.ol]
  rw [show 28 + n - 12 - 16 = n by omega, List.map_set]
theorem RS.setq (h : RS w0 w g G I os rs p q c bs ks) {j : Nat} {v : Value} {q' : Ps} (hj : j < 10) (he : q.v.set j v = q'.v) : RS w0 (w.setCell ⟨g, 54 + j, none⟩ v) g G I os rs p q' c bs ks := by
  have := h.ol
  have := h.rl
  refine h.set_ h.rl ?_
  unfold rcC
  rw [List.set_append_right _ _ (by simp [In.v]; omega), List.set_append_right _ _ (by simp [In.v]; omega), List.set_append_right _ _ (by simp [In.v]; omega), List.set_append_right _ _ (by simp [In.v, Ps.v]; omega), List.set_append_left _ _ (by simp [In.v, Ps.v]; omega)]
  simp only [List.length_map, show I.v.length = 12 from rfl, show p.v.length = 10 from rfl, h.ol, h.rl]
  rw [show 54 + j - 12 - 16 - 16 - 10 = j by omega, he]
theorem RS.setcc (h : RS w0 w g G I os rs p q c bs ks) (v : Int) : RS w0 (w.setCell ⟨g, 61, none⟩ (.int .i64 v)) g G I os rs p { q with cc := v } c bs ks := h.setq (j := 7) (by omega) rfl
theorem RS.setpg (h : RS w0 w g G I os rs p q c bs ks) (v : Int) : RS w0 (w.setCell ⟨g, 62, none⟩ (.int .i64 v)) g G I os rs p { q with pg := v } c bs ks := h.setq (j := 8) (by omega) rfl
theorem RS.setad (h : RS w0 w g G I os rs p q c bs ks) (v : Int) : RS w0 (w.setCell ⟨g, 63, none⟩ (.int .i64 v)) g G I os rs p { q with ad := v } c bs ks := h.setq (j := 9) (by omega) rfl
theorem RS.setc (h : RS w0 w g G I os rs p q c bs ks) (c' : Int) : RS w0 (w.setCell ⟨g, 65, none⟩ (.int .i64 c')) g G I os rs p q c' bs ks := by
  have := h.ol
  have := h.rl
  refine h.set_ h.rl ?_
  unfold rcC
  rw [List.set_append_right _ _ (by simp [In.v]), List.set_append_right _ _ (by simp [In.v]; omega), List.set_append_right _ _ (by simp [In.v]; omega), List.set_append_right _ _ (by simp [In.v, Ps.v]; omega), List.set_append_right _ _ (by simp [In.v, Ps.v]; omega)]
  simp [In.v, Ps.v, h.ol, h.rl]
theorem RS.put_ (h : RS w0 w g G I os rs p q c bs ks) {bs' : List Int} (hs : St 70 w' G bs' ks) (hg : w.grownBy w' (some G.gb)) : RS w0 w' g G I os rs p q c bs' ks :=
  { h with m := h.m.kept (hg.block g h.m.lt (by intro e; injection e with e; exact h.n1 e)), st := hs, b := h.b.trans ⟨hg.os, hg.tape, hg.output, hg.size, fun k hk hn => hg.block k hk (by intro e; injection e with e; exact hn (by simp [e]))⟩ }
/-- a walk begins: what the machine holds, as facts -/
theorem RS.opn {X : Prop} {u v o f : Int} (h : RS w0 w g G I os rs p q c bs ks) (hX : Hid (RS w0 w g G I os rs p q c bs ks) → w.cell? ⟨g, 0, none⟩ = some (.int .i64 o) → w.cell? ⟨g, 1, none⟩ = some (.int .i64 f) → w.cell? ⟨g, 2, none⟩ = some (.int .i64 (I.n : Int)) → w.cell? ⟨g, 3, none⟩ = some (.int .i64 (I.k : Int)) → w.cell? ⟨g, 4, none⟩ = some (.int .i64 (I.x : Int)) → w.cell? ⟨g, 5, none⟩ = some (.int .i64 (I.b : Int)) → w.cell? ⟨g, 6, none⟩ = some (.int .i64 I.d) → w.cell? ⟨g, 7, none⟩ = some (.int .i64 (I.b' : Int)) → w.cell? ⟨g, 8, none⟩ = some (.int .i64 I.d') → w.cell? ⟨g, 9, none⟩ = some (.int .i64 (I.l : Int)) → w.cell? ⟨g, 11, none⟩ = some (.int .i64 I.i) →
    w.cell? ⟨g, 45, none⟩ = some (.int .i64 p.key) → w.cell? ⟨g, 50, none⟩ = some (.int .i64 p.il) → w.cell? ⟨g, 51, none⟩ = some (.int .i64 p.cc) → w.cell? ⟨g, 52, none⟩ = some (.int .i64 p.pg) → w.cell? ⟨g, 53, none⟩ = some (.int .i64 p.ad) → w.cell? ⟨g, 64, none⟩ = some (.pointer (some ⟨G.g, 0, none⟩)) → w.cell? ⟨g, 65, none⟩ = some (.int .i64 c) → w.cell? ⟨g, 12 + I.n, none⟩ = some (.int .u32 u) → w.cell? ⟨g, 12 + I.k, none⟩ = some (.int .u32 v) → w.cell? ⟨g, 61, none⟩ = some (.int .i64 q.cc) → w.cell? ⟨g, 62, none⟩ = some (.int .i64 q.pg) → w.cell? ⟨g, 63, none⟩ = some (.int .i64 q.ad) → (∀ j, w.frozen? ⟨g, j, none⟩ = false) → (I.n : Int) < 16 → (I.k : Int) < 16 → X) (hu : Hid (os.getD I.n 0 = u) := by first | assumption | exact Lib.hid rfl) (hv : Hid (os.getD I.k 0 = v) := by first | assumption | exact Lib.hid rfl) (ho : Hid (I.op = o) := by first | assumption | exact Lib.hid rfl) (hf : Hid (I.fm = f) := by first | assumption | exact Lib.hid rfl) : X :=
  hX (Lib.hid h) (ho.out ▸ h.ci rfl) (hf.out ▸ h.ci rfl) (h.ci rfl) (h.ci rfl) (h.ci rfl) (h.ci rfl) (h.ci rfl) (h.ci rfl) (h.ci rfl) (h.ci rfl) (h.ci rfl) (h.cp (j := 1) rfl) (h.cp (j := 6) rfl) (h.cp (j := 7) rfl) (h.cp (j := 8) rfl) (h.cp (j := 9) rfl) h.cs h.cc (hu.out ▸ h.co h.ix.n) (hv.out ▸ h.co h.ix.k) (h.cq (j := 7) rfl) (h.cq (j := 8) rfl) (h.cq (j := 9) rfl) h.fz (by have := h.ix.n; omega) (by have := h.ix.k; omega)
theorem RS.rb (h : RS w0 w g G I os rs p q c bs ks) : RS w w g G I os rs p q c bs ks := { h with b := Ch.refl _ _ }
theorem RS.re {rs' : List Int} {q' : Ps} {c' : Int} {bs' : List Int} (h : RS w0 w g G I os rs p q c bs ks) (h' : RS w w' g G I os rs' p q' c' bs' ks) : RS w0 w' g G I os rs' p q' c' bs' ks := { h' with b := h.b.trans h'.b }
/-- what every region of the machine's methods may rely on -/
def Sx (w0 : World) (g : Nat) (G : Foot) (I : In) (os : List Int) (p : Ps) (w : World) : Prop := ∃ rs q c bs ks, RS w0 w g G I os rs p q c bs ks
theorem RS.x (h : RS w0 w g G I os rs p q c bs ks) : Sx w0 g G I os p w := ⟨_, _, _, _, _, h⟩
end
section
variable {P : Program} {L : List Oper} {Q : Exit → Act → World → Prop} {md : Region.Mode} {S : World → Prop} {i : Nat} {v : Value} {oi : Oper} {fuel : Nat} {listed : Array Bool} {a : Act} {w : World} {X : Prop}
theorem tkr (h : X) (hn : nxt md L listed = some i := by with_unfolding_all rfl) (hi : L[i]? = some oi := by rfl)
    (hw : Region.wanted oi (yielded L.toArray a.tmps) = true := by rfl) (y : ∀ w, S w → (execOp a.eval oi).run P w = .ok (.value v) w := by (intro w hSw; obtain ⟨_, _, _, _, _, hx⟩ := hSw; refine RS.opn hx ?_; intros; go_simp; (try with_reducible rfl)))
    (hP : wpAnyH P md L.toArray Q S fuel (listed.setIfInBounds i true) (a.put oi.dst v) w = X := by (simp only [Act.put, List.setIfInBounds_toArray, List.set_cons_zero, List.set_cons_succ]; try rfl))
    (hs : Region.noSelect L.toArray = true := by kernel_rfl) 
    (hQ : ∀ c a w, Q (.panic c) (a.put oi.dst v) w → Q (.panic c) a w := by exact fun _ _ _ h => h) (hS : S w := by assumption) : wpAnyH P md L.toArray Q S (fuel + 1) listed a w := takeL hi hs (nxt_spec hn).1 (nxt_spec hn).2 hQ (.inl ⟨hw, y⟩) hS (hP ▸ h)
end
end Go.Proofs.YthjdjbipfdigeaaGreat

