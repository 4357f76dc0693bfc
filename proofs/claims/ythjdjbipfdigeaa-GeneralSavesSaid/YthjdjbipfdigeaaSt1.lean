/- CONTRACTS of package store and its reference: in, Size, KeyOf, SetKey. No conditions but that the storage reads as one. -/
import Derived.Test.YthjdjbipfdigeaaSt
import Derived.Lib.Hide
import Derived.Outline
import Derived.Handy
import Derived.BigQuiet
import Derived.Deep.QuietTactic
namespace Go.Proofs.Ythjdjbipfdigeaa
open Go.RowKit
set_option maxRecDepth 100000
set_option linter.unusedVariables false
set_option linter.unusedSimpArgs false

theorem in_c {F : Foot} {bs ks : List Int} (w : World) (h : St 71 w F bs ks) (addr n : Int) : Calls Try.prog 34 #[.pointer (some ⟨F.g, 0, none⟩), .int .i64 addr, .int .i64 n] w fun e w' => e = .returned (.bool (sIn bs.length addr n)) ∧ w = w' := by
  obtain ⟨N, hN⟩ : ∃ N, bs.length = N := ⟨_, rfl⟩
  obtain ⟨m, hm⟩ : ∃ m, ks.length = m := ⟨_, rfl⟩
  have c0 := h.cell0
  have c1 := h.cell1
  have H := Lib.hid h
  have ln := h.ln
  have l0 := h.l0
  have l1 := h.l1
  rw [hN] at c0 ln ⊢
  rw [hm] at c1 ln l0 l1
  have HN := Lib.hid hN
  have HM := Lib.hid hm
  have n0 : (2048 : Int) ≤ (N : Int) := by omega
  have n1 : (N : Int) ≤ 65536 := by omega
  have m0 : (1 : Int) ≤ (m : Int) := by omega
  have m1 : (m : Int) ≤ 32 := by omega
  have LN := Lib.hid ln
  clear hN hm h ln l0 l1
  by_cases b1 : 0 ≤ addr
  case neg =>
    have hr := Lib.hid (show sIn N addr n = false from by simp [sIn]; omega)
    go_enter Try.func34, Try.ntmps34
    go_wp2
    go_ret
    exact ⟨by rw [hr.out]; rfl, rfl⟩
  by_cases b1 : 0 ≤ n
  case neg =>
    have hr := Lib.hid (show sIn N addr n = false from by simp [sIn]; omega)
    go_enter Try.func34, Try.ntmps34
    go_wp2
    go_ret
    exact ⟨by rw [hr.out]; rfl, rfl⟩
  by_cases b1 : addr ≤ (N : Int)
  case neg =>
    have hr := Lib.hid (show sIn N addr n = false from by simp [sIn]; omega)
    go_enter Try.func34, Try.ntmps34
    go_wp2
    go_ret
    exact ⟨by rw [hr.out]; rfl, rfl⟩
  by_cases b1 : n ≤ (N : Int) - addr
  case neg =>
    have hr := Lib.hid (show sIn N addr n = false from by simp [sIn]; omega)
    go_enter Try.func34, Try.ntmps34
    go_wp2
    go_ret
    exact ⟨by rw [hr.out]; rfl, rfl⟩
  have hr := Lib.hid (show sIn N addr n = true from by simp [sIn]; omega)
  go_enter Try.func34, Try.ntmps34
  go_wp2
  go_ret
  exact ⟨by rw [hr.out]; rfl, rfl⟩

theorem rin_c {F : Foot} {bs ks : List Int} (w : World) (h : St 93 w F bs ks) (addr n : Int) : Calls Try.prog 94 #[.pointer (some ⟨F.g, 0, none⟩), .int .i64 addr, .int .i64 n] w fun e w' => e = .returned (.bool (sIn bs.length addr n)) ∧ w = w' := by
  obtain ⟨N, hN⟩ : ∃ N, bs.length = N := ⟨_, rfl⟩
  obtain ⟨m, hm⟩ : ∃ m, ks.length = m := ⟨_, rfl⟩
  have c0 := h.cell0
  have c1 := h.cell1
  have H := Lib.hid h
  have ln := h.ln
  have l0 := h.l0
  have l1 := h.l1
  rw [hN] at c0 ln ⊢
  rw [hm] at c1 ln l0 l1
  have HN := Lib.hid hN
  have HM := Lib.hid hm
  have n0 : (2048 : Int) ≤ (N : Int) := by omega
  have n1 : (N : Int) ≤ 65536 := by omega
  have m0 : (1 : Int) ≤ (m : Int) := by omega
  have m1 : (m : Int) ≤ 32 := by omega
  have LN := Lib.hid ln
  clear hN hm h ln l0 l1
  by_cases b1 : 0 ≤ addr
  case neg =>
    have hr := Lib.hid (show sIn N addr n = false from by simp [sIn]; omega)
    go_enter Try.func94, Try.ntmps94
    go_wp2
    go_ret
    exact ⟨by rw [hr.out]; rfl, rfl⟩
  by_cases b1 : 0 ≤ n
  case neg =>
    have hr := Lib.hid (show sIn N addr n = false from by simp [sIn]; omega)
    go_enter Try.func94, Try.ntmps94
    go_wp2
    go_ret
    exact ⟨by rw [hr.out]; rfl, rfl⟩
  by_cases b1 : addr ≤ (N : Int)
  case neg =>
    have hr := Lib.hid (show sIn N addr n = false from by simp [sIn]; omega)
    go_enter Try.func94, Try.ntmps94
    go_wp2
    go_ret
    exact ⟨by rw [hr.out]; rfl, rfl⟩
  by_cases b1 : n ≤ (N : Int) - addr
  case neg =>
    have hr := Lib.hid (show sIn N addr n = false from by simp [sIn]; omega)
    go_enter Try.func94, Try.ntmps94
    go_wp2
    go_ret
    exact ⟨by rw [hr.out]; rfl, rfl⟩
  have hr := Lib.hid (show sIn N addr n = true from by simp [sIn]; omega)
  go_enter Try.func94, Try.ntmps94
  go_wp2
  go_ret
  exact ⟨by rw [hr.out]; rfl, rfl⟩

theorem size_c {F : Foot} {bs ks : List Int} (w : World) (h : St 71 w F bs ks)  : Calls Try.prog 22 #[.pointer (some ⟨F.g, 0, none⟩)] w fun e w' => e = .returned (.int .i64 bs.length) ∧ w = w' := by
  obtain ⟨N, hN⟩ : ∃ N, bs.length = N := ⟨_, rfl⟩
  obtain ⟨m, hm⟩ : ∃ m, ks.length = m := ⟨_, rfl⟩
  have c0 := h.cell0
  have c1 := h.cell1
  have H := Lib.hid h
  have ln := h.ln
  have l0 := h.l0
  have l1 := h.l1
  rw [hN] at c0 ln ⊢
  rw [hm] at c1 ln l0 l1
  have HN := Lib.hid hN
  have HM := Lib.hid hm
  have n0 : (2048 : Int) ≤ (N : Int) := by omega
  have n1 : (N : Int) ≤ 65536 := by omega
  have m0 : (1 : Int) ≤ (m : Int) := by omega
  have m1 : (m : Int) ≤ 32 := by omega
  have LN := Lib.hid ln
  clear hN hm h ln l0 l1
  go_enter Try.func22, Try.ntmps22
  go_wp2
  go_ret
  exact ⟨rfl, rfl⟩

/-- the key that KeyOf returns -/
def sKV (N : Nat) (ks : List Int) (addr : Int) : Int := if sAt N addr = true then ks.getD (addr / 2048).toNat 0 else 0

theorem keyof_c {F : Foot} {bs ks : List Int} (w : World) (h : St 71 w F bs ks) (addr : Int) : Calls Try.prog 23 #[.pointer (some ⟨F.g, 0, none⟩), .int .i64 addr] w fun e w' => e = .returned (.tuple #[.int .i64 (sKV bs.length ks addr), .bool (sAt bs.length addr)]) ∧ w = w' := by
  obtain ⟨N, hN⟩ : ∃ N, bs.length = N := ⟨_, rfl⟩
  obtain ⟨m, hm⟩ : ∃ m, ks.length = m := ⟨_, rfl⟩
  have c0 := h.cell0
  have c1 := h.cell1
  have H := Lib.hid h
  have ln := h.ln
  have l0 := h.l0
  have l1 := h.l1
  rw [hN] at c0 ln ⊢
  rw [hm] at c1 ln l0 l1
  have HN := Lib.hid hN
  have HM := Lib.hid hm
  have n0 : (2048 : Int) ≤ (N : Int) := by omega
  have n1 : (N : Int) ≤ 65536 := by omega
  have m0 : (1 : Int) ≤ (m : Int) := by omega
  have m1 : (m : Int) ≤ 32 := by omega
  have LN := Lib.hid ln
  clear hN hm h ln l0 l1
  by_cases b1 : 0 ≤ addr
  case neg =>
    have hr := Lib.hid (show sAt N addr = false from by simp [sAt]; omega)
    go_enter Try.func23, Try.ntmps23
    go_wp2
    go_ret2
    exact ⟨by unfold sKV; rw [hr.out]; rfl, rfl⟩
  by_cases b2 : addr < (N : Int)
  case neg =>
    have hr := Lib.hid (show sAt N addr = false from by simp [sAt]; omega)
    go_enter Try.func23, Try.ntmps23
    go_wp2
    go_ret2
    exact ⟨by unfold sKV; rw [hr.out]; rfl, rfl⟩
  have hr := Lib.hid (show sAt N addr = true from by simp [sAt]; omega)
  have i0 : 0 ≤ addr / 2048 := by omega
  have i1 : addr / 2048 < (m : Int) := by have := LN.out; omega
  have ck := H.out.key (i := (addr / 2048).toNat) (by rw [HM.out]; omega)
  obtain ⟨kv, hk⟩ : ∃ kv, ks.getD (addr / 2048).toNat 0 = kv := ⟨_, rfl⟩
  rw [hk] at ck
  have HK := Lib.hid hk
  clear hk
  go_enter Try.func23, Try.ntmps23
  go_wp2
  go_ret2
  exact ⟨by unfold sKV; rw [hr.out, if_pos rfl, HK.out]; rfl, rfl⟩

/-- is a key? -/
def sKey (k : Int) : Bool := decide (0 ≤ k ∧ k ≤ 31)
def sSet (N : Nat) (ks : List Int) (addr key : Int) : List Int := if (sAt N addr && sKey key) = true then ks.set (addr / 2048).toNat key else ks

theorem setkey_c {F : Foot} {bs ks : List Int} (w : World) (h : St 71 w F bs ks) (addr key : Int) : Calls Try.prog 37 #[.pointer (some ⟨F.g, 0, none⟩), .int .i64 addr, .int .i64 key] w fun e w' => e = .returned (.bool (sAt bs.length addr && sKey key)) ∧ St 71 w' F bs (sSet bs.length ks addr key) ∧ w.grownBy w' (some F.gk) := by
  obtain ⟨N, hN⟩ : ∃ N, bs.length = N := ⟨_, rfl⟩
  obtain ⟨m, hm⟩ : ∃ m, ks.length = m := ⟨_, rfl⟩
  have c0 := h.cell0
  have c1 := h.cell1
  have H := Lib.hid h
  have ln := h.ln
  have l0 := h.l0
  have l1 := h.l1
  rw [hN] at c0 ln ⊢
  rw [hm] at c1 ln l0 l1
  have HN := Lib.hid hN
  have HM := Lib.hid hm
  have n0 : (2048 : Int) ≤ (N : Int) := by omega
  have n1 : (N : Int) ≤ 65536 := by omega
  have m0 : (1 : Int) ≤ (m : Int) := by omega
  have m1 : (m : Int) ≤ 32 := by omega
  have LN := Lib.hid ln
  clear hN hm h ln l0 l1
  by_cases b1 : 0 ≤ addr
  case neg =>
    have hr := Lib.hid (show (sAt N addr && sKey key) = false from by simp [sAt, sKey]; omega)
    go_enter Try.func37, Try.ntmps37
    go_wp2
    go_ret
    exact ⟨by rw [hr.out]; rfl, by unfold sSet; rw [hr.out]; exact H.out, World.grownBy.refl w _⟩
  by_cases b2 : addr < (N : Int)
  case neg =>
    have hr := Lib.hid (show (sAt N addr && sKey key) = false from by simp [sAt, sKey]; omega)
    go_enter Try.func37, Try.ntmps37
    go_wp2
    go_ret
    exact ⟨by rw [hr.out]; rfl, by unfold sSet; rw [hr.out]; exact H.out, World.grownBy.refl w _⟩
  by_cases b3 : 0 ≤ key
  case neg =>
    have hr := Lib.hid (show (sAt N addr && sKey key) = false from by simp [sAt, sKey]; omega)
    go_enter Try.func37, Try.ntmps37
    go_wp2
    go_ret
    exact ⟨by rw [hr.out]; rfl, by unfold sSet; rw [hr.out]; exact H.out, World.grownBy.refl w _⟩
  by_cases b4 : key ≤ 31
  case neg =>
    have hr := Lib.hid (show (sAt N addr && sKey key) = false from by simp [sAt, sKey]; omega)
    go_enter Try.func37, Try.ntmps37
    go_wp2
    go_ret
    exact ⟨by rw [hr.out]; rfl, by unfold sSet; rw [hr.out]; exact H.out, World.grownBy.refl w _⟩
  have hr := Lib.hid (show (sAt N addr && sKey key) = true from by simp [sAt, sKey]; omega)
  have i0 : 0 ≤ addr / 2048 := by omega
  have i1 : addr / 2048 < (m : Int) := by have := LN.out; omega
  have ck := H.out.key (i := (addr / 2048).toNat) (by rw [HM.out]; omega)
  obtain ⟨kv, hk⟩ : ∃ kv, ks.getD (addr / 2048).toNat 0 = kv := ⟨_, rfl⟩
  rw [hk] at ck
  clear hk
  have fk := H.out.k.free (addr / 2048).toNat
  go_enter Try.func37, Try.ntmps37
  go_wp2
  go_ret
  exact ⟨by rw [hr.out]; rfl, by unfold sSet; rw [hr.out]; exact H.out.setKey (by decide) ⟨b3, b4⟩, grown_setCell _ _ _ _⟩

theorem rsetkey_c {F : Foot} {bs ks : List Int} (w : World) (h : St 93 w F bs ks) (addr key : Int) : Calls Try.prog 38 #[.pointer (some ⟨F.g, 0, none⟩), .int .i64 addr, .int .i64 key] w fun e w' => e = .returned (.bool (sAt bs.length addr && sKey key)) ∧ St 93 w' F bs (sSet bs.length ks addr key) ∧ w.grownBy w' (some F.gk) := by
  obtain ⟨N, hN⟩ : ∃ N, bs.length = N := ⟨_, rfl⟩
  obtain ⟨m, hm⟩ : ∃ m, ks.length = m := ⟨_, rfl⟩
  have c0 := h.cell0
  have c1 := h.cell1
  have H := Lib.hid h
  have ln := h.ln
  have l0 := h.l0
  have l1 := h.l1
  rw [hN] at c0 ln ⊢
  rw [hm] at c1 ln l0 l1
  have HN := Lib.hid hN
  have HM := Lib.hid hm
  have n0 : (2048 : Int) ≤ (N : Int) := by omega
  have n1 : (N : Int) ≤ 65536 := by omega
  have m0 : (1 : Int) ≤ (m : Int) := by omega
  have m1 : (m : Int) ≤ 32 := by omega
  have LN := Lib.hid ln
  clear hN hm h ln l0 l1
  by_cases b1 : 0 ≤ addr
  case neg =>
    have hr := Lib.hid (show (sAt N addr && sKey key) = false from by simp [sAt, sKey]; omega)
    go_enter Try.func38, Try.ntmps38
    go_wp2
    go_ret
    exact ⟨by rw [hr.out]; rfl, by unfold sSet; rw [hr.out]; exact H.out, World.grownBy.refl w _⟩
  by_cases b2 : addr < (N : Int)
  case neg =>
    have hr := Lib.hid (show (sAt N addr && sKey key) = false from by simp [sAt, sKey]; omega)
    go_enter Try.func38, Try.ntmps38
    go_wp2
    go_ret
    exact ⟨by rw [hr.out]; rfl, by unfold sSet; rw [hr.out]; exact H.out, World.grownBy.refl w _⟩
  by_cases b3 : 0 ≤ key
  case neg =>
    have hr := Lib.hid (show (sAt N addr && sKey key) = false from by simp [sAt, sKey]; omega)
    go_enter Try.func38, Try.ntmps38
    go_wp2
    go_ret
    exact ⟨by rw [hr.out]; rfl, by unfold sSet; rw [hr.out]; exact H.out, World.grownBy.refl w _⟩
  by_cases b4 : key ≤ 31
  case neg =>
    have hr := Lib.hid (show (sAt N addr && sKey key) = false from by simp [sAt, sKey]; omega)
    go_enter Try.func38, Try.ntmps38
    go_wp2
    go_ret
    exact ⟨by rw [hr.out]; rfl, by unfold sSet; rw [hr.out]; exact H.out, World.grownBy.refl w _⟩
  have hr := Lib.hid (show (sAt N addr && sKey key) = true from by simp [sAt, sKey]; omega)
  have i0 : 0 ≤ addr / 2048 := by omega
  have i1 : addr / 2048 < (m : Int) := by have := LN.out; omega
  have ck := H.out.key (i := (addr / 2048).toNat) (by rw [HM.out]; omega)
  obtain ⟨kv, hk⟩ : ∃ kv, ks.getD (addr / 2048).toNat 0 = kv := ⟨_, rfl⟩
  rw [hk] at ck
  clear hk
  have fk := H.out.k.free (addr / 2048).toNat
  go_enter Try.func38, Try.ntmps38
  go_wp2
  go_ret
  exact ⟨by rw [hr.out]; rfl, by unfold sSet; rw [hr.out]; exact H.out.setKey (by decide) ⟨b3, b4⟩, grown_setCell _ _ _ _⟩

end Go.Proofs.Ythjdjbipfdigeaa
