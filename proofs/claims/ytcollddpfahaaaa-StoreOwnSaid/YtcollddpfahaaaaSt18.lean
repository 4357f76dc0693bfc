/- CONTRACTS of a storage at work: its size, all its bytes; keys set in a row. No conditions but that the storage reads as one. -/
import Derived.Test.YtcollddpfahaaaaSt17
import Derived.Lib.Hide
namespace Go.Proofs.Ytcollddpfahaaaa
open Go.RowKit
set_option linter.unusedVariables false
variable {B : Nat} {a0 : World} {F : Foot} {bs ks : List Int}
theorem wk_size (w : World) (h : Wk 66 B a0 w F bs ks) (N : Nat) (hN : bs.length = N) : Calls Try.prog 19 #[.pointer (some ⟨F.g, 0, none⟩)] w fun e w' => e = .returned (.int .i64 N) ∧ w = w' := by
  subst hN; exact size_c w h.st
theorem sGet_all (bs : List Int) (N : Nat) (hN : bs.length = N) : sGet bs 0 N = bs := by
  subst hN
  unfold sGet
  rw [if_pos (by unfold sIn; rw [decide_eq_true_iff]; omega)]
  simp
theorem wk_all (w : World) (h : Wk 66 B a0 w F bs ks) (N : Nat) (hN : bs.length = N) (h0 : 0 < N) : Calls Try.prog 18 #[.pointer (some ⟨F.g, 0, none⟩), .int .i64 0, .int .i64 N] w fun e w' => ∃ g c, e = .returned (.slice (some ⟨g, 0, none⟩) N c) ∧ Byt w' (some ⟨g, 0, none⟩) N bs ∧ Wk 66 B a0 w' F bs ks ∧ Below w.heap.size w w' := by
  refine (wk_bytes w h 0 N bs (sGet_all bs N hN)).mono ?_
  rintro e w' ⟨A, m, c, rfl, ho, hk, hb⟩
  have hm : m = N := by rw [← hN]; exact ho.len.symm
  subst hm
  obtain ⟨g, c', e1, _⟩ := ho.pos h0
  injection e1 with e1 e2 e3
  subst e1
  exact ⟨g, c, rfl, ho.byt, hk, hb⟩
theorem Byt.keepB {w w' : World} {B : Nat} {A : Option Addr} {len : Nat} {zs : List Int} (h : Byt w A len zs) (hb : Below B w w') (hB : w.heap.size ≤ B) : Byt w' A len zs := h.keep (hb.mono hB)
theorem Byt.cellAt {w : World} {b off len : Nat} {zs : List Int} (h : Byt w (some ⟨b, off, none⟩) len zs) {i : Nat} (hi : i < len) : w.cell? ⟨b, off + i, none⟩ = some (.int .u8 (zs.getD i 0)) := by
  obtain ⟨b', off', e, hc⟩ := h.2.2 (by omega)
  injection e with e; injection e with e1 e2; subst e1 e2
  exact hc i hi
theorem KeyD.stepT {N : Nat} {ks kv : List Int} {k : Nat} {addr v : Int} (ha : addr = (k : Int) * 2048) (hv' : v = kv.getD k 0 % 32) (hN : N = 2048 * ks.length) (hv : 0 ≤ kv.getD k 0) (h : KeyD ks kv k) : KeyD (sSet N ks addr v) kv (k + 1) ∧ (sSet N ks addr v).length = ks.length := by
  subst ha hv'; exact h.stepS hN hv
theorem Wk.lt {w : World} (h : Wk 66 B a0 w F bs ks) : bs.length = 2048 * ks.length := h.st.ln
theorem Wk.cell {w : World} (h : Wk 66 B a0 w F bs ks) {p : Addr} {v : Value} (hp : p.block < B) (hv : a0.cell? p = some v) : w.cell? p = some v := (h.bl.cell hp).trans hv
/-- a new storage at work -/
theorem wk_make {w w1 : World} (h : Below B a0 w) (hB : B ≤ w.heap.size) (hs : St 66 w1 F bs ks) (hb : Below w.heap.size w w1) (q1 : w.heap.size ≤ F.g) (q2 : w.heap.size ≤ F.gb) (q3 : w.heap.size ≤ F.gk) : Wk 66 B a0 w1 F bs ks :=
  ⟨hs, h.trans (hb.mono hB), by omega, by omega, by omega⟩
theorem Byt.grown {w w' : World} {A : Option Addr} {g o b N : Nat} {zs : List Int} (h : Byt w (some ⟨g, o, none⟩) N zs) (hg : w.grownBy w' (some b)) (hne : g ≠ b) : Byt w' (some ⟨g, o, none⟩) N zs :=
  ⟨h.1, h.2.1, fun h0 => ⟨g, o, rfl, fun i hi => hg.cell (h.cellAt hi) (sne hne)⟩⟩
/-- Put, told by what it changes -/
theorem wk_putT (w : World) (h : Wk 66 B a0 w F bs ks) (addr key : Int) (A : Option Addr) (len cap : Nat) (ys : List Int) (hy : Byt w A len ys) (hl : (len : Int) ≤ 9223372036854775807) : Calls Try.prog 20 #[.pointer (some ⟨F.g, 0, none⟩), .int .i64 addr, .slice A len cap, .int .i64 key] w fun e w' => ∃ (c : Int) (bs' : List Int), e = .returned (.int .i64 c) ∧ Wk 66 B a0 w' F bs' ks ∧ w.grownBy w' (some F.gb) ∧ bs'.length = bs.length ∧ (c ≠ 0 → bs' = bs) ∧ ∀ i, bs'.getD i 0 ≠ bs.getD i 0 → alP key (ks.getD (i / 2048) 0) = true := by
  refine (wk_put w h addr key A len cap ys hy _ rfl hl).mono ?_
  rintro e w' ⟨rfl, hs, hg⟩
  exact ⟨_, _, rfl, hs, hg, sPut_length, fun hc => sPut_no (m := len) (by rw [hy.1]) hc, fun i hi => sPut_diff hi⟩
theorem wk_allT (w : World) (h : Wk 66 B a0 w F bs ks) (N : Nat) (hN : bs.length = N) (h0 : 0 < N) : Calls Try.prog 18 #[.pointer (some ⟨F.g, 0, none⟩), .int .i64 0, .int .i64 N] w fun e w' => ∃ g c, e = .returned (.slice (some ⟨g, 0, none⟩) N c) ∧ g ≠ F.gb ∧ Byt w' (some ⟨g, 0, none⟩) N bs ∧ Wk 66 B a0 w' F bs ks ∧ Below w.heap.size w w' := by
  refine (wk_bytes w h 0 N bs (sGet_all bs N hN)).mono ?_
  rintro e w' ⟨A, m, c, rfl, ho, hk, hb⟩
  have hm : m = N := by rw [← hN]; exact ho.len.symm
  subst hm
  obtain ⟨g, c', e1, hg, _⟩ := ho.pos h0
  injection e1 with e1 e2 e3
  subst e1
  have := h.st.ltb
  exact ⟨g, c, rfl, by omega, ho.byt, hk, hb⟩
/-- which keys may store: the block's key -/
theorem alP_keyD {ks kv : List Int} {kk : Int} {q j : Nat} (h : alP kk (ks.getD j 0) = true) (hk : 1 ≤ kk) (hq : ks.length = q) (hj : j < q) (h4 : j < 4) (hd : KeyD ks kv 4) : kv.getD j 0 % 32 / 2 = kk := by
  unfold alP at h
  rw [decide_eq_true_iff] at h
  have := hd j h4 (by omega)
  omega
end Go.Proofs.Ytcollddpfahaaaa
