/- Contracts and laws on the way to the statement, text 24 of 25. Conditions: as each states them. -/
import Derived.Test.YthjdjbipfdigeaaKn1
import Derived.Test.YthjdjbipfdigeaaKn13
import Derived.Test.YthjdjbipfdigeaaKn15
import Derived.Test.YthjdjbipfdigeaaKn17
import Derived.Test.YthjdjbipfdigeaaKn18
import Derived.Test.YthjdjbipfdigeaaKn19
import Derived.Test.YthjdjbipfdigeaaKn21
import Derived.Test.YthjdjbipfdigeaaKn23
import Derived.Test.YthjdjbipfdigeaaProg
import Derived.Deep.QuietTactic
import Derived.BigQuiet
import Derived.Lib.Hide
import Derived.Outline
import Derived.WalkKit
import Derived.ChangeKeysEq
import Derived.Laws.StructEq
import Derived.Laws.Tables
namespace Go.Proofs.Ythjdjbipfdigeaa
open Go.RowKit
set_option maxRecDepth 100000
set_option linter.unusedVariables false
set_option linter.unusedSimpArgs false
theorem alP_0 (k : Int) : alP 0 k = true := by simp [alP]
theorem codeH (al : Int → Bool) (hal : ∀ k, al k = true) (N : Nat) (ks : List Int) (a n : Nat) (h : a + n ≤ N) : sCode al N ks (a : Int) (n : Int) = 0 := by
  unfold sCode
  rw [if_pos (show sIn N (a : Int) (n : Int) = true from by unfold sIn; exact decide_eq_true (by omega)), if_pos]
  unfold okB; rw [List.all_eq_true]; intro j _; exact hal _
theorem get_eq (bs : List Int) (a n : Nat) (h : a + n ≤ bs.length) : sGet bs (a : Int) (n : Int) = (bs.drop a).take n := by
  unfold sGet
  rw [if_pos (show sIn bs.length (a : Int) (n : Int) = true from by unfold sIn; exact decide_eq_true (by omega)), Int.toNat_natCast, Int.toNat_natCast]
theorem get_len (bs : List Int) (a n : Nat) (h : a + n ≤ bs.length) : (sGet bs (a : Int) (n : Int)).length = n := by
  rw [get_eq bs a n h]; simp; omega
end Go.Proofs.Ythjdjbipfdigeaa

namespace Go.Proofs.Ythjdjbipfdigeaa
open Go.RowKit
set_option linter.unusedVariables false

theorem take_next_eq9 {zs zs' : List Int} {k : Nat} (h : zs.take k = zs'.take k) (hk : k < zs.length) (hk' : k < zs'.length) (e : zs.getD k 0 = zs'.getD k 0) : zs.take (k + 1) = zs'.take (k + 1) := by
  rw [List.take_succ_eq_append_getElem hk, List.take_succ_eq_append_getElem hk', h]
  rw [List.getD_eq_getElem?_getD, List.getD_eq_getElem?_getD, List.getElem?_eq_getElem hk, List.getElem?_eq_getElem hk'] at e
  simp only [Option.getD_some] at e
  rw [e]

set_option maxHeartbeats 1000000 in
theorem same9_c (A : Option Addr) (len cap : Nat) (zs : List Int) (A' : Option Addr) (len' cap' : Nat) (zs' : List Int) (w : World) (hb : Byt w A len zs) (hb' : Byt w A' len' zs') (hl : (len : Int) ≤ 9223372036854775807) (hl' : (len' : Int) ≤ 9223372036854775807) :
    Calls Try.prog 18 #[.slice A len cap, .slice A' len' cap'] w fun e w' => e = .returned (.bool (decide (zs = zs'))) ∧ ∃ n, w' = w.drewN n := by
  by_cases hne : len = len'
  · subst hne
    have e0 : ((len : Int) != (len : Int)) = false := by simp
    have H1 := Lib.hid hb.1
    have H2 := Lib.hid hb'.1
    have HB := Lib.hid hb
    have HB' := Lib.hid hb'
    clear hb hb'
    go_enter Try.func18, Try.ntmps18
    go_wp2
    go_loopw [4, 5] (fun r i wr => ∃ k : Nat, k ≤ len ∧ i = .int .i64 k ∧ zs.take k = zs'.take k ∧ ∃ n, wr = w.drewN n) (fun _ i _ => len - (intOf i).toNat)
    case atStart => exact ⟨0, Nat.zero_le _, rfl, by simp, 0, rfl⟩
    case round =>
      obtain ⟨k, hk, rfl, heq, n, rfl⟩ := hrel
      have Heq := Lib.hid heq
      clear heq
      by_cases hlt : k < len
      · obtain ⟨b, off, rfl, hc⟩ := HB.out.at_ (by omega)
        obtain ⟨b', off', rfl, hc'⟩ := HB'.out.at_ (by omega)
        have c1 := hc k hlt
        have c2 := hc' k hlt
        clear hc hc'
        obtain ⟨x, hx⟩ : ∃ x, zs.getD k 0 = x := ⟨_, rfl⟩
        obtain ⟨y, hy⟩ : ∃ y, zs'.getD k 0 = y := ⟨_, rfl⟩
        rw [hx] at c1
        rw [hy] at c2
        have k1 : (k : Int) < (len : Int) := by omega
        have Hx := Lib.hid hx
        have Hy := Lib.hid hy
        clear hx hy
        by_cases hxy : x = y
        · subst hxy
          have t0 : (x != x) = false := by simp
          go_wp2
          go_quiet (fail)
          go_wp2
          go_roundw
          case rel => exact ⟨k + 1, by omega, by go_num, take_next_eq9 Heq.out (by rw [H1.out]; exact hlt) (by rw [H2.out]; exact hlt) (by rw [Hx.out, Hy.out]), _, rfl⟩
          case measure => simp [intOf]; omega
        · have t0 : (x != y) = true := by simpa using hxy
          have hfin := Lib.hid (show decide (zs = zs') = false from by rw [decide_eq_false_iff_not]; rintro rfl; exact hxy (Hx.out.symm.trans Hy.out))
          go_wp2
          go_quiet (fail)
          go_wp2
          go_ret
          exact ⟨by rw [hfin.out]; rfl, _, World.drewN_drewN _ _ _⟩
      · obtain rfl : k = len := by omega
        have hfin := Lib.hid (show decide (zs = zs') = true from by
          rw [decide_eq_true_iff]
          have := Heq.out
          rwa [List.take_of_length_le (by rw [H1.out]; exact Nat.le_refl _), List.take_of_length_le (by rw [H2.out]; exact Nat.le_refl _)] at this)
        go_wp2
        go_ret
        exact ⟨by rw [hfin.out]; rfl, _, rfl⟩
  · have e0 : ((len : Int) != (len' : Int)) = true := by simp; omega
    have hfin := Lib.hid (show decide (zs = zs') = false from by rw [decide_eq_false_iff_not]; rintro rfl; exact hne (hb.1.symm.trans hb'.1))
    clear hb hb' hne
    go_enter Try.func18, Try.ntmps18
    go_wp2
    go_ret
    exact ⟨by rw [hfin.out]; rfl, 0, rfl⟩
end Go.Proofs.Ythjdjbipfdigeaa

namespace Go.Proofs.Ythjdjbipfdigeaa
open Go.RowKit
set_option maxRecDepth 100000
set_option linter.unusedVariables false
set_option linter.unusedSimpArgs false
theorem Byt.chd {w w' : World} {b off len : Nat} {zs : List Int} {L : List Nat} (h : Byt w (some ⟨b, off, none⟩) len zs) (hc : Ch w w' L) (hb : b < w.heap.size) (hL : b ∉ L) : Byt w' (some ⟨b, off, none⟩) len zs := by
  refine ⟨h.1, h.2.1, fun h0 => ?_⟩
  obtain ⟨b', off', e, hcell⟩ := h.2.2 h0
  injection e with e; injection e with e1 e2; subst e1 e2
  exact ⟨b, off, rfl, fun i hi => by rw [← hcell i hi]; unfold World.cell?; rw [hc.block b hb hL]⟩
theorem Byt.lt {w : World} {b off len : Nat} {zs : List Int} (h : Byt w (some ⟨b, off, none⟩) len zs) (h0 : 0 < len) : b < w.heap.size := by
  obtain ⟨b', off', e, hcell⟩ := h.2.2 h0
  injection e with e; injection e with e1 e2; subst e1 e2
  have h1 := hcell 0 h0
  rcases Nat.lt_or_ge b w.heap.size with h2 | h2
  · exact h2
  · unfold World.cell? at h1; simp only [Array.getElem?_eq_none h2] at h1; cases h1
theorem put9 {F : Foot} {bs ks : List Int} (w : World) (h : St 71 w F bs ks) (a n cp : Nat) (A : Option Addr) (ys : List Int) (h1 : a + n ≤ bs.length) (h2 : bs.length ≤ 65536) (hy : Byt w A n ys) : Calls Try.prog 16 #[.pointer (some ⟨F.g, 0, none⟩), .int .i64 (a : Int), .slice A n cp, .int .i64 0] w fun e w' => e = .returned (.int .i64 0) ∧ St 71 w' F (sPut (alP 0) bs ks (a : Int) ys) ks ∧ Ch w w' [F.gb] := by
  refine (put_c w h (a : Int) 0 A n cp ys hy (by omega)).mono ?_
  rintro e w' ⟨he, hs, hg⟩
  rw [codeH _ alP_0 _ _ _ _ h1] at he
  exact ⟨he, hs, Ch.of_grown hg⟩
theorem get9 {F : Foot} {bs ks : List Int} (w : World) (h : St 71 w F bs ks) (a : Nat) (n N : Int) (X : List Int) (h0 : 1 ≤ n) (h1 : a + n ≤ (bs.length : Int)) (hX : sGet bs (a : Int) n = X) : Calls Try.prog 19 #[.pointer (some ⟨F.g, 0, none⟩), .int .i64 (a : Int), .int .i64 n] w fun e w' => ∃ b m c : Nat, e = .returned (.slice (some ⟨b, 0, none⟩) m c) ∧ (m : Int) = n ∧ Byt w' (some ⟨b, 0, none⟩) m X ∧ w.heap.size ≤ b ∧ Below w.heap.size w w' := by
  refine (bytes_c w h (a : Int) n).mono ?_
  rintro e w' ⟨A, m, c, he, ho, hb⟩
  rw [hX] at ho
  obtain ⟨k, rfl⟩ := Int.eq_ofNat_of_zero_le (show 0 ≤ n by omega)
  have hm : m = k := by rw [← ho.len, ← hX]; exact get_len _ _ _ (by omega)
  obtain ⟨g, cap, hv, hg, -⟩ := ho.pos (by omega)
  injection hv with hA h2 h3
  subst hA h3
  exact ⟨g, m, c, he, by omega, ho.byt, hg, hb⟩
theorem same9_t (A : Option Addr) (n c : Nat) (xs : List Int) (A' : Option Addr) (n' c' : Nat) (ys : List Int) (w : World) (h1 : Byt w A n xs) (h2 : Byt w A' n' ys) (he : xs = ys) (hn : n ≤ 65536) : Calls Try.prog 18 #[.slice A n c, .slice A' n' c'] w fun e w' => e = .returned (.bool true) ∧ Below w.heap.size w w' := by
  have hl := h1.1
  have hl' := h2.1
  refine (same9_c A n c xs A' n' c' ys w h1 h2 (by omega) (by rw [← he] at hl'; omega)).mono ?_
  rintro e w' ⟨h, d, rfl⟩
  rw [decide_eq_true he] at h
  exact ⟨h, dBelow' (Below.refl _ _) d⟩
end Go.Proofs.Ythjdjbipfdigeaa

namespace Go.Proofs.Ythjdjbipfdigeaa
open Go.RowKit
set_option maxRecDepth 100000
set_option linter.unusedVariables false
set_option linter.unusedSimpArgs false
theorem Ch.newer {a b c : World} {L M : List Nat} (h : Ch a b L) (k : Ch b c M) (hM : ∀ x, x ∈ M → x ∈ L ∨ a.heap.size ≤ x) : Ch a c L :=
  ⟨k.os.trans h.os, k.tape.trans h.tape, k.output.trans h.output, Nat.le_trans h.size k.size, fun i hi hL => (k.block i (Nat.lt_of_lt_of_le hi h.size) (fun hm => by rcases hM i hm with h1 | h1; (· exact hL h1); (· omega))).trans (h.block i hi hL)⟩
theorem K_len : K1_.length = 2048 ∧ K2_.length = 2048 ∧ K3_.length = 2048 ∧ K4_.length = 2048 ∧ K5_.length = 2048 ∧ K6_.length = 2048 := by decide +kernel
theorem K4_get : sGet K4_ ((600 : Nat) : Int) 4 = [1, 1, 1, 1] := by decide +kernel
set_option maxRecDepth 1000000 in
set_option maxHeartbeats 8000000 in
theorem knownBytes_c (F : Foot) (w : World) (hs : St 71 w F K1_ (z0 1)) : Calls Try.prog 20 #[.pointer (some ⟨F.g, 0, none⟩)] w fun e w' => e = .returned (.bool true) ∧ Ch w w' [F.gb] := by
  have S := Lib.hid hs
  have C := Lib.hid (Ch.refl w [F.gb])
  have hlg := hs.ltg
  have hlb := hs.ltb
  have hlk := hs.ltk
  clear hs
  go_enter Try.func20, Try.ntmps20
  go_upto_region 2 with fail
  have hsz0 := C.out.size
  obtain ⟨w1_, hW⟩ : ∃ V, (w.alloc (.cells #[.int .i64 0, .int .i64 0, .bool false, .bool false, .bool false, .int .i64 0, .int .i64 0, .int .i64 0, .int .i64 0, .int .i64 0] 30)) = V := ⟨_, rfl⟩
  have hb : Below w.heap.size w w1_ := by rw [← hW]; exact (Below.alloc (Below.refl _ _) (by first | exact Nat.le_refl _ | (simp; done) | (simp; omega)) _)
  obtain ⟨gZ, hgZ⟩ : ∃ q, w.heap.size = q := ⟨_, rfl⟩
  have Z_ : Hid (Bk w1_ gZ 30 [.int .i64 0, .int .i64 0, .bool false, .bool false, .bool false, .int .i64 0, .int .i64 0, .int .i64 0, .int .i64 0, .int .i64 0]) := by
    rw [← hW, ← hgZ]
    have hq := Bk.new w [.int .i64 0, .int .i64 0, .bool false, .bool false, .bool false, .int .i64 0, .int .i64 0, .int .i64 0, .int .i64 0, .int .i64 0] 30
    exact hq
  have nZ : w.heap.size ≤ gZ := by omega
  rw [hW]
  try rw [hgZ]
  replace S := Lib.hid (S.out.belowS hb)
  replace C := Lib.hid (C.out.trans (Ch.of_below hb _))
  clear hb
  have Z := Z_
  clear Z_
  clear hW hgZ
  go_wp2_with fail
  obtain ⟨w2_, hW⟩ : ∃ V, w1_.alloc (.cells #[.int .u8 128] 5) = V := ⟨_, rfl⟩
  obtain ⟨gy2, hgy⟩ : ∃ q, w1_.heap.size = q := ⟨_, rfl⟩
  have hy : Byt w2_ (some ⟨gy2, 0, none⟩) 1 [128] := by rw [← hW, ← hgy]; exact byt_new _ [128] (by decide) _ (by rfl) 1 rfl _
  have hb : Below w1_.heap.size w1_ w2_ := by rw [← hW]; exact (Below.refl _ _).alloc (Nat.le_refl _) _
  rw [hW]
  try rw [hgy]
  clear hW hgy
  replace S := Lib.hid (S.out.belowS hb)
  replace C := Lib.hid (C.out.trans (Ch.of_below hb _))
  replace Z := Lib.hid (Z.out.keep hb)
  clear hb
  refine (put9 _ S.out 500 1 _ _ [128] (by have := K_len; omega) (by have := K_len; omega) hy).mono ?_
  rintro e w3_ ⟨rfl, hs', hc⟩
  have hs : St 71 w3_ F K2_ (z0 1) := hs'
  clear hs' hy
  replace S := Lib.hid hs
  replace C := Lib.hid (C.out.newer hc (by intro z hz; simp at hz ⊢; omega))
  replace Z := Lib.hid (Z.out.ch hc (by simp; omega))
  clear hc
  clear hs
  have kz0 : w3_.cell? ⟨gZ, 0, none⟩ = some (.int .i64 0) := Z.out.cell (c := 0) rfl
  have kz1 : w3_.cell? ⟨gZ, 1, none⟩ = some (.int .i64 0) := Z.out.cell (c := 1) rfl
  have kz2 : w3_.cell? ⟨gZ, 2, none⟩ = some (.bool false) := Z.out.cell (c := 2) rfl
  have kz3 : w3_.cell? ⟨gZ, 3, none⟩ = some (.bool false) := Z.out.cell (c := 3) rfl
  have kz4 : w3_.cell? ⟨gZ, 4, none⟩ = some (.bool false) := Z.out.cell (c := 4) rfl
  have kz5 : w3_.cell? ⟨gZ, 5, none⟩ = some (.int .i64 0) := Z.out.cell (c := 5) rfl
  have kz6 : w3_.cell? ⟨gZ, 6, none⟩ = some (.int .i64 0) := Z.out.cell (c := 6) rfl
  have kz7 : w3_.cell? ⟨gZ, 7, none⟩ = some (.int .i64 0) := Z.out.cell (c := 7) rfl
  have kz8 : w3_.cell? ⟨gZ, 8, none⟩ = some (.int .i64 0) := Z.out.cell (c := 8) rfl
  have kz9 : w3_.cell? ⟨gZ, 9, none⟩ = some (.int .i64 0) := Z.out.cell (c := 9) rfl
  go_wp2_with fail
  clear kz0 kz1 kz2 kz3 kz4 kz5 kz6 kz7 kz8 kz9
  refine (run_k7 F _ S.out).mono ?_
  rintro e w4_ ⟨rfl, hs, hc⟩
  replace S := Lib.hid hs
  replace C := Lib.hid (C.out.newer hc (by intro z hz; simp at hz ⊢; omega))
  replace Z := Lib.hid (Z.out.ch hc (by simp; omega))
  clear hc
  clear hs
  go_upto_region 4 with fail
  have hsz4 := C.out.size
  obtain ⟨w5_, hW⟩ : ∃ V, ((w4_.alloc (.cells #[.int .u32 0, .int .u32 0, .int .u32 0, .int .u32 0, .int .u32 0, .int .u32 0, .int .u32 0, .int .u32 0, .int .u32 0, .int .u32 0, .int .u32 0, .int .u32 0, .int .u32 0, .int .u32 0, .int .u32 0, .int .u32 0] 28)).alloc (.cells #[.int .i64 0, .int .i64 0, .bool false, .bool false, .bool false, .int .i64 0, .int .i64 0, .int .i64 1, .int .i64 0, .int .i64 0] 30)) = V := ⟨_, rfl⟩
  have hb : Below w4_.heap.size w4_ w5_ := by rw [← hW]; exact (Below.alloc (Below.alloc (Below.refl _ _) (by first | exact Nat.le_refl _ | (simp; done) | (simp; omega)) _) (by first | exact Nat.le_refl _ | (simp; done) | (simp; omega)) _)
  obtain ⟨gT1, hgT1⟩ : ∃ q, w4_.heap.size = q := ⟨_, rfl⟩
  have T1_ : Hid (Bk w5_ gT1 28 [.int .u32 0, .int .u32 0, .int .u32 0, .int .u32 0, .int .u32 0, .int .u32 0, .int .u32 0, .int .u32 0, .int .u32 0, .int .u32 0, .int .u32 0, .int .u32 0, .int .u32 0, .int .u32 0, .int .u32 0, .int .u32 0]) := by
    rw [← hW, ← hgT1]
    have hq := Bk.new w4_ [.int .u32 0, .int .u32 0, .int .u32 0, .int .u32 0, .int .u32 0, .int .u32 0, .int .u32 0, .int .u32 0, .int .u32 0, .int .u32 0, .int .u32 0, .int .u32 0, .int .u32 0, .int .u32 0, .int .u32 0, .int .u32 0] 28
    exact hq.alloc _
  have nT1 : w4_.heap.size ≤ gT1 := by omega
  obtain ⟨gP1, hgP1⟩ : ∃ q, w4_.heap.size + 1 = q := ⟨_, rfl⟩
  have P1_ : Hid (Bk w5_ gP1 30 [.int .i64 0, .int .i64 0, .bool false, .bool false, .bool false, .int .i64 0, .int .i64 0, .int .i64 1, .int .i64 0, .int .i64 0]) := by
    rw [← hW, ← hgP1]
    have hq := Bk.new (w4_.alloc (.cells #[.int .u32 0, .int .u32 0, .int .u32 0, .int .u32 0, .int .u32 0, .int .u32 0, .int .u32 0, .int .u32 0, .int .u32 0, .int .u32 0, .int .u32 0, .int .u32 0, .int .u32 0, .int .u32 0, .int .u32 0, .int .u32 0] 28)) [.int .i64 0, .int .i64 0, .bool false, .bool false, .bool false, .int .i64 0, .int .i64 0, .int .i64 1, .int .i64 0, .int .i64 0] 30
    rw [World.size_alloc] at hq
    exact hq
  have nP1 : w4_.heap.size ≤ gP1 := by omega
  have oT1P1 : gT1 < gP1 := by omega
  have oZ_T1 : gZ < gT1 := by have := Z.out.lt; omega
  have oZ_P1 : gZ < gP1 := by have := Z.out.lt; omega
  rw [hW]
  try rw [hgP1]
  try rw [hgT1]
  replace S := Lib.hid (S.out.belowS hb)
  replace C := Lib.hid (C.out.trans (Ch.of_below hb _))
  replace Z := Lib.hid (Z.out.keep hb)
  clear hb
  have T1 := T1_
  clear T1_
  have P1 := P1_
  clear P1_
  clear hW hgT1 hgP1
  have kz0 : w5_.cell? ⟨gZ, 0, none⟩ = some (.int .i64 0) := Z.out.cell (c := 0) rfl
  have kz1 : w5_.cell? ⟨gZ, 1, none⟩ = some (.int .i64 0) := Z.out.cell (c := 1) rfl
  have kz2 : w5_.cell? ⟨gZ, 2, none⟩ = some (.bool false) := Z.out.cell (c := 2) rfl
  have kz3 : w5_.cell? ⟨gZ, 3, none⟩ = some (.bool false) := Z.out.cell (c := 3) rfl
  have kz4 : w5_.cell? ⟨gZ, 4, none⟩ = some (.bool false) := Z.out.cell (c := 4) rfl
  have kz5 : w5_.cell? ⟨gZ, 5, none⟩ = some (.int .i64 0) := Z.out.cell (c := 5) rfl
  have kz6 : w5_.cell? ⟨gZ, 6, none⟩ = some (.int .i64 0) := Z.out.cell (c := 6) rfl
  have kz7 : w5_.cell? ⟨gZ, 7, none⟩ = some (.int .i64 0) := Z.out.cell (c := 7) rfl
  have kz8 : w5_.cell? ⟨gZ, 8, none⟩ = some (.int .i64 0) := Z.out.cell (c := 8) rfl
  have kz9 : w5_.cell? ⟨gZ, 9, none⟩ = some (.int .i64 0) := Z.out.cell (c := 9) rfl
  go_wp2_with fail
  clear kz0 kz1 kz2 kz3 kz4 kz5 kz6 kz7 kz8 kz9
  refine (run_k8 F _ S.out).mono ?_
  rintro e w6_ ⟨rfl, hs, hc⟩
  replace S := Lib.hid hs
  replace C := Lib.hid (C.out.newer hc (by intro z hz; simp at hz ⊢; omega))
  replace Z := Lib.hid (Z.out.ch hc (by simp; omega))
  replace T1 := Lib.hid (T1.out.ch hc (by simp; omega))
  replace P1 := Lib.hid (P1.out.ch hc (by simp; omega))
  clear hc
  clear hs
  go_upto_region 5 with fail
  have hsz6 := C.out.size
  obtain ⟨w7_, hW⟩ : ∃ V, ((w6_.alloc (.cells #[.int .u32 0, .int .u32 0, .int .u32 0, .int .u32 0, .int .u32 0, .int .u32 0, .int .u32 0, .int .u32 0, .int .u32 0, .int .u32 0, .int .u32 0, .int .u32 0, .int .u32 0, .int .u32 0, .int .u32 0, .int .u32 0] 28)).alloc (.cells #[.int .i64 0, .int .i64 0, .bool false, .bool false, .bool false, .int .i64 0, .int .i64 0, .int .i64 0, .int .i64 0, .int .i64 0] 30)) = V := ⟨_, rfl⟩
  have hb : Below w6_.heap.size w6_ w7_ := by rw [← hW]; exact (Below.alloc (Below.alloc (Below.refl _ _) (by first | exact Nat.le_refl _ | (simp; done) | (simp; omega)) _) (by first | exact Nat.le_refl _ | (simp; done) | (simp; omega)) _)
  obtain ⟨gT2, hgT2⟩ : ∃ q, w6_.heap.size = q := ⟨_, rfl⟩
  have T2_ : Hid (Bk w7_ gT2 28 [.int .u32 0, .int .u32 0, .int .u32 0, .int .u32 0, .int .u32 0, .int .u32 0, .int .u32 0, .int .u32 0, .int .u32 0, .int .u32 0, .int .u32 0, .int .u32 0, .int .u32 0, .int .u32 0, .int .u32 0, .int .u32 0]) := by
    rw [← hW, ← hgT2]
    have hq := Bk.new w6_ [.int .u32 0, .int .u32 0, .int .u32 0, .int .u32 0, .int .u32 0, .int .u32 0, .int .u32 0, .int .u32 0, .int .u32 0, .int .u32 0, .int .u32 0, .int .u32 0, .int .u32 0, .int .u32 0, .int .u32 0, .int .u32 0] 28
    exact hq.alloc _
  have nT2 : w6_.heap.size ≤ gT2 := by omega
  obtain ⟨gP2, hgP2⟩ : ∃ q, w6_.heap.size + 1 = q := ⟨_, rfl⟩
  have P2_ : Hid (Bk w7_ gP2 30 [.int .i64 0, .int .i64 0, .bool false, .bool false, .bool false, .int .i64 0, .int .i64 0, .int .i64 0, .int .i64 0, .int .i64 0]) := by
    rw [← hW, ← hgP2]
    have hq := Bk.new (w6_.alloc (.cells #[.int .u32 0, .int .u32 0, .int .u32 0, .int .u32 0, .int .u32 0, .int .u32 0, .int .u32 0, .int .u32 0, .int .u32 0, .int .u32 0, .int .u32 0, .int .u32 0, .int .u32 0, .int .u32 0, .int .u32 0, .int .u32 0] 28)) [.int .i64 0, .int .i64 0, .bool false, .bool false, .bool false, .int .i64 0, .int .i64 0, .int .i64 0, .int .i64 0, .int .i64 0] 30
    rw [World.size_alloc] at hq
    exact hq
  have nP2 : w6_.heap.size ≤ gP2 := by omega
  have oT2P2 : gT2 < gP2 := by omega
  have oZ_T2 : gZ < gT2 := by have := Z.out.lt; omega
  have oZ_P2 : gZ < gP2 := by have := Z.out.lt; omega
  have oT1_T2 : gT1 < gT2 := by have := T1.out.lt; omega
  have oT1_P2 : gT1 < gP2 := by have := T1.out.lt; omega
  have oP1_T2 : gP1 < gT2 := by have := P1.out.lt; omega
  have oP1_P2 : gP1 < gP2 := by have := P1.out.lt; omega
  rw [hW]
  try rw [hgP2]
  try rw [hgT2]
  replace S := Lib.hid (S.out.belowS hb)
  replace C := Lib.hid (C.out.trans (Ch.of_below hb _))
  replace Z := Lib.hid (Z.out.keep hb)
  replace T1 := Lib.hid (T1.out.keep hb)
  replace P1 := Lib.hid (P1.out.keep hb)
  clear hb
  have T2 := T2_
  clear T2_
  have P2 := P2_
  clear P2_
  clear hW hgT2 hgP2
  clear T1
  clear T2
  go_wp2_with fail
  obtain ⟨w8_, hW⟩ : ∃ V, w7_.alloc (.cells #[.int .u8 1, .int .u8 2, .int .u8 3, .int .u8 4] 5) = V := ⟨_, rfl⟩
  obtain ⟨gy8, hgy⟩ : ∃ q, w7_.heap.size = q := ⟨_, rfl⟩
  have hy : Byt w8_ (some ⟨gy8, 0, none⟩) 4 [1, 2, 3, 4] := by rw [← hW, ← hgy]; exact byt_new _ [1, 2, 3, 4] (by decide) _ (by rfl) 4 rfl _
  have hb : Below w7_.heap.size w7_ w8_ := by rw [← hW]; exact (Below.refl _ _).alloc (Nat.le_refl _) _
  rw [hW]
  try rw [hgy]
  clear hW hgy
  replace S := Lib.hid (S.out.belowS hb)
  replace C := Lib.hid (C.out.trans (Ch.of_below hb _))
  replace Z := Lib.hid (Z.out.keep hb)
  replace P1 := Lib.hid (P1.out.keep hb)
  replace P2 := Lib.hid (P2.out.keep hb)
  clear hb
  refine (put9 _ S.out 600 4 _ _ [1, 2, 3, 4] (by have := K_len; omega) (by have := K_len; omega) hy).mono ?_
  rintro e w9_ ⟨rfl, hs', hc⟩
  have hs : St 71 w9_ F K3_ (z0 1) := hs'
  clear hs' hy
  replace S := Lib.hid hs
  replace C := Lib.hid (C.out.newer hc (by intro z hz; simp at hz ⊢; omega))
  replace Z := Lib.hid (Z.out.ch hc (by simp; omega))
  replace P1 := Lib.hid (P1.out.ch hc (by simp; omega))
  replace P2 := Lib.hid (P2.out.ch hc (by simp; omega))
  clear hc
  clear hs
  go_upto_region 6 with fail
  have hsz10 := C.out.size
  refine kb_reg6 (z_ := 0) (by kernel_rfl) (fun _ a a' _ e h => by have h' : a'.defers = [] ∧ _ := h; exact ⟨e ▸ h'.1, h'.2⟩) S.out Z.out (by omega) (by omega) (by omega) (fun W h => run_k9 F W h) ?_
  intro w10_ _ _ _ _ _ _ _ _ _ _ _ _ hs hZ _ _ _ _ hc
  replace S := Lib.hid hs
  replace C := Lib.hid (C.out.newer hc (by intro z hz; simp at hz ⊢; omega))
  replace Z := Lib.hid hZ
  replace P1 := Lib.hid (P1.out.ch hc (by simp; omega))
  replace P2 := Lib.hid (P2.out.ch hc (by simp; omega))
  clear hc
  clear hs hZ
  have kp7 : w10_.cell? ⟨gP1, 7, none⟩ = some (.int .i64 1) := P1.out.cell (c := 7) rfl
  have kq7 : w10_.cell? ⟨gP2, 7, none⟩ = some (.int .i64 0) := P2.out.cell (c := 7) rfl
  go_wp2_with fail
  clear kp7 kq7
  clear P2
  refine (get9 _ S.out 600 4 0 _ (by omega) (by have := K_len; omega) K4_get).mono ?_
  rintro e w11_ ⟨b9, m9, c9, rfl, hm, hy9, -, hb⟩
  replace S := Lib.hid (S.out.belowS hb)
  replace C := Lib.hid (C.out.trans (Ch.of_below hb _))
  replace Z := Lib.hid (Z.out.keep hb)
  replace P1 := Lib.hid (P1.out.keep hb)
  clear hb
  have hmm : m9 = 4 := by omega
  subst hmm
  have Y9 := Lib.hid hy9
  clear hy9 hm
  go_wp2_with fail
  obtain ⟨w12_, hW⟩ : ∃ V, w11_.alloc (.cells #[.int .u8 1, .int .u8 1, .int .u8 1, .int .u8 1] 5) = V := ⟨_, rfl⟩
  obtain ⟨gy12, hgy⟩ : ∃ q, w11_.heap.size = q := ⟨_, rfl⟩
  have hy : Byt w12_ (some ⟨gy12, 0, none⟩) 4 [1, 1, 1, 1] := by rw [← hW, ← hgy]; exact byt_new _ [1, 1, 1, 1] (by decide) _ (by rfl) 4 rfl _
  have hb : Below w11_.heap.size w11_ w12_ := by rw [← hW]; exact (Below.refl _ _).alloc (Nat.le_refl _) _
  rw [hW]
  try rw [hgy]
  clear hW hgy
  replace S := Lib.hid (S.out.belowS hb)
  replace C := Lib.hid (C.out.trans (Ch.of_below hb _))
  replace Z := Lib.hid (Z.out.keep hb)
  replace P1 := Lib.hid (P1.out.keep hb)
  replace Y9 := Lib.hid (Y9.out.keep hb)
  clear hb
  refine (same9_t _ _ _ _ _ _ _ _ _ Y9.out hy rfl (by omega)).mono ?_
  rintro e w13_ ⟨rfl, hb⟩
  clear hy
  replace S := Lib.hid (S.out.belowS hb)
  replace C := Lib.hid (C.out.trans (Ch.of_below hb _))
  replace Z := Lib.hid (Z.out.keep hb)
  replace P1 := Lib.hid (P1.out.keep hb)
  replace Y9 := Lib.hid (Y9.out.keep hb)
  clear hb
  clear Y9
  go_wp2_with fail
  obtain ⟨w14_, hW⟩ : ∃ V, w13_.alloc (.cells #[.int .u8 1, .int .u8 2, .int .u8 3] 5) = V := ⟨_, rfl⟩
  obtain ⟨gy14, hgy⟩ : ∃ q, w13_.heap.size = q := ⟨_, rfl⟩
  have hy : Byt w14_ (some ⟨gy14, 0, none⟩) 3 [1, 2, 3] := by rw [← hW, ← hgy]; exact byt_new _ [1, 2, 3] (by decide) _ (by rfl) 3 rfl _
  have hb : Below w13_.heap.size w13_ w14_ := by rw [← hW]; exact (Below.refl _ _).alloc (Nat.le_refl _) _
  rw [hW]
  try rw [hgy]
  clear hW hgy
  replace S := Lib.hid (S.out.belowS hb)
  replace C := Lib.hid (C.out.trans (Ch.of_below hb _))
  replace Z := Lib.hid (Z.out.keep hb)
  replace P1 := Lib.hid (P1.out.keep hb)
  clear hb
  refine (put9 _ S.out 700 3 _ _ [1, 2, 3] (by have := K_len; omega) (by have := K_len; omega) hy).mono ?_
  rintro e w15_ ⟨rfl, hs', hc⟩
  have hs : St 71 w15_ F K5_ (z0 1) := hs'
  clear hs' hy
  replace S := Lib.hid hs
  replace C := Lib.hid (C.out.newer hc (by intro z hz; simp at hz ⊢; omega))
  replace Z := Lib.hid (Z.out.ch hc (by simp; omega))
  replace P1 := Lib.hid (P1.out.ch hc (by simp; omega))
  clear hc
  clear hs
  go_wp2_with fail
  obtain ⟨w16_, hW⟩ : ∃ V, w15_.alloc (.cells #[.int .u8 0, .int .u8 0, .int .u8 5, .int .u8 0] 5) = V := ⟨_, rfl⟩
  obtain ⟨gy16, hgy⟩ : ∃ q, w15_.heap.size = q := ⟨_, rfl⟩
  have hy : Byt w16_ (some ⟨gy16, 0, none⟩) 4 [0, 0, 5, 0] := by rw [← hW, ← hgy]; exact byt_new _ [0, 0, 5, 0] (by decide) _ (by rfl) 4 rfl _
  have hb : Below w15_.heap.size w15_ w16_ := by rw [← hW]; exact (Below.refl _ _).alloc (Nat.le_refl _) _
  rw [hW]
  try rw [hgy]
  clear hW hgy
  replace S := Lib.hid (S.out.belowS hb)
  replace C := Lib.hid (C.out.trans (Ch.of_below hb _))
  replace Z := Lib.hid (Z.out.keep hb)
  replace P1 := Lib.hid (P1.out.keep hb)
  clear hb
  refine (put9 _ S.out 1000 4 _ _ [0, 0, 5, 0] (by have := K_len; omega) (by have := K_len; omega) hy).mono ?_
  rintro e w17_ ⟨rfl, hs', hc⟩
  have hs : St 71 w17_ F K6_ (z0 1) := hs'
  clear hs' hy
  replace S := Lib.hid hs
  replace C := Lib.hid (C.out.newer hc (by intro z hz; simp at hz ⊢; omega))
  replace Z := Lib.hid (Z.out.ch hc (by simp; omega))
  replace P1 := Lib.hid (P1.out.ch hc (by simp; omega))
  clear hc
  clear hs
  go_upto_region 11 with fail
  have hsz18 := C.out.size
  refine kb_reg11 (z_ := 0) (by kernel_rfl) (fun _ a a' _ e h => by have h' : a'.defers = [] ∧ _ := h; exact ⟨e ▸ h'.1, h'.2⟩) S.out Z.out (by omega) (by omega) (by omega) P1.out (by omega) (by omega) (by omega) (by omega) (fun W h => run_k10 F W h) ?_
  intro w18_ _ _ _ _ _ _ _ _ _ g13 _ hs hZ hP hT hge hc
  have h13 : g13 ≠ gP1 ∧ g13 ≠ gZ := by have h1 := P1.out.lt; have h2 := Z.out.lt; omega
  replace S := Lib.hid hs
  replace C := Lib.hid (C.out.newer hc (by intro z hz; simp at hz ⊢; omega))
  replace Z := Lib.hid hZ
  replace P1 := Lib.hid hP
  clear hc
  have T := Lib.hid hT
  clear hs hZ hP hT
  have kt1 : w18_.cell? ⟨g13, 1, none⟩ = some (.int .u32 2868904637) := T.out.cell (c := 1) rfl
  have kt2 : w18_.cell? ⟨g13, 2, none⟩ = some (.int .u32 3452816645) := T.out.cell (c := 2) rfl
  have kp7 : w18_.cell? ⟨gP1, 7, none⟩ = some (.int .i64 1) := P1.out.cell (c := 7) rfl
  go_upto_region 14 with fail
  clear kt1 kt2 kp7
  have kt0 : w18_.cell? ⟨g13, 0, none⟩ = some (.int .u32 0) := T.out.cell (c := 0) rfl
  have kt1 : w18_.cell? ⟨g13, 1, none⟩ = some (.int .u32 2868904637) := T.out.cell (c := 1) rfl
  have kt2 : w18_.cell? ⟨g13, 2, none⟩ = some (.int .u32 3452816645) := T.out.cell (c := 2) rfl
  have kt3 : w18_.cell? ⟨g13, 3, none⟩ = some (.int .u32 0) := T.out.cell (c := 3) rfl
  have kt4 : w18_.cell? ⟨g13, 4, none⟩ = some (.int .u32 0) := T.out.cell (c := 4) rfl
  have kt5 : w18_.cell? ⟨g13, 5, none⟩ = some (.int .u32 0) := T.out.cell (c := 5) rfl
  have kt6 : w18_.cell? ⟨g13, 6, none⟩ = some (.int .u32 0) := T.out.cell (c := 6) rfl
  have kt7 : w18_.cell? ⟨g13, 7, none⟩ = some (.int .u32 0) := T.out.cell (c := 7) rfl
  have kt8 : w18_.cell? ⟨g13, 8, none⟩ = some (.int .u32 0) := T.out.cell (c := 8) rfl
  have kt9 : w18_.cell? ⟨g13, 9, none⟩ = some (.int .u32 0) := T.out.cell (c := 9) rfl
  have kt10 : w18_.cell? ⟨g13, 10, none⟩ = some (.int .u32 0) := T.out.cell (c := 10) rfl
  have kt11 : w18_.cell? ⟨g13, 11, none⟩ = some (.int .u32 0) := T.out.cell (c := 11) rfl
  have kt12 : w18_.cell? ⟨g13, 12, none⟩ = some (.int .u32 0) := T.out.cell (c := 12) rfl
  have kt13 : w18_.cell? ⟨g13, 13, none⟩ = some (.int .u32 0) := T.out.cell (c := 13) rfl
  have kt14 : w18_.cell? ⟨g13, 14, none⟩ = some (.int .u32 700) := T.out.cell (c := 14) rfl
  have kt15 : w18_.cell? ⟨g13, 15, none⟩ = some (.int .u32 1000) := T.out.cell (c := 15) rfl
  have ft0 := T.out.free 0
  have ft1 := T.out.free 1
  have ft2 := T.out.free 2
  have ft3 := T.out.free 3
  have ft4 := T.out.free 4
  have ft5 := T.out.free 5
  have ft6 := T.out.free 6
  have ft7 := T.out.free 7
  have ft8 := T.out.free 8
  have ft9 := T.out.free 9
  have ft10 := T.out.free 10
  have ft11 := T.out.free 11
  have ft12 := T.out.free 12
  have ft13 := T.out.free 13
  have ft14 := T.out.free 14
  have ft15 := T.out.free 15
  have kp0 : w18_.cell? ⟨gP1, 0, none⟩ = some (.int .i64 0) := P1.out.cell (c := 0) rfl
  have kp1 : w18_.cell? ⟨gP1, 1, none⟩ = some (.int .i64 0) := P1.out.cell (c := 1) rfl
  have kp2 : w18_.cell? ⟨gP1, 2, none⟩ = some (.bool false) := P1.out.cell (c := 2) rfl
  have kp3 : w18_.cell? ⟨gP1, 3, none⟩ = some (.bool false) := P1.out.cell (c := 3) rfl
  have kp4 : w18_.cell? ⟨gP1, 4, none⟩ = some (.bool false) := P1.out.cell (c := 4) rfl
  have kp5 : w18_.cell? ⟨gP1, 5, none⟩ = some (.int .i64 0) := P1.out.cell (c := 5) rfl
  have kp6 : w18_.cell? ⟨gP1, 6, none⟩ = some (.int .i64 0) := P1.out.cell (c := 6) rfl
  have kp7 : w18_.cell? ⟨gP1, 7, none⟩ = some (.int .i64 1) := P1.out.cell (c := 7) rfl
  have kp8 : w18_.cell? ⟨gP1, 8, none⟩ = some (.int .i64 0) := P1.out.cell (c := 8) rfl
  have kp9 : w18_.cell? ⟨gP1, 9, none⟩ = some (.int .i64 0) := P1.out.cell (c := 9) rfl
  have fp0 := P1.out.free 0
  have fp1 := P1.out.free 1
  have fp2 := P1.out.free 2
  have fp3 := P1.out.free 3
  have fp4 := P1.out.free 4
  have fp5 := P1.out.free 5
  have fp6 := P1.out.free 6
  have fp7 := P1.out.free 7
  have fp8 := P1.out.free 8
  have fp9 := P1.out.free 9
  have kz0 : w18_.cell? ⟨gZ, 0, none⟩ = some (.int .i64 0) := Z.out.cell (c := 0) rfl
  have kz1 : w18_.cell? ⟨gZ, 1, none⟩ = some (.int .i64 0) := Z.out.cell (c := 1) rfl
  have kz2 : w18_.cell? ⟨gZ, 2, none⟩ = some (.bool false) := Z.out.cell (c := 2) rfl
  have kz3 : w18_.cell? ⟨gZ, 3, none⟩ = some (.bool false) := Z.out.cell (c := 3) rfl
  have kz4 : w18_.cell? ⟨gZ, 4, none⟩ = some (.bool false) := Z.out.cell (c := 4) rfl
  have kz5 : w18_.cell? ⟨gZ, 5, none⟩ = some (.int .i64 0) := Z.out.cell (c := 5) rfl
  have kz6 : w18_.cell? ⟨gZ, 6, none⟩ = some (.int .i64 0) := Z.out.cell (c := 6) rfl
  have kz7 : w18_.cell? ⟨gZ, 7, none⟩ = some (.int .i64 0) := Z.out.cell (c := 7) rfl
  have kz8 : w18_.cell? ⟨gZ, 8, none⟩ = some (.int .i64 0) := Z.out.cell (c := 8) rfl
  have kz9 : w18_.cell? ⟨gZ, 9, none⟩ = some (.int .i64 0) := Z.out.cell (c := 9) rfl
  go_wp2_with fail
  clear kt0 kt1 kt2 kt3 kt4 kt5 kt6 kt7 kt8 kt9 kt10 kt11 kt12 kt13 kt14 kt15 ft0 ft1 ft2 ft3 ft4 ft5 ft6 ft7 ft8 ft9 ft10 ft11 ft12 ft13 ft14 ft15 kp0 kp1 kp2 kp3 kp4 kp5 kp6 kp7 kp8 kp9 fp0 fp1 fp2 fp3 fp4 fp5 fp6 fp7 fp8 fp9 kz0 kz1 kz2 kz3 kz4 kz5 kz6 kz7 kz8 kz9
  refine (run_k11 F _ S.out).mono ?_
  rintro e w19_ ⟨rfl, hs, hc⟩
  replace S := Lib.hid hs
  replace C := Lib.hid (C.out.newer hc (by intro z hz; simp at hz ⊢; omega))
  replace Z := Lib.hid (Z.out.ch hc (by simp; omega))
  replace P1 := Lib.hid (P1.out.ch hc (by simp; omega))
  replace T := Lib.hid (T.out.ch hc (by simp; omega))
  clear hc
  clear hs
  have kt0 : w19_.cell? ⟨g13, 0, none⟩ = some (.int .u32 0) := T.out.cell (c := 0) rfl
  have kt1 : w19_.cell? ⟨g13, 1, none⟩ = some (.int .u32 2868904637) := T.out.cell (c := 1) rfl
  have kt2 : w19_.cell? ⟨g13, 2, none⟩ = some (.int .u32 3452816645) := T.out.cell (c := 2) rfl
  have kt3 : w19_.cell? ⟨g13, 3, none⟩ = some (.int .u32 0) := T.out.cell (c := 3) rfl
  have kt4 : w19_.cell? ⟨g13, 4, none⟩ = some (.int .u32 0) := T.out.cell (c := 4) rfl
  have kt5 : w19_.cell? ⟨g13, 5, none⟩ = some (.int .u32 0) := T.out.cell (c := 5) rfl
  have kt6 : w19_.cell? ⟨g13, 6, none⟩ = some (.int .u32 0) := T.out.cell (c := 6) rfl
  have kt7 : w19_.cell? ⟨g13, 7, none⟩ = some (.int .u32 0) := T.out.cell (c := 7) rfl
  have kt8 : w19_.cell? ⟨g13, 8, none⟩ = some (.int .u32 0) := T.out.cell (c := 8) rfl
  have kt9 : w19_.cell? ⟨g13, 9, none⟩ = some (.int .u32 0) := T.out.cell (c := 9) rfl
  have kt10 : w19_.cell? ⟨g13, 10, none⟩ = some (.int .u32 0) := T.out.cell (c := 10) rfl
  have kt11 : w19_.cell? ⟨g13, 11, none⟩ = some (.int .u32 0) := T.out.cell (c := 11) rfl
  have kt12 : w19_.cell? ⟨g13, 12, none⟩ = some (.int .u32 0) := T.out.cell (c := 12) rfl
  have kt13 : w19_.cell? ⟨g13, 13, none⟩ = some (.int .u32 0) := T.out.cell (c := 13) rfl
  have kt14 : w19_.cell? ⟨g13, 14, none⟩ = some (.int .u32 700) := T.out.cell (c := 14) rfl
  have kt15 : w19_.cell? ⟨g13, 15, none⟩ = some (.int .u32 1000) := T.out.cell (c := 15) rfl
  have ft0 := T.out.free 0
  have ft1 := T.out.free 1
  have ft2 := T.out.free 2
  have ft3 := T.out.free 3
  have ft4 := T.out.free 4
  have ft5 := T.out.free 5
  have ft6 := T.out.free 6
  have ft7 := T.out.free 7
  have ft8 := T.out.free 8
  have ft9 := T.out.free 9
  have ft10 := T.out.free 10
  have ft11 := T.out.free 11
  have ft12 := T.out.free 12
  have ft13 := T.out.free 13
  have ft14 := T.out.free 14
  have ft15 := T.out.free 15
  have kp0 : w19_.cell? ⟨gP1, 0, none⟩ = some (.int .i64 0) := P1.out.cell (c := 0) rfl
  have kp1 : w19_.cell? ⟨gP1, 1, none⟩ = some (.int .i64 0) := P1.out.cell (c := 1) rfl
  have kp2 : w19_.cell? ⟨gP1, 2, none⟩ = some (.bool false) := P1.out.cell (c := 2) rfl
  have kp3 : w19_.cell? ⟨gP1, 3, none⟩ = some (.bool false) := P1.out.cell (c := 3) rfl
  have kp4 : w19_.cell? ⟨gP1, 4, none⟩ = some (.bool false) := P1.out.cell (c := 4) rfl
  have kp5 : w19_.cell? ⟨gP1, 5, none⟩ = some (.int .i64 0) := P1.out.cell (c := 5) rfl
  have kp6 : w19_.cell? ⟨gP1, 6, none⟩ = some (.int .i64 0) := P1.out.cell (c := 6) rfl
  have kp7 : w19_.cell? ⟨gP1, 7, none⟩ = some (.int .i64 1) := P1.out.cell (c := 7) rfl
  have kp8 : w19_.cell? ⟨gP1, 8, none⟩ = some (.int .i64 0) := P1.out.cell (c := 8) rfl
  have kp9 : w19_.cell? ⟨gP1, 9, none⟩ = some (.int .i64 0) := P1.out.cell (c := 9) rfl
  have fp0 := P1.out.free 0
  have fp1 := P1.out.free 1
  have fp2 := P1.out.free 2
  have fp3 := P1.out.free 3
  have fp4 := P1.out.free 4
  have fp5 := P1.out.free 5
  have fp6 := P1.out.free 6
  have fp7 := P1.out.free 7
  have fp8 := P1.out.free 8
  have fp9 := P1.out.free 9
  go_upto_region 15 with fail
  clear kt0 kt1 kt2 kt3 kt4 kt5 kt6 kt7 kt8 kt9 kt10 kt11 kt12 kt13 kt14 kt15 ft0 ft1 ft2 ft3 ft4 ft5 ft6 ft7 ft8 ft9 ft10 ft11 ft12 ft13 ft14 ft15 kp0 kp1 kp2 kp3 kp4 kp5 kp6 kp7 kp8 kp9 fp0 fp1 fp2 fp3 fp4 fp5 fp6 fp7 fp8 fp9
  obtain ⟨w20_, hW⟩ : ∃ V, ((((((((((((((((((((((((((w19_.setCell ⟨g13, 0, none⟩ (.int .u32 0)).setCell ⟨g13, 1, none⟩ (.int .u32 0)).setCell ⟨g13, 2, none⟩ (.int .u32 2)).setCell ⟨g13, 3, none⟩ (.int .u32 0)).setCell ⟨g13, 4, none⟩ (.int .u32 1)).setCell ⟨g13, 5, none⟩ (.int .u32 2)).setCell ⟨g13, 6, none⟩ (.int .u32 0)).setCell ⟨g13, 7, none⟩ (.int .u32 0)).setCell ⟨g13, 8, none⟩ (.int .u32 0)).setCell ⟨g13, 9, none⟩ (.int .u32 0)).setCell ⟨g13, 10, none⟩ (.int .u32 0)).setCell ⟨g13, 11, none⟩ (.int .u32 0)).setCell ⟨g13, 12, none⟩ (.int .u32 0)).setCell ⟨g13, 13, none⟩ (.int .u32 0)).setCell ⟨g13, 14, none⟩ (.int .u32 0)).setCell ⟨g13, 15, none⟩ (.int .u32 0)).setCell ⟨gP1, 0, none⟩ (.int .i64 0)).setCell ⟨gP1, 1, none⟩ (.int .i64 0)).setCell ⟨gP1, 2, none⟩ (.bool false)).setCell ⟨gP1, 3, none⟩ (.bool false)).setCell ⟨gP1, 4, none⟩ (.bool false)).setCell ⟨gP1, 5, none⟩ (.int .i64 0)).setCell ⟨gP1, 6, none⟩ (.int .i64 0)).setCell ⟨gP1, 7, none⟩ (.int .i64 0)).setCell ⟨gP1, 8, none⟩ (.int .i64 0)).setCell ⟨gP1, 9, none⟩ (.int .i64 64)) = V := ⟨_, rfl⟩
  have hc : Ch w19_ w20_ [g13, gP1] := by rw [← hW]; exact ((ch_n16 w19_ g13 (.int .u32 0) (.int .u32 0) (.int .u32 2) (.int .u32 0) (.int .u32 1) (.int .u32 2) (.int .u32 0) (.int .u32 0) (.int .u32 0) (.int .u32 0) (.int .u32 0) (.int .u32 0) (.int .u32 0) (.int .u32 0) (.int .u32 0) (.int .u32 0)).mono (by simp)).trans ((ch_n10 _ gP1 (.int .i64 0) (.int .i64 0) (.bool false) (.bool false) (.bool false) (.int .i64 0) (.int .i64 0) (.int .i64 0) (.int .i64 0) (.int .i64 64)).mono (by simp))
  have hr : Bk w20_ g13 28 [.int .u32 0, .int .u32 0, .int .u32 2, .int .u32 0, .int .u32 1, .int .u32 2, .int .u32 0, .int .u32 0, .int .u32 0, .int .u32 0, .int .u32 0, .int .u32 0, .int .u32 0, .int .u32 0, .int .u32 0, .int .u32 0] := by rw [← hW]; exact Bk.oth10 (Bk.sets16 T.out rfl (.int .u32 0) (.int .u32 0) (.int .u32 2) (.int .u32 0) (.int .u32 1) (.int .u32 2) (.int .u32 0) (.int .u32 0) (.int .u32 0) (.int .u32 0) (.int .u32 0) (.int .u32 0) (.int .u32 0) (.int .u32 0) (.int .u32 0) (.int .u32 0)) (by omega) (.int .i64 0) (.int .i64 0) (.bool false) (.bool false) (.bool false) (.int .i64 0) (.int .i64 0) (.int .i64 0) (.int .i64 0) (.int .i64 64)
  have hp : Bk w20_ gP1 30 [.int .i64 0, .int .i64 0, .bool false, .bool false, .bool false, .int .i64 0, .int .i64 0, .int .i64 0, .int .i64 0, .int .i64 64] := by rw [← hW]; exact Bk.sets10 (Bk.oth16 P1.out (by omega) (.int .u32 0) (.int .u32 0) (.int .u32 2) (.int .u32 0) (.int .u32 1) (.int .u32 2) (.int .u32 0) (.int .u32 0) (.int .u32 0) (.int .u32 0) (.int .u32 0) (.int .u32 0) (.int .u32 0) (.int .u32 0) (.int .u32 0) (.int .u32 0)) rfl (.int .i64 0) (.int .i64 0) (.bool false) (.bool false) (.bool false) (.int .i64 0) (.int .i64 0) (.int .i64 0) (.int .i64 0) (.int .i64 64)
  rw [hW]
  clear hW
  replace S := Lib.hid (S.out.chd hc (by simp; omega) (by simp; omega) (by simp; omega))
  replace C := Lib.hid (C.out.newer hc (by intro z hz; simp at hz ⊢; omega))
  replace Z := Lib.hid (Z.out.ch hc (by simp; omega))
  replace P1 := Lib.hid hp
  replace T := Lib.hid hr
  clear hc
  clear hr hp
  have kz0 : w20_.cell? ⟨gZ, 0, none⟩ = some (.int .i64 0) := Z.out.cell (c := 0) rfl
  have kz1 : w20_.cell? ⟨gZ, 1, none⟩ = some (.int .i64 0) := Z.out.cell (c := 1) rfl
  have kz2 : w20_.cell? ⟨gZ, 2, none⟩ = some (.bool false) := Z.out.cell (c := 2) rfl
  have kz3 : w20_.cell? ⟨gZ, 3, none⟩ = some (.bool false) := Z.out.cell (c := 3) rfl
  have kz4 : w20_.cell? ⟨gZ, 4, none⟩ = some (.bool false) := Z.out.cell (c := 4) rfl
  have kz5 : w20_.cell? ⟨gZ, 5, none⟩ = some (.int .i64 0) := Z.out.cell (c := 5) rfl
  have kz6 : w20_.cell? ⟨gZ, 6, none⟩ = some (.int .i64 0) := Z.out.cell (c := 6) rfl
  have kz7 : w20_.cell? ⟨gZ, 7, none⟩ = some (.int .i64 0) := Z.out.cell (c := 7) rfl
  have kz8 : w20_.cell? ⟨gZ, 8, none⟩ = some (.int .i64 0) := Z.out.cell (c := 8) rfl
  have kz9 : w20_.cell? ⟨gZ, 9, none⟩ = some (.int .i64 0) := Z.out.cell (c := 9) rfl
  go_wp2_with fail
  clear kz0 kz1 kz2 kz3 kz4 kz5 kz6 kz7 kz8 kz9
  refine (run_k12 F _ S.out).mono ?_
  rintro e w21_ ⟨rfl, hs, hc⟩
  replace S := Lib.hid hs
  replace C := Lib.hid (C.out.newer hc (by intro z hz; simp at hz ⊢; omega))
  replace Z := Lib.hid (Z.out.ch hc (by simp; omega))
  replace P1 := Lib.hid (P1.out.ch hc (by simp; omega))
  replace T := Lib.hid (T.out.ch hc (by simp; omega))
  clear hc
  clear hs
  go_upto_region 16 with fail
  have hsz21 := C.out.size
  obtain ⟨w22_, hW⟩ : ∃ V, ((w21_.alloc (.cells #[.int .u32 0, .int .u32 4294967295, .int .u32 0, .int .u32 0, .int .u32 0, .int .u32 0, .int .u32 0, .int .u32 0, .int .u32 0, .int .u32 0, .int .u32 0, .int .u32 0, .int .u32 0, .int .u32 0, .int .u32 0, .int .u32 0] 28)).alloc (.cells #[.int .i64 0, .int .i64 0, .bool false, .bool false, .bool false, .int .i64 0, .int .i64 0, .int .i64 0, .int .i64 0, .int .i64 0] 30)) = V := ⟨_, rfl⟩
  have hb : Below w21_.heap.size w21_ w22_ := by rw [← hW]; exact (Below.alloc (Below.alloc (Below.refl _ _) (by first | exact Nat.le_refl _ | (simp; done) | (simp; omega)) _) (by first | exact Nat.le_refl _ | (simp; done) | (simp; omega)) _)
  obtain ⟨gT5, hgT5⟩ : ∃ q, w21_.heap.size = q := ⟨_, rfl⟩
  have T5_ : Hid (Bk w22_ gT5 28 [.int .u32 0, .int .u32 4294967295, .int .u32 0, .int .u32 0, .int .u32 0, .int .u32 0, .int .u32 0, .int .u32 0, .int .u32 0, .int .u32 0, .int .u32 0, .int .u32 0, .int .u32 0, .int .u32 0, .int .u32 0, .int .u32 0]) := by
    rw [← hW, ← hgT5]
    have hq := Bk.new w21_ [.int .u32 0, .int .u32 4294967295, .int .u32 0, .int .u32 0, .int .u32 0, .int .u32 0, .int .u32 0, .int .u32 0, .int .u32 0, .int .u32 0, .int .u32 0, .int .u32 0, .int .u32 0, .int .u32 0, .int .u32 0, .int .u32 0] 28
    exact hq.alloc _
  have nT5 : w21_.heap.size ≤ gT5 := by omega
  obtain ⟨gP5, hgP5⟩ : ∃ q, w21_.heap.size + 1 = q := ⟨_, rfl⟩
  have P5_ : Hid (Bk w22_ gP5 30 [.int .i64 0, .int .i64 0, .bool false, .bool false, .bool false, .int .i64 0, .int .i64 0, .int .i64 0, .int .i64 0, .int .i64 0]) := by
    rw [← hW, ← hgP5]
    have hq := Bk.new (w21_.alloc (.cells #[.int .u32 0, .int .u32 4294967295, .int .u32 0, .int .u32 0, .int .u32 0, .int .u32 0, .int .u32 0, .int .u32 0, .int .u32 0, .int .u32 0, .int .u32 0, .int .u32 0, .int .u32 0, .int .u32 0, .int .u32 0, .int .u32 0] 28)) [.int .i64 0, .int .i64 0, .bool false, .bool false, .bool false, .int .i64 0, .int .i64 0, .int .i64 0, .int .i64 0, .int .i64 0] 30
    rw [World.size_alloc] at hq
    exact hq
  have nP5 : w21_.heap.size ≤ gP5 := by omega
  have oT5P5 : gT5 < gP5 := by omega
  have oZ_T5 : gZ < gT5 := by have := Z.out.lt; omega
  have oZ_P5 : gZ < gP5 := by have := Z.out.lt; omega
  have oP1_T5 : gP1 < gT5 := by have := P1.out.lt; omega
  have oP1_P5 : gP1 < gP5 := by have := P1.out.lt; omega
  have oT_T5 : g13 < gT5 := by have := T.out.lt; omega
  have oT_P5 : g13 < gP5 := by have := T.out.lt; omega
  rw [hW]
  try rw [hgP5]
  try rw [hgT5]
  replace S := Lib.hid (S.out.belowS hb)
  replace C := Lib.hid (C.out.trans (Ch.of_below hb _))
  replace Z := Lib.hid (Z.out.keep hb)
  replace P1 := Lib.hid (P1.out.keep hb)
  replace T := Lib.hid (T.out.keep hb)
  clear hb
  have T5 := T5_
  clear T5_
  have P5 := P5_
  clear P5_
  clear hW hgT5 hgP5
  have kt2 : w22_.cell? ⟨g13, 2, none⟩ = some (.int .u32 2) := T.out.cell (c := 2) rfl
  have kp9 : w22_.cell? ⟨gP1, 9, none⟩ = some (.int .i64 64) := P1.out.cell (c := 9) rfl
  have ku1 : w22_.cell? ⟨gT5, 1, none⟩ = some (.int .u32 4294967295) := T5.out.cell (c := 1) rfl
  have kv9 : w22_.cell? ⟨gP5, 9, none⟩ = some (.int .i64 0) := P5.out.cell (c := 9) rfl
  go_wp2
  go_ret
  exact ⟨by rfl, C.out⟩
end Go.Proofs.Ythjdjbipfdigeaa

namespace Go.Proofs.Ythjdjbipfdigeaa
open Go.RowKit
set_option maxRecDepth 100000
set_option linter.unusedVariables false
set_option linter.unusedSimpArgs false
theorem eq_items_u32 (w : World) (xs ys : List Int) : ∀ is : List Nat, (∀ i ∈ is, i < xs.length ∧ i < ys.length) → (Op.eqItems 9999 26 1 (xs.map (Value.int .u32)).toArray (ys.map (Value.int .u32)).toArray is).run Try.prog w = .ok (is.all fun i => xs.getD i 0 == ys.getD i 0) w
  | [], _ => by simp [Op.eqItems]
  | i :: is, h => by
    have hi := h i (by simp)
    have he : Try.prog.underlying 26 = some (.int .u32) := Try.underlying26
    have px : (part 26 (xs.map (Value.int .u32)).toArray (i * 1)).run Try.prog w = .ok (.int .u32 (xs.getD i 0)) w := by
      simp [part, isAgg, run_underlying he, List.getD, List.getElem?_eq_getElem hi.1]
    have py : (part 26 (ys.map (Value.int .u32)).toArray (i * 1)).run Try.prog w = .ok (.int .u32 (ys.getD i 0)) w := by
      simp [part, isAgg, run_underlying he, List.getD, List.getElem?_eq_getElem hi.2]
    have pe : (Op.equalIn 9999 26 (.int .u32 (xs.getD i 0)) (.int .u32 (ys.getD i 0))).run Try.prog w = .ok (xs.getD i 0 == ys.getD i 0) w := run_equalIn_int w 9998 26 .u32 .u32 _ _ he
    have ih := eq_items_u32 w xs ys is (fun j hj => h j (by simp [hj]))
    simp only [Op.eqItems, Sem.run_bind, px, py, pe, Result.andThen_ok, List.all_cons]
    cases hb : (xs.getD i 0 == ys.getD i 0)
    · simp
    · simpa using ih
def eqrB (a0 a1 a2 a3 a4 a5 a6 a7 a8 a9 a10 a11 a12 a13 a14 a15 b0 b1 b2 b3 b4 b5 b6 b7 b8 b9 b10 b11 b12 b13 b14 b15 : Int) : Bool := [a0, a1, a2, a3, a4, a5, a6, a7, a8, a9, a10, a11, a12, a13, a14, a15] == [b0, b1, b2, b3, b4, b5, b6, b7, b8, b9, b10, b11, b12, b13, b14, b15]
theorem eqr_run (a0 a1 a2 a3 a4 a5 a6 a7 a8 a9 a10 a11 a12 a13 a14 a15 b0 b1 b2 b3 b4 b5 b6 b7 b8 b9 b10 b11 b12 b13 b14 b15 : Int) (w : World) : (Op.equalIn 10000 28 (.agg #[.int .u32 a0, .int .u32 a1, .int .u32 a2, .int .u32 a3, .int .u32 a4, .int .u32 a5, .int .u32 a6, .int .u32 a7, .int .u32 a8, .int .u32 a9, .int .u32 a10, .int .u32 a11, .int .u32 a12, .int .u32 a13, .int .u32 a14, .int .u32 a15]) (.agg #[.int .u32 b0, .int .u32 b1, .int .u32 b2, .int .u32 b3, .int .u32 b4, .int .u32 b5, .int .u32 b6, .int .u32 b7, .int .u32 b8, .int .u32 b9, .int .u32 b10, .int .u32 b11, .int .u32 b12, .int .u32 b13, .int .u32 b14, .int .u32 b15])).run Try.prog w = .ok (eqrB a0 a1 a2 a3 a4 a5 a6 a7 a8 a9 a10 a11 a12 a13 a14 a15 b0 b1 b2 b3 b4 b5 b6 b7 b8 b9 b10 b11 b12 b13 b14 b15) w := by
  have hu : Try.prog.underlying 28 = some (.array 16 26) := by kernel_rfl
  obtain ⟨i, hi⟩ : ∃ i, Try.prog.info? 26 = some i := ⟨_, rfl⟩
  have hc : Try.prog.cellsOf 26 = 1 := by kernel_rfl
  rw [show (10000 : Nat) = 9999 + 1 from rfl, run_equalIn_array w 9999 _ _ hu hi, hc]
  have h := eq_items_u32 w [a0, a1, a2, a3, a4, a5, a6, a7, a8, a9, a10, a11, a12, a13, a14, a15] [b0, b1, b2, b3, b4, b5, b6, b7, b8, b9, b10, b11, b12, b13, b14, b15] (List.range 16) (fun i hi => by have := List.mem_range.mp hi; exact ⟨this, this⟩)
  refine h.trans ?_
  congr 1
theorem eqr_guard : Try.prog.eqGuardType Try.prog.depth 28 = false := by kernel_rfl
theorem eqr_refl (a0 a1 a2 a3 a4 a5 a6 a7 a8 a9 a10 a11 a12 a13 a14 a15 : Int) : eqrB a0 a1 a2 a3 a4 a5 a6 a7 a8 a9 a10 a11 a12 a13 a14 a15 a0 a1 a2 a3 a4 a5 a6 a7 a8 a9 a10 a11 a12 a13 a14 a15 = true := by simp [eqrB]
end Go.Proofs.Ythjdjbipfdigeaa

namespace Go.Proofs.Ythjdjbipfdigeaa
open Go.RowKit
set_option linter.unusedVariables false
set_option linter.unusedSimpArgs false
def eqpB (m k c i q g a m' k' c' i' q' g' a' : Int) (M W P M' W' P' : Bool) : Bool := m == m' && (k == k' && (M == M' && (W == W' && (P == P' && (c == c' && (i == i' && (q == q' && (g == g' && (a == a')))))))))
set_option maxHeartbeats 1000000 in
theorem eqp_run (m k c i q g a m' k' c' i' q' g' a' : Int) (M W P M' W' P' : Bool) (w : World) : (Op.equalIn 10000 30 (.agg #[.int .i64 m, .int .i64 k, .bool M, .bool W, .bool P, .int .i64 c, .int .i64 i, .int .i64 q, .int .i64 g, .int .i64 a]) (.agg #[.int .i64 m', .int .i64 k', .bool M', .bool W', .bool P', .int .i64 c', .int .i64 i', .int .i64 q', .int .i64 g', .int .i64 a'])).run Try.prog w = .ok (eqpB m k c i q g a m' k' c' i' q' g' a' M W P M' W' P') w := by
  have hS : Try.prog.underlying 30 = some (.struct (Try.prog.fieldsOf 30)) := by kernel_rfl
  have hp : Try.prog.stoodInHeld 30 = false := by kernel_rfl
  rw [show (10000 : Nat) = 9999 + 1 from rfl, run_equalIn_agg w 9999 30 _ _ hS hp]
  simp only [Program.fieldsOf, Try.underlying30]
  go_simp
  unfold eqpB
  by_cases h_m : m = m'
  case neg => simp [h_m]
  subst h_m
  by_cases h_k : k = k'
  case neg => simp [h_k]
  subst h_k
  by_cases h_M : M = M'
  case neg => simp [h_M]
  subst h_M
  by_cases h_W : W = W'
  case neg => simp [h_W]
  subst h_W
  by_cases h_P : P = P'
  case neg => simp [h_P]
  subst h_P
  by_cases h_c : c = c'
  case neg => simp [h_c]
  subst h_c
  by_cases h_i : i = i'
  case neg => simp [h_i]
  subst h_i
  by_cases h_q : q = q'
  case neg => simp [h_q]
  subst h_q
  by_cases h_g : g = g'
  case neg => simp [h_g]
  subst h_g
  by_cases h_a : a = a'
  case neg => simp [h_a]
  subst h_a
  simp
theorem eqp_guard : Try.prog.eqGuardType Try.prog.depth 30 = false := by kernel_rfl
end Go.Proofs.Ythjdjbipfdigeaa

namespace Go.Proofs.Ythjdjbipfdigeaa
open Go.RowKit
set_option maxRecDepth 100000
set_option linter.unusedVariables false
set_option linter.unusedSimpArgs false
theorem eqp_refl (m k c i q g a : Int) (M W P : Bool) : eqpB m k c i q g a m k c i q g a M W P M W P = true := by simp [eqpB]
set_option maxRecDepth 1000000 in
set_option maxHeartbeats 4000000 in
theorem works_exec (sp : Nat) (w : World) : Calls Try.prog 14 #[.agg #[.int .i64 26, .int .i64 1, .int .i64 1, .int .i64 2, .int .i64 0, .int .i64 0, .int .i64 0, .int .i64 0, .int .i64 0, .int .i64 0, .int .i64 0, .int .i64 0], .agg #[.int .u32 0, .int .u32 2147483647, .int .u32 1, .int .u32 0, .int .u32 0, .int .u32 0, .int .u32 0, .int .u32 0, .int .u32 0, .int .u32 0, .int .u32 0, .int .u32 0, .int .u32 0, .int .u32 0, .int .u32 0, .int .u32 0], .agg #[.int .i64 0, .int .i64 0, .bool false, .bool false, .bool false, .int .i64 0, .int .i64 0, .int .i64 0, .int .i64 8, .int .i64 0], .pointer (some ⟨sp, 0, none⟩)] w fun e w' => e = .returned (.tuple #[.agg #[.int .u32 0, .int .u32 2147483648, .int .u32 1, .int .u32 0, .int .u32 0, .int .u32 0, .int .u32 0, .int .u32 0, .int .u32 0, .int .u32 0, .int .u32 0, .int .u32 0, .int .u32 0, .int .u32 0, .int .u32 0, .int .u32 0], .agg #[.int .i64 0, .int .i64 0, .bool false, .bool false, .bool false, .int .i64 0, .int .i64 0, .int .i64 3, .int .i64 8, .int .i64 0], .int .i64 8]) ∧ Below w.heap.size w w' := by
  refine (Exec_over 26 1 1 2 0 0 0 0 0 0 0 0 0 2147483647 1 0 0 0 0 0 0 0 0 0 0 0 0 0 0 0 false false false 0 0 0 8 0 sp [] (fun _ => True) 0 2147483648 1 0 0 0 0 0 0 0 0 0 0 0 0 0 0 0 false false false 0 0 3 8 0 true w (by decide +kernel) (by decide +kernel) (by decide +kernel) (by simp) (fun _ _ _ _ => trivial) (fun g W hg hb hm => ?_) rfl (by decide +kernel)).mono ?_
  · refine (exec_ar g 1 2 _ _ _ _ _ _ W hm rfl rfl rfl (by omega) rfl (by omega) (by decide)).mono ?_
    rintro e w' ⟨rfl, hM, hC⟩
    have e1 : lo32 (sg (2147483647 : Int) + sg 1) = 2147483648 := by decide
    have e2 : rcc (sg (2147483647 : Int) + sg 1) = 3 := by decide
    have e3 : ovf (sg (2147483647 : Int) + sg 1) = true := by decide
    have e4 : ([0, 2147483647, 1, 0, 0, 0, 0, 0, 0, 0, 0, 0, 0, 0, 0, 0] : List Int).getD 1 0 = 2147483647 := rfl
    have e5 : ([0, 2147483647, 1, 0, 0, 0, 0, 0, 0, 0, 0, 0, 0, 0, 0, 0] : List Int).getD 2 0 = 1 := rfl
    rw [e4, e5, e1, e2, e3] at hM
    exact ⟨rfl, hM, hC, trivial⟩
  · rintro e w' ⟨rfl, -, hc⟩
    exact ⟨rfl, hc.below (Nat.le_refl _) (by simp)⟩
attribute [local go_sem] eqr_run eqr_guard eqr_refl eqp_run eqp_guard eqp_refl
set_option maxRecDepth 1000000 in
set_option maxHeartbeats 4000000 in
theorem works_c (w : World) : Calls Try.prog 13 #[] w fun e w' => e = .returned (.bool true) ∧ Below w.heap.size w w' := by
  have NC := Lib.hid (new_yes 1 (by omega) (by omega) w)
  rw [show (((2048 * 1 : Nat) : Int)) = 2048 from rfl] at NC
  have EC := Lib.hid works_exec
  go_enter Try.func13, Try.ntmps13
  go_wp2_with fail
  refine NC.out.mono ?_
  rintro e w1 ⟨v, rfl, F, rfl, hS, hb, -, -, -⟩
  have HB1 := Lib.hid hb
  clear hS hb NC
  go_wp2_with (go_at_call 14; refine (EC.out _ _).mono ?_; rintro e w2 ⟨rfl, hb⟩; have HB2 := Lib.hid (HB1.out.trans (hb.mono HB1.out.size)); clear hb)
  go_ret
  trace_state
  exact ⟨by rfl, (HB2.out.alloc HB2.out.size _).alloc (by simp; have := HB2.out.size; omega) _⟩
end Go.Proofs.Ythjdjbipfdigeaa

