/- Contracts and laws on the way to the statement, text 6 of 25. Conditions: as each states them. -/
import Derived.Test.YthjdjbipfdigeaaCg1
import Derived.Test.YthjdjbipfdigeaaCg2
import Derived.Test.YthjdjbipfdigeaaCg3
import Derived.Test.YthjdjbipfdigeaaCg4
import Derived.Test.YthjdjbipfdigeaaCg5
import Derived.RegionTactic
import Derived.BigRegion
import Derived.Lib.Hide
import Derived.Outline
import Derived.Handy
import Derived.BigQuiet
import Derived.Deep.QuietTactic
import Derived.Test.YthjdjbipfdigeaaProg
namespace Go.Proofs.Ythjdjbipfdigeaa
open Go.RowKit
set_option maxRecDepth 100000
set_option linter.unusedVariables false
set_option linter.unusedSimpArgs false

theorem Rw.zerosB (w : World) (k : Nat) (hk : k ≤ maxLen) : Rw (w.alloc (.cells (zeroB k) 5)) w.heap.size 5 k ((List.replicate k (0 : Int)).map (Value.int .u8)) := by
  have h := Rw.new w (zeroB k) 5 ((List.replicate k (0 : Int)).map (Value.int .u8)) (by simp [zeroB]) (by simpa using hk)
  simpa using h
theorem Rw.zerosI (w : World) (k : Nat) (hk : k ≤ maxLen) : Rw (w.alloc (.cells (zeroI k) 3)) w.heap.size 3 k ((List.replicate k (0 : Int)).map (Value.int .i64)) := by
  have h := Rw.new w (zeroI k) 3 ((List.replicate k (0 : Int)).map (Value.int .i64)) (by simp [zeroI]) (by simpa using hk)
  simpa using h
theorem Rw.alloc {w : World} {g c : Nat} {e : TypeId} {vs : List Value} (h : Rw w g e c vs) (o : Obj) : Rw (w.alloc o) g e c vs := h.keep (Below.heap_alloc w o _ h.lt)
theorem Rw.belowS {w w' : World} {g c : Nat} {e : TypeId} {vs : List Value} (h : Rw w g e c vs) (hb : Below w.heap.size w w') : Rw w' g e c vs := h.keep (hb.block _ h.lt)
/-- the struct laid round its rows -/
theorem St.make {T : TypeId} {w : World} {gb gk cb ck : Nat} {bs ks : List Int} (hb : Rw w gb 5 cb (bs.map (Value.int .u8))) (hk : Rw w gk 3 ck (ks.map (Value.int .i64))) (rb : ∀ z ∈ bs, 0 ≤ z ∧ z ≤ 255) (rk : ∀ z ∈ ks, 0 ≤ z ∧ z ≤ 31) (ln : bs.length = 2048 * ks.length) (l0 : 1 ≤ ks.length) (l1 : ks.length ≤ 32)
    (N m : Nat) (hN : bs.length = N) (hm : ks.length = m) :
    St T (w.alloc (.cells #[.slice (some ⟨gb, 0, none⟩) N cb, .slice (some ⟨gk, 0, none⟩) m ck] T)) ⟨w.heap.size, gb, gk, cb, ck⟩ bs ks :=
  ⟨by subst hN hm; exact heap_alloc_new w _, hb.alloc _, hk.alloc _, rb, rk, ln, l0, l1⟩
/-- zeros -/
def z0 (k : Nat) : List Int := List.replicate k 0
theorem z0_len (k : Nat) : (z0 k).length = k := by simp [z0]
theorem z0_mem {k : Nat} {z : Int} (h : z ∈ z0 k) : z = 0 := List.eq_of_mem_replicate h
theorem new_st1 (T : TypeId) (w : World) (N m : Nat) (h : 2048 * m = N) (h1 : 1 ≤ m) (h2 : m ≤ 32) :
    St T (((w.alloc (.cells (zeroB N) 5)).alloc (.cells (zeroI m) 3)).alloc (.cells #[.slice (some ⟨w.heap.size, 0, none⟩) N N, .slice (some ⟨w.heap.size + 1, 0, none⟩) m m] T)) ⟨w.heap.size + 1 + 1, w.heap.size, w.heap.size + 1, N, m⟩ (z0 N) (z0 m) := by
  have hk := Rw.zerosI (w.alloc (.cells (zeroB N) 5)) m (by unfold maxLen; omega)
  have hb := (Rw.zerosB w N (by unfold maxLen; omega)).alloc (.cells (zeroI m) 3)
  rw [World.size_alloc] at hk
  have h3 := St.make (T := T) (bs := z0 N) (ks := z0 m) hb hk (fun z hz => by rw [z0_mem hz]; omega) (fun z hz => by rw [z0_mem hz]; omega) (by rw [z0_len, z0_len]; omega) (by rw [z0_len]; exact h1) (by rw [z0_len]; exact h2) N m (z0_len _) (z0_len _)
  simp only [World.size_alloc] at h3
  exact h3
theorem new_st2 (T : TypeId) (w : World) (N m : Nat) (h : 2048 * m = N) (h1 : 1 ≤ m) (h2 : m ≤ 32) :
    St T (((w.alloc (.cells (zeroI m) 3)).alloc (.cells (zeroB N) 5)).alloc (.cells #[.slice (some ⟨w.heap.size + 1, 0, none⟩) N N, .slice (some ⟨w.heap.size, 0, none⟩) m m] T)) ⟨w.heap.size + 1 + 1, w.heap.size + 1, w.heap.size, N, m⟩ (z0 N) (z0 m) := by
  have hb := Rw.zerosB (w.alloc (.cells (zeroI m) 3)) N (by unfold maxLen; omega)
  have hk := (Rw.zerosI w m (by unfold maxLen; omega)).alloc (.cells (zeroB N) 5)
  rw [World.size_alloc] at hb
  have h3 := St.make (T := T) (bs := z0 N) (ks := z0 m) hb hk (fun z hz => by rw [z0_mem hz]; omega) (fun z hz => by rw [z0_mem hz]; omega) (by rw [z0_len, z0_len]; omega) (by rw [z0_len]; exact h1) (by rw [z0_len]; exact h2) N m (z0_len _) (z0_len _)
  simp only [World.size_alloc] at h3
  exact h3
theorem below3 (w : World) (a b c : Obj) : Below w.heap.size w ((((w.alloc a).alloc b).alloc c).drew) := dBelow ((((Below.refl w.heap.size w).alloc (Nat.le_refl _) _).alloc (by simp) _).alloc (by simp; omega) _) 1
/-- a storage that is new: pointer value v -/
def NewSt (T : TypeId) (w : World) (bs ks : List Int) (v : Value) (w' : World) : Prop := ∃ F : Foot, v = .pointer (some ⟨F.g, 0, none⟩) ∧ St T w' F bs ks ∧ Below w.heap.size w w' ∧ w.heap.size ≤ F.g ∧ w.heap.size ≤ F.gb ∧ w.heap.size ≤ F.gk

def newPost (m : Nat) (w : World) (e : Ending) (w' : World) : Prop := ∃ v, e = .returned (.tuple #[v, .int .i64 0]) ∧ NewSt 71 w (z0 (2048 * m)) (z0 m) v w'
set_option maxHeartbeats 2000000 in
theorem new_yes (m : Nat) (h1 : 1 ≤ m) (h2 : m ≤ 32) (w : World) : Calls Try.prog 15 #[.int .i64 ((2048 * m : Nat) : Int)] w (newPost m w) := by
  obtain ⟨N, hN⟩ : ∃ N, 2048 * m = N := ⟨_, rfl⟩
  rw [hN]
  have a1 : (2048 : Int) ≤ (N : Int) := by omega
  have a2 : (N : Int) ≤ 65536 := by omega
  have a3 : ((N : Int) % 2048 != 0) = false := by rw [bne_eq_false_iff_eq]; omega
  have hmk := fun W => run_mk_b N (by omega) W
  have hmi := fun W => run_mk_i m (by omega) W
  have d1 : (N : Int).tdiv 2048 = (m : Int) := by rw [Int.tdiv_eq_ediv_of_nonneg (by omega)]; omega
  have d2 : (N : Int) / 2048 = (m : Int) := by omega
  have d3 : IntKind.i64.wrap (m : Int) = (m : Int) := by rw [IntKind.wrap_i64]; omega
  have HN := Lib.hid hN
  have M1 := Lib.hid h1
  have M2 := Lib.hid h2
  clear hN h1 h2
  go_enter Try.func15, Try.ntmps15
  go_wp2
  go_region
  skip
  all_goals
    go_wp2
    go_ret2
    first
      | exact ⟨_, rfl, ⟨_, _, _, _, _⟩, rfl, by rw [HN.out]; exact (new_st1 _ w N m HN.out M1.out M2.out).drewN 1, below3 _ _ _ _, by simp; omega, by simp, by simp⟩
      | exact ⟨_, rfl, ⟨_, _, _, _, _⟩, rfl, by rw [HN.out]; exact (new_st2 _ w N m HN.out M1.out M2.out).drewN 1, below3 _ _ _ _, by simp; omega, by simp, by simp⟩

def rnewPost (m : Nat) (w : World) (e : Ending) (w' : World) : Prop := ∃ v, e = .returned (v) ∧ NewSt 93 w (z0 (2048 * m)) (z0 m) v w'
set_option maxHeartbeats 2000000 in
theorem rnew_yes (m : Nat) (h1 : 1 ≤ m) (h2 : m ≤ 32) (w : World) : Calls Try.prog 35 #[.int .i64 ((2048 * m : Nat) : Int)] w (rnewPost m w) := by
  obtain ⟨N, hN⟩ : ∃ N, 2048 * m = N := ⟨_, rfl⟩
  rw [hN]
  have a1 : (2048 : Int) ≤ (N : Int) := by omega
  have a2 : (N : Int) ≤ 65536 := by omega
  have a3 : ((N : Int) % 2048 != 0) = false := by rw [bne_eq_false_iff_eq]; omega
  have hmk := fun W => run_mk_b N (by omega) W
  have hmi := fun W => run_mk_i m (by omega) W
  have d1 : (N : Int).tdiv 2048 = (m : Int) := by rw [Int.tdiv_eq_ediv_of_nonneg (by omega)]; omega
  have d2 : (N : Int) / 2048 = (m : Int) := by omega
  have d3 : IntKind.i64.wrap (m : Int) = (m : Int) := by rw [IntKind.wrap_i64]; omega
  have HN := Lib.hid hN
  have M1 := Lib.hid h1
  have M2 := Lib.hid h2
  clear hN h1 h2
  go_enter Try.func35, Try.ntmps35
  go_wp2
  go_region
  skip
  all_goals
    go_wp2
    go_ret
    first
      | exact ⟨_, rfl, ⟨_, _, _, _, _⟩, rfl, by rw [HN.out]; exact (new_st1 _ w N m HN.out M1.out M2.out).drewN 1, below3 _ _ _ _, by simp; omega, by simp, by simp⟩
      | exact ⟨_, rfl, ⟨_, _, _, _, _⟩, rfl, by rw [HN.out]; exact (new_st2 _ w N m HN.out M1.out M2.out).drewN 1, below3 _ _ _ _, by simp; omega, by simp, by simp⟩

end Go.Proofs.Ythjdjbipfdigeaa

namespace Go.Proofs.Ythjdjbipfdigeaa
open Go.RowKit
set_option maxRecDepth 100000
set_option linter.unusedVariables false
set_option linter.unusedSimpArgs false
/-- a slice of parts: an address and a slice of bytes each -/
def Parts (w : World) (A : Option Addr) (len : Nat) : Prop := (len : Int) ≤ 9223372036854775807 ∧ ∀ i, i < len → ∃ (b off : Nat) (at_ : Int) (B : Option Addr) (l c : Nat) (zs : List Int), A = some ⟨b, off, none⟩ ∧ w.cell? ⟨b, off + i * 2, none⟩ = some (.int .u16 at_) ∧ 0 ≤ at_ ∧ at_ ≤ 65535 ∧ w.cell? ⟨b, off + (i * 2 + 1), none⟩ = some (.slice B l c) ∧ Byt w B l zs ∧ (l : Int) ≤ 9223372036854775807
/-- the two storages while they are made -/
structure Bd (w W : World) (gm : Nat) (ms : List Value) (F G : Foot) (bs ks cs ls : List Int) : Prop where
  m : Bk W gm 34 ms
  s : St 71 W F bs ks
  t : St 93 W G cs ls
  b : Below w.heap.size w W
  gm0 : w.heap.size ≤ gm
  f : ∃ B, gm < F.g ∧ gm < F.gb ∧ gm < F.gk ∧ F.g < B ∧ F.gb < B ∧ F.gk < B ∧ B ≤ G.g ∧ B ≤ G.gb ∧ B ≤ G.gk
section
variable {w W W' : World} {gm : Nat} {ms : List Value} {F G : Foot} {bs ks cs ls : List Int}
theorem Bd.keep (h : Bd w W gm ms F G bs ks cs ls) (hb : Below W.heap.size W W') : Bd w W' gm ms F G bs ks cs ls := ⟨h.m.keep hb, h.s.belowS hb, h.t.belowS hb, h.b.trans (hb.mono h.b.size), h.gm0, h.f⟩
theorem Bd.fset (h : Bd w W gm ms F G bs ks cs ls) {bs2 ks2 : List Int} {r : Nat} (hs : St 71 W' F bs2 ks2) (hg : W.grownBy W' (some r)) (hr : r = F.gb ∨ r = F.gk) : Bd w W' gm ms F G bs2 ks2 cs ls := by
  obtain ⟨B, h1, h2, h3, h4, h5, h6, h7, h8, h9⟩ := h.f
  have hn : ∀ x, (x = gm ∨ x = G.g ∨ x = G.gb ∨ x = G.gk) → some x ≠ some r := by
    intro x hx e
    injection e with e
    omega
  have h0 := h.gm0
  refine ⟨h.m.kept (hg.block _ h.m.lt (hn _ (by simp))), hs, h.t.grown hg (hn _ (by simp)) (hn _ (by simp)) (hn _ (by simp)), ?_, h0, h.f⟩
  exact ⟨hg.os.trans h.b.os, hg.tape.trans h.b.tape, hg.output.trans h.b.output, Nat.le_trans h.b.size hg.size, fun i hi => (hg.block i (Nat.lt_of_lt_of_le hi h.b.size) (by intro e; injection e with e; omega)).trans (h.b.block i hi)⟩
theorem Bd.gset (h : Bd w W gm ms F G bs ks cs ls) {cs2 ls2 : List Int} {r : Nat} (hs : St 93 W' G cs2 ls2) (hg : W.grownBy W' (some r)) (hr : r = G.gb ∨ r = G.gk) : Bd w W' gm ms F G bs ks cs2 ls2 := by
  obtain ⟨B, h1, h2, h3, h4, h5, h6, h7, h8, h9⟩ := h.f
  have hn : ∀ x, (x = gm ∨ x = F.g ∨ x = F.gb ∨ x = F.gk) → some x ≠ some r := by
    intro x hx e
    injection e with e
    omega
  have h0 := h.gm0
  refine ⟨h.m.kept (hg.block _ h.m.lt (hn _ (by simp))), h.s.grown hg (hn _ (by simp)) (hn _ (by simp)) (hn _ (by simp)), hs, ?_, h0, h.f⟩
  exact ⟨hg.os.trans h.b.os, hg.tape.trans h.b.tape, hg.output.trans h.b.output, Nat.le_trans h.b.size hg.size, fun i hi => (hg.block i (Nat.lt_of_lt_of_le hi h.b.size) (by intro e; injection e with e; omega)).trans (h.b.block i hi)⟩
end
theorem Parts.at_ {w W : World} {A : Option Addr} {len : Nat} (h : Parts w A len) (hb : Below w.heap.size w W) {i : Nat} (hi : i < len) : ∃ (b off : Nat) (at_ : Int) (B : Option Addr) (l c : Nat) (zs : List Int), A = some ⟨b, off, none⟩ ∧ W.cell? ⟨b, off + i * 2, none⟩ = some (.int .u16 at_) ∧ 0 ≤ at_ ∧ at_ ≤ 65535 ∧ W.cell? ⟨b, off + i * 2 + 1, none⟩ = some (.slice B l c) ∧ Byt w B l zs ∧ (l : Int) ≤ 9223372036854775807 := by
  obtain ⟨b, off, at_, B, l, c, zs, h1, h2, h3, h4, h5, h6, h7⟩ := h.2 i hi
  have hlt : b < w.heap.size := by
    rcases Nat.lt_or_ge b w.heap.size with h8 | h8
    · exact h8
    · unfold World.cell? at h2; simp only [Array.getElem?_eq_none h8] at h2; cases h2
  have e1 := hb.cell (p := ⟨b, off + i * 2, none⟩) hlt
  have e2 := hb.cell (p := ⟨b, off + (i * 2 + 1), none⟩) hlt
  rw [← Nat.add_assoc] at e2 h5
  exact ⟨b, off, at_, B, l, c, zs, h1, e1.trans h2, h3, h4, e2.trans h5, h6, h7⟩
theorem byt_blk {w : World} {A : Option Addr} {len : Nat} {zs : List Int} (h : Byt w A len zs) (h0 : 0 < len) : ∀ x, A = some x → x.block < w.heap.size := by
  obtain ⟨b, off, e, hcell⟩ := h.2.2 h0
  intro x hx
  rw [e] at hx
  injection hx with hx
  subst hx
  have h1 := hcell 0 h0
  rcases Nat.lt_or_ge b w.heap.size with h2 | h2
  · exact h2
  · unfold World.cell? at h1; simp only [Array.getElem?_eq_none h2] at h1; cases h1
/-- what build answers -/
def Built (w : World) (e : Ending) (w' : World) : Prop := ∃ (F G : Foot) (bs ks : List Int), e = .returned (.tuple #[.pointer (some ⟨F.g, 0, none⟩), .pointer (some ⟨G.g, 0, none⟩)]) ∧ St 71 w' F bs ks ∧ St 93 w' G bs ks ∧ Below w.heap.size w w' ∧ (w.heap.size ≤ F.g ∧ w.heap.size ≤ F.gb ∧ w.heap.size ≤ F.gk) ∧ ∃ B, F.g < B ∧ F.gb < B ∧ F.gk < B ∧ B ≤ G.g ∧ B ≤ G.gb ∧ B ≤ G.gk
theorem Bd.built {w W : World} {gm : Nat} {ms : List Value} {F G : Foot} {bs ks : List Int} (h : Bd w W gm ms F G bs ks bs ks) : Built w (.returned (.tuple #[.pointer (some ⟨F.g, 0, none⟩), .pointer (some ⟨G.g, 0, none⟩)])) W := by
  obtain ⟨B, h1, h2, h3, h4, h5, h6, h7, h8, h9⟩ := h.f
  have h0 := h.gm0
  exact ⟨F, G, bs, ks, rfl, h.s, h.t, h.b, ⟨by omega, by omega, by omega⟩, B, h4, h5, h6, h7, h8, h9⟩
set_option maxRecDepth 1000000 in
set_option maxHeartbeats 8000000 in
theorem build_c (bl : Int) (KA : Option Addr) (kl kc : Nat) (kz : List Int) (PA : Option Addr) (pl pc : Nat) (w : World) (h0 : 0 ≤ bl) (h1 : bl ≤ 255) (hk : Byt w KA kl kz) (hkl : (kl : Int) ≤ 9223372036854775807) (hp : Parts w PA pl) : Calls Try.prog 21 #[.agg #[.int .u8 bl, .slice KA kl kc, .slice PA pl pc]] w (Built w) := by
  have HK := Lib.hid hk
  have HP := Lib.hid hp
  have hpl := hp.1
  clear hk hp
  obtain ⟨m, hm⟩ : ∃ m : Nat, bl % 4 + 1 = (m : Int) := ⟨(bl % 4 + 1).toNat, by omega⟩
  have hm1 : 1 ≤ m := by omega
  have hm4 : m ≤ 4 := by omega
  have NC := Lib.hid (fun W => new_yes m hm1 (by omega) W)
  have RC := Lib.hid (fun W => rnew_yes m hm1 (by omega) W)
  obtain ⟨sz, hsz⟩ : ∃ s : Int, ((2048 * m : Nat) : Int) = s := ⟨_, rfl⟩
  rw [hsz] at NC RC
  have e1 : 2048 * (bl % 4 + 1) = sz := by rw [hm]; omega
  have hsz0 : 2048 ≤ sz := by omega
  have hsz1 : sz ≤ 8192 := by omega
  have E1 := Lib.hid e1
  clear e1 hm hsz
  go_enter Try.func21, Try.ntmps21
  go_upto_region 2 with fail
  rw [E1.out]
  obtain ⟨gm, hgm⟩ : ∃ q, w.heap.size = q := ⟨_, rfl⟩
  obtain ⟨W1, hW⟩ : ∃ V, w.alloc (.cells #[.int .u8 bl, .slice KA kl kc, .slice PA pl pc] 34) = V := ⟨_, rfl⟩
  have hM : Bk W1 gm 34 [.int .u8 bl, .slice KA kl kc, .slice PA pl pc] := by rw [← hW, ← hgm]; exact Bk.new w _ _
  have hB1 : Below w.heap.size w W1 := by rw [← hW]; exact (Below.refl _ _).alloc (Nat.le_refl _) _
  rw [hW]
  try rw [hgm]
  have hgl := hM.lt
  have M := Lib.hid hM
  have B1 := Lib.hid hB1
  have hgm' : w.heap.size ≤ gm := by omega
  clear hW hM hB1 hgm
  go_wp2_with fail
  refine (NC.out _).mono ?_
  rintro e W2 ⟨v, rfl, F, rfl, hS, hb, hF1, hF2, hF3⟩
  replace M := Lib.hid (M.out.keep hb)
  replace B1 := Lib.hid (B1.out.trans (hb.mono B1.out.size))
  have S := Lib.hid hS
  clear hS hb
  go_wp2_with fail
  refine (RC.out _).mono ?_
  rintro e W3 ⟨v, rfl, G, rfl, hT, hb, hG1, hG2, hG3⟩
  have D := Lib.hid (show Bd w W3 gm [.int .u8 bl, .slice KA kl kc, .slice PA pl pc] F G (z0 (2048 * m)) (z0 m) (z0 (2048 * m)) (z0 m) from ⟨M.out.keep hb, S.out.belowS hb, hT, B1.out.trans (hb.mono B1.out.size), hgm', W2.heap.size, by omega, by omega, by omega, S.out.ltg, S.out.ltb, S.out.ltk, hG1, hG2, hG3⟩)
  clear hT hb M B1 S NC RC hgl hF1 hF2 hF3 hG1 hG2 hG3
  go_upto_region 7 with fail
  go_loopw [8, 9, 10] (fun i x y wr => ∃ (k : Nat) (bs ks : List Int), k ≤ pl ∧ i = .int .i64 (k : Int) ∧ Bd w wr gm [.int .u8 bl, .slice KA kl kc, .slice PA pl pc] F G bs ks bs ks) (fun i _ _ _ => pl - (intOf i).toNat)
  case atStart => exact ⟨0, _, _, by omega, rfl, D.out⟩
  case round =>
    obtain ⟨k, bs, ks, hk, rfl, hD⟩ := hrel
    have DD := Lib.hid hD
    clear hD D
    have cm := DD.out.m.cell (c := 2) rfl
    by_cases hlt : k < pl
    · by_cases h20 : k < 20
      · have i0 : (k : Int) < (pl : Int) := by omega
        have i1 : (0 : Int) ≤ (k : Int) := by omega
        have i2 : (k : Int) < 20 := by omega
        obtain ⟨b, off, at_, B, l, c, zs, rfl, hc1, ha0, ha1, hc2, hy, hl⟩ := HP.out.at_ DD.out.b hlt
        have Y := Lib.hid hy
        clear hy
        have r0 : 0 ≤ at_ % sz := Int.emod_nonneg _ (by omega)
        have r1 : at_ % sz < sz := Int.emod_lt_of_pos _ (by omega)
        have r2 : at_ % sz ≤ 8192 := by omega
        by_cases hfit : l ≤ 300 ∧ at_ % sz + (l : Int) ≤ sz
        · obtain ⟨hf1, hf2⟩ := hfit
          have hf1' : (l : Int) ≤ 300 := by omega
          go_upto_region 12 with fail
          clear cm hc1 hc2
          go_wp2_with fail
          refine (put_c _ DD.out.s (at_ % sz) 0 B l c zs (Y.out.keep DD.out.b) hl).mono ?_
          rintro e V ⟨rfl, hs, hg⟩
          have D2 := Lib.hid (DD.out.fset hs hg (.inl rfl))
          clear hs hg
          go_wp2_with fail
          have hgb : w.heap.size ≤ G.gb := by obtain ⟨B', q1, q2, q3, q4, q5, q6, q7, q8, q9⟩ := D2.out.f; omega
          refine (rput_c _ D2.out.t (at_ % sz) 0 B l c zs (Y.out.keep D2.out.b) hl (fun h0' x hx => by have := byt_blk Y.out h0' x hx; omega)).mono ?_
          rintro e V2 ⟨rfl, hs, hg⟩
          have D3 := Lib.hid (D2.out.gset hs hg (.inl rfl))
          clear hs hg
          go_wp2
          exact ⟨⟨k + 1, _, _, by omega, rfl, D3.out⟩, by simp [intOf]; omega⟩
        · have nx : l ≤ 300 → ¬ (at_ % sz + (l : Int) ≤ sz) := fun h1 h2 => hfit ⟨h1, h2⟩
          by_cases hf1 : l ≤ 300
          · have hf2 := nx hf1
            have hf1' : (l : Int) ≤ 300 := by omega
            clear nx hfit
            go_wp2
            exact ⟨⟨k + 1, _, _, by omega, rfl, DD.out⟩, by simp [intOf]; omega⟩
          · have hf1' : ¬ (l : Int) ≤ 300 := by omega
            clear nx hfit
            go_wp2
            exact ⟨⟨k + 1, _, _, by omega, rfl, DD.out⟩, by simp [intOf]; omega⟩
      · have i0 : (k : Int) < (pl : Int) := by omega
        have i2 : ¬ (k : Int) < 20 := by omega
        clear cm
        have cm := DD.out.m.cell (c := 2) rfl
        go_upto_region 15 with fail
        clear cm
        have D := DD
        clear DD hk
        go_loopw [11] (fun i wr => ∃ (k : Nat) (bs ks : List Int), k ≤ kl ∧ i = .int .i64 (k : Int) ∧ Bd w wr gm [.int .u8 bl, .slice KA kl kc, .slice PA pl pc] F G bs ks bs ks) (fun i _ => kl - (intOf i).toNat)
        case atStart => exact ⟨0, _, _, by omega, rfl, D.out⟩
        case round =>
          obtain ⟨k2, bs2, ks2, hk2, rfl, hD⟩ := hrel
          have DD := Lib.hid hD
          clear hD D
          have cm := DD.out.m.cell (c := 1) rfl
          by_cases hlt2 : k2 < kl
          · by_cases h4 : k2 < 4
            · have j0 : (k2 : Int) < (kl : Int) := by omega
              have j1 : (0 : Int) ≤ (k2 : Int) := by omega
              have j2 : (k2 : Int) < 4 := by omega
              obtain ⟨b, off, hKA, hc⟩ := (HK.out.keep DD.out.b).at_ (by omega)
              subst hKA
              have hr := HK.out.range k2
              have hck := hc k2 hlt2
              obtain ⟨kv, hkv⟩ : ∃ v, kz.getD k2 0 = v := ⟨_, rfl⟩
              rw [hkv] at hr hck
              have KV := Lib.hid hkv
              clear hc hkv
              go_wp2_with fail
              refine (setkey_c _ DD.out.s ((k2 : Int) * 2048) (kv % 32)).mono ?_
              rintro e V ⟨rfl, hs, hg⟩
              have D2 := Lib.hid (DD.out.fset hs hg (.inr rfl))
              clear hs hg cm hck
              have cm := D2.out.m.cell (c := 1) rfl
              have hck : V.cell? ⟨b, off + k2, none⟩ = some (.int .u8 kv) := by
                obtain ⟨b', off', e, hc⟩ := (HK.out.keep D2.out.b).at_ (by omega)
                injection e with e; injection e with e1 e2; subst e1 e2
                rw [hc k2 hlt2, KV.out]
              go_wp2_with fail
              refine (rsetkey_c _ D2.out.t ((k2 : Int) * 2048) (kv % 32)).mono ?_
              rintro e V2 ⟨rfl, hs, hg⟩
              have D3 := Lib.hid (D2.out.gset hs hg (.inr rfl))
              clear hs hg cm hck
              go_wp2
              exact ⟨⟨k2 + 1, _, _, by omega, rfl, D3.out⟩, by simp [intOf]; omega⟩
            · have j0 : (k2 : Int) < (kl : Int) := by omega
              have j2 : ¬ (k2 : Int) < 4 := by omega
              go_wp2
              go_ret2
              exact DD.out.built
          · have j0 : ¬ (k2 : Int) < (kl : Int) := by omega
            go_wp2
            go_ret2
            exact DD.out.built
    · have i0 : ¬ (k : Int) < (pl : Int) := by omega
      clear cm
      have cm := DD.out.m.cell (c := 2) rfl
      go_upto_region 15 with fail
      clear cm
      have D := DD
      clear DD hk
      go_loopw [11] (fun i wr => ∃ (k : Nat) (bs ks : List Int), k ≤ kl ∧ i = .int .i64 (k : Int) ∧ Bd w wr gm [.int .u8 bl, .slice KA kl kc, .slice PA pl pc] F G bs ks bs ks) (fun i _ => kl - (intOf i).toNat)
      case atStart => exact ⟨0, _, _, by omega, rfl, D.out⟩
      case round =>
        obtain ⟨k2, bs2, ks2, hk2, rfl, hD⟩ := hrel
        have DD := Lib.hid hD
        clear hD D
        have cm := DD.out.m.cell (c := 1) rfl
        by_cases hlt2 : k2 < kl
        · by_cases h4 : k2 < 4
          · have j0 : (k2 : Int) < (kl : Int) := by omega
            have j1 : (0 : Int) ≤ (k2 : Int) := by omega
            have j2 : (k2 : Int) < 4 := by omega
            obtain ⟨b, off, hKA, hc⟩ := (HK.out.keep DD.out.b).at_ (by omega)
            subst hKA
            have hr := HK.out.range k2
            have hck := hc k2 hlt2
            obtain ⟨kv, hkv⟩ : ∃ v, kz.getD k2 0 = v := ⟨_, rfl⟩
            rw [hkv] at hr hck
            have KV := Lib.hid hkv
            clear hc hkv
            go_wp2_with fail
            refine (setkey_c _ DD.out.s ((k2 : Int) * 2048) (kv % 32)).mono ?_
            rintro e V ⟨rfl, hs, hg⟩
            have D2 := Lib.hid (DD.out.fset hs hg (.inr rfl))
            clear hs hg cm hck
            have cm := D2.out.m.cell (c := 1) rfl
            have hck : V.cell? ⟨b, off + k2, none⟩ = some (.int .u8 kv) := by
              obtain ⟨b', off', e, hc⟩ := (HK.out.keep D2.out.b).at_ (by omega)
              injection e with e; injection e with e1 e2; subst e1 e2
              rw [hc k2 hlt2, KV.out]
            go_wp2_with fail
            refine (rsetkey_c _ D2.out.t ((k2 : Int) * 2048) (kv % 32)).mono ?_
            rintro e V2 ⟨rfl, hs, hg⟩
            have D3 := Lib.hid (D2.out.gset hs hg (.inr rfl))
            clear hs hg cm hck
            go_wp2
            exact ⟨⟨k2 + 1, _, _, by omega, rfl, D3.out⟩, by simp [intOf]; omega⟩
          · have j0 : (k2 : Int) < (kl : Int) := by omega
            have j2 : ¬ (k2 : Int) < 4 := by omega
            go_wp2
            go_ret2
            exact DD.out.built
        · have j0 : ¬ (k2 : Int) < (kl : Int) := by omega
          go_wp2
          go_ret2
          exact DD.out.built
end Go.Proofs.Ythjdjbipfdigeaa

namespace Go.Proofs.Ythjdjbipfdigeaa
open Go.RowKit
set_option maxRecDepth 100000
set_option linter.unusedVariables false
set_option linter.unusedSimpArgs false
theorem St.chd {T : TypeId} {w w' : World} {F : Foot} {bs ks : List Int} {L : List Nat} (h : St T w F bs ks) (hc : Ch w w' L) (h1 : F.g ∉ L) (h2 : F.gb ∉ L) (h3 : F.gk ∉ L) : St T w' F bs ks := h.keep (hc.kept h.ltg h1) (hc.kept h.ltb h2) (hc.kept h.ltk h3)
/-- a region's operations, by its number -/
def regOpsH (id : Nat) : Code → Option (Array Oper)
  | .region i ops _ => if i = id then some ops else none
  | .seq a b => (regOpsH id a).or (regOpsH id b)
  | .cond _ a b => (regOpsH id a).or (regOpsH id b)
  | .block _ b => regOpsH id b
  | .loop b => regOpsH id b
  | .scope b => regOpsH id b
  | .rangeFunc _ _ a b => (regOpsH id a).or (regOpsH id b)
  | _ => none
/-- the first loop's body -/
def loopAtH : Code → Option Code
  | .loop b => some b
  | .seq a b => (loopAtH a).or (loopAtH b)
  | .cond _ a b => (loopAtH a).or (loopAtH b)
  | .block _ b => loopAtH b
  | .scope b => loopAtH b
  | _ => none
end Go.Proofs.Ythjdjbipfdigeaa

namespace Go.Proofs.Ythjdjbipfdigeaa
open Go.RowKit
set_option linter.unusedVariables false

/-- four results -/
theorem results4 {fn : Func} {t u v x : Tmp} (h : fn.results = #[.tmp t, .tmp u, .tmp v, .tmp x]) (tmps : Array Value) (P : Program) (w : World) :
    (results fn tmps).run P w = .ok (.tuple #[tmps.getD t undef, tmps.getD u undef, tmps.getD v undef, tmps.getD x undef]) w := by simp [results, h]

set_option maxHeartbeats 400000 in
theorem shiftl_c (a n : Int) (l : Bool) (ha : 0 ≤ a) (ha' : a ≤ 4294967295) (hn : -9223372036854775808 ≤ n) (hn' : n ≤ 9223372036854775807) (w : World) :
    Calls Try.prog 56 #[.int .u32 a, .int .i64 n, .bool l] w fun e w' => e = .returned (.int .u32 (slg a (plc n) l)) ∧ w = w' := by
  have hp := plc_hi n
  have h1 := Lib.hid (slg_min a (plc n) ha ha')
  have h2 := Lib.hid (slg_minL a (plc n))
  cases l
  all_goals
    go_enter Try.func56, Try.ntmps56
    go_wp2_with (go_at_call 97; refine (places_c _ hn hn' _).mono ?_; rintro e w' ⟨rfl, rfl⟩)
    go_ret
    first | exact ⟨by rw [show slg a (plc n) true = lo32 (a * 2 ^ plc n) from rfl, ← h2.out]; rfl, rfl⟩ | exact ⟨by rw [show slg a (plc n) false = a / 2 ^ plc n from rfl, ← h1.out]; rfl, rfl⟩

set_option maxHeartbeats 400000 in
theorem shiftr_c (a n : Int) (ha : 0 ≤ a) (ha' : a ≤ 4294967295) (hn : -9223372036854775808 ≤ n) (hn' : n ≤ 9223372036854775807) (w : World) :
    Calls Try.prog 57 #[.int .u32 a, .int .i64 n] w fun e w' => e = .returned (.tuple #[.int .u32 (srv a (plc n)), .int .i64 (sgn (sg (srv a (plc n))))]) ∧ w = w' := by
  have ea := wrap32_sg a ha ha'
  have la := sg_lo a ha
  have ua := sg_hi a ha'
  have hp := plc_hi n
  have hm := sr_min a (plc n) ha ha'
  have hl : sg a / 2 ^ plc n % 4294967296 = srv a (plc n) := rfl
  have r0 := srv_lo a (plc n)
  have r1 := srv_hi a (plc n)
  go_enter Try.func57, Try.ntmps57
  go_wp2_with (first | (go_at_call 97; refine (places_c _ hn hn' _).mono ?_; rintro e w' ⟨rfl, rfl⟩) | (go_at_call 98; refine (test_c _ r0 r1 _).mono ?_; rintro e w' ⟨rfl, rfl⟩))
  go_ret2
  exact ⟨rfl, rfl⟩

set_option maxHeartbeats 400000 in
theorem shiftrd_c (a b n : Int) (ha : 0 ≤ a) (ha' : a ≤ 4294967295) (hb : 0 ≤ b) (hb' : b ≤ 4294967295) (hn : -9223372036854775808 ≤ n) (hn' : n ≤ 9223372036854775807) (w : World) :
    Calls Try.prog 62 #[.int .u32 a, .int .u32 b, .int .i64 n] w fun e w' => e = .returned (.tuple #[.int .u32 (lo32 (drv (dbl a b) (plc n) / 4294967296)), .int .u32 (lo32 (drv (dbl a b) (plc n))), .int .i64 (sgn (sg64 (drv (dbl a b) (plc n))))]) ∧ w = w' := by
  have x0 := dbl_lo a b ha hb
  have x1 := dbl_hi a b ha' hb'
  have ex := wrap64_sg (dbl a b) x0 x1
  have y0 := sg64_lo (dbl a b) x0
  have y1 := sg64_hi (dbl a b) x1
  have hp := plc_hi n
  have hs := Lib.hid (sgn_drv (dbl a b) (plc n) x0 x1)
  have d0 := (dr_box (dbl a b) (plc n) x0 x1).1
  have d1 := (dr_box (dbl a b) (plc n) x0 x1).2
  go_enter Try.func62, Try.ntmps62
  go_wp2_with (first | (go_at_call 99; refine (double_c _ _ ha ha' hb hb' _).mono ?_; rintro e w' ⟨rfl, rfl⟩) | (go_at_call 97; refine (places_c _ hn hn' _).mono ?_; rintro e w' ⟨rfl, rfl⟩) | (go_at_call 96; refine (sign_c _ _).mono ?_; rintro e w' ⟨rfl, rfl⟩))
  go_ret3
  exact ⟨by rw [hs.out, drv, hi_mod, lo_mod]; rfl, rfl⟩

set_option maxHeartbeats 400000 in
theorem shiftld_c (a b n : Int) (l : Bool) (ha : 0 ≤ a) (ha' : a ≤ 4294967295) (hb : 0 ≤ b) (hb' : b ≤ 4294967295) (hn : -9223372036854775808 ≤ n) (hn' : n ≤ 9223372036854775807) (w : World) :
    Calls Try.prog 61 #[.int .u32 a, .int .u32 b, .int .i64 n, .bool l] w fun e w' => e = .returned (.tuple #[.int .u32 (lo32 (dlg (dbl a b) (plc n) l / 4294967296)), .int .u32 (lo32 (dlg (dbl a b) (plc n) l))]) ∧ w = w' := by
  have x0 := dbl_lo a b ha hb
  have x1 := dbl_hi a b ha' hb'
  have ex := wrap64_sg (dbl a b) x0 x1
  have y0 := sg64_lo (dbl a b) x0
  have y1 := sg64_hi (dbl a b) x1
  have hp := plc_hi n
  cases l
  all_goals
    go_enter Try.func61, Try.ntmps61
    go_wp2_with (first | (go_at_call 99; refine (double_c _ _ ha ha' hb hb' _).mono ?_; rintro e w' ⟨rfl, rfl⟩) | (go_at_call 97; refine (places_c _ hn hn' _).mono ?_; rintro e w' ⟨rfl, rfl⟩))
    go_ret2
    exact ⟨rfl, rfl⟩

set_option maxHeartbeats 800000 in
theorem shiftlad_c (a b n : Int) (ha : 0 ≤ a) (ha' : a ≤ 4294967295) (hb : 0 ≤ b) (hb' : b ≤ 4294967295) (hn : -9223372036854775808 ≤ n) (hn' : n ≤ 9223372036854775807) (w : World) :
    Calls Try.prog 63 #[.int .u32 a, .int .u32 b, .int .i64 n] w fun e w' => e = .returned (.tuple #[.int .u32 (lo32 (dlv (dbl a b) (plc n) / 4294967296)), .int .u32 (lo32 (dlv (dbl a b) (plc n))), .int .i64 (dlc (dbl a b) (plc n)), .bool (dlo (dbl a b) (plc n))]) ∧ w = w' := by
  have x0 := dbl_lo a b ha hb
  have x1 := dbl_hi a b ha' hb'
  have ex := wrap64_sg (dbl a b) x0 x1
  have y0 := sg64_lo (dbl a b) x0
  have y1 := sg64_hi (dbl a b) x1
  have hp := plc_hi n
  have em : IntKind.u64.wrap (sg64 (dbl a b)) = dbl a b := by rw [IntKind.wrap_u64]; exact sg64_mod (dbl a b) x0 x1
  have e1 := and_sign64 (dbl a b) x0 x1
  have e2 : bits .andNot .u64 (IntKind.u64.wrap (dbl a b * 2 ^ plc n)) 9223372036854775808 = sg64 (dbl a b) * 2 ^ plc n % 9223372036854775808 := by rw [IntKind.wrap_u64, andNot_sign64 _ (by omega) (by omega)]; exact dlv_low _ _
  have e3 : bits .or .u64 (if dbl a b < 9223372036854775808 then 0 else 9223372036854775808) (sg64 (dbl a b) * 2 ^ plc n % 9223372036854775808) = dlv (dbl a b) (plc n) := by rw [or_sign64 _ _ (by split <;> simp) (by omega) (by omega)]; rfl
  rw [← e1] at e3
  have et := dlo_test (dbl a b) (plc n) hp x0 x1
  have v0 := dlv_lo (dbl a b) (plc n)
  have v1 := dlv_hi (dbl a b) (plc n)
  have ev := wrap64_sg _ v0 v1
  have hh := Lib.hid (lo32_id (dlv (dbl a b) (plc n) / 4294967296) (by omega) (by omega))
  clear e1
  cases hq : dlo (dbl a b) (plc n)
  all_goals
    rw [hq] at et
    have hq' := Lib.hid hq
    clear hq
    go_enter Try.func63, Try.ntmps63
    go_wp2_with (first | (go_at_call 99; refine (double_c _ _ ha ha' hb hb' _).mono ?_; rintro e w' ⟨rfl, rfl⟩) | (go_at_call 97; refine (places_c _ hn hn' _).mono ?_; rintro e w' ⟨rfl, rfl⟩) | (go_at_call 96; refine (sign_c _ _).mono ?_; rintro e w' ⟨rfl, rfl⟩))
    refine bodyPost_ret (results4 rfl _ _ _) rfl ?_
    exact ⟨by simp [dlc, hq'.out, hh.out]; rfl, rfl⟩

set_option maxHeartbeats 800000 in
theorem shiftla_c (a n : Int) (ha : 0 ≤ a) (ha' : a ≤ 4294967295) (hn : -9223372036854775808 ≤ n) (hn' : n ≤ 9223372036854775807) (w : World) :
    Calls Try.prog 59 #[.int .u32 a, .int .i64 n] w fun e w' => e = .returned (.tuple #[.int .u32 (slv a (plc n)), .int .i64 (slc a (plc n)), .bool (slo a (plc n))]) ∧ w = w' := by
  have ea := wrap32_sg a ha ha'
  have la := sg_lo a ha
  have ua := sg_hi a ha'
  have hp := plc_hi n
  have r0 := slv_lo a (plc n)
  have r1 := slv_hi a (plc n)
  have e1 := and_sign a ha ha'
  by_cases h32 : 32 ≤ plc n
  · have ev := slv_ge32 a (plc n) h32
    rw [← ev] at e1
    have eo := slo_ge32 a (plc n) h32 ha ha'
    have hv := Lib.hid ev
    clear ev
    cases hq : slo a (plc n)
    all_goals
      rw [hq] at eo
      have eo' := eo.symm
      have hq' := Lib.hid hq
      clear hq eo
      go_enter Try.func59, Try.ntmps59
      go_wp2_with (first | (go_at_call 97; refine (places_c _ hn hn' _).mono ?_; rintro e w' ⟨rfl, rfl⟩) | (go_at_call 98; refine (test_c _ r0 r1 _).mono ?_; rintro e w' ⟨rfl, rfl⟩))
      go_ret3
      exact ⟨by simp [slc, hq'.out]; try rfl, rfl⟩
  · have hx := exact_box a (plc n) (by omega) ha ha'
    have b0 := hx.1
    have b1 := hx.2
    clear hx
    have e2 : bits .andNot .u32 (sg a * 2 ^ plc n % 4294967296) 2147483648 = sg a * 2 ^ plc n % 2147483648 := by rw [andNot_sign _ (by omega) (by omega)]; omega
    have e3 : bits .or .u32 (bits .and .u32 a 2147483648) (sg a * 2 ^ plc n % 2147483648) = slv a (plc n) := by rw [e1, or_sign _ _ (by split <;> simp) (by omega) (by omega)]; rfl
    clear e1
    have hh := exact_high (sg a * 2 ^ plc n)
    cases hq : slo a (plc n)
    · have hq' := Lib.hid hq
      have hn : ¬ (ovf (sg a * 2 ^ plc n) = true) := by rw [show ovf (sg a * 2 ^ plc n) = slo a (plc n) from rfl, hq]; simp
      rw [hh] at hn
      clear hq hh
      by_cases h0 : sg a * 2 ^ plc n / 2147483648 = 0
      · have t0 : (sg a * 2 ^ plc n / 2147483648 != 0) = false := by simp [h0]
        clear h0 hn
        go_enter Try.func59, Try.ntmps59
        go_wp2_with (first | (go_at_call 97; refine (places_c _ hn hn' _).mono ?_; rintro e w' ⟨rfl, rfl⟩) | (go_at_call 98; refine (test_c _ r0 r1 _).mono ?_; rintro e w' ⟨rfl, rfl⟩))
        go_ret3
        exact ⟨by simp [slc, hq'.out]; try rfl, rfl⟩
      · have h1 : sg a * 2 ^ plc n / 2147483648 = -1 := by omega
        have t0 : (sg a * 2 ^ plc n / 2147483648 != 0) = true := by simp [h0]
        have t1 : (sg a * 2 ^ plc n / 2147483648 != -1) = false := by simp [h1]
        clear h0 h1 hn
        go_enter Try.func59, Try.ntmps59
        go_wp2_with (first | (go_at_call 97; refine (places_c _ hn hn' _).mono ?_; rintro e w' ⟨rfl, rfl⟩) | (go_at_call 98; refine (test_c _ r0 r1 _).mono ?_; rintro e w' ⟨rfl, rfl⟩))
        go_ret3
        exact ⟨by simp [slc, hq'.out]; try rfl, rfl⟩
    · have hq' := Lib.hid hq
      have hn : ovf (sg a * 2 ^ plc n) = true := hq
      rw [hh] at hn
      have t0 : (sg a * 2 ^ plc n / 2147483648 != 0) = true := by simp [hn.1]
      have t1 : (sg a * 2 ^ plc n / 2147483648 != -1) = true := by simp [hn.2]
      clear hq hh hn
      go_enter Try.func59, Try.ntmps59
      go_wp2_with (first | (go_at_call 97; refine (places_c _ hn hn' _).mono ?_; rintro e w' ⟨rfl, rfl⟩) | (go_at_call 98; refine (test_c _ r0 r1 _).mono ?_; rintro e w' ⟨rfl, rfl⟩))
      go_ret3
      exact ⟨by simp [slc, hq'.out]; try rfl, rfl⟩

end Go.Proofs.Ythjdjbipfdigeaa

namespace Go.Proofs.Ythjdjbipfdigeaa
open Go.RowKit
set_option linter.unusedVariables false

set_option maxHeartbeats 400000 in
theorem fits_c (A : Option Addr) (len cap : Nat) (at_ n : Int) (w : World) (hl : (len : Int) ≤ 9223372036854775807) (ha : -9223372036854775808 ≤ at_) (ha' : at_ ≤ 9223372036854775807) (hn : 0 ≤ n) (hn' : n ≤ 100) :
    Calls Try.prog 101 #[.slice A len cap, .int .i64 at_, .int .i64 n] w fun e w' => e = .returned (.bool (fitB len at_ n)) ∧ w = w' := by
  by_cases h0 : 0 ≤ at_
  · have hs := Lib.hid (show fitB len at_ n = decide (at_ ≤ (len : Int) - n) from by unfold fitB; simp [h0])
    go_enter Try.func101, Try.ntmps101
    go_wp2
    go_ret
    exact ⟨by rw [hs.out]; rfl, rfl⟩
  · have hs := Lib.hid (show fitB len at_ n = false from by unfold fitB; simp [h0])
    have hd : decide (0 ≤ at_) = false := by simp [h0]
    have h0' : at_ < 0 := by omega
    go_enter Try.func101, Try.ntmps101
    go_wp2
    go_ret
    exact ⟨by rw [hs.out]; rfl, rfl⟩

set_option maxHeartbeats 400000 in
theorem half_yes (b off len cap k : Nat) (x y : Int) (w : World) (hl : (len : Int) ≤ 9223372036854775807) (hk : (k : Int) + 2 ≤ (len : Int))
    (hc0 : w.cell? ⟨b, off + k, none⟩ = some (.int .u8 x)) (hc1 : w.cell? ⟨b, off + (k + 1), none⟩ = some (.int .u8 y)) (hx : 0 ≤ x) (hx' : x ≤ 255) (hy : 0 ≤ y) (hy' : y ≤ 255) :
    Calls Try.prog 103 #[.slice (some ⟨b, off, none⟩) len cap, .int .i64 k] w fun e w' => e = .returned (.tuple #[.int .u32 (hfv x y), .bool true]) ∧ ∃ n, w' = w.drewN n := by
  have hf : fitB len k 2 = true := by unfold fitB; simp; omega
  have eo := or_half x y hx hx' hy hy'
  have s0 := sx16_lo (x * 256 + y) (by omega)
  have s1 := sx16_hi (x * 256 + y) (by omega)
  have k1 : (k : Int) < (len : Int) := by omega
  have k2 : (k : Int) + 1 < (len : Int) := by omega
  have hl' := lo32_is (sx16 (x * 256 + y))
  go_enter Try.func103, Try.ntmps103
  go_wp2_with (go_at_call 101; refine (fits_c _ _ _ _ _ _ hl (by omega) (by omega) (by omega) (by omega)).mono ?_; rintro e w' ⟨rfl, rfl⟩)
  go_quiet (fail)
  go_wp2
  go_ret2
  exact ⟨rfl, _, rfl⟩

end Go.Proofs.Ythjdjbipfdigeaa

namespace Go.Proofs.Ythjdjbipfdigeaa
open Go.RowKit
set_option linter.unusedVariables false

theorem or4 (x y z u : Int) (hx : 0 ≤ x) (hx' : x ≤ 255) (hy : 0 ≤ y) (hy' : y ≤ 255) (hz : 0 ≤ z) (hz' : z ≤ 255) (hu : 0 ≤ u) (hu' : u ≤ 255) :
    bits .or .u32 (x * 16777216) (y * 65536) = x * 16777216 + y * 65536 ∧ bits .or .u32 (x * 16777216 + y * 65536) (z * 256) = x * 16777216 + y * 65536 + z * 256 ∧ bits .or .u32 (x * 16777216 + y * 65536 + z * 256) u = flv x y z u := by
  refine ⟨or_32 24 _ _ 16777216 (by decide) (by omega) (by omega) (by omega) (by omega) (by omega) (by omega), or_32 16 _ _ 65536 (by decide) (by omega) (by omega) (by omega) (by omega) (by omega) (by omega), ?_⟩
  rw [or_32 8 _ _ 256 (by decide) (by omega) (by omega) (by omega) (by omega) (by omega) (by omega)]; rfl

set_option maxHeartbeats 400000 in
theorem full_yes (b off len cap k : Nat) (x y z u : Int) (w : World) (hl : (len : Int) ≤ 9223372036854775807) (hk : (k : Int) + 4 ≤ (len : Int))
    (hc0 : w.cell? ⟨b, off + k, none⟩ = some (.int .u8 x)) (hc1 : w.cell? ⟨b, off + (k + 1), none⟩ = some (.int .u8 y)) (hc2 : w.cell? ⟨b, off + (k + 2), none⟩ = some (.int .u8 z)) (hc3 : w.cell? ⟨b, off + (k + 3), none⟩ = some (.int .u8 u))
    (hx : 0 ≤ x) (hx' : x ≤ 255) (hy : 0 ≤ y) (hy' : y ≤ 255) (hz : 0 ≤ z) (hz' : z ≤ 255) (hu : 0 ≤ u) (hu' : u ≤ 255) :
    Calls Try.prog 70 #[.slice (some ⟨b, off, none⟩) len cap, .int .i64 k] w fun e w' => e = .returned (.tuple #[.int .u32 (flv x y z u), .bool true]) ∧ ∃ n, w' = w.drewN n := by
  have hf : fitB len k 4 = true := by unfold fitB; simp; omega
  have ho := or4 x y z u hx hx' hy hy' hz hz' hu hu'
  have o1 := ho.1
  have o2 := ho.2.1
  have o3 := ho.2.2
  clear ho
  have k1 : (k : Int) < (len : Int) := by omega
  have k2 : (k : Int) + 1 < (len : Int) := by omega
  have k3 : (k : Int) + 2 < (len : Int) := by omega
  have k4 : (k : Int) + 3 < (len : Int) := by omega
  go_enter Try.func70, Try.ntmps70
  go_wp2_with (go_at_call 101; refine (fits_c _ _ _ _ _ _ hl (by omega) (by omega) (by omega) (by omega)).mono ?_; rintro e w' ⟨rfl, rfl⟩)
  go_quiet (fail)
  go_wp2
  go_ret2
  exact ⟨rfl, _, rfl⟩

end Go.Proofs.Ythjdjbipfdigeaa

namespace Go.Proofs.Ythjdjbipfdigeaa
open Go.RowKit
set_option maxRecDepth 100000
set_option linter.unusedVariables false
set_option linter.unusedSimpArgs false
/-- the code that fetching an operand throws, or 0 -/
def opC (op fm : Int) (bs ks : List Int) (key a : Int) : Int := if fm = 1 then 0 else if 72 ≤ op ∧ op ≤ 76 then (if a % 2 = 0 then sCode (alF key) bs.length ks a 2 else 6) else (if a % 4 = 0 then sCode (alF key) bs.length ks a 4 else 6)
def g2V (bs : List Int) (a : Int) : Int := hfv ((sGet bs a 2).getD 0 0) ((sGet bs a 2).getD 1 0)
def g4V (bs : List Int) (a : Int) : Int := flv ((sGet bs a 4).getD 0 0) ((sGet bs a 4).getD 1 0) ((sGet bs a 4).getD 2 0) ((sGet bs a 4).getD 3 0)
/-- the operand -/
def opV (op fm : Int) (os : List Int) (k : Nat) (bs : List Int) (a : Int) : Int := if fm = 1 then os.getD k 0 else if 72 ≤ op ∧ op ≤ 76 then g2V bs a else g4V bs a
theorem sGet_leng {al : Int → Bool} {bs ks : List Int} {a n : Int} (h : sCode al bs.length ks a n = 0) : ((sGet bs a n).length : Int) = n := by
  have h0 := sCode_zero h
  obtain ⟨h1, h2, h3, h4⟩ := sIn_yes h0
  unfold sGet; rw [if_pos h0]; simp; omega
set_option maxRecDepth 1000000 in
set_option maxHeartbeats 8000000 in
theorem operand_half (g : Nat) (F : Foot) (is os rs : List Int) (ps : List Value) (ov : Bool) (bs ks : List Int) (op fm key a : Int) (w : World) (h : MS w g F is os rs ps ov bs ks) (h0 : is.getD 0 0 = op) (h1 : is.getD 1 0 = fm) (hf : fm ≠ 1) (hkey : ps.getD 1 undef = .int .i64 key) (hsec : ∀ W, MS W g F is os rs ps ov bs ks → Calls Try.prog 44 #[.pointer (some ⟨g, 0, none⟩)] W fun e w' => e = .returned (.int .i64 a) ∧ Ch W w' []) (ha0 : 0 ≤ a) (ha1 : a ≤ 16777215) (ha : a % 2 = 0) (hop : 72 ≤ op ∧ op ≤ 76) (hc : sCode (alF key) bs.length ks a 2 = 0) : Calls Try.prog 85 #[.pointer (some ⟨g, 0, none⟩)] w fun e w' => e = .returned (.int .u32 (g2V bs a)) ∧ MS w' g F is os rs ps ov bs ks ∧ Ch w w' [] := by
  have e2 : op ≥ 72 := by omega
  have e3 : op ≤ 76 := by omega
  have c0 := h.m.ci (c := 0) (by omega)
  rw [h0] at c0
  have c1 := h.m.ci (c := 1) (by omega)
  rw [h1] at c1
  have e1 : (fm == 1) = false := by simpa using hf
  have HM := Lib.hid h
  have SC := Lib.hid hsec
  have HK := Lib.hid hkey
  have D0 := Lib.hid (Ch.refl w ([] : List Nat))
  clear h h0 h1 hkey hsec hf
  have hl := sGet_leng hc
  unfold g2V
  obtain ⟨zs, hzs⟩ : ∃ zs, sGet bs a 2 = zs := ⟨_, rfl⟩
  rw [hzs] at hl ⊢
  have HZ := Lib.hid hzs
  have HC := Lib.hid hc
  clear hc hzs hop
  go_enter Try.func85, Try.ntmps85
  go_wp2_with (first
    | (go_at_call 66; refine (aligned_m g a 2 _ (SC.out _ HM.out) (.inl rfl) ha0 ha1 ha).mono ?_; rintro e wa ⟨rfl, hca⟩; have Ma := Lib.hid (HM.out.ch hca); have Ca := Lib.hid (D0.out.trans hca); clear hca)
    | (go_at_call 68; refine (fetch_m g F is os rs ps ov bs ks a 2 key _ Ma.out HK.out HC.out).mono ?_; rintro e W1 ⟨A, mm, cb, rfl, hO, hM, hCh⟩; rw [HZ.out] at hO; have M1 := Lib.hid hM; have C1 := Lib.hid (Ca.out.trans hCh); have hml : mm = 2 := by have := hO.byt.1; omega
       subst hml; obtain ⟨gb, cb', hv, hgb, hgl, -, -⟩ := hO.pos (by omega); injection hv with hv1 hv2 hv3; subst hv1 hv3; have Y1 := Lib.hid hO.byt; clear hO hM hCh hgb hgl; obtain ⟨gb', ob', e', hcell⟩ := Y1.out.at_ (by omega); cases e'
       have y0 := hcell 0 (by omega); have r0 := Y1.out.range 0
       have y1 := hcell 1 (by omega); have r1 := Y1.out.range 1
       obtain ⟨x0, hx0⟩ : ∃ x, zs.getD 0 0 = x := ⟨_, rfl⟩; rw [hx0] at y0 r0
       obtain ⟨x1, hx1⟩ : ∃ x, zs.getD 1 0 = x := ⟨_, rfl⟩; rw [hx1] at y1 r1
       have HV := Lib.hid (show hfv (zs.getD 0 0) (zs.getD 1 0) = hfv x0 x1 from by rw [hx0, hx1]); clear hcell Y1 hx0 hx1)
    | (go_at_call 103; refine (half_yes gb 0 2 cb 0 x0 x1 _ (by omega) (by omega) (y0) (y1) r0.1 r0.2 r1.1 r1.2).mono ?_; rintro e w5 ⟨rfl, d5, hw5⟩; have M5 := Lib.hid (show MS w5 g F is os rs ps ov bs ks from by rw [hw5]; exact M1.out.drewN d5); have C5 := Lib.hid (show Ch w w5 [] from by rw [hw5]; exact C1.out.drewN d5); clear hw5))
  go_ret
  rw [HV.out]
  exact ⟨rfl, M5.out, C5.out⟩
set_option maxRecDepth 1000000 in
set_option maxHeartbeats 8000000 in
theorem operand_half_odd (g : Nat) (F : Foot) (is os rs : List Int) (ps : List Value) (ov : Bool) (bs ks : List Int) (op fm key a : Int) (w : World) (h : MS w g F is os rs ps ov bs ks) (h0 : is.getD 0 0 = op) (h1 : is.getD 1 0 = fm) (hf : fm ≠ 1) (hkey : ps.getD 1 undef = .int .i64 key) (hsec : ∀ W, MS W g F is os rs ps ov bs ks → Calls Try.prog 44 #[.pointer (some ⟨g, 0, none⟩)] W fun e w' => e = .returned (.int .i64 a) ∧ Ch W w' []) (ha0 : 0 ≤ a) (ha1 : a ≤ 16777215) (ha : a % 2 ≠ 0) (hop : 72 ≤ op ∧ op ≤ 76) : Calls Try.prog 85 #[.pointer (some ⟨g, 0, none⟩)] w fun e w' => e = .panicked [{ v := .iface 65 (.int .i64 6), recovered := false }] ∧ MS w' g F is os rs ps ov bs ks ∧ Ch w w' [] := by
  have e2 : op ≥ 72 := by omega
  have e3 : op ≤ 76 := by omega
  have c0 := h.m.ci (c := 0) (by omega)
  rw [h0] at c0
  have c1 := h.m.ci (c := 1) (by omega)
  rw [h1] at c1
  have e1 : (fm == 1) = false := by simpa using hf
  have HM := Lib.hid h
  have SC := Lib.hid hsec
  have HK := Lib.hid hkey
  have D0 := Lib.hid (Ch.refl w ([] : List Nat))
  clear h h0 h1 hkey hsec hf
  clear hop
  go_enter Try.func85, Try.ntmps85
  go_wp2_with (go_at_call 66; refine (aligned_no g a 2 _ (SC.out _ HM.out) (.inl rfl) ha0 ha1 ha).mono ?_; rintro e wa ⟨rfl, hca⟩; have Ma := Lib.hid (HM.out.ch hca); have Ca := Lib.hid (D0.out.trans hca); clear hca)
  exact ⟨rfl, rfl, Ma.out, Ca.out⟩
set_option maxRecDepth 1000000 in
set_option maxHeartbeats 8000000 in
theorem operand_half_no (g : Nat) (F : Foot) (is os rs : List Int) (ps : List Value) (ov : Bool) (bs ks : List Int) (op fm key a : Int) (w : World) (h : MS w g F is os rs ps ov bs ks) (h0 : is.getD 0 0 = op) (h1 : is.getD 1 0 = fm) (hf : fm ≠ 1) (hkey : ps.getD 1 undef = .int .i64 key) (hsec : ∀ W, MS W g F is os rs ps ov bs ks → Calls Try.prog 44 #[.pointer (some ⟨g, 0, none⟩)] W fun e w' => e = .returned (.int .i64 a) ∧ Ch W w' []) (ha0 : 0 ≤ a) (ha1 : a ≤ 16777215) (ha : a % 2 = 0) (hop : 72 ≤ op ∧ op ≤ 76) (c : Int) (hc : sCode (alF key) bs.length ks a 2 = c) (hc0 : c ≠ 0) : Calls Try.prog 85 #[.pointer (some ⟨g, 0, none⟩)] w fun e w' => e = .panicked [{ v := .iface 65 (.int .i64 c), recovered := false }] ∧ MS w' g F is os rs ps ov bs ks ∧ Ch w w' [] := by
  have e2 : op ≥ 72 := by omega
  have e3 : op ≤ 76 := by omega
  have c0 := h.m.ci (c := 0) (by omega)
  rw [h0] at c0
  have c1 := h.m.ci (c := 1) (by omega)
  rw [h1] at c1
  have e1 : (fm == 1) = false := by simpa using hf
  have HM := Lib.hid h
  have SC := Lib.hid hsec
  have HK := Lib.hid hkey
  have D0 := Lib.hid (Ch.refl w ([] : List Nat))
  clear h h0 h1 hkey hsec hf
  have HC := Lib.hid hc
  have HC0 := Lib.hid hc0
  clear hop hc hc0
  go_enter Try.func85, Try.ntmps85
  go_wp2_with (first
    | (go_at_call 66; refine (aligned_m g a 2 _ (SC.out _ HM.out) (.inl rfl) ha0 ha1 ha).mono ?_; rintro e wa ⟨rfl, hca⟩; have Ma := Lib.hid (HM.out.ch hca); have Ca := Lib.hid (D0.out.trans hca); clear hca)
    | (go_at_call 68; refine (fetch_no g F is os rs ps ov bs ks a 2 key _ Ma.out HK.out c HC.out HC0.out).mono ?_; rintro e W1 ⟨rfl, hM, hCh⟩; have M1 := Lib.hid hM; have C1 := Lib.hid (Ca.out.trans hCh); clear hM hCh))
  exact ⟨rfl, rfl, M1.out, C1.out⟩
set_option maxRecDepth 1000000 in
set_option maxHeartbeats 8000000 in
theorem operand_fulllo (g : Nat) (F : Foot) (is os rs : List Int) (ps : List Value) (ov : Bool) (bs ks : List Int) (op fm key a : Int) (w : World) (h : MS w g F is os rs ps ov bs ks) (h0 : is.getD 0 0 = op) (h1 : is.getD 1 0 = fm) (hf : fm ≠ 1) (hkey : ps.getD 1 undef = .int .i64 key) (hsec : ∀ W, MS W g F is os rs ps ov bs ks → Calls Try.prog 44 #[.pointer (some ⟨g, 0, none⟩)] W fun e w' => e = .returned (.int .i64 a) ∧ Ch W w' []) (ha0 : 0 ≤ a) (ha1 : a ≤ 16777215) (ha : a % 4 = 0) (hop : op < 72) (hc : sCode (alF key) bs.length ks a 4 = 0) : Calls Try.prog 85 #[.pointer (some ⟨g, 0, none⟩)] w fun e w' => e = .returned (.int .u32 (g4V bs a)) ∧ MS w' g F is os rs ps ov bs ks ∧ Ch w w' [] := by
  have e2 : ¬ op ≥ 72 := by omega
  have c0 := h.m.ci (c := 0) (by omega)
  rw [h0] at c0
  have c1 := h.m.ci (c := 1) (by omega)
  rw [h1] at c1
  have e1 : (fm == 1) = false := by simpa using hf
  have HM := Lib.hid h
  have SC := Lib.hid hsec
  have HK := Lib.hid hkey
  have D0 := Lib.hid (Ch.refl w ([] : List Nat))
  clear h h0 h1 hkey hsec hf
  have hl := sGet_leng hc
  unfold g4V
  obtain ⟨zs, hzs⟩ : ∃ zs, sGet bs a 4 = zs := ⟨_, rfl⟩
  rw [hzs] at hl ⊢
  have HZ := Lib.hid hzs
  have HC := Lib.hid hc
  clear hc hzs hop
  go_enter Try.func85, Try.ntmps85
  go_wp2_with (first
    | (go_at_call 66; refine (aligned_m g a 4 _ (SC.out _ HM.out) (.inr rfl) ha0 ha1 ha).mono ?_; rintro e wa ⟨rfl, hca⟩; have Ma := Lib.hid (HM.out.ch hca); have Ca := Lib.hid (D0.out.trans hca); clear hca)
    | (go_at_call 68; refine (fetch_m g F is os rs ps ov bs ks a 4 key _ Ma.out HK.out HC.out).mono ?_; rintro e W1 ⟨A, mm, cb, rfl, hO, hM, hCh⟩; rw [HZ.out] at hO; have M1 := Lib.hid hM; have C1 := Lib.hid (Ca.out.trans hCh); have hml : mm = 4 := by have := hO.byt.1; omega
       subst hml; obtain ⟨gb, cb', hv, hgb, hgl, -, -⟩ := hO.pos (by omega); injection hv with hv1 hv2 hv3; subst hv1 hv3; have Y1 := Lib.hid hO.byt; clear hO hM hCh hgb hgl; obtain ⟨gb', ob', e', hcell⟩ := Y1.out.at_ (by omega); cases e'
       have y0 := hcell 0 (by omega); have r0 := Y1.out.range 0
       have y1 := hcell 1 (by omega); have r1 := Y1.out.range 1
       have y2 := hcell 2 (by omega); have r2 := Y1.out.range 2
       have y3 := hcell 3 (by omega); have r3 := Y1.out.range 3
       obtain ⟨x0, hx0⟩ : ∃ x, zs.getD 0 0 = x := ⟨_, rfl⟩; rw [hx0] at y0 r0
       obtain ⟨x1, hx1⟩ : ∃ x, zs.getD 1 0 = x := ⟨_, rfl⟩; rw [hx1] at y1 r1
       obtain ⟨x2, hx2⟩ : ∃ x, zs.getD 2 0 = x := ⟨_, rfl⟩; rw [hx2] at y2 r2
       obtain ⟨x3, hx3⟩ : ∃ x, zs.getD 3 0 = x := ⟨_, rfl⟩; rw [hx3] at y3 r3
       have HV := Lib.hid (show flv (zs.getD 0 0) (zs.getD 1 0) (zs.getD 2 0) (zs.getD 3 0) = flv x0 x1 x2 x3 from by rw [hx0, hx1, hx2, hx3]); clear hcell Y1 hx0 hx1 hx2 hx3)
    | (go_at_call 70; refine (full_yes gb 0 4 cb 0 x0 x1 x2 x3 _ (by omega) (by omega) (y0) (y1) (y2) (y3) r0.1 r0.2 r1.1 r1.2 r2.1 r2.2 r3.1 r3.2).mono ?_; rintro e w5 ⟨rfl, d5, hw5⟩; have M5 := Lib.hid (show MS w5 g F is os rs ps ov bs ks from by rw [hw5]; exact M1.out.drewN d5); have C5 := Lib.hid (show Ch w w5 [] from by rw [hw5]; exact C1.out.drewN d5); clear hw5))
  go_ret
  rw [HV.out]
  exact ⟨rfl, M5.out, C5.out⟩
set_option maxRecDepth 1000000 in
set_option maxHeartbeats 8000000 in
theorem operand_fulllo_odd (g : Nat) (F : Foot) (is os rs : List Int) (ps : List Value) (ov : Bool) (bs ks : List Int) (op fm key a : Int) (w : World) (h : MS w g F is os rs ps ov bs ks) (h0 : is.getD 0 0 = op) (h1 : is.getD 1 0 = fm) (hf : fm ≠ 1) (hkey : ps.getD 1 undef = .int .i64 key) (hsec : ∀ W, MS W g F is os rs ps ov bs ks → Calls Try.prog 44 #[.pointer (some ⟨g, 0, none⟩)] W fun e w' => e = .returned (.int .i64 a) ∧ Ch W w' []) (ha0 : 0 ≤ a) (ha1 : a ≤ 16777215) (ha : a % 4 ≠ 0) (hop : op < 72) : Calls Try.prog 85 #[.pointer (some ⟨g, 0, none⟩)] w fun e w' => e = .panicked [{ v := .iface 65 (.int .i64 6), recovered := false }] ∧ MS w' g F is os rs ps ov bs ks ∧ Ch w w' [] := by
  have e2 : ¬ op ≥ 72 := by omega
  have c0 := h.m.ci (c := 0) (by omega)
  rw [h0] at c0
  have c1 := h.m.ci (c := 1) (by omega)
  rw [h1] at c1
  have e1 : (fm == 1) = false := by simpa using hf
  have HM := Lib.hid h
  have SC := Lib.hid hsec
  have HK := Lib.hid hkey
  have D0 := Lib.hid (Ch.refl w ([] : List Nat))
  clear h h0 h1 hkey hsec hf
  clear hop
  go_enter Try.func85, Try.ntmps85
  go_wp2_with (go_at_call 66; refine (aligned_no g a 4 _ (SC.out _ HM.out) (.inr rfl) ha0 ha1 ha).mono ?_; rintro e wa ⟨rfl, hca⟩; have Ma := Lib.hid (HM.out.ch hca); have Ca := Lib.hid (D0.out.trans hca); clear hca)
  exact ⟨rfl, rfl, Ma.out, Ca.out⟩
set_option maxRecDepth 1000000 in
set_option maxHeartbeats 8000000 in
theorem operand_fulllo_no (g : Nat) (F : Foot) (is os rs : List Int) (ps : List Value) (ov : Bool) (bs ks : List Int) (op fm key a : Int) (w : World) (h : MS w g F is os rs ps ov bs ks) (h0 : is.getD 0 0 = op) (h1 : is.getD 1 0 = fm) (hf : fm ≠ 1) (hkey : ps.getD 1 undef = .int .i64 key) (hsec : ∀ W, MS W g F is os rs ps ov bs ks → Calls Try.prog 44 #[.pointer (some ⟨g, 0, none⟩)] W fun e w' => e = .returned (.int .i64 a) ∧ Ch W w' []) (ha0 : 0 ≤ a) (ha1 : a ≤ 16777215) (ha : a % 4 = 0) (hop : op < 72) (c : Int) (hc : sCode (alF key) bs.length ks a 4 = c) (hc0 : c ≠ 0) : Calls Try.prog 85 #[.pointer (some ⟨g, 0, none⟩)] w fun e w' => e = .panicked [{ v := .iface 65 (.int .i64 c), recovered := false }] ∧ MS w' g F is os rs ps ov bs ks ∧ Ch w w' [] := by
  have e2 : ¬ op ≥ 72 := by omega
  have c0 := h.m.ci (c := 0) (by omega)
  rw [h0] at c0
  have c1 := h.m.ci (c := 1) (by omega)
  rw [h1] at c1
  have e1 : (fm == 1) = false := by simpa using hf
  have HM := Lib.hid h
  have SC := Lib.hid hsec
  have HK := Lib.hid hkey
  have D0 := Lib.hid (Ch.refl w ([] : List Nat))
  clear h h0 h1 hkey hsec hf
  have HC := Lib.hid hc
  have HC0 := Lib.hid hc0
  clear hop hc hc0
  go_enter Try.func85, Try.ntmps85
  go_wp2_with (first
    | (go_at_call 66; refine (aligned_m g a 4 _ (SC.out _ HM.out) (.inr rfl) ha0 ha1 ha).mono ?_; rintro e wa ⟨rfl, hca⟩; have Ma := Lib.hid (HM.out.ch hca); have Ca := Lib.hid (D0.out.trans hca); clear hca)
    | (go_at_call 68; refine (fetch_no g F is os rs ps ov bs ks a 4 key _ Ma.out HK.out c HC.out HC0.out).mono ?_; rintro e W1 ⟨rfl, hM, hCh⟩; have M1 := Lib.hid hM; have C1 := Lib.hid (Ca.out.trans hCh); clear hM hCh))
  exact ⟨rfl, rfl, M1.out, C1.out⟩
set_option maxRecDepth 1000000 in
set_option maxHeartbeats 8000000 in
theorem operand_fullhi (g : Nat) (F : Foot) (is os rs : List Int) (ps : List Value) (ov : Bool) (bs ks : List Int) (op fm key a : Int) (w : World) (h : MS w g F is os rs ps ov bs ks) (h0 : is.getD 0 0 = op) (h1 : is.getD 1 0 = fm) (hf : fm ≠ 1) (hkey : ps.getD 1 undef = .int .i64 key) (hsec : ∀ W, MS W g F is os rs ps ov bs ks → Calls Try.prog 44 #[.pointer (some ⟨g, 0, none⟩)] W fun e w' => e = .returned (.int .i64 a) ∧ Ch W w' []) (ha0 : 0 ≤ a) (ha1 : a ≤ 16777215) (ha : a % 4 = 0) (hop : 76 < op) (hc : sCode (alF key) bs.length ks a 4 = 0) : Calls Try.prog 85 #[.pointer (some ⟨g, 0, none⟩)] w fun e w' => e = .returned (.int .u32 (g4V bs a)) ∧ MS w' g F is os rs ps ov bs ks ∧ Ch w w' [] := by
  have e2 : op ≥ 72 := by omega
  have e3 : ¬ op ≤ 76 := by omega
  have c0 := h.m.ci (c := 0) (by omega)
  rw [h0] at c0
  have c1 := h.m.ci (c := 1) (by omega)
  rw [h1] at c1
  have e1 : (fm == 1) = false := by simpa using hf
  have HM := Lib.hid h
  have SC := Lib.hid hsec
  have HK := Lib.hid hkey
  have D0 := Lib.hid (Ch.refl w ([] : List Nat))
  clear h h0 h1 hkey hsec hf
  have hl := sGet_leng hc
  unfold g4V
  obtain ⟨zs, hzs⟩ : ∃ zs, sGet bs a 4 = zs := ⟨_, rfl⟩
  rw [hzs] at hl ⊢
  have HZ := Lib.hid hzs
  have HC := Lib.hid hc
  clear hc hzs hop
  go_enter Try.func85, Try.ntmps85
  go_wp2_with (first
    | (go_at_call 66; refine (aligned_m g a 4 _ (SC.out _ HM.out) (.inr rfl) ha0 ha1 ha).mono ?_; rintro e wa ⟨rfl, hca⟩; have Ma := Lib.hid (HM.out.ch hca); have Ca := Lib.hid (D0.out.trans hca); clear hca)
    | (go_at_call 68; refine (fetch_m g F is os rs ps ov bs ks a 4 key _ Ma.out HK.out HC.out).mono ?_; rintro e W1 ⟨A, mm, cb, rfl, hO, hM, hCh⟩; rw [HZ.out] at hO; have M1 := Lib.hid hM; have C1 := Lib.hid (Ca.out.trans hCh); have hml : mm = 4 := by have := hO.byt.1; omega
       subst hml; obtain ⟨gb, cb', hv, hgb, hgl, -, -⟩ := hO.pos (by omega); injection hv with hv1 hv2 hv3; subst hv1 hv3; have Y1 := Lib.hid hO.byt; clear hO hM hCh hgb hgl; obtain ⟨gb', ob', e', hcell⟩ := Y1.out.at_ (by omega); cases e'
       have y0 := hcell 0 (by omega); have r0 := Y1.out.range 0
       have y1 := hcell 1 (by omega); have r1 := Y1.out.range 1
       have y2 := hcell 2 (by omega); have r2 := Y1.out.range 2
       have y3 := hcell 3 (by omega); have r3 := Y1.out.range 3
       obtain ⟨x0, hx0⟩ : ∃ x, zs.getD 0 0 = x := ⟨_, rfl⟩; rw [hx0] at y0 r0
       obtain ⟨x1, hx1⟩ : ∃ x, zs.getD 1 0 = x := ⟨_, rfl⟩; rw [hx1] at y1 r1
       obtain ⟨x2, hx2⟩ : ∃ x, zs.getD 2 0 = x := ⟨_, rfl⟩; rw [hx2] at y2 r2
       obtain ⟨x3, hx3⟩ : ∃ x, zs.getD 3 0 = x := ⟨_, rfl⟩; rw [hx3] at y3 r3
       have HV := Lib.hid (show flv (zs.getD 0 0) (zs.getD 1 0) (zs.getD 2 0) (zs.getD 3 0) = flv x0 x1 x2 x3 from by rw [hx0, hx1, hx2, hx3]); clear hcell Y1 hx0 hx1 hx2 hx3)
    | (go_at_call 70; refine (full_yes gb 0 4 cb 0 x0 x1 x2 x3 _ (by omega) (by omega) (y0) (y1) (y2) (y3) r0.1 r0.2 r1.1 r1.2 r2.1 r2.2 r3.1 r3.2).mono ?_; rintro e w5 ⟨rfl, d5, hw5⟩; have M5 := Lib.hid (show MS w5 g F is os rs ps ov bs ks from by rw [hw5]; exact M1.out.drewN d5); have C5 := Lib.hid (show Ch w w5 [] from by rw [hw5]; exact C1.out.drewN d5); clear hw5))
  go_ret
  rw [HV.out]
  exact ⟨rfl, M5.out, C5.out⟩
set_option maxRecDepth 1000000 in
set_option maxHeartbeats 8000000 in
theorem operand_fullhi_odd (g : Nat) (F : Foot) (is os rs : List Int) (ps : List Value) (ov : Bool) (bs ks : List Int) (op fm key a : Int) (w : World) (h : MS w g F is os rs ps ov bs ks) (h0 : is.getD 0 0 = op) (h1 : is.getD 1 0 = fm) (hf : fm ≠ 1) (hkey : ps.getD 1 undef = .int .i64 key) (hsec : ∀ W, MS W g F is os rs ps ov bs ks → Calls Try.prog 44 #[.pointer (some ⟨g, 0, none⟩)] W fun e w' => e = .returned (.int .i64 a) ∧ Ch W w' []) (ha0 : 0 ≤ a) (ha1 : a ≤ 16777215) (ha : a % 4 ≠ 0) (hop : 76 < op) : Calls Try.prog 85 #[.pointer (some ⟨g, 0, none⟩)] w fun e w' => e = .panicked [{ v := .iface 65 (.int .i64 6), recovered := false }] ∧ MS w' g F is os rs ps ov bs ks ∧ Ch w w' [] := by
  have e2 : op ≥ 72 := by omega
  have e3 : ¬ op ≤ 76 := by omega
  have c0 := h.m.ci (c := 0) (by omega)
  rw [h0] at c0
  have c1 := h.m.ci (c := 1) (by omega)
  rw [h1] at c1
  have e1 : (fm == 1) = false := by simpa using hf
  have HM := Lib.hid h
  have SC := Lib.hid hsec
  have HK := Lib.hid hkey
  have D0 := Lib.hid (Ch.refl w ([] : List Nat))
  clear h h0 h1 hkey hsec hf
  clear hop
  go_enter Try.func85, Try.ntmps85
  go_wp2_with (go_at_call 66; refine (aligned_no g a 4 _ (SC.out _ HM.out) (.inr rfl) ha0 ha1 ha).mono ?_; rintro e wa ⟨rfl, hca⟩; have Ma := Lib.hid (HM.out.ch hca); have Ca := Lib.hid (D0.out.trans hca); clear hca)
  exact ⟨rfl, rfl, Ma.out, Ca.out⟩
set_option maxRecDepth 1000000 in
set_option maxHeartbeats 8000000 in
theorem operand_fullhi_no (g : Nat) (F : Foot) (is os rs : List Int) (ps : List Value) (ov : Bool) (bs ks : List Int) (op fm key a : Int) (w : World) (h : MS w g F is os rs ps ov bs ks) (h0 : is.getD 0 0 = op) (h1 : is.getD 1 0 = fm) (hf : fm ≠ 1) (hkey : ps.getD 1 undef = .int .i64 key) (hsec : ∀ W, MS W g F is os rs ps ov bs ks → Calls Try.prog 44 #[.pointer (some ⟨g, 0, none⟩)] W fun e w' => e = .returned (.int .i64 a) ∧ Ch W w' []) (ha0 : 0 ≤ a) (ha1 : a ≤ 16777215) (ha : a % 4 = 0) (hop : 76 < op) (c : Int) (hc : sCode (alF key) bs.length ks a 4 = c) (hc0 : c ≠ 0) : Calls Try.prog 85 #[.pointer (some ⟨g, 0, none⟩)] w fun e w' => e = .panicked [{ v := .iface 65 (.int .i64 c), recovered := false }] ∧ MS w' g F is os rs ps ov bs ks ∧ Ch w w' [] := by
  have e2 : op ≥ 72 := by omega
  have e3 : ¬ op ≤ 76 := by omega
  have c0 := h.m.ci (c := 0) (by omega)
  rw [h0] at c0
  have c1 := h.m.ci (c := 1) (by omega)
  rw [h1] at c1
  have e1 : (fm == 1) = false := by simpa using hf
  have HM := Lib.hid h
  have SC := Lib.hid hsec
  have HK := Lib.hid hkey
  have D0 := Lib.hid (Ch.refl w ([] : List Nat))
  clear h h0 h1 hkey hsec hf
  have HC := Lib.hid hc
  have HC0 := Lib.hid hc0
  clear hop hc hc0
  go_enter Try.func85, Try.ntmps85
  go_wp2_with (first
    | (go_at_call 66; refine (aligned_m g a 4 _ (SC.out _ HM.out) (.inr rfl) ha0 ha1 ha).mono ?_; rintro e wa ⟨rfl, hca⟩; have Ma := Lib.hid (HM.out.ch hca); have Ca := Lib.hid (D0.out.trans hca); clear hca)
    | (go_at_call 68; refine (fetch_no g F is os rs ps ov bs ks a 4 key _ Ma.out HK.out c HC.out HC0.out).mono ?_; rintro e W1 ⟨rfl, hM, hCh⟩; have M1 := Lib.hid hM; have C1 := Lib.hid (Ca.out.trans hCh); clear hM hCh))
  exact ⟨rfl, rfl, M1.out, C1.out⟩
theorem operand_ok (g k : Nat) (F : Foot) (is os rs : List Int) (ps : List Value) (ov : Bool) (bs ks : List Int) (op fm key a : Int) (w : World) (h : MS w g F is os rs ps ov bs ks) (h0 : is.getD 0 0 = op) (h1 : is.getD 1 0 = fm) (hk : is.getD 3 0 = (k : Int)) (hk16 : k < 16) (hkey : ps.getD 1 undef = .int .i64 key) (hsec : ∀ W, MS W g F is os rs ps ov bs ks → Calls Try.prog 44 #[.pointer (some ⟨g, 0, none⟩)] W fun e w' => e = .returned (.int .i64 a) ∧ Ch W w' []) (ha0 : 0 ≤ a) (ha1 : a ≤ 16777215) (hc : opC op fm bs ks key a = 0) : Calls Try.prog 85 #[.pointer (some ⟨g, 0, none⟩)] w fun e w' => e = .returned (.int .u32 (opV op fm os k bs a)) ∧ MS w' g F is os rs ps ov bs ks ∧ Ch w w' [] := by
  unfold opC at hc
  unfold opV
  by_cases hf : fm = 1
  · subst hf
    rw [if_pos rfl]
    refine (operand_rr g k is os rs ps _ ov w h.m h1 hk hk16).mono ?_
    rintro e w' ⟨rfl, d, rfl⟩
    exact ⟨rfl, h.drewN d, (Ch.refl w []).drewN d⟩
  · rw [if_neg hf] at hc ⊢
    by_cases h7 : 72 ≤ op ∧ op ≤ 76
    · rw [if_pos h7] at hc ⊢
      split at hc
      next ha => exact operand_half g F is os rs ps ov bs ks op fm key a w h h0 h1 hf hkey hsec ha0 ha1 ha h7 hc
      next => exact absurd hc (by decide)
    · rw [if_neg h7] at hc ⊢
      split at hc
      next ha =>
        by_cases h72 : op < 72
        · exact operand_fulllo g F is os rs ps ov bs ks op fm key a w h h0 h1 hf hkey hsec ha0 ha1 ha h72 hc
        · exact operand_fullhi g F is os rs ps ov bs ks op fm key a w h h0 h1 hf hkey hsec ha0 ha1 ha (by omega) hc
      next => exact absurd hc (by decide)
theorem operand_no (g k : Nat) (F : Foot) (is os rs : List Int) (ps : List Value) (ov : Bool) (bs ks : List Int) (op fm key a : Int) (w : World) (h : MS w g F is os rs ps ov bs ks) (h0 : is.getD 0 0 = op) (h1 : is.getD 1 0 = fm) (hkey : ps.getD 1 undef = .int .i64 key) (hsec : ∀ W, MS W g F is os rs ps ov bs ks → Calls Try.prog 44 #[.pointer (some ⟨g, 0, none⟩)] W fun e w' => e = .returned (.int .i64 a) ∧ Ch W w' []) (ha0 : 0 ≤ a) (ha1 : a ≤ 16777215) (c : Int) (hc : opC op fm bs ks key a = c) (hc0 : c ≠ 0) : Calls Try.prog 85 #[.pointer (some ⟨g, 0, none⟩)] w fun e w' => e = .panicked [{ v := .iface 65 (.int .i64 c), recovered := false }] ∧ MS w' g F is os rs ps ov bs ks ∧ Ch w w' [] := by
  unfold opC at hc
  by_cases hf : fm = 1
  · rw [if_pos hf] at hc; exact absurd hc.symm hc0
  · rw [if_neg hf] at hc
    by_cases h7 : 72 ≤ op ∧ op ≤ 76
    · rw [if_pos h7] at hc
      split at hc
      next ha => exact operand_half_no g F is os rs ps ov bs ks op fm key a w h h0 h1 hf hkey hsec ha0 ha1 ha h7 c hc hc0
      next ha => subst hc; exact operand_half_odd g F is os rs ps ov bs ks op fm key a w h h0 h1 hf hkey hsec ha0 ha1 ha h7
    · rw [if_neg h7] at hc
      have hlh : op < 72 ∨ 76 < op := by omega
      split at hc
      next ha =>
        rcases hlh with h72 | h72
        · exact operand_fulllo_no g F is os rs ps ov bs ks op fm key a w h h0 h1 hf hkey hsec ha0 ha1 ha h72 c hc hc0
        · exact operand_fullhi_no g F is os rs ps ov bs ks op fm key a w h h0 h1 hf hkey hsec ha0 ha1 ha h72 c hc hc0
      next ha =>
        subst hc
        rcases hlh with h72 | h72
        · exact operand_fulllo_odd g F is os rs ps ov bs ks op fm key a w h h0 h1 hf hkey hsec ha0 ha1 ha h72
        · exact operand_fullhi_odd g F is os rs ps ov bs ks op fm key a w h h0 h1 hf hkey hsec ha0 ha1 ha h72
end Go.Proofs.Ythjdjbipfdigeaa

