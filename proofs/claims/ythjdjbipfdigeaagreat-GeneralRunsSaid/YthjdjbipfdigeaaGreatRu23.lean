/- Contracts and laws on the way to the statement, text 23 of 24. Conditions: as each states them. -/
import Derived.Test.YthjdjbipfdigeaaGreatRu1
import Derived.Test.YthjdjbipfdigeaaGreatRu4
import Derived.Test.YthjdjbipfdigeaaGreatRu5
import Derived.Test.YthjdjbipfdigeaaGreatRu6
import Derived.Test.YthjdjbipfdigeaaGreatRu8
import Derived.Test.YthjdjbipfdigeaaGreatRu10
import Derived.Test.YthjdjbipfdigeaaGreatRu15
import Derived.Test.YthjdjbipfdigeaaGreatRu18
import Derived.Test.YthjdjbipfdigeaaGreatRu22
namespace Go.Proofs.YthjdjbipfdigeaaGreat
open Go.RowKit
set_option maxRecDepth 100000
set_option linter.unusedVariables false
set_option linter.unusedSimpArgs false
/-- a slice of parts: an address and a slice of bytes each -/
def Parts (w : World) (A : Option Addr) (len : Nat) : Prop := (len : Int) ≤ 9223372036854775807 ∧ ∀ i, i < len → ∃ (b off : Nat) (at_ : Int) (B : Option Addr) (l c : Nat) (zs : List Int), A = some ⟨b, off, none⟩ ∧ w.cell? ⟨b, off + i * 2, none⟩ = some (.int .u16 at_) ∧ 0 ≤ at_ ∧ at_ ≤ 65535 ∧ w.cell? ⟨b, off + (i * 2 + 1), none⟩ = some (.slice B l c) ∧ Byt w B l zs ∧ (l : Int) ≤ 9223372036854775807
/-- the two storages while they are made -/
structure Bd (w W : World) (gm : Nat) (ms : List Value) (F G : Foot) (bs ks cs ls : List Int) : Prop where
  m : Bk W gm 32 ms
  s : St 77 W F bs ks
  t : St 70 W G cs ls
  b : Below w.heap.size w W
  gm0 : w.heap.size ≤ gm
  f : ∃ B, gm < F.g ∧ gm < F.gb ∧ gm < F.gk ∧ F.g < B ∧ F.gb < B ∧ F.gk < B ∧ B ≤ G.g ∧ B ≤ G.gb ∧ B ≤ G.gk
section
variable {w W W' : World} {gm : Nat} {ms : List Value} {F G : Foot} {bs ks cs ls : List Int}
theorem Bd.keep (h : Bd w W gm ms F G bs ks cs ls) (hb : Below W.heap.size W W') : Bd w W' gm ms F G bs ks cs ls := ⟨h.m.keep hb, h.s.belowS hb, h.t.belowS hb, h.b.trans (hb.mono h.b.size), h.gm0, h.f⟩
theorem Bd.fset (h : Bd w W gm ms F G bs ks cs ls) {bs2 ks2 : List Int} {r : Nat} (hs : St 77 W' F bs2 ks2) (hg : W.grownBy W' (some r)) (hr : r = F.gb ∨ r = F.gk) : Bd w W' gm ms F G bs2 ks2 cs ls := by
  obtain ⟨B, h1, h2, h3, h4, h5, h6, h7, h8, h9⟩ := h.f
  have hn : ∀ x, (x = gm ∨ x = G.g ∨ x = G.gb ∨ x = G.gk) → some x ≠ some r := by
    intro x hx e
    injection e with e
    omega
  have h0 := h.gm0
  refine ⟨h.m.kept (hg.block _ h.m.lt (hn _ (by simp))), hs, h.t.grown hg (hn _ (by simp)) (hn _ (by simp)) (hn _ (by simp)), ?_, h0, h.f⟩
  exact ⟨hg.os.trans h.b.os, hg.tape.trans h.b.tape, hg.output.trans h.b.output, Nat.le_trans h.b.size hg.size, fun i hi => (hg.block i (Nat.lt_of_lt_of_le hi h.b.size) (by intro e; injection e with e; omega)).trans (h.b.block i hi)⟩
theorem Bd.gset (h : Bd w W gm ms F G bs ks cs ls) {cs2 ls2 : List Int} {r : Nat} (hs : St 70 W' G cs2 ls2) (hg : W.grownBy W' (some r)) (hr : r = G.gb ∨ r = G.gk) : Bd w W' gm ms F G bs ks cs2 ls2 := by
  obtain ⟨B, h1, h2, h3, h4, h5, h6, h7, h8, h9⟩ := h.f
  have hn : ∀ x, (x = gm ∨ x = F.g ∨ x = F.gb ∨ x = F.gk) → some x ≠ some r := by
    intro x hx e
    injection e with e
    omega
  have h0 := h.gm0
  refine ⟨h.m.kept (hg.block _ h.m.lt (hn _ (by simp))), h.s.grown hg (hn _ (by simp)) (hn _ (by simp)) (hn _ (by simp)), hs, ?_, h0, h.f⟩
  exact ⟨hg.os.trans h.b.os, hg.tape.trans h.b.tape, hg.output.trans h.b.output, Nat.le_trans h.b.size hg.size, fun i hi => (hg.block i (Nat.lt_of_lt_of_le hi h.b.size) (by intro e; injection e with e; omega)).trans (h.b.block i hi)⟩
end
theorem Parts.at_ {w W : World} {A : Option Addr} {len : Nat} (h : Parts w A len) (hb : Below w.heap.size w W) {i : Nat} (hi : i < len) : ∃ (b off : Nat) (at_ : Int) (B : Option Addr) (l c : Nat) (zs : List Int), A = some ⟨b, off, none⟩ ∧ W.cell? ⟨b, off + i * 2, none⟩ = some (.int .u16 at_) ∧ 0 ≤ at_ ∧ at_ ≤ 65535 ∧ W.cell? ⟨b, off + i * 2 + 1, none⟩ = some (.slice B l c) ∧ Byt w B l zs ∧ (l : Int) ≤ 9223372036854775807 := by
  obtain ⟨b, off, at_, B, l, c, zs, h1, h2, h3, h4, h5, h6, h7⟩ := h.2 i hi
  have hlt : b < w.heap.size := by
    rcases Nat.lt_or_ge b w.heap.size with h8 | h8
    · exact h8
    · unfold World.cell? at h2; simp only [Array.getElem?_eq_none h8] at h2; cases h2
  have e1 := hb.cell (p := ⟨b, off + i * 2, none⟩) hlt
  have e2 := hb.cell (p := ⟨b, off + (i * 2 + 1), none⟩) hlt
  rw [← Nat.add_assoc] at e2 h5
  exact ⟨b, off, at_, B, l, c, zs, h1, e1.trans h2, h3, h4, e2.trans h5, h6, h7⟩
theorem byt_blk {w : World} {A : Option Addr} {len : Nat} {zs : List Int} (h : Byt w A len zs) (h0 : 0 < len) : ∀ x, A = some x → x.block < w.heap.size := by
  obtain ⟨b, off, e, hcell⟩ := h.2.2 h0
  intro x hx
  rw [e] at hx
  injection hx with hx
  subst hx
  have h1 := hcell 0 h0
  rcases Nat.lt_or_ge b w.heap.size with h2 | h2
  · exact h2
  · unfold World.cell? at h1; simp only [Array.getElem?_eq_none h2] at h1; cases h1
/-- what build answers -/
def Built (w : World) (e : Ending) (w' : World) : Prop := ∃ (F G : Foot) (bs ks : List Int), e = .returned (.tuple #[.pointer (some ⟨F.g, 0, none⟩), .pointer (some ⟨G.g, 0, none⟩)]) ∧ St 77 w' F bs ks ∧ St 70 w' G bs ks ∧ Below w.heap.size w w' ∧ (w.heap.size ≤ F.g ∧ w.heap.size ≤ F.gb ∧ w.heap.size ≤ F.gk) ∧ ∃ B, F.g < B ∧ F.gb < B ∧ F.gk < B ∧ B ≤ G.g ∧ B ≤ G.gb ∧ B ≤ G.gk
theorem Bd.built {w W : World} {gm : Nat} {ms : List Value} {F G : Foot} {bs ks : List Int} (h : Bd w W gm ms F G bs ks bs ks) : Built w (.returned (.tuple #[.pointer (some ⟨F.g, 0, none⟩), .pointer (some ⟨G.g, 0, none⟩)])) W := by
  obtain ⟨B, h1, h2, h3, h4, h5, h6, h7, h8, h9⟩ := h.f
  have h0 := h.gm0
  exact ⟨F, G, bs, ks, rfl, h.s, h.t, h.b, ⟨by omega, by omega, by omega⟩, B, h4, h5, h6, h7, h8, h9⟩
set_option maxRecDepth 1000000 in
set_option maxHeartbeats 8000000 in
theorem build_c (bl : Int) (KA : Option Addr) (kl kc : Nat) (kz : List Int) (PA : Option Addr) (pl pc : Nat) (w : World) (h0 : 0 ≤ bl) (h1 : bl ≤ 255) (hk : Byt w KA kl kz) (hkl : (kl : Int) ≤ 9223372036854775807) (hp : Parts w PA pl) : Calls Tryz.prog 5 #[.agg #[.int .u8 bl, .slice KA kl kc, .slice PA pl pc]] w (Built w) := by
  have HK := Lib.hid hk
  have HP := Lib.hid hp
  have hpl := hp.1
  clear hk hp
  obtain ⟨m, hm⟩ : ∃ m : Nat, bl % 4 + 1 = (m : Int) := ⟨(bl % 4 + 1).toNat, by omega⟩
  have hm1 : 1 ≤ m := by omega
  have hm4 : m ≤ 4 := by omega
  have NC := Lib.hid (fun W => new_yes m hm1 (by omega) W)
  have RC := Lib.hid (fun W => rnew_yes m hm1 (by omega) W)
  obtain ⟨sz, hsz⟩ : ∃ s : Int, ((2048 * m : Nat) : Int) = s := ⟨_, rfl⟩
  rw [hsz] at NC RC
  have e1 : 2048 * (bl % 4 + 1) = sz := by rw [hm]; omega
  have hsz0 : 2048 ≤ sz := by omega
  have hsz1 : sz ≤ 8192 := by omega
  have E1 := Lib.hid e1
  clear e1 hm hsz
  go_enter Tryz.func5, Tryz.ntmps5
  go_upto_region 2 with fail
  rw [E1.out]
  obtain ⟨gm, hgm⟩ : ∃ q, w.heap.size = q := ⟨_, rfl⟩
  obtain ⟨W1, hW⟩ : ∃ V, w.alloc (.cells #[.int .u8 bl, .slice KA kl kc, .slice PA pl pc] 32) = V := ⟨_, rfl⟩
  have hM : Bk W1 gm 32 [.int .u8 bl, .slice KA kl kc, .slice PA pl pc] := by rw [← hW, ← hgm]; exact Bk.new w _ _
  have hB1 : Below w.heap.size w W1 := by rw [← hW]; exact (Below.refl _ _).alloc (Nat.le_refl _) _
  rw [hW]
  try rw [hgm]
  have hgl := hM.lt
  have M := Lib.hid hM
  have B1 := Lib.hid hB1
  have hgm' : w.heap.size ≤ gm := by omega
  clear hW hM hB1 hgm
  go_wp2_with fail
  refine (NC.out _).mono ?_
  rintro e W2 ⟨v, rfl, F, rfl, hS, hb, hF1, hF2, hF3⟩
  replace M := Lib.hid (M.out.keep hb)
  replace B1 := Lib.hid (B1.out.trans (hb.mono B1.out.size))
  have S := Lib.hid hS
  clear hS hb
  go_wp2_with fail
  refine (RC.out _).mono ?_
  rintro e W3 ⟨v, rfl, G, rfl, hT, hb, hG1, hG2, hG3⟩
  have D := Lib.hid (show Bd w W3 gm [.int .u8 bl, .slice KA kl kc, .slice PA pl pc] F G (z0 (2048 * m)) (z0 m) (z0 (2048 * m)) (z0 m) from ⟨M.out.keep hb, S.out.belowS hb, hT, B1.out.trans (hb.mono B1.out.size), hgm', W2.heap.size, by omega, by omega, by omega, S.out.ltg, S.out.ltb, S.out.ltk, hG1, hG2, hG3⟩)
  clear hT hb M B1 S NC RC hgl hF1 hF2 hF3 hG1 hG2 hG3
  go_upto_region 7 with fail
  go_loopw [8, 9, 10] (fun i x y wr => ∃ (k : Nat) (bs ks : List Int), k ≤ pl ∧ i = .int .i64 (k : Int) ∧ Bd w wr gm [.int .u8 bl, .slice KA kl kc, .slice PA pl pc] F G bs ks bs ks) (fun i _ _ _ => pl - (intOf i).toNat)
  case atStart => exact ⟨0, _, _, by omega, rfl, D.out⟩
  case round =>
    obtain ⟨k, bs, ks, hk, rfl, hD⟩ := hrel
    have DD := Lib.hid hD
    clear hD D
    have cm := DD.out.m.cell (c := 2) rfl
    by_cases hlt : k < pl
    · by_cases h20 : k < 20
      · have i0 : (k : Int) < (pl : Int) := by omega
        have i1 : (0 : Int) ≤ (k : Int) := by omega
        have i2 : (k : Int) < 20 := by omega
        obtain ⟨b, off, at_, B, l, c, zs, rfl, hc1, ha0, ha1, hc2, hy, hl⟩ := HP.out.at_ DD.out.b hlt
        have Y := Lib.hid hy
        clear hy
        have r0 : 0 ≤ at_ % sz := Int.emod_nonneg _ (by omega)
        have r1 : at_ % sz < sz := Int.emod_lt_of_pos _ (by omega)
        have r2 : at_ % sz ≤ 8192 := by omega
        by_cases hfit : l ≤ 300 ∧ at_ % sz + (l : Int) ≤ sz
        · obtain ⟨hf1, hf2⟩ := hfit
          have hf1' : (l : Int) ≤ 300 := by omega
          go_upto_region 12 with fail
          clear cm hc1 hc2
          go_wp2_with fail
          refine (put_c _ DD.out.s (at_ % sz) 0 B l c zs (Y.out.keep DD.out.b) hl).mono ?_
          rintro e V ⟨rfl, hs, hg⟩
          have D2 := Lib.hid (DD.out.fset hs hg (.inl rfl))
          clear hs hg
          go_wp2_with fail
          have hgb : w.heap.size ≤ G.gb := by obtain ⟨B', q1, q2, q3, q4, q5, q6, q7, q8, q9⟩ := D2.out.f; omega
          refine (rput_c _ D2.out.t (at_ % sz) 0 B l c zs (Y.out.keep D2.out.b) hl (fun h0' x hx => by have := byt_blk Y.out h0' x hx; omega)).mono ?_
          rintro e V2 ⟨rfl, hs, hg⟩
          have D3 := Lib.hid (D2.out.gset hs hg (.inl rfl))
          clear hs hg
          go_wp2
          exact ⟨⟨k + 1, _, _, by omega, rfl, D3.out⟩, by simp [intOf]; omega⟩
        · have nx : l ≤ 300 → ¬ (at_ % sz + (l : Int) ≤ sz) := fun h1 h2 => hfit ⟨h1, h2⟩
          by_cases hf1 : l ≤ 300
          · have hf2 := nx hf1
            have hf1' : (l : Int) ≤ 300 := by omega
            clear nx hfit
            go_wp2
            exact ⟨⟨k + 1, _, _, by omega, rfl, DD.out⟩, by simp [intOf]; omega⟩
          · have hf1' : ¬ (l : Int) ≤ 300 := by omega
            clear nx hfit
            go_wp2
            exact ⟨⟨k + 1, _, _, by omega, rfl, DD.out⟩, by simp [intOf]; omega⟩
      · have i0 : (k : Int) < (pl : Int) := by omega
        have i2 : ¬ (k : Int) < 20 := by omega
        clear cm
        have cm := DD.out.m.cell (c := 2) rfl
        go_upto_region 15 with fail
        clear cm
        have D := DD
        clear DD hk
        go_loopw [11] (fun i wr => ∃ (k : Nat) (bs ks : List Int), k ≤ kl ∧ i = .int .i64 (k : Int) ∧ Bd w wr gm [.int .u8 bl, .slice KA kl kc, .slice PA pl pc] F G bs ks bs ks) (fun i _ => kl - (intOf i).toNat)
        case atStart => exact ⟨0, _, _, by omega, rfl, D.out⟩
        case round =>
          obtain ⟨k2, bs2, ks2, hk2, rfl, hD⟩ := hrel
          have DD := Lib.hid hD
          clear hD D
          have cm := DD.out.m.cell (c := 1) rfl
          by_cases hlt2 : k2 < kl
          · by_cases h4 : k2 < 4
            · have j0 : (k2 : Int) < (kl : Int) := by omega
              have j1 : (0 : Int) ≤ (k2 : Int) := by omega
              have j2 : (k2 : Int) < 4 := by omega
              obtain ⟨b, off, hKA, hc⟩ := (HK.out.keep DD.out.b).at_ (by omega)
              subst hKA
              have hr := HK.out.range k2
              have hck := hc k2 hlt2
              obtain ⟨kv, hkv⟩ : ∃ v, kz.getD k2 0 = v := ⟨_, rfl⟩
              rw [hkv] at hr hck
              have KV := Lib.hid hkv
              clear hc hkv
              go_wp2_with fail
              refine (setkey_c _ DD.out.s ((k2 : Int) * 2048) (kv % 32)).mono ?_
              rintro e V ⟨rfl, hs, hg⟩
              have D2 := Lib.hid (DD.out.fset hs hg (.inr rfl))
              clear hs hg cm hck
              have cm := D2.out.m.cell (c := 1) rfl
              have hck : V.cell? ⟨b, off + k2, none⟩ = some (.int .u8 kv) := by
                obtain ⟨b', off', e, hc⟩ := (HK.out.keep D2.out.b).at_ (by omega)
                injection e with e; injection e with e1 e2; subst e1 e2
                rw [hc k2 hlt2, KV.out]
              go_wp2_with fail
              refine (rsetkey_c _ D2.out.t ((k2 : Int) * 2048) (kv % 32)).mono ?_
              rintro e V2 ⟨rfl, hs, hg⟩
              have D3 := Lib.hid (D2.out.gset hs hg (.inr rfl))
              clear hs hg cm hck
              go_wp2
              exact ⟨⟨k2 + 1, _, _, by omega, rfl, D3.out⟩, by simp [intOf]; omega⟩
            · have j0 : (k2 : Int) < (kl : Int) := by omega
              have j2 : ¬ (k2 : Int) < 4 := by omega
              go_wp2
              go_ret2
              exact DD.out.built
          · have j0 : ¬ (k2 : Int) < (kl : Int) := by omega
            go_wp2
            go_ret2
            exact DD.out.built
    · have i0 : ¬ (k : Int) < (pl : Int) := by omega
      clear cm
      have cm := DD.out.m.cell (c := 2) rfl
      go_upto_region 15 with fail
      clear cm
      have D := DD
      clear DD hk
      go_loopw [11] (fun i wr => ∃ (k : Nat) (bs ks : List Int), k ≤ kl ∧ i = .int .i64 (k : Int) ∧ Bd w wr gm [.int .u8 bl, .slice KA kl kc, .slice PA pl pc] F G bs ks bs ks) (fun i _ => kl - (intOf i).toNat)
      case atStart => exact ⟨0, _, _, by omega, rfl, D.out⟩
      case round =>
        obtain ⟨k2, bs2, ks2, hk2, rfl, hD⟩ := hrel
        have DD := Lib.hid hD
        clear hD D
        have cm := DD.out.m.cell (c := 1) rfl
        by_cases hlt2 : k2 < kl
        · by_cases h4 : k2 < 4
          · have j0 : (k2 : Int) < (kl : Int) := by omega
            have j1 : (0 : Int) ≤ (k2 : Int) := by omega
            have j2 : (k2 : Int) < 4 := by omega
            obtain ⟨b, off, hKA, hc⟩ := (HK.out.keep DD.out.b).at_ (by omega)
            subst hKA
            have hr := HK.out.range k2
            have hck := hc k2 hlt2
            obtain ⟨kv, hkv⟩ : ∃ v, kz.getD k2 0 = v := ⟨_, rfl⟩
            rw [hkv] at hr hck
            have KV := Lib.hid hkv
            clear hc hkv
            go_wp2_with fail
            refine (setkey_c _ DD.out.s ((k2 : Int) * 2048) (kv % 32)).mono ?_
            rintro e V ⟨rfl, hs, hg⟩
            have D2 := Lib.hid (DD.out.fset hs hg (.inr rfl))
            clear hs hg cm hck
            have cm := D2.out.m.cell (c := 1) rfl
            have hck : V.cell? ⟨b, off + k2, none⟩ = some (.int .u8 kv) := by
              obtain ⟨b', off', e, hc⟩ := (HK.out.keep D2.out.b).at_ (by omega)
              injection e with e; injection e with e1 e2; subst e1 e2
              rw [hc k2 hlt2, KV.out]
            go_wp2_with fail
            refine (rsetkey_c _ D2.out.t ((k2 : Int) * 2048) (kv % 32)).mono ?_
            rintro e V2 ⟨rfl, hs, hg⟩
            have D3 := Lib.hid (D2.out.gset hs hg (.inr rfl))
            clear hs hg cm hck
            go_wp2
            exact ⟨⟨k2 + 1, _, _, by omega, rfl, D3.out⟩, by simp [intOf]; omega⟩
          · have j0 : (k2 : Int) < (kl : Int) := by omega
            have j2 : ¬ (k2 : Int) < 4 := by omega
            go_wp2
            go_ret2
            exact DD.out.built
        · have j0 : ¬ (k2 : Int) < (kl : Int) := by omega
          go_wp2
          go_ret2
          exact DD.out.built
end Go.Proofs.YthjdjbipfdigeaaGreat

namespace Go.Proofs.YthjdjbipfdigeaaGreat
open Go.RowKit
set_option maxRecDepth 100000
set_option linter.unusedVariables false
set_option linter.unusedSimpArgs false
theorem below_row {B : Nat} {a w : World} (h : Below B a w) {k : Nat} (hk : B ≤ k) (cs : Array Value) : Below B a (w.setRow k cs) := ⟨h.os, h.tape, h.output, by have := h.size; simpa [World.setRow] using this, fun i hi => (setRow_other w k i cs (by omega)).trans (h.block i hi)⟩
theorem Parts.keep {w W : World} {A : Option Addr} {len : Nat} (h : Parts w A len) (hb : Below w.heap.size w W) : Parts W A len := by
  refine ⟨h.1, fun i hi => ?_⟩
  obtain ⟨b, off, at_, B, l, c, zs, h1, h2, h3, h4, h5, h6, h7⟩ := h.at_ hb hi
  exact ⟨b, off, at_, B, l, c, zs, h1, h2, h3, h4, by rw [← Nat.add_assoc]; exact h5, h6.keep hb, h7⟩
section
variable {w0 w w' : World} {B : Nat} {F G : Foot} {bs ks cs bs' cs' : List Int}
/-- the two storages, nowhere one, all of them made behind B -/
structure TW (w0 : World) (B : Nat) (w : World) (F G : Foot) (bs ks cs : List Int) : Prop where
  s : St 77 w F bs ks
  t : St 70 w G cs ks
  b : Below w0.heap.size w0 w
  f : w0.heap.size ≤ B ∧ B ≤ F.g ∧ B ≤ F.gb ∧ B ≤ F.gk ∧ B ≤ G.g ∧ B ≤ G.gb ∧ B ≤ G.gk
  d : (F.g ≠ G.g ∧ F.g ≠ G.gb ∧ F.g ≠ G.gk) ∧ (F.gb ≠ G.g ∧ F.gb ≠ G.gb ∧ F.gb ≠ G.gk) ∧ (F.gk ≠ G.g ∧ F.gk ≠ G.gb ∧ F.gk ≠ G.gk)
theorem TW.keep (h : TW w0 B w F G bs ks cs) (hb : Below w.heap.size w w') : TW w0 B w' F G bs ks cs := { h with s := h.s.belowS hb, t := h.t.belowS hb, b := h.b.trans (hb.mono h.b.size) }
theorem TW.fx (h : TW w0 B w F G bs ks cs) (hs : St 77 w' F bs' ks) (hc : Ch w w' [F.gb]) : TW w0 B w' F G bs' ks cs := by
  have hf := h.f
  have hd := h.d
  exact { h with s := hs, t := h.t.keep (hc.kept h.t.ltg (by simp; omega)) (hc.kept h.t.ltb (by simp; omega)) (hc.kept h.t.ltk (by simp; omega)), b := h.b.trans (hc.below h.b.size (by simp; omega)) }
theorem TW.gx {G' : Foot} (h : TW w0 B w F G bs ks cs) (h1 : G'.g = G.g) (h2 : G' = G ∨ (w.heap.size ≤ G'.gb ∧ w.heap.size ≤ G'.gk)) (ht : St 70 w' G' cs' ks) (hc : Ch w w' [G.g]) : TW w0 B w' F G' bs ks cs' := by
  have hf := h.f
  have hd := h.d
  have e1 := h.s.ltg
  have e2 := h.s.ltb
  have e3 := h.s.ltk
  refine ⟨h.s.keep (hc.kept h.s.ltg (by simp; omega)) (hc.kept h.s.ltb (by simp; omega)) (hc.kept h.s.ltk (by simp; omega)), ht, h.b.trans (hc.below h.b.size (by simp; omega)), ?_, ?_⟩
  · rcases h2 with rfl | h2
    · exact hf
    · omega
  · rcases h2 with rfl | h2
    · exact hd
    · omega
end
theorem xC_len16 {os : List Int} (hl : os.length = 16) (op fm r1 r2 x2 b1 d1 b2 d2 l1 l2 i2 : Int) (p : Ps) (bs ks : List Int) : (xC op fm r1 r2 x2 b1 d1 b2 d2 l1 l2 i2 os p.m p.key p.cd p.il p.cc p.pg p.ad bs ks).rs.length = 16 := by
  unfold xC
  split
  · split
    · exact (exO_len _ _ _ _ _ _ _ _ _).trans hl
    · exact hl
  · exact hl
theorem pexec_y {os : List Int} (op fm r1 r2 x2 b1 d1 b2 d2 l1 l2 i2 : Int) (p : Ps) (hl : os.length = 16) (ro : ∀ z ∈ os, 0 ≤ z ∧ z ≤ 4294967295) {w : World} {F : Foot} {bs ks : List Int} (h : St 77 w F bs ks) {O : Out} (hO : (xC op fm r1 r2 x2 b1 d1 b2 d2 l1 l2 i2 os p.m p.key p.cd p.il p.cc p.pg p.ad bs ks) = O) : Calls Tryz.prog 7 #[.agg #[.int .i64 op, .int .i64 fm, .int .i64 r1, .int .i64 r2, .int .i64 x2, .int .i64 b1, .int .i64 d1, .int .i64 b2, .int .i64 d2, .int .i64 l1, .int .i64 l2, .int .i64 i2], .agg (os.map (Value.int .u32)).toArray, .agg p.v.toArray, .pointer (some ⟨F.g, 0, none⟩)] w fun e w' => e = .returned (.tuple #[.agg (O.rs.map (Value.int .u32)).toArray, .agg (p.to O.cc O.pg O.ad).v.toArray, .int .i64 O.c]) ∧ St 77 w' F O.bs ks ∧ Ch w w' [F.gb] := pexec_x op fm r1 r2 x2 b1 d1 b2 d2 l1 l2 i2 p hl ro h hO
theorem rexec_y {os : List Int} (op fm r1 r2 x2 b1 d1 b2 d2 l1 l2 i2 : Int) (p : Ps) (hl : os.length = 16) (ro : ∀ z ∈ os, 0 ≤ z ∧ z ≤ 4294967295) {w : World} {G : Foot} {bs ks : List Int} (h : St 70 w G bs ks) {O : Out} (hO : (xC op fm r1 r2 x2 b1 d1 b2 d2 l1 l2 i2 os p.m p.key p.cd p.il p.cc p.pg p.ad bs ks) = O) : Calls Tryz.prog 8 #[.agg #[.int .i64 op, .int .i64 fm, .int .i64 r1, .int .i64 r2, .int .i64 x2, .int .i64 b1, .int .i64 d1, .int .i64 b2, .int .i64 d2, .int .i64 l1, .int .i64 l2, .int .i64 i2], .agg (os.map (Value.int .u32)).toArray, .agg p.v.toArray, .pointer (some ⟨G.g, 0, none⟩)] w fun e w' => e = .returned (.tuple #[.agg (O.rs.map (Value.int .u32)).toArray, .agg (p.to O.cc O.pg O.ad).v.toArray, .int .i64 O.c]) ∧ ∃ G' : Foot, G'.g = G.g ∧ (G' = G ∨ (w.heap.size ≤ G'.gb ∧ w.heap.size ≤ G'.gk)) ∧ St 70 w' G' O.bs ks ∧ Ch w w' [G.g] := (rexec_c op fm r1 r2 x2 b1 d1 b2 d2 l1 l2 i2 p hl ro h hO).mono fun e w' ⟨G', h1, h2, he, h4, h5⟩ => ⟨he, G', h1, h2, h4, h5⟩
end Go.Proofs.YthjdjbipfdigeaaGreat

namespace Go.Proofs.YthjdjbipfdigeaaGreat
open Go.RowKit
set_option maxRecDepth 100000
set_option linter.unusedVariables false
set_option linter.unusedSimpArgs false
def R32 (l : List Int) : Prop := ∀ z ∈ l, 0 ≤ z ∧ z ≤ 4294967295
theorem R32.put {l : List Int} (h : R32 l) {n : Nat} {v : Int} (hv : 0 ≤ v ∧ v ≤ 4294967295) : R32 (l.set n v) := fun z hz => by
  rcases List.mem_or_eq_of_mem_set hz with h1 | rfl
  · exact h z h1
  · exact hv
theorem lo32_in (n : Int) : 0 ≤ lo32 n ∧ lo32 n ≤ 4294967295 := ⟨lo32_lo n, lo32_hi n⟩
theorem R32.wr {p : Pre} (h : R32 p.os) (a n : Int) (ys : List Int) (cc : Int) : R32 (p.wr a n ys cc).rs := by rw [wr_len]; exact h
theorem R32.lm {rs : List Int} (h : R32 rs) (n : Nat) {zs : List Int} (hz : ∀ k, 0 ≤ zs.getD k 0 ∧ zs.getD k 0 ≤ 255) : ∀ k, R32 (lmR rs n zs k)
  | 0 => h
  | k + 1 => (R32.lm h n hz k).put (by have h0 := hz (4 * k); have h1 := hz (4 * k + 1); have h2 := hz (4 * k + 2); have h3 := hz (4 * k + 3); unfold flv; omega)
theorem scn_ro {bs ks : List Int} (rb : ∀ z ∈ bs, 0 ≤ z ∧ z ≤ 255) {key a b : Int} {f : Int} {j : Nat} : ∀ {m k : Nat}, scn bs ks key a b m k = (0, some (j, f)) → (0 ≤ a + (j : Int) ∧ a + (j : Int) ≤ (bs.length : Int)) ∧ 0 ≤ f ∧ f ≤ 255
  | 0, k, h => by simp [scn] at h
  | m + 1, k, h => by
    unfold scn at h
    split at h
    · rename_i h1
      split at h
      · split at h
        · exact scn_ro rb h
        · injection h with _ h
          injection h with h
          injection h with h2 h3
          subst h2 h3
          exact ⟨by have := sIn_yes (sCode_zero h1); omega, sGet_in _ _ rb 0⟩
      · injection h with h2 _
        exact absurd h2 (by assumption)
    · injection h with h2 _
      exact absurd h2 (by assumption)
theorem ite_ro {P : Prop} [Decidable P] {a b : Out} (ha : R32 a.rs) (hb : R32 b.rs) : R32 (if P then a else b).rs := by split <;> assumption
theorem sgnV_in (op : Int) {v : Int} (h : 0 ≤ v ∧ v ≤ 4294967295) : 0 ≤ sgnV op v ∧ sgnV op v ≤ 4294967295 := by unfold sgnV; split; (· exact lo32_in _); (· exact h)
theorem drem_in (n d : Int) : 0 ≤ drem n d ∧ drem n d ≤ 4294967295 := by unfold drem; split; (· exact lo32_in _); (· omega)
theorem dquo_in (n d : Int) : 0 ≤ dquo n d ∧ dquo n d ≤ 4294967295 := by unfold dquo; split; (· exact lo32_in _); (· omega)
set_option maxHeartbeats 8000000 in
theorem exO_ro {p : Pre} (ro : R32 p.os) (rb : ∀ z ∈ p.bs, 0 ≤ z ∧ z ≤ 255) (hl : p.bs.length ≤ 65536) (q0 : 0 ≤ p.il ∧ p.il ≤ 3) (q1 : 0 ≤ p.cc ∧ p.cc ≤ 3) (q2 : 0 ≤ p.pg ∧ p.pg ≤ 15) (q3 : 0 ≤ p.ad ∧ p.ad ≤ 16777215) (op fm : Int) (n k : Nat) {a1 a : Int} (l1 : Nat) (i2 : Int) (ha : 0 ≤ a ∧ a ≤ 16777215) (ha1 : 0 ≤ a1 ∧ a1 ≤ 16777215) : R32 (exO p op fm n k a1 a l1 i2).rs := by
  have u := fun j => getD_in ro j
  have lk : R32 (p.os.set n (p.il * 1073741824 + p.cc * 268435456 + p.pg * 16777216 + p.ad)) := ro.put (by omega)
  have v := opV_in (op := op) (fm := fm) (a := a) (k := k) ro rb
  unfold exO
  split
  · unfold brO Pre.br
    (repeat' split) <;> first | exact lk | exact ro | exact ro.put (lo32_in _)
  split
  · unfold shO Pre.rg Pre.st Pre.no
    (repeat' split) <;> first
      | exact ro
      | exact (ro.put (lo32_in _)).put (lo32_in _)
      | exact ro.put ⟨slg_lo _ _ _ (u n).1, slg_hi _ _ _ (u n).1 (u n).2⟩
      | exact ro.put ⟨srv_lo _ _, srv_hi _ _⟩
      | exact ro.put ⟨slv_lo _ _, slv_hi _ _⟩
  split
  · exact ro.put (by omega)
  split
  · unfold mvO
    (repeat' split) <;> first
      | exact ro
      | exact R32.wr ro _ _ _ _
      | exact R32.lm ro _ (fun j => sGet_in _ _ rb j) _
      | exact ro.put (by have h1 := u n; have h2 := sGet_in (bs := p.bs) a 1 rb 0; omega)
  split
  · unfold imO
    (repeat' split) <;> first | exact ro | exact R32.wr ro _ _ _ _
  split
  · unfold loO
    split
    · obtain ⟨r, hr⟩ : ∃ r, scn p.bs p.ks p.key a1 a (l1 + 1) 0 = r := ⟨_, rfl⟩
      rw [hr]
      obtain ⟨c, o⟩ := r
      show R32 (if c = 0 then (⟨0, scnR p.os p.os a1 o, scnQ (l1 + 1) o, p.pg, p.ad, false, p.bs⟩ : Out) else p.no c).rs
      split
      · rename_i h0
        subst h0
        cases o with
        | none => exact ro
        | some y =>
          obtain ⟨j, f⟩ := y
          have h1 := scn_ro rb hr
          have h2 := u 1
          have h3 := u 2
          exact (ro.put (by omega)).put (by omega)
      · exact ro
    · (repeat' split) <;> first | exact ro | exact R32.wr ro _ _ _ _
  · unfold arO
    (repeat' refine ite_ro ?_ ?_) <;> first
      | exact ro
      | exact (ro.put (lo32_in _)).put (lo32_in _)
      | exact ro.put v
      | exact ro.put (lo32_in _)
      | exact ro.put (sgnV_in _ v)
      | exact (ro.put (drem_in _ _)).put (dquo_in _ _)
theorem xC_ro {os : List Int} (ro : R32 os) (op fm r1 r2 x2 b1 d1 b2 d2 l1 l2 i2 : Int) (p : Ps) {bs ks : List Int} (rb : ∀ z ∈ bs, 0 ≤ z ∧ z ≤ 255) (hl : bs.length ≤ 65536) : R32 (xC op fm r1 r2 x2 b1 d1 b2 d2 l1 l2 i2 os p.m p.key p.cd p.il p.cc p.pg p.ad bs ks).rs := by
  unfold xC
  split
  · rename_i h
    obtain ⟨-, -, -, q0, q1, q2, q3⟩ := (pok_iff _ _ _ _ _ _ _).1 h.2.2
    split
    · exact exO_ro ro rb hl q0 q1 q2 q3 _ _ _ _ _ _ (by omega) (by omega)
    · exact ro
  · exact ro
end Go.Proofs.YthjdjbipfdigeaaGreat

namespace Go.Proofs.YthjdjbipfdigeaaGreat
open Go.RowKit
set_option maxRecDepth 100000
set_option linter.unusedVariables false
section
variable {P : Program} {ops : Array Oper} {Q : Exit → Act → World → Prop} {md : Region.Mode} {c : Nat} {S : World → Prop}
/-- whatever order is picked; ahead of operation c, S holds behind each operation -/
def wpAnyK (P : Program) (md : Region.Mode) (ops : Array Oper) (Q : Exit → Act → World → Prop) (c : Nat) (S : World → Prop) : Nat → Array Bool → Act → World → Prop
  | 0, listed, a, w => Region.ready md ops listed = [] ∧ Q .normal a w
  | fuel + 1, listed, a, w => (Region.ready md ops listed = [] → Q .normal a w) ∧ ∀ i ∈ Region.ready md ops listed, wpOp P ops Q i (fun a' w' => ((listed.setIfInBounds i true).getD c false = false → S w') ∧ wpAnyK P md ops Q c S fuel (listed.setIfInBounds i true) a' w') a w
theorem any_of_K : ∀ (fuel : Nat) (listed : Array Bool) (a : Act) (w : World), wpAnyK P md ops Q c S fuel listed a w → wpAny P md ops Q fuel listed a w
  | 0, _, _, _, h => h
  | fuel + 1, _, _, _, h => ⟨h.1, fun i hi => wpOp_mono (fun a' w' h' => any_of_K fuel _ a' w' h'.2) (h.2 i hi)⟩
theorem K_of_any : ∀ (fuel : Nat) (listed : Array Bool) (a : Act) (w : World), listed.getD c false = true → wpAny P md ops Q fuel listed a w → wpAnyK P md ops Q c S fuel listed a w
  | 0, _, _, _, _, h => h
  | fuel + 1, l, _, _, hl, h => ⟨h.1, fun i hi => wpOp_mono (fun a' w' h' => ⟨fun hf => absurd (getD_set_true (i := i) hl) (by rw [hf]; simp), K_of_any fuel _ a' w' (getD_set_true hl) h'⟩) (h.2 i hi)⟩
theorem wpAnyK_first {i : Nat} {oi : Oper} {v : Value} (hi : ops[i]? = some oi) (hsel : ∀ (j : Nat) (o : Oper) cs b, ops[j]? = some o → o.op ≠ .select cs b)
    (hQ : ∀ c a w, Q (.panic c) (a.put oi.dst v) w → Q (.panic c) a w) (hc : ∀ l : Array Bool, l.getD i true = false → c ∉ Region.ready md ops l) (hne : i ≠ c) :
    ∀ (fuel : Nat) (listed : Array Bool) (a : Act) (w : World),
      (∀ j oj, ops[j]? = some oj → j ≠ i → listed.getD j true = false → (∀ e ∈ oj.after, Region.binds md e = true → e.on ≠ i) → oi.apart ops oj = true) →
      i ∈ Region.ready md ops listed → YieldsIf P ops S oi v a → S w → listed.getD c false = false →
      wpAnyK P md ops Q c S fuel (listed.setIfInBounds i true) (a.put oi.dst v) w → wpAnyK P md ops Q c S (fuel + 1) listed a w := by
  intro fuel
  induction fuel with
  | zero =>
    intro listed a w _ hr hy hS hl H
    refine ⟨fun h => (by rw [h] at hr; cases hr), fun j hj => ?_⟩
    by_cases hji : j = i
    · subst hji; exact hy.wpOp hi hS ⟨fun _ => hS, H⟩
    · have := ready_mono hj hji
      rw [H.1] at this
      cases this
  | succ fuel ih =>
    intro listed a w hfree hr hy hS hl H
    refine ⟨fun h => (by rw [h] at hr; cases hr), fun j hj => ?_⟩
    by_cases hji : j = i
    · subst hji; exact hy.wpOp hi hS ⟨fun _ => hS, H⟩
    · have hjc : j ≠ c := fun e => hc listed (mem_ready.1 hr).1 (e ▸ hj)
      have h1 := H.2 j (ready_mono hj hji)
      obtain ⟨hjun, oj, hoj, hall⟩ := mem_ready.1 hj
      have hnot : ∀ e ∈ oj.after, Region.binds md e = true → e.on ≠ i := fun e he hb heq => by
        have h1 := hall e he hb
        have h0 := (mem_ready.1 hr).1
        rw [heq] at h1
        rcases Nat.lt_or_ge i listed.size with h' | h'
        · simp [h'] at h0 h1; rw [h0] at h1; cases h1
        · simp [Array.getElem?_eq_none h'] at h1
      have h2 := wpOp_putIf hoj (hfree j oj hoj hji hjun hnot) (fun cs b => hsel i oi cs b hi) (fun cs b => hsel j oj cs b hoj) hQ hy h1
      have hfree' : ∀ k ok, ops[k]? = some ok → k ≠ i → (listed.setIfInBounds j true).getD k true = false →
          (∀ e ∈ ok.after, Region.binds md e = true → e.on ≠ i) → oi.apart ops ok = true := fun k ok hk hki hun hno => by
        refine hfree k ok hk hki ?_ hno
        by_cases hjk : j = k
        · subst hjk; exact hjun
        · rw [getD_set_ne true hjk] at hun; exact hun
      have hcl : (listed.setIfInBounds j true).getD c false = false := by rw [getD_set_ne false hjc]; exact hl
      refine wpOp_mono (fun a' w' h3 => ?_) h2
      have hS' : S w' := h3.2.1 (by rw [getD_set_ne false hjc, getD_set_ne false hne]; exact hl)
      refine ⟨fun _ => hS', ih (listed.setIfInBounds j true) a' w' hfree' (ready_mono hr (Ne.symm hji)) h3.1 hS' hcl ?_⟩
      rw [Array.setIfInBounds_comm _ _ hji]
      exact h3.2.2
theorem not_ready {i : Nat} {oc : Oper} (ho : ops[c]? = some oc) (he : (oc.after.any fun e => Region.binds md e && e.on == i) = true) (l : Array Bool) (hl : l.getD i true = false) : c ∉ Region.ready md ops l := fun h => by
  obtain ⟨_, o, ho', hall⟩ := mem_ready.1 h
  rw [ho] at ho'
  injection ho' with ho'
  subst ho'
  obtain ⟨e, h1, h2⟩ := Array.any_eq_true'.1 he
  simp only [Bool.and_eq_true, beq_iff_eq] at h2
  have h3 := hall e h1 h2.1
  rw [h2.2] at h3
  rcases Nat.lt_or_ge i l.size with h' | h'
  · simp [h'] at h3 hl; rw [hl] at h3; cases h3
  · simp [Array.getElem?_eq_none h'] at h3
end
section
variable {P : Program} {L : List Oper} {Q : Exit → Act → World → Prop} {md : Region.Mode} {c : Nat} {S : World → Prop} {v : Value} {oi oc : Oper} {fuel : Nat} {listed : Array Bool} {a : Act} {w : World} {X : Prop}
/-- the beginning -/
theorem wp_region_anyD {id : Nat} (hm : P.follows .mixedOrders = true) (h : wpAny P .any L.toArray Q L.toArray.size (Array.replicate L.toArray.size false) a w.drew) : (Code.region id L.toArray true).wp P Q a w := wp_region_any hm h
/-- an operation that yields its value in whatever world -/
theorem tka (i : Nat) (h : X) (hi : L[i]? = some oi := by rfl) (hf : Region.free md L.toArray listed i = true := by kernel_rfl) (hr : (Region.ready md L.toArray listed).contains i = true := by kernel_rfl)
    (hw : Region.wanted oi (yielded L.toArray a.tmps) = true := by rfl) (y : ∀ w, (execOp a.eval oi).run P w = .ok (.value v) w := by (intro w; go_simp; (try with_reducible rfl)))
    (hP : wpAny P md L.toArray Q fuel (listed.setIfInBounds i true) (a.put oi.dst v) w = X := by (simp only [Act.put, List.setIfInBounds_toArray, List.set_cons_zero, List.set_cons_succ]; try rfl))
    (hs : Region.noSelect L.toArray = true := by kernel_rfl)
    (hQ : ∀ c a w, Q (.panic c) (a.put oi.dst v) w → Q (.panic c) a w := by exact fun _ _ _ h => h) : wpAny P md L.toArray Q (fuel + 1) listed a w :=
  wpAny_take (by simpa using hi) hs hf hr hQ (.inl ⟨hw, y⟩) (hP ▸ h)
/-- a row read ahead of the call c -/
theorem tkK (i : Nat) {g o : Nat} {T : TypeId} {x : Operand} {cs : List Value} (hR : ∀ w, S w → w.rangeAt g o cs) (h : X) (hi : L[i]? = some oi := by rfl) (ho : oi.op = .load T x := by rfl) (hx : a.eval x = .pointer (some ⟨g, o, none⟩) := by rfl) (hd : isRw T := by unfold isRw; kernel_rfl) (hn : (Tryz.prog.info? T).map (·.size) = some cs.length := by kernel_rfl) (hf : Region.free md L.toArray listed i = true := by kernel_rfl) (hr : (Region.ready md L.toArray listed).contains i = true := by kernel_rfl)
    (hw : Region.wanted oi (yielded L.toArray a.tmps) = true := by rfl)
    (hoc : L[c]? = some oc := by rfl) (he : (oc.after.any fun e => Region.binds md e && e.on == i) = true := by kernel_rfl) (hne : i ≠ c := by decide) (hl : listed.getD c false = false := by kernel_rfl)
    (hP : wpAnyK Tryz.prog md L.toArray Q c S fuel (listed.setIfInBounds i true) (a.put oi.dst (.agg cs.toArray)) w = X := by (simp only [Act.put, List.setIfInBounds_toArray, List.set_cons_zero, List.set_cons_succ]; try rfl))
    (hs : Region.noSelect L.toArray = true := by kernel_rfl)
    (hQ : ∀ c a w, Q (.panic c) (a.put oi.dst (.agg cs.toArray)) w → Q (.panic c) a w := by exact fun _ _ _ h => h) (hS : S w := by assumption) : wpAnyK Tryz.prog md L.toArray Q c S (fuel + 1) listed a w := by
  obtain ⟨d, hu, hd⟩ := isRw_some hd
  have hi' : L.toArray[i]? = some oi := by simpa using hi
  exact wpAnyK_first hi' (Region.noSelect_spec hs) hQ (not_ready (by simpa using hoc) he) hne fuel listed a w (Region.free_spec hi' hf) (by simpa using hr) (yieldsIf_load_mid hw T x ho g o hx cs d hR hu hd hn) hS hl (hP ▸ h)
/-- the call c, alone -/
theorem tkKc {f : FuncId} {args : Array Value} {S2 R : World → Prop} {X : World → Prop} (hc : Calls P f args w fun e w' => e = .returned v ∧ R w') (hRS : ∀ w', R w' → S2 w') (h : ∀ w', Hid (R w') → S2 w' → X w') (hr : Region.ready md L.toArray listed = [c] := by with_unfolding_all rfl) (hi : L[c]? = some oi := by rfl)
    (hw : Region.wanted oi (yielded L.toArray a.tmps) = true := by rfl) (hx : (execOp a.eval oi).run P w = .ok (.enter f args) w := by (go_simp; (try with_reducible rfl)))
    (hl : (listed.setIfInBounds c true).getD c false = true := by kernel_rfl)
    (hP : ∀ w', wpAnyH P md L.toArray Q S2 fuel (listed.setIfInBounds c true) (a.put oi.dst v) w' = X w' := by (intro w'; simp only [Act.put, List.setIfInBounds_toArray, List.set_cons_zero, List.set_cons_succ]; try rfl)) : wpAnyK P md L.toArray Q c S (fuel + 1) listed a w := by
  refine ⟨fun h0 => (by rw [hr] at h0; cases h0), fun j hj => ?_⟩
  rw [hr, List.mem_singleton] at hj
  subst hj
  have hi' : L.toArray[j]? = some oi := by simpa using hi
  unfold wpOp
  simp only [hi', hw, if_true]
  refine .inl ?_
  unfold Oper.wp
  rw [hx]
  refine Calls.mono hc fun e w' he => ?_
  obtain ⟨rfl, hR⟩ := he
  exact ⟨fun hf => absurd hl (by rw [hf]; simp), K_of_any _ _ _ _ hl (wpAny_of_held _ _ _ _ ((hP w').symm ▸ h w' (Lib.hid hR) (hRS _ hR)))⟩
end
end Go.Proofs.YthjdjbipfdigeaaGreat

namespace Go.Proofs.YthjdjbipfdigeaaGreat
open Go.RowKit
set_option maxRecDepth 100000
set_option linter.unusedVariables false
set_option linter.unusedSimpArgs false
/-- a slice of instructions -/
def IsIns (w : World) (A : Option Addr) (len : Nat) : Prop := (len : Int) ≤ 9223372036854775807 ∧ ∀ i, i < len → ∃ (b off : Nat) (op fm r1 r2 x2 b1 d1 b2 d2 l1 l2 i2 : Int), A = some ⟨b, off, none⟩ ∧ b < w.heap.size ∧ w.rangeAt b (off + i * 12) [.int .i64 op, .int .i64 fm, .int .i64 r1, .int .i64 r2, .int .i64 x2, .int .i64 b1, .int .i64 d1, .int .i64 b2, .int .i64 d2, .int .i64 l1, .int .i64 l2, .int .i64 i2]
theorem range_keep {w w' : World} {b o : Nat} {cs : List Value} (h : w.rangeAt b o cs) (hb : Below w.heap.size w w') (hl : b < w.heap.size) : w'.rangeAt b o cs := fun j v hv => (hb.cell (p := ⟨b, o + j, none⟩) hl).trans (h j v hv)
/-- a block apart from both storages -/
def Ap (g : Nat) (F G : Foot) : Prop := (g ≠ F.g ∧ g ≠ F.gb ∧ g ≠ F.gk) ∧ (g ≠ G.g ∧ g ≠ G.gb ∧ g ≠ G.gk)
theorem Ap.nf {g : Nat} {F G : Foot} (h : Ap g F G) : g ∉ [F.gb] := by simp; exact h.1.2.1
theorem Ap.ng {g : Nat} {F G : Foot} (h : Ap g F G) : g ∉ [G.g] := by simp; exact h.2.1
theorem Ap.new {g n : Nat} {F G G' : Foot} (h : Ap g F G) (h1 : G'.g = G.g) (e : g < n) (h2 : n ≤ G'.gb) (h3 : n ≤ G'.gk) : Ap g F G' := ⟨h.1, h1 ▸ h.2.1, by clear h; omega, by clear h; omega⟩
structure RN (w0 : World) (B : Nat) (w : World) (F G : Foot) (bs ks cs : List Int) (g7 g8 g9 g10 : Nat) (os : List Int) (p : Ps) (ys : List Int) (q : Ps) : Prop where
  t : TW w0 B w F G bs ks cs
  r7 : Bk w g7 26 (os.map (Value.int .u32))
  r8 : Bk w g8 28 p.v
  r9 : Bk w g9 26 (ys.map (Value.int .u32))
  r10 : Bk w g10 28 q.v
  n : Ap g7 F G ∧ Ap g8 F G ∧ Ap g9 F G ∧ Ap g10 F G
  d : (g7 ≠ g8 ∧ g7 ≠ g9 ∧ g7 ≠ g10) ∧ (g8 ≠ g9 ∧ g8 ≠ g10) ∧ g9 ≠ g10
  l : w0.heap.size ≤ g7 ∧ w0.heap.size ≤ g8 ∧ w0.heap.size ≤ g9 ∧ w0.heap.size ≤ g10
section
variable {w0 w w' : World} {B : Nat} {F G : Foot} {bs ks cs : List Int} {g7 g8 g9 g10 : Nat} {os ys : List Int} {p q : Ps}
theorem TW.rowN (h : TW w0 B w F G bs ks cs) {g : Nat} (hg : Ap g F G) (hl : w0.heap.size ≤ g) (xs : Array Value) : TW w0 B (w.setRow g xs) F G bs ks cs :=
  { h with s := h.s.rowOth hg.1.1.symm hg.1.2.1.symm hg.1.2.2.symm _, t := h.t.rowOth hg.2.1.symm hg.2.2.1.symm hg.2.2.2.symm _, b := below_row h.b hl _ }
theorem RN.drew (h : RN w0 B w F G bs ks cs g7 g8 g9 g10 os p ys q) : RN w0 B w.drew F G bs ks cs g7 g8 g9 g10 os p ys q := { h with t := h.t.keep (dBelow' (Below.refl _ _) 1) }
theorem RN.fx (h : RN w0 B w F G bs ks cs g7 g8 g9 g10 os p ys q) {bs' : List Int} (hs : St 77 w' F bs' ks) (hc : Ch w w' [F.gb]) : RN w0 B w' F G bs' ks cs g7 g8 g9 g10 os p ys q := by
  exact { h with t := h.t.fx hs hc, r7 := h.r7.ch hc h.n.1.nf, r8 := h.r8.ch hc h.n.2.1.nf, r9 := h.r9.ch hc h.n.2.2.1.nf, r10 := h.r10.ch hc h.n.2.2.2.nf }
theorem RN.gx {G' : Foot} {cs' : List Int} (h : RN w0 B w F G bs ks cs g7 g8 g9 g10 os p ys q) (h1 : G'.g = G.g) (h2 : G' = G ∨ (w.heap.size ≤ G'.gb ∧ w.heap.size ≤ G'.gk)) (ht : St 70 w' G' cs' ks) (hc : Ch w w' [G.g]) : RN w0 B w' F G' bs ks cs' g7 g8 g9 g10 os p ys q := by
  refine { h with t := h.t.gx h1 h2 ht hc, r7 := h.r7.ch hc h.n.1.ng, r8 := h.r8.ch hc h.n.2.1.ng, r9 := h.r9.ch hc h.n.2.2.1.ng, r10 := h.r10.ch hc h.n.2.2.2.ng, n := ?_ }
  rcases h2 with rfl | h2
  · exact h.n
  · exact ⟨h.n.1.new h1 h.r7.lt h2.1 h2.2, h.n.2.1.new h1 h.r8.lt h2.1 h2.2, h.n.2.2.1.new h1 h.r9.lt h2.1 h2.2, h.n.2.2.2.new h1 h.r10.lt h2.1 h2.2⟩
theorem RN.s7 (h : RN w0 B w F G bs ks cs g7 g8 g9 g10 os p ys q) (os' : List Int) : RN w0 B (w.setRow g7 (os'.map (Value.int .u32)).toArray) F G bs ks cs g7 g8 g9 g10 os' p ys q :=
  have hd := h.d
  { h with t := h.t.rowN h.n.1 h.l.1 _, r7 := h.r7.rowSet _, r8 := h.r8.rowOth (by omega) _, r9 := h.r9.rowOth (by omega) _, r10 := h.r10.rowOth (by omega) _ }
theorem RN.s8 (h : RN w0 B w F G bs ks cs g7 g8 g9 g10 os p ys q) (p' : Ps) : RN w0 B (w.setRow g8 p'.v.toArray) F G bs ks cs g7 g8 g9 g10 os p' ys q :=
  have hd := h.d
  { h with t := h.t.rowN h.n.2.1 h.l.2.1 _, r7 := h.r7.rowOth (by omega) _, r8 := h.r8.rowSet _, r9 := h.r9.rowOth (by omega) _, r10 := h.r10.rowOth (by omega) _ }
theorem RN.s9 (h : RN w0 B w F G bs ks cs g7 g8 g9 g10 os p ys q) (ys' : List Int) : RN w0 B (w.setRow g9 (ys'.map (Value.int .u32)).toArray) F G bs ks cs g7 g8 g9 g10 os p ys' q :=
  have hd := h.d
  { h with t := h.t.rowN h.n.2.2.1 h.l.2.2.1 _, r7 := h.r7.rowOth (by omega) _, r8 := h.r8.rowOth (by omega) _, r9 := h.r9.rowSet _, r10 := h.r10.rowOth (by omega) _ }
theorem RN.s10 (h : RN w0 B w F G bs ks cs g7 g8 g9 g10 os p ys q) (q' : Ps) : RN w0 B (w.setRow g10 q'.v.toArray) F G bs ks cs g7 g8 g9 g10 os p ys q' :=
  have hd := h.d
  { h with t := h.t.rowN h.n.2.2.2 h.l.2.2.2 _, r7 := h.r7.rowOth (by omega) _, r8 := h.r8.rowOth (by omega) _, r9 := h.r9.rowOth (by omega) _, r10 := h.r10.rowSet _ }
end
end Go.Proofs.YthjdjbipfdigeaaGreat

namespace Go.Proofs.YthjdjbipfdigeaaGreat
open Go.RowKit
set_option linter.unusedVariables false

theorem row_byt {w : World} {a : Option Addr} {len cap : Nat} {zs : List Int} (h : IsRow .u8 w a len cap zs) : Byt w a len (zs.take len) ∧ (a = none → cap = 0) ∧ len ≤ cap ∧ cap ≤ maxLen := by
  rcases h with ⟨rfl, rfl, rfl, rfl⟩ | ⟨x, rfl, hl, hm, hz, hc, hw⟩
  · exact ⟨⟨rfl, by simp, fun h => absurd h (by omega)⟩, fun _ => rfl, Nat.le_refl _, Nat.zero_le _⟩
  · refine ⟨⟨by rw [List.length_take]; omega, fun n hn => ?_, fun h0 => ?_⟩, (by intro h; cases h), hl, hm⟩
    · exact bounds_u8 (hw n (List.mem_of_mem_take hn))
    · obtain ⟨b, off, spot⟩ := x
      have h1 := hc 0 (by omega)
      have hspot : spot = none := by simpa [Addr.add] using World.cell?_spot h1
      subst hspot
      refine ⟨b, off, rfl, fun i hi => ?_⟩
      have h2 := hc i (by omega)
      have hadd : (⟨b, off, none⟩ : Addr).add i = ⟨b, off + i, none⟩ := by unfold Addr.add; split <;> simp_all
      rw [hadd] at h2
      rw [h2]
      simp [List.getD_eq_getElem?_getD, hi]

section
variable {w : World} {base n : Nat} {zs : List Int} {g cap : Nat}
theorem Own.cell (h : Own w base (.slice (some ⟨g, 0, none⟩) n cap) n zs) {k : Nat} (hk : k < n) : w.cell? ⟨g, k, none⟩ = some (.int .u8 (zs.getD k 0)) := by
  obtain ⟨b, off, e, hc⟩ := h.byt.2.2 (by omega)
  injection e with e; injection e with e1 e2; subst e1 e2
  have := hc k hk
  rwa [Nat.zero_add] at this
end
end Go.Proofs.YthjdjbipfdigeaaGreat

