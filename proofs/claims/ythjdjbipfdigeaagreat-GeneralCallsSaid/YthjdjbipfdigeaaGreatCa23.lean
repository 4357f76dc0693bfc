/- Rows.GeneralCallsSaid (jobshop/jobshoplaw09.GeneralCalls): whatever the input, the law returns true and each argument reads as it did. The frame of the proof; the walk lies in GeneralCallsW. No conditions; the last text of 23. Conditions: as each states them. -/
import Derived.Test.YthjdjbipfdigeaaGreatCa1
import Derived.Test.YthjdjbipfdigeaaGreatCa4
import Derived.Test.YthjdjbipfdigeaaGreatCa5
import Derived.Test.YthjdjbipfdigeaaGreatCa6
import Derived.Test.YthjdjbipfdigeaaGreatCa8
import Derived.Test.YthjdjbipfdigeaaGreatCa15
import Derived.Test.YthjdjbipfdigeaaGreatCa18
import Derived.Test.YthjdjbipfdigeaaGreatCa22
import Derived.OpenShut
import Derived.Deep.Slices
import Derived.Deep.Fields
import Derived.ChangeSame
namespace Go.Proofs.YthjdjbipfdigeaaGreat
open Go.RowKit
set_option maxRecDepth 100000
set_option linter.unusedVariables false
set_option linter.unusedSimpArgs false
/-- a slice of parts: an address and a slice of bytes each -/
def Parts (w : World) (A : Option Addr) (len : Nat) : Prop := (len : Int) ≤ 9223372036854775807 ∧ ∀ i, i < len → ∃ (b off : Nat) (at_ : Int) (B : Option Addr) (l c : Nat) (zs : List Int), A = some ⟨b, off, none⟩ ∧ w.cell? ⟨b, off + i * 2, none⟩ = some (.int .u16 at_) ∧ 0 ≤ at_ ∧ at_ ≤ 65535 ∧ w.cell? ⟨b, off + (i * 2 + 1), none⟩ = some (.slice B l c) ∧ Byt w B l zs ∧ (l : Int) ≤ 9223372036854775807
/-- the two storages while they are made -/
structure Bd (w W : World) (gm : Nat) (ms : List Value) (F G : Foot) (bs ks cs ls : List Int) : Prop where
  m : Bk W gm 32 ms
  s : St 77 W F bs ks
  t : St 70 W G cs ls
  b : Below w.heap.size w W
  gm0 : w.heap.size ≤ gm
  f : ∃ B, gm < F.g ∧ gm < F.gb ∧ gm < F.gk ∧ F.g < B ∧ F.gb < B ∧ F.gk < B ∧ B ≤ G.g ∧ B ≤ G.gb ∧ B ≤ G.gk
section
variable {w W W' : World} {gm : Nat} {ms : List Value} {F G : Foot} {bs ks cs ls : List Int}
theorem Bd.keep (h : Bd w W gm ms F G bs ks cs ls) (hb : Below W.heap.size W W') : Bd w W' gm ms F G bs ks cs ls := ⟨h.m.keep hb, h.s.belowS hb, h.t.belowS hb, h.b.trans (hb.mono h.b.size), h.gm0, h.f⟩
theorem Bd.fset (h : Bd w W gm ms F G bs ks cs ls) {bs2 ks2 : List Int} {r : Nat} (hs : St 77 W' F bs2 ks2) (hg : W.grownBy W' (some r)) (hr : r = F.gb ∨ r = F.gk) : Bd w W' gm ms F G bs2 ks2 cs ls := by
  obtain ⟨B, h1, h2, h3, h4, h5, h6, h7, h8, h9⟩ := h.f
  have hn : ∀ x, (x = gm ∨ x = G.g ∨ x = G.gb ∨ x = G.gk) → some x ≠ some r := by
    intro x hx e
    injection e with e
    omega
  have h0 := h.gm0
  refine ⟨h.m.kept (hg.block _ h.m.lt (hn _ (by simp))), hs, h.t.grown hg (hn _ (by simp)) (hn _ (by simp)) (hn _ (by simp)), ?_, h0, h.f⟩
  exact ⟨hg.os.trans h.b.os, hg.tape.trans h.b.tape, hg.output.trans h.b.output, Nat.le_trans h.b.size hg.size, fun i hi => (hg.block i (Nat.lt_of_lt_of_le hi h.b.size) (by intro e; injection e with e; omega)).trans (h.b.block i hi)⟩
theorem Bd.gset (h : Bd w W gm ms F G bs ks cs ls) {cs2 ls2 : List Int} {r : Nat} (hs : St 70 W' G cs2 ls2) (hg : W.grownBy W' (some r)) (hr : r = G.gb ∨ r = G.gk) : Bd w W' gm ms F G bs ks cs2 ls2 := by
  obtain ⟨B, h1, h2, h3, h4, h5, h6, h7, h8, h9⟩ := h.f
  have hn : ∀ x, (x = gm ∨ x = F.g ∨ x = F.gb ∨ x = F.gk) → some x ≠ some r := by
    intro x hx e
    injection e with e
    omega
  have h0 := h.gm0
  refine ⟨h.m.kept (hg.block _ h.m.lt (hn _ (by simp))), h.s.grown hg (hn _ (by simp)) (hn _ (by simp)) (hn _ (by simp)), hs, ?_, h0, h.f⟩
  exact ⟨hg.os.trans h.b.os, hg.tape.trans h.b.tape, hg.output.trans h.b.output, Nat.le_trans h.b.size hg.size, fun i hi => (hg.block i (Nat.lt_of_lt_of_le hi h.b.size) (by intro e; injection e with e; omega)).trans (h.b.block i hi)⟩
end
theorem Parts.at_ {w W : World} {A : Option Addr} {len : Nat} (h : Parts w A len) (hb : Below w.heap.size w W) {i : Nat} (hi : i < len) : ∃ (b off : Nat) (at_ : Int) (B : Option Addr) (l c : Nat) (zs : List Int), A = some ⟨b, off, none⟩ ∧ W.cell? ⟨b, off + i * 2, none⟩ = some (.int .u16 at_) ∧ 0 ≤ at_ ∧ at_ ≤ 65535 ∧ W.cell? ⟨b, off + i * 2 + 1, none⟩ = some (.slice B l c) ∧ Byt w B l zs ∧ (l : Int) ≤ 9223372036854775807 := by
  obtain ⟨b, off, at_, B, l, c, zs, h1, h2, h3, h4, h5, h6, h7⟩ := h.2 i hi
  have hlt : b < w.heap.size := by
    rcases Nat.lt_or_ge b w.heap.size with h8 | h8
    · exact h8
    · unfold World.cell? at h2; simp only [Array.getElem?_eq_none h8] at h2; cases h2
  have e1 := hb.cell (p := ⟨b, off + i * 2, none⟩) hlt
  have e2 := hb.cell (p := ⟨b, off + (i * 2 + 1), none⟩) hlt
  rw [← Nat.add_assoc] at e2 h5
  exact ⟨b, off, at_, B, l, c, zs, h1, e1.trans h2, h3, h4, e2.trans h5, h6, h7⟩
theorem byt_blk {w : World} {A : Option Addr} {len : Nat} {zs : List Int} (h : Byt w A len zs) (h0 : 0 < len) : ∀ x, A = some x → x.block < w.heap.size := by
  obtain ⟨b, off, e, hcell⟩ := h.2.2 h0
  intro x hx
  rw [e] at hx
  injection hx with hx
  subst hx
  have h1 := hcell 0 h0
  rcases Nat.lt_or_ge b w.heap.size with h2 | h2
  · exact h2
  · unfold World.cell? at h1; simp only [Array.getElem?_eq_none h2] at h1; cases h1
/-- what build answers -/
def Built (w : World) (e : Ending) (w' : World) : Prop := ∃ (F G : Foot) (bs ks : List Int), e = .returned (.tuple #[.pointer (some ⟨F.g, 0, none⟩), .pointer (some ⟨G.g, 0, none⟩)]) ∧ St 77 w' F bs ks ∧ St 70 w' G bs ks ∧ Below w.heap.size w w' ∧ (w.heap.size ≤ F.g ∧ w.heap.size ≤ F.gb ∧ w.heap.size ≤ F.gk) ∧ ∃ B, F.g < B ∧ F.gb < B ∧ F.gk < B ∧ B ≤ G.g ∧ B ≤ G.gb ∧ B ≤ G.gk
theorem Bd.built {w W : World} {gm : Nat} {ms : List Value} {F G : Foot} {bs ks : List Int} (h : Bd w W gm ms F G bs ks bs ks) : Built w (.returned (.tuple #[.pointer (some ⟨F.g, 0, none⟩), .pointer (some ⟨G.g, 0, none⟩)])) W := by
  obtain ⟨B, h1, h2, h3, h4, h5, h6, h7, h8, h9⟩ := h.f
  have h0 := h.gm0
  exact ⟨F, G, bs, ks, rfl, h.s, h.t, h.b, ⟨by omega, by omega, by omega⟩, B, h4, h5, h6, h7, h8, h9⟩
set_option maxRecDepth 1000000 in
set_option maxHeartbeats 8000000 in
theorem build_c (bl : Int) (KA : Option Addr) (kl kc : Nat) (kz : List Int) (PA : Option Addr) (pl pc : Nat) (w : World) (h0 : 0 ≤ bl) (h1 : bl ≤ 255) (hk : Byt w KA kl kz) (hkl : (kl : Int) ≤ 9223372036854775807) (hp : Parts w PA pl) : Calls Tryz.prog 5 #[.agg #[.int .u8 bl, .slice KA kl kc, .slice PA pl pc]] w (Built w) := by
  have HK := Lib.hid hk
  have HP := Lib.hid hp
  have hpl := hp.1
  clear hk hp
  obtain ⟨m, hm⟩ : ∃ m : Nat, bl % 4 + 1 = (m : Int) := ⟨(bl % 4 + 1).toNat, by omega⟩
  have hm1 : 1 ≤ m := by omega
  have hm4 : m ≤ 4 := by omega
  have NC := Lib.hid (fun W => new_yes m hm1 (by omega) W)
  have RC := Lib.hid (fun W => rnew_yes m hm1 (by omega) W)
  obtain ⟨sz, hsz⟩ : ∃ s : Int, ((2048 * m : Nat) : Int) = s := ⟨_, rfl⟩
  rw [hsz] at NC RC
  have e1 : 2048 * (bl % 4 + 1) = sz := by rw [hm]; omega
  have hsz0 : 2048 ≤ sz := by omega
  have hsz1 : sz ≤ 8192 := by omega
  have E1 := Lib.hid e1
  clear e1 hm hsz
  go_enter Tryz.func5, Tryz.ntmps5
  go_upto_region 2 with fail
  rw [E1.out]
  obtain ⟨gm, hgm⟩ : ∃ q, w.heap.size = q := ⟨_, rfl⟩
  obtain ⟨W1, hW⟩ : ∃ V, w.alloc (.cells #[.int .u8 bl, .slice KA kl kc, .slice PA pl pc] 32) = V := ⟨_, rfl⟩
  have hM : Bk W1 gm 32 [.int .u8 bl, .slice KA kl kc, .slice PA pl pc] := by rw [← hW, ← hgm]; exact Bk.new w _ _
  have hB1 : Below w.heap.size w W1 := by rw [← hW]; exact (Below.refl _ _).alloc (Nat.le_refl _) _
  rw [hW]
  try rw [hgm]
  have hgl := hM.lt
  have M := Lib.hid hM
  have B1 := Lib.hid hB1
  have hgm' : w.heap.size ≤ gm := by omega
  clear hW hM hB1 hgm
  go_wp2_with fail
  refine (NC.out _).mono ?_
  rintro e W2 ⟨v, rfl, F, rfl, hS, hb, hF1, hF2, hF3⟩
  replace M := Lib.hid (M.out.keep hb)
  replace B1 := Lib.hid (B1.out.trans (hb.mono B1.out.size))
  have S := Lib.hid hS
  clear hS hb
  go_wp2_with fail
  refine (RC.out _).mono ?_
  rintro e W3 ⟨v, rfl, G, rfl, hT, hb, hG1, hG2, hG3⟩
  have D := Lib.hid (show Bd w W3 gm [.int .u8 bl, .slice KA kl kc, .slice PA pl pc] F G (z0 (2048 * m)) (z0 m) (z0 (2048 * m)) (z0 m) from ⟨M.out.keep hb, S.out.belowS hb, hT, B1.out.trans (hb.mono B1.out.size), hgm', W2.heap.size, by omega, by omega, by omega, S.out.ltg, S.out.ltb, S.out.ltk, hG1, hG2, hG3⟩)
  clear hT hb M B1 S NC RC hgl hF1 hF2 hF3 hG1 hG2 hG3
  go_upto_region 7 with fail
  go_loopw [8, 9, 10] (fun i x y wr => ∃ (k : Nat) (bs ks : List Int), k ≤ pl ∧ i = .int .i64 (k : Int) ∧ Bd w wr gm [.int .u8 bl, .slice KA kl kc, .slice PA pl pc] F G bs ks bs ks) (fun i _ _ _ => pl - (intOf i).toNat)
  case atStart => exact ⟨0, _, _, by omega, rfl, D.out⟩
  case round =>
    obtain ⟨k, bs, ks, hk, rfl, hD⟩ := hrel
    have DD := Lib.hid hD
    clear hD D
    have cm := DD.out.m.cell (c := 2) rfl
    by_cases hlt : k < pl
    · by_cases h20 : k < 20
      · have i0 : (k : Int) < (pl : Int) := by omega
        have i1 : (0 : Int) ≤ (k : Int) := by omega
        have i2 : (k : Int) < 20 := by omega
        obtain ⟨b, off, at_, B, l, c, zs, rfl, hc1, ha0, ha1, hc2, hy, hl⟩ := HP.out.at_ DD.out.b hlt
        have Y := Lib.hid hy
        clear hy
        have r0 : 0 ≤ at_ % sz := Int.emod_nonneg _ (by omega)
        have r1 : at_ % sz < sz := Int.emod_lt_of_pos _ (by omega)
        have r2 : at_ % sz ≤ 8192 := by omega
        by_cases hfit : l ≤ 300 ∧ at_ % sz + (l : Int) ≤ sz
        · obtain ⟨hf1, hf2⟩ := hfit
          have hf1' : (l : Int) ≤ 300 := by omega
          go_upto_region 12 with fail
          clear cm hc1 hc2
          go_wp2_with fail
          refine (put_c _ DD.out.s (at_ % sz) 0 B l c zs (Y.out.keep DD.out.b) hl).mono ?_
          rintro e V ⟨rfl, hs, hg⟩
          have D2 := Lib.hid (DD.out.fset hs hg (.inl rfl))
          clear hs hg
          go_wp2_with fail
          have hgb : w.heap.size ≤ G.gb := by obtain ⟨B', q1, q2, q3, q4, q5, q6, q7, q8, q9⟩ := D2.out.f; omega
          refine (rput_c _ D2.out.t (at_ % sz) 0 B l c zs (Y.out.keep D2.out.b) hl (fun h0' x hx => by have := byt_blk Y.out h0' x hx; omega)).mono ?_
          rintro e V2 ⟨rfl, hs, hg⟩
          have D3 := Lib.hid (D2.out.gset hs hg (.inl rfl))
          clear hs hg
          go_wp2
          exact ⟨⟨k + 1, _, _, by omega, rfl, D3.out⟩, by simp [intOf]; omega⟩
        · have nx : l ≤ 300 → ¬ (at_ % sz + (l : Int) ≤ sz) := fun h1 h2 => hfit ⟨h1, h2⟩
          by_cases hf1 : l ≤ 300
          · have hf2 := nx hf1
            have hf1' : (l : Int) ≤ 300 := by omega
            clear nx hfit
            go_wp2
            exact ⟨⟨k + 1, _, _, by omega, rfl, DD.out⟩, by simp [intOf]; omega⟩
          · have hf1' : ¬ (l : Int) ≤ 300 := by omega
            clear nx hfit
            go_wp2
            exact ⟨⟨k + 1, _, _, by omega, rfl, DD.out⟩, by simp [intOf]; omega⟩
      · have i0 : (k : Int) < (pl : Int) := by omega
        have i2 : ¬ (k : Int) < 20 := by omega
        clear cm
        have cm := DD.out.m.cell (c := 2) rfl
        go_upto_region 15 with fail
        clear cm
        have D := DD
        clear DD hk
        go_loopw [11] (fun i wr => ∃ (k : Nat) (bs ks : List Int), k ≤ kl ∧ i = .int .i64 (k : Int) ∧ Bd w wr gm [.int .u8 bl, .slice KA kl kc, .slice PA pl pc] F G bs ks bs ks) (fun i _ => kl - (intOf i).toNat)
        case atStart => exact ⟨0, _, _, by omega, rfl, D.out⟩
        case round =>
          obtain ⟨k2, bs2, ks2, hk2, rfl, hD⟩ := hrel
          have DD := Lib.hid hD
          clear hD D
          have cm := DD.out.m.cell (c := 1) rfl
          by_cases hlt2 : k2 < kl
          · by_cases h4 : k2 < 4
            · have j0 : (k2 : Int) < (kl : Int) := by omega
              have j1 : (0 : Int) ≤ (k2 : Int) := by omega
              have j2 : (k2 : Int) < 4 := by omega
              obtain ⟨b, off, hKA, hc⟩ := (HK.out.keep DD.out.b).at_ (by omega)
              subst hKA
              have hr := HK.out.range k2
              have hck := hc k2 hlt2
              obtain ⟨kv, hkv⟩ : ∃ v, kz.getD k2 0 = v := ⟨_, rfl⟩
              rw [hkv] at hr hck
              have KV := Lib.hid hkv
              clear hc hkv
              go_wp2_with fail
              refine (setkey_c _ DD.out.s ((k2 : Int) * 2048) (kv % 32)).mono ?_
              rintro e V ⟨rfl, hs, hg⟩
              have D2 := Lib.hid (DD.out.fset hs hg (.inr rfl))
              clear hs hg cm hck
              have cm := D2.out.m.cell (c := 1) rfl
              have hck : V.cell? ⟨b, off + k2, none⟩ = some (.int .u8 kv) := by
                obtain ⟨b', off', e, hc⟩ := (HK.out.keep D2.out.b).at_ (by omega)
                injection e with e; injection e with e1 e2; subst e1 e2
                rw [hc k2 hlt2, KV.out]
              go_wp2_with fail
              refine (rsetkey_c _ D2.out.t ((k2 : Int) * 2048) (kv % 32)).mono ?_
              rintro e V2 ⟨rfl, hs, hg⟩
              have D3 := Lib.hid (D2.out.gset hs hg (.inr rfl))
              clear hs hg cm hck
              go_wp2
              exact ⟨⟨k2 + 1, _, _, by omega, rfl, D3.out⟩, by simp [intOf]; omega⟩
            · have j0 : (k2 : Int) < (kl : Int) := by omega
              have j2 : ¬ (k2 : Int) < 4 := by omega
              go_wp2
              go_ret2
              exact DD.out.built
          · have j0 : ¬ (k2 : Int) < (kl : Int) := by omega
            go_wp2
            go_ret2
            exact DD.out.built
    · have i0 : ¬ (k : Int) < (pl : Int) := by omega
      clear cm
      have cm := DD.out.m.cell (c := 2) rfl
      go_upto_region 15 with fail
      clear cm
      have D := DD
      clear DD hk
      go_loopw [11] (fun i wr => ∃ (k : Nat) (bs ks : List Int), k ≤ kl ∧ i = .int .i64 (k : Int) ∧ Bd w wr gm [.int .u8 bl, .slice KA kl kc, .slice PA pl pc] F G bs ks bs ks) (fun i _ => kl - (intOf i).toNat)
      case atStart => exact ⟨0, _, _, by omega, rfl, D.out⟩
      case round =>
        obtain ⟨k2, bs2, ks2, hk2, rfl, hD⟩ := hrel
        have DD := Lib.hid hD
        clear hD D
        have cm := DD.out.m.cell (c := 1) rfl
        by_cases hlt2 : k2 < kl
        · by_cases h4 : k2 < 4
          · have j0 : (k2 : Int) < (kl : Int) := by omega
            have j1 : (0 : Int) ≤ (k2 : Int) := by omega
            have j2 : (k2 : Int) < 4 := by omega
            obtain ⟨b, off, hKA, hc⟩ := (HK.out.keep DD.out.b).at_ (by omega)
            subst hKA
            have hr := HK.out.range k2
            have hck := hc k2 hlt2
            obtain ⟨kv, hkv⟩ : ∃ v, kz.getD k2 0 = v := ⟨_, rfl⟩
            rw [hkv] at hr hck
            have KV := Lib.hid hkv
            clear hc hkv
            go_wp2_with fail
            refine (setkey_c _ DD.out.s ((k2 : Int) * 2048) (kv % 32)).mono ?_
            rintro e V ⟨rfl, hs, hg⟩
            have D2 := Lib.hid (DD.out.fset hs hg (.inr rfl))
            clear hs hg cm hck
            have cm := D2.out.m.cell (c := 1) rfl
            have hck : V.cell? ⟨b, off + k2, none⟩ = some (.int .u8 kv) := by
              obtain ⟨b', off', e, hc⟩ := (HK.out.keep D2.out.b).at_ (by omega)
              injection e with e; injection e with e1 e2; subst e1 e2
              rw [hc k2 hlt2, KV.out]
            go_wp2_with fail
            refine (rsetkey_c _ D2.out.t ((k2 : Int) * 2048) (kv % 32)).mono ?_
            rintro e V2 ⟨rfl, hs, hg⟩
            have D3 := Lib.hid (D2.out.gset hs hg (.inr rfl))
            clear hs hg cm hck
            go_wp2
            exact ⟨⟨k2 + 1, _, _, by omega, rfl, D3.out⟩, by simp [intOf]; omega⟩
          · have j0 : (k2 : Int) < (kl : Int) := by omega
            have j2 : ¬ (k2 : Int) < 4 := by omega
            go_wp2
            go_ret2
            exact DD.out.built
        · have j0 : ¬ (k2 : Int) < (kl : Int) := by omega
          go_wp2
          go_ret2
          exact DD.out.built
end Go.Proofs.YthjdjbipfdigeaaGreat

namespace Go.Proofs.YthjdjbipfdigeaaGreat
open Go.RowKit
set_option maxRecDepth 100000
set_option linter.unusedVariables false
set_option linter.unusedSimpArgs false
section
variable {P : Program} {ops : Array Oper} {rest : List Oper} {o : Oper} {act : Act} {Q : Exit → Act → World → Prop} {v : Value} {w w' : World} {X : Prop}
theorem lsm {k off : Nat} {T : TypeId} {x : Operand} {cs : List Value} (hB : w.rangeAt k off cs) (h : X) (hg : Region.wanted o (yielded ops act.tmps) = true := by rfl) (ho : o.op = .load T x := by rfl) (hx : act.eval x = .pointer (some ⟨k, off, none⟩) := by rfl) (hd : isRw T := by unfold isRw; kernel_rfl) (hi : (Tryz.prog.info? T).map (·.size) = some cs.length := by kernel_rfl)
    (hP : wpList Tryz.prog ops Q rest (act.put o.dst (.agg cs.toArray)) w = X := by (simp only [Act.put, List.setIfInBounds_toArray, List.set_cons_zero, List.set_cons_succ]; try rfl)) : wpList Tryz.prog ops Q (o :: rest) act w := by
  obtain ⟨d, hu, hd⟩ := isRw_some hd
  exact lsv h hg (by unfold execOp; simp only [ho, hx, Sem.run_bind, run_loadAt_mid w k off T cs d hB hu hd hi, Result.andThen_ok, Sem.run_pure]) hP
theorem lsc {f : FuncId} {args : Array Value} {R : World → Prop} {X : World → Prop} (hc : Calls P f args w fun e w' => e = .returned v ∧ R w') (h : ∀ w', Hid (R w') → X w') (hg : Region.wanted o (yielded ops act.tmps) = true := by rfl) (hx : (execOp act.eval o).run P w = .ok (.enter f args) w := by (go_simp; (try with_reducible rfl)))
    (hP : ∀ w', wpList P ops Q rest (act.put o.dst v) w' = X w' := by (intro w'; simp only [Act.put, List.setIfInBounds_toArray, List.set_cons_zero, List.set_cons_succ]; try rfl)) : wpList P ops Q (o :: rest) act w := by
  refine wpList_step fun K hK => ?_
  rw [hg, if_pos rfl]
  unfold Oper.wp
  rw [hx]
  refine Calls.mono hc fun e w' he => ?_
  obtain ⟨rfl, hR⟩ := he
  exact hK _ _ ((hP w').symm ▸ h w' (Lib.hid hR))
end
theorem box2 (w : World) (a b : List Value) (T U : TypeId) : Bk ((w.alloc (.cells a.toArray T)).alloc (.cells b.toArray U)) w.heap.size T a ∧ Bk ((w.alloc (.cells a.toArray T)).alloc (.cells b.toArray U)) (w.heap.size + 1) U b ∧ Below w.heap.size w ((w.alloc (.cells a.toArray T)).alloc (.cells b.toArray U)) := by
  have h := Bk.new (w.alloc (.cells a.toArray T)) b U
  rw [World.size_alloc] at h
  exact ⟨(Bk.new w a T).alloc _, h, ((Below.refl _ _).alloc (Nat.le_refl _) _).alloc (by simp) _⟩
theorem below_row {B : Nat} {a w : World} (h : Below B a w) {k : Nat} (hk : B ≤ k) (cs : Array Value) : Below B a (w.setRow k cs) := ⟨h.os, h.tape, h.output, by have := h.size; simpa [World.setRow] using this, fun i hi => (setRow_other w k i cs (by omega)).trans (h.block i hi)⟩
theorem box2s (w : World) (a0 b0 a b : List Value) (T U : TypeId) : Bk ((((w.alloc (.cells a0.toArray T)).alloc (.cells b0.toArray U)).setRow w.heap.size a.toArray).setRow (w.heap.size + 1) b.toArray) w.heap.size T a ∧ Bk ((((w.alloc (.cells a0.toArray T)).alloc (.cells b0.toArray U)).setRow w.heap.size a.toArray).setRow (w.heap.size + 1) b.toArray) (w.heap.size + 1) U b ∧ Below w.heap.size w ((((w.alloc (.cells a0.toArray T)).alloc (.cells b0.toArray U)).setRow w.heap.size a.toArray).setRow (w.heap.size + 1) b.toArray) := by
  obtain ⟨h1, h2, h3⟩ := box2 w a0 b0 T U
  exact ⟨(h1.rowSet a).rowOth (by omega) _, (h2.rowOth (by omega) _).rowSet b, below_row (below_row h3 (Nat.le_refl _) _) (by omega) _⟩
theorem Parts.keep {w W : World} {A : Option Addr} {len : Nat} (h : Parts w A len) (hb : Below w.heap.size w W) : Parts W A len := by
  refine ⟨h.1, fun i hi => ?_⟩
  obtain ⟨b, off, at_, B, l, c, zs, h1, h2, h3, h4, h5, h6, h7⟩ := h.at_ hb hi
  exact ⟨b, off, at_, B, l, c, zs, h1, h2, h3, h4, by rw [← Nat.add_assoc]; exact h5, h6.keep hb, h7⟩
section
variable {w0 w w' : World} {B : Nat} {F G : Foot} {bs ks cs bs' cs' : List Int}
/-- the two storages, nowhere one, all of them made behind B -/
structure TW (w0 : World) (B : Nat) (w : World) (F G : Foot) (bs ks cs : List Int) : Prop where
  s : St 77 w F bs ks
  t : St 70 w G cs ks
  b : Below w0.heap.size w0 w
  f : w0.heap.size ≤ B ∧ B ≤ F.g ∧ B ≤ F.gb ∧ B ≤ F.gk ∧ B ≤ G.g ∧ B ≤ G.gb ∧ B ≤ G.gk
  d : (F.g ≠ G.g ∧ F.g ≠ G.gb ∧ F.g ≠ G.gk) ∧ (F.gb ≠ G.g ∧ F.gb ≠ G.gb ∧ F.gb ≠ G.gk) ∧ (F.gk ≠ G.g ∧ F.gk ≠ G.gb ∧ F.gk ≠ G.gk)
theorem TW.keep (h : TW w0 B w F G bs ks cs) (hb : Below w.heap.size w w') : TW w0 B w' F G bs ks cs := { h with s := h.s.belowS hb, t := h.t.belowS hb, b := h.b.trans (hb.mono h.b.size) }
theorem TW.fx (h : TW w0 B w F G bs ks cs) (hs : St 77 w' F bs' ks) (hc : Ch w w' [F.gb]) : TW w0 B w' F G bs' ks cs := by
  have hf := h.f
  have hd := h.d
  exact { h with s := hs, t := h.t.keep (hc.kept h.t.ltg (by simp; omega)) (hc.kept h.t.ltb (by simp; omega)) (hc.kept h.t.ltk (by simp; omega)), b := h.b.trans (hc.below h.b.size (by simp; omega)) }
theorem TW.gx {G' : Foot} (h : TW w0 B w F G bs ks cs) (h1 : G'.g = G.g) (h2 : G' = G ∨ (w.heap.size ≤ G'.gb ∧ w.heap.size ≤ G'.gk)) (ht : St 70 w' G' cs' ks) (hc : Ch w w' [G.g]) : TW w0 B w' F G' bs ks cs' := by
  have hf := h.f
  have hd := h.d
  have e1 := h.s.ltg
  have e2 := h.s.ltb
  have e3 := h.s.ltk
  refine ⟨h.s.keep (hc.kept h.s.ltg (by simp; omega)) (hc.kept h.s.ltb (by simp; omega)) (hc.kept h.s.ltk (by simp; omega)), ht, h.b.trans (hc.below h.b.size (by simp; omega)), ?_, ?_⟩
  · rcases h2 with rfl | h2
    · exact hf
    · omega
  · rcases h2 with rfl | h2
    · exact hd
    · omega
end
theorem xC_len16 {os : List Int} (hl : os.length = 16) (op fm r1 r2 x2 b1 d1 b2 d2 l1 l2 i2 : Int) (p : Ps) (bs ks : List Int) : (xC op fm r1 r2 x2 b1 d1 b2 d2 l1 l2 i2 os p.m p.key p.cd p.il p.cc p.pg p.ad bs ks).rs.length = 16 := by
  unfold xC
  split
  · split
    · exact (exO_len _ _ _ _ _ _ _ _ _).trans hl
    · exact hl
  · exact hl
theorem pexec_y {os : List Int} (op fm r1 r2 x2 b1 d1 b2 d2 l1 l2 i2 : Int) (p : Ps) (hl : os.length = 16) (ro : ∀ z ∈ os, 0 ≤ z ∧ z ≤ 4294967295) {w : World} {F : Foot} {bs ks : List Int} (h : St 77 w F bs ks) {O : Out} (hO : (xC op fm r1 r2 x2 b1 d1 b2 d2 l1 l2 i2 os p.m p.key p.cd p.il p.cc p.pg p.ad bs ks) = O) : Calls Tryz.prog 7 #[.agg #[.int .i64 op, .int .i64 fm, .int .i64 r1, .int .i64 r2, .int .i64 x2, .int .i64 b1, .int .i64 d1, .int .i64 b2, .int .i64 d2, .int .i64 l1, .int .i64 l2, .int .i64 i2], .agg (os.map (Value.int .u32)).toArray, .agg p.v.toArray, .pointer (some ⟨F.g, 0, none⟩)] w fun e w' => e = .returned (.tuple #[.agg (O.rs.map (Value.int .u32)).toArray, .agg (p.to O.cc O.pg O.ad).v.toArray, .int .i64 O.c]) ∧ St 77 w' F O.bs ks ∧ Ch w w' [F.gb] := pexec_x op fm r1 r2 x2 b1 d1 b2 d2 l1 l2 i2 p hl ro h hO
theorem rexec_y {os : List Int} (op fm r1 r2 x2 b1 d1 b2 d2 l1 l2 i2 : Int) (p : Ps) (hl : os.length = 16) (ro : ∀ z ∈ os, 0 ≤ z ∧ z ≤ 4294967295) {w : World} {G : Foot} {bs ks : List Int} (h : St 70 w G bs ks) {O : Out} (hO : (xC op fm r1 r2 x2 b1 d1 b2 d2 l1 l2 i2 os p.m p.key p.cd p.il p.cc p.pg p.ad bs ks) = O) : Calls Tryz.prog 8 #[.agg #[.int .i64 op, .int .i64 fm, .int .i64 r1, .int .i64 r2, .int .i64 x2, .int .i64 b1, .int .i64 d1, .int .i64 b2, .int .i64 d2, .int .i64 l1, .int .i64 l2, .int .i64 i2], .agg (os.map (Value.int .u32)).toArray, .agg p.v.toArray, .pointer (some ⟨G.g, 0, none⟩)] w fun e w' => e = .returned (.tuple #[.agg (O.rs.map (Value.int .u32)).toArray, .agg (p.to O.cc O.pg O.ad).v.toArray, .int .i64 O.c]) ∧ ∃ G' : Foot, G'.g = G.g ∧ (G' = G ∨ (w.heap.size ≤ G'.gb ∧ w.heap.size ≤ G'.gk)) ∧ St 70 w' G' O.bs ks ∧ Ch w w' [G.g] := (rexec_c op fm r1 r2 x2 b1 d1 b2 d2 l1 l2 i2 p hl ro h hO).mono fun e w' ⟨G', h1, h2, he, h4, h5⟩ => ⟨he, G', h1, h2, h4, h5⟩
end Go.Proofs.YthjdjbipfdigeaaGreat

namespace Go.Proofs.YthjdjbipfdigeaaGreat
open Go.RowKit
set_option linter.unusedVariables false

theorem row_byt {w : World} {a : Option Addr} {len cap : Nat} {zs : List Int} (h : IsRow .u8 w a len cap zs) : Byt w a len (zs.take len) ∧ (a = none → cap = 0) ∧ len ≤ cap ∧ cap ≤ maxLen := by
  rcases h with ⟨rfl, rfl, rfl, rfl⟩ | ⟨x, rfl, hl, hm, hz, hc, hw⟩
  · exact ⟨⟨rfl, by simp, fun h => absurd h (by omega)⟩, fun _ => rfl, Nat.le_refl _, Nat.zero_le _⟩
  · refine ⟨⟨by rw [List.length_take]; omega, fun n hn => ?_, fun h0 => ?_⟩, (by intro h; cases h), hl, hm⟩
    · exact bounds_u8 (hw n (List.mem_of_mem_take hn))
    · obtain ⟨b, off, spot⟩ := x
      have h1 := hc 0 (by omega)
      have hspot : spot = none := by simpa [Addr.add] using World.cell?_spot h1
      subst hspot
      refine ⟨b, off, rfl, fun i hi => ?_⟩
      have h2 := hc i (by omega)
      have hadd : (⟨b, off, none⟩ : Addr).add i = ⟨b, off + i, none⟩ := by unfold Addr.add; split <;> simp_all
      rw [hadd] at h2
      rw [h2]
      simp [List.getD_eq_getElem?_getD, hi]

section
variable {w : World} {base n : Nat} {zs : List Int} {g cap : Nat}
theorem Own.cell (h : Own w base (.slice (some ⟨g, 0, none⟩) n cap) n zs) {k : Nat} (hk : k < n) : w.cell? ⟨g, k, none⟩ = some (.int .u8 (zs.getD k 0)) := by
  obtain ⟨b, off, e, hc⟩ := h.byt.2.2 (by omega)
  injection e with e; injection e with e1 e2; subst e1 e2
  have := hc k hk
  rwa [Nat.zero_add] at this
end
end Go.Proofs.YthjdjbipfdigeaaGreat

namespace Go.Proofs.YthjdjbipfdigeaaGreat
open Go.RowKit
set_option maxRecDepth 100000
set_option linter.unusedVariables false
set_option linter.unusedSimpArgs false
attribute [local go_sem] eqr_run eqr_guard eqr_refl eqp_run eqp_guard eqp_refl
set_option maxRecDepth 1000000 in
set_option maxHeartbeats 8000000 in
theorem calls_go (op fm r1 r2 x2 b1 d1 b2 d2 l1 l2 i2 : Int) (rs : List Int) (p : Ps) (bl : Int) (KA : Option Addr) (kl kc : Nat) (kz : List Int) (PA : Option Addr) (pl pc_ : Nat) (w : World) (hr : rs.length = 16) (ro : ∀ z ∈ rs, 0 ≤ z ∧ z ≤ 4294967295) (h0 : 0 ≤ bl) (h1 : bl ≤ 255) (hk : Byt w KA kl kz) (hkl : (kl : Int) ≤ 9223372036854775807) (hp : Parts w PA pl) : Calls Tryz.prog 3 #[.agg #[.int .i64 op, .int .i64 fm, .int .i64 r1, .int .i64 r2, .int .i64 x2, .int .i64 b1, .int .i64 d1, .int .i64 b2, .int .i64 d2, .int .i64 l1, .int .i64 l2, .int .i64 i2], .agg (rs.map (Value.int .u32) ++ (p.v ++ [Value.int .u8 bl, Value.slice KA kl kc, Value.slice PA pl pc_])).toArray] w fun e w' => e = .returned (.bool true) ∧ Below w.heap.size w w' := by
  have BC := Lib.hid (fun W (hb : Below w.heap.size w W) => build_c bl KA kl kc kz PA pl pc_ W h0 h1 (hk.keep hb) hkl (hp.keep hb))
  have hsz : (rs.map (Value.int .u32) ++ (p.v ++ [Value.int .u8 bl, Value.slice KA kl kc, Value.slice PA pl pc_])).toArray.size = 29 := by simp [hr, Ps.v]
  have HL := Lib.hid hr
  have RO := Lib.hid ro
  have XK : Hid (∀ (W : World) g, Bk W g 34 (rs.map (Value.int .u32) ++ (p.v ++ [Value.int .u8 bl, Value.slice KA kl kc, Value.slice PA pl pc_])) → W.rangeAt g 0 (rs.map (Value.int .u32)) ∧ W.rangeAt g 16 p.v ∧ W.cell? ⟨g, 26, none⟩ = some (.int .u8 bl) ∧ W.cell? ⟨g, 27, none⟩ = some (.slice KA kl kc) ∧ W.cell? ⟨g, 28, none⟩ = some (.slice PA pl pc_)) := Lib.hid fun W g h => by
    refine ⟨Bk.mid (l := []) h, ?_, h.cell ?_, h.cell ?_, h.cell ?_⟩
    · have := Bk.mid (l := rs.map (Value.int .u32)) h
      rw [List.length_map, hr] at this
      exact this
    all_goals (rw [List.getElem?_append_right (by simp [hr])]; simp [hr, Ps.v])
  clear hk hkl hp h0 h1 ro hr
  go_enter Tryz.func3, Tryz.ntmps3
  go_upto_region 1 with fail
  have Z := Lib.hid (box2 w [.int .i64 op, .int .i64 fm, .int .i64 r1, .int .i64 r2, .int .i64 x2, .int .i64 b1, .int .i64 d1, .int .i64 b2, .int .i64 d2, .int .i64 l1, .int .i64 l2, .int .i64 i2] (rs.map (Value.int .u32) ++ (p.v ++ [Value.int .u8 bl, Value.slice KA kl kc, Value.slice PA pl pc_])) 23 34)
  obtain ⟨w1, hW⟩ : ∃ V, (w.alloc (.cells ([.int .i64 op, .int .i64 fm, .int .i64 r1, .int .i64 r2, .int .i64 x2, .int .i64 b1, .int .i64 d1, .int .i64 b2, .int .i64 d2, .int .i64 l1, .int .i64 l2, .int .i64 i2] : List Value).toArray 23)).alloc (.cells (rs.map (Value.int .u32) ++ (p.v ++ [Value.int .u8 bl, Value.slice KA kl kc, Value.slice PA pl pc_])).toArray 34) = V := ⟨_, rfl⟩
  rw [hW] at Z
  try rw [hW]
  have I := Lib.hid Z.out.1
  have X := Lib.hid Z.out.2.1
  have HB := Lib.hid Z.out.2.2
  have z1 := X.out.lt
  obtain ⟨-, -, kx26, kx27, kx28⟩ := XK.out _ _ X.out
  clear hsz hW Z
  go_upto_region 2 with (go_at_call 5; refine (BC.out _ HB.out).mono ?_; rintro e w2 ⟨F, G, bs, ks, rfl, hS, hT, hb, hf, hd⟩)
  clear kx26 kx27 kx28 BC
  have hTW : TW w w1.heap.size w2 F G bs ks bs := ⟨hS, hT, HB.out.trans (hb.mono HB.out.size), by omega, by omega⟩
  have T := Lib.hid hTW
  replace I := Lib.hid (I.out.keep hb)
  replace X := Lib.hid (X.out.keep hb)
  clear HB hS hT hb hf hd hTW
  go_upto_region 4 with (go_at_call 6; refine nx (works_c _) ?_; intro w3 HB3)
  replace I := Lib.hid (I.out.keep HB3.out)
  replace X := Lib.hid (X.out.keep HB3.out)
  replace T := Lib.hid (T.out.keep HB3.out)
  clear HB3
  obtain ⟨O, hO⟩ : ∃ o, (xC op fm r1 r2 x2 b1 d1 b2 d2 l1 l2 i2 rs p.m p.key p.cd p.il p.cc p.pg p.ad bs ks) = o := ⟨_, rfl⟩
  have OL : Hid (O.rs.length = 16) := Lib.hid (by rw [← hO]; exact xC_len16 HL.out op fm r1 r2 x2 b1 d1 b2 d2 l1 l2 i2 p bs ks)
  have EX := Lib.hid (fun W (h : TW w w1.heap.size W F G bs ks bs) => pexec_y op fm r1 r2 x2 b1 d1 b2 d2 l1 l2 i2 p HL.out RO.out h.s hO)
  have EY := Lib.hid (fun W b (h : TW w w1.heap.size W F G b ks bs) => rexec_y op fm r1 r2 x2 b1 d1 b2 d2 l1 l2 i2 p HL.out RO.out h.t hO)
  clear hO RO
  have XR := (XK.out _ _ X.out).1
  have XP := (XK.out _ _ X.out).2.1
  go_upto_region 4 with fail
  refine wp_region_list ?_
  simp only [List.append_eq, List.cons_append, List.nil_append]
  refine lsl I.out ?_
  refine lsv ?_
  refine lsm (cs := rs.map (Value.int .u32)) XR ?_ (hi := by rw [List.length_map, HL.out]; kernel_rfl)
  refine lsv ?_
  refine lsm (cs := p.v) XP ?_
  refine lsv ?_
  refine lsc (EX.out _ T.out) ?_
  intro w4 Z
  refine lsv ?_
  refine lsv ?_
  refine lsv ?_
  refine lsv ?_
  refine lsv (v := .pointer (some ⟨w4.heap.size, 0, none⟩)) (w' := w4.alloc (.cells ([.int .u32 0, .int .u32 0, .int .u32 0, .int .u32 0, .int .u32 0, .int .u32 0, .int .u32 0, .int .u32 0, .int .u32 0, .int .u32 0, .int .u32 0, .int .u32 0, .int .u32 0, .int .u32 0, .int .u32 0, .int .u32 0] : List Value).toArray 26)) ?_
  refine lsv (v := .pointer (some ⟨w4.heap.size + 1, 0, none⟩)) (w' := (w4.alloc (.cells ([.int .u32 0, .int .u32 0, .int .u32 0, .int .u32 0, .int .u32 0, .int .u32 0, .int .u32 0, .int .u32 0, .int .u32 0, .int .u32 0, .int .u32 0, .int .u32 0, .int .u32 0, .int .u32 0, .int .u32 0, .int .u32 0] : List Value).toArray 26)).alloc (.cells ([.int .i64 0, .int .i64 0, .bool false, .bool false, .bool false, .int .i64 0, .int .i64 0, .int .i64 0, .int .i64 0, .int .i64 0] : List Value).toArray 28)) ?_
  refine lss (cs' := O.rs.map (Value.int .u32)) (box2 w4 [.int .u32 0, .int .u32 0, .int .u32 0, .int .u32 0, .int .u32 0, .int .u32 0, .int .u32 0, .int .u32 0, .int .u32 0, .int .u32 0, .int .u32 0, .int .u32 0, .int .u32 0, .int .u32 0, .int .u32 0, .int .u32 0] [.int .i64 0, .int .i64 0, .bool false, .bool false, .bool false, .int .i64 0, .int .i64 0, .int .i64 0, .int .i64 0, .int .i64 0] 26 28).1 (by rw [List.length_map, OL.out]; rfl) (one_u32 _) (by rw [List.length_map, OL.out]; kernel_rfl) ?_
  refine lss (cs' := (p.to O.cc O.pg O.ad).v) ((box2 w4 [.int .u32 0, .int .u32 0, .int .u32 0, .int .u32 0, .int .u32 0, .int .u32 0, .int .u32 0, .int .u32 0, .int .u32 0, .int .u32 0, .int .u32 0, .int .u32 0, .int .u32 0, .int .u32 0, .int .u32 0, .int .u32 0] [.int .i64 0, .int .i64 0, .bool false, .bool false, .bool false, .int .i64 0, .int .i64 0, .int .i64 0, .int .i64 0, .int .i64 0] 26 28).2.1.rowOth (by omega) _) (by rfl) (one_ps _) (by kernel_rfl) ?_
  refine lsv ?_
  refine wpList_nil ?_
  have T4 := Lib.hid (T.out.fx Z.out.1 Z.out.2)
  have hf := T.out.f
  have I4 := Lib.hid (I.out.ch Z.out.2 (by simp; omega))
  have X4 := Lib.hid (X.out.ch Z.out.2 (by simp; omega))
  have Z4 := Lib.hid (box2s w4 [.int .u32 0, .int .u32 0, .int .u32 0, .int .u32 0, .int .u32 0, .int .u32 0, .int .u32 0, .int .u32 0, .int .u32 0, .int .u32 0, .int .u32 0, .int .u32 0, .int .u32 0, .int .u32 0, .int .u32 0, .int .u32 0] [.int .i64 0, .int .i64 0, .bool false, .bool false, .bool false, .int .i64 0, .int .i64 0, .int .i64 0, .int .i64 0, .int .i64 0] (O.rs.map (Value.int .u32)) (p.to O.cc O.pg O.ad).v 26 28)
  obtain ⟨w5, hW⟩ : ∃ V, ((((w4.alloc (.cells ([.int .u32 0, .int .u32 0, .int .u32 0, .int .u32 0, .int .u32 0, .int .u32 0, .int .u32 0, .int .u32 0, .int .u32 0, .int .u32 0, .int .u32 0, .int .u32 0, .int .u32 0, .int .u32 0, .int .u32 0, .int .u32 0] : List Value).toArray 26)).alloc (.cells ([.int .i64 0, .int .i64 0, .bool false, .bool false, .bool false, .int .i64 0, .int .i64 0, .int .i64 0, .int .i64 0, .int .i64 0] : List Value).toArray 28)).setRow w4.heap.size (O.rs.map (Value.int .u32)).toArray).setRow (w4.heap.size + 1) (p.to O.cc O.pg O.ad).v.toArray) = V := ⟨_, rfl⟩
  rw [hW] at Z4
  try rw [hW]
  obtain ⟨h7, h8, hb⟩ := Z4.out
  have s4 := T4.out.s.ltb
  have s5 := T4.out.t.ltg
  obtain ⟨g7, hg⟩ : ∃ g, w4.heap.size = g := ⟨_, rfl⟩
  rw [hg] at h7 h8 s4 s5
  try simp only [hg]
  have R7 := Lib.hid h7
  have R8 := Lib.hid h8
  replace T := Lib.hid (T4.out.keep hb)
  replace I := Lib.hid (I4.out.keep hb)
  replace X := Lib.hid (X4.out.keep hb)
  clear T4 I4 X4 Z4 Z h7 h8 hb hW hg XR XP
  have XR := (XK.out _ _ X.out).1
  have XP := (XK.out _ _ X.out).2.1
  go_upto_region 5 with fail
  refine wp_region_list ?_
  simp only [List.append_eq, List.cons_append, List.nil_append]
  refine lsl I.out ?_
  refine lsv ?_
  refine lsm (cs := rs.map (Value.int .u32)) XR ?_ (hi := by rw [List.length_map, HL.out]; kernel_rfl)
  refine lsv ?_
  refine lsm (cs := p.v) XP ?_
  refine lsv ?_
  refine lsc (EY.out _ _ T.out) ?_
  intro w6 Z
  refine lsv ?_
  refine lsv ?_
  refine lsv ?_
  refine lsv ?_
  refine lsv (v := .pointer (some ⟨w6.heap.size, 0, none⟩)) (w' := w6.alloc (.cells ([.int .u32 0, .int .u32 0, .int .u32 0, .int .u32 0, .int .u32 0, .int .u32 0, .int .u32 0, .int .u32 0, .int .u32 0, .int .u32 0, .int .u32 0, .int .u32 0, .int .u32 0, .int .u32 0, .int .u32 0, .int .u32 0] : List Value).toArray 26)) ?_
  refine lsv (v := .pointer (some ⟨w6.heap.size + 1, 0, none⟩)) (w' := (w6.alloc (.cells ([.int .u32 0, .int .u32 0, .int .u32 0, .int .u32 0, .int .u32 0, .int .u32 0, .int .u32 0, .int .u32 0, .int .u32 0, .int .u32 0, .int .u32 0, .int .u32 0, .int .u32 0, .int .u32 0, .int .u32 0, .int .u32 0] : List Value).toArray 26)).alloc (.cells ([.int .i64 0, .int .i64 0, .bool false, .bool false, .bool false, .int .i64 0, .int .i64 0, .int .i64 0, .int .i64 0, .int .i64 0] : List Value).toArray 28)) ?_
  refine lss (cs' := O.rs.map (Value.int .u32)) (box2 w6 [.int .u32 0, .int .u32 0, .int .u32 0, .int .u32 0, .int .u32 0, .int .u32 0, .int .u32 0, .int .u32 0, .int .u32 0, .int .u32 0, .int .u32 0, .int .u32 0, .int .u32 0, .int .u32 0, .int .u32 0, .int .u32 0] [.int .i64 0, .int .i64 0, .bool false, .bool false, .bool false, .int .i64 0, .int .i64 0, .int .i64 0, .int .i64 0, .int .i64 0] 26 28).1 (by rw [List.length_map, OL.out]; rfl) (one_u32 _) (by rw [List.length_map, OL.out]; kernel_rfl) ?_
  refine lss (cs' := (p.to O.cc O.pg O.ad).v) ((box2 w6 [.int .u32 0, .int .u32 0, .int .u32 0, .int .u32 0, .int .u32 0, .int .u32 0, .int .u32 0, .int .u32 0, .int .u32 0, .int .u32 0, .int .u32 0, .int .u32 0, .int .u32 0, .int .u32 0, .int .u32 0, .int .u32 0] [.int .i64 0, .int .i64 0, .bool false, .bool false, .bool false, .int .i64 0, .int .i64 0, .int .i64 0, .int .i64 0, .int .i64 0] 26 28).2.1.rowOth (by omega) _) (by rfl) (one_ps _) (by kernel_rfl) ?_
  refine lsv ?_
  refine wpList_nil ?_
  obtain ⟨G', g1, g2, hS, hc⟩ := Z.out
  have T6 := Lib.hid (T.out.gx g1 g2 hS hc)
  have R7' := Lib.hid (R7.out.ch hc (by simp; omega))
  have R8' := Lib.hid (R8.out.ch hc (by simp; omega))
  have Z4 := Lib.hid (box2s w6 [.int .u32 0, .int .u32 0, .int .u32 0, .int .u32 0, .int .u32 0, .int .u32 0, .int .u32 0, .int .u32 0, .int .u32 0, .int .u32 0, .int .u32 0, .int .u32 0, .int .u32 0, .int .u32 0, .int .u32 0, .int .u32 0] [.int .i64 0, .int .i64 0, .bool false, .bool false, .bool false, .int .i64 0, .int .i64 0, .int .i64 0, .int .i64 0, .int .i64 0] (O.rs.map (Value.int .u32)) (p.to O.cc O.pg O.ad).v 26 28)
  obtain ⟨w7, hW⟩ : ∃ V, ((((w6.alloc (.cells ([.int .u32 0, .int .u32 0, .int .u32 0, .int .u32 0, .int .u32 0, .int .u32 0, .int .u32 0, .int .u32 0, .int .u32 0, .int .u32 0, .int .u32 0, .int .u32 0, .int .u32 0, .int .u32 0, .int .u32 0, .int .u32 0] : List Value).toArray 26)).alloc (.cells ([.int .i64 0, .int .i64 0, .bool false, .bool false, .bool false, .int .i64 0, .int .i64 0, .int .i64 0, .int .i64 0, .int .i64 0] : List Value).toArray 28)).setRow w6.heap.size (O.rs.map (Value.int .u32)).toArray).setRow (w6.heap.size + 1) (p.to O.cc O.pg O.ad).v.toArray) = V := ⟨_, rfl⟩
  rw [hW] at Z4
  try rw [hW]
  obtain ⟨h9, h10, hb⟩ := Z4.out
  obtain ⟨g9, hg⟩ : ∃ g, w6.heap.size = g := ⟨_, rfl⟩
  rw [hg] at h9 h10
  try simp only [hg]
  have h7 := R7'.out.keep hb
  have h8 := R8'.out.keep hb
  replace T := Lib.hid (T6.out.keep hb)
  clear T6 R7 R8 R7' R8' Z4 Z I X EX EY hb hW hg XR XP g2 hS hc
  obtain ⟨n0, n1, n2, n3, n4, n5, n6, n7, n8, n9, n10, n11, n12, n13, n14, n15, hrs⟩ := list_16 OL.out
  rw [hrs] at h7 h9
  refine Bk.opn16 h7 ?_
  refine Bk.opn16 h9 ?_
  refine Bk.opn10 h8 ?_
  refine Bk.opn10 h10 ?_
  clear h7 h8 h9 h10 hrs OL
  intros
  rw [← g1]
  clear g1
  go_wp2_with (go_at_call 9; refine nx (like_c T.out.s T.out.t) ?_; intro w8 HB8)
  go_ret
  exact ⟨by rfl, T.out.b.trans (HB8.out.mono T.out.b.size)⟩
theorem generalCalls_walk (op fm r1 r2 x2 b1 d1 b2 d2 l1 l2 i2 : Int) (rs : List Int) (pm pk : Int) (pM pW pP : Bool) (pc pi pq pg pa : Int) (bl : Int) (KA : Option Addr) (kl kc : Nat) (kz : List Int) (PA : Option Addr) (pl pc_ : Nat) (w : World) (wf_op : (Lit.int .i64 op).wf = true) (wf_fm : (Lit.int .i64 fm).wf = true) (wf_r1 : (Lit.int .i64 r1).wf = true) (wf_r2 : (Lit.int .i64 r2).wf = true) (wf_x2 : (Lit.int .i64 x2).wf = true) (wf_b1 : (Lit.int .i64 b1).wf = true) (wf_d1 : (Lit.int .i64 d1).wf = true) (wf_b2 : (Lit.int .i64 b2).wf = true) (wf_d2 : (Lit.int .i64 d2).wf = true) (wf_l1 : (Lit.int .i64 l1).wf = true) (wf_l2 : (Lit.int .i64 l2).wf = true) (wf_i2 : (Lit.int .i64 i2).wf = true) (hr : rs.length = 16) (wr : ∀ z ∈ rs, (Lit.int .u32 z).wf = true) (hb : 0 ≤ bl ∧ bl ≤ 255) (hk : Byt w KA kl kz) (hkl : (kl : Int) ≤ 9223372036854775807) (hp : Parts w PA pl) : Calls Tryz.prog 3 #[.agg #[.int .i64 op, .int .i64 fm, .int .i64 r1, .int .i64 r2, .int .i64 x2, .int .i64 b1, .int .i64 d1, .int .i64 b2, .int .i64 d2, .int .i64 l1, .int .i64 l2, .int .i64 i2], .agg (rs.map (Value.int .u32) ++ ([.int .i64 pm, .int .i64 pk, .bool pM, .bool pW, .bool pP, .int .i64 pc, .int .i64 pi, .int .i64 pq, .int .i64 pg, .int .i64 pa, .int .u8 bl, .slice KA kl kc, .slice PA pl pc_] : List Value)).toArray] w fun e w' => e = .returned (.bool true) ∧ Below w.heap.size w w' :=
  calls_go op fm r1 r2 x2 b1 d1 b2 d2 l1 l2 i2 rs { m := pm, key := pk, M := pM, W := pW, P := pP, cd := pc, il := pi, cc := pq, pg := pg, ad := pa } bl KA kl kc kz PA pl pc_ w hr (fun z hz => bounds_u32 (wr z hz)) hb.1 hb.2 hk hkl hp
end Go.Proofs.YthjdjbipfdigeaaGreat

namespace Go.Proofs.YthjdjbipfdigeaaGreat
open Go.ChangeShapes Go.WideShapes Go.ChangeAt Go.RowKit Go.Deep
set_option maxRecDepth 100000
set_option linter.unusedVariables false
section
variable {H : Type} {enc : TypeId × Value → H} {P : Program} {w : World} {base : Nat} {spare : Nat → Bool} {held : Bool}
theorem cells_arr {t e : TypeId} {k : IntKind} {n fuel : Nat} {cs : List Value} {x : DataW H × List MemPlace} (hs : P.underlying t = some (.array n e)) (he : P.underlying e = some (.int k)) (h1 : P.cellsOf e = 1) (hl : cs.length = n)
    (h : DataW.trod enc P w base spare held fuel t cs = some x) : ∃ zs : List Int, cs = zs.map (Value.int k) ∧ zs.length = n ∧ ∀ z ∈ zs, (Lit.int k z).wf = true := by
  obtain ⟨xs, m, _, hx, _, hlen, hg⟩ := DataW.trod_array hs h
  have key : ∀ i, i < n → ∃ z : Int, cs[i]? = some (.int k z) ∧ (Lit.int k z).wf = true := by
    intro i hi
    have h2 := hg i hi
    rw [h1, Nat.mul_one] at h2
    have hjc : i < cs.length := by omega
    have e1 : (cs.drop i).take 1 = [cs[i]] := by
      rw [List.drop_eq_getElem_cons hjc]; rfl
    rw [e1] at h2
    have hxj : xs[i]? = some (xs[i]'(by omega)) := List.getElem?_eq_getElem (by omega)
    obtain ⟨a, e0, _, wa⟩ := DataW.trod_int he (h2.trans hxj)
    simp at e0
    exact ⟨a, by rw [List.getElem?_eq_getElem hjc, e0], wa⟩
  obtain ⟨f, hf2⟩ := choose_lt (α := Int) (p := fun i z => cs[i]? = some (.int k z) ∧ (Lit.int k z).wf = true) key
  refine ⟨(List.range n).map f, ?_, by simp, ?_⟩
  · apply List.ext_getElem?
    intro i
    by_cases hi : i < n
    · rw [(hf2 i hi).1]; simp [hi]
    · rw [List.getElem?_eq_none (by omega)]; simp [hi]
  · intro z hz
    obtain ⟨i, hi, rfl⟩ := List.mem_map.1 hz
    exact (hf2 i (List.mem_range.1 hi)).2
theorem cells_fields {t : TypeId} {fs : Array Field} {fuel : Nat} {cs : List Value} {x : DataW H × List MemPlace} (hs : P.underlying t = some (.struct fs)) (hone : oneCellFields P fs = true) (hl : cs.length = fs.size)
    (h : DataW.trod enc P w base spare held fuel t cs = some x) : ∀ (j : Nat) (f : Field), fs[j]? = some f → ∃ (u : Value) (y : DataW H × List MemPlace) (n : Nat), cs[j]? = some u ∧ DataW.trod enc P w base spare held n f.type [u] = some y := by
  obtain ⟨xs, n, _, hx, _, hlen, hg⟩ := DataW.trod_struct hs h
  intro j f hj
  obtain ⟨o, k⟩ := hone_of hone j f hj
  have h1 := hg j f hj
  have hjl : j < fs.size := (Array.getElem?_eq_some_iff.1 hj).1
  have hjc : j < cs.length := by omega
  rw [o, k] at h1
  have e1 : (cs.drop j).take 1 = [cs[j]] := by
    rw [List.drop_eq_getElem_cons hjc]; rfl
  rw [e1] at h1
  have hxj : xs[j]? = some (xs[j]'(by omega)) := List.getElem?_eq_getElem (by omega)
  exact ⟨cs[j], _, n, List.getElem?_eq_getElem hjc, h1.trans hxj⟩
end
theorem list_10 {α : Type} : ∀ {l : List α}, l.length = 10 → ∃ a b c d e f g h i j, l = [a, b, c, d, e, f, g, h, i, j]
  | [a, b, c, d, e, f, g, h, i, j], _ => ⟨a, b, c, d, e, f, g, h, i, j, rfl⟩
theorem list_3 {α : Type} : ∀ {l : List α}, l.length = 3 → ∃ a b c, l = [a, b, c]
  | [a, b, c], _ => ⟨a, b, c, rfl⟩
theorem list_16f {α : Type} : ∀ {l : List α}, l.length = 16 → ∃ x0 x1 x2 x3 x4 x5 x6 x7 x8 x9 x10 x11 x12 x13 x14 x15, l = [x0, x1, x2, x3, x4, x5, x6, x7, x8, x9, x10, x11, x12, x13, x14, x15]
  | [x0, x1, x2, x3, x4, x5, x6, x7, x8, x9, x10, x11, x12, x13, x14, x15], _ => ⟨x0, x1, x2, x3, x4, x5, x6, x7, x8, x9, x10, x11, x12, x13, x14, x15, rfl⟩
/-- a status word's ten cells -/
theorem cells_psw {H : Type} {enc : TypeId × Value → H} {w : World} {base : Nat} {spare : Nat → Bool} {held : Bool} {fuel : Nat} {cs : List Value} {x : DataW H × List MemPlace} (hl : cs.length = 10) (h : DataW.trod enc Tryz.prog w base spare held fuel 28 cs = some x) :
    ∃ (m k : Int) (M W P : Bool) (c i q g a : Int), cs = [.int .i64 m, .int .i64 k, .bool M, .bool W, .bool P, .int .i64 c, .int .i64 i, .int .i64 q, .int .i64 g, .int .i64 a] := by
  have hf := cells_fields Tryz.underlying28 (by kernel_rfl) hl h
  obtain ⟨u0, y0, n0, g0, t0⟩ := hf 0 _ rfl
  obtain ⟨u1, y1, n1, g1, t1⟩ := hf 1 _ rfl
  obtain ⟨u2, y2, n2, g2, t2⟩ := hf 2 _ rfl
  obtain ⟨u3, y3, n3, g3, t3⟩ := hf 3 _ rfl
  obtain ⟨u4, y4, n4, g4, t4⟩ := hf 4 _ rfl
  obtain ⟨u5, y5, n5, g5, t5⟩ := hf 5 _ rfl
  obtain ⟨u6, y6, n6, g6, t6⟩ := hf 6 _ rfl
  obtain ⟨u7, y7, n7, g7, t7⟩ := hf 7 _ rfl
  obtain ⟨u8, y8, n8, g8, t8⟩ := hf 8 _ rfl
  obtain ⟨u9, y9, n9, g9, t9⟩ := hf 9 _ rfl
  obtain ⟨v0, v1, v2, v3, v4, v5, v6, v7, v8, v9, rfl⟩ := list_10 hl
  simp only [List.getElem?_cons_zero, List.getElem?_cons_succ, Option.some.injEq] at g0 g1 g2 g3 g4 g5 g6 g7 g8 g9
  subst g0 g1 g2 g3 g4 g5 g6 g7 g8 g9
  obtain ⟨z0, rfl, _⟩ := field_int Tryz.underlying3 t0
  obtain ⟨z1, rfl, _⟩ := field_int Tryz.underlying3 t1
  obtain ⟨z2, rfl⟩ := field_bool Tryz.underlying4 t2
  obtain ⟨z3, rfl⟩ := field_bool Tryz.underlying4 t3
  obtain ⟨z4, rfl⟩ := field_bool Tryz.underlying4 t4
  obtain ⟨z5, rfl, _⟩ := field_int Tryz.underlying3 t5
  obtain ⟨z6, rfl, _⟩ := field_int Tryz.underlying3 t6
  obtain ⟨z7, rfl, _⟩ := field_int Tryz.underlying3 t7
  obtain ⟨z8, rfl, _⟩ := field_int Tryz.underlying3 t8
  obtain ⟨z9, rfl, _⟩ := field_int Tryz.underlying3 t9
  exact ⟨z0, z1, z2, z3, z4, z5, z6, z7, z8, z9, rfl⟩
theorem open_state {H : Type} {enc : TypeId × Value → H} {w : World} {base : Nat} {spare : Nat → Bool} {held : Bool} {r : Reach} {b0 : Nat} {v : Value} {d : DataW H} {p : List MemPlace} (hv : Value.okWide Tryz.prog w r b0 34 v) (h : DataW.Trod enc Tryz.prog w base spare held 34 v d p) :
    ∃ (rs : List Int) (m k : Int) (M W P : Bool) (c i q g a : Int) (x y z : Value), v = .agg (rs.map (Value.int .u32) ++ [.int .i64 m, .int .i64 k, .bool M, .bool W, .bool P, .int .i64 c, .int .i64 i, .int .i64 q, .int .i64 g, .int .i64 a, x, y, z]).toArray ∧ rs.length = 16 ∧ ∀ z ∈ rs, (Lit.int .u32 z).wf = true := by
  obtain ⟨cs, rfl, hsz⟩ := okWide_struct Tryz.underlying34 hv
  obtain ⟨fuel, hf⟩ := h
  obtain ⟨xs, n, _, hx, _, hlen, hg⟩ := DataW.trod_struct Tryz.underlying34 hf
  have hs29 : cs.toList.length = 29 := by rw [Array.length_toList, hsz]; kernel_rfl
  have h0 := hg 0 _ rfl
  have h1 := hg 1 _ rfl
  have hxs : xs.length = 3 := hlen
  obtain ⟨x0, x1, x2, rfl⟩ := list_3 hxs
  have h0' : DataW.trod enc Tryz.prog w base spare held n 26 (cs.toList.take 16) = some x0 := h0
  have h1' : DataW.trod enc Tryz.prog w base spare held n 28 ((cs.toList.drop 16).take 10) = some x1 := h1
  obtain ⟨rs, e0, hr, wr⟩ := cells_arr (n := 16) (by kernel_rfl) Tryz.underlying24 (by kernel_rfl) (by rw [List.length_take, hs29]; decide) h0'
  obtain ⟨m, k, M, W, P, c, i, q, g, a, e1⟩ := cells_psw (by rw [List.length_take, List.length_drop, hs29]; decide) h1'
  obtain ⟨x, y, z, e2⟩ := list_3 (l := cs.toList.drop 26) (by rw [List.length_drop, hs29])
  refine ⟨rs, m, k, M, W, P, c, i, q, g, a, x, y, z, ?_, hr, wr⟩
  congr 1
  apply Array.toList_inj.mp
  have e3 : cs.toList = cs.toList.take 16 ++ ((cs.toList.drop 16).take 10 ++ cs.toList.drop 26) := by
    have e4 : cs.toList.drop 26 = (cs.toList.drop 16).drop 10 := by rw [List.drop_drop]
    rw [e4, List.take_append_drop, List.take_append_drop]
  rw [e3, e0, e1, e2]
  simp
end Go.Proofs.YthjdjbipfdigeaaGreat

namespace Go.Proofs.YthjdjbipfdigeaaGreat
open Go.ChangeShapes Go.WideShapes Go.ChangeAt Go.RowKit Go.Deep
set_option maxRecDepth 100000
set_option linter.unusedVariables false
section
variable {H : Type} {enc : TypeId × Value → H} {P : Program} {w : World} {base : Nat} {spare : Nat → Bool} {held : Bool}
theorem open_slice_fields {t e : TypeId} {fs : Array Field} {fuel : Nat} {cs : List Value} {x : DataW H × List MemPlace} (ht : P.underlying t = some (.slice e)) (he : P.underlying e = some (.struct fs))
    (hone : oneCellFields P fs = true) (hC : P.cellsOf e = fs.size) (h : DataW.trod enc P w base spare held fuel t cs = some x) :
    (cs = [.slice none 0 0] ∧ x = (.nil, [])) ∨
    ∃ (a : Addr) (len cap m : Nat) (D : Nat → DataW H) (Pl : Nat → List MemPlace), cs = [.slice (some a) len cap] ∧ base ≤ a.block ∧ len ≤ cap ∧ cap ≤ maxLen ∧ m = (if spare a.block then cap else len) ∧
      x = (.slice ((List.range len).map D) ((List.range (m - len)).map fun j => D (len + j)), MemPlace.row a (m * fs.size) ++ (List.range m).flatMap Pl) ∧
      ∀ i, i < m → ∃ (ys : List (DataW H × List MemPlace)) (n : Nat), D i = .agg (ys.map (·.1)) ∧ Pl i = ys.flatMap (·.2) ∧ ys.length = fs.size ∧
        ∀ (j : Nat) (f : Field), fs[j]? = some f → ∃ (v : Value) (y : DataW H × List MemPlace), w.cell? (a.add (i * fs.size + j)) = some v ∧ ys[j]? = some y ∧ DataW.trod enc P w base spare held n f.type [v] = some y := by
  rcases open_slice ht h with h0 | ⟨a, len, cap, m, n, D, Pl, hcs, hb, hl, hm, hmm, hx, hi⟩
  · exact .inl h0
  · refine .inr ⟨a, len, cap, m, D, Pl, hcs, hb, hl, hm, hmm, by rw [hC] at hx; exact hx, fun i him => ?_⟩
    obtain ⟨cs', hc, ht'⟩ := hi i him
    rw [hC] at hc
    obtain ⟨ys, n', hn', hy, hlen, hyl, hf⟩ := DataW.trod_struct he ht'
    obtain ⟨_, hcl, hat⟩ := World.cells?_some hc
    simp only [Prod.mk.injEq] at hy
    refine ⟨ys, n', hy.1, hy.2, hyl, fun j f hj => ?_⟩
    obtain ⟨ho, hk⟩ := hone_of hone j f hj
    have hjl : j < fs.size := (Array.getElem?_eq_some_iff.1 hj).1
    have hcell := hat j hjl
    have hv : cs'[j]? = some (cs'[j]'(by omega)) := List.getElem?_eq_getElem (by omega)
    have h1 := hf j f hj
    rw [ho, hk] at h1
    have hone' : (cs'.drop j).take 1 = [cs'[j]'(by omega)] := by
      rw [List.drop_eq_getElem_cons (by omega)]
      rfl
    rw [hone'] at h1
    have hys : ys[j]? = some (ys[j]'(by omega)) := List.getElem?_eq_getElem (by omega)
    refine ⟨_, _, ?_, hys, h1.trans hys⟩
    rw [← Go.Deep.add_add, hcell, hv]
theorem open_rowv {t e : TypeId} {k : IntKind} {v : Value} {n : Nat} {y : DataW H × List MemPlace} (ht : P.underlying t = some (.slice e)) (he : P.underlying e = some (.int k)) (hC : P.cellsOf e = 1)
    (h : DataW.trod enc P w 0 (fun _ => true) true n t [v] = some y) : ∃ a len cap zs, v = .slice a len cap ∧ IsRow k w a len cap zs := by
  rcases open_ints ht he hC h with ⟨hcs, _⟩ | ⟨x, l, c, zs, hcs, _, hl, hm, hz, hx, hcell, hwz⟩
  · simp at hcs
    subst hcs
    exact ⟨none, 0, 0, [], rfl, .inl ⟨rfl, rfl, rfl, rfl⟩⟩
  · simp at hcs
    subst hcs
    exact ⟨_, _, _, zs, rfl, .inr ⟨_, rfl, hl, hm, by simpa using hz, hcell, hwz⟩⟩
end
theorem open_parts {H : Type} {enc : TypeId × Value → H} {w : World} {v : Value} {n : Nat} {y : DataW H × List MemPlace} (hf : DataW.trod enc Tryz.prog w 0 (fun _ => true) true n 30 [v] = some y) : ∃ a len cap, v = .slice a len cap ∧ Parts w a len := by
  rcases open_slice_fields (fs := _) Tryz.underlying30 Tryz.underlying53 (by kernel_rfl) (by kernel_rfl) hf with ⟨hcs, _⟩ | ⟨x, l, c, m, D, Pl, hcs, _, hl, hm, hmm, _, hi⟩
  · simp at hcs
    subst hcs
    exact ⟨none, 0, 0, rfl, by omega, fun i hi => by omega⟩
  · simp at hcs
    subst hcs
    simp only [if_true] at hmm
    subst hmm
    refine ⟨_, _, _, rfl, by unfold maxLen at hm; omega, fun i hil => ?_⟩
    obtain ⟨b, off, spot⟩ := x
    have hspot : spot = none := by
      obtain ⟨ys, n, _, _, _, hg⟩ := hi 0 (by omega)
      obtain ⟨v, y, hc, _⟩ := hg 0 _ rfl
      simpa [Addr.add] using World.cell?_spot hc
    subst hspot
    have hadd : ∀ i, (⟨b, off, none⟩ : Addr).add i = ⟨b, off + i, none⟩ := by intro i; unfold Addr.add; split <;> simp_all
    obtain ⟨ys, n, _, _, _, hg⟩ := hi i (by omega)
    obtain ⟨v0, y0, c0, _, t0⟩ := hg 0 _ rfl
    obtain ⟨v1, y1, c1, _, t1⟩ := hg 1 _ rfl
    obtain ⟨z0, rfl, w0⟩ := field_int Tryz.underlying51 t0
    obtain ⟨A, l4, k4, zs, rfl, hr⟩ := open_rowv Tryz.underlying29 Tryz.underlying5 (by kernel_rfl) t1
    obtain ⟨hb, _, hle, hmx⟩ := row_byt hr
    rw [hadd] at c0 c1
    have hz := bounds_u16 w0
    refine ⟨b, off, z0, A, l4, k4, _, rfl, ?_, hz.1, hz.2, ?_, hb, by unfold maxLen at hmx; omega⟩
    · simpa [Nat.add_assoc] using c0
    · simpa [Nat.add_assoc] using c1
theorem open_state2 {H : Type} {enc : TypeId × Value → H} {w : World} {r : Reach} {b0 : Nat} {v : Value} {d : DataW H} {p : List MemPlace} (hv : Value.okWide Tryz.prog w r b0 34 v) (h : DataW.Trod enc Tryz.prog w 0 (fun _ => true) true 34 v d p) :
    ∃ (rs : List Int) (m k : Int) (M W P : Bool) (c i q g a : Int) (bl : Int) (KA : Option Addr) (kl kc : Nat) (kz : List Int) (PA : Option Addr) (pl pc : Nat), v = .agg (rs.map (Value.int .u32) ++ ([.int .i64 m, .int .i64 k, .bool M, .bool W, .bool P, .int .i64 c, .int .i64 i, .int .i64 q, .int .i64 g, .int .i64 a, .int .u8 bl, .slice KA kl kc, .slice PA pl pc] : List Value)).toArray ∧ rs.length = 16 ∧ (∀ z ∈ rs, (Lit.int .u32 z).wf = true) ∧ (0 ≤ bl ∧ bl ≤ 255) ∧ Byt w KA kl kz ∧ (kl : Int) ≤ 9223372036854775807 ∧ Parts w PA pl := by
  obtain ⟨rs, m, k, M, W, P, c, i, q, g, a, x, y, z, rfl, hr, wr⟩ := open_state hv h
  obtain ⟨fuel, hf⟩ := h
  obtain ⟨xs, n, _, hx, _, hlen, hg⟩ := DataW.trod_struct Tryz.underlying34 hf
  have h2 := hg 2 _ rfl
  have hxs : xs.length = 3 := hlen
  obtain ⟨x0, x1, x2, rfl⟩ := list_3 hxs
  obtain ⟨r0, r1, r2, r3, r4, r5, r6, r7, r8, r9, r10, r11, r12, r13, r14, r15, rfl⟩ := list_16f hr
  have h2' : DataW.trod enc Tryz.prog w 0 (fun _ => true) true n 32 [x, y, z] = some x2 := h2
  have hm := cells_fields Tryz.underlying32 (by kernel_rfl) rfl h2'
  obtain ⟨u0, y0, n0, g0, t0⟩ := hm 0 _ rfl
  obtain ⟨u1, y1, n1, g1, t1⟩ := hm 1 _ rfl
  obtain ⟨u2, y2, n2, g2, t2⟩ := hm 2 _ rfl
  simp only [List.getElem?_cons_zero, List.getElem?_cons_succ, Option.some.injEq] at g0 g1 g2
  subst g0 g1 g2
  obtain ⟨bl, rfl, wb⟩ := field_int Tryz.underlying5 t0
  obtain ⟨KA, kl, kc, kz, rfl, hk⟩ := open_rowv Tryz.underlying29 Tryz.underlying5 (by kernel_rfl) t1
  obtain ⟨PA, pl, pc, rfl, hp⟩ := open_parts t2
  obtain ⟨hb, _, hle, hmx⟩ := row_byt hk
  exact ⟨_, m, k, M, W, P, c, i, q, g, a, bl, KA, kl, kc, _, PA, pl, pc, rfl, hr, wr, bounds_u8 wb, hb, by unfold maxLen at hmx; omega, hp⟩
end Go.Proofs.YthjdjbipfdigeaaGreat

namespace Go.Proofs.YthjdjbipfdigeaaGreat.generalCalls
open Go.ChangeShapes Go.WideShapes Go.ChangeAt Go.RowKit
open Go.ChangeMaps (open_string shut_string)
set_option linter.unusedVariables false

set_option maxRecDepth 100000 in
theorem lifted (os : Os) (started : os.Started) (H : Type) (enc : TypeId × Value → H) :
    ReturnsInHanded {} Tryz.checked os 3 .any (Rows.generalCallsSpec.pre6 enc Tryz.prog Tryz.f3 Rows.generalCallsRow.domain false) (Rows.generalCallsSpec.post enc Tryz.prog Tryz.f3 false true false false) := by
  refine returnsInHanded_of_change (C := Tryz.checked) own started (by kernel_rfl) Tryz.func3
    (ChangeSpec.witness6 (enc := enc) (C := Tryz.checked) false ⟨#[], #[.agg #[.int .i64 0, .int .i64 0, .int .i64 0, .int .i64 0, .int .i64 0, .int .i64 0, .int .i64 0, .int .i64 0, .int .i64 0, .int .i64 0, .int .i64 0, .int .i64 0], .agg #[.int .u32 0, .int .u32 0, .int .u32 0, .int .u32 0, .int .u32 0, .int .u32 0, .int .u32 0, .int .u32 0, .int .u32 0, .int .u32 0, .int .u32 0, .int .u32 0, .int .u32 0, .int .u32 0, .int .u32 0, .int .u32 0, .int .i64 0, .int .i64 0, .bool false, .bool false, .bool false, .int .i64 0, .int .i64 0, .int .i64 0, .int .i64 0, .int .i64 0, .int .u8 0, .slice none 0 0, .slice none 0 0]], []⟩ 8 (by kernel_rfl) (by kernel_rfl) (by kernel_rfl) (by kernel_rfl)) ?_
  intro W base args ds gs before hval0 hW hcnd _
  have hval : ∀ (j : Nat) t v, Tryz.f3.params[j]? = some t → args[j]? = some v → Value.okWide Tryz.prog W .any base t v := hval0
  have hW' := hW
  obtain ⟨p, q, hA0, hV, rfl, hfz, hnd⟩ := hW
  have hA : DataW.TrodAll enc Tryz.prog W 0 (fun _ => true) true Tryz.f3.params.toList args.toList ds p := hA0
  rw [Tryz.params3] at hA hval
  obtain ⟨v0, vs0, d0, ds0, p0, q0, hargs, rfl, rfl, h0, r0⟩ := trodAll_cons hA
  obtain ⟨v1, vs1, d1, ds1, p1, q1, rfl, rfl, rfl, h1, r1⟩ := trodAll_cons r0
  obtain ⟨rfl, rfl, rfl⟩ := trodAll_nil r1
  obtain rfl : args = #[v0, v1] := by cases args; simp_all
  obtain ⟨rfl, rfl⟩ := trodVars_none hV
  have k0 := h0
  have lt0 : ∀ x ∈ p0, x.block < W.heap.size := by obtain ⟨m, hm⟩ := k0; exact DataW.trod_lt m _ _ _ hm
  obtain ⟨cs0, rfl, sz0, hf0⟩ := open_aggs Tryz.underlying23 (by kernel_rfl) (by kernel_rfl) (hval 0 23 v0 rfl rfl) h0
  obtain ⟨u0_0, y0_0, n0_0, g0_0, t0_0⟩ := hf0 0 _ rfl
  obtain ⟨a0_0, rfl, w0_0⟩ := field_int Tryz.underlying3 t0_0
  obtain ⟨u0_1, y0_1, n0_1, g0_1, t0_1⟩ := hf0 1 _ rfl
  obtain ⟨a0_1, rfl, w0_1⟩ := field_int Tryz.underlying3 t0_1
  obtain ⟨u0_2, y0_2, n0_2, g0_2, t0_2⟩ := hf0 2 _ rfl
  obtain ⟨a0_2, rfl, w0_2⟩ := field_int Tryz.underlying3 t0_2
  obtain ⟨u0_3, y0_3, n0_3, g0_3, t0_3⟩ := hf0 3 _ rfl
  obtain ⟨a0_3, rfl, w0_3⟩ := field_int Tryz.underlying3 t0_3
  obtain ⟨u0_4, y0_4, n0_4, g0_4, t0_4⟩ := hf0 4 _ rfl
  obtain ⟨a0_4, rfl, w0_4⟩ := field_int Tryz.underlying3 t0_4
  obtain ⟨u0_5, y0_5, n0_5, g0_5, t0_5⟩ := hf0 5 _ rfl
  obtain ⟨a0_5, rfl, w0_5⟩ := field_int Tryz.underlying3 t0_5
  obtain ⟨u0_6, y0_6, n0_6, g0_6, t0_6⟩ := hf0 6 _ rfl
  obtain ⟨a0_6, rfl, w0_6⟩ := field_int Tryz.underlying3 t0_6
  obtain ⟨u0_7, y0_7, n0_7, g0_7, t0_7⟩ := hf0 7 _ rfl
  obtain ⟨a0_7, rfl, w0_7⟩ := field_int Tryz.underlying3 t0_7
  obtain ⟨u0_8, y0_8, n0_8, g0_8, t0_8⟩ := hf0 8 _ rfl
  obtain ⟨a0_8, rfl, w0_8⟩ := field_int Tryz.underlying3 t0_8
  obtain ⟨u0_9, y0_9, n0_9, g0_9, t0_9⟩ := hf0 9 _ rfl
  obtain ⟨a0_9, rfl, w0_9⟩ := field_int Tryz.underlying3 t0_9
  obtain ⟨u0_10, y0_10, n0_10, g0_10, t0_10⟩ := hf0 10 _ rfl
  obtain ⟨a0_10, rfl, w0_10⟩ := field_int Tryz.underlying3 t0_10
  obtain ⟨u0_11, y0_11, n0_11, g0_11, t0_11⟩ := hf0 11 _ rfl
  obtain ⟨a0_11, rfl, w0_11⟩ := field_int Tryz.underlying3 t0_11
  obtain rfl : cs0 = #[.int .i64 a0_0, .int .i64 a0_1, .int .i64 a0_2, .int .i64 a0_3, .int .i64 a0_4, .int .i64 a0_5, .int .i64 a0_6, .int .i64 a0_7, .int .i64 a0_8, .int .i64 a0_9, .int .i64 a0_10, .int .i64 a0_11] := by
    apply Array.ext_getElem?
    intro j
    match j with
    | 0 => exact g0_0
    | 1 => exact g0_1
    | 2 => exact g0_2
    | 3 => exact g0_3
    | 4 => exact g0_4
    | 5 => exact g0_5
    | 6 => exact g0_6
    | 7 => exact g0_7
    | 8 => exact g0_8
    | 9 => exact g0_9
    | 10 => exact g0_10
    | 11 => exact g0_11
    | j + 12 =>
      rw [Array.getElem?_eq_none (by rw [sz0]; exact Nat.le_add_left _ _), Array.getElem?_eq_none (by exact Nat.le_add_left _ _)]
  have k1 := h1
  have lt1 : ∀ x ∈ p1, x.block < W.heap.size := by obtain ⟨m, hm⟩ := k1; exact DataW.trod_lt m _ _ _ hm
  obtain ⟨rs1, m1, kk1, M1, W1, P1, c1, i1, qq1, g1, a1, bl1, KA1, kl1, kc1, kz1, PA1, pl1, pcc1, rfl, hr1, wr1, hb1, hk1, hkl1, hp1⟩ := open_state2 (hval 1 34 v1 rfl rfl) h1
  clear hA0 hval0
  refine (generalCalls_walk a0_0 a0_1 a0_2 a0_3 a0_4 a0_5 a0_6 a0_7 a0_8 a0_9 a0_10 a0_11 rs1 m1 kk1 M1 W1 P1 c1 i1 qq1 g1 a1 bl1 KA1 kl1 kc1 kz1 PA1 pl1 pcc1 W w0_0 w0_1 w0_2 w0_3 w0_4 w0_5 w0_6 w0_7 w0_8 w0_9 w0_10 w0_11 hr1 wr1 hb1 hk1 hkl1 hp1).mono fun e W' ⟨he, bel⟩ => ?_
  subst he
  exact ⟨_, rfl, _, _, _, [], _, [], hW', trodAll_mk1 (shut_bool Tryz.underlying4 _), (trodAll_cons_mk (Below.trod laidOut (by kernel_rfl) (of_decide_eq_true (by kernel_rfl)) k0 bel lt0) (trodAll_cons_mk (Below.trod laidOut (by kernel_rfl) (of_decide_eq_true (by kernel_rfl)) k1 bel lt1) trodAll_mk0)), rfl, bel.frame _, fun h => by cases h⟩

theorem over : Rows.generalCallsRow.holds Tryz.pinned (OpenSpec.ofChange Rows.generalCallsSpec) :=
  OpenClaim.holds_of_wide 3 Tryz.f3 rfl rfl rfl rfl rfl rfl rfl ⟨rfl, rfl, rfl, rfl, rfl⟩ rfl rfl rfl rfl rfl (by kernel_rfl) Tryz.func3 (by kernel_rfl)
    (of_decide_eq_true (by kernel_rfl)) (by unfold Func.isWrapper; first | (rw [if_pos (by decide +kernel)]; kernel_rfl) | (rw [if_neg (by decide +kernel)]; exact ⟨rfl, rfl⟩))
    (fun os started H enc _ => lifted os started H enc)

/-- THE STATEMENT -/
theorem proved : Rows.GeneralCallsSaid := over
end Go.Proofs.YthjdjbipfdigeaaGreat.generalCalls

