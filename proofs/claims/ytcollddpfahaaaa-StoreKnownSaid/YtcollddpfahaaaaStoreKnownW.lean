/- CONTRACTS of package jobshoplaw07: StoreKnown. No conditions but that the storage reads as one. -/
import Derived.Test.YtcollddpfahaaaaSt13
import Derived.Lib.Hide
import Derived.Outline
import Derived.Handy
import Derived.BigQuiet
import Derived.Deep.QuietTactic
namespace Go.Proofs.Ytcollddpfahaaaa
open Go.RowKit
set_option linter.unusedVariables false
set_option linter.unusedSimpArgs false

theorem nil_fetch (x y z : Int) (w : World) : Calls Try.prog 21 #[.pointer none, .int .i64 x, .int .i64 y, .int .i64 z] w fun e w' => e = .returned (.tuple #[.slice none 0 0, .int .i64 0]) ∧ Below w.heap.size w w' := by
  go_enter Try.func21, Try.ntmps21
  go_wp2
  go_ret2
  exact ⟨rfl, by first | exact Below.refl _ _ | exact (Below.refl w.heap.size w).alloc (Nat.le_refl _) _⟩

theorem nil_keyof (x : Int) (w : World) : Calls Try.prog 24 #[.pointer none, .int .i64 x] w fun e w' => e = .returned (.tuple #[.int .i64 0, .bool false]) ∧ Below w.heap.size w w' := by
  go_enter Try.func24, Try.ntmps24
  go_wp2
  go_ret2
  exact ⟨rfl, by first | exact Below.refl _ _ | exact (Below.refl w.heap.size w).alloc (Nat.le_refl _) _⟩

theorem nil_size  (w : World) : Calls Try.prog 19 #[.pointer none] w fun e w' => e = .returned (.int .i64 0) ∧ Below w.heap.size w w' := by
  go_enter Try.func19, Try.ntmps19
  go_wp2
  go_ret
  exact ⟨rfl, by first | exact Below.refl _ _ | exact (Below.refl w.heap.size w).alloc (Nat.le_refl _) _⟩

theorem nil_put (x y : Int) (w : World) : Calls Try.prog 20 #[.pointer none, .int .i64 x, .slice none 0 0, .int .i64 y] w fun e w' => e = .returned (.int .i64 0) ∧ Below w.heap.size w w' := by
  go_enter Try.func20, Try.ntmps20
  go_wp2
  go_ret
  exact ⟨rfl, by first | exact Below.refl _ _ | exact (Below.refl w.heap.size w).alloc (Nat.le_refl _) _⟩

theorem nil_set (x y : Int) (w : World) : Calls Try.prog 17 #[.pointer none, .int .i64 x, .int .i64 y] w fun e w' => e = .returned (.bool false) ∧ Below w.heap.size w w' := by
  go_enter Try.func17, Try.ntmps17
  go_wp2
  go_ret
  exact ⟨rfl, by first | exact Below.refl _ _ | exact (Below.refl w.heap.size w).alloc (Nat.le_refl _) _⟩

theorem nil_bytes (x y : Int) (w : World) : Calls Try.prog 18 #[.pointer none, .int .i64 x, .int .i64 y] w fun e w' => e = .returned (.slice none 0 0) ∧ Below w.heap.size w w' := by
  go_enter Try.func18, Try.ntmps18
  go_wp2
  go_ret
  exact ⟨rfl, by first | exact Below.refl _ _ | exact (Below.refl w.heap.size w).alloc (Nat.le_refl _) _⟩

theorem nil_clear (x y : Int) (w : World) : Calls Try.prog 25 #[.pointer none, .int .i64 x, .int .i64 y] w fun e w' => e = .returned (.bool false) ∧ Below w.heap.size w w' := by
  go_enter Try.func25, Try.ntmps25
  go_wp2
  go_ret
  exact ⟨rfl, by first | exact Below.refl _ _ | exact (Below.refl w.heap.size w).alloc (Nat.le_refl _) _⟩

theorem nil_copy  (w : World) : Calls Try.prog 22 #[.pointer none] w fun e w' => e = .returned (.pointer none) ∧ Below w.heap.size w w' := by
  go_enter Try.func22, Try.ntmps22
  go_wp2
  go_ret
  exact ⟨rfl, by first | exact Below.refl _ _ | exact (Below.refl w.heap.size w).alloc (Nat.le_refl _) _⟩

section
variable {B : Nat} {a0 : World} {F : Foot} {bs ks : List Int} {N : Nat}
theorem wn_set (w : World) (h : Wk 66 B a0 w F bs ks) (hN : bs.length = N) (addr key : Int) (b : Bool) (hb : (sAt N addr && sKey key) = b) (ks' : List Int) (hk : sSet N ks addr key = ks') : Calls Try.prog 17 #[.pointer (some ⟨F.g, 0, none⟩), .int .i64 addr, .int .i64 key] w fun e w' => e = .returned (.bool b) ∧ Wk 66 B a0 w' F bs ks' := by
  subst hN hk
  exact (wk_set w h addr key b hb).mono fun e w' h => ⟨h.1, h.2.1⟩
theorem wn_key (w : World) (h : Wk 66 B a0 w F bs ks) (hN : bs.length = N) (addr want : Int) (is : Bool) (hv : sKV N ks addr = want) (ha : sAt N addr = is) : Calls Try.prog 26 #[.pointer (some ⟨F.g, 0, none⟩), .int .i64 addr, .int .i64 want, .bool is] w fun e w' => e = .returned (.bool true) ∧ w = w' := by
  subst hN
  exact wk_key w h addr want is hv ha
theorem wn_put (w : World) (h : Wk 66 B a0 w F bs ks) (hN : bs.length = N) (addr key : Int) (A : Option Addr) (len cap : Nat) (ys : List Int) (hy : Byt w A len ys) (c : Int) (hc : sCode (alP key) N ks addr len = c) (h0 : (c == 0) = false) (hl : (len : Int) ≤ 9223372036854775807) : Calls Try.prog 20 #[.pointer (some ⟨F.g, 0, none⟩), .int .i64 addr, .slice A len cap, .int .i64 key] w fun e w' => e = .returned (.int .i64 c) ∧ Wk 66 B a0 w' F bs ks := by
  subst hN
  refine (wk_put w h addr key A len cap ys hy c hc hl).mono ?_
  rintro e w' ⟨rfl, hw, _⟩
  refine ⟨rfl, ?_⟩
  have : sPut (alP key) bs ks addr ys = bs := by unfold sPut; rw [hy.1, hc, if_neg (by intro e; subst e; simp at h0)]
  rwa [this] at hw
theorem wn_clr (w : World) (h : Wk 66 B a0 w F bs ks) (hN : bs.length = N) (addr n : Int) (hb : sIn N addr n = false) : Calls Try.prog 25 #[.pointer (some ⟨F.g, 0, none⟩), .int .i64 addr, .int .i64 n] w fun e w' => e = .returned (.bool false) ∧ Wk 66 B a0 w' F bs ks := by
  subst hN
  refine (wk_clr w h addr n false hb).mono ?_
  rintro e w' ⟨rfl, hw, _⟩
  refine ⟨rfl, ?_⟩
  have : sClr bs addr n = bs := by unfold sClr; rw [hb]; rfl
  rwa [this] at hw
theorem wn_bytes (w : World) (h : Wk 66 B a0 w F bs ks) (hN : bs.length = N) (addr n : Int) (hb : sIn N addr n = false) : Calls Try.prog 18 #[.pointer (some ⟨F.g, 0, none⟩), .int .i64 addr, .int .i64 n] w fun e w' => ∃ A c, e = .returned (.slice A 0 c) ∧ Wk 66 B a0 w' F bs ks := by
  subst hN
  refine (wk_bytes w h addr n [] (by unfold sGet; rw [hb]; rfl)).mono ?_
  rintro e w' ⟨A, m, c, rfl, ho, hw, _⟩
  have := ho.len
  exact ⟨A, c, by rw [← this]; rfl, hw⟩
theorem wn_has (w : World) (h : Wk 66 B a0 w F bs ks) (hN : bs.length = N) (addr n key code : Int) (A : Option Addr) (len cap : Nat) (ys : List Int) (hy : Byt w A len ys) (ha : sCode (alF key) N ks addr n = code) (hv : (if (code == 0) = true then sGet bs addr n else []) = ys) : Calls Try.prog 27 #[.pointer (some ⟨F.g, 0, none⟩), .int .i64 addr, .int .i64 n, .int .i64 key, .slice A len cap, .int .i64 code] w fun e w' => e = .returned (.bool true) ∧ Wk 66 B a0 w' F bs ks := by
  subst hN
  refine (wk_has w h addr n key code A len cap ys hy ?_ ha).mono fun e w' h => ⟨h.1, h.2.1⟩
  rw [← hv]
  unfold sFet
  rw [ha]
  by_cases h0 : code = 0
  · subst h0; rfl
  · rw [if_neg h0, if_neg (by simpa using h0)]
end
theorem wk_big {B : Nat} {a0 w : World} {F : Foot} (h : Wk 66 B a0 w F (z0 (2048 * 32)) (z0 32)) : ∃ b : List Int, b.length = 65536 ∧ sGet b 0 1 = [0] ∧ Wk 66 B a0 w F b (z0 32) :=
  ⟨_, z0_len _, by unfold sGet; rw [z0_len, if_pos (by decide +kernel)]; rfl, h⟩

set_option maxRecDepth 100000 in
set_option maxHeartbeats 4000000 in
theorem storeKnown_walk (w : World) : Calls Try.prog 9 #[] w fun e w' => e = .returned (.bool true) ∧ Below w.heap.size w w' := by
  have HB := Lib.hid (Below.refl w.heap.size w)
  have i0 : ∀ W, (Instr.index 58 (.agg #[.int .i64 (0), .int .i64 (1), .int .i64 (2047), .int .i64 (2049), .int .i64 (67584), .int .i64 (-2048)]) (.int .i64 0)).run Try.prog W = .ok (.int .i64 (0)) W := fun _ => by kernel_rfl
  have i1 : ∀ W, (Instr.index 58 (.agg #[.int .i64 (0), .int .i64 (1), .int .i64 (2047), .int .i64 (2049), .int .i64 (67584), .int .i64 (-2048)]) (.int .i64 1)).run Try.prog W = .ok (.int .i64 (1)) W := fun _ => by kernel_rfl
  have i2 : ∀ W, (Instr.index 58 (.agg #[.int .i64 (0), .int .i64 (1), .int .i64 (2047), .int .i64 (2049), .int .i64 (67584), .int .i64 (-2048)]) (.int .i64 2)).run Try.prog W = .ok (.int .i64 (2047)) W := fun _ => by kernel_rfl
  have i3 : ∀ W, (Instr.index 58 (.agg #[.int .i64 (0), .int .i64 (1), .int .i64 (2047), .int .i64 (2049), .int .i64 (67584), .int .i64 (-2048)]) (.int .i64 3)).run Try.prog W = .ok (.int .i64 (2049)) W := fun _ => by kernel_rfl
  have i4 : ∀ W, (Instr.index 58 (.agg #[.int .i64 (0), .int .i64 (1), .int .i64 (2047), .int .i64 (2049), .int .i64 (67584), .int .i64 (-2048)]) (.int .i64 4)).run Try.prog W = .ok (.int .i64 (67584)) W := fun _ => by kernel_rfl
  have i5 : ∀ W, (Instr.index 58 (.agg #[.int .i64 (0), .int .i64 (1), .int .i64 (2047), .int .i64 (2049), .int .i64 (67584), .int .i64 (-2048)]) (.int .i64 5)).run Try.prog W = .ok (.int .i64 (-2048)) W := fun _ => by kernel_rfl
  go_enter Try.func9, Try.ntmps9
  go_wp2_with (first | (go_at_call 21; refine (nil_fetch _ _ _ _).mono ?_; rintro e w' ⟨rfl, hb⟩; replace HB := Lib.hid (HB.out.trans (hb.mono HB.out.size)); clear hb) | (go_at_call 24; refine (nil_keyof _ _).mono ?_; rintro e w' ⟨rfl, hb⟩; replace HB := Lib.hid (HB.out.trans (hb.mono HB.out.size)); clear hb) | (go_at_call 19; refine (nil_size _).mono ?_; rintro e w' ⟨rfl, hb⟩; replace HB := Lib.hid (HB.out.trans (hb.mono HB.out.size)); clear hb) | (go_at_call 20; refine (nil_put _ _ _).mono ?_; rintro e w' ⟨rfl, hb⟩; replace HB := Lib.hid (HB.out.trans (hb.mono HB.out.size)); clear hb) | (go_at_call 17; refine (nil_set _ _ _).mono ?_; rintro e w' ⟨rfl, hb⟩; replace HB := Lib.hid (HB.out.trans (hb.mono HB.out.size)); clear hb) | (go_at_call 18; refine (nil_bytes _ _ _).mono ?_; rintro e w' ⟨rfl, hb⟩; replace HB := Lib.hid (HB.out.trans (hb.mono HB.out.size)); clear hb) | (go_at_call 25; refine (nil_clear _ _ _).mono ?_; rintro e w' ⟨rfl, hb⟩; replace HB := Lib.hid (HB.out.trans (hb.mono HB.out.size)); clear hb) | (go_at_call 22; refine (nil_copy _).mono ?_; rintro e w' ⟨rfl, hb⟩; replace HB := Lib.hid (HB.out.trans (hb.mono HB.out.size)); clear hb))
  go_loopw [74] (fun x wr => ∃ k : Nat, k ≤ 6 ∧ x = .int .i64 k ∧ Below w.heap.size w wr) (fun x _ => 6 - (intOf x).toNat)
  case atStart => exact ⟨0, by omega, rfl, HB.out⟩
  case round =>
    clear HB
    obtain ⟨k, k0, rfl, hb⟩ := hrel
    have HB := Lib.hid hb
    clear hb
    rcases (show k = 0 ∨ k = 1 ∨ k = 2 ∨ k = 3 ∨ k = 4 ∨ k = 5 ∨ k = 6 by omega) with rfl | rfl | rfl | rfl | rfl | rfl | rfl
    · go_wp2_with (first | (go_at_call 16; refine (new_no _ _ (by decide +kernel)).mono ?_; rintro e w1 ⟨rfl, rfl⟩))
      exact ⟨⟨0 + 1, by omega, rfl, HB.out⟩, by decide⟩
    · go_wp2_with (first | (go_at_call 16; refine (new_no _ _ (by decide +kernel)).mono ?_; rintro e w1 ⟨rfl, rfl⟩))
      exact ⟨⟨1 + 1, by omega, rfl, HB.out⟩, by decide⟩
    · go_wp2_with (first | (go_at_call 16; refine (new_no _ _ (by decide +kernel)).mono ?_; rintro e w1 ⟨rfl, rfl⟩))
      exact ⟨⟨2 + 1, by omega, rfl, HB.out⟩, by decide⟩
    · go_wp2_with (first | (go_at_call 16; refine (new_no _ _ (by decide +kernel)).mono ?_; rintro e w1 ⟨rfl, rfl⟩))
      exact ⟨⟨3 + 1, by omega, rfl, HB.out⟩, by decide⟩
    · go_wp2_with (first | (go_at_call 16; refine (new_no _ _ (by decide +kernel)).mono ?_; rintro e w1 ⟨rfl, rfl⟩))
      exact ⟨⟨4 + 1, by omega, rfl, HB.out⟩, by decide⟩
    · go_wp2_with (first | (go_at_call 16; refine (new_no _ _ (by decide +kernel)).mono ?_; rintro e w1 ⟨rfl, rfl⟩))
      exact ⟨⟨5 + 1, by omega, rfl, HB.out⟩, by decide⟩
    · go_wp2_with fail
      refine (new_yes 32 (by omega) (by omega) _).mono ?_
      rintro e w1 ⟨v, rfl, F, rfl, hs, hb, p1, p2, p3⟩
      have wk : Wk 66 w.heap.size w w1 F (z0 (2048 * 32)) (z0 32) := ⟨hs, HB.out.trans (hb.mono HB.out.size), Nat.le_trans HB.out.size p1, Nat.le_trans HB.out.size p2, Nat.le_trans HB.out.size p3⟩
      obtain ⟨b, hl, hg, WK⟩ := wk_big wk
      have HL := Lib.hid hl
      have HG := Lib.hid hg
      clear hs hb p1 p2 p3 wk hl hg
      go_wp2_with (first | (go_at_call 17; refine (wn_set _ WK HL.out _ _ _ (by first | (show _ = true; decide +kernel) | (show _ = false; decide +kernel)) _ rfl).mono ?_; rintro e w' ⟨rfl, hw⟩; replace WK := hw; clear hw) | (go_at_call 26; refine (wn_key _ WK HL.out _ _ _ (by decide +kernel) (by decide +kernel)).mono ?_; rintro e w' ⟨rfl, rfl⟩) | (go_at_call 20; refine (wn_put _ (by first | exact WK | exact WK.alloc _) HL.out _ _ _ _ _ _ (by first | exact byt_none _ | exact byt_newC _ _ _ rfl) _ (by first | (show _ = (4 : Int); decide +kernel) | (show _ = (5 : Int); decide +kernel)) (by rfl) (by decide)).mono ?_; rintro e w' ⟨rfl, hw⟩; replace WK := hw; clear hw) | (go_at_call 27; refine (wn_has _ (by first | exact WK | exact WK.alloc _) HL.out _ _ _ _ _ _ _ _ (by first | exact byt_none _ | exact byt_newC _ _ _ rfl) (by decide +kernel) (by first | rfl | exact HG.out)).mono ?_; rintro e w' ⟨rfl, hw⟩; replace WK := hw; clear hw) | (go_at_call 25; refine (wn_clr _ WK HL.out _ _ (by decide +kernel)).mono ?_; rintro e w' ⟨rfl, hw⟩; replace WK := hw; clear hw) | (go_at_call 18; refine (wn_bytes _ WK HL.out _ _ (by decide +kernel)).mono ?_; rintro e w' ⟨A, c, rfl, hw⟩; replace WK := hw; clear hw) | (go_at_call 15; refine (works_c _).mono ?_; rintro e w' ⟨rfl, h9⟩; have HW := Lib.hid (WK.bl.trans (h9.mono WK.bl.size)); clear h9))
      go_ret
      exact ⟨rfl, HW.out⟩

end Go.Proofs.Ytcollddpfahaaaa
