/- CONTRACTS of PutHalf, PutFull and of the fields of the reference: field, Half, Full. Conditions: the slices read as bytes; lengths within the form's reach. -/
import Derived.Test.YtmabamijogbbnaaWdG
import Derived.Test.YtmabamijogbbnaaSame
namespace Go.Proofs.Ytmabamijogbbnaa
open Go.RowKit
set_option linter.unusedVariables false

/-- the bytes of a halfword, of a word -/
def hby (v : Int) : List Int := [v / 256 % 256, v % 256]
def fby (v : Int) : List Int := [v / 16777216 % 256, v / 65536 % 256, v / 256 % 256, v % 256]

theorem Own.le {w : World} {base base' n : Nat} {v : Value} {zs : List Int} (h : Own w base v n zs) (hb : base' ≤ base) : Own w base' v n zs :=
  ⟨⟨h.1.1, h.1.2.elim Or.inl (fun ⟨g, cap, cur, hv, hg, r⟩ => Or.inr ⟨g, cap, cur, hv, Nat.le_trans hb hg, r⟩)⟩, h.2⟩

set_option maxHeartbeats 400000 in
theorem puthalf_yes (A : Option Addr) (len cap k : Nat) (v : Int) (zs : List Int) (w : World) (hl : len ≤ 140737488355328) (hb : Byt w A len zs) (hA : A = none → cap = 0) (hk : k + 2 ≤ len) (hv : 0 ≤ v) (hv' : v ≤ 4294967295) :
    Calls Try.prog 39 #[.slice A len cap, .int .i64 k, .int .u32 v] w (Fresh w len (splice zs k (hby v))) := by
  have HB := Lib.hid hb
  have HA := Lib.hid hA
  have Hk := Lib.hid hk
  clear hb hA hk
  go_enter Try.func39, Try.ntmps39
  go_wp2_with fail
  refine (put_yes A len cap k w.heap.size 0 2 2 zs (hby v) _ hl (HB.out.keep ((Below.refl _ _).alloc (Nat.le_refl _) _)) HA.out (byt_new _ _ (by simp [hby]; omega) _ (by simp [hby]) _ rfl _) (by decide) (by decide) Hk.out).mono ?_
  rintro e w' ⟨x, rfl, ho, hbl⟩
  have HO := Lib.hid (ho.le (base' := w.heap.size) (by simp))
  have HX := Lib.hid (((Below.refl _ _).alloc (Nat.le_refl _) _).trans (hbl.mono (by simp)) : Below w.heap.size w w')
  clear ho hbl
  go_wp2_with fail
  go_ret2
  exact ⟨_, rfl, HO.out, HX.out⟩

set_option maxHeartbeats 400000 in
theorem putfull_yes (A : Option Addr) (len cap k : Nat) (v : Int) (zs : List Int) (w : World) (hl : len ≤ 140737488355328) (hb : Byt w A len zs) (hA : A = none → cap = 0) (hk : k + 4 ≤ len) (hv : 0 ≤ v) (hv' : v ≤ 4294967295) :
    Calls Try.prog 41 #[.slice A len cap, .int .i64 k, .int .u32 v] w (Fresh w len (splice zs k (fby v))) := by
  have HB := Lib.hid hb
  have HA := Lib.hid hA
  have Hk := Lib.hid hk
  clear hb hA hk
  go_enter Try.func41, Try.ntmps41
  go_wp2_with fail
  refine (put_yes A len cap k w.heap.size 0 4 4 zs (fby v) _ hl (HB.out.keep ((Below.refl _ _).alloc (Nat.le_refl _) _)) HA.out (byt_new _ _ (by simp [fby]; omega) _ (by simp [fby]; try omega) _ rfl _) (by decide) (by decide) Hk.out).mono ?_
  rintro e w' ⟨x, rfl, ho, hbl⟩
  have HO := Lib.hid (ho.le (base' := w.heap.size) (by simp))
  have HX := Lib.hid (((Below.refl _ _).alloc (Nat.le_refl _) _).trans (hbl.mono (by simp)) : Below w.heap.size w w')
  clear ho hbl
  go_wp2_with fail
  go_ret2
  exact ⟨_, rfl, HO.out, HX.out⟩

set_option maxHeartbeats 400000 in
theorem puthalf_no (A : Option Addr) (len cap : Nat) (at_ v : Int) (w : World) (hl : (len : Int) ≤ 9223372036854775807) (ha : -9223372036854775808 ≤ at_) (ha' : at_ ≤ 9223372036854775807) (hf : fitB len at_ 2 = false) (hv : 0 ≤ v) (hv' : v ≤ 4294967295) :
    Calls Try.prog 39 #[.slice A len cap, .int .i64 at_, .int .u32 v] w fun e w' => e = .returned (.tuple #[.slice none 0 0, .bool false]) ∧ Below w.heap.size w w' := by
  have HF := Lib.hid hf
  clear hf
  go_enter Try.func39, Try.ntmps39
  go_wp2_with fail
  refine (put_no A len cap at_ _ 2 2 _ hl ha ha' (by decide) HF.out).mono ?_
  rintro e w' ⟨rfl, rfl⟩
  go_wp2_with fail
  go_ret2
  exact ⟨rfl, (Below.refl _ _).alloc (Nat.le_refl _) _⟩

set_option maxHeartbeats 400000 in
theorem putfull_no (A : Option Addr) (len cap : Nat) (at_ v : Int) (w : World) (hl : (len : Int) ≤ 9223372036854775807) (ha : -9223372036854775808 ≤ at_) (ha' : at_ ≤ 9223372036854775807) (hf : fitB len at_ 4 = false) (hv : 0 ≤ v) (hv' : v ≤ 4294967295) :
    Calls Try.prog 41 #[.slice A len cap, .int .i64 at_, .int .u32 v] w fun e w' => e = .returned (.tuple #[.slice none 0 0, .bool false]) ∧ Below w.heap.size w w' := by
  have HF := Lib.hid hf
  clear hf
  go_enter Try.func41, Try.ntmps41
  go_wp2_with fail
  refine (put_no A len cap at_ _ 4 4 _ hl ha ha' (by decide) HF.out).mono ?_
  rintro e w' ⟨rfl, rfl⟩
  go_wp2_with fail
  go_ret2
  exact ⟨rfl, (Below.refl _ _).alloc (Nat.le_refl _) _⟩

/-! ### the reference -/
/-- the number that j bytes from place k on make -/
def hrn (zs : List Int) (k : Nat) : Nat → Int
  | 0 => 0
  | j + 1 => hrn zs k j * 256 + zs.getD (k + j) 0
theorem hrn_lo (zs : List Int) (k : Nat) (hr : ∀ i, 0 ≤ zs.getD i 0 ∧ zs.getD i 0 ≤ 255) (j : Nat) : 0 ≤ hrn zs k j := by
  induction j with
  | zero => simp [hrn]
  | succ j ih => have := hr (k + j); simp only [hrn]; omega
theorem hrn_hi (zs : List Int) (k : Nat) (hr : ∀ i, 0 ≤ zs.getD i 0 ∧ zs.getD i 0 ≤ 255) (j : Nat) (hj : j ≤ 3) : hrn zs k j ≤ 16777215 := by
  have h0 := hr k; have h1 := hr (k + 1); have h2 := hr (k + 2)
  have : j = 0 ∨ j = 1 ∨ j = 2 ∨ j = 3 := by omega
  rcases this with rfl | rfl | rfl | rfl <;> simp only [hrn, Nat.add_zero] <;> omega
theorem hrn_two (zs : List Int) (k : Nat) : hrn zs k 2 = zs.getD k 0 * 256 + zs.getD (k + 1) 0 := by simp [hrn]
theorem hrn_four (zs : List Int) (k : Nat) : hrn zs k 4 = flv (zs.getD k 0) (zs.getD (k + 1) 0) (zs.getD (k + 2) 0) (zs.getD (k + 3) 0) := by simp only [hrn, flv, Nat.add_zero]; omega

set_option maxHeartbeats 400000 in
theorem rfield_no (A : Option Addr) (len cap : Nat) (at_ n : Int) (w : World) (hl : (len : Int) ≤ 9223372036854775807) (ha : -9223372036854775808 ≤ at_) (ha' : at_ ≤ 9223372036854775807) (hn : 2 ≤ n) (hn' : n ≤ 4) (hf : fitB len at_ n = false) :
    Calls Try.prog 75 #[.slice A len cap, .int .i64 at_, .int .i64 n] w fun e w' => e = .returned (.tuple #[.int .u32 0, .bool false]) ∧ w = w' := by
  have hno := fitB_no hf
  clear hf
  by_cases h0 : at_ < 0
  · go_enter Try.func75, Try.ntmps75
    go_wp2
    go_ret2
    exact ⟨rfl, rfl⟩
  · have d0 : decide (at_ < 0) = false := by simp; omega
    have d1 : 0 ≤ at_ := by omega
    by_cases h1 : (len : Int) < at_
    · clear h0 hno
      go_enter Try.func75, Try.ntmps75
      go_wp2
      go_ret2
      exact ⟨rfl, rfl⟩
    · have d2 : decide ((len : Int) < at_) = false := by simp; omega
      have d3 : (len : Int) - at_ < n := by omega
      have d4 : at_ ≤ (len : Int) := by omega
      clear h0 hno h1
      go_enter Try.func75, Try.ntmps75
      go_wp2
      go_ret2
      exact ⟨rfl, rfl⟩

set_option maxHeartbeats 1000000 in
theorem rfield_yes (A : Option Addr) (len cap k : Nat) (n : Int) (zs : List Int) (w : World) (hl : (len : Int) ≤ 9223372036854775807) (hb : Byt w A len zs) (hn : 2 ≤ n) (hn' : n ≤ 4) (hk : (k : Int) + n ≤ (len : Int)) :
    Calls Try.prog 75 #[.slice A len cap, .int .i64 k, .int .i64 n] w fun e w' => e = .returned (.tuple #[.int .u32 (hrn zs k n.toNat), .bool true]) ∧ w = w' := by
  have HR := Lib.hid hb.range
  obtain ⟨b, off, rfl, hc⟩ := hb.at_ (by omega)
  have HC := Lib.hid hc
  clear hb hc
  have d0 : decide ((k : Int) < 0) = false := by simp
  have d2 : decide ((len : Int) < (k : Int)) = false := by simp; omega
  have d3 : decide ((len : Int) - (k : Int) < n) = false := by simp; omega
  have d4 : (k : Int) ≤ (len : Int) := by omega
  go_enter Try.func75, Try.ntmps75
  go_wp2
  go_loop [8, 9] (fun x i => ∃ j : Nat, (j : Int) ≤ n ∧ x = .int .u32 (hrn zs k j) ∧ i = .int .i64 j) (fun _ i => n.toNat - (intOf i).toNat)
  case atStart => exact ⟨0, by omega, rfl, rfl⟩
  case round =>
    obtain ⟨j, hj, rfl, rfl⟩ := hrel
    by_cases hlt : (j : Int) < n
    · have c1 := HC.out (k + j) (by omega)
      have b0 := hrn_lo zs k HR.out j
      have b1 := hrn_hi zs k HR.out j (by omega)
      have b2 := (HR.out (k + j)).1
      have b3 := (HR.out (k + j)).2
      obtain ⟨x, hx⟩ : ∃ x, zs.getD (k + j) 0 = x := ⟨_, rfl⟩
      rw [hx] at c1 b2 b3
      have Hx := Lib.hid hx
      clear hx
      have k1 : (k : Int) + (j : Int) < (len : Int) := by omega
      go_wp2
      go_round
      case rel => exact ⟨j + 1, by omega, by rw [hrn, Hx.out], by go_num⟩
      case measure => simp [intOf]; omega
    · have hj' : j = n.toNat := by omega
      have HJ := Lib.hid hj'
      clear hj'
      go_wp2
      go_ret2
      exact ⟨by rw [← HJ.out]; rfl, rfl⟩
end Go.Proofs.Ytmabamijogbbnaa
