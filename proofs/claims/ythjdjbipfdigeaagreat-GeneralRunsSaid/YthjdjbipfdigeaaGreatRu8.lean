/- Contracts and laws on the way to the statement, text 8 of 24. Conditions: as each states them. -/
import Derived.Test.YthjdjbipfdigeaaGreatRu1
import Derived.Test.YthjdjbipfdigeaaGreatRu3
import Derived.Test.YthjdjbipfdigeaaGreatRu4
import Derived.Test.YthjdjbipfdigeaaGreatRu6
import Derived.Test.YthjdjbipfdigeaaGreatRu7
import Derived.Deep.QuietTactic
import Derived.BigQuiet
import Derived.Lib.Hide
import Derived.Outline
import Derived.Test.YthjdjbipfdigeaaGreatProg
namespace Go.Proofs.YthjdjbipfdigeaaGreat
open Go.RowKit
set_option linter.unusedVariables false

set_option maxHeartbeats 400000 in
theorem fits_c (A : Option Addr) (len cap : Nat) (at_ n : Int) (w : World) (hl : (len : Int) ≤ 9223372036854775807) (ha : -9223372036854775808 ≤ at_) (ha' : at_ ≤ 9223372036854775807) (hn : 0 ≤ n) (hn' : n ≤ 100) :
    Calls Tryz.prog 158 #[.slice A len cap, .int .i64 at_, .int .i64 n] w fun e w' => e = .returned (.bool (fitB len at_ n)) ∧ w = w' := by
  by_cases h0 : 0 ≤ at_
  · have hs := Lib.hid (show fitB len at_ n = decide (at_ ≤ (len : Int) - n) from by unfold fitB; simp [h0])
    go_enter Tryz.func158, Tryz.ntmps158
    go_wp2
    go_ret
    exact ⟨by rw [hs.out]; rfl, rfl⟩
  · have hs := Lib.hid (show fitB len at_ n = false from by unfold fitB; simp [h0])
    have hd : decide (0 ≤ at_) = false := by simp [h0]
    have h0' : at_ < 0 := by omega
    go_enter Tryz.func158, Tryz.ntmps158
    go_wp2
    go_ret
    exact ⟨by rw [hs.out]; rfl, rfl⟩

set_option maxHeartbeats 400000 in
theorem half_no (A : Option Addr) (len cap : Nat) (at_ : Int) (w : World) (hl : (len : Int) ≤ 9223372036854775807) (ha : -9223372036854775808 ≤ at_) (ha' : at_ ≤ 9223372036854775807) (hf : fitB len at_ 2 = false) :
    Calls Tryz.prog 160 #[.slice A len cap, .int .i64 at_] w fun e w' => e = .returned (.tuple #[.int .u32 0, .bool false]) ∧ ∃ n, w' = w.drewN n := by
  go_enter Tryz.func160, Tryz.ntmps160
  go_wp2_with (go_at_call 158; refine (fits_c _ _ _ _ _ _ hl ha ha' (by omega) (by omega)).mono ?_; rintro e w' ⟨rfl, rfl⟩)
  go_ret2
  exact ⟨rfl, 0, rfl⟩

set_option maxHeartbeats 400000 in
theorem half_yes (b off len cap k : Nat) (x y : Int) (w : World) (hl : (len : Int) ≤ 9223372036854775807) (hk : (k : Int) + 2 ≤ (len : Int))
    (hc0 : w.cell? ⟨b, off + k, none⟩ = some (.int .u8 x)) (hc1 : w.cell? ⟨b, off + (k + 1), none⟩ = some (.int .u8 y)) (hx : 0 ≤ x) (hx' : x ≤ 255) (hy : 0 ≤ y) (hy' : y ≤ 255) :
    Calls Tryz.prog 160 #[.slice (some ⟨b, off, none⟩) len cap, .int .i64 k] w fun e w' => e = .returned (.tuple #[.int .u32 (hfv x y), .bool true]) ∧ ∃ n, w' = w.drewN n := by
  have hf : fitB len k 2 = true := by unfold fitB; simp; omega
  have eo := or_half x y hx hx' hy hy'
  have s0 := sx16_lo (x * 256 + y) (by omega)
  have s1 := sx16_hi (x * 256 + y) (by omega)
  have k1 : (k : Int) < (len : Int) := by omega
  have k2 : (k : Int) + 1 < (len : Int) := by omega
  have hl' := lo32_is (sx16 (x * 256 + y))
  go_enter Tryz.func160, Tryz.ntmps160
  go_wp2_with (go_at_call 158; refine (fits_c _ _ _ _ _ _ hl (by omega) (by omega) (by omega) (by omega)).mono ?_; rintro e w' ⟨rfl, rfl⟩)
  go_quiet (fail)
  go_wp2
  go_ret2
  exact ⟨rfl, _, rfl⟩

end Go.Proofs.YthjdjbipfdigeaaGreat

namespace Go.Proofs.YthjdjbipfdigeaaGreat
open Go.RowKit
set_option linter.unusedVariables false

theorem or4 (x y z u : Int) (hx : 0 ≤ x) (hx' : x ≤ 255) (hy : 0 ≤ y) (hy' : y ≤ 255) (hz : 0 ≤ z) (hz' : z ≤ 255) (hu : 0 ≤ u) (hu' : u ≤ 255) :
    bits .or .u32 (x * 16777216) (y * 65536) = x * 16777216 + y * 65536 ∧ bits .or .u32 (x * 16777216 + y * 65536) (z * 256) = x * 16777216 + y * 65536 + z * 256 ∧ bits .or .u32 (x * 16777216 + y * 65536 + z * 256) u = flv x y z u := by
  refine ⟨or_32 24 _ _ 16777216 (by decide) (by omega) (by omega) (by omega) (by omega) (by omega) (by omega), or_32 16 _ _ 65536 (by decide) (by omega) (by omega) (by omega) (by omega) (by omega) (by omega), ?_⟩
  rw [or_32 8 _ _ 256 (by decide) (by omega) (by omega) (by omega) (by omega) (by omega) (by omega)]; rfl

set_option maxHeartbeats 400000 in
theorem full_no (A : Option Addr) (len cap : Nat) (at_ : Int) (w : World) (hl : (len : Int) ≤ 9223372036854775807) (ha : -9223372036854775808 ≤ at_) (ha' : at_ ≤ 9223372036854775807) (hf : fitB len at_ 4 = false) :
    Calls Tryz.prog 110 #[.slice A len cap, .int .i64 at_] w fun e w' => e = .returned (.tuple #[.int .u32 0, .bool false]) ∧ ∃ n, w' = w.drewN n := by
  go_enter Tryz.func110, Tryz.ntmps110
  go_wp2_with (go_at_call 158; refine (fits_c _ _ _ _ _ _ hl ha ha' (by omega) (by omega)).mono ?_; rintro e w' ⟨rfl, rfl⟩)
  go_ret2
  exact ⟨rfl, 0, rfl⟩

set_option maxHeartbeats 400000 in
theorem full_yes (b off len cap k : Nat) (x y z u : Int) (w : World) (hl : (len : Int) ≤ 9223372036854775807) (hk : (k : Int) + 4 ≤ (len : Int))
    (hc0 : w.cell? ⟨b, off + k, none⟩ = some (.int .u8 x)) (hc1 : w.cell? ⟨b, off + (k + 1), none⟩ = some (.int .u8 y)) (hc2 : w.cell? ⟨b, off + (k + 2), none⟩ = some (.int .u8 z)) (hc3 : w.cell? ⟨b, off + (k + 3), none⟩ = some (.int .u8 u))
    (hx : 0 ≤ x) (hx' : x ≤ 255) (hy : 0 ≤ y) (hy' : y ≤ 255) (hz : 0 ≤ z) (hz' : z ≤ 255) (hu : 0 ≤ u) (hu' : u ≤ 255) :
    Calls Tryz.prog 110 #[.slice (some ⟨b, off, none⟩) len cap, .int .i64 k] w fun e w' => e = .returned (.tuple #[.int .u32 (flv x y z u), .bool true]) ∧ ∃ n, w' = w.drewN n := by
  have hf : fitB len k 4 = true := by unfold fitB; simp; omega
  have ho := or4 x y z u hx hx' hy hy' hz hz' hu hu'
  have o1 := ho.1
  have o2 := ho.2.1
  have o3 := ho.2.2
  clear ho
  have k1 : (k : Int) < (len : Int) := by omega
  have k2 : (k : Int) + 1 < (len : Int) := by omega
  have k3 : (k : Int) + 2 < (len : Int) := by omega
  have k4 : (k : Int) + 3 < (len : Int) := by omega
  go_enter Tryz.func110, Tryz.ntmps110
  go_wp2_with (go_at_call 158; refine (fits_c _ _ _ _ _ _ hl (by omega) (by omega) (by omega) (by omega)).mono ?_; rintro e w' ⟨rfl, rfl⟩)
  go_quiet (fail)
  go_wp2
  go_ret2
  exact ⟨rfl, _, rfl⟩

/-- what the call says of a result that is its own new slice of bytes -/
def Fresh (w : World) (n : Nat) (zs : List Int) (e : Ending) (w' : World) : Prop := ∃ v, e = .returned (.tuple #[v, .bool true]) ∧ Own w' w.heap.size v n zs ∧ Below w.heap.size w w'

end Go.Proofs.YthjdjbipfdigeaaGreat

namespace Go.Proofs.YthjdjbipfdigeaaGreat
open Go.RowKit
set_option linter.unusedVariables false

/-- the bytes of a halfword, of a word -/
def hby (v : Int) : List Int := [v / 256 % 256, v % 256]
def fby (v : Int) : List Int := [v / 16777216 % 256, v / 65536 % 256, v / 256 % 256, v % 256]

/-- the number that j bytes from place k on make -/
def hrn (zs : List Int) (k : Nat) : Nat → Int
  | 0 => 0
  | j + 1 => hrn zs k j * 256 + zs.getD (k + j) 0
theorem hrn_lo (zs : List Int) (k : Nat) (hr : ∀ i, 0 ≤ zs.getD i 0 ∧ zs.getD i 0 ≤ 255) (j : Nat) : 0 ≤ hrn zs k j := by
  induction j with
  | zero => simp [hrn]
  | succ j ih => have := hr (k + j); simp only [hrn]; omega
theorem hrn_hi (zs : List Int) (k : Nat) (hr : ∀ i, 0 ≤ zs.getD i 0 ∧ zs.getD i 0 ≤ 255) (j : Nat) (hj : j ≤ 3) : hrn zs k j ≤ 16777215 := by
  have h0 := hr k; have h1 := hr (k + 1); have h2 := hr (k + 2)
  have : j = 0 ∨ j = 1 ∨ j = 2 ∨ j = 3 := by omega
  rcases this with rfl | rfl | rfl | rfl <;> simp only [hrn, Nat.add_zero] <;> omega
theorem hrn_two (zs : List Int) (k : Nat) : hrn zs k 2 = zs.getD k 0 * 256 + zs.getD (k + 1) 0 := by simp [hrn]
theorem hrn_four (zs : List Int) (k : Nat) : hrn zs k 4 = flv (zs.getD k 0) (zs.getD (k + 1) 0) (zs.getD (k + 2) 0) (zs.getD (k + 3) 0) := by simp only [hrn, flv, Nat.add_zero]; omega

set_option maxHeartbeats 400000 in
theorem rfield_no (A : Option Addr) (len cap : Nat) (at_ n : Int) (w : World) (hl : (len : Int) ≤ 9223372036854775807) (ha : -9223372036854775808 ≤ at_) (ha' : at_ ≤ 9223372036854775807) (hn : 2 ≤ n) (hn' : n ≤ 4) (hf : fitB len at_ n = false) :
    Calls Tryz.prog 166 #[.slice A len cap, .int .i64 at_, .int .i64 n] w fun e w' => e = .returned (.tuple #[.int .u32 0, .bool false]) ∧ w = w' := by
  have hno := fitB_no hf
  clear hf
  by_cases h0 : at_ < 0
  · go_enter Tryz.func166, Tryz.ntmps166
    go_wp2
    go_ret2
    exact ⟨rfl, rfl⟩
  · have d0 : decide (at_ < 0) = false := by simp; omega
    have d1 : 0 ≤ at_ := by omega
    by_cases h1 : (len : Int) < at_
    · clear h0 hno
      go_enter Tryz.func166, Tryz.ntmps166
      go_wp2
      go_ret2
      exact ⟨rfl, rfl⟩
    · have d2 : decide ((len : Int) < at_) = false := by simp; omega
      have d3 : (len : Int) - at_ < n := by omega
      have d4 : at_ ≤ (len : Int) := by omega
      clear h0 hno h1
      go_enter Tryz.func166, Tryz.ntmps166
      go_wp2
      go_ret2
      exact ⟨rfl, rfl⟩

set_option maxHeartbeats 1000000 in
theorem rfield_yes (A : Option Addr) (len cap k : Nat) (n : Int) (zs : List Int) (w : World) (hl : (len : Int) ≤ 9223372036854775807) (hb : Byt w A len zs) (hn : 2 ≤ n) (hn' : n ≤ 4) (hk : (k : Int) + n ≤ (len : Int)) :
    Calls Tryz.prog 166 #[.slice A len cap, .int .i64 k, .int .i64 n] w fun e w' => e = .returned (.tuple #[.int .u32 (hrn zs k n.toNat), .bool true]) ∧ w = w' := by
  have HR := Lib.hid hb.range
  obtain ⟨b, off, rfl, hc⟩ := hb.at_ (by omega)
  have HC := Lib.hid hc
  clear hb hc
  have d0 : decide ((k : Int) < 0) = false := by simp
  have d2 : decide ((len : Int) < (k : Int)) = false := by simp; omega
  have d3 : decide ((len : Int) - (k : Int) < n) = false := by simp; omega
  have d4 : (k : Int) ≤ (len : Int) := by omega
  go_enter Tryz.func166, Tryz.ntmps166
  go_wp2
  go_loop [8, 9] (fun x i => ∃ j : Nat, (j : Int) ≤ n ∧ x = .int .u32 (hrn zs k j) ∧ i = .int .i64 j) (fun _ i => n.toNat - (intOf i).toNat)
  case atStart => exact ⟨0, by omega, rfl, rfl⟩
  case round =>
    obtain ⟨j, hj, rfl, rfl⟩ := hrel
    by_cases hlt : (j : Int) < n
    · have c1 := HC.out (k + j) (by omega)
      have b0 := hrn_lo zs k HR.out j
      have b1 := hrn_hi zs k HR.out j (by omega)
      have b2 := (HR.out (k + j)).1
      have b3 := (HR.out (k + j)).2
      obtain ⟨x, hx⟩ : ∃ x, zs.getD (k + j) 0 = x := ⟨_, rfl⟩
      rw [hx] at c1 b2 b3
      have Hx := Lib.hid hx
      clear hx
      have k1 : (k : Int) + (j : Int) < (len : Int) := by omega
      go_wp2
      go_round
      case rel => exact ⟨j + 1, by omega, by rw [hrn, Hx.out], by go_num⟩
      case measure => simp [intOf]; omega
    · have hj' : j = n.toNat := by omega
      have HJ := Lib.hid hj'
      clear hj'
      go_wp2
      go_ret2
      exact ⟨by rw [← HJ.out]; rfl, rfl⟩
end Go.Proofs.YthjdjbipfdigeaaGreat

namespace Go.Proofs.YthjdjbipfdigeaaGreat
open Go.RowKit
set_option linter.unusedVariables false

set_option maxHeartbeats 400000 in
theorem rhalf_no (A : Option Addr) (len cap : Nat) (at_ : Int) (w : World) (hl : (len : Int) ≤ 9223372036854775807) (ha : -9223372036854775808 ≤ at_) (ha' : at_ ≤ 9223372036854775807) (hf : fitB len at_ 2 = false) :
    Calls Tryz.prog 148 #[.slice A len cap, .int .i64 at_] w fun e w' => e = .returned (.tuple #[.int .u32 0, .bool false]) ∧ w = w' := by
  have HF := Lib.hid hf
  clear hf
  go_enter Tryz.func148, Tryz.ntmps148
  go_wp2_with (go_at_call 166; refine (rfield_no _ _ _ _ _ _ hl ha ha' (by omega) (by omega) HF.out).mono ?_; rintro e w' ⟨rfl, rfl⟩)
  go_ret2
  exact ⟨rfl, rfl⟩

set_option maxHeartbeats 400000 in
theorem rhalf_yes (A : Option Addr) (len cap k : Nat) (zs : List Int) (w : World) (hl : (len : Int) ≤ 9223372036854775807) (hb : Byt w A len zs) (hk : (k : Int) + 2 ≤ (len : Int)) :
    Calls Tryz.prog 148 #[.slice A len cap, .int .i64 k] w fun e w' => e = .returned (.tuple #[.int .u32 (hfv (zs.getD k 0) (zs.getD (k + 1) 0)), .bool true]) ∧ w = w' := by
  have HB := Lib.hid hb
  have hr1 := hb.range k
  have hr2 := hb.range (k + 1)
  have h2 := hrn_two zs k
  clear hb
  obtain ⟨x, hx⟩ : ∃ x, zs.getD k 0 = x := ⟨_, rfl⟩
  obtain ⟨y, hy⟩ : ∃ y, zs.getD (k + 1) 0 = y := ⟨_, rfl⟩
  rw [hx] at hr1 h2
  rw [hy] at hr2 h2
  rw [hx, hy]
  have H2 := Lib.hid h2
  clear hx hy h2
  have x0 := hr1.1
  have x1 := hr1.2
  have y0 := hr2.1
  have y1 := hr2.2
  clear hr1 hr2
  by_cases hlt : x * 256 + y < 32768
  · have hs := Lib.hid (show hfv x y = x * 256 + y from by unfold hfv sx16 lo32; rw [if_pos hlt]; omega)
    go_enter Tryz.func148, Tryz.ntmps148
    go_wp2_with (go_at_call 166; refine (rfield_yes _ _ _ k 2 zs _ hl HB.out (by omega) (by omega) (by omega)).mono ?_; rintro e w' ⟨rfl, rfl⟩; rw [show (2 : Int).toNat = 2 from rfl, H2.out])
    go_ret2
    exact ⟨by rw [hs.out]; rfl, rfl⟩
  · have hs := Lib.hid (show hfv x y = x * 256 + y + 4294901760 from by unfold hfv sx16 lo32; rw [if_neg hlt]; omega)
    go_enter Tryz.func148, Tryz.ntmps148
    go_wp2_with (go_at_call 166; refine (rfield_yes _ _ _ k 2 zs _ hl HB.out (by omega) (by omega) (by omega)).mono ?_; rintro e w' ⟨rfl, rfl⟩; rw [show (2 : Int).toNat = 2 from rfl, H2.out])
    go_ret2
    exact ⟨by rw [hs.out]; rfl, rfl⟩

set_option maxHeartbeats 400000 in
theorem rfull_no (A : Option Addr) (len cap : Nat) (at_ : Int) (w : World) (hl : (len : Int) ≤ 9223372036854775807) (ha : -9223372036854775808 ≤ at_) (ha' : at_ ≤ 9223372036854775807) (hf : fitB len at_ 4 = false) :
    Calls Tryz.prog 145 #[.slice A len cap, .int .i64 at_] w fun e w' => e = .returned (.tuple #[.int .u32 0, .bool false]) ∧ w = w' := by
  have HF := Lib.hid hf
  clear hf
  go_enter Tryz.func145, Tryz.ntmps145
  go_wp2_with (go_at_call 166; refine (rfield_no _ _ _ _ _ _ hl ha ha' (by omega) (by omega) HF.out).mono ?_; rintro e w' ⟨rfl, rfl⟩)
  go_ret2
  exact ⟨rfl, rfl⟩

set_option maxHeartbeats 400000 in
theorem rfull_yes (A : Option Addr) (len cap k : Nat) (zs : List Int) (w : World) (hl : (len : Int) ≤ 9223372036854775807) (hb : Byt w A len zs) (hk : (k : Int) + 4 ≤ (len : Int)) :
    Calls Tryz.prog 145 #[.slice A len cap, .int .i64 k] w fun e w' => e = .returned (.tuple #[.int .u32 (flv (zs.getD k 0) (zs.getD (k + 1) 0) (zs.getD (k + 2) 0) (zs.getD (k + 3) 0)), .bool true]) ∧ w = w' := by
  have HB := Lib.hid hb
  have H2 := Lib.hid (hrn_four zs k)
  clear hb
  generalize flv (zs.getD k 0) (zs.getD (k + 1) 0) (zs.getD (k + 2) 0) (zs.getD (k + 3) 0) = V at *
  go_enter Tryz.func145, Tryz.ntmps145
  go_wp2_with (go_at_call 166; refine (rfield_yes _ _ _ k 4 zs _ hl HB.out (by omega) (by omega) (by omega)).mono ?_; rintro e w' ⟨rfl, rfl⟩; rw [show (4 : Int).toNat = 4 from rfl, H2.out])
  go_ret2
  exact ⟨rfl, rfl⟩
end Go.Proofs.YthjdjbipfdigeaaGreat

namespace Go.Proofs.YthjdjbipfdigeaaGreat
open Go.RowKit
set_option linter.unusedVariables false

theorem take_snoc_getD (S : List Int) (j : Nat) (h : j < S.length) : S.take (j + 1) = S.take j ++ [S.getD j 0] := by
  rw [List.take_succ_eq_append_getElem h]; simp [List.getD_eq_getElem?_getD, h]
theorem splice_getD_in (L ys : List Int) (k d : Nat) (hk : k ≤ L.length) (hd : d < ys.length) : (splice L k ys).getD (k + d) 0 = ys.getD d 0 := by
  have l1 : (L.take k).length = k := by rw [List.length_take]; omega
  unfold splice
  simp only [List.getD_eq_getElem?_getD]
  rw [List.getElem?_append_right (by omega), l1, Nat.add_sub_cancel_left, List.getElem?_append_left hd]
theorem splice_getD_out (L ys : List Int) (k j : Nat) (hk : k + ys.length ≤ L.length) (hj : j < k ∨ k + ys.length ≤ j) : (splice L k ys).getD j 0 = L.getD j 0 := by
  have l1 : (L.take k).length = k := by rw [List.length_take]; omega
  unfold splice
  simp only [List.getD_eq_getElem?_getD]
  rcases hj with hj | hj
  · rw [List.getElem?_append_left (by omega), List.getElem?_take, if_pos hj]
  · rw [List.getElem?_append_right (by omega), l1, List.getElem?_append_right (by omega), List.getElem?_drop]
    congr 2; omega

set_option maxHeartbeats 2000000 in
theorem rput_yes (A : Option Addr) (len cap k m : Nat) (n v : Int) (zs ys : List Int) (w : World) (hl : len ≤ 140737488355328) (hb : Byt w A len zs) (hn : 2 ≤ n) (hn' : n ≤ 4) (hm : (m : Int) = n) (hk : k + m ≤ len) (hv : 0 ≤ v) (hv' : v ≤ 4294967295)
    (hys : ys.length = m) (hyr : ∀ z ∈ ys, 0 ≤ z ∧ z ≤ 255) (hyv : ∀ d : Nat, d < m → v / 2 ^ (8 * (n - 1 - (d : Int))).toNat % 256 = ys.getD d 0) :
    Calls Tryz.prog 144 #[.slice A len cap, .int .i64 k, .int .i64 n, .int .u32 v] w (Fresh w len (splice zs k ys)) := by
  have hl2 : (len : Int) ≤ 9223372036854775807 := by omega
  have hkn : (k : Int) + n ≤ (len : Int) := by omega
  have hkl : (k : Int) ≤ (len : Int) := by omega
  have HB := Lib.hid hb
  have HL := Lib.hid hb.1
  obtain ⟨S, hS⟩ : ∃ S, splice zs k ys = S := ⟨_, rfl⟩
  have hSl : S.length = len := by rw [← hS, length_splice _ _ _ (by rw [hb.1, hys]; exact hk), hb.1]
  have hSr : ∀ z ∈ S, 0 ≤ z ∧ z ≤ 255 := by rw [← hS]; exact splice_range _ _ _ hb.2.1 hyr
  have hin : ∀ j : Nat, k ≤ j → j < k + m → v / 2 ^ (8 * (n - 1 - ((j : Int) - (k : Int)))).toNat % 256 = S.getD j 0 := by
    intro j h1 h2
    have e := hyv (j - k) (by omega)
    rw [show ((j - k : Nat) : Int) = (j : Int) - (k : Int) from by omega] at e
    rw [e, ← hS]
    have := splice_getD_in zs ys k (j - k) (by rw [hb.1]; omega) (by omega)
    rw [show k + (j - k) = j from by omega] at this
    exact this.symm
  have hout : ∀ j : Nat, j < k ∨ k + m ≤ j → S.getD j 0 = zs.getD j 0 := by
    intro j h
    rw [← hS]; exact splice_getD_out zs ys k j (by rw [hb.1, hys]; exact hk) (by rw [hys]; exact h)
  rw [hS]
  have HSl := Lib.hid hSl
  have HSr := Lib.hid hSr
  have Hin := Lib.hid hin
  have Hout := Lib.hid hout
  have Hm := Lib.hid hm
  have Hk := Lib.hid hk
  clear hb hyv hys hyr hS hSl hSr hin hout hm hk
  go_enter Tryz.func144, Tryz.ntmps144
  go_wp2_with (go_at_call 166; refine (rfield_yes _ _ _ k n zs _ hl2 HB.out hn hn' hkn).mono ?_; rintro e w' ⟨rfl, rfl⟩)
  go_loopw [12, 13] (fun o i wr => ∃ j : Nat, j ≤ len ∧ i = .int .i64 j ∧ Own wr w.heap.size o j (S.take j) ∧ Below w.heap.size w wr) (fun _ i _ => len - (intOf i).toNat)
  case atStart => exact ⟨0, Nat.zero_le _, rfl, by simpa using Own.nil _ _, Below.refl _ _⟩
  case round =>
    obtain ⟨j, hj, rfl, hown, hbl⟩ := hrel
    have HO := Lib.hid hown
    have HBl := Lib.hid hbl
    clear hown hbl
    by_cases hlt : j < len
    · have htk := Lib.hid (take_snoc_getD S j (by rw [HSl.out]; exact hlt))
      have hr1 : 0 ≤ S.getD j 0 ∧ S.getD j 0 ≤ 255 := HSr.out _ (by rw [List.getD_eq_getElem?_getD, List.getElem?_eq_getElem (by rw [HSl.out]; exact hlt)]; exact List.getElem_mem _)
      have hsz := HBl.out.size
      by_cases hmid : k ≤ j ∧ j < k + m
      · obtain ⟨m1, m2⟩ := hmid
        have m3 : (k : Int) ≤ (j : Int) := by omega
        have m4 : (j : Int) < (k : Int) + n := by have := Hm.out; omega
        have he := Hin.out j m1 m2
        obtain ⟨e, hE⟩ : ∃ e, S.getD j 0 = e := ⟨_, rfl⟩
        rw [hE] at he hr1
        have HE := Lib.hid hE
        have Hr := Lib.hid hr1
        clear hE hr1 m1 m2
        go_wp2_with (at_builtin; refine wpList_append_bytes rfl _ _ rfl w.heap.size _ j (S.take j) rfl (HO.out.alloc _) (some ⟨wr.heap.size, 0, none⟩) 1 1 [e] rfl (byt_new _ _ (by simpa using Hr.out) _ (by simp) _ rfl _) (fun h => nomatch h) (by omega) (by simp; omega) ?_; intro v' w1 hown1 hg1; have HO1 := Lib.hid hown1; have HB1 := Lib.hid ((HBl.out.alloc hsz _).grown hg1 (by simp; omega) (fun g hg => (HO.out.block g hg).1)); clear hown1 hg1)
        go_roundw
        case rel => exact ⟨j + 1, by omega, by go_num, by rw [htk.out, HE.out]; exact HO1.out, HB1.out⟩
        case measure => simp [intOf]; omega
      · have he := Hout.out j (by omega)
        have hmd := Lib.hid hmid
        have HBy := HB.out.keep HBl.out
        obtain ⟨b, off, rfl, hc⟩ := HBy.at_ (by omega)
        have c1 := hc j hlt
        rw [← he] at c1
        obtain ⟨e, hE⟩ : ∃ e, S.getD j 0 = e := ⟨_, rfl⟩
        rw [hE] at he hr1 c1
        have HE := Lib.hid hE
        have Hr := Lib.hid hr1
        have k1 : (j : Int) < (len : Int) := by omega
        by_cases hlo : j < k
        · have g1 : decide ((k : Int) ≤ (j : Int)) = false := by simp; omega
          have g2 : (j : Int) < (k : Int) := by omega
          clear hE hr1 hc HBy hmid he
          go_wp2_with (at_builtin; refine wpList_append_bytes rfl _ _ rfl w.heap.size _ j (S.take j) rfl (HO.out.alloc _) (some ⟨wr.heap.size, 0, none⟩) 1 1 [e] rfl (byt_new _ _ (by simpa using Hr.out) _ (by simp) _ rfl _) (fun h => nomatch h) (by omega) (by simp; omega) ?_; intro v' w1 hown1 hg1; have HO1 := Lib.hid hown1; have HB1 := Lib.hid ((HBl.out.alloc hsz _).grown hg1 (by simp; omega) (fun g hg => (HO.out.block g hg).1)); clear hown1 hg1)
          go_roundw
          case rel => exact ⟨j + 1, by omega, by go_num, by rw [htk.out, HE.out]; exact HO1.out, HB1.out⟩
          case measure => simp [intOf]; omega
        · have g0 : (k : Int) ≤ (j : Int) := by omega
          have g2 : (k : Int) + n ≤ (j : Int) := by have := Hm.out; have := hmd.out; omega
          have g1 : decide ((j : Int) < (k : Int) + n) = false := by simp; omega
          clear hE hr1 hc HBy hmid he hlo
          go_wp2_with (at_builtin; refine wpList_append_bytes rfl _ _ rfl w.heap.size _ j (S.take j) rfl (HO.out.alloc _) (some ⟨wr.heap.size, 0, none⟩) 1 1 [e] rfl (byt_new _ _ (by simpa using Hr.out) _ (by simp) _ rfl _) (fun h => nomatch h) (by omega) (by simp; omega) ?_; intro v' w1 hown1 hg1; have HO1 := Lib.hid hown1; have HB1 := Lib.hid ((HBl.out.alloc hsz _).grown hg1 (by simp; omega) (fun g hg => (HO.out.block g hg).1)); clear hown1 hg1)
          go_roundw
          case rel => exact ⟨j + 1, by omega, by go_num, by rw [htk.out, HE.out]; exact HO1.out, HB1.out⟩
          case measure => simp [intOf]; omega
    · obtain rfl : j = len := by omega
      go_wp2
      go_ret2
      exact ⟨_, rfl, by have := HO.out; rwa [List.take_of_length_le (by rw [HSl.out]; exact Nat.le_refl _)] at this, HBl.out⟩
end Go.Proofs.YthjdjbipfdigeaaGreat

namespace Go.Proofs.YthjdjbipfdigeaaGreat
open Go.RowKit
set_option linter.unusedVariables false

def hval (len : Nat) (at_ : Int) (zs : List Int) : Int := if fitB len at_ 2 = true then hfv (zs.getD at_.toNat 0) (zs.getD (at_.toNat + 1) 0) else 0
def fval (len : Nat) (at_ : Int) (zs : List Int) : Int := if fitB len at_ 4 = true then flv (zs.getD at_.toNat 0) (zs.getD (at_.toNat + 1) 0) (zs.getD (at_.toNat + 2) 0) (zs.getD (at_.toNat + 3) 0) else 0
def plen (len : Nat) (at_ n : Int) : Nat := if fitB len at_ n = true then len else 0
def pbytes (len : Nat) (at_ n : Int) (zs ys : List Int) : List Int := if fitB len at_ n = true then splice zs at_.toNat ys else []

theorem half_any (A : Option Addr) (len cap : Nat) (at_ : Int) (zs : List Int) (w : World) (hl : (len : Int) ≤ 9223372036854775807) (hb : Byt w A len zs) (ha : -9223372036854775808 ≤ at_) (ha' : at_ ≤ 9223372036854775807) :
    Calls Tryz.prog 160 #[.slice A len cap, .int .i64 at_] w fun e w' => e = .returned (.tuple #[.int .u32 (hval len at_ zs), .bool (fitB len at_ 2)]) ∧ ∃ n, w' = w.drewN n := by
  cases hf : fitB len at_ 2
  · have e : hval len at_ zs = 0 := by simp [hval, hf]
    rw [e]
    exact half_no A len cap at_ w hl ha ha' hf
  · obtain ⟨h0, h1⟩ := fitB_yes hf
    obtain ⟨k, rfl⟩ := Int.eq_ofNat_of_zero_le h0
    have e : hval len k zs = hfv (zs.getD k 0) (zs.getD (k + 1) 0) := by simp [hval, hf]
    rw [e]
    obtain ⟨b, off, rfl, hc⟩ := hb.at_ (by omega)
    exact half_yes b off len cap k _ _ w hl (by omega) (hc k (by omega)) (hc (k + 1) (by omega)) (hb.range k).1 (hb.range k).2 (hb.range (k + 1)).1 (hb.range (k + 1)).2
theorem full_any (A : Option Addr) (len cap : Nat) (at_ : Int) (zs : List Int) (w : World) (hl : (len : Int) ≤ 9223372036854775807) (hb : Byt w A len zs) (ha : -9223372036854775808 ≤ at_) (ha' : at_ ≤ 9223372036854775807) :
    Calls Tryz.prog 110 #[.slice A len cap, .int .i64 at_] w fun e w' => e = .returned (.tuple #[.int .u32 (fval len at_ zs), .bool (fitB len at_ 4)]) ∧ ∃ n, w' = w.drewN n := by
  cases hf : fitB len at_ 4
  · have e : fval len at_ zs = 0 := by simp [fval, hf]
    rw [e]
    exact full_no A len cap at_ w hl ha ha' hf
  · obtain ⟨h0, h1⟩ := fitB_yes hf
    obtain ⟨k, rfl⟩ := Int.eq_ofNat_of_zero_le h0
    have e : fval len k zs = flv (zs.getD k 0) (zs.getD (k + 1) 0) (zs.getD (k + 2) 0) (zs.getD (k + 3) 0) := by simp [fval, hf]
    rw [e]
    obtain ⟨b, off, rfl, hc⟩ := hb.at_ (by omega)
    exact full_yes b off len cap k _ _ _ _ w hl (by omega) (hc k (by omega)) (hc (k + 1) (by omega)) (hc (k + 2) (by omega)) (hc (k + 3) (by omega)) (hb.range k).1 (hb.range k).2 (hb.range (k + 1)).1 (hb.range (k + 1)).2 (hb.range (k + 2)).1 (hb.range (k + 2)).2 (hb.range (k + 3)).1 (hb.range (k + 3)).2
theorem rhalf_any (A : Option Addr) (len cap : Nat) (at_ : Int) (zs : List Int) (w : World) (hl : (len : Int) ≤ 9223372036854775807) (hb : Byt w A len zs) (ha : -9223372036854775808 ≤ at_) (ha' : at_ ≤ 9223372036854775807) :
    Calls Tryz.prog 148 #[.slice A len cap, .int .i64 at_] w fun e w' => e = .returned (.tuple #[.int .u32 (hval len at_ zs), .bool (fitB len at_ 2)]) ∧ w = w' := by
  cases hf : fitB len at_ 2
  · have e : hval len at_ zs = 0 := by simp [hval, hf]
    rw [e]
    exact rhalf_no A len cap at_ w hl ha ha' hf
  · obtain ⟨h0, h1⟩ := fitB_yes hf
    obtain ⟨k, rfl⟩ := Int.eq_ofNat_of_zero_le h0
    have e : hval len k zs = hfv (zs.getD k 0) (zs.getD (k + 1) 0) := by simp [hval, hf]
    rw [e]
    exact rhalf_yes A len cap k zs w hl hb (by omega)
theorem rfull_any (A : Option Addr) (len cap : Nat) (at_ : Int) (zs : List Int) (w : World) (hl : (len : Int) ≤ 9223372036854775807) (hb : Byt w A len zs) (ha : -9223372036854775808 ≤ at_) (ha' : at_ ≤ 9223372036854775807) :
    Calls Tryz.prog 145 #[.slice A len cap, .int .i64 at_] w fun e w' => e = .returned (.tuple #[.int .u32 (fval len at_ zs), .bool (fitB len at_ 4)]) ∧ w = w' := by
  cases hf : fitB len at_ 4
  · have e : fval len at_ zs = 0 := by simp [fval, hf]
    rw [e]
    exact rfull_no A len cap at_ w hl ha ha' hf
  · obtain ⟨h0, h1⟩ := fitB_yes hf
    obtain ⟨k, rfl⟩ := Int.eq_ofNat_of_zero_le h0
    have e : fval len k zs = flv (zs.getD k 0) (zs.getD (k + 1) 0) (zs.getD (k + 2) 0) (zs.getD (k + 3) 0) := by simp [fval, hf]
    rw [e]
    exact rfull_yes A len cap k zs w hl hb (by omega)

/-- what comes back: a slice of the call's own, or nil, and whether the field fits -/
def Gives (w : World) (n : Nat) (zs : List Int) (ok : Bool) (e : Ending) (w' : World) : Prop :=
  ∃ A cap, e = .returned (.tuple #[.slice A n cap, .bool ok]) ∧ Own w' w.heap.size (.slice A n cap) n zs ∧ (A = none → cap = 0) ∧ Below w.heap.size w w'
theorem Own.shape {w : World} {base n : Nat} {v : Value} {zs : List Int} (h : Own w base v n zs) : ∃ A cap, v = .slice A n cap ∧ (A = none → cap = 0) := by
  rcases h.form with ⟨rfl, rfl⟩ | ⟨g, cap, rfl, _⟩
  · exact ⟨none, 0, rfl, fun _ => rfl⟩
  · exact ⟨_, cap, rfl, fun h => nomatch h⟩
theorem gives_of_fresh {w : World} {n : Nat} {zs : List Int} {e : Ending} {w' : World} (h : Fresh w n zs e w') : Gives w n zs true e w' := by
  obtain ⟨v, rfl, ho, hb⟩ := h
  obtain ⟨A, cap, rfl, hA⟩ := ho.shape
  exact ⟨A, cap, rfl, ho, hA, hb⟩
theorem gives_nil {w w' : World} {e : Ending} (he : e = .returned (.tuple #[.slice none 0 0, .bool false])) (hb : Below w.heap.size w w') : Gives w 0 [] false e w' :=
  ⟨none, 0, he, Own.nil _ _, fun _ => rfl, hb⟩

set_option maxHeartbeats 400000 in
theorem rput_any (A : Option Addr) (len cap m : Nat) (at_ n v : Int) (zs ys : List Int) (w : World) (hl : len ≤ 140737488355328) (hb : Byt w A len zs) (ha : -9223372036854775808 ≤ at_) (ha' : at_ ≤ 9223372036854775807) (hn : 2 ≤ n) (hn' : n ≤ 4) (hm : (m : Int) = n) (hv : 0 ≤ v) (hv' : v ≤ 4294967295)
    (hys : ys.length = m) (hyr : ∀ z ∈ ys, 0 ≤ z ∧ z ≤ 255) (hyv : ∀ d : Nat, d < m → v / 2 ^ (8 * (n - 1 - (d : Int))).toNat % 256 = ys.getD d 0) :
    Calls Tryz.prog 144 #[.slice A len cap, .int .i64 at_, .int .i64 n, .int .u32 v] w (Gives w (plen len at_ n) (pbytes len at_ n zs ys) (fitB len at_ n)) := by
  cases hf : fitB len at_ n
  · have e1 : plen len at_ n = 0 := by simp [plen, hf]
    have e2 : pbytes len at_ n zs ys = [] := by simp [pbytes, hf]
    have hl2 : (len : Int) ≤ 9223372036854775807 := by omega
    rw [e1, e2]
    have HF := Lib.hid hf
    clear hf hb hyv hyr hys hm e1 e2
    go_enter Tryz.func144, Tryz.ntmps144
    go_wp2_with (go_at_call 166; refine (rfield_no _ _ _ _ _ _ hl2 ha ha' hn hn' HF.out).mono ?_; rintro e w' ⟨rfl, rfl⟩)
    go_ret2
    exact gives_nil rfl (Below.refl _ _)
  · obtain ⟨h0, h1⟩ := fitB_yes hf
    obtain ⟨k, rfl⟩ := Int.eq_ofNat_of_zero_le h0
    have e1 : plen len k n = len := by simp [plen, hf]
    have e2 : pbytes len k n zs ys = splice zs k ys := by simp [pbytes, hf]
    rw [e1, e2]
    exact (rput_yes A len cap k m n v zs ys w hl hb hn hn' hm (by omega) hv hv' hys hyr hyv).mono fun e w' h => gives_of_fresh h

theorem fby_at (v : Int) (d : Nat) (h : d < 4) : v / 2 ^ (8 * ((4 : Int) - 1 - (d : Int))).toNat % 256 = (fby v).getD d 0 := by
  have : d = 0 ∨ d = 1 ∨ d = 2 ∨ d = 3 := by omega
  rcases this with rfl | rfl | rfl | rfl
  · rfl
  · rfl
  · rfl
  · show v / 2 ^ 0 % 256 = v % 256
    rw [Int.pow_zero, Int.ediv_one]

set_option maxHeartbeats 400000 in
theorem rputfull_any (A : Option Addr) (len cap : Nat) (at_ v : Int) (zs : List Int) (w : World) (hl : len ≤ 140737488355328) (hb : Byt w A len zs) (ha : -9223372036854775808 ≤ at_) (ha' : at_ ≤ 9223372036854775807) (hv : 0 ≤ v) (hv' : v ≤ 4294967295) :
    Calls Tryz.prog 76 #[.slice A len cap, .int .i64 at_, .int .u32 v] w (Gives w (plen len at_ 4) (pbytes len at_ 4 zs (fby v)) (fitB len at_ 4)) := by
  have HC := Lib.hid (rput_any A len cap 4 at_ 4 v zs (fby v) w hl hb ha ha' (by omega) (by omega) rfl hv hv' rfl (by simp [fby]; omega) (fby_at v))
  clear hb
  go_enter Tryz.func76, Tryz.ntmps76
  go_wp2_with fail
  refine HC.out.mono ?_
  rintro e w' ⟨B, c, rfl, ho, hB, hbl⟩
  have HO := Lib.hid ho
  have HB := Lib.hid hB
  have HX := Lib.hid hbl
  clear ho hB hbl
  go_wp2_with fail
  go_ret2
  exact ⟨_, _, rfl, HO.out, HB.out, HX.out⟩
end Go.Proofs.YthjdjbipfdigeaaGreat

namespace Go.Proofs.YthjdjbipfdigeaaGreat
open Go.RowKit
set_option maxRecDepth 100000
set_option linter.unusedVariables false
set_option linter.unusedSimpArgs false
set_option maxRecDepth 1000000 in
set_option maxHeartbeats 4000000 in
theorem need_no (c : Int) (w : World) : Calls Tryz.prog 100 #[.bool false, .int .i64 c] w fun e w' => e = .panicked [{ v := .iface 59 (.int .i64 c), recovered := false }] ∧ w = w' := by
  go_enter Tryz.func100, Tryz.ntmps100
  go_wp2
  first | exact ⟨rfl, rfl⟩ | exact ⟨rfl, rfl, rfl⟩
set_option maxRecDepth 1000000 in
set_option maxHeartbeats 4000000 in
theorem put_no (g : Nat) (F : Foot) (is os rs : List Int) (ps : List Value) (ov : Bool) (bs ks : List Int) (addr key : Int) (A : Option Addr) (len cap : Nat) (ys : List Int) (w : World) (h : MS w g F is os rs ps ov bs ks) (hk : ps.getD 1 undef = .int .i64 key) (hy : Byt w A len ys) (hl : (len : Int) ≤ 9223372036854775807) (c : Int) (hc : sCode (alP key) bs.length ks addr len = c) (hc0 : c ≠ 0) : Calls Tryz.prog 105 #[.pointer (some ⟨g, 0, none⟩), .int .i64 addr, .slice A len cap] w fun e w' => e = .panicked [{ v := .iface 59 (.int .i64 c), recovered := false }] ∧ MS w' g F is os rs ps ov bs ks ∧ Ch w w' [F.gb] := by
  have HH := Lib.hid h
  have HK := Lib.hid hk
  have PC := Lib.hid (put_c w.drew (h.st.drewN 1) addr key A len cap ys (hy.keep (below_draw w 1)) hl)
  have hsame : sPut (alP key) bs ks addr ys = bs := by
    unfold sPut
    rw [hy.1, hc, if_neg hc0]
  rw [hc, hsame] at PC
  have e0 : (c == 0) = false := by simpa using hc0
  clear h hk hy hc hsame
  go_enter Tryz.func105, Tryz.ntmps105
  go_upto_region 0 with fail
  refine wp_region_held_drew (S := (fun w' => Mc w' g is os rs ps (.pointer (some ⟨F.g, 0, none⟩)) ov)) (by kernel_rfl) ?_ (fun hHeld => ?_)
  · (try dsimp only); exact HH.out.m.drewN 1
  refine' takeL (i := 0) (v := _) rfl (by kernel_rfl) (by kernel_rfl) (by kernel_rfl) (fun _ _ _ h => h) (Or.inl ⟨by rfl, ?yy1⟩) (by assumption) ?rr1
  case yy1 => intro w hSw; (try dsimp only at hSw); go_simp; (try with_reducible rfl)
  try simp only [Act.put, List.setIfInBounds_toArray, List.set_cons_zero, List.set_cons_succ]
  refine' takeL (i := 1) (v := _) rfl (by kernel_rfl) (by kernel_rfl) (by kernel_rfl) (fun _ _ _ h => h) (Or.inl ⟨by rfl, ?yy2⟩) (by assumption) ?rr2
  case yy2 => intro w hSw; (try dsimp only at hSw); go_simp; (try with_reducible rfl)
  try simp only [Act.put, List.setIfInBounds_toArray, List.set_cons_zero, List.set_cons_succ]
  refine' takeL (i := 2) (v := _) rfl (by kernel_rfl) (by kernel_rfl) (by kernel_rfl) (fun _ _ _ h => h) (Or.inl ⟨by rfl, ?yy3⟩) (by assumption) ?rr3
  case yy3 => intro w hSw; (try dsimp only at hSw); go_simp; (try with_reducible rfl)
  try simp only [Act.put, List.setIfInBounds_toArray, List.set_cons_zero, List.set_cons_succ]
  refine' takeL (i := 3) (v := .pointer (some ⟨F.g, 0, none⟩)) rfl (by kernel_rfl) (by kernel_rfl) (by kernel_rfl) (fun _ _ _ h => h) (Or.inl ⟨by rfl, ?yy4⟩) (by assumption) ?rr4
  case yy4 => intro w hSw; (try dsimp only at hSw); have hq := hSw.cs; go_simp; (try with_reducible rfl)
  try simp only [Act.put, List.setIfInBounds_toArray, List.set_cons_zero, List.set_cons_succ]
  refine' takeL (i := 4) (v := _) rfl (by kernel_rfl) (by kernel_rfl) (by kernel_rfl) (fun _ _ _ h => h) (Or.inl ⟨by rfl, ?yy5⟩) (by assumption) ?rr5
  case yy5 => intro w hSw; (try dsimp only at hSw); go_simp; (try with_reducible rfl)
  try simp only [Act.put, List.setIfInBounds_toArray, List.set_cons_zero, List.set_cons_succ]
  refine' takeL (i := 5) (v := _) rfl (by kernel_rfl) (by kernel_rfl) (by kernel_rfl) (fun _ _ _ h => h) (Or.inl ⟨by rfl, ?yy6⟩) (by assumption) ?rr6
  case yy6 => intro w hSw; (try dsimp only at hSw); go_simp; (try with_reducible rfl)
  try simp only [Act.put, List.setIfInBounds_toArray, List.set_cons_zero, List.set_cons_succ]
  refine' takeL (i := 6) (v := _) rfl (by kernel_rfl) (by kernel_rfl) (by kernel_rfl) (fun _ _ _ h => h) (Or.inl ⟨by rfl, ?yy7⟩) (by assumption) ?rr7
  case yy7 => intro w hSw; (try dsimp only at hSw); go_simp; (try with_reducible rfl)
  try simp only [Act.put, List.setIfInBounds_toArray, List.set_cons_zero, List.set_cons_succ]
  refine' takeL (i := 7) (v := _) rfl (by kernel_rfl) (by kernel_rfl) (by kernel_rfl) (fun _ _ _ h => h) (Or.inl ⟨by rfl, ?yy8⟩) (by assumption) ?rr8
  case yy8 => intro w hSw; (try dsimp only at hSw); go_simp; (try with_reducible rfl)
  try simp only [Act.put, List.setIfInBounds_toArray, List.set_cons_zero, List.set_cons_succ]
  refine' takeL (i := 8) (v := _) rfl (by kernel_rfl) (by kernel_rfl) (by kernel_rfl) (fun _ _ _ h => h) (Or.inl ⟨by rfl, ?yy9⟩) (by assumption) ?rr9
  case yy9 => intro w hSw; (try dsimp only at hSw); go_simp; (try with_reducible rfl)
  try simp only [Act.put, List.setIfInBounds_toArray, List.set_cons_zero, List.set_cons_succ]
  refine' takeL (i := 9) (v := _) rfl (by kernel_rfl) (by kernel_rfl) (by kernel_rfl) (fun _ _ _ h => h) (Or.inl ⟨by rfl, ?yy10⟩) (by assumption) ?rr10
  case yy10 => intro w hSw; (try dsimp only at hSw); go_simp; (try with_reducible rfl)
  try simp only [Act.put, List.setIfInBounds_toArray, List.set_cons_zero, List.set_cons_succ]
  refine' takeL (i := 10) (v := .int .i64 key) rfl (by kernel_rfl) (by kernel_rfl) (by kernel_rfl) (fun _ _ _ h => h) (Or.inl ⟨by rfl, ?yy11⟩) (by assumption) ?rr11
  case yy11 => intro w hSw; (try dsimp only at hSw); have hq := hSw.cp (n := 1) (by omega); rw [HK.out] at hq; go_simp; (try with_reducible rfl)
  try simp only [Act.put, List.setIfInBounds_toArray, List.set_cons_zero, List.set_cons_succ]
  refine wpAnyH_ready (rs := [11]) (by kernel_rfl) (by simp) ?_
  refine consL rfl (fun K hK => ?_) AllReadyH.nil
  go_simp
  go_at_call 12
  refine PC.out.mono ?_
  rintro e w5 ⟨rfl, hS, hG⟩
  have M5 := Lib.hid ((HH.out.drewN 1).put_ hS hG)
  have C5 := Lib.hid (show Ch w w5 [F.gb] from ((Ch.refl w [F.gb]).drewN 1).trans (Ch.of_grown hG))
  clear hS hG hHeld
  go_wp2_with fail
  refine hK.out _ _ ?_ (fun hHeld => ?_)
  · (try dsimp only); exact M5.out.m
  clear hK K
  try simp only [Act.put, List.setIfInBounds_toArray, List.set_cons_zero, List.set_cons_succ]
  refine' takeL (i := 12) (v := _) rfl (by kernel_rfl) (by kernel_rfl) (by kernel_rfl) (fun _ _ _ h => h) (Or.inl ⟨by rfl, ?yy12⟩) (by assumption) ?rr12
  case yy12 => intro w hSw; (try dsimp only at hSw); go_simp; (try with_reducible rfl)
  try simp only [Act.put, List.setIfInBounds_toArray, List.set_cons_zero, List.set_cons_succ]
  refine wpAnyH_done (by kernel_rfl) ?_ _
  clear hHeld
  go_wp2_with (go_at_call 100; refine (need_no _ _).mono ?_; rintro e wx ⟨rfl, hwx⟩; subst hwx)
  exact ⟨rfl, rfl, M5.out, C5.out⟩
set_option maxRecDepth 1000000 in
set_option maxHeartbeats 4000000 in
theorem fetch_no (g : Nat) (F : Foot) (is os rs : List Int) (ps : List Value) (ov : Bool) (bs ks : List Int) (addr n key : Int) (w : World) (h : MS w g F is os rs ps ov bs ks) (hk : ps.getD 1 undef = .int .i64 key) (c : Int) (hc : sCode (alF key) bs.length ks addr n = c) (hc0 : c ≠ 0) : Calls Tryz.prog 108 #[.pointer (some ⟨g, 0, none⟩), .int .i64 addr, .int .i64 n] w fun e w' => e = .panicked [{ v := .iface 59 (.int .i64 c), recovered := false }] ∧ MS w' g F is os rs ps ov bs ks ∧ Ch w w' [] := by
  have HH := Lib.hid h
  have HK := Lib.hid hk
  have FC := Lib.hid (fetch_c w.drew (h.st.drewN 1) addr n key)
  unfold sFet at FC
  rw [hc, if_neg hc0] at FC
  have e0 : (c == 0) = false := by simpa using hc0
  clear h hk hc
  go_enter Tryz.func108, Tryz.ntmps108
  go_upto_region 1 with fail
  refine wp_region_held_drew (S := (fun w' => Mc w' g is os rs ps (.pointer (some ⟨F.g, 0, none⟩)) ov)) (by kernel_rfl) ?_ (fun hHeld => ?_)
  · (try dsimp only); exact HH.out.m.drewN 1
  refine' takeL (i := 0) (v := _) rfl (by kernel_rfl) (by kernel_rfl) (by kernel_rfl) (fun _ _ _ h => h) (Or.inl ⟨by rfl, ?yy13⟩) (by assumption) ?rr13
  case yy13 => intro w hSw; (try dsimp only at hSw); go_simp; (try with_reducible rfl)
  try simp only [Act.put, List.setIfInBounds_toArray, List.set_cons_zero, List.set_cons_succ]
  refine' takeL (i := 1) (v := _) rfl (by kernel_rfl) (by kernel_rfl) (by kernel_rfl) (fun _ _ _ h => h) (Or.inl ⟨by rfl, ?yy14⟩) (by assumption) ?rr14
  case yy14 => intro w hSw; (try dsimp only at hSw); go_simp; (try with_reducible rfl)
  try simp only [Act.put, List.setIfInBounds_toArray, List.set_cons_zero, List.set_cons_succ]
  refine' takeL (i := 2) (v := _) rfl (by kernel_rfl) (by kernel_rfl) (by kernel_rfl) (fun _ _ _ h => h) (Or.inl ⟨by rfl, ?yy15⟩) (by assumption) ?rr15
  case yy15 => intro w hSw; (try dsimp only at hSw); go_simp; (try with_reducible rfl)
  try simp only [Act.put, List.setIfInBounds_toArray, List.set_cons_zero, List.set_cons_succ]
  refine' takeL (i := 3) (v := .pointer (some ⟨F.g, 0, none⟩)) rfl (by kernel_rfl) (by kernel_rfl) (by kernel_rfl) (fun _ _ _ h => h) (Or.inl ⟨by rfl, ?yy16⟩) (by assumption) ?rr16
  case yy16 => intro w hSw; (try dsimp only at hSw); have hq := hSw.cs; go_simp; (try with_reducible rfl)
  try simp only [Act.put, List.setIfInBounds_toArray, List.set_cons_zero, List.set_cons_succ]
  refine' takeL (i := 4) (v := _) rfl (by kernel_rfl) (by kernel_rfl) (by kernel_rfl) (fun _ _ _ h => h) (Or.inl ⟨by rfl, ?yy17⟩) (by assumption) ?rr17
  case yy17 => intro w hSw; (try dsimp only at hSw); go_simp; (try with_reducible rfl)
  try simp only [Act.put, List.setIfInBounds_toArray, List.set_cons_zero, List.set_cons_succ]
  refine' takeL (i := 5) (v := _) rfl (by kernel_rfl) (by kernel_rfl) (by kernel_rfl) (fun _ _ _ h => h) (Or.inl ⟨by rfl, ?yy18⟩) (by assumption) ?rr18
  case yy18 => intro w hSw; (try dsimp only at hSw); go_simp; (try with_reducible rfl)
  try simp only [Act.put, List.setIfInBounds_toArray, List.set_cons_zero, List.set_cons_succ]
  refine' takeL (i := 6) (v := _) rfl (by kernel_rfl) (by kernel_rfl) (by kernel_rfl) (fun _ _ _ h => h) (Or.inl ⟨by rfl, ?yy19⟩) (by assumption) ?rr19
  case yy19 => intro w hSw; (try dsimp only at hSw); go_simp; (try with_reducible rfl)
  try simp only [Act.put, List.setIfInBounds_toArray, List.set_cons_zero, List.set_cons_succ]
  refine' takeL (i := 7) (v := _) rfl (by kernel_rfl) (by kernel_rfl) (by kernel_rfl) (fun _ _ _ h => h) (Or.inl ⟨by rfl, ?yy20⟩) (by assumption) ?rr20
  case yy20 => intro w hSw; (try dsimp only at hSw); go_simp; (try with_reducible rfl)
  try simp only [Act.put, List.setIfInBounds_toArray, List.set_cons_zero, List.set_cons_succ]
  refine' takeL (i := 8) (v := _) rfl (by kernel_rfl) (by kernel_rfl) (by kernel_rfl) (fun _ _ _ h => h) (Or.inl ⟨by rfl, ?yy21⟩) (by assumption) ?rr21
  case yy21 => intro w hSw; (try dsimp only at hSw); go_simp; (try with_reducible rfl)
  try simp only [Act.put, List.setIfInBounds_toArray, List.set_cons_zero, List.set_cons_succ]
  refine' takeL (i := 9) (v := _) rfl (by kernel_rfl) (by kernel_rfl) (by kernel_rfl) (fun _ _ _ h => h) (Or.inl ⟨by rfl, ?yy22⟩) (by assumption) ?rr22
  case yy22 => intro w hSw; (try dsimp only at hSw); go_simp; (try with_reducible rfl)
  try simp only [Act.put, List.setIfInBounds_toArray, List.set_cons_zero, List.set_cons_succ]
  refine' takeL (i := 10) (v := .int .i64 key) rfl (by kernel_rfl) (by kernel_rfl) (by kernel_rfl) (fun _ _ _ h => h) (Or.inl ⟨by rfl, ?yy23⟩) (by assumption) ?rr23
  case yy23 => intro w hSw; (try dsimp only at hSw); have hq := hSw.cp (n := 1) (by omega); rw [HK.out] at hq; go_simp; (try with_reducible rfl)
  try simp only [Act.put, List.setIfInBounds_toArray, List.set_cons_zero, List.set_cons_succ]
  refine wpAnyH_ready (rs := [11]) (by kernel_rfl) (by simp) ?_
  refine consL rfl (fun K hK => ?_) AllReadyH.nil
  go_simp
  go_at_call 157
  refine FC.out.mono ?_
  rintro e w5 ⟨A, m, cap, rfl, hO, hb⟩
  have M5 := Lib.hid ((HH.out.drewN 1).keep hb)
  have C5 := Lib.hid (show Ch w w5 [] from ((Ch.refl w []).drewN 1).trans (Ch.of_below hb []))
  clear hO hb hHeld
  go_wp2_with fail
  refine hK.out _ _ ?_ (fun hHeld => ?_)
  · (try dsimp only); exact M5.out.m
  clear hK K
  try simp only [Act.put, List.setIfInBounds_toArray, List.set_cons_zero, List.set_cons_succ]
  refine' takeL (i := 12) (v := _) rfl (by kernel_rfl) (by kernel_rfl) (by kernel_rfl) (fun _ _ _ h => h) (Or.inl ⟨by rfl, ?yy24⟩) (by assumption) ?rr24
  case yy24 => intro w hSw; (try dsimp only at hSw); go_simp; (try with_reducible rfl)
  try simp only [Act.put, List.setIfInBounds_toArray, List.set_cons_zero, List.set_cons_succ]
  refine' takeL (i := 13) (v := _) rfl (by kernel_rfl) (by kernel_rfl) (by kernel_rfl) (fun _ _ _ h => h) (Or.inl ⟨by rfl, ?yy25⟩) (by assumption) ?rr25
  case yy25 => intro w hSw; (try dsimp only at hSw); go_simp; (try with_reducible rfl)
  try simp only [Act.put, List.setIfInBounds_toArray, List.set_cons_zero, List.set_cons_succ]
  refine' takeL (i := 14) (v := _) rfl (by kernel_rfl) (by kernel_rfl) (by kernel_rfl) (fun _ _ _ h => h) (Or.inl ⟨by rfl, ?yy26⟩) (by assumption) ?rr26
  case yy26 => intro w hSw; (try dsimp only at hSw); go_simp; (try with_reducible rfl)
  try simp only [Act.put, List.setIfInBounds_toArray, List.set_cons_zero, List.set_cons_succ]
  refine' takeL (i := 15) (v := _) rfl (by kernel_rfl) (by kernel_rfl) (by kernel_rfl) (fun _ _ _ h => h) (Or.inl ⟨by rfl, ?yy27⟩) (by assumption) ?rr27
  case yy27 => intro w hSw; (try dsimp only at hSw); go_simp; (try with_reducible rfl)
  try simp only [Act.put, List.setIfInBounds_toArray, List.set_cons_zero, List.set_cons_succ]
  refine' takeL (i := 16) (v := _) rfl (by kernel_rfl) (by kernel_rfl) (by kernel_rfl) (fun _ _ _ h => h) (Or.inl ⟨by rfl, ?yy28⟩) (by assumption) ?rr28
  case yy28 => intro w hSw; (try dsimp only at hSw); go_simp; (try with_reducible rfl)
  try simp only [Act.put, List.setIfInBounds_toArray, List.set_cons_zero, List.set_cons_succ]
  refine wpAnyH_done (by kernel_rfl) ?_ _
  clear hHeld
  go_wp2_with (go_at_call 100; refine (need_no _ _).mono ?_; rintro e wx ⟨rfl, hwx⟩; subst hwx)
  exact ⟨rfl, rfl, M5.out, C5.out⟩
end Go.Proofs.YthjdjbipfdigeaaGreat

namespace Go.Proofs.YthjdjbipfdigeaaGreat
open Go.RowKit
set_option maxRecDepth 100000
set_option linter.unusedVariables false
set_option linter.unusedSimpArgs false
/-- the code that fetching an operand throws, or 0 -/
def opC (op fm : Int) (bs ks : List Int) (key a : Int) : Int := if fm = 1 then 0 else if 72 ≤ op ∧ op ≤ 76 then (if a % 2 = 0 then sCode (alF key) bs.length ks a 2 else 6) else (if a % 4 = 0 then sCode (alF key) bs.length ks a 4 else 6)
def g2V (bs : List Int) (a : Int) : Int := hfv ((sGet bs a 2).getD 0 0) ((sGet bs a 2).getD 1 0)
def g4V (bs : List Int) (a : Int) : Int := flv ((sGet bs a 4).getD 0 0) ((sGet bs a 4).getD 1 0) ((sGet bs a 4).getD 2 0) ((sGet bs a 4).getD 3 0)
/-- the operand -/
def opV (op fm : Int) (os : List Int) (k : Nat) (bs : List Int) (a : Int) : Int := if fm = 1 then os.getD k 0 else if 72 ≤ op ∧ op ≤ 76 then g2V bs a else g4V bs a
theorem sGet_leng {al : Int → Bool} {bs ks : List Int} {a n : Int} (h : sCode al bs.length ks a n = 0) : ((sGet bs a n).length : Int) = n := by
  have h0 := sCode_zero h
  obtain ⟨h1, h2, h3, h4⟩ := sIn_yes h0
  unfold sGet; rw [if_pos h0]; simp; omega
end Go.Proofs.YthjdjbipfdigeaaGreat

namespace Go.Proofs.YthjdjbipfdigeaaGreat
open Go.RowKit
set_option maxRecDepth 100000
set_option linter.unusedVariables false
set_option linter.unusedSimpArgs false
section
variable {w0 w : World} {g : Nat} {G : Foot} {I : In} {os rs : List Int} {p q : Ps} {c : Int} {bs ks : List Int}
theorem rhalf9_c (op : Int) (w : World) : Calls Tryz.prog 147 #[.int .i64 op] w fun e w' => e = .returned (.bool (decide (72 ≤ op ∧ op ≤ 76))) ∧ w = w' := by
  by_cases h0 : 72 ≤ op
  · by_cases h1 : op ≤ 76
    all_goals
      go_enter Tryz.func147, Tryz.ntmps147
      go_wp2
      go_ret
      exact ⟨by simp [h0, h1], rfl⟩
  · go_enter Tryz.func147, Tryz.ntmps147
    go_wp2
    go_ret
    exact ⟨by simp; omega, rfl⟩
def nzC (v : Int) : Int := if v = 0 then 0 else 1
theorem rsome_c (v : Int) (w : World) : Calls Tryz.prog 72 #[.int .u32 v] w fun e w' => e = .returned (.int .i64 (nzC v)) ∧ w = w' := by
  by_cases h0 : v = 0
  · have h1 : (v != 0) = false := by simp [h0]
    have hn := Lib.hid (show nzC v = 0 from if_pos h0)
    clear h0
    go_enter Tryz.func72, Tryz.ntmps72
    go_wp2
    go_ret
    rw [hn.out]
    exact ⟨rfl, rfl⟩
  · have h1 : (v != 0) = true := by simp [h0]
    have hn := Lib.hid (show nzC v = 1 from if_neg h0)
    clear h0
    go_enter Tryz.func72, Tryz.ntmps72
    go_wp2
    go_ret
    rw [hn.out]
    exact ⟨rfl, rfl⟩
theorem In.a_in (I : In) (os : List Int) : 0 ≤ I.a os ∧ I.a os ≤ 16777215 := by unfold In.a; omega
theorem In.a1_in (I : In) (os : List Int) : 0 ≤ I.a1 os ∧ I.a1 os ≤ 16777215 := by unfold In.a1; omega
/-- the code behind an operand's fetching, the operand -/
def oC (c : Int) (I : In) (os bs ks : List Int) (key : Int) : Int := if I.fm = 1 then c else if 72 ≤ I.op ∧ I.op ≤ 76 then ftC (atC c (I.a os) 2) bs ks key (I.a os) (2 : Nat) else ftC (atC c (I.a os) 4) bs ks key (I.a os) (4 : Nat)
def oV (c : Int) (I : In) (os bs ks : List Int) (key : Int) : Int := if I.fm = 1 then os.getD I.k 0 else if 72 ≤ I.op ∧ I.op ≤ 76 then hval 2 0 (ftB (atC c (I.a os) 2) bs ks key (I.a os) 2) else fval 4 0 (ftB (atC c (I.a os) 4) bs ks key (I.a os) 4)
theorem roperand_c (h : RS w0 w g G I os rs p q c bs ks) : Calls Tryz.prog 80 #[.pointer (some ⟨g, 0, none⟩)] w fun e w' => e = .returned (.int .u32 (oV c I os bs ks p.key)) ∧ RS w0 w' g G I os rs p q (oC c I os bs ks p.key) bs ks := by
  unfold oV oC
  by_cases h1 : I.fm = 1
  · rw [if_pos h1, if_pos h1]
    obtain ⟨v, hv⟩ : ∃ v, os.getD I.k 0 = v := ⟨_, rfl⟩
    rw [hv]
    have HV := Lib.hid hv
    have e1 : (I.fm == 1) = true := by simpa using h1
    clear h1 hv
    refine h.opn ?_
    clear h
    intro R0
    intros
    go_enter Tryz.func80, Tryz.ntmps80
    go_upto_region 2 with fail
    refine wp_region_held_drew (S := Sx w0 g G I os p) (by kernel_rfl) R0.out.drew.x (fun hHeld => ?_)
    have R1 := Lib.hid R0.out.drew
    repeat refine tkr ?_
    refine wpAnyH_done (by kernel_rfl) ?_ _
    go_wp2
    go_ret
    exact ⟨rfl, R1.out⟩
  rw [if_neg h1, if_neg h1]
  have e1 : (I.fm == 1) = false := by simpa using h1
  clear h1
  obtain ⟨a0, a1⟩ := I.a_in os
  obtain ⟨a, ha⟩ : ∃ a, I.a os = a := ⟨_, rfl⟩
  rw [ha] at a0 a1 ⊢
  have RA := Lib.hid (fun W (hW : RS w0 W g G I os rs p q c bs ks) => ha ▸ ra_c hW)
  have RB := Lib.hid (fun W c (hW : RS w0 W g G I os rs p q c bs ks) => ha ▸ ra_c hW)
  clear ha
  by_cases h2 : 72 ≤ I.op ∧ I.op ≤ 76
  · rw [if_pos h2, if_pos h2]
    have e2 : decide (72 ≤ I.op ∧ I.op ≤ 76) = true := by simpa using h2
    clear h2
    refine h.opn ?_
    clear h
    intro R0
    intros
    go_enter Tryz.func80, Tryz.ntmps80
    go_wp2_with (first
    | (go_at_call 59; refine nx (RB.out _ _ hout) ?_; intro w1 R1)
    | (go_at_call 147; refine (rhalf9_c _ _).mono ?_; rintro e wx ⟨rfl, rfl⟩; rw [e2])
    | (go_at_call 77; refine nx (rat_c hout _ _ (.inl rfl) (by omega) (by omega)) ?_; intro w1 R1)
    | (go_at_call 70; refine nxf (rfet_c hout _ 2 (by omega) (by omega)) ?_; intro b cap w1 O1 hb1 hb2 R1)
    | (go_at_call 148; refine (rhalf_any _ _ _ 0 _ _ (by omega) O1.out.byt (by omega) (by omega)).mono ?_; rintro e wx ⟨rfl, rfl⟩))
    go_ret
    exact ⟨rfl, hout⟩
  · rw [if_neg h2, if_neg h2]
    have e2 : decide (72 ≤ I.op ∧ I.op ≤ 76) = false := by simpa using h2
    clear h2
    refine h.opn ?_
    clear h
    intro R0
    intros
    go_enter Tryz.func80, Tryz.ntmps80
    go_wp2_with (first
    | (go_at_call 59; refine nx (RB.out _ _ hout) ?_; intro w1 R1)
    | (go_at_call 147; refine (rhalf9_c _ _).mono ?_; rintro e wx ⟨rfl, rfl⟩; rw [e2])
    | (go_at_call 77; refine nx (rat_c hout _ _ (.inr rfl) (by omega) (by omega)) ?_; intro w1 R1)
    | (go_at_call 70; refine nxf (rfet_c hout _ 4 (by omega) (by omega)) ?_; intro b cap w1 O1 hb1 hb2 R1)
    | (go_at_call 145; refine (rfull_any _ _ _ 0 _ _ (by omega) O1.out.byt (by omega) (by omega)).mono ?_; rintro e wx ⟨rfl, rfl⟩))
    go_ret
    exact ⟨rfl, hout⟩
end
end Go.Proofs.YthjdjbipfdigeaaGreat

namespace Go.Proofs.YthjdjbipfdigeaaGreat
open Go.RowKit
set_option maxRecDepth 100000
set_option linter.unusedVariables false
set_option linter.unusedSimpArgs false
theorem MS.setp {w : World} {g : Nat} {F : Foot} {is os rs : List Int} {ps : List Value} {ov : Bool} {bs ks : List Int} (h : MS w g F is os rs ps ov bs ks) {n : Nat} (hn : n < 10) (v : Value) : MS (w.setCell ⟨g, 44 + n, none⟩ v) g F is os rs (ps.set n v) ov bs ks := h.set_ (h.m.setp hn v) ((Ch.refl _ _).setCell (by simp) _)
theorem MS.setr {w : World} {g : Nat} {F : Foot} {is os rs : List Int} {ps : List Value} {ov : Bool} {bs ks : List Int} (h : MS w g F is os rs ps ov bs ks) {n : Nat} (hn : n < 16) (v : Int) : MS (w.setCell ⟨g, 28 + n, none⟩ (.int .u32 v)) g F is os (rs.set n v) ps ov bs ks := h.set_ (h.m.setr hn v) ((Ch.refl _ _).setCell (by simp) _)
/-- what LPR, LNR, LTR, LCR store -/
def sgnC (op v : Int) : Bool := decide (op = 19 ∨ (op = 16 ∧ sgn (sg v) = 1) ∨ (op = 17 ∧ sgn (sg v) = 2))
def sgnV (op v : Int) : Int := if sgnC op v = true then lo32 (-sg v) else v
def sgnQ (op v : Int) : Int := if sgnC op v = true then rcc (-sg v) else sgn (sg v)
def sgnO (op v : Int) : Bool := if sgnC op v = true then ovf (-sg v) else false
end Go.Proofs.YthjdjbipfdigeaaGreat

namespace Go.Proofs.YthjdjbipfdigeaaGreat
open Go.RowKit
set_option maxRecDepth 100000
set_option linter.unusedVariables false
set_option linter.unusedSimpArgs false
def Ro (w : World) (g c : Nat) (vs : List Int) : Prop := Rw w g 5 c (vs.map (Value.int .u8)) ∧ ∀ z ∈ vs, 0 ≤ z ∧ z ≤ 255
section
variable {w w' : World} {g c : Nat} {vs : List Int}
theorem Ro.cell (h : Ro w g c vs) {i : Nat} (hi : i < vs.length) : w.cell? ⟨g, i, none⟩ = some (.int .u8 (vs.getD i 0)) := by
  rw [h.1.cell (i := i) (by simpa using hi)]; simp [List.getD_eq_getElem?_getD, hi]
theorem Ro.free (h : Ro w g c vs) (i : Nat) : w.frozen? ⟨g, i, none⟩ = false := h.1.free i
theorem Ro.lt (h : Ro w g c vs) : g < w.heap.size := h.1.lt
theorem Ro.set_ (h : Ro w g c vs) {i : Nat} {y : Int} (hy : 0 ≤ y ∧ y ≤ 255) : Ro (w.setCell ⟨g, i, none⟩ (.int .u8 y)) g c (vs.set i y) := by
  refine ⟨by rw [List.map_set]; exact h.1.set_ _, fun z hz => ?_⟩
  rcases List.mem_or_eq_of_mem_set hz with hz | rfl
  · exact h.2 z hz
  · exact hy
theorem Ro.keep (h : Ro w g c vs) (hk : w'.heap[g]? = w.heap[g]?) : Ro w' g c vs := ⟨h.1.keep hk, h.2⟩
theorem Ro.other (h : Ro w g c vs) {p : Addr} (v : Value) (hp : p.block ≠ g) : Ro (w.setCell p v) g c vs := h.keep (Below.heap_setCell w p v g (Ne.symm hp))
theorem Ro.belowS (h : Ro w g c vs) (hb : Below w.heap.size w w') : Ro w' g c vs := ⟨h.1.keep (hb.block _ h.lt), h.2⟩
theorem Ro.drewN (h : Ro w g c vs) (n : Nat) : Ro (w.drewN n) g c vs := h
theorem Ro.byt (h : Ro w g c vs) (n : Nat) (hn : vs.length = n) : Byt w (some ⟨g, 0, none⟩) n vs := by
  subst hn
  exact ⟨rfl, h.2, fun _ => ⟨g, 0, rfl, fun i hi => by rw [Nat.zero_add]; exact h.cell hi⟩⟩
theorem Own.ro {base n : Nat} (h : Own w base (.slice (some ⟨g, 0, none⟩) n c) n vs) : Ro w g c vs := by
  obtain ⟨cur, q1, q2, q3, q4, q5, q6⟩ := Own.heap h
  exact ⟨⟨cur, q1, q2, by rw [List.length_map, h.len]; exact q3, q6⟩, h.2⟩
theorem Ro.rangeD (h : Ro w g c vs) (k : Nat) : 0 ≤ vs.getD k 0 ∧ vs.getD k 0 ≤ 255 := by
  rw [List.getD_eq_getElem?_getD]
  rcases Nat.lt_or_ge k vs.length with hi | hi
  · rw [List.getElem?_eq_getElem hi]; exact h.2 _ (List.getElem_mem hi)
  · rw [List.getElem?_eq_none hi]; simp
end
/-- what combine makes, byte by byte -/
def cmb (f : Int → Int → Int) (x y : List Int) (d : Int) : Nat → List Int
  | 0 => x
  | k + 1 => (cmb f x y d k).set k (f ((cmb f x y d k).getD k 0) (if 0 < d ∧ d ≤ (k : Int) then (cmb f x y d k).getD (k - d.toNat) 0 else y.getD k 0))
def cmbS (f : Int → Int → Int) (x y : List Int) (d : Int) : Nat → Int
  | 0 => 0
  | k + 1 => if (cmb f x y d (k + 1)).getD k 0 = 0 then cmbS f x y d k else 1
theorem cmb_len (f : Int → Int → Int) (x y : List Int) (d : Int) : ∀ k, (cmb f x y d k).length = x.length
  | 0 => rfl
  | k + 1 => by simp only [cmb, List.length_set, cmb_len f x y d k]
theorem chB {w w' : World} {L : List Nat} (h : Below w.heap.size w w') : Ch w w' L := Ch.of_below h L
theorem MS.othr {w : World} {g : Nat} {F : Foot} {is os rs : List Int} {ps : List Value} {ov : Bool} {bs ks : List Int} (h : MS w g F is os rs ps ov bs ks) {p : Addr} (v : Value) (h1 : g ≠ p.block) (h2 : p.block ≠ F.g ∧ p.block ≠ F.gb ∧ p.block ≠ F.gk) : MS (w.setCell p v) g F is os rs ps ov bs ks :=
  ⟨h.m.other v (Ne.symm h1), h.st.keep (Below.heap_setCell w p v F.g (Ne.symm h2.1)) (Below.heap_setCell w p v F.gb (Ne.symm h2.2.1)) (Below.heap_setCell w p v F.gk (Ne.symm h2.2.2)), h.n0, h.n1, h.n2⟩
theorem getD_set_same (l : List Int) (k : Nat) (v : Int) (h : k < l.length) : (l.set k v).getD k 0 = v := by simp [List.getD_eq_getElem?_getD, h]
theorem getD_set_other (l : List Int) (k j : Nat) (v : Int) (h : k ≠ j) : (l.set k v).getD j 0 = l.getD j 0 := by simp [List.getD_eq_getElem?_getD, List.getElem?_set, h]
end Go.Proofs.YthjdjbipfdigeaaGreat

namespace Go.Proofs.YthjdjbipfdigeaaGreat
open Go.RowKit
set_option maxRecDepth 100000
set_option linter.unusedVariables false
set_option linter.unusedSimpArgs false
def clc : List Int → List Int → Int
  | x :: xs, y :: ys => if x = y then clc xs ys else sgn (x - y)
  | _, _ => 0
theorem drop_cons (l : List Int) (k : Nat) (h : k < l.length) : l.drop k = l.getD k 0 :: l.drop (k + 1) := by
  rw [List.drop_eq_getElem_cons h, List.getD_eq_getElem?_getD, List.getElem?_eq_getElem h]; rfl
end Go.Proofs.YthjdjbipfdigeaaGreat

namespace Go.Proofs.YthjdjbipfdigeaaGreat
open Go.RowKit
set_option maxRecDepth 100000
set_option linter.unusedVariables false
set_option linter.unusedSimpArgs false
/-- APPEND of bytes onto the call's own, as one operation -/
theorem wp_append_b {w : World} {o : Oper} {a : Act} {K : Act → World → Prop} {Q : Exit → Act → World → Prop} (s x : Operand)
    (ho : o.op = .call { callee := .builtin .append, args := #[s, x], argTypes := #[29, 29] })
    (base : Nat) (v : Value) (n : Nat) (zs : List Int) (hs : a.eval s = v) (hown : Own w base v n zs)
    (b off m c : Nat) (ys : List Int) (hx : a.eval x = .slice (some ⟨b, off, none⟩) m c) (hy : Byt w (some ⟨b, off, none⟩) m ys) (h63 : n + m ≤ 140737488355328) (hbase : base ≤ w.heap.size)
    (h : ∀ v' w', Own w' base v' (n + m) (zs ++ ys) → w.grownBy w' v.ownBlock → K (a.put o.dst v') w') : Oper.wp Tryz.prog o a w K Q := by
  obtain ⟨i0, hi, hz0, hz1, hz2⟩ := info_parts info_u8
  refine wp_append_own w s x 29 ho base 5 i0 (.int .u8 0) 1 1 Tryz.underlying29 hi hz0 hz1 hz2 rfl (by decide) v n _ hs hown.1 ⟨b, off, none⟩ m c (ys.map (Value.int .u8)) hx (by simp [hy.1]) ?_ (by simp [Value.oneCell']) (by unfold maxLen; omega) (by omega) hbase ?_
  · intro j u hu
    have hj : j < ys.length := by
      rcases Nat.lt_or_ge j ys.length with h1 | h1
      · exact h1
      · rw [List.getElem?_eq_none (by simpa using h1)] at hu; cases hu
    have h2 := hy.cells (by rw [← hy.1]; omega) j u hu
    exact h2
  · intro v' w' h1 h2 _
    refine h v' w' ⟨by simpa using h1, ?_⟩ h2
    intro z hz
    rcases List.mem_append.mp hz with hz | hz
    · exact hown.2 z hz
    · exact hy.2.1 z hz
/-- a word's bytes; the bytes of k registers from a register on -/
def fb (v : Int) : List Int := [v / 16777216, v / 65536 % 256, v / 256 % 256, v % 256]
def stB (os : List Int) (n : Nat) : Nat → List Int
  | 0 => []
  | k + 1 => stB os n k ++ fb (os.getD ((n + k) % 16) 0)
end Go.Proofs.YthjdjbipfdigeaaGreat

namespace Go.Proofs.YthjdjbipfdigeaaGreat
open Go.RowKit
set_option maxRecDepth 100000
set_option linter.unusedVariables false
set_option linter.unusedSimpArgs false
theorem u32_hi8 (a : Int) (h0 : 0 ≤ a) (h1 : a ≤ 4294967295) : bits .andNot .u32 a 255 = a / 256 * 256 := by
  rw [u32_andNot a 255 h0 (by omega) (by omega) (by omega)]
  have : a.toNat &&& (4294967295 - (255 : Int).toNat) = a.toNat / 256 * 256 := by
    have e : 4294967295 - (255 : Int).toNat = (2 ^ 24 - 1) <<< 8 := by decide
    have e2 : a.toNat / 256 * 256 = (a.toNat >>> 8) <<< 8 := by rw [Nat.shiftRight_eq_div_pow, Nat.shiftLeft_eq]
    rw [e, e2]
    apply Nat.eq_of_testBit_eq
    intro j
    rw [Nat.testBit_and, Nat.testBit_shiftLeft, Nat.testBit_shiftLeft, Nat.testBit_two_pow_sub_one, Nat.testBit_shiftRight]
    by_cases hj : 8 ≤ j
    · rw [show 8 + (j - 8) = j by omega]
      by_cases hj2 : j - 8 < 24
      · simp [hj, hj2]
      · have : a.toNat.testBit j = false := Nat.testBit_lt_two_pow (Nat.lt_of_lt_of_le (show a.toNat < 2 ^ 32 by omega) (Nat.pow_le_pow_right (by omega) (by omega)))
        simp [this]
    · simp [hj]
  rw [this]
  omega
end Go.Proofs.YthjdjbipfdigeaaGreat

namespace Go.Proofs.YthjdjbipfdigeaaGreat
open Go.RowKit
set_option maxRecDepth 100000
set_option linter.unusedVariables false
set_option linter.unusedSimpArgs false
theorem u8_hi : ∀ n : Nat, n < 256 → bits .and .u8 (n : Int) 240 = (n : Int) / 16 * 16 := by decide +kernel
theorem u8_joinA : ∀ a : Nat, a < 16 → ∀ b : Nat, b < 16 → bits .or .u8 ((a : Int) * 16) (b : Int) = (a : Int) * 16 + (b : Int) := by decide +kernel
theorem u8_joinB : ∀ a : Nat, a < 16 → ∀ b : Nat, b < 16 → bits .or .u8 (b : Int) ((a : Int) * 16) = (a : Int) * 16 + (b : Int) := by decide +kernel
def cb (op x y : Int) : Int := if op = 209 then x / 16 * 16 + y % 16 else if op = 210 then y else if op = 211 then y / 16 * 16 + x % 16 else if op = 212 then bits .and .u8 x y else if op = 214 then bits .or .u8 x y else bits .xor .u8 x y
theorem cb_in (op x y : Int) (x0 : 0 ≤ x) (x1 : x ≤ 255) (y0 : 0 ≤ y) (y1 : y ≤ 255) : 0 ≤ cb op x y ∧ cb op x y ≤ 255 := by
  unfold cb
  repeat' split
  · omega
  · omega
  · omega
  · exact bounds_u8 (wf_bits .and .u8 x y)
  · exact bounds_u8 (wf_bits .or .u8 x y)
  · exact bounds_u8 (wf_bits .xor .u8 x y)
theorem mix (x y : Int) (x0 : 0 ≤ x) (x1 : x ≤ 255) (y0 : 0 ≤ y) (y1 : y ≤ 255) : bits .or .u8 (bits .and .u8 x 240) (y % 16) = x / 16 * 16 + y % 16 := by
  obtain ⟨a, rfl⟩ := Int.eq_ofNat_of_zero_le x0
  obtain ⟨b, rfl⟩ := Int.eq_ofNat_of_zero_le y0
  rw [u8_hi a (by omega)]
  have := u8_joinA (a / 16) (by omega) (b % 16) (by omega)
  simpa using this
theorem mix' (x y : Int) (x0 : 0 ≤ x) (x1 : x ≤ 255) (y0 : 0 ≤ y) (y1 : y ≤ 255) : bits .or .u8 (x % 16) (bits .and .u8 y 240) = y / 16 * 16 + x % 16 := by
  obtain ⟨a, rfl⟩ := Int.eq_ofNat_of_zero_le x0
  obtain ⟨b, rfl⟩ := Int.eq_ofNat_of_zero_le y0
  rw [u8_hi b (by omega)]
  have := u8_joinB (b / 16) (by omega) (a % 16) (by omega)
  simpa using this
set_option maxRecDepth 1000000 in
set_option maxHeartbeats 8000000 in
theorem clo_209 (x y : Int) (w : World) (x0 : 0 ≤ x) (x1 : x ≤ 255) (y0 : 0 ≤ y) (y1 : y ≤ 255) : Calls Tryz.prog 115 #[.int .u8 x, .int .u8 y] w fun e w' => e = .returned (.int .u8 (cb 209 x y)) ∧ w = w' := by
  have hm := mix x y x0 x1 y0 y1
  go_enter Tryz.func115, Tryz.ntmps115
  go_wp2
  go_ret
  exact ⟨by rfl, rfl⟩
theorem clo_call_209 (args : Array Value) (W : World) : Sem.run Tryz.prog (callFunc 115 args) W = .ok (.enter 115 args) W := by kernel_rfl
set_option maxRecDepth 1000000 in
set_option maxHeartbeats 8000000 in
theorem clo_210 (x y : Int) (w : World) (x0 : 0 ≤ x) (x1 : x ≤ 255) (y0 : 0 ≤ y) (y1 : y ≤ 255) : Calls Tryz.prog 116 #[.int .u8 x, .int .u8 y] w fun e w' => e = .returned (.int .u8 (cb 210 x y)) ∧ w = w' := by
  go_enter Tryz.func116, Tryz.ntmps116
  go_wp2
  go_ret
  exact ⟨by rfl, rfl⟩
theorem clo_call_210 (args : Array Value) (W : World) : Sem.run Tryz.prog (callFunc 116 args) W = .ok (.enter 116 args) W := by kernel_rfl
set_option maxRecDepth 1000000 in
set_option maxHeartbeats 8000000 in
theorem clo_211 (x y : Int) (w : World) (x0 : 0 ≤ x) (x1 : x ≤ 255) (y0 : 0 ≤ y) (y1 : y ≤ 255) : Calls Tryz.prog 117 #[.int .u8 x, .int .u8 y] w fun e w' => e = .returned (.int .u8 (cb 211 x y)) ∧ w = w' := by
  have hm := mix' x y x0 x1 y0 y1
  go_enter Tryz.func117, Tryz.ntmps117
  go_wp2
  go_ret
  exact ⟨by rfl, rfl⟩
theorem clo_call_211 (args : Array Value) (W : World) : Sem.run Tryz.prog (callFunc 117 args) W = .ok (.enter 117 args) W := by kernel_rfl
set_option maxRecDepth 1000000 in
set_option maxHeartbeats 8000000 in
theorem clo_212 (x y : Int) (w : World) (x0 : 0 ≤ x) (x1 : x ≤ 255) (y0 : 0 ≤ y) (y1 : y ≤ 255) : Calls Tryz.prog 118 #[.int .u8 x, .int .u8 y] w fun e w' => e = .returned (.int .u8 (cb 212 x y)) ∧ w = w' := by
  go_enter Tryz.func118, Tryz.ntmps118
  go_wp2
  go_ret
  exact ⟨by rfl, rfl⟩
theorem clo_call_212 (args : Array Value) (W : World) : Sem.run Tryz.prog (callFunc 118 args) W = .ok (.enter 118 args) W := by kernel_rfl
set_option maxRecDepth 1000000 in
set_option maxHeartbeats 8000000 in
theorem clo_214 (x y : Int) (w : World) (x0 : 0 ≤ x) (x1 : x ≤ 255) (y0 : 0 ≤ y) (y1 : y ≤ 255) : Calls Tryz.prog 119 #[.int .u8 x, .int .u8 y] w fun e w' => e = .returned (.int .u8 (cb 214 x y)) ∧ w = w' := by
  go_enter Tryz.func119, Tryz.ntmps119
  go_wp2
  go_ret
  exact ⟨by rfl, rfl⟩
theorem clo_call_214 (args : Array Value) (W : World) : Sem.run Tryz.prog (callFunc 119 args) W = .ok (.enter 119 args) W := by kernel_rfl
set_option maxRecDepth 1000000 in
set_option maxHeartbeats 8000000 in
theorem clo_215 (x y : Int) (w : World) (x0 : 0 ≤ x) (x1 : x ≤ 255) (y0 : 0 ≤ y) (y1 : y ≤ 255) : Calls Tryz.prog 120 #[.int .u8 x, .int .u8 y] w fun e w' => e = .returned (.int .u8 (cb 215 x y)) ∧ w = w' := by
  go_enter Tryz.func120, Tryz.ntmps120
  go_wp2
  go_ret
  exact ⟨by rfl, rfl⟩
theorem clo_call_215 (args : Array Value) (W : World) : Sem.run Tryz.prog (callFunc 120 args) W = .ok (.enter 120 args) W := by kernel_rfl
end Go.Proofs.YthjdjbipfdigeaaGreat

