/- CONTRACTS of the fields of package word: Full, put, PutHalf, PutFull. Each: what comes back, and that nothing that was there is written. Conditions: the slices read as bytes; lengths within the form's reach. -/
import Derived.Test.YtmabamijogbbnaaWdC6
import Derived.Test.YtmabamijogbbnaaBo
import Derived.Deep.QuietTactic
import Derived.BigQuiet
import Derived.Lib.Hide
import Derived.Outline
namespace Go.Proofs.Ytmabamijogbbnaa
open Go.RowKit
set_option linter.unusedVariables false

theorem or4 (x y z u : Int) (hx : 0 ≤ x) (hx' : x ≤ 255) (hy : 0 ≤ y) (hy' : y ≤ 255) (hz : 0 ≤ z) (hz' : z ≤ 255) (hu : 0 ≤ u) (hu' : u ≤ 255) :
    bits .or .u32 (x * 16777216) (y * 65536) = x * 16777216 + y * 65536 ∧ bits .or .u32 (x * 16777216 + y * 65536) (z * 256) = x * 16777216 + y * 65536 + z * 256 ∧ bits .or .u32 (x * 16777216 + y * 65536 + z * 256) u = flv x y z u := by
  refine ⟨or_32 24 _ _ 16777216 (by decide) (by omega) (by omega) (by omega) (by omega) (by omega) (by omega), or_32 16 _ _ 65536 (by decide) (by omega) (by omega) (by omega) (by omega) (by omega) (by omega), ?_⟩
  rw [or_32 8 _ _ 256 (by decide) (by omega) (by omega) (by omega) (by omega) (by omega) (by omega)]; rfl

set_option maxHeartbeats 400000 in
theorem full_no (A : Option Addr) (len cap : Nat) (at_ : Int) (w : World) (hl : (len : Int) ≤ 9223372036854775807) (ha : -9223372036854775808 ≤ at_) (ha' : at_ ≤ 9223372036854775807) (hf : fitB len at_ 4 = false) :
    Calls Try.prog 37 #[.slice A len cap, .int .i64 at_] w fun e w' => e = .returned (.tuple #[.int .u32 0, .bool false]) ∧ ∃ n, w' = w.drewN n := by
  go_enter Try.func37, Try.ntmps37
  go_wp2_with (go_at_call 74; refine (fits_c _ _ _ _ _ _ hl ha ha' (by omega) (by omega)).mono ?_; rintro e w' ⟨rfl, rfl⟩)
  go_ret2
  exact ⟨rfl, 0, rfl⟩

set_option maxHeartbeats 400000 in
theorem full_yes (b off len cap k : Nat) (x y z u : Int) (w : World) (hl : (len : Int) ≤ 9223372036854775807) (hk : (k : Int) + 4 ≤ (len : Int))
    (hc0 : w.cell? ⟨b, off + k, none⟩ = some (.int .u8 x)) (hc1 : w.cell? ⟨b, off + (k + 1), none⟩ = some (.int .u8 y)) (hc2 : w.cell? ⟨b, off + (k + 2), none⟩ = some (.int .u8 z)) (hc3 : w.cell? ⟨b, off + (k + 3), none⟩ = some (.int .u8 u))
    (hx : 0 ≤ x) (hx' : x ≤ 255) (hy : 0 ≤ y) (hy' : y ≤ 255) (hz : 0 ≤ z) (hz' : z ≤ 255) (hu : 0 ≤ u) (hu' : u ≤ 255) :
    Calls Try.prog 37 #[.slice (some ⟨b, off, none⟩) len cap, .int .i64 k] w fun e w' => e = .returned (.tuple #[.int .u32 (flv x y z u), .bool true]) ∧ ∃ n, w' = w.drewN n := by
  have hf : fitB len k 4 = true := by unfold fitB; simp; omega
  have ho := or4 x y z u hx hx' hy hy' hz hz' hu hu'
  have o1 := ho.1
  have o2 := ho.2.1
  have o3 := ho.2.2
  clear ho
  have k1 : (k : Int) < (len : Int) := by omega
  have k2 : (k : Int) + 1 < (len : Int) := by omega
  have k3 : (k : Int) + 2 < (len : Int) := by omega
  have k4 : (k : Int) + 3 < (len : Int) := by omega
  go_enter Try.func37, Try.ntmps37
  go_wp2_with (go_at_call 74; refine (fits_c _ _ _ _ _ _ hl (by omega) (by omega) (by omega) (by omega)).mono ?_; rintro e w' ⟨rfl, rfl⟩)
  go_quiet (fail)
  go_wp2
  go_ret2
  exact ⟨rfl, _, rfl⟩

set_option maxHeartbeats 400000 in
theorem put_no (A : Option Addr) (len cap : Nat) (at_ : Int) (F : Option Addr) (m c : Nat) (w : World) (hl : (len : Int) ≤ 9223372036854775807) (ha : -9223372036854775808 ≤ at_) (ha' : at_ ≤ 9223372036854775807) (hm : (m : Int) ≤ 100) (hf : fitB len at_ m = false) :
    Calls Try.prog 76 #[.slice A len cap, .int .i64 at_, .slice F m c] w fun e w' => e = .returned (.tuple #[.slice none 0 0, .bool false]) ∧ w = w' := by
  go_enter Try.func76, Try.ntmps76
  go_wp2_with (go_at_call 74; refine (fits_c _ _ _ _ _ _ hl ha ha' (by omega) (by omega)).mono ?_; rintro e w' ⟨rfl, rfl⟩)
  go_ret2
  exact ⟨rfl, rfl⟩

/-- what the call says of a result that is its own new slice of bytes -/
def Fresh (w : World) (n : Nat) (zs : List Int) (e : Ending) (w' : World) : Prop := ∃ v, e = .returned (.tuple #[v, .bool true]) ∧ Own w' w.heap.size v n zs ∧ Below w.heap.size w w'

set_option maxHeartbeats 1000000 in
theorem put_yes (A : Option Addr) (len cap k : Nat) (bF offF : Nat) (m c : Nat) (zs ys : List Int) (w : World) (hl : len ≤ 140737488355328) (hb : Byt w A len zs) (hA : A = none → cap = 0) (hy : Byt w (some ⟨bF, offF, none⟩) m ys) (hm : (m : Int) ≤ 100) (hm0 : 0 < m) (hk : k + m ≤ len) :
    Calls Try.prog 76 #[.slice A len cap, .int .i64 k, .slice (some ⟨bF, offF, none⟩) m c] w (Fresh w len (splice zs k ys)) := by
  have hf : fitB len k m = true := by unfold fitB; simp; omega
  have hl2 : (len : Int) ≤ 9223372036854775807 := by omega
  have HB := Lib.hid hb
  have HY := Lib.hid hy
  have HA := Lib.hid hA
  have Hk := Lib.hid hk
  clear hb hy hA
  have km : (k : Int) + (m : Int) ≤ (len : Int) := by omega
  go_enter Try.func76, Try.ntmps76
  go_wp2_with (first | (go_at_call 74; refine (fits_c _ _ _ _ _ _ hl2 (by omega) (by omega) (by omega) (by omega)).mono ?_; rintro e w' ⟨rfl, rfl⟩) | (at_builtin; refine wpList_append_bytes rfl _ _ rfl w.heap.size _ 0 [] rfl (Own.nil _ _) A len cap zs rfl HB.out HA.out (by omega) (Nat.le_refl _) ?_; intro v' w1 hown hg; have hex := Own.pos hown (by omega); obtain ⟨g, cap1, hv, g1, g2, g3, g4⟩ := hex; rw [hv] at hown ⊢; simp only [Nat.zero_add, List.nil_append] at hown g3; have hg2 : w.grownBy w1 none := hg; have hbl : Below w.heap.size w w1 := (Below.refl _ _).grown hg2 (Nat.le_refl _) (fun k hk => nomatch hk); obtain ⟨w2, hrun, hown2, hb2⟩ := run_copy_own (k := k) (dLen := len - k) (dCap := cap1 - k) (c := c) hown (HY.out.keep hbl) hm0 (by omega) Hk.out; have HO := Lib.hid hown2; have HX := Lib.hid (hbl.trans hb2); clear hown hown2 hg hg2 hv hbl hb2; unfold maxLen at g4; have g5 : ((k : Nat) : Int) < ((cap1 : Nat) : Int) := by omega))
  go_ret2
  exact ⟨_, rfl, HO.out, HX.out⟩
end Go.Proofs.Ytmabamijogbbnaa
