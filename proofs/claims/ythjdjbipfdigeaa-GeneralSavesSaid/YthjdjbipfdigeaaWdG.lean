/- CONTRACTS of the fields of package word: Full, put, PutHalf, PutFull. Each: what comes back, and that nothing that was there is written. Conditions: the slices read as bytes; lengths within the form's reach. -/
import Derived.Test.YthjdjbipfdigeaaWdC6
import Derived.Test.YthjdjbipfdigeaaBo
import Derived.Deep.QuietTactic
import Derived.BigQuiet
import Derived.Lib.Hide
import Derived.Outline
namespace Go.Proofs.Ythjdjbipfdigeaa
open Go.RowKit
set_option linter.unusedVariables false

theorem or4 (x y z u : Int) (hx : 0 ≤ x) (hx' : x ≤ 255) (hy : 0 ≤ y) (hy' : y ≤ 255) (hz : 0 ≤ z) (hz' : z ≤ 255) (hu : 0 ≤ u) (hu' : u ≤ 255) :
    bits .or .u32 (x * 16777216) (y * 65536) = x * 16777216 + y * 65536 ∧ bits .or .u32 (x * 16777216 + y * 65536) (z * 256) = x * 16777216 + y * 65536 + z * 256 ∧ bits .or .u32 (x * 16777216 + y * 65536 + z * 256) u = flv x y z u := by
  refine ⟨or_32 24 _ _ 16777216 (by decide) (by omega) (by omega) (by omega) (by omega) (by omega) (by omega), or_32 16 _ _ 65536 (by decide) (by omega) (by omega) (by omega) (by omega) (by omega) (by omega), ?_⟩
  rw [or_32 8 _ _ 256 (by decide) (by omega) (by omega) (by omega) (by omega) (by omega) (by omega)]; rfl

set_option maxHeartbeats 400000 in
theorem full_no (A : Option Addr) (len cap : Nat) (at_ : Int) (w : World) (hl : (len : Int) ≤ 9223372036854775807) (ha : -9223372036854775808 ≤ at_) (ha' : at_ ≤ 9223372036854775807) (hf : fitB len at_ 4 = false) :
    Calls Try.prog 70 #[.slice A len cap, .int .i64 at_] w fun e w' => e = .returned (.tuple #[.int .u32 0, .bool false]) ∧ ∃ n, w' = w.drewN n := by
  go_enter Try.func70, Try.ntmps70
  go_wp2_with (go_at_call 101; refine (fits_c _ _ _ _ _ _ hl ha ha' (by omega) (by omega)).mono ?_; rintro e w' ⟨rfl, rfl⟩)
  go_ret2
  exact ⟨rfl, 0, rfl⟩

set_option maxHeartbeats 400000 in
theorem full_yes (b off len cap k : Nat) (x y z u : Int) (w : World) (hl : (len : Int) ≤ 9223372036854775807) (hk : (k : Int) + 4 ≤ (len : Int))
    (hc0 : w.cell? ⟨b, off + k, none⟩ = some (.int .u8 x)) (hc1 : w.cell? ⟨b, off + (k + 1), none⟩ = some (.int .u8 y)) (hc2 : w.cell? ⟨b, off + (k + 2), none⟩ = some (.int .u8 z)) (hc3 : w.cell? ⟨b, off + (k + 3), none⟩ = some (.int .u8 u))
    (hx : 0 ≤ x) (hx' : x ≤ 255) (hy : 0 ≤ y) (hy' : y ≤ 255) (hz : 0 ≤ z) (hz' : z ≤ 255) (hu : 0 ≤ u) (hu' : u ≤ 255) :
    Calls Try.prog 70 #[.slice (some ⟨b, off, none⟩) len cap, .int .i64 k] w fun e w' => e = .returned (.tuple #[.int .u32 (flv x y z u), .bool true]) ∧ ∃ n, w' = w.drewN n := by
  have hf : fitB len k 4 = true := by unfold fitB; simp; omega
  have ho := or4 x y z u hx hx' hy hy' hz hz' hu hu'
  have o1 := ho.1
  have o2 := ho.2.1
  have o3 := ho.2.2
  clear ho
  have k1 : (k : Int) < (len : Int) := by omega
  have k2 : (k : Int) + 1 < (len : Int) := by omega
  have k3 : (k : Int) + 2 < (len : Int) := by omega
  have k4 : (k : Int) + 3 < (len : Int) := by omega
  go_enter Try.func70, Try.ntmps70
  go_wp2_with (go_at_call 101; refine (fits_c _ _ _ _ _ _ hl (by omega) (by omega) (by omega) (by omega)).mono ?_; rintro e w' ⟨rfl, rfl⟩)
  go_quiet (fail)
  go_wp2
  go_ret2
  exact ⟨rfl, _, rfl⟩

/-- what the call says of a result that is its own new slice of bytes -/
def Fresh (w : World) (n : Nat) (zs : List Int) (e : Ending) (w' : World) : Prop := ∃ v, e = .returned (.tuple #[v, .bool true]) ∧ Own w' w.heap.size v n zs ∧ Below w.heap.size w w'

end Go.Proofs.Ythjdjbipfdigeaa
