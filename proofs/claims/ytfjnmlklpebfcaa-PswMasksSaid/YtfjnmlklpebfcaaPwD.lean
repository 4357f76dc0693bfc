/- CONTRACTS of package psw and its reference: Admits, Advance. No conditions but the numbers' ranges. -/
import Derived.Test.YtfjnmlklpebfcaaPwC
import Derived.Test.YtfjnmlklpebfcaaPw2
namespace Go.Proofs.Ytfjnmlklpebfcaa
open Go.RowKit
set_option linter.unusedVariables false
set_option linter.unusedSimpArgs false

set_option maxHeartbeats 2000000 in
theorem admits_c (m k : Int) (M W P : Bool) (c i q g a : Int) (cl code ch : Int) (w : World) : Calls Try.prog 22 #[.agg #[.int .i64 m, .int .i64 k, .bool M, .bool W, .bool P, .int .i64 c, .int .i64 i, .int .i64 q, .int .i64 g, .int .i64 a], .int .i64 cl, .int .i64 code, .int .i64 ch] w fun e w' => e = .returned (.bool (pok m k c i q g a && padm m g M cl code ch)) ∧ Below w.heap.size w w' := by
  cases hp : pok m k c i q g a
  · simp only [Bool.false_and]
    go_enter Try.func22, Try.ntmps22
    go_wp2_with (first | (go_at_call 14; refine (valid_c m k M W P c i q g a _).mono ?_; rintro e w1 ⟨rfl, hb⟩; have c0 : w1.cell? ⟨w.heap.size, 0, none⟩ = some (.int .i64 m) := (hb.cell (p := ⟨w.heap.size, 0, none⟩) (by simp)).trans (by simp); have c2 : w1.cell? ⟨w.heap.size, 2, none⟩ = some (.bool M) := (hb.cell (p := ⟨w.heap.size, 2, none⟩) (by simp)).trans (by simp); have c8 : w1.cell? ⟨w.heap.size, 8, none⟩ = some (.int .i64 g) := (hb.cell (p := ⟨w.heap.size, 8, none⟩) (by simp)).trans (by simp); have HB := Lib.hid (show Below w.heap.size w w1 from ((Below.refl _ _).alloc (Nat.le_refl _) _).trans (hb.mono (by simp))); clear hb) | (go_at_call 29; refine (program_c g code (by omega) (by omega) _).mono ?_; rintro e w' ⟨rfl, rfl⟩))
    go_ret
    exact ⟨rfl, HB.out⟩
  · simp only [Bool.true_and]
    have hq := (pok_iff m k c i q g a).1 hp
    have m0 := hq.1.1
    have m1 := hq.1.2
    have g0 := hq.2.2.2.2.2.1.1
    have g1 := hq.2.2.2.2.2.1.2
    clear hq
    by_cases h1 : cl = 1
    · subst h1
      have hr := Lib.hid (show (bits .and .i64 m 1 != 0) = padm m g M 1 code ch from by rw [i64_bit 0 1 m rfl (by omega) m0 (by omega)]; simp [padm])
      go_enter Try.func22, Try.ntmps22
      go_wp2_with (first | (go_at_call 14; refine (valid_c m k M W P c i q g a _).mono ?_; rintro e w1 ⟨rfl, hb⟩; have c0 : w1.cell? ⟨w.heap.size, 0, none⟩ = some (.int .i64 m) := (hb.cell (p := ⟨w.heap.size, 0, none⟩) (by simp)).trans (by simp); have c2 : w1.cell? ⟨w.heap.size, 2, none⟩ = some (.bool M) := (hb.cell (p := ⟨w.heap.size, 2, none⟩) (by simp)).trans (by simp); have c8 : w1.cell? ⟨w.heap.size, 8, none⟩ = some (.int .i64 g) := (hb.cell (p := ⟨w.heap.size, 8, none⟩) (by simp)).trans (by simp); have HB := Lib.hid (show Below w.heap.size w w1 from ((Below.refl _ _).alloc (Nat.le_refl _) _).trans (hb.mono (by simp))); clear hb) | (go_at_call 29; refine (program_c g code (by omega) (by omega) _).mono ?_; rintro e w' ⟨rfl, rfl⟩))
      go_ret
      exact ⟨by rw [← hr.out]; rfl, HB.out⟩
    by_cases h2 : cl = 2
    · subst h2
      have hr := Lib.hid (show padm m g M 2 code ch = true from by simp [padm])
      go_enter Try.func22, Try.ntmps22
      go_wp2_with (first | (go_at_call 14; refine (valid_c m k M W P c i q g a _).mono ?_; rintro e w1 ⟨rfl, hb⟩; have c0 : w1.cell? ⟨w.heap.size, 0, none⟩ = some (.int .i64 m) := (hb.cell (p := ⟨w.heap.size, 0, none⟩) (by simp)).trans (by simp); have c2 : w1.cell? ⟨w.heap.size, 2, none⟩ = some (.bool M) := (hb.cell (p := ⟨w.heap.size, 2, none⟩) (by simp)).trans (by simp); have c8 : w1.cell? ⟨w.heap.size, 8, none⟩ = some (.int .i64 g) := (hb.cell (p := ⟨w.heap.size, 8, none⟩) (by simp)).trans (by simp); have HB := Lib.hid (show Below w.heap.size w w1 from ((Below.refl _ _).alloc (Nat.le_refl _) _).trans (hb.mono (by simp))); clear hb) | (go_at_call 29; refine (program_c g code (by omega) (by omega) _).mono ?_; rintro e w' ⟨rfl, rfl⟩))
      go_ret
      exact ⟨by rw [hr.out]; rfl, HB.out⟩
    by_cases h3 : cl = 3
    · subst h3
      have hr := Lib.hid (show padm m g M 3 code ch = pprog g code from by simp [padm])
      go_enter Try.func22, Try.ntmps22
      go_wp2_with (first | (go_at_call 14; refine (valid_c m k M W P c i q g a _).mono ?_; rintro e w1 ⟨rfl, hb⟩; have c0 : w1.cell? ⟨w.heap.size, 0, none⟩ = some (.int .i64 m) := (hb.cell (p := ⟨w.heap.size, 0, none⟩) (by simp)).trans (by simp); have c2 : w1.cell? ⟨w.heap.size, 2, none⟩ = some (.bool M) := (hb.cell (p := ⟨w.heap.size, 2, none⟩) (by simp)).trans (by simp); have c8 : w1.cell? ⟨w.heap.size, 8, none⟩ = some (.int .i64 g) := (hb.cell (p := ⟨w.heap.size, 8, none⟩) (by simp)).trans (by simp); have HB := Lib.hid (show Below w.heap.size w w1 from ((Below.refl _ _).alloc (Nat.le_refl _) _).trans (hb.mono (by simp))); clear hb) | (go_at_call 29; refine (program_c g code (by omega) (by omega) _).mono ?_; rintro e w' ⟨rfl, rfl⟩))
      go_ret
      exact ⟨by rw [hr.out]; rfl, HB.out⟩
    by_cases h4 : cl = 4
    · subst h4
      have hr := Lib.hid (show padm m g M 4 code ch = M from by simp [padm])
      go_enter Try.func22, Try.ntmps22
      go_wp2_with (first | (go_at_call 14; refine (valid_c m k M W P c i q g a _).mono ?_; rintro e w1 ⟨rfl, hb⟩; have c0 : w1.cell? ⟨w.heap.size, 0, none⟩ = some (.int .i64 m) := (hb.cell (p := ⟨w.heap.size, 0, none⟩) (by simp)).trans (by simp); have c2 : w1.cell? ⟨w.heap.size, 2, none⟩ = some (.bool M) := (hb.cell (p := ⟨w.heap.size, 2, none⟩) (by simp)).trans (by simp); have c8 : w1.cell? ⟨w.heap.size, 8, none⟩ = some (.int .i64 g) := (hb.cell (p := ⟨w.heap.size, 8, none⟩) (by simp)).trans (by simp); have HB := Lib.hid (show Below w.heap.size w w1 from ((Below.refl _ _).alloc (Nat.le_refl _) _).trans (hb.mono (by simp))); clear hb) | (go_at_call 29; refine (program_c g code (by omega) (by omega) _).mono ?_; rintro e w' ⟨rfl, rfl⟩))
      go_ret
      exact ⟨by rw [hr.out]; rfl, HB.out⟩
    by_cases h5 : cl = 5
    · subst h5
      by_cases u0 : 0 ≤ ch
      case neg =>
        have hr := Lib.hid (show padm m g M 5 code ch = false from by simp [padm, pio, inr]; omega)
        go_enter Try.func22, Try.ntmps22
        go_wp2_with (first | (go_at_call 14; refine (valid_c m k M W P c i q g a _).mono ?_; rintro e w1 ⟨rfl, hb⟩; have c0 : w1.cell? ⟨w.heap.size, 0, none⟩ = some (.int .i64 m) := (hb.cell (p := ⟨w.heap.size, 0, none⟩) (by simp)).trans (by simp); have c2 : w1.cell? ⟨w.heap.size, 2, none⟩ = some (.bool M) := (hb.cell (p := ⟨w.heap.size, 2, none⟩) (by simp)).trans (by simp); have c8 : w1.cell? ⟨w.heap.size, 8, none⟩ = some (.int .i64 g) := (hb.cell (p := ⟨w.heap.size, 8, none⟩) (by simp)).trans (by simp); have HB := Lib.hid (show Below w.heap.size w w1 from ((Below.refl _ _).alloc (Nat.le_refl _) _).trans (hb.mono (by simp))); clear hb) | (go_at_call 29; refine (program_c g code (by omega) (by omega) _).mono ?_; rintro e w' ⟨rfl, rfl⟩))
        go_ret
        exact ⟨by rw [hr.out]; rfl, HB.out⟩
      by_cases u1 : ch ≤ 6
      case neg =>
        have hr := Lib.hid (show padm m g M 5 code ch = false from by simp [padm, pio, inr]; omega)
        go_enter Try.func22, Try.ntmps22
        go_wp2_with (first | (go_at_call 14; refine (valid_c m k M W P c i q g a _).mono ?_; rintro e w1 ⟨rfl, hb⟩; have c0 : w1.cell? ⟨w.heap.size, 0, none⟩ = some (.int .i64 m) := (hb.cell (p := ⟨w.heap.size, 0, none⟩) (by simp)).trans (by simp); have c2 : w1.cell? ⟨w.heap.size, 2, none⟩ = some (.bool M) := (hb.cell (p := ⟨w.heap.size, 2, none⟩) (by simp)).trans (by simp); have c8 : w1.cell? ⟨w.heap.size, 8, none⟩ = some (.int .i64 g) := (hb.cell (p := ⟨w.heap.size, 8, none⟩) (by simp)).trans (by simp); have HB := Lib.hid (show Below w.heap.size w w1 from ((Below.refl _ _).alloc (Nat.le_refl _) _).trans (hb.mono (by simp))); clear hb) | (go_at_call 29; refine (program_c g code (by omega) (by omega) _).mono ?_; rintro e w' ⟨rfl, rfl⟩))
        go_ret
        exact ⟨by rw [hr.out]; rfl, HB.out⟩
      obtain rfl | rfl | rfl | rfl | rfl | rfl | rfl : ch = 0 ∨ ch = 1 ∨ ch = 2 ∨ ch = 3 ∨ ch = 4 ∨ ch = 5 ∨ ch = 6 := by omega
      · have hr := Lib.hid (show (bits .and .i64 m 128 != 0) = padm m g M 5 code 0 from by rw [i64_bit 7 128 m rfl (by omega) m0 (by omega)]; simp [padm, pio, inr])
        clear u0 u1
        go_enter Try.func22, Try.ntmps22
        go_wp2_with (first | (go_at_call 14; refine (valid_c m k M W P c i q g a _).mono ?_; rintro e w1 ⟨rfl, hb⟩; have c0 : w1.cell? ⟨w.heap.size, 0, none⟩ = some (.int .i64 m) := (hb.cell (p := ⟨w.heap.size, 0, none⟩) (by simp)).trans (by simp); have c2 : w1.cell? ⟨w.heap.size, 2, none⟩ = some (.bool M) := (hb.cell (p := ⟨w.heap.size, 2, none⟩) (by simp)).trans (by simp); have c8 : w1.cell? ⟨w.heap.size, 8, none⟩ = some (.int .i64 g) := (hb.cell (p := ⟨w.heap.size, 8, none⟩) (by simp)).trans (by simp); have HB := Lib.hid (show Below w.heap.size w w1 from ((Below.refl _ _).alloc (Nat.le_refl _) _).trans (hb.mono (by simp))); clear hb) | (go_at_call 29; refine (program_c g code (by omega) (by omega) _).mono ?_; rintro e w' ⟨rfl, rfl⟩))
        go_ret
        exact ⟨by rw [← hr.out]; rfl, HB.out⟩
      · have hr := Lib.hid (show (bits .and .i64 m 64 != 0) = padm m g M 5 code 1 from by rw [i64_bit 6 64 m rfl (by omega) m0 (by omega)]; simp [padm, pio, inr])
        clear u0 u1
        go_enter Try.func22, Try.ntmps22
        go_wp2_with (first | (go_at_call 14; refine (valid_c m k M W P c i q g a _).mono ?_; rintro e w1 ⟨rfl, hb⟩; have c0 : w1.cell? ⟨w.heap.size, 0, none⟩ = some (.int .i64 m) := (hb.cell (p := ⟨w.heap.size, 0, none⟩) (by simp)).trans (by simp); have c2 : w1.cell? ⟨w.heap.size, 2, none⟩ = some (.bool M) := (hb.cell (p := ⟨w.heap.size, 2, none⟩) (by simp)).trans (by simp); have c8 : w1.cell? ⟨w.heap.size, 8, none⟩ = some (.int .i64 g) := (hb.cell (p := ⟨w.heap.size, 8, none⟩) (by simp)).trans (by simp); have HB := Lib.hid (show Below w.heap.size w w1 from ((Below.refl _ _).alloc (Nat.le_refl _) _).trans (hb.mono (by simp))); clear hb) | (go_at_call 29; refine (program_c g code (by omega) (by omega) _).mono ?_; rintro e w' ⟨rfl, rfl⟩))
        go_ret
        exact ⟨by rw [← hr.out]; rfl, HB.out⟩
      · have hr := Lib.hid (show (bits .and .i64 m 32 != 0) = padm m g M 5 code 2 from by rw [i64_bit 5 32 m rfl (by omega) m0 (by omega)]; simp [padm, pio, inr])
        clear u0 u1
        go_enter Try.func22, Try.ntmps22
        go_wp2_with (first | (go_at_call 14; refine (valid_c m k M W P c i q g a _).mono ?_; rintro e w1 ⟨rfl, hb⟩; have c0 : w1.cell? ⟨w.heap.size, 0, none⟩ = some (.int .i64 m) := (hb.cell (p := ⟨w.heap.size, 0, none⟩) (by simp)).trans (by simp); have c2 : w1.cell? ⟨w.heap.size, 2, none⟩ = some (.bool M) := (hb.cell (p := ⟨w.heap.size, 2, none⟩) (by simp)).trans (by simp); have c8 : w1.cell? ⟨w.heap.size, 8, none⟩ = some (.int .i64 g) := (hb.cell (p := ⟨w.heap.size, 8, none⟩) (by simp)).trans (by simp); have HB := Lib.hid (show Below w.heap.size w w1 from ((Below.refl _ _).alloc (Nat.le_refl _) _).trans (hb.mono (by simp))); clear hb) | (go_at_call 29; refine (program_c g code (by omega) (by omega) _).mono ?_; rintro e w' ⟨rfl, rfl⟩))
        go_ret
        exact ⟨by rw [← hr.out]; rfl, HB.out⟩
      · have hr := Lib.hid (show (bits .and .i64 m 16 != 0) = padm m g M 5 code 3 from by rw [i64_bit 4 16 m rfl (by omega) m0 (by omega)]; simp [padm, pio, inr])
        clear u0 u1
        go_enter Try.func22, Try.ntmps22
        go_wp2_with (first | (go_at_call 14; refine (valid_c m k M W P c i q g a _).mono ?_; rintro e w1 ⟨rfl, hb⟩; have c0 : w1.cell? ⟨w.heap.size, 0, none⟩ = some (.int .i64 m) := (hb.cell (p := ⟨w.heap.size, 0, none⟩) (by simp)).trans (by simp); have c2 : w1.cell? ⟨w.heap.size, 2, none⟩ = some (.bool M) := (hb.cell (p := ⟨w.heap.size, 2, none⟩) (by simp)).trans (by simp); have c8 : w1.cell? ⟨w.heap.size, 8, none⟩ = some (.int .i64 g) := (hb.cell (p := ⟨w.heap.size, 8, none⟩) (by simp)).trans (by simp); have HB := Lib.hid (show Below w.heap.size w w1 from ((Below.refl _ _).alloc (Nat.le_refl _) _).trans (hb.mono (by simp))); clear hb) | (go_at_call 29; refine (program_c g code (by omega) (by omega) _).mono ?_; rintro e w' ⟨rfl, rfl⟩))
        go_ret
        exact ⟨by rw [← hr.out]; rfl, HB.out⟩
      · have hr := Lib.hid (show (bits .and .i64 m 8 != 0) = padm m g M 5 code 4 from by rw [i64_bit 3 8 m rfl (by omega) m0 (by omega)]; simp [padm, pio, inr])
        clear u0 u1
        go_enter Try.func22, Try.ntmps22
        go_wp2_with (first | (go_at_call 14; refine (valid_c m k M W P c i q g a _).mono ?_; rintro e w1 ⟨rfl, hb⟩; have c0 : w1.cell? ⟨w.heap.size, 0, none⟩ = some (.int .i64 m) := (hb.cell (p := ⟨w.heap.size, 0, none⟩) (by simp)).trans (by simp); have c2 : w1.cell? ⟨w.heap.size, 2, none⟩ = some (.bool M) := (hb.cell (p := ⟨w.heap.size, 2, none⟩) (by simp)).trans (by simp); have c8 : w1.cell? ⟨w.heap.size, 8, none⟩ = some (.int .i64 g) := (hb.cell (p := ⟨w.heap.size, 8, none⟩) (by simp)).trans (by simp); have HB := Lib.hid (show Below w.heap.size w w1 from ((Below.refl _ _).alloc (Nat.le_refl _) _).trans (hb.mono (by simp))); clear hb) | (go_at_call 29; refine (program_c g code (by omega) (by omega) _).mono ?_; rintro e w' ⟨rfl, rfl⟩))
        go_ret
        exact ⟨by rw [← hr.out]; rfl, HB.out⟩
      · have hr := Lib.hid (show (bits .and .i64 m 4 != 0) = padm m g M 5 code 5 from by rw [i64_bit 2 4 m rfl (by omega) m0 (by omega)]; simp [padm, pio, inr])
        clear u0 u1
        go_enter Try.func22, Try.ntmps22
        go_wp2_with (first | (go_at_call 14; refine (valid_c m k M W P c i q g a _).mono ?_; rintro e w1 ⟨rfl, hb⟩; have c0 : w1.cell? ⟨w.heap.size, 0, none⟩ = some (.int .i64 m) := (hb.cell (p := ⟨w.heap.size, 0, none⟩) (by simp)).trans (by simp); have c2 : w1.cell? ⟨w.heap.size, 2, none⟩ = some (.bool M) := (hb.cell (p := ⟨w.heap.size, 2, none⟩) (by simp)).trans (by simp); have c8 : w1.cell? ⟨w.heap.size, 8, none⟩ = some (.int .i64 g) := (hb.cell (p := ⟨w.heap.size, 8, none⟩) (by simp)).trans (by simp); have HB := Lib.hid (show Below w.heap.size w w1 from ((Below.refl _ _).alloc (Nat.le_refl _) _).trans (hb.mono (by simp))); clear hb) | (go_at_call 29; refine (program_c g code (by omega) (by omega) _).mono ?_; rintro e w' ⟨rfl, rfl⟩))
        go_ret
        exact ⟨by rw [← hr.out]; rfl, HB.out⟩
      · have hr := Lib.hid (show (bits .and .i64 m 2 != 0) = padm m g M 5 code 6 from by rw [i64_bit 1 2 m rfl (by omega) m0 (by omega)]; simp [padm, pio, inr])
        clear u0 u1
        go_enter Try.func22, Try.ntmps22
        go_wp2_with (first | (go_at_call 14; refine (valid_c m k M W P c i q g a _).mono ?_; rintro e w1 ⟨rfl, hb⟩; have c0 : w1.cell? ⟨w.heap.size, 0, none⟩ = some (.int .i64 m) := (hb.cell (p := ⟨w.heap.size, 0, none⟩) (by simp)).trans (by simp); have c2 : w1.cell? ⟨w.heap.size, 2, none⟩ = some (.bool M) := (hb.cell (p := ⟨w.heap.size, 2, none⟩) (by simp)).trans (by simp); have c8 : w1.cell? ⟨w.heap.size, 8, none⟩ = some (.int .i64 g) := (hb.cell (p := ⟨w.heap.size, 8, none⟩) (by simp)).trans (by simp); have HB := Lib.hid (show Below w.heap.size w w1 from ((Below.refl _ _).alloc (Nat.le_refl _) _).trans (hb.mono (by simp))); clear hb) | (go_at_call 29; refine (program_c g code (by omega) (by omega) _).mono ?_; rintro e w' ⟨rfl, rfl⟩))
        go_ret
        exact ⟨by rw [← hr.out]; rfl, HB.out⟩
    have e1 : (cl == 1) = false := by simpa using h1
    have e2 : (cl == 2) = false := by simpa using h2
    have e3 : (cl == 3) = false := by simpa using h3
    have e4 : (cl == 4) = false := by simpa using h4
    have e5 : (cl == 5) = false := by simpa using h5
    have hr := Lib.hid (show padm m g M cl code ch = false from by simp [padm, h1, h2, h3, h4, h5])
    clear h1 h2 h3 h4 h5
    go_enter Try.func22, Try.ntmps22
    go_wp2_with (first | (go_at_call 14; refine (valid_c m k M W P c i q g a _).mono ?_; rintro e w1 ⟨rfl, hb⟩; have c0 : w1.cell? ⟨w.heap.size, 0, none⟩ = some (.int .i64 m) := (hb.cell (p := ⟨w.heap.size, 0, none⟩) (by simp)).trans (by simp); have c2 : w1.cell? ⟨w.heap.size, 2, none⟩ = some (.bool M) := (hb.cell (p := ⟨w.heap.size, 2, none⟩) (by simp)).trans (by simp); have c8 : w1.cell? ⟨w.heap.size, 8, none⟩ = some (.int .i64 g) := (hb.cell (p := ⟨w.heap.size, 8, none⟩) (by simp)).trans (by simp); have HB := Lib.hid (show Below w.heap.size w w1 from ((Below.refl _ _).alloc (Nat.le_refl _) _).trans (hb.mono (by simp))); clear hb) | (go_at_call 29; refine (program_c g code (by omega) (by omega) _).mono ?_; rintro e w' ⟨rfl, rfl⟩))
    go_ret
    exact ⟨by rw [hr.out]; rfl, HB.out⟩

set_option maxHeartbeats 2000000 in
theorem radmits_c (m k : Int) (M W P : Bool) (c i q g a : Int) (cl code ch : Int) (w : World) : Calls Try.prog 23 #[.agg #[.int .i64 m, .int .i64 k, .bool M, .bool W, .bool P, .int .i64 c, .int .i64 i, .int .i64 q, .int .i64 g, .int .i64 a], .int .i64 cl, .int .i64 code, .int .i64 ch] w fun e w' => e = .returned (.bool (pok m k c i q g a && padm m g M cl code ch)) ∧ Below w.heap.size w w' := by
  cases hp : pok m k c i q g a
  · simp only [Bool.false_and]
    go_enter Try.func23, Try.ntmps23
    go_wp2_with (first | (go_at_call 15; refine (rvalid_c m k M W P c i q g a _).mono ?_; rintro e w1 ⟨rfl, hb⟩; have c0 : w1.cell? ⟨w.heap.size, 0, none⟩ = some (.int .i64 m) := (hb.cell (p := ⟨w.heap.size, 0, none⟩) (by simp)).trans (by simp); have c2 : w1.cell? ⟨w.heap.size, 2, none⟩ = some (.bool M) := (hb.cell (p := ⟨w.heap.size, 2, none⟩) (by simp)).trans (by simp); have c8 : w1.cell? ⟨w.heap.size, 8, none⟩ = some (.int .i64 g) := (hb.cell (p := ⟨w.heap.size, 8, none⟩) (by simp)).trans (by simp); have HB := Lib.hid (show Below w.heap.size w w1 from ((Below.refl _ _).alloc (Nat.le_refl _) _).trans (hb.mono (by simp))); clear hb) | (go_at_call 28; refine (in_c _ _ _).mono ?_; rintro e w' ⟨rfl, rfl⟩))
    go_ret
    exact ⟨rfl, HB.out⟩
  · simp only [Bool.true_and]
    have hq := (pok_iff m k c i q g a).1 hp
    have m0 := hq.1.1
    have m1 := hq.1.2
    have g0 := hq.2.2.2.2.2.1.1
    have g1 := hq.2.2.2.2.2.1.2
    clear hq
    by_cases h1 : cl = 1
    · subst h1
      have hr := Lib.hid (show padm m g M 1 code ch = decide (m % 2 = 1) from by simp [padm])
      go_enter Try.func23, Try.ntmps23
      go_wp2_with (first | (go_at_call 15; refine (rvalid_c m k M W P c i q g a _).mono ?_; rintro e w1 ⟨rfl, hb⟩; have c0 : w1.cell? ⟨w.heap.size, 0, none⟩ = some (.int .i64 m) := (hb.cell (p := ⟨w.heap.size, 0, none⟩) (by simp)).trans (by simp); have c2 : w1.cell? ⟨w.heap.size, 2, none⟩ = some (.bool M) := (hb.cell (p := ⟨w.heap.size, 2, none⟩) (by simp)).trans (by simp); have c8 : w1.cell? ⟨w.heap.size, 8, none⟩ = some (.int .i64 g) := (hb.cell (p := ⟨w.heap.size, 8, none⟩) (by simp)).trans (by simp); have HB := Lib.hid (show Below w.heap.size w w1 from ((Below.refl _ _).alloc (Nat.le_refl _) _).trans (hb.mono (by simp))); clear hb) | (go_at_call 28; refine (in_c _ _ _).mono ?_; rintro e w' ⟨rfl, rfl⟩))
      go_ret
      exact ⟨by rw [hr.out]; rfl, HB.out⟩
    by_cases h2 : cl = 2
    · subst h2
      have hr := Lib.hid (show padm m g M 2 code ch = true from by simp [padm])
      go_enter Try.func23, Try.ntmps23
      go_wp2_with (first | (go_at_call 15; refine (rvalid_c m k M W P c i q g a _).mono ?_; rintro e w1 ⟨rfl, hb⟩; have c0 : w1.cell? ⟨w.heap.size, 0, none⟩ = some (.int .i64 m) := (hb.cell (p := ⟨w.heap.size, 0, none⟩) (by simp)).trans (by simp); have c2 : w1.cell? ⟨w.heap.size, 2, none⟩ = some (.bool M) := (hb.cell (p := ⟨w.heap.size, 2, none⟩) (by simp)).trans (by simp); have c8 : w1.cell? ⟨w.heap.size, 8, none⟩ = some (.int .i64 g) := (hb.cell (p := ⟨w.heap.size, 8, none⟩) (by simp)).trans (by simp); have HB := Lib.hid (show Below w.heap.size w w1 from ((Below.refl _ _).alloc (Nat.le_refl _) _).trans (hb.mono (by simp))); clear hb) | (go_at_call 28; refine (in_c _ _ _).mono ?_; rintro e w' ⟨rfl, rfl⟩))
      go_ret
      exact ⟨by rw [hr.out]; rfl, HB.out⟩
    by_cases h3 : cl = 3
    · subst h3
      by_cases h8 : code = 8
      · subst h8
        have hr := Lib.hid (show padm m g M 3 8 ch = decide (g / 8 = 1) from by simp [padm, pprog]; omega)
        go_enter Try.func23, Try.ntmps23
        go_wp2_with (first | (go_at_call 15; refine (rvalid_c m k M W P c i q g a _).mono ?_; rintro e w1 ⟨rfl, hb⟩; have c0 : w1.cell? ⟨w.heap.size, 0, none⟩ = some (.int .i64 m) := (hb.cell (p := ⟨w.heap.size, 0, none⟩) (by simp)).trans (by simp); have c2 : w1.cell? ⟨w.heap.size, 2, none⟩ = some (.bool M) := (hb.cell (p := ⟨w.heap.size, 2, none⟩) (by simp)).trans (by simp); have c8 : w1.cell? ⟨w.heap.size, 8, none⟩ = some (.int .i64 g) := (hb.cell (p := ⟨w.heap.size, 8, none⟩) (by simp)).trans (by simp); have HB := Lib.hid (show Below w.heap.size w w1 from ((Below.refl _ _).alloc (Nat.le_refl _) _).trans (hb.mono (by simp))); clear hb) | (go_at_call 28; refine (in_c _ _ _).mono ?_; rintro e w' ⟨rfl, rfl⟩))
        go_ret
        exact ⟨by rw [hr.out]; rfl, HB.out⟩
      by_cases h10 : code = 10
      · subst h10
        have hr := Lib.hid (show padm m g M 3 10 ch = decide (g / 4 % 2 = 1) from by simp [padm, pprog])
        go_enter Try.func23, Try.ntmps23
        go_wp2_with (first | (go_at_call 15; refine (rvalid_c m k M W P c i q g a _).mono ?_; rintro e w1 ⟨rfl, hb⟩; have c0 : w1.cell? ⟨w.heap.size, 0, none⟩ = some (.int .i64 m) := (hb.cell (p := ⟨w.heap.size, 0, none⟩) (by simp)).trans (by simp); have c2 : w1.cell? ⟨w.heap.size, 2, none⟩ = some (.bool M) := (hb.cell (p := ⟨w.heap.size, 2, none⟩) (by simp)).trans (by simp); have c8 : w1.cell? ⟨w.heap.size, 8, none⟩ = some (.int .i64 g) := (hb.cell (p := ⟨w.heap.size, 8, none⟩) (by simp)).trans (by simp); have HB := Lib.hid (show Below w.heap.size w w1 from ((Below.refl _ _).alloc (Nat.le_refl _) _).trans (hb.mono (by simp))); clear hb) | (go_at_call 28; refine (in_c _ _ _).mono ?_; rintro e w' ⟨rfl, rfl⟩))
        go_ret
        exact ⟨by rw [hr.out]; rfl, HB.out⟩
      have e8 : (code == 8) = false := by simpa using h8
      have e10 : (code == 10) = false := by simpa using h10
      by_cases h11 : 1 ≤ code
      · by_cases h12 : code ≤ 11
        · have hr := Lib.hid (show padm m g M 3 code ch = true from by simp [padm, pprog, h8, h10, h11, h12])
          clear h8 h10
          go_enter Try.func23, Try.ntmps23
          go_wp2_with (first | (go_at_call 15; refine (rvalid_c m k M W P c i q g a _).mono ?_; rintro e w1 ⟨rfl, hb⟩; have c0 : w1.cell? ⟨w.heap.size, 0, none⟩ = some (.int .i64 m) := (hb.cell (p := ⟨w.heap.size, 0, none⟩) (by simp)).trans (by simp); have c2 : w1.cell? ⟨w.heap.size, 2, none⟩ = some (.bool M) := (hb.cell (p := ⟨w.heap.size, 2, none⟩) (by simp)).trans (by simp); have c8 : w1.cell? ⟨w.heap.size, 8, none⟩ = some (.int .i64 g) := (hb.cell (p := ⟨w.heap.size, 8, none⟩) (by simp)).trans (by simp); have HB := Lib.hid (show Below w.heap.size w w1 from ((Below.refl _ _).alloc (Nat.le_refl _) _).trans (hb.mono (by simp))); clear hb) | (go_at_call 28; refine (in_c _ _ _).mono ?_; rintro e w' ⟨rfl, rfl⟩))
          go_ret
          exact ⟨by rw [hr.out]; rfl, HB.out⟩
        · have hr := Lib.hid (show padm m g M 3 code ch = decide (code ≤ 11) from by simp [padm, pprog, h8, h10, h11])
          clear h8 h10
          go_enter Try.func23, Try.ntmps23
          go_wp2_with (first | (go_at_call 15; refine (rvalid_c m k M W P c i q g a _).mono ?_; rintro e w1 ⟨rfl, hb⟩; have c0 : w1.cell? ⟨w.heap.size, 0, none⟩ = some (.int .i64 m) := (hb.cell (p := ⟨w.heap.size, 0, none⟩) (by simp)).trans (by simp); have c2 : w1.cell? ⟨w.heap.size, 2, none⟩ = some (.bool M) := (hb.cell (p := ⟨w.heap.size, 2, none⟩) (by simp)).trans (by simp); have c8 : w1.cell? ⟨w.heap.size, 8, none⟩ = some (.int .i64 g) := (hb.cell (p := ⟨w.heap.size, 8, none⟩) (by simp)).trans (by simp); have HB := Lib.hid (show Below w.heap.size w w1 from ((Below.refl _ _).alloc (Nat.le_refl _) _).trans (hb.mono (by simp))); clear hb) | (go_at_call 28; refine (in_c _ _ _).mono ?_; rintro e w' ⟨rfl, rfl⟩))
          go_ret
          exact ⟨by rw [hr.out]; rfl, HB.out⟩
      · have hr := Lib.hid (show padm m g M 3 code ch = false from by simp [padm, pprog, h8, h10]; omega)
        clear h8 h10
        go_enter Try.func23, Try.ntmps23
        go_wp2_with (first | (go_at_call 15; refine (rvalid_c m k M W P c i q g a _).mono ?_; rintro e w1 ⟨rfl, hb⟩; have c0 : w1.cell? ⟨w.heap.size, 0, none⟩ = some (.int .i64 m) := (hb.cell (p := ⟨w.heap.size, 0, none⟩) (by simp)).trans (by simp); have c2 : w1.cell? ⟨w.heap.size, 2, none⟩ = some (.bool M) := (hb.cell (p := ⟨w.heap.size, 2, none⟩) (by simp)).trans (by simp); have c8 : w1.cell? ⟨w.heap.size, 8, none⟩ = some (.int .i64 g) := (hb.cell (p := ⟨w.heap.size, 8, none⟩) (by simp)).trans (by simp); have HB := Lib.hid (show Below w.heap.size w w1 from ((Below.refl _ _).alloc (Nat.le_refl _) _).trans (hb.mono (by simp))); clear hb) | (go_at_call 28; refine (in_c _ _ _).mono ?_; rintro e w' ⟨rfl, rfl⟩))
        go_ret
        exact ⟨by rw [hr.out]; rfl, HB.out⟩
    by_cases h4 : cl = 4
    · subst h4
      have hr := Lib.hid (show padm m g M 4 code ch = M from by simp [padm])
      go_enter Try.func23, Try.ntmps23
      go_wp2_with (first | (go_at_call 15; refine (rvalid_c m k M W P c i q g a _).mono ?_; rintro e w1 ⟨rfl, hb⟩; have c0 : w1.cell? ⟨w.heap.size, 0, none⟩ = some (.int .i64 m) := (hb.cell (p := ⟨w.heap.size, 0, none⟩) (by simp)).trans (by simp); have c2 : w1.cell? ⟨w.heap.size, 2, none⟩ = some (.bool M) := (hb.cell (p := ⟨w.heap.size, 2, none⟩) (by simp)).trans (by simp); have c8 : w1.cell? ⟨w.heap.size, 8, none⟩ = some (.int .i64 g) := (hb.cell (p := ⟨w.heap.size, 8, none⟩) (by simp)).trans (by simp); have HB := Lib.hid (show Below w.heap.size w w1 from ((Below.refl _ _).alloc (Nat.le_refl _) _).trans (hb.mono (by simp))); clear hb) | (go_at_call 28; refine (in_c _ _ _).mono ?_; rintro e w' ⟨rfl, rfl⟩))
      go_ret
      exact ⟨by rw [hr.out]; rfl, HB.out⟩
    by_cases h5 : cl = 5
    · subst h5
      cases t : inr ch 6
      · have hr := Lib.hid (show padm m g M 5 code ch = false from by simp [padm, pio, t])
        go_enter Try.func23, Try.ntmps23
        go_wp2_with (first | (go_at_call 15; refine (rvalid_c m k M W P c i q g a _).mono ?_; rintro e w1 ⟨rfl, hb⟩; have c0 : w1.cell? ⟨w.heap.size, 0, none⟩ = some (.int .i64 m) := (hb.cell (p := ⟨w.heap.size, 0, none⟩) (by simp)).trans (by simp); have c2 : w1.cell? ⟨w.heap.size, 2, none⟩ = some (.bool M) := (hb.cell (p := ⟨w.heap.size, 2, none⟩) (by simp)).trans (by simp); have c8 : w1.cell? ⟨w.heap.size, 8, none⟩ = some (.int .i64 g) := (hb.cell (p := ⟨w.heap.size, 8, none⟩) (by simp)).trans (by simp); have HB := Lib.hid (show Below w.heap.size w w1 from ((Below.refl _ _).alloc (Nat.le_refl _) _).trans (hb.mono (by simp))); clear hb) | (go_at_call 28; refine (in_c _ _ _).mono ?_; rintro e w' ⟨rfl, rfl⟩))
        go_ret
        exact ⟨by rw [hr.out]; rfl, HB.out⟩
      have u0 := (inr_yes t).1
      have u1 := (inr_yes t).2
      obtain rfl | rfl | rfl | rfl | rfl | rfl | rfl : ch = 0 ∨ ch = 1 ∨ ch = 2 ∨ ch = 3 ∨ ch = 4 ∨ ch = 5 ∨ ch = 6 := by omega
      · have hr := Lib.hid (show padm m g M 5 code 0 = decide (m / 128 % 2 = 1) from by simp [padm, pio, t])
        clear u0 u1
        go_enter Try.func23, Try.ntmps23
        go_wp2_with (first | (go_at_call 15; refine (rvalid_c m k M W P c i q g a _).mono ?_; rintro e w1 ⟨rfl, hb⟩; have c0 : w1.cell? ⟨w.heap.size, 0, none⟩ = some (.int .i64 m) := (hb.cell (p := ⟨w.heap.size, 0, none⟩) (by simp)).trans (by simp); have c2 : w1.cell? ⟨w.heap.size, 2, none⟩ = some (.bool M) := (hb.cell (p := ⟨w.heap.size, 2, none⟩) (by simp)).trans (by simp); have c8 : w1.cell? ⟨w.heap.size, 8, none⟩ = some (.int .i64 g) := (hb.cell (p := ⟨w.heap.size, 8, none⟩) (by simp)).trans (by simp); have HB := Lib.hid (show Below w.heap.size w w1 from ((Below.refl _ _).alloc (Nat.le_refl _) _).trans (hb.mono (by simp))); clear hb) | (go_at_call 28; refine (in_c _ _ _).mono ?_; rintro e w' ⟨rfl, rfl⟩))
        go_ret
        exact ⟨by rw [hr.out]; rfl, HB.out.alloc HB.out.size _⟩
      · have hr := Lib.hid (show padm m g M 5 code 1 = decide (m / 64 % 2 = 1) from by simp [padm, pio, t])
        clear u0 u1
        go_enter Try.func23, Try.ntmps23
        go_wp2_with (first | (go_at_call 15; refine (rvalid_c m k M W P c i q g a _).mono ?_; rintro e w1 ⟨rfl, hb⟩; have c0 : w1.cell? ⟨w.heap.size, 0, none⟩ = some (.int .i64 m) := (hb.cell (p := ⟨w.heap.size, 0, none⟩) (by simp)).trans (by simp); have c2 : w1.cell? ⟨w.heap.size, 2, none⟩ = some (.bool M) := (hb.cell (p := ⟨w.heap.size, 2, none⟩) (by simp)).trans (by simp); have c8 : w1.cell? ⟨w.heap.size, 8, none⟩ = some (.int .i64 g) := (hb.cell (p := ⟨w.heap.size, 8, none⟩) (by simp)).trans (by simp); have HB := Lib.hid (show Below w.heap.size w w1 from ((Below.refl _ _).alloc (Nat.le_refl _) _).trans (hb.mono (by simp))); clear hb) | (go_at_call 28; refine (in_c _ _ _).mono ?_; rintro e w' ⟨rfl, rfl⟩))
        go_ret
        exact ⟨by rw [hr.out]; rfl, HB.out.alloc HB.out.size _⟩
      · have hr := Lib.hid (show padm m g M 5 code 2 = decide (m / 32 % 2 = 1) from by simp [padm, pio, t])
        clear u0 u1
        go_enter Try.func23, Try.ntmps23
        go_wp2_with (first | (go_at_call 15; refine (rvalid_c m k M W P c i q g a _).mono ?_; rintro e w1 ⟨rfl, hb⟩; have c0 : w1.cell? ⟨w.heap.size, 0, none⟩ = some (.int .i64 m) := (hb.cell (p := ⟨w.heap.size, 0, none⟩) (by simp)).trans (by simp); have c2 : w1.cell? ⟨w.heap.size, 2, none⟩ = some (.bool M) := (hb.cell (p := ⟨w.heap.size, 2, none⟩) (by simp)).trans (by simp); have c8 : w1.cell? ⟨w.heap.size, 8, none⟩ = some (.int .i64 g) := (hb.cell (p := ⟨w.heap.size, 8, none⟩) (by simp)).trans (by simp); have HB := Lib.hid (show Below w.heap.size w w1 from ((Below.refl _ _).alloc (Nat.le_refl _) _).trans (hb.mono (by simp))); clear hb) | (go_at_call 28; refine (in_c _ _ _).mono ?_; rintro e w' ⟨rfl, rfl⟩))
        go_ret
        exact ⟨by rw [hr.out]; rfl, HB.out.alloc HB.out.size _⟩
      · have hr := Lib.hid (show padm m g M 5 code 3 = decide (m / 16 % 2 = 1) from by simp [padm, pio, t])
        clear u0 u1
        go_enter Try.func23, Try.ntmps23
        go_wp2_with (first | (go_at_call 15; refine (rvalid_c m k M W P c i q g a _).mono ?_; rintro e w1 ⟨rfl, hb⟩; have c0 : w1.cell? ⟨w.heap.size, 0, none⟩ = some (.int .i64 m) := (hb.cell (p := ⟨w.heap.size, 0, none⟩) (by simp)).trans (by simp); have c2 : w1.cell? ⟨w.heap.size, 2, none⟩ = some (.bool M) := (hb.cell (p := ⟨w.heap.size, 2, none⟩) (by simp)).trans (by simp); have c8 : w1.cell? ⟨w.heap.size, 8, none⟩ = some (.int .i64 g) := (hb.cell (p := ⟨w.heap.size, 8, none⟩) (by simp)).trans (by simp); have HB := Lib.hid (show Below w.heap.size w w1 from ((Below.refl _ _).alloc (Nat.le_refl _) _).trans (hb.mono (by simp))); clear hb) | (go_at_call 28; refine (in_c _ _ _).mono ?_; rintro e w' ⟨rfl, rfl⟩))
        go_ret
        exact ⟨by rw [hr.out]; rfl, HB.out.alloc HB.out.size _⟩
      · have hr := Lib.hid (show padm m g M 5 code 4 = decide (m / 8 % 2 = 1) from by simp [padm, pio, t])
        clear u0 u1
        go_enter Try.func23, Try.ntmps23
        go_wp2_with (first | (go_at_call 15; refine (rvalid_c m k M W P c i q g a _).mono ?_; rintro e w1 ⟨rfl, hb⟩; have c0 : w1.cell? ⟨w.heap.size, 0, none⟩ = some (.int .i64 m) := (hb.cell (p := ⟨w.heap.size, 0, none⟩) (by simp)).trans (by simp); have c2 : w1.cell? ⟨w.heap.size, 2, none⟩ = some (.bool M) := (hb.cell (p := ⟨w.heap.size, 2, none⟩) (by simp)).trans (by simp); have c8 : w1.cell? ⟨w.heap.size, 8, none⟩ = some (.int .i64 g) := (hb.cell (p := ⟨w.heap.size, 8, none⟩) (by simp)).trans (by simp); have HB := Lib.hid (show Below w.heap.size w w1 from ((Below.refl _ _).alloc (Nat.le_refl _) _).trans (hb.mono (by simp))); clear hb) | (go_at_call 28; refine (in_c _ _ _).mono ?_; rintro e w' ⟨rfl, rfl⟩))
        go_ret
        exact ⟨by rw [hr.out]; rfl, HB.out.alloc HB.out.size _⟩
      · have hr := Lib.hid (show padm m g M 5 code 5 = decide (m / 4 % 2 = 1) from by simp [padm, pio, t])
        clear u0 u1
        go_enter Try.func23, Try.ntmps23
        go_wp2_with (first | (go_at_call 15; refine (rvalid_c m k M W P c i q g a _).mono ?_; rintro e w1 ⟨rfl, hb⟩; have c0 : w1.cell? ⟨w.heap.size, 0, none⟩ = some (.int .i64 m) := (hb.cell (p := ⟨w.heap.size, 0, none⟩) (by simp)).trans (by simp); have c2 : w1.cell? ⟨w.heap.size, 2, none⟩ = some (.bool M) := (hb.cell (p := ⟨w.heap.size, 2, none⟩) (by simp)).trans (by simp); have c8 : w1.cell? ⟨w.heap.size, 8, none⟩ = some (.int .i64 g) := (hb.cell (p := ⟨w.heap.size, 8, none⟩) (by simp)).trans (by simp); have HB := Lib.hid (show Below w.heap.size w w1 from ((Below.refl _ _).alloc (Nat.le_refl _) _).trans (hb.mono (by simp))); clear hb) | (go_at_call 28; refine (in_c _ _ _).mono ?_; rintro e w' ⟨rfl, rfl⟩))
        go_ret
        exact ⟨by rw [hr.out]; rfl, HB.out.alloc HB.out.size _⟩
      · have hr := Lib.hid (show padm m g M 5 code 6 = decide (m / 2 % 2 = 1) from by simp [padm, pio, t])
        clear u0 u1
        go_enter Try.func23, Try.ntmps23
        go_wp2_with (first | (go_at_call 15; refine (rvalid_c m k M W P c i q g a _).mono ?_; rintro e w1 ⟨rfl, hb⟩; have c0 : w1.cell? ⟨w.heap.size, 0, none⟩ = some (.int .i64 m) := (hb.cell (p := ⟨w.heap.size, 0, none⟩) (by simp)).trans (by simp); have c2 : w1.cell? ⟨w.heap.size, 2, none⟩ = some (.bool M) := (hb.cell (p := ⟨w.heap.size, 2, none⟩) (by simp)).trans (by simp); have c8 : w1.cell? ⟨w.heap.size, 8, none⟩ = some (.int .i64 g) := (hb.cell (p := ⟨w.heap.size, 8, none⟩) (by simp)).trans (by simp); have HB := Lib.hid (show Below w.heap.size w w1 from ((Below.refl _ _).alloc (Nat.le_refl _) _).trans (hb.mono (by simp))); clear hb) | (go_at_call 28; refine (in_c _ _ _).mono ?_; rintro e w' ⟨rfl, rfl⟩))
        go_ret
        exact ⟨by rw [hr.out]; rfl, HB.out.alloc HB.out.size _⟩
    have e1 : (cl == 1) = false := by simpa using h1
    have e2 : (cl == 2) = false := by simpa using h2
    have e3 : (cl == 3) = false := by simpa using h3
    have e4 : (cl == 4) = false := by simpa using h4
    have e5 : (cl == 5) = false := by simpa using h5
    have hr := Lib.hid (show padm m g M cl code ch = false from by simp [padm, h1, h2, h3, h4, h5])
    clear h1 h2 h3 h4 h5
    go_enter Try.func23, Try.ntmps23
    go_wp2_with (first | (go_at_call 15; refine (rvalid_c m k M W P c i q g a _).mono ?_; rintro e w1 ⟨rfl, hb⟩; have c0 : w1.cell? ⟨w.heap.size, 0, none⟩ = some (.int .i64 m) := (hb.cell (p := ⟨w.heap.size, 0, none⟩) (by simp)).trans (by simp); have c2 : w1.cell? ⟨w.heap.size, 2, none⟩ = some (.bool M) := (hb.cell (p := ⟨w.heap.size, 2, none⟩) (by simp)).trans (by simp); have c8 : w1.cell? ⟨w.heap.size, 8, none⟩ = some (.int .i64 g) := (hb.cell (p := ⟨w.heap.size, 8, none⟩) (by simp)).trans (by simp); have HB := Lib.hid (show Below w.heap.size w w1 from ((Below.refl _ _).alloc (Nat.le_refl _) _).trans (hb.mono (by simp))); clear hb) | (go_at_call 28; refine (in_c _ _ _).mono ?_; rintro e w' ⟨rfl, rfl⟩))
    go_ret
    exact ⟨by rw [hr.out]; rfl, HB.out⟩

end Go.Proofs.Ytfjnmlklpebfcaa
