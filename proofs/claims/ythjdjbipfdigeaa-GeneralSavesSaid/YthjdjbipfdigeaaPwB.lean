/- CONTRACTS of limits and Valid of package psw. No conditions. -/
import Derived.Test.YthjdjbipfdigeaaProg
import Derived.Test.YthjdjbipfdigeaaPw
import Derived.Lib.Hide
import Derived.Outline
import Derived.Below
import Derived.Handy
namespace Go.Proofs.Ythjdjbipfdigeaa
open Go.RowKit
set_option maxRecDepth 100000
set_option linter.unusedVariables false
set_option linter.unusedSimpArgs false

set_option maxHeartbeats 1000000 in
theorem limits_c (m k : Int) (M W P : Bool) (c i q g a : Int) (w : World) : Calls Try.prog 41 #[.agg #[.int .i64 m, .int .i64 k, .bool M, .bool W, .bool P, .int .i64 c, .int .i64 i, .int .i64 q, .int .i64 g, .int .i64 a]] w fun e w' => e = .returned (.agg #[.int .i64 m, .int .i64 255, .int .i64 k, .int .i64 15, .int .i64 c, .int .i64 65535, .int .i64 i, .int .i64 3, .int .i64 q, .int .i64 3, .int .i64 g, .int .i64 15, .int .i64 a, .int .i64 16777215]) ∧ Below w.heap.size w w' := by
  go_enter Try.func41, Try.ntmps41
  go_wp2
  go_returns
  exact ⟨rfl, ((Below.refl w.heap.size w).alloc (Nat.le_refl _) _).alloc (by simp) _⟩

theorem sz_limit : Try.prog.types[86].size = 2 := by kernel_rfl

set_option maxHeartbeats 2000000 in
theorem valid_c (m k : Int) (M W P : Bool) (c i q g a : Int) (w : World) : Calls Try.prog 29 #[.agg #[.int .i64 m, .int .i64 k, .bool M, .bool W, .bool P, .int .i64 c, .int .i64 i, .int .i64 q, .int .i64 g, .int .i64 a]] w fun e w' => e = .returned (.bool (pok m k c i q g a)) ∧ Below w.heap.size w w' := by
  go_enter Try.func29, Try.ntmps29
  go_wp2_with fail
  refine (limits_c m k M W P c i q g a _).mono ?_
  rintro e w1 ⟨rfl, hb⟩
  have HB := Lib.hid (show Below w.heap.size w w1 from ((Below.refl _ _).alloc (Nat.le_refl _) _).trans (hb.mono (by simp)))
  clear hb
  go_wp2_with fail
  go_loopw [7] (fun x wr => ∃ n : Nat, n ≤ 7 ∧ x = .int .i64 n ∧ Below w.heap.size w wr ∧ (([inr m 255, inr k 15, inr c 65535, inr i 3, inr q 3, inr g 15, inr a 16777215] : List Bool).take n).all id = true) (fun x _ => 7 - (intOf x).toNat)
  case atStart => exact ⟨0, Nat.zero_le _, rfl, HB.out, rfl⟩
  case round =>
    obtain ⟨n, hn, rfl, hbl, hall⟩ := hrel
    have HW := Lib.hid hbl
    have HS := Lib.hid hbl.size
    clear hbl
    match n, hn with
    | 0, _ =>
      have hx : (#[.int .i64 m, .int .i64 255, .int .i64 k, .int .i64 15, .int .i64 c, .int .i64 65535, .int .i64 i, .int .i64 3, .int .i64 q, .int .i64 3, .int .i64 g, .int .i64 15, .int .i64 a, .int .i64 16777215] : Array Value).extract (Int.toNat 0 * Try.prog.types[86].size) (Int.toNat 0 * Try.prog.types[86].size + Try.prog.types[86].size) = #[.int .i64 m, .int .i64 255] := by rw [sz_limit]; rfl
      have hp : True := by first | trivial | simpa using hall
      have HP := Lib.hid hp
      clear hall hp
      cases t : inr m 255
      · have hr := Lib.hid (show pok m k c i q g a = false from by simp [pok, t])
        have u := inr_no t
        clear t
        by_cases u0 : 0 ≤ m
        · have u1 : ¬ m ≤ 255 := by omega
          clear u
          go_wp2_with fail
          rename_i hK
          refine hK _ _ ?_
          rw [hx]
          go_wp2_with fail
          go_ret
          exact ⟨by rw [hr.out]; rfl, HW.out.alloc HS.out _⟩
        · clear u
          go_wp2_with fail
          rename_i hK
          refine hK _ _ ?_
          rw [hx]
          go_wp2_with fail
          go_ret
          exact ⟨by rw [hr.out]; rfl, HW.out.alloc HS.out _⟩
      · have ht := Lib.hid t
        have u0 := (inr_yes t).1
        have u1 := (inr_yes t).2
        clear t
        go_wp2_with fail
        rename_i hK
        refine hK _ _ ?_
        rw [hx]
        go_wp2_with fail
        go_roundw
        case rel => exact ⟨1, by omega, by go_num, HW.out.alloc HS.out _, by have := HP.out; simp [this, ht.out]⟩
        case measure => simp [intOf]
    | 1, _ =>
      have hx : (#[.int .i64 m, .int .i64 255, .int .i64 k, .int .i64 15, .int .i64 c, .int .i64 65535, .int .i64 i, .int .i64 3, .int .i64 q, .int .i64 3, .int .i64 g, .int .i64 15, .int .i64 a, .int .i64 16777215] : Array Value).extract (Int.toNat 1 * Try.prog.types[86].size) (Int.toNat 1 * Try.prog.types[86].size + Try.prog.types[86].size) = #[.int .i64 k, .int .i64 15] := by rw [sz_limit]; rfl
      have hp : inr m 255 = true := by first | trivial | simpa using hall
      have HP := Lib.hid hp
      clear hall hp
      cases t : inr k 15
      · have hr := Lib.hid (show pok m k c i q g a = false from by simp [pok, t])
        have u := inr_no t
        clear t
        by_cases u0 : 0 ≤ k
        · have u1 : ¬ k ≤ 15 := by omega
          clear u
          go_wp2_with fail
          rename_i hK
          refine hK _ _ ?_
          rw [hx]
          go_wp2_with fail
          go_ret
          exact ⟨by rw [hr.out]; rfl, HW.out.alloc HS.out _⟩
        · clear u
          go_wp2_with fail
          rename_i hK
          refine hK _ _ ?_
          rw [hx]
          go_wp2_with fail
          go_ret
          exact ⟨by rw [hr.out]; rfl, HW.out.alloc HS.out _⟩
      · have ht := Lib.hid t
        have u0 := (inr_yes t).1
        have u1 := (inr_yes t).2
        clear t
        go_wp2_with fail
        rename_i hK
        refine hK _ _ ?_
        rw [hx]
        go_wp2_with fail
        go_roundw
        case rel => exact ⟨2, by omega, by go_num, HW.out.alloc HS.out _, by have := HP.out; simp [this, ht.out]⟩
        case measure => simp [intOf]
    | 2, _ =>
      have hx : (#[.int .i64 m, .int .i64 255, .int .i64 k, .int .i64 15, .int .i64 c, .int .i64 65535, .int .i64 i, .int .i64 3, .int .i64 q, .int .i64 3, .int .i64 g, .int .i64 15, .int .i64 a, .int .i64 16777215] : Array Value).extract (Int.toNat 2 * Try.prog.types[86].size) (Int.toNat 2 * Try.prog.types[86].size + Try.prog.types[86].size) = #[.int .i64 c, .int .i64 65535] := by rw [sz_limit]; rfl
      have hp : inr m 255 = true ∧ inr k 15 = true := by first | trivial | simpa using hall
      have HP := Lib.hid hp
      clear hall hp
      cases t : inr c 65535
      · have hr := Lib.hid (show pok m k c i q g a = false from by simp [pok, t])
        have u := inr_no t
        clear t
        by_cases u0 : 0 ≤ c
        · have u1 : ¬ c ≤ 65535 := by omega
          clear u
          go_wp2_with fail
          rename_i hK
          refine hK _ _ ?_
          rw [hx]
          go_wp2_with fail
          go_ret
          exact ⟨by rw [hr.out]; rfl, HW.out.alloc HS.out _⟩
        · clear u
          go_wp2_with fail
          rename_i hK
          refine hK _ _ ?_
          rw [hx]
          go_wp2_with fail
          go_ret
          exact ⟨by rw [hr.out]; rfl, HW.out.alloc HS.out _⟩
      · have ht := Lib.hid t
        have u0 := (inr_yes t).1
        have u1 := (inr_yes t).2
        clear t
        go_wp2_with fail
        rename_i hK
        refine hK _ _ ?_
        rw [hx]
        go_wp2_with fail
        go_roundw
        case rel => exact ⟨3, by omega, by go_num, HW.out.alloc HS.out _, by have := HP.out; simp [this, ht.out]⟩
        case measure => simp [intOf]
    | 3, _ =>
      have hx : (#[.int .i64 m, .int .i64 255, .int .i64 k, .int .i64 15, .int .i64 c, .int .i64 65535, .int .i64 i, .int .i64 3, .int .i64 q, .int .i64 3, .int .i64 g, .int .i64 15, .int .i64 a, .int .i64 16777215] : Array Value).extract (Int.toNat 3 * Try.prog.types[86].size) (Int.toNat 3 * Try.prog.types[86].size + Try.prog.types[86].size) = #[.int .i64 i, .int .i64 3] := by rw [sz_limit]; rfl
      have hp : inr m 255 = true ∧ inr k 15 = true ∧ inr c 65535 = true := by first | trivial | simpa using hall
      have HP := Lib.hid hp
      clear hall hp
      cases t : inr i 3
      · have hr := Lib.hid (show pok m k c i q g a = false from by simp [pok, t])
        have u := inr_no t
        clear t
        by_cases u0 : 0 ≤ i
        · have u1 : ¬ i ≤ 3 := by omega
          clear u
          go_wp2_with fail
          rename_i hK
          refine hK _ _ ?_
          rw [hx]
          go_wp2_with fail
          go_ret
          exact ⟨by rw [hr.out]; rfl, HW.out.alloc HS.out _⟩
        · clear u
          go_wp2_with fail
          rename_i hK
          refine hK _ _ ?_
          rw [hx]
          go_wp2_with fail
          go_ret
          exact ⟨by rw [hr.out]; rfl, HW.out.alloc HS.out _⟩
      · have ht := Lib.hid t
        have u0 := (inr_yes t).1
        have u1 := (inr_yes t).2
        clear t
        go_wp2_with fail
        rename_i hK
        refine hK _ _ ?_
        rw [hx]
        go_wp2_with fail
        go_roundw
        case rel => exact ⟨4, by omega, by go_num, HW.out.alloc HS.out _, by have := HP.out; simp [this, ht.out]⟩
        case measure => simp [intOf]
    | 4, _ =>
      have hx : (#[.int .i64 m, .int .i64 255, .int .i64 k, .int .i64 15, .int .i64 c, .int .i64 65535, .int .i64 i, .int .i64 3, .int .i64 q, .int .i64 3, .int .i64 g, .int .i64 15, .int .i64 a, .int .i64 16777215] : Array Value).extract (Int.toNat 4 * Try.prog.types[86].size) (Int.toNat 4 * Try.prog.types[86].size + Try.prog.types[86].size) = #[.int .i64 q, .int .i64 3] := by rw [sz_limit]; rfl
      have hp : inr m 255 = true ∧ inr k 15 = true ∧ inr c 65535 = true ∧ inr i 3 = true := by first | trivial | simpa using hall
      have HP := Lib.hid hp
      clear hall hp
      cases t : inr q 3
      · have hr := Lib.hid (show pok m k c i q g a = false from by simp [pok, t])
        have u := inr_no t
        clear t
        by_cases u0 : 0 ≤ q
        · have u1 : ¬ q ≤ 3 := by omega
          clear u
          go_wp2_with fail
          rename_i hK
          refine hK _ _ ?_
          rw [hx]
          go_wp2_with fail
          go_ret
          exact ⟨by rw [hr.out]; rfl, HW.out.alloc HS.out _⟩
        · clear u
          go_wp2_with fail
          rename_i hK
          refine hK _ _ ?_
          rw [hx]
          go_wp2_with fail
          go_ret
          exact ⟨by rw [hr.out]; rfl, HW.out.alloc HS.out _⟩
      · have ht := Lib.hid t
        have u0 := (inr_yes t).1
        have u1 := (inr_yes t).2
        clear t
        go_wp2_with fail
        rename_i hK
        refine hK _ _ ?_
        rw [hx]
        go_wp2_with fail
        go_roundw
        case rel => exact ⟨5, by omega, by go_num, HW.out.alloc HS.out _, by have := HP.out; simp [this, ht.out]⟩
        case measure => simp [intOf]
    | 5, _ =>
      have hx : (#[.int .i64 m, .int .i64 255, .int .i64 k, .int .i64 15, .int .i64 c, .int .i64 65535, .int .i64 i, .int .i64 3, .int .i64 q, .int .i64 3, .int .i64 g, .int .i64 15, .int .i64 a, .int .i64 16777215] : Array Value).extract (Int.toNat 5 * Try.prog.types[86].size) (Int.toNat 5 * Try.prog.types[86].size + Try.prog.types[86].size) = #[.int .i64 g, .int .i64 15] := by rw [sz_limit]; rfl
      have hp : inr m 255 = true ∧ inr k 15 = true ∧ inr c 65535 = true ∧ inr i 3 = true ∧ inr q 3 = true := by first | trivial | simpa using hall
      have HP := Lib.hid hp
      clear hall hp
      cases t : inr g 15
      · have hr := Lib.hid (show pok m k c i q g a = false from by simp [pok, t])
        have u := inr_no t
        clear t
        by_cases u0 : 0 ≤ g
        · have u1 : ¬ g ≤ 15 := by omega
          clear u
          go_wp2_with fail
          rename_i hK
          refine hK _ _ ?_
          rw [hx]
          go_wp2_with fail
          go_ret
          exact ⟨by rw [hr.out]; rfl, HW.out.alloc HS.out _⟩
        · clear u
          go_wp2_with fail
          rename_i hK
          refine hK _ _ ?_
          rw [hx]
          go_wp2_with fail
          go_ret
          exact ⟨by rw [hr.out]; rfl, HW.out.alloc HS.out _⟩
      · have ht := Lib.hid t
        have u0 := (inr_yes t).1
        have u1 := (inr_yes t).2
        clear t
        go_wp2_with fail
        rename_i hK
        refine hK _ _ ?_
        rw [hx]
        go_wp2_with fail
        go_roundw
        case rel => exact ⟨6, by omega, by go_num, HW.out.alloc HS.out _, by have := HP.out; simp [this, ht.out]⟩
        case measure => simp [intOf]
    | 6, _ =>
      have hx : (#[.int .i64 m, .int .i64 255, .int .i64 k, .int .i64 15, .int .i64 c, .int .i64 65535, .int .i64 i, .int .i64 3, .int .i64 q, .int .i64 3, .int .i64 g, .int .i64 15, .int .i64 a, .int .i64 16777215] : Array Value).extract (Int.toNat 6 * Try.prog.types[86].size) (Int.toNat 6 * Try.prog.types[86].size + Try.prog.types[86].size) = #[.int .i64 a, .int .i64 16777215] := by rw [sz_limit]; rfl
      have hp : inr m 255 = true ∧ inr k 15 = true ∧ inr c 65535 = true ∧ inr i 3 = true ∧ inr q 3 = true ∧ inr g 15 = true := by first | trivial | simpa using hall
      have HP := Lib.hid hp
      clear hall hp
      cases t : inr a 16777215
      · have hr := Lib.hid (show pok m k c i q g a = false from by simp [pok, t])
        have u := inr_no t
        clear t
        by_cases u0 : 0 ≤ a
        · have u1 : ¬ a ≤ 16777215 := by omega
          clear u
          go_wp2_with fail
          rename_i hK
          refine hK _ _ ?_
          rw [hx]
          go_wp2_with fail
          go_ret
          exact ⟨by rw [hr.out]; rfl, HW.out.alloc HS.out _⟩
        · clear u
          go_wp2_with fail
          rename_i hK
          refine hK _ _ ?_
          rw [hx]
          go_wp2_with fail
          go_ret
          exact ⟨by rw [hr.out]; rfl, HW.out.alloc HS.out _⟩
      · have ht := Lib.hid t
        have u0 := (inr_yes t).1
        have u1 := (inr_yes t).2
        clear t
        go_wp2_with fail
        rename_i hK
        refine hK _ _ ?_
        rw [hx]
        go_wp2_with fail
        go_roundw
        case rel => exact ⟨7, by omega, by go_num, HW.out.alloc HS.out _, by have := HP.out; simp [this, ht.out]⟩
        case measure => simp [intOf]
    | 7, _ =>
      have hr := Lib.hid (show pok m k c i q g a = true from by simpa [pok] using hall)
      clear hall
      go_wp2_with fail
      go_ret
      exact ⟨by rw [hr.out]; rfl, HW.out⟩

end Go.Proofs.Ythjdjbipfdigeaa
