/- CONTRACTS of package jobshoplaw07: one, calls. No conditions but that the storage reads as one. -/
import Derived.Test.YtcollddpfahaaaaSt14
import Derived.Test.YtcollddpfahaaaaSt12
import Derived.Deep.RegionHeld3
import Derived.Test.YtcollddpfahaaaaSt10
import Derived.Lib.Hide
import Derived.Outline
import Derived.Handy
import Derived.BigQuiet
import Derived.Deep.QuietTactic
namespace Go.Proofs.Ytcollddpfahaaaa
open Go.RowKit
set_option linter.unusedVariables false
set_option linter.unusedSimpArgs false

theorem byt_lt {w : World} {A : Option Addr} {len : Nat} {ys : List Int} (h : Byt w A len ys) (h0 : 0 < len) (x : Addr) (hx : A = some x) : x.block < w.heap.size := by
  obtain ⟨b, off, hA, hc⟩ := h.2.2 h0
  rw [hx] at hA
  injection hA with hA
  subst hA
  exact World.block_lt_of_cell? w _ (hc 0 h0)

set_option maxRecDepth 100000 in
set_option maxHeartbeats 4000000 in
theorem one_0 {R : World → Prop} {F F' : Foot} {bs ks : List Int} (a0 w : World) (h : Tw R a0 w F F' bs ks bs ks) (kind addr n key : Int) (A : Option Addr) (len cap : Nat) (ys : List Int) (hy : Byt a0 A len ys) (hl : (len : Int) ≤ (cap : Int)) (hc : (cap : Int) ≤ 9223372036854775807) (hk : kind.tmod 6 = 0) : Calls Try.prog 13 #[.pointer (some ⟨F.g, 0, none⟩), .pointer (some ⟨F'.g, 0, none⟩), .agg #[.int .u8 kind, .int .i64 addr, .int .i64 n, .int .i64 key, .slice A len cap]] w fun e w' => e = .returned (.bool true) ∧ ∃ bs1 ks1, Tw R a0 w' F F' bs1 ks1 bs1 ks1 := by
  have TW := h.alloc (.cells #[.int .u8 kind, .int .i64 addr, .int .i64 n, .int .i64 key, .slice A len cap] 31)
  have FAR := Lib.hid (h.far (x := w.heap.size) (.inr (Nat.le_refl _)))
  have HY := Lib.hid hy
  clear h hy
  go_enter Try.func13, Try.ntmps13
  go_wp2
  have BX0 : Bx (w.alloc (.cells #[.int .u8 kind, .int .i64 addr, .int .i64 n, .int .i64 key, .slice A len cap] 31)).drew w.heap.size kind addr n key (.slice A len cap) := by
    unfold Bx; refine ⟨?_, ?_, ?_, ?_, ?_⟩ <;> simp
  replace TW := TW.drewN 1
  obtain ⟨len', hlen⟩ : ∃ l, min len 5000 = l := ⟨_, rfl⟩
  have ly := Lib.hid (show len' ≤ len by omega)
  have HL := Lib.hid hlen
  clear hlen
  obtain ⟨cd, hcd⟩ : ∃ c, sCode (alP key) bs.length ks addr (len' : Int) = c := ⟨_, rfl⟩
  have CD := Lib.hid hcd
  have ecd : (cd == cd) = true := by simp
  clear hcd
  refine wp_region_held_drew (S := (fun w' => w'.cell? ⟨w.heap.size, 0, none⟩ = some (.int .u8 kind) ∧ w'.cell? ⟨w.heap.size, 1, none⟩ = some (.int .i64 addr) ∧ w'.cell? ⟨w.heap.size, 2, none⟩ = some (.int .i64 n) ∧ w'.cell? ⟨w.heap.size, 3, none⟩ = some (.int .i64 key) ∧ w'.cell? ⟨w.heap.size, 4, none⟩ = some (.slice A len cap))) (by kernel_rfl) ?_ (fun hHeld => ?_)
  · (try dsimp only); exact BX0
  refine' takeL (i := 0) (v := _) rfl (by kernel_rfl) (by kernel_rfl) (by kernel_rfl) (fun _ _ _ h => h) (Or.inl ⟨by rfl, ?yy1⟩) (by assumption) ?rr1
  case yy1 => intro w hSw; (try dsimp only at hSw); go_simp; (try with_reducible rfl)
  try simp only [Act.put, List.setIfInBounds_toArray, List.set_cons_zero, List.set_cons_succ]
  refine' takeL (i := 1) (v := _) rfl (by kernel_rfl) (by kernel_rfl) (by kernel_rfl) (fun _ _ _ h => h) (Or.inl ⟨by rfl, ?yy2⟩) (by assumption) ?rr2
  case yy2 => intro w hSw; (try dsimp only at hSw); go_simp; (try with_reducible rfl)
  try simp only [Act.put, List.setIfInBounds_toArray, List.set_cons_zero, List.set_cons_succ]
  refine' takeL (i := 2) (v := _) rfl (by kernel_rfl) (by kernel_rfl) (by kernel_rfl) (fun _ _ _ h => h) (Or.inl ⟨by rfl, ?yy3⟩) (by assumption) ?rr3
  case yy3 => intro w hSw; (try dsimp only at hSw); go_simp; (try with_reducible rfl)
  try simp only [Act.put, List.setIfInBounds_toArray, List.set_cons_zero, List.set_cons_succ]
  refine' takeL (i := 3) (v := _) rfl (by kernel_rfl) (by kernel_rfl) (by kernel_rfl) (fun _ _ _ h => h) (Or.inl ⟨by rfl, ?yy4⟩) (by assumption) ?rr4
  case yy4 => intro w hSw; (try dsimp only at hSw); go_simp; (try with_reducible rfl)
  try simp only [Act.put, List.setIfInBounds_toArray, List.set_cons_zero, List.set_cons_succ]
  refine' takeL (i := 5) (v := _) rfl (by kernel_rfl) (by kernel_rfl) (by kernel_rfl) (fun _ _ _ h => h) (Or.inl ⟨by rfl, ?yy5⟩) (by assumption) ?rr5
  case yy5 => intro w hSw; (try dsimp only at hSw); go_simp; (try with_reducible rfl)
  try simp only [Act.put, List.setIfInBounds_toArray, List.set_cons_zero, List.set_cons_succ]
  refine' takeL (i := 6) (v := _) rfl (by kernel_rfl) (by kernel_rfl) (by kernel_rfl) (fun _ _ _ h => h) (Or.inl ⟨by rfl, ?yy6⟩) (by assumption) ?rr6
  case yy6 => intro w hSw; (try dsimp only at hSw); go_simp; (try with_reducible rfl)
  try simp only [Act.put, List.setIfInBounds_toArray, List.set_cons_zero, List.set_cons_succ]
  refine' takeL (i := 8) (v := _) rfl (by kernel_rfl) (by kernel_rfl) (by kernel_rfl) (fun _ _ _ h => h) (Or.inl ⟨by rfl, ?yy7⟩) (by assumption) ?rr7
  case yy7 => intro w hSw; (try dsimp only at hSw); go_simp; (try with_reducible rfl)
  try simp only [Act.put, List.setIfInBounds_toArray, List.set_cons_zero, List.set_cons_succ]
  refine' takeL (i := 9) (v := _) rfl (by kernel_rfl) (by kernel_rfl) (by kernel_rfl) (fun _ _ _ h => h) (Or.inl ⟨by rfl, ?yy8⟩) (by assumption) ?rr8
  case yy8 => intro w hSw; (try dsimp only at hSw); go_simp; (try with_reducible rfl)
  try simp only [Act.put, List.setIfInBounds_toArray, List.set_cons_zero, List.set_cons_succ]
  refine' takeL (i := 10) (v := _) rfl (by kernel_rfl) (by kernel_rfl) (by kernel_rfl) (fun _ _ _ h => h) (Or.inl ⟨by rfl, ?yy9⟩) (by assumption) ?rr9
  case yy9 => intro w hSw; (try dsimp only at hSw); go_simp; (try with_reducible rfl)
  try simp only [Act.put, List.setIfInBounds_toArray, List.set_cons_zero, List.set_cons_succ]
  refine' takeL (i := 11) (v := _) rfl (by kernel_rfl) (by kernel_rfl) (by kernel_rfl) (fun _ _ _ h => h) (Or.inl ⟨by rfl, ?yy10⟩) (by assumption) ?rr10
  case yy10 => intro w hSw; (try dsimp only at hSw); go_simp; (try with_reducible rfl)
  try simp only [Act.put, List.setIfInBounds_toArray, List.set_cons_zero, List.set_cons_succ]
  refine' takeL (i := 13) (v := _) rfl (by kernel_rfl) (by kernel_rfl) (by kernel_rfl) (fun _ _ _ h => h) (Or.inl ⟨by rfl, ?yy11⟩) (by assumption) ?rr11
  case yy11 => intro w hSw; (try dsimp only at hSw); go_simp; (try with_reducible rfl)
  try simp only [Act.put, List.setIfInBounds_toArray, List.set_cons_zero, List.set_cons_succ]
  refine' takeL (i := 14) (v := _) rfl (by kernel_rfl) (by kernel_rfl) (by kernel_rfl) (fun _ _ _ h => h) (Or.inl ⟨by rfl, ?yy12⟩) (by assumption) ?rr12
  case yy12 => intro w hSw; (try dsimp only at hSw); go_simp; (try with_reducible rfl)
  try simp only [Act.put, List.setIfInBounds_toArray, List.set_cons_zero, List.set_cons_succ]
  refine wpAnyH_ready (rs := [4]) (by kernel_rfl) (by simp) ?_
  refine consL rfl (fun K hK => ?_) AllReadyH.nil
  go_simp
  go_at_call 28
  refine (lbytes_c kind addr n key A len cap hl hc _).mono ?_
  rintro e w1 ⟨rfl, hb⟩
  rw [HL.out]
  replace TW := TW.keep hb
  have BX := Bx.keep hHeld hb
  clear hb
  go_wp2_with fail
  refine hK.out _ _ ?_ (fun hHeld => ?_)
  · (try dsimp only); exact BX
  clear hK K
  try simp only [Act.put, List.setIfInBounds_toArray, List.set_cons_zero, List.set_cons_succ]
  refine wpAnyH_ready (rs := [7]) (by kernel_rfl) (by simp) ?_
  refine consL rfl (fun K hK => ?_) AllReadyH.nil
  go_simp
  go_at_call 20
  refine (put_c _ TW.p addr key A len' cap (ys.take len') ((HY.out.keep TW.bl).pre len' ly.out) (by have := ly.out; omega)).mono ?_
  rintro e w2 ⟨rfl, hs, hg⟩
  rw [CD.out]
  replace TW := TW.pb hs hg
  have BX := Bx.grown hHeld hg FAR.out.1
  clear hs hg
  go_wp2_with fail
  refine hK.out _ _ ?_ (fun hHeld => ?_)
  · (try dsimp only); exact BX
  clear hK K
  try simp only [Act.put, List.setIfInBounds_toArray, List.set_cons_zero, List.set_cons_succ]
  refine wpAnyH_ready (rs := [12]) (by kernel_rfl) (by simp) ?_
  refine consL rfl (fun K hK => ?_) AllReadyH.nil
  go_simp
  go_at_call 28
  refine (lbytes_c kind addr n key A len cap hl hc _).mono ?_
  rintro e w3 ⟨rfl, hb⟩
  rw [HL.out]
  replace TW := TW.keep hb
  have BX := Bx.keep hHeld hb
  clear hb
  go_wp2_with fail
  refine hK.out _ _ ?_ (fun hHeld => ?_)
  · (try dsimp only); exact BX
  clear hK K
  try simp only [Act.put, List.setIfInBounds_toArray, List.set_cons_zero, List.set_cons_succ]
  refine wpAnyH_ready (rs := [15]) (by kernel_rfl) (by simp) ?_
  refine consL rfl (fun K hK => ?_) AllReadyH.nil
  go_simp
  go_at_call 29
  refine (rput_c _ TW.r addr key A len' cap (ys.take len') ((HY.out.keep TW.bl).pre len' ly.out) (by have := ly.out; omega) (fun h0 x hx => Nat.ne_of_lt (Nat.lt_of_lt_of_le (byt_lt HY.out (by have := ly.out; omega) x hx) TW.fb'))).mono ?_
  rintro e w4 ⟨rfl, hs, hg⟩
  rw [CD.out]
  replace TW := TW.rb hs hg
  have BX := Bx.grown hHeld hg FAR.out.2.2.1
  clear hs hg
  go_wp2_with fail
  refine hK.out _ _ ?_ (fun hHeld => ?_)
  · (try dsimp only); exact BX
  clear hK K
  try simp only [Act.put, List.setIfInBounds_toArray, List.set_cons_zero, List.set_cons_succ]
  refine' takeL (i := 16) (v := _) rfl (by kernel_rfl) (by kernel_rfl) (by kernel_rfl) (fun _ _ _ h => h) (Or.inl ⟨by rfl, ?yy13⟩) (by assumption) ?rr13
  case yy13 => intro w hSw; (try dsimp only at hSw); go_simp; (try with_reducible rfl)
  try simp only [Act.put, List.setIfInBounds_toArray, List.set_cons_zero, List.set_cons_succ]
  refine' takeL (i := 17) (v := _) rfl (by kernel_rfl) (by kernel_rfl) (by kernel_rfl) (fun _ _ _ h => h) (Or.inl ⟨by rfl, ?yy14⟩) (by assumption) ?rr14
  case yy14 => intro w hSw; (try dsimp only at hSw); go_simp; (try with_reducible rfl)
  try simp only [Act.put, List.setIfInBounds_toArray, List.set_cons_zero, List.set_cons_succ]
  refine wpAnyH_done (by kernel_rfl) ?_ _
  go_wp2
  go_ret
  exact ⟨rfl, _, _, TW⟩

set_option maxRecDepth 100000 in
set_option maxHeartbeats 4000000 in
theorem one_2 {R : World → Prop} {F F' : Foot} {bs ks : List Int} (a0 w : World) (h : Tw R a0 w F F' bs ks bs ks) (kind addr n key : Int) (A : Option Addr) (len cap : Nat) (ys : List Int) (hy : Byt a0 A len ys) (hl : (len : Int) ≤ (cap : Int)) (hc : (cap : Int) ≤ 9223372036854775807) (hk : kind.tmod 6 = 2) : Calls Try.prog 13 #[.pointer (some ⟨F.g, 0, none⟩), .pointer (some ⟨F'.g, 0, none⟩), .agg #[.int .u8 kind, .int .i64 addr, .int .i64 n, .int .i64 key, .slice A len cap]] w fun e w' => e = .returned (.bool true) ∧ ∃ bs1 ks1, Tw R a0 w' F F' bs1 ks1 bs1 ks1 := by
  have TW := h.alloc (.cells #[.int .u8 kind, .int .i64 addr, .int .i64 n, .int .i64 key, .slice A len cap] 31)
  have FAR := Lib.hid (h.far (x := w.heap.size) (.inr (Nat.le_refl _)))
  have HY := Lib.hid hy
  clear h hy
  go_enter Try.func13, Try.ntmps13
  go_wp2
  have BX0 : Bx (w.alloc (.cells #[.int .u8 kind, .int .i64 addr, .int .i64 n, .int .i64 key, .slice A len cap] 31)).drew w.heap.size kind addr n key (.slice A len cap) := by
    unfold Bx; refine ⟨?_, ?_, ?_, ?_, ?_⟩ <;> simp
  replace TW := TW.drewN 1
  obtain ⟨len', hlen⟩ : ∃ l, min len 5000 = l := ⟨_, rfl⟩
  have ly := Lib.hid (show len' ≤ len by omega)
  have HL := Lib.hid hlen
  clear hlen
  obtain ⟨cd, hcd⟩ : ∃ c, (sAt bs.length addr && sKey key) = c := ⟨_, rfl⟩
  have CD := Lib.hid hcd
  have ecd : (cd == cd) = true := by simp
  clear hcd
  refine wp_region_held_drew (S := (fun w' => w'.cell? ⟨w.heap.size, 0, none⟩ = some (.int .u8 kind) ∧ w'.cell? ⟨w.heap.size, 1, none⟩ = some (.int .i64 addr) ∧ w'.cell? ⟨w.heap.size, 2, none⟩ = some (.int .i64 n) ∧ w'.cell? ⟨w.heap.size, 3, none⟩ = some (.int .i64 key) ∧ w'.cell? ⟨w.heap.size, 4, none⟩ = some (.slice A len cap))) (by kernel_rfl) ?_ (fun hHeld => ?_)
  · (try dsimp only); exact BX0
  refine' takeL (i := 0) (v := _) rfl (by kernel_rfl) (by kernel_rfl) (by kernel_rfl) (fun _ _ _ h => h) (Or.inl ⟨by rfl, ?yy15⟩) (by assumption) ?rr15
  case yy15 => intro w hSw; (try dsimp only at hSw); go_simp; (try with_reducible rfl)
  try simp only [Act.put, List.setIfInBounds_toArray, List.set_cons_zero, List.set_cons_succ]
  refine' takeL (i := 1) (v := _) rfl (by kernel_rfl) (by kernel_rfl) (by kernel_rfl) (fun _ _ _ h => h) (Or.inl ⟨by rfl, ?yy16⟩) (by assumption) ?rr16
  case yy16 => intro w hSw; (try dsimp only at hSw); go_simp; (try with_reducible rfl)
  try simp only [Act.put, List.setIfInBounds_toArray, List.set_cons_zero, List.set_cons_succ]
  refine' takeL (i := 2) (v := _) rfl (by kernel_rfl) (by kernel_rfl) (by kernel_rfl) (fun _ _ _ h => h) (Or.inl ⟨by rfl, ?yy17⟩) (by assumption) ?rr17
  case yy17 => intro w hSw; (try dsimp only at hSw); go_simp; (try with_reducible rfl)
  try simp only [Act.put, List.setIfInBounds_toArray, List.set_cons_zero, List.set_cons_succ]
  refine' takeL (i := 3) (v := _) rfl (by kernel_rfl) (by kernel_rfl) (by kernel_rfl) (fun _ _ _ h => h) (Or.inl ⟨by rfl, ?yy18⟩) (by assumption) ?rr18
  case yy18 => intro w hSw; (try dsimp only at hSw); go_simp; (try with_reducible rfl)
  try simp only [Act.put, List.setIfInBounds_toArray, List.set_cons_zero, List.set_cons_succ]
  refine' takeL (i := 4) (v := _) rfl (by kernel_rfl) (by kernel_rfl) (by kernel_rfl) (fun _ _ _ h => h) (Or.inl ⟨by rfl, ?yy19⟩) (by assumption) ?rr19
  case yy19 => intro w hSw; (try dsimp only at hSw); go_simp; (try with_reducible rfl)
  try simp only [Act.put, List.setIfInBounds_toArray, List.set_cons_zero, List.set_cons_succ]
  refine' takeL (i := 6) (v := _) rfl (by kernel_rfl) (by kernel_rfl) (by kernel_rfl) (fun _ _ _ h => h) (Or.inl ⟨by rfl, ?yy20⟩) (by assumption) ?rr20
  case yy20 => intro w hSw; (try dsimp only at hSw); go_simp; (try with_reducible rfl)
  try simp only [Act.put, List.setIfInBounds_toArray, List.set_cons_zero, List.set_cons_succ]
  refine' takeL (i := 7) (v := _) rfl (by kernel_rfl) (by kernel_rfl) (by kernel_rfl) (fun _ _ _ h => h) (Or.inl ⟨by rfl, ?yy21⟩) (by assumption) ?rr21
  case yy21 => intro w hSw; (try dsimp only at hSw); go_simp; (try with_reducible rfl)
  try simp only [Act.put, List.setIfInBounds_toArray, List.set_cons_zero, List.set_cons_succ]
  refine' takeL (i := 8) (v := _) rfl (by kernel_rfl) (by kernel_rfl) (by kernel_rfl) (fun _ _ _ h => h) (Or.inl ⟨by rfl, ?yy22⟩) (by assumption) ?rr22
  case yy22 => intro w hSw; (try dsimp only at hSw); go_simp; (try with_reducible rfl)
  try simp only [Act.put, List.setIfInBounds_toArray, List.set_cons_zero, List.set_cons_succ]
  refine' takeL (i := 9) (v := _) rfl (by kernel_rfl) (by kernel_rfl) (by kernel_rfl) (fun _ _ _ h => h) (Or.inl ⟨by rfl, ?yy23⟩) (by assumption) ?rr23
  case yy23 => intro w hSw; (try dsimp only at hSw); go_simp; (try with_reducible rfl)
  try simp only [Act.put, List.setIfInBounds_toArray, List.set_cons_zero, List.set_cons_succ]
  refine' takeL (i := 10) (v := _) rfl (by kernel_rfl) (by kernel_rfl) (by kernel_rfl) (fun _ _ _ h => h) (Or.inl ⟨by rfl, ?yy24⟩) (by assumption) ?rr24
  case yy24 => intro w hSw; (try dsimp only at hSw); go_simp; (try with_reducible rfl)
  try simp only [Act.put, List.setIfInBounds_toArray, List.set_cons_zero, List.set_cons_succ]
  refine wpAnyH_ready (rs := [5]) (by kernel_rfl) (by simp) ?_
  refine consL rfl (fun K hK => ?_) AllReadyH.nil
  go_simp
  go_at_call 17
  refine (setkey_c _ TW.p addr key).mono ?_
  rintro e w1 ⟨rfl, hs, hg⟩
  rw [CD.out]
  replace TW := TW.pk hs hg
  have BX := Bx.grown hHeld hg FAR.out.2.1
  clear hs hg
  go_wp2_with fail
  refine hK.out _ _ ?_ (fun hHeld => ?_)
  · (try dsimp only); exact BX
  clear hK K
  try simp only [Act.put, List.setIfInBounds_toArray, List.set_cons_zero, List.set_cons_succ]
  refine wpAnyH_ready (rs := [11]) (by kernel_rfl) (by simp) ?_
  refine consL rfl (fun K hK => ?_) AllReadyH.nil
  go_simp
  go_at_call 31
  refine (rsetkey_c _ TW.r addr key).mono ?_
  rintro e w2 ⟨rfl, hs, hg⟩
  rw [CD.out]
  replace TW := TW.rk hs hg
  have BX := Bx.grown hHeld hg FAR.out.2.2.2
  clear hs hg
  go_wp2_with fail
  refine hK.out _ _ ?_ (fun hHeld => ?_)
  · (try dsimp only); exact BX
  clear hK K
  try simp only [Act.put, List.setIfInBounds_toArray, List.set_cons_zero, List.set_cons_succ]
  refine' takeL (i := 12) (v := _) rfl (by kernel_rfl) (by kernel_rfl) (by kernel_rfl) (fun _ _ _ h => h) (Or.inl ⟨by rfl, ?yy25⟩) (by assumption) ?rr25
  case yy25 => intro w hSw; (try dsimp only at hSw); go_simp; (try with_reducible rfl)
  try simp only [Act.put, List.setIfInBounds_toArray, List.set_cons_zero, List.set_cons_succ]
  refine' takeL (i := 13) (v := _) rfl (by kernel_rfl) (by kernel_rfl) (by kernel_rfl) (fun _ _ _ h => h) (Or.inl ⟨by rfl, ?yy26⟩) (by assumption) ?rr26
  case yy26 => intro w hSw; (try dsimp only at hSw); go_simp; (try with_reducible rfl)
  try simp only [Act.put, List.setIfInBounds_toArray, List.set_cons_zero, List.set_cons_succ]
  refine wpAnyH_done (by kernel_rfl) ?_ _
  go_wp2
  go_ret
  exact ⟨rfl, _, _, TW⟩

set_option maxRecDepth 100000 in
set_option maxHeartbeats 4000000 in
theorem one_5 {R : World → Prop} {F F' : Foot} {bs ks : List Int} (a0 w : World) (h : Tw R a0 w F F' bs ks bs ks) (kind addr n key : Int) (A : Option Addr) (len cap : Nat) (ys : List Int) (hy : Byt a0 A len ys) (hl : (len : Int) ≤ (cap : Int)) (hc : (cap : Int) ≤ 9223372036854775807) (hk : kind.tmod 6 = 5) : Calls Try.prog 13 #[.pointer (some ⟨F.g, 0, none⟩), .pointer (some ⟨F'.g, 0, none⟩), .agg #[.int .u8 kind, .int .i64 addr, .int .i64 n, .int .i64 key, .slice A len cap]] w fun e w' => e = .returned (.bool true) ∧ ∃ bs1 ks1, Tw R a0 w' F F' bs1 ks1 bs1 ks1 := by
  have TW := h.alloc (.cells #[.int .u8 kind, .int .i64 addr, .int .i64 n, .int .i64 key, .slice A len cap] 31)
  have FAR := Lib.hid (h.far (x := w.heap.size) (.inr (Nat.le_refl _)))
  have HY := Lib.hid hy
  clear h hy
  go_enter Try.func13, Try.ntmps13
  go_wp2
  have BX0 : Bx (w.alloc (.cells #[.int .u8 kind, .int .i64 addr, .int .i64 n, .int .i64 key, .slice A len cap] 31)).drew w.heap.size kind addr n key (.slice A len cap) := by
    unfold Bx; refine ⟨?_, ?_, ?_, ?_, ?_⟩ <;> simp
  replace TW := TW.drewN 1
  obtain ⟨len', hlen⟩ : ∃ l, min len 5000 = l := ⟨_, rfl⟩
  have ly := Lib.hid (show len' ≤ len by omega)
  have HL := Lib.hid hlen
  clear hlen
  obtain ⟨cd, hcd⟩ : ∃ c, sIn bs.length addr n = c := ⟨_, rfl⟩
  have CD := Lib.hid hcd
  have ecd : (cd == cd) = true := by simp
  clear hcd
  refine wp_region_held_drew (S := (fun w' => w'.cell? ⟨w.heap.size, 0, none⟩ = some (.int .u8 kind) ∧ w'.cell? ⟨w.heap.size, 1, none⟩ = some (.int .i64 addr) ∧ w'.cell? ⟨w.heap.size, 2, none⟩ = some (.int .i64 n) ∧ w'.cell? ⟨w.heap.size, 3, none⟩ = some (.int .i64 key) ∧ w'.cell? ⟨w.heap.size, 4, none⟩ = some (.slice A len cap))) (by kernel_rfl) ?_ (fun hHeld => ?_)
  · (try dsimp only); exact BX0
  refine' takeL (i := 0) (v := _) rfl (by kernel_rfl) (by kernel_rfl) (by kernel_rfl) (fun _ _ _ h => h) (Or.inl ⟨by rfl, ?yy27⟩) (by assumption) ?rr27
  case yy27 => intro w hSw; (try dsimp only at hSw); go_simp; (try with_reducible rfl)
  try simp only [Act.put, List.setIfInBounds_toArray, List.set_cons_zero, List.set_cons_succ]
  refine' takeL (i := 1) (v := _) rfl (by kernel_rfl) (by kernel_rfl) (by kernel_rfl) (fun _ _ _ h => h) (Or.inl ⟨by rfl, ?yy28⟩) (by assumption) ?rr28
  case yy28 => intro w hSw; (try dsimp only at hSw); go_simp; (try with_reducible rfl)
  try simp only [Act.put, List.setIfInBounds_toArray, List.set_cons_zero, List.set_cons_succ]
  refine' takeL (i := 2) (v := _) rfl (by kernel_rfl) (by kernel_rfl) (by kernel_rfl) (fun _ _ _ h => h) (Or.inl ⟨by rfl, ?yy29⟩) (by assumption) ?rr29
  case yy29 => intro w hSw; (try dsimp only at hSw); go_simp; (try with_reducible rfl)
  try simp only [Act.put, List.setIfInBounds_toArray, List.set_cons_zero, List.set_cons_succ]
  refine' takeL (i := 3) (v := _) rfl (by kernel_rfl) (by kernel_rfl) (by kernel_rfl) (fun _ _ _ h => h) (Or.inl ⟨by rfl, ?yy30⟩) (by assumption) ?rr30
  case yy30 => intro w hSw; (try dsimp only at hSw); go_simp; (try with_reducible rfl)
  try simp only [Act.put, List.setIfInBounds_toArray, List.set_cons_zero, List.set_cons_succ]
  refine' takeL (i := 4) (v := _) rfl (by kernel_rfl) (by kernel_rfl) (by kernel_rfl) (fun _ _ _ h => h) (Or.inl ⟨by rfl, ?yy31⟩) (by assumption) ?rr31
  case yy31 => intro w hSw; (try dsimp only at hSw); go_simp; (try with_reducible rfl)
  try simp only [Act.put, List.setIfInBounds_toArray, List.set_cons_zero, List.set_cons_succ]
  refine' takeL (i := 6) (v := _) rfl (by kernel_rfl) (by kernel_rfl) (by kernel_rfl) (fun _ _ _ h => h) (Or.inl ⟨by rfl, ?yy32⟩) (by assumption) ?rr32
  case yy32 => intro w hSw; (try dsimp only at hSw); go_simp; (try with_reducible rfl)
  try simp only [Act.put, List.setIfInBounds_toArray, List.set_cons_zero, List.set_cons_succ]
  refine' takeL (i := 7) (v := _) rfl (by kernel_rfl) (by kernel_rfl) (by kernel_rfl) (fun _ _ _ h => h) (Or.inl ⟨by rfl, ?yy33⟩) (by assumption) ?rr33
  case yy33 => intro w hSw; (try dsimp only at hSw); go_simp; (try with_reducible rfl)
  try simp only [Act.put, List.setIfInBounds_toArray, List.set_cons_zero, List.set_cons_succ]
  refine' takeL (i := 8) (v := _) rfl (by kernel_rfl) (by kernel_rfl) (by kernel_rfl) (fun _ _ _ h => h) (Or.inl ⟨by rfl, ?yy34⟩) (by assumption) ?rr34
  case yy34 => intro w hSw; (try dsimp only at hSw); go_simp; (try with_reducible rfl)
  try simp only [Act.put, List.setIfInBounds_toArray, List.set_cons_zero, List.set_cons_succ]
  refine' takeL (i := 9) (v := _) rfl (by kernel_rfl) (by kernel_rfl) (by kernel_rfl) (fun _ _ _ h => h) (Or.inl ⟨by rfl, ?yy35⟩) (by assumption) ?rr35
  case yy35 => intro w hSw; (try dsimp only at hSw); go_simp; (try with_reducible rfl)
  try simp only [Act.put, List.setIfInBounds_toArray, List.set_cons_zero, List.set_cons_succ]
  refine' takeL (i := 10) (v := _) rfl (by kernel_rfl) (by kernel_rfl) (by kernel_rfl) (fun _ _ _ h => h) (Or.inl ⟨by rfl, ?yy36⟩) (by assumption) ?rr36
  case yy36 => intro w hSw; (try dsimp only at hSw); go_simp; (try with_reducible rfl)
  try simp only [Act.put, List.setIfInBounds_toArray, List.set_cons_zero, List.set_cons_succ]
  refine wpAnyH_ready (rs := [5]) (by kernel_rfl) (by simp) ?_
  refine consL rfl (fun K hK => ?_) AllReadyH.nil
  go_simp
  go_at_call 25
  refine (clear_c _ TW.p addr n).mono ?_
  rintro e w1 ⟨rfl, hs, hg⟩
  rw [CD.out]
  replace TW := TW.pb hs hg
  have BX := Bx.grown hHeld hg FAR.out.1
  clear hs hg
  go_wp2_with fail
  refine hK.out _ _ ?_ (fun hHeld => ?_)
  · (try dsimp only); exact BX
  clear hK K
  try simp only [Act.put, List.setIfInBounds_toArray, List.set_cons_zero, List.set_cons_succ]
  refine wpAnyH_ready (rs := [11]) (by kernel_rfl) (by simp) ?_
  refine consL rfl (fun K hK => ?_) AllReadyH.nil
  go_simp
  go_at_call 34
  refine (rclear_c _ TW.r addr n).mono ?_
  rintro e w2 ⟨rfl, hs, hg⟩
  rw [CD.out]
  replace TW := TW.rb hs hg
  have BX := Bx.grown hHeld hg FAR.out.2.2.1
  clear hs hg
  go_wp2_with fail
  refine hK.out _ _ ?_ (fun hHeld => ?_)
  · (try dsimp only); exact BX
  clear hK K
  try simp only [Act.put, List.setIfInBounds_toArray, List.set_cons_zero, List.set_cons_succ]
  refine' takeL (i := 12) (v := _) rfl (by kernel_rfl) (by kernel_rfl) (by kernel_rfl) (fun _ _ _ h => h) (Or.inl ⟨by rfl, ?yy37⟩) (by assumption) ?rr37
  case yy37 => intro w hSw; (try dsimp only at hSw); go_simp; (try with_reducible rfl)
  try simp only [Act.put, List.setIfInBounds_toArray, List.set_cons_zero, List.set_cons_succ]
  refine' takeL (i := 13) (v := _) rfl (by kernel_rfl) (by kernel_rfl) (by kernel_rfl) (fun _ _ _ h => h) (Or.inl ⟨by rfl, ?yy38⟩) (by assumption) ?rr38
  case yy38 => intro w hSw; (try dsimp only at hSw); go_simp; (try with_reducible rfl)
  try simp only [Act.put, List.setIfInBounds_toArray, List.set_cons_zero, List.set_cons_succ]
  refine wpAnyH_done (by kernel_rfl) ?_ _
  go_wp2
  go_ret
  exact ⟨rfl, _, _, TW⟩

set_option maxRecDepth 100000 in
set_option maxHeartbeats 4000000 in
theorem one_4 {R : World → Prop} {F F' : Foot} {bs ks : List Int} (a0 w : World) (h : Tw R a0 w F F' bs ks bs ks) (kind addr n key : Int) (A : Option Addr) (len cap : Nat) (ys : List Int) (hy : Byt a0 A len ys) (hl : (len : Int) ≤ (cap : Int)) (hc : (cap : Int) ≤ 9223372036854775807) (hk : kind.tmod 6 = 4) : Calls Try.prog 13 #[.pointer (some ⟨F.g, 0, none⟩), .pointer (some ⟨F'.g, 0, none⟩), .agg #[.int .u8 kind, .int .i64 addr, .int .i64 n, .int .i64 key, .slice A len cap]] w fun e w' => e = .returned (.bool true) ∧ ∃ bs1 ks1, Tw R a0 w' F F' bs1 ks1 bs1 ks1 := by
  have TW := h.alloc (.cells #[.int .u8 kind, .int .i64 addr, .int .i64 n, .int .i64 key, .slice A len cap] 31)
  have FAR := Lib.hid (h.far (x := w.heap.size) (.inr (Nat.le_refl _)))
  have HY := Lib.hid hy
  clear h hy
  go_enter Try.func13, Try.ntmps13
  go_wp2
  have BX0 : Bx (w.alloc (.cells #[.int .u8 kind, .int .i64 addr, .int .i64 n, .int .i64 key, .slice A len cap] 31)).drew w.heap.size kind addr n key (.slice A len cap) := by
    unfold Bx; refine ⟨?_, ?_, ?_, ?_, ?_⟩ <;> simp
  replace TW := TW.drewN 1
  obtain ⟨len', hlen⟩ : ∃ l, min len 5000 = l := ⟨_, rfl⟩
  have ly := Lib.hid (show len' ≤ len by omega)
  have HL := Lib.hid hlen
  clear hlen
  obtain ⟨zs, hzs⟩ : ∃ z, sGet bs addr n = z := ⟨_, rfl⟩
  have CD := Lib.hid hzs
  clear hzs
  refine wp_region_held_drew (S := (fun w' => w'.cell? ⟨w.heap.size, 0, none⟩ = some (.int .u8 kind) ∧ w'.cell? ⟨w.heap.size, 1, none⟩ = some (.int .i64 addr) ∧ w'.cell? ⟨w.heap.size, 2, none⟩ = some (.int .i64 n) ∧ w'.cell? ⟨w.heap.size, 3, none⟩ = some (.int .i64 key) ∧ w'.cell? ⟨w.heap.size, 4, none⟩ = some (.slice A len cap))) (by kernel_rfl) ?_ (fun hHeld => ?_)
  · (try dsimp only); exact BX0
  refine' takeL (i := 0) (v := _) rfl (by kernel_rfl) (by kernel_rfl) (by kernel_rfl) (fun _ _ _ h => h) (Or.inl ⟨by rfl, ?yy39⟩) (by assumption) ?rr39
  case yy39 => intro w hSw; (try dsimp only at hSw); go_simp; (try with_reducible rfl)
  try simp only [Act.put, List.setIfInBounds_toArray, List.set_cons_zero, List.set_cons_succ]
  refine' takeL (i := 1) (v := _) rfl (by kernel_rfl) (by kernel_rfl) (by kernel_rfl) (fun _ _ _ h => h) (Or.inl ⟨by rfl, ?yy40⟩) (by assumption) ?rr40
  case yy40 => intro w hSw; (try dsimp only at hSw); go_simp; (try with_reducible rfl)
  try simp only [Act.put, List.setIfInBounds_toArray, List.set_cons_zero, List.set_cons_succ]
  refine' takeL (i := 2) (v := _) rfl (by kernel_rfl) (by kernel_rfl) (by kernel_rfl) (fun _ _ _ h => h) (Or.inl ⟨by rfl, ?yy41⟩) (by assumption) ?rr41
  case yy41 => intro w hSw; (try dsimp only at hSw); go_simp; (try with_reducible rfl)
  try simp only [Act.put, List.setIfInBounds_toArray, List.set_cons_zero, List.set_cons_succ]
  refine' takeL (i := 3) (v := _) rfl (by kernel_rfl) (by kernel_rfl) (by kernel_rfl) (fun _ _ _ h => h) (Or.inl ⟨by rfl, ?yy42⟩) (by assumption) ?rr42
  case yy42 => intro w hSw; (try dsimp only at hSw); go_simp; (try with_reducible rfl)
  try simp only [Act.put, List.setIfInBounds_toArray, List.set_cons_zero, List.set_cons_succ]
  refine' takeL (i := 4) (v := _) rfl (by kernel_rfl) (by kernel_rfl) (by kernel_rfl) (fun _ _ _ h => h) (Or.inl ⟨by rfl, ?yy43⟩) (by assumption) ?rr43
  case yy43 => intro w hSw; (try dsimp only at hSw); go_simp; (try with_reducible rfl)
  try simp only [Act.put, List.setIfInBounds_toArray, List.set_cons_zero, List.set_cons_succ]
  refine' takeL (i := 7) (v := _) rfl (by kernel_rfl) (by kernel_rfl) (by kernel_rfl) (fun _ _ _ h => h) (Or.inl ⟨by rfl, ?yy44⟩) (by assumption) ?rr44
  case yy44 => intro w hSw; (try dsimp only at hSw); go_simp; (try with_reducible rfl)
  try simp only [Act.put, List.setIfInBounds_toArray, List.set_cons_zero, List.set_cons_succ]
  refine' takeL (i := 8) (v := _) rfl (by kernel_rfl) (by kernel_rfl) (by kernel_rfl) (fun _ _ _ h => h) (Or.inl ⟨by rfl, ?yy45⟩) (by assumption) ?rr45
  case yy45 => intro w hSw; (try dsimp only at hSw); go_simp; (try with_reducible rfl)
  try simp only [Act.put, List.setIfInBounds_toArray, List.set_cons_zero, List.set_cons_succ]
  refine' takeL (i := 9) (v := _) rfl (by kernel_rfl) (by kernel_rfl) (by kernel_rfl) (fun _ _ _ h => h) (Or.inl ⟨by rfl, ?yy46⟩) (by assumption) ?rr46
  case yy46 => intro w hSw; (try dsimp only at hSw); go_simp; (try with_reducible rfl)
  try simp only [Act.put, List.setIfInBounds_toArray, List.set_cons_zero, List.set_cons_succ]
  refine' takeL (i := 10) (v := _) rfl (by kernel_rfl) (by kernel_rfl) (by kernel_rfl) (fun _ _ _ h => h) (Or.inl ⟨by rfl, ?yy47⟩) (by assumption) ?rr47
  case yy47 => intro w hSw; (try dsimp only at hSw); go_simp; (try with_reducible rfl)
  try simp only [Act.put, List.setIfInBounds_toArray, List.set_cons_zero, List.set_cons_succ]
  refine' takeL (i := 11) (v := _) rfl (by kernel_rfl) (by kernel_rfl) (by kernel_rfl) (fun _ _ _ h => h) (Or.inl ⟨by rfl, ?yy48⟩) (by assumption) ?rr48
  case yy48 => intro w hSw; (try dsimp only at hSw); go_simp; (try with_reducible rfl)
  try simp only [Act.put, List.setIfInBounds_toArray, List.set_cons_zero, List.set_cons_succ]
  refine wpAnyH_ready (rs := [5]) (by kernel_rfl) (by simp) ?_
  refine consL rfl (fun K hK => ?_) AllReadyH.nil
  go_simp
  go_at_call 18
  refine (bytes_c _ TW.p addr n).mono ?_
  rintro e w1 ⟨A1, q1, c1, rfl, ho, hb⟩
  rw [CD.out] at ho
  replace TW := TW.keep hb
  have BX := Bx.keep hHeld hb
  have HOA1 := Lib.hid ho.byt
  have HBB := Lib.hid hb
  clear hb ho
  go_wp2_with fail
  refine hK.out _ _ ?_ (fun hHeld => ?_)
  · (try dsimp only); exact BX
  clear hK K
  try simp only [Act.put, List.setIfInBounds_toArray, List.set_cons_zero, List.set_cons_succ]
  refine wpAnyH_more (fun w' => (w'.cell? ⟨w.heap.size, 0, none⟩ = some (.int .u8 kind) ∧ w'.cell? ⟨w.heap.size, 1, none⟩ = some (.int .i64 addr) ∧ w'.cell? ⟨w.heap.size, 2, none⟩ = some (.int .i64 n) ∧ w'.cell? ⟨w.heap.size, 3, none⟩ = some (.int .i64 key) ∧ w'.cell? ⟨w.heap.size, 4, none⟩ = some (.slice A len cap)) ∧ Byt w' A1 q1 zs) ⟨hHeld, HOA1.out⟩ (fun _ h => h.1) (fun hHeld => ?_)
  refine' takeL (i := 6) (v := _) rfl (by kernel_rfl) (by kernel_rfl) (by kernel_rfl) (fun _ _ _ h => h) (Or.inl ⟨by rfl, ?yy49⟩) (by assumption) ?rr49
  case yy49 => intro w hSw; (try dsimp only at hSw); have k := conv_byt hSw.2 c1; go_simp; (try with_reducible rfl)
  try simp only [Act.put, List.setIfInBounds_toArray, List.set_cons_zero, List.set_cons_succ]
  refine wpAnyH_ready (rs := [12]) (by kernel_rfl) (by simp) ?_
  refine consL rfl (fun K hK => ?_) AllReadyH.nil
  go_simp
  go_at_call 33
  refine (rbytes_c _ TW.r addr n).mono ?_
  rintro e w2 ⟨A2, q2, c2, rfl, ho, hb⟩
  rw [CD.out] at ho
  replace TW := TW.keep hb
  have BX := Bx.keep hHeld.1 hb
  have HOA2 := Lib.hid ho.byt
  have HBB := Lib.hid hb
  clear hb ho
  go_wp2_with fail
  refine hK.out _ _ ?_ (fun hHeld => ?_)
  · (try dsimp only); exact ⟨BX, HOA1.out.keep HBB.out⟩
  clear hK K
  try simp only [Act.put, List.setIfInBounds_toArray, List.set_cons_zero, List.set_cons_succ]
  refine wpAnyH_more (fun w' => ((w'.cell? ⟨w.heap.size, 0, none⟩ = some (.int .u8 kind) ∧ w'.cell? ⟨w.heap.size, 1, none⟩ = some (.int .i64 addr) ∧ w'.cell? ⟨w.heap.size, 2, none⟩ = some (.int .i64 n) ∧ w'.cell? ⟨w.heap.size, 3, none⟩ = some (.int .i64 key) ∧ w'.cell? ⟨w.heap.size, 4, none⟩ = some (.slice A len cap)) ∧ Byt w' A1 q1 zs) ∧ Byt w' A2 q2 zs) ⟨hHeld, HOA2.out⟩ (fun _ h => h.1) (fun hHeld => ?_)
  refine' takeL (i := 13) (v := _) rfl (by kernel_rfl) (by kernel_rfl) (by kernel_rfl) (fun _ _ _ h => h) (Or.inl ⟨by rfl, ?yy50⟩) (by assumption) ?rr50
  case yy50 => intro w hSw; (try dsimp only at hSw); have k := conv_byt hSw.2 c2; go_simp; (try with_reducible rfl)
  try simp only [Act.put, List.setIfInBounds_toArray, List.set_cons_zero, List.set_cons_succ]
  refine' takeL (i := 14) (v := _) rfl (by kernel_rfl) (by kernel_rfl) (by kernel_rfl) (fun _ _ _ h => h) (Or.inl ⟨by rfl, ?yy51⟩) (by assumption) ?rr51
  case yy51 => intro w hSw; (try dsimp only at hSw); go_simp; (try with_reducible rfl)
  try simp only [Act.put, List.setIfInBounds_toArray, List.set_cons_zero, List.set_cons_succ]
  refine' takeL (i := 15) (v := _) rfl (by kernel_rfl) (by kernel_rfl) (by kernel_rfl) (fun _ _ _ h => h) (Or.inl ⟨by rfl, ?yy52⟩) (by assumption) ?rr52
  case yy52 => intro w hSw; (try dsimp only at hSw); go_simp; (try with_reducible rfl)
  try simp only [Act.put, List.setIfInBounds_toArray, List.set_cons_zero, List.set_cons_succ]
  refine wpAnyH_done (by kernel_rfl) ?_ _
  go_wp2
  go_ret
  exact ⟨rfl, _, _, TW⟩

set_option maxRecDepth 100000 in
set_option maxHeartbeats 4000000 in
theorem one_3 {R : World → Prop} {F F' : Foot} {bs ks : List Int} (a0 w : World) (h : Tw R a0 w F F' bs ks bs ks) (kind addr n key : Int) (A : Option Addr) (len cap : Nat) (ys : List Int) (hy : Byt a0 A len ys) (hl : (len : Int) ≤ (cap : Int)) (hc : (cap : Int) ≤ 9223372036854775807) (hk : kind.tmod 6 = 3) : Calls Try.prog 13 #[.pointer (some ⟨F.g, 0, none⟩), .pointer (some ⟨F'.g, 0, none⟩), .agg #[.int .u8 kind, .int .i64 addr, .int .i64 n, .int .i64 key, .slice A len cap]] w fun e w' => e = .returned (.bool true) ∧ ∃ bs1 ks1, Tw R a0 w' F F' bs1 ks1 bs1 ks1 := by
  have TW := h.alloc (.cells #[.int .u8 kind, .int .i64 addr, .int .i64 n, .int .i64 key, .slice A len cap] 31)
  have FAR := Lib.hid (h.far (x := w.heap.size) (.inr (Nat.le_refl _)))
  have HY := Lib.hid hy
  clear h hy
  obtain ⟨kv, hkv⟩ : ∃ c, sKV bs.length ks addr = c := ⟨_, rfl⟩
  obtain ⟨ka, hka⟩ : ∃ c, sAt bs.length addr = c := ⟨_, rfl⟩
  have HV := Lib.hid hkv
  have HA := Lib.hid hka
  have e1 : (kv == kv) = true := by simp
  have e2 : (ka == ka) = true := by simp
  clear hkv hka
  go_enter Try.func13, Try.ntmps13
  go_wp2_with (first | (go_at_call 24; refine (keyof_c _ TW.p addr).mono ?_; rintro e w1 ⟨rfl, rfl⟩; rw [HV.out, HA.out]) | (go_at_call 32; refine (rkeyof_c _ TW.r addr).mono ?_; rintro e w1 ⟨rfl, rfl⟩; rw [HV.out, HA.out]))
  go_ret
  exact ⟨rfl, _, _, TW⟩

set_option maxRecDepth 100000 in
set_option maxHeartbeats 4000000 in
theorem one_1 {R : World → Prop} {F F' : Foot} {bs ks : List Int} (a0 w : World) (h : Tw R a0 w F F' bs ks bs ks) (kind addr n key : Int) (A : Option Addr) (len cap : Nat) (ys : List Int) (hy : Byt a0 A len ys) (hl : (len : Int) ≤ (cap : Int)) (hc : (cap : Int) ≤ 9223372036854775807) (hk : kind.tmod 6 = 1) : Calls Try.prog 13 #[.pointer (some ⟨F.g, 0, none⟩), .pointer (some ⟨F'.g, 0, none⟩), .agg #[.int .u8 kind, .int .i64 addr, .int .i64 n, .int .i64 key, .slice A len cap]] w fun e w' => e = .returned (.bool true) ∧ ∃ bs1 ks1, Tw R a0 w' F F' bs1 ks1 bs1 ks1 := by
  have TW := h.alloc (.cells #[.int .u8 kind, .int .i64 addr, .int .i64 n, .int .i64 key, .slice A len cap] 31)
  have FAR := Lib.hid (h.far (x := w.heap.size) (.inr (Nat.le_refl _)))
  have HY := Lib.hid hy
  clear h hy
  have BX : Bx (w.alloc (.cells #[.int .u8 kind, .int .i64 addr, .int .i64 n, .int .i64 key, .slice A len cap] 31)) w.heap.size kind addr n key (.slice A len cap) := by
    unfold Bx; refine ⟨?_, ?_, ?_, ?_, ?_⟩ <;> simp
  obtain ⟨zs, hzs⟩ : ∃ z, sFet (alF key) bs ks addr n = z := ⟨_, rfl⟩
  obtain ⟨cd, hcd⟩ : ∃ c, sCode (alF key) bs.length ks addr n = c := ⟨_, rfl⟩
  have HZ := Lib.hid hzs
  have HC := Lib.hid hcd
  have BB := Lib.hid BX
  have e1 : (cd == cd) = true := by simp
  clear hzs hcd BX
  go_enter Try.func13, Try.ntmps13
  go_wp2_with fail
  refine (fetch_c _ TW.p addr n key).mono ?_
  rintro e w1 ⟨A1, q1, c1, rfl, ho, hb⟩
  rw [HZ.out] at ho
  rw [HC.out]
  replace TW := TW.keep hb
  obtain ⟨b0, b1, b2, b3, b4⟩ := Bx.keep BB.out hb
  have H1 := Lib.hid ho.byt
  clear ho hb
  go_wp2_with fail
  refine (rfetch_c _ TW.r addr n key).mono ?_
  rintro e w2 ⟨A2, q2, c2, rfl, ho, hb⟩
  rw [HZ.out] at ho
  rw [HC.out]
  replace TW := TW.keep hb
  have k1 := conv_byt (H1.out.keep hb) c1
  have k2 := conv_byt ho.byt c2
  clear ho hb b0 b1 b2 b3 b4
  go_wp2_with fail
  go_ret
  exact ⟨rfl, _, _, TW⟩

end Go.Proofs.Ytcollddpfahaaaa
