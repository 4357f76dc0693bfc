/- CONTRACTS of the machine's methods on storage, where nothing is refused: need, put, fetch, aligned, count; full. Conditions: the machine's form. -/
import Derived.Test.YthjdjbipfdigeaaGe11
import Derived.Test.YthjdjbipfdigeaaSt7
import Derived.Test.YthjdjbipfdigeaaRg
import Derived.BigRegion
import Derived.Deep.RegionHeld3
namespace Go.Proofs.Ythjdjbipfdigeaa
open Go.RowKit
set_option maxRecDepth 100000
set_option linter.unusedVariables false
set_option linter.unusedSimpArgs false
/-- a machine and its storage -/
structure MS (w : World) (g : Nat) (F : Foot) (is os rs : List Int) (ps : List Value) (ov : Bool) (bs ks : List Int) : Prop where
  m : Mc w g is os rs ps (.pointer (some ⟨F.g, 0, none⟩)) ov
  st : St 71 w F bs ks
  n0 : g ≠ F.g
  n1 : g ≠ F.gb
  n2 : g ≠ F.gk
section
variable {w w' : World} {g : Nat} {F : Foot} {is os rs : List Int} {ps : List Value} {ov : Bool} {bs ks : List Int}
theorem MS.keep (h : MS w g F is os rs ps ov bs ks) (hb : Below w.heap.size w w') : MS w' g F is os rs ps ov bs ks := ⟨h.m.keep hb, h.st.belowS hb, h.n0, h.n1, h.n2⟩
theorem MS.drewN (h : MS w g F is os rs ps ov bs ks) (n : Nat) : MS (w.drewN n) g F is os rs ps ov bs ks := ⟨h.m.drewN n, h.st.drewN n, h.n0, h.n1, h.n2⟩
theorem MS.ch (h : MS w g F is os rs ps ov bs ks) (hc : Ch w w' []) : MS w' g F is os rs ps ov bs ks := h.keep (hc.below (Nat.le_refl _) (by simp))
theorem MS.set_ (h : MS w g F is os rs ps ov bs ks) {is' os' rs' : List Int} {ps' : List Value} {ov' : Bool} (hm : Mc w' g is' os' rs' ps' (.pointer (some ⟨F.g, 0, none⟩)) ov') (hc : Ch w w' [g]) : MS w' g F is' os' rs' ps' ov' bs ks :=
  ⟨hm, h.st.keep (hc.kept h.st.ltg (by simp; exact fun e => h.n0 e.symm)) (hc.kept h.st.ltb (by simp; exact fun e => h.n1 e.symm)) (hc.kept h.st.ltk (by simp; exact fun e => h.n2 e.symm)), h.n0, h.n1, h.n2⟩
theorem MS.put_ (h : MS w g F is os rs ps ov bs ks) {bs' : List Int} (hs : St 71 w' F bs' ks) (hg : w.grownBy w' (some F.gb)) : MS w' g F is os rs ps ov bs' ks :=
  ⟨h.m.kept (hg.block g h.m.lt (by intro e; injection e with e; exact h.n1 e)), hs, h.n0, h.n1, h.n2⟩
theorem Ch.of_grown {b : Nat} (hg : w.grownBy w' (some b)) : Ch w w' [b] := ⟨hg.os, hg.tape, hg.output, hg.size, fun k hk hb => hg.block k hk (by intro e; injection e with e; exact hb (by simp [e]))⟩
end
set_option maxRecDepth 1000000 in
set_option maxHeartbeats 4000000 in
theorem need_ok (c : Int) (w : World) : Calls Try.prog 60 #[.bool true, .int .i64 c] w fun e w' => e = .returned (.tuple #[]) ∧ w = w' := by
  go_enter Try.func60, Try.ntmps60
  go_wp2
  go_end0
  exact ⟨rfl, rfl⟩
set_option maxRecDepth 1000000 in
set_option maxHeartbeats 4000000 in
theorem put_m (g : Nat) (F : Foot) (is os rs : List Int) (ps : List Value) (ov : Bool) (bs ks : List Int) (addr key : Int) (A : Option Addr) (len cap : Nat) (ys : List Int) (w : World) (h : MS w g F is os rs ps ov bs ks) (hk : ps.getD 1 undef = .int .i64 key) (hy : Byt w A len ys) (hl : (len : Int) ≤ 9223372036854775807) (hc : sCode (alP key) bs.length ks addr len = 0) : Calls Try.prog 65 #[.pointer (some ⟨g, 0, none⟩), .int .i64 addr, .slice A len cap] w fun e w' => e = .returned (.tuple #[]) ∧ MS w' g F is os rs ps ov (sPut (alP key) bs ks addr ys) ks ∧ Ch w w' [F.gb] := by
  have HH := Lib.hid h
  have HK := Lib.hid hk
  have PC := Lib.hid (put_c w.drew (h.st.drewN 1) addr key A len cap ys (hy.keep (below_draw w 1)) hl)
  rw [hc] at PC
  clear h hk hy hc
  go_enter Try.func65, Try.ntmps65
  go_upto_region 0 with fail
  refine wp_region_held_drew (S := (fun w' => Mc w' g is os rs ps (.pointer (some ⟨F.g, 0, none⟩)) ov)) (by kernel_rfl) ?_ (fun hHeld => ?_)
  · (try dsimp only); exact HH.out.m.drewN 1
  refine' takeL (i := 0) (v := _) rfl (by kernel_rfl) (by kernel_rfl) (by kernel_rfl) (fun _ _ _ h => h) (Or.inl ⟨by rfl, ?yy1⟩) (by assumption) ?rr1
  case yy1 => intro w hSw; (try dsimp only at hSw); go_simp; (try with_reducible rfl)
  try simp only [Act.put, List.setIfInBounds_toArray, List.set_cons_zero, List.set_cons_succ]
  refine' takeL (i := 1) (v := _) rfl (by kernel_rfl) (by kernel_rfl) (by kernel_rfl) (fun _ _ _ h => h) (Or.inl ⟨by rfl, ?yy2⟩) (by assumption) ?rr2
  case yy2 => intro w hSw; (try dsimp only at hSw); go_simp; (try with_reducible rfl)
  try simp only [Act.put, List.setIfInBounds_toArray, List.set_cons_zero, List.set_cons_succ]
  refine' takeL (i := 2) (v := _) rfl (by kernel_rfl) (by kernel_rfl) (by kernel_rfl) (fun _ _ _ h => h) (Or.inl ⟨by rfl, ?yy3⟩) (by assumption) ?rr3
  case yy3 => intro w hSw; (try dsimp only at hSw); go_simp; (try with_reducible rfl)
  try simp only [Act.put, List.setIfInBounds_toArray, List.set_cons_zero, List.set_cons_succ]
  refine' takeL (i := 3) (v := .pointer (some ⟨F.g, 0, none⟩)) rfl (by kernel_rfl) (by kernel_rfl) (by kernel_rfl) (fun _ _ _ h => h) (Or.inl ⟨by rfl, ?yy4⟩) (by assumption) ?rr4
  case yy4 => intro w hSw; (try dsimp only at hSw); have hq := hSw.cs; go_simp; (try with_reducible rfl)
  try simp only [Act.put, List.setIfInBounds_toArray, List.set_cons_zero, List.set_cons_succ]
  refine' takeL (i := 4) (v := _) rfl (by kernel_rfl) (by kernel_rfl) (by kernel_rfl) (fun _ _ _ h => h) (Or.inl ⟨by rfl, ?yy5⟩) (by assumption) ?rr5
  case yy5 => intro w hSw; (try dsimp only at hSw); go_simp; (try with_reducible rfl)
  try simp only [Act.put, List.setIfInBounds_toArray, List.set_cons_zero, List.set_cons_succ]
  refine' takeL (i := 5) (v := _) rfl (by kernel_rfl) (by kernel_rfl) (by kernel_rfl) (fun _ _ _ h => h) (Or.inl ⟨by rfl, ?yy6⟩) (by assumption) ?rr6
  case yy6 => intro w hSw; (try dsimp only at hSw); go_simp; (try with_reducible rfl)
  try simp only [Act.put, List.setIfInBounds_toArray, List.set_cons_zero, List.set_cons_succ]
  refine' takeL (i := 6) (v := _) rfl (by kernel_rfl) (by kernel_rfl) (by kernel_rfl) (fun _ _ _ h => h) (Or.inl ⟨by rfl, ?yy7⟩) (by assumption) ?rr7
  case yy7 => intro w hSw; (try dsimp only at hSw); go_simp; (try with_reducible rfl)
  try simp only [Act.put, List.setIfInBounds_toArray, List.set_cons_zero, List.set_cons_succ]
  refine' takeL (i := 7) (v := _) rfl (by kernel_rfl) (by kernel_rfl) (by kernel_rfl) (fun _ _ _ h => h) (Or.inl ⟨by rfl, ?yy8⟩) (by assumption) ?rr8
  case yy8 => intro w hSw; (try dsimp only at hSw); go_simp; (try with_reducible rfl)
  try simp only [Act.put, List.setIfInBounds_toArray, List.set_cons_zero, List.set_cons_succ]
  refine' takeL (i := 8) (v := _) rfl (by kernel_rfl) (by kernel_rfl) (by kernel_rfl) (fun _ _ _ h => h) (Or.inl ⟨by rfl, ?yy9⟩) (by assumption) ?rr9
  case yy9 => intro w hSw; (try dsimp only at hSw); go_simp; (try with_reducible rfl)
  try simp only [Act.put, List.setIfInBounds_toArray, List.set_cons_zero, List.set_cons_succ]
  refine' takeL (i := 9) (v := _) rfl (by kernel_rfl) (by kernel_rfl) (by kernel_rfl) (fun _ _ _ h => h) (Or.inl ⟨by rfl, ?yy10⟩) (by assumption) ?rr10
  case yy10 => intro w hSw; (try dsimp only at hSw); go_simp; (try with_reducible rfl)
  try simp only [Act.put, List.setIfInBounds_toArray, List.set_cons_zero, List.set_cons_succ]
  refine' takeL (i := 10) (v := .int .i64 key) rfl (by kernel_rfl) (by kernel_rfl) (by kernel_rfl) (fun _ _ _ h => h) (Or.inl ⟨by rfl, ?yy11⟩) (by assumption) ?rr11
  case yy11 => intro w hSw; (try dsimp only at hSw); have hq := hSw.cp (n := 1) (by omega); rw [HK.out] at hq; go_simp; (try with_reducible rfl)
  try simp only [Act.put, List.setIfInBounds_toArray, List.set_cons_zero, List.set_cons_succ]
  refine wpAnyH_ready (rs := [11]) (by kernel_rfl) (by simp) ?_
  refine consL rfl (fun K hK => ?_) AllReadyH.nil
  go_simp
  go_at_call 16
  refine PC.out.mono ?_
  rintro e w5 ⟨rfl, hS, hG⟩
  have M5 := Lib.hid ((HH.out.drewN 1).put_ hS hG)
  have C5 := Lib.hid (show Ch w w5 [F.gb] from ((Ch.refl w [F.gb]).drewN 1).trans (Ch.of_grown hG))
  clear hS hG hHeld
  go_wp2_with fail
  refine hK.out _ _ ?_ (fun hHeld => ?_)
  · (try dsimp only); exact M5.out.m
  clear hK K
  try simp only [Act.put, List.setIfInBounds_toArray, List.set_cons_zero, List.set_cons_succ]
  refine' takeL (i := 12) (v := _) rfl (by kernel_rfl) (by kernel_rfl) (by kernel_rfl) (fun _ _ _ h => h) (Or.inl ⟨by rfl, ?yy12⟩) (by assumption) ?rr12
  case yy12 => intro w hSw; (try dsimp only at hSw); go_simp; (try with_reducible rfl)
  try simp only [Act.put, List.setIfInBounds_toArray, List.set_cons_zero, List.set_cons_succ]
  refine wpAnyH_done (by kernel_rfl) ?_ _
  clear hHeld
  go_wp2_with (go_at_call 60; refine (need_ok _ _).mono ?_; rintro e wx ⟨rfl, hwx⟩; subst hwx)
  go_end0
  exact ⟨rfl, M5.out, C5.out⟩
set_option maxRecDepth 1000000 in
set_option maxHeartbeats 4000000 in
theorem fetch_m (g : Nat) (F : Foot) (is os rs : List Int) (ps : List Value) (ov : Bool) (bs ks : List Int) (addr n key : Int) (w : World) (h : MS w g F is os rs ps ov bs ks) (hk : ps.getD 1 undef = .int .i64 key) (hc : sCode (alF key) bs.length ks addr n = 0) : Calls Try.prog 68 #[.pointer (some ⟨g, 0, none⟩), .int .i64 addr, .int .i64 n] w fun e w' => ∃ A m cap, e = .returned (.slice A m cap) ∧ Own w' w.heap.size (.slice A m cap) m (sGet bs addr n) ∧ MS w' g F is os rs ps ov bs ks ∧ Ch w w' [] := by
  have HH := Lib.hid h
  have HK := Lib.hid hk
  have FC := Lib.hid (fetch_c w.drew (h.st.drewN 1) addr n key)
  unfold sFet at FC
  rw [hc, if_pos rfl] at FC
  clear h hk hc
  go_enter Try.func68, Try.ntmps68
  go_upto_region 1 with fail
  refine wp_region_held_drew (S := (fun w' => Mc w' g is os rs ps (.pointer (some ⟨F.g, 0, none⟩)) ov)) (by kernel_rfl) ?_ (fun hHeld => ?_)
  · (try dsimp only); exact HH.out.m.drewN 1
  refine' takeL (i := 0) (v := _) rfl (by kernel_rfl) (by kernel_rfl) (by kernel_rfl) (fun _ _ _ h => h) (Or.inl ⟨by rfl, ?yy13⟩) (by assumption) ?rr13
  case yy13 => intro w hSw; (try dsimp only at hSw); go_simp; (try with_reducible rfl)
  try simp only [Act.put, List.setIfInBounds_toArray, List.set_cons_zero, List.set_cons_succ]
  refine' takeL (i := 1) (v := _) rfl (by kernel_rfl) (by kernel_rfl) (by kernel_rfl) (fun _ _ _ h => h) (Or.inl ⟨by rfl, ?yy14⟩) (by assumption) ?rr14
  case yy14 => intro w hSw; (try dsimp only at hSw); go_simp; (try with_reducible rfl)
  try simp only [Act.put, List.setIfInBounds_toArray, List.set_cons_zero, List.set_cons_succ]
  refine' takeL (i := 2) (v := _) rfl (by kernel_rfl) (by kernel_rfl) (by kernel_rfl) (fun _ _ _ h => h) (Or.inl ⟨by rfl, ?yy15⟩) (by assumption) ?rr15
  case yy15 => intro w hSw; (try dsimp only at hSw); go_simp; (try with_reducible rfl)
  try simp only [Act.put, List.setIfInBounds_toArray, List.set_cons_zero, List.set_cons_succ]
  refine' takeL (i := 3) (v := .pointer (some ⟨F.g, 0, none⟩)) rfl (by kernel_rfl) (by kernel_rfl) (by kernel_rfl) (fun _ _ _ h => h) (Or.inl ⟨by rfl, ?yy16⟩) (by assumption) ?rr16
  case yy16 => intro w hSw; (try dsimp only at hSw); have hq := hSw.cs; go_simp; (try with_reducible rfl)
  try simp only [Act.put, List.setIfInBounds_toArray, List.set_cons_zero, List.set_cons_succ]
  refine' takeL (i := 4) (v := _) rfl (by kernel_rfl) (by kernel_rfl) (by kernel_rfl) (fun _ _ _ h => h) (Or.inl ⟨by rfl, ?yy17⟩) (by assumption) ?rr17
  case yy17 => intro w hSw; (try dsimp only at hSw); go_simp; (try with_reducible rfl)
  try simp only [Act.put, List.setIfInBounds_toArray, List.set_cons_zero, List.set_cons_succ]
  refine' takeL (i := 5) (v := _) rfl (by kernel_rfl) (by kernel_rfl) (by kernel_rfl) (fun _ _ _ h => h) (Or.inl ⟨by rfl, ?yy18⟩) (by assumption) ?rr18
  case yy18 => intro w hSw; (try dsimp only at hSw); go_simp; (try with_reducible rfl)
  try simp only [Act.put, List.setIfInBounds_toArray, List.set_cons_zero, List.set_cons_succ]
  refine' takeL (i := 6) (v := _) rfl (by kernel_rfl) (by kernel_rfl) (by kernel_rfl) (fun _ _ _ h => h) (Or.inl ⟨by rfl, ?yy19⟩) (by assumption) ?rr19
  case yy19 => intro w hSw; (try dsimp only at hSw); go_simp; (try with_reducible rfl)
  try simp only [Act.put, List.setIfInBounds_toArray, List.set_cons_zero, List.set_cons_succ]
  refine' takeL (i := 7) (v := _) rfl (by kernel_rfl) (by kernel_rfl) (by kernel_rfl) (fun _ _ _ h => h) (Or.inl ⟨by rfl, ?yy20⟩) (by assumption) ?rr20
  case yy20 => intro w hSw; (try dsimp only at hSw); go_simp; (try with_reducible rfl)
  try simp only [Act.put, List.setIfInBounds_toArray, List.set_cons_zero, List.set_cons_succ]
  refine' takeL (i := 8) (v := _) rfl (by kernel_rfl) (by kernel_rfl) (by kernel_rfl) (fun _ _ _ h => h) (Or.inl ⟨by rfl, ?yy21⟩) (by assumption) ?rr21
  case yy21 => intro w hSw; (try dsimp only at hSw); go_simp; (try with_reducible rfl)
  try simp only [Act.put, List.setIfInBounds_toArray, List.set_cons_zero, List.set_cons_succ]
  refine' takeL (i := 9) (v := _) rfl (by kernel_rfl) (by kernel_rfl) (by kernel_rfl) (fun _ _ _ h => h) (Or.inl ⟨by rfl, ?yy22⟩) (by assumption) ?rr22
  case yy22 => intro w hSw; (try dsimp only at hSw); go_simp; (try with_reducible rfl)
  try simp only [Act.put, List.setIfInBounds_toArray, List.set_cons_zero, List.set_cons_succ]
  refine' takeL (i := 10) (v := .int .i64 key) rfl (by kernel_rfl) (by kernel_rfl) (by kernel_rfl) (fun _ _ _ h => h) (Or.inl ⟨by rfl, ?yy23⟩) (by assumption) ?rr23
  case yy23 => intro w hSw; (try dsimp only at hSw); have hq := hSw.cp (n := 1) (by omega); rw [HK.out] at hq; go_simp; (try with_reducible rfl)
  try simp only [Act.put, List.setIfInBounds_toArray, List.set_cons_zero, List.set_cons_succ]
  refine wpAnyH_ready (rs := [11]) (by kernel_rfl) (by simp) ?_
  refine consL rfl (fun K hK => ?_) AllReadyH.nil
  go_simp
  go_at_call 100
  refine FC.out.mono ?_
  rintro e w5 ⟨A, m, cap, rfl, hO, hb⟩
  have M5 := Lib.hid ((HH.out.drewN 1).keep hb)
  have C5 := Lib.hid (show Ch w w5 [] from ((Ch.refl w []).drewN 1).trans (Ch.of_below hb []))
  have O5 := Lib.hid hO
  clear hO hb hHeld
  go_wp2_with fail
  refine hK.out _ _ ?_ (fun hHeld => ?_)
  · (try dsimp only); exact M5.out.m
  clear hK K
  try simp only [Act.put, List.setIfInBounds_toArray, List.set_cons_zero, List.set_cons_succ]
  refine' takeL (i := 12) (v := _) rfl (by kernel_rfl) (by kernel_rfl) (by kernel_rfl) (fun _ _ _ h => h) (Or.inl ⟨by rfl, ?yy24⟩) (by assumption) ?rr24
  case yy24 => intro w hSw; (try dsimp only at hSw); go_simp; (try with_reducible rfl)
  try simp only [Act.put, List.setIfInBounds_toArray, List.set_cons_zero, List.set_cons_succ]
  refine' takeL (i := 13) (v := _) rfl (by kernel_rfl) (by kernel_rfl) (by kernel_rfl) (fun _ _ _ h => h) (Or.inl ⟨by rfl, ?yy25⟩) (by assumption) ?rr25
  case yy25 => intro w hSw; (try dsimp only at hSw); go_simp; (try with_reducible rfl)
  try simp only [Act.put, List.setIfInBounds_toArray, List.set_cons_zero, List.set_cons_succ]
  refine' takeL (i := 14) (v := _) rfl (by kernel_rfl) (by kernel_rfl) (by kernel_rfl) (fun _ _ _ h => h) (Or.inl ⟨by rfl, ?yy26⟩) (by assumption) ?rr26
  case yy26 => intro w hSw; (try dsimp only at hSw); go_simp; (try with_reducible rfl)
  try simp only [Act.put, List.setIfInBounds_toArray, List.set_cons_zero, List.set_cons_succ]
  refine' takeL (i := 15) (v := _) rfl (by kernel_rfl) (by kernel_rfl) (by kernel_rfl) (fun _ _ _ h => h) (Or.inl ⟨by rfl, ?yy27⟩) (by assumption) ?rr27
  case yy27 => intro w hSw; (try dsimp only at hSw); go_simp; (try with_reducible rfl)
  try simp only [Act.put, List.setIfInBounds_toArray, List.set_cons_zero, List.set_cons_succ]
  refine' takeL (i := 16) (v := _) rfl (by kernel_rfl) (by kernel_rfl) (by kernel_rfl) (fun _ _ _ h => h) (Or.inl ⟨by rfl, ?yy28⟩) (by assumption) ?rr28
  case yy28 => intro w hSw; (try dsimp only at hSw); go_simp; (try with_reducible rfl)
  try simp only [Act.put, List.setIfInBounds_toArray, List.set_cons_zero, List.set_cons_succ]
  refine wpAnyH_done (by kernel_rfl) ?_ _
  clear hHeld
  go_wp2_with (go_at_call 60; refine (need_ok _ _).mono ?_; rintro e wx ⟨rfl, hwx⟩; subst hwx)
  go_ret
  exact ⟨A, m, cap, by rfl, O5.out, M5.out, C5.out⟩
set_option maxRecDepth 1000000 in
set_option maxHeartbeats 4000000 in
theorem aligned_m (g : Nat) (a n : Int) (w : World) (hs : Calls Try.prog 44 #[.pointer (some ⟨g, 0, none⟩)] w fun e w' => e = .returned (.int .i64 a) ∧ Ch w w' []) (hn : n = 2 ∨ n = 4) (ha0 : 0 ≤ a) (ha1 : a ≤ 16777215) (ha : a % n = 0) : Calls Try.prog 66 #[.pointer (some ⟨g, 0, none⟩), .int .i64 n] w fun e w' => e = .returned (.int .i64 a) ∧ Ch w w' [] := by
  have SC := Lib.hid hs
  have e0 : (a % n == 0) = true := by simpa using ha
  have e1 : IntKind.i64.wrap (a.tmod n) = a % n := by
    rw [Int.tmod_eq_emod_of_nonneg ha0]; exact wrap_i64_id (by rcases hn with rfl | rfl <;> omega) (by rcases hn with rfl | rfl <;> omega)
  have n0 : n ≠ 0 := by omega
  clear hs
  go_enter Try.func66, Try.ntmps66
  go_wp2_with (first
    | (go_at_call 44; refine SC.out.mono ?_; rintro e w1 ⟨rfl, hc⟩; have C1 := Lib.hid hc; clear hc)
    | (go_at_call 60; refine (need_ok _ _).mono ?_; rintro e wx ⟨rfl, hwx⟩; subst hwx))
  go_ret
  exact ⟨by rfl, C1.out⟩
set_option maxRecDepth 1000000 in
set_option maxHeartbeats 4000000 in
theorem full_c (v : Int) (w : World) (v0 : 0 ≤ v) (v1 : v ≤ 4294967295) : Calls Try.prog 67 #[.int .u32 v] w fun e w' => e = .returned (.slice (some ⟨w.heap.size, 0, none⟩) 4 4) ∧ w' = w.alloc (.cells #[.int .u8 (v / 16777216), .int .u8 (v / 65536 % 256), .int .u8 (v / 256 % 256), .int .u8 (v % 256)] 5) := by
  go_enter Try.func67, Try.ntmps67
  go_wp2
  trace_state
  go_ret
  exact ⟨by rfl, by rfl⟩
end Go.Proofs.Ythjdjbipfdigeaa
