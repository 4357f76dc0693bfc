/- Contracts and laws on the way to the statement, text 5 of 25. Conditions: as each states them. -/
import Derived.Test.YthjdjbipfdigeaaCg1
import Derived.Test.YthjdjbipfdigeaaCg2
import Derived.Test.YthjdjbipfdigeaaCg3
import Derived.Test.YthjdjbipfdigeaaCg4
import Derived.Recover
import Derived.Defers
import Derived.Test.YthjdjbipfdigeaaProg
import Derived.Lib.Hide
import Derived.Outline
import Derived.Below
import Derived.Handy
import Derived.BigRegion
namespace Go.Proofs.Ythjdjbipfdigeaa
open Go.RowKit
set_option maxRecDepth 100000
set_option linter.unusedVariables false
set_option linter.unusedSimpArgs false
set_option maxRecDepth 1000000 in
set_option maxHeartbeats 4000000 in
theorem need_no (c : Int) (w : World) : Calls Try.prog 60 #[.bool false, .int .i64 c] w fun e w' => e = .panicked [{ v := .iface 65 (.int .i64 c), recovered := false }] ∧ w = w' := by
  go_enter Try.func60, Try.ntmps60
  go_wp2
  first | exact ⟨rfl, rfl⟩ | exact ⟨rfl, rfl, rfl⟩
set_option maxRecDepth 1000000 in
set_option maxHeartbeats 4000000 in
theorem put_no (g : Nat) (F : Foot) (is os rs : List Int) (ps : List Value) (ov : Bool) (bs ks : List Int) (addr key : Int) (A : Option Addr) (len cap : Nat) (ys : List Int) (w : World) (h : MS w g F is os rs ps ov bs ks) (hk : ps.getD 1 undef = .int .i64 key) (hy : Byt w A len ys) (hl : (len : Int) ≤ 9223372036854775807) (c : Int) (hc : sCode (alP key) bs.length ks addr len = c) (hc0 : c ≠ 0) : Calls Try.prog 65 #[.pointer (some ⟨g, 0, none⟩), .int .i64 addr, .slice A len cap] w fun e w' => e = .panicked [{ v := .iface 65 (.int .i64 c), recovered := false }] ∧ MS w' g F is os rs ps ov bs ks ∧ Ch w w' [F.gb] := by
  have HH := Lib.hid h
  have HK := Lib.hid hk
  have PC := Lib.hid (put_c w.drew (h.st.drewN 1) addr key A len cap ys (hy.keep (below_draw w 1)) hl)
  have hsame : sPut (alP key) bs ks addr ys = bs := by
    unfold sPut
    rw [hy.1, hc, if_neg hc0]
  rw [hc, hsame] at PC
  have e0 : (c == 0) = false := by simpa using hc0
  clear h hk hy hc hsame
  go_enter Try.func65, Try.ntmps65
  go_upto_region 0 with fail
  refine wp_region_held_drew (S := (fun w' => Mc w' g is os rs ps (.pointer (some ⟨F.g, 0, none⟩)) ov)) (by kernel_rfl) ?_ (fun hHeld => ?_)
  · (try dsimp only); exact HH.out.m.drewN 1
  refine' takeL (i := 0) (v := _) rfl (by kernel_rfl) (by kernel_rfl) (by kernel_rfl) (fun _ _ _ h => h) (Or.inl ⟨by rfl, ?yy1⟩) (by assumption) ?rr1
  case yy1 => intro w hSw; (try dsimp only at hSw); go_simp; (try with_reducible rfl)
  try simp only [Act.put, List.setIfInBounds_toArray, List.set_cons_zero, List.set_cons_succ]
  refine' takeL (i := 1) (v := _) rfl (by kernel_rfl) (by kernel_rfl) (by kernel_rfl) (fun _ _ _ h => h) (Or.inl ⟨by rfl, ?yy2⟩) (by assumption) ?rr2
  case yy2 => intro w hSw; (try dsimp only at hSw); go_simp; (try with_reducible rfl)
  try simp only [Act.put, List.setIfInBounds_toArray, List.set_cons_zero, List.set_cons_succ]
  refine' takeL (i := 2) (v := _) rfl (by kernel_rfl) (by kernel_rfl) (by kernel_rfl) (fun _ _ _ h => h) (Or.inl ⟨by rfl, ?yy3⟩) (by assumption) ?rr3
  case yy3 => intro w hSw; (try dsimp only at hSw); go_simp; (try with_reducible rfl)
  try simp only [Act.put, List.setIfInBounds_toArray, List.set_cons_zero, List.set_cons_succ]
  refine' takeL (i := 3) (v := .pointer (some ⟨F.g, 0, none⟩)) rfl (by kernel_rfl) (by kernel_rfl) (by kernel_rfl) (fun _ _ _ h => h) (Or.inl ⟨by rfl, ?yy4⟩) (by assumption) ?rr4
  case yy4 => intro w hSw; (try dsimp only at hSw); have hq := hSw.cs; go_simp; (try with_reducible rfl)
  try simp only [Act.put, List.setIfInBounds_toArray, List.set_cons_zero, List.set_cons_succ]
  refine' takeL (i := 4) (v := _) rfl (by kernel_rfl) (by kernel_rfl) (by kernel_rfl) (fun _ _ _ h => h) (Or.inl ⟨by rfl, ?yy5⟩) (by assumption) ?rr5
  case yy5 => intro w hSw; (try dsimp only at hSw); go_simp; (try with_reducible rfl)
  try simp only [Act.put, List.setIfInBounds_toArray, List.set_cons_zero, List.set_cons_succ]
  refine' takeL (i := 5) (v := _) rfl (by kernel_rfl) (by kernel_rfl) (by kernel_rfl) (fun _ _ _ h => h) (Or.inl ⟨by rfl, ?yy6⟩) (by assumption) ?rr6
  case yy6 => intro w hSw; (try dsimp only at hSw); go_simp; (try with_reducible rfl)
  try simp only [Act.put, List.setIfInBounds_toArray, List.set_cons_zero, List.set_cons_succ]
  refine' takeL (i := 6) (v := _) rfl (by kernel_rfl) (by kernel_rfl) (by kernel_rfl) (fun _ _ _ h => h) (Or.inl ⟨by rfl, ?yy7⟩) (by assumption) ?rr7
  case yy7 => intro w hSw; (try dsimp only at hSw); go_simp; (try with_reducible rfl)
  try simp only [Act.put, List.setIfInBounds_toArray, List.set_cons_zero, List.set_cons_succ]
  refine' takeL (i := 7) (v := _) rfl (by kernel_rfl) (by kernel_rfl) (by kernel_rfl) (fun _ _ _ h => h) (Or.inl ⟨by rfl, ?yy8⟩) (by assumption) ?rr8
  case yy8 => intro w hSw; (try dsimp only at hSw); go_simp; (try with_reducible rfl)
  try simp only [Act.put, List.setIfInBounds_toArray, List.set_cons_zero, List.set_cons_succ]
  refine' takeL (i := 8) (v := _) rfl (by kernel_rfl) (by kernel_rfl) (by kernel_rfl) (fun _ _ _ h => h) (Or.inl ⟨by rfl, ?yy9⟩) (by assumption) ?rr9
  case yy9 => intro w hSw; (try dsimp only at hSw); go_simp; (try with_reducible rfl)
  try simp only [Act.put, List.setIfInBounds_toArray, List.set_cons_zero, List.set_cons_succ]
  refine' takeL (i := 9) (v := _) rfl (by kernel_rfl) (by kernel_rfl) (by kernel_rfl) (fun _ _ _ h => h) (Or.inl ⟨by rfl, ?yy10⟩) (by assumption) ?rr10
  case yy10 => intro w hSw; (try dsimp only at hSw); go_simp; (try with_reducible rfl)
  try simp only [Act.put, List.setIfInBounds_toArray, List.set_cons_zero, List.set_cons_succ]
  refine' takeL (i := 10) (v := .int .i64 key) rfl (by kernel_rfl) (by kernel_rfl) (by kernel_rfl) (fun _ _ _ h => h) (Or.inl ⟨by rfl, ?yy11⟩) (by assumption) ?rr11
  case yy11 => intro w hSw; (try dsimp only at hSw); have hq := hSw.cp (n := 1) (by omega); rw [HK.out] at hq; go_simp; (try with_reducible rfl)
  try simp only [Act.put, List.setIfInBounds_toArray, List.set_cons_zero, List.set_cons_succ]
  refine wpAnyH_ready (rs := [11]) (by kernel_rfl) (by simp) ?_
  refine consL rfl (fun K hK => ?_) AllReadyH.nil
  go_simp
  go_at_call 16
  refine PC.out.mono ?_
  rintro e w5 ⟨rfl, hS, hG⟩
  have M5 := Lib.hid ((HH.out.drewN 1).put_ hS hG)
  have C5 := Lib.hid (show Ch w w5 [F.gb] from ((Ch.refl w [F.gb]).drewN 1).trans (Ch.of_grown hG))
  clear hS hG hHeld
  go_wp2_with fail
  refine hK.out _ _ ?_ (fun hHeld => ?_)
  · (try dsimp only); exact M5.out.m
  clear hK K
  try simp only [Act.put, List.setIfInBounds_toArray, List.set_cons_zero, List.set_cons_succ]
  refine' takeL (i := 12) (v := _) rfl (by kernel_rfl) (by kernel_rfl) (by kernel_rfl) (fun _ _ _ h => h) (Or.inl ⟨by rfl, ?yy12⟩) (by assumption) ?rr12
  case yy12 => intro w hSw; (try dsimp only at hSw); go_simp; (try with_reducible rfl)
  try simp only [Act.put, List.setIfInBounds_toArray, List.set_cons_zero, List.set_cons_succ]
  refine wpAnyH_done (by kernel_rfl) ?_ _
  clear hHeld
  go_wp2_with (go_at_call 60; refine (need_no _ _).mono ?_; rintro e wx ⟨rfl, hwx⟩; subst hwx)
  exact ⟨rfl, rfl, M5.out, C5.out⟩
set_option maxRecDepth 1000000 in
set_option maxHeartbeats 4000000 in
theorem fetch_no (g : Nat) (F : Foot) (is os rs : List Int) (ps : List Value) (ov : Bool) (bs ks : List Int) (addr n key : Int) (w : World) (h : MS w g F is os rs ps ov bs ks) (hk : ps.getD 1 undef = .int .i64 key) (c : Int) (hc : sCode (alF key) bs.length ks addr n = c) (hc0 : c ≠ 0) : Calls Try.prog 68 #[.pointer (some ⟨g, 0, none⟩), .int .i64 addr, .int .i64 n] w fun e w' => e = .panicked [{ v := .iface 65 (.int .i64 c), recovered := false }] ∧ MS w' g F is os rs ps ov bs ks ∧ Ch w w' [] := by
  have HH := Lib.hid h
  have HK := Lib.hid hk
  have FC := Lib.hid (fetch_c w.drew (h.st.drewN 1) addr n key)
  unfold sFet at FC
  rw [hc, if_neg hc0] at FC
  have e0 : (c == 0) = false := by simpa using hc0
  clear h hk hc
  go_enter Try.func68, Try.ntmps68
  go_upto_region 1 with fail
  refine wp_region_held_drew (S := (fun w' => Mc w' g is os rs ps (.pointer (some ⟨F.g, 0, none⟩)) ov)) (by kernel_rfl) ?_ (fun hHeld => ?_)
  · (try dsimp only); exact HH.out.m.drewN 1
  refine' takeL (i := 0) (v := _) rfl (by kernel_rfl) (by kernel_rfl) (by kernel_rfl) (fun _ _ _ h => h) (Or.inl ⟨by rfl, ?yy13⟩) (by assumption) ?rr13
  case yy13 => intro w hSw; (try dsimp only at hSw); go_simp; (try with_reducible rfl)
  try simp only [Act.put, List.setIfInBounds_toArray, List.set_cons_zero, List.set_cons_succ]
  refine' takeL (i := 1) (v := _) rfl (by kernel_rfl) (by kernel_rfl) (by kernel_rfl) (fun _ _ _ h => h) (Or.inl ⟨by rfl, ?yy14⟩) (by assumption) ?rr14
  case yy14 => intro w hSw; (try dsimp only at hSw); go_simp; (try with_reducible rfl)
  try simp only [Act.put, List.setIfInBounds_toArray, List.set_cons_zero, List.set_cons_succ]
  refine' takeL (i := 2) (v := _) rfl (by kernel_rfl) (by kernel_rfl) (by kernel_rfl) (fun _ _ _ h => h) (Or.inl ⟨by rfl, ?yy15⟩) (by assumption) ?rr15
  case yy15 => intro w hSw; (try dsimp only at hSw); go_simp; (try with_reducible rfl)
  try simp only [Act.put, List.setIfInBounds_toArray, List.set_cons_zero, List.set_cons_succ]
  refine' takeL (i := 3) (v := .pointer (some ⟨F.g, 0, none⟩)) rfl (by kernel_rfl) (by kernel_rfl) (by kernel_rfl) (fun _ _ _ h => h) (Or.inl ⟨by rfl, ?yy16⟩) (by assumption) ?rr16
  case yy16 => intro w hSw; (try dsimp only at hSw); have hq := hSw.cs; go_simp; (try with_reducible rfl)
  try simp only [Act.put, List.setIfInBounds_toArray, List.set_cons_zero, List.set_cons_succ]
  refine' takeL (i := 4) (v := _) rfl (by kernel_rfl) (by kernel_rfl) (by kernel_rfl) (fun _ _ _ h => h) (Or.inl ⟨by rfl, ?yy17⟩) (by assumption) ?rr17
  case yy17 => intro w hSw; (try dsimp only at hSw); go_simp; (try with_reducible rfl)
  try simp only [Act.put, List.setIfInBounds_toArray, List.set_cons_zero, List.set_cons_succ]
  refine' takeL (i := 5) (v := _) rfl (by kernel_rfl) (by kernel_rfl) (by kernel_rfl) (fun _ _ _ h => h) (Or.inl ⟨by rfl, ?yy18⟩) (by assumption) ?rr18
  case yy18 => intro w hSw; (try dsimp only at hSw); go_simp; (try with_reducible rfl)
  try simp only [Act.put, List.setIfInBounds_toArray, List.set_cons_zero, List.set_cons_succ]
  refine' takeL (i := 6) (v := _) rfl (by kernel_rfl) (by kernel_rfl) (by kernel_rfl) (fun _ _ _ h => h) (Or.inl ⟨by rfl, ?yy19⟩) (by assumption) ?rr19
  case yy19 => intro w hSw; (try dsimp only at hSw); go_simp; (try with_reducible rfl)
  try simp only [Act.put, List.setIfInBounds_toArray, List.set_cons_zero, List.set_cons_succ]
  refine' takeL (i := 7) (v := _) rfl (by kernel_rfl) (by kernel_rfl) (by kernel_rfl) (fun _ _ _ h => h) (Or.inl ⟨by rfl, ?yy20⟩) (by assumption) ?rr20
  case yy20 => intro w hSw; (try dsimp only at hSw); go_simp; (try with_reducible rfl)
  try simp only [Act.put, List.setIfInBounds_toArray, List.set_cons_zero, List.set_cons_succ]
  refine' takeL (i := 8) (v := _) rfl (by kernel_rfl) (by kernel_rfl) (by kernel_rfl) (fun _ _ _ h => h) (Or.inl ⟨by rfl, ?yy21⟩) (by assumption) ?rr21
  case yy21 => intro w hSw; (try dsimp only at hSw); go_simp; (try with_reducible rfl)
  try simp only [Act.put, List.setIfInBounds_toArray, List.set_cons_zero, List.set_cons_succ]
  refine' takeL (i := 9) (v := _) rfl (by kernel_rfl) (by kernel_rfl) (by kernel_rfl) (fun _ _ _ h => h) (Or.inl ⟨by rfl, ?yy22⟩) (by assumption) ?rr22
  case yy22 => intro w hSw; (try dsimp only at hSw); go_simp; (try with_reducible rfl)
  try simp only [Act.put, List.setIfInBounds_toArray, List.set_cons_zero, List.set_cons_succ]
  refine' takeL (i := 10) (v := .int .i64 key) rfl (by kernel_rfl) (by kernel_rfl) (by kernel_rfl) (fun _ _ _ h => h) (Or.inl ⟨by rfl, ?yy23⟩) (by assumption) ?rr23
  case yy23 => intro w hSw; (try dsimp only at hSw); have hq := hSw.cp (n := 1) (by omega); rw [HK.out] at hq; go_simp; (try with_reducible rfl)
  try simp only [Act.put, List.setIfInBounds_toArray, List.set_cons_zero, List.set_cons_succ]
  refine wpAnyH_ready (rs := [11]) (by kernel_rfl) (by simp) ?_
  refine consL rfl (fun K hK => ?_) AllReadyH.nil
  go_simp
  go_at_call 100
  refine FC.out.mono ?_
  rintro e w5 ⟨A, m, cap, rfl, hO, hb⟩
  have M5 := Lib.hid ((HH.out.drewN 1).keep hb)
  have C5 := Lib.hid (show Ch w w5 [] from ((Ch.refl w []).drewN 1).trans (Ch.of_below hb []))
  clear hO hb hHeld
  go_wp2_with fail
  refine hK.out _ _ ?_ (fun hHeld => ?_)
  · (try dsimp only); exact M5.out.m
  clear hK K
  try simp only [Act.put, List.setIfInBounds_toArray, List.set_cons_zero, List.set_cons_succ]
  refine' takeL (i := 12) (v := _) rfl (by kernel_rfl) (by kernel_rfl) (by kernel_rfl) (fun _ _ _ h => h) (Or.inl ⟨by rfl, ?yy24⟩) (by assumption) ?rr24
  case yy24 => intro w hSw; (try dsimp only at hSw); go_simp; (try with_reducible rfl)
  try simp only [Act.put, List.setIfInBounds_toArray, List.set_cons_zero, List.set_cons_succ]
  refine' takeL (i := 13) (v := _) rfl (by kernel_rfl) (by kernel_rfl) (by kernel_rfl) (fun _ _ _ h => h) (Or.inl ⟨by rfl, ?yy25⟩) (by assumption) ?rr25
  case yy25 => intro w hSw; (try dsimp only at hSw); go_simp; (try with_reducible rfl)
  try simp only [Act.put, List.setIfInBounds_toArray, List.set_cons_zero, List.set_cons_succ]
  refine' takeL (i := 14) (v := _) rfl (by kernel_rfl) (by kernel_rfl) (by kernel_rfl) (fun _ _ _ h => h) (Or.inl ⟨by rfl, ?yy26⟩) (by assumption) ?rr26
  case yy26 => intro w hSw; (try dsimp only at hSw); go_simp; (try with_reducible rfl)
  try simp only [Act.put, List.setIfInBounds_toArray, List.set_cons_zero, List.set_cons_succ]
  refine' takeL (i := 15) (v := _) rfl (by kernel_rfl) (by kernel_rfl) (by kernel_rfl) (fun _ _ _ h => h) (Or.inl ⟨by rfl, ?yy27⟩) (by assumption) ?rr27
  case yy27 => intro w hSw; (try dsimp only at hSw); go_simp; (try with_reducible rfl)
  try simp only [Act.put, List.setIfInBounds_toArray, List.set_cons_zero, List.set_cons_succ]
  refine' takeL (i := 16) (v := _) rfl (by kernel_rfl) (by kernel_rfl) (by kernel_rfl) (fun _ _ _ h => h) (Or.inl ⟨by rfl, ?yy28⟩) (by assumption) ?rr28
  case yy28 => intro w hSw; (try dsimp only at hSw); go_simp; (try with_reducible rfl)
  try simp only [Act.put, List.setIfInBounds_toArray, List.set_cons_zero, List.set_cons_succ]
  refine wpAnyH_done (by kernel_rfl) ?_ _
  clear hHeld
  go_wp2_with (go_at_call 60; refine (need_no _ _).mono ?_; rintro e wx ⟨rfl, hwx⟩; subst hwx)
  exact ⟨rfl, rfl, M5.out, C5.out⟩
set_option maxRecDepth 1000000 in
set_option maxHeartbeats 4000000 in
theorem aligned_no (g : Nat) (a n : Int) (w : World) (hs : Calls Try.prog 44 #[.pointer (some ⟨g, 0, none⟩)] w fun e w' => e = .returned (.int .i64 a) ∧ Ch w w' []) (hn : n = 2 ∨ n = 4) (ha0 : 0 ≤ a) (ha1 : a ≤ 16777215) (ha : a % n ≠ 0) : Calls Try.prog 66 #[.pointer (some ⟨g, 0, none⟩), .int .i64 n] w fun e w' => e = .panicked [{ v := .iface 65 (.int .i64 6), recovered := false }] ∧ Ch w w' [] := by
  have SC := Lib.hid hs
  have e0 : (a % n == 0) = false := by simpa using ha
  have e1 : IntKind.i64.wrap (a.tmod n) = a % n := by
    rw [Int.tmod_eq_emod_of_nonneg ha0]; exact wrap_i64_id (by rcases hn with rfl | rfl <;> omega) (by rcases hn with rfl | rfl <;> omega)
  have n0 : n ≠ 0 := by omega
  clear hs
  go_enter Try.func66, Try.ntmps66
  go_wp2_with (first
    | (go_at_call 44; refine SC.out.mono ?_; rintro e w1 ⟨rfl, hc⟩; have C1 := Lib.hid hc; clear hc)
    | (go_at_call 60; refine (need_no _ _).mono ?_; rintro e wx ⟨rfl, hwx⟩; subst hwx))
  exact ⟨rfl, rfl, C1.out⟩
end Go.Proofs.Ythjdjbipfdigeaa

namespace Go.Proofs.Ythjdjbipfdigeaa
open Go.RowKit
set_option maxRecDepth 100000
set_option linter.unusedVariables false
set_option linter.unusedSimpArgs false
set_option maxRecDepth 1000000 in
set_option maxHeartbeats 4000000 in
theorem exec_ar (g n m : Nat) (is os rs : List Int) (ps : List Value) (s : Value) (ov : Bool) (w : World) (hm : Mc w g is os rs ps s ov) (h0 : is.getD 0 0 = 26) (hf : is.getD 1 0 = 1) (hn : is.getD 2 0 = (n : Int)) (hn16 : n < 16) (hk : is.getD 3 0 = (m : Int)) (hk16 : m < 16) (ro : ∀ z ∈ os, 0 ≤ z ∧ z ≤ 4294967295) : Calls Try.prog 31 #[.pointer (some ⟨g, 0, none⟩)] w fun e w' => e = .returned (.tuple #[]) ∧ Mc w' g is os (rs.set n (lo32 (sg (os.getD n 0) + sg (os.getD m 0)))) (ps.set 7 (.int .i64 (rcc (sg (os.getD n 0) + sg (os.getD m 0))))) s (ovf (sg (os.getD n 0) + sg (os.getD m 0))) ∧ Ch w w' [g] := by
  have c0 := hm.ci (c := 0) (by omega)
  rw [h0] at c0
  have AC := Lib.hid (arith_ar g n m is os rs ps s ov w hm h0 hf hn hn16 hk hk16 ro)
  clear hm h0 hf hn hk ro
  go_enter Try.func31, Try.ntmps31
  go_wp2_with (go_at_call 48; refine AC.out.mono ?_; rintro e w3 ⟨rfl, hM3, hC3⟩; have HM3 := Lib.hid hM3; have HC3 := Lib.hid hC3; clear hM3 hC3)
  go_end0
  exact ⟨by rfl, HM3.out, HC3.out⟩
theorem opsS_value {P : Program} {ops : Array Oper} {Q : Exit → Act → List Frame → World → Prop} {i : Nat} {rest : List Nat} {a : Act} {cs : List Frame} {w w' : World} {o : Oper} {v : Value} (ho : ops[i]? = some o) (hw : Region.wanted o (yielded ops a.tmps) = true) (hr : (execOp a.eval o).run P w = .ok (.value v) w') (h : wpOpsS P ops Q rest (a.put o.dst v) cs w') : wpOpsS P ops Q (i :: rest) a cs w := by
  simp only [wpOpsS, ho, hw, if_true, hr]
  exact h
theorem opsS_rec {P : Program} {ops : Array Oper} {Q : Exit → Act → List Frame → World → Prop} {i : Nat} {rest : List Nat} {a : Act} {cs cs' : List Frame} {w w' : World} {o : Oper} {v : Value} (ho : ops[i]? = some o) (hw : Region.wanted o (yielded ops a.tmps) = true) (hr : (execOp a.eval o).run P w = .ok .recover w') (hc : recoverD cs = some (v, cs')) (h : wpOpsS P ops Q rest (a.put o.dst v) cs' w') : wpOpsS P ops Q (i :: rest) a cs w := by
  simp only [wpOpsS, ho, hw, if_true, hr, hc]
  exact h
theorem opsS_idle {P : Program} {ops : Array Oper} {Q : Exit → Act → List Frame → World → Prop} {i : Nat} {rest : List Nat} {a : Act} {cs : List Frame} {w w' : World} {o : Oper} (ho : ops[i]? = some o) (hw : Region.wanted o (yielded ops a.tmps) = true) (hr : (execOp a.eval o).run P w = .ok .recover w') (hc : recoverD cs = none) (h : wpOpsS P ops Q rest (a.put o.dst .nilIface) cs w') : wpOpsS P ops Q (i :: rest) a cs w := by
  simp only [wpOpsS, ho, hw, if_true, hr, hc]
  exact h
set_option maxHeartbeats 4000000 in
theorem catch_idle (r p nr np en : Value) (w : World) :
    CallsD Try.prog 30 #[r, p, nr, np, en] .returning w fun e u' w' => e = .returned (.tuple #[]) ∧ u' = .returning ∧ w' = w := by
  refine callsD_of_wpS Try.func30 rfl fun c₀ cs hu => ?_
  simp only [Try.ntmps30, List.size_toArray, List.length_cons, List.length_nil, Nat.reduceAdd, Nat.reduceSub, Array.replicate_succ, Array.replicate_zero, List.push_toArray, List.append_toArray, List.nil_append, List.cons_append]
  apply wpS_seq
  apply wpS_region
  show wpOpsS _ _ _ [0, 1, 2, 3, 4, 5, 6] _ _ _
  refine opsS_idle (w' := w) rfl (by kernel_rfl) (by kernel_rfl) (by simp [recoverD, hu]) ?_
  refine opsS_value (v := .tuple #[.int .i64 0, .bool false]) (w' := w) rfl (by kernel_rfl) (by kernel_rfl) ?_
  refine opsS_value (v := .tuple #[.int .i64 0, .bool false]) (w' := w) rfl (by kernel_rfl) (by kernel_rfl) ?_
  refine opsS_value (v := .int .i64 0) (w' := w) rfl (by kernel_rfl) (by kernel_rfl) ?_
  refine opsS_value (v := .bool false) (w' := w) rfl (by kernel_rfl) (by kernel_rfl) ?_
  refine opsS_value (v := .int .i64 0) (w' := w) rfl (by kernel_rfl) (by kernel_rfl) ?_
  refine opsS_value (v := .bool false) (w' := w) rfl (by kernel_rfl) (by kernel_rfl) ?_
  simp only [Act.put, List.setIfInBounds_toArray, List.set_cons_zero, List.set_cons_succ]
  unfold wpOpsS
  simp only [Exit.thenS]
  refine wpS_of_wp ?_
  go_wp2
  exact ⟨rfl, .returning, by cases c₀; simp_all, .tuple #[], by simp [results, Try.results30], rfl, rfl, rfl⟩
end Go.Proofs.Ythjdjbipfdigeaa

namespace Go.Proofs.Ythjdjbipfdigeaa
open Go.RowKit
set_option linter.unusedVariables false
set_option linter.unusedSimpArgs false
def knL : List Int := [4, 5, 6, 7, 16, 17, 18, 19, 20, 21, 22, 23, 24, 25, 26, 27, 28, 29, 30, 31, 64, 65, 66, 67, 69, 70, 71, 72, 73, 74, 75, 76, 80, 84, 85, 86, 87, 88, 89, 90, 91, 92, 93, 94, 95, 134, 135, 136, 137, 138, 139, 140, 141, 142, 143, 144, 145, 146, 147, 148, 149, 150, 151, 152, 209, 210, 211, 212, 213, 214, 215, 220, 221]
def kn (op : Int) : Bool := decide (op ∈ knL)
def knB (op : Int) : Bool := isOp op && (!privB op && (!decide (op ∈ [10, 68, 78, 79, 222, 223]) && decide (op < 240)))
theorem isOp_in {op : Int} (h : isOp op = true) : 4 ≤ op ∧ op ≤ 253 := by
  unfold isOp at h; rw [decide_eq_true_iff] at h
  have := op_range _ h; rwa [ix_op h] at this
theorem knB_lt : ∀ n : Nat, n < 256 → knB (n : Int) = kn (n : Int) := by decide +kernel
theorem knL_in : ∀ op ∈ knL, 0 ≤ op ∧ op ≤ 255 := by decide
theorem knB_eq (op : Int) : knB op = kn op := by
  by_cases h : 0 ≤ op ∧ op ≤ 255
  · have e : ((op.toNat : Nat) : Int) = op := Int.toNat_of_nonneg h.1
    rw [← e]; exact knB_lt _ (by omega)
  · have h1 : isOp op = false := by
      cases hi : isOp op
      · rfl
      · have := isOp_in hi; omega
    have h2 : kn op = false := decide_eq_false (fun hm => h (knL_in op hm))
    rw [h2]; unfold knB; rw [h1]; rfl
set_option maxRecDepth 1000000 in
set_option maxHeartbeats 4000000 in
theorem knows_no (op : Int) (w : World) (h : isOp op = false) : Calls Try.prog 11 #[.int .i64 op] w fun e w' => e = .returned (.bool false) ∧ ∃ n, w' = w.drewN n := by
  have FC := Lib.hid (form_c op)
  have PC := Lib.hid (priv_c op)
  obtain ⟨f, hf⟩ : ∃ f, fmOf op = f := ⟨_, rfl⟩
  rw [hf] at FC
  clear hf
  rw [h] at FC
  clear h
  go_enter Try.func11, Try.ntmps11
  go_wp2_with (first
    | (go_at_call 25; refine (FC.out _).mono ?_; rintro e w1 ⟨rfl, n1, rfl⟩)
    | (go_at_call 26; refine (PC.out _).mono ?_; rintro e w2 ⟨rfl, hw2⟩; subst hw2))
  go_ret
  exact ⟨by first | rfl | (show Ending.returned (.bool (decide (op < 240))) = _; rw [decide_eq_false (by omega)]), _, rfl⟩
set_option maxRecDepth 1000000 in
set_option maxHeartbeats 4000000 in
theorem knows_priv (op : Int) (w : World) (h : isOp op = true) (hp : privB op = true) : Calls Try.prog 11 #[.int .i64 op] w fun e w' => e = .returned (.bool false) ∧ ∃ n, w' = w.drewN n := by
  have FC := Lib.hid (form_c op)
  have PC := Lib.hid (priv_c op)
  obtain ⟨f, hf⟩ : ∃ f, fmOf op = f := ⟨_, rfl⟩
  rw [hf] at FC
  clear hf
  rw [h] at FC
  rw [hp] at PC
  clear h hp
  go_enter Try.func11, Try.ntmps11
  go_wp2_with (first
    | (go_at_call 25; refine (FC.out _).mono ?_; rintro e w1 ⟨rfl, n1, rfl⟩)
    | (go_at_call 26; refine (PC.out _).mono ?_; rintro e w2 ⟨rfl, hw2⟩; subst hw2))
  go_ret
  exact ⟨by first | rfl | (show Ending.returned (.bool (decide (op < 240))) = _; rw [decide_eq_false (by omega)]), _, rfl⟩
set_option maxRecDepth 1000000 in
set_option maxHeartbeats 4000000 in
theorem knows_yes (op : Int) (w : World) (h : isOp op = true) (hp : privB op = false) (h10 : op ≠ 10) (h68 : op ≠ 68) (h78 : op ≠ 78) (h79 : op ≠ 79) (h222 : op ≠ 222) (h223 : op ≠ 223) (hl : op < 240) : Calls Try.prog 11 #[.int .i64 op] w fun e w' => e = .returned (.bool true) ∧ ∃ n, w' = w.drewN n := by
  have FC := Lib.hid (form_c op)
  have PC := Lib.hid (priv_c op)
  obtain ⟨f, hf⟩ : ∃ f, fmOf op = f := ⟨_, rfl⟩
  rw [hf] at FC
  clear hf
  rw [h] at FC
  rw [hp] at PC
  clear h hp
  have e10 : (op == 10) = false := by simpa using h10
  have e68 : (op == 68) = false := by simpa using h68
  have e78 : (op == 78) = false := by simpa using h78
  have e79 : (op == 79) = false := by simpa using h79
  have e222 : (op == 222) = false := by simpa using h222
  have e223 : (op == 223) = false := by simpa using h223
  clear h10 h68 h78 h79 h222 h223
  go_enter Try.func11, Try.ntmps11
  go_wp2_with (first
    | (go_at_call 25; refine (FC.out _).mono ?_; rintro e w1 ⟨rfl, n1, rfl⟩)
    | (go_at_call 26; refine (PC.out _).mono ?_; rintro e w2 ⟨rfl, hw2⟩; subst hw2))
  go_ret
  exact ⟨by first | rfl | (show Ending.returned (.bool (decide (op < 240))) = _; rw [decide_eq_false (by omega)]), _, rfl⟩
set_option maxRecDepth 1000000 in
set_option maxHeartbeats 4000000 in
theorem knows_ge (op : Int) (w : World) (h : isOp op = true) (hp : privB op = false) (h10 : op ≠ 10) (h68 : op ≠ 68) (h78 : op ≠ 78) (h79 : op ≠ 79) (h222 : op ≠ 222) (h223 : op ≠ 223) (hl : ¬ op < 240) : Calls Try.prog 11 #[.int .i64 op] w fun e w' => e = .returned (.bool false) ∧ ∃ n, w' = w.drewN n := by
  have FC := Lib.hid (form_c op)
  have PC := Lib.hid (priv_c op)
  obtain ⟨f, hf⟩ : ∃ f, fmOf op = f := ⟨_, rfl⟩
  rw [hf] at FC
  clear hf
  rw [h] at FC
  rw [hp] at PC
  clear h hp
  have e10 : (op == 10) = false := by simpa using h10
  have e68 : (op == 68) = false := by simpa using h68
  have e78 : (op == 78) = false := by simpa using h78
  have e79 : (op == 79) = false := by simpa using h79
  have e222 : (op == 222) = false := by simpa using h222
  have e223 : (op == 223) = false := by simpa using h223
  clear h10 h68 h78 h79 h222 h223
  go_enter Try.func11, Try.ntmps11
  go_wp2_with (first
    | (go_at_call 25; refine (FC.out _).mono ?_; rintro e w1 ⟨rfl, n1, rfl⟩)
    | (go_at_call 26; refine (PC.out _).mono ?_; rintro e w2 ⟨rfl, hw2⟩; subst hw2))
  go_ret
  exact ⟨by first | rfl | (show Ending.returned (.bool (decide (op < 240))) = _; rw [decide_eq_false (by omega)]), _, rfl⟩
set_option maxRecDepth 1000000 in
set_option maxHeartbeats 4000000 in
theorem knows_at10 (op : Int) (w : World) (h : isOp op = true) (hp : privB op = false) (hk : op = 10) : Calls Try.prog 11 #[.int .i64 op] w fun e w' => e = .returned (.bool false) ∧ ∃ n, w' = w.drewN n := by
  have FC := Lib.hid (form_c op)
  have PC := Lib.hid (priv_c op)
  obtain ⟨f, hf⟩ : ∃ f, fmOf op = f := ⟨_, rfl⟩
  rw [hf] at FC
  clear hf
  rw [h] at FC
  rw [hp] at PC
  clear h hp
  have e10 : (op == 10) = true := by rw [hk]; rfl
  have e68 : (op == 68) = false := by rw [hk]; rfl
  have e78 : (op == 78) = false := by rw [hk]; rfl
  have e79 : (op == 79) = false := by rw [hk]; rfl
  have e222 : (op == 222) = false := by rw [hk]; rfl
  have e223 : (op == 223) = false := by rw [hk]; rfl
  clear hk
  go_enter Try.func11, Try.ntmps11
  go_wp2_with (first
    | (go_at_call 25; refine (FC.out _).mono ?_; rintro e w1 ⟨rfl, n1, rfl⟩)
    | (go_at_call 26; refine (PC.out _).mono ?_; rintro e w2 ⟨rfl, hw2⟩; subst hw2))
  go_ret
  exact ⟨by first | rfl | (show Ending.returned (.bool (decide (op < 240))) = _; rw [decide_eq_false (by omega)]), _, rfl⟩
set_option maxRecDepth 1000000 in
set_option maxHeartbeats 4000000 in
theorem knows_at68 (op : Int) (w : World) (h : isOp op = true) (hp : privB op = false) (hk : op = 68) : Calls Try.prog 11 #[.int .i64 op] w fun e w' => e = .returned (.bool false) ∧ ∃ n, w' = w.drewN n := by
  have FC := Lib.hid (form_c op)
  have PC := Lib.hid (priv_c op)
  obtain ⟨f, hf⟩ : ∃ f, fmOf op = f := ⟨_, rfl⟩
  rw [hf] at FC
  clear hf
  rw [h] at FC
  rw [hp] at PC
  clear h hp
  have e10 : (op == 10) = false := by rw [hk]; rfl
  have e68 : (op == 68) = true := by rw [hk]; rfl
  have e78 : (op == 78) = false := by rw [hk]; rfl
  have e79 : (op == 79) = false := by rw [hk]; rfl
  have e222 : (op == 222) = false := by rw [hk]; rfl
  have e223 : (op == 223) = false := by rw [hk]; rfl
  clear hk
  go_enter Try.func11, Try.ntmps11
  go_wp2_with (first
    | (go_at_call 25; refine (FC.out _).mono ?_; rintro e w1 ⟨rfl, n1, rfl⟩)
    | (go_at_call 26; refine (PC.out _).mono ?_; rintro e w2 ⟨rfl, hw2⟩; subst hw2))
  go_ret
  exact ⟨by first | rfl | (show Ending.returned (.bool (decide (op < 240))) = _; rw [decide_eq_false (by omega)]), _, rfl⟩
set_option maxRecDepth 1000000 in
set_option maxHeartbeats 4000000 in
theorem knows_at78 (op : Int) (w : World) (h : isOp op = true) (hp : privB op = false) (hk : op = 78) : Calls Try.prog 11 #[.int .i64 op] w fun e w' => e = .returned (.bool false) ∧ ∃ n, w' = w.drewN n := by
  have FC := Lib.hid (form_c op)
  have PC := Lib.hid (priv_c op)
  obtain ⟨f, hf⟩ : ∃ f, fmOf op = f := ⟨_, rfl⟩
  rw [hf] at FC
  clear hf
  rw [h] at FC
  rw [hp] at PC
  clear h hp
  have e10 : (op == 10) = false := by rw [hk]; rfl
  have e68 : (op == 68) = false := by rw [hk]; rfl
  have e78 : (op == 78) = true := by rw [hk]; rfl
  have e79 : (op == 79) = false := by rw [hk]; rfl
  have e222 : (op == 222) = false := by rw [hk]; rfl
  have e223 : (op == 223) = false := by rw [hk]; rfl
  clear hk
  go_enter Try.func11, Try.ntmps11
  go_wp2_with (first
    | (go_at_call 25; refine (FC.out _).mono ?_; rintro e w1 ⟨rfl, n1, rfl⟩)
    | (go_at_call 26; refine (PC.out _).mono ?_; rintro e w2 ⟨rfl, hw2⟩; subst hw2))
  go_ret
  exact ⟨by first | rfl | (show Ending.returned (.bool (decide (op < 240))) = _; rw [decide_eq_false (by omega)]), _, rfl⟩
set_option maxRecDepth 1000000 in
set_option maxHeartbeats 4000000 in
theorem knows_at79 (op : Int) (w : World) (h : isOp op = true) (hp : privB op = false) (hk : op = 79) : Calls Try.prog 11 #[.int .i64 op] w fun e w' => e = .returned (.bool false) ∧ ∃ n, w' = w.drewN n := by
  have FC := Lib.hid (form_c op)
  have PC := Lib.hid (priv_c op)
  obtain ⟨f, hf⟩ : ∃ f, fmOf op = f := ⟨_, rfl⟩
  rw [hf] at FC
  clear hf
  rw [h] at FC
  rw [hp] at PC
  clear h hp
  have e10 : (op == 10) = false := by rw [hk]; rfl
  have e68 : (op == 68) = false := by rw [hk]; rfl
  have e78 : (op == 78) = false := by rw [hk]; rfl
  have e79 : (op == 79) = true := by rw [hk]; rfl
  have e222 : (op == 222) = false := by rw [hk]; rfl
  have e223 : (op == 223) = false := by rw [hk]; rfl
  clear hk
  go_enter Try.func11, Try.ntmps11
  go_wp2_with (first
    | (go_at_call 25; refine (FC.out _).mono ?_; rintro e w1 ⟨rfl, n1, rfl⟩)
    | (go_at_call 26; refine (PC.out _).mono ?_; rintro e w2 ⟨rfl, hw2⟩; subst hw2))
  go_ret
  exact ⟨by first | rfl | (show Ending.returned (.bool (decide (op < 240))) = _; rw [decide_eq_false (by omega)]), _, rfl⟩
set_option maxRecDepth 1000000 in
set_option maxHeartbeats 4000000 in
theorem knows_at222 (op : Int) (w : World) (h : isOp op = true) (hp : privB op = false) (hk : op = 222) : Calls Try.prog 11 #[.int .i64 op] w fun e w' => e = .returned (.bool false) ∧ ∃ n, w' = w.drewN n := by
  have FC := Lib.hid (form_c op)
  have PC := Lib.hid (priv_c op)
  obtain ⟨f, hf⟩ : ∃ f, fmOf op = f := ⟨_, rfl⟩
  rw [hf] at FC
  clear hf
  rw [h] at FC
  rw [hp] at PC
  clear h hp
  have e10 : (op == 10) = false := by rw [hk]; rfl
  have e68 : (op == 68) = false := by rw [hk]; rfl
  have e78 : (op == 78) = false := by rw [hk]; rfl
  have e79 : (op == 79) = false := by rw [hk]; rfl
  have e222 : (op == 222) = true := by rw [hk]; rfl
  have e223 : (op == 223) = false := by rw [hk]; rfl
  clear hk
  go_enter Try.func11, Try.ntmps11
  go_wp2_with (first
    | (go_at_call 25; refine (FC.out _).mono ?_; rintro e w1 ⟨rfl, n1, rfl⟩)
    | (go_at_call 26; refine (PC.out _).mono ?_; rintro e w2 ⟨rfl, hw2⟩; subst hw2))
  go_ret
  exact ⟨by first | rfl | (show Ending.returned (.bool (decide (op < 240))) = _; rw [decide_eq_false (by omega)]), _, rfl⟩
set_option maxRecDepth 1000000 in
set_option maxHeartbeats 4000000 in
theorem knows_at223 (op : Int) (w : World) (h : isOp op = true) (hp : privB op = false) (hk : op = 223) : Calls Try.prog 11 #[.int .i64 op] w fun e w' => e = .returned (.bool false) ∧ ∃ n, w' = w.drewN n := by
  have FC := Lib.hid (form_c op)
  have PC := Lib.hid (priv_c op)
  obtain ⟨f, hf⟩ : ∃ f, fmOf op = f := ⟨_, rfl⟩
  rw [hf] at FC
  clear hf
  rw [h] at FC
  rw [hp] at PC
  clear h hp
  have e10 : (op == 10) = false := by rw [hk]; rfl
  have e68 : (op == 68) = false := by rw [hk]; rfl
  have e78 : (op == 78) = false := by rw [hk]; rfl
  have e79 : (op == 79) = false := by rw [hk]; rfl
  have e222 : (op == 222) = false := by rw [hk]; rfl
  have e223 : (op == 223) = true := by rw [hk]; rfl
  clear hk
  go_enter Try.func11, Try.ntmps11
  go_wp2_with (first
    | (go_at_call 25; refine (FC.out _).mono ?_; rintro e w1 ⟨rfl, n1, rfl⟩)
    | (go_at_call 26; refine (PC.out _).mono ?_; rintro e w2 ⟨rfl, hw2⟩; subst hw2))
  go_ret
  exact ⟨by first | rfl | (show Ending.returned (.bool (decide (op < 240))) = _; rw [decide_eq_false (by omega)]), _, rfl⟩
theorem knows_c (op : Int) (w : World) : Calls Try.prog 11 #[.int .i64 op] w fun e w' => e = .returned (.bool (kn op)) ∧ ∃ n, w' = w.drewN n := by
  rw [← knB_eq]
  unfold knB
  cases h : isOp op
  · exact knows_no op w h
  cases hp : privB op
  case true => exact knows_priv op w h hp
  by_cases h10 : op = 10
  · rw [show decide (op ∈ [10, 68, 78, 79, 222, 223]) = true from decide_eq_true (by rw [h10]; decide)]
    exact knows_at10 op w h hp h10
  by_cases h68 : op = 68
  · rw [show decide (op ∈ [10, 68, 78, 79, 222, 223]) = true from decide_eq_true (by rw [h68]; decide)]
    exact knows_at68 op w h hp h68
  by_cases h78 : op = 78
  · rw [show decide (op ∈ [10, 68, 78, 79, 222, 223]) = true from decide_eq_true (by rw [h78]; decide)]
    exact knows_at78 op w h hp h78
  by_cases h79 : op = 79
  · rw [show decide (op ∈ [10, 68, 78, 79, 222, 223]) = true from decide_eq_true (by rw [h79]; decide)]
    exact knows_at79 op w h hp h79
  by_cases h222 : op = 222
  · rw [show decide (op ∈ [10, 68, 78, 79, 222, 223]) = true from decide_eq_true (by rw [h222]; decide)]
    exact knows_at222 op w h hp h222
  by_cases h223 : op = 223
  · rw [show decide (op ∈ [10, 68, 78, 79, 222, 223]) = true from decide_eq_true (by rw [h223]; decide)]
    exact knows_at223 op w h hp h223
  rw [show decide (op ∈ [10, 68, 78, 79, 222, 223]) = false from decide_eq_false (by simp only [List.mem_cons, List.not_mem_nil, or_false]; omega)]
  by_cases hl : op < 240
  · rw [decide_eq_true hl]; exact knows_yes op w h hp h10 h68 h78 h79 h222 h223 hl
  · rw [decide_eq_false hl]; exact knows_ge op w h hp h10 h68 h78 h79 h222 h223 hl
end Go.Proofs.Ythjdjbipfdigeaa

namespace Go.Proofs.Ythjdjbipfdigeaa
open Go.RowKit
set_option maxRecDepth 100000
set_option linter.unusedVariables false
set_option linter.unusedSimpArgs false

set_option maxHeartbeats 1000000 in
theorem limits_c (m k : Int) (M W P : Bool) (c i q g a : Int) (w : World) : Calls Try.prog 41 #[.agg #[.int .i64 m, .int .i64 k, .bool M, .bool W, .bool P, .int .i64 c, .int .i64 i, .int .i64 q, .int .i64 g, .int .i64 a]] w fun e w' => e = .returned (.agg #[.int .i64 m, .int .i64 255, .int .i64 k, .int .i64 15, .int .i64 c, .int .i64 65535, .int .i64 i, .int .i64 3, .int .i64 q, .int .i64 3, .int .i64 g, .int .i64 15, .int .i64 a, .int .i64 16777215]) ∧ Below w.heap.size w w' := by
  go_enter Try.func41, Try.ntmps41
  go_wp2
  go_returns
  exact ⟨rfl, ((Below.refl w.heap.size w).alloc (Nat.le_refl _) _).alloc (by simp) _⟩

theorem sz_limit : Try.prog.types[86].size = 2 := by kernel_rfl

set_option maxHeartbeats 2000000 in
theorem valid_c (m k : Int) (M W P : Bool) (c i q g a : Int) (w : World) : Calls Try.prog 29 #[.agg #[.int .i64 m, .int .i64 k, .bool M, .bool W, .bool P, .int .i64 c, .int .i64 i, .int .i64 q, .int .i64 g, .int .i64 a]] w fun e w' => e = .returned (.bool (pok m k c i q g a)) ∧ Below w.heap.size w w' := by
  go_enter Try.func29, Try.ntmps29
  go_wp2_with fail
  refine (limits_c m k M W P c i q g a _).mono ?_
  rintro e w1 ⟨rfl, hb⟩
  have HB := Lib.hid (show Below w.heap.size w w1 from ((Below.refl _ _).alloc (Nat.le_refl _) _).trans (hb.mono (by simp)))
  clear hb
  go_wp2_with fail
  go_loopw [7] (fun x wr => ∃ n : Nat, n ≤ 7 ∧ x = .int .i64 n ∧ Below w.heap.size w wr ∧ (([inr m 255, inr k 15, inr c 65535, inr i 3, inr q 3, inr g 15, inr a 16777215] : List Bool).take n).all id = true) (fun x _ => 7 - (intOf x).toNat)
  case atStart => exact ⟨0, Nat.zero_le _, rfl, HB.out, rfl⟩
  case round =>
    obtain ⟨n, hn, rfl, hbl, hall⟩ := hrel
    have HW := Lib.hid hbl
    have HS := Lib.hid hbl.size
    clear hbl
    match n, hn with
    | 0, _ =>
      have hx : (#[.int .i64 m, .int .i64 255, .int .i64 k, .int .i64 15, .int .i64 c, .int .i64 65535, .int .i64 i, .int .i64 3, .int .i64 q, .int .i64 3, .int .i64 g, .int .i64 15, .int .i64 a, .int .i64 16777215] : Array Value).extract (Int.toNat 0 * Try.prog.types[86].size) (Int.toNat 0 * Try.prog.types[86].size + Try.prog.types[86].size) = #[.int .i64 m, .int .i64 255] := by rw [sz_limit]; rfl
      have hp : True := by first | trivial | simpa using hall
      have HP := Lib.hid hp
      clear hall hp
      cases t : inr m 255
      · have hr := Lib.hid (show pok m k c i q g a = false from by simp [pok, t])
        have u := inr_no t
        clear t
        by_cases u0 : 0 ≤ m
        · have u1 : ¬ m ≤ 255 := by omega
          clear u
          go_wp2_with fail
          rename_i hK
          refine hK _ _ ?_
          rw [hx]
          go_wp2_with fail
          go_ret
          exact ⟨by rw [hr.out]; rfl, HW.out.alloc HS.out _⟩
        · clear u
          go_wp2_with fail
          rename_i hK
          refine hK _ _ ?_
          rw [hx]
          go_wp2_with fail
          go_ret
          exact ⟨by rw [hr.out]; rfl, HW.out.alloc HS.out _⟩
      · have ht := Lib.hid t
        have u0 := (inr_yes t).1
        have u1 := (inr_yes t).2
        clear t
        go_wp2_with fail
        rename_i hK
        refine hK _ _ ?_
        rw [hx]
        go_wp2_with fail
        go_roundw
        case rel => exact ⟨1, by omega, by go_num, HW.out.alloc HS.out _, by have := HP.out; simp [this, ht.out]⟩
        case measure => simp [intOf]
    | 1, _ =>
      have hx : (#[.int .i64 m, .int .i64 255, .int .i64 k, .int .i64 15, .int .i64 c, .int .i64 65535, .int .i64 i, .int .i64 3, .int .i64 q, .int .i64 3, .int .i64 g, .int .i64 15, .int .i64 a, .int .i64 16777215] : Array Value).extract (Int.toNat 1 * Try.prog.types[86].size) (Int.toNat 1 * Try.prog.types[86].size + Try.prog.types[86].size) = #[.int .i64 k, .int .i64 15] := by rw [sz_limit]; rfl
      have hp : inr m 255 = true := by first | trivial | simpa using hall
      have HP := Lib.hid hp
      clear hall hp
      cases t : inr k 15
      · have hr := Lib.hid (show pok m k c i q g a = false from by simp [pok, t])
        have u := inr_no t
        clear t
        by_cases u0 : 0 ≤ k
        · have u1 : ¬ k ≤ 15 := by omega
          clear u
          go_wp2_with fail
          rename_i hK
          refine hK _ _ ?_
          rw [hx]
          go_wp2_with fail
          go_ret
          exact ⟨by rw [hr.out]; rfl, HW.out.alloc HS.out _⟩
        · clear u
          go_wp2_with fail
          rename_i hK
          refine hK _ _ ?_
          rw [hx]
          go_wp2_with fail
          go_ret
          exact ⟨by rw [hr.out]; rfl, HW.out.alloc HS.out _⟩
      · have ht := Lib.hid t
        have u0 := (inr_yes t).1
        have u1 := (inr_yes t).2
        clear t
        go_wp2_with fail
        rename_i hK
        refine hK _ _ ?_
        rw [hx]
        go_wp2_with fail
        go_roundw
        case rel => exact ⟨2, by omega, by go_num, HW.out.alloc HS.out _, by have := HP.out; simp [this, ht.out]⟩
        case measure => simp [intOf]
    | 2, _ =>
      have hx : (#[.int .i64 m, .int .i64 255, .int .i64 k, .int .i64 15, .int .i64 c, .int .i64 65535, .int .i64 i, .int .i64 3, .int .i64 q, .int .i64 3, .int .i64 g, .int .i64 15, .int .i64 a, .int .i64 16777215] : Array Value).extract (Int.toNat 2 * Try.prog.types[86].size) (Int.toNat 2 * Try.prog.types[86].size + Try.prog.types[86].size) = #[.int .i64 c, .int .i64 65535] := by rw [sz_limit]; rfl
      have hp : inr m 255 = true ∧ inr k 15 = true := by first | trivial | simpa using hall
      have HP := Lib.hid hp
      clear hall hp
      cases t : inr c 65535
      · have hr := Lib.hid (show pok m k c i q g a = false from by simp [pok, t])
        have u := inr_no t
        clear t
        by_cases u0 : 0 ≤ c
        · have u1 : ¬ c ≤ 65535 := by omega
          clear u
          go_wp2_with fail
          rename_i hK
          refine hK _ _ ?_
          rw [hx]
          go_wp2_with fail
          go_ret
          exact ⟨by rw [hr.out]; rfl, HW.out.alloc HS.out _⟩
        · clear u
          go_wp2_with fail
          rename_i hK
          refine hK _ _ ?_
          rw [hx]
          go_wp2_with fail
          go_ret
          exact ⟨by rw [hr.out]; rfl, HW.out.alloc HS.out _⟩
      · have ht := Lib.hid t
        have u0 := (inr_yes t).1
        have u1 := (inr_yes t).2
        clear t
        go_wp2_with fail
        rename_i hK
        refine hK _ _ ?_
        rw [hx]
        go_wp2_with fail
        go_roundw
        case rel => exact ⟨3, by omega, by go_num, HW.out.alloc HS.out _, by have := HP.out; simp [this, ht.out]⟩
        case measure => simp [intOf]
    | 3, _ =>
      have hx : (#[.int .i64 m, .int .i64 255, .int .i64 k, .int .i64 15, .int .i64 c, .int .i64 65535, .int .i64 i, .int .i64 3, .int .i64 q, .int .i64 3, .int .i64 g, .int .i64 15, .int .i64 a, .int .i64 16777215] : Array Value).extract (Int.toNat 3 * Try.prog.types[86].size) (Int.toNat 3 * Try.prog.types[86].size + Try.prog.types[86].size) = #[.int .i64 i, .int .i64 3] := by rw [sz_limit]; rfl
      have hp : inr m 255 = true ∧ inr k 15 = true ∧ inr c 65535 = true := by first | trivial | simpa using hall
      have HP := Lib.hid hp
      clear hall hp
      cases t : inr i 3
      · have hr := Lib.hid (show pok m k c i q g a = false from by simp [pok, t])
        have u := inr_no t
        clear t
        by_cases u0 : 0 ≤ i
        · have u1 : ¬ i ≤ 3 := by omega
          clear u
          go_wp2_with fail
          rename_i hK
          refine hK _ _ ?_
          rw [hx]
          go_wp2_with fail
          go_ret
          exact ⟨by rw [hr.out]; rfl, HW.out.alloc HS.out _⟩
        · clear u
          go_wp2_with fail
          rename_i hK
          refine hK _ _ ?_
          rw [hx]
          go_wp2_with fail
          go_ret
          exact ⟨by rw [hr.out]; rfl, HW.out.alloc HS.out _⟩
      · have ht := Lib.hid t
        have u0 := (inr_yes t).1
        have u1 := (inr_yes t).2
        clear t
        go_wp2_with fail
        rename_i hK
        refine hK _ _ ?_
        rw [hx]
        go_wp2_with fail
        go_roundw
        case rel => exact ⟨4, by omega, by go_num, HW.out.alloc HS.out _, by have := HP.out; simp [this, ht.out]⟩
        case measure => simp [intOf]
    | 4, _ =>
      have hx : (#[.int .i64 m, .int .i64 255, .int .i64 k, .int .i64 15, .int .i64 c, .int .i64 65535, .int .i64 i, .int .i64 3, .int .i64 q, .int .i64 3, .int .i64 g, .int .i64 15, .int .i64 a, .int .i64 16777215] : Array Value).extract (Int.toNat 4 * Try.prog.types[86].size) (Int.toNat 4 * Try.prog.types[86].size + Try.prog.types[86].size) = #[.int .i64 q, .int .i64 3] := by rw [sz_limit]; rfl
      have hp : inr m 255 = true ∧ inr k 15 = true ∧ inr c 65535 = true ∧ inr i 3 = true := by first | trivial | simpa using hall
      have HP := Lib.hid hp
      clear hall hp
      cases t : inr q 3
      · have hr := Lib.hid (show pok m k c i q g a = false from by simp [pok, t])
        have u := inr_no t
        clear t
        by_cases u0 : 0 ≤ q
        · have u1 : ¬ q ≤ 3 := by omega
          clear u
          go_wp2_with fail
          rename_i hK
          refine hK _ _ ?_
          rw [hx]
          go_wp2_with fail
          go_ret
          exact ⟨by rw [hr.out]; rfl, HW.out.alloc HS.out _⟩
        · clear u
          go_wp2_with fail
          rename_i hK
          refine hK _ _ ?_
          rw [hx]
          go_wp2_with fail
          go_ret
          exact ⟨by rw [hr.out]; rfl, HW.out.alloc HS.out _⟩
      · have ht := Lib.hid t
        have u0 := (inr_yes t).1
        have u1 := (inr_yes t).2
        clear t
        go_wp2_with fail
        rename_i hK
        refine hK _ _ ?_
        rw [hx]
        go_wp2_with fail
        go_roundw
        case rel => exact ⟨5, by omega, by go_num, HW.out.alloc HS.out _, by have := HP.out; simp [this, ht.out]⟩
        case measure => simp [intOf]
    | 5, _ =>
      have hx : (#[.int .i64 m, .int .i64 255, .int .i64 k, .int .i64 15, .int .i64 c, .int .i64 65535, .int .i64 i, .int .i64 3, .int .i64 q, .int .i64 3, .int .i64 g, .int .i64 15, .int .i64 a, .int .i64 16777215] : Array Value).extract (Int.toNat 5 * Try.prog.types[86].size) (Int.toNat 5 * Try.prog.types[86].size + Try.prog.types[86].size) = #[.int .i64 g, .int .i64 15] := by rw [sz_limit]; rfl
      have hp : inr m 255 = true ∧ inr k 15 = true ∧ inr c 65535 = true ∧ inr i 3 = true ∧ inr q 3 = true := by first | trivial | simpa using hall
      have HP := Lib.hid hp
      clear hall hp
      cases t : inr g 15
      · have hr := Lib.hid (show pok m k c i q g a = false from by simp [pok, t])
        have u := inr_no t
        clear t
        by_cases u0 : 0 ≤ g
        · have u1 : ¬ g ≤ 15 := by omega
          clear u
          go_wp2_with fail
          rename_i hK
          refine hK _ _ ?_
          rw [hx]
          go_wp2_with fail
          go_ret
          exact ⟨by rw [hr.out]; rfl, HW.out.alloc HS.out _⟩
        · clear u
          go_wp2_with fail
          rename_i hK
          refine hK _ _ ?_
          rw [hx]
          go_wp2_with fail
          go_ret
          exact ⟨by rw [hr.out]; rfl, HW.out.alloc HS.out _⟩
      · have ht := Lib.hid t
        have u0 := (inr_yes t).1
        have u1 := (inr_yes t).2
        clear t
        go_wp2_with fail
        rename_i hK
        refine hK _ _ ?_
        rw [hx]
        go_wp2_with fail
        go_roundw
        case rel => exact ⟨6, by omega, by go_num, HW.out.alloc HS.out _, by have := HP.out; simp [this, ht.out]⟩
        case measure => simp [intOf]
    | 6, _ =>
      have hx : (#[.int .i64 m, .int .i64 255, .int .i64 k, .int .i64 15, .int .i64 c, .int .i64 65535, .int .i64 i, .int .i64 3, .int .i64 q, .int .i64 3, .int .i64 g, .int .i64 15, .int .i64 a, .int .i64 16777215] : Array Value).extract (Int.toNat 6 * Try.prog.types[86].size) (Int.toNat 6 * Try.prog.types[86].size + Try.prog.types[86].size) = #[.int .i64 a, .int .i64 16777215] := by rw [sz_limit]; rfl
      have hp : inr m 255 = true ∧ inr k 15 = true ∧ inr c 65535 = true ∧ inr i 3 = true ∧ inr q 3 = true ∧ inr g 15 = true := by first | trivial | simpa using hall
      have HP := Lib.hid hp
      clear hall hp
      cases t : inr a 16777215
      · have hr := Lib.hid (show pok m k c i q g a = false from by simp [pok, t])
        have u := inr_no t
        clear t
        by_cases u0 : 0 ≤ a
        · have u1 : ¬ a ≤ 16777215 := by omega
          clear u
          go_wp2_with fail
          rename_i hK
          refine hK _ _ ?_
          rw [hx]
          go_wp2_with fail
          go_ret
          exact ⟨by rw [hr.out]; rfl, HW.out.alloc HS.out _⟩
        · clear u
          go_wp2_with fail
          rename_i hK
          refine hK _ _ ?_
          rw [hx]
          go_wp2_with fail
          go_ret
          exact ⟨by rw [hr.out]; rfl, HW.out.alloc HS.out _⟩
      · have ht := Lib.hid t
        have u0 := (inr_yes t).1
        have u1 := (inr_yes t).2
        clear t
        go_wp2_with fail
        rename_i hK
        refine hK _ _ ?_
        rw [hx]
        go_wp2_with fail
        go_roundw
        case rel => exact ⟨7, by omega, by go_num, HW.out.alloc HS.out _, by have := HP.out; simp [this, ht.out]⟩
        case measure => simp [intOf]
    | 7, _ =>
      have hr := Lib.hid (show pok m k c i q g a = true from by simpa [pok] using hall)
      clear hall
      go_wp2_with fail
      go_ret
      exact ⟨by rw [hr.out]; rfl, HW.out⟩

end Go.Proofs.Ythjdjbipfdigeaa

namespace Go.Proofs.Ythjdjbipfdigeaa
open Go.RowKit
set_option maxRecDepth 100000
set_option linter.unusedVariables false
set_option linter.unusedSimpArgs false
/-- a block of cells -/
def Bk (W : World) (g : Nat) (T : TypeId) (cs : List Value) : Prop := W.heap[g]? = some (.cells cs.toArray T (0, 0))
section
variable {W W' : World} {g : Nat} {T : TypeId} {cs : List Value}
theorem Bk.cell (h : Bk W g T cs) {c : Nat} {v : Value} (hc : cs[c]? = some v) : W.cell? ⟨g, c, none⟩ = some v := by rw [cell_blk h c]; simpa using hc
theorem Bk.free (h : Bk W g T cs) (c : Nat) : W.frozen? ⟨g, c, none⟩ = false := by unfold Bk at h; simp [World.frozen?, h]
theorem Bk.lt (h : Bk W g T cs) : g < W.heap.size := (Array.getElem?_eq_some_iff.1 h).1
theorem Bk.kept (h : Bk W g T cs) (hk : W'.heap[g]? = W.heap[g]?) : Bk W' g T cs := hk.trans h
theorem Bk.keep (h : Bk W g T cs) (hb : Below W.heap.size W W') : Bk W' g T cs := h.kept (hb.block _ h.lt)
theorem Bk.ch {L : List Nat} (h : Bk W g T cs) (hb : Ch W W' L) (hg : g ∉ L) : Bk W' g T cs := h.kept (hb.block _ h.lt hg)
theorem Bk.alloc (h : Bk W g T cs) (o : Obj) : Bk (W.alloc o) g T cs := h.kept (Below.heap_alloc W o _ h.lt)
theorem Bk.new (W : World) (cs : List Value) (T : TypeId) : Bk (W.alloc (.cells cs.toArray T)) W.heap.size T cs := heap_alloc_new W _
theorem Bk.drewN (h : Bk W g T cs) (n : Nat) : Bk (W.drewN n) g T cs := h
theorem Bk.set_ (h : Bk W g T cs) (c : Nat) (v : Value) : Bk (W.setCell ⟨g, c, none⟩ v) g T (cs.set c v) := by
  unfold Bk at h ⊢
  rw [setCell_eq_setRow W g c _ _ (0, 0) _ h, setRow_heap W g _ _ _ _ h, List.setIfInBounds_toArray]
theorem Bk.other (h : Bk W g T cs) {p : Addr} (v : Value) (hp : p.block ≠ g) : Bk (W.setCell p v) g T cs := h.kept (Below.heap_setCell W p v g (Ne.symm hp))
theorem list_n {α : Type} : ∀ (n : Nat) (l : List α), l.length = n + 1 → ∃ a t, l = a :: t ∧ t.length = n
  | n, a :: t, h => ⟨a, t, rfl, by simpa using h⟩
theorem Bk.sets16 (h : Bk W g T cs) (hl : cs.length = 16) (v0 v1 v2 v3 v4 v5 v6 v7 v8 v9 v10 v11 v12 v13 v14 v15 : Value) : Bk ((((((((((((((((W.setCell ⟨g, 0, none⟩ v0).setCell ⟨g, 1, none⟩ v1).setCell ⟨g, 2, none⟩ v2).setCell ⟨g, 3, none⟩ v3).setCell ⟨g, 4, none⟩ v4).setCell ⟨g, 5, none⟩ v5).setCell ⟨g, 6, none⟩ v6).setCell ⟨g, 7, none⟩ v7).setCell ⟨g, 8, none⟩ v8).setCell ⟨g, 9, none⟩ v9).setCell ⟨g, 10, none⟩ v10).setCell ⟨g, 11, none⟩ v11).setCell ⟨g, 12, none⟩ v12).setCell ⟨g, 13, none⟩ v13).setCell ⟨g, 14, none⟩ v14).setCell ⟨g, 15, none⟩ v15) g T [v0, v1, v2, v3, v4, v5, v6, v7, v8, v9, v10, v11, v12, v13, v14, v15] := by
  obtain ⟨x0, l0, rfl, hl0⟩ := list_n _ cs hl
  obtain ⟨x1, l1, rfl, hl1⟩ := list_n _ l0 hl0
  obtain ⟨x2, l2, rfl, hl2⟩ := list_n _ l1 hl1
  obtain ⟨x3, l3, rfl, hl3⟩ := list_n _ l2 hl2
  obtain ⟨x4, l4, rfl, hl4⟩ := list_n _ l3 hl3
  obtain ⟨x5, l5, rfl, hl5⟩ := list_n _ l4 hl4
  obtain ⟨x6, l6, rfl, hl6⟩ := list_n _ l5 hl5
  obtain ⟨x7, l7, rfl, hl7⟩ := list_n _ l6 hl6
  obtain ⟨x8, l8, rfl, hl8⟩ := list_n _ l7 hl7
  obtain ⟨x9, l9, rfl, hl9⟩ := list_n _ l8 hl8
  obtain ⟨x10, l10, rfl, hl10⟩ := list_n _ l9 hl9
  obtain ⟨x11, l11, rfl, hl11⟩ := list_n _ l10 hl10
  obtain ⟨x12, l12, rfl, hl12⟩ := list_n _ l11 hl11
  obtain ⟨x13, l13, rfl, hl13⟩ := list_n _ l12 hl12
  obtain ⟨x14, l14, rfl, hl14⟩ := list_n _ l13 hl13
  obtain ⟨x15, l15, rfl, hl15⟩ := list_n _ l14 hl14
  obtain rfl := List.eq_nil_of_length_eq_zero hl15
  exact ((((((((((((((((h.set_ 0 v0).set_ 1 v1).set_ 2 v2).set_ 3 v3).set_ 4 v4).set_ 5 v5).set_ 6 v6).set_ 7 v7).set_ 8 v8).set_ 9 v9).set_ 10 v10).set_ 11 v11).set_ 12 v12).set_ 13 v13).set_ 14 v14).set_ 15 v15)
theorem Bk.oth16 (h : Bk W g T cs) {k : Nat} (hk : k ≠ g) (v0 v1 v2 v3 v4 v5 v6 v7 v8 v9 v10 v11 v12 v13 v14 v15 : Value) : Bk ((((((((((((((((W.setCell ⟨k, 0, none⟩ v0).setCell ⟨k, 1, none⟩ v1).setCell ⟨k, 2, none⟩ v2).setCell ⟨k, 3, none⟩ v3).setCell ⟨k, 4, none⟩ v4).setCell ⟨k, 5, none⟩ v5).setCell ⟨k, 6, none⟩ v6).setCell ⟨k, 7, none⟩ v7).setCell ⟨k, 8, none⟩ v8).setCell ⟨k, 9, none⟩ v9).setCell ⟨k, 10, none⟩ v10).setCell ⟨k, 11, none⟩ v11).setCell ⟨k, 12, none⟩ v12).setCell ⟨k, 13, none⟩ v13).setCell ⟨k, 14, none⟩ v14).setCell ⟨k, 15, none⟩ v15) g T cs := (Bk.other (p := ⟨k, 15, none⟩) (Bk.other (p := ⟨k, 14, none⟩) (Bk.other (p := ⟨k, 13, none⟩) (Bk.other (p := ⟨k, 12, none⟩) (Bk.other (p := ⟨k, 11, none⟩) (Bk.other (p := ⟨k, 10, none⟩) (Bk.other (p := ⟨k, 9, none⟩) (Bk.other (p := ⟨k, 8, none⟩) (Bk.other (p := ⟨k, 7, none⟩) (Bk.other (p := ⟨k, 6, none⟩) (Bk.other (p := ⟨k, 5, none⟩) (Bk.other (p := ⟨k, 4, none⟩) (Bk.other (p := ⟨k, 3, none⟩) (Bk.other (p := ⟨k, 2, none⟩) (Bk.other (p := ⟨k, 1, none⟩) (Bk.other (p := ⟨k, 0, none⟩) h v0 hk) v1 hk) v2 hk) v3 hk) v4 hk) v5 hk) v6 hk) v7 hk) v8 hk) v9 hk) v10 hk) v11 hk) v12 hk) v13 hk) v14 hk) v15 hk)
theorem ch_s16 {w : World} {L : List Nat} {k : Nat} (h : Ch w W L) (hk : w.heap.size ≤ k) (v0 v1 v2 v3 v4 v5 v6 v7 v8 v9 v10 v11 v12 v13 v14 v15 : Value) : Ch w ((((((((((((((((W.setCell ⟨k, 0, none⟩ v0).setCell ⟨k, 1, none⟩ v1).setCell ⟨k, 2, none⟩ v2).setCell ⟨k, 3, none⟩ v3).setCell ⟨k, 4, none⟩ v4).setCell ⟨k, 5, none⟩ v5).setCell ⟨k, 6, none⟩ v6).setCell ⟨k, 7, none⟩ v7).setCell ⟨k, 8, none⟩ v8).setCell ⟨k, 9, none⟩ v9).setCell ⟨k, 10, none⟩ v10).setCell ⟨k, 11, none⟩ v11).setCell ⟨k, 12, none⟩ v12).setCell ⟨k, 13, none⟩ v13).setCell ⟨k, 14, none⟩ v14).setCell ⟨k, 15, none⟩ v15) L := (Ch.setNew (p := ⟨k, 15, none⟩) (Ch.setNew (p := ⟨k, 14, none⟩) (Ch.setNew (p := ⟨k, 13, none⟩) (Ch.setNew (p := ⟨k, 12, none⟩) (Ch.setNew (p := ⟨k, 11, none⟩) (Ch.setNew (p := ⟨k, 10, none⟩) (Ch.setNew (p := ⟨k, 9, none⟩) (Ch.setNew (p := ⟨k, 8, none⟩) (Ch.setNew (p := ⟨k, 7, none⟩) (Ch.setNew (p := ⟨k, 6, none⟩) (Ch.setNew (p := ⟨k, 5, none⟩) (Ch.setNew (p := ⟨k, 4, none⟩) (Ch.setNew (p := ⟨k, 3, none⟩) (Ch.setNew (p := ⟨k, 2, none⟩) (Ch.setNew (p := ⟨k, 1, none⟩) (Ch.setNew (p := ⟨k, 0, none⟩) h hk v0) hk v1) hk v2) hk v3) hk v4) hk v5) hk v6) hk v7) hk v8) hk v9) hk v10) hk v11) hk v12) hk v13) hk v14) hk v15)
theorem Bk.sets10 (h : Bk W g T cs) (hl : cs.length = 10) (v0 v1 v2 v3 v4 v5 v6 v7 v8 v9 : Value) : Bk ((((((((((W.setCell ⟨g, 0, none⟩ v0).setCell ⟨g, 1, none⟩ v1).setCell ⟨g, 2, none⟩ v2).setCell ⟨g, 3, none⟩ v3).setCell ⟨g, 4, none⟩ v4).setCell ⟨g, 5, none⟩ v5).setCell ⟨g, 6, none⟩ v6).setCell ⟨g, 7, none⟩ v7).setCell ⟨g, 8, none⟩ v8).setCell ⟨g, 9, none⟩ v9) g T [v0, v1, v2, v3, v4, v5, v6, v7, v8, v9] := by
  obtain ⟨x0, l0, rfl, hl0⟩ := list_n _ cs hl
  obtain ⟨x1, l1, rfl, hl1⟩ := list_n _ l0 hl0
  obtain ⟨x2, l2, rfl, hl2⟩ := list_n _ l1 hl1
  obtain ⟨x3, l3, rfl, hl3⟩ := list_n _ l2 hl2
  obtain ⟨x4, l4, rfl, hl4⟩ := list_n _ l3 hl3
  obtain ⟨x5, l5, rfl, hl5⟩ := list_n _ l4 hl4
  obtain ⟨x6, l6, rfl, hl6⟩ := list_n _ l5 hl5
  obtain ⟨x7, l7, rfl, hl7⟩ := list_n _ l6 hl6
  obtain ⟨x8, l8, rfl, hl8⟩ := list_n _ l7 hl7
  obtain ⟨x9, l9, rfl, hl9⟩ := list_n _ l8 hl8
  obtain rfl := List.eq_nil_of_length_eq_zero hl9
  exact ((((((((((h.set_ 0 v0).set_ 1 v1).set_ 2 v2).set_ 3 v3).set_ 4 v4).set_ 5 v5).set_ 6 v6).set_ 7 v7).set_ 8 v8).set_ 9 v9)
theorem Bk.oth10 (h : Bk W g T cs) {k : Nat} (hk : k ≠ g) (v0 v1 v2 v3 v4 v5 v6 v7 v8 v9 : Value) : Bk ((((((((((W.setCell ⟨k, 0, none⟩ v0).setCell ⟨k, 1, none⟩ v1).setCell ⟨k, 2, none⟩ v2).setCell ⟨k, 3, none⟩ v3).setCell ⟨k, 4, none⟩ v4).setCell ⟨k, 5, none⟩ v5).setCell ⟨k, 6, none⟩ v6).setCell ⟨k, 7, none⟩ v7).setCell ⟨k, 8, none⟩ v8).setCell ⟨k, 9, none⟩ v9) g T cs := (Bk.other (p := ⟨k, 9, none⟩) (Bk.other (p := ⟨k, 8, none⟩) (Bk.other (p := ⟨k, 7, none⟩) (Bk.other (p := ⟨k, 6, none⟩) (Bk.other (p := ⟨k, 5, none⟩) (Bk.other (p := ⟨k, 4, none⟩) (Bk.other (p := ⟨k, 3, none⟩) (Bk.other (p := ⟨k, 2, none⟩) (Bk.other (p := ⟨k, 1, none⟩) (Bk.other (p := ⟨k, 0, none⟩) h v0 hk) v1 hk) v2 hk) v3 hk) v4 hk) v5 hk) v6 hk) v7 hk) v8 hk) v9 hk)
theorem ch_s10 {w : World} {L : List Nat} {k : Nat} (h : Ch w W L) (hk : w.heap.size ≤ k) (v0 v1 v2 v3 v4 v5 v6 v7 v8 v9 : Value) : Ch w ((((((((((W.setCell ⟨k, 0, none⟩ v0).setCell ⟨k, 1, none⟩ v1).setCell ⟨k, 2, none⟩ v2).setCell ⟨k, 3, none⟩ v3).setCell ⟨k, 4, none⟩ v4).setCell ⟨k, 5, none⟩ v5).setCell ⟨k, 6, none⟩ v6).setCell ⟨k, 7, none⟩ v7).setCell ⟨k, 8, none⟩ v8).setCell ⟨k, 9, none⟩ v9) L := (Ch.setNew (p := ⟨k, 9, none⟩) (Ch.setNew (p := ⟨k, 8, none⟩) (Ch.setNew (p := ⟨k, 7, none⟩) (Ch.setNew (p := ⟨k, 6, none⟩) (Ch.setNew (p := ⟨k, 5, none⟩) (Ch.setNew (p := ⟨k, 4, none⟩) (Ch.setNew (p := ⟨k, 3, none⟩) (Ch.setNew (p := ⟨k, 2, none⟩) (Ch.setNew (p := ⟨k, 1, none⟩) (Ch.setNew (p := ⟨k, 0, none⟩) h hk v0) hk v1) hk v2) hk v3) hk v4) hk v5) hk v6) hk v7) hk v8) hk v9)
end
/-- Exec's own blocks: the instruction, registers and status word as given, and the results' cells -/
structure XF (w W : World) (L : List Nat) (is rs : List Int) (ps nr np : List Value) (en : Value) : Prop where
  b0 : Bk W w.heap.size 25 (is.map (Value.int .i64))
  b1 : Bk W (w.heap.size + 1) 28 (rs.map (Value.int .u32))
  b2 : Bk W (w.heap.size + 1 + 1) 30 ps
  b3 : Bk W (w.heap.size + 1 + 1 + 1) 28 nr
  b4 : Bk W (w.heap.size + 1 + 1 + 1 + 1) 30 np
  b5 : Bk W (w.heap.size + 1 + 1 + 1 + 1 + 1) 3 [en]
  be : Ch w W L
theorem XF.start (w : World) (L : List Nat) (is rs : List Int) (ps nr np : List Value) (en : Value) : XF w ((((((w.alloc (.cells (is.map (Value.int .i64)).toArray 25)).alloc (.cells (rs.map (Value.int .u32)).toArray 28)).alloc (.cells ps.toArray 30)).alloc (.cells nr.toArray 28)).alloc (.cells np.toArray 30)).alloc (.cells [en].toArray 3)) L is rs ps nr np en := by
  refine ⟨?_, ?_, ?_, ?_, ?_, ?_, ?_⟩
  · exact (((((Bk.new w _ _).alloc _).alloc _).alloc _).alloc _).alloc _
  · have := Bk.new (w.alloc (.cells (is.map (Value.int .i64)).toArray 25)) (rs.map (Value.int .u32)) 28
    rw [World.size_alloc] at this
    exact (((this.alloc _).alloc _).alloc _).alloc _
  · have := Bk.new ((w.alloc (.cells (is.map (Value.int .i64)).toArray 25)).alloc (.cells (rs.map (Value.int .u32)).toArray 28)) ps 30
    rw [World.size_alloc, World.size_alloc] at this
    exact ((this.alloc _).alloc _).alloc _
  · have := Bk.new (((w.alloc (.cells (is.map (Value.int .i64)).toArray 25)).alloc (.cells (rs.map (Value.int .u32)).toArray 28)).alloc (.cells ps.toArray 30)) nr 28
    rw [World.size_alloc, World.size_alloc, World.size_alloc] at this
    exact (this.alloc _).alloc _
  · have := Bk.new ((((w.alloc (.cells (is.map (Value.int .i64)).toArray 25)).alloc (.cells (rs.map (Value.int .u32)).toArray 28)).alloc (.cells ps.toArray 30)).alloc (.cells nr.toArray 28)) np 30
    rw [World.size_alloc, World.size_alloc, World.size_alloc, World.size_alloc] at this
    exact this.alloc _
  · have := Bk.new (((((w.alloc (.cells (is.map (Value.int .i64)).toArray 25)).alloc (.cells (rs.map (Value.int .u32)).toArray 28)).alloc (.cells ps.toArray 30)).alloc (.cells nr.toArray 28)).alloc (.cells np.toArray 30)) [en] 3
    rw [World.size_alloc, World.size_alloc, World.size_alloc, World.size_alloc, World.size_alloc] at this
    exact this
  · exact ((((((Ch.refl w L).alloc _).alloc _).alloc _).alloc _).alloc _).alloc _
section
variable {w W W' : World} {L : List Nat} {is rs : List Int} {ps nr np : List Value} {en : Value}
theorem XF.keep (h : XF w W L is rs ps nr np en) (hb : Below W.heap.size W W') : XF w W' L is rs ps nr np en := ⟨h.b0.keep hb, h.b1.keep hb, h.b2.keep hb, h.b3.keep hb, h.b4.keep hb, h.b5.keep hb, h.be.trans (Ch.of_below hb L)⟩
theorem XF.drewN (h : XF w W L is rs ps nr np en) (n : Nat) : XF w (W.drewN n) L is rs ps nr np en := ⟨h.b0, h.b1, h.b2, h.b3, h.b4, h.b5, h.be.drewN n⟩
theorem XF.ch {g : Nat} (h : XF w W [] is rs ps nr np en) (hc : Ch W W' (g :: L)) (hL : ∀ k, k ∈ L → k < w.heap.size) (hg : w.heap.size + 6 ≤ g) : XF w W' L is rs ps nr np en := by
  have hn : ∀ k, w.heap.size ≤ k → k < w.heap.size + 6 → k ∉ g :: L := fun k h1 h2 hk => by
    rcases List.mem_cons.mp hk with hk | hk
    · omega
    · have := hL k hk; omega
  exact ⟨h.b0.ch hc (hn _ (by omega) (by omega)), h.b1.ch hc (hn _ (by omega) (by omega)), h.b2.ch hc (hn _ (by omega) (by omega)), h.b3.ch hc (hn _ (by omega) (by omega)), h.b4.ch hc (hn _ (by omega) (by omega)), h.b5.ch hc (hn _ (by omega) (by omega)), ⟨hc.os.trans h.be.os, hc.tape.trans h.be.tape, hc.output.trans h.be.output, Nat.le_trans h.be.size hc.size, fun k hk hkL => (hc.block k (Nat.lt_of_lt_of_le hk h.be.size) (fun hm => by rcases List.mem_cons.mp hm with hm | hm; (· omega); (· exact hkL hm))).trans (h.be.block k hk (by simp))⟩⟩
theorem XF.give (h : XF w W L is rs ps nr np en) (hr : nr.length = 16) (hp : np.length = 10) (e0 e1 e2 e3 e4 e5 e6 e7 e8 e9 e10 e11 e12 e13 e14 e15 q0 q1 q2 q3 q4 q5 q6 q7 q8 q9 e : Value) : XF w ((((((((((((((((((((((((((((W.setCell ⟨w.heap.size + 1 + 1 + 1, 0, none⟩ e0).setCell ⟨w.heap.size + 1 + 1 + 1, 1, none⟩ e1).setCell ⟨w.heap.size + 1 + 1 + 1, 2, none⟩ e2).setCell ⟨w.heap.size + 1 + 1 + 1, 3, none⟩ e3).setCell ⟨w.heap.size + 1 + 1 + 1, 4, none⟩ e4).setCell ⟨w.heap.size + 1 + 1 + 1, 5, none⟩ e5).setCell ⟨w.heap.size + 1 + 1 + 1, 6, none⟩ e6).setCell ⟨w.heap.size + 1 + 1 + 1, 7, none⟩ e7).setCell ⟨w.heap.size + 1 + 1 + 1, 8, none⟩ e8).setCell ⟨w.heap.size + 1 + 1 + 1, 9, none⟩ e9).setCell ⟨w.heap.size + 1 + 1 + 1, 10, none⟩ e10).setCell ⟨w.heap.size + 1 + 1 + 1, 11, none⟩ e11).setCell ⟨w.heap.size + 1 + 1 + 1, 12, none⟩ e12).setCell ⟨w.heap.size + 1 + 1 + 1, 13, none⟩ e13).setCell ⟨w.heap.size + 1 + 1 + 1, 14, none⟩ e14).setCell ⟨w.heap.size + 1 + 1 + 1, 15, none⟩ e15).setCell ⟨w.heap.size + 1 + 1 + 1 + 1, 0, none⟩ q0).setCell ⟨w.heap.size + 1 + 1 + 1 + 1, 1, none⟩ q1).setCell ⟨w.heap.size + 1 + 1 + 1 + 1, 2, none⟩ q2).setCell ⟨w.heap.size + 1 + 1 + 1 + 1, 3, none⟩ q3).setCell ⟨w.heap.size + 1 + 1 + 1 + 1, 4, none⟩ q4).setCell ⟨w.heap.size + 1 + 1 + 1 + 1, 5, none⟩ q5).setCell ⟨w.heap.size + 1 + 1 + 1 + 1, 6, none⟩ q6).setCell ⟨w.heap.size + 1 + 1 + 1 + 1, 7, none⟩ q7).setCell ⟨w.heap.size + 1 + 1 + 1 + 1, 8, none⟩ q8).setCell ⟨w.heap.size + 1 + 1 + 1 + 1, 9, none⟩ q9).setCell ⟨w.heap.size + 1 + 1 + 1 + 1 + 1, 0, none⟩ e)) L is rs ps [e0, e1, e2, e3, e4, e5, e6, e7, e8, e9, e10, e11, e12, e13, e14, e15] [q0, q1, q2, q3, q4, q5, q6, q7, q8, q9] e := by
  refine ⟨?_, ?_, ?_, ?_, ?_, ?_, ?_⟩
  · exact Bk.other (p := ⟨_, 0, none⟩) (Bk.oth10 (Bk.oth16 h.b0 (by omega) e0 e1 e2 e3 e4 e5 e6 e7 e8 e9 e10 e11 e12 e13 e14 e15) (by omega) q0 q1 q2 q3 q4 q5 q6 q7 q8 q9) e (by first | (simp; done) | (simp; omega))
  · exact Bk.other (p := ⟨_, 0, none⟩) (Bk.oth10 (Bk.oth16 h.b1 (by omega) e0 e1 e2 e3 e4 e5 e6 e7 e8 e9 e10 e11 e12 e13 e14 e15) (by omega) q0 q1 q2 q3 q4 q5 q6 q7 q8 q9) e (by first | (simp; done) | (simp; omega))
  · exact Bk.other (p := ⟨_, 0, none⟩) (Bk.oth10 (Bk.oth16 h.b2 (by omega) e0 e1 e2 e3 e4 e5 e6 e7 e8 e9 e10 e11 e12 e13 e14 e15) (by omega) q0 q1 q2 q3 q4 q5 q6 q7 q8 q9) e (by first | (simp; done) | (simp; omega))
  · exact Bk.other (p := ⟨_, 0, none⟩) (Bk.oth10 (Bk.sets16 h.b3 hr e0 e1 e2 e3 e4 e5 e6 e7 e8 e9 e10 e11 e12 e13 e14 e15) (by omega) q0 q1 q2 q3 q4 q5 q6 q7 q8 q9) e (by first | (simp; done) | (simp; omega))
  · exact Bk.other (p := ⟨_, 0, none⟩) (Bk.sets10 (Bk.oth16 h.b4 (by omega) e0 e1 e2 e3 e4 e5 e6 e7 e8 e9 e10 e11 e12 e13 e14 e15) hp q0 q1 q2 q3 q4 q5 q6 q7 q8 q9) e (by first | (simp; done) | (simp; omega))
  · exact Bk.set_ (Bk.oth10 (Bk.oth16 h.b5 (by omega) e0 e1 e2 e3 e4 e5 e6 e7 e8 e9 e10 e11 e12 e13 e14 e15) (by omega) q0 q1 q2 q3 q4 q5 q6 q7 q8 q9) 0 e
  · exact (ch_s10 (ch_s16 h.be (by omega) e0 e1 e2 e3 e4 e5 e6 e7 e8 e9 e10 e11 e12 e13 e14 e15) (by omega) q0 q1 q2 q3 q4 q5 q6 q7 q8 q9).setNew (p := ⟨_, 0, none⟩) (by first | (simp; done) | (simp; omega)) e
end
theorem below_s16 {w W0 W : World} {k : Nat} (h : Below w.heap.size W0 W) (hk : w.heap.size ≤ k) (v0 v1 v2 v3 v4 v5 v6 v7 v8 v9 v10 v11 v12 v13 v14 v15 : Value) : Below w.heap.size W0 ((((((((((((((((W.setCell ⟨k, 0, none⟩ v0).setCell ⟨k, 1, none⟩ v1).setCell ⟨k, 2, none⟩ v2).setCell ⟨k, 3, none⟩ v3).setCell ⟨k, 4, none⟩ v4).setCell ⟨k, 5, none⟩ v5).setCell ⟨k, 6, none⟩ v6).setCell ⟨k, 7, none⟩ v7).setCell ⟨k, 8, none⟩ v8).setCell ⟨k, 9, none⟩ v9).setCell ⟨k, 10, none⟩ v10).setCell ⟨k, 11, none⟩ v11).setCell ⟨k, 12, none⟩ v12).setCell ⟨k, 13, none⟩ v13).setCell ⟨k, 14, none⟩ v14).setCell ⟨k, 15, none⟩ v15) := (Below.setCell (p := ⟨k, 15, none⟩) (Below.setCell (p := ⟨k, 14, none⟩) (Below.setCell (p := ⟨k, 13, none⟩) (Below.setCell (p := ⟨k, 12, none⟩) (Below.setCell (p := ⟨k, 11, none⟩) (Below.setCell (p := ⟨k, 10, none⟩) (Below.setCell (p := ⟨k, 9, none⟩) (Below.setCell (p := ⟨k, 8, none⟩) (Below.setCell (p := ⟨k, 7, none⟩) (Below.setCell (p := ⟨k, 6, none⟩) (Below.setCell (p := ⟨k, 5, none⟩) (Below.setCell (p := ⟨k, 4, none⟩) (Below.setCell (p := ⟨k, 3, none⟩) (Below.setCell (p := ⟨k, 2, none⟩) (Below.setCell (p := ⟨k, 1, none⟩) (Below.setCell (p := ⟨k, 0, none⟩) h hk v0) hk v1) hk v2) hk v3) hk v4) hk v5) hk v6) hk v7) hk v8) hk v9) hk v10) hk v11) hk v12) hk v13) hk v14) hk v15)
theorem below_s10 {w W0 W : World} {k : Nat} (h : Below w.heap.size W0 W) (hk : w.heap.size ≤ k) (v0 v1 v2 v3 v4 v5 v6 v7 v8 v9 : Value) : Below w.heap.size W0 ((((((((((W.setCell ⟨k, 0, none⟩ v0).setCell ⟨k, 1, none⟩ v1).setCell ⟨k, 2, none⟩ v2).setCell ⟨k, 3, none⟩ v3).setCell ⟨k, 4, none⟩ v4).setCell ⟨k, 5, none⟩ v5).setCell ⟨k, 6, none⟩ v6).setCell ⟨k, 7, none⟩ v7).setCell ⟨k, 8, none⟩ v8).setCell ⟨k, 9, none⟩ v9) := (Below.setCell (p := ⟨k, 9, none⟩) (Below.setCell (p := ⟨k, 8, none⟩) (Below.setCell (p := ⟨k, 7, none⟩) (Below.setCell (p := ⟨k, 6, none⟩) (Below.setCell (p := ⟨k, 5, none⟩) (Below.setCell (p := ⟨k, 4, none⟩) (Below.setCell (p := ⟨k, 3, none⟩) (Below.setCell (p := ⟨k, 2, none⟩) (Below.setCell (p := ⟨k, 1, none⟩) (Below.setCell (p := ⟨k, 0, none⟩) h hk v0) hk v1) hk v2) hk v3) hk v4) hk v5) hk v6) hk v7) hk v8) hk v9)
theorem res_cells3 {P : Program} {fn : Func} {p q r : Tmp} {tp tq tr : TypeId} (h : fn.results = #[.cell p tp, .cell q tq, .cell r tr]) (tmps : Array Value) (w : World) (g g' g'' : Nat) (cs cs' : List Value) (v : Value) {T T' T'' : TypeId} {d d' : TypeDesc}
    (hp : tmps.getD p undef = .pointer (some ⟨g, 0, none⟩)) (hq : tmps.getD q undef = .pointer (some ⟨g', 0, none⟩)) (hr : tmps.getD r undef = .pointer (some ⟨g'', 0, none⟩)) (hg : Bk w g T cs) (hg' : Bk w g' T' cs') (hg'' : Bk w g'' T'' [v])
    (hu : P.underlying tp = some d) (hd : (match d with | .struct _ | .array _ _ => true | _ => false) = true) (hi : (P.info? tp).map (·.size) = some cs.length)
    (hu' : P.underlying tq = some d') (hd' : (match d' with | .struct _ | .array _ _ => true | _ => false) = true) (hi' : (P.info? tq).map (·.size) = some cs'.length)
    (hv : (loadVar tr ⟨g'', 0, none⟩).run P w = .ok v w) :
    (results fn tmps).run P w = .ok (.tuple #[.agg cs.toArray, .agg cs'.toArray, v]) w := by
  have hp' : tmps[p]?.getD undef = .pointer (some ⟨g, 0, none⟩) := by simpa using hp
  have hq' : tmps[q]?.getD undef = .pointer (some ⟨g', 0, none⟩) := by simpa using hq
  have hr' : tmps[r]?.getD undef = .pointer (some ⟨g'', 0, none⟩) := by simpa using hr
  simp [results, h, hp', hq', hr', asAddr, run_loadVar_row w g T tp cs.toArray (0, 0) d hg hu hd (by simpa using hi), run_loadVar_row w g' T' tq cs'.toArray (0, 0) d' hg' hu' hd' (by simpa using hi'), hv]
end Go.Proofs.Ythjdjbipfdigeaa

