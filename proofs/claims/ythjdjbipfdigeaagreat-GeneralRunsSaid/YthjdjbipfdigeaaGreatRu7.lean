/- Contracts and laws on the way to the statement, text 7 of 24. Conditions: as each states them. -/
import Derived.Test.YthjdjbipfdigeaaGreatRu1
import Derived.Test.YthjdjbipfdigeaaGreatRu3
import Derived.Test.YthjdjbipfdigeaaGreatRu6
import Derived.BigRegion
import Derived.Deep.RegionHeld3
import Derived.Test.YthjdjbipfdigeaaGreatProg
import Derived.Lib.Hide
import Derived.Outline
namespace Go.Proofs.YthjdjbipfdigeaaGreat
open Go.RowKit
set_option maxRecDepth 100000
set_option linter.unusedVariables false
set_option linter.unusedSimpArgs false
/-- a machine and its storage -/
structure MS (w : World) (g : Nat) (F : Foot) (is os rs : List Int) (ps : List Value) (ov : Bool) (bs ks : List Int) : Prop where
  m : Mc w g is os rs ps (.pointer (some ⟨F.g, 0, none⟩)) ov
  st : St 77 w F bs ks
  n0 : g ≠ F.g
  n1 : g ≠ F.gb
  n2 : g ≠ F.gk
section
variable {w w' : World} {g : Nat} {F : Foot} {is os rs : List Int} {ps : List Value} {ov : Bool} {bs ks : List Int}
theorem MS.keep (h : MS w g F is os rs ps ov bs ks) (hb : Below w.heap.size w w') : MS w' g F is os rs ps ov bs ks := ⟨h.m.keep hb, h.st.belowS hb, h.n0, h.n1, h.n2⟩
theorem MS.drewN (h : MS w g F is os rs ps ov bs ks) (n : Nat) : MS (w.drewN n) g F is os rs ps ov bs ks := ⟨h.m.drewN n, h.st.drewN n, h.n0, h.n1, h.n2⟩
theorem MS.ch (h : MS w g F is os rs ps ov bs ks) (hc : Ch w w' []) : MS w' g F is os rs ps ov bs ks := h.keep (hc.below (Nat.le_refl _) (by simp))
theorem MS.set_ (h : MS w g F is os rs ps ov bs ks) {is' os' rs' : List Int} {ps' : List Value} {ov' : Bool} (hm : Mc w' g is' os' rs' ps' (.pointer (some ⟨F.g, 0, none⟩)) ov') (hc : Ch w w' [g]) : MS w' g F is' os' rs' ps' ov' bs ks :=
  ⟨hm, h.st.keep (hc.kept h.st.ltg (by simp; exact fun e => h.n0 e.symm)) (hc.kept h.st.ltb (by simp; exact fun e => h.n1 e.symm)) (hc.kept h.st.ltk (by simp; exact fun e => h.n2 e.symm)), h.n0, h.n1, h.n2⟩
theorem MS.put_ (h : MS w g F is os rs ps ov bs ks) {bs' : List Int} (hs : St 77 w' F bs' ks) (hg : w.grownBy w' (some F.gb)) : MS w' g F is os rs ps ov bs' ks :=
  ⟨h.m.kept (hg.block g h.m.lt (by intro e; injection e with e; exact h.n1 e)), hs, h.n0, h.n1, h.n2⟩
theorem Ch.of_grown {b : Nat} (hg : w.grownBy w' (some b)) : Ch w w' [b] := ⟨hg.os, hg.tape, hg.output, hg.size, fun k hk hb => hg.block k hk (by intro e; injection e with e; exact hb (by simp [e]))⟩
end
set_option maxRecDepth 1000000 in
set_option maxHeartbeats 4000000 in
theorem need_ok (c : Int) (w : World) : Calls Tryz.prog 100 #[.bool true, .int .i64 c] w fun e w' => e = .returned (.tuple #[]) ∧ w = w' := by
  go_enter Tryz.func100, Tryz.ntmps100
  go_wp2
  go_end0
  exact ⟨rfl, rfl⟩
set_option maxRecDepth 1000000 in
set_option maxHeartbeats 4000000 in
theorem put_m (g : Nat) (F : Foot) (is os rs : List Int) (ps : List Value) (ov : Bool) (bs ks : List Int) (addr key : Int) (A : Option Addr) (len cap : Nat) (ys : List Int) (w : World) (h : MS w g F is os rs ps ov bs ks) (hk : ps.getD 1 undef = .int .i64 key) (hy : Byt w A len ys) (hl : (len : Int) ≤ 9223372036854775807) (hc : sCode (alP key) bs.length ks addr len = 0) : Calls Tryz.prog 105 #[.pointer (some ⟨g, 0, none⟩), .int .i64 addr, .slice A len cap] w fun e w' => e = .returned (.tuple #[]) ∧ MS w' g F is os rs ps ov (sPut (alP key) bs ks addr ys) ks ∧ Ch w w' [F.gb] := by
  have HH := Lib.hid h
  have HK := Lib.hid hk
  have PC := Lib.hid (put_c w.drew (h.st.drewN 1) addr key A len cap ys (hy.keep (below_draw w 1)) hl)
  rw [hc] at PC
  clear h hk hy hc
  go_enter Tryz.func105, Tryz.ntmps105
  go_upto_region 0 with fail
  refine wp_region_held_drew (S := (fun w' => Mc w' g is os rs ps (.pointer (some ⟨F.g, 0, none⟩)) ov)) (by kernel_rfl) ?_ (fun hHeld => ?_)
  · (try dsimp only); exact HH.out.m.drewN 1
  refine' takeL (i := 0) (v := _) rfl (by kernel_rfl) (by kernel_rfl) (by kernel_rfl) (fun _ _ _ h => h) (Or.inl ⟨by rfl, ?yy1⟩) (by assumption) ?rr1
  case yy1 => intro w hSw; (try dsimp only at hSw); go_simp; (try with_reducible rfl)
  try simp only [Act.put, List.setIfInBounds_toArray, List.set_cons_zero, List.set_cons_succ]
  refine' takeL (i := 1) (v := _) rfl (by kernel_rfl) (by kernel_rfl) (by kernel_rfl) (fun _ _ _ h => h) (Or.inl ⟨by rfl, ?yy2⟩) (by assumption) ?rr2
  case yy2 => intro w hSw; (try dsimp only at hSw); go_simp; (try with_reducible rfl)
  try simp only [Act.put, List.setIfInBounds_toArray, List.set_cons_zero, List.set_cons_succ]
  refine' takeL (i := 2) (v := _) rfl (by kernel_rfl) (by kernel_rfl) (by kernel_rfl) (fun _ _ _ h => h) (Or.inl ⟨by rfl, ?yy3⟩) (by assumption) ?rr3
  case yy3 => intro w hSw; (try dsimp only at hSw); go_simp; (try with_reducible rfl)
  try simp only [Act.put, List.setIfInBounds_toArray, List.set_cons_zero, List.set_cons_succ]
  refine' takeL (i := 3) (v := .pointer (some ⟨F.g, 0, none⟩)) rfl (by kernel_rfl) (by kernel_rfl) (by kernel_rfl) (fun _ _ _ h => h) (Or.inl ⟨by rfl, ?yy4⟩) (by assumption) ?rr4
  case yy4 => intro w hSw; (try dsimp only at hSw); have hq := hSw.cs; go_simp; (try with_reducible rfl)
  try simp only [Act.put, List.setIfInBounds_toArray, List.set_cons_zero, List.set_cons_succ]
  refine' takeL (i := 4) (v := _) rfl (by kernel_rfl) (by kernel_rfl) (by kernel_rfl) (fun _ _ _ h => h) (Or.inl ⟨by rfl, ?yy5⟩) (by assumption) ?rr5
  case yy5 => intro w hSw; (try dsimp only at hSw); go_simp; (try with_reducible rfl)
  try simp only [Act.put, List.setIfInBounds_toArray, List.set_cons_zero, List.set_cons_succ]
  refine' takeL (i := 5) (v := _) rfl (by kernel_rfl) (by kernel_rfl) (by kernel_rfl) (fun _ _ _ h => h) (Or.inl ⟨by rfl, ?yy6⟩) (by assumption) ?rr6
  case yy6 => intro w hSw; (try dsimp only at hSw); go_simp; (try with_reducible rfl)
  try simp only [Act.put, List.setIfInBounds_toArray, List.set_cons_zero, List.set_cons_succ]
  refine' takeL (i := 6) (v := _) rfl (by kernel_rfl) (by kernel_rfl) (by kernel_rfl) (fun _ _ _ h => h) (Or.inl ⟨by rfl, ?yy7⟩) (by assumption) ?rr7
  case yy7 => intro w hSw; (try dsimp only at hSw); go_simp; (try with_reducible rfl)
  try simp only [Act.put, List.setIfInBounds_toArray, List.set_cons_zero, List.set_cons_succ]
  refine' takeL (i := 7) (v := _) rfl (by kernel_rfl) (by kernel_rfl) (by kernel_rfl) (fun _ _ _ h => h) (Or.inl ⟨by rfl, ?yy8⟩) (by assumption) ?rr8
  case yy8 => intro w hSw; (try dsimp only at hSw); go_simp; (try with_reducible rfl)
  try simp only [Act.put, List.setIfInBounds_toArray, List.set_cons_zero, List.set_cons_succ]
  refine' takeL (i := 8) (v := _) rfl (by kernel_rfl) (by kernel_rfl) (by kernel_rfl) (fun _ _ _ h => h) (Or.inl ⟨by rfl, ?yy9⟩) (by assumption) ?rr9
  case yy9 => intro w hSw; (try dsimp only at hSw); go_simp; (try with_reducible rfl)
  try simp only [Act.put, List.setIfInBounds_toArray, List.set_cons_zero, List.set_cons_succ]
  refine' takeL (i := 9) (v := _) rfl (by kernel_rfl) (by kernel_rfl) (by kernel_rfl) (fun _ _ _ h => h) (Or.inl ⟨by rfl, ?yy10⟩) (by assumption) ?rr10
  case yy10 => intro w hSw; (try dsimp only at hSw); go_simp; (try with_reducible rfl)
  try simp only [Act.put, List.setIfInBounds_toArray, List.set_cons_zero, List.set_cons_succ]
  refine' takeL (i := 10) (v := .int .i64 key) rfl (by kernel_rfl) (by kernel_rfl) (by kernel_rfl) (fun _ _ _ h => h) (Or.inl ⟨by rfl, ?yy11⟩) (by assumption) ?rr11
  case yy11 => intro w hSw; (try dsimp only at hSw); have hq := hSw.cp (n := 1) (by omega); rw [HK.out] at hq; go_simp; (try with_reducible rfl)
  try simp only [Act.put, List.setIfInBounds_toArray, List.set_cons_zero, List.set_cons_succ]
  refine wpAnyH_ready (rs := [11]) (by kernel_rfl) (by simp) ?_
  refine consL rfl (fun K hK => ?_) AllReadyH.nil
  go_simp
  go_at_call 12
  refine PC.out.mono ?_
  rintro e w5 ⟨rfl, hS, hG⟩
  have M5 := Lib.hid ((HH.out.drewN 1).put_ hS hG)
  have C5 := Lib.hid (show Ch w w5 [F.gb] from ((Ch.refl w [F.gb]).drewN 1).trans (Ch.of_grown hG))
  clear hS hG hHeld
  go_wp2_with fail
  refine hK.out _ _ ?_ (fun hHeld => ?_)
  · (try dsimp only); exact M5.out.m
  clear hK K
  try simp only [Act.put, List.setIfInBounds_toArray, List.set_cons_zero, List.set_cons_succ]
  refine' takeL (i := 12) (v := _) rfl (by kernel_rfl) (by kernel_rfl) (by kernel_rfl) (fun _ _ _ h => h) (Or.inl ⟨by rfl, ?yy12⟩) (by assumption) ?rr12
  case yy12 => intro w hSw; (try dsimp only at hSw); go_simp; (try with_reducible rfl)
  try simp only [Act.put, List.setIfInBounds_toArray, List.set_cons_zero, List.set_cons_succ]
  refine wpAnyH_done (by kernel_rfl) ?_ _
  clear hHeld
  go_wp2_with (go_at_call 100; refine (need_ok _ _).mono ?_; rintro e wx ⟨rfl, hwx⟩; subst hwx)
  go_end0
  exact ⟨rfl, M5.out, C5.out⟩
set_option maxRecDepth 1000000 in
set_option maxHeartbeats 4000000 in
theorem fetch_m (g : Nat) (F : Foot) (is os rs : List Int) (ps : List Value) (ov : Bool) (bs ks : List Int) (addr n key : Int) (w : World) (h : MS w g F is os rs ps ov bs ks) (hk : ps.getD 1 undef = .int .i64 key) (hc : sCode (alF key) bs.length ks addr n = 0) : Calls Tryz.prog 108 #[.pointer (some ⟨g, 0, none⟩), .int .i64 addr, .int .i64 n] w fun e w' => ∃ A m cap, e = .returned (.slice A m cap) ∧ Own w' w.heap.size (.slice A m cap) m (sGet bs addr n) ∧ MS w' g F is os rs ps ov bs ks ∧ Ch w w' [] := by
  have HH := Lib.hid h
  have HK := Lib.hid hk
  have FC := Lib.hid (fetch_c w.drew (h.st.drewN 1) addr n key)
  unfold sFet at FC
  rw [hc, if_pos rfl] at FC
  clear h hk hc
  go_enter Tryz.func108, Tryz.ntmps108
  go_upto_region 1 with fail
  refine wp_region_held_drew (S := (fun w' => Mc w' g is os rs ps (.pointer (some ⟨F.g, 0, none⟩)) ov)) (by kernel_rfl) ?_ (fun hHeld => ?_)
  · (try dsimp only); exact HH.out.m.drewN 1
  refine' takeL (i := 0) (v := _) rfl (by kernel_rfl) (by kernel_rfl) (by kernel_rfl) (fun _ _ _ h => h) (Or.inl ⟨by rfl, ?yy13⟩) (by assumption) ?rr13
  case yy13 => intro w hSw; (try dsimp only at hSw); go_simp; (try with_reducible rfl)
  try simp only [Act.put, List.setIfInBounds_toArray, List.set_cons_zero, List.set_cons_succ]
  refine' takeL (i := 1) (v := _) rfl (by kernel_rfl) (by kernel_rfl) (by kernel_rfl) (fun _ _ _ h => h) (Or.inl ⟨by rfl, ?yy14⟩) (by assumption) ?rr14
  case yy14 => intro w hSw; (try dsimp only at hSw); go_simp; (try with_reducible rfl)
  try simp only [Act.put, List.setIfInBounds_toArray, List.set_cons_zero, List.set_cons_succ]
  refine' takeL (i := 2) (v := _) rfl (by kernel_rfl) (by kernel_rfl) (by kernel_rfl) (fun _ _ _ h => h) (Or.inl ⟨by rfl, ?yy15⟩) (by assumption) ?rr15
  case yy15 => intro w hSw; (try dsimp only at hSw); go_simp; (try with_reducible rfl)
  try simp only [Act.put, List.setIfInBounds_toArray, List.set_cons_zero, List.set_cons_succ]
  refine' takeL (i := 3) (v := .pointer (some ⟨F.g, 0, none⟩)) rfl (by kernel_rfl) (by kernel_rfl) (by kernel_rfl) (fun _ _ _ h => h) (Or.inl ⟨by rfl, ?yy16⟩) (by assumption) ?rr16
  case yy16 => intro w hSw; (try dsimp only at hSw); have hq := hSw.cs; go_simp; (try with_reducible rfl)
  try simp only [Act.put, List.setIfInBounds_toArray, List.set_cons_zero, List.set_cons_succ]
  refine' takeL (i := 4) (v := _) rfl (by kernel_rfl) (by kernel_rfl) (by kernel_rfl) (fun _ _ _ h => h) (Or.inl ⟨by rfl, ?yy17⟩) (by assumption) ?rr17
  case yy17 => intro w hSw; (try dsimp only at hSw); go_simp; (try with_reducible rfl)
  try simp only [Act.put, List.setIfInBounds_toArray, List.set_cons_zero, List.set_cons_succ]
  refine' takeL (i := 5) (v := _) rfl (by kernel_rfl) (by kernel_rfl) (by kernel_rfl) (fun _ _ _ h => h) (Or.inl ⟨by rfl, ?yy18⟩) (by assumption) ?rr18
  case yy18 => intro w hSw; (try dsimp only at hSw); go_simp; (try with_reducible rfl)
  try simp only [Act.put, List.setIfInBounds_toArray, List.set_cons_zero, List.set_cons_succ]
  refine' takeL (i := 6) (v := _) rfl (by kernel_rfl) (by kernel_rfl) (by kernel_rfl) (fun _ _ _ h => h) (Or.inl ⟨by rfl, ?yy19⟩) (by assumption) ?rr19
  case yy19 => intro w hSw; (try dsimp only at hSw); go_simp; (try with_reducible rfl)
  try simp only [Act.put, List.setIfInBounds_toArray, List.set_cons_zero, List.set_cons_succ]
  refine' takeL (i := 7) (v := _) rfl (by kernel_rfl) (by kernel_rfl) (by kernel_rfl) (fun _ _ _ h => h) (Or.inl ⟨by rfl, ?yy20⟩) (by assumption) ?rr20
  case yy20 => intro w hSw; (try dsimp only at hSw); go_simp; (try with_reducible rfl)
  try simp only [Act.put, List.setIfInBounds_toArray, List.set_cons_zero, List.set_cons_succ]
  refine' takeL (i := 8) (v := _) rfl (by kernel_rfl) (by kernel_rfl) (by kernel_rfl) (fun _ _ _ h => h) (Or.inl ⟨by rfl, ?yy21⟩) (by assumption) ?rr21
  case yy21 => intro w hSw; (try dsimp only at hSw); go_simp; (try with_reducible rfl)
  try simp only [Act.put, List.setIfInBounds_toArray, List.set_cons_zero, List.set_cons_succ]
  refine' takeL (i := 9) (v := _) rfl (by kernel_rfl) (by kernel_rfl) (by kernel_rfl) (fun _ _ _ h => h) (Or.inl ⟨by rfl, ?yy22⟩) (by assumption) ?rr22
  case yy22 => intro w hSw; (try dsimp only at hSw); go_simp; (try with_reducible rfl)
  try simp only [Act.put, List.setIfInBounds_toArray, List.set_cons_zero, List.set_cons_succ]
  refine' takeL (i := 10) (v := .int .i64 key) rfl (by kernel_rfl) (by kernel_rfl) (by kernel_rfl) (fun _ _ _ h => h) (Or.inl ⟨by rfl, ?yy23⟩) (by assumption) ?rr23
  case yy23 => intro w hSw; (try dsimp only at hSw); have hq := hSw.cp (n := 1) (by omega); rw [HK.out] at hq; go_simp; (try with_reducible rfl)
  try simp only [Act.put, List.setIfInBounds_toArray, List.set_cons_zero, List.set_cons_succ]
  refine wpAnyH_ready (rs := [11]) (by kernel_rfl) (by simp) ?_
  refine consL rfl (fun K hK => ?_) AllReadyH.nil
  go_simp
  go_at_call 157
  refine FC.out.mono ?_
  rintro e w5 ⟨A, m, cap, rfl, hO, hb⟩
  have M5 := Lib.hid ((HH.out.drewN 1).keep hb)
  have C5 := Lib.hid (show Ch w w5 [] from ((Ch.refl w []).drewN 1).trans (Ch.of_below hb []))
  have O5 := Lib.hid hO
  clear hO hb hHeld
  go_wp2_with fail
  refine hK.out _ _ ?_ (fun hHeld => ?_)
  · (try dsimp only); exact M5.out.m
  clear hK K
  try simp only [Act.put, List.setIfInBounds_toArray, List.set_cons_zero, List.set_cons_succ]
  refine' takeL (i := 12) (v := _) rfl (by kernel_rfl) (by kernel_rfl) (by kernel_rfl) (fun _ _ _ h => h) (Or.inl ⟨by rfl, ?yy24⟩) (by assumption) ?rr24
  case yy24 => intro w hSw; (try dsimp only at hSw); go_simp; (try with_reducible rfl)
  try simp only [Act.put, List.setIfInBounds_toArray, List.set_cons_zero, List.set_cons_succ]
  refine' takeL (i := 13) (v := _) rfl (by kernel_rfl) (by kernel_rfl) (by kernel_rfl) (fun _ _ _ h => h) (Or.inl ⟨by rfl, ?yy25⟩) (by assumption) ?rr25
  case yy25 => intro w hSw; (try dsimp only at hSw); go_simp; (try with_reducible rfl)
  try simp only [Act.put, List.setIfInBounds_toArray, List.set_cons_zero, List.set_cons_succ]
  refine' takeL (i := 14) (v := _) rfl (by kernel_rfl) (by kernel_rfl) (by kernel_rfl) (fun _ _ _ h => h) (Or.inl ⟨by rfl, ?yy26⟩) (by assumption) ?rr26
  case yy26 => intro w hSw; (try dsimp only at hSw); go_simp; (try with_reducible rfl)
  try simp only [Act.put, List.setIfInBounds_toArray, List.set_cons_zero, List.set_cons_succ]
  refine' takeL (i := 15) (v := _) rfl (by kernel_rfl) (by kernel_rfl) (by kernel_rfl) (fun _ _ _ h => h) (Or.inl ⟨by rfl, ?yy27⟩) (by assumption) ?rr27
  case yy27 => intro w hSw; (try dsimp only at hSw); go_simp; (try with_reducible rfl)
  try simp only [Act.put, List.setIfInBounds_toArray, List.set_cons_zero, List.set_cons_succ]
  refine' takeL (i := 16) (v := _) rfl (by kernel_rfl) (by kernel_rfl) (by kernel_rfl) (fun _ _ _ h => h) (Or.inl ⟨by rfl, ?yy28⟩) (by assumption) ?rr28
  case yy28 => intro w hSw; (try dsimp only at hSw); go_simp; (try with_reducible rfl)
  try simp only [Act.put, List.setIfInBounds_toArray, List.set_cons_zero, List.set_cons_succ]
  refine wpAnyH_done (by kernel_rfl) ?_ _
  clear hHeld
  go_wp2_with (go_at_call 100; refine (need_ok _ _).mono ?_; rintro e wx ⟨rfl, hwx⟩; subst hwx)
  go_ret
  exact ⟨A, m, cap, by rfl, O5.out, M5.out, C5.out⟩
set_option maxRecDepth 1000000 in
set_option maxHeartbeats 4000000 in
theorem full_c (v : Int) (w : World) (v0 : 0 ≤ v) (v1 : v ≤ 4294967295) : Calls Tryz.prog 107 #[.int .u32 v] w fun e w' => e = .returned (.slice (some ⟨w.heap.size, 0, none⟩) 4 4) ∧ w' = w.alloc (.cells #[.int .u8 (v / 16777216), .int .u8 (v / 65536 % 256), .int .u8 (v / 256 % 256), .int .u8 (v % 256)] 5) := by
  go_enter Tryz.func107, Tryz.ntmps107
  go_wp2
  trace_state
  go_ret
  exact ⟨by rfl, by rfl⟩
end Go.Proofs.YthjdjbipfdigeaaGreat

namespace Go.Proofs.YthjdjbipfdigeaaGreat
open Go.RowKit
set_option maxRecDepth 100000
set_option linter.unusedVariables false
set_option linter.unusedSimpArgs false
def In.z (I : In) : List Int := [I.op, I.fm, I.n, I.k, I.x, I.b, I.d, I.b', I.d', I.l, I.l', I.i]
def Ps.to (p : Ps) (cc pg ad : Int) : Ps := { p with cc := cc, pg := pg, ad := ad }
/-- the machine and its storage; since w0 only the machine's block and the storage's bytes may have changed -/
structure PS (w0 w : World) (g : Nat) (F : Foot) (I : In) (os rs : List Int) (p q : Ps) (ov : Bool) (bs ks : List Int) : Prop where
  m : Mc w g I.z os rs q.v (.pointer (some ⟨F.g, 0, none⟩)) ov
  st : St 77 w F bs ks
  b : Ch w0 w [g, F.gb]
  n0 : g ≠ F.g
  n1 : g ≠ F.gb
  n2 : g ≠ F.gk
  ro : ∀ z ∈ os, 0 ≤ z ∧ z ≤ 4294967295
  ix : I.ok
  hq : q = p.to q.cc q.pg q.ad
/-- a code that is thrown -/
def Pn (c : Int) : Ending := .panicked [{ v := .iface 59 (.int .i64 c), recovered := false }]
/-- a call's two ways to end: a value, a code that is thrown -/
def Th (A : Value → World → Prop) (c : Int) (B : World → Prop) (e : Ending) (w' : World) : Prop := (∃ v, e = .returned v ∧ A v w') ∨ (e = .panicked [{ v := .iface 59 (.int .i64 c), recovered := false }] ∧ B w')
theorem Th.ok {A : Value → World → Prop} {c : Int} {B : World → Prop} {v : Value} {w : World} (h : A v w) : Th A c B (.returned v) w := .inl ⟨v, rfl, h⟩
theorem Th.no {A : Value → World → Prop} {c c' : Int} {B : World → Prop} {w : World} (hc : c' = c) (h : B w) : Th A c B (.panicked [{ v := .iface 59 (.int .i64 c'), recovered := false }]) w := .inr ⟨by rw [hc], h⟩
section
variable {w0 w w' : World} {g : Nat} {F : Foot} {I : In} {os rs : List Int} {p q : Ps} {ov : Bool} {bs ks : List Int}
theorem PS.lt (h : PS w0 w g F I os rs p q ov bs ks) : g < w.heap.size := h.m.lt
theorem PS.ms (h : PS w0 w g F I os rs p q ov bs ks) : MS w g F I.z os rs q.v ov bs ks := ⟨h.m, h.st, h.n0, h.n1, h.n2⟩
theorem PS.fz (h : PS w0 w g F I os rs p q ov bs ks) (j : Nat) : w.frozen? ⟨g, j, none⟩ = false := h.m.free j
theorem PS.keep (h : PS w0 w g F I os rs p q ov bs ks) (hb : Below w.heap.size w w') : PS w0 w' g F I os rs p q ov bs ks := { h with m := h.m.keep hb, st := h.st.belowS hb, b := h.b.trans (Ch.of_below hb _) }
theorem PS.drewN (h : PS w0 w g F I os rs p q ov bs ks) (n : Nat) : PS w0 (w.drewN n) g F I os rs p q ov bs ks := h.keep (dBelow' (Below.refl _ _) n)
theorem PS.drew (h : PS w0 w g F I os rs p q ov bs ks) : PS w0 w.drew g F I os rs p q ov bs ks := h.drewN 1
theorem PS.mc {rs' : List Int} {q' : Ps} {ov' : Bool} (h : PS w0 w g F I os rs p q ov bs ks) {j : Nat} {v : Value} (hm : Mc (w.setCell ⟨g, j, none⟩ v) g I.z os rs' q'.v (.pointer (some ⟨F.g, 0, none⟩)) ov') (hq : q' = p.to q'.cc q'.pg q'.ad) : PS w0 (w.setCell ⟨g, j, none⟩ v) g F I os rs' p q' ov' bs ks :=
  { h with m := hm, hq := hq, st := h.st.keep (Below.heap_setCell w _ v _ h.n0.symm) (Below.heap_setCell w _ v _ h.n1.symm) (Below.heap_setCell w _ v _ h.n2.symm), b := h.b.setCell (by simp) v }
theorem PS.setr (h : PS w0 w g F I os rs p q ov bs ks) {n : Nat} (hn : n < 16) (v : Int) : PS w0 (w.setCell ⟨g, 28 + n, none⟩ (.int .u32 v)) g F I os (rs.set n v) p q ov bs ks := h.mc (h.m.setr hn v) h.hq
theorem PS.setcc (h : PS w0 w g F I os rs p q ov bs ks) (v : Int) : PS w0 (w.setCell ⟨g, 51, none⟩ (.int .i64 v)) g F I os rs p { q with cc := v } ov bs ks := h.mc (h.m.setp (n := 7) (by omega) _) (by have := h.hq; unfold Ps.to at this ⊢; rw [this])
theorem PS.setpg (h : PS w0 w g F I os rs p q ov bs ks) (v : Int) : PS w0 (w.setCell ⟨g, 52, none⟩ (.int .i64 v)) g F I os rs p { q with pg := v } ov bs ks := h.mc (h.m.setp (n := 8) (by omega) _) (by have := h.hq; unfold Ps.to at this ⊢; rw [this])
theorem PS.setad (h : PS w0 w g F I os rs p q ov bs ks) (v : Int) : PS w0 (w.setCell ⟨g, 53, none⟩ (.int .i64 v)) g F I os rs p { q with ad := v } ov bs ks := h.mc (h.m.setp (n := 9) (by omega) _) (by have := h.hq; unfold Ps.to at this ⊢; rw [this])
theorem PS.setov (h : PS w0 w g F I os rs p q ov bs ks) (v : Bool) : PS w0 (w.setCell ⟨g, 55, none⟩ (.bool v)) g F I os rs p q v bs ks := h.mc (h.m.setv v) h.hq
theorem PS.put_ (h : PS w0 w g F I os rs p q ov bs ks) {bs' : List Int} (hs : St 77 w' F bs' ks) (hg : w.grownBy w' (some F.gb)) : PS w0 w' g F I os rs p q ov bs' ks :=
  { h with m := (h.ms.put_ hs hg).m, st := hs, b := h.b.trans ((Ch.of_grown hg).mono (by simp)) }
theorem PS.oth (h : PS w0 w g F I os rs p q ov bs ks) {a : Addr} (v : Value) (ha : a.block ≠ g ∧ a.block ≠ F.g ∧ a.block ≠ F.gb ∧ a.block ≠ F.gk) (h0 : w0.heap.size ≤ a.block) : PS w0 (w.setCell a v) g F I os rs p q ov bs ks :=
  { h with m := h.m.other v ha.1, st := h.st.keep (Below.heap_setCell w a v F.g (Ne.symm ha.2.1)) (Below.heap_setCell w a v F.gb (Ne.symm ha.2.2.1)) (Below.heap_setCell w a v F.gk (Ne.symm ha.2.2.2)), b := h.b.setNew h0 v }
theorem PS.rb (h : PS w0 w g F I os rs p q ov bs ks) : PS w w g F I os rs p q ov bs ks := { h with b := Ch.refl _ _ }
theorem PS.re {rs' : List Int} {q' : Ps} {ov' : Bool} {bs' : List Int} (h : PS w0 w g F I os rs p q ov bs ks) (h' : PS w w' g F I os rs' p q' ov' bs' ks) : PS w0 w' g F I os rs' p q' ov' bs' ks := { h' with b := h.b.trans h'.b }
/-- a walk begins: what the machine holds, as facts -/
theorem PS.opn {X : Prop} {u v o f : Int} (h : PS w0 w g F I os rs p q ov bs ks) (hX : Hid (PS w0 w g F I os rs p q ov bs ks) → w.cell? ⟨g, 0, none⟩ = some (.int .i64 o) → w.cell? ⟨g, 1, none⟩ = some (.int .i64 f) → w.cell? ⟨g, 2, none⟩ = some (.int .i64 (I.n : Int)) → w.cell? ⟨g, 3, none⟩ = some (.int .i64 (I.k : Int)) → w.cell? ⟨g, 9, none⟩ = some (.int .i64 (I.l : Int)) → w.cell? ⟨g, 11, none⟩ = some (.int .i64 I.i) →
    w.cell? ⟨g, 45, none⟩ = some (.int .i64 p.key) → w.cell? ⟨g, 50, none⟩ = some (.int .i64 p.il) → w.cell? ⟨g, 51, none⟩ = some (.int .i64 q.cc) → w.cell? ⟨g, 52, none⟩ = some (.int .i64 q.pg) → w.cell? ⟨g, 53, none⟩ = some (.int .i64 q.ad) → w.cell? ⟨g, 54, none⟩ = some (.pointer (some ⟨F.g, 0, none⟩)) → w.cell? ⟨g, 55, none⟩ = some (.bool ov) → w.cell? ⟨g, 12 + I.n, none⟩ = some (.int .u32 u) → w.cell? ⟨g, 12 + I.k, none⟩ = some (.int .u32 v) → (∀ j, w.frozen? ⟨g, j, none⟩ = false) → (I.n : Int) < 16 → (I.k : Int) < 16 → X) (hu : Hid (os.getD I.n 0 = u) := by first | assumption | exact Lib.hid rfl) (hv : Hid (os.getD I.k 0 = v) := by first | assumption | exact Lib.hid rfl) (ho : Hid (I.op = o) := by first | assumption | exact Lib.hid rfl) (hf : Hid (I.fm = f) := by first | assumption | exact Lib.hid rfl) : X :=
  hX (Lib.hid h) (ho.out ▸ h.m.ci (c := 0) (by omega)) (hf.out ▸ h.m.ci (c := 1) (by omega)) (h.m.ci (c := 2) (by omega)) (h.m.ci (c := 3) (by omega)) (h.m.ci (c := 9) (by omega)) (h.m.ci (c := 11) (by omega)) (by have := h.m.cp (n := 1) (by omega); rw [h.hq] at this; exact this) (by have := h.m.cp (n := 6) (by omega); rw [h.hq] at this; exact this) (h.m.cp (n := 7) (by omega)) (h.m.cp (n := 8) (by omega)) (h.m.cp (n := 9) (by omega)) h.m.cs h.m.cv (hu.out ▸ h.m.co h.ix.n) (hv.out ▸ h.m.co h.ix.k) h.fz (by have := h.ix.n; omega) (by have := h.ix.k; omega)
/-- what every region of the machine's methods may rely on -/
def Sy (w0 : World) (g : Nat) (F : Foot) (I : In) (os : List Int) (p : Ps) (w : World) : Prop := ∃ rs q ov bs ks, PS w0 w g F I os rs p q ov bs ks
/-- .. where the status word is known -/
def Sz (w0 : World) (g : Nat) (F : Foot) (I : In) (os : List Int) (p q : Ps) (w : World) : Prop := ∃ rs ov bs ks, PS w0 w g F I os rs p q ov bs ks
theorem PS.z (h : PS w0 w g F I os rs p q ov bs ks) : Sz w0 g F I os p q w := ⟨_, _, _, _, h⟩
theorem PS.x (h : PS w0 w g F I os rs p q ov bs ks) : Sy w0 g F I os p w := ⟨_, _, _, _, _, h⟩
end
section
variable {P : Program} {L : List Oper} {Q : Exit → Act → World → Prop} {md : Region.Mode} {S : World → Prop} {i : Nat} {v : Value} {oi : Oper} {fuel : Nat} {listed : Array Bool} {a : Act} {w : World} {X : Prop}
theorem tkp (h : X) (hn : nxt md L listed = some i := by with_unfolding_all rfl) (hi : L[i]? = some oi := by rfl)
    (hw : Region.wanted oi (yielded L.toArray a.tmps) = true := by rfl) (y : ∀ w, S w → (execOp a.eval oi).run P w = .ok (.value v) w := by (intro w hSw; obtain ⟨_, _, _, _, _, hx⟩ := hSw; refine PS.opn hx ?_; intros; go_simp; (try with_reducible rfl)))
    (hP : wpAnyH P md L.toArray Q S fuel (listed.setIfInBounds i true) (a.put oi.dst v) w = X := by (simp only [Act.put, List.setIfInBounds_toArray, List.set_cons_zero, List.set_cons_succ]; try rfl))
    (hs : Region.noSelect L.toArray = true := by kernel_rfl) 
    (hQ : ∀ c a w, Q (.panic c) (a.put oi.dst v) w → Q (.panic c) a w := by exact fun _ _ _ h => h) (hS : S w := by assumption) : wpAnyH P md L.toArray Q S (fuel + 1) listed a w := takeL hi hs (nxt_spec hn).1 (nxt_spec hn).2 hQ (.inl ⟨hw, y⟩) hS (hP ▸ h)
theorem tkp4 (h : X) (hn : nxt md L listed = some i := by with_unfolding_all rfl) (hi : L[i]? = some oi := by rfl)
    (hw : Region.wanted oi (yielded L.toArray a.tmps) = true := by rfl) (y : ∀ w, S w → (execOp a.eval oi).run P w = .ok (.value v) w := by (intro w hSw; obtain ⟨_, _, _, _, hx⟩ := hSw; refine PS.opn hx ?_; intros; go_simp; (try with_reducible rfl)))
    (hP : wpAnyH P md L.toArray Q S fuel (listed.setIfInBounds i true) (a.put oi.dst v) w = X := by (simp only [Act.put, List.setIfInBounds_toArray, List.set_cons_zero, List.set_cons_succ]; try rfl))
    (hs : Region.noSelect L.toArray = true := by kernel_rfl) 
    (hQ : ∀ c a w, Q (.panic c) (a.put oi.dst v) w → Q (.panic c) a w := by exact fun _ _ _ h => h) (hS : S w := by assumption) : wpAnyH P md L.toArray Q S (fuel + 1) listed a w := takeL hi hs (nxt_spec hn).1 (nxt_spec hn).2 hQ (.inl ⟨hw, y⟩) hS (hP ▸ h)
/-- a call that alone may come up, and may throw -/
theorem tkq {f : FuncId} {args : Array Value} {A : Value → World → Prop} {B : World → Prop} {c : Int} {X : Value → World → Prop} (hc : Calls P f args w (Th A c B)) (hRS : ∀ v w', A v w' → S w') (h : ∀ v w', Hid (A v w') → S w' → X v w') (hB : ∀ w', Hid (B w') → Q (.panic [{ v := .iface 59 (.int .i64 c), recovered := false }]) a w') (hr : Region.ready md L.toArray listed = [i] := by with_unfolding_all rfl) (hi : L[i]? = some oi := by rfl)
    (hw : Region.wanted oi (yielded L.toArray a.tmps) = true := by rfl) (hx : (execOp a.eval oi).run P w = .ok (.enter f args) w := by (go_simp; (try with_reducible rfl)))
    (hP : ∀ v w', wpAnyH P md L.toArray Q S fuel (listed.setIfInBounds i true) (a.put oi.dst v) w' = X v w' := by (intro v w'; simp only [Act.put, List.setIfInBounds_toArray, List.set_cons_zero, List.set_cons_succ]; try rfl)) : wpAnyH P md L.toArray Q S (fuel + 1) listed a w := by
  refine ⟨fun h0 => (by rw [hr] at h0; cases h0), fun j hj => ?_⟩
  rw [hr, List.mem_singleton] at hj
  subst hj
  have hi' : L.toArray[j]? = some oi := by simpa using hi
  unfold wpOp
  simp only [hi', hw, if_true]
  refine .inl ?_
  unfold Oper.wp
  rw [hx]
  refine Calls.mono hc fun e w' he => ?_
  rcases he with ⟨v, rfl, hR⟩ | ⟨rfl, hR⟩
  · exact ⟨hRS _ _ hR, (hP v w').symm ▸ h v w' (Lib.hid hR) (hRS _ _ hR)⟩
  · exact hB w' (Lib.hid hR)
end
end Go.Proofs.YthjdjbipfdigeaaGreat

namespace Go.Proofs.YthjdjbipfdigeaaGreat
open Go.RowKit
set_option linter.unusedVariables false

/-- four results -/
theorem results4 {fn : Func} {t u v x : Tmp} (h : fn.results = #[.tmp t, .tmp u, .tmp v, .tmp x]) (tmps : Array Value) (P : Program) (w : World) :
    (results fn tmps).run P w = .ok (.tuple #[tmps.getD t undef, tmps.getD u undef, tmps.getD v undef, tmps.getD x undef]) w := by simp [results, h]

set_option maxHeartbeats 400000 in
theorem shiftl_c (a n : Int) (l : Bool) (ha : 0 ≤ a) (ha' : a ≤ 4294967295) (hn : -9223372036854775808 ≤ n) (hn' : n ≤ 9223372036854775807) (w : World) :
    Calls Tryz.prog 96 #[.int .u32 a, .int .i64 n, .bool l] w fun e w' => e = .returned (.int .u32 (slg a (plc n) l)) ∧ w = w' := by
  have hp := plc_hi n
  have h1 := Lib.hid (slg_min a (plc n) ha ha')
  have h2 := Lib.hid (slg_minL a (plc n))
  cases l
  all_goals
    go_enter Tryz.func96, Tryz.ntmps96
    go_wp2_with (go_at_call 154; refine (places_c _ hn hn' _).mono ?_; rintro e w' ⟨rfl, rfl⟩)
    go_ret
    first | exact ⟨by rw [show slg a (plc n) true = lo32 (a * 2 ^ plc n) from rfl, ← h2.out]; rfl, rfl⟩ | exact ⟨by rw [show slg a (plc n) false = a / 2 ^ plc n from rfl, ← h1.out]; rfl, rfl⟩

set_option maxHeartbeats 400000 in
theorem shiftr_c (a n : Int) (ha : 0 ≤ a) (ha' : a ≤ 4294967295) (hn : -9223372036854775808 ≤ n) (hn' : n ≤ 9223372036854775807) (w : World) :
    Calls Tryz.prog 97 #[.int .u32 a, .int .i64 n] w fun e w' => e = .returned (.tuple #[.int .u32 (srv a (plc n)), .int .i64 (sgn (sg (srv a (plc n))))]) ∧ w = w' := by
  have ea := wrap32_sg a ha ha'
  have la := sg_lo a ha
  have ua := sg_hi a ha'
  have hp := plc_hi n
  have hm := sr_min a (plc n) ha ha'
  have hl : sg a / 2 ^ plc n % 4294967296 = srv a (plc n) := rfl
  have r0 := srv_lo a (plc n)
  have r1 := srv_hi a (plc n)
  go_enter Tryz.func97, Tryz.ntmps97
  go_wp2_with (first | (go_at_call 154; refine (places_c _ hn hn' _).mono ?_; rintro e w' ⟨rfl, rfl⟩) | (go_at_call 155; refine (test_c _ r0 r1 _).mono ?_; rintro e w' ⟨rfl, rfl⟩))
  go_ret2
  exact ⟨rfl, rfl⟩

set_option maxHeartbeats 400000 in
theorem shiftrd_c (a b n : Int) (ha : 0 ≤ a) (ha' : a ≤ 4294967295) (hb : 0 ≤ b) (hb' : b ≤ 4294967295) (hn : -9223372036854775808 ≤ n) (hn' : n ≤ 9223372036854775807) (w : World) :
    Calls Tryz.prog 102 #[.int .u32 a, .int .u32 b, .int .i64 n] w fun e w' => e = .returned (.tuple #[.int .u32 (lo32 (drv (dbl a b) (plc n) / 4294967296)), .int .u32 (lo32 (drv (dbl a b) (plc n))), .int .i64 (sgn (sg64 (drv (dbl a b) (plc n))))]) ∧ w = w' := by
  have x0 := dbl_lo a b ha hb
  have x1 := dbl_hi a b ha' hb'
  have ex := wrap64_sg (dbl a b) x0 x1
  have y0 := sg64_lo (dbl a b) x0
  have y1 := sg64_hi (dbl a b) x1
  have hp := plc_hi n
  have hs := Lib.hid (sgn_drv (dbl a b) (plc n) x0 x1)
  have d0 := (dr_box (dbl a b) (plc n) x0 x1).1
  have d1 := (dr_box (dbl a b) (plc n) x0 x1).2
  go_enter Tryz.func102, Tryz.ntmps102
  go_wp2_with (first | (go_at_call 156; refine (double_c _ _ ha ha' hb hb' _).mono ?_; rintro e w' ⟨rfl, rfl⟩) | (go_at_call 154; refine (places_c _ hn hn' _).mono ?_; rintro e w' ⟨rfl, rfl⟩) | (go_at_call 153; refine (sign_c _ _).mono ?_; rintro e w' ⟨rfl, rfl⟩))
  go_ret3
  exact ⟨by rw [hs.out, drv, hi_mod, lo_mod]; rfl, rfl⟩

set_option maxHeartbeats 400000 in
theorem shiftld_c (a b n : Int) (l : Bool) (ha : 0 ≤ a) (ha' : a ≤ 4294967295) (hb : 0 ≤ b) (hb' : b ≤ 4294967295) (hn : -9223372036854775808 ≤ n) (hn' : n ≤ 9223372036854775807) (w : World) :
    Calls Tryz.prog 101 #[.int .u32 a, .int .u32 b, .int .i64 n, .bool l] w fun e w' => e = .returned (.tuple #[.int .u32 (lo32 (dlg (dbl a b) (plc n) l / 4294967296)), .int .u32 (lo32 (dlg (dbl a b) (plc n) l))]) ∧ w = w' := by
  have x0 := dbl_lo a b ha hb
  have x1 := dbl_hi a b ha' hb'
  have ex := wrap64_sg (dbl a b) x0 x1
  have y0 := sg64_lo (dbl a b) x0
  have y1 := sg64_hi (dbl a b) x1
  have hp := plc_hi n
  cases l
  all_goals
    go_enter Tryz.func101, Tryz.ntmps101
    go_wp2_with (first | (go_at_call 156; refine (double_c _ _ ha ha' hb hb' _).mono ?_; rintro e w' ⟨rfl, rfl⟩) | (go_at_call 154; refine (places_c _ hn hn' _).mono ?_; rintro e w' ⟨rfl, rfl⟩))
    go_ret2
    exact ⟨rfl, rfl⟩

set_option maxHeartbeats 800000 in
theorem shiftlad_c (a b n : Int) (ha : 0 ≤ a) (ha' : a ≤ 4294967295) (hb : 0 ≤ b) (hb' : b ≤ 4294967295) (hn : -9223372036854775808 ≤ n) (hn' : n ≤ 9223372036854775807) (w : World) :
    Calls Tryz.prog 103 #[.int .u32 a, .int .u32 b, .int .i64 n] w fun e w' => e = .returned (.tuple #[.int .u32 (lo32 (dlv (dbl a b) (plc n) / 4294967296)), .int .u32 (lo32 (dlv (dbl a b) (plc n))), .int .i64 (dlc (dbl a b) (plc n)), .bool (dlo (dbl a b) (plc n))]) ∧ w = w' := by
  have x0 := dbl_lo a b ha hb
  have x1 := dbl_hi a b ha' hb'
  have ex := wrap64_sg (dbl a b) x0 x1
  have y0 := sg64_lo (dbl a b) x0
  have y1 := sg64_hi (dbl a b) x1
  have hp := plc_hi n
  have em : IntKind.u64.wrap (sg64 (dbl a b)) = dbl a b := by rw [IntKind.wrap_u64]; exact sg64_mod (dbl a b) x0 x1
  have e1 := and_sign64 (dbl a b) x0 x1
  have e2 : bits .andNot .u64 (IntKind.u64.wrap (dbl a b * 2 ^ plc n)) 9223372036854775808 = sg64 (dbl a b) * 2 ^ plc n % 9223372036854775808 := by rw [IntKind.wrap_u64, andNot_sign64 _ (by omega) (by omega)]; exact dlv_low _ _
  have e3 : bits .or .u64 (if dbl a b < 9223372036854775808 then 0 else 9223372036854775808) (sg64 (dbl a b) * 2 ^ plc n % 9223372036854775808) = dlv (dbl a b) (plc n) := by rw [or_sign64 _ _ (by split <;> simp) (by omega) (by omega)]; rfl
  rw [← e1] at e3
  have et := dlo_test (dbl a b) (plc n) hp x0 x1
  have v0 := dlv_lo (dbl a b) (plc n)
  have v1 := dlv_hi (dbl a b) (plc n)
  have ev := wrap64_sg _ v0 v1
  have hh := Lib.hid (lo32_id (dlv (dbl a b) (plc n) / 4294967296) (by omega) (by omega))
  clear e1
  cases hq : dlo (dbl a b) (plc n)
  all_goals
    rw [hq] at et
    have hq' := Lib.hid hq
    clear hq
    go_enter Tryz.func103, Tryz.ntmps103
    go_wp2_with (first | (go_at_call 156; refine (double_c _ _ ha ha' hb hb' _).mono ?_; rintro e w' ⟨rfl, rfl⟩) | (go_at_call 154; refine (places_c _ hn hn' _).mono ?_; rintro e w' ⟨rfl, rfl⟩) | (go_at_call 153; refine (sign_c _ _).mono ?_; rintro e w' ⟨rfl, rfl⟩))
    refine bodyPost_ret (results4 rfl _ _ _) rfl ?_
    exact ⟨by simp [dlc, hq'.out, hh.out]; rfl, rfl⟩

set_option maxHeartbeats 800000 in
theorem shiftla_c (a n : Int) (ha : 0 ≤ a) (ha' : a ≤ 4294967295) (hn : -9223372036854775808 ≤ n) (hn' : n ≤ 9223372036854775807) (w : World) :
    Calls Tryz.prog 99 #[.int .u32 a, .int .i64 n] w fun e w' => e = .returned (.tuple #[.int .u32 (slv a (plc n)), .int .i64 (slc a (plc n)), .bool (slo a (plc n))]) ∧ w = w' := by
  have ea := wrap32_sg a ha ha'
  have la := sg_lo a ha
  have ua := sg_hi a ha'
  have hp := plc_hi n
  have r0 := slv_lo a (plc n)
  have r1 := slv_hi a (plc n)
  have e1 := and_sign a ha ha'
  by_cases h32 : 32 ≤ plc n
  · have ev := slv_ge32 a (plc n) h32
    rw [← ev] at e1
    have eo := slo_ge32 a (plc n) h32 ha ha'
    have hv := Lib.hid ev
    clear ev
    cases hq : slo a (plc n)
    all_goals
      rw [hq] at eo
      have eo' := eo.symm
      have hq' := Lib.hid hq
      clear hq eo
      go_enter Tryz.func99, Tryz.ntmps99
      go_wp2_with (first | (go_at_call 154; refine (places_c _ hn hn' _).mono ?_; rintro e w' ⟨rfl, rfl⟩) | (go_at_call 155; refine (test_c _ r0 r1 _).mono ?_; rintro e w' ⟨rfl, rfl⟩))
      go_ret3
      exact ⟨by simp [slc, hq'.out]; try rfl, rfl⟩
  · have hx := exact_box a (plc n) (by omega) ha ha'
    have b0 := hx.1
    have b1 := hx.2
    clear hx
    have e2 : bits .andNot .u32 (sg a * 2 ^ plc n % 4294967296) 2147483648 = sg a * 2 ^ plc n % 2147483648 := by rw [andNot_sign _ (by omega) (by omega)]; omega
    have e3 : bits .or .u32 (bits .and .u32 a 2147483648) (sg a * 2 ^ plc n % 2147483648) = slv a (plc n) := by rw [e1, or_sign _ _ (by split <;> simp) (by omega) (by omega)]; rfl
    clear e1
    have hh := exact_high (sg a * 2 ^ plc n)
    cases hq : slo a (plc n)
    · have hq' := Lib.hid hq
      have hn : ¬ (ovf (sg a * 2 ^ plc n) = true) := by rw [show ovf (sg a * 2 ^ plc n) = slo a (plc n) from rfl, hq]; simp
      rw [hh] at hn
      clear hq hh
      by_cases h0 : sg a * 2 ^ plc n / 2147483648 = 0
      · have t0 : (sg a * 2 ^ plc n / 2147483648 != 0) = false := by simp [h0]
        clear h0 hn
        go_enter Tryz.func99, Tryz.ntmps99
        go_wp2_with (first | (go_at_call 154; refine (places_c _ hn hn' _).mono ?_; rintro e w' ⟨rfl, rfl⟩) | (go_at_call 155; refine (test_c _ r0 r1 _).mono ?_; rintro e w' ⟨rfl, rfl⟩))
        go_ret3
        exact ⟨by simp [slc, hq'.out]; try rfl, rfl⟩
      · have h1 : sg a * 2 ^ plc n / 2147483648 = -1 := by omega
        have t0 : (sg a * 2 ^ plc n / 2147483648 != 0) = true := by simp [h0]
        have t1 : (sg a * 2 ^ plc n / 2147483648 != -1) = false := by simp [h1]
        clear h0 h1 hn
        go_enter Tryz.func99, Tryz.ntmps99
        go_wp2_with (first | (go_at_call 154; refine (places_c _ hn hn' _).mono ?_; rintro e w' ⟨rfl, rfl⟩) | (go_at_call 155; refine (test_c _ r0 r1 _).mono ?_; rintro e w' ⟨rfl, rfl⟩))
        go_ret3
        exact ⟨by simp [slc, hq'.out]; try rfl, rfl⟩
    · have hq' := Lib.hid hq
      have hn : ovf (sg a * 2 ^ plc n) = true := hq
      rw [hh] at hn
      have t0 : (sg a * 2 ^ plc n / 2147483648 != 0) = true := by simp [hn.1]
      have t1 : (sg a * 2 ^ plc n / 2147483648 != -1) = true := by simp [hn.2]
      clear hq hh hn
      go_enter Tryz.func99, Tryz.ntmps99
      go_wp2_with (first | (go_at_call 154; refine (places_c _ hn hn' _).mono ?_; rintro e w' ⟨rfl, rfl⟩) | (go_at_call 155; refine (test_c _ r0 r1 _).mono ?_; rintro e w' ⟨rfl, rfl⟩))
      go_ret3
      exact ⟨by simp [slc, hq'.out]; try rfl, rfl⟩

end Go.Proofs.YthjdjbipfdigeaaGreat

namespace Go.Proofs.YthjdjbipfdigeaaGreat
open Go.RowKit
set_option linter.unusedVariables false

set_option maxHeartbeats 400000 in
theorem rsigned_c (a : Int) (ha : 0 ≤ a) (ha' : a ≤ 4294967295) (w : World) :
    Calls Tryz.prog 135 #[.int .u32 a] w fun e w' => e = .returned (.int .i64 (sg a)) ∧ w = w' := by
  by_cases h0 : a < 2147483648
  · have hs := Lib.hid (show sg a = a from if_pos h0)
    go_enter Tryz.func135, Tryz.ntmps135
    go_wp2
    go_ret
    exact ⟨by rw [hs.out]; rfl, rfl⟩
  · have hs := Lib.hid (show sg a = a - 4294967296 from if_neg h0)
    go_enter Tryz.func135, Tryz.ntmps135
    go_wp2
    go_ret
    exact ⟨by rw [hs.out]; rfl, rfl⟩

set_option maxHeartbeats 400000 in
theorem rtest_c (a : Int) (ha : 0 ≤ a) (ha' : a ≤ 4294967295) (w : World) :
    Calls Tryz.prog 81 #[.int .u32 a] w fun e w' => e = .returned (.int .i64 (sgn (sg a))) ∧ w = w' := by
  have la := sg_lo a ha
  have ua := sg_hi a ha'
  have hz := Lib.hid (show sg a = 0 ↔ a = 0 from by unfold sg; split <;> omega)
  by_cases h0 : a = 0
  · subst h0
    go_enter Tryz.func81, Tryz.ntmps81
    go_wp2
    go_ret
    exact ⟨rfl, rfl⟩
  · have e0 : (a == 0) = false := by simpa using h0
    by_cases h1 : sg a < 0
    · have hs := Lib.hid (sgn_neg (sg a) h1)
      go_enter Tryz.func81, Tryz.ntmps81
      go_wp2_with (go_at_call 135; refine (rsigned_c _ (by omega) (by omega) _).mono ?_; rintro e w' ⟨rfl, rfl⟩)
      go_ret
      exact ⟨by rw [hs.out]; rfl, rfl⟩
    · have hs := Lib.hid (sgn_pos (sg a) (by have := hz.out; omega))
      go_enter Tryz.func81, Tryz.ntmps81
      go_wp2_with (go_at_call 135; refine (rsigned_c _ (by omega) (by omega) _).mono ?_; rintro e w' ⟨rfl, rfl⟩)
      go_ret
      exact ⟨by rw [hs.out]; rfl, rfl⟩

set_option maxHeartbeats 400000 in
theorem rexact_c (n : Int) (hn : -9223372036854775808 ≤ n) (hn' : n ≤ 9223372036854775807) (w : World) :
    Calls Tryz.prog 149 #[.int .i64 n] w fun e w' => e = .returned (.tuple #[.int .u32 (lo32 n), .int .i64 (rcc n), .bool (ovf n)]) ∧ w = w' := by
  have et := signed_test n
  have hl := lo32_is n
  cases ho : ovf n
  · have hr := Lib.hid (show rcc n = sgn (sg (lo32 n)) from by rw [sg_lo32_in n ho]; exact rcc_in n ho)
    rw [ho] at et
    clear ho
    go_enter Tryz.func149, Tryz.ntmps149
    go_wp2_with (first | (go_at_call 135; refine (rsigned_c _ (lo32_lo _) (lo32_hi _) _).mono ?_; rintro e w' ⟨rfl, rfl⟩) | (go_at_call 81; refine (rtest_c _ (lo32_lo _) (lo32_hi _) _).mono ?_; rintro e w' ⟨rfl, rfl⟩))
    go_ret3
    exact ⟨by rw [hr.out]; rfl, rfl⟩
  · have hr := Lib.hid (rcc_over n ho)
    rw [ho] at et
    clear ho
    go_enter Tryz.func149, Tryz.ntmps149
    go_wp2_with (first | (go_at_call 135; refine (rsigned_c _ (lo32_lo _) (lo32_hi _) _).mono ?_; rintro e w' ⟨rfl, rfl⟩) | (go_at_call 81; refine (rtest_c _ (lo32_lo _) (lo32_hi _) _).mono ?_; rintro e w' ⟨rfl, rfl⟩))
    go_ret3
    exact ⟨by rw [hr.out]; rfl, rfl⟩

set_option maxHeartbeats 400000 in
theorem radd_c (a b : Int) (ha : 0 ≤ a) (ha' : a ≤ 4294967295) (hb : 0 ≤ b) (hb' : b ≤ 4294967295) (w : World) :
    Calls Tryz.prog 83 #[.int .u32 a, .int .u32 b] w fun e w' => e = .returned (.tuple #[.int .u32 (lo32 (sg a + sg b)), .int .i64 (rcc (sg a + sg b)), .bool (ovf (sg a + sg b))]) ∧ w = w' := by
  have la := sg_lo a ha
  have ua := sg_hi a ha'
  have lb := sg_lo b hb
  have ub := sg_hi b hb'
  go_enter Tryz.func83, Tryz.ntmps83
  go_wp2_with (first | (go_at_call 135; refine (rsigned_c _ (by omega) (by omega) _).mono ?_; rintro e w' ⟨rfl, rfl⟩) | (go_at_call 149; refine (rexact_c _ (by omega) (by omega) _).mono ?_; rintro e w' ⟨rfl, rfl⟩))
  go_ret3
  exact ⟨rfl, rfl⟩

set_option maxHeartbeats 400000 in
theorem rsub_c (a b : Int) (ha : 0 ≤ a) (ha' : a ≤ 4294967295) (hb : 0 ≤ b) (hb' : b ≤ 4294967295) (w : World) :
    Calls Tryz.prog 84 #[.int .u32 a, .int .u32 b] w fun e w' => e = .returned (.tuple #[.int .u32 (lo32 (sg a - sg b)), .int .i64 (rcc (sg a - sg b)), .bool (ovf (sg a - sg b))]) ∧ w = w' := by
  have la := sg_lo a ha
  have ua := sg_hi a ha'
  have lb := sg_lo b hb
  have ub := sg_hi b hb'
  go_enter Tryz.func84, Tryz.ntmps84
  go_wp2_with (first | (go_at_call 135; refine (rsigned_c _ (by omega) (by omega) _).mono ?_; rintro e w' ⟨rfl, rfl⟩) | (go_at_call 149; refine (rexact_c _ (by omega) (by omega) _).mono ?_; rintro e w' ⟨rfl, rfl⟩))
  go_ret3
  exact ⟨rfl, rfl⟩

set_option maxHeartbeats 400000 in
theorem rcomplement_c (a : Int) (ha : 0 ≤ a) (ha' : a ≤ 4294967295) (w : World) :
    Calls Tryz.prog 82 #[.int .u32 a] w fun e w' => e = .returned (.tuple #[.int .u32 (lo32 (-sg a)), .int .i64 (rcc (-sg a)), .bool (ovf (-sg a))]) ∧ w = w' := by
  have la := sg_lo a ha
  have ua := sg_hi a ha'
  go_enter Tryz.func82, Tryz.ntmps82
  go_wp2_with (first | (go_at_call 135; refine (rsigned_c _ (by omega) (by omega) _).mono ?_; rintro e w' ⟨rfl, rfl⟩) | (go_at_call 149; refine (rexact_c _ (by omega) (by omega) _).mono ?_; rintro e w' ⟨rfl, rfl⟩))
  go_ret3
  exact ⟨rfl, rfl⟩

set_option maxHeartbeats 400000 in
theorem rlogical_c (v : Int) (high : Bool) (w : World) :
    Calls Tryz.prog 150 #[.int .u32 v, .bool high] w fun e w' => e = .returned (.tuple #[.int .u32 v, .int .i64 (lcc v high)]) ∧ w = w' := by
  by_cases h0 : v = 0
  · subst h0
    cases high
    all_goals
      go_enter Tryz.func150, Tryz.ntmps150
      go_wp2
      go_ret2
      exact ⟨rfl, rfl⟩
  · have e0 : (v != 0) = true := by simpa using h0
    have hs := Lib.hid h0
    clear h0
    cases high
    all_goals
      go_enter Tryz.func150, Tryz.ntmps150
      go_wp2
      go_ret2
      exact ⟨by simp [lcc, hs.out], rfl⟩

set_option maxHeartbeats 400000 in
theorem raddl_c (a b : Int) (ha : 0 ≤ a) (ha' : a ≤ 4294967295) (hb : 0 ≤ b) (hb' : b ≤ 4294967295) (w : World) :
    Calls Tryz.prog 85 #[.int .u32 a, .int .u32 b] w fun e w' => e = .returned (.tuple #[.int .u32 (lo32 (a + b)), .int .i64 (lcc (lo32 (a + b)) (decide (4294967296 ≤ a + b)))]) ∧ w = w' := by
  have hl := lo32_is (a + b)
  go_enter Tryz.func85, Tryz.ntmps85
  go_wp2_with (go_at_call 150; refine (rlogical_c _ _ _).mono ?_; rintro e w' ⟨rfl, rfl⟩)
  go_ret2
  exact ⟨rfl, rfl⟩

set_option maxHeartbeats 400000 in
theorem rsubl_c (a b : Int) (ha : 0 ≤ a) (ha' : a ≤ 4294967295) (hb : 0 ≤ b) (hb' : b ≤ 4294967295) (w : World) :
    Calls Tryz.prog 86 #[.int .u32 a, .int .u32 b] w fun e w' => e = .returned (.tuple #[.int .u32 (lo32 (a - b)), .int .i64 (lcc (lo32 (a - b)) (decide (b ≤ a)))]) ∧ w = w' := by
  have h1 := Lib.hid (show lo32 (a + 4294967296 - b) = lo32 (a - b) from by unfold lo32; omega)
  have h2 := Lib.hid (show decide (4294967296 ≤ a + 4294967296 - b) = decide (b ≤ a) from by rw [Bool.eq_iff_iff, decide_eq_true_iff, decide_eq_true_iff]; omega)
  have hl := lo32_is (a + 4294967296 - b)
  go_enter Tryz.func86, Tryz.ntmps86
  go_wp2_with (go_at_call 150; refine (rlogical_c _ _ _).mono ?_; rintro e w' ⟨rfl, rfl⟩)
  go_ret2
  exact ⟨by rw [← h1.out, ← h2.out]; rfl, rfl⟩

set_option maxHeartbeats 400000 in
theorem rcompare_c (a b : Int) (ha : 0 ≤ a) (ha' : a ≤ 4294967295) (hb : 0 ≤ b) (hb' : b ≤ 4294967295) (w : World) :
    Calls Tryz.prog 56 #[.int .u32 a, .int .u32 b] w fun e w' => e = .returned (.int .i64 (sgn (sg a - sg b))) ∧ w = w' := by
  have la := sg_lo a ha
  have ua := sg_hi a ha'
  have lb := sg_lo b hb
  have ub := sg_hi b hb'
  have hz := Lib.hid (show sg a = sg b ↔ a = b from by unfold sg; split <;> split <;> omega)
  by_cases h0 : a = b
  · subst h0
    go_enter Tryz.func56, Tryz.ntmps56
    go_wp2
    go_ret
    exact ⟨rfl, rfl⟩
  · have e0 : (a == b) = false := by simpa using h0
    by_cases h1 : sg a < sg b
    · have hs := Lib.hid (sgn_neg (sg a - sg b) (by omega))
      go_enter Tryz.func56, Tryz.ntmps56
      go_wp2_with (go_at_call 135; refine (rsigned_c _ (by omega) (by omega) _).mono ?_; rintro e w' ⟨rfl, rfl⟩)
      go_ret
      exact ⟨by rw [hs.out]; rfl, rfl⟩
    · have hs := Lib.hid (sgn_pos (sg a - sg b) (by have := hz.out; omega))
      go_enter Tryz.func56, Tryz.ntmps56
      go_wp2_with (go_at_call 135; refine (rsigned_c _ (by omega) (by omega) _).mono ?_; rintro e w' ⟨rfl, rfl⟩)
      go_ret
      exact ⟨by rw [hs.out]; rfl, rfl⟩

set_option maxHeartbeats 400000 in
theorem rcomparel_c (a b : Int) (ha : 0 ≤ a) (ha' : a ≤ 4294967295) (hb : 0 ≤ b) (hb' : b ≤ 4294967295) (w : World) :
    Calls Tryz.prog 71 #[.int .u32 a, .int .u32 b] w fun e w' => e = .returned (.int .i64 (sgn (a - b))) ∧ w = w' := by
  by_cases h0 : a = b
  · subst h0
    go_enter Tryz.func71, Tryz.ntmps71
    go_wp2
    go_ret
    exact ⟨by simp [sgn], rfl⟩
  · have e0 : (a == b) = false := by simpa using h0
    by_cases h1 : a < b
    · have hs := Lib.hid (sgn_neg (a - b) (by omega))
      go_enter Tryz.func71, Tryz.ntmps71
      go_wp2
      go_ret
      exact ⟨by rw [hs.out]; rfl, rfl⟩
    · have hs := Lib.hid (sgn_pos (a - b) (by omega))
      go_enter Tryz.func71, Tryz.ntmps71
      go_wp2
      go_ret
      exact ⟨by rw [hs.out]; rfl, rfl⟩

set_option maxHeartbeats 400000 in
theorem rwords_c (x : Int) (hx : 0 ≤ x) (hx' : x ≤ 18446744073709551615) (w : World) :
    Calls Tryz.prog 141 #[.int .u64 x] w fun e w' => e = .returned (.tuple #[.int .u32 (lo32 (x / 4294967296)), .int .u32 (lo32 x)]) ∧ w = w' := by
  have hh := Lib.hid (lo32_id (x / 4294967296) (by omega) (by omega))
  go_enter Tryz.func141, Tryz.ntmps141
  go_wp2
  go_ret2
  exact ⟨by rw [hh.out]; rfl, rfl⟩

set_option maxHeartbeats 400000 in
theorem rmul_c (a b : Int) (ha : 0 ≤ a) (ha' : a ≤ 4294967295) (hb : 0 ≤ b) (hb' : b ≤ 4294967295) (w : World) :
    Calls Tryz.prog 87 #[.int .u32 a, .int .u32 b] w fun e w' => e = .returned (.tuple #[.int .u32 (lo32 (sg a * sg b / 4294967296)), .int .u32 (lo32 (sg a * sg b))]) ∧ w = w' := by
  have la := sg_lo a ha
  have ua := sg_hi a ha'
  have lb := sg_lo b hb
  have ub := sg_hi b hb'
  have p0 := prod_lo a b ha ha' hb hb'
  have p1 := prod_hi a b ha ha' hb hb'
  have h1 := Lib.hid (hi_mod (sg a * sg b))
  have h2 := Lib.hid (lo_mod (sg a * sg b))
  have eu := IntKind.wrap_u64 (sg a * sg b)
  go_enter Tryz.func87, Tryz.ntmps87
  go_wp2_with (first | (go_at_call 135; refine (rsigned_c _ (by omega) (by omega) _).mono ?_; rintro e w' ⟨rfl, rfl⟩) | (go_at_call 141; refine (rwords_c _ (by omega) (by omega) _).mono ?_; rintro e w' ⟨rfl, rfl⟩))
  go_ret2
  exact ⟨by rw [← h1.out, ← h2.out]; rfl, rfl⟩

set_option maxHeartbeats 400000 in
theorem rlong_c (a b : Int) (ha : 0 ≤ a) (ha' : a ≤ 4294967295) (hb : 0 ≤ b) (hb' : b ≤ 4294967295) (w : World) :
    Calls Tryz.prog 140 #[.int .u32 a, .int .u32 b] w fun e w' => e = .returned (.int .u64 (dbl a b)) ∧ w = w' := by
  have ho := dbl_is a b
  go_enter Tryz.func140, Tryz.ntmps140
  go_wp2
  go_ret
  exact ⟨rfl, rfl⟩

end Go.Proofs.YthjdjbipfdigeaaGreat

namespace Go.Proofs.YthjdjbipfdigeaaGreat
open Go.RowKit
set_option linter.unusedVariables false

set_option maxHeartbeats 800000 in
theorem rdiv_c (a b d : Int) (ha : 0 ≤ a) (ha' : a ≤ 4294967295) (hb : 0 ≤ b) (hb' : b ≤ 4294967295) (hd : 0 ≤ d) (hd' : d ≤ 4294967295) (w : World) :
    Calls Tryz.prog 146 #[.int .u32 a, .int .u32 b, .int .u32 d] w fun e w' => e = .returned (.tuple #[.int .u32 (drem (sg64 (dbl a b)) (sg d)), .int .u32 (dquo (sg64 (dbl a b)) (sg d)), .bool (dok (sg64 (dbl a b)) (sg d))]) ∧ w = w' := by
  have x0 := dbl_lo a b ha hb
  have x1 := dbl_hi a b ha' hb'
  have ex := wrap64_sg (dbl a b) x0 x1
  have y0 := sg64_lo (dbl a b) x0
  have y1 := sg64_hi (dbl a b) x1
  have ld := sg_lo d hd
  have ud := sg_hi d hd'
  by_cases hz : sg d = 0
  · have hq := Lib.hid (dok_zero (sg64 (dbl a b)))
    have eb : (sg d == 0) = true := by simpa using hz
    have hz' := Lib.hid hz
    clear hz
    go_enter Tryz.func146, Tryz.ntmps146
    go_wp2_with (first | (go_at_call 140; refine (rlong_c _ _ ha ha' hb hb' _).mono ?_; rintro e w' ⟨rfl, rfl⟩) | (go_at_call 135; refine (rsigned_c _ (by omega) (by omega) _).mono ?_; rintro e w' ⟨rfl, rfl⟩))
    go_ret3
    exact ⟨by simp [hz'.out, drem, dquo, hq.out], rfl⟩
  · have eb : (sg d == 0) = false := by simpa using hz
    have hz' := Lib.hid hz
    by_cases hm : sg64 (dbl a b) = -9223372036854775808
    · have hq := Lib.hid (dok_least (sg d) ld ud)
      have em : (sg64 (dbl a b) == -9223372036854775808) = true := by simpa using hm
      have hm' := Lib.hid hm
      clear hm hz
      go_enter Tryz.func146, Tryz.ntmps146
      go_wp2_with (first | (go_at_call 140; refine (rlong_c _ _ ha ha' hb hb' _).mono ?_; rintro e w' ⟨rfl, rfl⟩) | (go_at_call 135; refine (rsigned_c _ (by omega) (by omega) _).mono ?_; rintro e w' ⟨rfl, rfl⟩))
      go_ret3
      exact ⟨by simp [hm'.out, drem, dquo, hq.out], rfl⟩
    · have em : (sg64 (dbl a b) == -9223372036854775808) = false := by simpa using hm
      have eq0 := rquo_in (sg64 (dbl a b)) (sg d) hz (by omega) y1
      have et := rquo_test (sg64 (dbl a b)) (sg d) hz (by omega) y1
      have hl := lo32_is ((sg64 (dbl a b)).tdiv (sg d))
      have q0 := lo32_lo ((sg64 (dbl a b)).tdiv (sg d))
      have q1 := lo32_hi ((sg64 (dbl a b)).tdiv (sg d))
      clear hm hz
      cases hq : dok (sg64 (dbl a b)) (sg d)
      · rw [hq] at et
        have hq' := Lib.hid hq
        clear hq
        go_enter Tryz.func146, Tryz.ntmps146
        go_wp2_with (first | (go_at_call 140; refine (rlong_c _ _ ha ha' hb hb' _).mono ?_; rintro e w' ⟨rfl, rfl⟩) | (go_at_call 135; refine (rsigned_c _ (by omega) (by omega) _).mono ?_; rintro e w' ⟨rfl, rfl⟩))
        go_ret3
        exact ⟨by simp [drem, dquo, hq'.out], rfl⟩
      · rw [hq] at et
        have hq' := Lib.hid hq
        clear hq
        have er := Lib.hid (rrem_w (sg64 (dbl a b)) (sg d))
        go_enter Tryz.func146, Tryz.ntmps146
        go_wp2_with (first | (go_at_call 140; refine (rlong_c _ _ ha ha' hb hb' _).mono ?_; rintro e w' ⟨rfl, rfl⟩) | (go_at_call 135; refine (rsigned_c _ (by omega) (by omega) _).mono ?_; rintro e w' ⟨rfl, rfl⟩))
        go_ret3
        exact ⟨by rw [drem_ok _ _ hq'.out, dquo_ok _ _ hq'.out, ← er.out]; rfl, rfl⟩

set_option maxHeartbeats 400000 in
theorem rplaces_c (n : Int) (hn : -9223372036854775808 ≤ n) (hn' : n ≤ 9223372036854775807) (w : World) :
    Calls Tryz.prog 137 #[.int .i64 n] w fun e w' => e = .returned (.int .i64 (↑(plc n))) ∧ w = w' := by
  by_cases h0 : 0 ≤ n
  · have hs := Lib.hid (plc_is n)
    go_enter Tryz.func137, Tryz.ntmps137
    go_wp2
    go_ret
    exact ⟨by rw [← hs.out]; rfl, rfl⟩
  · have t0 : n.tmod 64 = -((-n) % 64) := by have := Int.neg_tmod (-n) 64; rw [Int.neg_neg] at this; rw [this, Int.tmod_eq_emod_of_nonneg (by omega)]
    by_cases h1 : n.tmod 64 = 0
    · have hs := Lib.hid (show (plc n : Int) = 0 from by rw [← plc_is]; omega)
      have h1' : n.tmod 64 = 0 := h1
      clear t0
      go_enter Tryz.func137, Tryz.ntmps137
      go_wp2
      go_ret
      exact ⟨by rw [hs.out]; rfl, rfl⟩
    · have hs := Lib.hid (show n.tmod 64 + 64 = (plc n : Int) from by rw [← plc_is]; omega)
      have b0 : -64 < n.tmod 64 := by omega
      have b1 : n.tmod 64 < 0 := by omega
      clear t0 h1
      go_enter Tryz.func137, Tryz.ntmps137
      go_wp2
      go_ret
      exact ⟨by rw [← hs.out]; rfl, rfl⟩

set_option maxHeartbeats 400000 in
theorem rtest64_c (x : Int) (hx : 0 ≤ x) (hx' : x ≤ 18446744073709551615) (w : World) :
    Calls Tryz.prog 142 #[.int .u64 x] w fun e w' => e = .returned (.int .i64 (sgn (sg64 x))) ∧ w = w' := by
  by_cases h0 : x = 0
  · subst h0
    go_enter Tryz.func142, Tryz.ntmps142
    go_wp2
    go_ret
    exact ⟨rfl, rfl⟩
  · have e0 : (x == 0) = false := by simpa using h0
    by_cases h1 : x < 9223372036854775808
    · have hs := Lib.hid (sgn_pos (sg64 x) (by unfold sg64; rw [if_pos h1]; omega))
      clear h0
      go_enter Tryz.func142, Tryz.ntmps142
      go_wp2
      go_ret
      exact ⟨by rw [hs.out]; rfl, rfl⟩
    · have hs := Lib.hid (sgn_neg (sg64 x) (by unfold sg64; rw [if_neg h1]; omega))
      clear h0
      go_enter Tryz.func142, Tryz.ntmps142
      go_wp2
      go_ret
      exact ⟨by rw [hs.out]; rfl, rfl⟩

set_option maxHeartbeats 1000000 in
theorem rleft32_c (v : Int) (p : Nat) (hp : p ≤ 63) (hv : 0 ≤ v) (hv' : v ≤ 4294967295) (w : World) :
    Calls Tryz.prog 139 #[.int .u64 v, .int .i64 32, .int .i64 (↑p)] w fun e w' => e = .returned (.tuple #[.int .u64 (slv v p), .bool (slo v p)]) ∧ w = w' := by
  have es : bits .and .u64 (v / 2147483648) 1 = v / 2147483648 := by rw [and_one64 _ (by omega) (by omega)]; omega
  have hz := Lib.hid (slv_zero v hv hv')
  have hy := Lib.hid (slo_zero v hv hv')
  go_enter Tryz.func139, Tryz.ntmps139
  go_wp2
  go_loop [0, 10, 11] (fun x o i => ∃ k : Nat, k ≤ p ∧ x = .int .u64 (slv v k) ∧ o = .bool (slo v k) ∧ i = .int .i64 k) (fun _ _ i => p - (intOf i).toNat)
  case atStart => exact ⟨0, Nat.zero_le _, by rw [hz.out], by rw [hy.out], rfl⟩
  case round =>
    obtain ⟨k, hk, rfl, rfl, rfl⟩ := hrel
    have b0 := slv_lo v k
    have b1 := slv_hi v k
    have es2 := and_one64 (slv v k / 1073741824) (by omega) (by omega)
    have eA := IntKind.wrap_u64 (slv v k * 2)
    have hn := Lib.hid (slv_succ v k hv hv')
    have ho := Lib.hid (slo_succ v k hv hv')
    by_cases hlt : k < p
    · cases ht : (slv v k / 1073741824 % 2 != v / 2147483648)
      all_goals
        have ht' := Lib.hid ht
        go_wp2
        go_round
        case rel => exact ⟨k + 1, by omega, by rw [hn.out], by rw [ho.out, ht'.out]; simp, by go_num⟩
        case measure => simp [intOf]; omega
    · obtain rfl : k = p := by omega
      go_wp2
      go_ret2
      exact ⟨rfl, rfl⟩

set_option maxHeartbeats 1000000 in
theorem rleft64_c (v : Int) (p : Nat) (hp : p ≤ 63) (hv : 0 ≤ v) (hv' : v ≤ 18446744073709551615) (w : World) :
    Calls Tryz.prog 139 #[.int .u64 v, .int .i64 64, .int .i64 (↑p)] w fun e w' => e = .returned (.tuple #[.int .u64 (dlv v p), .bool (dlo v p)]) ∧ w = w' := by
  have es : bits .and .u64 (v / 9223372036854775808) 1 = v / 9223372036854775808 := by rw [and_one64 _ (by omega) (by omega)]; omega
  have hz := Lib.hid (dlv_zero v hv hv')
  have hy := Lib.hid (dlo_zero v hv hv')
  go_enter Tryz.func139, Tryz.ntmps139
  go_wp2
  go_loop [0, 10, 11] (fun x o i => ∃ k : Nat, k ≤ p ∧ x = .int .u64 (dlv v k) ∧ o = .bool (dlo v k) ∧ i = .int .i64 k) (fun _ _ i => p - (intOf i).toNat)
  case atStart => exact ⟨0, Nat.zero_le _, by rw [hz.out], by rw [hy.out], rfl⟩
  case round =>
    obtain ⟨k, hk, rfl, rfl, rfl⟩ := hrel
    have b0 := dlv_lo v k
    have b1 := dlv_hi v k
    have es2 := and_one64 (dlv v k / 4611686018427387904) (by omega) (by omega)
    have eA := IntKind.wrap_u64 (dlv v k * 2)
    have hn := Lib.hid (dlv_succ v k hv hv')
    have ho := Lib.hid (dlo_succ v k hv hv')
    by_cases hlt : k < p
    · cases ht : (dlv v k / 4611686018427387904 % 2 != v / 9223372036854775808)
      all_goals
        have ht' := Lib.hid ht
        go_wp2
        go_round
        case rel => exact ⟨k + 1, by omega, by rw [hn.out], by rw [ho.out, ht'.out]; simp, by go_num⟩
        case measure => simp [intOf]; omega
    · obtain rfl : k = p := by omega
      go_wp2
      go_ret2
      exact ⟨rfl, rfl⟩

set_option maxHeartbeats 1000000 in
theorem rright32_c (v : Int) (p : Nat) (hp : p ≤ 63) (hv : 0 ≤ v) (hv' : v ≤ 4294967295) (w : World) :
    Calls Tryz.prog 138 #[.int .u64 v, .int .i64 32, .int .i64 (↑p)] w fun e w' => e = .returned (.int .u64 (srv v p)) ∧ w = w' := by
  have es : bits .and .u64 (v / 2147483648) 1 = v / 2147483648 := by rw [and_one64 _ (by omega) (by omega)]; omega
  have hz := Lib.hid (srv_zero v hv hv')
  go_enter Tryz.func138, Tryz.ntmps138
  go_wp2
  go_loop [0, 9] (fun x i => ∃ k : Nat, k ≤ p ∧ x = .int .u64 (srv v k) ∧ i = .int .i64 k) (fun _ i => p - (intOf i).toNat)
  case atStart => exact ⟨0, Nat.zero_le _, by rw [hz.out], rfl⟩
  case round =>
    obtain ⟨k, hk, rfl, rfl⟩ := hrel
    have b0 := srv_lo v k
    have b1 := srv_hi v k
    have hn := Lib.hid (srv_succ v k hv hv')
    by_cases hlt : k < p
    · go_wp2
      go_round
      case rel => exact ⟨k + 1, by omega, by rw [hn.out], by go_num⟩
      case measure => simp [intOf]; omega
    · obtain rfl : k = p := by omega
      go_wp2
      go_ret
      exact ⟨rfl, rfl⟩

set_option maxHeartbeats 1000000 in
theorem rright64_c (v : Int) (p : Nat) (hp : p ≤ 63) (hv : 0 ≤ v) (hv' : v ≤ 18446744073709551615) (w : World) :
    Calls Tryz.prog 138 #[.int .u64 v, .int .i64 64, .int .i64 (↑p)] w fun e w' => e = .returned (.int .u64 (drv v p)) ∧ w = w' := by
  have es : bits .and .u64 (v / 9223372036854775808) 1 = v / 9223372036854775808 := by rw [and_one64 _ (by omega) (by omega)]; omega
  have hz := Lib.hid (drv_zero v hv hv')
  go_enter Tryz.func138, Tryz.ntmps138
  go_wp2
  go_loop [0, 9] (fun x i => ∃ k : Nat, k ≤ p ∧ x = .int .u64 (drv v k) ∧ i = .int .i64 k) (fun _ i => p - (intOf i).toNat)
  case atStart => exact ⟨0, Nat.zero_le _, by rw [hz.out], rfl⟩
  case round =>
    obtain ⟨k, hk, rfl, rfl⟩ := hrel
    have b0 := drv_lo v k
    have b1 := drv_hi v k
    have hn := Lib.hid (drv_succ v k hv hv')
    by_cases hlt : k < p
    · go_wp2
      go_round
      case rel => exact ⟨k + 1, by omega, by rw [hn.out], by go_num⟩
      case measure => simp [intOf]; omega
    · obtain rfl : k = p := by omega
      go_wp2
      go_ret
      exact ⟨rfl, rfl⟩

end Go.Proofs.YthjdjbipfdigeaaGreat

namespace Go.Proofs.YthjdjbipfdigeaaGreat
open Go.RowKit
set_option linter.unusedVariables false

set_option maxHeartbeats 400000 in
theorem rshiftla_c (a n : Int) (ha : 0 ≤ a) (ha' : a ≤ 4294967295) (hn : -9223372036854775808 ≤ n) (hn' : n ≤ 9223372036854775807) (w : World) :
    Calls Tryz.prog 63 #[.int .u32 a, .int .i64 n] w fun e w' => e = .returned (.tuple #[.int .u32 (slv a (plc n)), .int .i64 (slc a (plc n)), .bool (slo a (plc n))]) ∧ w = w' := by
  have hp := plc_hi n
  have r0 := slv_lo a (plc n)
  have r1 := slv_hi a (plc n)
  cases hq : slo a (plc n)
  all_goals
    have hq' := Lib.hid hq
    go_enter Tryz.func63, Tryz.ntmps63
    go_wp2_with (first | (go_at_call 137; refine (rplaces_c _ hn hn' _).mono ?_; rintro e w' ⟨rfl, rfl⟩) | (go_at_call 139; refine (rleft32_c a _ hp ha ha' _).mono ?_; rintro e w' ⟨rfl, rfl⟩) | (go_at_call 81; refine (rtest_c _ r0 r1 _).mono ?_; rintro e w' ⟨rfl, rfl⟩))
    go_ret3
    exact ⟨by simp [slc, hq'.out]; try rfl, rfl⟩

set_option maxHeartbeats 400000 in
theorem rshiftr_c (a n : Int) (ha : 0 ≤ a) (ha' : a ≤ 4294967295) (hn : -9223372036854775808 ≤ n) (hn' : n ≤ 9223372036854775807) (w : World) :
    Calls Tryz.prog 61 #[.int .u32 a, .int .i64 n] w fun e w' => e = .returned (.tuple #[.int .u32 (srv a (plc n)), .int .i64 (sgn (sg (srv a (plc n))))]) ∧ w = w' := by
  have hp := plc_hi n
  have r0 := srv_lo a (plc n)
  have r1 := srv_hi a (plc n)
  go_enter Tryz.func61, Tryz.ntmps61
  go_wp2_with (first | (go_at_call 137; refine (rplaces_c _ hn hn' _).mono ?_; rintro e w' ⟨rfl, rfl⟩) | (go_at_call 138; refine (rright32_c a _ hp ha ha' _).mono ?_; rintro e w' ⟨rfl, rfl⟩) | (go_at_call 81; refine (rtest_c _ r0 r1 _).mono ?_; rintro e w' ⟨rfl, rfl⟩))
  go_ret2
  exact ⟨rfl, rfl⟩

set_option maxHeartbeats 400000 in
theorem rshiftlad_c (a b n : Int) (ha : 0 ≤ a) (ha' : a ≤ 4294967295) (hb : 0 ≤ b) (hb' : b ≤ 4294967295) (hn : -9223372036854775808 ≤ n) (hn' : n ≤ 9223372036854775807) (w : World) :
    Calls Tryz.prog 67 #[.int .u32 a, .int .u32 b, .int .i64 n] w fun e w' => e = .returned (.tuple #[.int .u32 (lo32 (dlv (dbl a b) (plc n) / 4294967296)), .int .u32 (lo32 (dlv (dbl a b) (plc n))), .int .i64 (dlc (dbl a b) (plc n)), .bool (dlo (dbl a b) (plc n))]) ∧ w = w' := by
  have x0 := dbl_lo a b ha hb
  have x1 := dbl_hi a b ha' hb'
  have ex := wrap64_sg (dbl a b) x0 x1
  have y0 := sg64_lo (dbl a b) x0
  have y1 := sg64_hi (dbl a b) x1
  have hp := plc_hi n
  have r0 := dlv_lo (dbl a b) (plc n)
  have r1 := dlv_hi (dbl a b) (plc n)
  cases hq : dlo (dbl a b) (plc n)
  all_goals
    have hq' := Lib.hid hq
    go_enter Tryz.func67, Tryz.ntmps67
    go_wp2_with (first | (go_at_call 140; refine (rlong_c _ _ ha ha' hb hb' _).mono ?_; rintro e w' ⟨rfl, rfl⟩) | (go_at_call 137; refine (rplaces_c _ hn hn' _).mono ?_; rintro e w' ⟨rfl, rfl⟩) | (go_at_call 139; refine (rleft64_c _ _ hp x0 x1 _).mono ?_; rintro e w' ⟨rfl, rfl⟩) | (go_at_call 142; refine (rtest64_c _ r0 r1 _).mono ?_; rintro e w' ⟨rfl, rfl⟩) | (go_at_call 141; refine (rwords_c _ r0 r1 _).mono ?_; rintro e w' ⟨rfl, rfl⟩))
    refine bodyPost_ret (results4 rfl _ _ _) rfl ?_
    exact ⟨by simp [dlc, hq'.out]; try rfl, rfl⟩

set_option maxHeartbeats 400000 in
theorem rshiftrd_c (a b n : Int) (ha : 0 ≤ a) (ha' : a ≤ 4294967295) (hb : 0 ≤ b) (hb' : b ≤ 4294967295) (hn : -9223372036854775808 ≤ n) (hn' : n ≤ 9223372036854775807) (w : World) :
    Calls Tryz.prog 66 #[.int .u32 a, .int .u32 b, .int .i64 n] w fun e w' => e = .returned (.tuple #[.int .u32 (lo32 (drv (dbl a b) (plc n) / 4294967296)), .int .u32 (lo32 (drv (dbl a b) (plc n))), .int .i64 (sgn (sg64 (drv (dbl a b) (plc n))))]) ∧ w = w' := by
  have x0 := dbl_lo a b ha hb
  have x1 := dbl_hi a b ha' hb'
  have ex := wrap64_sg (dbl a b) x0 x1
  have y0 := sg64_lo (dbl a b) x0
  have y1 := sg64_hi (dbl a b) x1
  have hp := plc_hi n
  have r0 := drv_lo (dbl a b) (plc n)
  have r1 := drv_hi (dbl a b) (plc n)
  go_enter Tryz.func66, Tryz.ntmps66
  go_wp2_with (first | (go_at_call 140; refine (rlong_c _ _ ha ha' hb hb' _).mono ?_; rintro e w' ⟨rfl, rfl⟩) | (go_at_call 137; refine (rplaces_c _ hn hn' _).mono ?_; rintro e w' ⟨rfl, rfl⟩) | (go_at_call 138; refine (rright64_c _ _ hp x0 x1 _).mono ?_; rintro e w' ⟨rfl, rfl⟩) | (go_at_call 142; refine (rtest64_c _ r0 r1 _).mono ?_; rintro e w' ⟨rfl, rfl⟩) | (go_at_call 141; refine (rwords_c _ r0 r1 _).mono ?_; rintro e w' ⟨rfl, rfl⟩))
  go_ret3
  exact ⟨rfl, rfl⟩

set_option maxHeartbeats 1000000 in
theorem rshiftl_c (a n : Int) (l : Bool) (ha : 0 ≤ a) (ha' : a ≤ 4294967295) (hn : -9223372036854775808 ≤ n) (hn' : n ≤ 9223372036854775807) (w : World) :
    Calls Tryz.prog 60 #[.int .u32 a, .int .i64 n, .bool l] w fun e w' => e = .returned (.int .u32 (slg a (plc n) l)) ∧ w = w' := by
  have hp := plc_hi n
  have hz := Lib.hid (slg_zero a l ha ha')
  go_enter Tryz.func60, Tryz.ntmps60
  go_wp2_with fail
  go_loop [0, 7] (fun x i => ∃ k : Nat, k ≤ plc n ∧ x = .int .u32 (slg a k l) ∧ i = .int .i64 k) (fun _ i => plc n - (intOf i).toNat)
  case atStart => exact ⟨0, Nat.zero_le _, by rw [hz.out], rfl⟩
  case round =>
    obtain ⟨k, hk, rfl, rfl⟩ := hrel
    have b0 := slg_lo a k l ha
    have b1 := slg_hi a k l ha ha'
    by_cases hlt : k < plc n
    · cases l
      · have hsu := Lib.hid (slg_right a k)
        go_wp2_with (go_at_call 137; refine (rplaces_c _ hn hn' _).mono ?_; rintro e w' ⟨rfl, rfl⟩)
        go_round
        case rel => exact ⟨k + 1, by omega, by rw [hsu.out], by go_num⟩
        case measure => simp [intOf]; omega
      · have hsu := Lib.hid (slg_left a k)
        go_wp2_with (go_at_call 137; refine (rplaces_c _ hn hn' _).mono ?_; rintro e w' ⟨rfl, rfl⟩)
        go_round
        case rel => exact ⟨k + 1, by omega, by rw [hsu.out]; rfl, by go_num⟩
        case measure => simp [intOf]; omega
    · obtain rfl : k = plc n := by omega
      go_wp2_with (go_at_call 137; refine (rplaces_c _ hn hn' _).mono ?_; rintro e w' ⟨rfl, rfl⟩)
      go_ret
      exact ⟨rfl, rfl⟩

set_option maxHeartbeats 1000000 in
theorem rshiftld_c (a b n : Int) (l : Bool) (ha : 0 ≤ a) (ha' : a ≤ 4294967295) (hb : 0 ≤ b) (hb' : b ≤ 4294967295) (hn : -9223372036854775808 ≤ n) (hn' : n ≤ 9223372036854775807) (w : World) :
    Calls Tryz.prog 65 #[.int .u32 a, .int .u32 b, .int .i64 n, .bool l] w fun e w' => e = .returned (.tuple #[.int .u32 (lo32 (dlg (dbl a b) (plc n) l / 4294967296)), .int .u32 (lo32 (dlg (dbl a b) (plc n) l))]) ∧ w = w' := by
  have x0 := dbl_lo a b ha hb
  have x1 := dbl_hi a b ha' hb'
  have ex := wrap64_sg (dbl a b) x0 x1
  have y0 := sg64_lo (dbl a b) x0
  have y1 := sg64_hi (dbl a b) x1
  have hp := plc_hi n
  have hz := Lib.hid (dlg_zero (dbl a b) l x0 x1)
  go_enter Tryz.func65, Tryz.ntmps65
  go_wp2_with (go_at_call 140; refine (rlong_c _ _ ha ha' hb hb' _).mono ?_; rintro e w' ⟨rfl, rfl⟩)
  go_loop [10, 11] (fun x i => ∃ k : Nat, k ≤ plc n ∧ x = .int .u64 (dlg (dbl a b) k l) ∧ i = .int .i64 k) (fun _ i => plc n - (intOf i).toNat)
  case atStart => exact ⟨0, Nat.zero_le _, by rw [hz.out], rfl⟩
  case round =>
    obtain ⟨k, hk, rfl, rfl⟩ := hrel
    have b0 := dlg_lo (dbl a b) k l x0
    have b1 := dlg_hi (dbl a b) k l x0 x1
    by_cases hlt : k < plc n
    · cases l
      · have hsu := Lib.hid (dlg_right (dbl a b) k)
        go_wp2_with (go_at_call 137; refine (rplaces_c _ hn hn' _).mono ?_; rintro e w' ⟨rfl, rfl⟩)
        go_round
        case rel => exact ⟨k + 1, by omega, by rw [hsu.out], by go_num⟩
        case measure => simp [intOf]; omega
      · have hsu := Lib.hid (dlg_left (dbl a b) k)
        go_wp2_with (go_at_call 137; refine (rplaces_c _ hn hn' _).mono ?_; rintro e w' ⟨rfl, rfl⟩)
        go_round
        case rel => exact ⟨k + 1, by omega, by rw [hsu.out]; try rfl, by go_num⟩
        case measure => simp [intOf]; omega
    · obtain rfl : k = plc n := by omega
      go_wp2_with (first | (go_at_call 137; refine (rplaces_c _ hn hn' _).mono ?_; rintro e w' ⟨rfl, rfl⟩) | (go_at_call 141; refine (rwords_c _ b0 b1 _).mono ?_; rintro e w' ⟨rfl, rfl⟩))
      go_ret2
      exact ⟨rfl, rfl⟩

end Go.Proofs.YthjdjbipfdigeaaGreat

