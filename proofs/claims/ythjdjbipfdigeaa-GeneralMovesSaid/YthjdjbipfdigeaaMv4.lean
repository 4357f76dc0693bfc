/- Contracts and laws on the way to the statement, text 4 of 5. Conditions: as each states them. -/
import Derived.Test.YthjdjbipfdigeaaMv3
import Derived.Test.YthjdjbipfdigeaaProg
import Derived.Deep.QuietTactic
import Derived.BigQuiet
import Derived.Lib.Hide
import Derived.Outline
import Derived.RegionTactic
import Derived.BigRegion
import Derived.Handy
namespace Go.Proofs.Ythjdjbipfdigeaa
open Go.RowKit
set_option maxRecDepth 100000
set_option linter.unusedVariables false
set_option linter.unusedSimpArgs false
/-- the code that fetching an operand throws, or 0 -/
def opC (op fm : Int) (bs ks : List Int) (key a : Int) : Int := if fm = 1 then 0 else if 72 ≤ op ∧ op ≤ 76 then (if a % 2 = 0 then sCode (alF key) bs.length ks a 2 else 6) else (if a % 4 = 0 then sCode (alF key) bs.length ks a 4 else 6)
def g2V (bs : List Int) (a : Int) : Int := hfv ((sGet bs a 2).getD 0 0) ((sGet bs a 2).getD 1 0)
def g4V (bs : List Int) (a : Int) : Int := flv ((sGet bs a 4).getD 0 0) ((sGet bs a 4).getD 1 0) ((sGet bs a 4).getD 2 0) ((sGet bs a 4).getD 3 0)
/-- the operand -/
def opV (op fm : Int) (os : List Int) (k : Nat) (bs : List Int) (a : Int) : Int := if fm = 1 then os.getD k 0 else if 72 ≤ op ∧ op ≤ 76 then g2V bs a else g4V bs a
theorem sGet_leng {al : Int → Bool} {bs ks : List Int} {a n : Int} (h : sCode al bs.length ks a n = 0) : ((sGet bs a n).length : Int) = n := by
  have h0 := sCode_zero h
  obtain ⟨h1, h2, h3, h4⟩ := sIn_yes h0
  unfold sGet; rw [if_pos h0]; simp; omega
end Go.Proofs.Ythjdjbipfdigeaa

namespace Go.Proofs.Ythjdjbipfdigeaa
open Go.RowKit
set_option maxRecDepth 100000
set_option linter.unusedVariables false
set_option linter.unusedSimpArgs false
theorem MS.setp {w : World} {g : Nat} {F : Foot} {is os rs : List Int} {ps : List Value} {ov : Bool} {bs ks : List Int} (h : MS w g F is os rs ps ov bs ks) {n : Nat} (hn : n < 10) (v : Value) : MS (w.setCell ⟨g, 44 + n, none⟩ v) g F is os rs (ps.set n v) ov bs ks := h.set_ (h.m.setp hn v) ((Ch.refl _ _).setCell (by simp) _)
/-- what LPR, LNR, LTR, LCR store -/
def sgnC (op v : Int) : Bool := decide (op = 19 ∨ (op = 16 ∧ sgn (sg v) = 1) ∨ (op = 17 ∧ sgn (sg v) = 2))
def sgnV (op v : Int) : Int := if sgnC op v = true then lo32 (-sg v) else v
def sgnQ (op v : Int) : Int := if sgnC op v = true then rcc (-sg v) else sgn (sg v)
def sgnO (op v : Int) : Bool := if sgnC op v = true then ovf (-sg v) else false
end Go.Proofs.Ythjdjbipfdigeaa

namespace Go.Proofs.Ythjdjbipfdigeaa
open Go.RowKit
set_option maxRecDepth 100000
set_option linter.unusedVariables false
set_option linter.unusedSimpArgs false
def Ro (w : World) (g c : Nat) (vs : List Int) : Prop := Rw w g 5 c (vs.map (Value.int .u8)) ∧ ∀ z ∈ vs, 0 ≤ z ∧ z ≤ 255
section
variable {w w' : World} {g c : Nat} {vs : List Int}
theorem Ro.cell (h : Ro w g c vs) {i : Nat} (hi : i < vs.length) : w.cell? ⟨g, i, none⟩ = some (.int .u8 (vs.getD i 0)) := by
  rw [h.1.cell (i := i) (by simpa using hi)]; simp [List.getD_eq_getElem?_getD, hi]
theorem Ro.free (h : Ro w g c vs) (i : Nat) : w.frozen? ⟨g, i, none⟩ = false := h.1.free i
theorem Ro.lt (h : Ro w g c vs) : g < w.heap.size := h.1.lt
theorem Ro.set_ (h : Ro w g c vs) {i : Nat} {y : Int} (hy : 0 ≤ y ∧ y ≤ 255) : Ro (w.setCell ⟨g, i, none⟩ (.int .u8 y)) g c (vs.set i y) := by
  refine ⟨by rw [List.map_set]; exact h.1.set_ _, fun z hz => ?_⟩
  rcases List.mem_or_eq_of_mem_set hz with hz | rfl
  · exact h.2 z hz
  · exact hy
theorem Ro.keep (h : Ro w g c vs) (hk : w'.heap[g]? = w.heap[g]?) : Ro w' g c vs := ⟨h.1.keep hk, h.2⟩
theorem Ro.other (h : Ro w g c vs) {p : Addr} (v : Value) (hp : p.block ≠ g) : Ro (w.setCell p v) g c vs := h.keep (Below.heap_setCell w p v g (Ne.symm hp))
theorem Ro.belowS (h : Ro w g c vs) (hb : Below w.heap.size w w') : Ro w' g c vs := ⟨h.1.keep (hb.block _ h.lt), h.2⟩
theorem Ro.drewN (h : Ro w g c vs) (n : Nat) : Ro (w.drewN n) g c vs := h
theorem Ro.byt (h : Ro w g c vs) (n : Nat) (hn : vs.length = n) : Byt w (some ⟨g, 0, none⟩) n vs := by
  subst hn
  exact ⟨rfl, h.2, fun _ => ⟨g, 0, rfl, fun i hi => by rw [Nat.zero_add]; exact h.cell hi⟩⟩
theorem Own.ro {base n : Nat} (h : Own w base (.slice (some ⟨g, 0, none⟩) n c) n vs) : Ro w g c vs := by
  obtain ⟨cur, q1, q2, q3, q4, q5, q6⟩ := Own.heap h
  exact ⟨⟨cur, q1, q2, by rw [List.length_map, h.len]; exact q3, q6⟩, h.2⟩
theorem Ro.rangeD (h : Ro w g c vs) (k : Nat) : 0 ≤ vs.getD k 0 ∧ vs.getD k 0 ≤ 255 := by
  rw [List.getD_eq_getElem?_getD]
  rcases Nat.lt_or_ge k vs.length with hi | hi
  · rw [List.getElem?_eq_getElem hi]; exact h.2 _ (List.getElem_mem hi)
  · rw [List.getElem?_eq_none hi]; simp
end
/-- what combine makes, byte by byte -/
def cmb (f : Int → Int → Int) (x y : List Int) (d : Int) : Nat → List Int
  | 0 => x
  | k + 1 => (cmb f x y d k).set k (f ((cmb f x y d k).getD k 0) (if 0 < d ∧ d ≤ (k : Int) then (cmb f x y d k).getD (k - d.toNat) 0 else y.getD k 0))
def cmbS (f : Int → Int → Int) (x y : List Int) (d : Int) : Nat → Int
  | 0 => 0
  | k + 1 => if (cmb f x y d (k + 1)).getD k 0 = 0 then cmbS f x y d k else 1
theorem cmb_len (f : Int → Int → Int) (x y : List Int) (d : Int) : ∀ k, (cmb f x y d k).length = x.length
  | 0 => rfl
  | k + 1 => by simp only [cmb, List.length_set, cmb_len f x y d k]
theorem chB {w w' : World} {L : List Nat} (h : Below w.heap.size w w') : Ch w w' L := Ch.of_below h L
theorem MS.othr {w : World} {g : Nat} {F : Foot} {is os rs : List Int} {ps : List Value} {ov : Bool} {bs ks : List Int} (h : MS w g F is os rs ps ov bs ks) {p : Addr} (v : Value) (h1 : g ≠ p.block) (h2 : p.block ≠ F.g ∧ p.block ≠ F.gb ∧ p.block ≠ F.gk) : MS (w.setCell p v) g F is os rs ps ov bs ks :=
  ⟨h.m.other v (Ne.symm h1), h.st.keep (Below.heap_setCell w p v F.g (Ne.symm h2.1)) (Below.heap_setCell w p v F.gb (Ne.symm h2.2.1)) (Below.heap_setCell w p v F.gk (Ne.symm h2.2.2)), h.n0, h.n1, h.n2⟩
theorem getD_set_same (l : List Int) (k : Nat) (v : Int) (h : k < l.length) : (l.set k v).getD k 0 = v := by simp [List.getD_eq_getElem?_getD, h]
theorem getD_set_other (l : List Int) (k j : Nat) (v : Int) (h : k ≠ j) : (l.set k v).getD j 0 = l.getD j 0 := by simp [List.getD_eq_getElem?_getD, List.getElem?_set, h]
set_option maxRecDepth 1000000 in
set_option maxHeartbeats 8000000 in
theorem combine_no1 (g fn N : Nat) (f : Int → Int → Int) (lg : Bool) (F : Foot) (is os rs : List Int) (ps : List Value) (ov : Bool) (bs ks : List Int) (key a b : Int) (w : World) (h : MS w g F is os rs ps ov bs ks) (hl : is.getD 9 0 + 1 = (N : Int)) (hN : N ≤ 256) (hkey : ps.getD 1 undef = .int .i64 key) (hfir : ∀ W, MS W g F is os rs ps ov bs ks → Calls Try.prog 71 #[.pointer (some ⟨g, 0, none⟩)] W fun e w' => e = .returned (.int .i64 a) ∧ Ch W w' []) (hsec : ∀ W, MS W g F is os rs ps ov bs ks → Calls Try.prog 44 #[.pointer (some ⟨g, 0, none⟩)] W fun e w' => e = .returned (.int .i64 b) ∧ Ch W w' []) (ha0 : 0 ≤ a) (ha1 : a ≤ 16777215) (hb0 : 0 ≤ b) (hb1 : b ≤ 16777215) (c : Int) (hc : sCode (alF key) bs.length ks a N = c) (hc0 : c ≠ 0) : Calls Try.prog 74 #[.pointer (some ⟨g, 0, none⟩), .func (.func fn) #[] #[], .bool lg] w fun e w' => e = .panicked [{ v := .iface 65 (.int .i64 c), recovered := false }] ∧ MS w' g F is os rs ps ov bs ks ∧ Ch w w' [] := by
  have s9 : w.cell? ⟨g, 9, none⟩ = some (.int .i64 (is.getD 9 0)) := h.m.ci (c := 9) (by omega)
  obtain ⟨l1, hl1⟩ : ∃ l, is.getD 9 0 = l := ⟨_, rfl⟩
  rw [hl1] at hl s9
  have HM := Lib.hid (h.drewN 1)
  have HL := Lib.hid hl1
  have HK := Lib.hid hkey
  have FC := Lib.hid hfir
  have SC := Lib.hid hsec
  have D0 := Lib.hid ((Ch.refl w ([] : List Nat)).drewN 1)
  have wl : IntKind.i64.wrap (l1 + 1) = (N : Int) := by rw [wrap_i64_id (by omega) (by omega)]; exact hl
  have HC := Lib.hid hc
  have HC0 := Lib.hid hc0
  clear h hkey hfir hsec hl1 hc hc0
  go_enter Try.func74, Try.ntmps74
  go_upto_region 0 with fail
  go_region_held3 (fun w' => w'.cell? ⟨g, 9, none⟩ = some (.int .i64 l1)) (first | exact s9 | exact t9 | exact t9') ((first | (go_at_call 71; refine (FC.out _ HM.out).mono ?_; rintro e w1 ⟨rfl, hcs⟩; have M1 := Lib.hid (HM.out.ch hcs); have C1 := Lib.hid (D0.out.trans hcs); have t9 : w1.cell? ⟨g, 9, none⟩ = some (.int .i64 l1) := (by have hq := M1.out.m.ci (c := 9) (by omega); rw [HL.out] at hq; exact hq); clear hcs) | (go_at_call 44; refine (SC.out _ M1.out).mono ?_; rintro e w2 ⟨rfl, hcs⟩; have M2 := Lib.hid (M1.out.ch hcs); have C2 := Lib.hid (C1.out.trans hcs); have t9' : w2.cell? ⟨g, 9, none⟩ = some (.int .i64 l1) := (by have hq := M2.out.m.ci (c := 9) (by omega); rw [HL.out] at hq; exact hq); clear hcs)))
  try simp only [wl]
  go_wp2_with (go_at_call 68; refine (fetch_no g F is os rs ps ov bs ks a (N : Int) key _ M2.out HK.out c HC.out HC0.out).mono ?_; rintro e w4 ⟨rfl, hM, hCh⟩; have M4 := Lib.hid hM; have C4 := Lib.hid (C2.out.trans hCh); clear hM hCh)
  exact ⟨rfl, rfl, M4.out, C4.out⟩
set_option maxRecDepth 1000000 in
set_option maxHeartbeats 8000000 in
theorem combine_no2 (g fn N : Nat) (f : Int → Int → Int) (lg : Bool) (F : Foot) (is os rs : List Int) (ps : List Value) (ov : Bool) (bs ks : List Int) (key a b : Int) (w : World) (h : MS w g F is os rs ps ov bs ks) (hl : is.getD 9 0 + 1 = (N : Int)) (hN : N ≤ 256) (hkey : ps.getD 1 undef = .int .i64 key) (hfir : ∀ W, MS W g F is os rs ps ov bs ks → Calls Try.prog 71 #[.pointer (some ⟨g, 0, none⟩)] W fun e w' => e = .returned (.int .i64 a) ∧ Ch W w' []) (hsec : ∀ W, MS W g F is os rs ps ov bs ks → Calls Try.prog 44 #[.pointer (some ⟨g, 0, none⟩)] W fun e w' => e = .returned (.int .i64 b) ∧ Ch W w' []) (ha0 : 0 ≤ a) (ha1 : a ≤ 16777215) (hb0 : 0 ≤ b) (hb1 : b ≤ 16777215) (hf1 : sCode (alF key) bs.length ks a N = 0) (c : Int) (hc : sCode (alF key) bs.length ks b N = c) (hc0 : c ≠ 0) : Calls Try.prog 74 #[.pointer (some ⟨g, 0, none⟩), .func (.func fn) #[] #[], .bool lg] w fun e w' => e = .panicked [{ v := .iface 65 (.int .i64 c), recovered := false }] ∧ MS w' g F is os rs ps ov bs ks ∧ Ch w w' [] := by
  have s9 : w.cell? ⟨g, 9, none⟩ = some (.int .i64 (is.getD 9 0)) := h.m.ci (c := 9) (by omega)
  obtain ⟨l1, hl1⟩ : ∃ l, is.getD 9 0 = l := ⟨_, rfl⟩
  rw [hl1] at hl s9
  have HM := Lib.hid (h.drewN 1)
  have HL := Lib.hid hl1
  have HK := Lib.hid hkey
  have FC := Lib.hid hfir
  have SC := Lib.hid hsec
  have D0 := Lib.hid ((Ch.refl w ([] : List Nat)).drewN 1)
  have wl : IntKind.i64.wrap (l1 + 1) = (N : Int) := by rw [wrap_i64_id (by omega) (by omega)]; exact hl
  have HF1 := Lib.hid hf1
  have HC := Lib.hid hc
  have HC0 := Lib.hid hc0
  clear h hkey hfir hsec hl1 hc hc0 hf1
  go_enter Try.func74, Try.ntmps74
  go_upto_region 0 with fail
  go_region_held3 (fun w' => w'.cell? ⟨g, 9, none⟩ = some (.int .i64 l1)) (first | exact s9 | exact t9 | exact t9') ((first | (go_at_call 71; refine (FC.out _ HM.out).mono ?_; rintro e w1 ⟨rfl, hcs⟩; have M1 := Lib.hid (HM.out.ch hcs); have C1 := Lib.hid (D0.out.trans hcs); have t9 : w1.cell? ⟨g, 9, none⟩ = some (.int .i64 l1) := (by have hq := M1.out.m.ci (c := 9) (by omega); rw [HL.out] at hq; exact hq); clear hcs) | (go_at_call 44; refine (SC.out _ M1.out).mono ?_; rintro e w2 ⟨rfl, hcs⟩; have M2 := Lib.hid (M1.out.ch hcs); have C2 := Lib.hid (C1.out.trans hcs); have t9' : w2.cell? ⟨g, 9, none⟩ = some (.int .i64 l1) := (by have hq := M2.out.m.ci (c := 9) (by omega); rw [HL.out] at hq; exact hq); clear hcs)))
  try simp only [wl]
  go_wp2_with fail
  refine (fetch_m g F is os rs ps ov bs ks a (N : Int) key _ M2.out HK.out HF1.out).mono ?_
  rintro e w3 ⟨A3, m3, c3, rfl, hO, hM, hCh⟩
  have M3 := Lib.hid hM
  have C3 := Lib.hid (C2.out.trans hCh)
  clear hO hM hCh
  go_wp2_with (go_at_call 68; refine (fetch_no g F is os rs ps ov bs ks b (N : Int) key _ M3.out HK.out c HC.out HC0.out).mono ?_; rintro e w4 ⟨rfl, hM, hCh⟩; have M4 := Lib.hid hM; have C4 := Lib.hid (C3.out.trans hCh); clear hM hCh)
  exact ⟨rfl, rfl, M4.out, C4.out⟩
set_option maxRecDepth 1000000 in
set_option maxHeartbeats 8000000 in
theorem combine_m (g fn N : Nat) (f : Int → Int → Int) (lg : Bool) (F : Foot) (is os rs : List Int) (ps : List Value) (ov : Bool) (bs ks : List Int) (key a b : Int) (w : World) (h : MS w g F is os rs ps ov bs ks) (hl : is.getD 9 0 + 1 = (N : Int)) (hN : N ≤ 256) (hkey : ps.getD 1 undef = .int .i64 key) (hfir : ∀ W, MS W g F is os rs ps ov bs ks → Calls Try.prog 71 #[.pointer (some ⟨g, 0, none⟩)] W fun e w' => e = .returned (.int .i64 a) ∧ Ch W w' []) (hsec : ∀ W, MS W g F is os rs ps ov bs ks → Calls Try.prog 44 #[.pointer (some ⟨g, 0, none⟩)] W fun e w' => e = .returned (.int .i64 b) ∧ Ch W w' []) (ha0 : 0 ≤ a) (ha1 : a ≤ 16777215) (hb0 : 0 ≤ b) (hb1 : b ≤ 16777215) (hN1 : 1 ≤ N) (hf1 : sCode (alF key) bs.length ks a N = 0) (hf2 : sCode (alF key) bs.length ks b N = 0) (hcf : ∀ (args : Array Value) (W : World), Sem.run Try.prog (callFunc fn args) W = .ok (.enter fn args) W) (hfn : ∀ (x y : Int) (W : World), 0 ≤ x → x ≤ 255 → 0 ≤ y → y ≤ 255 → Calls Try.prog fn #[.int .u8 x, .int .u8 y] W fun e w' => e = .returned (.int .u8 (f x y)) ∧ W = w') (hfr : ∀ x y : Int, 0 ≤ x → x ≤ 255 → 0 ≤ y → y ≤ 255 → 0 ≤ f x y ∧ f x y ≤ 255) (c : Int) (hc : sCode (alP key) bs.length ks a N = c) : Calls Try.prog 74 #[.pointer (some ⟨g, 0, none⟩), .func (.func fn) #[] #[], .bool lg] w fun e w' => (c = 0 → e = .returned (.tuple #[]) ∧ MS w' g F is os rs (if lg = true then ps.set 7 (.int .i64 (cmbS f (sGet bs a N) (sGet bs b N) (a - b) N)) else ps) ov (sPut (alP key) bs ks a (cmb f (sGet bs a N) (sGet bs b N) (a - b) N)) ks) ∧ (c ≠ 0 → e = .panicked [{ v := .iface 65 (.int .i64 c), recovered := false }] ∧ MS w' g F is os rs ps ov bs ks) ∧ Ch w w' [g, F.gb] := by
  have s9 : w.cell? ⟨g, 9, none⟩ = some (.int .i64 (is.getD 9 0)) := h.m.ci (c := 9) (by omega)
  obtain ⟨l1, hl1⟩ : ∃ l, is.getD 9 0 = l := ⟨_, rfl⟩
  rw [hl1] at hl s9
  have HM := Lib.hid (h.drewN 1)
  have HL := Lib.hid hl1
  have HK := Lib.hid hkey
  have FC := Lib.hid hfir
  have SC := Lib.hid hsec
  have D0 := Lib.hid ((Ch.refl w ([] : List Nat)).drewN 1)
  have wl : IntKind.i64.wrap (l1 + 1) = (N : Int) := by rw [wrap_i64_id (by omega) (by omega)]; exact hl
  have HF1 := Lib.hid hf1
  have HF2 := Lib.hid hf2
  have HFN := Lib.hid hfn
  have HFR := Lib.hid hfr
  have HC := Lib.hid hc
  have lx := sGet_leng hf1
  have ly := sGet_leng hf2
  obtain ⟨xs, hxs⟩ : ∃ x, sGet bs a N = x := ⟨_, rfl⟩
  obtain ⟨ys, hys⟩ : ∃ y, sGet bs b N = y := ⟨_, rfl⟩
  rw [hxs] at lx ⊢
  rw [hys] at ly ⊢
  have HXS := Lib.hid hxs
  have HYS := Lib.hid hys
  obtain ⟨d, hd⟩ : ∃ d, a - b = d := ⟨_, rfl⟩
  rw [hd]
  have wd : IntKind.i64.wrap (a - b) = d := by rw [wrap_i64_id (by omega) (by omega)]; exact hd
  have d0 : -16777215 ≤ d := by omega
  have d1 : d ≤ 16777215 := by omega
  obtain ⟨R, hR⟩ : ∃ R : Ending → World → Prop, R = fun e w' => (c = 0 → e = .returned (.tuple #[]) ∧ MS w' g F is os rs (if lg = true then ps.set 7 (.int .i64 (cmbS f xs ys d N)) else ps) ov (sPut (alP key) bs ks a (cmb f xs ys d N)) ks) ∧ (c ≠ 0 → e = .panicked [{ v := .iface 65 (.int .i64 c), recovered := false }] ∧ MS w' g F is os rs ps ov bs ks) ∧ Ch w w' [g, F.gb] := ⟨_, rfl⟩
  suffices hs : Calls Try.prog 74 #[.pointer (some ⟨g, 0, none⟩), .func (.func fn) #[] #[], .bool lg] w R by rw [hR] at hs; exact hs
  have HR := Lib.hid hR
  clear h hkey hfir hsec hl1 hf1 hf2 hfn hfr hc hxs hys hd hR
  go_enter Try.func74, Try.ntmps74
  go_upto_region 0 with fail
  go_region_held3 (fun w' => w'.cell? ⟨g, 9, none⟩ = some (.int .i64 l1)) (first | exact s9 | exact t9 | exact t9') ((first | (go_at_call 71; refine (FC.out _ HM.out).mono ?_; rintro e w1 ⟨rfl, hcs⟩; have M1 := Lib.hid (HM.out.ch hcs); have C1 := Lib.hid (D0.out.trans hcs); have t9 : w1.cell? ⟨g, 9, none⟩ = some (.int .i64 l1) := (by have hq := M1.out.m.ci (c := 9) (by omega); rw [HL.out] at hq; exact hq); clear hcs) | (go_at_call 44; refine (SC.out _ M1.out).mono ?_; rintro e w2 ⟨rfl, hcs⟩; have M2 := Lib.hid (M1.out.ch hcs); have C2 := Lib.hid (C1.out.trans hcs); have t9' : w2.cell? ⟨g, 9, none⟩ = some (.int .i64 l1) := (by have hq := M2.out.m.ci (c := 9) (by omega); rw [HL.out] at hq; exact hq); clear hcs)))
  try simp only [wl]
  go_wp2_with fail
  refine (fetch_m g F is os rs ps ov bs ks a (N : Int) key _ M2.out HK.out HF1.out).mono ?_
  rintro e w3 ⟨A3, m3, c3, rfl, hO, hM, hCh⟩
  rw [HXS.out] at hO
  have M3 := Lib.hid hM
  have C3 := Lib.hid (C2.out.trans hCh)
  have hm3 : m3 = N := by have := hO.byt.1; omega
  subst hm3
  obtain ⟨gx, cx, hv, hgx, hlx, -, -⟩ := hO.pos (by omega)
  injection hv with hv1 hv2 hv3
  subst hv1 hv3
  have RX3 := Lib.hid hO.ro
  have BX := Lib.hid (And.intro hgx hlx)
  clear hO hM hCh hgx hlx
  go_wp2_with fail
  refine (fetch_m g F is os rs ps ov bs ks b (m3 : Int) key _ M3.out HK.out HF2.out).mono ?_
  rintro e w4 ⟨A4, m4, c4, rfl, hO, hM, hCh⟩
  rw [HYS.out] at hO
  have M4 := Lib.hid hM
  have C4 := Lib.hid (C3.out.trans hCh)
  have hm4 : m4 = m3 := by have := hO.byt.1; omega
  subst hm4
  obtain ⟨gy, cy, hv, hgy, hly, -, -⟩ := hO.pos (by omega)
  injection hv with hv1 hv2 hv3
  subst hv1 hv3
  have RY4 := Lib.hid hO.ro
  have RX4 := Lib.hid (RX3.out.belowS (hCh.below (Nat.le_refl _) (by simp)))
  have hgm : g ≠ gx ∧ g ≠ gy ∧ gx ≠ gy ∧ w.heap.size ≤ gx ∧ w.heap.size ≤ gy := by
    have h1 := M2.out.m.lt
    have h2 := M3.out.m.lt
    have h3 := BX.out
    have h4 := C2.out.size
    have h5 := C3.out.size
    omega
  obtain ⟨hg1, hg2, hg3, hg4, hg5⟩ := hgm
  have HGX : Hid (gx ≠ F.g ∧ gx ≠ F.gb ∧ gx ≠ F.gk) := Lib.hid (by have := M2.out.st.ltg; have := M2.out.st.ltb; have := M2.out.st.ltk; have := BX.out; omega)
  have HGY : Hid (gy ≠ F.g ∧ gy ≠ F.gb ∧ gy ≠ F.gk) := Lib.hid (by have := M3.out.st.ltg; have := M3.out.st.ltb; have := M3.out.st.ltk; omega)
  have G1 := Lib.hid hg1
  have G2 := Lib.hid hg2
  have G3 := Lib.hid hg3
  clear hO hM hCh hgy hly hg1 hg2 hg3 RX3 BX M1 M2 M3 C1 C2 C3 HM D0 t9 t9' s9
  go_upto_region 4 with fail
  go_loopw [11, 34] (fun sv x W => ∃ k : Nat, k ≤ m4 ∧ x = .int .i64 (k : Int) ∧ sv = .int .i64 (cmbS f xs ys d k) ∧ MS W g F is os rs ps ov bs ks ∧ Ro W gx c3 (cmb f xs ys d k) ∧ (∃ zs, Ro W gy c4 zs ∧ zs.length = m4 ∧ ∀ i, k ≤ i → zs.getD i 0 = ys.getD i 0) ∧ Below w.heap.size w W) (fun _ x _ => m4 - (intOf x).toNat)
  case atStart => exact ⟨0, by omega, rfl, rfl, M4.out, RX4.out, ⟨ys, RY4.out, by omega, fun _ _ => rfl⟩, C4.out.below (Nat.le_refl _) (by simp)⟩
  case round =>
    obtain ⟨k, hk, rfl, rfl, hmw, hrx, ⟨zs, hry, hzl, hzy⟩, hbw⟩ := hrel
    have MW := Lib.hid hmw
    have RX := Lib.hid hrx
    have RY := Lib.hid hry
    have BW := Lib.hid hbw
    have hxl : (cmb f xs ys d k).length = m4 := by rw [cmb_len]; omega
    have HZY := Lib.hid hzy
    clear hmw hrx hry hbw hzy
    by_cases hlt : k < m4
    · have i0 : (k : Int) < (m4 : Int) := by omega
      have i1 : (0 : Int) ≤ (k : Int) := by omega
      have hgx : gx ≠ F.g ∧ gx ≠ F.gb ∧ gx ≠ F.gk := HGX.out
      have hgy : gy ≠ F.g ∧ gy ≠ F.gb ∧ gy ≠ F.gk := HGY.out
      by_cases hcd : 0 < d ∧ d ≤ (k : Int)
      · obtain ⟨j, hj⟩ : ∃ j, k - d.toNat = j := ⟨_, rfl⟩
        have e7 : d > 0 := hcd.1
        have e8 : (k : Int) ≥ d := hcd.2
        have hj2 : (k : Int) - d = (j : Int) := by omega
        have wj : IntKind.i64.wrap ((k : Int) - d) = (j : Int) := by rw [wrap_i64_id (by omega) (by omega)]; exact hj2
        have j0 : (j : Int) < (m4 : Int) := by omega
        have j1 : (0 : Int) ≤ (j : Int) := by omega
        obtain ⟨v, hv⟩ : ∃ v, (cmb f xs ys d k).getD j 0 = v := ⟨_, rfl⟩
        have v01 := RX.out.rangeD j
        rw [hv] at v01
        have cxj := RX.out.cell (i := j) (by omega)
        rw [hv] at cxj
        have cyk0 := RY.out.cell (i := k) (by omega)
        have fyk := RY.out.free k
        obtain ⟨v0, v1⟩ := v01
        obtain ⟨x, hx⟩ : ∃ x, (cmb f xs ys d k).getD k 0 = x := ⟨_, rfl⟩
        have x01 := RX.out.rangeD k
        rw [hx] at x01
        obtain ⟨x0, x1⟩ := x01
        obtain ⟨r, hr⟩ : ∃ r, f x v = r := ⟨_, rfl⟩
        have CE := Lib.hid (show cmb f xs ys d (k + 1) = (cmb f xs ys d k).set k r from by simp only [cmb]; rw [if_pos hcd, hx, hj, hv, hr])
        have R01 := Lib.hid (show 0 ≤ r ∧ r ≤ 255 from by rw [← hr]; exact HFR.out x v x0 x1 v0 v1)
        have CG0 : (cmb f xs ys d (k + 1)).getD k 0 = r := by rw [CE.out, getD_set_same _ _ _ (by omega)]
        have CG := Lib.hid CG0
        have CS0 := Lib.hid (show r = 0 → cmbS f xs ys d (k + 1) = cmbS f xs ys d k from fun h0 => by simp only [cmbS]; rw [if_pos (by rw [CG0]; exact h0)])
        have CS1 := Lib.hid (show r ≠ 0 → cmbS f xs ys d (k + 1) = 1 from fun h0 => by simp only [cmbS]; rw [if_neg (by rw [CG0]; exact h0)])
        have cxk0 := RX.out.cell (i := k) (by omega)
        rw [hx] at cxk0
        clear CG0
        have HX0 := Lib.hid hx
        clear hv hx hj hj2 hcd
        go_upto_region 9 with fail
        have M5 := Lib.hid (MW.out.othr (p := ⟨gy, k, none⟩) (.int .u8 v) G2.out hgy)
        have RX5 := Lib.hid (RX.out.other (p := ⟨gy, k, none⟩) (.int .u8 v) (Ne.symm G3.out))
        have RY5 := Lib.hid (RY.out.set_ (i := k) ⟨v0, v1⟩)
        have B5 := Lib.hid (BW.out.setCell (p := ⟨gy, k, none⟩) hg5 (.int .u8 v))
        obtain ⟨W5, hW5⟩ : ∃ W5, wr.setCell ⟨gy, k, none⟩ (.int .u8 v) = W5 := ⟨_, rfl⟩
        rw [hW5] at M5 RX5 RY5 B5
        try rw [hW5]
        clear hW5 cxj cyk0 fyk cxk0 MW RX RY BW e7 e8 wj
        have cyk := RY5.out.cell (i := k) (by rw [List.length_set]; omega)
        rw [getD_set_same _ _ _ (by omega)] at cyk
        have cxk := RX5.out.cell (i := k) (by omega)
        have fxk := RX5.out.free k
        rw [HX0.out] at cxk
        refine wp_region_held_drew (S := fun _ => True) (by kernel_rfl) trivial (fun _ => ?_)
        refine' takeL (i := 0) (v := _) rfl (by kernel_rfl) (by kernel_rfl) (by kernel_rfl) (fun _ _ _ h => h) (Or.inl ⟨by rfl, ?yy1⟩) (by assumption) ?rr1
        case yy1 => intro w hSw; (try dsimp only at hSw); go_simp; (try with_reducible rfl)
        try simp only [Act.put, List.setIfInBounds_toArray, List.set_cons_zero, List.set_cons_succ]
        refine' takeL (i := 1) (v := _) rfl (by kernel_rfl) (by kernel_rfl) (by kernel_rfl) (fun _ _ _ h => h) (Or.inl ⟨by rfl, ?yy2⟩) (by assumption) ?rr2
        case yy2 => intro w hSw; (try dsimp only at hSw); go_simp; (try with_reducible rfl)
        try simp only [Act.put, List.setIfInBounds_toArray, List.set_cons_zero, List.set_cons_succ]
        refine' takeL (i := 2) (v := _) rfl (by kernel_rfl) (by kernel_rfl) (by kernel_rfl) (fun _ _ _ h => h) (Or.inl ⟨by rfl, ?yy3⟩) (by assumption) ?rr3
        case yy3 => intro w hSw; (try dsimp only at hSw); go_simp; (try with_reducible rfl)
        try simp only [Act.put, List.setIfInBounds_toArray, List.set_cons_zero, List.set_cons_succ]
        refine' takeL (i := 3) (v := _) rfl (by kernel_rfl) (by kernel_rfl) (by kernel_rfl) (fun _ _ _ h => h) (Or.inl ⟨by rfl, ?yy4⟩) (by assumption) ?rr4
        case yy4 => intro w hSw; (try dsimp only at hSw); go_simp; (try with_reducible rfl)
        try simp only [Act.put, List.setIfInBounds_toArray, List.set_cons_zero, List.set_cons_succ]
        refine' takeL (i := 4) (v := _) rfl (by kernel_rfl) (by kernel_rfl) (by kernel_rfl) (fun _ _ _ h => h) (Or.inl ⟨by rfl, ?yy5⟩) (by assumption) ?rr5
        case yy5 => intro w hSw; (try dsimp only at hSw); go_simp; (try with_reducible rfl)
        try simp only [Act.put, List.setIfInBounds_toArray, List.set_cons_zero, List.set_cons_succ]
        refine' takeL (i := 5) (v := _) rfl (by kernel_rfl) (by kernel_rfl) (by kernel_rfl) (fun _ _ _ h => h) (Or.inl ⟨by rfl, ?yy6⟩) (by assumption) ?rr6
        case yy6 => intro w hSw; (try dsimp only at hSw); go_simp; (try with_reducible rfl)
        try simp only [Act.put, List.setIfInBounds_toArray, List.set_cons_zero, List.set_cons_succ]
        refine' takeL (i := 7) (v := _) rfl (by kernel_rfl) (by kernel_rfl) (by kernel_rfl) (fun _ _ _ h => h) (Or.inl ⟨by rfl, ?yy7⟩) (by assumption) ?rr7
        case yy7 => intro w hSw; (try dsimp only at hSw); go_simp; (try with_reducible rfl)
        try simp only [Act.put, List.setIfInBounds_toArray, List.set_cons_zero, List.set_cons_succ]
        refine' takeL (i := 8) (v := _) rfl (by kernel_rfl) (by kernel_rfl) (by kernel_rfl) (fun _ _ _ h => h) (Or.inl ⟨by rfl, ?yy8⟩) (by assumption) ?rr8
        case yy8 => intro w hSw; (try dsimp only at hSw); go_simp; (try with_reducible rfl)
        try simp only [Act.put, List.setIfInBounds_toArray, List.set_cons_zero, List.set_cons_succ]
        refine' takeL (i := 9) (v := _) rfl (by kernel_rfl) (by kernel_rfl) (by kernel_rfl) (fun _ _ _ h => h) (Or.inl ⟨by rfl, ?yy9⟩) (by assumption) ?rr9
        case yy9 => intro w hSw; (try dsimp only at hSw); go_simp; (try with_reducible rfl)
        try simp only [Act.put, List.setIfInBounds_toArray, List.set_cons_zero, List.set_cons_succ]
        refine wpAnyH_ready (rs := [6, 10]) (by kernel_rfl) (by simp) ?_
        refine consL rfl (fun K hK => ?_) ?_
        · go_simp
          refine hK.out _ _ trivial (fun _ => ?_)
          clear hK K
          try simp only [Act.put, List.setIfInBounds_toArray, List.set_cons_zero, List.set_cons_succ]
          refine wpAnyH_ready (rs := [10]) (by kernel_rfl) (by simp) ?_
          refine consL rfl (fun K hK => ?_) AllReadyH.nil
          go_simp
          refine hK.out _ _ trivial (fun _ => ?_)
          clear hK K
          try simp only [Act.put, List.setIfInBounds_toArray, List.set_cons_zero, List.set_cons_succ]
          refine wpAnyH_ready (rs := [11]) (by kernel_rfl) (by simp) ?_
          refine consL rfl (fun K hK => ?_) AllReadyH.nil
          go_simp
          refine (HFN.out x v _ x0 x1 v0 v1).mono ?_
          rintro e w9 ⟨rfl, hw9⟩
          subst hw9
          go_wp2_with fail
          refine hK.out _ _ trivial (fun _ => ?_)
          clear hK K
          try simp only [Act.put, List.setIfInBounds_toArray, List.set_cons_zero, List.set_cons_succ]
          refine' takeL (i := 12) (v := _) rfl (by kernel_rfl) (by kernel_rfl) (by kernel_rfl) (fun _ _ _ h => h) (Or.inl ⟨by rfl, ?yy10⟩) (by assumption) ?rr10
          case yy10 => intro w hSw; (try dsimp only at hSw); go_simp; (try with_reducible rfl)
          try simp only [Act.put, List.setIfInBounds_toArray, List.set_cons_zero, List.set_cons_succ]
          refine wpAnyH_ready (rs := [13]) (by kernel_rfl) (by simp) ?_
          refine consL rfl (fun K hK => ?_) AllReadyH.nil
          go_simp
          refine hK.out _ _ trivial (fun _ => ?_)
          clear hK K
          try simp only [Act.put, List.setIfInBounds_toArray, List.set_cons_zero, List.set_cons_succ]
          refine wpAnyH_done (by kernel_rfl) ?_ _
          obtain ⟨W6, hW6⟩ : ∃ W6, (W5.setCell ⟨gx, k, none⟩ (.int .u8 r)).drew = W6 := ⟨_, rfl⟩
          have M6 := Lib.hid (show MS (W5.setCell ⟨gx, k, none⟩ (.int .u8 r)).drew g F is os rs ps ov bs ks from (M5.out.othr _ G1.out hgx).drewN 1)
          have RX6 := Lib.hid (show Ro (W5.setCell ⟨gx, k, none⟩ (.int .u8 r)).drew gx c3 _ from (RX5.out.set_ (i := k) R01.out).drewN 1)
          have RY6 := Lib.hid (show Ro (W5.setCell ⟨gx, k, none⟩ (.int .u8 r)).drew gy c4 _ from (RY5.out.other (p := ⟨gx, k, none⟩) (.int .u8 r) G3.out).drewN 1)
          have B6 := Lib.hid (show Below w.heap.size w (W5.setCell ⟨gx, k, none⟩ (.int .u8 r)).drew from dBelow' (B5.out.setCell (p := ⟨gx, k, none⟩) hg4 _) 1)
          rw [hW6] at M6 RX6 RY6 B6
          try rw [hW6]
          clear hW6 cxk cyk fxk
          rw [← CE.out] at RX6
          have cr := RX6.out.cell (i := k) (by rw [cmb_len]; omega)
          rw [CG.out] at cr
          by_cases hr0 : r = 0
          · have e10 : (r != 0) = false := by rw [hr0]; rfl
            have CS := CS0.out hr0
            clear hr0
            go_wp2
            refine ⟨⟨k + 1, by omega, rfl, by rw [CS], M6.out, RX6.out, ⟨_, RY6.out, by rw [List.length_set]; exact hzl, fun i hi => by rw [getD_set_other _ _ _ _ (by omega)]; exact HZY.out i (by omega)⟩, B6.out⟩, by simp [intOf]; omega⟩
          · have e10 : (r != 0) = true := by simpa using hr0
            have CS := CS1.out hr0
            clear hr0
            go_wp2
            refine ⟨⟨k + 1, by omega, rfl, by rw [CS], M6.out, RX6.out, ⟨_, RY6.out, by rw [List.length_set]; exact hzl, fun i hi => by rw [getD_set_other _ _ _ _ (by omega)]; exact HZY.out i (by omega)⟩, B6.out⟩, by simp [intOf]; omega⟩
        refine consL rfl (fun K hK => ?_) AllReadyH.nil
        go_simp
        refine hK.out _ _ trivial (fun _ => ?_)
        clear hK K
        try simp only [Act.put, List.setIfInBounds_toArray, List.set_cons_zero, List.set_cons_succ]
        refine wpAnyH_ready (rs := [6]) (by kernel_rfl) (by simp) ?_
        refine consL rfl (fun K hK => ?_) AllReadyH.nil
        go_simp
        refine hK.out _ _ trivial (fun _ => ?_)
        clear hK K
        try simp only [Act.put, List.setIfInBounds_toArray, List.set_cons_zero, List.set_cons_succ]
        refine wpAnyH_ready (rs := [11]) (by kernel_rfl) (by simp) ?_
        refine consL rfl (fun K hK => ?_) AllReadyH.nil
        go_simp
        refine (HFN.out x v _ x0 x1 v0 v1).mono ?_
        rintro e w9 ⟨rfl, hw9⟩
        subst hw9
        go_wp2_with fail
        refine hK.out _ _ trivial (fun _ => ?_)
        clear hK K
        try simp only [Act.put, List.setIfInBounds_toArray, List.set_cons_zero, List.set_cons_succ]
        refine' takeL (i := 12) (v := _) rfl (by kernel_rfl) (by kernel_rfl) (by kernel_rfl) (fun _ _ _ h => h) (Or.inl ⟨by rfl, ?yy11⟩) (by assumption) ?rr11
        case yy11 => intro w hSw; (try dsimp only at hSw); go_simp; (try with_reducible rfl)
        try simp only [Act.put, List.setIfInBounds_toArray, List.set_cons_zero, List.set_cons_succ]
        refine wpAnyH_ready (rs := [13]) (by kernel_rfl) (by simp) ?_
        refine consL rfl (fun K hK => ?_) AllReadyH.nil
        go_simp
        refine hK.out _ _ trivial (fun _ => ?_)
        clear hK K
        try simp only [Act.put, List.setIfInBounds_toArray, List.set_cons_zero, List.set_cons_succ]
        refine wpAnyH_done (by kernel_rfl) ?_ _
        obtain ⟨W6, hW6⟩ : ∃ W6, (W5.setCell ⟨gx, k, none⟩ (.int .u8 r)).drew = W6 := ⟨_, rfl⟩
        have M6 := Lib.hid (show MS (W5.setCell ⟨gx, k, none⟩ (.int .u8 r)).drew g F is os rs ps ov bs ks from (M5.out.othr _ G1.out hgx).drewN 1)
        have RX6 := Lib.hid (show Ro (W5.setCell ⟨gx, k, none⟩ (.int .u8 r)).drew gx c3 _ from (RX5.out.set_ (i := k) R01.out).drewN 1)
        have RY6 := Lib.hid (show Ro (W5.setCell ⟨gx, k, none⟩ (.int .u8 r)).drew gy c4 _ from (RY5.out.other (p := ⟨gx, k, none⟩) (.int .u8 r) G3.out).drewN 1)
        have B6 := Lib.hid (show Below w.heap.size w (W5.setCell ⟨gx, k, none⟩ (.int .u8 r)).drew from dBelow' (B5.out.setCell (p := ⟨gx, k, none⟩) hg4 _) 1)
        rw [hW6] at M6 RX6 RY6 B6
        try rw [hW6]
        clear hW6 cxk cyk fxk
        rw [← CE.out] at RX6
        have cr := RX6.out.cell (i := k) (by rw [cmb_len]; omega)
        rw [CG.out] at cr
        by_cases hr0 : r = 0
        · have e10 : (r != 0) = false := by rw [hr0]; rfl
          have CS := CS0.out hr0
          clear hr0
          go_wp2
          refine ⟨⟨k + 1, by omega, rfl, by rw [CS], M6.out, RX6.out, ⟨_, RY6.out, by rw [List.length_set]; exact hzl, fun i hi => by rw [getD_set_other _ _ _ _ (by omega)]; exact HZY.out i (by omega)⟩, B6.out⟩, by simp [intOf]; omega⟩
        · have e10 : (r != 0) = true := by simpa using hr0
          have CS := CS1.out hr0
          clear hr0
          go_wp2
          refine ⟨⟨k + 1, by omega, rfl, by rw [CS], M6.out, RX6.out, ⟨_, RY6.out, by rw [List.length_set]; exact hzl, fun i hi => by rw [getD_set_other _ _ _ _ (by omega)]; exact HZY.out i (by omega)⟩, B6.out⟩, by simp [intOf]; omega⟩
      · by_cases hd0 : d > 0
        · obtain ⟨v, hv⟩ : ∃ v, ys.getD k 0 = v := ⟨_, rfl⟩
          have hzk := HZY.out k (by omega)
          rw [hv] at hzk
          have v01 := RY.out.rangeD k
          rw [hzk] at v01
          obtain ⟨v0, v1⟩ := v01
          obtain ⟨x, hx⟩ : ∃ x, (cmb f xs ys d k).getD k 0 = x := ⟨_, rfl⟩
          have x01 := RX.out.rangeD k
          rw [hx] at x01
          obtain ⟨x0, x1⟩ := x01
          obtain ⟨r, hr⟩ : ∃ r, f x v = r := ⟨_, rfl⟩
          have CE := Lib.hid (show cmb f xs ys d (k + 1) = (cmb f xs ys d k).set k r from by simp only [cmb]; rw [if_neg hcd, hx, hv, hr])
          have R01 := Lib.hid (show 0 ≤ r ∧ r ≤ 255 from by rw [← hr]; exact HFR.out x v x0 x1 v0 v1)
          have CG0 : (cmb f xs ys d (k + 1)).getD k 0 = r := by rw [CE.out, getD_set_same _ _ _ (by omega)]
          have CG := Lib.hid CG0
          have CS0 := Lib.hid (show r = 0 → cmbS f xs ys d (k + 1) = cmbS f xs ys d k from fun h0 => by simp only [cmbS]; rw [if_pos (by rw [CG0]; exact h0)])
          have CS1 := Lib.hid (show r ≠ 0 → cmbS f xs ys d (k + 1) = 1 from fun h0 => by simp only [cmbS]; rw [if_neg (by rw [CG0]; exact h0)])
          have cxk0 := RX.out.cell (i := k) (by omega)
          rw [hx] at cxk0
          clear CG0
          have e7 : d > 0 := hd0
          have e8 : ¬ (k : Int) ≥ d := by omega
          have HX0 := Lib.hid hx
          clear hv hx hcd hd0
          go_upto_region 9 with fail
          obtain ⟨W5, hW5⟩ : ∃ W5, wr = W5 := ⟨_, rfl⟩
          have M5 := MW
          have RX5 := RX
          have RY5 := RY
          have B5 := BW
          rw [hW5] at M5 RX5 RY5 B5
          try rw [hW5]
          clear hW5 MW RX RY BW cxk0 e7 e8
          have cyk := RY5.out.cell (i := k) (by omega)
          rw [hzk] at cyk
          have cxk := RX5.out.cell (i := k) (by omega)
          have fxk := RX5.out.free k
          clear hzk
          rw [HX0.out] at cxk
          refine wp_region_held_drew (S := fun _ => True) (by kernel_rfl) trivial (fun _ => ?_)
          refine' takeL (i := 0) (v := _) rfl (by kernel_rfl) (by kernel_rfl) (by kernel_rfl) (fun _ _ _ h => h) (Or.inl ⟨by rfl, ?yy23⟩) (by assumption) ?rr23
          case yy23 => intro w hSw; (try dsimp only at hSw); go_simp; (try with_reducible rfl)
          try simp only [Act.put, List.setIfInBounds_toArray, List.set_cons_zero, List.set_cons_succ]
          refine' takeL (i := 1) (v := _) rfl (by kernel_rfl) (by kernel_rfl) (by kernel_rfl) (fun _ _ _ h => h) (Or.inl ⟨by rfl, ?yy24⟩) (by assumption) ?rr24
          case yy24 => intro w hSw; (try dsimp only at hSw); go_simp; (try with_reducible rfl)
          try simp only [Act.put, List.setIfInBounds_toArray, List.set_cons_zero, List.set_cons_succ]
          refine' takeL (i := 2) (v := _) rfl (by kernel_rfl) (by kernel_rfl) (by kernel_rfl) (fun _ _ _ h => h) (Or.inl ⟨by rfl, ?yy25⟩) (by assumption) ?rr25
          case yy25 => intro w hSw; (try dsimp only at hSw); go_simp; (try with_reducible rfl)
          try simp only [Act.put, List.setIfInBounds_toArray, List.set_cons_zero, List.set_cons_succ]
          refine' takeL (i := 3) (v := _) rfl (by kernel_rfl) (by kernel_rfl) (by kernel_rfl) (fun _ _ _ h => h) (Or.inl ⟨by rfl, ?yy26⟩) (by assumption) ?rr26
          case yy26 => intro w hSw; (try dsimp only at hSw); go_simp; (try with_reducible rfl)
          try simp only [Act.put, List.setIfInBounds_toArray, List.set_cons_zero, List.set_cons_succ]
          refine' takeL (i := 4) (v := _) rfl (by kernel_rfl) (by kernel_rfl) (by kernel_rfl) (fun _ _ _ h => h) (Or.inl ⟨by rfl, ?yy27⟩) (by assumption) ?rr27
          case yy27 => intro w hSw; (try dsimp only at hSw); go_simp; (try with_reducible rfl)
          try simp only [Act.put, List.setIfInBounds_toArray, List.set_cons_zero, List.set_cons_succ]
          refine' takeL (i := 5) (v := _) rfl (by kernel_rfl) (by kernel_rfl) (by kernel_rfl) (fun _ _ _ h => h) (Or.inl ⟨by rfl, ?yy28⟩) (by assumption) ?rr28
          case yy28 => intro w hSw; (try dsimp only at hSw); go_simp; (try with_reducible rfl)
          try simp only [Act.put, List.setIfInBounds_toArray, List.set_cons_zero, List.set_cons_succ]
          refine' takeL (i := 7) (v := _) rfl (by kernel_rfl) (by kernel_rfl) (by kernel_rfl) (fun _ _ _ h => h) (Or.inl ⟨by rfl, ?yy29⟩) (by assumption) ?rr29
          case yy29 => intro w hSw; (try dsimp only at hSw); go_simp; (try with_reducible rfl)
          try simp only [Act.put, List.setIfInBounds_toArray, List.set_cons_zero, List.set_cons_succ]
          refine' takeL (i := 8) (v := _) rfl (by kernel_rfl) (by kernel_rfl) (by kernel_rfl) (fun _ _ _ h => h) (Or.inl ⟨by rfl, ?yy30⟩) (by assumption) ?rr30
          case yy30 => intro w hSw; (try dsimp only at hSw); go_simp; (try with_reducible rfl)
          try simp only [Act.put, List.setIfInBounds_toArray, List.set_cons_zero, List.set_cons_succ]
          refine' takeL (i := 9) (v := _) rfl (by kernel_rfl) (by kernel_rfl) (by kernel_rfl) (fun _ _ _ h => h) (Or.inl ⟨by rfl, ?yy31⟩) (by assumption) ?rr31
          case yy31 => intro w hSw; (try dsimp only at hSw); go_simp; (try with_reducible rfl)
          try simp only [Act.put, List.setIfInBounds_toArray, List.set_cons_zero, List.set_cons_succ]
          refine wpAnyH_ready (rs := [6, 10]) (by kernel_rfl) (by simp) ?_
          refine consL rfl (fun K hK => ?_) ?_
          · go_simp
            refine hK.out _ _ trivial (fun _ => ?_)
            clear hK K
            try simp only [Act.put, List.setIfInBounds_toArray, List.set_cons_zero, List.set_cons_succ]
            refine wpAnyH_ready (rs := [10]) (by kernel_rfl) (by simp) ?_
            refine consL rfl (fun K hK => ?_) AllReadyH.nil
            go_simp
            refine hK.out _ _ trivial (fun _ => ?_)
            clear hK K
            try simp only [Act.put, List.setIfInBounds_toArray, List.set_cons_zero, List.set_cons_succ]
            refine wpAnyH_ready (rs := [11]) (by kernel_rfl) (by simp) ?_
            refine consL rfl (fun K hK => ?_) AllReadyH.nil
            go_simp
            refine (HFN.out x v _ x0 x1 v0 v1).mono ?_
            rintro e w9 ⟨rfl, hw9⟩
            subst hw9
            go_wp2_with fail
            refine hK.out _ _ trivial (fun _ => ?_)
            clear hK K
            try simp only [Act.put, List.setIfInBounds_toArray, List.set_cons_zero, List.set_cons_succ]
            refine' takeL (i := 12) (v := _) rfl (by kernel_rfl) (by kernel_rfl) (by kernel_rfl) (fun _ _ _ h => h) (Or.inl ⟨by rfl, ?yy32⟩) (by assumption) ?rr32
            case yy32 => intro w hSw; (try dsimp only at hSw); go_simp; (try with_reducible rfl)
            try simp only [Act.put, List.setIfInBounds_toArray, List.set_cons_zero, List.set_cons_succ]
            refine wpAnyH_ready (rs := [13]) (by kernel_rfl) (by simp) ?_
            refine consL rfl (fun K hK => ?_) AllReadyH.nil
            go_simp
            refine hK.out _ _ trivial (fun _ => ?_)
            clear hK K
            try simp only [Act.put, List.setIfInBounds_toArray, List.set_cons_zero, List.set_cons_succ]
            refine wpAnyH_done (by kernel_rfl) ?_ _
            obtain ⟨W6, hW6⟩ : ∃ W6, (W5.setCell ⟨gx, k, none⟩ (.int .u8 r)).drew = W6 := ⟨_, rfl⟩
            have M6 := Lib.hid (show MS (W5.setCell ⟨gx, k, none⟩ (.int .u8 r)).drew g F is os rs ps ov bs ks from (M5.out.othr _ G1.out hgx).drewN 1)
            have RX6 := Lib.hid (show Ro (W5.setCell ⟨gx, k, none⟩ (.int .u8 r)).drew gx c3 _ from (RX5.out.set_ (i := k) R01.out).drewN 1)
            have RY6 := Lib.hid (show Ro (W5.setCell ⟨gx, k, none⟩ (.int .u8 r)).drew gy c4 _ from (RY5.out.other (p := ⟨gx, k, none⟩) (.int .u8 r) G3.out).drewN 1)
            have B6 := Lib.hid (show Below w.heap.size w (W5.setCell ⟨gx, k, none⟩ (.int .u8 r)).drew from dBelow' (B5.out.setCell (p := ⟨gx, k, none⟩) hg4 _) 1)
            rw [hW6] at M6 RX6 RY6 B6
            try rw [hW6]
            clear hW6 cxk cyk fxk
            rw [← CE.out] at RX6
            have cr := RX6.out.cell (i := k) (by rw [cmb_len]; omega)
            rw [CG.out] at cr
            by_cases hr0 : r = 0
            · have e10 : (r != 0) = false := by rw [hr0]; rfl
              have CS := CS0.out hr0
              clear hr0
              go_wp2
              refine ⟨⟨k + 1, by omega, rfl, by rw [CS], M6.out, RX6.out, ⟨_, RY6.out, hzl, fun i hi => HZY.out i (by omega)⟩, B6.out⟩, by simp [intOf]; omega⟩
            · have e10 : (r != 0) = true := by simpa using hr0
              have CS := CS1.out hr0
              clear hr0
              go_wp2
              refine ⟨⟨k + 1, by omega, rfl, by rw [CS], M6.out, RX6.out, ⟨_, RY6.out, hzl, fun i hi => HZY.out i (by omega)⟩, B6.out⟩, by simp [intOf]; omega⟩
          refine consL rfl (fun K hK => ?_) AllReadyH.nil
          go_simp
          refine hK.out _ _ trivial (fun _ => ?_)
          clear hK K
          try simp only [Act.put, List.setIfInBounds_toArray, List.set_cons_zero, List.set_cons_succ]
          refine wpAnyH_ready (rs := [6]) (by kernel_rfl) (by simp) ?_
          refine consL rfl (fun K hK => ?_) AllReadyH.nil
          go_simp
          refine hK.out _ _ trivial (fun _ => ?_)
          clear hK K
          try simp only [Act.put, List.setIfInBounds_toArray, List.set_cons_zero, List.set_cons_succ]
          refine wpAnyH_ready (rs := [11]) (by kernel_rfl) (by simp) ?_
          refine consL rfl (fun K hK => ?_) AllReadyH.nil
          go_simp
          refine (HFN.out x v _ x0 x1 v0 v1).mono ?_
          rintro e w9 ⟨rfl, hw9⟩
          subst hw9
          go_wp2_with fail
          refine hK.out _ _ trivial (fun _ => ?_)
          clear hK K
          try simp only [Act.put, List.setIfInBounds_toArray, List.set_cons_zero, List.set_cons_succ]
          refine' takeL (i := 12) (v := _) rfl (by kernel_rfl) (by kernel_rfl) (by kernel_rfl) (fun _ _ _ h => h) (Or.inl ⟨by rfl, ?yy33⟩) (by assumption) ?rr33
          case yy33 => intro w hSw; (try dsimp only at hSw); go_simp; (try with_reducible rfl)
          try simp only [Act.put, List.setIfInBounds_toArray, List.set_cons_zero, List.set_cons_succ]
          refine wpAnyH_ready (rs := [13]) (by kernel_rfl) (by simp) ?_
          refine consL rfl (fun K hK => ?_) AllReadyH.nil
          go_simp
          refine hK.out _ _ trivial (fun _ => ?_)
          clear hK K
          try simp only [Act.put, List.setIfInBounds_toArray, List.set_cons_zero, List.set_cons_succ]
          refine wpAnyH_done (by kernel_rfl) ?_ _
          obtain ⟨W6, hW6⟩ : ∃ W6, (W5.setCell ⟨gx, k, none⟩ (.int .u8 r)).drew = W6 := ⟨_, rfl⟩
          have M6 := Lib.hid (show MS (W5.setCell ⟨gx, k, none⟩ (.int .u8 r)).drew g F is os rs ps ov bs ks from (M5.out.othr _ G1.out hgx).drewN 1)
          have RX6 := Lib.hid (show Ro (W5.setCell ⟨gx, k, none⟩ (.int .u8 r)).drew gx c3 _ from (RX5.out.set_ (i := k) R01.out).drewN 1)
          have RY6 := Lib.hid (show Ro (W5.setCell ⟨gx, k, none⟩ (.int .u8 r)).drew gy c4 _ from (RY5.out.other (p := ⟨gx, k, none⟩) (.int .u8 r) G3.out).drewN 1)
          have B6 := Lib.hid (show Below w.heap.size w (W5.setCell ⟨gx, k, none⟩ (.int .u8 r)).drew from dBelow' (B5.out.setCell (p := ⟨gx, k, none⟩) hg4 _) 1)
          rw [hW6] at M6 RX6 RY6 B6
          try rw [hW6]
          clear hW6 cxk cyk fxk
          rw [← CE.out] at RX6
          have cr := RX6.out.cell (i := k) (by rw [cmb_len]; omega)
          rw [CG.out] at cr
          by_cases hr0 : r = 0
          · have e10 : (r != 0) = false := by rw [hr0]; rfl
            have CS := CS0.out hr0
            clear hr0
            go_wp2
            refine ⟨⟨k + 1, by omega, rfl, by rw [CS], M6.out, RX6.out, ⟨_, RY6.out, hzl, fun i hi => HZY.out i (by omega)⟩, B6.out⟩, by simp [intOf]; omega⟩
          · have e10 : (r != 0) = true := by simpa using hr0
            have CS := CS1.out hr0
            clear hr0
            go_wp2
            refine ⟨⟨k + 1, by omega, rfl, by rw [CS], M6.out, RX6.out, ⟨_, RY6.out, hzl, fun i hi => HZY.out i (by omega)⟩, B6.out⟩, by simp [intOf]; omega⟩
        · obtain ⟨v, hv⟩ : ∃ v, ys.getD k 0 = v := ⟨_, rfl⟩
          have hzk := HZY.out k (by omega)
          rw [hv] at hzk
          have v01 := RY.out.rangeD k
          rw [hzk] at v01
          obtain ⟨v0, v1⟩ := v01
          obtain ⟨x, hx⟩ : ∃ x, (cmb f xs ys d k).getD k 0 = x := ⟨_, rfl⟩
          have x01 := RX.out.rangeD k
          rw [hx] at x01
          obtain ⟨x0, x1⟩ := x01
          obtain ⟨r, hr⟩ : ∃ r, f x v = r := ⟨_, rfl⟩
          have CE := Lib.hid (show cmb f xs ys d (k + 1) = (cmb f xs ys d k).set k r from by simp only [cmb]; rw [if_neg hcd, hx, hv, hr])
          have R01 := Lib.hid (show 0 ≤ r ∧ r ≤ 255 from by rw [← hr]; exact HFR.out x v x0 x1 v0 v1)
          have CG0 : (cmb f xs ys d (k + 1)).getD k 0 = r := by rw [CE.out, getD_set_same _ _ _ (by omega)]
          have CG := Lib.hid CG0
          have CS0 := Lib.hid (show r = 0 → cmbS f xs ys d (k + 1) = cmbS f xs ys d k from fun h0 => by simp only [cmbS]; rw [if_pos (by rw [CG0]; exact h0)])
          have CS1 := Lib.hid (show r ≠ 0 → cmbS f xs ys d (k + 1) = 1 from fun h0 => by simp only [cmbS]; rw [if_neg (by rw [CG0]; exact h0)])
          have cxk0 := RX.out.cell (i := k) (by omega)
          rw [hx] at cxk0
          clear CG0
          have e7 : ¬ d > 0 := by omega
          have HX0 := Lib.hid hx
          clear hv hx hcd hd0
          go_upto_region 9 with fail
          obtain ⟨W5, hW5⟩ : ∃ W5, wr = W5 := ⟨_, rfl⟩
          have M5 := MW
          have RX5 := RX
          have RY5 := RY
          have B5 := BW
          rw [hW5] at M5 RX5 RY5 B5
          try rw [hW5]
          clear hW5 MW RX RY BW cxk0 e7
          have cyk := RY5.out.cell (i := k) (by omega)
          rw [hzk] at cyk
          have cxk := RX5.out.cell (i := k) (by omega)
          have fxk := RX5.out.free k
          clear hzk
          rw [HX0.out] at cxk
          refine wp_region_held_drew (S := fun _ => True) (by kernel_rfl) trivial (fun _ => ?_)
          refine' takeL (i := 0) (v := _) rfl (by kernel_rfl) (by kernel_rfl) (by kernel_rfl) (fun _ _ _ h => h) (Or.inl ⟨by rfl, ?yy12⟩) (by assumption) ?rr12
          case yy12 => intro w hSw; (try dsimp only at hSw); go_simp; (try with_reducible rfl)
          try simp only [Act.put, List.setIfInBounds_toArray, List.set_cons_zero, List.set_cons_succ]
          refine' takeL (i := 1) (v := _) rfl (by kernel_rfl) (by kernel_rfl) (by kernel_rfl) (fun _ _ _ h => h) (Or.inl ⟨by rfl, ?yy13⟩) (by assumption) ?rr13
          case yy13 => intro w hSw; (try dsimp only at hSw); go_simp; (try with_reducible rfl)
          try simp only [Act.put, List.setIfInBounds_toArray, List.set_cons_zero, List.set_cons_succ]
          refine' takeL (i := 2) (v := _) rfl (by kernel_rfl) (by kernel_rfl) (by kernel_rfl) (fun _ _ _ h => h) (Or.inl ⟨by rfl, ?yy14⟩) (by assumption) ?rr14
          case yy14 => intro w hSw; (try dsimp only at hSw); go_simp; (try with_reducible rfl)
          try simp only [Act.put, List.setIfInBounds_toArray, List.set_cons_zero, List.set_cons_succ]
          refine' takeL (i := 3) (v := _) rfl (by kernel_rfl) (by kernel_rfl) (by kernel_rfl) (fun _ _ _ h => h) (Or.inl ⟨by rfl, ?yy15⟩) (by assumption) ?rr15
          case yy15 => intro w hSw; (try dsimp only at hSw); go_simp; (try with_reducible rfl)
          try simp only [Act.put, List.setIfInBounds_toArray, List.set_cons_zero, List.set_cons_succ]
          refine' takeL (i := 4) (v := _) rfl (by kernel_rfl) (by kernel_rfl) (by kernel_rfl) (fun _ _ _ h => h) (Or.inl ⟨by rfl, ?yy16⟩) (by assumption) ?rr16
          case yy16 => intro w hSw; (try dsimp only at hSw); go_simp; (try with_reducible rfl)
          try simp only [Act.put, List.setIfInBounds_toArray, List.set_cons_zero, List.set_cons_succ]
          refine' takeL (i := 5) (v := _) rfl (by kernel_rfl) (by kernel_rfl) (by kernel_rfl) (fun _ _ _ h => h) (Or.inl ⟨by rfl, ?yy17⟩) (by assumption) ?rr17
          case yy17 => intro w hSw; (try dsimp only at hSw); go_simp; (try with_reducible rfl)
          try simp only [Act.put, List.setIfInBounds_toArray, List.set_cons_zero, List.set_cons_succ]
          refine' takeL (i := 7) (v := _) rfl (by kernel_rfl) (by kernel_rfl) (by kernel_rfl) (fun _ _ _ h => h) (Or.inl ⟨by rfl, ?yy18⟩) (by assumption) ?rr18
          case yy18 => intro w hSw; (try dsimp only at hSw); go_simp; (try with_reducible rfl)
          try simp only [Act.put, List.setIfInBounds_toArray, List.set_cons_zero, List.set_cons_succ]
          refine' takeL (i := 8) (v := _) rfl (by kernel_rfl) (by kernel_rfl) (by kernel_rfl) (fun _ _ _ h => h) (Or.inl ⟨by rfl, ?yy19⟩) (by assumption) ?rr19
          case yy19 => intro w hSw; (try dsimp only at hSw); go_simp; (try with_reducible rfl)
          try simp only [Act.put, List.setIfInBounds_toArray, List.set_cons_zero, List.set_cons_succ]
          refine' takeL (i := 9) (v := _) rfl (by kernel_rfl) (by kernel_rfl) (by kernel_rfl) (fun _ _ _ h => h) (Or.inl ⟨by rfl, ?yy20⟩) (by assumption) ?rr20
          case yy20 => intro w hSw; (try dsimp only at hSw); go_simp; (try with_reducible rfl)
          try simp only [Act.put, List.setIfInBounds_toArray, List.set_cons_zero, List.set_cons_succ]
          refine wpAnyH_ready (rs := [6, 10]) (by kernel_rfl) (by simp) ?_
          refine consL rfl (fun K hK => ?_) ?_
          · go_simp
            refine hK.out _ _ trivial (fun _ => ?_)
            clear hK K
            try simp only [Act.put, List.setIfInBounds_toArray, List.set_cons_zero, List.set_cons_succ]
            refine wpAnyH_ready (rs := [10]) (by kernel_rfl) (by simp) ?_
            refine consL rfl (fun K hK => ?_) AllReadyH.nil
            go_simp
            refine hK.out _ _ trivial (fun _ => ?_)
            clear hK K
            try simp only [Act.put, List.setIfInBounds_toArray, List.set_cons_zero, List.set_cons_succ]
            refine wpAnyH_ready (rs := [11]) (by kernel_rfl) (by simp) ?_
            refine consL rfl (fun K hK => ?_) AllReadyH.nil
            go_simp
            refine (HFN.out x v _ x0 x1 v0 v1).mono ?_
            rintro e w9 ⟨rfl, hw9⟩
            subst hw9
            go_wp2_with fail
            refine hK.out _ _ trivial (fun _ => ?_)
            clear hK K
            try simp only [Act.put, List.setIfInBounds_toArray, List.set_cons_zero, List.set_cons_succ]
            refine' takeL (i := 12) (v := _) rfl (by kernel_rfl) (by kernel_rfl) (by kernel_rfl) (fun _ _ _ h => h) (Or.inl ⟨by rfl, ?yy21⟩) (by assumption) ?rr21
            case yy21 => intro w hSw; (try dsimp only at hSw); go_simp; (try with_reducible rfl)
            try simp only [Act.put, List.setIfInBounds_toArray, List.set_cons_zero, List.set_cons_succ]
            refine wpAnyH_ready (rs := [13]) (by kernel_rfl) (by simp) ?_
            refine consL rfl (fun K hK => ?_) AllReadyH.nil
            go_simp
            refine hK.out _ _ trivial (fun _ => ?_)
            clear hK K
            try simp only [Act.put, List.setIfInBounds_toArray, List.set_cons_zero, List.set_cons_succ]
            refine wpAnyH_done (by kernel_rfl) ?_ _
            obtain ⟨W6, hW6⟩ : ∃ W6, (W5.setCell ⟨gx, k, none⟩ (.int .u8 r)).drew = W6 := ⟨_, rfl⟩
            have M6 := Lib.hid (show MS (W5.setCell ⟨gx, k, none⟩ (.int .u8 r)).drew g F is os rs ps ov bs ks from (M5.out.othr _ G1.out hgx).drewN 1)
            have RX6 := Lib.hid (show Ro (W5.setCell ⟨gx, k, none⟩ (.int .u8 r)).drew gx c3 _ from (RX5.out.set_ (i := k) R01.out).drewN 1)
            have RY6 := Lib.hid (show Ro (W5.setCell ⟨gx, k, none⟩ (.int .u8 r)).drew gy c4 _ from (RY5.out.other (p := ⟨gx, k, none⟩) (.int .u8 r) G3.out).drewN 1)
            have B6 := Lib.hid (show Below w.heap.size w (W5.setCell ⟨gx, k, none⟩ (.int .u8 r)).drew from dBelow' (B5.out.setCell (p := ⟨gx, k, none⟩) hg4 _) 1)
            rw [hW6] at M6 RX6 RY6 B6
            try rw [hW6]
            clear hW6 cxk cyk fxk
            rw [← CE.out] at RX6
            have cr := RX6.out.cell (i := k) (by rw [cmb_len]; omega)
            rw [CG.out] at cr
            by_cases hr0 : r = 0
            · have e10 : (r != 0) = false := by rw [hr0]; rfl
              have CS := CS0.out hr0
              clear hr0
              go_wp2
              refine ⟨⟨k + 1, by omega, rfl, by rw [CS], M6.out, RX6.out, ⟨_, RY6.out, hzl, fun i hi => HZY.out i (by omega)⟩, B6.out⟩, by simp [intOf]; omega⟩
            · have e10 : (r != 0) = true := by simpa using hr0
              have CS := CS1.out hr0
              clear hr0
              go_wp2
              refine ⟨⟨k + 1, by omega, rfl, by rw [CS], M6.out, RX6.out, ⟨_, RY6.out, hzl, fun i hi => HZY.out i (by omega)⟩, B6.out⟩, by simp [intOf]; omega⟩
          refine consL rfl (fun K hK => ?_) AllReadyH.nil
          go_simp
          refine hK.out _ _ trivial (fun _ => ?_)
          clear hK K
          try simp only [Act.put, List.setIfInBounds_toArray, List.set_cons_zero, List.set_cons_succ]
          refine wpAnyH_ready (rs := [6]) (by kernel_rfl) (by simp) ?_
          refine consL rfl (fun K hK => ?_) AllReadyH.nil
          go_simp
          refine hK.out _ _ trivial (fun _ => ?_)
          clear hK K
          try simp only [Act.put, List.setIfInBounds_toArray, List.set_cons_zero, List.set_cons_succ]
          refine wpAnyH_ready (rs := [11]) (by kernel_rfl) (by simp) ?_
          refine consL rfl (fun K hK => ?_) AllReadyH.nil
          go_simp
          refine (HFN.out x v _ x0 x1 v0 v1).mono ?_
          rintro e w9 ⟨rfl, hw9⟩
          subst hw9
          go_wp2_with fail
          refine hK.out _ _ trivial (fun _ => ?_)
          clear hK K
          try simp only [Act.put, List.setIfInBounds_toArray, List.set_cons_zero, List.set_cons_succ]
          refine' takeL (i := 12) (v := _) rfl (by kernel_rfl) (by kernel_rfl) (by kernel_rfl) (fun _ _ _ h => h) (Or.inl ⟨by rfl, ?yy22⟩) (by assumption) ?rr22
          case yy22 => intro w hSw; (try dsimp only at hSw); go_simp; (try with_reducible rfl)
          try simp only [Act.put, List.setIfInBounds_toArray, List.set_cons_zero, List.set_cons_succ]
          refine wpAnyH_ready (rs := [13]) (by kernel_rfl) (by simp) ?_
          refine consL rfl (fun K hK => ?_) AllReadyH.nil
          go_simp
          refine hK.out _ _ trivial (fun _ => ?_)
          clear hK K
          try simp only [Act.put, List.setIfInBounds_toArray, List.set_cons_zero, List.set_cons_succ]
          refine wpAnyH_done (by kernel_rfl) ?_ _
          obtain ⟨W6, hW6⟩ : ∃ W6, (W5.setCell ⟨gx, k, none⟩ (.int .u8 r)).drew = W6 := ⟨_, rfl⟩
          have M6 := Lib.hid (show MS (W5.setCell ⟨gx, k, none⟩ (.int .u8 r)).drew g F is os rs ps ov bs ks from (M5.out.othr _ G1.out hgx).drewN 1)
          have RX6 := Lib.hid (show Ro (W5.setCell ⟨gx, k, none⟩ (.int .u8 r)).drew gx c3 _ from (RX5.out.set_ (i := k) R01.out).drewN 1)
          have RY6 := Lib.hid (show Ro (W5.setCell ⟨gx, k, none⟩ (.int .u8 r)).drew gy c4 _ from (RY5.out.other (p := ⟨gx, k, none⟩) (.int .u8 r) G3.out).drewN 1)
          have B6 := Lib.hid (show Below w.heap.size w (W5.setCell ⟨gx, k, none⟩ (.int .u8 r)).drew from dBelow' (B5.out.setCell (p := ⟨gx, k, none⟩) hg4 _) 1)
          rw [hW6] at M6 RX6 RY6 B6
          try rw [hW6]
          clear hW6 cxk cyk fxk
          rw [← CE.out] at RX6
          have cr := RX6.out.cell (i := k) (by rw [cmb_len]; omega)
          rw [CG.out] at cr
          by_cases hr0 : r = 0
          · have e10 : (r != 0) = false := by rw [hr0]; rfl
            have CS := CS0.out hr0
            clear hr0
            go_wp2
            refine ⟨⟨k + 1, by omega, rfl, by rw [CS], M6.out, RX6.out, ⟨_, RY6.out, hzl, fun i hi => HZY.out i (by omega)⟩, B6.out⟩, by simp [intOf]; omega⟩
          · have e10 : (r != 0) = true := by simpa using hr0
            have CS := CS1.out hr0
            clear hr0
            go_wp2
            refine ⟨⟨k + 1, by omega, rfl, by rw [CS], M6.out, RX6.out, ⟨_, RY6.out, hzl, fun i hi => HZY.out i (by omega)⟩, B6.out⟩, by simp [intOf]; omega⟩
    · obtain rfl : k = m4 := by omega
      have hI : ¬ (k : Int) < (k : Int) := by omega
      have YB := Lib.hid (RX.out.byt k hxl)
      by_cases hc0 : c = 0
      · have HC' := Lib.hid (HC.out.trans hc0)
        have HC0 := Lib.hid hc0
        clear hc0
        cases lg
        · go_wp2_with (go_at_call 65; refine (put_m g F is os rs ps ov bs ks a key _ _ _ (cmb f xs ys d k) _ MW.out HK.out YB.out (by omega) HC'.out).mono ?_; rintro e w5 ⟨rfl, hM5, hC5⟩; have M5 := Lib.hid hM5; have C5 := Lib.hid ((show Ch w wr [g, F.gb] from chB BW.out).trans (hC5.mono (by simp))); clear hM5 hC5)
          first | go_end0 | refine bodyPost_ret (results_none rfl _ _ _) rfl ?_
          rw [HR.out]
          exact ⟨fun _ => ⟨rfl, by rw [if_neg (by simp)]; exact M5.out⟩, fun h => absurd HC0.out h, C5.out⟩
        · go_wp2_with (go_at_call 65; refine (put_m g F is os rs ps ov bs ks a key _ _ _ (cmb f xs ys d k) _ MW.out HK.out YB.out (by omega) HC'.out).mono ?_; rintro e w5 ⟨rfl, hM5, hC5⟩; have M5 := Lib.hid hM5; have C5 := Lib.hid ((show Ch w wr [g, F.gb] from chB BW.out).trans (hC5.mono (by simp))); have c7 := hM5.m.cp (n := 7) (by omega); have f7 := hM5.m.free 51; clear hM5 hC5)
          first | go_end0 | refine bodyPost_ret (results_none rfl _ _ _) rfl ?_
          rw [HR.out]
          exact ⟨fun _ => ⟨rfl, by first | (rw [if_pos rfl]; exact M5.out.setp (n := 7) (by omega) _) | (rw [if_pos trivial]; exact M5.out.setp (n := 7) (by omega) _)⟩, fun h => absurd HC0.out h, C5.out.setCell (by simp) _⟩
      · have HC0 := Lib.hid hc0
        clear hc0
        go_wp2_with (go_at_call 65; refine (put_no g F is os rs ps ov bs ks a key _ _ _ (cmb f xs ys d k) _ MW.out HK.out YB.out (by omega) c HC.out HC0.out).mono ?_; rintro e w5 ⟨rfl, hM5, hC5⟩; have M5 := Lib.hid hM5; have C5 := Lib.hid ((show Ch w wr [g, F.gb] from chB BW.out).trans (hC5.mono (by simp))); clear hM5 hC5)
        refine ⟨rfl, ?_⟩
        rw [HR.out]
        exact ⟨fun h => absurd h HC0.out, fun _ => ⟨rfl, M5.out⟩, C5.out⟩
end Go.Proofs.Ythjdjbipfdigeaa

namespace Go.Proofs.Ythjdjbipfdigeaa
open Go.RowKit
set_option maxRecDepth 100000
set_option linter.unusedVariables false
set_option linter.unusedSimpArgs false
def clc : List Int → List Int → Int
  | x :: xs, y :: ys => if x = y then clc xs ys else sgn (x - y)
  | _, _ => 0
end Go.Proofs.Ythjdjbipfdigeaa

namespace Go.Proofs.Ythjdjbipfdigeaa
open Go.RowKit
set_option maxRecDepth 100000
set_option linter.unusedVariables false
set_option linter.unusedSimpArgs false
/-- a word's bytes; the bytes of k registers from a register on -/
def fb (v : Int) : List Int := [v / 16777216, v / 65536 % 256, v / 256 % 256, v % 256]
def stB (os : List Int) (n : Nat) : Nat → List Int
  | 0 => []
  | k + 1 => stB os n k ++ fb (os.getD ((n + k) % 16) 0)
end Go.Proofs.Ythjdjbipfdigeaa

namespace Go.Proofs.Ythjdjbipfdigeaa
open Go.RowKit
set_option maxRecDepth 100000
set_option linter.unusedVariables false
set_option linter.unusedSimpArgs false
def cb (op x y : Int) : Int := if op = 209 then x / 16 * 16 + y % 16 else if op = 210 then y else if op = 211 then y / 16 * 16 + x % 16 else if op = 212 then bits .and .u8 x y else if op = 214 then bits .or .u8 x y else bits .xor .u8 x y
theorem cb_in (op x y : Int) (x0 : 0 ≤ x) (x1 : x ≤ 255) (y0 : 0 ≤ y) (y1 : y ≤ 255) : 0 ≤ cb op x y ∧ cb op x y ≤ 255 := by
  unfold cb
  repeat' split
  · omega
  · omega
  · omega
  · exact bounds_u8 (wf_bits .and .u8 x y)
  · exact bounds_u8 (wf_bits .or .u8 x y)
  · exact bounds_u8 (wf_bits .xor .u8 x y)
set_option maxRecDepth 1000000 in
set_option maxHeartbeats 8000000 in
theorem clo_210 (x y : Int) (w : World) (x0 : 0 ≤ x) (x1 : x ≤ 255) (y0 : 0 ≤ y) (y1 : y ≤ 255) : Calls Try.prog 76 #[.int .u8 x, .int .u8 y] w fun e w' => e = .returned (.int .u8 (cb 210 x y)) ∧ w = w' := by
  go_enter Try.func76, Try.ntmps76
  go_wp2
  go_ret
  exact ⟨by rfl, rfl⟩
theorem clo_call_210 (args : Array Value) (W : World) : Sem.run Try.prog (callFunc 76 args) W = .ok (.enter 76 args) W := by kernel_rfl
set_option maxRecDepth 1000000 in
set_option maxHeartbeats 8000000 in
theorem clo_215 (x y : Int) (w : World) (x0 : 0 ≤ x) (x1 : x ≤ 255) (y0 : 0 ≤ y) (y1 : y ≤ 255) : Calls Try.prog 80 #[.int .u8 x, .int .u8 y] w fun e w' => e = .returned (.int .u8 (cb 215 x y)) ∧ w = w' := by
  go_enter Try.func80, Try.ntmps80
  go_wp2
  go_ret
  exact ⟨by rfl, rfl⟩
theorem clo_call_215 (args : Array Value) (W : World) : Sem.run Try.prog (callFunc 80 args) W = .ok (.enter 80 args) W := by kernel_rfl
set_option maxRecDepth 1000000 in
set_option maxHeartbeats 8000000 in
theorem long_210 (g : Nat) (P : World → Prop) (w : World) (c0 : w.cell? ⟨g, 0, none⟩ = some (.int .i64 210)) (hb : Calls Try.prog 74 #[.pointer (some ⟨g, 0, none⟩), .func (.func 76) #[] #[], .bool false] w fun e w' => e = .returned (.tuple #[]) ∧ P w') : Calls Try.prog 47 #[.pointer (some ⟨g, 0, none⟩)] w fun e w' => e = .returned (.tuple #[]) ∧ P w' := by
  have HB := Lib.hid hb
  clear hb
  go_enter Try.func47, Try.ntmps47
  go_wp2_with (go_at_call 74; refine HB.out.mono ?_; rintro e w3 ⟨rfl, hR⟩; have HR := Lib.hid hR; clear hR)
  first | go_end0 | refine bodyPost_ret (results_none rfl _ _ _) rfl ?_
  exact ⟨rfl, HR.out⟩
set_option maxRecDepth 1000000 in
set_option maxHeartbeats 8000000 in
theorem long_210_no (g : Nat) (P : World → Prop) (c : Int) (w : World) (c0 : w.cell? ⟨g, 0, none⟩ = some (.int .i64 210)) (hb : Calls Try.prog 74 #[.pointer (some ⟨g, 0, none⟩), .func (.func 76) #[] #[], .bool false] w fun e w' => e = .panicked [{ v := .iface 65 (.int .i64 c), recovered := false }] ∧ P w') : Calls Try.prog 47 #[.pointer (some ⟨g, 0, none⟩)] w fun e w' => e = .panicked [{ v := .iface 65 (.int .i64 c), recovered := false }] ∧ P w' := by
  have HB := Lib.hid hb
  clear hb
  go_enter Try.func47, Try.ntmps47
  go_wp2_with (go_at_call 74; refine HB.out.mono ?_; rintro e w3 ⟨rfl, hR⟩; have HR := Lib.hid hR; clear hR)
  exact ⟨rfl, rfl, HR.out⟩
set_option maxRecDepth 1000000 in
set_option maxHeartbeats 8000000 in
theorem long_215 (g : Nat) (P : World → Prop) (w : World) (c0 : w.cell? ⟨g, 0, none⟩ = some (.int .i64 215)) (hb : Calls Try.prog 74 #[.pointer (some ⟨g, 0, none⟩), .func (.func 80) #[] #[], .bool true] w fun e w' => e = .returned (.tuple #[]) ∧ P w') : Calls Try.prog 47 #[.pointer (some ⟨g, 0, none⟩)] w fun e w' => e = .returned (.tuple #[]) ∧ P w' := by
  have HB := Lib.hid hb
  clear hb
  go_enter Try.func47, Try.ntmps47
  go_wp2_with (go_at_call 74; refine HB.out.mono ?_; rintro e w3 ⟨rfl, hR⟩; have HR := Lib.hid hR; clear hR)
  first | go_end0 | refine bodyPost_ret (results_none rfl _ _ _) rfl ?_
  exact ⟨rfl, HR.out⟩
set_option maxRecDepth 1000000 in
set_option maxHeartbeats 8000000 in
theorem long_215_no (g : Nat) (P : World → Prop) (c : Int) (w : World) (c0 : w.cell? ⟨g, 0, none⟩ = some (.int .i64 215)) (hb : Calls Try.prog 74 #[.pointer (some ⟨g, 0, none⟩), .func (.func 80) #[] #[], .bool true] w fun e w' => e = .panicked [{ v := .iface 65 (.int .i64 c), recovered := false }] ∧ P w') : Calls Try.prog 47 #[.pointer (some ⟨g, 0, none⟩)] w fun e w' => e = .panicked [{ v := .iface 65 (.int .i64 c), recovered := false }] ∧ P w' := by
  have HB := Lib.hid hb
  clear hb
  go_enter Try.func47, Try.ntmps47
  go_wp2_with (go_at_call 74; refine HB.out.mono ?_; rintro e w3 ⟨rfl, hR⟩; have HR := Lib.hid hR; clear hR)
  exact ⟨rfl, rfl, HR.out⟩
end Go.Proofs.Ythjdjbipfdigeaa

namespace Go.Proofs.Ythjdjbipfdigeaa
open Go.RowKit
set_option maxRecDepth 100000
set_option linter.unusedVariables false
set_option linter.unusedSimpArgs false
set_option maxRecDepth 1000000 in
set_option maxHeartbeats 8000000 in
theorem exec_l (g : Nat) (op : Int) (lo : 208 ≤ op) (hi : op ≤ 255) (P : World → Prop) (w : World) (c0 : w.cell? ⟨g, 0, none⟩ = some (.int .i64 op)) (hb : Calls Try.prog 47 #[.pointer (some ⟨g, 0, none⟩)] w fun e w' => e = .returned (.tuple #[]) ∧ P w') : Calls Try.prog 31 #[.pointer (some ⟨g, 0, none⟩)] w fun e w' => e = .returned (.tuple #[]) ∧ P w' := by
  have klt16 : ¬ op < 16 := by omega
  have kge69 : op ≥ 69 := by omega
  have kle71 : ¬ op ≤ 71 := by omega
  have keq134 : (op == 134) = false := by simp; omega
  have keq135 : (op == 135) = false := by simp; omega
  have kge136 : op ≥ 136 := by omega
  have kle143 : ¬ op ≤ 143 := by omega
  have keq65 : (op == 65) = false := by simp; omega
  have kge64 : op ≥ 64 := by omega
  have kle67 : ¬ op ≤ 67 := by omega
  have keq80 : (op == 80) = false := by simp; omega
  have keq144 : (op == 144) = false := by simp; omega
  have keq152 : (op == 152) = false := by simp; omega
  have kge145 : op ≥ 145 := by omega
  have kle151 : ¬ op ≤ 151 := by omega
  have kge208 : op ≥ 208 := by omega
  have HB := Lib.hid hb
  clear hb
  go_enter Try.func31, Try.ntmps31
  go_wp2_with (go_at_call 47; refine HB.out.mono ?_; rintro e w3 ⟨rfl, hR⟩; have HR := Lib.hid hR; clear hR)
  first | go_end0 | refine bodyPost_ret (results_none rfl _ _ _) rfl ?_
  exact ⟨rfl, HR.out⟩
set_option maxRecDepth 1000000 in
set_option maxHeartbeats 8000000 in
theorem exec_l_no (g : Nat) (op : Int) (lo : 208 ≤ op) (hi : op ≤ 255) (P : World → Prop) (c : Int) (w : World) (c0 : w.cell? ⟨g, 0, none⟩ = some (.int .i64 op)) (hb : Calls Try.prog 47 #[.pointer (some ⟨g, 0, none⟩)] w fun e w' => e = .panicked [{ v := .iface 65 (.int .i64 c), recovered := false }] ∧ P w') : Calls Try.prog 31 #[.pointer (some ⟨g, 0, none⟩)] w fun e w' => e = .panicked [{ v := .iface 65 (.int .i64 c), recovered := false }] ∧ P w' := by
  have klt16 : ¬ op < 16 := by omega
  have kge69 : op ≥ 69 := by omega
  have kle71 : ¬ op ≤ 71 := by omega
  have keq134 : (op == 134) = false := by simp; omega
  have keq135 : (op == 135) = false := by simp; omega
  have kge136 : op ≥ 136 := by omega
  have kle143 : ¬ op ≤ 143 := by omega
  have keq65 : (op == 65) = false := by simp; omega
  have kge64 : op ≥ 64 := by omega
  have kle67 : ¬ op ≤ 67 := by omega
  have keq80 : (op == 80) = false := by simp; omega
  have keq144 : (op == 144) = false := by simp; omega
  have keq152 : (op == 152) = false := by simp; omega
  have kge145 : op ≥ 145 := by omega
  have kle151 : ¬ op ≤ 151 := by omega
  have kge208 : op ≥ 208 := by omega
  have HB := Lib.hid hb
  clear hb
  go_enter Try.func31, Try.ntmps31
  go_wp2_with (go_at_call 47; refine HB.out.mono ?_; rintro e w3 ⟨rfl, hR⟩; have HR := Lib.hid hR; clear hR)
  exact ⟨rfl, rfl, HR.out⟩
end Go.Proofs.Ythjdjbipfdigeaa

namespace Go.Proofs.Ythjdjbipfdigeaa
open Go.RowKit
set_option maxRecDepth 100000
set_option linter.unusedVariables false
set_option linter.unusedSimpArgs false
/-- TR, byte by byte -/
def trS (bs xs : List Int) (a b : Int) : Nat → List Int
  | 0 => xs
  | k + 1 => (trS bs xs a b k).set k (if a ≤ b + xs.getD k 0 ∧ b + xs.getD k 0 < a + (k : Int) then (trS bs xs a b k).getD (b + xs.getD k 0 - a).toNat 0 else (sGet bs (b + xs.getD k 0) 1).getD 0 0)
def trE (bs ks xs : List Int) (key b : Int) : Nat → Int
  | 0 => 0
  | k + 1 => if trE bs ks xs key b k = 0 then sCode (alF key) bs.length ks (b + xs.getD k 0) 1 else trE bs ks xs key b k
end Go.Proofs.Ythjdjbipfdigeaa

namespace Go.Proofs.Ythjdjbipfdigeaa
open Go.RowKit
set_option maxRecDepth 100000
set_option linter.unusedVariables false
set_option linter.unusedSimpArgs false
/-- TRT from byte k on: the code that is thrown, or what was found -/
def scn (bs ks : List Int) (key a b : Int) : Nat → Nat → Int × Option (Nat × Int)
  | 0, _ => (0, none)
  | m + 1, k => if sCode (alF key) bs.length ks (a + (k : Int)) 1 = 0 then
      (if sCode (alF key) bs.length ks (b + (sGet bs (a + (k : Int)) 1).getD 0 0) 1 = 0 then
        (if (sGet bs (b + (sGet bs (a + (k : Int)) 1).getD 0 0) 1).getD 0 0 = 0 then scn bs ks key a b m (k + 1) else (0, some (k, (sGet bs (b + (sGet bs (a + (k : Int)) 1).getD 0 0) 1).getD 0 0)))
        else (sCode (alF key) bs.length ks (b + (sGet bs (a + (k : Int)) 1).getD 0 0) 1, none))
      else (sCode (alF key) bs.length ks (a + (k : Int)) 1, none)
def scnR (os rs : List Int) (a : Int) : Option (Nat × Int) → List Int
  | none => rs
  | some (k, f) => (rs.set 1 (os.getD 1 0 / 16777216 * 16777216 + (a + (k : Int)))).set 2 (os.getD 2 0 / 256 * 256 + f)
def scnQ (N : Nat) : Option (Nat × Int) → Int
  | none => 0
  | some (k, _) => if k + 1 = N then 2 else 1
end Go.Proofs.Ythjdjbipfdigeaa

namespace Go.Proofs.Ythjdjbipfdigeaa
open Go.RowKit
set_option maxRecDepth 100000
set_option linter.unusedVariables false
set_option linter.unusedSimpArgs false
def lmR (rs : List Int) (n : Nat) (zs : List Int) : Nat → List Int
  | 0 => rs
  | k + 1 => (lmR rs n zs k).set ((n + k) % 16) (flv (zs.getD (4 * k) 0) (zs.getD (4 * k + 1) 0) (zs.getD (4 * k + 2) 0) (zs.getD (4 * k + 3) 0))
end Go.Proofs.Ythjdjbipfdigeaa

namespace Go.Proofs.Ythjdjbipfdigeaa
open Go.RowKit
set_option maxRecDepth 100000
set_option linter.unusedVariables false
set_option linter.unusedSimpArgs false
/-- what an instruction works on -/
structure Pre where
  os : List Int
  key : Int
  il : Int
  cc : Int
  pg : Int
  ad : Int
  bs : List Int
  ks : List Int
/-- what it leaves: a code, the registers, condition code, program mask, address, overflow, bytes -/
structure Out where
  c : Int
  rs : List Int
  cc : Int
  pg : Int
  ad : Int
  ov : Bool
  bs : List Int
namespace Pre
def no (p : Pre) (c : Int) : Out := ⟨c, p.os, p.cc, p.pg, p.ad, false, p.bs⟩
def rg (p : Pre) (rs : List Int) : Out := ⟨0, rs, p.cc, p.pg, p.ad, false, p.bs⟩
def st (p : Pre) (rs : List Int) (cc : Int) (ov : Bool) : Out := ⟨0, rs, cc, p.pg, p.ad, ov, p.bs⟩
def br (p : Pre) (rs : List Int) (t : Bool) (tgt : Int) : Out := ⟨0, rs, p.cc, p.pg, if t = true then tgt else p.ad, false, p.bs⟩
def pc (p : Pre) (a n : Int) : Int := sCode (alP p.key) p.bs.length p.ks a n
def fc (p : Pre) (a n : Int) : Int := sCode (alF p.key) p.bs.length p.ks a n
def wr (p : Pre) (a n : Int) (ys : List Int) (cc : Int) : Out := if p.pc a n = 0 then ⟨0, p.os, cc, p.pg, p.ad, false, sPut (alP p.key) p.bs p.ks a ys⟩ else p.no (p.pc a n)
end Pre
def brO (p : Pre) (op : Int) (n k : Nat) (a : Int) : Out :=
  if op = 4 then ⟨0, p.os, p.os.getD n 0 / 268435456 % 4, p.os.getD n 0 / 16777216 % 16, p.ad, false, p.bs⟩
  else if op = 5 then p.br (p.os.set n (p.il * 1073741824 + p.cc * 268435456 + p.pg * 16777216 + p.ad)) (decide (k ≠ 0)) (p.os.getD k 0 % 16777216)
  else if op = 69 then p.br (p.os.set n (p.il * 1073741824 + p.cc * 268435456 + p.pg * 16777216 + p.ad)) true a
  else if op = 6 then p.br (p.os.set n (lo32 (p.os.getD n 0 - 1))) ((p.os.getD n 0 != 1) && decide (k ≠ 0)) (p.os.getD k 0 % 16777216)
  else if op = 70 then p.br (p.os.set n (lo32 (p.os.getD n 0 - 1))) (p.os.getD n 0 != 1) a
  else if op = 7 then p.br p.os (pbr (n : Int) p.cc && decide (k ≠ 0)) (p.os.getD k 0 % 16777216)
  else if op = 71 then p.br p.os (pbr (n : Int) p.cc) a
  else if op = 134 then p.br (p.os.set n (lo32 (p.os.getD n 0 + p.os.getD k 0))) (sgn (sg (lo32 (p.os.getD n 0 + p.os.getD k 0)) - sg (p.os.getD (k / 2 * 2 + 1) 0)) == 2) a
  else p.br (p.os.set n (lo32 (p.os.getD n 0 + p.os.getD k 0))) (!(sgn (sg (lo32 (p.os.getD n 0 + p.os.getD k 0)) - sg (p.os.getD (k / 2 * 2 + 1) 0)) == 2)) a
def arO (p : Pre) (op : Int) (n : Nat) (c v : Int) : Out :=
  if op = 28 ∨ op = 29 ∨ op = 92 ∨ op = 93 then
    if n % 2 = 1 then p.no 6 else if c ≠ 0 then p.no c
    else if op = 28 ∨ op = 92 then p.rg ((p.os.set n (lo32 (sg (p.os.getD (n + 1) 0) * sg v / 4294967296))).set (n + 1) (lo32 (sg (p.os.getD (n + 1) 0) * sg v)))
    else if dok (sg64 (dbl (p.os.getD n 0) (p.os.getD (n + 1) 0))) (sg v) = true then p.rg ((p.os.set n (drem (sg64 (dbl (p.os.getD n 0) (p.os.getD (n + 1) 0))) (sg v))).set (n + 1) (dquo (sg64 (dbl (p.os.getD n 0) (p.os.getD (n + 1) 0))) (sg v)))
    else p.no 9
  else if c ≠ 0 then p.no c
  else if op = 24 ∨ op = 88 ∨ op = 72 then p.rg (p.os.set n v)
  else if op = 16 ∨ op = 17 ∨ op = 18 ∨ op = 19 then p.st (p.os.set n (sgnV op v)) (sgnQ op v) (sgnO op v)
  else if op = 26 ∨ op = 90 ∨ op = 74 then p.st (p.os.set n (lo32 (sg (p.os.getD n 0) + sg v))) (rcc (sg (p.os.getD n 0) + sg v)) (ovf (sg (p.os.getD n 0) + sg v))
  else if op = 27 ∨ op = 91 ∨ op = 75 then p.st (p.os.set n (lo32 (sg (p.os.getD n 0) - sg v))) (rcc (sg (p.os.getD n 0) - sg v)) (ovf (sg (p.os.getD n 0) - sg v))
  else if op = 30 ∨ op = 94 then p.st (p.os.set n (lo32 (p.os.getD n 0 + v))) (lcc (lo32 (p.os.getD n 0 + v)) (decide (4294967296 ≤ p.os.getD n 0 + v))) false
  else if op = 31 ∨ op = 95 then p.st (p.os.set n (lo32 (p.os.getD n 0 - v))) (lcc (lo32 (p.os.getD n 0 - v)) (decide (v ≤ p.os.getD n 0))) false
  else if op = 25 ∨ op = 89 ∨ op = 73 then p.st p.os (sgn (sg (p.os.getD n 0) - sg v)) false
  else if op = 21 ∨ op = 85 then p.st p.os (sgn (p.os.getD n 0 - v)) false
  else if op = 20 ∨ op = 84 then p.st (p.os.set n (bits .and .u32 (p.os.getD n 0) v)) (if bits .and .u32 (p.os.getD n 0) v = 0 then 0 else 1) false
  else if op = 22 ∨ op = 86 then p.st (p.os.set n (bits .or .u32 (p.os.getD n 0) v)) (if bits .or .u32 (p.os.getD n 0) v = 0 then 0 else 1) false
  else if op = 23 ∨ op = 87 then p.st (p.os.set n (bits .xor .u32 (p.os.getD n 0) v)) (if bits .xor .u32 (p.os.getD n 0) v = 0 then 0 else 1) false
  else p.rg (p.os.set n (lo32 (sg (p.os.getD n 0) * sg v)))
def shO (p : Pre) (op : Int) (n : Nat) (a : Int) : Out :=
  if 140 ≤ op ∧ n % 2 = 1 then p.no 6
  else if op = 136 then p.rg (p.os.set n (slg (p.os.getD n 0) (plc a) false))
  else if op = 137 then p.rg (p.os.set n (slg (p.os.getD n 0) (plc a) true))
  else if op = 138 then p.st (p.os.set n (srv (p.os.getD n 0) (plc a))) (sgn (sg (srv (p.os.getD n 0) (plc a)))) false
  else if op = 139 then p.st (p.os.set n (slv (p.os.getD n 0) (plc a))) (slc (p.os.getD n 0) (plc a)) (slo (p.os.getD n 0) (plc a))
  else if op = 140 then p.rg ((p.os.set n (lo32 (dlg (dbl (p.os.getD n 0) (p.os.getD (n + 1) 0)) (plc a) false / 4294967296))).set (n + 1) (lo32 (dlg (dbl (p.os.getD n 0) (p.os.getD (n + 1) 0)) (plc a) false)))
  else if op = 141 then p.rg ((p.os.set n (lo32 (dlg (dbl (p.os.getD n 0) (p.os.getD (n + 1) 0)) (plc a) true / 4294967296))).set (n + 1) (lo32 (dlg (dbl (p.os.getD n 0) (p.os.getD (n + 1) 0)) (plc a) true)))
  else if op = 142 then p.st ((p.os.set n (lo32 (drv (dbl (p.os.getD n 0) (p.os.getD (n + 1) 0)) (plc a) / 4294967296))).set (n + 1) (lo32 (drv (dbl (p.os.getD n 0) (p.os.getD (n + 1) 0)) (plc a)))) (sgn (sg64 (drv (dbl (p.os.getD n 0) (p.os.getD (n + 1) 0)) (plc a)))) false
  else p.st ((p.os.set n (lo32 (dlv (dbl (p.os.getD n 0) (p.os.getD (n + 1) 0)) (plc a) / 4294967296))).set (n + 1) (lo32 (dlv (dbl (p.os.getD n 0) (p.os.getD (n + 1) 0)) (plc a)))) (dlc (dbl (p.os.getD n 0) (p.os.getD (n + 1) 0)) (plc a)) (dlo (dbl (p.os.getD n 0) (p.os.getD (n + 1) 0)) (plc a))
/-- the number of registers of STM and LM -/
def cnt (n m : Nat) : Nat := (m + 16 - n) % 16 + 1
def mvO (p : Pre) (op : Int) (n m : Nat) (a : Int) : Out :=
  if op = 80 then (if a % 4 = 0 then p.wr a 4 (fb (p.os.getD n 0)) p.cc else p.no 6)
  else if op = 64 then (if a % 2 = 0 then p.wr a 2 ((fb (p.os.getD n 0)).drop 2) p.cc else p.no 6)
  else if op = 66 then p.wr a 1 ((fb (p.os.getD n 0)).drop 3) p.cc
  else if op = 67 then (if p.fc a 1 = 0 then p.rg (p.os.set n (p.os.getD n 0 / 256 * 256 + (sGet p.bs a 1).getD 0 0)) else p.no (p.fc a 1))
  else if op = 144 then (if a % 4 = 0 then p.wr a ((4 * cnt n m : Nat) : Int) (stB p.os n (cnt n m)) p.cc else p.no 6)
  else (if a % 4 = 0 then (if p.fc a ((4 * cnt n m : Nat) : Int) = 0 then p.rg (lmR p.os n (sGet p.bs a ((4 * cnt n m : Nat) : Int)) (cnt n m)) else p.no (p.fc a ((4 * cnt n m : Nat) : Int))) else p.no 6)
/-- the byte that an immediate instruction makes -/
def imB (op b i : Int) : Int := if op = 148 then bits .and .u8 b i else if op = 150 then bits .or .u8 b i else bits .xor .u8 b i
def imO (p : Pre) (op : Int) (a i : Int) : Out :=
  if op = 146 then p.wr a 1 [i] p.cc
  else if p.fc a 1 ≠ 0 then p.no (p.fc a 1)
  else if op = 145 then p.st p.os (if bits .and .u8 ((sGet p.bs a 1).getD 0 0) i = 0 then 0 else if bits .and .u8 ((sGet p.bs a 1).getD 0 0) i = i then 3 else 1) false
  else if op = 149 then p.st p.os (sgn ((sGet p.bs a 1).getD 0 0 - i)) false
  else if op = 147 then p.wr a 1 [255] ((sGet p.bs a 1).getD 0 0 / 128)
  else p.wr a 1 [imB op ((sGet p.bs a 1).getD 0 0) i] (if imB op ((sGet p.bs a 1).getD 0 0) i = 0 then 0 else 1)
def loO (p : Pre) (op : Int) (N : Nat) (a b : Int) : Out :=
  if op = 221 then (match scn p.bs p.ks p.key a b N 0 with
    | (c, o) => if c = 0 then ⟨0, scnR p.os p.os a o, scnQ N o, p.pg, p.ad, false, p.bs⟩ else p.no c)
  else if p.fc a N ≠ 0 then p.no (p.fc a N)
  else if op = 220 then (if trE p.bs p.ks (sGet p.bs a N) p.key b N = 0 then p.wr a N (trS p.bs (sGet p.bs a N) a b N) p.cc else p.no (trE p.bs p.ks (sGet p.bs a N) p.key b N))
  else if p.fc b N ≠ 0 then p.no (p.fc b N)
  else if op = 213 then p.st p.os (clc (sGet p.bs a N) (sGet p.bs b N)) false
  else p.wr a N (cmb (cb op) (sGet p.bs a N) (sGet p.bs b N) (a - b) N) (if op = 212 ∨ op = 214 ∨ op = 215 then cmbS (cb op) (sGet p.bs a N) (sGet p.bs b N) (a - b) N else p.cc)
/-- what exec does -/
def exO (p : Pre) (op fm : Int) (n k : Nat) (a1 a : Int) (l1 : Nat) (i2 : Int) : Out :=
  if op < 16 ∨ (69 ≤ op ∧ op ≤ 71) ∨ op = 134 ∨ op = 135 then brO p op n k a
  else if 136 ≤ op ∧ op ≤ 143 then shO p op n a
  else if op = 65 then p.rg (p.os.set n a)
  else if op = 64 ∨ op = 66 ∨ op = 67 ∨ op = 80 ∨ op = 144 ∨ op = 152 then mvO p op n k a
  else if 145 ≤ op ∧ op ≤ 151 then imO p op a1 i2
  else if 208 ≤ op then loO p op (l1 + 1) a1 a
  else arO p op n (opC op fm p.bs p.ks p.key a) (opV op fm p.os k p.bs a)
end Go.Proofs.Ythjdjbipfdigeaa

namespace Go.Proofs.Ythjdjbipfdigeaa
open Go.RowKit
set_option maxRecDepth 100000
set_option linter.unusedVariables false
set_option linter.unusedSimpArgs false
theorem ext_getD {l m : List Int} (h : l.length = m.length) (hj : ∀ j, j < l.length → l.getD j 0 = m.getD j 0) : l = m := by
  apply List.ext_getElem h
  intro j h1 h2
  have := hj j h1
  rw [List.getD_eq_getElem?_getD, List.getD_eq_getElem?_getD, List.getElem?_eq_getElem h1, List.getElem?_eq_getElem h2] at this
  exact this
theorem alP_0 (k : Int) : alP 0 k = true := by simp [alP]
theorem alF_0 (k : Int) : alF 0 k = true := by simp [alF]
theorem codeH (al : Int → Bool) (hal : ∀ k, al k = true) (N : Nat) (ks : List Int) (a n : Nat) (h : a + n ≤ N) : sCode al N ks (a : Int) (n : Int) = 0 := by
  unfold sCode
  rw [if_pos (show sIn N (a : Int) (n : Int) = true from by unfold sIn; exact decide_eq_true (by omega)), if_pos]
  unfold okB; rw [List.all_eq_true]; intro j _; exact hal _
theorem put_eq (bs ks ys : List Int) (a : Nat) (h : a + ys.length ≤ bs.length) : sPut (alP 0) bs ks (a : Int) ys = splice bs a ys := by
  unfold sPut
  rw [if_pos (codeH _ alP_0 _ _ _ _ h), Int.toNat_natCast]
theorem put_len (bs ks ys : List Int) (a : Nat) (h : a + ys.length ≤ bs.length) : (sPut (alP 0) bs ks (a : Int) ys).length = bs.length := by
  rw [put_eq bs ks ys a h]; unfold splice; simp; omega
theorem put_getD (bs ks ys : List Int) (a j : Nat) (h : a + ys.length ≤ bs.length) : (sPut (alP 0) bs ks (a : Int) ys).getD j 0 = if a ≤ j ∧ j < a + ys.length then ys.getD (j - a) 0 else bs.getD j 0 := by
  rw [put_eq bs ks ys a h]
  simp only [List.getD_eq_getElem?_getD]
  rw [splice_get bs a ys h j]
  by_cases h1 : j < a
  · rw [if_pos h1, if_neg (by omega)]
  · rw [if_neg h1]
    by_cases h2 : j < a + ys.length
    · rw [if_pos h2, if_pos (by omega)]
    · rw [if_neg h2, if_neg (by omega)]
theorem get_eq (bs : List Int) (a n : Nat) (h : a + n ≤ bs.length) : sGet bs (a : Int) (n : Int) = (bs.drop a).take n := by
  unfold sGet
  rw [if_pos (show sIn bs.length (a : Int) (n : Int) = true from by unfold sIn; exact decide_eq_true (by omega)), Int.toNat_natCast, Int.toNat_natCast]
theorem get_len (bs : List Int) (a n : Nat) (h : a + n ≤ bs.length) : (sGet bs (a : Int) (n : Int)).length = n := by
  rw [get_eq bs a n h]; simp; omega
theorem get_getD (bs : List Int) (a n j : Nat) (h : a + n ≤ bs.length) (hj : j < n) : (sGet bs (a : Int) (n : Int)).getD j 0 = bs.getD (a + j) 0 := by
  rw [get_eq bs a n h]
  simp only [List.getD_eq_getElem?_getD]
  rw [List.getElem?_take, if_pos hj, List.getElem?_drop]
/-- bytes put are got -/
theorem get_put_same (bs ks ys : List Int) (a : Nat) (h : a + ys.length ≤ bs.length) : sGet (sPut (alP 0) bs ks (a : Int) ys) (a : Int) (ys.length : Int) = ys := by
  have hl := put_len bs ks ys a h
  apply ext_getD
  · rw [get_len _ _ _ (by omega)]
  · intro j hj
    rw [get_len _ _ _ (by omega)] at hj
    rw [get_getD _ _ _ _ (by omega) hj, put_getD bs ks ys a (a + j) h, if_pos (by omega), show a + j - a = j by omega]
/-- bytes elsewhere are as they were -/
theorem get_put_far (bs ks ys : List Int) (a b n : Nat) (h : a + ys.length ≤ bs.length) (hb : b + n ≤ bs.length) (hd : b + n ≤ a ∨ a + ys.length ≤ b) : sGet (sPut (alP 0) bs ks (a : Int) ys) (b : Int) (n : Int) = sGet bs (b : Int) (n : Int) := by
  have hl := put_len bs ks ys a h
  apply ext_getD
  · rw [get_len _ _ _ (by omega), get_len _ _ _ hb]
  · intro j hj
    rw [get_len _ _ _ (by omega)] at hj
    rw [get_getD _ _ _ _ (by omega) hj, get_getD _ _ _ _ hb hj, put_getD bs ks ys a (b + j) h, if_neg (by omega)]
/-- operands that do not overlap, or are the same -/
theorem cmb_at (f : Int → Int → Int) (x y : List Int) (d : Int) (N : Nat) (hN : N ≤ x.length) (hd : d ≤ 0 ∨ (N : Int) ≤ d) : ∀ k, k ≤ N → ∀ j, (cmb f x y d k).getD j 0 = if j < k then f (x.getD j 0) (y.getD j 0) else x.getD j 0
  | 0, _, j => by simp [cmb]
  | k + 1, hk, j => by
    have ih := cmb_at f x y d N hN hd k (by omega)
    have hl := cmb_len f x y d k
    rw [cmb, if_neg (show ¬ (0 < d ∧ d ≤ (k : Int)) by omega)]
    by_cases h : k = j
    · subst h
      rw [getD_set_same _ _ _ (by omega), ih k, if_neg (by omega), if_pos (by omega)]
    · rw [getD_set_other _ _ _ _ h, ih j]
      by_cases h2 : j < k
      · rw [if_pos h2, if_pos (by omega)]
      · rw [if_neg h2, if_neg (by omega)]
theorem cmb_eq (f : Int → Int → Int) (x y z : List Int) (d : Int) (N : Nat) (hx : x.length = N) (hz : z.length = N) (hd : d ≤ 0 ∨ (N : Int) ≤ d) (hf : ∀ j, j < N → f (x.getD j 0) (y.getD j 0) = z.getD j 0) : cmb f x y d N = z := by
  apply ext_getD
  · rw [cmb_len, hx, hz]
  · intro j hj
    rw [cmb_len, hx] at hj
    rw [cmb_at f x y d N (by omega) hd N (by omega) j, if_pos hj, hf j hj]
theorem cmbS_zero (f : Int → Int → Int) (x y : List Int) (d : Int) (N : Nat) (hN : N ≤ x.length) (hd : d ≤ 0 ∨ (N : Int) ≤ d) (hf : ∀ j, j < N → f (x.getD j 0) (y.getD j 0) = 0) : ∀ k, k ≤ N → cmbS f x y d k = 0
  | 0, _ => rfl
  | k + 1, hk => by
    have e := cmb_at f x y d N hN hd (k + 1) hk k
    rw [if_pos (show k < k + 1 by omega), hf k (by omega)] at e
    rw [cmbS, e, if_pos rfl]
    exact cmbS_zero f x y d N hN hd hf k (by omega)
/-- the target one behind: the first byte is spread -/
theorem cmb_one (x y : List Int) : ∀ k, k ≤ x.length → ∀ j, j < k → (cmb (cb 210) x y 1 k).getD j 0 = y.getD 0 0
  | 0, _, j, h => absurd h (by omega)
  | k + 1, hk, j, hj => by
    have ih := cmb_one x y k (by omega)
    have hl := cmb_len (cb 210) x y 1 k
    rw [cmb]
    by_cases h : k = j
    · subst h
      rw [getD_set_same _ _ _ (by omega)]
      have hc : ∀ u v : Int, cb 210 u v = v := fun u v => by simp [cb]
      rw [hc]
      by_cases h0 : k = 0
      · subst h0; rw [if_neg (by omega)]
      · rw [if_pos (by omega)]; exact ih (k - 1) (by omega)
    · rw [getD_set_other _ _ _ _ h]; exact ih j (by omega)
theorem chk_ss : ∀ l : Nat, l < 256 → chk 210 5 [210, 5, 0, 0, 0, 14, 0, 15, 0, (l : Int), 0, 0] = 0 ∧ chk 215 5 [215, 5, 0, 0, 0, 14, 0, 15, 0, (l : Int), 0, 0] = 0 := by decide +kernel
theorem chk_s2 (op : Int) (hop : op = 210 ∨ op = 215) (l : Nat) (hl : l < 256) : kn op = true ∧ chk op 5 [op, 5, 0, 0, 0, 14, 0, 15, 0, (l : Int), 0, 0] = 0 := by
  rcases hop with rfl | rfl
  · exact ⟨by decide +kernel, (chk_ss l hl).1⟩
  · exact ⟨by decide +kernel, (chk_ss l hl).2⟩
/-- what MVC and XC leave -/
theorem exO_ss (op : Int) (hop : op = 210 ∨ op = 215) (os bs ks : List Int) (cc : Int) (l a b : Nat) (ha : a + (l + 1) ≤ bs.length) (hb : b + (l + 1) ≤ bs.length) (X Y : List Int) (hX : sGet bs (a : Int) ((l + 1 : Nat) : Int) = X) (hY : sGet bs (b : Int) ((l + 1 : Nat) : Int) = Y) :
    exO ⟨os, 0, 0, cc, 0, 0, bs, ks⟩ op 5 0 0 (a : Int) (b : Int) l 0 = ⟨0, os, if op = 215 then cmbS (cb op) X Y ((a : Int) - (b : Int)) (l + 1) else cc, 0, 0, false, sPut (alP 0) bs ks (a : Int) (cmb (cb op) X Y ((a : Int) - (b : Int)) (l + 1))⟩ := by
  have f1 : sCode (alF 0) bs.length ks (a : Int) ((l + 1 : Nat) : Int) = 0 := codeH _ alF_0 _ _ _ _ ha
  have f2 : sCode (alF 0) bs.length ks (b : Int) ((l + 1 : Nat) : Int) = 0 := codeH _ alF_0 _ _ _ _ hb
  have f3 : sCode (alP 0) bs.length ks (a : Int) ((l + 1 : Nat) : Int) = 0 := codeH _ alP_0 _ _ _ _ ha
  have e0 : exO ⟨os, 0, 0, cc, 0, 0, bs, ks⟩ op 5 0 0 (a : Int) (b : Int) l 0 = loO ⟨os, 0, 0, cc, 0, 0, bs, ks⟩ op (l + 1) (a : Int) (b : Int) := by
    unfold exO; rw [if_neg (by omega), if_neg (by omega), if_neg (by omega), if_neg (by omega), if_neg (by omega), if_pos (by omega)]
  rw [e0]
  unfold loO Pre.fc
  rw [if_neg (by omega), if_neg (by simpa using f1), if_neg (by omega), if_neg (by simpa using f2), if_neg (by omega)]
  dsimp only
  rw [hX, hY]
  unfold Pre.wr Pre.pc
  rw [if_pos f3]
  rcases hop with rfl | rfl <;> rfl
theorem xor_self : ∀ n : Nat, n < 256 → bits .xor .u8 (n : Int) (n : Int) = 0 := by decide +kernel
end Go.Proofs.Ythjdjbipfdigeaa

namespace Go.Proofs.Ythjdjbipfdigeaa
open Go.RowKit
set_option linter.unusedVariables false

theorem take_next_eq9 {zs zs' : List Int} {k : Nat} (h : zs.take k = zs'.take k) (hk : k < zs.length) (hk' : k < zs'.length) (e : zs.getD k 0 = zs'.getD k 0) : zs.take (k + 1) = zs'.take (k + 1) := by
  rw [List.take_succ_eq_append_getElem hk, List.take_succ_eq_append_getElem hk', h]
  rw [List.getD_eq_getElem?_getD, List.getD_eq_getElem?_getD, List.getElem?_eq_getElem hk, List.getElem?_eq_getElem hk'] at e
  simp only [Option.getD_some] at e
  rw [e]

set_option maxHeartbeats 1000000 in
theorem same9_c (A : Option Addr) (len cap : Nat) (zs : List Int) (A' : Option Addr) (len' cap' : Nat) (zs' : List Int) (w : World) (hb : Byt w A len zs) (hb' : Byt w A' len' zs') (hl : (len : Int) ≤ 9223372036854775807) (hl' : (len' : Int) ≤ 9223372036854775807) :
    Calls Try.prog 18 #[.slice A len cap, .slice A' len' cap'] w fun e w' => e = .returned (.bool (decide (zs = zs'))) ∧ ∃ n, w' = w.drewN n := by
  by_cases hne : len = len'
  · subst hne
    have e0 : ((len : Int) != (len : Int)) = false := by simp
    have H1 := Lib.hid hb.1
    have H2 := Lib.hid hb'.1
    have HB := Lib.hid hb
    have HB' := Lib.hid hb'
    clear hb hb'
    go_enter Try.func18, Try.ntmps18
    go_wp2
    go_loopw [4, 5] (fun r i wr => ∃ k : Nat, k ≤ len ∧ i = .int .i64 k ∧ zs.take k = zs'.take k ∧ ∃ n, wr = w.drewN n) (fun _ i _ => len - (intOf i).toNat)
    case atStart => exact ⟨0, Nat.zero_le _, rfl, by simp, 0, rfl⟩
    case round =>
      obtain ⟨k, hk, rfl, heq, n, rfl⟩ := hrel
      have Heq := Lib.hid heq
      clear heq
      by_cases hlt : k < len
      · obtain ⟨b, off, rfl, hc⟩ := HB.out.at_ (by omega)
        obtain ⟨b', off', rfl, hc'⟩ := HB'.out.at_ (by omega)
        have c1 := hc k hlt
        have c2 := hc' k hlt
        clear hc hc'
        obtain ⟨x, hx⟩ : ∃ x, zs.getD k 0 = x := ⟨_, rfl⟩
        obtain ⟨y, hy⟩ : ∃ y, zs'.getD k 0 = y := ⟨_, rfl⟩
        rw [hx] at c1
        rw [hy] at c2
        have k1 : (k : Int) < (len : Int) := by omega
        have Hx := Lib.hid hx
        have Hy := Lib.hid hy
        clear hx hy
        by_cases hxy : x = y
        · subst hxy
          have t0 : (x != x) = false := by simp
          go_wp2
          go_quiet (fail)
          go_wp2
          go_roundw
          case rel => exact ⟨k + 1, by omega, by go_num, take_next_eq9 Heq.out (by rw [H1.out]; exact hlt) (by rw [H2.out]; exact hlt) (by rw [Hx.out, Hy.out]), _, rfl⟩
          case measure => simp [intOf]; omega
        · have t0 : (x != y) = true := by simpa using hxy
          have hfin := Lib.hid (show decide (zs = zs') = false from by rw [decide_eq_false_iff_not]; rintro rfl; exact hxy (Hx.out.symm.trans Hy.out))
          go_wp2
          go_quiet (fail)
          go_wp2
          go_ret
          exact ⟨by rw [hfin.out]; rfl, _, World.drewN_drewN _ _ _⟩
      · obtain rfl : k = len := by omega
        have hfin := Lib.hid (show decide (zs = zs') = true from by
          rw [decide_eq_true_iff]
          have := Heq.out
          rwa [List.take_of_length_le (by rw [H1.out]; exact Nat.le_refl _), List.take_of_length_le (by rw [H2.out]; exact Nat.le_refl _)] at this)
        go_wp2
        go_ret
        exact ⟨by rw [hfin.out]; rfl, _, rfl⟩
  · have e0 : ((len : Int) != (len' : Int)) = true := by simp; omega
    have hfin := Lib.hid (show decide (zs = zs') = false from by rw [decide_eq_false_iff_not]; rintro rfl; exact hne (hb.1.symm.trans hb'.1))
    clear hb hb' hne
    go_enter Try.func18, Try.ntmps18
    go_wp2
    go_ret
    exact ⟨by rw [hfin.out]; rfl, 0, rfl⟩
end Go.Proofs.Ythjdjbipfdigeaa

namespace Go.Proofs.Ythjdjbipfdigeaa
open Go.RowKit
set_option maxRecDepth 100000
set_option linter.unusedVariables false
set_option linter.unusedSimpArgs false

theorem Rw.zerosB (w : World) (k : Nat) (hk : k ≤ maxLen) : Rw (w.alloc (.cells (zeroB k) 5)) w.heap.size 5 k ((List.replicate k (0 : Int)).map (Value.int .u8)) := by
  have h := Rw.new w (zeroB k) 5 ((List.replicate k (0 : Int)).map (Value.int .u8)) (by simp [zeroB]) (by simpa using hk)
  simpa using h
theorem Rw.zerosI (w : World) (k : Nat) (hk : k ≤ maxLen) : Rw (w.alloc (.cells (zeroI k) 3)) w.heap.size 3 k ((List.replicate k (0 : Int)).map (Value.int .i64)) := by
  have h := Rw.new w (zeroI k) 3 ((List.replicate k (0 : Int)).map (Value.int .i64)) (by simp [zeroI]) (by simpa using hk)
  simpa using h
theorem Rw.alloc {w : World} {g c : Nat} {e : TypeId} {vs : List Value} (h : Rw w g e c vs) (o : Obj) : Rw (w.alloc o) g e c vs := h.keep (Below.heap_alloc w o _ h.lt)
theorem Rw.belowS {w w' : World} {g c : Nat} {e : TypeId} {vs : List Value} (h : Rw w g e c vs) (hb : Below w.heap.size w w') : Rw w' g e c vs := h.keep (hb.block _ h.lt)
/-- the struct laid round its rows -/
theorem St.make {T : TypeId} {w : World} {gb gk cb ck : Nat} {bs ks : List Int} (hb : Rw w gb 5 cb (bs.map (Value.int .u8))) (hk : Rw w gk 3 ck (ks.map (Value.int .i64))) (rb : ∀ z ∈ bs, 0 ≤ z ∧ z ≤ 255) (rk : ∀ z ∈ ks, 0 ≤ z ∧ z ≤ 31) (ln : bs.length = 2048 * ks.length) (l0 : 1 ≤ ks.length) (l1 : ks.length ≤ 32)
    (N m : Nat) (hN : bs.length = N) (hm : ks.length = m) :
    St T (w.alloc (.cells #[.slice (some ⟨gb, 0, none⟩) N cb, .slice (some ⟨gk, 0, none⟩) m ck] T)) ⟨w.heap.size, gb, gk, cb, ck⟩ bs ks :=
  ⟨by subst hN hm; exact heap_alloc_new w _, hb.alloc _, hk.alloc _, rb, rk, ln, l0, l1⟩
/-- zeros -/
def z0 (k : Nat) : List Int := List.replicate k 0
theorem z0_len (k : Nat) : (z0 k).length = k := by simp [z0]
theorem z0_mem {k : Nat} {z : Int} (h : z ∈ z0 k) : z = 0 := List.eq_of_mem_replicate h
theorem new_st1 (T : TypeId) (w : World) (N m : Nat) (h : 2048 * m = N) (h1 : 1 ≤ m) (h2 : m ≤ 32) :
    St T (((w.alloc (.cells (zeroB N) 5)).alloc (.cells (zeroI m) 3)).alloc (.cells #[.slice (some ⟨w.heap.size, 0, none⟩) N N, .slice (some ⟨w.heap.size + 1, 0, none⟩) m m] T)) ⟨w.heap.size + 1 + 1, w.heap.size, w.heap.size + 1, N, m⟩ (z0 N) (z0 m) := by
  have hk := Rw.zerosI (w.alloc (.cells (zeroB N) 5)) m (by unfold maxLen; omega)
  have hb := (Rw.zerosB w N (by unfold maxLen; omega)).alloc (.cells (zeroI m) 3)
  rw [World.size_alloc] at hk
  have h3 := St.make (T := T) (bs := z0 N) (ks := z0 m) hb hk (fun z hz => by rw [z0_mem hz]; omega) (fun z hz => by rw [z0_mem hz]; omega) (by rw [z0_len, z0_len]; omega) (by rw [z0_len]; exact h1) (by rw [z0_len]; exact h2) N m (z0_len _) (z0_len _)
  simp only [World.size_alloc] at h3
  exact h3
theorem new_st2 (T : TypeId) (w : World) (N m : Nat) (h : 2048 * m = N) (h1 : 1 ≤ m) (h2 : m ≤ 32) :
    St T (((w.alloc (.cells (zeroI m) 3)).alloc (.cells (zeroB N) 5)).alloc (.cells #[.slice (some ⟨w.heap.size + 1, 0, none⟩) N N, .slice (some ⟨w.heap.size, 0, none⟩) m m] T)) ⟨w.heap.size + 1 + 1, w.heap.size + 1, w.heap.size, N, m⟩ (z0 N) (z0 m) := by
  have hb := Rw.zerosB (w.alloc (.cells (zeroI m) 3)) N (by unfold maxLen; omega)
  have hk := (Rw.zerosI w m (by unfold maxLen; omega)).alloc (.cells (zeroB N) 5)
  rw [World.size_alloc] at hb
  have h3 := St.make (T := T) (bs := z0 N) (ks := z0 m) hb hk (fun z hz => by rw [z0_mem hz]; omega) (fun z hz => by rw [z0_mem hz]; omega) (by rw [z0_len, z0_len]; omega) (by rw [z0_len]; exact h1) (by rw [z0_len]; exact h2) N m (z0_len _) (z0_len _)
  simp only [World.size_alloc] at h3
  exact h3
theorem below3 (w : World) (a b c : Obj) : Below w.heap.size w ((((w.alloc a).alloc b).alloc c).drew) := dBelow ((((Below.refl w.heap.size w).alloc (Nat.le_refl _) _).alloc (by simp) _).alloc (by simp; omega) _) 1
/-- a storage that is new: pointer value v -/
def NewSt (T : TypeId) (w : World) (bs ks : List Int) (v : Value) (w' : World) : Prop := ∃ F : Foot, v = .pointer (some ⟨F.g, 0, none⟩) ∧ St T w' F bs ks ∧ Below w.heap.size w w' ∧ w.heap.size ≤ F.g ∧ w.heap.size ≤ F.gb ∧ w.heap.size ≤ F.gk

def newPost (m : Nat) (w : World) (e : Ending) (w' : World) : Prop := ∃ v, e = .returned (.tuple #[v, .int .i64 0]) ∧ NewSt 71 w (z0 (2048 * m)) (z0 m) v w'
set_option maxHeartbeats 2000000 in
theorem new_yes (m : Nat) (h1 : 1 ≤ m) (h2 : m ≤ 32) (w : World) : Calls Try.prog 15 #[.int .i64 ((2048 * m : Nat) : Int)] w (newPost m w) := by
  obtain ⟨N, hN⟩ : ∃ N, 2048 * m = N := ⟨_, rfl⟩
  rw [hN]
  have a1 : (2048 : Int) ≤ (N : Int) := by omega
  have a2 : (N : Int) ≤ 65536 := by omega
  have a3 : ((N : Int) % 2048 != 0) = false := by rw [bne_eq_false_iff_eq]; omega
  have hmk := fun W => run_mk_b N (by omega) W
  have hmi := fun W => run_mk_i m (by omega) W
  have d1 : (N : Int).tdiv 2048 = (m : Int) := by rw [Int.tdiv_eq_ediv_of_nonneg (by omega)]; omega
  have d2 : (N : Int) / 2048 = (m : Int) := by omega
  have d3 : IntKind.i64.wrap (m : Int) = (m : Int) := by rw [IntKind.wrap_i64]; omega
  have HN := Lib.hid hN
  have M1 := Lib.hid h1
  have M2 := Lib.hid h2
  clear hN h1 h2
  go_enter Try.func15, Try.ntmps15
  go_wp2
  go_region
  skip
  all_goals
    go_wp2
    go_ret2
    first
      | exact ⟨_, rfl, ⟨_, _, _, _, _⟩, rfl, by rw [HN.out]; exact (new_st1 _ w N m HN.out M1.out M2.out).drewN 1, below3 _ _ _ _, by simp; omega, by simp, by simp⟩
      | exact ⟨_, rfl, ⟨_, _, _, _, _⟩, rfl, by rw [HN.out]; exact (new_st2 _ w N m HN.out M1.out M2.out).drewN 1, below3 _ _ _ _, by simp; omega, by simp, by simp⟩

end Go.Proofs.Ythjdjbipfdigeaa

namespace Go.Proofs.Ythjdjbipfdigeaa
open Go.RowKit
set_option maxRecDepth 100000
set_option linter.unusedVariables false
set_option linter.unusedSimpArgs false
/-- the cells of an instruction, of a status word -/
def isL (op fm : Int) (n k x2 b1 : Nat) (d1 : Int) (b2 : Nat) (d2 : Int) (l1 : Nat) (l2 i2 : Int) : List Int := [op, fm, (n : Int), (k : Int), (x2 : Int), (b1 : Int), d1, (b2 : Int), d2, (l1 : Int), l2, i2]
def psL (m key : Int) (M W P : Bool) (cd il cc pg ad : Int) : List Value := [.int .i64 m, .int .i64 key, .bool M, .bool W, .bool P, .int .i64 cd, .int .i64 il, .int .i64 cc, .int .i64 pg, .int .i64 ad]
/-- how exec ends -/
def Ends (g : Nat) (F : Foot) (is os : List Int) (m key : Int) (M W P : Bool) (cd il : Int) (bs ks : List Int) (o : Out) (w : World) (e : Ending) (w' : World) : Prop :=
  (o.c = 0 → e = .returned (.tuple #[]) ∧ MS w' g F is os o.rs (psL m key M W P cd il o.cc o.pg o.ad) o.ov o.bs ks) ∧ (o.c ≠ 0 → e = .panicked [{ v := .iface 65 (.int .i64 o.c), recovered := false }] ∧ ∃ rs ps ov, MS w' g F is os rs ps ov bs ks) ∧ Ch w w' [g, F.gb]
section
variable {g : Nat} {F : Foot} {is os : List Int} {m key : Int} {M W P : Bool} {cd il : Int} {bs ks : List Int} {o : Out} {w w' : World} {e : Ending} {rs : List Int} {ps : List Value} {ov : Bool}
theorem ends_ok {L : List Nat} (hc : o.c = 0) (he : e = .returned (.tuple #[])) (hM : MS w' g F is os o.rs (psL m key M W P cd il o.cc o.pg o.ad) o.ov o.bs ks) (hC : Ch w w' L) (hL : ∀ k, k ∈ L → k ∈ [g, F.gb]) : Ends g F is os m key M W P cd il bs ks o w e w' :=
  ⟨fun _ => ⟨he, hM⟩, fun h => absurd hc h, hC.mono hL⟩
theorem ends_no {L : List Nat} {c : Int} (hc : o.c = c) (hc0 : c ≠ 0) (he : e = .panicked [{ v := .iface 65 (.int .i64 c), recovered := false }]) (hM : MS w' g F is os rs ps ov bs ks) (hC : Ch w w' L) (hL : ∀ k, k ∈ L → k ∈ [g, F.gb]) : Ends g F is os m key M W P cd il bs ks o w e w' :=
  ⟨fun h => absurd (hc.symm.trans h) hc0, fun _ => ⟨by rw [hc]; exact he, _, _, _, hM⟩, hC.mono hL⟩
end
end Go.Proofs.Ythjdjbipfdigeaa

namespace Go.Proofs.Ythjdjbipfdigeaa
open Go.RowKit
set_option maxRecDepth 100000
set_option linter.unusedVariables false
set_option linter.unusedSimpArgs false
set_option maxRecDepth 1000000 in
set_option maxHeartbeats 8000000 in
theorem exec_gl210 (g n k x2 b1 b2 l1 : Nat) (F : Foot) (op fm d1 d2 l2 i2 : Int) (m key : Int) (M W P : Bool) (cd il cc pg ad : Int) (os bs ks : List Int) (w : World) (h : MS w g F (isL op fm n k x2 b1 d1 b2 d2 l1 l2 i2) os os (psL m key M W P cd il cc pg ad) false bs ks) (ro : ∀ z ∈ os, 0 ≤ z ∧ z ≤ 4294967295) (hn16 : n < 16) (hk16 : k < 16) (hx16 : x2 < 16) (hb116 : b1 < 16) (hb216 : b2 < 16) (hl1 : l1 < 256) (hd1 : 0 ≤ d1 ∧ d1 < 4096) (hd2 : 0 ≤ d2 ∧ d2 < 4096) (hi2 : 0 ≤ i2 ∧ i2 < 256) (a1 a : Int) (ha1 : (d1 + sumB os [b1]) % 16777216 = a1) (ha : (d2 + sumB os [b2, x2]) % 16777216 = a)  (hop : op = 210) : Calls Try.prog 31 #[.pointer (some ⟨g, 0, none⟩)] w (Ends g F (isL op fm n k x2 b1 d1 b2 d2 l1 l2 i2) os m key M W P cd il bs ks (exO (⟨os, key, il, cc, pg, ad, bs, ks⟩ : Pre) op fm n k a1 a l1 i2) w) := by
  have c0 : w.cell? ⟨g, 0, none⟩ = some (.int .i64 op) := h.m.ci (c := 0) (by omega)
  have hb0 : 0 ≤ a ∧ a ≤ 16777215 := by omega
  have hb1 : 0 ≤ a1 ∧ a1 ≤ 16777215 := by omega
  have hsec : ∀ (W' : World) (rs' : List Int) (ps' : List Value) (ov' : Bool) (bs' : List Int), MS W' g F (isL op fm n k x2 b1 d1 b2 d2 l1 l2 i2) os rs' ps' ov' bs' ks → Calls Try.prog 44 #[.pointer (some ⟨g, 0, none⟩)] W' fun e w' => e = .returned (.int .i64 a) ∧ Ch W' w' [] := fun W' rs' ps' ov' bs' hm => by rw [← ha]; exact second_c g b2 x2 d2 _ _ _ _ _ _ _ hm.m ro rfl hd2.1 (by omega) rfl hb216 rfl hx16
  have hfir : ∀ (W' : World) (rs' : List Int) (ps' : List Value) (ov' : Bool) (bs' : List Int), MS W' g F (isL op fm n k x2 b1 d1 b2 d2 l1 l2 i2) os rs' ps' ov' bs' ks → Calls Try.prog 71 #[.pointer (some ⟨g, 0, none⟩)] W' fun e w' => e = .returned (.int .i64 a1) ∧ Ch W' w' [] := fun W' rs' ps' ov' bs' hm => by rw [← ha1]; exact first_c g b1 d1 _ _ _ _ _ _ _ hm.m ro rfl hd1.1 (by omega) rfl hb116
  have hs := fun W' => hsec W' os (psL m key M W P cd il cc pg ad) false bs
  have hs1 := fun W' => hfir W' os (psL m key M W P cd il cc pg ad) false bs
  have e1 : exO (⟨os, key, il, cc, pg, ad, bs, ks⟩ : Pre) 210 fm n k a1 a l1 i2 = loO (⟨os, key, il, cc, pg, ad, bs, ks⟩ : Pre) 210 (l1 + 1) a1 a := rfl
  subst hop
  rw [e1]
  by_cases hf1 : sCode (alF key) bs.length ks a1 ((l1 + 1 : Nat) : Int) = 0
  rotate_left
  · refine (exec_l_no g 210 (by omega) (by omega) _ _ w c0 (long_210_no g _ _ w c0 (combine_no1 g 76 (l1 + 1) (cb 210) false F _ _ _ _ _ _ _ key a1 a w h (show ((l1 : Nat) : Int) + 1 = ((l1 + 1 : Nat) : Int) by omega) (by omega) rfl hs1 hs hb1.1 hb1.2 hb0.1 hb0.2  _ rfl hf1))).mono ?_
    rintro e w' ⟨rfl, hM, hC⟩
    exact ends_no (show Out.c (loO (⟨os, key, il, cc, pg, ad, bs, ks⟩ : Pre) 210 (l1 + 1) a1 a) = _ by unfold loO Pre.fc; rw [if_neg (by decide), if_pos hf1]; rfl) hf1 rfl hM hC (by simp)
  by_cases hf2 : sCode (alF key) bs.length ks a ((l1 + 1 : Nat) : Int) = 0
  rotate_left
  · refine (exec_l_no g 210 (by omega) (by omega) _ _ w c0 (long_210_no g _ _ w c0 (combine_no2 g 76 (l1 + 1) (cb 210) false F _ _ _ _ _ _ _ key a1 a w h (show ((l1 : Nat) : Int) + 1 = ((l1 + 1 : Nat) : Int) by omega) (by omega) rfl hs1 hs hb1.1 hb1.2 hb0.1 hb0.2  hf1 _ rfl hf2))).mono ?_
    rintro e w' ⟨rfl, hM, hC⟩
    exact ends_no (show Out.c (loO (⟨os, key, il, cc, pg, ad, bs, ks⟩ : Pre) 210 (l1 + 1) a1 a) = _ by unfold loO Pre.fc; rw [if_neg (by decide), if_neg (by simpa using hf1), if_neg (by decide), if_pos hf2]; rfl) hf2 rfl hM hC (by simp)
  obtain ⟨c, hcd⟩ : ∃ c, sCode (alP key) bs.length ks a1 ((l1 + 1 : Nat) : Int) = c := ⟨_, rfl⟩
  have hst := combine_m g 76 (l1 + 1) (cb 210) false F _ _ _ _ _ _ _ key a1 a w h (show ((l1 : Nat) : Int) + 1 = ((l1 + 1 : Nat) : Int) by omega) (by omega) rfl hs1 hs hb1.1 hb1.2 hb0.1 hb0.2  (by omega) hf1 hf2 (clo_call_210) (fun x y W => clo_210 x y W) (fun x y => cb_in 210 x y) c hcd
  have e2 : loO (⟨os, key, il, cc, pg, ad, bs, ks⟩ : Pre) 210 (l1 + 1) a1 a = Pre.wr (⟨os, key, il, cc, pg, ad, bs, ks⟩ : Pre) a1 ((l1 + 1 : Nat) : Int) (cmb (cb 210) (sGet bs a1 ((l1 + 1 : Nat) : Int)) (sGet bs a ((l1 + 1 : Nat) : Int)) (a1 - a) (l1 + 1)) cc := by unfold loO Pre.fc; rw [if_neg (by decide), if_neg (by simpa using hf1), if_neg (by decide), if_neg (by simpa using hf2), if_neg (by decide)]; rfl
  rw [e2]
  by_cases hc : c = 0
  · have hcp := hcd.trans hc
    refine (exec_l g 210 (by omega) (by omega) (fun w' => MS w' g F (isL 210 fm n k x2 b1 d1 b2 d2 l1 l2 i2) os os (psL m key M W P cd il cc pg ad) false (sPut (alP key) bs ks a1 (cmb (cb 210) (sGet bs a1 ((l1 + 1 : Nat) : Int)) (sGet bs a ((l1 + 1 : Nat) : Int)) (a1 - a) (l1 + 1))) ks ∧ Ch w w' [g, F.gb]) w c0 (long_210 g _ w c0 (hst.mono ?_))).mono ?_
    · rintro e w' ⟨h1, h2, h3⟩; exact ⟨(h1 hc).1, (h1 hc).2, h3⟩
    rintro e w' ⟨rfl, hM, hC⟩
    have e3 : Pre.wr (⟨os, key, il, cc, pg, ad, bs, ks⟩ : Pre) a1 ((l1 + 1 : Nat) : Int) (cmb (cb 210) (sGet bs a1 ((l1 + 1 : Nat) : Int)) (sGet bs a ((l1 + 1 : Nat) : Int)) (a1 - a) (l1 + 1)) cc = ⟨0, os, cc, pg, ad, false, (sPut (alP key) bs ks a1 (cmb (cb 210) (sGet bs a1 ((l1 + 1 : Nat) : Int)) (sGet bs a ((l1 + 1 : Nat) : Int)) (a1 - a) (l1 + 1)))⟩ := by unfold Pre.wr Pre.pc; rw [if_pos hcp]
    rw [e3]
    exact ends_ok rfl rfl hM hC (by simp)
  · refine (exec_l_no g 210 (by omega) (by omega) (fun w' => MS w' g F (isL 210 fm n k x2 b1 d1 b2 d2 l1 l2 i2) os os (psL m key M W P cd il cc pg ad) false bs ks ∧ Ch w w' [g, F.gb]) c w c0 (long_210_no g _ c w c0 (hst.mono ?_))).mono ?_
    · rintro e w' ⟨h1, h2, h3⟩; exact ⟨(h2 hc).1, (h2 hc).2, h3⟩
    rintro e w' ⟨rfl, hM, hC⟩
    exact ends_no (c := c) (by unfold Pre.wr Pre.pc; rw [hcd, if_neg hc]; rfl) hc rfl hM hC (by simp)
set_option maxRecDepth 1000000 in
set_option maxHeartbeats 8000000 in
theorem exec_gl215 (g n k x2 b1 b2 l1 : Nat) (F : Foot) (op fm d1 d2 l2 i2 : Int) (m key : Int) (M W P : Bool) (cd il cc pg ad : Int) (os bs ks : List Int) (w : World) (h : MS w g F (isL op fm n k x2 b1 d1 b2 d2 l1 l2 i2) os os (psL m key M W P cd il cc pg ad) false bs ks) (ro : ∀ z ∈ os, 0 ≤ z ∧ z ≤ 4294967295) (hn16 : n < 16) (hk16 : k < 16) (hx16 : x2 < 16) (hb116 : b1 < 16) (hb216 : b2 < 16) (hl1 : l1 < 256) (hd1 : 0 ≤ d1 ∧ d1 < 4096) (hd2 : 0 ≤ d2 ∧ d2 < 4096) (hi2 : 0 ≤ i2 ∧ i2 < 256) (a1 a : Int) (ha1 : (d1 + sumB os [b1]) % 16777216 = a1) (ha : (d2 + sumB os [b2, x2]) % 16777216 = a)  (hop : op = 215) : Calls Try.prog 31 #[.pointer (some ⟨g, 0, none⟩)] w (Ends g F (isL op fm n k x2 b1 d1 b2 d2 l1 l2 i2) os m key M W P cd il bs ks (exO (⟨os, key, il, cc, pg, ad, bs, ks⟩ : Pre) op fm n k a1 a l1 i2) w) := by
  have c0 : w.cell? ⟨g, 0, none⟩ = some (.int .i64 op) := h.m.ci (c := 0) (by omega)
  have hb0 : 0 ≤ a ∧ a ≤ 16777215 := by omega
  have hb1 : 0 ≤ a1 ∧ a1 ≤ 16777215 := by omega
  have hsec : ∀ (W' : World) (rs' : List Int) (ps' : List Value) (ov' : Bool) (bs' : List Int), MS W' g F (isL op fm n k x2 b1 d1 b2 d2 l1 l2 i2) os rs' ps' ov' bs' ks → Calls Try.prog 44 #[.pointer (some ⟨g, 0, none⟩)] W' fun e w' => e = .returned (.int .i64 a) ∧ Ch W' w' [] := fun W' rs' ps' ov' bs' hm => by rw [← ha]; exact second_c g b2 x2 d2 _ _ _ _ _ _ _ hm.m ro rfl hd2.1 (by omega) rfl hb216 rfl hx16
  have hfir : ∀ (W' : World) (rs' : List Int) (ps' : List Value) (ov' : Bool) (bs' : List Int), MS W' g F (isL op fm n k x2 b1 d1 b2 d2 l1 l2 i2) os rs' ps' ov' bs' ks → Calls Try.prog 71 #[.pointer (some ⟨g, 0, none⟩)] W' fun e w' => e = .returned (.int .i64 a1) ∧ Ch W' w' [] := fun W' rs' ps' ov' bs' hm => by rw [← ha1]; exact first_c g b1 d1 _ _ _ _ _ _ _ hm.m ro rfl hd1.1 (by omega) rfl hb116
  have hs := fun W' => hsec W' os (psL m key M W P cd il cc pg ad) false bs
  have hs1 := fun W' => hfir W' os (psL m key M W P cd il cc pg ad) false bs
  have e1 : exO (⟨os, key, il, cc, pg, ad, bs, ks⟩ : Pre) 215 fm n k a1 a l1 i2 = loO (⟨os, key, il, cc, pg, ad, bs, ks⟩ : Pre) 215 (l1 + 1) a1 a := rfl
  subst hop
  rw [e1]
  by_cases hf1 : sCode (alF key) bs.length ks a1 ((l1 + 1 : Nat) : Int) = 0
  rotate_left
  · refine (exec_l_no g 215 (by omega) (by omega) _ _ w c0 (long_215_no g _ _ w c0 (combine_no1 g 80 (l1 + 1) (cb 215) true F _ _ _ _ _ _ _ key a1 a w h (show ((l1 : Nat) : Int) + 1 = ((l1 + 1 : Nat) : Int) by omega) (by omega) rfl hs1 hs hb1.1 hb1.2 hb0.1 hb0.2  _ rfl hf1))).mono ?_
    rintro e w' ⟨rfl, hM, hC⟩
    exact ends_no (show Out.c (loO (⟨os, key, il, cc, pg, ad, bs, ks⟩ : Pre) 215 (l1 + 1) a1 a) = _ by unfold loO Pre.fc; rw [if_neg (by decide), if_pos hf1]; rfl) hf1 rfl hM hC (by simp)
  by_cases hf2 : sCode (alF key) bs.length ks a ((l1 + 1 : Nat) : Int) = 0
  rotate_left
  · refine (exec_l_no g 215 (by omega) (by omega) _ _ w c0 (long_215_no g _ _ w c0 (combine_no2 g 80 (l1 + 1) (cb 215) true F _ _ _ _ _ _ _ key a1 a w h (show ((l1 : Nat) : Int) + 1 = ((l1 + 1 : Nat) : Int) by omega) (by omega) rfl hs1 hs hb1.1 hb1.2 hb0.1 hb0.2  hf1 _ rfl hf2))).mono ?_
    rintro e w' ⟨rfl, hM, hC⟩
    exact ends_no (show Out.c (loO (⟨os, key, il, cc, pg, ad, bs, ks⟩ : Pre) 215 (l1 + 1) a1 a) = _ by unfold loO Pre.fc; rw [if_neg (by decide), if_neg (by simpa using hf1), if_neg (by decide), if_pos hf2]; rfl) hf2 rfl hM hC (by simp)
  obtain ⟨c, hcd⟩ : ∃ c, sCode (alP key) bs.length ks a1 ((l1 + 1 : Nat) : Int) = c := ⟨_, rfl⟩
  have hst := combine_m g 80 (l1 + 1) (cb 215) true F _ _ _ _ _ _ _ key a1 a w h (show ((l1 : Nat) : Int) + 1 = ((l1 + 1 : Nat) : Int) by omega) (by omega) rfl hs1 hs hb1.1 hb1.2 hb0.1 hb0.2  (by omega) hf1 hf2 (clo_call_215) (fun x y W => clo_215 x y W) (fun x y => cb_in 215 x y) c hcd
  have e2 : loO (⟨os, key, il, cc, pg, ad, bs, ks⟩ : Pre) 215 (l1 + 1) a1 a = Pre.wr (⟨os, key, il, cc, pg, ad, bs, ks⟩ : Pre) a1 ((l1 + 1 : Nat) : Int) (cmb (cb 215) (sGet bs a1 ((l1 + 1 : Nat) : Int)) (sGet bs a ((l1 + 1 : Nat) : Int)) (a1 - a) (l1 + 1)) (cmbS (cb 215) (sGet bs a1 ((l1 + 1 : Nat) : Int)) (sGet bs a ((l1 + 1 : Nat) : Int)) (a1 - a) (l1 + 1)) := by unfold loO Pre.fc; rw [if_neg (by decide), if_neg (by simpa using hf1), if_neg (by decide), if_neg (by simpa using hf2), if_neg (by decide)]; rfl
  rw [e2]
  by_cases hc : c = 0
  · have hcp := hcd.trans hc
    refine (exec_l g 215 (by omega) (by omega) (fun w' => MS w' g F (isL 215 fm n k x2 b1 d1 b2 d2 l1 l2 i2) os os (psL m key M W P cd il (cmbS (cb 215) (sGet bs a1 ((l1 + 1 : Nat) : Int)) (sGet bs a ((l1 + 1 : Nat) : Int)) (a1 - a) (l1 + 1)) pg ad) false (sPut (alP key) bs ks a1 (cmb (cb 215) (sGet bs a1 ((l1 + 1 : Nat) : Int)) (sGet bs a ((l1 + 1 : Nat) : Int)) (a1 - a) (l1 + 1))) ks ∧ Ch w w' [g, F.gb]) w c0 (long_215 g _ w c0 (hst.mono ?_))).mono ?_
    · rintro e w' ⟨h1, h2, h3⟩; exact ⟨(h1 hc).1, (h1 hc).2, h3⟩
    rintro e w' ⟨rfl, hM, hC⟩
    have e3 : Pre.wr (⟨os, key, il, cc, pg, ad, bs, ks⟩ : Pre) a1 ((l1 + 1 : Nat) : Int) (cmb (cb 215) (sGet bs a1 ((l1 + 1 : Nat) : Int)) (sGet bs a ((l1 + 1 : Nat) : Int)) (a1 - a) (l1 + 1)) (cmbS (cb 215) (sGet bs a1 ((l1 + 1 : Nat) : Int)) (sGet bs a ((l1 + 1 : Nat) : Int)) (a1 - a) (l1 + 1)) = ⟨0, os, (cmbS (cb 215) (sGet bs a1 ((l1 + 1 : Nat) : Int)) (sGet bs a ((l1 + 1 : Nat) : Int)) (a1 - a) (l1 + 1)), pg, ad, false, (sPut (alP key) bs ks a1 (cmb (cb 215) (sGet bs a1 ((l1 + 1 : Nat) : Int)) (sGet bs a ((l1 + 1 : Nat) : Int)) (a1 - a) (l1 + 1)))⟩ := by unfold Pre.wr Pre.pc; rw [if_pos hcp]
    rw [e3]
    exact ends_ok rfl rfl hM hC (by simp)
  · refine (exec_l_no g 215 (by omega) (by omega) (fun w' => MS w' g F (isL 215 fm n k x2 b1 d1 b2 d2 l1 l2 i2) os os (psL m key M W P cd il cc pg ad) false bs ks ∧ Ch w w' [g, F.gb]) c w c0 (long_215_no g _ c w c0 (hst.mono ?_))).mono ?_
    · rintro e w' ⟨h1, h2, h3⟩; exact ⟨(h2 hc).1, (h2 hc).2, h3⟩
    rintro e w' ⟨rfl, hM, hC⟩
    exact ends_no (c := c) (by unfold Pre.wr Pre.pc; rw [hcd, if_neg hc]; rfl) hc rfl hM hC (by simp)
end Go.Proofs.Ythjdjbipfdigeaa

namespace Go.Proofs.Ythjdjbipfdigeaa
open Go.RowKit
set_option maxRecDepth 100000
set_option linter.unusedVariables false
set_option linter.unusedSimpArgs false
theorem mc_new (W : World) (is os rs : List Int) (ps : List Value) (s : Value) (ov : Bool) (h1 : is.length = 12) (h2 : os.length = 16) (h3 : rs.length = 16) (h4 : ps.length = 10) : Mc (W.alloc (.cells (mcC is os rs ps s ov).toArray 69)) W.heap.size is os rs ps s ov := ⟨heap_alloc_new W _, h1, h2, h3, h4⟩
set_option maxRecDepth 1000000 in
set_option maxHeartbeats 4000000 in
theorem Exec_plain (op fm r1 r2 x2 b1 d1 b2 d2 l1 l2 i2 : Int) (a0 a1 a2 a3 a4 a5 a6 a7 a8 a9 a10 a11 a12 a13 a14 a15 : Int) (pm pk : Int) (pM pW pP : Bool) (pc pi pq pg pa : Int) (sg : Nat) (L : List Nat) (R : World → Prop) (n0 n1 n2 n3 n4 n5 n6 n7 n8 n9 n10 n11 n12 n13 n14 n15 : Int) (vm vk : Int) (vM vW vP : Bool) (vc vi vq vg va : Int) (ov : Bool) (w : World) (hkn : kn op = true) (hck : chk op fm [op, fm, r1, r2, x2, b1, d1, b2, d2, l1, l2, i2] = 0) (hv : pok pm pk pc pi pq pg pa = true) (hL : ∀ k, k ∈ L → k < w.heap.size) (hR : ∀ W W', R W → Below w.heap.size W W' → R W') (hex : ∀ (g : Nat) (W : World), w.heap.size ≤ g → Below w.heap.size w W → Mc W g [op, fm, r1, r2, x2, b1, d1, b2, d2, l1, l2, i2] [a0, a1, a2, a3, a4, a5, a6, a7, a8, a9, a10, a11, a12, a13, a14, a15] [a0, a1, a2, a3, a4, a5, a6, a7, a8, a9, a10, a11, a12, a13, a14, a15] [.int .i64 pm, .int .i64 pk, .bool pM, .bool pW, .bool pP, .int .i64 pc, .int .i64 pi, .int .i64 pq, .int .i64 pg, .int .i64 pa] (.pointer (some ⟨sg, 0, none⟩)) false → Calls Try.prog 31 #[.pointer (some ⟨g, 0, none⟩)] W fun e w' => e = .returned (.tuple #[]) ∧ Mc w' g [op, fm, r1, r2, x2, b1, d1, b2, d2, l1, l2, i2] [a0, a1, a2, a3, a4, a5, a6, a7, a8, a9, a10, a11, a12, a13, a14, a15] [n0, n1, n2, n3, n4, n5, n6, n7, n8, n9, n10, n11, n12, n13, n14, n15] [(.int .i64 vm), (.int .i64 vk), (.bool vM), (.bool vW), (.bool vP), (.int .i64 vc), (.int .i64 vi), (.int .i64 vq), (.int .i64 vg), (.int .i64 va)] (.pointer (some ⟨sg, 0, none⟩)) ov ∧ Ch W w' (g :: L) ∧ R w') (ho : ov = false) : Calls Try.prog 14 #[.agg #[.int .i64 op, .int .i64 fm, .int .i64 r1, .int .i64 r2, .int .i64 x2, .int .i64 b1, .int .i64 d1, .int .i64 b2, .int .i64 d2, .int .i64 l1, .int .i64 l2, .int .i64 i2], .agg #[.int .u32 a0, .int .u32 a1, .int .u32 a2, .int .u32 a3, .int .u32 a4, .int .u32 a5, .int .u32 a6, .int .u32 a7, .int .u32 a8, .int .u32 a9, .int .u32 a10, .int .u32 a11, .int .u32 a12, .int .u32 a13, .int .u32 a14, .int .u32 a15], .agg #[.int .i64 pm, .int .i64 pk, .bool pM, .bool pW, .bool pP, .int .i64 pc, .int .i64 pi, .int .i64 pq, .int .i64 pg, .int .i64 pa], .pointer (some ⟨sg, 0, none⟩)] w fun e w' => e = .returned (.tuple #[.agg #[.int .u32 n0, .int .u32 n1, .int .u32 n2, .int .u32 n3, .int .u32 n4, .int .u32 n5, .int .u32 n6, .int .u32 n7, .int .u32 n8, .int .u32 n9, .int .u32 n10, .int .u32 n11, .int .u32 n12, .int .u32 n13, .int .u32 n14, .int .u32 n15], .agg #[(.int .i64 vm), (.int .i64 vk), (.bool vM), (.bool vW), (.bool vP), (.int .i64 vc), (.int .i64 vi), (.int .i64 vq), (.int .i64 vg), (.int .i64 va)], .int .i64 0]) ∧ R w' ∧ Ch w w' L := by
  have hmf : ∀ (fn : Fn) (first cap : Array Value) (w : World), (Instr.makeFunc fn first cap).run Try.prog w = .ok (.func fn first cap) w := fun _ _ _ _ => rfl
  have KC := Lib.hid (fun W => knows_c op W)
  rw [hkn] at KC
  have CC := Lib.hid (fun W => icheck_c op fm r1 r2 x2 b1 d1 b2 d2 l1 l2 i2 W)
  rw [hck] at CC
  have VC := Lib.hid (fun W => valid_c pm pk pM pW pP pc pi pq pg pa W)
  rw [hv] at VC
  subst ho
  have HX := Lib.hid hex
  have HLL := Lib.hid hL
  have HRR := Lib.hid hR
  clear hkn hck hv hex hL hR
  go_enter_defers Try.func14, Try.ntmps14
  go_upto_region 1 with fail
  have X0 := Lib.hid (show XF w ((((((w.alloc (.cells #[.int .i64 op, .int .i64 fm, .int .i64 r1, .int .i64 r2, .int .i64 x2, .int .i64 b1, .int .i64 d1, .int .i64 b2, .int .i64 d2, .int .i64 l1, .int .i64 l2, .int .i64 i2] 25)).alloc (.cells #[.int .u32 a0, .int .u32 a1, .int .u32 a2, .int .u32 a3, .int .u32 a4, .int .u32 a5, .int .u32 a6, .int .u32 a7, .int .u32 a8, .int .u32 a9, .int .u32 a10, .int .u32 a11, .int .u32 a12, .int .u32 a13, .int .u32 a14, .int .u32 a15] 28)).alloc (.cells #[.int .i64 pm, .int .i64 pk, .bool pM, .bool pW, .bool pP, .int .i64 pc, .int .i64 pi, .int .i64 pq, .int .i64 pg, .int .i64 pa] 30)).alloc (.cells #[.int .u32 0, .int .u32 0, .int .u32 0, .int .u32 0, .int .u32 0, .int .u32 0, .int .u32 0, .int .u32 0, .int .u32 0, .int .u32 0, .int .u32 0, .int .u32 0, .int .u32 0, .int .u32 0, .int .u32 0, .int .u32 0] 28)).alloc (.cells #[.int .i64 0, .int .i64 0, .bool false, .bool false, .bool false, .int .i64 0, .int .i64 0, .int .i64 0, .int .i64 0, .int .i64 0] 30)).alloc (.cells #[.int .i64 0] 3)) [] [op, fm, r1, r2, x2, b1, d1, b2, d2, l1, l2, i2] [a0, a1, a2, a3, a4, a5, a6, a7, a8, a9, a10, a11, a12, a13, a14, a15] [.int .i64 pm, .int .i64 pk, .bool pM, .bool pW, .bool pP, .int .i64 pc, .int .i64 pi, .int .i64 pq, .int .i64 pg, .int .i64 pa] [.int .u32 0, .int .u32 0, .int .u32 0, .int .u32 0, .int .u32 0, .int .u32 0, .int .u32 0, .int .u32 0, .int .u32 0, .int .u32 0, .int .u32 0, .int .u32 0, .int .u32 0, .int .u32 0, .int .u32 0, .int .u32 0] [.int .i64 0, .int .i64 0, .bool false, .bool false, .bool false, .int .i64 0, .int .i64 0, .int .i64 0, .int .i64 0, .int .i64 0] (.int .i64 0) from XF.start w [] [op, fm, r1, r2, x2, b1, d1, b2, d2, l1, l2, i2] [a0, a1, a2, a3, a4, a5, a6, a7, a8, a9, a10, a11, a12, a13, a14, a15] [.int .i64 pm, .int .i64 pk, .bool pM, .bool pW, .bool pP, .int .i64 pc, .int .i64 pi, .int .i64 pq, .int .i64 pg, .int .i64 pa] [.int .u32 0, .int .u32 0, .int .u32 0, .int .u32 0, .int .u32 0, .int .u32 0, .int .u32 0, .int .u32 0, .int .u32 0, .int .u32 0, .int .u32 0, .int .u32 0, .int .u32 0, .int .u32 0, .int .u32 0, .int .u32 0] [.int .i64 0, .int .i64 0, .bool false, .bool false, .bool false, .int .i64 0, .int .i64 0, .int .i64 0, .int .i64 0, .int .i64 0] (.int .i64 0))
  obtain ⟨W0, hW0⟩ : ∃ W0, ((((((w.alloc (.cells #[.int .i64 op, .int .i64 fm, .int .i64 r1, .int .i64 r2, .int .i64 x2, .int .i64 b1, .int .i64 d1, .int .i64 b2, .int .i64 d2, .int .i64 l1, .int .i64 l2, .int .i64 i2] 25)).alloc (.cells #[.int .u32 a0, .int .u32 a1, .int .u32 a2, .int .u32 a3, .int .u32 a4, .int .u32 a5, .int .u32 a6, .int .u32 a7, .int .u32 a8, .int .u32 a9, .int .u32 a10, .int .u32 a11, .int .u32 a12, .int .u32 a13, .int .u32 a14, .int .u32 a15] 28)).alloc (.cells #[.int .i64 pm, .int .i64 pk, .bool pM, .bool pW, .bool pP, .int .i64 pc, .int .i64 pi, .int .i64 pq, .int .i64 pg, .int .i64 pa] 30)).alloc (.cells #[.int .u32 0, .int .u32 0, .int .u32 0, .int .u32 0, .int .u32 0, .int .u32 0, .int .u32 0, .int .u32 0, .int .u32 0, .int .u32 0, .int .u32 0, .int .u32 0, .int .u32 0, .int .u32 0, .int .u32 0, .int .u32 0] 28)).alloc (.cells #[.int .i64 0, .int .i64 0, .bool false, .bool false, .bool false, .int .i64 0, .int .i64 0, .int .i64 0, .int .i64 0, .int .i64 0] 30)).alloc (.cells #[.int .i64 0] 3)) = W0 := ⟨_, rfl⟩
  rw [hW0] at X0
  try rw [hW0]
  clear hW0
  have hb0 : W0.cell? ⟨w.heap.size, 0, none⟩ = some (.int .i64 op) := X0.out.b0.cell (c := 0) rfl
  go_upto_region 3 with (first
    | (go_at_call 11; refine (KC.out _).mono ?_; rintro e w1 ⟨rfl, nk, hw1⟩; have X1 := Lib.hid (X0.out.keep (below_of_drew hw1)); clear hw1; have ka0 : w1.cell? ⟨w.heap.size, 0, none⟩ = some (.int .i64 op) := X1.out.b0.cell (c := 0) rfl; have ka1 : w1.cell? ⟨w.heap.size, 1, none⟩ = some (.int .i64 fm) := X1.out.b0.cell (c := 1) rfl; have ka2 : w1.cell? ⟨w.heap.size, 2, none⟩ = some (.int .i64 r1) := X1.out.b0.cell (c := 2) rfl; have ka3 : w1.cell? ⟨w.heap.size, 3, none⟩ = some (.int .i64 r2) := X1.out.b0.cell (c := 3) rfl; have ka4 : w1.cell? ⟨w.heap.size, 4, none⟩ = some (.int .i64 x2) := X1.out.b0.cell (c := 4) rfl; have ka5 : w1.cell? ⟨w.heap.size, 5, none⟩ = some (.int .i64 b1) := X1.out.b0.cell (c := 5) rfl; have ka6 : w1.cell? ⟨w.heap.size, 6, none⟩ = some (.int .i64 d1) := X1.out.b0.cell (c := 6) rfl; have ka7 : w1.cell? ⟨w.heap.size, 7, none⟩ = some (.int .i64 b2) := X1.out.b0.cell (c := 7) rfl; have ka8 : w1.cell? ⟨w.heap.size, 8, none⟩ = some (.int .i64 d2) := X1.out.b0.cell (c := 8) rfl; have ka9 : w1.cell? ⟨w.heap.size, 9, none⟩ = some (.int .i64 l1) := X1.out.b0.cell (c := 9) rfl; have ka10 : w1.cell? ⟨w.heap.size, 10, none⟩ = some (.int .i64 l2) := X1.out.b0.cell (c := 10) rfl; have ka11 : w1.cell? ⟨w.heap.size, 11, none⟩ = some (.int .i64 i2) := X1.out.b0.cell (c := 11) rfl)
    | (go_at_call 28; refine (CC.out _).mono ?_; rintro e w2 ⟨rfl, hb⟩; have X2 := Lib.hid (X1.out.keep hb); clear hb; have kb0 : w2.cell? ⟨w.heap.size + 1 + 1, 0, none⟩ = some (.int .i64 pm) := X2.out.b2.cell (c := 0) rfl; have kb1 : w2.cell? ⟨w.heap.size + 1 + 1, 1, none⟩ = some (.int .i64 pk) := X2.out.b2.cell (c := 1) rfl; have kb2 : w2.cell? ⟨w.heap.size + 1 + 1, 2, none⟩ = some (.bool pM) := X2.out.b2.cell (c := 2) rfl; have kb3 : w2.cell? ⟨w.heap.size + 1 + 1, 3, none⟩ = some (.bool pW) := X2.out.b2.cell (c := 3) rfl; have kb4 : w2.cell? ⟨w.heap.size + 1 + 1, 4, none⟩ = some (.bool pP) := X2.out.b2.cell (c := 4) rfl; have kb5 : w2.cell? ⟨w.heap.size + 1 + 1, 5, none⟩ = some (.int .i64 pc) := X2.out.b2.cell (c := 5) rfl; have kb6 : w2.cell? ⟨w.heap.size + 1 + 1, 6, none⟩ = some (.int .i64 pi) := X2.out.b2.cell (c := 6) rfl; have kb7 : w2.cell? ⟨w.heap.size + 1 + 1, 7, none⟩ = some (.int .i64 pq) := X2.out.b2.cell (c := 7) rfl; have kb8 : w2.cell? ⟨w.heap.size + 1 + 1, 8, none⟩ = some (.int .i64 pg) := X2.out.b2.cell (c := 8) rfl; have kb9 : w2.cell? ⟨w.heap.size + 1 + 1, 9, none⟩ = some (.int .i64 pa) := X2.out.b2.cell (c := 9) rfl)
    | (go_at_call 29; refine (VC.out _).mono ?_; rintro e W ⟨rfl, hb⟩; have X3 := Lib.hid (X2.out.keep hb); clear hb))
  clear X0 X1 X2 hb0 ka0 ka1 ka2 ka3 ka4 ka5 ka6 ka7 ka8 ka9 ka10 ka11 kb0 kb1 kb2 kb3 kb4 kb5 kb6 kb7 kb8 kb9
  have ka0 : W.cell? ⟨w.heap.size, 0, none⟩ = some (.int .i64 op) := X3.out.b0.cell (c := 0) rfl
  have ka1 : W.cell? ⟨w.heap.size, 1, none⟩ = some (.int .i64 fm) := X3.out.b0.cell (c := 1) rfl
  have ka2 : W.cell? ⟨w.heap.size, 2, none⟩ = some (.int .i64 r1) := X3.out.b0.cell (c := 2) rfl
  have ka3 : W.cell? ⟨w.heap.size, 3, none⟩ = some (.int .i64 r2) := X3.out.b0.cell (c := 3) rfl
  have ka4 : W.cell? ⟨w.heap.size, 4, none⟩ = some (.int .i64 x2) := X3.out.b0.cell (c := 4) rfl
  have ka5 : W.cell? ⟨w.heap.size, 5, none⟩ = some (.int .i64 b1) := X3.out.b0.cell (c := 5) rfl
  have ka6 : W.cell? ⟨w.heap.size, 6, none⟩ = some (.int .i64 d1) := X3.out.b0.cell (c := 6) rfl
  have ka7 : W.cell? ⟨w.heap.size, 7, none⟩ = some (.int .i64 b2) := X3.out.b0.cell (c := 7) rfl
  have ka8 : W.cell? ⟨w.heap.size, 8, none⟩ = some (.int .i64 d2) := X3.out.b0.cell (c := 8) rfl
  have ka9 : W.cell? ⟨w.heap.size, 9, none⟩ = some (.int .i64 l1) := X3.out.b0.cell (c := 9) rfl
  have ka10 : W.cell? ⟨w.heap.size, 10, none⟩ = some (.int .i64 l2) := X3.out.b0.cell (c := 10) rfl
  have ka11 : W.cell? ⟨w.heap.size, 11, none⟩ = some (.int .i64 i2) := X3.out.b0.cell (c := 11) rfl
  have kc0 : W.cell? ⟨w.heap.size + 1, 0, none⟩ = some (.int .u32 a0) := X3.out.b1.cell (c := 0) rfl
  have kc1 : W.cell? ⟨w.heap.size + 1, 1, none⟩ = some (.int .u32 a1) := X3.out.b1.cell (c := 1) rfl
  have kc2 : W.cell? ⟨w.heap.size + 1, 2, none⟩ = some (.int .u32 a2) := X3.out.b1.cell (c := 2) rfl
  have kc3 : W.cell? ⟨w.heap.size + 1, 3, none⟩ = some (.int .u32 a3) := X3.out.b1.cell (c := 3) rfl
  have kc4 : W.cell? ⟨w.heap.size + 1, 4, none⟩ = some (.int .u32 a4) := X3.out.b1.cell (c := 4) rfl
  have kc5 : W.cell? ⟨w.heap.size + 1, 5, none⟩ = some (.int .u32 a5) := X3.out.b1.cell (c := 5) rfl
  have kc6 : W.cell? ⟨w.heap.size + 1, 6, none⟩ = some (.int .u32 a6) := X3.out.b1.cell (c := 6) rfl
  have kc7 : W.cell? ⟨w.heap.size + 1, 7, none⟩ = some (.int .u32 a7) := X3.out.b1.cell (c := 7) rfl
  have kc8 : W.cell? ⟨w.heap.size + 1, 8, none⟩ = some (.int .u32 a8) := X3.out.b1.cell (c := 8) rfl
  have kc9 : W.cell? ⟨w.heap.size + 1, 9, none⟩ = some (.int .u32 a9) := X3.out.b1.cell (c := 9) rfl
  have kc10 : W.cell? ⟨w.heap.size + 1, 10, none⟩ = some (.int .u32 a10) := X3.out.b1.cell (c := 10) rfl
  have kc11 : W.cell? ⟨w.heap.size + 1, 11, none⟩ = some (.int .u32 a11) := X3.out.b1.cell (c := 11) rfl
  have kc12 : W.cell? ⟨w.heap.size + 1, 12, none⟩ = some (.int .u32 a12) := X3.out.b1.cell (c := 12) rfl
  have kc13 : W.cell? ⟨w.heap.size + 1, 13, none⟩ = some (.int .u32 a13) := X3.out.b1.cell (c := 13) rfl
  have kc14 : W.cell? ⟨w.heap.size + 1, 14, none⟩ = some (.int .u32 a14) := X3.out.b1.cell (c := 14) rfl
  have kc15 : W.cell? ⟨w.heap.size + 1, 15, none⟩ = some (.int .u32 a15) := X3.out.b1.cell (c := 15) rfl
  have kb0 : W.cell? ⟨w.heap.size + 1 + 1, 0, none⟩ = some (.int .i64 pm) := X3.out.b2.cell (c := 0) rfl
  have kb1 : W.cell? ⟨w.heap.size + 1 + 1, 1, none⟩ = some (.int .i64 pk) := X3.out.b2.cell (c := 1) rfl
  have kb2 : W.cell? ⟨w.heap.size + 1 + 1, 2, none⟩ = some (.bool pM) := X3.out.b2.cell (c := 2) rfl
  have kb3 : W.cell? ⟨w.heap.size + 1 + 1, 3, none⟩ = some (.bool pW) := X3.out.b2.cell (c := 3) rfl
  have kb4 : W.cell? ⟨w.heap.size + 1 + 1, 4, none⟩ = some (.bool pP) := X3.out.b2.cell (c := 4) rfl
  have kb5 : W.cell? ⟨w.heap.size + 1 + 1, 5, none⟩ = some (.int .i64 pc) := X3.out.b2.cell (c := 5) rfl
  have kb6 : W.cell? ⟨w.heap.size + 1 + 1, 6, none⟩ = some (.int .i64 pi) := X3.out.b2.cell (c := 6) rfl
  have kb7 : W.cell? ⟨w.heap.size + 1 + 1, 7, none⟩ = some (.int .i64 pq) := X3.out.b2.cell (c := 7) rfl
  have kb8 : W.cell? ⟨w.heap.size + 1 + 1, 8, none⟩ = some (.int .i64 pg) := X3.out.b2.cell (c := 8) rfl
  have kb9 : W.cell? ⟨w.heap.size + 1 + 1, 9, none⟩ = some (.int .i64 pa) := X3.out.b2.cell (c := 9) rfl
  go_upto_region 5 with fail
  clear ka0 ka1 ka2 ka3 ka4 ka5 ka6 ka7 ka8 ka9 ka10 ka11 kc0 kc1 kc2 kc3 kc4 kc5 kc6 kc7 kc8 kc9 kc10 kc11 kc12 kc13 kc14 kc15 kb0 kb1 kb2 kb3 kb4 kb5 kb6 kb7 kb8 kb9
  have M4 : Hid (Mc (W.alloc (.cells #[.int .i64 op, .int .i64 fm, .int .i64 r1, .int .i64 r2, .int .i64 x2, .int .i64 b1, .int .i64 d1, .int .i64 b2, .int .i64 d2, .int .i64 l1, .int .i64 l2, .int .i64 i2, .int .u32 a0, .int .u32 a1, .int .u32 a2, .int .u32 a3, .int .u32 a4, .int .u32 a5, .int .u32 a6, .int .u32 a7, .int .u32 a8, .int .u32 a9, .int .u32 a10, .int .u32 a11, .int .u32 a12, .int .u32 a13, .int .u32 a14, .int .u32 a15, .int .u32 a0, .int .u32 a1, .int .u32 a2, .int .u32 a3, .int .u32 a4, .int .u32 a5, .int .u32 a6, .int .u32 a7, .int .u32 a8, .int .u32 a9, .int .u32 a10, .int .u32 a11, .int .u32 a12, .int .u32 a13, .int .u32 a14, .int .u32 a15, .int .i64 pm, .int .i64 pk, .bool pM, .bool pW, .bool pP, .int .i64 pc, .int .i64 pi, .int .i64 pq, .int .i64 pg, .int .i64 pa, .pointer (some ⟨sg, 0, none⟩), .bool false] 69)) W.heap.size [op, fm, r1, r2, x2, b1, d1, b2, d2, l1, l2, i2] [a0, a1, a2, a3, a4, a5, a6, a7, a8, a9, a10, a11, a12, a13, a14, a15] [a0, a1, a2, a3, a4, a5, a6, a7, a8, a9, a10, a11, a12, a13, a14, a15] [.int .i64 pm, .int .i64 pk, .bool pM, .bool pW, .bool pP, .int .i64 pc, .int .i64 pi, .int .i64 pq, .int .i64 pg, .int .i64 pa] (.pointer (some ⟨sg, 0, none⟩)) false) := mc_new W [op, fm, r1, r2, x2, b1, d1, b2, d2, l1, l2, i2] [a0, a1, a2, a3, a4, a5, a6, a7, a8, a9, a10, a11, a12, a13, a14, a15] [a0, a1, a2, a3, a4, a5, a6, a7, a8, a9, a10, a11, a12, a13, a14, a15] [.int .i64 pm, .int .i64 pk, .bool pM, .bool pW, .bool pP, .int .i64 pc, .int .i64 pi, .int .i64 pq, .int .i64 pg, .int .i64 pa] (.pointer (some ⟨sg, 0, none⟩)) false rfl rfl rfl rfl
  have X4 := Lib.hid (X3.out.keep ((Below.refl W.heap.size W).alloc (Nat.le_refl _) (.cells #[.int .i64 op, .int .i64 fm, .int .i64 r1, .int .i64 r2, .int .i64 x2, .int .i64 b1, .int .i64 d1, .int .i64 b2, .int .i64 d2, .int .i64 l1, .int .i64 l2, .int .i64 i2, .int .u32 a0, .int .u32 a1, .int .u32 a2, .int .u32 a3, .int .u32 a4, .int .u32 a5, .int .u32 a6, .int .u32 a7, .int .u32 a8, .int .u32 a9, .int .u32 a10, .int .u32 a11, .int .u32 a12, .int .u32 a13, .int .u32 a14, .int .u32 a15, .int .u32 a0, .int .u32 a1, .int .u32 a2, .int .u32 a3, .int .u32 a4, .int .u32 a5, .int .u32 a6, .int .u32 a7, .int .u32 a8, .int .u32 a9, .int .u32 a10, .int .u32 a11, .int .u32 a12, .int .u32 a13, .int .u32 a14, .int .u32 a15, .int .i64 pm, .int .i64 pk, .bool pM, .bool pW, .bool pP, .int .i64 pc, .int .i64 pi, .int .i64 pq, .int .i64 pg, .int .i64 pa, .pointer (some ⟨sg, 0, none⟩), .bool false] 69)))
  have hgm : w.heap.size + 6 ≤ W.heap.size := by have := X3.out.b5.lt; omega
  obtain ⟨W4, hW4⟩ : ∃ W4, W.alloc (.cells #[.int .i64 op, .int .i64 fm, .int .i64 r1, .int .i64 r2, .int .i64 x2, .int .i64 b1, .int .i64 d1, .int .i64 b2, .int .i64 d2, .int .i64 l1, .int .i64 l2, .int .i64 i2, .int .u32 a0, .int .u32 a1, .int .u32 a2, .int .u32 a3, .int .u32 a4, .int .u32 a5, .int .u32 a6, .int .u32 a7, .int .u32 a8, .int .u32 a9, .int .u32 a10, .int .u32 a11, .int .u32 a12, .int .u32 a13, .int .u32 a14, .int .u32 a15, .int .u32 a0, .int .u32 a1, .int .u32 a2, .int .u32 a3, .int .u32 a4, .int .u32 a5, .int .u32 a6, .int .u32 a7, .int .u32 a8, .int .u32 a9, .int .u32 a10, .int .u32 a11, .int .u32 a12, .int .u32 a13, .int .u32 a14, .int .u32 a15, .int .i64 pm, .int .i64 pk, .bool pM, .bool pW, .bool pP, .int .i64 pc, .int .i64 pi, .int .i64 pq, .int .i64 pg, .int .i64 pa, .pointer (some ⟨sg, 0, none⟩), .bool false] 69) = W4 := ⟨_, rfl⟩
  rw [hW4] at M4 X4
  try rw [hW4]
  obtain ⟨gm, hg⟩ : ∃ gm, W.heap.size = gm := ⟨_, rfl⟩
  rw [hg] at M4 hgm
  simp only [hg]
  have B4 := Lib.hid (X4.out.be.below (Nat.le_refl _) (by simp))
  clear hW4 hg X3
  go_upto_region 6 with (go_at_call 31; refine (HX.out gm W4 (by omega) B4.out M4.out).mono ?_; rintro e W5 ⟨rfl, hM, hC, hr⟩; have M5 := Lib.hid hM; have X5 := Lib.hid (X4.out.ch hC HLL.out hgm); have R5 := Lib.hid hr; clear hM hC hr)
  have cv := M5.out.cv
  have hgm' : gm ≠ w.heap.size + 1 + 1 + 1 ∧ gm ≠ w.heap.size + 1 + 1 + 1 + 1 ∧ gm ≠ w.heap.size + 1 + 1 + 1 + 1 + 1 := by omega
  obtain ⟨hq1, hq2, hq3⟩ := hgm'
  go_upto_region 8 with fail
  clear cv
  have mr0 : W5.cell? ⟨gm, 28, none⟩ = some (.int .u32 n0) := M5.out.cr (n := 0) (by omega)
  have mr1 : W5.cell? ⟨gm, 29, none⟩ = some (.int .u32 n1) := M5.out.cr (n := 1) (by omega)
  have mr2 : W5.cell? ⟨gm, 30, none⟩ = some (.int .u32 n2) := M5.out.cr (n := 2) (by omega)
  have mr3 : W5.cell? ⟨gm, 31, none⟩ = some (.int .u32 n3) := M5.out.cr (n := 3) (by omega)
  have mr4 : W5.cell? ⟨gm, 32, none⟩ = some (.int .u32 n4) := M5.out.cr (n := 4) (by omega)
  have mr5 : W5.cell? ⟨gm, 33, none⟩ = some (.int .u32 n5) := M5.out.cr (n := 5) (by omega)
  have mr6 : W5.cell? ⟨gm, 34, none⟩ = some (.int .u32 n6) := M5.out.cr (n := 6) (by omega)
  have mr7 : W5.cell? ⟨gm, 35, none⟩ = some (.int .u32 n7) := M5.out.cr (n := 7) (by omega)
  have mr8 : W5.cell? ⟨gm, 36, none⟩ = some (.int .u32 n8) := M5.out.cr (n := 8) (by omega)
  have mr9 : W5.cell? ⟨gm, 37, none⟩ = some (.int .u32 n9) := M5.out.cr (n := 9) (by omega)
  have mr10 : W5.cell? ⟨gm, 38, none⟩ = some (.int .u32 n10) := M5.out.cr (n := 10) (by omega)
  have mr11 : W5.cell? ⟨gm, 39, none⟩ = some (.int .u32 n11) := M5.out.cr (n := 11) (by omega)
  have mr12 : W5.cell? ⟨gm, 40, none⟩ = some (.int .u32 n12) := M5.out.cr (n := 12) (by omega)
  have mr13 : W5.cell? ⟨gm, 41, none⟩ = some (.int .u32 n13) := M5.out.cr (n := 13) (by omega)
  have mr14 : W5.cell? ⟨gm, 42, none⟩ = some (.int .u32 n14) := M5.out.cr (n := 14) (by omega)
  have mr15 : W5.cell? ⟨gm, 43, none⟩ = some (.int .u32 n15) := M5.out.cr (n := 15) (by omega)
  have mp0 : W5.cell? ⟨gm, 44, none⟩ = some (.int .i64 vm) := M5.out.cp (n := 0) (by omega)
  have mp1 : W5.cell? ⟨gm, 45, none⟩ = some (.int .i64 vk) := M5.out.cp (n := 1) (by omega)
  have mp2 : W5.cell? ⟨gm, 46, none⟩ = some (.bool vM) := M5.out.cp (n := 2) (by omega)
  have mp3 : W5.cell? ⟨gm, 47, none⟩ = some (.bool vW) := M5.out.cp (n := 3) (by omega)
  have mp4 : W5.cell? ⟨gm, 48, none⟩ = some (.bool vP) := M5.out.cp (n := 4) (by omega)
  have mp5 : W5.cell? ⟨gm, 49, none⟩ = some (.int .i64 vc) := M5.out.cp (n := 5) (by omega)
  have mp6 : W5.cell? ⟨gm, 50, none⟩ = some (.int .i64 vi) := M5.out.cp (n := 6) (by omega)
  have mp7 : W5.cell? ⟨gm, 51, none⟩ = some (.int .i64 vq) := M5.out.cp (n := 7) (by omega)
  have mp8 : W5.cell? ⟨gm, 52, none⟩ = some (.int .i64 vg) := M5.out.cp (n := 8) (by omega)
  have mp9 : W5.cell? ⟨gm, 53, none⟩ = some (.int .i64 va) := M5.out.cp (n := 9) (by omega)
  have xa0 : W5.cell? ⟨w.heap.size + 1 + 1 + 1, 0, none⟩ = some (.int .u32 0) := X5.out.b3.cell (c := 0) rfl
  have xaf0 := X5.out.b3.free 0
  have xa1 : W5.cell? ⟨w.heap.size + 1 + 1 + 1, 1, none⟩ = some (.int .u32 0) := X5.out.b3.cell (c := 1) rfl
  have xaf1 := X5.out.b3.free 1
  have xa2 : W5.cell? ⟨w.heap.size + 1 + 1 + 1, 2, none⟩ = some (.int .u32 0) := X5.out.b3.cell (c := 2) rfl
  have xaf2 := X5.out.b3.free 2
  have xa3 : W5.cell? ⟨w.heap.size + 1 + 1 + 1, 3, none⟩ = some (.int .u32 0) := X5.out.b3.cell (c := 3) rfl
  have xaf3 := X5.out.b3.free 3
  have xa4 : W5.cell? ⟨w.heap.size + 1 + 1 + 1, 4, none⟩ = some (.int .u32 0) := X5.out.b3.cell (c := 4) rfl
  have xaf4 := X5.out.b3.free 4
  have xa5 : W5.cell? ⟨w.heap.size + 1 + 1 + 1, 5, none⟩ = some (.int .u32 0) := X5.out.b3.cell (c := 5) rfl
  have xaf5 := X5.out.b3.free 5
  have xa6 : W5.cell? ⟨w.heap.size + 1 + 1 + 1, 6, none⟩ = some (.int .u32 0) := X5.out.b3.cell (c := 6) rfl
  have xaf6 := X5.out.b3.free 6
  have xa7 : W5.cell? ⟨w.heap.size + 1 + 1 + 1, 7, none⟩ = some (.int .u32 0) := X5.out.b3.cell (c := 7) rfl
  have xaf7 := X5.out.b3.free 7
  have xa8 : W5.cell? ⟨w.heap.size + 1 + 1 + 1, 8, none⟩ = some (.int .u32 0) := X5.out.b3.cell (c := 8) rfl
  have xaf8 := X5.out.b3.free 8
  have xa9 : W5.cell? ⟨w.heap.size + 1 + 1 + 1, 9, none⟩ = some (.int .u32 0) := X5.out.b3.cell (c := 9) rfl
  have xaf9 := X5.out.b3.free 9
  have xa10 : W5.cell? ⟨w.heap.size + 1 + 1 + 1, 10, none⟩ = some (.int .u32 0) := X5.out.b3.cell (c := 10) rfl
  have xaf10 := X5.out.b3.free 10
  have xa11 : W5.cell? ⟨w.heap.size + 1 + 1 + 1, 11, none⟩ = some (.int .u32 0) := X5.out.b3.cell (c := 11) rfl
  have xaf11 := X5.out.b3.free 11
  have xa12 : W5.cell? ⟨w.heap.size + 1 + 1 + 1, 12, none⟩ = some (.int .u32 0) := X5.out.b3.cell (c := 12) rfl
  have xaf12 := X5.out.b3.free 12
  have xa13 : W5.cell? ⟨w.heap.size + 1 + 1 + 1, 13, none⟩ = some (.int .u32 0) := X5.out.b3.cell (c := 13) rfl
  have xaf13 := X5.out.b3.free 13
  have xa14 : W5.cell? ⟨w.heap.size + 1 + 1 + 1, 14, none⟩ = some (.int .u32 0) := X5.out.b3.cell (c := 14) rfl
  have xaf14 := X5.out.b3.free 14
  have xa15 : W5.cell? ⟨w.heap.size + 1 + 1 + 1, 15, none⟩ = some (.int .u32 0) := X5.out.b3.cell (c := 15) rfl
  have xaf15 := X5.out.b3.free 15
  have ya0 : W5.cell? ⟨w.heap.size + 1 + 1 + 1 + 1, 0, none⟩ = some (.int .i64 0) := X5.out.b4.cell (c := 0) rfl
  have yaf0 := X5.out.b4.free 0
  have ya1 : W5.cell? ⟨w.heap.size + 1 + 1 + 1 + 1, 1, none⟩ = some (.int .i64 0) := X5.out.b4.cell (c := 1) rfl
  have yaf1 := X5.out.b4.free 1
  have ya2 : W5.cell? ⟨w.heap.size + 1 + 1 + 1 + 1, 2, none⟩ = some (.bool false) := X5.out.b4.cell (c := 2) rfl
  have yaf2 := X5.out.b4.free 2
  have ya3 : W5.cell? ⟨w.heap.size + 1 + 1 + 1 + 1, 3, none⟩ = some (.bool false) := X5.out.b4.cell (c := 3) rfl
  have yaf3 := X5.out.b4.free 3
  have ya4 : W5.cell? ⟨w.heap.size + 1 + 1 + 1 + 1, 4, none⟩ = some (.bool false) := X5.out.b4.cell (c := 4) rfl
  have yaf4 := X5.out.b4.free 4
  have ya5 : W5.cell? ⟨w.heap.size + 1 + 1 + 1 + 1, 5, none⟩ = some (.int .i64 0) := X5.out.b4.cell (c := 5) rfl
  have yaf5 := X5.out.b4.free 5
  have ya6 : W5.cell? ⟨w.heap.size + 1 + 1 + 1 + 1, 6, none⟩ = some (.int .i64 0) := X5.out.b4.cell (c := 6) rfl
  have yaf6 := X5.out.b4.free 6
  have ya7 : W5.cell? ⟨w.heap.size + 1 + 1 + 1 + 1, 7, none⟩ = some (.int .i64 0) := X5.out.b4.cell (c := 7) rfl
  have yaf7 := X5.out.b4.free 7
  have ya8 : W5.cell? ⟨w.heap.size + 1 + 1 + 1 + 1, 8, none⟩ = some (.int .i64 0) := X5.out.b4.cell (c := 8) rfl
  have yaf8 := X5.out.b4.free 8
  have ya9 : W5.cell? ⟨w.heap.size + 1 + 1 + 1 + 1, 9, none⟩ = some (.int .i64 0) := X5.out.b4.cell (c := 9) rfl
  have yaf9 := X5.out.b4.free 9
  have za0 : W5.cell? ⟨w.heap.size + 1 + 1 + 1 + 1 + 1, 0, none⟩ = some (.int .i64 0) := X5.out.b5.cell (c := 0) rfl
  have zaf0 := X5.out.b5.free 0
  go_region
  obtain ⟨W6, hW6⟩ : ∃ W6, (((((((((((((((((((((((((((W5.setCell ⟨w.heap.size + 1 + 1 + 1, 0, none⟩ (.int .u32 n0)).setCell ⟨w.heap.size + 1 + 1 + 1, 1, none⟩ (.int .u32 n1)).setCell ⟨w.heap.size + 1 + 1 + 1, 2, none⟩ (.int .u32 n2)).setCell ⟨w.heap.size + 1 + 1 + 1, 3, none⟩ (.int .u32 n3)).setCell ⟨w.heap.size + 1 + 1 + 1, 4, none⟩ (.int .u32 n4)).setCell ⟨w.heap.size + 1 + 1 + 1, 5, none⟩ (.int .u32 n5)).setCell ⟨w.heap.size + 1 + 1 + 1, 6, none⟩ (.int .u32 n6)).setCell ⟨w.heap.size + 1 + 1 + 1, 7, none⟩ (.int .u32 n7)).setCell ⟨w.heap.size + 1 + 1 + 1, 8, none⟩ (.int .u32 n8)).setCell ⟨w.heap.size + 1 + 1 + 1, 9, none⟩ (.int .u32 n9)).setCell ⟨w.heap.size + 1 + 1 + 1, 10, none⟩ (.int .u32 n10)).setCell ⟨w.heap.size + 1 + 1 + 1, 11, none⟩ (.int .u32 n11)).setCell ⟨w.heap.size + 1 + 1 + 1, 12, none⟩ (.int .u32 n12)).setCell ⟨w.heap.size + 1 + 1 + 1, 13, none⟩ (.int .u32 n13)).setCell ⟨w.heap.size + 1 + 1 + 1, 14, none⟩ (.int .u32 n14)).setCell ⟨w.heap.size + 1 + 1 + 1, 15, none⟩ (.int .u32 n15)).setCell ⟨w.heap.size + 1 + 1 + 1 + 1, 0, none⟩ ((.int .i64 vm))).setCell ⟨w.heap.size + 1 + 1 + 1 + 1, 1, none⟩ ((.int .i64 vk))).setCell ⟨w.heap.size + 1 + 1 + 1 + 1, 2, none⟩ ((.bool vM))).setCell ⟨w.heap.size + 1 + 1 + 1 + 1, 3, none⟩ ((.bool vW))).setCell ⟨w.heap.size + 1 + 1 + 1 + 1, 4, none⟩ ((.bool vP))).setCell ⟨w.heap.size + 1 + 1 + 1 + 1, 5, none⟩ ((.int .i64 vc))).setCell ⟨w.heap.size + 1 + 1 + 1 + 1, 6, none⟩ ((.int .i64 vi))).setCell ⟨w.heap.size + 1 + 1 + 1 + 1, 7, none⟩ ((.int .i64 vq))).setCell ⟨w.heap.size + 1 + 1 + 1 + 1, 8, none⟩ ((.int .i64 vg))).setCell ⟨w.heap.size + 1 + 1 + 1 + 1, 9, none⟩ ((.int .i64 va))).setCell ⟨w.heap.size + 1 + 1 + 1 + 1 + 1, 0, none⟩ (.int .i64 0)).drew = W6 := ⟨_, rfl⟩
  have X6 := Lib.hid (show XF w (((((((((((((((((((((((((((W5.setCell ⟨w.heap.size + 1 + 1 + 1, 0, none⟩ (.int .u32 n0)).setCell ⟨w.heap.size + 1 + 1 + 1, 1, none⟩ (.int .u32 n1)).setCell ⟨w.heap.size + 1 + 1 + 1, 2, none⟩ (.int .u32 n2)).setCell ⟨w.heap.size + 1 + 1 + 1, 3, none⟩ (.int .u32 n3)).setCell ⟨w.heap.size + 1 + 1 + 1, 4, none⟩ (.int .u32 n4)).setCell ⟨w.heap.size + 1 + 1 + 1, 5, none⟩ (.int .u32 n5)).setCell ⟨w.heap.size + 1 + 1 + 1, 6, none⟩ (.int .u32 n6)).setCell ⟨w.heap.size + 1 + 1 + 1, 7, none⟩ (.int .u32 n7)).setCell ⟨w.heap.size + 1 + 1 + 1, 8, none⟩ (.int .u32 n8)).setCell ⟨w.heap.size + 1 + 1 + 1, 9, none⟩ (.int .u32 n9)).setCell ⟨w.heap.size + 1 + 1 + 1, 10, none⟩ (.int .u32 n10)).setCell ⟨w.heap.size + 1 + 1 + 1, 11, none⟩ (.int .u32 n11)).setCell ⟨w.heap.size + 1 + 1 + 1, 12, none⟩ (.int .u32 n12)).setCell ⟨w.heap.size + 1 + 1 + 1, 13, none⟩ (.int .u32 n13)).setCell ⟨w.heap.size + 1 + 1 + 1, 14, none⟩ (.int .u32 n14)).setCell ⟨w.heap.size + 1 + 1 + 1, 15, none⟩ (.int .u32 n15)).setCell ⟨w.heap.size + 1 + 1 + 1 + 1, 0, none⟩ ((.int .i64 vm))).setCell ⟨w.heap.size + 1 + 1 + 1 + 1, 1, none⟩ ((.int .i64 vk))).setCell ⟨w.heap.size + 1 + 1 + 1 + 1, 2, none⟩ ((.bool vM))).setCell ⟨w.heap.size + 1 + 1 + 1 + 1, 3, none⟩ ((.bool vW))).setCell ⟨w.heap.size + 1 + 1 + 1 + 1, 4, none⟩ ((.bool vP))).setCell ⟨w.heap.size + 1 + 1 + 1 + 1, 5, none⟩ ((.int .i64 vc))).setCell ⟨w.heap.size + 1 + 1 + 1 + 1, 6, none⟩ ((.int .i64 vi))).setCell ⟨w.heap.size + 1 + 1 + 1 + 1, 7, none⟩ ((.int .i64 vq))).setCell ⟨w.heap.size + 1 + 1 + 1 + 1, 8, none⟩ ((.int .i64 vg))).setCell ⟨w.heap.size + 1 + 1 + 1 + 1, 9, none⟩ ((.int .i64 va))).setCell ⟨w.heap.size + 1 + 1 + 1 + 1 + 1, 0, none⟩ (.int .i64 0)).drew L [op, fm, r1, r2, x2, b1, d1, b2, d2, l1, l2, i2] [a0, a1, a2, a3, a4, a5, a6, a7, a8, a9, a10, a11, a12, a13, a14, a15] [.int .i64 pm, .int .i64 pk, .bool pM, .bool pW, .bool pP, .int .i64 pc, .int .i64 pi, .int .i64 pq, .int .i64 pg, .int .i64 pa] [.int .u32 n0, .int .u32 n1, .int .u32 n2, .int .u32 n3, .int .u32 n4, .int .u32 n5, .int .u32 n6, .int .u32 n7, .int .u32 n8, .int .u32 n9, .int .u32 n10, .int .u32 n11, .int .u32 n12, .int .u32 n13, .int .u32 n14, .int .u32 n15] [(.int .i64 vm), (.int .i64 vk), (.bool vM), (.bool vW), (.bool vP), (.int .i64 vc), (.int .i64 vi), (.int .i64 vq), (.int .i64 vg), (.int .i64 va)] (.int .i64 0) from (X5.out.give rfl rfl (.int .u32 n0) (.int .u32 n1) (.int .u32 n2) (.int .u32 n3) (.int .u32 n4) (.int .u32 n5) (.int .u32 n6) (.int .u32 n7) (.int .u32 n8) (.int .u32 n9) (.int .u32 n10) (.int .u32 n11) (.int .u32 n12) (.int .u32 n13) (.int .u32 n14) (.int .u32 n15) (.int .i64 vm) (.int .i64 vk) (.bool vM) (.bool vW) (.bool vP) (.int .i64 vc) (.int .i64 vi) (.int .i64 vq) (.int .i64 vg) (.int .i64 va) (.int .i64 0)).drewN 1)
  have R6 := Lib.hid (HRR.out W5 (((((((((((((((((((((((((((W5.setCell ⟨w.heap.size + 1 + 1 + 1, 0, none⟩ (.int .u32 n0)).setCell ⟨w.heap.size + 1 + 1 + 1, 1, none⟩ (.int .u32 n1)).setCell ⟨w.heap.size + 1 + 1 + 1, 2, none⟩ (.int .u32 n2)).setCell ⟨w.heap.size + 1 + 1 + 1, 3, none⟩ (.int .u32 n3)).setCell ⟨w.heap.size + 1 + 1 + 1, 4, none⟩ (.int .u32 n4)).setCell ⟨w.heap.size + 1 + 1 + 1, 5, none⟩ (.int .u32 n5)).setCell ⟨w.heap.size + 1 + 1 + 1, 6, none⟩ (.int .u32 n6)).setCell ⟨w.heap.size + 1 + 1 + 1, 7, none⟩ (.int .u32 n7)).setCell ⟨w.heap.size + 1 + 1 + 1, 8, none⟩ (.int .u32 n8)).setCell ⟨w.heap.size + 1 + 1 + 1, 9, none⟩ (.int .u32 n9)).setCell ⟨w.heap.size + 1 + 1 + 1, 10, none⟩ (.int .u32 n10)).setCell ⟨w.heap.size + 1 + 1 + 1, 11, none⟩ (.int .u32 n11)).setCell ⟨w.heap.size + 1 + 1 + 1, 12, none⟩ (.int .u32 n12)).setCell ⟨w.heap.size + 1 + 1 + 1, 13, none⟩ (.int .u32 n13)).setCell ⟨w.heap.size + 1 + 1 + 1, 14, none⟩ (.int .u32 n14)).setCell ⟨w.heap.size + 1 + 1 + 1, 15, none⟩ (.int .u32 n15)).setCell ⟨w.heap.size + 1 + 1 + 1 + 1, 0, none⟩ ((.int .i64 vm))).setCell ⟨w.heap.size + 1 + 1 + 1 + 1, 1, none⟩ ((.int .i64 vk))).setCell ⟨w.heap.size + 1 + 1 + 1 + 1, 2, none⟩ ((.bool vM))).setCell ⟨w.heap.size + 1 + 1 + 1 + 1, 3, none⟩ ((.bool vW))).setCell ⟨w.heap.size + 1 + 1 + 1 + 1, 4, none⟩ ((.bool vP))).setCell ⟨w.heap.size + 1 + 1 + 1 + 1, 5, none⟩ ((.int .i64 vc))).setCell ⟨w.heap.size + 1 + 1 + 1 + 1, 6, none⟩ ((.int .i64 vi))).setCell ⟨w.heap.size + 1 + 1 + 1 + 1, 7, none⟩ ((.int .i64 vq))).setCell ⟨w.heap.size + 1 + 1 + 1 + 1, 8, none⟩ ((.int .i64 vg))).setCell ⟨w.heap.size + 1 + 1 + 1 + 1, 9, none⟩ ((.int .i64 va))).setCell ⟨w.heap.size + 1 + 1 + 1 + 1 + 1, 0, none⟩ (.int .i64 0)).drew R5.out (dBelow' ((below_s10 (below_s16 (Below.refl _ _) (by omega) (.int .u32 n0) (.int .u32 n1) (.int .u32 n2) (.int .u32 n3) (.int .u32 n4) (.int .u32 n5) (.int .u32 n6) (.int .u32 n7) (.int .u32 n8) (.int .u32 n9) (.int .u32 n10) (.int .u32 n11) (.int .u32 n12) (.int .u32 n13) (.int .u32 n14) (.int .u32 n15)) (by omega) (.int .i64 vm) (.int .i64 vk) (.bool vM) (.bool vW) (.bool vP) (.int .i64 vc) (.int .i64 vi) (.int .i64 vq) (.int .i64 vg) (.int .i64 va)).setCell (p := ⟨_, 0, none⟩) (by first | (simp; done) | (simp; omega)) _) 1))
  rw [hW6] at X6 R6
  rw [hW6]
  clear hW6 X5 M5 R5 mr0 mr1 mr2 mr3 mr4 mr5 mr6 mr7 mr8 mr9 mr10 mr11 mr12 mr13 mr14 mr15 mp0 mp1 mp2 mp3 mp4 mp5 mp6 mp7 mp8 mp9 xa0 xaf0 xa1 xaf1 xa2 xaf2 xa3 xaf3 xa4 xaf4 xa5 xaf5 xa6 xaf6 xa7 xaf7 xa8 xaf8 xa9 xaf9 xa10 xaf10 xa11 xaf11 xa12 xaf12 xa13 xaf13 xa14 xaf14 xa15 xaf15 ya0 yaf0 ya1 yaf1 ya2 yaf2 ya3 yaf3 ya4 yaf4 ya5 yaf5 ya6 yaf6 ya7 yaf7 ya8 yaf8 ya9 yaf9 za0 zaf0
  go_wp2
  refine leaves_cons (f := 30) (args := #[.pointer (some ⟨w.heap.size + 1, 0, none⟩), .pointer (some ⟨w.heap.size + 1 + 1, 0, none⟩), .pointer (some ⟨w.heap.size + 1 + 1 + 1, 0, none⟩), .pointer (some ⟨w.heap.size + 1 + 1 + 1 + 1, 0, none⟩), .pointer (some ⟨w.heap.size + 1 + 1 + 1 + 1 + 1, 0, none⟩)]) (by simp) (by simp [go_sem]) ?_
  refine (catch_idle _ _ _ _ _ _).mono ?_
  rintro e u' w'' ⟨rfl, rfl, hw6⟩
  subst hw6
  have c5 := X6.out.b5.cell (c := 0) rfl
  exact ⟨_, res_cells3 Try.results14 _ _ _ _ _ _ _ _ rfl rfl rfl X6.out.b3 X6.out.b4 X6.out.b5 Try.underlying28 rfl (by kernel_rfl) Try.underlying30 rfl (by kernel_rfl) (by go_simp), rfl, R6.out, X6.out.be⟩
end Go.Proofs.Ythjdjbipfdigeaa

