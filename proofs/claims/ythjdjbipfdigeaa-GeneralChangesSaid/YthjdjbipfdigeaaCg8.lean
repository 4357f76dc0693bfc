/- Contracts and laws on the way to the statement, text 8 of 25. Conditions: as each states them. -/
import Derived.Test.YthjdjbipfdigeaaCg3
import Derived.Test.YthjdjbipfdigeaaCg6
import Derived.Test.YthjdjbipfdigeaaCg7
namespace Go.Proofs.Ythjdjbipfdigeaa
open Go.RowKit
set_option maxRecDepth 100000
set_option linter.unusedVariables false
set_option linter.unusedSimpArgs false
def Ro (w : World) (g c : Nat) (vs : List Int) : Prop := Rw w g 5 c (vs.map (Value.int .u8)) ∧ ∀ z ∈ vs, 0 ≤ z ∧ z ≤ 255
section
variable {w w' : World} {g c : Nat} {vs : List Int}
theorem Ro.cell (h : Ro w g c vs) {i : Nat} (hi : i < vs.length) : w.cell? ⟨g, i, none⟩ = some (.int .u8 (vs.getD i 0)) := by
  rw [h.1.cell (i := i) (by simpa using hi)]; simp [List.getD_eq_getElem?_getD, hi]
theorem Ro.free (h : Ro w g c vs) (i : Nat) : w.frozen? ⟨g, i, none⟩ = false := h.1.free i
theorem Ro.lt (h : Ro w g c vs) : g < w.heap.size := h.1.lt
theorem Ro.set_ (h : Ro w g c vs) {i : Nat} {y : Int} (hy : 0 ≤ y ∧ y ≤ 255) : Ro (w.setCell ⟨g, i, none⟩ (.int .u8 y)) g c (vs.set i y) := by
  refine ⟨by rw [List.map_set]; exact h.1.set_ _, fun z hz => ?_⟩
  rcases List.mem_or_eq_of_mem_set hz with hz | rfl
  · exact h.2 z hz
  · exact hy
theorem Ro.keep (h : Ro w g c vs) (hk : w'.heap[g]? = w.heap[g]?) : Ro w' g c vs := ⟨h.1.keep hk, h.2⟩
theorem Ro.other (h : Ro w g c vs) {p : Addr} (v : Value) (hp : p.block ≠ g) : Ro (w.setCell p v) g c vs := h.keep (Below.heap_setCell w p v g (Ne.symm hp))
theorem Ro.belowS (h : Ro w g c vs) (hb : Below w.heap.size w w') : Ro w' g c vs := ⟨h.1.keep (hb.block _ h.lt), h.2⟩
theorem Ro.drewN (h : Ro w g c vs) (n : Nat) : Ro (w.drewN n) g c vs := h
theorem Ro.byt (h : Ro w g c vs) (n : Nat) (hn : vs.length = n) : Byt w (some ⟨g, 0, none⟩) n vs := by
  subst hn
  exact ⟨rfl, h.2, fun _ => ⟨g, 0, rfl, fun i hi => by rw [Nat.zero_add]; exact h.cell hi⟩⟩
theorem Own.ro {base n : Nat} (h : Own w base (.slice (some ⟨g, 0, none⟩) n c) n vs) : Ro w g c vs := by
  obtain ⟨cur, q1, q2, q3, q4, q5, q6⟩ := Own.heap h
  exact ⟨⟨cur, q1, q2, by rw [List.length_map, h.len]; exact q3, q6⟩, h.2⟩
theorem Ro.rangeD (h : Ro w g c vs) (k : Nat) : 0 ≤ vs.getD k 0 ∧ vs.getD k 0 ≤ 255 := by
  rw [List.getD_eq_getElem?_getD]
  rcases Nat.lt_or_ge k vs.length with hi | hi
  · rw [List.getElem?_eq_getElem hi]; exact h.2 _ (List.getElem_mem hi)
  · rw [List.getElem?_eq_none hi]; simp
end
/-- what combine makes, byte by byte -/
def cmb (f : Int → Int → Int) (x y : List Int) (d : Int) : Nat → List Int
  | 0 => x
  | k + 1 => (cmb f x y d k).set k (f ((cmb f x y d k).getD k 0) (if 0 < d ∧ d ≤ (k : Int) then (cmb f x y d k).getD (k - d.toNat) 0 else y.getD k 0))
def cmbS (f : Int → Int → Int) (x y : List Int) (d : Int) : Nat → Int
  | 0 => 0
  | k + 1 => if (cmb f x y d (k + 1)).getD k 0 = 0 then cmbS f x y d k else 1
theorem cmb_len (f : Int → Int → Int) (x y : List Int) (d : Int) : ∀ k, (cmb f x y d k).length = x.length
  | 0 => rfl
  | k + 1 => by simp only [cmb, List.length_set, cmb_len f x y d k]
theorem chB {w w' : World} {L : List Nat} (h : Below w.heap.size w w') : Ch w w' L := Ch.of_below h L
theorem MS.othr {w : World} {g : Nat} {F : Foot} {is os rs : List Int} {ps : List Value} {ov : Bool} {bs ks : List Int} (h : MS w g F is os rs ps ov bs ks) {p : Addr} (v : Value) (h1 : g ≠ p.block) (h2 : p.block ≠ F.g ∧ p.block ≠ F.gb ∧ p.block ≠ F.gk) : MS (w.setCell p v) g F is os rs ps ov bs ks :=
  ⟨h.m.other v (Ne.symm h1), h.st.keep (Below.heap_setCell w p v F.g (Ne.symm h2.1)) (Below.heap_setCell w p v F.gb (Ne.symm h2.2.1)) (Below.heap_setCell w p v F.gk (Ne.symm h2.2.2)), h.n0, h.n1, h.n2⟩
theorem getD_set_same (l : List Int) (k : Nat) (v : Int) (h : k < l.length) : (l.set k v).getD k 0 = v := by simp [List.getD_eq_getElem?_getD, h]
theorem getD_set_other (l : List Int) (k j : Nat) (v : Int) (h : k ≠ j) : (l.set k v).getD j 0 = l.getD j 0 := by simp [List.getD_eq_getElem?_getD, List.getElem?_set, h]
set_option maxRecDepth 1000000 in
set_option maxHeartbeats 8000000 in
theorem combine_no1 (g fn N : Nat) (f : Int → Int → Int) (lg : Bool) (F : Foot) (is os rs : List Int) (ps : List Value) (ov : Bool) (bs ks : List Int) (key a b : Int) (w : World) (h : MS w g F is os rs ps ov bs ks) (hl : is.getD 9 0 + 1 = (N : Int)) (hN : N ≤ 256) (hkey : ps.getD 1 undef = .int .i64 key) (hfir : ∀ W, MS W g F is os rs ps ov bs ks → Calls Try.prog 71 #[.pointer (some ⟨g, 0, none⟩)] W fun e w' => e = .returned (.int .i64 a) ∧ Ch W w' []) (hsec : ∀ W, MS W g F is os rs ps ov bs ks → Calls Try.prog 44 #[.pointer (some ⟨g, 0, none⟩)] W fun e w' => e = .returned (.int .i64 b) ∧ Ch W w' []) (ha0 : 0 ≤ a) (ha1 : a ≤ 16777215) (hb0 : 0 ≤ b) (hb1 : b ≤ 16777215) (c : Int) (hc : sCode (alF key) bs.length ks a N = c) (hc0 : c ≠ 0) : Calls Try.prog 74 #[.pointer (some ⟨g, 0, none⟩), .func (.func fn) #[] #[], .bool lg] w fun e w' => e = .panicked [{ v := .iface 65 (.int .i64 c), recovered := false }] ∧ MS w' g F is os rs ps ov bs ks ∧ Ch w w' [] := by
  have s9 : w.cell? ⟨g, 9, none⟩ = some (.int .i64 (is.getD 9 0)) := h.m.ci (c := 9) (by omega)
  obtain ⟨l1, hl1⟩ : ∃ l, is.getD 9 0 = l := ⟨_, rfl⟩
  rw [hl1] at hl s9
  have HM := Lib.hid (h.drewN 1)
  have HL := Lib.hid hl1
  have HK := Lib.hid hkey
  have FC := Lib.hid hfir
  have SC := Lib.hid hsec
  have D0 := Lib.hid ((Ch.refl w ([] : List Nat)).drewN 1)
  have wl : IntKind.i64.wrap (l1 + 1) = (N : Int) := by rw [wrap_i64_id (by omega) (by omega)]; exact hl
  have HC := Lib.hid hc
  have HC0 := Lib.hid hc0
  clear h hkey hfir hsec hl1 hc hc0
  go_enter Try.func74, Try.ntmps74
  go_upto_region 0 with fail
  go_region_held3 (fun w' => w'.cell? ⟨g, 9, none⟩ = some (.int .i64 l1)) (first | exact s9 | exact t9 | exact t9') ((first | (go_at_call 71; refine (FC.out _ HM.out).mono ?_; rintro e w1 ⟨rfl, hcs⟩; have M1 := Lib.hid (HM.out.ch hcs); have C1 := Lib.hid (D0.out.trans hcs); have t9 : w1.cell? ⟨g, 9, none⟩ = some (.int .i64 l1) := (by have hq := M1.out.m.ci (c := 9) (by omega); rw [HL.out] at hq; exact hq); clear hcs) | (go_at_call 44; refine (SC.out _ M1.out).mono ?_; rintro e w2 ⟨rfl, hcs⟩; have M2 := Lib.hid (M1.out.ch hcs); have C2 := Lib.hid (C1.out.trans hcs); have t9' : w2.cell? ⟨g, 9, none⟩ = some (.int .i64 l1) := (by have hq := M2.out.m.ci (c := 9) (by omega); rw [HL.out] at hq; exact hq); clear hcs)))
  try simp only [wl]
  go_wp2_with (go_at_call 68; refine (fetch_no g F is os rs ps ov bs ks a (N : Int) key _ M2.out HK.out c HC.out HC0.out).mono ?_; rintro e w4 ⟨rfl, hM, hCh⟩; have M4 := Lib.hid hM; have C4 := Lib.hid (C2.out.trans hCh); clear hM hCh)
  exact ⟨rfl, rfl, M4.out, C4.out⟩
set_option maxRecDepth 1000000 in
set_option maxHeartbeats 8000000 in
theorem combine_no2 (g fn N : Nat) (f : Int → Int → Int) (lg : Bool) (F : Foot) (is os rs : List Int) (ps : List Value) (ov : Bool) (bs ks : List Int) (key a b : Int) (w : World) (h : MS w g F is os rs ps ov bs ks) (hl : is.getD 9 0 + 1 = (N : Int)) (hN : N ≤ 256) (hkey : ps.getD 1 undef = .int .i64 key) (hfir : ∀ W, MS W g F is os rs ps ov bs ks → Calls Try.prog 71 #[.pointer (some ⟨g, 0, none⟩)] W fun e w' => e = .returned (.int .i64 a) ∧ Ch W w' []) (hsec : ∀ W, MS W g F is os rs ps ov bs ks → Calls Try.prog 44 #[.pointer (some ⟨g, 0, none⟩)] W fun e w' => e = .returned (.int .i64 b) ∧ Ch W w' []) (ha0 : 0 ≤ a) (ha1 : a ≤ 16777215) (hb0 : 0 ≤ b) (hb1 : b ≤ 16777215) (hf1 : sCode (alF key) bs.length ks a N = 0) (c : Int) (hc : sCode (alF key) bs.length ks b N = c) (hc0 : c ≠ 0) : Calls Try.prog 74 #[.pointer (some ⟨g, 0, none⟩), .func (.func fn) #[] #[], .bool lg] w fun e w' => e = .panicked [{ v := .iface 65 (.int .i64 c), recovered := false }] ∧ MS w' g F is os rs ps ov bs ks ∧ Ch w w' [] := by
  have s9 : w.cell? ⟨g, 9, none⟩ = some (.int .i64 (is.getD 9 0)) := h.m.ci (c := 9) (by omega)
  obtain ⟨l1, hl1⟩ : ∃ l, is.getD 9 0 = l := ⟨_, rfl⟩
  rw [hl1] at hl s9
  have HM := Lib.hid (h.drewN 1)
  have HL := Lib.hid hl1
  have HK := Lib.hid hkey
  have FC := Lib.hid hfir
  have SC := Lib.hid hsec
  have D0 := Lib.hid ((Ch.refl w ([] : List Nat)).drewN 1)
  have wl : IntKind.i64.wrap (l1 + 1) = (N : Int) := by rw [wrap_i64_id (by omega) (by omega)]; exact hl
  have HF1 := Lib.hid hf1
  have HC := Lib.hid hc
  have HC0 := Lib.hid hc0
  clear h hkey hfir hsec hl1 hc hc0 hf1
  go_enter Try.func74, Try.ntmps74
  go_upto_region 0 with fail
  go_region_held3 (fun w' => w'.cell? ⟨g, 9, none⟩ = some (.int .i64 l1)) (first | exact s9 | exact t9 | exact t9') ((first | (go_at_call 71; refine (FC.out _ HM.out).mono ?_; rintro e w1 ⟨rfl, hcs⟩; have M1 := Lib.hid (HM.out.ch hcs); have C1 := Lib.hid (D0.out.trans hcs); have t9 : w1.cell? ⟨g, 9, none⟩ = some (.int .i64 l1) := (by have hq := M1.out.m.ci (c := 9) (by omega); rw [HL.out] at hq; exact hq); clear hcs) | (go_at_call 44; refine (SC.out _ M1.out).mono ?_; rintro e w2 ⟨rfl, hcs⟩; have M2 := Lib.hid (M1.out.ch hcs); have C2 := Lib.hid (C1.out.trans hcs); have t9' : w2.cell? ⟨g, 9, none⟩ = some (.int .i64 l1) := (by have hq := M2.out.m.ci (c := 9) (by omega); rw [HL.out] at hq; exact hq); clear hcs)))
  try simp only [wl]
  go_wp2_with fail
  refine (fetch_m g F is os rs ps ov bs ks a (N : Int) key _ M2.out HK.out HF1.out).mono ?_
  rintro e w3 ⟨A3, m3, c3, rfl, hO, hM, hCh⟩
  have M3 := Lib.hid hM
  have C3 := Lib.hid (C2.out.trans hCh)
  clear hO hM hCh
  go_wp2_with (go_at_call 68; refine (fetch_no g F is os rs ps ov bs ks b (N : Int) key _ M3.out HK.out c HC.out HC0.out).mono ?_; rintro e w4 ⟨rfl, hM, hCh⟩; have M4 := Lib.hid hM; have C4 := Lib.hid (C3.out.trans hCh); clear hM hCh)
  exact ⟨rfl, rfl, M4.out, C4.out⟩
set_option maxRecDepth 1000000 in
set_option maxHeartbeats 8000000 in
theorem combine_m (g fn N : Nat) (f : Int → Int → Int) (lg : Bool) (F : Foot) (is os rs : List Int) (ps : List Value) (ov : Bool) (bs ks : List Int) (key a b : Int) (w : World) (h : MS w g F is os rs ps ov bs ks) (hl : is.getD 9 0 + 1 = (N : Int)) (hN : N ≤ 256) (hkey : ps.getD 1 undef = .int .i64 key) (hfir : ∀ W, MS W g F is os rs ps ov bs ks → Calls Try.prog 71 #[.pointer (some ⟨g, 0, none⟩)] W fun e w' => e = .returned (.int .i64 a) ∧ Ch W w' []) (hsec : ∀ W, MS W g F is os rs ps ov bs ks → Calls Try.prog 44 #[.pointer (some ⟨g, 0, none⟩)] W fun e w' => e = .returned (.int .i64 b) ∧ Ch W w' []) (ha0 : 0 ≤ a) (ha1 : a ≤ 16777215) (hb0 : 0 ≤ b) (hb1 : b ≤ 16777215) (hN1 : 1 ≤ N) (hf1 : sCode (alF key) bs.length ks a N = 0) (hf2 : sCode (alF key) bs.length ks b N = 0) (hcf : ∀ (args : Array Value) (W : World), Sem.run Try.prog (callFunc fn args) W = .ok (.enter fn args) W) (hfn : ∀ (x y : Int) (W : World), 0 ≤ x → x ≤ 255 → 0 ≤ y → y ≤ 255 → Calls Try.prog fn #[.int .u8 x, .int .u8 y] W fun e w' => e = .returned (.int .u8 (f x y)) ∧ W = w') (hfr : ∀ x y : Int, 0 ≤ x → x ≤ 255 → 0 ≤ y → y ≤ 255 → 0 ≤ f x y ∧ f x y ≤ 255) (c : Int) (hc : sCode (alP key) bs.length ks a N = c) : Calls Try.prog 74 #[.pointer (some ⟨g, 0, none⟩), .func (.func fn) #[] #[], .bool lg] w fun e w' => (c = 0 → e = .returned (.tuple #[]) ∧ MS w' g F is os rs (if lg = true then ps.set 7 (.int .i64 (cmbS f (sGet bs a N) (sGet bs b N) (a - b) N)) else ps) ov (sPut (alP key) bs ks a (cmb f (sGet bs a N) (sGet bs b N) (a - b) N)) ks) ∧ (c ≠ 0 → e = .panicked [{ v := .iface 65 (.int .i64 c), recovered := false }] ∧ MS w' g F is os rs ps ov bs ks) ∧ Ch w w' [g, F.gb] := by
  have s9 : w.cell? ⟨g, 9, none⟩ = some (.int .i64 (is.getD 9 0)) := h.m.ci (c := 9) (by omega)
  obtain ⟨l1, hl1⟩ : ∃ l, is.getD 9 0 = l := ⟨_, rfl⟩
  rw [hl1] at hl s9
  have HM := Lib.hid (h.drewN 1)
  have HL := Lib.hid hl1
  have HK := Lib.hid hkey
  have FC := Lib.hid hfir
  have SC := Lib.hid hsec
  have D0 := Lib.hid ((Ch.refl w ([] : List Nat)).drewN 1)
  have wl : IntKind.i64.wrap (l1 + 1) = (N : Int) := by rw [wrap_i64_id (by omega) (by omega)]; exact hl
  have HF1 := Lib.hid hf1
  have HF2 := Lib.hid hf2
  have HFN := Lib.hid hfn
  have HFR := Lib.hid hfr
  have HC := Lib.hid hc
  have lx := sGet_leng hf1
  have ly := sGet_leng hf2
  obtain ⟨xs, hxs⟩ : ∃ x, sGet bs a N = x := ⟨_, rfl⟩
  obtain ⟨ys, hys⟩ : ∃ y, sGet bs b N = y := ⟨_, rfl⟩
  rw [hxs] at lx ⊢
  rw [hys] at ly ⊢
  have HXS := Lib.hid hxs
  have HYS := Lib.hid hys
  obtain ⟨d, hd⟩ : ∃ d, a - b = d := ⟨_, rfl⟩
  rw [hd]
  have wd : IntKind.i64.wrap (a - b) = d := by rw [wrap_i64_id (by omega) (by omega)]; exact hd
  have d0 : -16777215 ≤ d := by omega
  have d1 : d ≤ 16777215 := by omega
  obtain ⟨R, hR⟩ : ∃ R : Ending → World → Prop, R = fun e w' => (c = 0 → e = .returned (.tuple #[]) ∧ MS w' g F is os rs (if lg = true then ps.set 7 (.int .i64 (cmbS f xs ys d N)) else ps) ov (sPut (alP key) bs ks a (cmb f xs ys d N)) ks) ∧ (c ≠ 0 → e = .panicked [{ v := .iface 65 (.int .i64 c), recovered := false }] ∧ MS w' g F is os rs ps ov bs ks) ∧ Ch w w' [g, F.gb] := ⟨_, rfl⟩
  suffices hs : Calls Try.prog 74 #[.pointer (some ⟨g, 0, none⟩), .func (.func fn) #[] #[], .bool lg] w R by rw [hR] at hs; exact hs
  have HR := Lib.hid hR
  clear h hkey hfir hsec hl1 hf1 hf2 hfn hfr hc hxs hys hd hR
  go_enter Try.func74, Try.ntmps74
  go_upto_region 0 with fail
  go_region_held3 (fun w' => w'.cell? ⟨g, 9, none⟩ = some (.int .i64 l1)) (first | exact s9 | exact t9 | exact t9') ((first | (go_at_call 71; refine (FC.out _ HM.out).mono ?_; rintro e w1 ⟨rfl, hcs⟩; have M1 := Lib.hid (HM.out.ch hcs); have C1 := Lib.hid (D0.out.trans hcs); have t9 : w1.cell? ⟨g, 9, none⟩ = some (.int .i64 l1) := (by have hq := M1.out.m.ci (c := 9) (by omega); rw [HL.out] at hq; exact hq); clear hcs) | (go_at_call 44; refine (SC.out _ M1.out).mono ?_; rintro e w2 ⟨rfl, hcs⟩; have M2 := Lib.hid (M1.out.ch hcs); have C2 := Lib.hid (C1.out.trans hcs); have t9' : w2.cell? ⟨g, 9, none⟩ = some (.int .i64 l1) := (by have hq := M2.out.m.ci (c := 9) (by omega); rw [HL.out] at hq; exact hq); clear hcs)))
  try simp only [wl]
  go_wp2_with fail
  refine (fetch_m g F is os rs ps ov bs ks a (N : Int) key _ M2.out HK.out HF1.out).mono ?_
  rintro e w3 ⟨A3, m3, c3, rfl, hO, hM, hCh⟩
  rw [HXS.out] at hO
  have M3 := Lib.hid hM
  have C3 := Lib.hid (C2.out.trans hCh)
  have hm3 : m3 = N := by have := hO.byt.1; omega
  subst hm3
  obtain ⟨gx, cx, hv, hgx, hlx, -, -⟩ := hO.pos (by omega)
  injection hv with hv1 hv2 hv3
  subst hv1 hv3
  have RX3 := Lib.hid hO.ro
  have BX := Lib.hid (And.intro hgx hlx)
  clear hO hM hCh hgx hlx
  go_wp2_with fail
  refine (fetch_m g F is os rs ps ov bs ks b (m3 : Int) key _ M3.out HK.out HF2.out).mono ?_
  rintro e w4 ⟨A4, m4, c4, rfl, hO, hM, hCh⟩
  rw [HYS.out] at hO
  have M4 := Lib.hid hM
  have C4 := Lib.hid (C3.out.trans hCh)
  have hm4 : m4 = m3 := by have := hO.byt.1; omega
  subst hm4
  obtain ⟨gy, cy, hv, hgy, hly, -, -⟩ := hO.pos (by omega)
  injection hv with hv1 hv2 hv3
  subst hv1 hv3
  have RY4 := Lib.hid hO.ro
  have RX4 := Lib.hid (RX3.out.belowS (hCh.below (Nat.le_refl _) (by simp)))
  have hgm : g ≠ gx ∧ g ≠ gy ∧ gx ≠ gy ∧ w.heap.size ≤ gx ∧ w.heap.size ≤ gy := by
    have h1 := M2.out.m.lt
    have h2 := M3.out.m.lt
    have h3 := BX.out
    have h4 := C2.out.size
    have h5 := C3.out.size
    omega
  obtain ⟨hg1, hg2, hg3, hg4, hg5⟩ := hgm
  have HGX : Hid (gx ≠ F.g ∧ gx ≠ F.gb ∧ gx ≠ F.gk) := Lib.hid (by have := M2.out.st.ltg; have := M2.out.st.ltb; have := M2.out.st.ltk; have := BX.out; omega)
  have HGY : Hid (gy ≠ F.g ∧ gy ≠ F.gb ∧ gy ≠ F.gk) := Lib.hid (by have := M3.out.st.ltg; have := M3.out.st.ltb; have := M3.out.st.ltk; omega)
  have G1 := Lib.hid hg1
  have G2 := Lib.hid hg2
  have G3 := Lib.hid hg3
  clear hO hM hCh hgy hly hg1 hg2 hg3 RX3 BX M1 M2 M3 C1 C2 C3 HM D0 t9 t9' s9
  go_upto_region 4 with fail
  go_loopw [11, 34] (fun sv x W => ∃ k : Nat, k ≤ m4 ∧ x = .int .i64 (k : Int) ∧ sv = .int .i64 (cmbS f xs ys d k) ∧ MS W g F is os rs ps ov bs ks ∧ Ro W gx c3 (cmb f xs ys d k) ∧ (∃ zs, Ro W gy c4 zs ∧ zs.length = m4 ∧ ∀ i, k ≤ i → zs.getD i 0 = ys.getD i 0) ∧ Below w.heap.size w W) (fun _ x _ => m4 - (intOf x).toNat)
  case atStart => exact ⟨0, by omega, rfl, rfl, M4.out, RX4.out, ⟨ys, RY4.out, by omega, fun _ _ => rfl⟩, C4.out.below (Nat.le_refl _) (by simp)⟩
  case round =>
    obtain ⟨k, hk, rfl, rfl, hmw, hrx, ⟨zs, hry, hzl, hzy⟩, hbw⟩ := hrel
    have MW := Lib.hid hmw
    have RX := Lib.hid hrx
    have RY := Lib.hid hry
    have BW := Lib.hid hbw
    have hxl : (cmb f xs ys d k).length = m4 := by rw [cmb_len]; omega
    have HZY := Lib.hid hzy
    clear hmw hrx hry hbw hzy
    by_cases hlt : k < m4
    · have i0 : (k : Int) < (m4 : Int) := by omega
      have i1 : (0 : Int) ≤ (k : Int) := by omega
      have hgx : gx ≠ F.g ∧ gx ≠ F.gb ∧ gx ≠ F.gk := HGX.out
      have hgy : gy ≠ F.g ∧ gy ≠ F.gb ∧ gy ≠ F.gk := HGY.out
      by_cases hcd : 0 < d ∧ d ≤ (k : Int)
      · obtain ⟨j, hj⟩ : ∃ j, k - d.toNat = j := ⟨_, rfl⟩
        have e7 : d > 0 := hcd.1
        have e8 : (k : Int) ≥ d := hcd.2
        have hj2 : (k : Int) - d = (j : Int) := by omega
        have wj : IntKind.i64.wrap ((k : Int) - d) = (j : Int) := by rw [wrap_i64_id (by omega) (by omega)]; exact hj2
        have j0 : (j : Int) < (m4 : Int) := by omega
        have j1 : (0 : Int) ≤ (j : Int) := by omega
        obtain ⟨v, hv⟩ : ∃ v, (cmb f xs ys d k).getD j 0 = v := ⟨_, rfl⟩
        have v01 := RX.out.rangeD j
        rw [hv] at v01
        have cxj := RX.out.cell (i := j) (by omega)
        rw [hv] at cxj
        have cyk0 := RY.out.cell (i := k) (by omega)
        have fyk := RY.out.free k
        obtain ⟨v0, v1⟩ := v01
        obtain ⟨x, hx⟩ : ∃ x, (cmb f xs ys d k).getD k 0 = x := ⟨_, rfl⟩
        have x01 := RX.out.rangeD k
        rw [hx] at x01
        obtain ⟨x0, x1⟩ := x01
        obtain ⟨r, hr⟩ : ∃ r, f x v = r := ⟨_, rfl⟩
        have CE := Lib.hid (show cmb f xs ys d (k + 1) = (cmb f xs ys d k).set k r from by simp only [cmb]; rw [if_pos hcd, hx, hj, hv, hr])
        have R01 := Lib.hid (show 0 ≤ r ∧ r ≤ 255 from by rw [← hr]; exact HFR.out x v x0 x1 v0 v1)
        have CG0 : (cmb f xs ys d (k + 1)).getD k 0 = r := by rw [CE.out, getD_set_same _ _ _ (by omega)]
        have CG := Lib.hid CG0
        have CS0 := Lib.hid (show r = 0 → cmbS f xs ys d (k + 1) = cmbS f xs ys d k from fun h0 => by simp only [cmbS]; rw [if_pos (by rw [CG0]; exact h0)])
        have CS1 := Lib.hid (show r ≠ 0 → cmbS f xs ys d (k + 1) = 1 from fun h0 => by simp only [cmbS]; rw [if_neg (by rw [CG0]; exact h0)])
        have cxk0 := RX.out.cell (i := k) (by omega)
        rw [hx] at cxk0
        clear CG0
        have HX0 := Lib.hid hx
        clear hv hx hj hj2 hcd
        go_upto_region 9 with fail
        have M5 := Lib.hid (MW.out.othr (p := ⟨gy, k, none⟩) (.int .u8 v) G2.out hgy)
        have RX5 := Lib.hid (RX.out.other (p := ⟨gy, k, none⟩) (.int .u8 v) (Ne.symm G3.out))
        have RY5 := Lib.hid (RY.out.set_ (i := k) ⟨v0, v1⟩)
        have B5 := Lib.hid (BW.out.setCell (p := ⟨gy, k, none⟩) hg5 (.int .u8 v))
        obtain ⟨W5, hW5⟩ : ∃ W5, wr.setCell ⟨gy, k, none⟩ (.int .u8 v) = W5 := ⟨_, rfl⟩
        rw [hW5] at M5 RX5 RY5 B5
        try rw [hW5]
        clear hW5 cxj cyk0 fyk cxk0 MW RX RY BW e7 e8 wj
        have cyk := RY5.out.cell (i := k) (by rw [List.length_set]; omega)
        rw [getD_set_same _ _ _ (by omega)] at cyk
        have cxk := RX5.out.cell (i := k) (by omega)
        have fxk := RX5.out.free k
        rw [HX0.out] at cxk
        refine wp_region_held_drew (S := fun _ => True) (by kernel_rfl) trivial (fun _ => ?_)
        refine' takeL (i := 0) (v := _) rfl (by kernel_rfl) (by kernel_rfl) (by kernel_rfl) (fun _ _ _ h => h) (Or.inl ⟨by rfl, ?yy1⟩) (by assumption) ?rr1
        case yy1 => intro w hSw; (try dsimp only at hSw); go_simp; (try with_reducible rfl)
        try simp only [Act.put, List.setIfInBounds_toArray, List.set_cons_zero, List.set_cons_succ]
        refine' takeL (i := 1) (v := _) rfl (by kernel_rfl) (by kernel_rfl) (by kernel_rfl) (fun _ _ _ h => h) (Or.inl ⟨by rfl, ?yy2⟩) (by assumption) ?rr2
        case yy2 => intro w hSw; (try dsimp only at hSw); go_simp; (try with_reducible rfl)
        try simp only [Act.put, List.setIfInBounds_toArray, List.set_cons_zero, List.set_cons_succ]
        refine' takeL (i := 2) (v := _) rfl (by kernel_rfl) (by kernel_rfl) (by kernel_rfl) (fun _ _ _ h => h) (Or.inl ⟨by rfl, ?yy3⟩) (by assumption) ?rr3
        case yy3 => intro w hSw; (try dsimp only at hSw); go_simp; (try with_reducible rfl)
        try simp only [Act.put, List.setIfInBounds_toArray, List.set_cons_zero, List.set_cons_succ]
        refine' takeL (i := 3) (v := _) rfl (by kernel_rfl) (by kernel_rfl) (by kernel_rfl) (fun _ _ _ h => h) (Or.inl ⟨by rfl, ?yy4⟩) (by assumption) ?rr4
        case yy4 => intro w hSw; (try dsimp only at hSw); go_simp; (try with_reducible rfl)
        try simp only [Act.put, List.setIfInBounds_toArray, List.set_cons_zero, List.set_cons_succ]
        refine' takeL (i := 4) (v := _) rfl (by kernel_rfl) (by kernel_rfl) (by kernel_rfl) (fun _ _ _ h => h) (Or.inl ⟨by rfl, ?yy5⟩) (by assumption) ?rr5
        case yy5 => intro w hSw; (try dsimp only at hSw); go_simp; (try with_reducible rfl)
        try simp only [Act.put, List.setIfInBounds_toArray, List.set_cons_zero, List.set_cons_succ]
        refine' takeL (i := 5) (v := _) rfl (by kernel_rfl) (by kernel_rfl) (by kernel_rfl) (fun _ _ _ h => h) (Or.inl ⟨by rfl, ?yy6⟩) (by assumption) ?rr6
        case yy6 => intro w hSw; (try dsimp only at hSw); go_simp; (try with_reducible rfl)
        try simp only [Act.put, List.setIfInBounds_toArray, List.set_cons_zero, List.set_cons_succ]
        refine' takeL (i := 7) (v := _) rfl (by kernel_rfl) (by kernel_rfl) (by kernel_rfl) (fun _ _ _ h => h) (Or.inl ⟨by rfl, ?yy7⟩) (by assumption) ?rr7
        case yy7 => intro w hSw; (try dsimp only at hSw); go_simp; (try with_reducible rfl)
        try simp only [Act.put, List.setIfInBounds_toArray, List.set_cons_zero, List.set_cons_succ]
        refine' takeL (i := 8) (v := _) rfl (by kernel_rfl) (by kernel_rfl) (by kernel_rfl) (fun _ _ _ h => h) (Or.inl ⟨by rfl, ?yy8⟩) (by assumption) ?rr8
        case yy8 => intro w hSw; (try dsimp only at hSw); go_simp; (try with_reducible rfl)
        try simp only [Act.put, List.setIfInBounds_toArray, List.set_cons_zero, List.set_cons_succ]
        refine' takeL (i := 9) (v := _) rfl (by kernel_rfl) (by kernel_rfl) (by kernel_rfl) (fun _ _ _ h => h) (Or.inl ⟨by rfl, ?yy9⟩) (by assumption) ?rr9
        case yy9 => intro w hSw; (try dsimp only at hSw); go_simp; (try with_reducible rfl)
        try simp only [Act.put, List.setIfInBounds_toArray, List.set_cons_zero, List.set_cons_succ]
        refine wpAnyH_ready (rs := [6, 10]) (by kernel_rfl) (by simp) ?_
        refine consL rfl (fun K hK => ?_) ?_
        · go_simp
          refine hK.out _ _ trivial (fun _ => ?_)
          clear hK K
          try simp only [Act.put, List.setIfInBounds_toArray, List.set_cons_zero, List.set_cons_succ]
          refine wpAnyH_ready (rs := [10]) (by kernel_rfl) (by simp) ?_
          refine consL rfl (fun K hK => ?_) AllReadyH.nil
          go_simp
          refine hK.out _ _ trivial (fun _ => ?_)
          clear hK K
          try simp only [Act.put, List.setIfInBounds_toArray, List.set_cons_zero, List.set_cons_succ]
          refine wpAnyH_ready (rs := [11]) (by kernel_rfl) (by simp) ?_
          refine consL rfl (fun K hK => ?_) AllReadyH.nil
          go_simp
          refine (HFN.out x v _ x0 x1 v0 v1).mono ?_
          rintro e w9 ⟨rfl, hw9⟩
          subst hw9
          go_wp2_with fail
          refine hK.out _ _ trivial (fun _ => ?_)
          clear hK K
          try simp only [Act.put, List.setIfInBounds_toArray, List.set_cons_zero, List.set_cons_succ]
          refine' takeL (i := 12) (v := _) rfl (by kernel_rfl) (by kernel_rfl) (by kernel_rfl) (fun _ _ _ h => h) (Or.inl ⟨by rfl, ?yy10⟩) (by assumption) ?rr10
          case yy10 => intro w hSw; (try dsimp only at hSw); go_simp; (try with_reducible rfl)
          try simp only [Act.put, List.setIfInBounds_toArray, List.set_cons_zero, List.set_cons_succ]
          refine wpAnyH_ready (rs := [13]) (by kernel_rfl) (by simp) ?_
          refine consL rfl (fun K hK => ?_) AllReadyH.nil
          go_simp
          refine hK.out _ _ trivial (fun _ => ?_)
          clear hK K
          try simp only [Act.put, List.setIfInBounds_toArray, List.set_cons_zero, List.set_cons_succ]
          refine wpAnyH_done (by kernel_rfl) ?_ _
          obtain ⟨W6, hW6⟩ : ∃ W6, (W5.setCell ⟨gx, k, none⟩ (.int .u8 r)).drew = W6 := ⟨_, rfl⟩
          have M6 := Lib.hid (show MS (W5.setCell ⟨gx, k, none⟩ (.int .u8 r)).drew g F is os rs ps ov bs ks from (M5.out.othr _ G1.out hgx).drewN 1)
          have RX6 := Lib.hid (show Ro (W5.setCell ⟨gx, k, none⟩ (.int .u8 r)).drew gx c3 _ from (RX5.out.set_ (i := k) R01.out).drewN 1)
          have RY6 := Lib.hid (show Ro (W5.setCell ⟨gx, k, none⟩ (.int .u8 r)).drew gy c4 _ from (RY5.out.other (p := ⟨gx, k, none⟩) (.int .u8 r) G3.out).drewN 1)
          have B6 := Lib.hid (show Below w.heap.size w (W5.setCell ⟨gx, k, none⟩ (.int .u8 r)).drew from dBelow' (B5.out.setCell (p := ⟨gx, k, none⟩) hg4 _) 1)
          rw [hW6] at M6 RX6 RY6 B6
          try rw [hW6]
          clear hW6 cxk cyk fxk
          rw [← CE.out] at RX6
          have cr := RX6.out.cell (i := k) (by rw [cmb_len]; omega)
          rw [CG.out] at cr
          by_cases hr0 : r = 0
          · have e10 : (r != 0) = false := by rw [hr0]; rfl
            have CS := CS0.out hr0
            clear hr0
            go_wp2
            refine ⟨⟨k + 1, by omega, rfl, by rw [CS], M6.out, RX6.out, ⟨_, RY6.out, by rw [List.length_set]; exact hzl, fun i hi => by rw [getD_set_other _ _ _ _ (by omega)]; exact HZY.out i (by omega)⟩, B6.out⟩, by simp [intOf]; omega⟩
          · have e10 : (r != 0) = true := by simpa using hr0
            have CS := CS1.out hr0
            clear hr0
            go_wp2
            refine ⟨⟨k + 1, by omega, rfl, by rw [CS], M6.out, RX6.out, ⟨_, RY6.out, by rw [List.length_set]; exact hzl, fun i hi => by rw [getD_set_other _ _ _ _ (by omega)]; exact HZY.out i (by omega)⟩, B6.out⟩, by simp [intOf]; omega⟩
        refine consL rfl (fun K hK => ?_) AllReadyH.nil
        go_simp
        refine hK.out _ _ trivial (fun _ => ?_)
        clear hK K
        try simp only [Act.put, List.setIfInBounds_toArray, List.set_cons_zero, List.set_cons_succ]
        refine wpAnyH_ready (rs := [6]) (by kernel_rfl) (by simp) ?_
        refine consL rfl (fun K hK => ?_) AllReadyH.nil
        go_simp
        refine hK.out _ _ trivial (fun _ => ?_)
        clear hK K
        try simp only [Act.put, List.setIfInBounds_toArray, List.set_cons_zero, List.set_cons_succ]
        refine wpAnyH_ready (rs := [11]) (by kernel_rfl) (by simp) ?_
        refine consL rfl (fun K hK => ?_) AllReadyH.nil
        go_simp
        refine (HFN.out x v _ x0 x1 v0 v1).mono ?_
        rintro e w9 ⟨rfl, hw9⟩
        subst hw9
        go_wp2_with fail
        refine hK.out _ _ trivial (fun _ => ?_)
        clear hK K
        try simp only [Act.put, List.setIfInBounds_toArray, List.set_cons_zero, List.set_cons_succ]
        refine' takeL (i := 12) (v := _) rfl (by kernel_rfl) (by kernel_rfl) (by kernel_rfl) (fun _ _ _ h => h) (Or.inl ⟨by rfl, ?yy11⟩) (by assumption) ?rr11
        case yy11 => intro w hSw; (try dsimp only at hSw); go_simp; (try with_reducible rfl)
        try simp only [Act.put, List.setIfInBounds_toArray, List.set_cons_zero, List.set_cons_succ]
        refine wpAnyH_ready (rs := [13]) (by kernel_rfl) (by simp) ?_
        refine consL rfl (fun K hK => ?_) AllReadyH.nil
        go_simp
        refine hK.out _ _ trivial (fun _ => ?_)
        clear hK K
        try simp only [Act.put, List.setIfInBounds_toArray, List.set_cons_zero, List.set_cons_succ]
        refine wpAnyH_done (by kernel_rfl) ?_ _
        obtain ⟨W6, hW6⟩ : ∃ W6, (W5.setCell ⟨gx, k, none⟩ (.int .u8 r)).drew = W6 := ⟨_, rfl⟩
        have M6 := Lib.hid (show MS (W5.setCell ⟨gx, k, none⟩ (.int .u8 r)).drew g F is os rs ps ov bs ks from (M5.out.othr _ G1.out hgx).drewN 1)
        have RX6 := Lib.hid (show Ro (W5.setCell ⟨gx, k, none⟩ (.int .u8 r)).drew gx c3 _ from (RX5.out.set_ (i := k) R01.out).drewN 1)
        have RY6 := Lib.hid (show Ro (W5.setCell ⟨gx, k, none⟩ (.int .u8 r)).drew gy c4 _ from (RY5.out.other (p := ⟨gx, k, none⟩) (.int .u8 r) G3.out).drewN 1)
        have B6 := Lib.hid (show Below w.heap.size w (W5.setCell ⟨gx, k, none⟩ (.int .u8 r)).drew from dBelow' (B5.out.setCell (p := ⟨gx, k, none⟩) hg4 _) 1)
        rw [hW6] at M6 RX6 RY6 B6
        try rw [hW6]
        clear hW6 cxk cyk fxk
        rw [← CE.out] at RX6
        have cr := RX6.out.cell (i := k) (by rw [cmb_len]; omega)
        rw [CG.out] at cr
        by_cases hr0 : r = 0
        · have e10 : (r != 0) = false := by rw [hr0]; rfl
          have CS := CS0.out hr0
          clear hr0
          go_wp2
          refine ⟨⟨k + 1, by omega, rfl, by rw [CS], M6.out, RX6.out, ⟨_, RY6.out, by rw [List.length_set]; exact hzl, fun i hi => by rw [getD_set_other _ _ _ _ (by omega)]; exact HZY.out i (by omega)⟩, B6.out⟩, by simp [intOf]; omega⟩
        · have e10 : (r != 0) = true := by simpa using hr0
          have CS := CS1.out hr0
          clear hr0
          go_wp2
          refine ⟨⟨k + 1, by omega, rfl, by rw [CS], M6.out, RX6.out, ⟨_, RY6.out, by rw [List.length_set]; exact hzl, fun i hi => by rw [getD_set_other _ _ _ _ (by omega)]; exact HZY.out i (by omega)⟩, B6.out⟩, by simp [intOf]; omega⟩
      · by_cases hd0 : d > 0
        · obtain ⟨v, hv⟩ : ∃ v, ys.getD k 0 = v := ⟨_, rfl⟩
          have hzk := HZY.out k (by omega)
          rw [hv] at hzk
          have v01 := RY.out.rangeD k
          rw [hzk] at v01
          obtain ⟨v0, v1⟩ := v01
          obtain ⟨x, hx⟩ : ∃ x, (cmb f xs ys d k).getD k 0 = x := ⟨_, rfl⟩
          have x01 := RX.out.rangeD k
          rw [hx] at x01
          obtain ⟨x0, x1⟩ := x01
          obtain ⟨r, hr⟩ : ∃ r, f x v = r := ⟨_, rfl⟩
          have CE := Lib.hid (show cmb f xs ys d (k + 1) = (cmb f xs ys d k).set k r from by simp only [cmb]; rw [if_neg hcd, hx, hv, hr])
          have R01 := Lib.hid (show 0 ≤ r ∧ r ≤ 255 from by rw [← hr]; exact HFR.out x v x0 x1 v0 v1)
          have CG0 : (cmb f xs ys d (k + 1)).getD k 0 = r := by rw [CE.out, getD_set_same _ _ _ (by omega)]
          have CG := Lib.hid CG0
          have CS0 := Lib.hid (show r = 0 → cmbS f xs ys d (k + 1) = cmbS f xs ys d k from fun h0 => by simp only [cmbS]; rw [if_pos (by rw [CG0]; exact h0)])
          have CS1 := Lib.hid (show r ≠ 0 → cmbS f xs ys d (k + 1) = 1 from fun h0 => by simp only [cmbS]; rw [if_neg (by rw [CG0]; exact h0)])
          have cxk0 := RX.out.cell (i := k) (by omega)
          rw [hx] at cxk0
          clear CG0
          have e7 : d > 0 := hd0
          have e8 : ¬ (k : Int) ≥ d := by omega
          have HX0 := Lib.hid hx
          clear hv hx hcd hd0
          go_upto_region 9 with fail
          obtain ⟨W5, hW5⟩ : ∃ W5, wr = W5 := ⟨_, rfl⟩
          have M5 := MW
          have RX5 := RX
          have RY5 := RY
          have B5 := BW
          rw [hW5] at M5 RX5 RY5 B5
          try rw [hW5]
          clear hW5 MW RX RY BW cxk0 e7 e8
          have cyk := RY5.out.cell (i := k) (by omega)
          rw [hzk] at cyk
          have cxk := RX5.out.cell (i := k) (by omega)
          have fxk := RX5.out.free k
          clear hzk
          rw [HX0.out] at cxk
          refine wp_region_held_drew (S := fun _ => True) (by kernel_rfl) trivial (fun _ => ?_)
          refine' takeL (i := 0) (v := _) rfl (by kernel_rfl) (by kernel_rfl) (by kernel_rfl) (fun _ _ _ h => h) (Or.inl ⟨by rfl, ?yy23⟩) (by assumption) ?rr23
          case yy23 => intro w hSw; (try dsimp only at hSw); go_simp; (try with_reducible rfl)
          try simp only [Act.put, List.setIfInBounds_toArray, List.set_cons_zero, List.set_cons_succ]
          refine' takeL (i := 1) (v := _) rfl (by kernel_rfl) (by kernel_rfl) (by kernel_rfl) (fun _ _ _ h => h) (Or.inl ⟨by rfl, ?yy24⟩) (by assumption) ?rr24
          case yy24 => intro w hSw; (try dsimp only at hSw); go_simp; (try with_reducible rfl)
          try simp only [Act.put, List.setIfInBounds_toArray, List.set_cons_zero, List.set_cons_succ]
          refine' takeL (i := 2) (v := _) rfl (by kernel_rfl) (by kernel_rfl) (by kernel_rfl) (fun _ _ _ h => h) (Or.inl ⟨by rfl, ?yy25⟩) (by assumption) ?rr25
          case yy25 => intro w hSw; (try dsimp only at hSw); go_simp; (try with_reducible rfl)
          try simp only [Act.put, List.setIfInBounds_toArray, List.set_cons_zero, List.set_cons_succ]
          refine' takeL (i := 3) (v := _) rfl (by kernel_rfl) (by kernel_rfl) (by kernel_rfl) (fun _ _ _ h => h) (Or.inl ⟨by rfl, ?yy26⟩) (by assumption) ?rr26
          case yy26 => intro w hSw; (try dsimp only at hSw); go_simp; (try with_reducible rfl)
          try simp only [Act.put, List.setIfInBounds_toArray, List.set_cons_zero, List.set_cons_succ]
          refine' takeL (i := 4) (v := _) rfl (by kernel_rfl) (by kernel_rfl) (by kernel_rfl) (fun _ _ _ h => h) (Or.inl ⟨by rfl, ?yy27⟩) (by assumption) ?rr27
          case yy27 => intro w hSw; (try dsimp only at hSw); go_simp; (try with_reducible rfl)
          try simp only [Act.put, List.setIfInBounds_toArray, List.set_cons_zero, List.set_cons_succ]
          refine' takeL (i := 5) (v := _) rfl (by kernel_rfl) (by kernel_rfl) (by kernel_rfl) (fun _ _ _ h => h) (Or.inl ⟨by rfl, ?yy28⟩) (by assumption) ?rr28
          case yy28 => intro w hSw; (try dsimp only at hSw); go_simp; (try with_reducible rfl)
          try simp only [Act.put, List.setIfInBounds_toArray, List.set_cons_zero, List.set_cons_succ]
          refine' takeL (i := 7) (v := _) rfl (by kernel_rfl) (by kernel_rfl) (by kernel_rfl) (fun _ _ _ h => h) (Or.inl ⟨by rfl, ?yy29⟩) (by assumption) ?rr29
          case yy29 => intro w hSw; (try dsimp only at hSw); go_simp; (try with_reducible rfl)
          try simp only [Act.put, List.setIfInBounds_toArray, List.set_cons_zero, List.set_cons_succ]
          refine' takeL (i := 8) (v := _) rfl (by kernel_rfl) (by kernel_rfl) (by kernel_rfl) (fun _ _ _ h => h) (Or.inl ⟨by rfl, ?yy30⟩) (by assumption) ?rr30
          case yy30 => intro w hSw; (try dsimp only at hSw); go_simp; (try with_reducible rfl)
          try simp only [Act.put, List.setIfInBounds_toArray, List.set_cons_zero, List.set_cons_succ]
          refine' takeL (i := 9) (v := _) rfl (by kernel_rfl) (by kernel_rfl) (by kernel_rfl) (fun _ _ _ h => h) (Or.inl ⟨by rfl, ?yy31⟩) (by assumption) ?rr31
          case yy31 => intro w hSw; (try dsimp only at hSw); go_simp; (try with_reducible rfl)
          try simp only [Act.put, List.setIfInBounds_toArray, List.set_cons_zero, List.set_cons_succ]
          refine wpAnyH_ready (rs := [6, 10]) (by kernel_rfl) (by simp) ?_
          refine consL rfl (fun K hK => ?_) ?_
          · go_simp
            refine hK.out _ _ trivial (fun _ => ?_)
            clear hK K
            try simp only [Act.put, List.setIfInBounds_toArray, List.set_cons_zero, List.set_cons_succ]
            refine wpAnyH_ready (rs := [10]) (by kernel_rfl) (by simp) ?_
            refine consL rfl (fun K hK => ?_) AllReadyH.nil
            go_simp
            refine hK.out _ _ trivial (fun _ => ?_)
            clear hK K
            try simp only [Act.put, List.setIfInBounds_toArray, List.set_cons_zero, List.set_cons_succ]
            refine wpAnyH_ready (rs := [11]) (by kernel_rfl) (by simp) ?_
            refine consL rfl (fun K hK => ?_) AllReadyH.nil
            go_simp
            refine (HFN.out x v _ x0 x1 v0 v1).mono ?_
            rintro e w9 ⟨rfl, hw9⟩
            subst hw9
            go_wp2_with fail
            refine hK.out _ _ trivial (fun _ => ?_)
            clear hK K
            try simp only [Act.put, List.setIfInBounds_toArray, List.set_cons_zero, List.set_cons_succ]
            refine' takeL (i := 12) (v := _) rfl (by kernel_rfl) (by kernel_rfl) (by kernel_rfl) (fun _ _ _ h => h) (Or.inl ⟨by rfl, ?yy32⟩) (by assumption) ?rr32
            case yy32 => intro w hSw; (try dsimp only at hSw); go_simp; (try with_reducible rfl)
            try simp only [Act.put, List.setIfInBounds_toArray, List.set_cons_zero, List.set_cons_succ]
            refine wpAnyH_ready (rs := [13]) (by kernel_rfl) (by simp) ?_
            refine consL rfl (fun K hK => ?_) AllReadyH.nil
            go_simp
            refine hK.out _ _ trivial (fun _ => ?_)
            clear hK K
            try simp only [Act.put, List.setIfInBounds_toArray, List.set_cons_zero, List.set_cons_succ]
            refine wpAnyH_done (by kernel_rfl) ?_ _
            obtain ⟨W6, hW6⟩ : ∃ W6, (W5.setCell ⟨gx, k, none⟩ (.int .u8 r)).drew = W6 := ⟨_, rfl⟩
            have M6 := Lib.hid (show MS (W5.setCell ⟨gx, k, none⟩ (.int .u8 r)).drew g F is os rs ps ov bs ks from (M5.out.othr _ G1.out hgx).drewN 1)
            have RX6 := Lib.hid (show Ro (W5.setCell ⟨gx, k, none⟩ (.int .u8 r)).drew gx c3 _ from (RX5.out.set_ (i := k) R01.out).drewN 1)
            have RY6 := Lib.hid (show Ro (W5.setCell ⟨gx, k, none⟩ (.int .u8 r)).drew gy c4 _ from (RY5.out.other (p := ⟨gx, k, none⟩) (.int .u8 r) G3.out).drewN 1)
            have B6 := Lib.hid (show Below w.heap.size w (W5.setCell ⟨gx, k, none⟩ (.int .u8 r)).drew from dBelow' (B5.out.setCell (p := ⟨gx, k, none⟩) hg4 _) 1)
            rw [hW6] at M6 RX6 RY6 B6
            try rw [hW6]
            clear hW6 cxk cyk fxk
            rw [← CE.out] at RX6
            have cr := RX6.out.cell (i := k) (by rw [cmb_len]; omega)
            rw [CG.out] at cr
            by_cases hr0 : r = 0
            · have e10 : (r != 0) = false := by rw [hr0]; rfl
              have CS := CS0.out hr0
              clear hr0
              go_wp2
              refine ⟨⟨k + 1, by omega, rfl, by rw [CS], M6.out, RX6.out, ⟨_, RY6.out, hzl, fun i hi => HZY.out i (by omega)⟩, B6.out⟩, by simp [intOf]; omega⟩
            · have e10 : (r != 0) = true := by simpa using hr0
              have CS := CS1.out hr0
              clear hr0
              go_wp2
              refine ⟨⟨k + 1, by omega, rfl, by rw [CS], M6.out, RX6.out, ⟨_, RY6.out, hzl, fun i hi => HZY.out i (by omega)⟩, B6.out⟩, by simp [intOf]; omega⟩
          refine consL rfl (fun K hK => ?_) AllReadyH.nil
          go_simp
          refine hK.out _ _ trivial (fun _ => ?_)
          clear hK K
          try simp only [Act.put, List.setIfInBounds_toArray, List.set_cons_zero, List.set_cons_succ]
          refine wpAnyH_ready (rs := [6]) (by kernel_rfl) (by simp) ?_
          refine consL rfl (fun K hK => ?_) AllReadyH.nil
          go_simp
          refine hK.out _ _ trivial (fun _ => ?_)
          clear hK K
          try simp only [Act.put, List.setIfInBounds_toArray, List.set_cons_zero, List.set_cons_succ]
          refine wpAnyH_ready (rs := [11]) (by kernel_rfl) (by simp) ?_
          refine consL rfl (fun K hK => ?_) AllReadyH.nil
          go_simp
          refine (HFN.out x v _ x0 x1 v0 v1).mono ?_
          rintro e w9 ⟨rfl, hw9⟩
          subst hw9
          go_wp2_with fail
          refine hK.out _ _ trivial (fun _ => ?_)
          clear hK K
          try simp only [Act.put, List.setIfInBounds_toArray, List.set_cons_zero, List.set_cons_succ]
          refine' takeL (i := 12) (v := _) rfl (by kernel_rfl) (by kernel_rfl) (by kernel_rfl) (fun _ _ _ h => h) (Or.inl ⟨by rfl, ?yy33⟩) (by assumption) ?rr33
          case yy33 => intro w hSw; (try dsimp only at hSw); go_simp; (try with_reducible rfl)
          try simp only [Act.put, List.setIfInBounds_toArray, List.set_cons_zero, List.set_cons_succ]
          refine wpAnyH_ready (rs := [13]) (by kernel_rfl) (by simp) ?_
          refine consL rfl (fun K hK => ?_) AllReadyH.nil
          go_simp
          refine hK.out _ _ trivial (fun _ => ?_)
          clear hK K
          try simp only [Act.put, List.setIfInBounds_toArray, List.set_cons_zero, List.set_cons_succ]
          refine wpAnyH_done (by kernel_rfl) ?_ _
          obtain ⟨W6, hW6⟩ : ∃ W6, (W5.setCell ⟨gx, k, none⟩ (.int .u8 r)).drew = W6 := ⟨_, rfl⟩
          have M6 := Lib.hid (show MS (W5.setCell ⟨gx, k, none⟩ (.int .u8 r)).drew g F is os rs ps ov bs ks from (M5.out.othr _ G1.out hgx).drewN 1)
          have RX6 := Lib.hid (show Ro (W5.setCell ⟨gx, k, none⟩ (.int .u8 r)).drew gx c3 _ from (RX5.out.set_ (i := k) R01.out).drewN 1)
          have RY6 := Lib.hid (show Ro (W5.setCell ⟨gx, k, none⟩ (.int .u8 r)).drew gy c4 _ from (RY5.out.other (p := ⟨gx, k, none⟩) (.int .u8 r) G3.out).drewN 1)
          have B6 := Lib.hid (show Below w.heap.size w (W5.setCell ⟨gx, k, none⟩ (.int .u8 r)).drew from dBelow' (B5.out.setCell (p := ⟨gx, k, none⟩) hg4 _) 1)
          rw [hW6] at M6 RX6 RY6 B6
          try rw [hW6]
          clear hW6 cxk cyk fxk
          rw [← CE.out] at RX6
          have cr := RX6.out.cell (i := k) (by rw [cmb_len]; omega)
          rw [CG.out] at cr
          by_cases hr0 : r = 0
          · have e10 : (r != 0) = false := by rw [hr0]; rfl
            have CS := CS0.out hr0
            clear hr0
            go_wp2
            refine ⟨⟨k + 1, by omega, rfl, by rw [CS], M6.out, RX6.out, ⟨_, RY6.out, hzl, fun i hi => HZY.out i (by omega)⟩, B6.out⟩, by simp [intOf]; omega⟩
          · have e10 : (r != 0) = true := by simpa using hr0
            have CS := CS1.out hr0
            clear hr0
            go_wp2
            refine ⟨⟨k + 1, by omega, rfl, by rw [CS], M6.out, RX6.out, ⟨_, RY6.out, hzl, fun i hi => HZY.out i (by omega)⟩, B6.out⟩, by simp [intOf]; omega⟩
        · obtain ⟨v, hv⟩ : ∃ v, ys.getD k 0 = v := ⟨_, rfl⟩
          have hzk := HZY.out k (by omega)
          rw [hv] at hzk
          have v01 := RY.out.rangeD k
          rw [hzk] at v01
          obtain ⟨v0, v1⟩ := v01
          obtain ⟨x, hx⟩ : ∃ x, (cmb f xs ys d k).getD k 0 = x := ⟨_, rfl⟩
          have x01 := RX.out.rangeD k
          rw [hx] at x01
          obtain ⟨x0, x1⟩ := x01
          obtain ⟨r, hr⟩ : ∃ r, f x v = r := ⟨_, rfl⟩
          have CE := Lib.hid (show cmb f xs ys d (k + 1) = (cmb f xs ys d k).set k r from by simp only [cmb]; rw [if_neg hcd, hx, hv, hr])
          have R01 := Lib.hid (show 0 ≤ r ∧ r ≤ 255 from by rw [← hr]; exact HFR.out x v x0 x1 v0 v1)
          have CG0 : (cmb f xs ys d (k + 1)).getD k 0 = r := by rw [CE.out, getD_set_same _ _ _ (by omega)]
          have CG := Lib.hid CG0
          have CS0 := Lib.hid (show r = 0 → cmbS f xs ys d (k + 1) = cmbS f xs ys d k from fun h0 => by simp only [cmbS]; rw [if_pos (by rw [CG0]; exact h0)])
          have CS1 := Lib.hid (show r ≠ 0 → cmbS f xs ys d (k + 1) = 1 from fun h0 => by simp only [cmbS]; rw [if_neg (by rw [CG0]; exact h0)])
          have cxk0 := RX.out.cell (i := k) (by omega)
          rw [hx] at cxk0
          clear CG0
          have e7 : ¬ d > 0 := by omega
          have HX0 := Lib.hid hx
          clear hv hx hcd hd0
          go_upto_region 9 with fail
          obtain ⟨W5, hW5⟩ : ∃ W5, wr = W5 := ⟨_, rfl⟩
          have M5 := MW
          have RX5 := RX
          have RY5 := RY
          have B5 := BW
          rw [hW5] at M5 RX5 RY5 B5
          try rw [hW5]
          clear hW5 MW RX RY BW cxk0 e7
          have cyk := RY5.out.cell (i := k) (by omega)
          rw [hzk] at cyk
          have cxk := RX5.out.cell (i := k) (by omega)
          have fxk := RX5.out.free k
          clear hzk
          rw [HX0.out] at cxk
          refine wp_region_held_drew (S := fun _ => True) (by kernel_rfl) trivial (fun _ => ?_)
          refine' takeL (i := 0) (v := _) rfl (by kernel_rfl) (by kernel_rfl) (by kernel_rfl) (fun _ _ _ h => h) (Or.inl ⟨by rfl, ?yy12⟩) (by assumption) ?rr12
          case yy12 => intro w hSw; (try dsimp only at hSw); go_simp; (try with_reducible rfl)
          try simp only [Act.put, List.setIfInBounds_toArray, List.set_cons_zero, List.set_cons_succ]
          refine' takeL (i := 1) (v := _) rfl (by kernel_rfl) (by kernel_rfl) (by kernel_rfl) (fun _ _ _ h => h) (Or.inl ⟨by rfl, ?yy13⟩) (by assumption) ?rr13
          case yy13 => intro w hSw; (try dsimp only at hSw); go_simp; (try with_reducible rfl)
          try simp only [Act.put, List.setIfInBounds_toArray, List.set_cons_zero, List.set_cons_succ]
          refine' takeL (i := 2) (v := _) rfl (by kernel_rfl) (by kernel_rfl) (by kernel_rfl) (fun _ _ _ h => h) (Or.inl ⟨by rfl, ?yy14⟩) (by assumption) ?rr14
          case yy14 => intro w hSw; (try dsimp only at hSw); go_simp; (try with_reducible rfl)
          try simp only [Act.put, List.setIfInBounds_toArray, List.set_cons_zero, List.set_cons_succ]
          refine' takeL (i := 3) (v := _) rfl (by kernel_rfl) (by kernel_rfl) (by kernel_rfl) (fun _ _ _ h => h) (Or.inl ⟨by rfl, ?yy15⟩) (by assumption) ?rr15
          case yy15 => intro w hSw; (try dsimp only at hSw); go_simp; (try with_reducible rfl)
          try simp only [Act.put, List.setIfInBounds_toArray, List.set_cons_zero, List.set_cons_succ]
          refine' takeL (i := 4) (v := _) rfl (by kernel_rfl) (by kernel_rfl) (by kernel_rfl) (fun _ _ _ h => h) (Or.inl ⟨by rfl, ?yy16⟩) (by assumption) ?rr16
          case yy16 => intro w hSw; (try dsimp only at hSw); go_simp; (try with_reducible rfl)
          try simp only [Act.put, List.setIfInBounds_toArray, List.set_cons_zero, List.set_cons_succ]
          refine' takeL (i := 5) (v := _) rfl (by kernel_rfl) (by kernel_rfl) (by kernel_rfl) (fun _ _ _ h => h) (Or.inl ⟨by rfl, ?yy17⟩) (by assumption) ?rr17
          case yy17 => intro w hSw; (try dsimp only at hSw); go_simp; (try with_reducible rfl)
          try simp only [Act.put, List.setIfInBounds_toArray, List.set_cons_zero, List.set_cons_succ]
          refine' takeL (i := 7) (v := _) rfl (by kernel_rfl) (by kernel_rfl) (by kernel_rfl) (fun _ _ _ h => h) (Or.inl ⟨by rfl, ?yy18⟩) (by assumption) ?rr18
          case yy18 => intro w hSw; (try dsimp only at hSw); go_simp; (try with_reducible rfl)
          try simp only [Act.put, List.setIfInBounds_toArray, List.set_cons_zero, List.set_cons_succ]
          refine' takeL (i := 8) (v := _) rfl (by kernel_rfl) (by kernel_rfl) (by kernel_rfl) (fun _ _ _ h => h) (Or.inl ⟨by rfl, ?yy19⟩) (by assumption) ?rr19
          case yy19 => intro w hSw; (try dsimp only at hSw); go_simp; (try with_reducible rfl)
          try simp only [Act.put, List.setIfInBounds_toArray, List.set_cons_zero, List.set_cons_succ]
          refine' takeL (i := 9) (v := _) rfl (by kernel_rfl) (by kernel_rfl) (by kernel_rfl) (fun _ _ _ h => h) (Or.inl ⟨by rfl, ?yy20⟩) (by assumption) ?rr20
          case yy20 => intro w hSw; (try dsimp only at hSw); go_simp; (try with_reducible rfl)
          try simp only [Act.put, List.setIfInBounds_toArray, List.set_cons_zero, List.set_cons_succ]
          refine wpAnyH_ready (rs := [6, 10]) (by kernel_rfl) (by simp) ?_
          refine consL rfl (fun K hK => ?_) ?_
          · go_simp
            refine hK.out _ _ trivial (fun _ => ?_)
            clear hK K
            try simp only [Act.put, List.setIfInBounds_toArray, List.set_cons_zero, List.set_cons_succ]
            refine wpAnyH_ready (rs := [10]) (by kernel_rfl) (by simp) ?_
            refine consL rfl (fun K hK => ?_) AllReadyH.nil
            go_simp
            refine hK.out _ _ trivial (fun _ => ?_)
            clear hK K
            try simp only [Act.put, List.setIfInBounds_toArray, List.set_cons_zero, List.set_cons_succ]
            refine wpAnyH_ready (rs := [11]) (by kernel_rfl) (by simp) ?_
            refine consL rfl (fun K hK => ?_) AllReadyH.nil
            go_simp
            refine (HFN.out x v _ x0 x1 v0 v1).mono ?_
            rintro e w9 ⟨rfl, hw9⟩
            subst hw9
            go_wp2_with fail
            refine hK.out _ _ trivial (fun _ => ?_)
            clear hK K
            try simp only [Act.put, List.setIfInBounds_toArray, List.set_cons_zero, List.set_cons_succ]
            refine' takeL (i := 12) (v := _) rfl (by kernel_rfl) (by kernel_rfl) (by kernel_rfl) (fun _ _ _ h => h) (Or.inl ⟨by rfl, ?yy21⟩) (by assumption) ?rr21
            case yy21 => intro w hSw; (try dsimp only at hSw); go_simp; (try with_reducible rfl)
            try simp only [Act.put, List.setIfInBounds_toArray, List.set_cons_zero, List.set_cons_succ]
            refine wpAnyH_ready (rs := [13]) (by kernel_rfl) (by simp) ?_
            refine consL rfl (fun K hK => ?_) AllReadyH.nil
            go_simp
            refine hK.out _ _ trivial (fun _ => ?_)
            clear hK K
            try simp only [Act.put, List.setIfInBounds_toArray, List.set_cons_zero, List.set_cons_succ]
            refine wpAnyH_done (by kernel_rfl) ?_ _
            obtain ⟨W6, hW6⟩ : ∃ W6, (W5.setCell ⟨gx, k, none⟩ (.int .u8 r)).drew = W6 := ⟨_, rfl⟩
            have M6 := Lib.hid (show MS (W5.setCell ⟨gx, k, none⟩ (.int .u8 r)).drew g F is os rs ps ov bs ks from (M5.out.othr _ G1.out hgx).drewN 1)
            have RX6 := Lib.hid (show Ro (W5.setCell ⟨gx, k, none⟩ (.int .u8 r)).drew gx c3 _ from (RX5.out.set_ (i := k) R01.out).drewN 1)
            have RY6 := Lib.hid (show Ro (W5.setCell ⟨gx, k, none⟩ (.int .u8 r)).drew gy c4 _ from (RY5.out.other (p := ⟨gx, k, none⟩) (.int .u8 r) G3.out).drewN 1)
            have B6 := Lib.hid (show Below w.heap.size w (W5.setCell ⟨gx, k, none⟩ (.int .u8 r)).drew from dBelow' (B5.out.setCell (p := ⟨gx, k, none⟩) hg4 _) 1)
            rw [hW6] at M6 RX6 RY6 B6
            try rw [hW6]
            clear hW6 cxk cyk fxk
            rw [← CE.out] at RX6
            have cr := RX6.out.cell (i := k) (by rw [cmb_len]; omega)
            rw [CG.out] at cr
            by_cases hr0 : r = 0
            · have e10 : (r != 0) = false := by rw [hr0]; rfl
              have CS := CS0.out hr0
              clear hr0
              go_wp2
              refine ⟨⟨k + 1, by omega, rfl, by rw [CS], M6.out, RX6.out, ⟨_, RY6.out, hzl, fun i hi => HZY.out i (by omega)⟩, B6.out⟩, by simp [intOf]; omega⟩
            · have e10 : (r != 0) = true := by simpa using hr0
              have CS := CS1.out hr0
              clear hr0
              go_wp2
              refine ⟨⟨k + 1, by omega, rfl, by rw [CS], M6.out, RX6.out, ⟨_, RY6.out, hzl, fun i hi => HZY.out i (by omega)⟩, B6.out⟩, by simp [intOf]; omega⟩
          refine consL rfl (fun K hK => ?_) AllReadyH.nil
          go_simp
          refine hK.out _ _ trivial (fun _ => ?_)
          clear hK K
          try simp only [Act.put, List.setIfInBounds_toArray, List.set_cons_zero, List.set_cons_succ]
          refine wpAnyH_ready (rs := [6]) (by kernel_rfl) (by simp) ?_
          refine consL rfl (fun K hK => ?_) AllReadyH.nil
          go_simp
          refine hK.out _ _ trivial (fun _ => ?_)
          clear hK K
          try simp only [Act.put, List.setIfInBounds_toArray, List.set_cons_zero, List.set_cons_succ]
          refine wpAnyH_ready (rs := [11]) (by kernel_rfl) (by simp) ?_
          refine consL rfl (fun K hK => ?_) AllReadyH.nil
          go_simp
          refine (HFN.out x v _ x0 x1 v0 v1).mono ?_
          rintro e w9 ⟨rfl, hw9⟩
          subst hw9
          go_wp2_with fail
          refine hK.out _ _ trivial (fun _ => ?_)
          clear hK K
          try simp only [Act.put, List.setIfInBounds_toArray, List.set_cons_zero, List.set_cons_succ]
          refine' takeL (i := 12) (v := _) rfl (by kernel_rfl) (by kernel_rfl) (by kernel_rfl) (fun _ _ _ h => h) (Or.inl ⟨by rfl, ?yy22⟩) (by assumption) ?rr22
          case yy22 => intro w hSw; (try dsimp only at hSw); go_simp; (try with_reducible rfl)
          try simp only [Act.put, List.setIfInBounds_toArray, List.set_cons_zero, List.set_cons_succ]
          refine wpAnyH_ready (rs := [13]) (by kernel_rfl) (by simp) ?_
          refine consL rfl (fun K hK => ?_) AllReadyH.nil
          go_simp
          refine hK.out _ _ trivial (fun _ => ?_)
          clear hK K
          try simp only [Act.put, List.setIfInBounds_toArray, List.set_cons_zero, List.set_cons_succ]
          refine wpAnyH_done (by kernel_rfl) ?_ _
          obtain ⟨W6, hW6⟩ : ∃ W6, (W5.setCell ⟨gx, k, none⟩ (.int .u8 r)).drew = W6 := ⟨_, rfl⟩
          have M6 := Lib.hid (show MS (W5.setCell ⟨gx, k, none⟩ (.int .u8 r)).drew g F is os rs ps ov bs ks from (M5.out.othr _ G1.out hgx).drewN 1)
          have RX6 := Lib.hid (show Ro (W5.setCell ⟨gx, k, none⟩ (.int .u8 r)).drew gx c3 _ from (RX5.out.set_ (i := k) R01.out).drewN 1)
          have RY6 := Lib.hid (show Ro (W5.setCell ⟨gx, k, none⟩ (.int .u8 r)).drew gy c4 _ from (RY5.out.other (p := ⟨gx, k, none⟩) (.int .u8 r) G3.out).drewN 1)
          have B6 := Lib.hid (show Below w.heap.size w (W5.setCell ⟨gx, k, none⟩ (.int .u8 r)).drew from dBelow' (B5.out.setCell (p := ⟨gx, k, none⟩) hg4 _) 1)
          rw [hW6] at M6 RX6 RY6 B6
          try rw [hW6]
          clear hW6 cxk cyk fxk
          rw [← CE.out] at RX6
          have cr := RX6.out.cell (i := k) (by rw [cmb_len]; omega)
          rw [CG.out] at cr
          by_cases hr0 : r = 0
          · have e10 : (r != 0) = false := by rw [hr0]; rfl
            have CS := CS0.out hr0
            clear hr0
            go_wp2
            refine ⟨⟨k + 1, by omega, rfl, by rw [CS], M6.out, RX6.out, ⟨_, RY6.out, hzl, fun i hi => HZY.out i (by omega)⟩, B6.out⟩, by simp [intOf]; omega⟩
          · have e10 : (r != 0) = true := by simpa using hr0
            have CS := CS1.out hr0
            clear hr0
            go_wp2
            refine ⟨⟨k + 1, by omega, rfl, by rw [CS], M6.out, RX6.out, ⟨_, RY6.out, hzl, fun i hi => HZY.out i (by omega)⟩, B6.out⟩, by simp [intOf]; omega⟩
    · obtain rfl : k = m4 := by omega
      have hI : ¬ (k : Int) < (k : Int) := by omega
      have YB := Lib.hid (RX.out.byt k hxl)
      by_cases hc0 : c = 0
      · have HC' := Lib.hid (HC.out.trans hc0)
        have HC0 := Lib.hid hc0
        clear hc0
        cases lg
        · go_wp2_with (go_at_call 65; refine (put_m g F is os rs ps ov bs ks a key _ _ _ (cmb f xs ys d k) _ MW.out HK.out YB.out (by omega) HC'.out).mono ?_; rintro e w5 ⟨rfl, hM5, hC5⟩; have M5 := Lib.hid hM5; have C5 := Lib.hid ((show Ch w wr [g, F.gb] from chB BW.out).trans (hC5.mono (by simp))); clear hM5 hC5)
          first | go_end0 | refine bodyPost_ret (results_none rfl _ _ _) rfl ?_
          rw [HR.out]
          exact ⟨fun _ => ⟨rfl, by rw [if_neg (by simp)]; exact M5.out⟩, fun h => absurd HC0.out h, C5.out⟩
        · go_wp2_with (go_at_call 65; refine (put_m g F is os rs ps ov bs ks a key _ _ _ (cmb f xs ys d k) _ MW.out HK.out YB.out (by omega) HC'.out).mono ?_; rintro e w5 ⟨rfl, hM5, hC5⟩; have M5 := Lib.hid hM5; have C5 := Lib.hid ((show Ch w wr [g, F.gb] from chB BW.out).trans (hC5.mono (by simp))); have c7 := hM5.m.cp (n := 7) (by omega); have f7 := hM5.m.free 51; clear hM5 hC5)
          first | go_end0 | refine bodyPost_ret (results_none rfl _ _ _) rfl ?_
          rw [HR.out]
          exact ⟨fun _ => ⟨rfl, by first | (rw [if_pos rfl]; exact M5.out.setp (n := 7) (by omega) _) | (rw [if_pos trivial]; exact M5.out.setp (n := 7) (by omega) _)⟩, fun h => absurd HC0.out h, C5.out.setCell (by simp) _⟩
      · have HC0 := Lib.hid hc0
        clear hc0
        go_wp2_with (go_at_call 65; refine (put_no g F is os rs ps ov bs ks a key _ _ _ (cmb f xs ys d k) _ MW.out HK.out YB.out (by omega) c HC.out HC0.out).mono ?_; rintro e w5 ⟨rfl, hM5, hC5⟩; have M5 := Lib.hid hM5; have C5 := Lib.hid ((show Ch w wr [g, F.gb] from chB BW.out).trans (hC5.mono (by simp))); clear hM5 hC5)
        refine ⟨rfl, ?_⟩
        rw [HR.out]
        exact ⟨fun h => absurd h HC0.out, fun _ => ⟨rfl, M5.out⟩, C5.out⟩
end Go.Proofs.Ythjdjbipfdigeaa

