/- Contracts and laws on the way to the statement, text 6 of 24. Conditions: as each states them. -/
import Derived.Test.YthjdjbipfdigeaaGreatRu5
import Derived.RangeFuncNested
import Derived.RangeFuncBound
import Derived.RangeFuncCalls
import Derived.RangeFuncLeaves
import Derived.Shelf.Abstract
import Derived.Shelf.RegionOpen
import Derived.WalkKit
import Derived.OwnWalkIn
import Derived.TacticsInMore
import Derived.LoopNIn
import Derived.LoopIn
import Derived.Outline
import Derived.Laws.EntriesVeiled
import Derived.StillTailTactics
import Derived.Lib.Hide
import Derived.Handy
import Derived.BigQuiet
import Derived.Deep.QuietTactic
namespace Go.Proofs.YthjdjbipfdigeaaGreat
open Go.RowKit
set_option maxRecDepth 100000
set_option linter.unusedVariables false
set_option linter.unusedSimpArgs false
section
variable {w0 w : World} {g : Nat} {G : Foot} {I : In} {os rs : List Int} {p q : Ps} {c : Int} {bs ks : List Int}
theorem rbase_c {n : Nat} (hn : n < 16) (w : World) (h : RS w0 w g G I os rs p q c bs ks) : Calls Tryz.prog 136 #[.pointer (some ⟨g, 0, none⟩), .int .i64 (n : Int)] w fun e w' => e = .returned (.int .i64 (baseV os n)) ∧ RS w0 w' g G I os rs p q c bs ks := by
  obtain ⟨x, hx⟩ : ∃ x, os.getD n 0 = x := ⟨_, rfl⟩
  have hc := h.co hn
  rw [hx] at hc
  have i0 : (n : Int) < 16 := by omega
  have HH := Lib.hid h
  clear h
  by_cases h0 : n = 0
  · subst h0
    clear hx
    go_enter Tryz.func136, Tryz.ntmps136
    go_wp2
    go_ret
    exact ⟨rfl, HH.out⟩
  · have hv := Lib.hid (show baseV os n = x from (if_neg h0).trans hx)
    have e0 : ((n : Int) == 0) = false := by simpa using h0
    have hb := getD_in HH.out.ro n
    rw [hx] at hb
    clear h0 hx
    go_enter Tryz.func136, Tryz.ntmps136
    go_wp2
    go_ret
    rw [hv.out]
    exact ⟨rfl, HH.out⟩
theorem ra_c (h : RS w0 w g G I os rs p q c bs ks) : Calls Tryz.prog 59 #[.pointer (some ⟨g, 0, none⟩)] w fun e w' => e = .returned (.int .i64 (I.a os)) ∧ RS w0 w' g G I os rs p q c bs ks := by
  have R0 := Lib.hid h
  clear h
  have b0 := baseV_in R0.out.ro I.b'
  have b1 := baseV_in R0.out.ro I.x
  obtain ⟨d0, d1⟩ := R0.out.ix.d'
  have HA := Lib.hid (show I.a os = (baseV os I.b' + baseV os I.x + I.d').tmod 16777216 from by rw [Int.tmod_eq_emod_of_nonneg (by omega)]; unfold In.a; simp only [sumB]; congr 1; omega)
  have e1 : IntKind.i64.wrap (baseV os I.b' + baseV os I.x) = baseV os I.b' + baseV os I.x := wrap_i64_id (by omega) (by omega)
  have e2 : IntKind.i64.wrap (baseV os I.b' + baseV os I.x + I.d') = baseV os I.b' + baseV os I.x + I.d' := wrap_i64_id (by omega) (by omega)
  clear b0 b1
  clear d0 d1
  go_enter Tryz.func59, Tryz.ntmps59
  go_upto_region 1 with fail
  refine wp_region_held_drew (S := Sx w0 g G I os p) (by kernel_rfl) R0.out.drew.x (fun hHeld => ?_)
  have R1 := Lib.hid R0.out.drew
  repeat refine tkr ?_
  refine tkc (rbase_c R0.out.ix.b' _ R1.out) (fun _ h => h.x) ?_
  intro w2 R2 hHeld
  repeat refine tkr ?_
  refine tkc (rbase_c R0.out.ix.x _ R2.out) (fun _ h => h.x) ?_
  intro w3 R3 hHeld
  repeat refine tkr ?_
  refine wpAnyH_done (by kernel_rfl) ?_ _
  go_wp2
  go_ret
  exact ⟨by rw [HA.out]; rfl, R3.out⟩
theorem ra1_c (h : RS w0 w g G I os rs p q c bs ks) : Calls Tryz.prog 69 #[.pointer (some ⟨g, 0, none⟩)] w fun e w' => e = .returned (.int .i64 (I.a1 os)) ∧ RS w0 w' g G I os rs p q c bs ks := by
  have R0 := Lib.hid h
  clear h
  have b0 := baseV_in R0.out.ro I.b
  obtain ⟨d0, d1⟩ := R0.out.ix.d
  have HA := Lib.hid (show I.a1 os = (baseV os I.b + I.d).tmod 16777216 from by rw [Int.tmod_eq_emod_of_nonneg (by omega)]; unfold In.a1; simp only [sumB]; congr 1; omega)
  have e2 : IntKind.i64.wrap (baseV os I.b + I.d) = baseV os I.b + I.d := wrap_i64_id (by omega) (by omega)
  clear b0
  clear d0 d1
  go_enter Tryz.func69, Tryz.ntmps69
  go_upto_region 1 with fail
  refine wp_region_held_drew (S := Sx w0 g G I os p) (by kernel_rfl) R0.out.drew.x (fun hHeld => ?_)
  have R1 := Lib.hid R0.out.drew
  repeat refine tkr ?_
  refine tkc (rbase_c R0.out.ix.b _ R1.out) (fun _ h => h.x) ?_
  intro w2 R2 hHeld
  repeat refine tkr ?_
  refine wpAnyH_done (by kernel_rfl) ?_ _
  go_wp2
  go_ret
  exact ⟨by rw [HA.out]; rfl, R2.out⟩
def atC (c a n : Int) : Int := if c = 0 ∧ a % n ≠ 0 then 6 else c
theorem rat_c (h : RS w0 w g G I os rs p q c bs ks) (a n : Int) (hn : n = 2 ∨ n = 4) (a0 : 0 ≤ a) (a1 : a ≤ 16777215) : Calls Tryz.prog 77 #[.pointer (some ⟨g, 0, none⟩), .int .i64 a, .int .i64 n] w fun e w' => e = .returned (.tuple #[]) ∧ RS w0 w' g G I os rs p q (atC c a n) bs ks := by
  have hc := h.cc
  have hf := h.fz
  have R0 := Lib.hid h
  clear h
  unfold atC
  by_cases h0 : c = 0
  · have e0 : (c == 0) = true := by simpa using h0
    by_cases h1 : a % n = 0
    · rw [if_neg (fun h => h.2 h1)]
      have e3 : (a % n != 0) = false := by simp [h1]
      clear h0 h1
      rcases hn with rfl | rfl <;> (go_enter Tryz.func77, Tryz.ntmps77; go_wp2; go_end0; exact ⟨rfl, R0.out⟩)
    · rw [if_pos ⟨h0, h1⟩]
      have e3 : (a % n != 0) = true := by simp [h1]
      clear h0 h1
      rcases hn with rfl | rfl <;> (go_enter Tryz.func77, Tryz.ntmps77; go_wp2; go_end0; exact ⟨rfl, R0.out.setc 6⟩)
  · rw [if_neg (fun h => h0 h.1)]
    have e0 : (c == 0) = false := by simpa using h0
    clear h0 hn
    go_enter Tryz.func77, Tryz.ntmps77
    go_wp2
    go_end0
    exact ⟨rfl, R0.out⟩
def evC (c : Int) (n : Nat) : Int := if c = 0 ∧ n % 2 = 1 then 6 else c
theorem reven_c (h : RS w0 w g G I os rs p q c bs ks) : Calls Tryz.prog 58 #[.pointer (some ⟨g, 0, none⟩)] w fun e w' => e = .returned (.tuple #[]) ∧ RS w0 w' g G I os rs p q (evC c I.n) bs ks := by
  have hc := h.cc
  have hf := h.fz
  have hn := h.ci (j := 2) rfl
  have hlt := h.ix.n
  have R0 := Lib.hid h
  clear h
  obtain ⟨n, hn'⟩ : ∃ n, I.n = n := ⟨_, rfl⟩
  rw [hn'] at hn hlt ⊢
  clear hn'
  unfold evC
  by_cases h0 : c = 0
  · have e0 : (c == 0) = true := by simpa using h0
    by_cases h1 : n % 2 = 1
    · rw [if_pos ⟨h0, h1⟩]
      have e3 : ((n : Int) % 2 == 1) = true := by simp; omega
      clear h0 h1
      go_enter Tryz.func58, Tryz.ntmps58
      go_wp2
      go_end0
      exact ⟨rfl, R0.out.setc 6⟩
    · rw [if_neg (fun h => h1 h.2)]
      have e3 : ((n : Int) % 2 == 1) = false := by simp; omega
      clear h0 h1
      go_enter Tryz.func58, Tryz.ntmps58
      go_wp2
      go_end0
      exact ⟨rfl, R0.out⟩
  · rw [if_neg (fun h => h0 h.1)]
    have e0 : (c == 0) = false := by simpa using h0
    clear h0
    go_enter Tryz.func58, Tryz.ntmps58
    go_wp2
    go_end0
    exact ⟨rfl, R0.out⟩
def svC (c pg : Int) (o : Bool) : Int := if o = true ∧ 8 ≤ pg ∧ c = 0 then 8 else c
theorem rset_c (h : RS w0 w g G I os rs p q c bs ks) (v cc : Int) (o : Bool) : Calls Tryz.prog 62 #[.pointer (some ⟨g, 0, none⟩), .int .u32 v, .int .i64 cc, .bool o] w fun e w' => e = .returned (.tuple #[]) ∧ RS w0 w' g G I os (rs.set I.n v) p { q with cc := cc } (svC c p.pg o) bs ks := by
  have R0 := Lib.hid h
  clear h
  go_enter Tryz.func62, Tryz.ntmps62
  go_upto_region 0 with fail
  refine wp_region_held_drew (S := Sx w0 g G I os p) (by kernel_rfl) R0.out.drew.x (fun hHeld => ?_)
  have R1 := Lib.hid R0.out.drew
  repeat refine tkr ?_
  have cS := R1.out.cr (n := I.n) (R1.out.ix.n)
  have fS := R1.out.fz
  refine tkw (R := fun w' => RS w0 w' g G I os (rs.set I.n v) p q c bs ks) (R1.out.setr (R1.out.ix.n) _) (fun _ h => h.x) ?_
  clear cS fS R0 R1 hHeld
  intro w1 R1 hHeld
  refine wpAnyH_done (by kernel_rfl) ?_ _
  refine R1.out.opn ?_
  clear R1
  intro R1
  intros
  by_cases h0 : o = true ∧ 8 ≤ p.pg ∧ c = 0
  · have hs := Lib.hid (show svC c p.pg o = 8 from if_pos h0)
    obtain ⟨h1, e1, e2⟩ := h0
    have e2 : (c == 0) = true := by simpa using e2
    cases o
    · cases h1
    clear h1
    go_wp2
    go_end0
    rw [hs.out]
    exact ⟨rfl, (R1.out.setcc cc).setc 8⟩
  · have hs := Lib.hid (show svC c p.pg o = c from if_neg h0)
    cases o
    · clear h0
      go_wp2
      go_end0
      rw [hs.out]
      exact ⟨rfl, R1.out.setcc cc⟩
    · by_cases h1 : 8 ≤ p.pg
      · have e2 : (c == 0) = false := by simp; intro h; exact h0 ⟨rfl, h1, h⟩
        clear h0
        go_wp2
        go_end0
        rw [hs.out]
        exact ⟨rfl, R1.out.setcc cc⟩
      · clear h0
        have h2 : ¬ p.pg ≥ 8 := by omega
        go_wp2
        go_end0
        rw [hs.out]
        exact ⟨rfl, R1.out.setcc cc⟩
theorem rpair_c (h : RS w0 w g G I os rs p q c bs ks) (x y : Int) : Calls Tryz.prog 64 #[.pointer (some ⟨g, 0, none⟩), .int .u32 x, .int .u32 y] w fun e w' => e = .returned (.tuple #[]) ∧ RS w0 w' g G I os ((rs.set I.n x).set ((I.n + 1) % 16) y) p q c bs ks := by
  have R0 := Lib.hid h
  clear h
  go_enter Tryz.func64, Tryz.ntmps64
  go_upto_region 0 with fail
  refine wp_region_held_drew (S := Sx w0 g G I os p) (by kernel_rfl) R0.out.drew.x (fun hHeld => ?_)
  have R1 := Lib.hid R0.out.drew
  repeat refine tkr ?_
  have cS := R1.out.cr (n := I.n) (R1.out.ix.n)
  have fS := R1.out.fz
  refine tkw (R := fun w' => RS w0 w' g G I os (rs.set I.n x) p q c bs ks) (R1.out.setr (R1.out.ix.n) _) (fun _ h => h.x) ?_
  clear cS fS R0 R1 hHeld
  intro w1 R1 hHeld
  refine wpAnyH_done (by kernel_rfl) ?_ _
  go_upto_region 1 with fail
  refine wp_region_held_drew (S := Sx w0 g G I os p) (by kernel_rfl) R1.out.drew.x (fun hHeld => ?_)
  replace R1 := Lib.hid R1.out.drew
  obtain ⟨m, hm⟩ : ∃ m, (I.n + 1) % 16 = m := ⟨_, rfl⟩
  have m0 : m < 16 := by omega
  have m1 : (m : Int) < 16 := by omega
  have e0 : IntKind.i64.wrap ((I.n : Int) + 1) = (I.n : Int) + 1 := wrap_i64_id (by have := R1.out.ix.n; omega) (by have := R1.out.ix.n; omega)
  have e1 : ((I.n : Int) + 1).tmod 16 = (m : Int) := by rw [Int.tmod_eq_emod_of_nonneg (by omega)]; omega
  have HM := Lib.hid hm
  clear hm
  repeat refine tkr ?_
  have cS := R1.out.cr (n := m) (m0)
  have fS := R1.out.fz
  refine tkw (R := fun w' => RS w0 w' g G I os ((rs.set I.n x).set m y) p q c bs ks) (R1.out.setr (m0) _) (fun _ h => h.x) ?_
  clear cS fS R1 hHeld
  intro w1 R1 hHeld
  refine wpAnyH_done (by kernel_rfl) ?_ _
  go_wp2
  go_end0
  rw [HM.out]
  exact ⟨rfl, R1.out⟩
theorem rbranch_a (h : RS w0 w g G I os rs p q c bs ks) (a : Int) (a0 : 0 ≤ a) (a1 : a ≤ 4294967295) : Calls Tryz.prog 57 #[.pointer (some ⟨g, 0, none⟩), .int .i64 a] w fun e w' => e = .returned (.tuple #[]) ∧ RS w0 w' g G I os rs p { q with ad := a % 16777216 } c bs ks := by
  refine h.opn ?_
  clear h
  intro R0
  intros
  go_enter Tryz.func57, Tryz.ntmps57
  go_wp2
  go_end0
  exact ⟨rfl, R0.out.setad _⟩
def tgV (I : In) (os : List Int) : Int := if I.fm = 1 then os.getD I.k 0 else I.a os
def tgB (I : In) : Bool := if I.fm = 1 then decide (I.k ≠ 0) else true
theorem rtarget_c (h : RS w0 w g G I os rs p q c bs ks) : Calls Tryz.prog 54 #[.pointer (some ⟨g, 0, none⟩)] w fun e w' => e = .returned (.tuple #[.int .i64 (tgV I os), .bool (tgB I)]) ∧ RS w0 w' g G I os rs p q c bs ks := by
  obtain ⟨v, hv⟩ : ∃ v, os.getD I.k 0 = v := ⟨_, rfl⟩
  have v0 := getD_in h.ro I.k
  rw [hv] at v0
  have HV := Lib.hid hv
  clear hv
  unfold tgV tgB
  by_cases h1 : I.fm = 1
  · rw [if_pos h1, if_pos h1, HV.out]
    have e1 : (I.fm == 1) = true := by simpa using h1
    obtain ⟨b, hb⟩ : ∃ b, ((I.k : Int) != 0) = b := ⟨_, rfl⟩
    have ew : IntKind.i64.wrap v = v := wrap_i64_id (by omega) (by omega)
    have hb2 : decide (I.k ≠ 0) = b := by rw [← hb, bne, Bool.eq_iff_iff]; simp
    rw [hb2]
    clear h1 hb2
    refine h.opn ?_
    clear h
    intro R0
    intros
    go_enter Tryz.func54, Tryz.ntmps54
    go_upto_region 2 with fail
    refine wp_region_held_drew (S := Sx w0 g G I os p) (by kernel_rfl) R0.out.drew.x (fun hHeld => ?_)
    have R1 := Lib.hid R0.out.drew
    repeat refine tkr ?_
    refine wpAnyH_done (by kernel_rfl) ?_ _
    go_wp2
    exact bodyPost_ret (by simp [results, Tryz.results54, go_sem]) rfl ⟨rfl, R1.out⟩
  · rw [if_neg h1, if_neg h1]
    have e1 : (I.fm == 1) = false := by simpa using h1
    clear h1
    have RA := Lib.hid (fun W hW => ra_c (w0 := w0) (w := W) (g := g) (G := G) (I := I) (os := os) (rs := rs) (p := p) (q := q) (c := c) (bs := bs) (ks := ks) hW)
    refine h.opn ?_
    clear h
    intro R0
    intros
    go_enter Tryz.func54, Tryz.ntmps54
    go_wp2_with (go_at_call 59; refine nx (RA.out _ R0.out) ?_; intro w1 R1)
    go_wp2
    exact bodyPost_ret (by simp [results, Tryz.results54, go_sem]) rfl ⟨rfl, R1.out⟩
end
end Go.Proofs.YthjdjbipfdigeaaGreat

namespace Go.Proofs.YthjdjbipfdigeaaGreat
open Go.RowKit
set_option maxRecDepth 100000
set_option linter.unusedVariables false
set_option linter.unusedSimpArgs false
def ftC (c : Int) (bs ks : List Int) (key a n : Int) : Int := if c = 0 then sCode (alF key) bs.length ks a n else c
def ftB (c : Int) (bs ks : List Int) (key a : Int) (n : Nat) : List Int := if ftC c bs ks key a n = 0 then sGet bs a n else List.replicate n 0
def ptC (c : Int) (bs ks : List Int) (key a n : Int) : Int := if c = 0 then sCode (alP key) bs.length ks a n else c
def ptB (c : Int) (bs ks : List Int) (key a : Int) (ys : List Int) : List Int := if c = 0 then sPut (alP key) bs ks a ys else bs
section
variable {w0 w : World} {g : Nat} {G : Foot} {I : In} {os rs : List Int} {p q : Ps} {c : Int} {bs ks : List Int}
theorem RS.lt (h : RS w0 w g G I os rs p q c bs ks) : g < w.heap.size := h.m.lt
theorem Own.oth {base : Nat} {v : Value} {n : Nat} {zs : List Int} (h : Own w base v n zs) {a : Addr} (x : Value) (ha : a.block < base) : Own (w.setCell a x) base v n zs := by
  rcases h.form with ⟨rfl, rfl⟩ | ⟨b, cap, rfl, hg, -, -, -⟩
  · have := List.eq_nil_of_length_eq_zero h.len
    subst this
    exact Own.nil _ _
  · obtain ⟨cur, h1, h2, h3, h4, h5, h6⟩ := h.heap
    exact Own.of_heap (by rw [Below.heap_setCell w a x b (by omega)]; exact h1) h2 h3 h.len hg h5 h6 h.2
/-- bytes in new memory, beside the machine -/
def FdR (w0 w : World) (g : Nat) (G : Foot) (I : In) (os rs : List Int) (p q : Ps) (c : Int) (bs ks : List Int) (n : Nat) (zs : List Int) (v : Value) (w' : World) : Prop := ∃ b cap, v = .slice (some ⟨b, 0, none⟩) n cap ∧ Own w' w.heap.size v n zs ∧ w.heap.size ≤ b ∧ b < w'.heap.size ∧ RS w0 w' g G I os rs p q c bs ks
theorem rfet_c (h : RS w0 w g G I os rs p q c bs ks) (a : Int) (n : Nat) (n0 : 0 < n) (n1 : n ≤ 1000) : Calls Tryz.prog 70 #[.pointer (some ⟨g, 0, none⟩), .int .i64 a, .int .i64 (n : Int)] w fun e w' => ∃ v, e = .returned v ∧ FdR w0 w g G I os rs p q (ftC c bs ks p.key a n) bs ks n (ftB c bs ks p.key a n) v w' := by
  have hmk := fun W => run_mk_b n (by omega) W
  by_cases h0 : c = 0
  · subst h0
    have f1 : ftC 0 bs ks p.key a n = sCode (alF p.key) bs.length ks a n := if_pos rfl
    unfold ftB
    rw [f1]
    have FC := Lib.hid (rfetch_c w.drew (h.st.drewN 1) a n p.key)
    obtain ⟨cd, hcd⟩ : ∃ x, sCode (alF p.key) bs.length ks a n = x := ⟨_, rfl⟩
    have hsf : sFet (alF p.key) bs ks a n = if cd = 0 then sGet bs a n else [] := by unfold sFet; rw [hcd]
    rw [hcd] at FC ⊢
    rw [hsf] at FC
    have hgl : cd = 0 → (sGet bs a n).length = n := by
      intro hz
      have h1 := sCode_zero (hcd.trans hz)
      obtain ⟨_, _, _, _⟩ := sIn_yes h1
      unfold sGet; rw [if_pos h1]; simp; omega
    clear hcd hsf f1
    have HL := Lib.hid hgl
    clear hgl
    refine h.opn ?_
    clear h
    intro R0
    intros
    go_enter Tryz.func70, Tryz.ntmps70
    go_upto_region 3 with fail
    refine wp_region_held_drew (S := Sx w0 g G I os p) (by kernel_rfl) R0.out.drew.x (fun hHeld => ?_)
    have R1 := Lib.hid R0.out.drew
    repeat refine tkr ?_
    have HG := Lib.hid R0.out.lt
    refine tkce (R := fun v w' => ∃ A m cap, v = .tuple #[.slice A m cap, .int .i64 cd] ∧ Own w' w.heap.size (.slice A m cap) m (if cd = 0 then sGet bs a n else []) ∧ RS w0 w' g G I os rs p q 0 bs ks ∧ w.heap.size ≤ w'.heap.size) (FC.out.mono ?_) (fun _ _ ⟨_, _, _, _, _, h, _⟩ => h.x) ?_
    · rintro e w' ⟨A, m, cap, rfl, hO, hb⟩
      exact ⟨_, rfl, A, m, cap, rfl, hO, R1.out.keep hb, hb.size⟩
    clear hHeld R0 R1 FC
    intro v w1 R1 hHeld
    obtain ⟨A, m, cap, rfl, hO, hR, hz⟩ := R1.out
    have HZ := Lib.hid hz
    have O1 := Lib.hid hO
    replace R1 := Lib.hid hR
    clear hO hR hz
    repeat refine tkr ?_
    refine wpAnyH_done (by kernel_rfl) ?_ _
    have hc := R1.out.cc
    have hf := R1.out.fz
    by_cases hz : cd = 0
    · subst hz
      rw [if_pos rfl] at O1
      go_wp2
      go_ret
      have hm : m = n := by have := O1.out.len; rw [HL.out trivial] at this; exact this.symm
      subst hm
      obtain ⟨b, cap', hv, h1, h2, -, -⟩ := O1.out.pos n0
      injection hv with e1 e2 e3
      subst e1 e3
      exact ⟨_, rfl, b, _, rfl, O1.out.oth _ HG.out, h1, by simpa using h2, R1.out.setc 0⟩
    · have e1 : (cd != 0) = true := by simpa using hz
      go_wp2
      go_ret
      exact ⟨_, rfl, _, _, rfl, (by have := own_zeros (w1.setCell ⟨g, 65, none⟩ (.int .i64 cd)) n w.heap.size (by simpa using HZ.out) (by unfold maxLen; omega); simpa using this), by simpa using HZ.out, by simp, (R1.out.setc cd).keep ((Below.refl _ _).alloc (Nat.le_refl _) _)⟩
  · have f1 : ftC c bs ks p.key a n = c := if_neg h0
    unfold ftB
    rw [f1, if_neg h0]
    have e1 : (c != 0) = true := by simpa using h0
    clear h0
    refine h.opn ?_
    clear h f1
    intro R0
    intros
    go_enter Tryz.func70, Tryz.ntmps70
    go_wp2
    go_ret
    exact ⟨_, rfl, _, _, rfl, own_zeros w n _ (Nat.le_refl _) (by unfold maxLen; omega), Nat.le_refl _, by simp, R0.out.keep ((Below.refl _ _).alloc (Nat.le_refl _) _)⟩
theorem rputm_c (h : RS w0 w g G I os rs p q c bs ks) (a : Int) (A : Option Addr) (len cap : Nat) (ys : List Int) (hy : Byt w A len ys) (hl : (len : Int) ≤ 9223372036854775807) (hA : 0 < len → ∀ x, A = some x → x.block ≠ G.gb) : Calls Tryz.prog 68 #[.pointer (some ⟨g, 0, none⟩), .int .i64 a, .slice A len cap] w fun e w' => e = .returned (.tuple #[]) ∧ RS w0 w' g G I os rs p q (ptC c bs ks p.key a len) (ptB c bs ks p.key a ys) ks := by
  by_cases h0 : c = 0
  · subst h0
    rw [show ptC 0 bs ks p.key a len = sCode (alP p.key) bs.length ks a len from if_pos rfl, show ptB 0 bs ks p.key a ys = sPut (alP p.key) bs ks a ys from if_pos rfl]
    have FC := Lib.hid (rput_c w.drew (h.st.drewN 1) a p.key A len cap ys (hy.keep (below_draw w 1)) hl hA)
    obtain ⟨cd, hcd⟩ : ∃ x, sCode (alP p.key) bs.length ks a len = x := ⟨_, rfl⟩
    obtain ⟨b', hb'⟩ : ∃ x, sPut (alP p.key) bs ks a ys = x := ⟨_, rfl⟩
    rw [hcd, hb'] at FC ⊢
    clear hcd hb' hy hl hA
    refine h.opn ?_
    clear h
    intro R0
    intros
    go_enter Tryz.func68, Tryz.ntmps68
    go_upto_region 1 with fail
    refine wp_region_held_drew (S := Sx w0 g G I os p) (by kernel_rfl) R0.out.drew.x (fun hHeld => ?_)
    have R1 := Lib.hid R0.out.drew
    repeat refine tkr ?_
    refine tkc (v := .int .i64 cd) (R := fun w' => RS w0 w' g G I os rs p q 0 b' ks) (FC.out.mono ?_) (fun _ h => h.x) ?_
    · rintro e w' ⟨rfl, hs, hg⟩
      exact ⟨rfl, R1.out.put_ hs hg⟩
    clear hHeld R0 R1 FC
    intro w1 R1 hHeld
    repeat refine tkr ?_
    have hc := R1.out.cc
    have hf := R1.out.fz
    refine tkw (R := fun w' => RS w0 w' g G I os rs p q cd b' ks) (R1.out.setc cd) (fun _ h => h.x) ?_
    clear hc hf R1 hHeld
    intro w1 R1 hHeld
    refine wpAnyH_done (by kernel_rfl) ?_ _
    go_wp2
    go_end0
    exact ⟨rfl, R1.out⟩
  · rw [show ptC c bs ks p.key a len = c from if_neg h0, show ptB c bs ks p.key a ys = bs from if_neg h0]
    have e1 : (c == 0) = false := by simpa using h0
    clear h0 hy hl hA
    refine h.opn ?_
    clear h
    intro R0
    intros
    go_enter Tryz.func68, Tryz.ntmps68
    go_wp2
    go_end0
    exact ⟨rfl, R0.out⟩
end
end Go.Proofs.YthjdjbipfdigeaaGreat

namespace Go.Proofs.YthjdjbipfdigeaaGreat
open Go.RowKit
theorem hout {p : Prop} (h : Hid p := by assumption) : p := h.out
theorem nxf {w0 w : World} {g : Nat} {G : Foot} {I : In} {os rs : List Int} {p q : Ps} {c : Int} {bs ks : List Int} {P : Program} {f : FuncId} {args : Array Value} {n : Nat} {zs : List Int} {Q : Ending → World → Prop} (hc : Calls P f args w fun e w' => ∃ v, e = .returned v ∧ FdR w0 w g G I os rs p q c bs ks n zs v w')
    (h : ∀ b cap w', Hid (Own w' w.heap.size (.slice (some ⟨b, 0, none⟩) n cap) n zs) → w.heap.size ≤ b → b < w'.heap.size → Hid (RS w0 w' g G I os rs p q c bs ks) → Q (.returned (.slice (some ⟨b, 0, none⟩) n cap)) w') : Calls P f args w Q :=
  nxe hc fun v w' F => by
    obtain ⟨b, cap, rfl, hO, h1, h2, hR⟩ := F.out
    exact h b cap w' (Lib.hid hO) h1 h2 (Lib.hid hR)
end Go.Proofs.YthjdjbipfdigeaaGreat

namespace Go.Proofs.YthjdjbipfdigeaaGreat
open Go.RowKit Go.Shelf
set_option maxRecDepth 100000
set_option linter.unusedVariables false
set_option linter.unusedSimpArgs false
attribute [local go_sem] Oper.semAt_some

/-- a one-cell block that is new, and its cell behind later blocks -/
theorem cell_new_l (W : World) (v : Value) (t : TypeId) : (W.alloc (.cells #[v] t)).cell? ⟨W.heap.size, 0, none⟩ = some v ∧ (W.alloc (.cells #[v] t)).frozen? ⟨W.heap.size, 0, none⟩ = false :=
  ⟨by simp, by simp⟩
theorem cell_alloc_l {W : World} {a : Addr} {v : Value} (o : Obj) (h : W.cell? a = some v) : (W.alloc o).cell? a = some v := cell_kept h (World.grownBy_alloc W o none) (fun r e => by cases e)
theorem frozen_alloc_l {W : World} {a : Addr} {v : Value} (o : Obj) (h : W.cell? a = some v) (hf : W.frozen? a = false) : (W.alloc o).frozen? a = false := (frozen_kept h (World.grownBy_alloc W o none) (fun r e => by cases e)).trans hf

/-- how many blocks a range touches, and their keys -/
def tC (a k : Nat) : Nat := if k = 0 then 0 else (a + k - 1) / 2048 + 1 - a / 2048
/-- a key's number -/
abbrev K31 := { x : Int // 0 ≤ x ∧ x ≤ 31 }
def tK (ks : List Int) (a c : Nat) : List Int := (List.range c).map fun j => ks.getD (a / 2048 + j) 0
theorem tK_succ (ks : List Int) (a c : Nat) : tK ks a (c + 1) = tK ks a c ++ [ks.getD (a / 2048 + c) 0] := by simp [tK, List.range_succ]
theorem tK_len (ks : List Int) (a c : Nat) : (tK ks a c).length = c := by simp [tK]
theorem tK_sub {ks : List Int} {a c d : Nat} (h : c ≤ d) {z : Int} (hz : z ∈ tK ks a c) : z ∈ tK ks a d := by
  obtain ⟨j, hj, rfl⟩ := List.mem_map.1 hz
  exact List.mem_map.2 ⟨j, List.mem_range.2 (Nat.lt_of_lt_of_le (List.mem_range.1 hj) h), rfl⟩
theorem okB_tK (al : Int → Bool) (ks : List Int) (a k : Nat) : okB al ks a k = (tK ks a (tC a k)).all al := by
  rw [Bool.eq_iff_iff]
  unfold okB tK
  rw [List.all_eq_true, List.all_eq_true]
  constructor
  · intro h x hx
    obtain ⟨j, hj, rfl⟩ := List.mem_map.1 hx
    rw [List.mem_range] at hj
    have hk : k ≠ 0 := by rintro rfl; simp [tC] at hj
    unfold tC at hj
    rw [if_neg hk] at hj
    by_cases hc : (a / 2048 + j) * 2048 ≤ a
    · have h1 := h 0 (List.mem_range.2 (by omega))
      rwa [show (a + 0) / 2048 = a / 2048 + j from by omega] at h1
    · have h1 := h ((a / 2048 + j) * 2048 - a) (List.mem_range.2 (by omega))
      rwa [show (a + ((a / 2048 + j) * 2048 - a)) / 2048 = a / 2048 + j from by omega] at h1
  · intro h j hj
    rw [List.mem_range] at hj
    have h1 := h (ks.getD (a / 2048 + ((a + j) / 2048 - a / 2048)) 0) (List.mem_map.2 ⟨(a + j) / 2048 - a / 2048, List.mem_range.2 (by unfold tC; rw [if_neg (by omega)]; omega), rfl⟩)
    rwa [show a / 2048 + ((a + j) / 2048 - a / 2048) = (a + j) / 2048 from by omega] at h1

theorem put1_c (Kb : Nat) (k key : Int) (hk : 0 ≤ k) (hk' : k ≤ 31) (w : World) (hc : w.cell? ⟨Kb, 0, none⟩ = some (.int .i64 key)) : Calls Tryz.prog 36 #[.int .i64 k, .pointer (some ⟨Kb, 0, none⟩)] w fun e w' => e = .returned (.bool (alP key k)) ∧ w = w' := by
  by_cases q0 : key = 0
  · subst q0
    have hr := Lib.hid (show alP 0 k = true from by simp [alP] <;> omega)
    go_enter Tryz.func36, Tryz.ntmps36
    go_wp2
    go_ret
    exact ⟨by rw [hr.out]; rfl, rfl⟩
  have e1 : (key == 0) = false := by simpa using q0
  by_cases q1 : key = k / 2
  · have e2 : (key == k / 2) = true := by rw [beq_iff_eq]; exact q1
    have hr := Lib.hid (show alP key k = true from by simp [alP] <;> omega)
    clear q1
    go_enter Tryz.func36, Tryz.ntmps36
    go_wp2
    go_ret
    exact ⟨by rw [hr.out]; rfl, rfl⟩
  have e2 : (key == k / 2) = false := by rw [beq_eq_false_iff_ne]; exact q1
  have hr := Lib.hid (show alP key k = false from by simp [alP] <;> omega)
  clear q0 q1
  go_enter Tryz.func36, Tryz.ntmps36
  go_wp2
  go_ret
  exact ⟨by rw [hr.out]; rfl, rfl⟩

theorem fetch1_c (Kb : Nat) (k key : Int) (hk : 0 ≤ k) (hk' : k ≤ 31) (w : World) (hc : w.cell? ⟨Kb, 0, none⟩ = some (.int .i64 key)) : Calls Tryz.prog 168 #[.int .i64 k, .pointer (some ⟨Kb, 0, none⟩)] w fun e w' => e = .returned (.bool (alF key k)) ∧ w = w' := by
  by_cases q0 : key = 0
  · subst q0
    have hr := Lib.hid (show alF 0 k = true from by simp [alF] <;> omega)
    go_enter Tryz.func168, Tryz.ntmps168
    go_wp2
    go_ret
    exact ⟨by rw [hr.out]; rfl, rfl⟩
  have e1 : (key == 0) = false := by simpa using q0
  by_cases q1 : key = k / 2
  · have e2 : (key == k / 2) = true := by rw [beq_iff_eq]; exact q1
    have hr := Lib.hid (show alF key k = true from by simp [alF] <;> omega)
    clear q1
    go_enter Tryz.func168, Tryz.ntmps168
    go_wp2
    go_ret
    exact ⟨by rw [hr.out]; rfl, rfl⟩
  have e2 : (key == k / 2) = false := by rw [beq_eq_false_iff_ne]; exact q1
  by_cases q2 : k % 2 = 0
  · have e3 : (k % 2 == 0) = true := by rw [beq_iff_eq]; exact q2
    have hr := Lib.hid (show alF key k = true from by simp [alF] <;> omega)
    clear q2
    go_enter Tryz.func168, Tryz.ntmps168
    go_wp2
    go_ret
    exact ⟨by rw [hr.out]; rfl, rfl⟩
  have e3 : (k % 2 == 0) = false := by rw [beq_eq_false_iff_ne]; exact q2
  have hr := Lib.hid (show alF key k = false from by simp [alF] <;> omega)
  clear q0 q1
  go_enter Tryz.func168, Tryz.ntmps168
  go_wp2
  go_ret
  exact ⟨by rw [hr.out]; rfl, rfl⟩

theorem touched_c (p : Value) (a k : Int) (hp : ∃ x, p = .pointer x) (w : World) : Calls Tryz.prog 89 #[p, .int .i64 a, .int .i64 k] w fun e w' => e = .returned (.func (.func 151) #[] #[.pointer (some ⟨w.heap.size + 1 + 1, 0, none⟩), .pointer (some ⟨w.heap.size + 1, 0, none⟩), .pointer (some ⟨w.heap.size, 0, none⟩)]) ∧ w' = ((w.alloc (.cells #[p] 35)).alloc (.cells #[.int .i64 a] 3)).alloc (.cells #[.int .i64 k] 3) := by
  obtain ⟨x, rfl⟩ := hp
  go_enter Tryz.func89, Tryz.ntmps89
  go_wp2
  go_ret
  exact ⟨rfl, rfl⟩

set_option maxRecDepth 100000 in
set_option maxHeartbeats 2000000 in
theorem touched1_stops (n : Nat) (hn : 1 ≤ n) {F : Foot} {bs ks : List Int} (a k Bn Ba Bs n₀ : Nat) (w : World) (h : St 77 w F bs ks) (hak : a + k ≤ bs.length) (hg : F.g < n₀) (hk : F.gk < n₀) (h1 : Bn < n₀) (h2 : Ba < n₀) (h3 : Bs < n₀) (hn₀ : n₀ ≤ w.heap.size)
    (c1 : w.cell? ⟨Bn, 0, none⟩ = some (.int .i64 k)) (c2 : w.cell? ⟨Ba, 0, none⟩ = some (.int .i64 a)) (c3 : w.cell? ⟨Bs, 0, none⟩ = some (.pointer (some ⟨F.g, 0, none⟩))) :
    SeqStopsK Fence.wide n Tryz.prog 151 #[.pointer (some ⟨Bn, 0, none⟩), .pointer (some ⟨Ba, 0, none⟩), .pointer (some ⟨Bs, 0, none⟩)] (fun x : K31 => #[Value.int .i64 x.1]) (Below n₀) (fun ys => ys.map (·.1) = tK ks a (tC a k)) (fun pre => ∃ c, c ≤ tC a k ∧ pre.map (·.1) = tK ks a c) (tC a k) w := fun l J Jx W hW _ _ hY h0 => by
  have hB0 : Below n₀ w W := hW.mono hn₀
  have C1 := (hB0.cell (p := ⟨Bn, 0, none⟩) h1).trans c1
  have C2 := (hB0.cell (p := ⟨Ba, 0, none⟩) h2).trans c2
  have l0 := h.ln
  have l1 := h.l1
  have ak : (a : Int) + (k : Int) ≤ 65536 := by omega
  refine callsIn_of_wp Tryz.func151 rfl trivial ?_ rfl
  simp only [Tryz.ntmps151, List.size_toArray, List.length_cons, List.length_nil, Nat.reduceAdd, Nat.reduceSub, Array.replicate_succ, Array.replicate_zero, List.push_toArray, List.append_toArray, List.nil_append, List.cons_append]
  by_cases hk0 : k = 0
  · subst hk0
    have z : tK ks a (tC a 0) = [] := rfl
    gi_wp2
    refine bodyPost_ret (results_none rfl _ _ _) rfl ?_
    exact ⟨⟨_, rfl⟩, .inl (by first | exact ⟨[], z.symm, h0⟩ | exact ⟨[], rfl, h0⟩ | exact h0)⟩
  have e0 : ((k : Int) == 0) = false := by rw [beq_eq_false_iff_ne]; omega
  have hC : tC a k = (a + k - 1) / 2048 + 1 - a / 2048 := by unfold tC; rw [if_neg hk0]
  have HC := Lib.hid hC
  have k1 : (1 : Int) ≤ (k : Int) := by omega
  clear hC hk0
  gi_wp2
  gi_loopw [5] (fun iv wr => ∃ (x : Nat) (pre : List K31), a / 2048 ≤ x ∧ x ≤ a / 2048 + tC a k ∧ iv = .int .i64 x ∧ pre.map (·.1) = tK ks a (x - a / 2048) ∧ J pre wr ∧ Below n₀ w wr) (fun iv _ => a / 2048 + tC a k - (intOf iv).toNat)
  case atStart => exact ⟨a / 2048, [], Nat.le_refl _, by omega, by simp, by rw [Nat.sub_self]; rfl, h0, hB0⟩
  case round =>
    obtain ⟨x, pre, x0, x1, rfl, hpre, hJs, hnx⟩ := hrel
    have PR := Lib.hid hpre
    have PL := Lib.hid (show pre.length = x - a / 2048 from by have := congrArg List.length hpre; rwa [List.length_map, tK_len] at this)
    clear hpre
    have D1 := (hnx.cell (p := ⟨Bn, 0, none⟩) h1).trans c1
    have D2 := (hnx.cell (p := ⟨Ba, 0, none⟩) h2).trans c2
    have D3 := (hnx.cell (p := ⟨Bs, 0, none⟩) h3).trans c3
    have D4 := (hnx.cell (p := ⟨F.g, 1, none⟩) hg).trans h.cell1
    obtain ⟨m, hm⟩ : ∃ m, ks.length = m := ⟨_, rfl⟩
    rw [hm] at D4 l0 l1
    by_cases hlt : (x : Int) ≤ ((a : Int) + (k : Int) - 1) / 2048
    · have xm : (x : Int) < (m : Int) := by omega
      have D5 := (hnx.cell (p := ⟨F.gk, x, none⟩) hk).trans (h.key (i := x) (by rw [hm]; omega))
      obtain ⟨kv, hkv⟩ : ∃ kv, ks.getD x 0 = kv := ⟨_, rfl⟩
      rw [hkv] at D5
      obtain ⟨kv', hkv'⟩ : ∃ kv' : K31, kv'.1 = kv := ⟨⟨kv, by rw [← hkv]; exact h.keyr x⟩, rfl⟩
      obtain ⟨fn, tmps, assign, body, hy, hR⟩ := hY pre kv' wr hJs (by rw [PL.out]; have := HC.out; omega)
      rw [hkv'] at hy
      have st := Lib.hid (show (pre ++ [kv']).map (·.1) = tK ks a (x + 1 - a / 2048) from by rw [List.map_append, PR.out, List.map_cons, List.map_nil, hkv', show x + 1 - a / 2048 = (x - a / 2048) + 1 from by omega, tK_succ, show a / 2048 + (x - a / 2048) = x from by omega, hkv])
      have X := Lib.hid (And.intro x0 x1)
      have HM := Lib.hid hm
      have LN := Lib.hid l0
      clear hkv hkv' hm l0
      gi_wp2
      refine hR.mono ?_
      rintro e W3 (⟨rfl, hJ3, hk3⟩ | ⟨rfl, hJx3⟩)
      · gi_wp2
        go_roundw
        case rel => exact ⟨x + 1, pre ++ [kv'], by omega, by have := HC.out; omega, by go_num, st.out, hJ3, hnx.trans hk3⟩
        case measure => simp [intOf]; have := HC.out; omega
      · gi_wp2
        refine bodyPost_ret (results_none rfl _ _ _) rfl ?_
        exact ⟨⟨_, rfl⟩, .inr ⟨_, ⟨x + 1 - a / 2048, by have := HC.out; omega, st.out⟩, hJx3⟩⟩
    · have fin : x - a / 2048 = tC a k := by have := HC.out; omega
      have PF := Lib.hid (show pre.map (·.1) = tK ks a (tC a k) from by rw [← fin]; exact PR.out)
      clear fin
      gi_wp2
      go_end0
      exact ⟨⟨_, rfl⟩, .inl ⟨pre, PF.out, hJs⟩⟩

set_option maxRecDepth 100000 in
set_option maxHeartbeats 4000000 in
theorem check_p {F : Foot} {bs ks : List Int} (addr n key : Int) (Kb : Nat) (w : World) (h : St 77 w F bs ks) (hc : w.cell? ⟨Kb, 0, none⟩ = some (.int .i64 key)) :
    Calls Tryz.prog 35 #[.pointer (some ⟨F.g, 0, none⟩), .int .i64 addr, .int .i64 n, .func (.func 36) #[] #[.pointer (some ⟨Kb, 0, none⟩)]] w fun e w' => e = .returned (.int .i64 (sCode (alP key) bs.length ks addr n)) ∧ Below w.heap.size w w' := by
  obtain ⟨N, hN⟩ : ∃ N, bs.length = N := ⟨_, rfl⟩
  have H := Lib.hid h
  have HN := Lib.hid hN
  rw [hN]
  clear hN h
  have kl : Kb < w.heap.size := by
    rcases Nat.lt_or_ge Kb w.heap.size with h2 | h2
    · exact h2
    · unfold World.cell? at hc; simp only [Array.getElem?_eq_none h2] at hc; cases hc
  refine (callsIn_wide (n := 5)).1 ?_
  refine callsIn_of_wp_marks Tryz.func35 rfl trivial ?_ rfl
  simp only [Tryz.ntmps35, List.size_toArray, List.length_cons, List.length_nil, Nat.reduceAdd, Nat.reduceSub, Array.replicate_succ, Array.replicate_zero, List.push_toArray, List.append_toArray, List.nil_append, List.cons_append]
  cases hi : sIn N addr n
  · rw [sCode_no hi]
    gi_wp2_with (refine ⟨trivial, ?_⟩; gi_at_call 88; refine (callsIn_wide.2 (in_c _ ((H.out.alloc _).alloc _) _ _)).mono ?_; rintro e w1 ⟨rfl, rfl⟩; rw [HN.out, hi])
    refine ⟨.int .i64 5, by simp [results, Tryz.results35, go_sem], rfl, ((Below.refl w.heap.size w).alloc (Nat.le_refl _) _).alloc (by simp) _⟩
  obtain ⟨b0, b1, b2, b3⟩ := sIn_yes hi
  obtain ⟨a, rfl⟩ := Int.eq_ofNat_of_zero_le b0
  obtain ⟨k, rfl⟩ := Int.eq_ofNat_of_zero_le b1
  rw [sCode_yes hi]
  obtain ⟨r, hr⟩ : ∃ r : Int, (if okB (alP key) ks a k = true then 0 else 4) = r := ⟨_, rfl⟩
  rw [hr]
  have HR := Lib.hid hr
  clear hr
  have hak : a + k ≤ bs.length := by rw [HN.out]; omega
  gi_wp2_with (refine ⟨trivial, ?_⟩; first | (gi_at_call 88; refine (callsIn_wide.2 (in_c _ ((H.out.alloc _).alloc _) _ _)).mono ?_; rintro e w1 ⟨rfl, rfl⟩; rw [HN.out, hi]) | (gi_at_call 89; refine (callsIn_wide.2 (touched_c _ _ _ ⟨_, rfl⟩ _)).mono ?_; rintro e w1 ⟨rfl, rfl⟩))
  obtain ⟨W0, hW0⟩ : ∃ W0, (((((w.alloc (.cells #[.func (.func 36) #[] #[.pointer (some ⟨Kb, 0, none⟩)]] 56)).alloc (.cells #[.int .i64 0] 3)).alloc (.cells #[.pointer (some ⟨F.g, 0, none⟩)] 35)).alloc (.cells #[.int .i64 a] 3)).alloc (.cells #[.int .i64 k] 3)) = W0 := ⟨_, rfl⟩
  rw [hW0]
  have hz : W0.heap.size = w.heap.size + 5 := by rw [← hW0]; simp
  have hB0 : Below w.heap.size w W0 := by rw [← hW0]; exact (((((Below.refl w.heap.size w).alloc (Nat.le_refl _) _).alloc (by simp) _).alloc (by simp; omega) _).alloc (by simp; omega) _).alloc (by simp; omega) _
  have q0 := cell_new_l w (.func (.func 36) #[] #[.pointer (some ⟨Kb, 0, none⟩)]) 56
  have q1 := cell_new_l (w.alloc (.cells #[.func (.func 36) #[] #[.pointer (some ⟨Kb, 0, none⟩)]] 56)) (.int .i64 0) 3
  have q2 := cell_new_l ((w.alloc (.cells #[.func (.func 36) #[] #[.pointer (some ⟨Kb, 0, none⟩)]] 56)).alloc (.cells #[.int .i64 0] 3)) (.pointer (some ⟨F.g, 0, none⟩)) 35
  have q3 := cell_new_l (((w.alloc (.cells #[.func (.func 36) #[] #[.pointer (some ⟨Kb, 0, none⟩)]] 56)).alloc (.cells #[.int .i64 0] 3)).alloc (.cells #[.pointer (some ⟨F.g, 0, none⟩)] 35)) (.int .i64 a) 3
  have q4 := cell_new_l ((((w.alloc (.cells #[.func (.func 36) #[] #[.pointer (some ⟨Kb, 0, none⟩)]] 56)).alloc (.cells #[.int .i64 0] 3)).alloc (.cells #[.pointer (some ⟨F.g, 0, none⟩)] 35)).alloc (.cells #[.int .i64 a] 3)) (.int .i64 k) 3
  simp only [World.size_alloc] at q1 q2 q3 q4
  have k0 : W0.cell? ⟨w.heap.size, 0, none⟩ = some (.func (.func 36) #[] #[.pointer (some ⟨Kb, 0, none⟩)]) := by rw [← hW0]; exact cell_alloc_l _ (cell_alloc_l _ (cell_alloc_l _ (cell_alloc_l _ q0.1)))
  have k1 : W0.cell? ⟨w.heap.size + 1, 0, none⟩ = some (.int .i64 0) := by rw [← hW0]; exact cell_alloc_l _ (cell_alloc_l _ (cell_alloc_l _ q1.1))
  have f1 : W0.frozen? ⟨w.heap.size + 1, 0, none⟩ = false := by rw [← hW0]; exact frozen_alloc_l _ (cell_alloc_l _ (cell_alloc_l _ q1.1)) (frozen_alloc_l _ (cell_alloc_l _ q1.1) (frozen_alloc_l _ q1.1 q1.2))
  have k2 : W0.cell? ⟨w.heap.size + 1 + 1, 0, none⟩ = some (.pointer (some ⟨F.g, 0, none⟩)) := by rw [← hW0]; exact cell_alloc_l _ (cell_alloc_l _ q2.1)
  have k3 : W0.cell? ⟨w.heap.size + 1 + 1 + 1, 0, none⟩ = some (.int .i64 a) := by rw [← hW0]; exact cell_alloc_l _ q3.1
  have k4 : W0.cell? ⟨w.heap.size + 1 + 1 + 1 + 1, 0, none⟩ = some (.int .i64 k) := by rw [← hW0]; exact q4.1
  have k5 : W0.cell? ⟨Kb, 0, none⟩ = some (.int .i64 key) := (hB0.cell (p := ⟨Kb, 0, none⟩) kl).trans hc
  have HS := Lib.hid (H.out.belowS hB0)
  have lg := H.out.ltg
  have lk := H.out.ltk
  skip
  refine wpIn_rangeFunc_ownF rfl (by omega) (gf := 151) (lb := #[.pointer (some ⟨w.heap.size + 1 + 1 + 1 + 1, 0, none⟩), .pointer (some ⟨w.heap.size + 1 + 1 + 1, 0, none⟩), .pointer (some ⟨w.heap.size + 1 + 1, 0, none⟩)]) rfl trivial (enters_of Tryz.func151 (by kernel_rfl) rfl)
    (touched1_stops (5 - 1) (by omega) a k (w.heap.size + 1 + 1 + 1 + 1) (w.heap.size + 1 + 1 + 1) (w.heap.size + 1 + 1) (w.heap.size + 5) W0 HS.out hak (by omega) (by omega) (by omega) (by omega) (by omega) (by omega) k4 k3 k2) belowK_t (belowK_b (by omega)) (Below.refl _ _) (fun _ => rfl)
    (fun pre W => ((∀ y ∈ pre, alP key y.1 = true) ∧ W.cell? ⟨w.heap.size, 0, none⟩ = some (.func (.func 36) #[] #[.pointer (some ⟨Kb, 0, none⟩)]) ∧ W.cell? ⟨w.heap.size + 1, 0, none⟩ = some (.int .i64 0) ∧ W.frozen? ⟨w.heap.size + 1, 0, none⟩ = false ∧ W.cell? ⟨Kb, 0, none⟩ = some (.int .i64 key)) ∧ Below w.heap.size w W)
    (fun c pre W => (c = .ret ∧ (∃ y ∈ pre, alP key y.1 = false) ∧ W.cell? ⟨w.heap.size + 1, 0, none⟩ = some (.int .i64 4)) ∧ Below w.heap.size w W)
    (OwnFrom.and (Own.from (fun s A B row hs hg hr => ⟨hs.1, cell_kept hs.2.1 hg hr, cell_kept hs.2.2.1 hg hr, (frozen_kept hs.2.2.1 hg hr).trans hs.2.2.2.1, cell_kept hs.2.2.2.2 hg hr⟩) _) (ownFrom_below (Nat.le_refl _) (by omega)))
    (fun c => OwnFrom.and (Own.from (fun s A B row hs hg hr => ⟨hs.1, hs.2.1, cell_kept hs.2.2 hg hr⟩) _) (ownFrom_below (Nat.le_refl _) (by omega)))
    ⟨⟨by simp, k0, k1, f1, k5⟩, hB0⟩
    (fun x => { tmps := #[.pointer (some ⟨F.g, 0, none⟩), .int .i64 a, .int .i64 k, .func (.func 36) #[] #[.pointer (some ⟨Kb, 0, none⟩)], undef, undef, undef, .pointer (some ⟨w.heap.size, 0, none⟩), .pointer (some ⟨w.heap.size + 1, 0, none⟩), .int .i64 x.1, .pointer (some ⟨F.g, 0, none⟩), .int .i64 a, .int .i64 k, .bool true, .bool false, .pointer (some ⟨F.g, 0, none⟩), .int .i64 a, .int .i64 k, .func (.func 151) #[] #[.pointer (some ⟨w.heap.size + 1 + 1 + 1 + 1, 0, none⟩), .pointer (some ⟨w.heap.size + 1 + 1 + 1, 0, none⟩), .pointer (some ⟨w.heap.size + 1 + 1, 0, none⟩)], .int .i64 x.1, undef, undef, undef, undef], defers := [] }) ?assign ?body ?done ?stop
  case assign =>
    intro l x W K hK
    gi_wp2
    exact hK
  case body =>
    rintro l pre x W ⟨⟨hal, hclo, hres, hfr, hkey⟩, hB⟩ hlen
    cases hx : alP key x.1
    · gi_wp2_with (refine ⟨trivial, ?_⟩; gi_at_call 36; refine (CallsIn.inRound l (callsIn_wide.2 (put1_c Kb _ key x.2.1 x.2.2 _ hkey))).mono ?_; rintro e w1 ⟨rfl, rfl⟩; rw [hx])
      exact ⟨KeepsOthers.setCell _ _ _, ⟨rfl, ⟨x, by simp, hx⟩, World.cell?_setCell_same' _ _ _ (by rw [hres]; rfl)⟩, hB.setCell (p := ⟨w.heap.size + 1, 0, none⟩) (by simp) _⟩
    · gi_wp2_with (refine ⟨trivial, ?_⟩; gi_at_call 36; refine (CallsIn.inRound l (callsIn_wide.2 (put1_c Kb _ key x.2.1 x.2.2 _ hkey))).mono ?_; rintro e w1 ⟨rfl, rfl⟩; rw [hx])
      refine ⟨KeepsOthers.refl _, Below.refl _ _, ⟨?_, hclo, hres, hfr, hkey⟩, hB⟩
      intro y hy
      rcases List.mem_append.1 hy with h1 | h1
      · exact hal y h1
      · rw [List.mem_singleton] at h1; rw [h1]; exact hx
  case done =>
    rintro D ys W hD hys ⟨⟨hal, hclo, hres, hfr, hkey⟩, hB⟩ hK
    have hok : okB (alP key) ks a k = true := by
      rw [okB_tK, ← hys, List.all_eq_true]
      intro z hz
      obtain ⟨y, hy, rfl⟩ := List.mem_map.1 hz
      exact hal y hy
    have fin := Lib.hid (show (0 : Int) = r from by rw [← HR.out, hok]; rfl)
    clear hok
    gi_wp2
    have hK' := (KeepsOthers.setCell W ⟨w.heap.size + 1, 0, none⟩ (.int .i64 0)).same D _ hK rfl
    refine ⟨by simp, .inl ⟨_, _, rfl, run_takeDeferred hK', ?_⟩⟩
    have hc5 := cell_kept (World.cell?_setCell_same' W ⟨w.heap.size + 1, 0, none⟩ (.int .i64 0) (by rw [hres]; rfl)) (grownBy_putObj' _ D (.deferred none)) (fun r e => by cases e; exact ⟨_, hK', rfl⟩)
    refine ⟨.int .i64 0, ?_, by rw [fin.out], (hB.setCell (p := ⟨w.heap.size + 1, 0, none⟩) (by simp) _).trans (belowK_b (w := w) (Nat.le_refl _) _ D _ _ (by omega) hK' rfl rfl)⟩
    simp [results, Tryz.results35, go_sem, hc5]
  case stop =>
    rintro D c pre W hD ⟨cc, hcc, hpre⟩ ⟨⟨rfl, ⟨y, hy, hf⟩, hres⟩, hB⟩ hK
    have hok : okB (alP key) ks a k = false := by
      rw [okB_tK, Bool.eq_false_iff]
      intro h1
      rw [List.all_eq_true] at h1
      have h2 := h1 y.1 (tK_sub hcc (by rw [← hpre]; exact List.mem_map.2 ⟨y, hy, rfl⟩))
      rw [hf] at h2; cases h2
    have fin := Lib.hid (show (4 : Int) = r from by rw [← HR.out, hok]; rfl)
    clear hok
    gi_wp2
    refine ⟨by simp, .inl ⟨_, _, rfl, run_takeDeferred hK, ?_⟩⟩
    have hc5 := cell_kept hres (grownBy_putObj' _ D (.deferred none)) (fun r e => by cases e; exact ⟨_, hK, rfl⟩)
    refine ⟨.int .i64 4, ?_, by rw [fin.out], hB.trans (belowK_b (w := w) (Nat.le_refl _) W D _ _ (by omega) hK rfl rfl)⟩
    simp [results, Tryz.results35, go_sem, hc5]

set_option maxRecDepth 100000 in
set_option maxHeartbeats 4000000 in
theorem check_f {F : Foot} {bs ks : List Int} (addr n key : Int) (Kb : Nat) (w : World) (h : St 77 w F bs ks) (hc : w.cell? ⟨Kb, 0, none⟩ = some (.int .i64 key)) :
    Calls Tryz.prog 35 #[.pointer (some ⟨F.g, 0, none⟩), .int .i64 addr, .int .i64 n, .func (.func 168) #[] #[.pointer (some ⟨Kb, 0, none⟩)]] w fun e w' => e = .returned (.int .i64 (sCode (alF key) bs.length ks addr n)) ∧ Below w.heap.size w w' := by
  obtain ⟨N, hN⟩ : ∃ N, bs.length = N := ⟨_, rfl⟩
  have H := Lib.hid h
  have HN := Lib.hid hN
  rw [hN]
  clear hN h
  have kl : Kb < w.heap.size := by
    rcases Nat.lt_or_ge Kb w.heap.size with h2 | h2
    · exact h2
    · unfold World.cell? at hc; simp only [Array.getElem?_eq_none h2] at hc; cases hc
  refine (callsIn_wide (n := 5)).1 ?_
  refine callsIn_of_wp_marks Tryz.func35 rfl trivial ?_ rfl
  simp only [Tryz.ntmps35, List.size_toArray, List.length_cons, List.length_nil, Nat.reduceAdd, Nat.reduceSub, Array.replicate_succ, Array.replicate_zero, List.push_toArray, List.append_toArray, List.nil_append, List.cons_append]
  cases hi : sIn N addr n
  · rw [sCode_no hi]
    gi_wp2_with (refine ⟨trivial, ?_⟩; gi_at_call 88; refine (callsIn_wide.2 (in_c _ ((H.out.alloc _).alloc _) _ _)).mono ?_; rintro e w1 ⟨rfl, rfl⟩; rw [HN.out, hi])
    refine ⟨.int .i64 5, by simp [results, Tryz.results35, go_sem], rfl, ((Below.refl w.heap.size w).alloc (Nat.le_refl _) _).alloc (by simp) _⟩
  obtain ⟨b0, b1, b2, b3⟩ := sIn_yes hi
  obtain ⟨a, rfl⟩ := Int.eq_ofNat_of_zero_le b0
  obtain ⟨k, rfl⟩ := Int.eq_ofNat_of_zero_le b1
  rw [sCode_yes hi]
  obtain ⟨r, hr⟩ : ∃ r : Int, (if okB (alF key) ks a k = true then 0 else 4) = r := ⟨_, rfl⟩
  rw [hr]
  have HR := Lib.hid hr
  clear hr
  have hak : a + k ≤ bs.length := by rw [HN.out]; omega
  gi_wp2_with (refine ⟨trivial, ?_⟩; first | (gi_at_call 88; refine (callsIn_wide.2 (in_c _ ((H.out.alloc _).alloc _) _ _)).mono ?_; rintro e w1 ⟨rfl, rfl⟩; rw [HN.out, hi]) | (gi_at_call 89; refine (callsIn_wide.2 (touched_c _ _ _ ⟨_, rfl⟩ _)).mono ?_; rintro e w1 ⟨rfl, rfl⟩))
  obtain ⟨W0, hW0⟩ : ∃ W0, (((((w.alloc (.cells #[.func (.func 168) #[] #[.pointer (some ⟨Kb, 0, none⟩)]] 56)).alloc (.cells #[.int .i64 0] 3)).alloc (.cells #[.pointer (some ⟨F.g, 0, none⟩)] 35)).alloc (.cells #[.int .i64 a] 3)).alloc (.cells #[.int .i64 k] 3)) = W0 := ⟨_, rfl⟩
  rw [hW0]
  have hz : W0.heap.size = w.heap.size + 5 := by rw [← hW0]; simp
  have hB0 : Below w.heap.size w W0 := by rw [← hW0]; exact (((((Below.refl w.heap.size w).alloc (Nat.le_refl _) _).alloc (by simp) _).alloc (by simp; omega) _).alloc (by simp; omega) _).alloc (by simp; omega) _
  have q0 := cell_new_l w (.func (.func 168) #[] #[.pointer (some ⟨Kb, 0, none⟩)]) 56
  have q1 := cell_new_l (w.alloc (.cells #[.func (.func 168) #[] #[.pointer (some ⟨Kb, 0, none⟩)]] 56)) (.int .i64 0) 3
  have q2 := cell_new_l ((w.alloc (.cells #[.func (.func 168) #[] #[.pointer (some ⟨Kb, 0, none⟩)]] 56)).alloc (.cells #[.int .i64 0] 3)) (.pointer (some ⟨F.g, 0, none⟩)) 35
  have q3 := cell_new_l (((w.alloc (.cells #[.func (.func 168) #[] #[.pointer (some ⟨Kb, 0, none⟩)]] 56)).alloc (.cells #[.int .i64 0] 3)).alloc (.cells #[.pointer (some ⟨F.g, 0, none⟩)] 35)) (.int .i64 a) 3
  have q4 := cell_new_l ((((w.alloc (.cells #[.func (.func 168) #[] #[.pointer (some ⟨Kb, 0, none⟩)]] 56)).alloc (.cells #[.int .i64 0] 3)).alloc (.cells #[.pointer (some ⟨F.g, 0, none⟩)] 35)).alloc (.cells #[.int .i64 a] 3)) (.int .i64 k) 3
  simp only [World.size_alloc] at q1 q2 q3 q4
  have k0 : W0.cell? ⟨w.heap.size, 0, none⟩ = some (.func (.func 168) #[] #[.pointer (some ⟨Kb, 0, none⟩)]) := by rw [← hW0]; exact cell_alloc_l _ (cell_alloc_l _ (cell_alloc_l _ (cell_alloc_l _ q0.1)))
  have k1 : W0.cell? ⟨w.heap.size + 1, 0, none⟩ = some (.int .i64 0) := by rw [← hW0]; exact cell_alloc_l _ (cell_alloc_l _ (cell_alloc_l _ q1.1))
  have f1 : W0.frozen? ⟨w.heap.size + 1, 0, none⟩ = false := by rw [← hW0]; exact frozen_alloc_l _ (cell_alloc_l _ (cell_alloc_l _ q1.1)) (frozen_alloc_l _ (cell_alloc_l _ q1.1) (frozen_alloc_l _ q1.1 q1.2))
  have k2 : W0.cell? ⟨w.heap.size + 1 + 1, 0, none⟩ = some (.pointer (some ⟨F.g, 0, none⟩)) := by rw [← hW0]; exact cell_alloc_l _ (cell_alloc_l _ q2.1)
  have k3 : W0.cell? ⟨w.heap.size + 1 + 1 + 1, 0, none⟩ = some (.int .i64 a) := by rw [← hW0]; exact cell_alloc_l _ q3.1
  have k4 : W0.cell? ⟨w.heap.size + 1 + 1 + 1 + 1, 0, none⟩ = some (.int .i64 k) := by rw [← hW0]; exact q4.1
  have k5 : W0.cell? ⟨Kb, 0, none⟩ = some (.int .i64 key) := (hB0.cell (p := ⟨Kb, 0, none⟩) kl).trans hc
  have HS := Lib.hid (H.out.belowS hB0)
  have lg := H.out.ltg
  have lk := H.out.ltk
  skip
  refine wpIn_rangeFunc_ownF rfl (by omega) (gf := 151) (lb := #[.pointer (some ⟨w.heap.size + 1 + 1 + 1 + 1, 0, none⟩), .pointer (some ⟨w.heap.size + 1 + 1 + 1, 0, none⟩), .pointer (some ⟨w.heap.size + 1 + 1, 0, none⟩)]) rfl trivial (enters_of Tryz.func151 (by kernel_rfl) rfl)
    (touched1_stops (5 - 1) (by omega) a k (w.heap.size + 1 + 1 + 1 + 1) (w.heap.size + 1 + 1 + 1) (w.heap.size + 1 + 1) (w.heap.size + 5) W0 HS.out hak (by omega) (by omega) (by omega) (by omega) (by omega) (by omega) k4 k3 k2) belowK_t (belowK_b (by omega)) (Below.refl _ _) (fun _ => rfl)
    (fun pre W => ((∀ y ∈ pre, alF key y.1 = true) ∧ W.cell? ⟨w.heap.size, 0, none⟩ = some (.func (.func 168) #[] #[.pointer (some ⟨Kb, 0, none⟩)]) ∧ W.cell? ⟨w.heap.size + 1, 0, none⟩ = some (.int .i64 0) ∧ W.frozen? ⟨w.heap.size + 1, 0, none⟩ = false ∧ W.cell? ⟨Kb, 0, none⟩ = some (.int .i64 key)) ∧ Below w.heap.size w W)
    (fun c pre W => (c = .ret ∧ (∃ y ∈ pre, alF key y.1 = false) ∧ W.cell? ⟨w.heap.size + 1, 0, none⟩ = some (.int .i64 4)) ∧ Below w.heap.size w W)
    (OwnFrom.and (Own.from (fun s A B row hs hg hr => ⟨hs.1, cell_kept hs.2.1 hg hr, cell_kept hs.2.2.1 hg hr, (frozen_kept hs.2.2.1 hg hr).trans hs.2.2.2.1, cell_kept hs.2.2.2.2 hg hr⟩) _) (ownFrom_below (Nat.le_refl _) (by omega)))
    (fun c => OwnFrom.and (Own.from (fun s A B row hs hg hr => ⟨hs.1, hs.2.1, cell_kept hs.2.2 hg hr⟩) _) (ownFrom_below (Nat.le_refl _) (by omega)))
    ⟨⟨by simp, k0, k1, f1, k5⟩, hB0⟩
    (fun x => { tmps := #[.pointer (some ⟨F.g, 0, none⟩), .int .i64 a, .int .i64 k, .func (.func 168) #[] #[.pointer (some ⟨Kb, 0, none⟩)], undef, undef, undef, .pointer (some ⟨w.heap.size, 0, none⟩), .pointer (some ⟨w.heap.size + 1, 0, none⟩), .int .i64 x.1, .pointer (some ⟨F.g, 0, none⟩), .int .i64 a, .int .i64 k, .bool true, .bool false, .pointer (some ⟨F.g, 0, none⟩), .int .i64 a, .int .i64 k, .func (.func 151) #[] #[.pointer (some ⟨w.heap.size + 1 + 1 + 1 + 1, 0, none⟩), .pointer (some ⟨w.heap.size + 1 + 1 + 1, 0, none⟩), .pointer (some ⟨w.heap.size + 1 + 1, 0, none⟩)], .int .i64 x.1, undef, undef, undef, undef], defers := [] }) ?assign ?body ?done ?stop
  case assign =>
    intro l x W K hK
    gi_wp2
    exact hK
  case body =>
    rintro l pre x W ⟨⟨hal, hclo, hres, hfr, hkey⟩, hB⟩ hlen
    cases hx : alF key x.1
    · gi_wp2_with (refine ⟨trivial, ?_⟩; gi_at_call 168; refine (CallsIn.inRound l (callsIn_wide.2 (fetch1_c Kb _ key x.2.1 x.2.2 _ hkey))).mono ?_; rintro e w1 ⟨rfl, rfl⟩; rw [hx])
      exact ⟨KeepsOthers.setCell _ _ _, ⟨rfl, ⟨x, by simp, hx⟩, World.cell?_setCell_same' _ _ _ (by rw [hres]; rfl)⟩, hB.setCell (p := ⟨w.heap.size + 1, 0, none⟩) (by simp) _⟩
    · gi_wp2_with (refine ⟨trivial, ?_⟩; gi_at_call 168; refine (CallsIn.inRound l (callsIn_wide.2 (fetch1_c Kb _ key x.2.1 x.2.2 _ hkey))).mono ?_; rintro e w1 ⟨rfl, rfl⟩; rw [hx])
      refine ⟨KeepsOthers.refl _, Below.refl _ _, ⟨?_, hclo, hres, hfr, hkey⟩, hB⟩
      intro y hy
      rcases List.mem_append.1 hy with h1 | h1
      · exact hal y h1
      · rw [List.mem_singleton] at h1; rw [h1]; exact hx
  case done =>
    rintro D ys W hD hys ⟨⟨hal, hclo, hres, hfr, hkey⟩, hB⟩ hK
    have hok : okB (alF key) ks a k = true := by
      rw [okB_tK, ← hys, List.all_eq_true]
      intro z hz
      obtain ⟨y, hy, rfl⟩ := List.mem_map.1 hz
      exact hal y hy
    have fin := Lib.hid (show (0 : Int) = r from by rw [← HR.out, hok]; rfl)
    clear hok
    gi_wp2
    have hK' := (KeepsOthers.setCell W ⟨w.heap.size + 1, 0, none⟩ (.int .i64 0)).same D _ hK rfl
    refine ⟨by simp, .inl ⟨_, _, rfl, run_takeDeferred hK', ?_⟩⟩
    have hc5 := cell_kept (World.cell?_setCell_same' W ⟨w.heap.size + 1, 0, none⟩ (.int .i64 0) (by rw [hres]; rfl)) (grownBy_putObj' _ D (.deferred none)) (fun r e => by cases e; exact ⟨_, hK', rfl⟩)
    refine ⟨.int .i64 0, ?_, by rw [fin.out], (hB.setCell (p := ⟨w.heap.size + 1, 0, none⟩) (by simp) _).trans (belowK_b (w := w) (Nat.le_refl _) _ D _ _ (by omega) hK' rfl rfl)⟩
    simp [results, Tryz.results35, go_sem, hc5]
  case stop =>
    rintro D c pre W hD ⟨cc, hcc, hpre⟩ ⟨⟨rfl, ⟨y, hy, hf⟩, hres⟩, hB⟩ hK
    have hok : okB (alF key) ks a k = false := by
      rw [okB_tK, Bool.eq_false_iff]
      intro h1
      rw [List.all_eq_true] at h1
      have h2 := h1 y.1 (tK_sub hcc (by rw [← hpre]; exact List.mem_map.2 ⟨y, hy, rfl⟩))
      rw [hf] at h2; cases h2
    have fin := Lib.hid (show (4 : Int) = r from by rw [← HR.out, hok]; rfl)
    clear hok
    gi_wp2
    refine ⟨by simp, .inl ⟨_, _, rfl, run_takeDeferred hK, ?_⟩⟩
    have hc5 := cell_kept hres (grownBy_putObj' _ D (.deferred none)) (fun r e => by cases e; exact ⟨_, hK, rfl⟩)
    refine ⟨.int .i64 4, ?_, by rw [fin.out], hB.trans (belowK_b (w := w) (Nat.le_refl _) W D _ _ (by omega) hK rfl rfl)⟩
    simp [results, Tryz.results35, go_sem, hc5]

end Go.Proofs.YthjdjbipfdigeaaGreat

namespace Go.Proofs.YthjdjbipfdigeaaGreat
open Go.RowKit
set_option maxRecDepth 100000
set_option linter.unusedVariables false
set_option linter.unusedSimpArgs false

theorem own_mono {w : World} {b b' n : Nat} {v : Value} {zs : List Int} (h : Own w b v n zs) (hb : b' ≤ b) : Own w b' v n zs := by
  refine ⟨⟨h.1.1, ?_⟩, h.2⟩
  rcases h.1.2 with h0 | ⟨g, cap, cur, h1, h2, h3⟩
  · exact .inl h0
  · exact .inr ⟨g, cap, cur, h1, Nat.le_trans hb h2, h3⟩

set_option maxHeartbeats 2000000 in
theorem put_c {F : Foot} {bs ks : List Int} (w : World) (h : St 77 w F bs ks) (addr key : Int) (A : Option Addr) (len cap : Nat) (ys : List Int) (hy : Byt w A len ys) (hl : (len : Int) ≤ 9223372036854775807) : Calls Tryz.prog 12 #[.pointer (some ⟨F.g, 0, none⟩), .int .i64 addr, .slice A len cap, .int .i64 key] w fun e w' => e = .returned (.int .i64 (sCode (alP key) bs.length ks addr len)) ∧ St 77 w' F (sPut (alP key) bs ks addr ys) ks ∧ w.grownBy w' (some F.gb) := by
  have H := Lib.hid h
  have HY := Lib.hid hy
  have HL := Lib.hid hy.1
  clear hy h
  obtain ⟨N, hN⟩ : ∃ N, bs.length = N := ⟨_, rfl⟩
  have n1 : (N : Int) ≤ 65536 := by have := H.out.ln; have := H.out.l1; omega
  have HN := Lib.hid hN
  clear hN
  obtain ⟨r, hr⟩ : ∃ r, sCode (alP key) bs.length ks addr len = r := ⟨_, rfl⟩
  rw [hr]
  have HR := Lib.hid hr
  by_cases h0 : r = 0
  · subst h0
    have hin := sCode_zero hr
    rw [HN.out] at hin
    obtain ⟨b0, b1, b2, b3⟩ := sIn_yes hin
    obtain ⟨a, rfl⟩ := Int.eq_ofNat_of_zero_le b0
    have g0 := Lib.hid (show a + len ≤ bs.length from by rw [HN.out]; omega)
    have a0 : (a : Int) ≤ (N : Int) := by omega
    have hp := Lib.hid (show sPut (alP key) bs ks (a : Int) ys = splice bs a ys from by unfold sPut; rw [HL.out, hr, if_pos rfl]; simp)
    have lb := H.out.capb
    rw [HN.out] at lb
    have lbb := H.out.maxb
    unfold maxLen at lbb
    have aN : a ≤ N := by omega
    clear hr hin
    go_enter Tryz.func12, Tryz.ntmps12
    go_wp2_with fail
    refine (check_p (F := F) (bs := bs) (ks := ks) _ _ key w.heap.size _ (H.out.alloc _) (by simp)).mono ?_
    rintro e w1 ⟨rfl, hb⟩
    rw [HR.out]
    have HB1 := Lib.hid (show Below w.heap.size w w1 from ((Below.refl w.heap.size w).alloc (Nat.le_refl _) _).trans (hb.mono (by simp)))
    have ST1 := Lib.hid ((H.out.alloc (.cells #[.int .i64 key] 3)).belowS hb)
    clear hb
    have e0 := ST1.out.cell0
    rw [HN.out] at e0
    by_cases hcap : F.cb = a
    · obtain rfl : N = a := by omega
      obtain rfl : len = 0 := by omega
      obtain ⟨w2, hcp, hs, hg⟩ := run_copy_to ST1.out (by decide) (HY.out.keep HB1.out) g0.out (X := some ⟨F.gb, 0, none⟩) (c := cap) (dc := 0) (.inr ⟨rfl, rfl⟩)
      rw [HN.out, Nat.sub_self] at hcp
      have hcp' : (Builtin.copy_ #[29, 29] 3 #[.slice (some ⟨F.gb, 0, none⟩) 0 0, .slice A 0 cap]).run Tryz.prog w1 = .ok (.int .i64 0) w2 := hcp
      rw [hcap] at e0
      have HS := Lib.hid hs
      have HG := Lib.hid hg
      clear hs hg hcp hcap lb lbb
      go_wp2
      go_ret
      exact ⟨rfl, by rw [hp.out]; exact HS.out, grown_trans (grown_of_below HB1.out _) HG.out⟩
    · obtain ⟨w2, hcp, hs, hg⟩ := run_copy_to ST1.out (by decide) (HY.out.keep HB1.out) g0.out (X := some ⟨F.gb, a, none⟩) (c := cap) (dc := F.cb - a) (.inl rfl)
      rw [HN.out] at hcp
      have HS := Lib.hid hs
      have HG := Lib.hid hg
      clear hs hg
      go_wp2
      go_ret
      exact ⟨rfl, by rw [hp.out]; exact HS.out, grown_trans (grown_of_below HB1.out _) HG.out⟩
  · have e0 : (r == 0) = false := by simpa using h0
    have hp := Lib.hid (show sPut (alP key) bs ks addr ys = bs from by unfold sPut; rw [HL.out, hr, if_neg h0])
    clear hr h0
    go_enter Tryz.func12, Tryz.ntmps12
    go_wp2_with (go_at_call 35; refine (check_p (F := F) (bs := bs) (ks := ks) _ _ key w.heap.size _ (H.out.alloc _) (by simp)).mono ?_; rintro e w1 ⟨rfl, hb⟩; rw [HR.out]; have HB1 := Lib.hid (show Below w.heap.size w w1 from ((Below.refl w.heap.size w).alloc (Nat.le_refl _) _).trans (hb.mono (by simp))); have ST1 := Lib.hid ((H.out.alloc (.cells #[.int .i64 key] 3)).belowS hb); clear hb)
    go_ret
    exact ⟨rfl, by rw [hp.out]; exact ST1.out, grown_of_below HB1.out _⟩

set_option maxHeartbeats 1000000 in
theorem fetch_c {F : Foot} {bs ks : List Int} (w : World) (h : St 77 w F bs ks) (addr n key : Int) : Calls Tryz.prog 157 #[.pointer (some ⟨F.g, 0, none⟩), .int .i64 addr, .int .i64 n, .int .i64 key] w (GivesC w (sFet (alF key) bs ks addr n) (sCode (alF key) bs.length ks addr n)) := by
  have H := Lib.hid h
  clear h
  obtain ⟨r, hr⟩ : ∃ r, sCode (alF key) bs.length ks addr n = r := ⟨_, rfl⟩
  by_cases h0 : r = 0
  · subst h0
    have hf := Lib.hid (show sFet (alF key) bs ks addr n = sGet bs addr n from by unfold sFet; rw [hr, if_pos rfl])
    rw [hf.out, hr]
    have HR := Lib.hid hr
    clear hr
    go_enter Tryz.func157, Tryz.ntmps157
    go_wp2_with (first | (go_at_call 35; refine (check_f (F := F) (bs := bs) (ks := ks) _ _ key w.heap.size _ (H.out.alloc _) (by simp)).mono ?_; rintro e w1 ⟨rfl, hb⟩; rw [HR.out]; have HB1 := Lib.hid (show Below w.heap.size w w1 from ((Below.refl w.heap.size w).alloc (Nat.le_refl _) _).trans (hb.mono (by simp))); have ST1 := Lib.hid ((H.out.alloc (.cells #[.int .i64 key] 3)).belowS hb); clear hb) | (go_at_call 34; refine (bytes_c _ ST1.out _ _).mono ?_; rintro e w2 ⟨A, m, cap, rfl, ho, hb⟩; have HO := Lib.hid ho; have HB := Lib.hid hb; clear ho hb))
    go_ret2
    exact ⟨A, m, cap, rfl, own_mono HO.out HB1.out.size, HB1.out.trans (HB.out.mono HB1.out.size)⟩
  · have e0 : (r != 0) = true := by simpa using h0
    have hf := Lib.hid (show sFet (alF key) bs ks addr n = [] from by unfold sFet; rw [hr, if_neg h0])
    rw [hf.out, hr]
    have HR := Lib.hid hr
    clear hr h0
    go_enter Tryz.func157, Tryz.ntmps157
    go_wp2_with (go_at_call 35; refine (check_f (F := F) (bs := bs) (ks := ks) _ _ key w.heap.size _ (H.out.alloc _) (by simp)).mono ?_; rintro e w1 ⟨rfl, hb⟩; rw [HR.out]; have HB1 := Lib.hid (show Below w.heap.size w w1 from ((Below.refl w.heap.size w).alloc (Nat.le_refl _) _).trans (hb.mono (by simp))); have ST1 := Lib.hid ((H.out.alloc (.cells #[.int .i64 key] 3)).belowS hb); clear hb)
    go_ret2
    exact ⟨none, 0, 0, rfl, Own.nil _ _, HB1.out⟩

end Go.Proofs.YthjdjbipfdigeaaGreat

