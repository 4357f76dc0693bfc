/- Contracts and laws on the way to the statement, text 10 of 24. Conditions: as each states them. -/
import Derived.Test.YthjdjbipfdigeaaGreatRu3
import Derived.Test.YthjdjbipfdigeaaGreatRu6
import Derived.Test.YthjdjbipfdigeaaGreatRu7
import Derived.Test.YthjdjbipfdigeaaGreatRu8
import Derived.Test.YthjdjbipfdigeaaGreatRu9
import Derived.Deep.MidRow
namespace Go.Proofs.YthjdjbipfdigeaaGreat
open Go.RowKit
set_option maxRecDepth 100000
set_option linter.unusedVariables false
section
variable {P : Program} {L : List Oper} {Q : Exit → Act → World → Prop} {md : Region.Mode} {S : World → Prop} {i j : Nat} {v : Value} {oi : Oper} {fuel : Nat} {listed : Array Bool} {a : Act} {w : World}
theorem tk1 (hr : Region.ready md L.toArray listed = [i]) (h : wpOp P L.toArray Q i (fun a' w' => S w' ∧ wpAnyH P md L.toArray Q S fuel (listed.setIfInBounds i true) a' w') a w) : wpAnyH P md L.toArray Q S (fuel + 1) listed a w := by
  refine ⟨fun h0 => (by rw [hr] at h0; cases h0), fun k hk => ?_⟩
  rw [hr, List.mem_singleton] at hk
  subst hk
  exact h
theorem tk2 (hr : Region.ready md L.toArray listed = [i, j]) (h : wpOp P L.toArray Q i (fun a' w' => S w' ∧ wpAnyH P md L.toArray Q S fuel (listed.setIfInBounds i true) a' w') a w) (h' : wpOp P L.toArray Q j (fun a' w' => S w' ∧ wpAnyH P md L.toArray Q S fuel (listed.setIfInBounds j true) a' w') a w) : wpAnyH P md L.toArray Q S (fuel + 1) listed a w := by
  refine ⟨fun h0 => (by rw [hr] at h0; cases h0), fun k hk => ?_⟩
  rw [hr] at hk
  simp only [List.mem_cons, List.not_mem_nil, or_false] at hk
  rcases hk with rfl | rfl
  · exact h
  · exact h'
/-- a call -/
theorem opc {f : FuncId} {args : Array Value} {R : World → Prop} {X : World → Prop} (hc : Calls P f args w fun e w' => e = .returned v ∧ R w') (hRS : ∀ w', R w' → S w') (h : ∀ w', Hid (R w') → S w' → X w') (hi : L[i]? = some oi := by rfl)
    (hw : Region.wanted oi (yielded L.toArray a.tmps) = true := by rfl) (hx : (execOp a.eval oi).run P w = .ok (.enter f args) w := by (go_simp; (try with_reducible rfl)))
    (hP : ∀ w', wpAnyH P md L.toArray Q S fuel (listed.setIfInBounds i true) (a.put oi.dst v) w' = X w' := by (intro w'; simp only [Act.put, List.setIfInBounds_toArray, List.set_cons_zero, List.set_cons_succ]; try rfl)) : wpOp P L.toArray Q i (fun a' w' => S w' ∧ wpAnyH P md L.toArray Q S fuel (listed.setIfInBounds i true) a' w') a w := by
  have hi' : L.toArray[i]? = some oi := by simpa using hi
  unfold wpOp
  simp only [hi', hw, if_true]
  refine .inl ?_
  unfold Oper.wp
  rw [hx]
  refine Calls.mono hc fun e w' he => ?_
  obtain ⟨rfl, hR⟩ := he
  exact ⟨hRS _ hR, (hP w').symm ▸ h w' (Lib.hid hR) (hRS _ hR)⟩
/-- an operation that makes a block and yields a value: its world is known by R alone from there on -/
theorem opb {w1 : World} {R : World → Prop} {X : World → Prop} (hR : R w1) (hRS : ∀ w', R w' → S w') (h : ∀ w', Hid (R w') → S w' → X w') (hi : L[i]? = some oi := by rfl)
    (hw : Region.wanted oi (yielded L.toArray a.tmps) = true := by rfl) (hx : (execOp a.eval oi).run P w = .ok (.value v) w1 := by (go_simp; (try with_reducible rfl)))
    (hP : ∀ w', wpAnyH P md L.toArray Q S fuel (listed.setIfInBounds i true) (a.put oi.dst v) w' = X w' := by (intro w'; simp only [Act.put, List.setIfInBounds_toArray, List.set_cons_zero, List.set_cons_succ]; try rfl)) : wpOp P L.toArray Q i (fun a' w' => S w' ∧ wpAnyH P md L.toArray Q S fuel (listed.setIfInBounds i true) a' w') a w := by
  have hi' : L.toArray[i]? = some oi := by simpa using hi
  unfold wpOp
  simp only [hi', hw, if_true]
  refine .inl ?_
  unfold Oper.wp
  rw [hx]
  exact ⟨hRS _ hR, (hP _).symm ▸ h _ (Lib.hid hR) (hRS _ hR)⟩
end
theorem Byt.chg {w w' : World} {b off len : Nat} {zs : List Int} {L : List Nat} (h : Byt w (some ⟨b, off, none⟩) len zs) (hc : Ch w w' L) (hb : b < w.heap.size) (hL : b ∉ L) : Byt w' (some ⟨b, off, none⟩) len zs := by
  refine ⟨h.1, h.2.1, fun h0 => ?_⟩
  obtain ⟨b', off', e, hcell⟩ := h.2.2 h0
  injection e with e; injection e with e1 e2; subst e1 e2
  exact ⟨b, off, rfl, fun i hi => by rw [← hcell i hi]; unfold World.cell?; rw [hc.block b hb hL]⟩
end Go.Proofs.YthjdjbipfdigeaaGreat

namespace Go.Proofs.YthjdjbipfdigeaaGreat
open Go.RowKit
set_option maxRecDepth 100000
set_option linter.unusedVariables false
set_option linter.unusedSimpArgs false
section
variable {w0 w : World} {g : Nat} {G : Foot} {I : In} {os rs : List Int} {p q : Ps} {c : Int} {bs ks : List Int}
theorem gd_wr {a n cc : Int} {ys : List Int} {len : Nat} (hR : RS w0 w g G I os os p { p with cc := cc } (ptC 0 bs ks p.key a len) (ptB 0 bs ks p.key a ys) ks) (hn : (len : Int) = n := by rfl) : Gd w0 w g G I os p ks (Pre.wr ⟨os, p.key, p.il, p.cc, p.pg, p.ad, bs, ks⟩ a n ys cc) := by
  subst hn
  unfold ptC ptB at hR
  rw [if_pos rfl, if_pos rfl] at hR
  unfold Pre.wr
  have hpc : Pre.pc ⟨os, p.key, p.il, p.cc, p.pg, p.ad, bs, ks⟩ a len = sCode (alP p.key) bs.length ks a len := rfl
  rw [hpc]
  by_cases h0 : sCode (alP p.key) bs.length ks a len = 0
  · rw [if_pos h0]
    exact gd_ok hR rfl (by rw [h0]; rfl) rfl rfl rfl
  · rw [if_neg h0]
    exact gd_no hR h0 rfl
end
end Go.Proofs.YthjdjbipfdigeaaGreat

namespace Go.Proofs.YthjdjbipfdigeaaGreat
open Go.RowKit
set_option maxRecDepth 100000
set_option linter.unusedVariables false
set_option linter.unusedSimpArgs false
section
variable {w0 w : World} {g : Nat} {G : Foot} {I : In} {os rs : List Int} {p q : Ps} {c : Int} {bs ks : List Int}
theorem bits_8i {x y : Int} (h : 0 ≤ x ∧ x ≤ 255) (h' : 0 ≤ y ∧ y ≤ 255) : bits .and .i64 x y = bits .and .u8 x y ∧ bits .or .i64 x y = bits .or .u8 x y ∧ bits .xor .i64 x y = bits .xor .u8 x y := by
  obtain ⟨a, rfl⟩ := Int.eq_ofNat_of_zero_le h.1
  obtain ⟨b, rfl⟩ := Int.eq_ofNat_of_zero_le h'.1
  have ha : a < 2 ^ 8 := by omega
  have hb : b < 2 ^ 8 := by omega
  have h1 := Nat.and_lt_two_pow a hb
  have h2 := Nat.or_lt_two_pow ha hb
  have h3 := Nat.xor_lt_two_pow ha hb
  have m1 : a % 2 ^ 64 = a := by omega
  have m2 : b % 2 ^ 64 = b := by omega
  have m3 : a % 2 ^ 8 = a := by omega
  have m4 : b % 2 ^ 8 = b := by omega
  have qand64 : bits .and .i64 (a : Int) (b : Int) = IntKind.i64.wrap (((BitVec.ofInt 64 (a : Int) &&& BitVec.ofInt 64 (b : Int)).toNat : Nat) : Int) := rfl
  have qand8 : bits .and .u8 (a : Int) (b : Int) = IntKind.u8.wrap (((BitVec.ofInt 8 (a : Int) &&& BitVec.ofInt 8 (b : Int)).toNat : Nat) : Int) := rfl
  have qor64 : bits .or .i64 (a : Int) (b : Int) = IntKind.i64.wrap (((BitVec.ofInt 64 (a : Int) ||| BitVec.ofInt 64 (b : Int)).toNat : Nat) : Int) := rfl
  have qor8 : bits .or .u8 (a : Int) (b : Int) = IntKind.u8.wrap (((BitVec.ofInt 8 (a : Int) ||| BitVec.ofInt 8 (b : Int)).toNat : Nat) : Int) := rfl
  have qxor64 : bits .xor .i64 (a : Int) (b : Int) = IntKind.i64.wrap (((BitVec.ofInt 64 (a : Int) ^^^ BitVec.ofInt 64 (b : Int)).toNat : Nat) : Int) := rfl
  have qxor8 : bits .xor .u8 (a : Int) (b : Int) = IntKind.u8.wrap (((BitVec.ofInt 8 (a : Int) ^^^ BitVec.ofInt 8 (b : Int)).toNat : Nat) : Int) := rfl
  simp only [BitVec.ofInt_natCast, BitVec.toNat_and, BitVec.toNat_or, BitVec.toNat_xor, BitVec.toNat_ofNat, m1, m2, m3, m4, IntKind.wrap_i64, IntKind.wrap_u8] at qand64 qand8 qor64 qor8 qxor64 qxor8
  refine ⟨?_, ?_, ?_⟩
  · rw [qand64, qand8]; omega
  · rw [qor64, qor8]; omega
  · rw [qxor64, qxor8]; omega
theorem byt0 {w : World} {b n : Nat} {zs : List Int} (h : Byt w (some ⟨b, 0, none⟩) n zs) (hn : 0 < n) : w.cell? ⟨b, 0, none⟩ = some (.int .u8 (zs.getD 0 0)) := by
  obtain ⟨b', off, e, hc⟩ := h.2.2 hn
  injection e with e; injection e with e1 e2; subst e1 e2
  exact hc 0 hn
theorem ftB_in {c a key : Int} {bs ks : List Int} {n : Nat} (hr : ∀ z ∈ bs, 0 ≤ z ∧ z ≤ 255) (k : Nat) : 0 ≤ (ftB c bs ks key a n).getD k 0 ∧ (ftB c bs ks key a n).getD k 0 ≤ 255 := by
  rw [List.getD_eq_getElem?_getD]
  rcases Nat.lt_or_ge k (ftB c bs ks key a n).length with hi | hi
  · rw [List.getElem?_eq_getElem hi]
    have hm := List.getElem_mem hi
    revert hm
    generalize (ftB c bs ks key a n)[k] = z
    intro hm
    unfold ftB at hm
    split at hm
    · unfold sGet at hm
      split at hm
      · exact hr z (List.mem_of_mem_drop (List.mem_of_mem_take hm))
      · cases hm
    · have := List.eq_of_mem_replicate hm
      show 0 ≤ z ∧ z ≤ 255
      omega
  · rw [List.getElem?_eq_none hi]; simp
theorem gd_im {op A i x F C : Int} (hop : op ≠ 146) (hR : RS w0 w g G I os os p { p with cc := C } F bs ks) (HF : ftC 0 bs ks p.key A (1 : Nat) = F) (HX : (ftB 0 bs ks p.key A 1).getD 0 0 = x) (he : (sGet bs A 1).getD 0 0 = x → Pre.fc ⟨os, p.key, p.il, p.cc, p.pg, p.ad, bs, ks⟩ A 1 = 0 → imO ⟨os, p.key, p.il, p.cc, p.pg, p.ad, bs, ks⟩ op A i = Pre.st ⟨os, p.key, p.il, p.cc, p.pg, p.ad, bs, ks⟩ os C false) : Gd w0 w g G I os p ks (imO ⟨os, p.key, p.il, p.cc, p.pg, p.ad, bs, ks⟩ op A i) := by
  have hfc : Pre.fc ⟨os, p.key, p.il, p.cc, p.pg, p.ad, bs, ks⟩ A 1 = F := by rw [← HF]; exact (if_pos rfl).symm
  by_cases h0 : F = 0
  · subst h0
    rw [he (by rw [← HX]; unfold ftB; rw [HF, if_pos rfl]; rfl) hfc]
    exact gd_ok hR rfl rfl rfl rfl rfl
  · have : imO ⟨os, p.key, p.il, p.cc, p.pg, p.ad, bs, ks⟩ op A i = Pre.no ⟨os, p.key, p.il, p.cc, p.pg, p.ad, bs, ks⟩ F := by unfold imO; rw [if_neg hop, hfc, if_pos h0]
    rw [this]
    exact gd_no hR h0 rfl
theorem gd_iw {op A i x F C v : Int} (hop : op ≠ 146) (hR : RS w0 w g G I os os p { p with cc := C } (ptC F bs ks p.key A (1 : Nat)) (ptB F bs ks p.key A [v]) ks) (HF : ftC 0 bs ks p.key A (1 : Nat) = F) (HX : (ftB 0 bs ks p.key A 1).getD 0 0 = x) (he : (sGet bs A 1).getD 0 0 = x → Pre.fc ⟨os, p.key, p.il, p.cc, p.pg, p.ad, bs, ks⟩ A 1 = 0 → imO ⟨os, p.key, p.il, p.cc, p.pg, p.ad, bs, ks⟩ op A i = Pre.wr ⟨os, p.key, p.il, p.cc, p.pg, p.ad, bs, ks⟩ A 1 [v] C) : Gd w0 w g G I os p ks (imO ⟨os, p.key, p.il, p.cc, p.pg, p.ad, bs, ks⟩ op A i) := by
  have hfc : Pre.fc ⟨os, p.key, p.il, p.cc, p.pg, p.ad, bs, ks⟩ A 1 = F := by rw [← HF]; exact (if_pos rfl).symm
  by_cases h0 : F = 0
  · subst h0
    rw [he (by rw [← HX]; unfold ftB; rw [HF, if_pos rfl]; rfl) hfc]
    exact gd_wr hR
  · have : imO ⟨os, p.key, p.il, p.cc, p.pg, p.ad, bs, ks⟩ op A i = Pre.no ⟨os, p.key, p.il, p.cc, p.pg, p.ad, bs, ks⟩ F := by unfold imO; rw [if_neg hop, hfc, if_pos h0]
    rw [this]
    unfold ptC ptB at hR
    rw [if_neg h0, if_neg h0] at hR
    exact gd_no hR h0 rfl
end
end Go.Proofs.YthjdjbipfdigeaaGreat

namespace Go.Proofs.YthjdjbipfdigeaaGreat
open Go.RowKit
set_option maxRecDepth 100000
set_option linter.unusedVariables false
set_option linter.unusedSimpArgs false
section
variable {w0 w : World} {g : Nat} {G : Foot} {I : In} {os rs : List Int} {p q : Ps} {c : Int} {bs ks : List Int}
theorem rone_c (op x y : Int) (ho : op = 209 ∨ op = 210 ∨ op = 211 ∨ op = 212 ∨ op = 214 ∨ op = 215) (hx : 0 ≤ x ∧ x ≤ 255) (hy : 0 ≤ y ∧ y ≤ 255) (w : World) : Calls Tryz.prog 75 #[.int .i64 op, .int .u8 x, .int .u8 y] w fun e w' => e = .returned (.int .u8 (cb op x y)) ∧ w = w' := by
  obtain ⟨x0, x1⟩ := hx
  obtain ⟨y0, y1⟩ := hy
  rcases ho with rfl | rfl | rfl | rfl | rfl | rfl
  all_goals
    go_enter Tryz.func75, Tryz.ntmps75
    go_wp2
    go_ret
    refine ⟨?_, rfl⟩
    first | rfl | (unfold cb; simp; done) | (exact rfl; trivial)
end
end Go.Proofs.YthjdjbipfdigeaaGreat

namespace Go.Proofs.YthjdjbipfdigeaaGreat
open Go.RowKit
set_option maxRecDepth 100000
set_option linter.unusedVariables false
set_option linter.unusedSimpArgs false
section
variable {w0 w : World} {g : Nat} {G : Foot} {I : In} {os rs : List Int} {p q : Ps} {c : Int} {bs ks : List Int}
/-- the machine, and bytes in a block beside it -/
structure RW (w0 w : World) (g : Nat) (G : Foot) (I : In) (os rs : List Int) (p q : Ps) (c : Int) (bs ks : List Int) (bb n : Nat) (zs : List Int) : Prop where
  rs : RS w0 w g G I os rs p q c bs ks
  by_ : Byt w (some ⟨bb, 0, none⟩) n zs
  lt : bb < w.heap.size
  n0 : bb ≠ g
  n1 : bb ≠ G.gb
theorem RW.call {bb n : Nat} {zs : List Int} {P : Program} {f : FuncId} {args : Array Value} {v : Value} {rs' : List Int} {q' : Ps} {c' : Int} {bs' : List Int} (h : RW w0 w g G I os rs p q c bs ks bb n zs) (hc : RS w w g G I os rs p q c bs ks → Calls P f args w fun e w' => e = .returned v ∧ RS w w' g G I os rs' p q' c' bs' ks) : Calls P f args w fun e w' => e = .returned v ∧ RW w0 w' g G I os rs' p q' c' bs' ks bb n zs :=
  (hc h.rs.rb).mono fun e w' ⟨he, hR⟩ => ⟨he, h.rs.re hR, h.by_.chg hR.b h.lt (by simp; exact ⟨h.n0, h.n1⟩), Nat.lt_of_lt_of_le h.lt hR.b.size, h.n0, h.n1⟩
theorem byt_from {w : World} {b n k : Nat} {zs : List Int} (h : Byt w (some ⟨b, 0, none⟩) n zs) (hk : k ≤ n) (m : Nat) (hm : n - k = m) : Byt w (some ⟨b, k, none⟩) m (zs.drop k) := by
  subst hm
  refine ⟨by rw [List.length_drop, h.1], fun z hz => h.2.1 z (List.mem_of_mem_drop hz), fun h0 => ⟨b, k, rfl, fun i hi => ?_⟩⟩
  obtain ⟨b', off, e, hc⟩ := h.2.2 (by omega)
  injection e with e; injection e with e1 e2; subst e1 e2
  have := hc (k + i) (by omega)
  rw [Nat.zero_add] at this
  rw [this]
  simp [List.getD_eq_getElem?_getD, List.getElem?_drop]
theorem gd_aw {A n cc : Int} {ys : List Int} {len : Nat} (hR : RS w0 w g G I os os p { p with cc := cc } (ptC (atC 0 A n) bs ks p.key A len) (ptB (atC 0 A n) bs ks p.key A ys) ks) (hn : (len : Int) = n := by rfl) : Gd w0 w g G I os p ks (if A % n = 0 then Pre.wr ⟨os, p.key, p.il, p.cc, p.pg, p.ad, bs, ks⟩ A n ys cc else Pre.no ⟨os, p.key, p.il, p.cc, p.pg, p.ad, bs, ks⟩ 6) := by
  by_cases h0 : A % n = 0
  · rw [if_pos h0]
    have e : atC 0 A n = 0 := if_neg (fun h => h.2 h0)
    rw [e] at hR
    exact gd_wr hR hn
  · rw [if_neg h0]
    have e : atC 0 A n = 6 := if_pos ⟨rfl, h0⟩
    rw [e] at hR
    exact gd_no (c := 6) hR (show (6 : Int) ≠ 0 by decide) rfl
theorem mk4 (W : World) : (Instr.makeSlice 29 (.int .i64 4) (.int .i64 4)).run Tryz.prog W = .ok (.slice (some ⟨W.heap.size, 0, none⟩) 4 4) (W.alloc (.cells (zeroB 4) 5)) := run_mk_b 4 (by decide) W
theorem rpf_c (u : Int) (u0 : 0 ≤ u ∧ u ≤ 4294967295) (w : World) (h : RS w0 w g G I os rs p q c bs ks) : Calls Tryz.prog 76 #[.slice (some ⟨w.heap.size, 0, none⟩) 4 4, .int .i64 0, .int .u32 u] (w.alloc (.cells (zeroB 4) 5)) fun e w' => ∃ bb cap, e = .returned (.tuple #[.slice (some ⟨bb, 0, none⟩) 4 cap, .bool true]) ∧ RW w0 w' g G I os rs p q c bs ks bb 4 (fby u) ∧ 4 ≤ cap ∧ cap ≤ maxLen ∧ w.heap.size ≤ bb := by
  refine (rputfull_any (some ⟨w.heap.size, 0, none⟩) 4 4 0 u (List.replicate 4 0) _ (by omega) (own_zeros w 4 w.heap.size (Nat.le_refl _) (by decide)).byt (by omega) (by omega) u0.1 u0.2).mono ?_
  rintro e w' ⟨B, cap, rfl, hO, -, hb⟩
  have hp : plen 4 0 4 = 4 := rfl
  have hq : pbytes 4 0 4 (List.replicate 4 0) (fby u) = fby u := rfl
  rw [hp, hq] at hO
  rw [hp]
  obtain ⟨b, cap', hv, h1, h2, h3, h4⟩ := hO.pos (by decide)
  injection hv with e1 e2 e3
  subst e1 e3
  have hl := h.lt
  have hl2 := h.st.ltb
  refine ⟨b, _, rfl, ⟨(h.keep ((Below.refl _ _).alloc (Nat.le_refl _) _)).keep hb, hO.byt, h2, ?_, ?_⟩, h3, h4, ?_⟩ <;> (simp at h1; omega)
end
end Go.Proofs.YthjdjbipfdigeaaGreat

namespace Go.Proofs.YthjdjbipfdigeaaGreat
open Go.RowKit
set_option maxRecDepth 100000
set_option linter.unusedVariables false
set_option linter.unusedSimpArgs false
section
variable {w0 w : World} {g : Nat} {G : Foot} {I : In} {os rs : List Int} {p q : Ps} {c : Int} {bs ks : List Int}
theorem fby_fb {u : Int} (h : 0 ≤ u ∧ u ≤ 4294967295) : fby u = fb u := by unfold fby fb; rw [show u / 16777216 % 256 = u / 16777216 by omega]
set_option maxRecDepth 1000000 in
set_option maxHeartbeats 8000000 in
theorem rmv_80 (h : RS w0 w g G I os os p p 0 bs ks) (ho : I.op = 80) : Calls Tryz.prog 29 #[.pointer (some ⟨g, 0, none⟩)] w fun e w' => e = .returned (.tuple #[]) ∧ Gd w0 w' g G I os p ks (mvO ⟨os, p.key, p.il, p.cc, p.pg, p.ad, bs, ks⟩ I.op I.n I.k (I.a os)) := by
  obtain ⟨u, hu⟩ : ∃ u, os.getD I.n 0 = u := ⟨_, rfl⟩
  obtain ⟨v, hv⟩ : ∃ v, os.getD I.k 0 = v := ⟨_, rfl⟩
  have u0 := getD_in h.ro I.n
  have v0 := getD_in h.ro I.k
  rw [hu] at u0
  rw [hv] at v0
  obtain ⟨A, hA⟩ : ∃ A, I.a os = A := ⟨_, rfl⟩
  have A0 := I.a_in os
  rw [hA] at A0 ⊢
  have RA := Lib.hid (fun w0 W rs q c bs (hW : RS w0 W g G I os rs p q c bs ks) => show Calls Tryz.prog 59 #[.pointer (some ⟨g, 0, none⟩)] W fun e w' => e = .returned (.int .i64 A) ∧ RS w0 w' g G I os rs p q c bs ks from hA ▸ ra_c hW)
  clear hA
  have hmk := mk4
  rcases ho with ho
  all_goals
    rw [ho]
    have HU := Lib.hid hu
    have HV := Lib.hid hv
    have HO := Lib.hid ho
    have R0 := Lib.hid h
    clear hu hv ho h
    refine R0.out.opn ?_
    intros
    go_enter Tryz.func29, Tryz.ntmps29
    go_upto_region 0 with fail
    refine wp_region_held_drew (S := Sx w0 g G I os p) (by kernel_rfl) R0.out.drew.x (fun hHeld => ?_)
    replace R0 := Lib.hid R0.out.drew
    repeat refine tkr ?_
    refine wpAnyH_done (by kernel_rfl) ?_ _
    refine R0.out.opn ?_
    clear hHeld
    intros
    go_upto_region 4 with (go_at_call 76; refine (rpf_c u u0 _ R0.out).mono ?_; rintro e w1 ⟨bb, cap, rfl, hW, hc0, hc1, hb⟩; have R1 := Lib.hid hW; clear hW; unfold maxLen at hc1; have n2 : ¬ cap = 2 := (by omega); have n3 : ¬ cap = 3 := (by omega); refine (RW.rs hout : RS w0 _ g G I os os p p 0 bs ks).opn ?_; intros)
    go_wp2_with (first
        | (go_at_call 59; refine nx (RW.call hout (fun hR => RA.out _ _ _ _ _ _ hR)) ?_; intro w1 R1)
        | (go_at_call 77; refine nx (RW.call hout (fun hR => rat_c hR _ _ (.inr rfl) (by omega) (by omega))) ?_; intro w1 R1)
        | (go_at_call 68; refine nx (rputm_c (RW.rs hout) _ _ 4 _ ((fby u).drop 0) (byt_from (RW.by_ hout) (by omega) _ rfl) (by omega) (by intro _ x hx; injection hx with hx; subst hx; exact RW.n1 hout)) ?_; intro w1 R1))
    first | go_end0 | refine bodyPost_ret (results_none rfl _ _ _) rfl ?_
    exact ⟨rfl, by show Gd _ _ _ _ _ _ _ _ (if A % 4 = 0 then Pre.wr ⟨os, p.key, p.il, p.cc, p.pg, p.ad, bs, ks⟩ A 4 (fb (os.getD I.n 0)) p.cc else Pre.no ⟨os, p.key, p.il, p.cc, p.pg, p.ad, bs, ks⟩ 6); rw [HU.out, ← fby_fb u0]; exact gd_aw hout⟩
end
end Go.Proofs.YthjdjbipfdigeaaGreat

namespace Go.Proofs.YthjdjbipfdigeaaGreat
open Go.RowKit
set_option maxRecDepth 100000
set_option linter.unusedVariables false
set_option linter.unusedSimpArgs false
section
variable {w0 w : World} {g : Nat} {G : Foot} {I : In} {os rs : List Int} {p q : Ps} {c : Int} {bs ks : List Int}
theorem RW.drew {bb n : Nat} {zs : List Int} (h : RW w0 w g G I os rs p q c bs ks bb n zs) : RW w0 w.drew g G I os rs p q c bs ks bb n zs := ⟨h.rs.drew, h.by_.keep (below_draw w 1), h.lt, h.n0, h.n1⟩
set_option maxRecDepth 1000000 in
set_option maxHeartbeats 8000000 in
theorem rmv_64 (h : RS w0 w g G I os os p p 0 bs ks) (ho : I.op = 64) : Calls Tryz.prog 29 #[.pointer (some ⟨g, 0, none⟩)] w fun e w' => e = .returned (.tuple #[]) ∧ Gd w0 w' g G I os p ks (mvO ⟨os, p.key, p.il, p.cc, p.pg, p.ad, bs, ks⟩ I.op I.n I.k (I.a os)) := by
  obtain ⟨u, hu⟩ : ∃ u, os.getD I.n 0 = u := ⟨_, rfl⟩
  obtain ⟨v, hv⟩ : ∃ v, os.getD I.k 0 = v := ⟨_, rfl⟩
  have u0 := getD_in h.ro I.n
  have v0 := getD_in h.ro I.k
  rw [hu] at u0
  rw [hv] at v0
  obtain ⟨A, hA⟩ : ∃ A, I.a os = A := ⟨_, rfl⟩
  have A0 := I.a_in os
  rw [hA] at A0 ⊢
  have RA := Lib.hid (fun w0 W rs q c bs (hW : RS w0 W g G I os rs p q c bs ks) => show Calls Tryz.prog 59 #[.pointer (some ⟨g, 0, none⟩)] W fun e w' => e = .returned (.int .i64 A) ∧ RS w0 w' g G I os rs p q c bs ks from hA ▸ ra_c hW)
  clear hA
  have hmk := mk4
  rcases ho with ho
  all_goals
    rw [ho]
    have HU := Lib.hid hu
    have HV := Lib.hid hv
    have HO := Lib.hid ho
    have R0 := Lib.hid h
    clear hu hv ho h
    refine R0.out.opn ?_
    intros
    go_enter Tryz.func29, Tryz.ntmps29
    go_upto_region 0 with fail
    refine wp_region_held_drew (S := Sx w0 g G I os p) (by kernel_rfl) R0.out.drew.x (fun hHeld => ?_)
    replace R0 := Lib.hid R0.out.drew
    repeat refine tkr ?_
    refine wpAnyH_done (by kernel_rfl) ?_ _
    refine R0.out.opn ?_
    clear hHeld
    intros
    go_upto_region 7 with (go_at_call 76; refine (rpf_c u u0 _ R0.out).mono ?_; rintro e w1 ⟨bb, cap, rfl, hW, hc0, hc1, hb⟩; have R1 := Lib.hid hW; clear hW; unfold maxLen at hc1; have n2 : ¬ cap = 2 := (by omega); have n3 : ¬ cap = 3 := (by omega); refine (RW.rs hout : RS w0 _ g G I os os p p 0 bs ks).opn ?_; intros)
    go_upto_region 8 with (first
        | (go_at_call 59; refine nx (RW.call hout (fun hR => RA.out _ _ _ _ _ _ hR)) ?_; intro w1 R1)
        | (go_at_call 77; refine nx (RW.call hout (fun hR => rat_c hR _ _ (.inl rfl) (by omega) (by omega))) ?_; intro w1 R1))
    refine wp_region_held_drew (S := Sx w0 g G I os p) (by kernel_rfl) (RW.rs hout : RS w0 _ g G I os os p p _ bs ks).drew.x (fun hHeld => ?_)
    have R1 := Lib.hid ((hout : RW w0 _ g G I os os p p _ bs ks bb 4 (fby u)).drew)
    repeat refine tkr ?_
    refine tkc (RW.call R1.out (fun hR => RA.out _ _ _ _ _ _ hR)) (fun _ h => h.rs.x) ?_
    clear hHeld R1
    intro w1 R1 hHeld
    repeat refine tkr ?_
    refine tkc (rputm_c (RW.rs R1.out) A (some ⟨bb, 2, none⟩) 2 (cap - 2) ((fby u).drop 2) (byt_from (RW.by_ R1.out) (by omega) _ rfl) (by omega) (by intro _ x hx; injection hx with hx; subst hx; exact RW.n1 R1.out)) (fun _ h => h.x) ?_
    clear hHeld R1
    intro w1 R1 hHeld
    refine wpAnyH_done (by with_unfolding_all rfl) ?_ _
    go_wp2
    first | go_end0 | refine bodyPost_ret (results_none rfl _ _ _) rfl ?_
    exact ⟨rfl, by show Gd _ _ _ _ _ _ _ _ (if A % 2 = 0 then Pre.wr ⟨os, p.key, p.il, p.cc, p.pg, p.ad, bs, ks⟩ A 2 ((fb (os.getD I.n 0)).drop 2) p.cc else Pre.no ⟨os, p.key, p.il, p.cc, p.pg, p.ad, bs, ks⟩ 6); rw [HU.out, ← fby_fb u0]; exact gd_aw hout⟩
set_option maxRecDepth 1000000 in
set_option maxHeartbeats 8000000 in
theorem rmv_66 (h : RS w0 w g G I os os p p 0 bs ks) (ho : I.op = 66) : Calls Tryz.prog 29 #[.pointer (some ⟨g, 0, none⟩)] w fun e w' => e = .returned (.tuple #[]) ∧ Gd w0 w' g G I os p ks (mvO ⟨os, p.key, p.il, p.cc, p.pg, p.ad, bs, ks⟩ I.op I.n I.k (I.a os)) := by
  obtain ⟨u, hu⟩ : ∃ u, os.getD I.n 0 = u := ⟨_, rfl⟩
  obtain ⟨v, hv⟩ : ∃ v, os.getD I.k 0 = v := ⟨_, rfl⟩
  have u0 := getD_in h.ro I.n
  have v0 := getD_in h.ro I.k
  rw [hu] at u0
  rw [hv] at v0
  obtain ⟨A, hA⟩ : ∃ A, I.a os = A := ⟨_, rfl⟩
  have A0 := I.a_in os
  rw [hA] at A0 ⊢
  have RA := Lib.hid (fun w0 W rs q c bs (hW : RS w0 W g G I os rs p q c bs ks) => show Calls Tryz.prog 59 #[.pointer (some ⟨g, 0, none⟩)] W fun e w' => e = .returned (.int .i64 A) ∧ RS w0 w' g G I os rs p q c bs ks from hA ▸ ra_c hW)
  clear hA
  have hmk := mk4
  rcases ho with ho
  all_goals
    rw [ho]
    have HU := Lib.hid hu
    have HV := Lib.hid hv
    have HO := Lib.hid ho
    have R0 := Lib.hid h
    clear hu hv ho h
    refine R0.out.opn ?_
    intros
    go_enter Tryz.func29, Tryz.ntmps29
    go_upto_region 0 with fail
    refine wp_region_held_drew (S := Sx w0 g G I os p) (by kernel_rfl) R0.out.drew.x (fun hHeld => ?_)
    replace R0 := Lib.hid R0.out.drew
    repeat refine tkr ?_
    refine wpAnyH_done (by kernel_rfl) ?_ _
    refine R0.out.opn ?_
    clear hHeld
    intros
    go_upto_region 10 with (go_at_call 76; refine (rpf_c u u0 _ R0.out).mono ?_; rintro e w1 ⟨bb, cap, rfl, hW, hc0, hc1, hb⟩; have R1 := Lib.hid hW; clear hW; unfold maxLen at hc1; have n2 : ¬ cap = 2 := (by omega); have n3 : ¬ cap = 3 := (by omega); refine (RW.rs hout : RS w0 _ g G I os os p p 0 bs ks).opn ?_; intros)
    refine wp_region_held_drew (S := Sx w0 g G I os p) (by kernel_rfl) (RW.rs hout : RS w0 _ g G I os os p p _ bs ks).drew.x (fun hHeld => ?_)
    have R1 := Lib.hid ((hout : RW w0 _ g G I os os p p _ bs ks bb 4 (fby u)).drew)
    repeat refine tkr ?_
    refine tkc (RW.call R1.out (fun hR => RA.out _ _ _ _ _ _ hR)) (fun _ h => h.rs.x) ?_
    clear hHeld R1
    intro w1 R1 hHeld
    repeat refine tkr ?_
    refine tkc (rputm_c (RW.rs R1.out) A (some ⟨bb, 3, none⟩) 1 (cap - 3) ((fby u).drop 3) (byt_from (RW.by_ R1.out) (by omega) _ rfl) (by omega) (by intro _ x hx; injection hx with hx; subst hx; exact RW.n1 R1.out)) (fun _ h => h.x) ?_
    clear hHeld R1
    intro w1 R1 hHeld
    refine wpAnyH_done (by with_unfolding_all rfl) ?_ _
    go_wp2
    first | go_end0 | refine bodyPost_ret (results_none rfl _ _ _) rfl ?_
    exact ⟨rfl, by show Gd _ _ _ _ _ _ _ _ (Pre.wr ⟨os, p.key, p.il, p.cc, p.pg, p.ad, bs, ks⟩ A 1 ((fb (os.getD I.n 0)).drop 3) p.cc); rw [HU.out, ← fby_fb u0]; exact gd_wr hout⟩
end
end Go.Proofs.YthjdjbipfdigeaaGreat

namespace Go.Proofs.YthjdjbipfdigeaaGreat
open Go.RowKit
set_option maxRecDepth 100000
set_option linter.unusedVariables false
set_option linter.unusedSimpArgs false
section
variable {w0 w : World} {g : Nat} {G : Foot} {I : In} {os rs : List Int} {p q : Ps} {c : Int} {bs ks : List Int}
theorem RW.to {bb n : Nat} {zs : List Int} {w' : World} {rs' : List Int} {q' : Ps} {c' : Int} {bs' : List Int} (h : RW w0 w g G I os rs p q c bs ks bb n zs) (h' : RS w w' g G I os rs' p q' c' bs' ks) : RW w0 w' g G I os rs' p q' c' bs' ks bb n zs := ⟨h.rs.re h', h.by_.chg h'.b h.lt (by simp; exact ⟨h.n0, h.n1⟩), Nat.lt_of_lt_of_le h.lt h'.b.size, h.n0, h.n1⟩
set_option maxRecDepth 1000000 in
set_option maxHeartbeats 8000000 in
theorem rsev_152 (h : RS w0 w g G I os os p p 0 bs ks) (ho : I.op = 152) : Calls Tryz.prog 78 #[.pointer (some ⟨g, 0, none⟩)] w fun e w' => e = .returned (.tuple #[]) ∧ RS w0 w' g G I os (lmR os I.n (ftB (atC 0 (I.a os) 4) bs ks p.key (I.a os) (4 * cnt I.n I.k)) (cnt I.n I.k)) p p (ftC (atC 0 (I.a os) 4) bs ks p.key (I.a os) ((4 * cnt I.n I.k : Nat) : Int)) bs ks := by
  obtain ⟨A, hA⟩ : ∃ A, I.a os = A := ⟨_, rfl⟩
  have A0 := I.a_in os
  rw [hA] at A0 ⊢
  have RA := Lib.hid (fun w0 W rs q c bs (hW : RS w0 W g G I os rs p q c bs ks) => show Calls Tryz.prog 59 #[.pointer (some ⟨g, 0, none⟩)] W fun e w' => e = .returned (.int .i64 A) ∧ RS w0 w' g G I os rs p q c bs ks from hA ▸ ra_c hW)
  clear hA
  obtain ⟨C, hC⟩ : ∃ C, cnt I.n I.k = C := ⟨_, rfl⟩
  have nb := h.ix.n
  have kb := h.ix.k
  have C0 : 1 ≤ C ∧ C ≤ 16 := by unfold cnt at hC; omega
  have c1 : IntKind.i64.wrap ((I.k : Int) - (I.n : Int)) = (I.k : Int) - (I.n : Int) := wrap_i64_id (by omega) (by omega)
  have c2 : IntKind.i64.wrap ((I.k : Int) - (I.n : Int) + 16) = (I.k : Int) - (I.n : Int) + 16 := wrap_i64_id (by omega) (by omega)
  have c3 : ((I.k : Int) - (I.n : Int) + 16).tmod 16 = (C : Int) - 1 := by rw [Int.tmod_eq_emod_of_nonneg (by omega)]; unfold cnt at hC; omega
  have c4 : IntKind.i64.wrap (C : Int) = (C : Int) := wrap_i64_id (by omega) (by omega)
  have c5 : (C : Int) - 1 + 1 = (C : Int) := by omega
  obtain ⟨D, hD⟩ : ∃ D, 4 * C = D := ⟨_, rfl⟩
  have c6 : IntKind.i64.wrap (4 * (C : Int)) = (D : Int) := by rw [wrap_i64_id (by omega) (by omega)]; omega
  clear nb kb
  rw [hC, hD]
  obtain ⟨F, hF⟩ : ∃ F, ftC (atC 0 A 4) bs ks p.key A (D : Int) = F := ⟨_, rfl⟩
  obtain ⟨zs, hzs⟩ : ∃ zs, ftB (atC 0 A 4) bs ks p.key A D = zs := ⟨_, rfl⟩
  rw [hF, hzs]
  have HF := Lib.hid hF
  have HZ := Lib.hid hzs
  have HC := Lib.hid hC
  have HD := Lib.hid hD
  have d0 : 0 < D := by omega
  have d1 : D ≤ 1000 := by omega
  clear hF hzs hD
  have HO := Lib.hid ho
  have R0 := Lib.hid h
  clear hC ho h
  refine R0.out.opn ?_
  intros
  go_enter Tryz.func78, Tryz.ntmps78
  go_upto_region 1 with (first
    | (go_at_call 59; refine nx (RA.out _ _ _ _ _ _ hout) fun w1 R1 => R1.out.opn ?_; intros)
    | (go_at_call 77; refine nx (rat_c hout _ _ (.inr rfl) (by omega) (by omega)) fun w1 R1 => R1.out.opn ?_; intros))
  refine wp_region_held_drew (S := Sx w0 g G I os p) (by kernel_rfl) R1.out.drew.x (fun hHeld => ?_)
  replace R1 := Lib.hid R1.out.drew
  repeat refine tkr ?_
  refine wpAnyH_done (by with_unfolding_all rfl) ?_ _
  refine R1.out.opn ?_
  clear hHeld
  intros
  go_upto_region 4 with (first
    | (go_at_call 59; refine nx (RA.out _ _ _ _ _ _ hout) fun w1 R1 => R1.out.opn ?_; intros)
    | (go_at_call 70; have hg9 := (hout : RS w0 _ g G I os os p p _ bs ks).lt; have hg8 := (hout : RS w0 _ g G I os os p p _ bs ks).st.ltb; refine nxf (rfet_c hout _ D d0 d1) ?_; intro b cap w1 O1 hb1 hb2 R1; rw [HF.out] at R1; rw [HZ.out] at O1))
  have NB : b ≠ g ∧ b ≠ G.gb := ⟨by omega, by omega⟩
  have HR := Lib.hid (show RW w0 w1 g G I os os p p F bs ks b D zs from ⟨R1.out, O1.out.byt, hb2, NB.1, NB.2⟩)
  have nn := R1.out.ix.n
  have HN := Lib.hid nn
  clear hb1 hb2 hg9 hg8 NB O1 R1 nn c1 c2 c3 c5 c6
  go_wp2
  go_loopw [4, 5, 6] (fun x _ _ W => ∃ k : Nat, k ≤ C ∧ x = .int .i64 (k : Int) ∧ RW w0 W g G I os (lmR os I.n zs k) p p F bs ks b D zs) (fun x _ _ _ => C - (intOf x).toNat)
  case atStart => exact ⟨0, by omega, rfl, HR.out⟩
  case round =>
    obtain ⟨k, hk, rfl, hW⟩ := hrel
    by_cases hlt : k < C
    · have R2 := Lib.hid hW.rs
      have R3 := Lib.hid hW
      have i0 : (k : Int) < (C : Int) := by omega
      have nb := HN.out
      obtain ⟨m, hm⟩ : ∃ m, (I.n + k) % 16 = m := ⟨_, rfl⟩
      have m0 : m < 16 := by omega
      have m1 : (m : Int) < 16 := by omega
      have q1 : IntKind.i64.wrap ((I.n : Int) + (k : Int)) = (I.n : Int) + (k : Int) := wrap_i64_id (by omega) (by omega)
      have q2 : ((I.n : Int) + (k : Int)).tmod 16 = (m : Int) := by rw [Int.tmod_eq_emod_of_nonneg (by omega)]; omega
      obtain ⟨kk, hkk⟩ : ∃ kk, 4 * k = kk := ⟨_, rfl⟩
      have q3 : IntKind.i64.wrap (4 * (k : Int)) = (kk : Int) := by rw [wrap_i64_id (by omega) (by omega)]; omega
      have hv : fval D (kk : Int) zs = flv (zs.getD kk 0) (zs.getD (kk + 1) 0) (zs.getD (kk + 2) 0) (zs.getD (kk + 3) 0) := by
        unfold fval
        rw [if_pos (by unfold fitB; have := HD.out; simp; omega)]
        rfl
      obtain ⟨x, hx⟩ : ∃ x, fval D (kk : Int) zs = x := ⟨_, rfl⟩
      have FU := Lib.hid (rfull_any _ D cap (kk : Int) zs _ (by omega) hW.by_ (by omega) (by omega))
      rw [hx] at FU hv
      have HX := Lib.hid (show lmR os I.n zs (k + 1) = (lmR os I.n zs k).set m x from by rw [hv, ← hkk, ← hm]; rfl)
      clear hm hkk hx hv hW nb
      go_wp2_with fail
      refine FU.out.mono ?_
      rintro e wx ⟨rfl, rfl⟩
      clear FU
      refine R2.out.opn ?_
      intros
      go_upto_region 8 with fail
      refine wp_region_held_drew (S := Sx w0 g G I os p) (by kernel_rfl) R2.out.drew.x (fun hHeld => ?_)
      replace R3 := Lib.hid R3.out.drew
      clear R2
      repeat refine tkr ?_
      have cS := R3.out.rs.cr (n := m) m0
      have fS := R3.out.rs.fz
      refine tkw (R := fun w' => RW w0 w' g G I os ((lmR os I.n zs k).set m x) p p F bs ks b D zs) (R3.out.to (R3.out.rs.rb.setr m0 x)) (fun _ h => h.rs.x) ?_
      clear cS fS R3 hHeld
      intro w2 R3 hHeld
      refine wpAnyH_done (by with_unfolding_all rfl) ?_ _
      go_wp2
      exact ⟨⟨k + 1, by omega, rfl, by rw [HX.out]; exact R3.out⟩, by simp [intOf]; omega⟩
    · obtain rfl : k = C := by omega
      go_wp2
      first | go_end0 | refine bodyPost_ret (results_none rfl _ _ _) rfl ?_
      exact ⟨rfl, hW.rs⟩
end
end Go.Proofs.YthjdjbipfdigeaaGreat

namespace Go.Proofs.YthjdjbipfdigeaaGreat
open Go.RowKit
set_option maxRecDepth 100000
set_option linter.unusedVariables false
set_option linter.unusedSimpArgs false
section
variable {P : Program} {L : List Oper} {Q : Exit → Act → World → Prop} {md : Region.Mode} {S : World → Prop} {v : Value} {oi : Oper} {fuel : Nat} {listed : Array Bool} {a : Act} {w : World} {X : Prop}
/-- the still operation i -/
theorem tki (i : Nat) (h : X) (hi : L[i]? = some oi := by rfl) (hf : Region.free md L.toArray listed i = true := by kernel_rfl) (hr : (Region.ready md L.toArray listed).contains i = true := by kernel_rfl)
    (hw : Region.wanted oi (yielded L.toArray a.tmps) = true := by rfl) (y : ∀ w, S w → (execOp a.eval oi).run P w = .ok (.value v) w := by (intro w hSw; go_simp; (try with_reducible rfl)))
    (hP : wpAnyH P md L.toArray Q S fuel (listed.setIfInBounds i true) (a.put oi.dst v) w = X := by (simp only [Act.put, List.setIfInBounds_toArray, List.set_cons_zero, List.set_cons_succ]; try rfl))
    (hs : Region.noSelect L.toArray = true := by kernel_rfl) 
    (hQ : ∀ c a w, Q (.panic c) (a.put oi.dst v) w → Q (.panic c) a w := by exact fun _ _ _ h => h) (hS : S w := by assumption) : wpAnyH P md L.toArray Q S (fuel + 1) listed a w := takeL hi hs hf hr hQ (.inl ⟨hw, y⟩) hS (hP ▸ h)
/-- an operation that alone is ready, in the world at hand -/
theorem tkv {i : Nat} (h : X) (hr : Region.ready md L.toArray listed = [i] := by with_unfolding_all rfl) (hi : L[i]? = some oi := by rfl)
    (hw : Region.wanted oi (yielded L.toArray a.tmps) = true := by rfl) (y : (execOp a.eval oi).run P w = .ok (.value v) w := by (go_simp; (try with_reducible rfl)))
    (hP : wpAnyH P md L.toArray Q S fuel (listed.setIfInBounds i true) (a.put oi.dst v) w = X := by (simp only [Act.put, List.setIfInBounds_toArray, List.set_cons_zero, List.set_cons_succ]; try rfl))
    (hS : S w := by assumption) : wpAnyH P md L.toArray Q S (fuel + 1) listed a w := by
  refine tk1 hr ?_
  have hi' : L.toArray[i]? = some oi := by simpa using hi
  unfold wpOp
  simp only [hi', hw, if_true]
  refine .inl ?_
  unfold Oper.wp
  rw [y]
  exact ⟨hS, hP ▸ h⟩
end
/-- the machine, and two slices of bytes -/
structure R2 (w0 w : World) (g : Nat) (G : Foot) (I : In) (os rs : List Int) (p q : Ps) (c : Int) (bs ks : List Int) (bx cx : Nat) (xs : List Int) (b2 c2 : Nat) (ys : List Int) : Prop where
  rs : RS w0 w g G I os rs p q c bs ks
  x : Ro w bx cx xs
  y : Ro w b2 c2 ys
  ng : bx ≠ g ∧ bx ≠ G.g ∧ bx ≠ G.gb ∧ bx ≠ G.gk
  nw : w0.heap.size ≤ bx
  ny : b2 ≠ g ∧ b2 ≠ G.gb ∧ b2 ≠ bx
section
variable {w0 w w' : World} {g : Nat} {G : Foot} {I : In} {os rs : List Int} {p q : Ps} {c : Int} {bs ks : List Int} {bx cx : Nat} {xs : List Int} {b2 c2 : Nat} {ys : List Int}
theorem R2.drew (h : R2 w0 w g G I os rs p q c bs ks bx cx xs b2 c2 ys) : R2 w0 w.drew g G I os rs p q c bs ks bx cx xs b2 c2 ys := ⟨h.rs.drew, h.x.drewN 1, h.y.drewN 1, h.ng, h.nw, h.ny⟩
theorem RS.oth (h : RS w0 w g G I os rs p q c bs ks) {a : Addr} (v : Value) (ha : a.block ≠ g ∧ a.block ≠ G.g ∧ a.block ≠ G.gb ∧ a.block ≠ G.gk) (h0 : w0.heap.size ≤ a.block) : RS w0 (w.setCell a v) g G I os rs p q c bs ks :=
  { h with m := h.m.kept (Below.heap_setCell w a v g (Ne.symm ha.1)), st := h.st.keep (Below.heap_setCell w a v G.g (Ne.symm ha.2.1)) (Below.heap_setCell w a v G.gb (Ne.symm ha.2.2.1)) (Below.heap_setCell w a v G.gk (Ne.symm ha.2.2.2)), b := h.b.setNew h0 v }
theorem R2.to {rs' : List Int} {q' : Ps} {c' : Int} {bs' : List Int} (h : R2 w0 w g G I os rs p q c bs ks bx cx xs b2 c2 ys) (h' : RS w w' g G I os rs' p q' c' bs' ks) : R2 w0 w' g G I os rs' p q' c' bs' ks bx cx xs b2 c2 ys :=
  ⟨h.rs.re h', h.x.keep (h'.b.kept h.x.lt (by simp; exact ⟨h.ng.1, h.ng.2.2.1⟩)), h.y.keep (h'.b.kept h.y.lt (by simp; exact ⟨h.ny.1, h.ny.2.1⟩)), h.ng, h.nw, h.ny⟩
theorem R2.setx (h : R2 w0 w g G I os rs p q c bs ks bx cx xs b2 c2 ys) (j : Nat) {y : Int} (hy : 0 ≤ y ∧ y ≤ 255) : R2 w0 (w.setCell ⟨bx, j, none⟩ (.int .u8 y)) g G I os rs p q c bs ks bx cx (xs.set j y) b2 c2 ys :=
  ⟨h.rs.oth _ h.ng h.nw, h.x.set_ hy, h.y.other _ (Ne.symm h.ny.2.2), h.ng, h.nw, h.ny⟩
theorem gd_cb {o A B C : Int} {N : Nat} (h1 : o ≠ 221) (h2 : o ≠ 220) (h3 : o ≠ 213) (hA : ftC 0 bs ks p.key A (N : Int) = 0) (hB : ftC 0 bs ks p.key B (N : Int) = 0)
    (hC : C = if o = 212 ∨ o = 214 ∨ o = 215 then cmbS (cb o) (sGet bs A N) (sGet bs B N) (A - B) N else p.cc)
    (hR : RS w0 w g G I os os p { p with cc := C } (ptC 0 bs ks p.key A N) (ptB 0 bs ks p.key A (cmb (cb o) (sGet bs A N) (sGet bs B N) (A - B) N)) ks) : Gd w0 w g G I os p ks (loO ⟨os, p.key, p.il, p.cc, p.pg, p.ad, bs, ks⟩ o N A B) := by
  have e1 : Pre.fc ⟨os, p.key, p.il, p.cc, p.pg, p.ad, bs, ks⟩ A N = 0 := by rw [← hA]; exact (if_pos rfl).symm
  have e2 : Pre.fc ⟨os, p.key, p.il, p.cc, p.pg, p.ad, bs, ks⟩ B N = 0 := by rw [← hB]; exact (if_pos rfl).symm
  unfold loO
  rw [if_neg h1, if_neg (fun h => h e1), if_neg h2, if_neg (fun h => h e2), if_neg h3, ← hC]
  exact gd_wr hR
end
end Go.Proofs.YthjdjbipfdigeaaGreat

namespace Go.Proofs.YthjdjbipfdigeaaGreat
open Go.RowKit
set_option maxRecDepth 100000
set_option linter.unusedVariables false
set_option linter.unusedSimpArgs false
section
variable {w w' : World} {g : Nat} {T : TypeId} {cs : List Value}
theorem Bk.mid {l r : List Value} (h : Bk w g T (l ++ (cs ++ r))) : w.rangeAt g l.length cs := fun j v hv => by
  refine h.cell ?_
  rw [List.getElem?_append_right (by omega), show l.length + j - l.length = j by omega]
  rw [List.getElem?_append_left (List.getElem?_eq_some_iff.1 hv).1]; exact hv
theorem Bk.row (h : Bk w g T cs) : w.rangeAt g 0 cs := fun j v hv => by rw [Nat.zero_add]; exact h.cell hv
theorem Bk.rowSet (h : Bk w g T cs) (cs' : List Value) : Bk (w.setRow g cs'.toArray) g T cs' := by
  unfold Bk at h ⊢
  unfold World.setRow
  simp only [Array.getElem?_modify, if_pos, h]
  rfl
theorem Bk.rowOth (h : Bk w g T cs) {k : Nat} (hk : g ≠ k) (cs' : Array Value) : Bk (w.setRow k cs') g T cs := h.kept (setRow_other w k g cs' hk)
theorem Ch.row {a : World} {L : List Nat} (h : Ch a w L) {k : Nat} (hk : k ∈ L ∨ a.heap.size ≤ k) (cs' : Array Value) : Ch a (w.setRow k cs') L :=
  ⟨h.os, h.tape, h.output, by have := h.size; simpa [World.setRow] using this, fun i hi hL => (setRow_other w k i cs' (by rintro rfl; rcases hk with hk | hk; exact hL hk; omega)).trans (h.block i hi hL)⟩
theorem St.rowOth {F : Foot} {bs ks : List Int} {S : TypeId} (h : St S w F bs ks) {k : Nat} (h1 : F.g ≠ k) (h2 : F.gb ≠ k) (h3 : F.gk ≠ k) (cs' : Array Value) : St S (w.setRow k cs') F bs ks := h.keep (setRow_other w k _ cs' h1) (setRow_other w k _ cs' h2) (setRow_other w k _ cs' h3)
/-- a struct's or an array's type -/
def isRw (T : TypeId) : Prop := (Tryz.prog.underlying T).map TypeDesc.isRow = some true
theorem isRw_some {T : TypeId} (h : isRw T) : ∃ d, Tryz.prog.underlying T = some d ∧ d.isRow = true := by
  unfold isRw at h
  cases hu : Tryz.prog.underlying T with
  | none => rw [hu] at h; cases h
  | some d => rw [hu] at h; exact ⟨d, rfl, by injection h⟩
theorem Bk.opn10 {X : Prop} {v0 v1 v2 v3 v4 v5 v6 v7 v8 v9 : Value} (h : Bk w g T [v0, v1, v2, v3, v4, v5, v6, v7, v8, v9]) (hX : w.cell? ⟨g, 0, none⟩ = some v0 → w.cell? ⟨g, 1, none⟩ = some v1 → w.cell? ⟨g, 2, none⟩ = some v2 → w.cell? ⟨g, 3, none⟩ = some v3 → w.cell? ⟨g, 4, none⟩ = some v4 → w.cell? ⟨g, 5, none⟩ = some v5 → w.cell? ⟨g, 6, none⟩ = some v6 → w.cell? ⟨g, 7, none⟩ = some v7 → w.cell? ⟨g, 8, none⟩ = some v8 → w.cell? ⟨g, 9, none⟩ = some v9 → X) : X := hX (h.cell rfl) (h.cell rfl) (h.cell rfl) (h.cell rfl) (h.cell rfl) (h.cell rfl) (h.cell rfl) (h.cell rfl) (h.cell rfl) (h.cell rfl)
theorem Bk.opn12 {X : Prop} {v0 v1 v2 v3 v4 v5 v6 v7 v8 v9 v10 v11 : Value} (h : Bk w g T [v0, v1, v2, v3, v4, v5, v6, v7, v8, v9, v10, v11]) (hX : w.cell? ⟨g, 0, none⟩ = some v0 → w.cell? ⟨g, 1, none⟩ = some v1 → w.cell? ⟨g, 2, none⟩ = some v2 → w.cell? ⟨g, 3, none⟩ = some v3 → w.cell? ⟨g, 4, none⟩ = some v4 → w.cell? ⟨g, 5, none⟩ = some v5 → w.cell? ⟨g, 6, none⟩ = some v6 → w.cell? ⟨g, 7, none⟩ = some v7 → w.cell? ⟨g, 8, none⟩ = some v8 → w.cell? ⟨g, 9, none⟩ = some v9 → w.cell? ⟨g, 10, none⟩ = some v10 → w.cell? ⟨g, 11, none⟩ = some v11 → X) : X := hX (h.cell rfl) (h.cell rfl) (h.cell rfl) (h.cell rfl) (h.cell rfl) (h.cell rfl) (h.cell rfl) (h.cell rfl) (h.cell rfl) (h.cell rfl) (h.cell rfl) (h.cell rfl)
theorem Bk.opn16 {X : Prop} {v0 v1 v2 v3 v4 v5 v6 v7 v8 v9 v10 v11 v12 v13 v14 v15 : Value} (h : Bk w g T [v0, v1, v2, v3, v4, v5, v6, v7, v8, v9, v10, v11, v12, v13, v14, v15]) (hX : w.cell? ⟨g, 0, none⟩ = some v0 → w.cell? ⟨g, 1, none⟩ = some v1 → w.cell? ⟨g, 2, none⟩ = some v2 → w.cell? ⟨g, 3, none⟩ = some v3 → w.cell? ⟨g, 4, none⟩ = some v4 → w.cell? ⟨g, 5, none⟩ = some v5 → w.cell? ⟨g, 6, none⟩ = some v6 → w.cell? ⟨g, 7, none⟩ = some v7 → w.cell? ⟨g, 8, none⟩ = some v8 → w.cell? ⟨g, 9, none⟩ = some v9 → w.cell? ⟨g, 10, none⟩ = some v10 → w.cell? ⟨g, 11, none⟩ = some v11 → w.cell? ⟨g, 12, none⟩ = some v12 → w.cell? ⟨g, 13, none⟩ = some v13 → w.cell? ⟨g, 14, none⟩ = some v14 → w.cell? ⟨g, 15, none⟩ = some v15 → X) : X := hX (h.cell rfl) (h.cell rfl) (h.cell rfl) (h.cell rfl) (h.cell rfl) (h.cell rfl) (h.cell rfl) (h.cell rfl) (h.cell rfl) (h.cell rfl) (h.cell rfl) (h.cell rfl) (h.cell rfl) (h.cell rfl) (h.cell rfl) (h.cell rfl)
theorem ld_row (h : Bk w g T cs) (hd : isRw T := by unfold isRw; kernel_rfl) (hi : (Tryz.prog.info? T).map (·.size) = some cs.length := by kernel_rfl) : (Instr.loadAt T (.pointer (some ⟨g, 0, none⟩))).run Tryz.prog w = .ok (.agg cs.toArray) w := by
  obtain ⟨d, hu, hd⟩ := isRw_some hd
  exact run_loadAt_mid w g 0 T cs d h.row hu hd hi
theorem st_row (h : Bk w g T cs) {cs' : List Value} (hl : cs.length = cs'.length) (h1 : cs'.toArray.all (·.oneCell') = true) (hi : (Tryz.prog.info? T).map (·.size) = some cs'.length) : (Instr.storeAt T (.pointer (some ⟨g, 0, none⟩)) (.agg cs'.toArray)).run Tryz.prog w = .ok () (w.setRow g cs'.toArray) := by
  simp only [Instr.storeAt, Instr.sureAddr, Sem.run_bind, Sem.run_pure, Result.andThen_ok, run_storeVar_row w g T T cs.toArray cs'.toArray h (by simpa using hi) (by simpa using hl) h1]
end
section
variable {L : List Oper} {Q : Exit → Act → World → Prop} {md : Region.Mode} {S : World → Prop} {v : Value} {oi : Oper} {fuel : Nat} {listed : Array Bool} {a : Act} {w : World} {X : Prop}
/-- a whole row is read, in a drawn region -/
theorem tkl (i : Nat) {g o : Nat} {T : TypeId} {x : Operand} {cs : List Value} (hR : ∀ w, S w → w.rangeAt g o cs) (h : X) (hi : L[i]? = some oi := by rfl) (ho : oi.op = .load T x := by rfl) (hx : a.eval x = .pointer (some ⟨g, o, none⟩) := by rfl) (hd : isRw T := by unfold isRw; kernel_rfl) (hn : (Tryz.prog.info? T).map (·.size) = some cs.length := by kernel_rfl) (hf : Region.free md L.toArray listed i = true := by kernel_rfl) (hr : (Region.ready md L.toArray listed).contains i = true := by kernel_rfl)
    (hw : Region.wanted oi (yielded L.toArray a.tmps) = true := by rfl)
    (hP : wpAnyH Tryz.prog md L.toArray Q S fuel (listed.setIfInBounds i true) (a.put oi.dst (.agg cs.toArray)) w = X := by (simp only [Act.put, List.setIfInBounds_toArray, List.set_cons_zero, List.set_cons_succ]; try rfl))
    (hs : Region.noSelect L.toArray = true := by kernel_rfl) 
    (hQ : ∀ c a w, Q (.panic c) (a.put oi.dst (.agg cs.toArray)) w → Q (.panic c) a w := by exact fun _ _ _ h => h) (hS : S w := by assumption) : wpAnyH Tryz.prog md L.toArray Q S (fuel + 1) listed a w := by
  obtain ⟨d, hu, hd⟩ := isRw_some hd
  exact takeL hi hs hf hr hQ (yieldsIf_load_mid hw T x ho g o hx cs d hR hu hd hn) hS (hP ▸ h)
/-- a whole row is written; it alone may come up -/
theorem tks_ {i : Nat} {g : Nat} {T : TypeId} {x y : Operand} {cs cs' : List Value} {R : World → Prop} {X : World → Prop} (hB : Bk w g T cs) (hl : cs.length = cs'.length) (h1 : cs'.toArray.all (·.oneCell') = true) (hn : (Tryz.prog.info? T).map (·.size) = some cs'.length) (hR : R (w.setRow g cs'.toArray)) (hRS : ∀ w', R w' → S w') (h : ∀ w', Hid (R w') → S w' → X w') (hr : Region.ready md L.toArray listed = [i] := by with_unfolding_all rfl) (hi : L[i]? = some oi := by rfl) (ho : oi.op = .store T x y := by rfl) (hx : a.eval x = .pointer (some ⟨g, 0, none⟩) := by rfl) (hy : a.eval y = .agg cs'.toArray := by rfl)
    (hw : Region.wanted oi (yielded L.toArray a.tmps) = true := by rfl)
    (hP : ∀ w', wpAnyH Tryz.prog md L.toArray Q S fuel (listed.setIfInBounds i true) (a.put oi.dst undef) w' = X w' := by (intro w'; simp only [Act.put, List.setIfInBounds_toArray, List.set_cons_zero, List.set_cons_succ]; try rfl)) : wpAnyH Tryz.prog md L.toArray Q S (fuel + 1) listed a w := by
  refine tkw hR hRS h hr hi hw ?_ hP
  unfold execOp
  simp only [ho, hx, hy]
  simp only [Sem.run_bind, st_row hB hl h1 hn, Result.andThen_ok, Sem.run_pure]
end
end Go.Proofs.YthjdjbipfdigeaaGreat

namespace Go.Proofs.YthjdjbipfdigeaaGreat
open Go.RowKit
set_option maxRecDepth 100000
set_option linter.unusedVariables false
set_option linter.unusedSimpArgs false
section
variable {w0 w w' : World} {g : Nat} {F : Foot} {I : In} {os rs : List Int} {p q : Ps} {ov : Bool} {bs ks : List Int}
theorem nxd {b : Bool} {c : Int} {Q : Ending → World → Prop} (h : b = true → Q (.returned (.tuple #[])) w) (h' : b = false → Q (.panicked [{ v := .iface 59 (.int .i64 c), recovered := false }]) w) : Calls Tryz.prog 100 #[.bool b, .int .i64 c] w Q := by
  cases b
  · exact (need_no c w).mono fun e w' he => by obtain ⟨rfl, rfl⟩ := he; exact h' rfl
  · exact (need_ok c w).mono fun e w' he => by obtain ⟨rfl, rfl⟩ := he; exact h rfl
theorem st_u32 {a : Addr} {x : Int} {v : Value} (h : w.cell? a = some v) (hf : w.frozen? a = false) : (Instr.storeAt 24 (.pointer (some a)) (.int .u32 x)).run Tryz.prog w = .ok () (w.setCell a (.int .u32 x)) := by go_simp
theorem st_int {a : Addr} {x : Int} {v : Value} (h : w.cell? a = some v) (hf : w.frozen? a = false) : (Instr.storeAt 3 (.pointer (some a)) (.int .i64 x)).run Tryz.prog w = .ok () (w.setCell a (.int .i64 x)) := by go_simp
theorem st_bool {a : Addr} {x : Bool} {v : Value} (h : w.cell? a = some v) (hf : w.frozen? a = false) : (Instr.storeAt 4 (.pointer (some a)) (.bool x)).run Tryz.prog w = .ok () (w.setCell a (.bool x)) := by go_simp
theorem st_u8 {a : Addr} {x : Int} {v : Value} (h : w.cell? a = some v) (hf : w.frozen? a = false) : (Instr.storeAt 5 (.pointer (some a)) (.int .u8 x)).run Tryz.prog w = .ok () (w.setCell a (.int .u8 x)) := by go_simp
section
variable {L : List Oper} {Q : Exit → Act → World → Prop} {md : Region.Mode} {S : World → Prop} {i : Nat} {oi : Oper} {fuel : Nat} {listed : Array Bool} {a : Act}
/-- a cell is written; it alone may come up -/
theorem tk_st {T : TypeId} {x y : Operand} {A : Addr} {v : Value} {R : World → Prop} {X : World → Prop} (hst : (Instr.storeAt T (.pointer (some A)) v).run Tryz.prog w = .ok () (w.setCell A v)) (hR : R (w.setCell A v)) (hRS : ∀ w', R w' → S w') (h : ∀ w', Hid (R w') → S w' → X w') (hr : Region.ready md L.toArray listed = [i]) (hi : L[i]? = some oi) (ho : oi.op = .store T x y) (hx : a.eval x = .pointer (some A)) (hy : a.eval y = v)
    (hw : Region.wanted oi (yielded L.toArray a.tmps) = true)
    (hP : ∀ w', wpAnyH Tryz.prog md L.toArray Q S fuel (listed.setIfInBounds i true) (a.put oi.dst undef) w' = X w') : wpAnyH Tryz.prog md L.toArray Q S (fuel + 1) listed a w := by
  refine tkw hR hRS h hr hi hw ?_ hP
  unfold execOp
  simp only [ho, hx, hy]
  simp only [Sem.run_bind, hst, Result.andThen_ok, Sem.run_pure]
theorem tpr {n : Nat} {v : Int} {x y : Operand} {X : World → Prop} (hR : PS w0 w g F I os rs p q ov bs ks) (hn : n < 16) (h : ∀ w', Hid (PS w0 w' g F I os (rs.set n v) p q ov bs ks) → S w' → X w') (hr : Region.ready md L.toArray listed = [i] := by with_unfolding_all rfl) (hi : L[i]? = some oi := by rfl) (ho : oi.op = .store 24 x y := by rfl) (hx : a.eval x = .pointer (some ⟨g, 28 + n, none⟩) := by rfl) (hy : a.eval y = .int .u32 v := by rfl)
    (hw : Region.wanted oi (yielded L.toArray a.tmps) = true := by rfl)
    (hRS : ∀ w', PS w0 w' g F I os (rs.set n v) p q ov bs ks → S w' := by first | exact fun _ h => h.x | exact fun _ h => h.z)
    (hP : ∀ w', wpAnyH Tryz.prog md L.toArray Q S fuel (listed.setIfInBounds i true) (a.put oi.dst undef) w' = X w' := by (intro w'; simp only [Act.put, List.setIfInBounds_toArray, List.set_cons_zero, List.set_cons_succ]; try rfl)) : wpAnyH Tryz.prog md L.toArray Q S (fuel + 1) listed a w := tk_st (st_u32 (hR.m.cr hn) (hR.fz _)) (hR.setr hn v) hRS h hr hi ho hx hy hw hP
theorem tpc {v : Int} {x y : Operand} {X : World → Prop} (hR : PS w0 w g F I os rs p q ov bs ks) (h : ∀ w', Hid (PS w0 w' g F I os rs p { q with cc := v } ov bs ks) → S w' → X w') (hr : Region.ready md L.toArray listed = [i] := by with_unfolding_all rfl) (hi : L[i]? = some oi := by rfl) (ho : oi.op = .store 3 x y := by rfl) (hx : a.eval x = .pointer (some ⟨g, 51, none⟩) := by rfl) (hy : a.eval y = .int .i64 v := by rfl)
    (hw : Region.wanted oi (yielded L.toArray a.tmps) = true := by rfl)
    (hRS : ∀ w', PS w0 w' g F I os rs p { q with cc := v } ov bs ks → S w' := by first | exact fun _ h => h.x | exact fun _ h => h.z)
    (hP : ∀ w', wpAnyH Tryz.prog md L.toArray Q S fuel (listed.setIfInBounds i true) (a.put oi.dst undef) w' = X w' := by (intro w'; simp only [Act.put, List.setIfInBounds_toArray, List.set_cons_zero, List.set_cons_succ]; try rfl)) : wpAnyH Tryz.prog md L.toArray Q S (fuel + 1) listed a w := tk_st (st_int (hR.m.cp (n := 7) (by omega)) (hR.fz _)) (hR.setcc v) hRS h hr hi ho hx hy hw hP
theorem tpv {v : Bool} {x y : Operand} {X : World → Prop} (hR : PS w0 w g F I os rs p q ov bs ks) (h : ∀ w', Hid (PS w0 w' g F I os rs p q v bs ks) → S w' → X w') (hr : Region.ready md L.toArray listed = [i] := by with_unfolding_all rfl) (hi : L[i]? = some oi := by rfl) (ho : oi.op = .store 4 x y := by rfl) (hx : a.eval x = .pointer (some ⟨g, 55, none⟩) := by rfl) (hy : a.eval y = .bool v := by rfl)
    (hw : Region.wanted oi (yielded L.toArray a.tmps) = true := by rfl)
    (hRS : ∀ w', PS w0 w' g F I os rs p q v bs ks → S w' := by first | exact fun _ h => h.x | exact fun _ h => h.z)
    (hP : ∀ w', wpAnyH Tryz.prog md L.toArray Q S fuel (listed.setIfInBounds i true) (a.put oi.dst undef) w' = X w' := by (intro w'; simp only [Act.put, List.setIfInBounds_toArray, List.set_cons_zero, List.set_cons_succ]; try rfl)) : wpAnyH Tryz.prog md L.toArray Q S (fuel + 1) listed a w := tk_st (st_bool (hR.m.cv) (hR.fz _)) (hR.setov v) hRS h hr hi ho hx hy hw hP
/-- a call that alone may come up, and changes nothing -/
theorem tkz {f : FuncId} {args : Array Value} {v : Value} {X : Prop} (hc : Calls Tryz.prog f args w fun e w' => e = .returned v ∧ w = w') (h : X) (hr : Region.ready md L.toArray listed = [i] := by with_unfolding_all rfl) (hi : L[i]? = some oi := by rfl)
    (hw : Region.wanted oi (yielded L.toArray a.tmps) = true := by rfl) (hx : (execOp a.eval oi).run Tryz.prog w = .ok (.enter f args) w := by (go_simp; (try with_reducible rfl)))
    (hP : wpAnyH Tryz.prog md L.toArray Q S fuel (listed.setIfInBounds i true) (a.put oi.dst v) w = X := by (simp only [Act.put, List.setIfInBounds_toArray, List.set_cons_zero, List.set_cons_succ]; try rfl)) (hS : S w := by assumption) : wpAnyH Tryz.prog md L.toArray Q S (fuel + 1) listed a w := by
  refine ⟨fun h0 => (by rw [hr] at h0; cases h0), fun j hj => ?_⟩
  rw [hr, List.mem_singleton] at hj
  subst hj
  have hi' : L.toArray[j]? = some oi := by simpa using hi
  unfold wpOp
  simp only [hi', hw, if_true]
  refine .inl ?_
  unfold Oper.wp
  rw [hx]
  refine Calls.mono hc fun e w' he => ?_
  obtain ⟨rfl, rfl⟩ := he
  exact ⟨hS, hP ▸ h⟩
end
/-- a pure call -/
theorem nz {P : Program} {f : FuncId} {args : Array Value} {v : Value} {Q : Ending → World → Prop} (hc : Calls P f args w fun e w' => e = .returned v ∧ w = w') (h : Q (.returned v) w) : Calls P f args w Q := hc.mono fun _ _ ⟨he, hw⟩ => he ▸ hw ▸ h
theorem pset_c (h : PS w0 w g F I os rs p q ov bs ks) (v cc : Int) (o : Bool) : Calls Tryz.prog 98 #[.pointer (some ⟨g, 0, none⟩), .int .u32 v, .int .i64 cc, .bool o] w fun e w' => e = .returned (.tuple #[]) ∧ PS w0 w' g F I os (rs.set I.n v) p { q with cc := cc } o bs ks := by
  have R0 := Lib.hid h
  have hn := h.ix.n
  clear h
  go_enter Tryz.func98, Tryz.ntmps98
  go_upto_region 0 with fail
  refine wp_region_held_drew (S := Sy w0 g F I os p) (by kernel_rfl) R0.out.drew.x (fun hHeld => ?_)
  have R1 := Lib.hid R0.out.drew
  repeat refine tkp ?_
  refine tpr R1.out hn ?_
  clear R1 hHeld
  intro w2 R2 hHeld
  repeat refine tkp ?_
  refine tpc R2.out ?_
  clear R2 hHeld
  intro w3 R3 hHeld
  refine wpAnyH_done (by with_unfolding_all rfl) ?_ _
  refine R3.out.opn ?_
  clear hHeld
  intros
  go_wp2
  go_end0
  exact ⟨rfl, R3.out.setov o⟩
theorem pbits_c (h : PS w0 w g F I os rs p q ov bs ks) (v : Int) : Calls Tryz.prog 131 #[.pointer (some ⟨g, 0, none⟩), .int .u32 v] w fun e w' => e = .returned (.tuple #[]) ∧ PS w0 w' g F I os (rs.set I.n v) p { q with cc := nzC v } false bs ks := by
  have R0 := Lib.hid h
  clear h
  unfold nzC
  by_cases hz : v = 0
  · have e0 : (v == 0) = true := by simpa using hz
    rw [if_pos hz]
    clear hz
    go_enter Tryz.func131, Tryz.ntmps131
    go_wp2_with (go_at_call 98; refine nx (pset_c R0.out _ _ _) ?_; intro w1 R1; refine R1.out.opn ?_; intros)
    go_end0
    exact ⟨rfl, R1.out.setcc 0⟩
  · have e0 : (v == 0) = false := by simpa using hz
    rw [if_neg hz]
    clear hz
    go_enter Tryz.func131, Tryz.ntmps131
    go_wp2_with (go_at_call 98; refine nx (pset_c R0.out _ _ _) ?_; intro w1 R1)
    go_end0
    exact ⟨rfl, R1.out⟩
theorem pfst_c (h : PS w0 w g F I os rs p q ov bs ks) : Calls Tryz.prog 111 #[.pointer (some ⟨g, 0, none⟩)] w fun e w' => e = .returned (.int .i64 (I.a1 os)) ∧ PS w0 w' g F I os rs p q ov bs ks :=
  (first_c g I.b I.d I.z os rs q.v _ ov w h.m h.ro rfl h.ix.d.1 h.ix.d.2 rfl h.ix.b).mono fun _ _ hh => ⟨hh.1, h.keep (hh.2.below (Nat.le_refl _) (by simp))⟩
theorem psec_c (h : PS w0 w g F I os rs p q ov bs ks) : Calls Tryz.prog 44 #[.pointer (some ⟨g, 0, none⟩)] w fun e w' => e = .returned (.int .i64 (I.a os)) ∧ PS w0 w' g F I os rs p q ov bs ks :=
  (second_c g I.b' I.x I.d' I.z os rs q.v _ ov w h.m h.ro rfl h.ix.d'.1 h.ix.d'.2 rfl h.ix.b' rfl h.ix.x).mono fun _ _ hh => ⟨hh.1, h.keep (hh.2.below (Nat.le_refl _) (by simp))⟩
/-- bytes that have been fetched -/
def FdP (w0 w : World) (g : Nat) (F : Foot) (I : In) (os rs : List Int) (p q : Ps) (ov : Bool) (bs ks : List Int) (a : Int) (n : Nat) (v : Value) (w' : World) : Prop := sCode (alF p.key) bs.length ks a n = 0 ∧ ∃ b cap, v = .slice (some ⟨b, 0, none⟩) n cap ∧ Own w' w.heap.size v n (sGet bs a n) ∧ w.heap.size ≤ b ∧ b < w'.heap.size ∧ PS w0 w' g F I os rs p q ov bs ks
set_option maxRecDepth 1000000 in
set_option maxHeartbeats 8000000 in
theorem pfet_c (h : PS w0 w g F I os rs p q ov bs ks) (a : Int) (n : Nat) (n0 : 0 < n) : Calls Tryz.prog 108 #[.pointer (some ⟨g, 0, none⟩), .int .i64 a, .int .i64 (n : Int)] w (Th (FdP w0 w g F I os rs p q ov bs ks a n) (sCode (alF p.key) bs.length ks a n) (fun w' => sCode (alF p.key) bs.length ks a n ≠ 0 ∧ PS w0 w' g F I os rs p q ov bs ks)) := by
  have FC := Lib.hid (fetch_c w.drew (h.st.drewN 1) a n p.key)
  obtain ⟨cd, hcd⟩ : ∃ x, sCode (alF p.key) bs.length ks a n = x := ⟨_, rfl⟩
  have hsf : sFet (alF p.key) bs ks a n = if cd = 0 then sGet bs a n else [] := by unfold sFet; rw [hcd]
  have hgl : cd = 0 → (sGet bs a n).length = n := by
    intro hz
    have h1 := sCode_zero (hcd.trans hz)
    obtain ⟨_, _, _, _⟩ := sIn_yes h1
    unfold sGet; rw [if_pos h1]; simp; omega
  have hfd : ∀ v w', (cd = 0 ∧ ∃ b cap, v = .slice (some ⟨b, 0, none⟩) n cap ∧ Own w' w.heap.size v n (sGet bs a n) ∧ w.heap.size ≤ b ∧ b < w'.heap.size ∧ PS w0 w' g F I os rs p q ov bs ks) → FdP w0 w g F I os rs p q ov bs ks a n v w' := fun v w' h => ⟨hcd.trans h.1, h.2⟩
  have HFD := Lib.hid hfd
  rw [hcd] at FC ⊢
  rw [hsf] at FC
  clear hfd
  have HL := Lib.hid hgl
  have R0 := Lib.hid h
  clear hcd hsf hgl h
  go_enter Tryz.func108, Tryz.ntmps108
  go_upto_region 1 with fail
  refine wp_region_held_drew (S := Sy w0 g F I os p) (by kernel_rfl) R0.out.drew.x (fun hHeld => ?_)
  have R1 := Lib.hid R0.out.drew
  repeat refine tkp ?_
  refine tkce (R := fun v w' => ∃ A m cap, v = .tuple #[.slice A m cap, .int .i64 cd] ∧ Own w' w.heap.size (.slice A m cap) m (if cd = 0 then sGet bs a n else []) ∧ PS w0 w' g F I os rs p q ov bs ks) (FC.out.mono ?_) (fun _ _ ⟨_, _, _, _, _, h⟩ => h.x) ?_
  · rintro e w' ⟨A, m, cap, rfl, hO, hb⟩
    exact ⟨_, rfl, A, m, cap, rfl, hO, R1.out.keep hb⟩
  clear hHeld R1 FC
  intro v w1 R1 hHeld
  obtain ⟨A, m, cap, rfl, hO, hR⟩ := R1.out
  have O1 := Lib.hid hO
  replace R1 := Lib.hid hR
  clear hO hR
  repeat refine tkp ?_
  refine wpAnyH_done (by with_unfolding_all rfl) ?_ _
  clear hHeld
  by_cases hz : cd = 0
  · subst hz
    rw [if_pos rfl] at O1
    go_wp2_with (go_at_call 100; refine nxd (fun _ => ?_) (fun h => by cases h))
    go_ret
    have hm : m = n := by have := O1.out.len; rw [HL.out trivial] at this; exact this.symm
    subst hm
    obtain ⟨b, cap', hv, h1, h2, -, -⟩ := O1.out.pos n0
    injection hv with e1 e2 e3
    subst e1 e3
    (refine Th.ok ?_; exact HFD.out _ _ ⟨by trivial, b, _, rfl, O1.out, h1, h2, R1.out⟩)
  · have e1 : (cd == 0) = false := by simpa using hz
    have HZ := Lib.hid hz
    clear hz
    go_wp2_with (go_at_call 100; refine nxd (fun h => by cases h) (fun _ => ?_))
    (refine ⟨rfl, Th.no rfl ?_⟩; exact ⟨HZ.out, R1.out⟩)
set_option maxRecDepth 1000000 in
set_option maxHeartbeats 8000000 in
theorem pput_c (h : PS w0 w g F I os rs p q ov bs ks) (a : Int) (A : Option Addr) (len cap : Nat) (ys : List Int) (hy : Byt w A len ys) (hl : (len : Int) ≤ 9223372036854775807) : Calls Tryz.prog 105 #[.pointer (some ⟨g, 0, none⟩), .int .i64 a, .slice A len cap] w (Th (fun v w' => v = .tuple #[] ∧ sCode (alP p.key) bs.length ks a len = 0 ∧ PS w0 w' g F I os rs p q ov (sPut (alP p.key) bs ks a ys) ks) (sCode (alP p.key) bs.length ks a len) (fun w' => sCode (alP p.key) bs.length ks a len ≠ 0 ∧ PS w0 w' g F I os rs p q ov bs ks)) := by
  have PC := Lib.hid (put_c w.drew (h.st.drewN 1) a p.key A len cap ys (hy.keep (below_draw w 1)) hl)
  have hsame : sCode (alP p.key) bs.length ks a len ≠ 0 → sPut (alP p.key) bs ks a ys = bs := by
    intro hc
    unfold sPut
    rw [hy.1, if_neg hc]
  obtain ⟨cd, hcd⟩ : ∃ x, sCode (alP p.key) bs.length ks a len = x := ⟨_, rfl⟩
  rw [hcd] at PC hsame ⊢
  obtain ⟨bs', hbs⟩ : ∃ x, sPut (alP p.key) bs ks a ys = x := ⟨_, rfl⟩
  rw [hbs] at PC hsame ⊢
  have HS := Lib.hid hsame
  have R0 := Lib.hid h
  clear hcd hbs hsame hy h
  go_enter Tryz.func105, Tryz.ntmps105
  go_upto_region 0 with fail
  refine wp_region_held_drew (S := Sy w0 g F I os p) (by kernel_rfl) R0.out.drew.x (fun hHeld => ?_)
  have R1 := Lib.hid R0.out.drew
  repeat refine tkp ?_
  refine tkc (R := fun w' => PS w0 w' g F I os rs p q ov bs' ks) (PC.out.mono fun e w' he => ⟨he.1, R1.out.put_ he.2.1 he.2.2⟩) (fun _ h => h.x) ?_
  clear hHeld R1 PC
  intro w1 R1 hHeld
  repeat refine tkp ?_
  refine wpAnyH_done (by with_unfolding_all rfl) ?_ _
  clear hHeld
  by_cases hz : cd = 0
  · subst hz
    go_wp2_with (go_at_call 100; refine nxd (fun _ => ?_) (fun h => by cases h))
    go_end0
    (refine Th.ok ?_; first | exact ⟨rfl, rfl, R1.out⟩ | exact ⟨rfl, R1.out⟩)
  · have e1 : (cd == 0) = false := by simpa using hz
    have HZ := Lib.hid hz
    clear hz
    go_wp2_with (go_at_call 100; refine nxd (fun h => by cases h) (fun _ => ?_))
    (refine ⟨rfl, Th.no rfl ?_⟩; exact ⟨HZ.out, HS.out HZ.out ▸ R1.out⟩)
theorem paln_c (h : PS w0 w g F I os rs p q ov bs ks) (n : Int) (hn : n = 2 ∨ n = 4) : Calls Tryz.prog 106 #[.pointer (some ⟨g, 0, none⟩), .int .i64 n] w (Th (fun v w' => v = .int .i64 (I.a os) ∧ I.a os % n = 0 ∧ PS w0 w' g F I os rs p q ov bs ks) 6 (fun w' => ¬ I.a os % n = 0 ∧ PS w0 w' g F I os rs p q ov bs ks)) := by
  have RA := Lib.hid (psec_c h)
  have a0 := I.a_in os
  obtain ⟨A, hA⟩ : ∃ A, I.a os = A := ⟨_, rfl⟩
  rw [hA] at RA a0 ⊢
  clear h hA
  have e1 : IntKind.i64.wrap (A.tmod n) = A % n := by rcases hn with rfl | rfl <;> rw [Int.tmod_eq_emod_of_nonneg a0.1] <;> exact wrap_i64_id (by omega) (by omega)
  have e2 : (n == 0) = false := by rcases hn with rfl | rfl <;> rfl
  have e3 : ¬ n = 0 := by omega
  have e4 : ¬ n = -1 := by omega
  have HN := Lib.hid hn
  clear hn
  by_cases hz : A % n = 0
  · have e0 : (A % n == 0) = true := by simpa using hz
    have HZ := Lib.hid hz
    clear hz
    go_enter Tryz.func106, Tryz.ntmps106
    go_wp2_with (first
      | (go_at_call 44; refine nx RA.out ?_; intro w1 R1)
      | (go_at_call 100; refine nxd (fun _ => ?_) (fun h => by cases h)))
    go_ret
    (refine Th.ok ?_; exact ⟨rfl, HZ.out, R1.out⟩)
  · have e0 : (A % n == 0) = false := by simpa using hz
    have HZ := Lib.hid hz
    clear hz
    go_enter Tryz.func106, Tryz.ntmps106
    go_wp2_with (first
      | (go_at_call 44; refine nx RA.out ?_; intro w1 R1)
      | (go_at_call 100; refine nxd (fun h => by cases h) (fun _ => ?_)))
    (refine ⟨rfl, Th.no rfl ?_⟩; exact ⟨HZ.out, R1.out⟩)
end
end Go.Proofs.YthjdjbipfdigeaaGreat

namespace Go.Proofs.YthjdjbipfdigeaaGreat
open Go.RowKit
set_option maxRecDepth 100000
set_option linter.unusedVariables false
set_option linter.unusedSimpArgs false
section
variable {w0 w w' : World} {g : Nat} {F : Foot} {I : In} {os rs : List Int} {p q : Ps} {ov : Bool} {bs ks : List Int}
/-- a call that may throw, its one answer known -/
theorem nxk {P : Program} {f : FuncId} {args : Array Value} {v0 : Value} {c : Int} {cnd ncnd : Prop} {R R' : World → Prop} {Q : Ending → World → Prop} (hc : Calls P f args w (Th (fun v w' => v = v0 ∧ cnd ∧ R w') c (fun w' => ncnd ∧ R' w'))) (h : ∀ w', Hid cnd → Hid (R w') → Q (.returned v0) w') (h' : ∀ w', Hid ncnd → Hid (R' w') → Q (.panicked [{ v := .iface 59 (.int .i64 c), recovered := false }]) w') : Calls P f args w Q :=
  hc.mono fun e w' he => by
    rcases he with ⟨v, rfl, rfl, h1, h2⟩ | ⟨rfl, h1, h2⟩
    · exact h w' (Lib.hid h1) (Lib.hid h2)
    · exact h' w' (Lib.hid h1) (Lib.hid h2)
/-- a fetch -/
theorem nxh {P : Program} {f : FuncId} {args : Array Value} {c : Int} {ncnd : Prop} {R' : World → Prop} {a : Int} {n : Nat} {Q : Ending → World → Prop} (hc : Calls P f args w (Th (FdP w0 w g F I os rs p q ov bs ks a n) c (fun w' => ncnd ∧ R' w'))) (h : ∀ b cap w', Hid (sCode (alF p.key) bs.length ks a n = 0) → Hid (Own w' w.heap.size (.slice (some ⟨b, 0, none⟩) n cap) n (sGet bs a n)) → w.heap.size ≤ b → b < w'.heap.size → Hid (PS w0 w' g F I os rs p q ov bs ks) → Q (.returned (.slice (some ⟨b, 0, none⟩) n cap)) w') (h' : ∀ w', Hid ncnd → Hid (R' w') → Q (.panicked [{ v := .iface 59 (.int .i64 c), recovered := false }]) w') : Calls P f args w Q :=
  hc.mono fun e w' he => by
    rcases he with ⟨v, rfl, h0, b, cap, rfl, h1, h2, h3, h4⟩ | ⟨rfl, h1, h2⟩
    · exact h b cap w' (Lib.hid h0) (Lib.hid h1) h2 h3 (Lib.hid h4)
    · exact h' w' (Lib.hid h1) (Lib.hid h2)
/-- how a method ends whose answer is the plain o -/
def Gp (w0 : World) (g : Nat) (F : Foot) (I : In) (os : List Int) (p : Ps) (bs ks : List Int) (o : Out) (e : Ending) (w' : World) : Prop :=
  (o.c = 0 → e = .returned (.tuple #[]) ∧ PS w0 w' g F I os o.rs p (p.to o.cc o.pg o.ad) o.ov o.bs ks) ∧ (o.c ≠ 0 → e = Pn o.c ∧ ∃ rs q ov, PS w0 w' g F I os rs p q ov bs ks)
theorem gp_ok {o : Out} {bs' : List Int} (hR : PS w0 w g F I os rs p q ov bs' ks) (ho : o = ⟨0, rs, q.cc, q.pg, q.ad, ov, bs'⟩) : Gp w0 g F I os p bs ks o (.returned (.tuple #[])) w := by
  subst ho
  exact ⟨fun _ => ⟨rfl, hR.hq ▸ hR⟩, fun h => absurd rfl h⟩
theorem gp_no {o : Out} {c : Int} (hR : PS w0 w g F I os rs p q ov bs ks) (hc : o.c = c) (h0 : c ≠ 0) : Gp w0 g F I os p bs ks o (.panicked [{ v := .iface 59 (.int .i64 c), recovered := false }]) w := by
  subst hc
  exact ⟨fun h => absurd h h0, fun _ => ⟨rfl, _, _, _, hR⟩⟩
set_option maxRecDepth 1000000 in
set_option maxHeartbeats 8000000 in
theorem popd_c (h : PS w0 w g F I os rs p q ov bs ks) : Calls Tryz.prog 125 #[.pointer (some ⟨g, 0, none⟩)] w (Th (fun v w' => v = .int .u32 (opV I.op I.fm os I.k bs (I.a os)) ∧ opC I.op I.fm bs ks p.key (I.a os) = 0 ∧ PS w0 w' g F I os rs p q ov bs ks) (opC I.op I.fm bs ks p.key (I.a os)) (fun w' => opC I.op I.fm bs ks p.key (I.a os) ≠ 0 ∧ PS w0 w' g F I os rs p q ov bs ks)) := by
  unfold opV opC
  by_cases h1 : I.fm = 1
  · rw [if_pos h1, if_pos h1]
    obtain ⟨v, hv⟩ : ∃ v, os.getD I.k 0 = v := ⟨_, rfl⟩
    rw [hv]
    have HV := Lib.hid hv
    have e1 : (I.fm == 1) = true := by simpa using h1
    clear h1 hv
    refine h.opn ?_
    clear h
    intro R0
    intros
    go_enter Tryz.func125, Tryz.ntmps125
    go_upto_region 4 with fail
    refine wp_region_held_drew (S := Sy w0 g F I os p) (by kernel_rfl) R0.out.drew.x (fun hHeld => ?_)
    have R1 := Lib.hid R0.out.drew
    repeat refine tkp ?_
    refine wpAnyH_done (by kernel_rfl) ?_ _
    go_wp2
    go_ret
    (refine Th.ok ?_; first | exact ⟨rfl, rfl, R1.out⟩ | exact ⟨rfl, trivial, R1.out⟩)
  rw [if_neg h1, if_neg h1]
  have e1 : (I.fm == 1) = false := by simpa using h1
  clear h1
  have A0 := I.a_in os
  obtain ⟨A, hA⟩ : ∃ A, I.a os = A := ⟨_, rfl⟩
  rw [hA] at A0 ⊢
  have HA := Lib.hid hA
  clear hA
  by_cases h2 : 72 ≤ I.op ∧ I.op ≤ 76
  · rw [if_pos h2, if_pos h2]
    obtain ⟨h2, h3⟩ := h2
    have e2 : I.op ≥ 72 := h2
    clear h2
    obtain ⟨C, hC⟩ : ∃ C, (if A % 2 = 0 then sCode (alF p.key) bs.length ks A 2 else 6) = C := ⟨_, rfl⟩
    obtain ⟨V, hV⟩ : ∃ V, g2V bs A = V := ⟨_, rfl⟩
    rw [hC, hV]
    have HC := Lib.hid hC
    have HV := Lib.hid hV
    clear hC hV
    refine h.opn ?_
    clear h
    intro R0
    intros
    go_enter Tryz.func125, Tryz.ntmps125
    go_wp2_with (first
      | (go_at_call 106; refine nxk (HA.out ▸ paln_c hout 2 (.inl rfl)) (fun w1 Z1 R1 => ?_) (fun w1 Z1 R1 => ?_))
      | (go_at_call 108; refine nxh (pfet_c R1.out A 2 (by omega)) (fun b cap w1 Z2 O1 hb1 hb2 R1 => ?_) (fun w1 Z2 R1 => ?_))
      | (go_at_call 160; refine (half_any _ _ _ 0 _ _ (by omega) O1.out.byt (by omega) (by omega)).mono ?_; rintro e wx ⟨rfl, nd, rfl⟩))
    all_goals first
      | (go_ret; refine Th.ok ?_; exact ⟨by rw [← HV.out]; rfl, by rw [← HC.out, if_pos Z1.out]; exact Z2.out, R1.out.drewN _⟩)
      | (refine ⟨rfl, Th.no (by rw [← HC.out, if_pos Z1.out]) ?_⟩; exact ⟨by rw [← HC.out, if_pos Z1.out]; exact Z2.out, R1.out⟩)
      | (refine ⟨rfl, Th.no (by rw [← HC.out, if_neg Z1.out]) ?_⟩; exact ⟨by rw [← HC.out, if_neg Z1.out]; decide, R1.out⟩)
  · rw [if_neg h2, if_neg h2]
    rcases (show ¬ I.op ≥ 72 ∨ (I.op ≥ 72 ∧ ¬ I.op ≤ 76) by omega) with h2 | ⟨h2, h3⟩
    all_goals
      obtain ⟨C, hC⟩ : ∃ C, (if A % 4 = 0 then sCode (alF p.key) bs.length ks A 4 else 6) = C := ⟨_, rfl⟩
      obtain ⟨V, hV⟩ : ∃ V, g4V bs A = V := ⟨_, rfl⟩
      rw [hC, hV]
      have HC := Lib.hid hC
      have HV := Lib.hid hV
      clear hC hV
      refine h.opn ?_
      clear h
      intro R0
      intros
      go_enter Tryz.func125, Tryz.ntmps125
      go_wp2_with (first
        | (go_at_call 106; refine nxk (HA.out ▸ paln_c hout 4 (.inr rfl)) (fun w1 Z1 R1 => ?_) (fun w1 Z1 R1 => ?_))
        | (go_at_call 108; refine nxh (pfet_c R1.out A 4 (by omega)) (fun b cap w1 Z2 O1 hb1 hb2 R1 => ?_) (fun w1 Z2 R1 => ?_))
        | (go_at_call 110; refine (full_any _ _ _ 0 _ _ (by omega) O1.out.byt (by omega) (by omega)).mono ?_; rintro e wx ⟨rfl, nd, rfl⟩))
      all_goals first
        | (go_ret; refine Th.ok ?_; exact ⟨by rw [← HV.out]; rfl, by rw [← HC.out, if_pos Z1.out]; exact Z2.out, R1.out.drewN _⟩)
        | (refine ⟨rfl, Th.no (by rw [← HC.out, if_pos Z1.out]) ?_⟩; exact ⟨by rw [← HC.out, if_pos Z1.out]; exact Z2.out, R1.out⟩)
        | (refine ⟨rfl, Th.no (by rw [← HC.out, if_neg Z1.out]) ?_⟩; exact ⟨by rw [← HC.out, if_neg Z1.out]; decide, R1.out⟩)
theorem arO_no {P : Pre} {op c v : Int} {n : Nat} (h : ¬ (op = 28 ∨ op = 29 ∨ op = 92 ∨ op = 93)) (hc : c ≠ 0) : arO P op n c v = P.no c := by unfold arO; rw [if_neg h, if_pos hc]
theorem opV_in {op fm a : Int} {k : Nat} (ro : ∀ z ∈ os, 0 ≤ z ∧ z ≤ 4294967295) (hb : ∀ z ∈ bs, 0 ≤ z ∧ z ≤ 255) : 0 ≤ opV op fm os k bs a ∧ opV op fm os k bs a ≤ 4294967295 := by
  unfold opV g2V g4V
  split
  · exact getD_in ro k
  split
  · have a0 := sGet_in (bs := bs) a 2 hb 0
    have a1 := sGet_in (bs := bs) a 2 hb 1
    unfold hfv lo32; omega
  · have a0 := sGet_in (bs := bs) a 4 hb 0
    have a1 := sGet_in (bs := bs) a 4 hb 1
    have a2 := sGet_in (bs := bs) a 4 hb 2
    have a3 := sGet_in (bs := bs) a 4 hb 3
    unfold flv; omega
end
end Go.Proofs.YthjdjbipfdigeaaGreat

