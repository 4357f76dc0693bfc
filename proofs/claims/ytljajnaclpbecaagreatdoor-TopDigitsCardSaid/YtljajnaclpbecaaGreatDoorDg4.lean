/- Contracts and laws on the way to the statement, text 4 of 10. Conditions: as each states them. -/
import Derived.Test.YtljajnaclpbecaaGreatDoorDg1
import Derived.Test.YtljajnaclpbecaaGreatDoorDg2
import Derived.Test.YtljajnaclpbecaaGreatDoorDg3
import Derived.Test.YtljajnaclpbecaaGreatDoorProg
import Derived.Lib.Hide
import Derived.Outline
import Derived.Deep.QuietTactic
import Derived.BigQuiet
import Derived.Deep.MidRow
import Derived.MapKept
namespace Go.Proofs.YtljajnaclpbecaaGreatDoor
open Go.RowKit
set_option maxRecDepth 100000
set_option linter.unusedVariables false
set_option linter.unusedSimpArgs false
def In.z (I : In) : List Int := [I.op, I.fm, I.n, I.k, I.x, I.b, I.d, I.b', I.d', I.l, I.l', I.i]
def Ps.to (p : Ps) (cc pg ad : Int) : Ps := { p with cc := cc, pg := pg, ad := ad }
/-- the machine and its storage; since w0 only the machine's block and the storage's bytes may have changed -/
structure PS (w0 w : World) (g : Nat) (F : Foot) (I : In) (os rs : List Int) (p q : Ps) (ov : Bool) (bs ks : List Int) : Prop where
  m : Mc w g I.z os rs q.v (.pointer (some ⟨F.g, 0, none⟩)) ov
  st : St 63 w F bs ks
  b : Ch w0 w [g, F.gb]
  n0 : g ≠ F.g
  n1 : g ≠ F.gb
  n2 : g ≠ F.gk
  ro : ∀ z ∈ os, 0 ≤ z ∧ z ≤ 4294967295
  ix : I.ok
  hq : q = p.to q.cc q.pg q.ad
/-- a code that is thrown -/
def Pn (c : Int) : Ending := .panicked [{ v := .iface 124 (.int .i64 c), recovered := false }]
/-- a call's two ways to end: a value, a code that is thrown -/
def Th (A : Value → World → Prop) (c : Int) (B : World → Prop) (e : Ending) (w' : World) : Prop := (∃ v, e = .returned v ∧ A v w') ∨ (e = .panicked [{ v := .iface 124 (.int .i64 c), recovered := false }] ∧ B w')
theorem Th.ok {A : Value → World → Prop} {c : Int} {B : World → Prop} {v : Value} {w : World} (h : A v w) : Th A c B (.returned v) w := .inl ⟨v, rfl, h⟩
theorem Th.no {A : Value → World → Prop} {c c' : Int} {B : World → Prop} {w : World} (hc : c' = c) (h : B w) : Th A c B (.panicked [{ v := .iface 124 (.int .i64 c'), recovered := false }]) w := .inr ⟨by rw [hc], h⟩
section
variable {w0 w w' : World} {g : Nat} {F : Foot} {I : In} {os rs : List Int} {p q : Ps} {ov : Bool} {bs ks : List Int}
theorem PS.lt (h : PS w0 w g F I os rs p q ov bs ks) : g < w.heap.size := h.m.lt
theorem PS.ms (h : PS w0 w g F I os rs p q ov bs ks) : MS w g F I.z os rs q.v ov bs ks := ⟨h.m, h.st, h.n0, h.n1, h.n2⟩
theorem PS.fz (h : PS w0 w g F I os rs p q ov bs ks) (j : Nat) : w.frozen? ⟨g, j, none⟩ = false := h.m.free j
theorem PS.keep (h : PS w0 w g F I os rs p q ov bs ks) (hb : Below w.heap.size w w') : PS w0 w' g F I os rs p q ov bs ks := { h with m := h.m.keep hb, st := h.st.belowS hb, b := h.b.trans (Ch.of_below hb _) }
theorem PS.drewN (h : PS w0 w g F I os rs p q ov bs ks) (n : Nat) : PS w0 (w.drewN n) g F I os rs p q ov bs ks := h.keep (dBelow' (Below.refl _ _) n)
theorem PS.drew (h : PS w0 w g F I os rs p q ov bs ks) : PS w0 w.drew g F I os rs p q ov bs ks := h.drewN 1
theorem PS.mc {rs' : List Int} {q' : Ps} {ov' : Bool} (h : PS w0 w g F I os rs p q ov bs ks) {j : Nat} {v : Value} (hm : Mc (w.setCell ⟨g, j, none⟩ v) g I.z os rs' q'.v (.pointer (some ⟨F.g, 0, none⟩)) ov') (hq : q' = p.to q'.cc q'.pg q'.ad) : PS w0 (w.setCell ⟨g, j, none⟩ v) g F I os rs' p q' ov' bs ks :=
  { h with m := hm, hq := hq, st := h.st.keep (Below.heap_setCell w _ v _ h.n0.symm) (Below.heap_setCell w _ v _ h.n1.symm) (Below.heap_setCell w _ v _ h.n2.symm), b := h.b.setCell (by simp) v }
theorem PS.setr (h : PS w0 w g F I os rs p q ov bs ks) {n : Nat} (hn : n < 16) (v : Int) : PS w0 (w.setCell ⟨g, 28 + n, none⟩ (.int .u32 v)) g F I os (rs.set n v) p q ov bs ks := h.mc (h.m.setr hn v) h.hq
theorem PS.setcc (h : PS w0 w g F I os rs p q ov bs ks) (v : Int) : PS w0 (w.setCell ⟨g, 51, none⟩ (.int .i64 v)) g F I os rs p { q with cc := v } ov bs ks := h.mc (h.m.setp (n := 7) (by omega) _) (by have := h.hq; unfold Ps.to at this ⊢; rw [this])
theorem PS.setov (h : PS w0 w g F I os rs p q ov bs ks) (v : Bool) : PS w0 (w.setCell ⟨g, 55, none⟩ (.bool v)) g F I os rs p q v bs ks := h.mc (h.m.setv v) h.hq
theorem PS.put_ (h : PS w0 w g F I os rs p q ov bs ks) {bs' : List Int} (hs : St 63 w' F bs' ks) (hg : w.grownBy w' (some F.gb)) : PS w0 w' g F I os rs p q ov bs' ks :=
  { h with m := (h.ms.put_ hs hg).m, st := hs, b := h.b.trans ((Ch.of_grown hg).mono (by simp)) }
theorem PS.oth (h : PS w0 w g F I os rs p q ov bs ks) {a : Addr} (v : Value) (ha : a.block ≠ g ∧ a.block ≠ F.g ∧ a.block ≠ F.gb ∧ a.block ≠ F.gk) (h0 : w0.heap.size ≤ a.block) : PS w0 (w.setCell a v) g F I os rs p q ov bs ks :=
  { h with m := h.m.other v ha.1, st := h.st.keep (Below.heap_setCell w a v F.g (Ne.symm ha.2.1)) (Below.heap_setCell w a v F.gb (Ne.symm ha.2.2.1)) (Below.heap_setCell w a v F.gk (Ne.symm ha.2.2.2)), b := h.b.setNew h0 v }
theorem PS.rb (h : PS w0 w g F I os rs p q ov bs ks) : PS w w g F I os rs p q ov bs ks := { h with b := Ch.refl _ _ }
theorem PS.re {rs' : List Int} {q' : Ps} {ov' : Bool} {bs' : List Int} (h : PS w0 w g F I os rs p q ov bs ks) (h' : PS w w' g F I os rs' p q' ov' bs' ks) : PS w0 w' g F I os rs' p q' ov' bs' ks := { h' with b := h.b.trans h'.b }
/-- a walk begins: what the machine holds, as facts -/
theorem PS.opn {X : Prop} {u v o f : Int} (h : PS w0 w g F I os rs p q ov bs ks) (hX : Hid (PS w0 w g F I os rs p q ov bs ks) → w.cell? ⟨g, 0, none⟩ = some (.int .i64 o) → w.cell? ⟨g, 1, none⟩ = some (.int .i64 f) → w.cell? ⟨g, 2, none⟩ = some (.int .i64 (I.n : Int)) → w.cell? ⟨g, 3, none⟩ = some (.int .i64 (I.k : Int)) → w.cell? ⟨g, 9, none⟩ = some (.int .i64 (I.l : Int)) → w.cell? ⟨g, 11, none⟩ = some (.int .i64 I.i) →
    w.cell? ⟨g, 45, none⟩ = some (.int .i64 p.key) → w.cell? ⟨g, 50, none⟩ = some (.int .i64 p.il) → w.cell? ⟨g, 51, none⟩ = some (.int .i64 q.cc) → w.cell? ⟨g, 52, none⟩ = some (.int .i64 q.pg) → w.cell? ⟨g, 53, none⟩ = some (.int .i64 q.ad) → w.cell? ⟨g, 54, none⟩ = some (.pointer (some ⟨F.g, 0, none⟩)) → w.cell? ⟨g, 55, none⟩ = some (.bool ov) → w.cell? ⟨g, 12 + I.n, none⟩ = some (.int .u32 u) → w.cell? ⟨g, 12 + I.k, none⟩ = some (.int .u32 v) → (∀ j, w.frozen? ⟨g, j, none⟩ = false) → (I.n : Int) < 16 → (I.k : Int) < 16 → X) (hu : Hid (os.getD I.n 0 = u) := by first | assumption | exact Lib.hid rfl) (hv : Hid (os.getD I.k 0 = v) := by first | assumption | exact Lib.hid rfl) (ho : Hid (I.op = o) := by first | assumption | exact Lib.hid rfl) (hf : Hid (I.fm = f) := by first | assumption | exact Lib.hid rfl) : X :=
  hX (Lib.hid h) (ho.out ▸ h.m.ci (c := 0) (by omega)) (hf.out ▸ h.m.ci (c := 1) (by omega)) (h.m.ci (c := 2) (by omega)) (h.m.ci (c := 3) (by omega)) (h.m.ci (c := 9) (by omega)) (h.m.ci (c := 11) (by omega)) (by have := h.m.cp (n := 1) (by omega); rw [h.hq] at this; exact this) (by have := h.m.cp (n := 6) (by omega); rw [h.hq] at this; exact this) (h.m.cp (n := 7) (by omega)) (h.m.cp (n := 8) (by omega)) (h.m.cp (n := 9) (by omega)) h.m.cs h.m.cv (hu.out ▸ h.m.co h.ix.n) (hv.out ▸ h.m.co h.ix.k) h.fz (by have := h.ix.n; omega) (by have := h.ix.k; omega)
/-- what every region of the machine's methods may rely on -/
def Sy (w0 : World) (g : Nat) (F : Foot) (I : In) (os : List Int) (p : Ps) (w : World) : Prop := ∃ rs q ov bs ks, PS w0 w g F I os rs p q ov bs ks
/-- .. where the status word is known -/
def Sz (w0 : World) (g : Nat) (F : Foot) (I : In) (os : List Int) (p q : Ps) (w : World) : Prop := ∃ rs ov bs ks, PS w0 w g F I os rs p q ov bs ks
theorem PS.z (h : PS w0 w g F I os rs p q ov bs ks) : Sz w0 g F I os p q w := ⟨_, _, _, _, h⟩
theorem PS.x (h : PS w0 w g F I os rs p q ov bs ks) : Sy w0 g F I os p w := ⟨_, _, _, _, _, h⟩
end
section
variable {P : Program} {L : List Oper} {Q : Exit → Act → World → Prop} {md : Region.Mode} {S : World → Prop} {i : Nat} {v : Value} {oi : Oper} {fuel : Nat} {listed : Array Bool} {a : Act} {w : World} {X : Prop}
theorem tkp (h : X) (hn : nxt md L listed = some i := by with_unfolding_all rfl) (hi : L[i]? = some oi := by rfl)
    (hw : Region.wanted oi (yielded L.toArray a.tmps) = true := by rfl) (y : ∀ w, S w → (execOp a.eval oi).run P w = .ok (.value v) w := by (intro w hSw; obtain ⟨_, _, _, _, _, hx⟩ := hSw; refine PS.opn hx ?_; intros; go_simp; (try with_reducible rfl)))
    (hP : wpAnyH P md L.toArray Q S fuel (listed.setIfInBounds i true) (a.put oi.dst v) w = X := by (simp only [Act.put, List.setIfInBounds_toArray, List.set_cons_zero, List.set_cons_succ]; try rfl))
    (hs : Region.noSelect L.toArray = true := by kernel_rfl) 
    (hQ : ∀ c a w, Q (.panic c) (a.put oi.dst v) w → Q (.panic c) a w := by exact fun _ _ _ h => h) (hS : S w := by assumption) : wpAnyH P md L.toArray Q S (fuel + 1) listed a w := takeL hi hs (nxt_spec hn).1 (nxt_spec hn).2 hQ (.inl ⟨hw, y⟩) hS (hP ▸ h)
/-- a call that alone may come up, and may throw -/
theorem tkq {f : FuncId} {args : Array Value} {A : Value → World → Prop} {B : World → Prop} {c : Int} {X : Value → World → Prop} (hc : Calls P f args w (Th A c B)) (hRS : ∀ v w', A v w' → S w') (h : ∀ v w', Hid (A v w') → S w' → X v w') (hB : ∀ w', Hid (B w') → Q (.panic [{ v := .iface 124 (.int .i64 c), recovered := false }]) a w') (hr : Region.ready md L.toArray listed = [i] := by with_unfolding_all rfl) (hi : L[i]? = some oi := by rfl)
    (hw : Region.wanted oi (yielded L.toArray a.tmps) = true := by rfl) (hx : (execOp a.eval oi).run P w = .ok (.enter f args) w := by (go_simp; (try with_reducible rfl)))
    (hP : ∀ v w', wpAnyH P md L.toArray Q S fuel (listed.setIfInBounds i true) (a.put oi.dst v) w' = X v w' := by (intro v w'; simp only [Act.put, List.setIfInBounds_toArray, List.set_cons_zero, List.set_cons_succ]; try rfl)) : wpAnyH P md L.toArray Q S (fuel + 1) listed a w := by
  refine ⟨fun h0 => (by rw [hr] at h0; cases h0), fun j hj => ?_⟩
  rw [hr, List.mem_singleton] at hj
  subst hj
  have hi' : L.toArray[j]? = some oi := by simpa using hi
  unfold wpOp
  simp only [hi', hw, if_true]
  refine .inl ?_
  unfold Oper.wp
  rw [hx]
  refine Calls.mono hc fun e w' he => ?_
  rcases he with ⟨v, rfl, hR⟩ | ⟨rfl, hR⟩
  · exact ⟨hRS _ _ hR, (hP v w').symm ▸ h v w' (Lib.hid hR) (hRS _ _ hR)⟩
  · exact hB w' (Lib.hid hR)
end
end Go.Proofs.YtljajnaclpbecaaGreatDoor

namespace Go.Proofs.YtljajnaclpbecaaGreatDoor
open Go.RowKit
set_option linter.unusedVariables false

set_option maxHeartbeats 400000 in
theorem fits_c (A : Option Addr) (len cap : Nat) (at_ n : Int) (w : World) (hl : (len : Int) ≤ 9223372036854775807) (ha : -9223372036854775808 ≤ at_) (ha' : at_ ≤ 9223372036854775807) (hn : 0 ≤ n) (hn' : n ≤ 100) :
    Calls Tryz.prog 166 #[.slice A len cap, .int .i64 at_, .int .i64 n] w fun e w' => e = .returned (.bool (fitB len at_ n)) ∧ w = w' := by
  by_cases h0 : 0 ≤ at_
  · have hs := Lib.hid (show fitB len at_ n = decide (at_ ≤ (len : Int) - n) from by unfold fitB; simp [h0])
    go_enter Tryz.func166, Tryz.ntmps166
    go_wp2
    go_ret
    exact ⟨by rw [hs.out]; rfl, rfl⟩
  · have hs := Lib.hid (show fitB len at_ n = false from by unfold fitB; simp [h0])
    have hd : decide (0 ≤ at_) = false := by simp [h0]
    have h0' : at_ < 0 := by omega
    go_enter Tryz.func166, Tryz.ntmps166
    go_wp2
    go_ret
    exact ⟨by rw [hs.out]; rfl, rfl⟩

set_option maxHeartbeats 400000 in
theorem half_no (A : Option Addr) (len cap : Nat) (at_ : Int) (w : World) (hl : (len : Int) ≤ 9223372036854775807) (ha : -9223372036854775808 ≤ at_) (ha' : at_ ≤ 9223372036854775807) (hf : fitB len at_ 2 = false) :
    Calls Tryz.prog 168 #[.slice A len cap, .int .i64 at_] w fun e w' => e = .returned (.tuple #[.int .u32 0, .bool false]) ∧ ∃ n, w' = w.drewN n := by
  go_enter Tryz.func168, Tryz.ntmps168
  go_wp2_with (go_at_call 166; refine (fits_c _ _ _ _ _ _ hl ha ha' (by omega) (by omega)).mono ?_; rintro e w' ⟨rfl, rfl⟩)
  go_ret2
  exact ⟨rfl, 0, rfl⟩

set_option maxHeartbeats 400000 in
theorem half_yes (b off len cap k : Nat) (x y : Int) (w : World) (hl : (len : Int) ≤ 9223372036854775807) (hk : (k : Int) + 2 ≤ (len : Int))
    (hc0 : w.cell? ⟨b, off + k, none⟩ = some (.int .u8 x)) (hc1 : w.cell? ⟨b, off + (k + 1), none⟩ = some (.int .u8 y)) (hx : 0 ≤ x) (hx' : x ≤ 255) (hy : 0 ≤ y) (hy' : y ≤ 255) :
    Calls Tryz.prog 168 #[.slice (some ⟨b, off, none⟩) len cap, .int .i64 k] w fun e w' => e = .returned (.tuple #[.int .u32 (hfv x y), .bool true]) ∧ ∃ n, w' = w.drewN n := by
  have hf : fitB len k 2 = true := by unfold fitB; simp; omega
  have eo := or_half x y hx hx' hy hy'
  have s0 := sx16_lo (x * 256 + y) (by omega)
  have s1 := sx16_hi (x * 256 + y) (by omega)
  have k1 : (k : Int) < (len : Int) := by omega
  have k2 : (k : Int) + 1 < (len : Int) := by omega
  have hl' := lo32_is (sx16 (x * 256 + y))
  go_enter Tryz.func168, Tryz.ntmps168
  go_wp2_with (go_at_call 166; refine (fits_c _ _ _ _ _ _ hl (by omega) (by omega) (by omega) (by omega)).mono ?_; rintro e w' ⟨rfl, rfl⟩)
  go_quiet (fail)
  go_wp2
  go_ret2
  exact ⟨rfl, _, rfl⟩

end Go.Proofs.YtljajnaclpbecaaGreatDoor

namespace Go.Proofs.YtljajnaclpbecaaGreatDoor
open Go.RowKit
set_option linter.unusedVariables false

theorem or4 (x y z u : Int) (hx : 0 ≤ x) (hx' : x ≤ 255) (hy : 0 ≤ y) (hy' : y ≤ 255) (hz : 0 ≤ z) (hz' : z ≤ 255) (hu : 0 ≤ u) (hu' : u ≤ 255) :
    bits .or .u32 (x * 16777216) (y * 65536) = x * 16777216 + y * 65536 ∧ bits .or .u32 (x * 16777216 + y * 65536) (z * 256) = x * 16777216 + y * 65536 + z * 256 ∧ bits .or .u32 (x * 16777216 + y * 65536 + z * 256) u = flv x y z u := by
  refine ⟨or_32 24 _ _ 16777216 (by decide) (by omega) (by omega) (by omega) (by omega) (by omega) (by omega), or_32 16 _ _ 65536 (by decide) (by omega) (by omega) (by omega) (by omega) (by omega) (by omega), ?_⟩
  rw [or_32 8 _ _ 256 (by decide) (by omega) (by omega) (by omega) (by omega) (by omega) (by omega)]; rfl

set_option maxHeartbeats 400000 in
theorem full_no (A : Option Addr) (len cap : Nat) (at_ : Int) (w : World) (hl : (len : Int) ≤ 9223372036854775807) (ha : -9223372036854775808 ≤ at_) (ha' : at_ ≤ 9223372036854775807) (hf : fitB len at_ 4 = false) :
    Calls Tryz.prog 118 #[.slice A len cap, .int .i64 at_] w fun e w' => e = .returned (.tuple #[.int .u32 0, .bool false]) ∧ ∃ n, w' = w.drewN n := by
  go_enter Tryz.func118, Tryz.ntmps118
  go_wp2_with (go_at_call 166; refine (fits_c _ _ _ _ _ _ hl ha ha' (by omega) (by omega)).mono ?_; rintro e w' ⟨rfl, rfl⟩)
  go_ret2
  exact ⟨rfl, 0, rfl⟩

set_option maxHeartbeats 400000 in
theorem full_yes (b off len cap k : Nat) (x y z u : Int) (w : World) (hl : (len : Int) ≤ 9223372036854775807) (hk : (k : Int) + 4 ≤ (len : Int))
    (hc0 : w.cell? ⟨b, off + k, none⟩ = some (.int .u8 x)) (hc1 : w.cell? ⟨b, off + (k + 1), none⟩ = some (.int .u8 y)) (hc2 : w.cell? ⟨b, off + (k + 2), none⟩ = some (.int .u8 z)) (hc3 : w.cell? ⟨b, off + (k + 3), none⟩ = some (.int .u8 u))
    (hx : 0 ≤ x) (hx' : x ≤ 255) (hy : 0 ≤ y) (hy' : y ≤ 255) (hz : 0 ≤ z) (hz' : z ≤ 255) (hu : 0 ≤ u) (hu' : u ≤ 255) :
    Calls Tryz.prog 118 #[.slice (some ⟨b, off, none⟩) len cap, .int .i64 k] w fun e w' => e = .returned (.tuple #[.int .u32 (flv x y z u), .bool true]) ∧ ∃ n, w' = w.drewN n := by
  have hf : fitB len k 4 = true := by unfold fitB; simp; omega
  have ho := or4 x y z u hx hx' hy hy' hz hz' hu hu'
  have o1 := ho.1
  have o2 := ho.2.1
  have o3 := ho.2.2
  clear ho
  have k1 : (k : Int) < (len : Int) := by omega
  have k2 : (k : Int) + 1 < (len : Int) := by omega
  have k3 : (k : Int) + 2 < (len : Int) := by omega
  have k4 : (k : Int) + 3 < (len : Int) := by omega
  go_enter Tryz.func118, Tryz.ntmps118
  go_wp2_with (go_at_call 166; refine (fits_c _ _ _ _ _ _ hl (by omega) (by omega) (by omega) (by omega)).mono ?_; rintro e w' ⟨rfl, rfl⟩)
  go_quiet (fail)
  go_wp2
  go_ret2
  exact ⟨rfl, _, rfl⟩

end Go.Proofs.YtljajnaclpbecaaGreatDoor

namespace Go.Proofs.YtljajnaclpbecaaGreatDoor
open Go.RowKit
set_option linter.unusedVariables false

theorem take_next_eq {zs zs' : List Int} {k : Nat} (h : zs.take k = zs'.take k) (hk : k < zs.length) (hk' : k < zs'.length) (e : zs.getD k 0 = zs'.getD k 0) : zs.take (k + 1) = zs'.take (k + 1) := by
  rw [List.take_succ_eq_append_getElem hk, List.take_succ_eq_append_getElem hk', h]
  rw [List.getD_eq_getElem?_getD, List.getD_eq_getElem?_getD, List.getElem?_eq_getElem hk, List.getElem?_eq_getElem hk'] at e
  simp only [Option.getD_some] at e
  rw [e]

end Go.Proofs.YtljajnaclpbecaaGreatDoor

namespace Go.Proofs.YtljajnaclpbecaaGreatDoor
open Go.RowKit
set_option linter.unusedVariables false

def hval (len : Nat) (at_ : Int) (zs : List Int) : Int := if fitB len at_ 2 = true then hfv (zs.getD at_.toNat 0) (zs.getD (at_.toNat + 1) 0) else 0
def fval (len : Nat) (at_ : Int) (zs : List Int) : Int := if fitB len at_ 4 = true then flv (zs.getD at_.toNat 0) (zs.getD (at_.toNat + 1) 0) (zs.getD (at_.toNat + 2) 0) (zs.getD (at_.toNat + 3) 0) else 0
theorem half_any (A : Option Addr) (len cap : Nat) (at_ : Int) (zs : List Int) (w : World) (hl : (len : Int) ≤ 9223372036854775807) (hb : Byt w A len zs) (ha : -9223372036854775808 ≤ at_) (ha' : at_ ≤ 9223372036854775807) :
    Calls Tryz.prog 168 #[.slice A len cap, .int .i64 at_] w fun e w' => e = .returned (.tuple #[.int .u32 (hval len at_ zs), .bool (fitB len at_ 2)]) ∧ ∃ n, w' = w.drewN n := by
  cases hf : fitB len at_ 2
  · have e : hval len at_ zs = 0 := by simp [hval, hf]
    rw [e]
    exact half_no A len cap at_ w hl ha ha' hf
  · obtain ⟨h0, h1⟩ := fitB_yes hf
    obtain ⟨k, rfl⟩ := Int.eq_ofNat_of_zero_le h0
    have e : hval len k zs = hfv (zs.getD k 0) (zs.getD (k + 1) 0) := by simp [hval, hf]
    rw [e]
    obtain ⟨b, off, rfl, hc⟩ := hb.at_ (by omega)
    exact half_yes b off len cap k _ _ w hl (by omega) (hc k (by omega)) (hc (k + 1) (by omega)) (hb.range k).1 (hb.range k).2 (hb.range (k + 1)).1 (hb.range (k + 1)).2
theorem full_any (A : Option Addr) (len cap : Nat) (at_ : Int) (zs : List Int) (w : World) (hl : (len : Int) ≤ 9223372036854775807) (hb : Byt w A len zs) (ha : -9223372036854775808 ≤ at_) (ha' : at_ ≤ 9223372036854775807) :
    Calls Tryz.prog 118 #[.slice A len cap, .int .i64 at_] w fun e w' => e = .returned (.tuple #[.int .u32 (fval len at_ zs), .bool (fitB len at_ 4)]) ∧ ∃ n, w' = w.drewN n := by
  cases hf : fitB len at_ 4
  · have e : fval len at_ zs = 0 := by simp [fval, hf]
    rw [e]
    exact full_no A len cap at_ w hl ha ha' hf
  · obtain ⟨h0, h1⟩ := fitB_yes hf
    obtain ⟨k, rfl⟩ := Int.eq_ofNat_of_zero_le h0
    have e : fval len k zs = flv (zs.getD k 0) (zs.getD (k + 1) 0) (zs.getD (k + 2) 0) (zs.getD (k + 3) 0) := by simp [fval, hf]
    rw [e]
    obtain ⟨b, off, rfl, hc⟩ := hb.at_ (by omega)
    exact full_yes b off len cap k _ _ _ _ w hl (by omega) (hc k (by omega)) (hc (k + 1) (by omega)) (hc (k + 2) (by omega)) (hc (k + 3) (by omega)) (hb.range k).1 (hb.range k).2 (hb.range (k + 1)).1 (hb.range (k + 1)).2 (hb.range (k + 2)).1 (hb.range (k + 2)).2 (hb.range (k + 3)).1 (hb.range (k + 3)).2
end Go.Proofs.YtljajnaclpbecaaGreatDoor

namespace Go.Proofs.YtljajnaclpbecaaGreatDoor
open Go.RowKit
set_option maxRecDepth 100000
set_option linter.unusedVariables false
set_option linter.unusedSimpArgs false
set_option maxRecDepth 1000000 in
set_option maxHeartbeats 4000000 in
theorem need_no (c : Int) (w : World) : Calls Tryz.prog 108 #[.bool false, .int .i64 c] w fun e w' => e = .panicked [{ v := .iface 124 (.int .i64 c), recovered := false }] ∧ w = w' := by
  go_enter Tryz.func108, Tryz.ntmps108
  go_wp2
  first | exact ⟨rfl, rfl⟩ | exact ⟨rfl, rfl, rfl⟩
end Go.Proofs.YtljajnaclpbecaaGreatDoor

namespace Go.Proofs.YtljajnaclpbecaaGreatDoor
open Go.RowKit
set_option maxRecDepth 100000
set_option linter.unusedVariables false
set_option linter.unusedSimpArgs false
/-- the code that fetching an operand throws, or 0 -/
def opC (op fm : Int) (bs ks : List Int) (key a : Int) : Int := if fm = 1 then 0 else if 72 ≤ op ∧ op ≤ 76 then (if a % 2 = 0 then sCode (alF key) bs.length ks a 2 else 6) else (if a % 4 = 0 then sCode (alF key) bs.length ks a 4 else 6)
def g2V (bs : List Int) (a : Int) : Int := hfv ((sGet bs a 2).getD 0 0) ((sGet bs a 2).getD 1 0)
def g4V (bs : List Int) (a : Int) : Int := flv ((sGet bs a 4).getD 0 0) ((sGet bs a 4).getD 1 0) ((sGet bs a 4).getD 2 0) ((sGet bs a 4).getD 3 0)
/-- the operand -/
def opV (op fm : Int) (os : List Int) (k : Nat) (bs : List Int) (a : Int) : Int := if fm = 1 then os.getD k 0 else if 72 ≤ op ∧ op ≤ 76 then g2V bs a else g4V bs a
end Go.Proofs.YtljajnaclpbecaaGreatDoor

namespace Go.Proofs.YtljajnaclpbecaaGreatDoor
open Go.RowKit
set_option maxRecDepth 100000
set_option linter.unusedVariables false
set_option linter.unusedSimpArgs false
section
variable {w0 w : World} {g : Nat} {G : Foot} {I : In} {os rs : List Int} {p q : Ps} {c : Int} {bs ks : List Int}
theorem In.a_in (I : In) (os : List Int) : 0 ≤ I.a os ∧ I.a os ≤ 16777215 := by unfold In.a; omega
theorem In.a1_in (I : In) (os : List Int) : 0 ≤ I.a1 os ∧ I.a1 os ≤ 16777215 := by unfold In.a1; omega
end
end Go.Proofs.YtljajnaclpbecaaGreatDoor

namespace Go.Proofs.YtljajnaclpbecaaGreatDoor
open Go.RowKit
set_option maxRecDepth 100000
set_option linter.unusedVariables false
set_option linter.unusedSimpArgs false
theorem MS.setp {w : World} {g : Nat} {F : Foot} {is os rs : List Int} {ps : List Value} {ov : Bool} {bs ks : List Int} (h : MS w g F is os rs ps ov bs ks) {n : Nat} (hn : n < 10) (v : Value) : MS (w.setCell ⟨g, 44 + n, none⟩ v) g F is os rs (ps.set n v) ov bs ks := h.set_ (h.m.setp hn v) ((Ch.refl _ _).setCell (by simp) _)
theorem MS.setr {w : World} {g : Nat} {F : Foot} {is os rs : List Int} {ps : List Value} {ov : Bool} {bs ks : List Int} (h : MS w g F is os rs ps ov bs ks) {n : Nat} (hn : n < 16) (v : Int) : MS (w.setCell ⟨g, 28 + n, none⟩ (.int .u32 v)) g F is os (rs.set n v) ps ov bs ks := h.set_ (h.m.setr hn v) ((Ch.refl _ _).setCell (by simp) _)
/-- what LPR, LNR, LTR, LCR store -/
def sgnC (op v : Int) : Bool := decide (op = 19 ∨ (op = 16 ∧ sgn (sg v) = 1) ∨ (op = 17 ∧ sgn (sg v) = 2))
def sgnV (op v : Int) : Int := if sgnC op v = true then lo32 (-sg v) else v
def sgnQ (op v : Int) : Int := if sgnC op v = true then rcc (-sg v) else sgn (sg v)
def sgnO (op v : Int) : Bool := if sgnC op v = true then ovf (-sg v) else false
end Go.Proofs.YtljajnaclpbecaaGreatDoor

namespace Go.Proofs.YtljajnaclpbecaaGreatDoor
open Go.RowKit
set_option maxRecDepth 100000
set_option linter.unusedVariables false
set_option linter.unusedSimpArgs false
def Ro (w : World) (g c : Nat) (vs : List Int) : Prop := Rw w g 5 c (vs.map (Value.int .u8)) ∧ ∀ z ∈ vs, 0 ≤ z ∧ z ≤ 255
section
variable {w w' : World} {g c : Nat} {vs : List Int}
theorem Ro.cell (h : Ro w g c vs) {i : Nat} (hi : i < vs.length) : w.cell? ⟨g, i, none⟩ = some (.int .u8 (vs.getD i 0)) := by
  rw [h.1.cell (i := i) (by simpa using hi)]; simp [List.getD_eq_getElem?_getD, hi]
theorem Ro.free (h : Ro w g c vs) (i : Nat) : w.frozen? ⟨g, i, none⟩ = false := h.1.free i
theorem Ro.lt (h : Ro w g c vs) : g < w.heap.size := h.1.lt
theorem Ro.set_ (h : Ro w g c vs) {i : Nat} {y : Int} (hy : 0 ≤ y ∧ y ≤ 255) : Ro (w.setCell ⟨g, i, none⟩ (.int .u8 y)) g c (vs.set i y) := by
  refine ⟨by rw [List.map_set]; exact h.1.set_ _, fun z hz => ?_⟩
  rcases List.mem_or_eq_of_mem_set hz with hz | rfl
  · exact h.2 z hz
  · exact hy
theorem Ro.keep (h : Ro w g c vs) (hk : w'.heap[g]? = w.heap[g]?) : Ro w' g c vs := ⟨h.1.keep hk, h.2⟩
theorem Ro.other (h : Ro w g c vs) {p : Addr} (v : Value) (hp : p.block ≠ g) : Ro (w.setCell p v) g c vs := h.keep (Below.heap_setCell w p v g (Ne.symm hp))
theorem Ro.belowS (h : Ro w g c vs) (hb : Below w.heap.size w w') : Ro w' g c vs := ⟨h.1.keep (hb.block _ h.lt), h.2⟩
theorem Ro.drewN (h : Ro w g c vs) (n : Nat) : Ro (w.drewN n) g c vs := h
theorem Ro.byt (h : Ro w g c vs) (n : Nat) (hn : vs.length = n) : Byt w (some ⟨g, 0, none⟩) n vs := by
  subst hn
  exact ⟨rfl, h.2, fun _ => ⟨g, 0, rfl, fun i hi => by rw [Nat.zero_add]; exact h.cell hi⟩⟩
theorem Own.ro {base n : Nat} (h : Own w base (.slice (some ⟨g, 0, none⟩) n c) n vs) : Ro w g c vs := by
  obtain ⟨cur, q1, q2, q3, q4, q5, q6⟩ := Own.heap h
  exact ⟨⟨cur, q1, q2, by rw [List.length_map, h.len]; exact q3, q6⟩, h.2⟩
end
end Go.Proofs.YtljajnaclpbecaaGreatDoor

namespace Go.Proofs.YtljajnaclpbecaaGreatDoor
open Go.RowKit
set_option maxRecDepth 100000
set_option linter.unusedVariables false
set_option linter.unusedSimpArgs false
/-- a word's bytes; the bytes of k registers from a register on -/
def fb (v : Int) : List Int := [v / 16777216, v / 65536 % 256, v / 256 % 256, v % 256]
end Go.Proofs.YtljajnaclpbecaaGreatDoor

namespace Go.Proofs.YtljajnaclpbecaaGreatDoor
open Go.RowKit
set_option maxRecDepth 100000
set_option linter.unusedVariables false
set_option linter.unusedSimpArgs false
theorem sGet_in {bs : List Int} (a n : Int) (h : ∀ z ∈ bs, 0 ≤ z ∧ z ≤ 255) (k : Nat) : 0 ≤ (sGet bs a n).getD k 0 ∧ (sGet bs a n).getD k 0 ≤ 255 := by
  have hs : ∀ z ∈ sGet bs a n, z ∈ bs := by
    intro z hz
    unfold sGet at hz
    split at hz
    · exact List.mem_of_mem_drop (List.mem_of_mem_take hz)
    · simp at hz
  rw [List.getD_eq_getElem?_getD]
  rcases Nat.lt_or_ge k (sGet bs a n).length with hk | hk
  · rw [List.getElem?_eq_getElem hk]
    exact h _ (hs _ (List.getElem_mem hk))
  · rw [List.getElem?_eq_none hk]; simp
end Go.Proofs.YtljajnaclpbecaaGreatDoor

namespace Go.Proofs.YtljajnaclpbecaaGreatDoor
open Go.RowKit
set_option maxRecDepth 100000
set_option linter.unusedVariables false
set_option linter.unusedSimpArgs false
/-- what an instruction works on -/
structure Pre where
  os : List Int
  key : Int
  il : Int
  cc : Int
  pg : Int
  ad : Int
  bs : List Int
  ks : List Int
/-- what it leaves: a code, the registers, condition code, program mask, address, overflow, bytes -/
structure Out where
  c : Int
  rs : List Int
  cc : Int
  pg : Int
  ad : Int
  ov : Bool
  bs : List Int
namespace Pre
def no (p : Pre) (c : Int) : Out := ⟨c, p.os, p.cc, p.pg, p.ad, false, p.bs⟩
def rg (p : Pre) (rs : List Int) : Out := ⟨0, rs, p.cc, p.pg, p.ad, false, p.bs⟩
def st (p : Pre) (rs : List Int) (cc : Int) (ov : Bool) : Out := ⟨0, rs, cc, p.pg, p.ad, ov, p.bs⟩
def pc (p : Pre) (a n : Int) : Int := sCode (alP p.key) p.bs.length p.ks a n
def fc (p : Pre) (a n : Int) : Int := sCode (alF p.key) p.bs.length p.ks a n
def wr (p : Pre) (a n : Int) (ys : List Int) (cc : Int) : Out := if p.pc a n = 0 then ⟨0, p.os, cc, p.pg, p.ad, false, sPut (alP p.key) p.bs p.ks a ys⟩ else p.no (p.pc a n)
end Pre
def arO (p : Pre) (op : Int) (n : Nat) (c v : Int) : Out :=
  if op = 28 ∨ op = 29 ∨ op = 92 ∨ op = 93 then
    if n % 2 = 1 then p.no 6 else if c ≠ 0 then p.no c
    else if op = 28 ∨ op = 92 then p.rg ((p.os.set n (lo32 (sg (p.os.getD (n + 1) 0) * sg v / 4294967296))).set (n + 1) (lo32 (sg (p.os.getD (n + 1) 0) * sg v)))
    else if dok (sg64 (dbl (p.os.getD n 0) (p.os.getD (n + 1) 0))) (sg v) = true then p.rg ((p.os.set n (drem (sg64 (dbl (p.os.getD n 0) (p.os.getD (n + 1) 0))) (sg v))).set (n + 1) (dquo (sg64 (dbl (p.os.getD n 0) (p.os.getD (n + 1) 0))) (sg v)))
    else p.no 9
  else if c ≠ 0 then p.no c
  else if op = 24 ∨ op = 88 ∨ op = 72 then p.rg (p.os.set n v)
  else if op = 16 ∨ op = 17 ∨ op = 18 ∨ op = 19 then p.st (p.os.set n (sgnV op v)) (sgnQ op v) (sgnO op v)
  else if op = 26 ∨ op = 90 ∨ op = 74 then p.st (p.os.set n (lo32 (sg (p.os.getD n 0) + sg v))) (rcc (sg (p.os.getD n 0) + sg v)) (ovf (sg (p.os.getD n 0) + sg v))
  else if op = 27 ∨ op = 91 ∨ op = 75 then p.st (p.os.set n (lo32 (sg (p.os.getD n 0) - sg v))) (rcc (sg (p.os.getD n 0) - sg v)) (ovf (sg (p.os.getD n 0) - sg v))
  else if op = 30 ∨ op = 94 then p.st (p.os.set n (lo32 (p.os.getD n 0 + v))) (lcc (lo32 (p.os.getD n 0 + v)) (decide (4294967296 ≤ p.os.getD n 0 + v))) false
  else if op = 31 ∨ op = 95 then p.st (p.os.set n (lo32 (p.os.getD n 0 - v))) (lcc (lo32 (p.os.getD n 0 - v)) (decide (v ≤ p.os.getD n 0))) false
  else if op = 25 ∨ op = 89 ∨ op = 73 then p.st p.os (sgn (sg (p.os.getD n 0) - sg v)) false
  else if op = 21 ∨ op = 85 then p.st p.os (sgn (p.os.getD n 0 - v)) false
  else if op = 20 ∨ op = 84 then p.st (p.os.set n (bits .and .u32 (p.os.getD n 0) v)) (if bits .and .u32 (p.os.getD n 0) v = 0 then 0 else 1) false
  else if op = 22 ∨ op = 86 then p.st (p.os.set n (bits .or .u32 (p.os.getD n 0) v)) (if bits .or .u32 (p.os.getD n 0) v = 0 then 0 else 1) false
  else if op = 23 ∨ op = 87 then p.st (p.os.set n (bits .xor .u32 (p.os.getD n 0) v)) (if bits .xor .u32 (p.os.getD n 0) v = 0 then 0 else 1) false
  else p.rg (p.os.set n (lo32 (sg (p.os.getD n 0) * sg v)))
/-- the byte that an immediate instruction makes -/
def imB (op b i : Int) : Int := if op = 148 then bits .and .u8 b i else if op = 150 then bits .or .u8 b i else bits .xor .u8 b i
def imO (p : Pre) (op : Int) (a i : Int) : Out :=
  if op = 146 then p.wr a 1 [i] p.cc
  else if p.fc a 1 ≠ 0 then p.no (p.fc a 1)
  else if op = 145 then p.st p.os (if bits .and .u8 ((sGet p.bs a 1).getD 0 0) i = 0 then 0 else if bits .and .u8 ((sGet p.bs a 1).getD 0 0) i = i then 3 else 1) false
  else if op = 149 then p.st p.os (sgn ((sGet p.bs a 1).getD 0 0 - i)) false
  else if op = 147 then p.wr a 1 [255] ((sGet p.bs a 1).getD 0 0 / 128)
  else p.wr a 1 [imB op ((sGet p.bs a 1).getD 0 0) i] (if imB op ((sGet p.bs a 1).getD 0 0) i = 0 then 0 else 1)
end Go.Proofs.YtljajnaclpbecaaGreatDoor

namespace Go.Proofs.YtljajnaclpbecaaGreatDoor
open Go.RowKit
set_option maxRecDepth 100000
set_option linter.unusedVariables false
set_option linter.unusedSimpArgs false
structure Ps.ok (p : Ps) : Prop where
  il : 0 ≤ p.il ∧ p.il ≤ 3
  cc : 0 ≤ p.cc ∧ p.cc ≤ 3
  pg : 0 ≤ p.pg ∧ p.pg ≤ 15
  ad : 0 ≤ p.ad ∧ p.ad ≤ 16777215
end Go.Proofs.YtljajnaclpbecaaGreatDoor

namespace Go.Proofs.YtljajnaclpbecaaGreatDoor
open Go.RowKit
set_option maxRecDepth 100000
set_option linter.unusedVariables false
section
variable {P : Program} {L : List Oper} {Q : Exit → Act → World → Prop} {md : Region.Mode} {S : World → Prop} {i j : Nat} {v : Value} {oi : Oper} {fuel : Nat} {listed : Array Bool} {a : Act} {w : World}
theorem tk1 (hr : Region.ready md L.toArray listed = [i]) (h : wpOp P L.toArray Q i (fun a' w' => S w' ∧ wpAnyH P md L.toArray Q S fuel (listed.setIfInBounds i true) a' w') a w) : wpAnyH P md L.toArray Q S (fuel + 1) listed a w := by
  refine ⟨fun h0 => (by rw [hr] at h0; cases h0), fun k hk => ?_⟩
  rw [hr, List.mem_singleton] at hk
  subst hk
  exact h
theorem tk2 (hr : Region.ready md L.toArray listed = [i, j]) (h : wpOp P L.toArray Q i (fun a' w' => S w' ∧ wpAnyH P md L.toArray Q S fuel (listed.setIfInBounds i true) a' w') a w) (h' : wpOp P L.toArray Q j (fun a' w' => S w' ∧ wpAnyH P md L.toArray Q S fuel (listed.setIfInBounds j true) a' w') a w) : wpAnyH P md L.toArray Q S (fuel + 1) listed a w := by
  refine ⟨fun h0 => (by rw [hr] at h0; cases h0), fun k hk => ?_⟩
  rw [hr] at hk
  simp only [List.mem_cons, List.not_mem_nil, or_false] at hk
  rcases hk with rfl | rfl
  · exact h
  · exact h'
/-- a call -/
theorem opc {f : FuncId} {args : Array Value} {R : World → Prop} {X : World → Prop} (hc : Calls P f args w fun e w' => e = .returned v ∧ R w') (hRS : ∀ w', R w' → S w') (h : ∀ w', Hid (R w') → S w' → X w') (hi : L[i]? = some oi := by rfl)
    (hw : Region.wanted oi (yielded L.toArray a.tmps) = true := by rfl) (hx : (execOp a.eval oi).run P w = .ok (.enter f args) w := by (go_simp; (try with_reducible rfl)))
    (hP : ∀ w', wpAnyH P md L.toArray Q S fuel (listed.setIfInBounds i true) (a.put oi.dst v) w' = X w' := by (intro w'; simp only [Act.put, List.setIfInBounds_toArray, List.set_cons_zero, List.set_cons_succ]; try rfl)) : wpOp P L.toArray Q i (fun a' w' => S w' ∧ wpAnyH P md L.toArray Q S fuel (listed.setIfInBounds i true) a' w') a w := by
  have hi' : L.toArray[i]? = some oi := by simpa using hi
  unfold wpOp
  simp only [hi', hw, if_true]
  refine .inl ?_
  unfold Oper.wp
  rw [hx]
  refine Calls.mono hc fun e w' he => ?_
  obtain ⟨rfl, hR⟩ := he
  exact ⟨hRS _ hR, (hP w').symm ▸ h w' (Lib.hid hR) (hRS _ hR)⟩
/-- an operation that makes a block and yields a value: its world is known by R alone from there on -/
theorem opb {w1 : World} {R : World → Prop} {X : World → Prop} (hR : R w1) (hRS : ∀ w', R w' → S w') (h : ∀ w', Hid (R w') → S w' → X w') (hi : L[i]? = some oi := by rfl)
    (hw : Region.wanted oi (yielded L.toArray a.tmps) = true := by rfl) (hx : (execOp a.eval oi).run P w = .ok (.value v) w1 := by (go_simp; (try with_reducible rfl)))
    (hP : ∀ w', wpAnyH P md L.toArray Q S fuel (listed.setIfInBounds i true) (a.put oi.dst v) w' = X w' := by (intro w'; simp only [Act.put, List.setIfInBounds_toArray, List.set_cons_zero, List.set_cons_succ]; try rfl)) : wpOp P L.toArray Q i (fun a' w' => S w' ∧ wpAnyH P md L.toArray Q S fuel (listed.setIfInBounds i true) a' w') a w := by
  have hi' : L.toArray[i]? = some oi := by simpa using hi
  unfold wpOp
  simp only [hi', hw, if_true]
  refine .inl ?_
  unfold Oper.wp
  rw [hx]
  exact ⟨hRS _ hR, (hP _).symm ▸ h _ (Lib.hid hR) (hRS _ hR)⟩
end
theorem Byt.chg {w w' : World} {b off len : Nat} {zs : List Int} {L : List Nat} (h : Byt w (some ⟨b, off, none⟩) len zs) (hc : Ch w w' L) (hb : b < w.heap.size) (hL : b ∉ L) : Byt w' (some ⟨b, off, none⟩) len zs := by
  refine ⟨h.1, h.2.1, fun h0 => ?_⟩
  obtain ⟨b', off', e, hcell⟩ := h.2.2 h0
  injection e with e; injection e with e1 e2; subst e1 e2
  exact ⟨b, off, rfl, fun i hi => by rw [← hcell i hi]; unfold World.cell?; rw [hc.block b hb hL]⟩
end Go.Proofs.YtljajnaclpbecaaGreatDoor

namespace Go.Proofs.YtljajnaclpbecaaGreatDoor
open Go.RowKit
set_option maxRecDepth 100000
set_option linter.unusedVariables false
set_option linter.unusedSimpArgs false
section
variable {w0 w : World} {g : Nat} {G : Foot} {I : In} {os rs : List Int} {p q : Ps} {c : Int} {bs ks : List Int}
theorem byt0 {w : World} {b n : Nat} {zs : List Int} (h : Byt w (some ⟨b, 0, none⟩) n zs) (hn : 0 < n) : w.cell? ⟨b, 0, none⟩ = some (.int .u8 (zs.getD 0 0)) := by
  obtain ⟨b', off, e, hc⟩ := h.2.2 hn
  injection e with e; injection e with e1 e2; subst e1 e2
  exact hc 0 hn
end
end Go.Proofs.YtljajnaclpbecaaGreatDoor

namespace Go.Proofs.YtljajnaclpbecaaGreatDoor
open Go.RowKit
set_option maxRecDepth 100000
set_option linter.unusedVariables false
set_option linter.unusedSimpArgs false
section
variable {P : Program} {L : List Oper} {Q : Exit → Act → World → Prop} {md : Region.Mode} {S : World → Prop} {v : Value} {oi : Oper} {fuel : Nat} {listed : Array Bool} {a : Act} {w : World} {X : Prop}
/-- the still operation i -/
theorem tki (i : Nat) (h : X) (hi : L[i]? = some oi := by rfl) (hf : Region.free md L.toArray listed i = true := by kernel_rfl) (hr : (Region.ready md L.toArray listed).contains i = true := by kernel_rfl)
    (hw : Region.wanted oi (yielded L.toArray a.tmps) = true := by rfl) (y : ∀ w, S w → (execOp a.eval oi).run P w = .ok (.value v) w := by (intro w hSw; go_simp; (try with_reducible rfl)))
    (hP : wpAnyH P md L.toArray Q S fuel (listed.setIfInBounds i true) (a.put oi.dst v) w = X := by (simp only [Act.put, List.setIfInBounds_toArray, List.set_cons_zero, List.set_cons_succ]; try rfl))
    (hs : Region.noSelect L.toArray = true := by kernel_rfl) 
    (hQ : ∀ c a w, Q (.panic c) (a.put oi.dst v) w → Q (.panic c) a w := by exact fun _ _ _ h => h) (hS : S w := by assumption) : wpAnyH P md L.toArray Q S (fuel + 1) listed a w := takeL hi hs hf hr hQ (.inl ⟨hw, y⟩) hS (hP ▸ h)
/-- an operation that alone is ready, in the world at hand -/
theorem tkv {i : Nat} (h : X) (hr : Region.ready md L.toArray listed = [i] := by with_unfolding_all rfl) (hi : L[i]? = some oi := by rfl)
    (hw : Region.wanted oi (yielded L.toArray a.tmps) = true := by rfl) (y : (execOp a.eval oi).run P w = .ok (.value v) w := by (go_simp; (try with_reducible rfl)))
    (hP : wpAnyH P md L.toArray Q S fuel (listed.setIfInBounds i true) (a.put oi.dst v) w = X := by (simp only [Act.put, List.setIfInBounds_toArray, List.set_cons_zero, List.set_cons_succ]; try rfl))
    (hS : S w := by assumption) : wpAnyH P md L.toArray Q S (fuel + 1) listed a w := by
  refine tk1 hr ?_
  have hi' : L.toArray[i]? = some oi := by simpa using hi
  unfold wpOp
  simp only [hi', hw, if_true]
  refine .inl ?_
  unfold Oper.wp
  rw [y]
  exact ⟨hS, hP ▸ h⟩
end
end Go.Proofs.YtljajnaclpbecaaGreatDoor

namespace Go.Proofs.YtljajnaclpbecaaGreatDoor
open Go.RowKit
set_option maxRecDepth 100000
set_option linter.unusedVariables false
set_option linter.unusedSimpArgs false
section
variable {w w' : World} {g : Nat} {T : TypeId} {cs : List Value}
theorem Bk.mid {l r : List Value} (h : Bk w g T (l ++ (cs ++ r))) : w.rangeAt g l.length cs := fun j v hv => by
  refine h.cell ?_
  rw [List.getElem?_append_right (by omega), show l.length + j - l.length = j by omega]
  rw [List.getElem?_append_left (List.getElem?_eq_some_iff.1 hv).1]; exact hv
theorem Bk.row (h : Bk w g T cs) : w.rangeAt g 0 cs := fun j v hv => by rw [Nat.zero_add]; exact h.cell hv
theorem Bk.rowSet (h : Bk w g T cs) (cs' : List Value) : Bk (w.setRow g cs'.toArray) g T cs' := by
  unfold Bk at h ⊢
  unfold World.setRow
  simp only [Array.getElem?_modify, if_pos, h]
  rfl
theorem Bk.rowOth (h : Bk w g T cs) {k : Nat} (hk : g ≠ k) (cs' : Array Value) : Bk (w.setRow k cs') g T cs := h.kept (setRow_other w k g cs' hk)
theorem Ch.row {a : World} {L : List Nat} (h : Ch a w L) {k : Nat} (hk : k ∈ L ∨ a.heap.size ≤ k) (cs' : Array Value) : Ch a (w.setRow k cs') L :=
  ⟨h.os, h.tape, h.output, by have := h.size; simpa [World.setRow] using this, fun i hi hL => (setRow_other w k i cs' (by rintro rfl; rcases hk with hk | hk; exact hL hk; omega)).trans (h.block i hi hL)⟩
theorem St.rowOth {F : Foot} {bs ks : List Int} {S : TypeId} (h : St S w F bs ks) {k : Nat} (h1 : F.g ≠ k) (h2 : F.gb ≠ k) (h3 : F.gk ≠ k) (cs' : Array Value) : St S (w.setRow k cs') F bs ks := h.keep (setRow_other w k _ cs' h1) (setRow_other w k _ cs' h2) (setRow_other w k _ cs' h3)
/-- a struct's or an array's type -/
def isRw (T : TypeId) : Prop := (Tryz.prog.underlying T).map TypeDesc.isRow = some true
theorem isRw_some {T : TypeId} (h : isRw T) : ∃ d, Tryz.prog.underlying T = some d ∧ d.isRow = true := by
  unfold isRw at h
  cases hu : Tryz.prog.underlying T with
  | none => rw [hu] at h; cases h
  | some d => rw [hu] at h; exact ⟨d, rfl, by injection h⟩
theorem Bk.opn10 {X : Prop} {v0 v1 v2 v3 v4 v5 v6 v7 v8 v9 : Value} (h : Bk w g T [v0, v1, v2, v3, v4, v5, v6, v7, v8, v9]) (hX : w.cell? ⟨g, 0, none⟩ = some v0 → w.cell? ⟨g, 1, none⟩ = some v1 → w.cell? ⟨g, 2, none⟩ = some v2 → w.cell? ⟨g, 3, none⟩ = some v3 → w.cell? ⟨g, 4, none⟩ = some v4 → w.cell? ⟨g, 5, none⟩ = some v5 → w.cell? ⟨g, 6, none⟩ = some v6 → w.cell? ⟨g, 7, none⟩ = some v7 → w.cell? ⟨g, 8, none⟩ = some v8 → w.cell? ⟨g, 9, none⟩ = some v9 → X) : X := hX (h.cell rfl) (h.cell rfl) (h.cell rfl) (h.cell rfl) (h.cell rfl) (h.cell rfl) (h.cell rfl) (h.cell rfl) (h.cell rfl) (h.cell rfl)
theorem Bk.opn12 {X : Prop} {v0 v1 v2 v3 v4 v5 v6 v7 v8 v9 v10 v11 : Value} (h : Bk w g T [v0, v1, v2, v3, v4, v5, v6, v7, v8, v9, v10, v11]) (hX : w.cell? ⟨g, 0, none⟩ = some v0 → w.cell? ⟨g, 1, none⟩ = some v1 → w.cell? ⟨g, 2, none⟩ = some v2 → w.cell? ⟨g, 3, none⟩ = some v3 → w.cell? ⟨g, 4, none⟩ = some v4 → w.cell? ⟨g, 5, none⟩ = some v5 → w.cell? ⟨g, 6, none⟩ = some v6 → w.cell? ⟨g, 7, none⟩ = some v7 → w.cell? ⟨g, 8, none⟩ = some v8 → w.cell? ⟨g, 9, none⟩ = some v9 → w.cell? ⟨g, 10, none⟩ = some v10 → w.cell? ⟨g, 11, none⟩ = some v11 → X) : X := hX (h.cell rfl) (h.cell rfl) (h.cell rfl) (h.cell rfl) (h.cell rfl) (h.cell rfl) (h.cell rfl) (h.cell rfl) (h.cell rfl) (h.cell rfl) (h.cell rfl) (h.cell rfl)
theorem ld_row (h : Bk w g T cs) (hd : isRw T := by unfold isRw; kernel_rfl) (hi : (Tryz.prog.info? T).map (·.size) = some cs.length := by kernel_rfl) : (Instr.loadAt T (.pointer (some ⟨g, 0, none⟩))).run Tryz.prog w = .ok (.agg cs.toArray) w := by
  obtain ⟨d, hu, hd⟩ := isRw_some hd
  exact run_loadAt_mid w g 0 T cs d h.row hu hd hi
theorem st_row (h : Bk w g T cs) {cs' : List Value} (hl : cs.length = cs'.length) (h1 : cs'.toArray.all (·.oneCell') = true) (hi : (Tryz.prog.info? T).map (·.size) = some cs'.length) : (Instr.storeAt T (.pointer (some ⟨g, 0, none⟩)) (.agg cs'.toArray)).run Tryz.prog w = .ok () (w.setRow g cs'.toArray) := by
  simp only [Instr.storeAt, Instr.sureAddr, Sem.run_bind, Sem.run_pure, Result.andThen_ok, run_storeVar_row w g T T cs.toArray cs'.toArray h (by simpa using hi) (by simpa using hl) h1]
end
section
variable {L : List Oper} {Q : Exit → Act → World → Prop} {md : Region.Mode} {S : World → Prop} {v : Value} {oi : Oper} {fuel : Nat} {listed : Array Bool} {a : Act} {w : World} {X : Prop}
/-- a whole row is read, in a drawn region -/
theorem tkl (i : Nat) {g o : Nat} {T : TypeId} {x : Operand} {cs : List Value} (hR : ∀ w, S w → w.rangeAt g o cs) (h : X) (hi : L[i]? = some oi := by rfl) (ho : oi.op = .load T x := by rfl) (hx : a.eval x = .pointer (some ⟨g, o, none⟩) := by rfl) (hd : isRw T := by unfold isRw; kernel_rfl) (hn : (Tryz.prog.info? T).map (·.size) = some cs.length := by kernel_rfl) (hf : Region.free md L.toArray listed i = true := by kernel_rfl) (hr : (Region.ready md L.toArray listed).contains i = true := by kernel_rfl)
    (hw : Region.wanted oi (yielded L.toArray a.tmps) = true := by rfl)
    (hP : wpAnyH Tryz.prog md L.toArray Q S fuel (listed.setIfInBounds i true) (a.put oi.dst (.agg cs.toArray)) w = X := by (simp only [Act.put, List.setIfInBounds_toArray, List.set_cons_zero, List.set_cons_succ]; try rfl))
    (hs : Region.noSelect L.toArray = true := by kernel_rfl) 
    (hQ : ∀ c a w, Q (.panic c) (a.put oi.dst (.agg cs.toArray)) w → Q (.panic c) a w := by exact fun _ _ _ h => h) (hS : S w := by assumption) : wpAnyH Tryz.prog md L.toArray Q S (fuel + 1) listed a w := by
  obtain ⟨d, hu, hd⟩ := isRw_some hd
  exact takeL hi hs hf hr hQ (yieldsIf_load_mid hw T x ho g o hx cs d hR hu hd hn) hS (hP ▸ h)
/-- a whole row is written; it alone may come up -/
theorem tks_ {i : Nat} {g : Nat} {T : TypeId} {x y : Operand} {cs cs' : List Value} {R : World → Prop} {X : World → Prop} (hB : Bk w g T cs) (hl : cs.length = cs'.length) (h1 : cs'.toArray.all (·.oneCell') = true) (hn : (Tryz.prog.info? T).map (·.size) = some cs'.length) (hR : R (w.setRow g cs'.toArray)) (hRS : ∀ w', R w' → S w') (h : ∀ w', Hid (R w') → S w' → X w') (hr : Region.ready md L.toArray listed = [i] := by with_unfolding_all rfl) (hi : L[i]? = some oi := by rfl) (ho : oi.op = .store T x y := by rfl) (hx : a.eval x = .pointer (some ⟨g, 0, none⟩) := by rfl) (hy : a.eval y = .agg cs'.toArray := by rfl)
    (hw : Region.wanted oi (yielded L.toArray a.tmps) = true := by rfl)
    (hP : ∀ w', wpAnyH Tryz.prog md L.toArray Q S fuel (listed.setIfInBounds i true) (a.put oi.dst undef) w' = X w' := by (intro w'; simp only [Act.put, List.setIfInBounds_toArray, List.set_cons_zero, List.set_cons_succ]; try rfl)) : wpAnyH Tryz.prog md L.toArray Q S (fuel + 1) listed a w := by
  refine tkw hR hRS h hr hi hw ?_ hP
  unfold execOp
  simp only [ho, hx, hy]
  simp only [Sem.run_bind, st_row hB hl h1 hn, Result.andThen_ok, Sem.run_pure]
end
end Go.Proofs.YtljajnaclpbecaaGreatDoor

namespace Go.Proofs.YtljajnaclpbecaaGreatDoor
open Go.RowKit
set_option maxRecDepth 100000
set_option linter.unusedVariables false
set_option linter.unusedSimpArgs false
section
variable {w0 w w' : World} {g : Nat} {F : Foot} {I : In} {os rs : List Int} {p q : Ps} {ov : Bool} {bs ks : List Int}
theorem nxd {b : Bool} {c : Int} {Q : Ending → World → Prop} (h : b = true → Q (.returned (.tuple #[])) w) (h' : b = false → Q (.panicked [{ v := .iface 124 (.int .i64 c), recovered := false }]) w) : Calls Tryz.prog 108 #[.bool b, .int .i64 c] w Q := by
  cases b
  · exact (need_no c w).mono fun e w' he => by obtain ⟨rfl, rfl⟩ := he; exact h' rfl
  · exact (need_ok c w).mono fun e w' he => by obtain ⟨rfl, rfl⟩ := he; exact h rfl
theorem st_u32 {a : Addr} {x : Int} {v : Value} (h : w.cell? a = some v) (hf : w.frozen? a = false) : (Instr.storeAt 23 (.pointer (some a)) (.int .u32 x)).run Tryz.prog w = .ok () (w.setCell a (.int .u32 x)) := by go_simp
theorem st_int {a : Addr} {x : Int} {v : Value} (h : w.cell? a = some v) (hf : w.frozen? a = false) : (Instr.storeAt 3 (.pointer (some a)) (.int .i64 x)).run Tryz.prog w = .ok () (w.setCell a (.int .i64 x)) := by go_simp
section
variable {L : List Oper} {Q : Exit → Act → World → Prop} {md : Region.Mode} {S : World → Prop} {i : Nat} {oi : Oper} {fuel : Nat} {listed : Array Bool} {a : Act}
/-- a cell is written; it alone may come up -/
theorem tk_st {T : TypeId} {x y : Operand} {A : Addr} {v : Value} {R : World → Prop} {X : World → Prop} (hst : (Instr.storeAt T (.pointer (some A)) v).run Tryz.prog w = .ok () (w.setCell A v)) (hR : R (w.setCell A v)) (hRS : ∀ w', R w' → S w') (h : ∀ w', Hid (R w') → S w' → X w') (hr : Region.ready md L.toArray listed = [i]) (hi : L[i]? = some oi) (ho : oi.op = .store T x y) (hx : a.eval x = .pointer (some A)) (hy : a.eval y = v)
    (hw : Region.wanted oi (yielded L.toArray a.tmps) = true)
    (hP : ∀ w', wpAnyH Tryz.prog md L.toArray Q S fuel (listed.setIfInBounds i true) (a.put oi.dst undef) w' = X w') : wpAnyH Tryz.prog md L.toArray Q S (fuel + 1) listed a w := by
  refine tkw hR hRS h hr hi hw ?_ hP
  unfold execOp
  simp only [ho, hx, hy]
  simp only [Sem.run_bind, hst, Result.andThen_ok, Sem.run_pure]
theorem tpr {n : Nat} {v : Int} {x y : Operand} {X : World → Prop} (hR : PS w0 w g F I os rs p q ov bs ks) (hn : n < 16) (h : ∀ w', Hid (PS w0 w' g F I os (rs.set n v) p q ov bs ks) → S w' → X w') (hr : Region.ready md L.toArray listed = [i] := by with_unfolding_all rfl) (hi : L[i]? = some oi := by rfl) (ho : oi.op = .store 23 x y := by rfl) (hx : a.eval x = .pointer (some ⟨g, 28 + n, none⟩) := by rfl) (hy : a.eval y = .int .u32 v := by rfl)
    (hw : Region.wanted oi (yielded L.toArray a.tmps) = true := by rfl)
    (hRS : ∀ w', PS w0 w' g F I os (rs.set n v) p q ov bs ks → S w' := by first | exact fun _ h => h.x | exact fun _ h => h.z)
    (hP : ∀ w', wpAnyH Tryz.prog md L.toArray Q S fuel (listed.setIfInBounds i true) (a.put oi.dst undef) w' = X w' := by (intro w'; simp only [Act.put, List.setIfInBounds_toArray, List.set_cons_zero, List.set_cons_succ]; try rfl)) : wpAnyH Tryz.prog md L.toArray Q S (fuel + 1) listed a w := tk_st (st_u32 (hR.m.cr hn) (hR.fz _)) (hR.setr hn v) hRS h hr hi ho hx hy hw hP
theorem tpc {v : Int} {x y : Operand} {X : World → Prop} (hR : PS w0 w g F I os rs p q ov bs ks) (h : ∀ w', Hid (PS w0 w' g F I os rs p { q with cc := v } ov bs ks) → S w' → X w') (hr : Region.ready md L.toArray listed = [i] := by with_unfolding_all rfl) (hi : L[i]? = some oi := by rfl) (ho : oi.op = .store 3 x y := by rfl) (hx : a.eval x = .pointer (some ⟨g, 51, none⟩) := by rfl) (hy : a.eval y = .int .i64 v := by rfl)
    (hw : Region.wanted oi (yielded L.toArray a.tmps) = true := by rfl)
    (hRS : ∀ w', PS w0 w' g F I os rs p { q with cc := v } ov bs ks → S w' := by first | exact fun _ h => h.x | exact fun _ h => h.z)
    (hP : ∀ w', wpAnyH Tryz.prog md L.toArray Q S fuel (listed.setIfInBounds i true) (a.put oi.dst undef) w' = X w' := by (intro w'; simp only [Act.put, List.setIfInBounds_toArray, List.set_cons_zero, List.set_cons_succ]; try rfl)) : wpAnyH Tryz.prog md L.toArray Q S (fuel + 1) listed a w := tk_st (st_int (hR.m.cp (n := 7) (by omega)) (hR.fz _)) (hR.setcc v) hRS h hr hi ho hx hy hw hP
/-- a call that alone may come up, and changes nothing -/
theorem tkz {f : FuncId} {args : Array Value} {v : Value} {X : Prop} (hc : Calls Tryz.prog f args w fun e w' => e = .returned v ∧ w = w') (h : X) (hr : Region.ready md L.toArray listed = [i] := by with_unfolding_all rfl) (hi : L[i]? = some oi := by rfl)
    (hw : Region.wanted oi (yielded L.toArray a.tmps) = true := by rfl) (hx : (execOp a.eval oi).run Tryz.prog w = .ok (.enter f args) w := by (go_simp; (try with_reducible rfl)))
    (hP : wpAnyH Tryz.prog md L.toArray Q S fuel (listed.setIfInBounds i true) (a.put oi.dst v) w = X := by (simp only [Act.put, List.setIfInBounds_toArray, List.set_cons_zero, List.set_cons_succ]; try rfl)) (hS : S w := by assumption) : wpAnyH Tryz.prog md L.toArray Q S (fuel + 1) listed a w := by
  refine ⟨fun h0 => (by rw [hr] at h0; cases h0), fun j hj => ?_⟩
  rw [hr, List.mem_singleton] at hj
  subst hj
  have hi' : L.toArray[j]? = some oi := by simpa using hi
  unfold wpOp
  simp only [hi', hw, if_true]
  refine .inl ?_
  unfold Oper.wp
  rw [hx]
  refine Calls.mono hc fun e w' he => ?_
  obtain ⟨rfl, rfl⟩ := he
  exact ⟨hS, hP ▸ h⟩
end
/-- a pure call -/
theorem nz {P : Program} {f : FuncId} {args : Array Value} {v : Value} {Q : Ending → World → Prop} (hc : Calls P f args w fun e w' => e = .returned v ∧ w = w') (h : Q (.returned v) w) : Calls P f args w Q := hc.mono fun _ _ ⟨he, hw⟩ => he ▸ hw ▸ h
theorem pset_c (h : PS w0 w g F I os rs p q ov bs ks) (v cc : Int) (o : Bool) : Calls Tryz.prog 106 #[.pointer (some ⟨g, 0, none⟩), .int .u32 v, .int .i64 cc, .bool o] w fun e w' => e = .returned (.tuple #[]) ∧ PS w0 w' g F I os (rs.set I.n v) p { q with cc := cc } o bs ks := by
  have R0 := Lib.hid h
  have hn := h.ix.n
  clear h
  go_enter Tryz.func106, Tryz.ntmps106
  go_upto_region 0 with fail
  refine wp_region_held_drew (S := Sy w0 g F I os p) (by kernel_rfl) R0.out.drew.x (fun hHeld => ?_)
  have R1 := Lib.hid R0.out.drew
  repeat refine tkp ?_
  refine tpr R1.out hn ?_
  clear R1 hHeld
  intro w2 R2 hHeld
  repeat refine tkp ?_
  refine tpc R2.out ?_
  clear R2 hHeld
  intro w3 R3 hHeld
  refine wpAnyH_done (by with_unfolding_all rfl) ?_ _
  refine R3.out.opn ?_
  clear hHeld
  intros
  go_wp2
  go_end0
  exact ⟨rfl, R3.out.setov o⟩
theorem pfst_c (h : PS w0 w g F I os rs p q ov bs ks) : Calls Tryz.prog 119 #[.pointer (some ⟨g, 0, none⟩)] w fun e w' => e = .returned (.int .i64 (I.a1 os)) ∧ PS w0 w' g F I os rs p q ov bs ks :=
  (first_c g I.b I.d I.z os rs q.v _ ov w h.m h.ro rfl h.ix.d.1 h.ix.d.2 rfl h.ix.b).mono fun _ _ hh => ⟨hh.1, h.keep (hh.2.below (Nat.le_refl _) (by simp))⟩
theorem psec_c (h : PS w0 w g F I os rs p q ov bs ks) : Calls Tryz.prog 74 #[.pointer (some ⟨g, 0, none⟩)] w fun e w' => e = .returned (.int .i64 (I.a os)) ∧ PS w0 w' g F I os rs p q ov bs ks :=
  (second_c g I.b' I.x I.d' I.z os rs q.v _ ov w h.m h.ro rfl h.ix.d'.1 h.ix.d'.2 rfl h.ix.b' rfl h.ix.x).mono fun _ _ hh => ⟨hh.1, h.keep (hh.2.below (Nat.le_refl _) (by simp))⟩
/-- bytes that have been fetched -/
def FdP (w0 w : World) (g : Nat) (F : Foot) (I : In) (os rs : List Int) (p q : Ps) (ov : Bool) (bs ks : List Int) (a : Int) (n : Nat) (v : Value) (w' : World) : Prop := sCode (alF p.key) bs.length ks a n = 0 ∧ ∃ b cap, v = .slice (some ⟨b, 0, none⟩) n cap ∧ Own w' w.heap.size v n (sGet bs a n) ∧ w.heap.size ≤ b ∧ b < w'.heap.size ∧ PS w0 w' g F I os rs p q ov bs ks
set_option maxRecDepth 1000000 in
set_option maxHeartbeats 8000000 in
theorem pfet_c (h : PS w0 w g F I os rs p q ov bs ks) (a : Int) (n : Nat) (n0 : 0 < n) : Calls Tryz.prog 116 #[.pointer (some ⟨g, 0, none⟩), .int .i64 a, .int .i64 (n : Int)] w (Th (FdP w0 w g F I os rs p q ov bs ks a n) (sCode (alF p.key) bs.length ks a n) (fun w' => sCode (alF p.key) bs.length ks a n ≠ 0 ∧ PS w0 w' g F I os rs p q ov bs ks)) := by
  have FC := Lib.hid (fetch_c w.drew (h.st.drewN 1) a n p.key)
  obtain ⟨cd, hcd⟩ : ∃ x, sCode (alF p.key) bs.length ks a n = x := ⟨_, rfl⟩
  have hsf : sFet (alF p.key) bs ks a n = if cd = 0 then sGet bs a n else [] := by unfold sFet; rw [hcd]
  have hgl : cd = 0 → (sGet bs a n).length = n := by
    intro hz
    have h1 := sCode_zero (hcd.trans hz)
    obtain ⟨_, _, _, _⟩ := sIn_yes h1
    unfold sGet; rw [if_pos h1]; simp; omega
  have hfd : ∀ v w', (cd = 0 ∧ ∃ b cap, v = .slice (some ⟨b, 0, none⟩) n cap ∧ Own w' w.heap.size v n (sGet bs a n) ∧ w.heap.size ≤ b ∧ b < w'.heap.size ∧ PS w0 w' g F I os rs p q ov bs ks) → FdP w0 w g F I os rs p q ov bs ks a n v w' := fun v w' h => ⟨hcd.trans h.1, h.2⟩
  have HFD := Lib.hid hfd
  rw [hcd] at FC ⊢
  rw [hsf] at FC
  clear hfd
  have HL := Lib.hid hgl
  have R0 := Lib.hid h
  clear hcd hsf hgl h
  go_enter Tryz.func116, Tryz.ntmps116
  go_upto_region 1 with fail
  refine wp_region_held_drew (S := Sy w0 g F I os p) (by kernel_rfl) R0.out.drew.x (fun hHeld => ?_)
  have R1 := Lib.hid R0.out.drew
  repeat refine tkp ?_
  refine tkce (R := fun v w' => ∃ A m cap, v = .tuple #[.slice A m cap, .int .i64 cd] ∧ Own w' w.heap.size (.slice A m cap) m (if cd = 0 then sGet bs a n else []) ∧ PS w0 w' g F I os rs p q ov bs ks) (FC.out.mono ?_) (fun _ _ ⟨_, _, _, _, _, h⟩ => h.x) ?_
  · rintro e w' ⟨A, m, cap, rfl, hO, hb⟩
    exact ⟨_, rfl, A, m, cap, rfl, hO, R1.out.keep hb⟩
  clear hHeld R1 FC
  intro v w1 R1 hHeld
  obtain ⟨A, m, cap, rfl, hO, hR⟩ := R1.out
  have O1 := Lib.hid hO
  replace R1 := Lib.hid hR
  clear hO hR
  repeat refine tkp ?_
  refine wpAnyH_done (by with_unfolding_all rfl) ?_ _
  clear hHeld
  by_cases hz : cd = 0
  · subst hz
    rw [if_pos rfl] at O1
    go_wp2_with (go_at_call 108; refine nxd (fun _ => ?_) (fun h => by cases h))
    go_ret
    have hm : m = n := by have := O1.out.len; rw [HL.out trivial] at this; exact this.symm
    subst hm
    obtain ⟨b, cap', hv, h1, h2, -, -⟩ := O1.out.pos n0
    injection hv with e1 e2 e3
    subst e1 e3
    (refine Th.ok ?_; exact HFD.out _ _ ⟨by trivial, b, _, rfl, O1.out, h1, h2, R1.out⟩)
  · have e1 : (cd == 0) = false := by simpa using hz
    have HZ := Lib.hid hz
    clear hz
    go_wp2_with (go_at_call 108; refine nxd (fun h => by cases h) (fun _ => ?_))
    (refine ⟨rfl, Th.no rfl ?_⟩; exact ⟨HZ.out, R1.out⟩)
set_option maxRecDepth 1000000 in
set_option maxHeartbeats 8000000 in
theorem pput_c (h : PS w0 w g F I os rs p q ov bs ks) (a : Int) (A : Option Addr) (len cap : Nat) (ys : List Int) (hy : Byt w A len ys) (hl : (len : Int) ≤ 9223372036854775807) : Calls Tryz.prog 113 #[.pointer (some ⟨g, 0, none⟩), .int .i64 a, .slice A len cap] w (Th (fun v w' => v = .tuple #[] ∧ sCode (alP p.key) bs.length ks a len = 0 ∧ PS w0 w' g F I os rs p q ov (sPut (alP p.key) bs ks a ys) ks) (sCode (alP p.key) bs.length ks a len) (fun w' => sCode (alP p.key) bs.length ks a len ≠ 0 ∧ PS w0 w' g F I os rs p q ov bs ks)) := by
  have PC := Lib.hid (put_c w.drew (h.st.drewN 1) a p.key A len cap ys (hy.keep (below_draw w 1)) hl)
  have hsame : sCode (alP p.key) bs.length ks a len ≠ 0 → sPut (alP p.key) bs ks a ys = bs := by
    intro hc
    unfold sPut
    rw [hy.1, if_neg hc]
  obtain ⟨cd, hcd⟩ : ∃ x, sCode (alP p.key) bs.length ks a len = x := ⟨_, rfl⟩
  rw [hcd] at PC hsame ⊢
  obtain ⟨bs', hbs⟩ : ∃ x, sPut (alP p.key) bs ks a ys = x := ⟨_, rfl⟩
  rw [hbs] at PC hsame ⊢
  have HS := Lib.hid hsame
  have R0 := Lib.hid h
  clear hcd hbs hsame hy h
  go_enter Tryz.func113, Tryz.ntmps113
  go_upto_region 0 with fail
  refine wp_region_held_drew (S := Sy w0 g F I os p) (by kernel_rfl) R0.out.drew.x (fun hHeld => ?_)
  have R1 := Lib.hid R0.out.drew
  repeat refine tkp ?_
  refine tkc (R := fun w' => PS w0 w' g F I os rs p q ov bs' ks) (PC.out.mono fun e w' he => ⟨he.1, R1.out.put_ he.2.1 he.2.2⟩) (fun _ h => h.x) ?_
  clear hHeld R1 PC
  intro w1 R1 hHeld
  repeat refine tkp ?_
  refine wpAnyH_done (by with_unfolding_all rfl) ?_ _
  clear hHeld
  by_cases hz : cd = 0
  · subst hz
    go_wp2_with (go_at_call 108; refine nxd (fun _ => ?_) (fun h => by cases h))
    go_end0
    (refine Th.ok ?_; first | exact ⟨rfl, rfl, R1.out⟩ | exact ⟨rfl, R1.out⟩)
  · have e1 : (cd == 0) = false := by simpa using hz
    have HZ := Lib.hid hz
    clear hz
    go_wp2_with (go_at_call 108; refine nxd (fun h => by cases h) (fun _ => ?_))
    (refine ⟨rfl, Th.no rfl ?_⟩; exact ⟨HZ.out, HS.out HZ.out ▸ R1.out⟩)
theorem paln_c (h : PS w0 w g F I os rs p q ov bs ks) (n : Int) (hn : n = 2 ∨ n = 4) : Calls Tryz.prog 114 #[.pointer (some ⟨g, 0, none⟩), .int .i64 n] w (Th (fun v w' => v = .int .i64 (I.a os) ∧ I.a os % n = 0 ∧ PS w0 w' g F I os rs p q ov bs ks) 6 (fun w' => ¬ I.a os % n = 0 ∧ PS w0 w' g F I os rs p q ov bs ks)) := by
  have RA := Lib.hid (psec_c h)
  have a0 := I.a_in os
  obtain ⟨A, hA⟩ : ∃ A, I.a os = A := ⟨_, rfl⟩
  rw [hA] at RA a0 ⊢
  clear h hA
  have e1 : IntKind.i64.wrap (A.tmod n) = A % n := by rcases hn with rfl | rfl <;> rw [Int.tmod_eq_emod_of_nonneg a0.1] <;> exact wrap_i64_id (by omega) (by omega)
  have e2 : (n == 0) = false := by rcases hn with rfl | rfl <;> rfl
  have e3 : ¬ n = 0 := by omega
  have e4 : ¬ n = -1 := by omega
  have HN := Lib.hid hn
  clear hn
  by_cases hz : A % n = 0
  · have e0 : (A % n == 0) = true := by simpa using hz
    have HZ := Lib.hid hz
    clear hz
    go_enter Tryz.func114, Tryz.ntmps114
    go_wp2_with (first
      | (go_at_call 74; refine nx RA.out ?_; intro w1 R1)
      | (go_at_call 108; refine nxd (fun _ => ?_) (fun h => by cases h)))
    go_ret
    (refine Th.ok ?_; exact ⟨rfl, HZ.out, R1.out⟩)
  · have e0 : (A % n == 0) = false := by simpa using hz
    have HZ := Lib.hid hz
    clear hz
    go_enter Tryz.func114, Tryz.ntmps114
    go_wp2_with (first
      | (go_at_call 74; refine nx RA.out ?_; intro w1 R1)
      | (go_at_call 108; refine nxd (fun h => by cases h) (fun _ => ?_)))
    (refine ⟨rfl, Th.no rfl ?_⟩; exact ⟨HZ.out, R1.out⟩)
end
end Go.Proofs.YtljajnaclpbecaaGreatDoor

namespace Go.Proofs.YtljajnaclpbecaaGreatDoor
open Go.RowKit
set_option maxRecDepth 100000
set_option linter.unusedVariables false
set_option linter.unusedSimpArgs false
section
variable {w0 w w' : World} {g : Nat} {F : Foot} {I : In} {os rs : List Int} {p q : Ps} {ov : Bool} {bs ks : List Int}
/-- a call that may throw, its one answer known -/
theorem nxk {P : Program} {f : FuncId} {args : Array Value} {v0 : Value} {c : Int} {cnd ncnd : Prop} {R R' : World → Prop} {Q : Ending → World → Prop} (hc : Calls P f args w (Th (fun v w' => v = v0 ∧ cnd ∧ R w') c (fun w' => ncnd ∧ R' w'))) (h : ∀ w', Hid cnd → Hid (R w') → Q (.returned v0) w') (h' : ∀ w', Hid ncnd → Hid (R' w') → Q (.panicked [{ v := .iface 124 (.int .i64 c), recovered := false }]) w') : Calls P f args w Q :=
  hc.mono fun e w' he => by
    rcases he with ⟨v, rfl, rfl, h1, h2⟩ | ⟨rfl, h1, h2⟩
    · exact h w' (Lib.hid h1) (Lib.hid h2)
    · exact h' w' (Lib.hid h1) (Lib.hid h2)
/-- a fetch -/
theorem nxh {P : Program} {f : FuncId} {args : Array Value} {c : Int} {ncnd : Prop} {R' : World → Prop} {a : Int} {n : Nat} {Q : Ending → World → Prop} (hc : Calls P f args w (Th (FdP w0 w g F I os rs p q ov bs ks a n) c (fun w' => ncnd ∧ R' w'))) (h : ∀ b cap w', Hid (sCode (alF p.key) bs.length ks a n = 0) → Hid (Own w' w.heap.size (.slice (some ⟨b, 0, none⟩) n cap) n (sGet bs a n)) → w.heap.size ≤ b → b < w'.heap.size → Hid (PS w0 w' g F I os rs p q ov bs ks) → Q (.returned (.slice (some ⟨b, 0, none⟩) n cap)) w') (h' : ∀ w', Hid ncnd → Hid (R' w') → Q (.panicked [{ v := .iface 124 (.int .i64 c), recovered := false }]) w') : Calls P f args w Q :=
  hc.mono fun e w' he => by
    rcases he with ⟨v, rfl, h0, b, cap, rfl, h1, h2, h3, h4⟩ | ⟨rfl, h1, h2⟩
    · exact h b cap w' (Lib.hid h0) (Lib.hid h1) h2 h3 (Lib.hid h4)
    · exact h' w' (Lib.hid h1) (Lib.hid h2)
/-- how a method ends whose answer is the plain o -/
def Gp (w0 : World) (g : Nat) (F : Foot) (I : In) (os : List Int) (p : Ps) (bs ks : List Int) (o : Out) (e : Ending) (w' : World) : Prop :=
  (o.c = 0 → e = .returned (.tuple #[]) ∧ PS w0 w' g F I os o.rs p (p.to o.cc o.pg o.ad) o.ov o.bs ks) ∧ (o.c ≠ 0 → e = Pn o.c ∧ ∃ rs q ov, PS w0 w' g F I os rs p q ov bs ks)
theorem gp_ok {o : Out} {bs' : List Int} (hR : PS w0 w g F I os rs p q ov bs' ks) (ho : o = ⟨0, rs, q.cc, q.pg, q.ad, ov, bs'⟩) : Gp w0 g F I os p bs ks o (.returned (.tuple #[])) w := by
  subst ho
  exact ⟨fun _ => ⟨rfl, hR.hq ▸ hR⟩, fun h => absurd rfl h⟩
theorem gp_no {o : Out} {c : Int} (hR : PS w0 w g F I os rs p q ov bs ks) (hc : o.c = c) (h0 : c ≠ 0) : Gp w0 g F I os p bs ks o (.panicked [{ v := .iface 124 (.int .i64 c), recovered := false }]) w := by
  subst hc
  exact ⟨fun h => absurd h h0, fun _ => ⟨rfl, _, _, _, hR⟩⟩
set_option maxRecDepth 1000000 in
set_option maxHeartbeats 8000000 in
theorem popd_c (h : PS w0 w g F I os rs p q ov bs ks) : Calls Tryz.prog 133 #[.pointer (some ⟨g, 0, none⟩)] w (Th (fun v w' => v = .int .u32 (opV I.op I.fm os I.k bs (I.a os)) ∧ opC I.op I.fm bs ks p.key (I.a os) = 0 ∧ PS w0 w' g F I os rs p q ov bs ks) (opC I.op I.fm bs ks p.key (I.a os)) (fun w' => opC I.op I.fm bs ks p.key (I.a os) ≠ 0 ∧ PS w0 w' g F I os rs p q ov bs ks)) := by
  unfold opV opC
  by_cases h1 : I.fm = 1
  · rw [if_pos h1, if_pos h1]
    obtain ⟨v, hv⟩ : ∃ v, os.getD I.k 0 = v := ⟨_, rfl⟩
    rw [hv]
    have HV := Lib.hid hv
    have e1 : (I.fm == 1) = true := by simpa using h1
    clear h1 hv
    refine h.opn ?_
    clear h
    intro R0
    intros
    go_enter Tryz.func133, Tryz.ntmps133
    go_upto_region 4 with fail
    refine wp_region_held_drew (S := Sy w0 g F I os p) (by kernel_rfl) R0.out.drew.x (fun hHeld => ?_)
    have R1 := Lib.hid R0.out.drew
    repeat refine tkp ?_
    refine wpAnyH_done (by kernel_rfl) ?_ _
    go_wp2
    go_ret
    (refine Th.ok ?_; first | exact ⟨rfl, rfl, R1.out⟩ | exact ⟨rfl, trivial, R1.out⟩)
  rw [if_neg h1, if_neg h1]
  have e1 : (I.fm == 1) = false := by simpa using h1
  clear h1
  have A0 := I.a_in os
  obtain ⟨A, hA⟩ : ∃ A, I.a os = A := ⟨_, rfl⟩
  rw [hA] at A0 ⊢
  have HA := Lib.hid hA
  clear hA
  by_cases h2 : 72 ≤ I.op ∧ I.op ≤ 76
  · rw [if_pos h2, if_pos h2]
    obtain ⟨h2, h3⟩ := h2
    have e2 : I.op ≥ 72 := h2
    clear h2
    obtain ⟨C, hC⟩ : ∃ C, (if A % 2 = 0 then sCode (alF p.key) bs.length ks A 2 else 6) = C := ⟨_, rfl⟩
    obtain ⟨V, hV⟩ : ∃ V, g2V bs A = V := ⟨_, rfl⟩
    rw [hC, hV]
    have HC := Lib.hid hC
    have HV := Lib.hid hV
    clear hC hV
    refine h.opn ?_
    clear h
    intro R0
    intros
    go_enter Tryz.func133, Tryz.ntmps133
    go_wp2_with (first
      | (go_at_call 114; refine nxk (HA.out ▸ paln_c hout 2 (.inl rfl)) (fun w1 Z1 R1 => ?_) (fun w1 Z1 R1 => ?_))
      | (go_at_call 116; refine nxh (pfet_c R1.out A 2 (by omega)) (fun b cap w1 Z2 O1 hb1 hb2 R1 => ?_) (fun w1 Z2 R1 => ?_))
      | (go_at_call 168; refine (half_any _ _ _ 0 _ _ (by omega) O1.out.byt (by omega) (by omega)).mono ?_; rintro e wx ⟨rfl, nd, rfl⟩))
    all_goals first
      | (go_ret; refine Th.ok ?_; exact ⟨by rw [← HV.out]; rfl, by rw [← HC.out, if_pos Z1.out]; exact Z2.out, R1.out.drewN _⟩)
      | (refine ⟨rfl, Th.no (by rw [← HC.out, if_pos Z1.out]) ?_⟩; exact ⟨by rw [← HC.out, if_pos Z1.out]; exact Z2.out, R1.out⟩)
      | (refine ⟨rfl, Th.no (by rw [← HC.out, if_neg Z1.out]) ?_⟩; exact ⟨by rw [← HC.out, if_neg Z1.out]; decide, R1.out⟩)
  · rw [if_neg h2, if_neg h2]
    rcases (show ¬ I.op ≥ 72 ∨ (I.op ≥ 72 ∧ ¬ I.op ≤ 76) by omega) with h2 | ⟨h2, h3⟩
    all_goals
      obtain ⟨C, hC⟩ : ∃ C, (if A % 4 = 0 then sCode (alF p.key) bs.length ks A 4 else 6) = C := ⟨_, rfl⟩
      obtain ⟨V, hV⟩ : ∃ V, g4V bs A = V := ⟨_, rfl⟩
      rw [hC, hV]
      have HC := Lib.hid hC
      have HV := Lib.hid hV
      clear hC hV
      refine h.opn ?_
      clear h
      intro R0
      intros
      go_enter Tryz.func133, Tryz.ntmps133
      go_wp2_with (first
        | (go_at_call 114; refine nxk (HA.out ▸ paln_c hout 4 (.inr rfl)) (fun w1 Z1 R1 => ?_) (fun w1 Z1 R1 => ?_))
        | (go_at_call 116; refine nxh (pfet_c R1.out A 4 (by omega)) (fun b cap w1 Z2 O1 hb1 hb2 R1 => ?_) (fun w1 Z2 R1 => ?_))
        | (go_at_call 118; refine (full_any _ _ _ 0 _ _ (by omega) O1.out.byt (by omega) (by omega)).mono ?_; rintro e wx ⟨rfl, nd, rfl⟩))
      all_goals first
        | (go_ret; refine Th.ok ?_; exact ⟨by rw [← HV.out]; rfl, by rw [← HC.out, if_pos Z1.out]; exact Z2.out, R1.out.drewN _⟩)
        | (refine ⟨rfl, Th.no (by rw [← HC.out, if_pos Z1.out]) ?_⟩; exact ⟨by rw [← HC.out, if_pos Z1.out]; exact Z2.out, R1.out⟩)
        | (refine ⟨rfl, Th.no (by rw [← HC.out, if_neg Z1.out]) ?_⟩; exact ⟨by rw [← HC.out, if_neg Z1.out]; decide, R1.out⟩)
theorem arO_no {P : Pre} {op c v : Int} {n : Nat} (h : ¬ (op = 28 ∨ op = 29 ∨ op = 92 ∨ op = 93)) (hc : c ≠ 0) : arO P op n c v = P.no c := by unfold arO; rw [if_neg h, if_pos hc]
theorem opV_in {op fm a : Int} {k : Nat} (ro : ∀ z ∈ os, 0 ≤ z ∧ z ≤ 4294967295) (hb : ∀ z ∈ bs, 0 ≤ z ∧ z ≤ 255) : 0 ≤ opV op fm os k bs a ∧ opV op fm os k bs a ≤ 4294967295 := by
  unfold opV g2V g4V
  split
  · exact getD_in ro k
  split
  · have a0 := sGet_in (bs := bs) a 2 hb 0
    have a1 := sGet_in (bs := bs) a 2 hb 1
    unfold hfv lo32; omega
  · have a0 := sGet_in (bs := bs) a 4 hb 0
    have a1 := sGet_in (bs := bs) a 4 hb 1
    have a2 := sGet_in (bs := bs) a 4 hb 2
    have a3 := sGet_in (bs := bs) a 4 hb 3
    unfold flv; omega
end
end Go.Proofs.YtljajnaclpbecaaGreatDoor

namespace Go.Proofs.YtljajnaclpbecaaGreatDoor
open Go.RowKit
theorem one_ps (p : Ps) : p.v.toArray.all (·.oneCell') = true := by simp [Ps.v, Value.oneCell']
theorem one_u32 (os : List Int) : (os.map (Value.int .u32)).toArray.all (·.oneCell') = true := by simp [Value.oneCell']
end Go.Proofs.YtljajnaclpbecaaGreatDoor

namespace Go.Proofs.YtljajnaclpbecaaGreatDoor
open Go.RowKit
set_option linter.unusedVariables false
def agR (rs : List Int) : Value := .agg (rs.map (Value.int .u32)).toArray
theorem list_16 {α : Type} : ∀ {l : List α}, l.length = 16 → ∃ x0 x1 x2 x3 x4 x5 x6 x7 x8 x9 x10 x11 x12 x13 x14 x15, l = [x0, x1, x2, x3, x4, x5, x6, x7, x8, x9, x10, x11, x12, x13, x14, x15]
  | [x0, x1, x2, x3, x4, x5, x6, x7, x8, x9, x10, x11, x12, x13, x14, x15], _ => ⟨_, _, _, _, _, _, _, _, _, _, _, _, _, _, _, _, rfl⟩
end Go.Proofs.YtljajnaclpbecaaGreatDoor

namespace Go.Proofs.YtljajnaclpbecaaGreatDoor
open Go.RowKit
set_option maxRecDepth 100000
set_option linter.unusedVariables false
set_option linter.unusedSimpArgs false
section
variable {w0 w w' : World} {g : Nat} {F : Foot} {I : In} {os rs : List Int} {p q : Ps} {ov : Bool} {bs ks : List Int}
structure XG (w0 w : World) (F : Foot) (bs ks : List Int) (z r p a b : List Value) (v : Int) : Prop where
  z : Bk w w0.heap.size 54 z
  r : Bk w (w0.heap.size + 1) 25 r
  p : Bk w (w0.heap.size + 1 + 1) 35 p
  a : Bk w (w0.heap.size + 1 + 1 + 1) 25 a
  b : Bk w (w0.heap.size + 1 + 1 + 1 + 1) 35 b
  c : Bk w (w0.heap.size + 1 + 1 + 1 + 1 + 1) 3 [.int .i64 v]
  st : St 63 w F bs ks
  ch : Ch w0 w [F.gb]
  gs : F.g < w0.heap.size ∧ F.gb < w0.heap.size ∧ F.gk < w0.heap.size
section
variable {z r zp a b : List Value} {v : Int}
theorem XG.keep (h : XG w0 w F bs ks z r zp a b v) (hb : Below w.heap.size w w') : XG w0 w' F bs ks z r zp a b v := ⟨h.z.keep hb, h.r.keep hb, h.p.keep hb, h.a.keep hb, h.b.keep hb, h.c.keep hb, h.st.belowS hb, h.ch.trans (Ch.of_below hb _), h.gs⟩
theorem XG.drew (h : XG w0 w F bs ks z r zp a b v) : XG w0 w.drew F bs ks z r zp a b v := h.keep (dBelow' (Below.refl _ _) 1)
theorem XG.seta (h : XG w0 w F bs ks z r zp a b v) (a' : List Value) : XG w0 (w.setRow (w0.heap.size + 1 + 1 + 1) a'.toArray) F bs ks z r zp a' b v :=
  have := h.gs
  ⟨h.z.rowOth (by omega) _, h.r.rowOth (by omega) _, h.p.rowOth (by omega) _, h.a.rowSet _, h.b.rowOth (by omega) _, h.c.rowOth (by omega) _, h.st.rowOth (by omega) (by omega) (by omega) _, h.ch.row (.inr (by omega)) _, h.gs⟩
theorem XG.setb (h : XG w0 w F bs ks z r zp a b v) (b' : List Value) : XG w0 (w.setRow (w0.heap.size + 1 + 1 + 1 + 1) b'.toArray) F bs ks z r zp a b' v :=
  have := h.gs
  ⟨h.z.rowOth (by omega) _, h.r.rowOth (by omega) _, h.p.rowOth (by omega) _, h.a.rowOth (by omega) _, h.b.rowSet _, h.c.rowOth (by omega) _, h.st.rowOth (by omega) (by omega) (by omega) _, h.ch.row (.inr (by omega)) _, h.gs⟩
theorem XG.setc (h : XG w0 w F bs ks z r zp a b v) (v' : Int) : XG w0 (w.setCell ⟨w0.heap.size + 1 + 1 + 1 + 1 + 1, 0, none⟩ (.int .i64 v')) F bs ks z r zp a b v' := by
  have := h.gs
  have e : ∀ k, k ≠ w0.heap.size + 1 + 1 + 1 + 1 + 1 → (w.setCell ⟨w0.heap.size + 1 + 1 + 1 + 1 + 1, 0, none⟩ (.int .i64 v')).heap[k]? = w.heap[k]? := fun k hk => Below.heap_setCell w ⟨w0.heap.size + 1 + 1 + 1 + 1 + 1, 0, none⟩ _ k hk
  exact ⟨h.z.kept (e _ (by omega)), h.r.kept (e _ (by omega)), h.p.kept (e _ (by omega)), h.a.kept (e _ (by omega)), h.b.kept (e _ (by omega)), h.c.set_ 0 _, h.st.keep (e _ (by omega)) (e _ (by omega)) (e _ (by omega)), h.ch.setNew (by show w0.heap.size ≤ w0.heap.size + 1 + 1 + 1 + 1 + 1; omega) _, h.gs⟩
theorem XG.call {P : Program} {f : FuncId} {args : Array Value} {y : Value} (h : XG w0 w F bs ks z r zp a b v) (hc : Calls P f args w fun e w' => e = .returned y ∧ Below w.heap.size w w') : Calls P f args w fun e w' => e = .returned y ∧ XG w0 w' F bs ks z r zp a b v := hc.mono fun _ _ hh => ⟨hh.1, h.keep hh.2⟩
theorem XG.ex {bs' : List Int} (h : XG w0 w F bs ks z r zp a b v) (hc : Ch w w' [g, F.gb]) (hs : St 63 w' F bs' ks) (hg : w0.heap.size + 1 + 1 + 1 + 1 + 1 < g) : XG w0 w' F bs' ks z r zp a b v := by
  have := h.gs
  exact ⟨h.z.ch hc (by simp; omega), h.r.ch hc (by simp; omega), h.p.ch hc (by simp; omega), h.a.ch hc (by simp; omega), h.b.ch hc (by simp; omega), h.c.ch hc (by simp; omega), hs, ⟨hc.os.trans h.ch.os, hc.tape.trans h.ch.tape, hc.output.trans h.ch.output, Nat.le_trans h.ch.size hc.size, fun i hi hL => (hc.block i (Nat.lt_of_lt_of_le hi h.ch.size) (by simp at hL ⊢; omega)).trans (h.ch.block i hi hL)⟩, h.gs⟩
theorem XG.opn {X : Prop} {z0 z1 z2 z3 z4 z5 z6 z7 z8 z9 za zb : Value} (h : XG w0 w F bs ks [z0, z1, z2, z3, z4, z5, z6, z7, z8, z9, za, zb] r p.v a b v) (hX : Hid (XG w0 w F bs ks [z0, z1, z2, z3, z4, z5, z6, z7, z8, z9, za, zb] r p.v a b v) → Bk w w0.heap.size 54 [z0, z1, z2, z3, z4, z5, z6, z7, z8, z9, za, zb] → Bk w (w0.heap.size + 1 + 1) 35 [.int .i64 p.m, .int .i64 p.key, .bool p.M, .bool p.W, .bool p.P, .int .i64 p.cd, .int .i64 p.il, .int .i64 p.cc, .int .i64 p.pg, .int .i64 p.ad] → X) : X := hX (Lib.hid h) h.z h.p
theorem XG.start (h : St 63 w F bs ks) (z r zp a b : List Value) (v : Int) : XG w ((((((w.alloc (.cells z.toArray 54)).alloc (.cells r.toArray 25)).alloc (.cells zp.toArray 35)).alloc (.cells a.toArray 25)).alloc (.cells b.toArray 35)).alloc (.cells #[.int .i64 v] 3)) F bs ks z r zp a b v := by
  have e : ∀ (w : World) (o : Obj), (w.alloc o).heap.size = w.heap.size + 1 := fun w o => by simp
  have B2 := Bk.new (w.alloc (.cells z.toArray 54)) r 25
  have B3 := Bk.new ((w.alloc (.cells z.toArray 54)).alloc (.cells r.toArray 25)) zp 35
  have B4 := Bk.new (((w.alloc (.cells z.toArray 54)).alloc (.cells r.toArray 25)).alloc (.cells zp.toArray 35)) a 25
  have B5 := Bk.new ((((w.alloc (.cells z.toArray 54)).alloc (.cells r.toArray 25)).alloc (.cells zp.toArray 35)).alloc (.cells a.toArray 25)) b 35
  have B6 := Bk.new (((((w.alloc (.cells z.toArray 54)).alloc (.cells r.toArray 25)).alloc (.cells zp.toArray 35)).alloc (.cells a.toArray 25)).alloc (.cells b.toArray 35)) [.int .i64 v] 3
  simp only [e] at B2 B3 B4 B5 B6
  exact ⟨(((((Bk.new w z _).alloc _).alloc _).alloc _).alloc _).alloc _, (((B2.alloc _).alloc _).alloc _).alloc _, ((B3.alloc _).alloc _).alloc _, (B4.alloc _).alloc _, B5.alloc _, B6, h.belowS (((((((Below.refl _ _).alloc (Nat.le_refl _) _).alloc (by simp) _).alloc (by simp; omega) _).alloc (by simp; omega) _).alloc (by simp; omega) _).alloc (by simp; omega) _), ((((((Ch.refl _ _).alloc _).alloc _).alloc _).alloc _).alloc _).alloc _, h.ltg, h.ltb, h.ltk⟩
end
theorem pknows_c (op : Int) (w : World) : Calls Tryz.prog 65 #[.int .i64 op] w fun e w' => e = .returned (.bool (kn op)) ∧ Below w.heap.size w w' := (knows_c op w).mono fun e w' ⟨h, n, hw⟩ => ⟨h, below_of_drew hw⟩
section
variable {P : Program} {ops : Array Oper} {rest : List Oper} {o : Oper} {act : Act} {Q : Exit → Act → World → Prop} {v : Value} {X : Prop}
/-- the operations of a region in their order: a value; a row read; a row, a number written -/
theorem lsv (h : X) (hg : Region.wanted o (yielded ops act.tmps) = true := by rfl) (hr : (execOp act.eval o).run P w = .ok (.value v) w' := by (go_simp; (try first | rfl | exact ⟨rfl, rfl⟩)))
    (hP : wpList P ops Q rest (act.put o.dst v) w' = X := by (simp only [Act.put, List.setIfInBounds_toArray, List.set_cons_zero, List.set_cons_succ]; try rfl)) : wpList P ops Q (o :: rest) act w := by
  refine wpList_step fun K hK => ?_
  rw [hg, if_pos rfl]
  unfold Oper.wp
  rw [hr]
  exact hK _ _ (hP ▸ h)
theorem lsk (hr : (execOp act.eval o).run P w = .ok .skip w') (h : X) (hg : Region.wanted o (yielded ops act.tmps) = true := by rfl)
    (hP : wpList P ops Q rest (act.put o.dst undef) w' = X := by (simp only [Act.put, List.setIfInBounds_toArray, List.set_cons_zero, List.set_cons_succ]; try rfl)) : wpList P ops Q (o :: rest) act w := by
  refine wpList_step fun K hK => ?_
  rw [hg, if_pos rfl]
  unfold Oper.wp
  rw [hr]
  exact hK _ _ (hP ▸ h)
theorem lsl {k : Nat} {T : TypeId} {x : Operand} {cs : List Value} (hB : Bk w k T cs) (h : X) (hg : Region.wanted o (yielded ops act.tmps) = true := by rfl) (ho : o.op = .load T x := by rfl) (hx : act.eval x = .pointer (some ⟨k, 0, none⟩) := by rfl) (hd : isRw T := by unfold isRw; kernel_rfl) (hi : (Tryz.prog.info? T).map (·.size) = some cs.length := by kernel_rfl)
    (hP : wpList Tryz.prog ops Q rest (act.put o.dst (.agg cs.toArray)) w = X := by (simp only [Act.put, List.setIfInBounds_toArray, List.set_cons_zero, List.set_cons_succ]; try rfl)) : wpList Tryz.prog ops Q (o :: rest) act w :=
  lsv h hg (by unfold execOp; simp only [ho, hx, Sem.run_bind, ld_row hB hd hi, Result.andThen_ok, Sem.run_pure]) hP
theorem lss {k : Nat} {T : TypeId} {x y : Operand} {cs cs' : List Value} (hB : Bk w k T cs) (hl : cs.length = cs'.length) (h1 : cs'.toArray.all (·.oneCell') = true) (hi : (Tryz.prog.info? T).map (·.size) = some cs'.length) (h : X) (hg : Region.wanted o (yielded ops act.tmps) = true := by rfl) (ho : o.op = .store T x y := by rfl) (hx : act.eval x = .pointer (some ⟨k, 0, none⟩) := by rfl) (hy : act.eval y = .agg cs'.toArray := by rfl)
    (hP : wpList Tryz.prog ops Q rest (act.put o.dst undef) (w.setRow k cs'.toArray) = X := by (simp only [Act.put, List.setIfInBounds_toArray, List.set_cons_zero, List.set_cons_succ]; try rfl)) : wpList Tryz.prog ops Q (o :: rest) act w :=
  lsk (by unfold execOp; simp only [ho, hx, hy, Sem.run_bind, st_row hB hl h1 hi, Result.andThen_ok, Sem.run_pure]) h hg hP
end
theorem leaves_congr {P : Program} {fn : Func} {t t' : Array Value} {R : Ending → World → Prop} (h : ∀ w, (results fn t).run P w = (results fn t').run P w) (ds : List Deferred) : ∀ (u : FrameMode) (w : World), Leaves P fn t R ds u w → Leaves P fn t' R ds u w := by
  induction ds with
  | nil =>
    intro u w hl
    cases u with
    | returning => obtain ⟨v, h1, h2⟩ := hl; exact ⟨v, (h w).symm.trans h1, h2⟩
    | panicking c => exact hl
    | run => exact hl
  | cons d ds ih =>
    intro u w hl
    obtain ⟨hu, fv, cap, f, args, h1, h2, h3⟩ := hl
    refine ⟨hu, fv, cap, f, args, h1, h2, h3.mono fun e u' w' hh => ?_⟩
    cases e with
    | returned v => exact ih _ _ hh
    | panicked c => exact ih _ _ hh
    | outgrown => exact hh
theorem exq {R : Ending → World → Prop} {c : List PanicEntry} {a : Act} {d : Nat} {v : Value} (h : bodyPostD Tryz.prog Tryz.f51 R (.panic c) (a.put (some d) v) w) (hd : (d != 8 && d != 9 && d != 10) = true := by rfl) : bodyPostD Tryz.prog Tryz.f51 R (.panic c) a w := by
  refine leaves_congr (fun w => ?_) _ _ _ h
  simp only [Bool.and_eq_true, bne_iff_ne, ne_eq] at hd
  simp [results, Act.put, Tryz.results51, Array.getElem?_setIfInBounds, hd]
set_option maxRecDepth 1000000 in
set_option maxHeartbeats 8000000 in
theorem pcatch_c {z a b : List Value} {v : Int} (c : Int) (older : List PanicEntry) (X : XG w0 w F bs ks z (os.map (Value.int .u32)) p.v a b v) (hl : os.length = 16) (ha : a.length = 16) (hb : b.length = 10) : CallsD Tryz.prog 66 #[.pointer (some ⟨w0.heap.size + 1, 0, none⟩), .pointer (some ⟨w0.heap.size + 1 + 1, 0, none⟩), .pointer (some ⟨w0.heap.size + 1 + 1 + 1, 0, none⟩), .pointer (some ⟨w0.heap.size + 1 + 1 + 1 + 1, 0, none⟩), .pointer (some ⟨w0.heap.size + 1 + 1 + 1 + 1 + 1, 0, none⟩)] (.panicking ({ v := .iface 124 (.int .i64 c), recovered := false } :: older)) w fun e u' w' => e = .returned (.tuple #[]) ∧ u' = .panicking ({ v := .iface 124 (.int .i64 c), recovered := true } :: older) ∧ XG w0 w' F bs ks z (os.map (Value.int .u32)) p.v (os.map (Value.int .u32)) p.v c := by
  have X1 := Lib.hid X
  have HL := Lib.hid hl
  have HA := Lib.hid ha
  have HB := Lib.hid hb
  clear X hl ha hb
  refine callsD_of_wpS Tryz.func66 rfl fun c₀ cs hu => ?_
  simp only [Tryz.ntmps66, List.size_toArray, List.length_cons, List.length_nil, Nat.reduceAdd, Nat.reduceSub, Array.replicate_succ, Array.replicate_zero, List.push_toArray, List.append_toArray, List.nil_append, List.cons_append]
  apply wpS_seq
  apply wpS_region
  show wpOpsS _ _ _ [0, 1, 2, 3, 4, 5, 6] _ _ _
  refine opsS_rec (v := .iface 124 (.int .i64 c)) (cs' := { c₀ with mode := .panicking ({ v := .iface 124 (.int .i64 c), recovered := true } :: older) } :: cs) (w' := w) rfl (by kernel_rfl) (by kernel_rfl) (by simp [recoverD, hu]) ?_
  refine opsS_value (v := .tuple #[.int .i64 c, .bool true]) (w' := w) rfl (by kernel_rfl) (by kernel_rfl) ?_
  refine opsS_value (v := .tuple #[.int .i64 c, .bool true]) (w' := w) rfl (by kernel_rfl) (by kernel_rfl) ?_
  refine opsS_value (v := .int .i64 c) (w' := w) rfl (by kernel_rfl) (by kernel_rfl) ?_
  refine opsS_value (v := .bool true) (w' := w) rfl (by kernel_rfl) (by kernel_rfl) ?_
  refine opsS_value (v := .int .i64 c) (w' := w) rfl (by kernel_rfl) (by kernel_rfl) ?_
  refine opsS_value (v := .bool true) (w' := w) rfl (by kernel_rfl) (by kernel_rfl) ?_
  simp only [Act.put, List.setIfInBounds_toArray, List.set_cons_zero, List.set_cons_succ]
  unfold wpOpsS
  simp only [Exit.thenS]
  refine wpS_of_wp ?_
  go_upto_region 2 with fail
  refine wp_region_list ?_
  simp only [List.append_eq, List.cons_append, List.nil_append]
  refine lsl X1.out.r ?_ (hi := by rw [List.length_map, HL.out]; kernel_rfl)
  refine lsl X1.out.p ?_
  refine lsv (v := .int .i64 c) (w' := w) ?_
  refine lss (cs' := os.map (Value.int .u32)) X1.out.a (by rw [List.length_map, HL.out, HA.out]) (one_u32 os) (by rw [List.length_map, HL.out]; kernel_rfl) ?_
  replace X1 := Lib.hid (X1.out.seta (os.map (Value.int .u32)))
  refine lss (cs' := p.v) X1.out.b (by rw [HB.out]; rfl) (one_ps p) (by kernel_rfl) ?_
  replace X1 := Lib.hid (X1.out.setb p.v)
  refine lsk (w' := ((w.setRow (w0.heap.size + 1 + 1 + 1) (os.map (Value.int .u32)).toArray).setRow (w0.heap.size + 1 + 1 + 1 + 1) p.v.toArray).setCell ⟨w0.heap.size + 1 + 1 + 1 + 1 + 1, 0, none⟩ (.int .i64 c)) (by have c5 := X1.out.c.cell (c := 0) rfl; have f5 := X1.out.c.free 0; go_simp) ?_
  replace X1 := Lib.hid (X1.out.setc c)
  refine wpList_nil ?_
  go_wp2
  exact ⟨rfl, .panicking ({ v := .iface 124 (.int .i64 c), recovered := true } :: older), by cases c₀; simp_all, .tuple #[], by simp [results, Tryz.results66], rfl, rfl, X1.out⟩
end
end Go.Proofs.YtljajnaclpbecaaGreatDoor

namespace Go.Proofs.YtljajnaclpbecaaGreatDoor
open Go.RowKit Go.MapKept
set_option maxRecDepth 100000
set_option linter.unusedVariables false
set_option linter.unusedSimpArgs false
section
variable {w0 w w' : World} {es : Array MapEntry} {n : Nat}
/-- a map that the call has made -/
structure MW (w0 w : World) (es : Array MapEntry) (n : Nat) : Prop where
  m : w.heap[w0.heap.size]? = some (.map es n)
  b : Below w0.heap.size w0 w
theorem MW.set_ (h : MW w0 w es n) (es' : Array MapEntry) (n' : Nat) : MW w0 { w with heap := w.heap.setIfInBounds w0.heap.size (.map es' n') } es' n' := by
  have hlt : w0.heap.size < w.heap.size := (Array.getElem?_eq_some_iff.1 h.m).1
  refine ⟨by simp [hlt], h.b.os, h.b.tape, h.b.output, by simpa using h.b.size, fun i hi => ?_⟩
  rw [← h.b.block i hi]
  exact Array.getElem?_setIfInBounds_ne (by omega)
theorem run_mup {b n : Nat} {T kt et : TypeId} {k : Int} {v : Value} (hT : Tryz.prog.underlying T = some (.map kt et)) (hk : Tryz.prog.underlying kt = some (.int .i64)) (hb : w.heap[b]? = some (.map es n)) (hf : Instr.findNow (.int .i64) (.int .i64 k) es.toList 0 = some none) : (Instr.mapUpdate T (.map (some b)) (.int .i64 k) v).run Tryz.prog w = .ok () { w with heap := w.heap.setIfInBounds b (.map (es.push { key := .int .i64 k, val := v, born := n }) (n + 1)) } := by
  simp only [Instr.mapUpdate, Sem.run_bind, run_underlying hT, Result.andThen_ok, MapKept.run_getObj_map hb, run_checkKey (k := .int .i64 k) hk (by simp [IsKey]) false 9999, run_findKey hk hf, run_setObj_map _ hb]
theorem run_look {b n : Nat} {T kt et : TypeId} {k : Int} {z : Value} (hT : Tryz.prog.underlying T = some (.map kt et)) (hk : Tryz.prog.underlying kt = some (.int .i64)) (hb : w.heap[b]? = some (.map es n)) (hf : Instr.findNow (.int .i64) (.int .i64 k) es.toList 0 = some none) (hz : (zeroValue et).run Tryz.prog w = .ok z w) : (Instr.lookup T (.map (some b)) (.int .i64 k) true).run Tryz.prog w = .ok (.tuple #[z, .bool false]) w := by
  simp [Instr.lookup, Sem.run_bind, run_underlying hT, Result.andThen_ok, MapKept.run_getObj_map hb, run_checkKey (k := .int .i64 k) hk (by simp [IsKey]) es.isEmpty 9999, run_findKey hk hf, hz]
def isMapI : TypeDesc → Bool
  | .map k _ => k == 3
  | _ => false
def mapI (T : TypeId) : Prop := (Tryz.prog.underlying T).map isMapI = some true
theorem mapI_of {T : TypeId} (h : mapI T) : ∃ et, Tryz.prog.underlying T = some (.map 3 et) := by
  unfold mapI at h
  cases hu : Tryz.prog.underlying T with
  | none => rw [hu] at h; cases h
  | some d =>
    rw [hu] at h
    injection h with h
    unfold isMapI at h
    split at h
    · simp only [beq_iff_eq] at h
      exact ⟨_, by rw [h]⟩
    · cases h
section
variable {ops : Array Oper} {rest : List Oper} {o : Oper} {act : Act} {Q : Exit → Act → World → Prop} {X : World → Prop}
theorem lsu {T : TypeId} {x : Operand} {kx vx : Operand} {k : Int} {v : Value} (h : Hid (MW w0 w es n)) (hX : ∀ w', Hid (MW w0 w' (es.push { key := .int .i64 k, val := v, born := n }) (n + 1)) → X w') (ho : o.op = .insert T x kx vx := by rfl) (hx : act.eval x = .map (some w0.heap.size) := by rfl) (hkx : act.eval kx = .int .i64 k := by rfl) (hvx : act.eval vx = v := by rfl) (hT : mapI T := by unfold mapI; kernel_rfl) (hf : Instr.findNow (.int .i64) (.int .i64 k) es.toList 0 = some none := by kernel_rfl) (hg : Region.wanted o (yielded ops act.tmps) = true := by rfl)
    (hP : ∀ w', wpList Tryz.prog ops Q rest (act.put o.dst undef) w' = X w' := by (intro w'; simp only [Act.put, List.setIfInBounds_toArray, List.set_cons_zero, List.set_cons_succ]; try rfl)) : wpList Tryz.prog ops Q (o :: rest) act w := by
  obtain ⟨et, hT⟩ := mapI_of hT
  exact lsk (by unfold execOp; simp only [ho, hx, hkx, hvx, Sem.run_bind, run_mup hT Tryz.underlying3 h.out.m hf, Result.andThen_ok, Sem.run_pure]) (hX _ (Lib.hid (h.out.set_ _ _))) hg (hP _)
end
end
/-- the table of own -/
def ownE : Array MapEntry := #[{ key := .int .i64 10, val := .func (.func 59) #[] #[], born := 0 }, { key := .int .i64 68, val := .func (.func 60) #[] #[], born := 1 }, { key := .int .i64 128, val := .func (.func 61) #[] #[], born := 2 }, { key := .int .i64 130, val := .func (.func 62) #[] #[], born := 3 }, { key := .int .i64 8, val := .func (.func 63) #[] #[], born := 4 }, { key := .int .i64 9, val := .func (.func 63) #[] #[], born := 5 }, { key := .int .i64 156, val := .func (.func 64) #[] #[], born := 6 }, { key := .int .i64 157, val := .func (.func 64) #[] #[], born := 7 }, { key := .int .i64 158, val := .func (.func 64) #[] #[], born := 8 }, { key := .int .i64 159, val := .func (.func 64) #[] #[], born := 9 }]
set_option maxRecDepth 1000000 in
set_option maxHeartbeats 8000000 in
theorem own_c (w : World) : Calls Tryz.prog 50 #[] w fun e w' => e = .returned (.map (some w.heap.size)) ∧ MW w w' ownE 10 := by
  have hmm := @run_makeMap Tryz.prog
  go_enter Tryz.func50, Tryz.ntmps50
  go_upto_region 1 with fail
  refine wp_region_list ?_
  simp only [List.append_eq, List.cons_append, List.nil_append]
  refine lsv (v := .map (some w.heap.size)) (w' := w.alloc (.map #[] 0)) ?_ (hr := by kernel_rfl)
  have R : Hid (MW w (w.alloc (.map #[] 0)) #[] 0) := Lib.hid ⟨heap_alloc_new w _, (Below.refl _ _).alloc (Nat.le_refl _) _⟩
  refine lsu R ?_
  clear R
  intro w1 R
  refine lsu R ?_
  clear R
  intro w1 R
  refine lsu R ?_
  clear R
  intro w1 R
  refine lsu R ?_
  clear R
  intro w1 R
  refine lsu R ?_
  clear R
  intro w1 R
  refine lsu R ?_
  clear R
  intro w1 R
  refine lsu R ?_
  clear R
  intro w1 R
  refine lsu R ?_
  clear R
  intro w1 R
  refine lsu R ?_
  clear R
  intro w1 R
  refine lsu R ?_
  clear R
  intro w1 R
  refine lsv ?_
  refine lsv ?_
  refine wpList_nil ?_
  go_wp2
  go_ret
  exact ⟨rfl, R.out⟩
set_option maxRecDepth 1000000 in
set_option maxHeartbeats 8000000 in
theorem index_c (f : Value) (w : World) : Calls Tryz.prog 35 #[.slice none 0 0, f] w fun e w' => e = .returned (.int .i64 (-1)) ∧ w = w' := by
  go_enter Tryz.func35, Tryz.ntmps35
  go_wp2
  go_loop [8] (fun x => x = .int .i64 0) (fun x => 0)
  case atStart => rfl
  case round =>
    subst hrel
    go_wp2
    go_ret
    exact ⟨rfl, rfl⟩
end Go.Proofs.YtljajnaclpbecaaGreatDoor

