/- Contracts and laws on the way to the statement, text 16 of 24. Conditions: as each states them. -/
import Derived.Test.YthjdjbipfdigeaaGreatRu4
import Derived.Test.YthjdjbipfdigeaaGreatRu8
import Derived.Test.YthjdjbipfdigeaaGreatRu9
import Derived.Test.YthjdjbipfdigeaaGreatRu10
import Derived.Test.YthjdjbipfdigeaaGreatRu11
import Derived.Test.YthjdjbipfdigeaaGreatRu12
import Derived.Test.YthjdjbipfdigeaaGreatRu15
namespace Go.Proofs.YthjdjbipfdigeaaGreat
open Go.RowKit
set_option maxRecDepth 100000
set_option linter.unusedVariables false
set_option linter.unusedSimpArgs false
section
variable {w0 w : World} {g : Nat} {G : Foot} {I : In} {os rs : List Int} {p q : Ps} {c : Int} {bs ks : List Int}
/-- what Exec of the reference makes at its head: the arguments and results as blocks -/
structure XE (w0 w : World) (G : Foot) (bs ks : List Int) (z r p a b : List Value) : Prop where
  z : Bk w w0.heap.size 23 z
  r : Bk w (w0.heap.size + 1) 26 r
  p : Bk w (w0.heap.size + 1 + 1) 28 p
  a : Bk w (w0.heap.size + 1 + 1 + 1) 26 a
  b : Bk w (w0.heap.size + 1 + 1 + 1 + 1) 28 b
  st : St 70 w G bs ks
  ch : Ch w0 w []
  gs : G.g < w0.heap.size ∧ G.gb < w0.heap.size ∧ G.gk < w0.heap.size
section
variable {z r zp a b : List Value} {w' : World}
theorem XE.keep (h : XE w0 w G bs ks z r zp a b) (hb : Below w.heap.size w w') : XE w0 w' G bs ks z r zp a b := ⟨h.z.keep hb, h.r.keep hb, h.p.keep hb, h.a.keep hb, h.b.keep hb, h.st.belowS hb, h.ch.trans (Ch.of_below hb _), h.gs⟩
theorem XE.drew (h : XE w0 w G bs ks z r zp a b) : XE w0 w.drew G bs ks z r zp a b := h.keep (dBelow' (Below.refl _ _) 1)
theorem XE.seta (h : XE w0 w G bs ks z r zp a b) (a' : List Value) : XE w0 (w.setRow (w0.heap.size + 1 + 1 + 1) a'.toArray) G bs ks z r zp a' b :=
  ⟨h.z.rowOth (by omega) _, h.r.rowOth (by omega) _, h.p.rowOth (by omega) _, h.a.rowSet _, h.b.rowOth (by omega) _, h.st.rowOth (by have := h.gs; omega) (by have := h.gs; omega) (by have := h.gs; omega) _, h.ch.row (.inr (by omega)) _, h.gs⟩
theorem XE.setb (h : XE w0 w G bs ks z r zp a b) (b' : List Value) : XE w0 (w.setRow (w0.heap.size + 1 + 1 + 1 + 1) b'.toArray) G bs ks z r zp a b' :=
  ⟨h.z.rowOth (by omega) _, h.r.rowOth (by omega) _, h.p.rowOth (by omega) _, h.a.rowOth (by omega) _, h.b.rowSet _, h.st.rowOth (by have := h.gs; omega) (by have := h.gs; omega) (by have := h.gs; omega) _, h.ch.row (.inr (by omega)) _, h.gs⟩
theorem XE.call {P : Program} {f : FuncId} {args : Array Value} {v : Value} (h : XE w0 w G bs ks z r zp a b) (hc : Calls P f args w fun e w' => e = .returned v ∧ Below w.heap.size w w') : Calls P f args w fun e w' => e = .returned v ∧ XE w0 w' G bs ks z r zp a b := hc.mono fun _ _ hh => ⟨hh.1, h.keep hh.2⟩
theorem XE.opn {X : Prop} {z0 z1 z2 z3 z4 z5 z6 z7 z8 z9 za zb : Value} (h : XE w0 w G bs ks [z0, z1, z2, z3, z4, z5, z6, z7, z8, z9, za, zb] r p.v a b) (hX : Hid (XE w0 w G bs ks [z0, z1, z2, z3, z4, z5, z6, z7, z8, z9, za, zb] r p.v a b) → Bk w w0.heap.size 23 [z0, z1, z2, z3, z4, z5, z6, z7, z8, z9, za, zb] → Bk w (w0.heap.size + 1 + 1) 28 [.int .i64 p.m, .int .i64 p.key, .bool p.M, .bool p.W, .bool p.P, .int .i64 p.cd, .int .i64 p.il, .int .i64 p.cc, .int .i64 p.pg, .int .i64 p.ad] → X) : X := hX (Lib.hid h) h.z h.p
end
theorem res_cells2 {P : Program} {fn : Func} {p q r : Tmp} {tp tq : TypeId} (h : fn.results = #[.cell p tp, .cell q tq, .tmp r]) (tmps : Array Value) (w : World) (g g' : Nat) (cs cs' : List Value) {T T' : TypeId} {d d' : TypeDesc}
    (hp : tmps.getD p undef = .pointer (some ⟨g, 0, none⟩)) (hq : tmps.getD q undef = .pointer (some ⟨g', 0, none⟩)) (hg : Bk w g T cs) (hg' : Bk w g' T' cs')
    (hu : P.underlying tp = some d) (hd : (match d with | .struct _ | .array _ _ => true | _ => false) = true) (hi : (P.info? tp).map (·.size) = some cs.length)
    (hu' : P.underlying tq = some d') (hd' : (match d' with | .struct _ | .array _ _ => true | _ => false) = true) (hi' : (P.info? tq).map (·.size) = some cs'.length) :
    (results fn tmps).run P w = .ok (.tuple #[.agg cs.toArray, .agg cs'.toArray, tmps.getD r undef]) w := by
  have hp' : tmps[p]?.getD undef = .pointer (some ⟨g, 0, none⟩) := by simpa using hp
  have hq' : tmps[q]?.getD undef = .pointer (some ⟨g', 0, none⟩) := by simpa using hq
  simp [results, h, hp', hq', asAddr, run_loadVar_row w g T tp cs.toArray (0, 0) d hg hu hd (by simpa using hi), run_loadVar_row w g' T' tq cs'.toArray (0, 0) d' hg' hu' hd' (by simpa using hi')]
theorem one_ps (p : Ps) : p.v.toArray.all (·.oneCell') = true := by simp [Ps.v, Value.oneCell']
theorem one_u32 (os : List Int) : (os.map (Value.int .u32)).toArray.all (·.oneCell') = true := by simp [Value.oneCell']
theorem XE.start (h : St 70 w G bs ks) (z r zp a b : List Value) : XE w (((((w.alloc (.cells z.toArray 23)).alloc (.cells r.toArray 26)).alloc (.cells zp.toArray 28)).alloc (.cells a.toArray 26)).alloc (.cells b.toArray 28)) G bs ks z r zp a b := by
  have e : ∀ (w : World) (o : Obj), (w.alloc o).heap.size = w.heap.size + 1 := fun w o => by simp
  have B2 := Bk.new (w.alloc (.cells z.toArray 23)) r 26
  have B3 := Bk.new ((w.alloc (.cells z.toArray 23)).alloc (.cells r.toArray 26)) zp 28
  have B4 := Bk.new (((w.alloc (.cells z.toArray 23)).alloc (.cells r.toArray 26)).alloc (.cells zp.toArray 28)) a 26
  have B5 := Bk.new ((((w.alloc (.cells z.toArray 23)).alloc (.cells r.toArray 26)).alloc (.cells zp.toArray 28)).alloc (.cells a.toArray 26)) b 28
  simp only [e] at B2 B3 B4 B5
  exact ⟨((((Bk.new w z _).alloc _).alloc _).alloc _).alloc _, ((B2.alloc _).alloc _).alloc _, (B3.alloc _).alloc _, B4.alloc _, B5, h.belowS ((((((Below.refl _ _).alloc (Nat.le_refl _) _).alloc (by simp) _).alloc (by simp; omega) _).alloc (by simp; omega) _).alloc (by simp; omega) _), (((((Ch.refl _ _).alloc _).alloc _).alloc _).alloc _).alloc _, h.ltg, h.ltb, h.ltk⟩
set_option maxRecDepth 1000000 in
set_option maxHeartbeats 8000000 in
theorem rexec_no (op fm r1 r2 x2 b1 d1 b2 d2 l1 l2 i2 : Int) (p : Ps) (hl : os.length = 16) (h : St 70 w G bs ks) (hck : ∀ W, Calls Tryz.prog 22 #[.agg #[.int .i64 op, .int .i64 fm, .int .i64 r1, .int .i64 r2, .int .i64 x2, .int .i64 b1, .int .i64 d1, .int .i64 b2, .int .i64 d2, .int .i64 l1, .int .i64 l2, .int .i64 i2]] W fun e w' => e = .returned (.int .i64 (chk op fm [op, fm, r1, r2, x2, b1, d1, b2, d2, l1, l2, i2])) ∧ Below W.heap.size W w') (hO : ¬ (kn op = true ∧ chk op fm [op, fm, r1, r2, x2, b1, d1, b2, d2, l1, l2, i2] = 0 ∧ pok p.m p.key p.cd p.il p.cc p.pg p.ad = true)) : Calls Tryz.prog 8 #[.agg #[.int .i64 op, .int .i64 fm, .int .i64 r1, .int .i64 r2, .int .i64 x2, .int .i64 b1, .int .i64 d1, .int .i64 b2, .int .i64 d2, .int .i64 l1, .int .i64 l2, .int .i64 i2], agR os, .agg p.v.toArray, .pointer (some ⟨G.g, 0, none⟩)] w fun e w' => e = .returned (.tuple #[agR os, .agg p.v.toArray, .int .i64 1]) ∧ St 70 w' G bs ks ∧ Ch w w' [] := by
  have hsz : (os.map (Value.int .u32)).toArray.size = 16 := by simpa using hl
  have hsp : p.v.toArray.size = 10 := rfl
  obtain ⟨C, hC⟩ : ∃ C, chk op fm [op, fm, r1, r2, x2, b1, d1, b2, d2, l1, l2, i2] = C := ⟨_, rfl⟩
  rw [hC] at hck hO
  have CK := Lib.hid hck
  have HL := Lib.hid hl
  have X0 : Hid (∀ z r zp a b, XE w (((((w.alloc (.cells z.toArray 23)).alloc (.cells r.toArray 26)).alloc (.cells zp.toArray 28)).alloc (.cells a.toArray 26)).alloc (.cells b.toArray 28)) G bs ks z r zp a b) := Lib.hid (XE.start h)
  unfold agR
  clear hck hC h
  rcases (show kn op = false ∨ (kn op = true ∧ C ≠ 0) ∨ (kn op = true ∧ C = 0 ∧ pok p.m p.key p.cd p.il p.cc p.pg p.ad = false) by
    cases h1 : kn op
    · exact .inl rfl
    · by_cases h2 : C = 0
      · cases h3 : pok p.m p.key p.cd p.il p.cc p.pg p.ad
        · exact .inr (.inr ⟨rfl, h2, rfl⟩)
        · exact absurd ⟨h1, h2, h3⟩ hO
      · exact .inr (.inl ⟨rfl, h2⟩)) with h1 | ⟨h1, h2⟩ | ⟨h1, h2, h3⟩
  rotate_right
  all_goals
    (try have e1 : (C != 0) = true := by simpa using h2)
    (try subst h2)
    clear hO
    go_enter Tryz.func8, Tryz.ntmps8
    go_upto_region 1 with fail
    have X1 := Lib.hid (X0.out [.int .i64 op, .int .i64 fm, .int .i64 r1, .int .i64 r2, .int .i64 x2, .int .i64 b1, .int .i64 d1, .int .i64 b2, .int .i64 d2, .int .i64 l1, .int .i64 l2, .int .i64 i2] (os.map (Value.int .u32)) p.v [.int .u32 0, .int .u32 0, .int .u32 0, .int .u32 0, .int .u32 0, .int .u32 0, .int .u32 0, .int .u32 0, .int .u32 0, .int .u32 0, .int .u32 0, .int .u32 0, .int .u32 0, .int .u32 0, .int .u32 0, .int .u32 0] [.int .i64 0, .int .i64 0, .bool false, .bool false, .bool false, .int .i64 0, .int .i64 0, .int .i64 0, .int .i64 0, .int .i64 0])
    refine X1.out.opn ?_
    intro _ B1 B2
    refine B1.opn12 ?_
    refine B2.opn10 ?_
    clear B1 B2
    intros
    clear hsz hsp
    go_upto_region 2 with (first
      | (go_at_call 21; refine nx (X1.out.call (h1 ▸ rknows_c op _)) ?_; intro w1 X1; refine X1.out.opn ?_; intro _ B1 B2; refine B1.opn12 ?_; refine B2.opn10 ?_; clear B1 B2; intros)
      | (go_at_call 22; refine nx (X1.out.call (CK.out _)) ?_; intro w1 X1; refine X1.out.opn ?_; intro _ B1 B2; refine B1.opn12 ?_; refine B2.opn10 ?_; clear B1 B2; intros)
      | (go_at_call 23; refine nx (X1.out.call (h3 ▸ rvalid_c _ _ _ _ _ _ _ _ _ _ _)) ?_; intro w1 X1; refine X1.out.opn ?_; intro _ B1 B2; refine B1.opn12 ?_; refine B2.opn10 ?_; clear B1 B2; intros))
    refine wp_region_held_drew (S := fun W => ∃ a b, XE w W G bs ks [.int .i64 op, .int .i64 fm, .int .i64 r1, .int .i64 r2, .int .i64 x2, .int .i64 b1, .int .i64 d1, .int .i64 b2, .int .i64 d2, .int .i64 l1, .int .i64 l2, .int .i64 i2] (os.map (Value.int .u32)) p.v a b) (by kernel_rfl) ⟨_, _, X1.out.drew⟩ (fun hHeld => ?_)
    replace X1 := Lib.hid X1.out.drew
    refine tkl 0 (fun w ⟨_, _, h⟩ => h.r.row) ?_ (hn := by rw [List.length_map, HL.out]; kernel_rfl)
    refine tkl 1 (fun w ⟨_, _, h⟩ => h.p.row) ?_
    refine tks_ X1.out.a (by rw [List.length_map, HL.out]; rfl) (one_u32 os) (by rw [List.length_map, HL.out]; kernel_rfl) (X1.out.seta _) (fun _ h => ⟨_, _, h⟩) ?_
    clear X1 hHeld
    intro w2 X1 hHeld
    refine tks_ (cs' := p.v) X1.out.b (by rfl) (one_ps p) (by kernel_rfl) (X1.out.setb _) (fun _ h => ⟨_, _, h⟩) ?_
    clear X1 hHeld
    intro w3 X1 hHeld
    repeat refine tkn ?_
    refine wpAnyH_done (by kernel_rfl) ?_ _
    clear hHeld
    go_wp2
    refine bodyPost_ret (res_cells2 rfl _ _ _ _ _ _ rfl rfl X1.out.a X1.out.b Tryz.underlying26 (by rfl) (by rw [List.length_map, HL.out]; kernel_rfl) Tryz.underlying28 (by rfl) (by kernel_rfl)) rfl ?_
    exact ⟨rfl, X1.out.st, X1.out.ch⟩
end
end Go.Proofs.YthjdjbipfdigeaaGreat

namespace Go.Proofs.YthjdjbipfdigeaaGreat
open Go.RowKit
set_option maxRecDepth 100000
set_option linter.unusedVariables false
set_option linter.unusedSimpArgs false
section
variable {w0 w w' : World} {g : Nat} {F : Foot} {I : In} {os rs : List Int} {p q : Ps} {ov : Bool} {bs ks : List Int}
structure XG (w0 w : World) (F : Foot) (bs ks : List Int) (z r p a b : List Value) (v : Int) : Prop where
  z : Bk w w0.heap.size 23 z
  r : Bk w (w0.heap.size + 1) 26 r
  p : Bk w (w0.heap.size + 1 + 1) 28 p
  a : Bk w (w0.heap.size + 1 + 1 + 1) 26 a
  b : Bk w (w0.heap.size + 1 + 1 + 1 + 1) 28 b
  c : Bk w (w0.heap.size + 1 + 1 + 1 + 1 + 1) 3 [.int .i64 v]
  st : St 77 w F bs ks
  ch : Ch w0 w [F.gb]
  gs : F.g < w0.heap.size ∧ F.gb < w0.heap.size ∧ F.gk < w0.heap.size
section
variable {z r zp a b : List Value} {v : Int}
theorem XG.keep (h : XG w0 w F bs ks z r zp a b v) (hb : Below w.heap.size w w') : XG w0 w' F bs ks z r zp a b v := ⟨h.z.keep hb, h.r.keep hb, h.p.keep hb, h.a.keep hb, h.b.keep hb, h.c.keep hb, h.st.belowS hb, h.ch.trans (Ch.of_below hb _), h.gs⟩
theorem XG.drew (h : XG w0 w F bs ks z r zp a b v) : XG w0 w.drew F bs ks z r zp a b v := h.keep (dBelow' (Below.refl _ _) 1)
theorem XG.seta (h : XG w0 w F bs ks z r zp a b v) (a' : List Value) : XG w0 (w.setRow (w0.heap.size + 1 + 1 + 1) a'.toArray) F bs ks z r zp a' b v :=
  have := h.gs
  ⟨h.z.rowOth (by omega) _, h.r.rowOth (by omega) _, h.p.rowOth (by omega) _, h.a.rowSet _, h.b.rowOth (by omega) _, h.c.rowOth (by omega) _, h.st.rowOth (by omega) (by omega) (by omega) _, h.ch.row (.inr (by omega)) _, h.gs⟩
theorem XG.setb (h : XG w0 w F bs ks z r zp a b v) (b' : List Value) : XG w0 (w.setRow (w0.heap.size + 1 + 1 + 1 + 1) b'.toArray) F bs ks z r zp a b' v :=
  have := h.gs
  ⟨h.z.rowOth (by omega) _, h.r.rowOth (by omega) _, h.p.rowOth (by omega) _, h.a.rowOth (by omega) _, h.b.rowSet _, h.c.rowOth (by omega) _, h.st.rowOth (by omega) (by omega) (by omega) _, h.ch.row (.inr (by omega)) _, h.gs⟩
theorem XG.setc (h : XG w0 w F bs ks z r zp a b v) (v' : Int) : XG w0 (w.setCell ⟨w0.heap.size + 1 + 1 + 1 + 1 + 1, 0, none⟩ (.int .i64 v')) F bs ks z r zp a b v' := by
  have := h.gs
  have e : ∀ k, k ≠ w0.heap.size + 1 + 1 + 1 + 1 + 1 → (w.setCell ⟨w0.heap.size + 1 + 1 + 1 + 1 + 1, 0, none⟩ (.int .i64 v')).heap[k]? = w.heap[k]? := fun k hk => Below.heap_setCell w ⟨w0.heap.size + 1 + 1 + 1 + 1 + 1, 0, none⟩ _ k hk
  exact ⟨h.z.kept (e _ (by omega)), h.r.kept (e _ (by omega)), h.p.kept (e _ (by omega)), h.a.kept (e _ (by omega)), h.b.kept (e _ (by omega)), h.c.set_ 0 _, h.st.keep (e _ (by omega)) (e _ (by omega)) (e _ (by omega)), h.ch.setNew (by show w0.heap.size ≤ w0.heap.size + 1 + 1 + 1 + 1 + 1; omega) _, h.gs⟩
theorem XG.call {P : Program} {f : FuncId} {args : Array Value} {y : Value} (h : XG w0 w F bs ks z r zp a b v) (hc : Calls P f args w fun e w' => e = .returned y ∧ Below w.heap.size w w') : Calls P f args w fun e w' => e = .returned y ∧ XG w0 w' F bs ks z r zp a b v := hc.mono fun _ _ hh => ⟨hh.1, h.keep hh.2⟩
theorem XG.ex {bs' : List Int} (h : XG w0 w F bs ks z r zp a b v) (hc : Ch w w' [g, F.gb]) (hs : St 77 w' F bs' ks) (hg : w0.heap.size + 1 + 1 + 1 + 1 + 1 < g) : XG w0 w' F bs' ks z r zp a b v := by
  have := h.gs
  exact ⟨h.z.ch hc (by simp; omega), h.r.ch hc (by simp; omega), h.p.ch hc (by simp; omega), h.a.ch hc (by simp; omega), h.b.ch hc (by simp; omega), h.c.ch hc (by simp; omega), hs, ⟨hc.os.trans h.ch.os, hc.tape.trans h.ch.tape, hc.output.trans h.ch.output, Nat.le_trans h.ch.size hc.size, fun i hi hL => (hc.block i (Nat.lt_of_lt_of_le hi h.ch.size) (by simp at hL ⊢; omega)).trans (h.ch.block i hi hL)⟩, h.gs⟩
theorem XG.opn {X : Prop} {z0 z1 z2 z3 z4 z5 z6 z7 z8 z9 za zb : Value} (h : XG w0 w F bs ks [z0, z1, z2, z3, z4, z5, z6, z7, z8, z9, za, zb] r p.v a b v) (hX : Hid (XG w0 w F bs ks [z0, z1, z2, z3, z4, z5, z6, z7, z8, z9, za, zb] r p.v a b v) → Bk w w0.heap.size 23 [z0, z1, z2, z3, z4, z5, z6, z7, z8, z9, za, zb] → Bk w (w0.heap.size + 1 + 1) 28 [.int .i64 p.m, .int .i64 p.key, .bool p.M, .bool p.W, .bool p.P, .int .i64 p.cd, .int .i64 p.il, .int .i64 p.cc, .int .i64 p.pg, .int .i64 p.ad] → X) : X := hX (Lib.hid h) h.z h.p
theorem XG.start (h : St 77 w F bs ks) (z r zp a b : List Value) (v : Int) : XG w ((((((w.alloc (.cells z.toArray 23)).alloc (.cells r.toArray 26)).alloc (.cells zp.toArray 28)).alloc (.cells a.toArray 26)).alloc (.cells b.toArray 28)).alloc (.cells #[.int .i64 v] 3)) F bs ks z r zp a b v := by
  have e : ∀ (w : World) (o : Obj), (w.alloc o).heap.size = w.heap.size + 1 := fun w o => by simp
  have B2 := Bk.new (w.alloc (.cells z.toArray 23)) r 26
  have B3 := Bk.new ((w.alloc (.cells z.toArray 23)).alloc (.cells r.toArray 26)) zp 28
  have B4 := Bk.new (((w.alloc (.cells z.toArray 23)).alloc (.cells r.toArray 26)).alloc (.cells zp.toArray 28)) a 26
  have B5 := Bk.new ((((w.alloc (.cells z.toArray 23)).alloc (.cells r.toArray 26)).alloc (.cells zp.toArray 28)).alloc (.cells a.toArray 26)) b 28
  have B6 := Bk.new (((((w.alloc (.cells z.toArray 23)).alloc (.cells r.toArray 26)).alloc (.cells zp.toArray 28)).alloc (.cells a.toArray 26)).alloc (.cells b.toArray 28)) [.int .i64 v] 3
  simp only [e] at B2 B3 B4 B5 B6
  exact ⟨(((((Bk.new w z _).alloc _).alloc _).alloc _).alloc _).alloc _, (((B2.alloc _).alloc _).alloc _).alloc _, ((B3.alloc _).alloc _).alloc _, (B4.alloc _).alloc _, B5.alloc _, B6, h.belowS (((((((Below.refl _ _).alloc (Nat.le_refl _) _).alloc (by simp) _).alloc (by simp; omega) _).alloc (by simp; omega) _).alloc (by simp; omega) _).alloc (by simp; omega) _), ((((((Ch.refl _ _).alloc _).alloc _).alloc _).alloc _).alloc _).alloc _, h.ltg, h.ltb, h.ltk⟩
end
theorem pknows_c (op : Int) (w : World) : Calls Tryz.prog 16 #[.int .i64 op] w fun e w' => e = .returned (.bool (kn op)) ∧ Below w.heap.size w w' := (knows_c op w).mono fun e w' ⟨h, n, hw⟩ => ⟨h, below_of_drew hw⟩
section
variable {P : Program} {ops : Array Oper} {rest : List Oper} {o : Oper} {act : Act} {Q : Exit → Act → World → Prop} {v : Value} {X : Prop}
/-- the operations of a region in their order: a value; a row read; a row, a number written -/
theorem lsv (h : X) (hg : Region.wanted o (yielded ops act.tmps) = true := by rfl) (hr : (execOp act.eval o).run P w = .ok (.value v) w' := by (go_simp; (try first | rfl | exact ⟨rfl, rfl⟩)))
    (hP : wpList P ops Q rest (act.put o.dst v) w' = X := by (simp only [Act.put, List.setIfInBounds_toArray, List.set_cons_zero, List.set_cons_succ]; try rfl)) : wpList P ops Q (o :: rest) act w := by
  refine wpList_step fun K hK => ?_
  rw [hg, if_pos rfl]
  unfold Oper.wp
  rw [hr]
  exact hK _ _ (hP ▸ h)
theorem lsk (hr : (execOp act.eval o).run P w = .ok .skip w') (h : X) (hg : Region.wanted o (yielded ops act.tmps) = true := by rfl)
    (hP : wpList P ops Q rest (act.put o.dst undef) w' = X := by (simp only [Act.put, List.setIfInBounds_toArray, List.set_cons_zero, List.set_cons_succ]; try rfl)) : wpList P ops Q (o :: rest) act w := by
  refine wpList_step fun K hK => ?_
  rw [hg, if_pos rfl]
  unfold Oper.wp
  rw [hr]
  exact hK _ _ (hP ▸ h)
theorem lsl {k : Nat} {T : TypeId} {x : Operand} {cs : List Value} (hB : Bk w k T cs) (h : X) (hg : Region.wanted o (yielded ops act.tmps) = true := by rfl) (ho : o.op = .load T x := by rfl) (hx : act.eval x = .pointer (some ⟨k, 0, none⟩) := by rfl) (hd : isRw T := by unfold isRw; kernel_rfl) (hi : (Tryz.prog.info? T).map (·.size) = some cs.length := by kernel_rfl)
    (hP : wpList Tryz.prog ops Q rest (act.put o.dst (.agg cs.toArray)) w = X := by (simp only [Act.put, List.setIfInBounds_toArray, List.set_cons_zero, List.set_cons_succ]; try rfl)) : wpList Tryz.prog ops Q (o :: rest) act w :=
  lsv h hg (by unfold execOp; simp only [ho, hx, Sem.run_bind, ld_row hB hd hi, Result.andThen_ok, Sem.run_pure]) hP
theorem lss {k : Nat} {T : TypeId} {x y : Operand} {cs cs' : List Value} (hB : Bk w k T cs) (hl : cs.length = cs'.length) (h1 : cs'.toArray.all (·.oneCell') = true) (hi : (Tryz.prog.info? T).map (·.size) = some cs'.length) (h : X) (hg : Region.wanted o (yielded ops act.tmps) = true := by rfl) (ho : o.op = .store T x y := by rfl) (hx : act.eval x = .pointer (some ⟨k, 0, none⟩) := by rfl) (hy : act.eval y = .agg cs'.toArray := by rfl)
    (hP : wpList Tryz.prog ops Q rest (act.put o.dst undef) (w.setRow k cs'.toArray) = X := by (simp only [Act.put, List.setIfInBounds_toArray, List.set_cons_zero, List.set_cons_succ]; try rfl)) : wpList Tryz.prog ops Q (o :: rest) act w :=
  lsk (by unfold execOp; simp only [ho, hx, hy, Sem.run_bind, st_row hB hl h1 hi, Result.andThen_ok, Sem.run_pure]) h hg hP
end
theorem leaves_congr {P : Program} {fn : Func} {t t' : Array Value} {R : Ending → World → Prop} (h : ∀ w, (results fn t).run P w = (results fn t').run P w) (ds : List Deferred) : ∀ (u : FrameMode) (w : World), Leaves P fn t R ds u w → Leaves P fn t' R ds u w := by
  induction ds with
  | nil =>
    intro u w hl
    cases u with
    | returning => obtain ⟨v, h1, h2⟩ := hl; exact ⟨v, (h w).symm.trans h1, h2⟩
    | panicking c => exact hl
    | run => exact hl
  | cons d ds ih =>
    intro u w hl
    obtain ⟨hu, fv, cap, f, args, h1, h2, h3⟩ := hl
    refine ⟨hu, fv, cap, f, args, h1, h2, h3.mono fun e u' w' hh => ?_⟩
    cases e with
    | returned v => exact ih _ _ hh
    | panicked c => exact ih _ _ hh
    | outgrown => exact hh
theorem exq {R : Ending → World → Prop} {c : List PanicEntry} {a : Act} {d : Nat} {v : Value} (h : bodyPostD Tryz.prog Tryz.f7 R (.panic c) (a.put (some d) v) w) (hd : (d != 8 && d != 9 && d != 10) = true := by rfl) : bodyPostD Tryz.prog Tryz.f7 R (.panic c) a w := by
  refine leaves_congr (fun w => ?_) _ _ _ h
  simp only [Bool.and_eq_true, bne_iff_ne, ne_eq] at hd
  simp [results, Act.put, Tryz.results7, Array.getElem?_setIfInBounds, hd]
set_option maxRecDepth 1000000 in
set_option maxHeartbeats 8000000 in
theorem pexec_no (op fm r1 r2 x2 b1 d1 b2 d2 l1 l2 i2 : Int) (p : Ps) (hl : os.length = 16) (h : St 77 w F bs ks) (hO : ¬ (kn op = true ∧ chk op fm [op, fm, r1, r2, x2, b1, d1, b2, d2, l1, l2, i2] = 0 ∧ pok p.m p.key p.cd p.il p.cc p.pg p.ad = true)) : Calls Tryz.prog 7 #[.agg #[.int .i64 op, .int .i64 fm, .int .i64 r1, .int .i64 r2, .int .i64 x2, .int .i64 b1, .int .i64 d1, .int .i64 b2, .int .i64 d2, .int .i64 l1, .int .i64 l2, .int .i64 i2], agR os, .agg p.v.toArray, .pointer (some ⟨F.g, 0, none⟩)] w fun e w' => e = .returned (.tuple #[agR os, .agg p.v.toArray, .int .i64 1]) ∧ St 77 w' F bs ks ∧ Ch w w' [F.gb] := by
  have hsz : (os.map (Value.int .u32)).toArray.size = 16 := by simpa using hl
  have hsp : p.v.toArray.size = 10 := rfl
  have CK := Lib.hid (fun W => icheck_c op fm r1 r2 x2 b1 d1 b2 d2 l1 l2 i2 W)
  obtain ⟨C, hC⟩ : ∃ C, chk op fm [op, fm, r1, r2, x2, b1, d1, b2, d2, l1, l2, i2] = C := ⟨_, rfl⟩
  rw [hC] at CK hO
  have HL := Lib.hid hl
  have X0 := Lib.hid (XG.start h)
  unfold agR
  clear hC h
  rcases (show kn op = false ∨ (kn op = true ∧ C ≠ 0) ∨ (kn op = true ∧ C = 0 ∧ pok p.m p.key p.cd p.il p.cc p.pg p.ad = false) by
    cases h1 : kn op
    · exact .inl rfl
    · by_cases h2 : C = 0
      · cases h3 : pok p.m p.key p.cd p.il p.cc p.pg p.ad
        · exact .inr (.inr ⟨rfl, h2, rfl⟩)
        · exact absurd ⟨h1, h2, h3⟩ hO
      · exact .inr (.inl ⟨rfl, h2⟩)) with h1 | ⟨h1, h2⟩ | ⟨h1, h2, h3⟩
  rotate_right
  all_goals
    (try have e1 : (C != 0) = true := by simpa using h2)
    (try subst h2)
    clear hO
    go_enter_defers Tryz.func7, Tryz.ntmps7
    go_upto_region 1 with fail
    have X1 := Lib.hid (X0.out [.int .i64 op, .int .i64 fm, .int .i64 r1, .int .i64 r2, .int .i64 x2, .int .i64 b1, .int .i64 d1, .int .i64 b2, .int .i64 d2, .int .i64 l1, .int .i64 l2, .int .i64 i2] (os.map (Value.int .u32)) p.v [.int .u32 0, .int .u32 0, .int .u32 0, .int .u32 0, .int .u32 0, .int .u32 0, .int .u32 0, .int .u32 0, .int .u32 0, .int .u32 0, .int .u32 0, .int .u32 0, .int .u32 0, .int .u32 0, .int .u32 0, .int .u32 0] [.int .i64 0, .int .i64 0, .bool false, .bool false, .bool false, .int .i64 0, .int .i64 0, .int .i64 0, .int .i64 0, .int .i64 0] 0)
    refine X1.out.opn ?_
    intro _ B1 B2
    refine B1.opn12 ?_
    refine B2.opn10 ?_
    clear B1 B2
    intros
    clear hsz hsp
    go_upto_region 2 with (first
      | (go_at_call 16; refine nx (X1.out.call (h1 ▸ pknows_c op _)) ?_; intro w1 X1; refine X1.out.opn ?_; intro _ B1 B2; refine B1.opn12 ?_; refine B2.opn10 ?_; clear B1 B2; intros)
      | (go_at_call 17; refine nx (X1.out.call (CK.out _)) ?_; intro w1 X1; refine X1.out.opn ?_; intro _ B1 B2; refine B1.opn12 ?_; refine B2.opn10 ?_; clear B1 B2; intros)
      | (go_at_call 18; refine nx (X1.out.call (h3 ▸ valid_c _ _ _ _ _ _ _ _ _ _ _)) ?_; intro w1 X1; refine X1.out.opn ?_; intro _ B1 B2; refine B1.opn12 ?_; refine B2.opn10 ?_; clear B1 B2; intros))
    refine wp_region_held_drew (S := fun W => ∃ a b v, XG w W F bs ks [.int .i64 op, .int .i64 fm, .int .i64 r1, .int .i64 r2, .int .i64 x2, .int .i64 b1, .int .i64 d1, .int .i64 b2, .int .i64 d2, .int .i64 l1, .int .i64 l2, .int .i64 i2] (os.map (Value.int .u32)) p.v a b v) (by kernel_rfl) ⟨_, _, _, X1.out.drew⟩ (fun hHeld => ?_)
    replace X1 := Lib.hid X1.out.drew
    refine tkl 0 (fun w ⟨_, _, _, h⟩ => h.r.row) ?_ (hn := by rw [List.length_map, HL.out]; kernel_rfl) (hQ := by exact fun _ _ _ h => exq h)
    refine tkl 1 (fun w ⟨_, _, _, h⟩ => h.p.row) ?_ (hQ := by exact fun _ _ _ h => exq h)
    refine tks_ X1.out.a (by rw [List.length_map, HL.out]; rfl) (one_u32 os) (by rw [List.length_map, HL.out]; kernel_rfl) (X1.out.seta _) (fun _ h => ⟨_, _, _, h⟩) ?_
    clear X1 hHeld
    intro w2 X1 hHeld
    refine tks_ (cs' := p.v) X1.out.b (by rfl) (one_ps p) (by kernel_rfl) (X1.out.setb _) (fun _ h => ⟨_, _, _, h⟩) ?_
    clear X1 hHeld
    intro w3 X1 hHeld
    refine tk_st (R := _) (st_int (X1.out.c.cell (c := 0) rfl) (X1.out.c.free 0)) (X1.out.setc 1) (fun _ h => ⟨_, _, _, h⟩) ?_ (by with_unfolding_all rfl) (by rfl) (by rfl) (by rfl) (by rfl) (by rfl) (fun w' => by simp only [Act.put, List.setIfInBounds_toArray, List.set_cons_zero, List.set_cons_succ]; try rfl)
    clear X1 hHeld
    intro w4 X1 hHeld
    refine wpAnyH_done (by kernel_rfl) ?_ _
    clear hHeld
    go_wp2
    exact ⟨_, res_cells3 Tryz.results7 _ _ _ _ _ _ _ _ rfl rfl rfl X1.out.a X1.out.b X1.out.c Tryz.underlying26 rfl (by rw [List.length_map, HL.out]; kernel_rfl) Tryz.underlying28 rfl (by kernel_rfl) (by have c5 := X1.out.c.cell (c := 0) rfl; go_simp), rfl, X1.out.st, X1.out.ch⟩
set_option maxRecDepth 1000000 in
set_option maxHeartbeats 8000000 in
theorem pcatch_c {z a b : List Value} {v : Int} (c : Int) (older : List PanicEntry) (X : XG w0 w F bs ks z (os.map (Value.int .u32)) p.v a b v) (hl : os.length = 16) (ha : a.length = 16) (hb : b.length = 10) : CallsD Tryz.prog 19 #[.pointer (some ⟨w0.heap.size + 1, 0, none⟩), .pointer (some ⟨w0.heap.size + 1 + 1, 0, none⟩), .pointer (some ⟨w0.heap.size + 1 + 1 + 1, 0, none⟩), .pointer (some ⟨w0.heap.size + 1 + 1 + 1 + 1, 0, none⟩), .pointer (some ⟨w0.heap.size + 1 + 1 + 1 + 1 + 1, 0, none⟩)] (.panicking ({ v := .iface 59 (.int .i64 c), recovered := false } :: older)) w fun e u' w' => e = .returned (.tuple #[]) ∧ u' = .panicking ({ v := .iface 59 (.int .i64 c), recovered := true } :: older) ∧ XG w0 w' F bs ks z (os.map (Value.int .u32)) p.v (os.map (Value.int .u32)) p.v c := by
  have X1 := Lib.hid X
  have HL := Lib.hid hl
  have HA := Lib.hid ha
  have HB := Lib.hid hb
  clear X hl ha hb
  refine callsD_of_wpS Tryz.func19 rfl fun c₀ cs hu => ?_
  simp only [Tryz.ntmps19, List.size_toArray, List.length_cons, List.length_nil, Nat.reduceAdd, Nat.reduceSub, Array.replicate_succ, Array.replicate_zero, List.push_toArray, List.append_toArray, List.nil_append, List.cons_append]
  apply wpS_seq
  apply wpS_region
  show wpOpsS _ _ _ [0, 1, 2, 3, 4, 5, 6] _ _ _
  refine opsS_rec (v := .iface 59 (.int .i64 c)) (cs' := { c₀ with mode := .panicking ({ v := .iface 59 (.int .i64 c), recovered := true } :: older) } :: cs) (w' := w) rfl (by kernel_rfl) (by kernel_rfl) (by simp [recoverD, hu]) ?_
  refine opsS_value (v := .tuple #[.int .i64 c, .bool true]) (w' := w) rfl (by kernel_rfl) (by kernel_rfl) ?_
  refine opsS_value (v := .tuple #[.int .i64 c, .bool true]) (w' := w) rfl (by kernel_rfl) (by kernel_rfl) ?_
  refine opsS_value (v := .int .i64 c) (w' := w) rfl (by kernel_rfl) (by kernel_rfl) ?_
  refine opsS_value (v := .bool true) (w' := w) rfl (by kernel_rfl) (by kernel_rfl) ?_
  refine opsS_value (v := .int .i64 c) (w' := w) rfl (by kernel_rfl) (by kernel_rfl) ?_
  refine opsS_value (v := .bool true) (w' := w) rfl (by kernel_rfl) (by kernel_rfl) ?_
  simp only [Act.put, List.setIfInBounds_toArray, List.set_cons_zero, List.set_cons_succ]
  unfold wpOpsS
  simp only [Exit.thenS]
  refine wpS_of_wp ?_
  go_upto_region 2 with fail
  refine wp_region_list ?_
  simp only [List.append_eq, List.cons_append, List.nil_append]
  refine lsl X1.out.r ?_ (hi := by rw [List.length_map, HL.out]; kernel_rfl)
  refine lsl X1.out.p ?_
  refine lsv (v := .int .i64 c) (w' := w) ?_
  refine lss (cs' := os.map (Value.int .u32)) X1.out.a (by rw [List.length_map, HL.out, HA.out]) (one_u32 os) (by rw [List.length_map, HL.out]; kernel_rfl) ?_
  replace X1 := Lib.hid (X1.out.seta (os.map (Value.int .u32)))
  refine lss (cs' := p.v) X1.out.b (by rw [HB.out]; rfl) (one_ps p) (by kernel_rfl) ?_
  replace X1 := Lib.hid (X1.out.setb p.v)
  refine lsk (w' := ((w.setRow (w0.heap.size + 1 + 1 + 1) (os.map (Value.int .u32)).toArray).setRow (w0.heap.size + 1 + 1 + 1 + 1) p.v.toArray).setCell ⟨w0.heap.size + 1 + 1 + 1 + 1 + 1, 0, none⟩ (.int .i64 c)) (by have c5 := X1.out.c.cell (c := 0) rfl; have f5 := X1.out.c.free 0; go_simp) ?_
  replace X1 := Lib.hid (X1.out.setc c)
  refine wpList_nil ?_
  go_wp2
  exact ⟨rfl, .panicking ({ v := .iface 59 (.int .i64 c), recovered := true } :: older), by cases c₀; simp_all, .tuple #[], by simp [results, Tryz.results19], rfl, rfl, X1.out⟩
end
end Go.Proofs.YthjdjbipfdigeaaGreat

namespace Go.Proofs.YthjdjbipfdigeaaGreat
open Go.RowKit
set_option maxRecDepth 100000
set_option linter.unusedVariables false
set_option linter.unusedSimpArgs false
section
variable {w0 w w' : World} {g : Nat} {F : Foot} {I : In} {os rs : List Int} {p q : Ps} {ov : Bool} {bs ks : List Int}
set_option maxRecDepth 1000000 in
set_option maxHeartbeats 8000000 in
theorem psh_136 (h : PS w0 w g F I os os p p false bs ks) (ho : I.op = 136) : Calls Tryz.prog 43 #[.pointer (some ⟨g, 0, none⟩)] w (Gp w0 g F I os p bs ks (shO ⟨os, p.key, p.il, p.cc, p.pg, p.ad, bs, ks⟩ I.op I.n (I.a os))) := by
  have hn := h.ix.n
  have u0 := getD_in h.ro I.n
  have A0 := I.a_in os
  have SC := Lib.hid (fun W (hW : PS w0 W g F I os os p p false bs ks) => psec_c hW)
  obtain ⟨A, hA⟩ : ∃ A, I.a os = A := ⟨_, rfl⟩
  rw [hA] at SC A0 ⊢
  clear hA
  obtain ⟨u, hu⟩ : ∃ u, os.getD I.n 0 = u := ⟨_, rfl⟩
  rw [hu] at u0
  have HU := Lib.hid hu
  clear hu
  rw [ho]
  have HO := Lib.hid ho
  have R0 := Lib.hid h
  clear ho h
  refine R0.out.opn ?_
  intros
  go_enter Tryz.func43, Tryz.ntmps43
  go_upto_region 0 with fail
  refine wp_region_held_drew (S := Sy w0 g F I os p) (by kernel_rfl) R0.out.drew.x (fun hHeld => ?_)
  replace R0 := Lib.hid R0.out.drew
  repeat refine tkp ?_
  refine tkc (SC.out _ R0.out) (fun _ h => h.x) ?_
  clear R0 hHeld
  intro w3 R1 hHeld
  repeat refine tkp ?_
  refine wpAnyH_done (by kernel_rfl) ?_ _
  refine R1.out.opn ?_
  clear hHeld
  intros
  go_upto_region 6 with fail
  refine wp_region_held_drew (S := Sy w0 g F I os p) (by kernel_rfl) R1.out.drew.x (fun hHeld => ?_)
  replace R1 := Lib.hid R1.out.drew
  repeat refine tkp ?_
  refine tkz (shiftl_c u A false u0.1 u0.2 (by omega) (by omega) _) ?_
  repeat refine tkp ?_
  refine tpr R1.out hn ?_
  clear R1 hHeld
  intro w2 R1 hHeld
  repeat refine tkp ?_
  refine wpAnyH_done (by with_unfolding_all rfl) ?_ _
  refine R1.out.opn ?_
  clear hHeld
  intros
  go_wp2
  first | go_end0 | refine bodyPost_ret (results_none rfl _ _ _) rfl ?_
  exact gp_ok R1.out (by unfold shO; rw [if_neg (fun h => absurd h.1 (by decide))]; dsimp only; rw [← HU.out]; rfl)
set_option maxRecDepth 1000000 in
set_option maxHeartbeats 8000000 in
theorem psh_137 (h : PS w0 w g F I os os p p false bs ks) (ho : I.op = 137) : Calls Tryz.prog 43 #[.pointer (some ⟨g, 0, none⟩)] w (Gp w0 g F I os p bs ks (shO ⟨os, p.key, p.il, p.cc, p.pg, p.ad, bs, ks⟩ I.op I.n (I.a os))) := by
  have hn := h.ix.n
  have u0 := getD_in h.ro I.n
  have A0 := I.a_in os
  have SC := Lib.hid (fun W (hW : PS w0 W g F I os os p p false bs ks) => psec_c hW)
  obtain ⟨A, hA⟩ : ∃ A, I.a os = A := ⟨_, rfl⟩
  rw [hA] at SC A0 ⊢
  clear hA
  obtain ⟨u, hu⟩ : ∃ u, os.getD I.n 0 = u := ⟨_, rfl⟩
  rw [hu] at u0
  have HU := Lib.hid hu
  clear hu
  rw [ho]
  have HO := Lib.hid ho
  have R0 := Lib.hid h
  clear ho h
  refine R0.out.opn ?_
  intros
  go_enter Tryz.func43, Tryz.ntmps43
  go_upto_region 0 with fail
  refine wp_region_held_drew (S := Sy w0 g F I os p) (by kernel_rfl) R0.out.drew.x (fun hHeld => ?_)
  replace R0 := Lib.hid R0.out.drew
  repeat refine tkp ?_
  refine tkc (SC.out _ R0.out) (fun _ h => h.x) ?_
  clear R0 hHeld
  intro w3 R1 hHeld
  repeat refine tkp ?_
  refine wpAnyH_done (by kernel_rfl) ?_ _
  refine R1.out.opn ?_
  clear hHeld
  intros
  go_upto_region 6 with fail
  refine wp_region_held_drew (S := Sy w0 g F I os p) (by kernel_rfl) R1.out.drew.x (fun hHeld => ?_)
  replace R1 := Lib.hid R1.out.drew
  repeat refine tkp ?_
  refine tkz (shiftl_c u A true u0.1 u0.2 (by omega) (by omega) _) ?_
  repeat refine tkp ?_
  refine tpr R1.out hn ?_
  clear R1 hHeld
  intro w2 R1 hHeld
  repeat refine tkp ?_
  refine wpAnyH_done (by with_unfolding_all rfl) ?_ _
  refine R1.out.opn ?_
  clear hHeld
  intros
  go_wp2
  first | go_end0 | refine bodyPost_ret (results_none rfl _ _ _) rfl ?_
  exact gp_ok R1.out (by unfold shO; rw [if_neg (fun h => absurd h.1 (by decide))]; dsimp only; rw [← HU.out]; rfl)
set_option maxRecDepth 1000000 in
set_option maxHeartbeats 8000000 in
theorem psh_138 (h : PS w0 w g F I os os p p false bs ks) (ho : I.op = 138) : Calls Tryz.prog 43 #[.pointer (some ⟨g, 0, none⟩)] w (Gp w0 g F I os p bs ks (shO ⟨os, p.key, p.il, p.cc, p.pg, p.ad, bs, ks⟩ I.op I.n (I.a os))) := by
  have hn := h.ix.n
  have u0 := getD_in h.ro I.n
  have A0 := I.a_in os
  have SC := Lib.hid (fun W (hW : PS w0 W g F I os os p p false bs ks) => psec_c hW)
  obtain ⟨A, hA⟩ : ∃ A, I.a os = A := ⟨_, rfl⟩
  rw [hA] at SC A0 ⊢
  clear hA
  obtain ⟨u, hu⟩ : ∃ u, os.getD I.n 0 = u := ⟨_, rfl⟩
  rw [hu] at u0
  have HU := Lib.hid hu
  clear hu
  rw [ho]
  have HO := Lib.hid ho
  have R0 := Lib.hid h
  clear ho h
  refine R0.out.opn ?_
  intros
  go_enter Tryz.func43, Tryz.ntmps43
  go_upto_region 0 with fail
  refine wp_region_held_drew (S := Sy w0 g F I os p) (by kernel_rfl) R0.out.drew.x (fun hHeld => ?_)
  replace R0 := Lib.hid R0.out.drew
  repeat refine tkp ?_
  refine tkc (SC.out _ R0.out) (fun _ h => h.x) ?_
  clear R0 hHeld
  intro w3 R1 hHeld
  repeat refine tkp ?_
  refine wpAnyH_done (by kernel_rfl) ?_ _
  refine R1.out.opn ?_
  clear hHeld
  intros
  go_upto_region 8 with fail
  refine wp_region_held_drew (S := Sy w0 g F I os p) (by kernel_rfl) R1.out.drew.x (fun hHeld => ?_)
  replace R1 := Lib.hid R1.out.drew
  repeat refine tkp ?_
  refine tkz (shiftr_c u A u0.1 u0.2 (by omega) (by omega) _) ?_
  repeat refine tkp ?_
  refine tpr R1.out hn ?_
  clear R1 hHeld
  intro w2 R1 hHeld
  repeat refine tkp ?_
  refine tpc R1.out ?_
  clear R1 hHeld
  intro w2 R1 hHeld
  repeat refine tkp ?_
  refine wpAnyH_done (by with_unfolding_all rfl) ?_ _
  refine R1.out.opn ?_
  clear hHeld
  intros
  go_wp2
  first | go_end0 | refine bodyPost_ret (results_none rfl _ _ _) rfl ?_
  exact gp_ok R1.out (by unfold shO; rw [if_neg (fun h => absurd h.1 (by decide))]; dsimp only; rw [← HU.out]; rfl)
set_option maxRecDepth 1000000 in
set_option maxHeartbeats 8000000 in
theorem psh_139 (h : PS w0 w g F I os os p p false bs ks) (ho : I.op = 139) : Calls Tryz.prog 43 #[.pointer (some ⟨g, 0, none⟩)] w (Gp w0 g F I os p bs ks (shO ⟨os, p.key, p.il, p.cc, p.pg, p.ad, bs, ks⟩ I.op I.n (I.a os))) := by
  have hn := h.ix.n
  have u0 := getD_in h.ro I.n
  have A0 := I.a_in os
  have SC := Lib.hid (fun W (hW : PS w0 W g F I os os p p false bs ks) => psec_c hW)
  obtain ⟨A, hA⟩ : ∃ A, I.a os = A := ⟨_, rfl⟩
  rw [hA] at SC A0 ⊢
  clear hA
  obtain ⟨u, hu⟩ : ∃ u, os.getD I.n 0 = u := ⟨_, rfl⟩
  rw [hu] at u0
  have HU := Lib.hid hu
  clear hu
  rw [ho]
  have HO := Lib.hid ho
  have R0 := Lib.hid h
  clear ho h
  refine R0.out.opn ?_
  intros
  go_enter Tryz.func43, Tryz.ntmps43
  go_upto_region 0 with fail
  refine wp_region_held_drew (S := Sy w0 g F I os p) (by kernel_rfl) R0.out.drew.x (fun hHeld => ?_)
  replace R0 := Lib.hid R0.out.drew
  repeat refine tkp ?_
  refine tkc (SC.out _ R0.out) (fun _ h => h.x) ?_
  clear R0 hHeld
  intro w3 R1 hHeld
  repeat refine tkp ?_
  refine wpAnyH_done (by kernel_rfl) ?_ _
  refine R1.out.opn ?_
  clear hHeld
  intros
  go_wp2_with (first
    | (go_at_call 99; refine nz (shiftla_c u A u0.1 u0.2 (by omega) (by omega) _) ?_)
    | (go_at_call 98; refine nx (pset_c R1.out _ _ _) ?_; intro w1 R1))
  first | go_end0 | refine bodyPost_ret (results_none rfl _ _ _) rfl ?_
  exact gp_ok R1.out (by unfold shO; rw [if_neg (fun h => absurd h.1 (by decide))]; dsimp only; rw [← HU.out]; rfl)
set_option maxRecDepth 1000000 in
set_option maxHeartbeats 8000000 in
theorem psh_140 (h : PS w0 w g F I os os p p false bs ks) (ho : I.op = 140) (he : I.n % 2 = 0) : Calls Tryz.prog 43 #[.pointer (some ⟨g, 0, none⟩)] w (Gp w0 g F I os p bs ks (shO ⟨os, p.key, p.il, p.cc, p.pg, p.ad, bs, ks⟩ I.op I.n (I.a os))) := by
  have hn := h.ix.n
  have u0 := getD_in h.ro I.n
  have A0 := I.a_in os
  have SC := Lib.hid (fun W (hW : PS w0 W g F I os os p p false bs ks) => psec_c hW)
  obtain ⟨A, hA⟩ : ∃ A, I.a os = A := ⟨_, rfl⟩
  rw [hA] at SC A0 ⊢
  clear hA
  obtain ⟨u, hu⟩ : ∃ u, os.getD I.n 0 = u := ⟨_, rfl⟩
  rw [hu] at u0
  have HU := Lib.hid hu
  clear hu
  have b0 := getD_in h.ro (I.n + 1)
  obtain ⟨m, hm⟩ : ∃ m, I.n + 1 = m := ⟨_, rfl⟩
  rw [hm] at b0
  obtain ⟨b, hb⟩ : ∃ b, os.getD m 0 = b := ⟨_, rfl⟩
  rw [hb] at b0
  have HB := Lib.hid hb
  have HM := Lib.hid hm
  have w1 : IntKind.i64.wrap ((I.n : Int) + 1) = (m : Int) := by rw [wrap_i64_id (by omega) (by omega)]; omega
  have w2 : IntKind.i64.wrap ((I.n : Int).tmod 2) = (I.n : Int) % 2 := by rw [Int.tmod_eq_emod_of_nonneg (by omega)]; exact wrap_i64_id (by omega) (by omega)
  have e0 : ((I.n : Int) % 2 == 0) = true := by simp; omega
  have m0 : m < 16 := by omega
  have m1 : (m : Int) < 16 := by omega
  have KB : Hid (∀ W rs q ov bs ks, PS w0 W g F I os rs p q ov bs ks → W.cell? ⟨g, 12 + m, none⟩ = some (.int .u32 b)) := Lib.hid fun W rs q ov bs ks h => hb ▸ h.m.co m0
  have HE : Hid (∀ op : Int, ¬ (140 ≤ op ∧ I.n % 2 = 1)) := Lib.hid fun op h => by omega
  clear hb hm he
  rw [ho]
  have HO := Lib.hid ho
  have R0 := Lib.hid h
  clear ho h
  refine R0.out.opn ?_
  intros
  go_enter Tryz.func43, Tryz.ntmps43
  go_upto_region 0 with fail
  refine wp_region_held_drew (S := Sy w0 g F I os p) (by kernel_rfl) R0.out.drew.x (fun hHeld => ?_)
  replace R0 := Lib.hid R0.out.drew
  repeat refine tkp ?_
  refine tkc (SC.out _ R0.out) (fun _ h => h.x) ?_
  clear R0 hHeld
  intro w3 R1 hHeld
  repeat refine tkp ?_
  refine wpAnyH_done (by kernel_rfl) ?_ _
  refine R1.out.opn ?_
  clear hHeld
  intros
  go_upto_region 12 with (go_at_call 100; refine nxd (fun _ => ?_) (fun h => by cases h))
  refine wp_region_held_drew (S := Sy w0 g F I os p) (by kernel_rfl) R1.out.drew.x (fun hHeld => ?_)
  replace R1 := Lib.hid R1.out.drew
  repeat refine tkp ?_
  refine tki 12 (y := (by intro w hSw; obtain ⟨_, _, _, _, _, hx⟩ := hSw; have hx := KB.out _ _ _ _ _ _ hx; go_simp; (try with_reducible rfl))) ?_
  repeat refine tkp ?_
  refine wpAnyH_done (by with_unfolding_all rfl) ?_ _
  refine R1.out.opn ?_
  clear hHeld
  intros
  go_upto_region 16 with fail
  refine wp_region_held_drew (S := Sy w0 g F I os p) (by kernel_rfl) R1.out.drew.x (fun hHeld => ?_)
  replace R1 := Lib.hid R1.out.drew
  repeat refine tkp ?_
  refine tkz (shiftld_c u b A false u0.1 u0.2 b0.1 b0.2 (by omega) (by omega) _) ?_
  repeat refine tkp ?_
  refine tpr R1.out hn ?_
  clear R1 hHeld
  intro w2 R1 hHeld
  repeat refine tkp ?_
  refine tpr R1.out m0 ?_
  clear R1 hHeld
  intro w2 R1 hHeld
  repeat refine tkp ?_
  refine wpAnyH_done (by with_unfolding_all rfl) ?_ _
  refine R1.out.opn ?_
  clear hHeld
  intros
  go_wp2
  first | go_end0 | refine bodyPost_ret (results_none rfl _ _ _) rfl ?_
  exact gp_ok R1.out (by unfold shO; rw [if_neg (HE.out _)]; dsimp only; rw [← HU.out, ← HB.out, ← HM.out]; rfl)
set_option maxRecDepth 1000000 in
set_option maxHeartbeats 8000000 in
theorem psh_141 (h : PS w0 w g F I os os p p false bs ks) (ho : I.op = 141) (he : I.n % 2 = 0) : Calls Tryz.prog 43 #[.pointer (some ⟨g, 0, none⟩)] w (Gp w0 g F I os p bs ks (shO ⟨os, p.key, p.il, p.cc, p.pg, p.ad, bs, ks⟩ I.op I.n (I.a os))) := by
  have hn := h.ix.n
  have u0 := getD_in h.ro I.n
  have A0 := I.a_in os
  have SC := Lib.hid (fun W (hW : PS w0 W g F I os os p p false bs ks) => psec_c hW)
  obtain ⟨A, hA⟩ : ∃ A, I.a os = A := ⟨_, rfl⟩
  rw [hA] at SC A0 ⊢
  clear hA
  obtain ⟨u, hu⟩ : ∃ u, os.getD I.n 0 = u := ⟨_, rfl⟩
  rw [hu] at u0
  have HU := Lib.hid hu
  clear hu
  have b0 := getD_in h.ro (I.n + 1)
  obtain ⟨m, hm⟩ : ∃ m, I.n + 1 = m := ⟨_, rfl⟩
  rw [hm] at b0
  obtain ⟨b, hb⟩ : ∃ b, os.getD m 0 = b := ⟨_, rfl⟩
  rw [hb] at b0
  have HB := Lib.hid hb
  have HM := Lib.hid hm
  have w1 : IntKind.i64.wrap ((I.n : Int) + 1) = (m : Int) := by rw [wrap_i64_id (by omega) (by omega)]; omega
  have w2 : IntKind.i64.wrap ((I.n : Int).tmod 2) = (I.n : Int) % 2 := by rw [Int.tmod_eq_emod_of_nonneg (by omega)]; exact wrap_i64_id (by omega) (by omega)
  have e0 : ((I.n : Int) % 2 == 0) = true := by simp; omega
  have m0 : m < 16 := by omega
  have m1 : (m : Int) < 16 := by omega
  have KB : Hid (∀ W rs q ov bs ks, PS w0 W g F I os rs p q ov bs ks → W.cell? ⟨g, 12 + m, none⟩ = some (.int .u32 b)) := Lib.hid fun W rs q ov bs ks h => hb ▸ h.m.co m0
  have HE : Hid (∀ op : Int, ¬ (140 ≤ op ∧ I.n % 2 = 1)) := Lib.hid fun op h => by omega
  clear hb hm he
  rw [ho]
  have HO := Lib.hid ho
  have R0 := Lib.hid h
  clear ho h
  refine R0.out.opn ?_
  intros
  go_enter Tryz.func43, Tryz.ntmps43
  go_upto_region 0 with fail
  refine wp_region_held_drew (S := Sy w0 g F I os p) (by kernel_rfl) R0.out.drew.x (fun hHeld => ?_)
  replace R0 := Lib.hid R0.out.drew
  repeat refine tkp ?_
  refine tkc (SC.out _ R0.out) (fun _ h => h.x) ?_
  clear R0 hHeld
  intro w3 R1 hHeld
  repeat refine tkp ?_
  refine wpAnyH_done (by kernel_rfl) ?_ _
  refine R1.out.opn ?_
  clear hHeld
  intros
  go_upto_region 12 with (go_at_call 100; refine nxd (fun _ => ?_) (fun h => by cases h))
  refine wp_region_held_drew (S := Sy w0 g F I os p) (by kernel_rfl) R1.out.drew.x (fun hHeld => ?_)
  replace R1 := Lib.hid R1.out.drew
  repeat refine tkp ?_
  refine tki 12 (y := (by intro w hSw; obtain ⟨_, _, _, _, _, hx⟩ := hSw; have hx := KB.out _ _ _ _ _ _ hx; go_simp; (try with_reducible rfl))) ?_
  repeat refine tkp ?_
  refine wpAnyH_done (by with_unfolding_all rfl) ?_ _
  refine R1.out.opn ?_
  clear hHeld
  intros
  go_upto_region 16 with fail
  refine wp_region_held_drew (S := Sy w0 g F I os p) (by kernel_rfl) R1.out.drew.x (fun hHeld => ?_)
  replace R1 := Lib.hid R1.out.drew
  repeat refine tkp ?_
  refine tkz (shiftld_c u b A true u0.1 u0.2 b0.1 b0.2 (by omega) (by omega) _) ?_
  repeat refine tkp ?_
  refine tpr R1.out hn ?_
  clear R1 hHeld
  intro w2 R1 hHeld
  repeat refine tkp ?_
  refine tpr R1.out m0 ?_
  clear R1 hHeld
  intro w2 R1 hHeld
  repeat refine tkp ?_
  refine wpAnyH_done (by with_unfolding_all rfl) ?_ _
  refine R1.out.opn ?_
  clear hHeld
  intros
  go_wp2
  first | go_end0 | refine bodyPost_ret (results_none rfl _ _ _) rfl ?_
  exact gp_ok R1.out (by unfold shO; rw [if_neg (HE.out _)]; dsimp only; rw [← HU.out, ← HB.out, ← HM.out]; rfl)
set_option maxRecDepth 1000000 in
set_option maxHeartbeats 8000000 in
theorem psh_142 (h : PS w0 w g F I os os p p false bs ks) (ho : I.op = 142) (he : I.n % 2 = 0) : Calls Tryz.prog 43 #[.pointer (some ⟨g, 0, none⟩)] w (Gp w0 g F I os p bs ks (shO ⟨os, p.key, p.il, p.cc, p.pg, p.ad, bs, ks⟩ I.op I.n (I.a os))) := by
  have hn := h.ix.n
  have u0 := getD_in h.ro I.n
  have A0 := I.a_in os
  have SC := Lib.hid (fun W (hW : PS w0 W g F I os os p p false bs ks) => psec_c hW)
  obtain ⟨A, hA⟩ : ∃ A, I.a os = A := ⟨_, rfl⟩
  rw [hA] at SC A0 ⊢
  clear hA
  obtain ⟨u, hu⟩ : ∃ u, os.getD I.n 0 = u := ⟨_, rfl⟩
  rw [hu] at u0
  have HU := Lib.hid hu
  clear hu
  have b0 := getD_in h.ro (I.n + 1)
  obtain ⟨m, hm⟩ : ∃ m, I.n + 1 = m := ⟨_, rfl⟩
  rw [hm] at b0
  obtain ⟨b, hb⟩ : ∃ b, os.getD m 0 = b := ⟨_, rfl⟩
  rw [hb] at b0
  have HB := Lib.hid hb
  have HM := Lib.hid hm
  have w1 : IntKind.i64.wrap ((I.n : Int) + 1) = (m : Int) := by rw [wrap_i64_id (by omega) (by omega)]; omega
  have w2 : IntKind.i64.wrap ((I.n : Int).tmod 2) = (I.n : Int) % 2 := by rw [Int.tmod_eq_emod_of_nonneg (by omega)]; exact wrap_i64_id (by omega) (by omega)
  have e0 : ((I.n : Int) % 2 == 0) = true := by simp; omega
  have m0 : m < 16 := by omega
  have m1 : (m : Int) < 16 := by omega
  have KB : Hid (∀ W rs q ov bs ks, PS w0 W g F I os rs p q ov bs ks → W.cell? ⟨g, 12 + m, none⟩ = some (.int .u32 b)) := Lib.hid fun W rs q ov bs ks h => hb ▸ h.m.co m0
  have HE : Hid (∀ op : Int, ¬ (140 ≤ op ∧ I.n % 2 = 1)) := Lib.hid fun op h => by omega
  clear hb hm he
  rw [ho]
  have HO := Lib.hid ho
  have R0 := Lib.hid h
  clear ho h
  refine R0.out.opn ?_
  intros
  go_enter Tryz.func43, Tryz.ntmps43
  go_upto_region 0 with fail
  refine wp_region_held_drew (S := Sy w0 g F I os p) (by kernel_rfl) R0.out.drew.x (fun hHeld => ?_)
  replace R0 := Lib.hid R0.out.drew
  repeat refine tkp ?_
  refine tkc (SC.out _ R0.out) (fun _ h => h.x) ?_
  clear R0 hHeld
  intro w3 R1 hHeld
  repeat refine tkp ?_
  refine wpAnyH_done (by kernel_rfl) ?_ _
  refine R1.out.opn ?_
  clear hHeld
  intros
  go_upto_region 12 with (go_at_call 100; refine nxd (fun _ => ?_) (fun h => by cases h))
  refine wp_region_held_drew (S := Sy w0 g F I os p) (by kernel_rfl) R1.out.drew.x (fun hHeld => ?_)
  replace R1 := Lib.hid R1.out.drew
  repeat refine tkp ?_
  refine tki 12 (y := (by intro w hSw; obtain ⟨_, _, _, _, _, hx⟩ := hSw; have hx := KB.out _ _ _ _ _ _ hx; go_simp; (try with_reducible rfl))) ?_
  repeat refine tkp ?_
  refine wpAnyH_done (by with_unfolding_all rfl) ?_ _
  refine R1.out.opn ?_
  clear hHeld
  intros
  go_upto_region 18 with fail
  refine wp_region_held_drew (S := Sy w0 g F I os p) (by kernel_rfl) R1.out.drew.x (fun hHeld => ?_)
  replace R1 := Lib.hid R1.out.drew
  repeat refine tkp ?_
  refine tkz (shiftrd_c u b A u0.1 u0.2 b0.1 b0.2 (by omega) (by omega) _) ?_
  repeat refine tkp ?_
  refine tpr R1.out hn ?_
  clear R1 hHeld
  intro w2 R1 hHeld
  repeat refine tkp ?_
  refine tpr R1.out m0 ?_
  clear R1 hHeld
  intro w2 R1 hHeld
  repeat refine tkp ?_
  refine tpc R1.out ?_
  clear R1 hHeld
  intro w2 R1 hHeld
  repeat refine tkp ?_
  refine wpAnyH_done (by with_unfolding_all rfl) ?_ _
  refine R1.out.opn ?_
  clear hHeld
  intros
  go_wp2
  first | go_end0 | refine bodyPost_ret (results_none rfl _ _ _) rfl ?_
  exact gp_ok R1.out (by unfold shO; rw [if_neg (HE.out _)]; dsimp only; rw [← HU.out, ← HB.out, ← HM.out]; rfl)
set_option maxRecDepth 1000000 in
set_option maxHeartbeats 8000000 in
theorem psh_143 (h : PS w0 w g F I os os p p false bs ks) (ho : I.op = 143) (he : I.n % 2 = 0) : Calls Tryz.prog 43 #[.pointer (some ⟨g, 0, none⟩)] w (Gp w0 g F I os p bs ks (shO ⟨os, p.key, p.il, p.cc, p.pg, p.ad, bs, ks⟩ I.op I.n (I.a os))) := by
  have hn := h.ix.n
  have u0 := getD_in h.ro I.n
  have A0 := I.a_in os
  have SC := Lib.hid (fun W (hW : PS w0 W g F I os os p p false bs ks) => psec_c hW)
  obtain ⟨A, hA⟩ : ∃ A, I.a os = A := ⟨_, rfl⟩
  rw [hA] at SC A0 ⊢
  clear hA
  obtain ⟨u, hu⟩ : ∃ u, os.getD I.n 0 = u := ⟨_, rfl⟩
  rw [hu] at u0
  have HU := Lib.hid hu
  clear hu
  have b0 := getD_in h.ro (I.n + 1)
  obtain ⟨m, hm⟩ : ∃ m, I.n + 1 = m := ⟨_, rfl⟩
  rw [hm] at b0
  obtain ⟨b, hb⟩ : ∃ b, os.getD m 0 = b := ⟨_, rfl⟩
  rw [hb] at b0
  have HB := Lib.hid hb
  have HM := Lib.hid hm
  have w1 : IntKind.i64.wrap ((I.n : Int) + 1) = (m : Int) := by rw [wrap_i64_id (by omega) (by omega)]; omega
  have w2 : IntKind.i64.wrap ((I.n : Int).tmod 2) = (I.n : Int) % 2 := by rw [Int.tmod_eq_emod_of_nonneg (by omega)]; exact wrap_i64_id (by omega) (by omega)
  have e0 : ((I.n : Int) % 2 == 0) = true := by simp; omega
  have m0 : m < 16 := by omega
  have m1 : (m : Int) < 16 := by omega
  have KB : Hid (∀ W rs q ov bs ks, PS w0 W g F I os rs p q ov bs ks → W.cell? ⟨g, 12 + m, none⟩ = some (.int .u32 b)) := Lib.hid fun W rs q ov bs ks h => hb ▸ h.m.co m0
  have HE : Hid (∀ op : Int, ¬ (140 ≤ op ∧ I.n % 2 = 1)) := Lib.hid fun op h => by omega
  clear hb hm he
  rw [ho]
  have HO := Lib.hid ho
  have R0 := Lib.hid h
  clear ho h
  refine R0.out.opn ?_
  intros
  go_enter Tryz.func43, Tryz.ntmps43
  go_upto_region 0 with fail
  refine wp_region_held_drew (S := Sy w0 g F I os p) (by kernel_rfl) R0.out.drew.x (fun hHeld => ?_)
  replace R0 := Lib.hid R0.out.drew
  repeat refine tkp ?_
  refine tkc (SC.out _ R0.out) (fun _ h => h.x) ?_
  clear R0 hHeld
  intro w3 R1 hHeld
  repeat refine tkp ?_
  refine wpAnyH_done (by kernel_rfl) ?_ _
  refine R1.out.opn ?_
  clear hHeld
  intros
  go_upto_region 12 with (go_at_call 100; refine nxd (fun _ => ?_) (fun h => by cases h))
  refine wp_region_held_drew (S := Sy w0 g F I os p) (by kernel_rfl) R1.out.drew.x (fun hHeld => ?_)
  replace R1 := Lib.hid R1.out.drew
  repeat refine tkp ?_
  refine tki 12 (y := (by intro w hSw; obtain ⟨_, _, _, _, _, hx⟩ := hSw; have hx := KB.out _ _ _ _ _ _ hx; go_simp; (try with_reducible rfl))) ?_
  repeat refine tkp ?_
  refine wpAnyH_done (by with_unfolding_all rfl) ?_ _
  refine R1.out.opn ?_
  clear hHeld
  intros
  go_upto_region 20 with fail
  refine wp_region_held_drew (S := Sy w0 g F I os p) (by kernel_rfl) R1.out.drew.x (fun hHeld => ?_)
  replace R1 := Lib.hid R1.out.drew
  repeat refine tkp ?_
  refine tkz (shiftlad_c u b A u0.1 u0.2 b0.1 b0.2 (by omega) (by omega) _) ?_
  repeat refine tkp ?_
  refine tpr R1.out hn ?_
  clear R1 hHeld
  intro w2 R1 hHeld
  repeat refine tkp ?_
  refine tpr R1.out m0 ?_
  clear R1 hHeld
  intro w2 R1 hHeld
  repeat refine tkp ?_
  refine tpc R1.out ?_
  clear R1 hHeld
  intro w2 R1 hHeld
  repeat refine tkp ?_
  refine tpv R1.out ?_
  clear R1 hHeld
  intro w2 R1 hHeld
  repeat refine tkp ?_
  refine wpAnyH_done (by with_unfolding_all rfl) ?_ _
  refine R1.out.opn ?_
  clear hHeld
  intros
  go_wp2
  first | go_end0 | refine bodyPost_ret (results_none rfl _ _ _) rfl ?_
  exact gp_ok R1.out (by unfold shO; rw [if_neg (HE.out _)]; dsimp only; rw [← HU.out, ← HB.out, ← HM.out]; rfl)
set_option maxRecDepth 1000000 in
set_option maxHeartbeats 8000000 in
theorem psh_odd (h : PS w0 w g F I os os p p false bs ks) (ho : 140 ≤ I.op ∧ I.op ≤ 143) (he : I.n % 2 = 1) : Calls Tryz.prog 43 #[.pointer (some ⟨g, 0, none⟩)] w (Gp w0 g F I os p bs ks (shO ⟨os, p.key, p.il, p.cc, p.pg, p.ad, bs, ks⟩ I.op I.n (I.a os))) := by
  have nn := h.ix.n
  have SC := Lib.hid (fun W (hW : PS w0 W g F I os os p p false bs ks) => psec_c hW)
  have w2 : IntKind.i64.wrap ((I.n : Int).tmod 2) = (I.n : Int) % 2 := by rw [Int.tmod_eq_emod_of_nonneg (by omega)]; exact wrap_i64_id (by omega) (by omega)
  have e0 : ((I.n : Int) % 2 == 0) = false := by simp; omega
  have HA := Lib.hid (show shO ⟨os, p.key, p.il, p.cc, p.pg, p.ad, bs, ks⟩ I.op I.n (I.a os) = Pre.no ⟨os, p.key, p.il, p.cc, p.pg, p.ad, bs, ks⟩ 6 from if_pos ⟨ho.1, he⟩)
  obtain ⟨A, hA⟩ : ∃ A, I.a os = A := ⟨_, rfl⟩
  rw [hA] at SC HA ⊢
  have e1 : ¬ I.op < 140 := by omega
  have R0 := Lib.hid h
  clear hA ho he h
  refine R0.out.opn ?_
  intros
  go_enter Tryz.func43, Tryz.ntmps43
  go_upto_region 0 with fail
  refine wp_region_held_drew (S := Sy w0 g F I os p) (by kernel_rfl) R0.out.drew.x (fun hHeld => ?_)
  replace R0 := Lib.hid R0.out.drew
  repeat refine tkp ?_
  refine tkc (SC.out _ R0.out) (fun _ h => h.x) ?_
  clear R0 hHeld
  intro w3 R1 hHeld
  repeat refine tkp ?_
  refine wpAnyH_done (by kernel_rfl) ?_ _
  refine R1.out.opn ?_
  clear hHeld
  intros
  go_wp2_with (go_at_call 100; refine nxd (fun h => by cases h) (fun _ => ?_))
  exact ⟨rfl, gp_no R1.out (congrArg Out.c HA.out) (by show (6 : Int) ≠ 0; decide)⟩
end
end Go.Proofs.YthjdjbipfdigeaaGreat

