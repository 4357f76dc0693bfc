/- Contracts and laws on the way to the statement, text 18 of 24. Conditions: as each states them. -/
import Derived.Test.YthjdjbipfdigeaaGreatRu1
import Derived.Test.YthjdjbipfdigeaaGreatRu5
import Derived.Test.YthjdjbipfdigeaaGreatRu15
import Derived.Test.YthjdjbipfdigeaaGreatRu16
import Derived.Test.YthjdjbipfdigeaaGreatRu17
import Derived.Test.YthjdjbipfdigeaaGreatProg
import Derived.WalkKit
import Derived.ChangeKeysEq
import Derived.Laws.StructEq
import Derived.Laws.Tables
import Derived.Deep.QuietTactic
import Derived.BigQuiet
import Derived.Lib.Hide
import Derived.Outline
namespace Go.Proofs.YthjdjbipfdigeaaGreat
open Go.RowKit
set_option maxRecDepth 100000
set_option linter.unusedVariables false
set_option linter.unusedSimpArgs false
section
variable {w0 w w' : World} {g : Nat} {F : Foot} {I : In} {os rs : List Int} {p q : Ps} {ov : Bool} {bs ks : List Int}
/-- where exec has ended: Exec's blocks, and the machine -/
structure YG (w0 w : World) (F : Foot) (bs ks : List Int) (z r p a b : List Value) (v : Int) (g : Nat) (is os rs : List Int) (ps : List Value) (ov : Bool) : Prop where
  x : XG w0 w F bs ks z r p a b v
  m : Mc w g is os rs ps (.pointer (some ⟨F.g, 0, none⟩)) ov
  n : w0.heap.size + 1 + 1 + 1 + 1 + 1 < g
section
variable {z r zp a b : List Value} {v : Int} {is : List Int} {ps : List Value} {s : Value}
theorem YG.drew (h : YG w0 w F bs ks z r zp a b v g is os rs ps ov) : YG w0 w.drew F bs ks z r zp a b v g is os rs ps ov := ⟨h.x.drew, h.m.drewN 1, h.n⟩
theorem YG.seta (h : YG w0 w F bs ks z r zp a b v g is os rs ps ov) (a' : List Value) : YG w0 (w.setRow (w0.heap.size + 1 + 1 + 1) a'.toArray) F bs ks z r zp a' b v g is os rs ps ov := ⟨h.x.seta a', h.m.kept (setRow_other w _ _ _ (by have := h.n; omega)), h.n⟩
theorem YG.setb (h : YG w0 w F bs ks z r zp a b v g is os rs ps ov) (b' : List Value) : YG w0 (w.setRow (w0.heap.size + 1 + 1 + 1 + 1) b'.toArray) F bs ks z r zp a b' v g is os rs ps ov := ⟨h.x.setb b', h.m.kept (setRow_other w _ _ _ (by have := h.n; omega)), h.n⟩
theorem YG.setc (h : YG w0 w F bs ks z r zp a b v g is os rs ps ov) (v' : Int) : YG w0 (w.setCell ⟨w0.heap.size + 1 + 1 + 1 + 1 + 1, 0, none⟩ (.int .i64 v')) F bs ks z r zp a b v' g is os rs ps ov := ⟨h.x.setc v', h.m.other _ (by have := h.n; show w0.heap.size + 1 + 1 + 1 + 1 + 1 ≠ g; omega), h.n⟩
theorem Mc.bk (h : Mc w g is os rs ps s ov) : Bk w g 63 (is.map (Value.int .i64) ++ (os.map (Value.int .u32) ++ (rs.map (Value.int .u32) ++ (ps ++ [s, .bool ov])))) := h.1
theorem Mc.rowR (h : Mc w g is os rs ps s ov) : w.rangeAt g 28 (rs.map (Value.int .u32)) := by
  obtain ⟨_, h1, h2, h3, h4⟩ := id h
  have hk := h.bk
  rw [← List.append_assoc] at hk
  have hk := Bk.mid hk
  rw [List.length_append, List.length_map, List.length_map, h1, h2] at hk
  exact hk
theorem Mc.rowQ (h : Mc w g is os rs ps s ov) : w.rangeAt g 44 ps := by
  obtain ⟨_, h1, h2, h3, h4⟩ := id h
  have hk := h.bk
  rw [← List.append_assoc, ← List.append_assoc] at hk
  have hk := Bk.mid hk
  rw [List.length_append, List.length_append, List.length_map, List.length_map, List.length_map, h1, h2, h3] at hk
  exact hk
end
theorem PS.new (h : St 77 w F bs ks) (hl : os.length = 16) (ro : ∀ z ∈ os, 0 ≤ z ∧ z ≤ 4294967295) (hi : I.ok) : PS (w.alloc (.cells (mcC I.z os os p.v (.pointer (some ⟨F.g, 0, none⟩)) false).toArray 63)) (w.alloc (.cells (mcC I.z os os p.v (.pointer (some ⟨F.g, 0, none⟩)) false).toArray 63)) w.heap.size F I os os p p false bs ks :=
  ⟨⟨Bk.new w _ _, rfl, hl, hl, rfl⟩, h.belowS ((Below.refl _ _).alloc (Nat.le_refl _) _), Ch.refl _ _, by have := h.ltg; omega, by have := h.ltb; omega, by have := h.ltk; omega, ro, hi, rfl⟩
/-- what Exec answers -/
def Px (w : World) (F : Foot) (os : List Int) (p : Ps) (bs ks : List Int) (o : Out) (e : Ending) (w' : World) : Prop :=
  Ch w w' [F.gb] ∧ (o.c ≠ 0 → e = .returned (.tuple #[agR os, .agg p.v.toArray, .int .i64 o.c]) ∧ St 77 w' F bs ks) ∧
  (o.c = 0 → e = .returned (.tuple #[agR o.rs, .agg (p.to o.cc o.pg o.ad).v.toArray, .int .i64 (if o.ov = true ∧ 8 ≤ p.pg then 8 else 0)]) ∧ St 77 w' F o.bs ks)
theorem pand8 : ∀ n : Nat, n < 16 → bits .and .i64 (n : Int) 8 = if 8 ≤ n then 8 else 0 := by decide +kernel
set_option maxRecDepth 1000000 in
set_option maxHeartbeats 8000000 in
theorem pexec_ok (hl : os.length = 16) (ro : ∀ z ∈ os, 0 ≤ z ∧ z ≤ 4294967295) (hi : I.ok) (hp : p.ok) (h : St 77 w F bs ks) (h1 : kn I.op = true) (h2 : chk I.op I.fm [I.op, I.fm, I.n, I.k, I.x, I.b, I.d, I.b', I.d', I.l, I.l', I.i] = 0) (h3 : pok p.m p.key p.cd p.il p.cc p.pg p.ad = true) (hf : I.fm = fmOf I.op) {o : Out} (ho : exO ⟨os, p.key, p.il, p.cc, p.pg, p.ad, bs, ks⟩ I.op I.fm I.n I.k (I.a1 os) (I.a os) I.l I.i = o) : Calls Tryz.prog 7 #[.agg #[.int .i64 I.op, .int .i64 I.fm, .int .i64 (I.n : Int), .int .i64 (I.k : Int), .int .i64 (I.x : Int), .int .i64 (I.b : Int), .int .i64 I.d, .int .i64 (I.b' : Int), .int .i64 I.d', .int .i64 (I.l : Int), .int .i64 I.l', .int .i64 I.i], agR os, .agg p.v.toArray, .pointer (some ⟨F.g, 0, none⟩)] w (Px w F os p bs ks o) := by
  have hmf : ∀ (fn : Fn) (first cap : Array Value) (w : World), (Instr.makeFunc fn first cap).run Tryz.prog w = .ok (.func fn first cap) w := fun _ _ _ _ => rfl
  have CK := Lib.hid (fun W => icheck_c I.op I.fm (I.n : Int) (I.k : Int) (I.x : Int) (I.b : Int) I.d (I.b' : Int) I.d' (I.l : Int) I.l' I.i W)
  rw [h2] at CK
  have X0 := Lib.hid (XG.start h)
  have HL := Lib.hid hl
  have HI := Lib.hid hi
  have RO := Lib.hid ro
  have P0 := hp.pg
  have HPC := Lib.hid (fun w0 W g (hW : PS w0 W g F I os os p p false bs ks) => ho ▸ pexec_c hW hp (of_decide_eq_true h1) hf)
  have OL : Hid (o.rs.length = 16) := Lib.hid (by rw [← ho, exO_len]; exact hl)
  have PN := Lib.hid (fun W (hW : St 77 W F bs ks) => PS.new (I := I) (p := p) hW hl ro hi)
  obtain ⟨a0, a1, a2, a3, a4, a5, a6, a7, a8, a9, a10, a11, a12, a13, a14, a15, rfl⟩ := list_16 hl
  unfold agR
  clear ho h2 hl ro hi hp hf h
  go_enter_defers Tryz.func7, Tryz.ntmps7
  go_upto_region 1 with fail
  have X1 := Lib.hid (X0.out [.int .i64 I.op, .int .i64 I.fm, .int .i64 (I.n : Int), .int .i64 (I.k : Int), .int .i64 (I.x : Int), .int .i64 (I.b : Int), .int .i64 I.d, .int .i64 (I.b' : Int), .int .i64 I.d', .int .i64 (I.l : Int), .int .i64 I.l', .int .i64 I.i] ([a0, a1, a2, a3, a4, a5, a6, a7, a8, a9, a10, a11, a12, a13, a14, a15].map (Value.int .u32)) p.v [.int .u32 0, .int .u32 0, .int .u32 0, .int .u32 0, .int .u32 0, .int .u32 0, .int .u32 0, .int .u32 0, .int .u32 0, .int .u32 0, .int .u32 0, .int .u32 0, .int .u32 0, .int .u32 0, .int .u32 0, .int .u32 0] [.int .i64 0, .int .i64 0, .bool false, .bool false, .bool false, .int .i64 0, .int .i64 0, .int .i64 0, .int .i64 0, .int .i64 0] 0)
  refine X1.out.opn ?_
  intro _ B1 B2
  refine B1.opn12 ?_
  refine B2.opn10 ?_
  clear B1 B2
  intros
  go_upto_region 3 with (first
      | (go_at_call 16; refine nx (X1.out.call (h1 ▸ pknows_c I.op _)) ?_; intro w1 X1; refine X1.out.opn ?_; intro _ B1 B2; refine B1.opn12 ?_; refine B2.opn10 ?_; clear B1 B2; intros)
      | (go_at_call 17; refine nx (X1.out.call (CK.out _)) ?_; intro w1 X1; refine X1.out.opn ?_; intro _ B1 B2; refine B1.opn12 ?_; refine B2.opn10 ?_; clear B1 B2; intros)
      | (go_at_call 18; refine nx (X1.out.call (h3 ▸ valid_c _ _ _ _ _ _ _ _ _ _ _)) ?_; intro w1 X1; refine X1.out.opn ?_; intro _ B1 B2; refine B1.opn12 ?_; refine B2.opn10 ?_; clear B1 B2; intros))
  clear X0
  have CLT := Lib.hid X1.out.c.lt
  have B0 := Lib.hid X1.out.z
  have BR := Lib.hid X1.out.r
  have BP := Lib.hid X1.out.p
  go_upto_region 4 with fail
  refine wp_region_list ?_
  simp only [List.append_eq, List.cons_append, List.nil_append]
  refine lsl B0.out ?_
  refine lsl BR.out ?_
  refine lsl BR.out ?_
  refine lsl (cs := [.int .i64 p.m, .int .i64 p.key, .bool p.M, .bool p.W, .bool p.P, .int .i64 p.cd, .int .i64 p.il, .int .i64 p.cc, .int .i64 p.pg, .int .i64 p.ad]) BP.out ?_
  refine lsv ?_ (w' := w1)
  refine lsv (v := .agg (mcC I.z [a0, a1, a2, a3, a4, a5, a6, a7, a8, a9, a10, a11, a12, a13, a14, a15] [a0, a1, a2, a3, a4, a5, a6, a7, a8, a9, a10, a11, a12, a13, a14, a15] p.v (.pointer (some ⟨F.g, 0, none⟩)) false).toArray) (w' := w1) ?_ (hr := by go_simp; kernel_rfl)
  have hsz : (mcC I.z [a0, a1, a2, a3, a4, a5, a6, a7, a8, a9, a10, a11, a12, a13, a14, a15] [a0, a1, a2, a3, a4, a5, a6, a7, a8, a9, a10, a11, a12, a13, a14, a15] p.v (.pointer (some ⟨F.g, 0, none⟩)) false).toArray.size = 56 := rfl
  refine lsv (v := .pointer (some ⟨w1.heap.size, 0, none⟩)) (w' := w1.alloc (.cells (mcC I.z [a0, a1, a2, a3, a4, a5, a6, a7, a8, a9, a10, a11, a12, a13, a14, a15] [a0, a1, a2, a3, a4, a5, a6, a7, a8, a9, a10, a11, a12, a13, a14, a15] p.v (.pointer (some ⟨F.g, 0, none⟩)) false).toArray 63)) ?_
  refine lsv ?_
  refine wpList_nil ?_
  have R1 := Lib.hid (PN.out _ X1.out.st)
  replace X1 := Lib.hid (X1.out.keep ((Below.refl _ _).alloc (Nat.le_refl _) (.cells (mcC I.z [a0, a1, a2, a3, a4, a5, a6, a7, a8, a9, a10, a11, a12, a13, a14, a15] [a0, a1, a2, a3, a4, a5, a6, a7, a8, a9, a10, a11, a12, a13, a14, a15] p.v (.pointer (some ⟨F.g, 0, none⟩)) false).toArray 63)))
  have hgm : w.heap.size + 1 + 1 + 1 + 1 + 1 < w1.heap.size := by have := B0.out.lt; have := CLT.out; omega
  obtain ⟨gm, hg⟩ : ∃ gm, w1.heap.size = gm := ⟨_, rfl⟩
  obtain ⟨W1, hW⟩ : ∃ W1, w1.alloc (.cells (mcC I.z [a0, a1, a2, a3, a4, a5, a6, a7, a8, a9, a10, a11, a12, a13, a14, a15] [a0, a1, a2, a3, a4, a5, a6, a7, a8, a9, a10, a11, a12, a13, a14, a15] p.v (.pointer (some ⟨F.g, 0, none⟩)) false).toArray 63) = W1 := ⟨_, rfl⟩
  rw [hW, hg] at R1
  rw [hW] at X1 ⊢
  rw [hg] at hgm
  simp only [hg]
  clear hsz hW hg B0 BR BP PN CLT
  go_upto_region 6 with (go_at_call 20; refine nxp (HPC.out _ _ _ R1.out) (fun w2 Z => ?_) (fun w2 Z => ?_))
  · have hzc : o.c = 0 := by
      by_cases h : o.c = 0
      · exact h
      · exact absurd (Z.out.2 h).1 (by unfold Pn; simp)
    have Y1 : Hid (YG w w2 F o.bs ks [.int .i64 I.op, .int .i64 I.fm, .int .i64 (I.n : Int), .int .i64 (I.k : Int), .int .i64 (I.x : Int), .int .i64 (I.b : Int), .int .i64 I.d, .int .i64 (I.b' : Int), .int .i64 I.d', .int .i64 (I.l : Int), .int .i64 I.l', .int .i64 I.i] ([a0, a1, a2, a3, a4, a5, a6, a7, a8, a9, a10, a11, a12, a13, a14, a15].map (Value.int .u32)) p.v [.int .u32 0, .int .u32 0, .int .u32 0, .int .u32 0, .int .u32 0, .int .u32 0, .int .u32 0, .int .u32 0, .int .u32 0, .int .u32 0, .int .u32 0, .int .u32 0, .int .u32 0, .int .u32 0, .int .u32 0, .int .u32 0] [.int .i64 0, .int .i64 0, .bool false, .bool false, .bool false, .int .i64 0, .int .i64 0, .int .i64 0, .int .i64 0, .int .i64 0] 0 gm I.z [a0, a1, a2, a3, a4, a5, a6, a7, a8, a9, a10, a11, a12, a13, a14, a15] o.rs (p.to o.cc o.pg o.ad).v o.ov) := Lib.hid ⟨X1.out.ex (Z.out.1 hzc).2.b (Z.out.1 hzc).2.st hgm, (Z.out.1 hzc).2.m, hgm⟩
    have HZ := Lib.hid hzc
    have KL := OL
    clear Z R1 X1 hzc HPC
    have cv := Y1.out.m.cv
    rcases (show o.ov = false ∨ (o.ov = true ∧ 8 ≤ p.pg) ∨ (o.ov = true ∧ ¬ 8 ≤ p.pg) by cases o.ov <;> simp <;> omega) with hv | ⟨hv, h8⟩ | ⟨hv, h8⟩
    · have HV := Lib.hid (show (if o.ov = true ∧ 8 ≤ p.pg then (8 : Int) else 0) = 0 from if_neg (by rw [hv]; simp))
      rw [hv] at cv
      have hv' := Lib.hid hv
      clear hv
      go_upto_region 8 with fail
      refine wp_region_held_drew (S := fun W => ∃ a b v, YG w W F o.bs ks [.int .i64 I.op, .int .i64 I.fm, .int .i64 (I.n : Int), .int .i64 (I.k : Int), .int .i64 (I.x : Int), .int .i64 (I.b : Int), .int .i64 I.d, .int .i64 (I.b' : Int), .int .i64 I.d', .int .i64 (I.l : Int), .int .i64 I.l', .int .i64 I.i] ([a0, a1, a2, a3, a4, a5, a6, a7, a8, a9, a10, a11, a12, a13, a14, a15].map (Value.int .u32)) p.v a b v gm I.z [a0, a1, a2, a3, a4, a5, a6, a7, a8, a9, a10, a11, a12, a13, a14, a15] o.rs (p.to o.cc o.pg o.ad).v o.ov) (by kernel_rfl) ⟨_, _, _, Y1.out.drew⟩ (fun hHeld => ?_)
      replace Y1 := Lib.hid Y1.out.drew
      repeat refine tkn ?_ (hQ := by exact fun _ _ _ h => exq h)
      refine tkl 3 (fun w h => by obtain ⟨_, _, _, h⟩ := h; exact h.m.rowR) ?_ (hn := by rw [List.length_map, KL.out]; kernel_rfl) (hQ := by exact fun _ _ _ h => exq h)
      repeat refine tkn ?_ (hQ := by exact fun _ _ _ h => exq h)
      refine tkl (cs := (p.to o.cc o.pg o.ad).v) 7 (fun w h => by obtain ⟨_, _, _, h⟩ := h; exact h.m.rowQ) ?_ (hQ := by exact fun _ _ _ h => exq h)
      repeat refine tkn ?_ (hQ := by exact fun _ _ _ h => exq h)
      refine tks_ (cs' := o.rs.map (Value.int .u32)) Y1.out.x.a (by rw [List.length_map, KL.out]; rfl) (one_u32 _) (by rw [List.length_map, KL.out]; kernel_rfl) (Y1.out.seta _) (fun _ h => ⟨_, _, _, h⟩) ?_
      clear Y1 hHeld
      intro w5 Y1 hHeld
      refine tks_ (cs' := (p.to o.cc o.pg o.ad).v) Y1.out.x.b (by rfl) (one_ps _) (by kernel_rfl) (Y1.out.setb _) (fun _ h => ⟨_, _, _, h⟩) ?_
      clear Y1 hHeld
      intro w6 Y1 hHeld
      refine tk_st (st_int (Y1.out.x.c.cell (c := 0) rfl) (Y1.out.x.c.free 0)) (Y1.out.setc 0) (fun _ h => ⟨_, _, _, h⟩) ?_ (by with_unfolding_all rfl) (by rfl) (by rfl) (by rfl) (by rfl) (by rfl) (fun w' => by simp only [Act.put, List.setIfInBounds_toArray, List.set_cons_zero, List.set_cons_succ]; try rfl)
      clear Y1 hHeld
      intro w7 Y1 hHeld
      refine wpAnyH_done (by kernel_rfl) ?_ _
      clear hHeld
      go_wp2
      refine leaves_cons (f := 19) (args := #[.pointer (some ⟨w.heap.size + 1, 0, none⟩), .pointer (some ⟨w.heap.size + 1 + 1, 0, none⟩), .pointer (some ⟨w.heap.size + 1 + 1 + 1, 0, none⟩), .pointer (some ⟨w.heap.size + 1 + 1 + 1 + 1, 0, none⟩), .pointer (some ⟨w.heap.size + 1 + 1 + 1 + 1 + 1, 0, none⟩)]) (by simp) (by simp [go_sem]) ?_
      refine (catch_idle _ _ _ _ _ _).mono ?_
      rintro e u' w'' ⟨rfl, rfl, hw6⟩
      subst hw6
      have X1 := Lib.hid Y1.out.x
      exact ⟨_, res_cells3 Tryz.results7 _ _ _ _ _ _ _ _ rfl rfl rfl X1.out.a X1.out.b X1.out.c Tryz.underlying26 rfl (by rw [List.length_map, KL.out]; kernel_rfl) Tryz.underlying28 rfl (by kernel_rfl) (by have c5 := X1.out.c.cell (c := 0) rfl; go_simp), Y1.out.x.ch, fun h => absurd HZ.out h, fun _ => ⟨by rw [HV.out]; rfl, Y1.out.x.st⟩⟩
    · have HV := Lib.hid (show (if o.ov = true ∧ 8 ≤ p.pg then (8 : Int) else 0) = 8 from if_pos ⟨hv, h8⟩)
      rw [hv] at cv
      have e8 : bits .and .i64 p.pg 8 = 8 := by obtain ⟨n, hn⟩ := Int.eq_ofNat_of_zero_le P0.1; rw [hn, pand8 n (by omega), if_pos (by omega)]
      have cg : w2.cell? ⟨w.heap.size + 1 + 1, 8, none⟩ = some (.int .i64 p.pg) := Y1.out.x.p.cell (c := 8) rfl
      have hv' := Lib.hid hv
      clear hv h8
      go_upto_region 7 with fail
      refine wp_region_held_drew (S := fun W => ∃ a b v, YG w W F o.bs ks [.int .i64 I.op, .int .i64 I.fm, .int .i64 (I.n : Int), .int .i64 (I.k : Int), .int .i64 (I.x : Int), .int .i64 (I.b : Int), .int .i64 I.d, .int .i64 (I.b' : Int), .int .i64 I.d', .int .i64 (I.l : Int), .int .i64 I.l', .int .i64 I.i] ([a0, a1, a2, a3, a4, a5, a6, a7, a8, a9, a10, a11, a12, a13, a14, a15].map (Value.int .u32)) p.v a b v gm I.z [a0, a1, a2, a3, a4, a5, a6, a7, a8, a9, a10, a11, a12, a13, a14, a15] o.rs (p.to o.cc o.pg o.ad).v o.ov) (by kernel_rfl) ⟨_, _, _, Y1.out.drew⟩ (fun hHeld => ?_)
      replace Y1 := Lib.hid Y1.out.drew
      repeat refine tkn ?_ (hQ := by exact fun _ _ _ h => exq h)
      refine tkl 3 (fun w h => by obtain ⟨_, _, _, h⟩ := h; exact h.m.rowR) ?_ (hn := by rw [List.length_map, KL.out]; kernel_rfl) (hQ := by exact fun _ _ _ h => exq h)
      repeat refine tkn ?_ (hQ := by exact fun _ _ _ h => exq h)
      refine tkl (cs := (p.to o.cc o.pg o.ad).v) 7 (fun w h => by obtain ⟨_, _, _, h⟩ := h; exact h.m.rowQ) ?_ (hQ := by exact fun _ _ _ h => exq h)
      repeat refine tkn ?_ (hQ := by exact fun _ _ _ h => exq h)
      refine tks_ (cs' := o.rs.map (Value.int .u32)) Y1.out.x.a (by rw [List.length_map, KL.out]; rfl) (one_u32 _) (by rw [List.length_map, KL.out]; kernel_rfl) (Y1.out.seta _) (fun _ h => ⟨_, _, _, h⟩) ?_
      clear Y1 hHeld
      intro w5 Y1 hHeld
      refine tks_ (cs' := (p.to o.cc o.pg o.ad).v) Y1.out.x.b (by rfl) (one_ps _) (by kernel_rfl) (Y1.out.setb _) (fun _ h => ⟨_, _, _, h⟩) ?_
      clear Y1 hHeld
      intro w6 Y1 hHeld
      refine tk_st (st_int (Y1.out.x.c.cell (c := 0) rfl) (Y1.out.x.c.free 0)) (Y1.out.setc 8) (fun _ h => ⟨_, _, _, h⟩) ?_ (by with_unfolding_all rfl) (by rfl) (by rfl) (by rfl) (by rfl) (by rfl) (fun w' => by simp only [Act.put, List.setIfInBounds_toArray, List.set_cons_zero, List.set_cons_succ]; try rfl)
      clear Y1 hHeld
      intro w7 Y1 hHeld
      refine wpAnyH_done (by kernel_rfl) ?_ _
      clear hHeld
      go_wp2
      refine leaves_cons (f := 19) (args := #[.pointer (some ⟨w.heap.size + 1, 0, none⟩), .pointer (some ⟨w.heap.size + 1 + 1, 0, none⟩), .pointer (some ⟨w.heap.size + 1 + 1 + 1, 0, none⟩), .pointer (some ⟨w.heap.size + 1 + 1 + 1 + 1, 0, none⟩), .pointer (some ⟨w.heap.size + 1 + 1 + 1 + 1 + 1, 0, none⟩)]) (by simp) (by simp [go_sem]) ?_
      refine (catch_idle _ _ _ _ _ _).mono ?_
      rintro e u' w'' ⟨rfl, rfl, hw6⟩
      subst hw6
      have X1 := Lib.hid Y1.out.x
      exact ⟨_, res_cells3 Tryz.results7 _ _ _ _ _ _ _ _ rfl rfl rfl X1.out.a X1.out.b X1.out.c Tryz.underlying26 rfl (by rw [List.length_map, KL.out]; kernel_rfl) Tryz.underlying28 rfl (by kernel_rfl) (by have c5 := X1.out.c.cell (c := 0) rfl; go_simp), Y1.out.x.ch, fun h => absurd HZ.out h, fun _ => ⟨by rw [HV.out]; rfl, Y1.out.x.st⟩⟩
    · have HV := Lib.hid (show (if o.ov = true ∧ 8 ≤ p.pg then (8 : Int) else 0) = 0 from if_neg (fun h => h8 h.2))
      rw [hv] at cv
      have e8 : bits .and .i64 p.pg 8 = 0 := by obtain ⟨n, hn⟩ := Int.eq_ofNat_of_zero_le P0.1; rw [hn, pand8 n (by omega), if_neg (by omega)]
      have cg : w2.cell? ⟨w.heap.size + 1 + 1, 8, none⟩ = some (.int .i64 p.pg) := Y1.out.x.p.cell (c := 8) rfl
      have hv' := Lib.hid hv
      clear hv h8
      go_upto_region 8 with fail
      refine wp_region_held_drew (S := fun W => ∃ a b v, YG w W F o.bs ks [.int .i64 I.op, .int .i64 I.fm, .int .i64 (I.n : Int), .int .i64 (I.k : Int), .int .i64 (I.x : Int), .int .i64 (I.b : Int), .int .i64 I.d, .int .i64 (I.b' : Int), .int .i64 I.d', .int .i64 (I.l : Int), .int .i64 I.l', .int .i64 I.i] ([a0, a1, a2, a3, a4, a5, a6, a7, a8, a9, a10, a11, a12, a13, a14, a15].map (Value.int .u32)) p.v a b v gm I.z [a0, a1, a2, a3, a4, a5, a6, a7, a8, a9, a10, a11, a12, a13, a14, a15] o.rs (p.to o.cc o.pg o.ad).v o.ov) (by kernel_rfl) ⟨_, _, _, Y1.out.drew⟩ (fun hHeld => ?_)
      replace Y1 := Lib.hid Y1.out.drew
      repeat refine tkn ?_ (hQ := by exact fun _ _ _ h => exq h)
      refine tkl 3 (fun w h => by obtain ⟨_, _, _, h⟩ := h; exact h.m.rowR) ?_ (hn := by rw [List.length_map, KL.out]; kernel_rfl) (hQ := by exact fun _ _ _ h => exq h)
      repeat refine tkn ?_ (hQ := by exact fun _ _ _ h => exq h)
      refine tkl (cs := (p.to o.cc o.pg o.ad).v) 7 (fun w h => by obtain ⟨_, _, _, h⟩ := h; exact h.m.rowQ) ?_ (hQ := by exact fun _ _ _ h => exq h)
      repeat refine tkn ?_ (hQ := by exact fun _ _ _ h => exq h)
      refine tks_ (cs' := o.rs.map (Value.int .u32)) Y1.out.x.a (by rw [List.length_map, KL.out]; rfl) (one_u32 _) (by rw [List.length_map, KL.out]; kernel_rfl) (Y1.out.seta _) (fun _ h => ⟨_, _, _, h⟩) ?_
      clear Y1 hHeld
      intro w5 Y1 hHeld
      refine tks_ (cs' := (p.to o.cc o.pg o.ad).v) Y1.out.x.b (by rfl) (one_ps _) (by kernel_rfl) (Y1.out.setb _) (fun _ h => ⟨_, _, _, h⟩) ?_
      clear Y1 hHeld
      intro w6 Y1 hHeld
      refine tk_st (st_int (Y1.out.x.c.cell (c := 0) rfl) (Y1.out.x.c.free 0)) (Y1.out.setc 0) (fun _ h => ⟨_, _, _, h⟩) ?_ (by with_unfolding_all rfl) (by rfl) (by rfl) (by rfl) (by rfl) (by rfl) (fun w' => by simp only [Act.put, List.setIfInBounds_toArray, List.set_cons_zero, List.set_cons_succ]; try rfl)
      clear Y1 hHeld
      intro w7 Y1 hHeld
      refine wpAnyH_done (by kernel_rfl) ?_ _
      clear hHeld
      go_wp2
      refine leaves_cons (f := 19) (args := #[.pointer (some ⟨w.heap.size + 1, 0, none⟩), .pointer (some ⟨w.heap.size + 1 + 1, 0, none⟩), .pointer (some ⟨w.heap.size + 1 + 1 + 1, 0, none⟩), .pointer (some ⟨w.heap.size + 1 + 1 + 1 + 1, 0, none⟩), .pointer (some ⟨w.heap.size + 1 + 1 + 1 + 1 + 1, 0, none⟩)]) (by simp) (by simp [go_sem]) ?_
      refine (catch_idle _ _ _ _ _ _).mono ?_
      rintro e u' w'' ⟨rfl, rfl, hw6⟩
      subst hw6
      have X1 := Lib.hid Y1.out.x
      exact ⟨_, res_cells3 Tryz.results7 _ _ _ _ _ _ _ _ rfl rfl rfl X1.out.a X1.out.b X1.out.c Tryz.underlying26 rfl (by rw [List.length_map, KL.out]; kernel_rfl) Tryz.underlying28 rfl (by kernel_rfl) (by have c5 := X1.out.c.cell (c := 0) rfl; go_simp), Y1.out.x.ch, fun h => absurd HZ.out h, fun _ => ⟨by rw [HV.out]; rfl, Y1.out.x.st⟩⟩
  · have hzc : o.c ≠ 0 := fun h => absurd (Z.out.1 h).1 (by simp)
    obtain ⟨rs, q, ov, hR⟩ := (Z.out.2 hzc).2
    replace X1 := Lib.hid (X1.out.ex hR.b hR.st hgm)
    have HZ := Lib.hid hzc
    clear hR Z R1 hzc HPC
    refine leaves_cons (f := 19) (args := #[.pointer (some ⟨w.heap.size + 1, 0, none⟩), .pointer (some ⟨w.heap.size + 1 + 1, 0, none⟩), .pointer (some ⟨w.heap.size + 1 + 1 + 1, 0, none⟩), .pointer (some ⟨w.heap.size + 1 + 1 + 1 + 1, 0, none⟩), .pointer (some ⟨w.heap.size + 1 + 1 + 1 + 1 + 1, 0, none⟩)]) (by simp) (by simp [go_sem]) ?_
    refine (pcatch_c (os := [a0, a1, a2, a3, a4, a5, a6, a7, a8, a9, a10, a11, a12, a13, a14, a15]) o.c [] X1.out rfl rfl rfl).mono ?_
    rintro e u' w'' ⟨rfl, rfl, hX⟩
    replace X1 := Lib.hid hX
    exact ⟨_, res_cells3 Tryz.results7 _ _ _ _ _ _ _ _ rfl rfl rfl X1.out.a X1.out.b X1.out.c Tryz.underlying26 rfl (by kernel_rfl) Tryz.underlying28 rfl (by kernel_rfl) (by have c5 := X1.out.c.cell (c := 0) rfl; go_simp), X1.out.ch, fun _ => ⟨rfl, X1.out.st⟩, fun h => absurd h HZ.out⟩
/-- THE CONTRACT of Exec of package general, whatever it is given but a nil storage -/
theorem pexec_x (op fm r1 r2 x2 b1 d1 b2 d2 l1 l2 i2 : Int) (p : Ps) (hl : os.length = 16) (ro : ∀ z ∈ os, 0 ≤ z ∧ z ≤ 4294967295) (h : St 77 w F bs ks) {O : Out} (hO : (xC op fm r1 r2 x2 b1 d1 b2 d2 l1 l2 i2 os p.m p.key p.cd p.il p.cc p.pg p.ad bs ks) = O) : Calls Tryz.prog 7 #[.agg #[.int .i64 op, .int .i64 fm, .int .i64 r1, .int .i64 r2, .int .i64 x2, .int .i64 b1, .int .i64 d1, .int .i64 b2, .int .i64 d2, .int .i64 l1, .int .i64 l2, .int .i64 i2], agR os, .agg p.v.toArray, .pointer (some ⟨F.g, 0, none⟩)] w fun e w' => e = .returned (.tuple #[agR O.rs, .agg (p.to O.cc O.pg O.ad).v.toArray, .int .i64 O.c]) ∧ St 77 w' F O.bs ks ∧ Ch w w' [F.gb] := by
  by_cases hv : kn op = true ∧ chk op fm [op, fm, r1, r2, x2, b1, d1, b2, d2, l1, l2, i2] = 0 ∧ pok p.m p.key p.cd p.il p.cc p.pg p.ad = true
  · obtain ⟨hkn, hck, hv⟩ := hv
    obtain ⟨-, hfo, ⟨hr10, hr11⟩, ⟨hr20, hr21⟩, ⟨hx0, hx1⟩, ⟨hb10, hb11⟩, hd1, ⟨hb20, hb21⟩, hd2, ⟨hl0, hl1⟩, -, hi2⟩ := chk_rng hck
    obtain ⟨n, rfl⟩ := Int.eq_ofNat_of_zero_le hr10
    obtain ⟨k, rfl⟩ := Int.eq_ofNat_of_zero_le hr20
    obtain ⟨xx, rfl⟩ := Int.eq_ofNat_of_zero_le hx0
    obtain ⟨bb1, rfl⟩ := Int.eq_ofNat_of_zero_le hb10
    obtain ⟨bb2, rfl⟩ := Int.eq_ofNat_of_zero_le hb20
    obtain ⟨ll, rfl⟩ := Int.eq_ofNat_of_zero_le hl0
    obtain ⟨-, -, -, q0, q1, q2, q3⟩ := (pok_iff _ _ _ _ _ _ _).1 hv
    obtain ⟨o, ho⟩ : ∃ o, exO ⟨os, p.key, p.il, p.cc, p.pg, p.ad, bs, ks⟩ op fm n k ((d1 + sumB os [bb1]) % 16777216) ((d2 + sumB os [bb2, xx]) % 16777216) ll i2 = o := ⟨_, rfl⟩
    have hx : (xC op fm (n : Int) (k : Int) (xx : Int) (bb1 : Int) d1 (bb2 : Int) d2 (ll : Int) l2 i2 os p.m p.key p.cd p.il p.cc p.pg p.ad bs ks) = if o.c = 0 then { o with c := if o.ov = true ∧ 8 ≤ p.pg then 8 else 0 } else ⟨o.c, os, p.cc, p.pg, p.ad, false, bs⟩ := by
      unfold xC
      rw [if_pos ⟨hkn, hck, hv⟩]
      simp only [Int.toNat_natCast, ho]
    rw [hx] at hO
    subst hO
    refine (pexec_ok (I := ⟨op, fm, n, k, xx, bb1, d1, bb2, d2, ll, l2, i2⟩) hl ro ⟨by dsimp only; omega, by dsimp only; omega, by dsimp only; omega, by dsimp only; omega, by dsimp only; omega, by dsimp only; omega, by dsimp only; omega, by dsimp only; omega, by dsimp only; omega⟩ ⟨q0, q1, q2, q3⟩ h hkn hck hv hfo.symm ho).mono ?_
    rintro e w' ⟨hc, hne, hz⟩
    by_cases h0 : o.c = 0
    · rw [if_pos h0]
      exact ⟨(hz h0).1, (hz h0).2, hc⟩
    · rw [if_neg h0]
      exact ⟨(hne h0).1, (hne h0).2, hc⟩
  · have hx : (xC op fm r1 r2 x2 b1 d1 b2 d2 l1 l2 i2 os p.m p.key p.cd p.il p.cc p.pg p.ad bs ks) = ⟨1, os, p.cc, p.pg, p.ad, false, bs⟩ := by unfold xC; rw [if_neg hv]
    rw [hx] at hO
    subst hO
    exact pexec_no op fm r1 r2 x2 b1 d1 b2 d2 l1 l2 i2 p hl h hv
end
end Go.Proofs.YthjdjbipfdigeaaGreat

namespace Go.Proofs.YthjdjbipfdigeaaGreat
open Go.RowKit
set_option maxRecDepth 100000
set_option linter.unusedVariables false
set_option linter.unusedSimpArgs false
theorem eq_items_u32 (w : World) (xs ys : List Int) : ∀ is : List Nat, (∀ i ∈ is, i < xs.length ∧ i < ys.length) → (Op.eqItems 9999 24 1 (xs.map (Value.int .u32)).toArray (ys.map (Value.int .u32)).toArray is).run Tryz.prog w = .ok (is.all fun i => xs.getD i 0 == ys.getD i 0) w
  | [], _ => by simp [Op.eqItems]
  | i :: is, h => by
    have hi := h i (by simp)
    have he : Tryz.prog.underlying 24 = some (.int .u32) := Tryz.underlying24
    have px : (part 24 (xs.map (Value.int .u32)).toArray (i * 1)).run Tryz.prog w = .ok (.int .u32 (xs.getD i 0)) w := by
      simp [part, isAgg, run_underlying he, List.getD, List.getElem?_eq_getElem hi.1]
    have py : (part 24 (ys.map (Value.int .u32)).toArray (i * 1)).run Tryz.prog w = .ok (.int .u32 (ys.getD i 0)) w := by
      simp [part, isAgg, run_underlying he, List.getD, List.getElem?_eq_getElem hi.2]
    have pe : (Op.equalIn 9999 24 (.int .u32 (xs.getD i 0)) (.int .u32 (ys.getD i 0))).run Tryz.prog w = .ok (xs.getD i 0 == ys.getD i 0) w := run_equalIn_int w 9998 24 .u32 .u32 _ _ he
    have ih := eq_items_u32 w xs ys is (fun j hj => h j (by simp [hj]))
    simp only [Op.eqItems, Sem.run_bind, px, py, pe, Result.andThen_ok, List.all_cons]
    cases hb : (xs.getD i 0 == ys.getD i 0)
    · simp
    · simpa using ih
def eqrB (a0 a1 a2 a3 a4 a5 a6 a7 a8 a9 a10 a11 a12 a13 a14 a15 b0 b1 b2 b3 b4 b5 b6 b7 b8 b9 b10 b11 b12 b13 b14 b15 : Int) : Bool := [a0, a1, a2, a3, a4, a5, a6, a7, a8, a9, a10, a11, a12, a13, a14, a15] == [b0, b1, b2, b3, b4, b5, b6, b7, b8, b9, b10, b11, b12, b13, b14, b15]
theorem eqr_run (a0 a1 a2 a3 a4 a5 a6 a7 a8 a9 a10 a11 a12 a13 a14 a15 b0 b1 b2 b3 b4 b5 b6 b7 b8 b9 b10 b11 b12 b13 b14 b15 : Int) (w : World) : (Op.equalIn 10000 26 (.agg #[.int .u32 a0, .int .u32 a1, .int .u32 a2, .int .u32 a3, .int .u32 a4, .int .u32 a5, .int .u32 a6, .int .u32 a7, .int .u32 a8, .int .u32 a9, .int .u32 a10, .int .u32 a11, .int .u32 a12, .int .u32 a13, .int .u32 a14, .int .u32 a15]) (.agg #[.int .u32 b0, .int .u32 b1, .int .u32 b2, .int .u32 b3, .int .u32 b4, .int .u32 b5, .int .u32 b6, .int .u32 b7, .int .u32 b8, .int .u32 b9, .int .u32 b10, .int .u32 b11, .int .u32 b12, .int .u32 b13, .int .u32 b14, .int .u32 b15])).run Tryz.prog w = .ok (eqrB a0 a1 a2 a3 a4 a5 a6 a7 a8 a9 a10 a11 a12 a13 a14 a15 b0 b1 b2 b3 b4 b5 b6 b7 b8 b9 b10 b11 b12 b13 b14 b15) w := by
  have hu : Tryz.prog.underlying 26 = some (.array 16 24) := by kernel_rfl
  obtain ⟨i, hi⟩ : ∃ i, Tryz.prog.info? 24 = some i := ⟨_, rfl⟩
  have hc : Tryz.prog.cellsOf 24 = 1 := by kernel_rfl
  rw [show (10000 : Nat) = 9999 + 1 from rfl, run_equalIn_array w 9999 _ _ hu hi, hc]
  have h := eq_items_u32 w [a0, a1, a2, a3, a4, a5, a6, a7, a8, a9, a10, a11, a12, a13, a14, a15] [b0, b1, b2, b3, b4, b5, b6, b7, b8, b9, b10, b11, b12, b13, b14, b15] (List.range 16) (fun i hi => by have := List.mem_range.mp hi; exact ⟨this, this⟩)
  refine h.trans ?_
  congr 1
theorem eqr_guard : Tryz.prog.eqGuardType Tryz.prog.depth 26 = false := by kernel_rfl
theorem eqr_refl (a0 a1 a2 a3 a4 a5 a6 a7 a8 a9 a10 a11 a12 a13 a14 a15 : Int) : eqrB a0 a1 a2 a3 a4 a5 a6 a7 a8 a9 a10 a11 a12 a13 a14 a15 a0 a1 a2 a3 a4 a5 a6 a7 a8 a9 a10 a11 a12 a13 a14 a15 = true := by simp [eqrB]
end Go.Proofs.YthjdjbipfdigeaaGreat

namespace Go.Proofs.YthjdjbipfdigeaaGreat
open Go.RowKit
set_option linter.unusedVariables false
set_option linter.unusedSimpArgs false
def eqpB (m k c i q g a m' k' c' i' q' g' a' : Int) (M W P M' W' P' : Bool) : Bool := m == m' && (k == k' && (M == M' && (W == W' && (P == P' && (c == c' && (i == i' && (q == q' && (g == g' && (a == a')))))))))
set_option maxHeartbeats 1000000 in
theorem eqp_run (m k c i q g a m' k' c' i' q' g' a' : Int) (M W P M' W' P' : Bool) (w : World) : (Op.equalIn 10000 28 (.agg #[.int .i64 m, .int .i64 k, .bool M, .bool W, .bool P, .int .i64 c, .int .i64 i, .int .i64 q, .int .i64 g, .int .i64 a]) (.agg #[.int .i64 m', .int .i64 k', .bool M', .bool W', .bool P', .int .i64 c', .int .i64 i', .int .i64 q', .int .i64 g', .int .i64 a'])).run Tryz.prog w = .ok (eqpB m k c i q g a m' k' c' i' q' g' a' M W P M' W' P') w := by
  have hS : Tryz.prog.underlying 28 = some (.struct (Tryz.prog.fieldsOf 28)) := by kernel_rfl
  have hp : Tryz.prog.stoodInHeld 28 = false := by kernel_rfl
  rw [show (10000 : Nat) = 9999 + 1 from rfl, run_equalIn_agg w 9999 28 _ _ hS hp]
  simp only [Program.fieldsOf, Tryz.underlying28]
  go_simp
  unfold eqpB
  by_cases h_m : m = m'
  case neg => simp [h_m]
  subst h_m
  by_cases h_k : k = k'
  case neg => simp [h_k]
  subst h_k
  by_cases h_M : M = M'
  case neg => simp [h_M]
  subst h_M
  by_cases h_W : W = W'
  case neg => simp [h_W]
  subst h_W
  by_cases h_P : P = P'
  case neg => simp [h_P]
  subst h_P
  by_cases h_c : c = c'
  case neg => simp [h_c]
  subst h_c
  by_cases h_i : i = i'
  case neg => simp [h_i]
  subst h_i
  by_cases h_q : q = q'
  case neg => simp [h_q]
  subst h_q
  by_cases h_g : g = g'
  case neg => simp [h_g]
  subst h_g
  by_cases h_a : a = a'
  case neg => simp [h_a]
  subst h_a
  simp
theorem eqp_guard : Tryz.prog.eqGuardType Tryz.prog.depth 28 = false := by kernel_rfl
end Go.Proofs.YthjdjbipfdigeaaGreat

namespace Go.Proofs.YthjdjbipfdigeaaGreat
open Go.RowKit
set_option linter.unusedVariables false

theorem take_next_eq9 {zs zs' : List Int} {k : Nat} (h : zs.take k = zs'.take k) (hk : k < zs.length) (hk' : k < zs'.length) (e : zs.getD k 0 = zs'.getD k 0) : zs.take (k + 1) = zs'.take (k + 1) := by
  rw [List.take_succ_eq_append_getElem hk, List.take_succ_eq_append_getElem hk', h]
  rw [List.getD_eq_getElem?_getD, List.getD_eq_getElem?_getD, List.getElem?_eq_getElem hk, List.getElem?_eq_getElem hk'] at e
  simp only [Option.getD_some] at e
  rw [e]

set_option maxHeartbeats 1000000 in
theorem same9_c (A : Option Addr) (len cap : Nat) (zs : List Int) (A' : Option Addr) (len' cap' : Nat) (zs' : List Int) (w : World) (hb : Byt w A len zs) (hb' : Byt w A' len' zs') (hl : (len : Int) ≤ 9223372036854775807) (hl' : (len' : Int) ≤ 9223372036854775807) :
    Calls Tryz.prog 33 #[.slice A len cap, .slice A' len' cap'] w fun e w' => e = .returned (.bool (decide (zs = zs'))) ∧ ∃ n, w' = w.drewN n := by
  by_cases hne : len = len'
  · subst hne
    have e0 : ((len : Int) != (len : Int)) = false := by simp
    have H1 := Lib.hid hb.1
    have H2 := Lib.hid hb'.1
    have HB := Lib.hid hb
    have HB' := Lib.hid hb'
    clear hb hb'
    go_enter Tryz.func33, Tryz.ntmps33
    go_wp2
    go_loopw [4, 5] (fun r i wr => ∃ k : Nat, k ≤ len ∧ i = .int .i64 k ∧ zs.take k = zs'.take k ∧ ∃ n, wr = w.drewN n) (fun _ i _ => len - (intOf i).toNat)
    case atStart => exact ⟨0, Nat.zero_le _, rfl, by simp, 0, rfl⟩
    case round =>
      obtain ⟨k, hk, rfl, heq, n, rfl⟩ := hrel
      have Heq := Lib.hid heq
      clear heq
      by_cases hlt : k < len
      · obtain ⟨b, off, rfl, hc⟩ := HB.out.at_ (by omega)
        obtain ⟨b', off', rfl, hc'⟩ := HB'.out.at_ (by omega)
        have c1 := hc k hlt
        have c2 := hc' k hlt
        clear hc hc'
        obtain ⟨x, hx⟩ : ∃ x, zs.getD k 0 = x := ⟨_, rfl⟩
        obtain ⟨y, hy⟩ : ∃ y, zs'.getD k 0 = y := ⟨_, rfl⟩
        rw [hx] at c1
        rw [hy] at c2
        have k1 : (k : Int) < (len : Int) := by omega
        have Hx := Lib.hid hx
        have Hy := Lib.hid hy
        clear hx hy
        by_cases hxy : x = y
        · subst hxy
          have t0 : (x != x) = false := by simp
          go_wp2
          go_quiet (fail)
          go_wp2
          go_roundw
          case rel => exact ⟨k + 1, by omega, by go_num, take_next_eq9 Heq.out (by rw [H1.out]; exact hlt) (by rw [H2.out]; exact hlt) (by rw [Hx.out, Hy.out]), _, rfl⟩
          case measure => simp [intOf]; omega
        · have t0 : (x != y) = true := by simpa using hxy
          have hfin := Lib.hid (show decide (zs = zs') = false from by rw [decide_eq_false_iff_not]; rintro rfl; exact hxy (Hx.out.symm.trans Hy.out))
          go_wp2
          go_quiet (fail)
          go_wp2
          go_ret
          exact ⟨by rw [hfin.out]; rfl, _, World.drewN_drewN _ _ _⟩
      · obtain rfl : k = len := by omega
        have hfin := Lib.hid (show decide (zs = zs') = true from by
          rw [decide_eq_true_iff]
          have := Heq.out
          rwa [List.take_of_length_le (by rw [H1.out]; exact Nat.le_refl _), List.take_of_length_le (by rw [H2.out]; exact Nat.le_refl _)] at this)
        go_wp2
        go_ret
        exact ⟨by rw [hfin.out]; rfl, _, rfl⟩
  · have e0 : ((len : Int) != (len' : Int)) = true := by simp; omega
    have hfin := Lib.hid (show decide (zs = zs') = false from by rw [decide_eq_false_iff_not]; rintro rfl; exact hne (hb.1.symm.trans hb'.1))
    clear hb hb' hne
    go_enter Tryz.func33, Tryz.ntmps33
    go_wp2
    go_ret
    exact ⟨by rw [hfin.out]; rfl, 0, rfl⟩
end Go.Proofs.YthjdjbipfdigeaaGreat

namespace Go.Proofs.YthjdjbipfdigeaaGreat
open Go.RowKit
set_option maxRecDepth 100000
set_option linter.unusedVariables false
set_option linter.unusedSimpArgs false
theorem eqp_refl (m k c i q g a : Int) (M W P : Bool) : eqpB m k c i q g a m k c i q g a M W P M W P = true := by simp [eqpB]
section
variable {w0 w w' : World} {F G : Foot} {bs ks : List Int}
theorem works_xc : xC 26 1 1 2 0 0 0 0 0 0 0 0 [0, 2147483647, 1, 0, 0, 0, 0, 0, 0, 0, 0, 0, 0, 0, 0, 0] 0 0 0 0 0 8 0 bs ks = ⟨8, [0, 2147483648, 1, 0, 0, 0, 0, 0, 0, 0, 0, 0, 0, 0, 0, 0], 3, 8, 0, true, bs⟩ := by
  have e : exO ⟨[0, 2147483647, 1, 0, 0, 0, 0, 0, 0, 0, 0, 0, 0, 0, 0, 0], 0, 0, 0, 8, 0, bs, ks⟩ 26 1 (1 : Int).toNat (2 : Int).toNat ((0 + sumB [0, 2147483647, 1, 0, 0, 0, 0, 0, 0, 0, 0, 0, 0, 0, 0, 0] [(0 : Int).toNat]) % 16777216) ((0 + sumB [0, 2147483647, 1, 0, 0, 0, 0, 0, 0, 0, 0, 0, 0, 0, 0, 0] [(0 : Int).toNat, (0 : Int).toNat]) % 16777216) (0 : Int).toNat 0 = ⟨0, [0, 2147483648, 1, 0, 0, 0, 0, 0, 0, 0, 0, 0, 0, 0, 0, 0], 3, 8, 0, true, bs⟩ := by kernel_rfl
  unfold xC
  rw [if_pos ⟨by decide +kernel, by decide +kernel, by decide +kernel⟩, e]
  rfl
theorem works_exec (h : St 77 w F bs ks) : Calls Tryz.prog 7 #[.agg #[.int .i64 26, .int .i64 1, .int .i64 1, .int .i64 2, .int .i64 0, .int .i64 0, .int .i64 0, .int .i64 0, .int .i64 0, .int .i64 0, .int .i64 0, .int .i64 0], .agg #[.int .u32 0, .int .u32 2147483647, .int .u32 1, .int .u32 0, .int .u32 0, .int .u32 0, .int .u32 0, .int .u32 0, .int .u32 0, .int .u32 0, .int .u32 0, .int .u32 0, .int .u32 0, .int .u32 0, .int .u32 0, .int .u32 0], .agg #[.int .i64 0, .int .i64 0, .bool false, .bool false, .bool false, .int .i64 0, .int .i64 0, .int .i64 0, .int .i64 8, .int .i64 0], .pointer (some ⟨F.g, 0, none⟩)] w fun e w' => e = .returned (.tuple #[.agg #[.int .u32 0, .int .u32 2147483648, .int .u32 1, .int .u32 0, .int .u32 0, .int .u32 0, .int .u32 0, .int .u32 0, .int .u32 0, .int .u32 0, .int .u32 0, .int .u32 0, .int .u32 0, .int .u32 0, .int .u32 0, .int .u32 0], .agg #[.int .i64 0, .int .i64 0, .bool false, .bool false, .bool false, .int .i64 0, .int .i64 0, .int .i64 3, .int .i64 8, .int .i64 0], .int .i64 8]) ∧ Ch w w' [F.gb] :=
  (pexec_x 26 1 1 2 0 0 0 0 0 0 0 0 (os := [0, 2147483647, 1, 0, 0, 0, 0, 0, 0, 0, 0, 0, 0, 0, 0, 0]) { m := 0, key := 0, M := false, W := false, P := false, cd := 0, il := 0, cc := 0, pg := 8, ad := 0 } rfl (by decide) h works_xc).mono fun e w' hh => ⟨hh.1.trans rfl, hh.2.2⟩
attribute [local go_sem] eqr_run eqr_guard eqr_refl eqp_run eqp_guard eqp_refl
set_option maxRecDepth 1000000 in
set_option maxHeartbeats 8000000 in
theorem works_c (w : World) : Calls Tryz.prog 6 #[] w fun e w' => e = .returned (.bool true) ∧ Below w.heap.size w w' := by
  have NC := Lib.hid (new_yes 1 (by omega) (by omega) w)
  rw [show (((2048 * 1 : Nat) : Int)) = 2048 from rfl] at NC
  go_enter Tryz.func6, Tryz.ntmps6
  go_wp2_with fail
  refine NC.out.mono ?_
  rintro e w1 ⟨v, rfl, F, rfl, hS, hb, h1, h2, h3⟩
  have HB1 := Lib.hid hb
  have HF := Lib.hid h2
  have HS := Lib.hid hS
  clear hS hb NC h1 h2 h3
  go_wp2_with (go_at_call 7; refine nx (works_exec HS.out) ?_; intro w2 HC)
  have HB2 := Lib.hid (HB1.out.trans (HC.out.below HB1.out.size (by have := HF.out; simp; omega)))
  go_ret
  exact ⟨by rfl, (HB2.out.alloc HB2.out.size _).alloc (by simp; have := HB2.out.size; omega) _⟩
/-- two storages that are the same -/
structure LK (w0 w : World) (F G : Foot) (bs ks : List Int) : Prop where
  s : St 77 w F bs ks
  t : St 70 w G bs ks
  b : Below w0.heap.size w0 w
theorem LK.keep (h : LK w0 w F G bs ks) (hb : Below w.heap.size w w') : LK w0 w' F G bs ks := ⟨h.s.belowS hb, h.t.belowS hb, h.b.trans (hb.mono h.b.size)⟩
theorem LK.drew (h : LK w0 w F G bs ks) : LK w0 w.drew F G bs ks := h.keep (dBelow' (Below.refl _ _) 1)
theorem St.bytA {T : TypeId} {w : World} {F : Foot} {bs ks : List Int} (h : St T w F bs ks) : Byt w (some ⟨F.gb, 0, none⟩) bs.length bs := by
  have := h.byt (a := 0) (n := bs.length) (by omega)
  rwa [List.drop_zero, List.take_length] at this
theorem get_whole (bs : List Int) : sGet bs 0 (bs.length : Int) = bs := by
  rw [show (0 : Int) = ((0 : Nat) : Int) from rfl, sGet_yes (N := bs.length) (a := 0) (k := bs.length) rfl (by simp [sIn])]; simp
set_option maxRecDepth 1000000 in
set_option maxHeartbeats 8000000 in
theorem like_c (hs : St 77 w F bs ks) (ht : St 70 w G bs ks) : Calls Tryz.prog 9 #[.pointer (some ⟨F.g, 0, none⟩), .pointer (some ⟨G.g, 0, none⟩)] w fun e w' => e = .returned (.bool true) ∧ Below w.heap.size w w' := by
  have R0 := Lib.hid (show LK w w F G bs ks from ⟨hs, ht, Below.refl _ _⟩)
  have hn := hs.ln
  have m0 := hs.l0
  have m1 := hs.l1
  have SZ := Lib.hid (fun W (h : LK w W F G bs ks) => size_c W h.s)
  have GW := get_whole bs
  have BC := Lib.hid (fun W (h : LK w W F G bs ks) => bytes_c W h.s 0 (bs.length : Int))
  rw [GW] at BC
  have TB := Lib.hid (fun W (h : LK w W F G bs ks) => h.t.bytA)
  have C0 := Lib.hid (fun W (h : LK w W F G bs ks) => h.t.cell0)
  have C1 := Lib.hid (fun W (h : LK w W F G bs ks) => h.t.cell1)
  have CK := Lib.hid (fun W (h : LK w W F G bs ks) i hi => h.t.key (i := i) hi)
  have KO := Lib.hid (fun W (h : LK w W F G bs ks) (X : Int) (k : Nat) (hX : X = 2048 * (k : Int)) (hk : k < ks.length) => show Calls Tryz.prog 31 #[.pointer (some ⟨F.g, 0, none⟩), .int .i64 X] W fun e w' => e = .returned (.tuple #[.int .i64 (ks.getD k 0), .bool true]) ∧ W = w' from by
    have e1 : sAt bs.length X = true := by simp [sAt]; omega
    have e2 : sKV bs.length ks X = ks.getD k 0 := by unfold sKV; rw [if_pos e1, show (X / 2048).toNat = k by omega]
    have := keyof_c W h.s X
    rw [e1, e2] at this
    exact this)
  obtain ⟨N, hN⟩ : ∃ N, bs.length = N := ⟨_, rfl⟩
  obtain ⟨m, hm⟩ : ∃ m, ks.length = m := ⟨_, rfl⟩
  rw [hm] at C1 CK KO m0 m1
  rw [hN] at C0 SZ BC TB
  rw [hN, hm] at hn
  have BL := Lib.hid hN
  clear GW hN hm hs ht
  go_enter Tryz.func9, Tryz.ntmps9
  go_wp2
  go_loopw [5, 6, 7] (fun x _ _ W => ∃ k : Nat, k ≤ m ∧ x = .int .i64 (2048 * (k : Int)) ∧ LK w W F G bs ks) (fun x _ _ _ => 2048 * m - (intOf x).toNat)
  case atStart => exact ⟨0, by omega, rfl, R0.out⟩
  case round =>
    obtain ⟨k, hk, rfl, hW⟩ := hrel
    have W1 := Lib.hid hW
    have c0 := C0.out _ hW
    have c1 := C1.out _ hW
    obtain ⟨X, hX⟩ : ∃ X : Int, 2048 * (k : Int) = X := ⟨_, rfl⟩
    rw [hX]
    by_cases hlt : k < m
    · have i0 : X < (N : Int) := by omega
      have i1 : (k : Int) < (m : Int) := by omega
      have ck := CK.out _ hW k hlt
      have q1 : IntKind.i64.wrap (X + 2048) = X + 2048 := wrap_i64_id (by omega) (by omega)
      have q2 : X.tdiv 2048 = (k : Int) := by rw [Int.tdiv_eq_ediv_of_nonneg (by omega)]; omega
      have q3 : IntKind.i64.wrap (k : Int) = (k : Int) := wrap_i64_id (by omega) (by omega)
      have K1 := Lib.hid (KO.out _ hW X k hX.symm hlt)
      obtain ⟨y, hy⟩ : ∃ y, ks.getD k 0 = y := ⟨_, rfl⟩
      rw [hy] at ck K1
      have HX := Lib.hid hX
      clear hX hW hy
      go_wp2_with (go_at_call 31; refine nz K1.out ?_)
      exact ⟨⟨k + 1, by omega, by rw [← HX.out]; exact congrArg (Value.int .i64) (by omega), W1.out⟩, by have := HX.out; simp [intOf]; omega⟩
    · have i0 : ¬ X < (N : Int) := by omega
      clear hW hX
      go_upto_region 7 with fail
      refine wp_region_held_drew (S := fun W => W.cell? ⟨G.g, 0, none⟩ = some (.slice (some ⟨G.gb, 0, none⟩) N G.cb) ∧ LK w W F G bs ks) (by kernel_rfl) ⟨C0.out _ W1.out.drew, W1.out.drew⟩ (fun hHeld => ?_)
      replace W1 := Lib.hid W1.out.drew
      clear c0 c1
      repeat refine tkn ?_
      refine tki 6 ?_
      refine tkz (SZ.out _ W1.out) ?_
      repeat refine tkn ?_
      refine tki 14 ?_
      repeat refine tkn ?_
      refine tkce (R := fun v W => ∃ b c : Nat, v = .slice (some ⟨b, 0, none⟩) N c ∧ Byt W (some ⟨b, 0, none⟩) N bs ∧ LK w W F G bs ks) ((BC.out _ W1.out).mono ?_) (fun _ W ⟨_, _, _, _, h⟩ => ⟨C0.out _ h, h⟩) ?_
      · rintro e W ⟨A, n, c, rfl, hO, hb⟩
        obtain rfl : n = N := hO.len.symm.trans BL.out
        obtain ⟨b, cap, hv, h1, h2, -, -⟩ := hO.pos (by omega)
        injection hv with e1 e2 e3
        subst e1 e3
        exact ⟨_, rfl, b, _, rfl, hO.byt, W1.out.keep hb⟩
      clear W1 hHeld
      intro v w1 Z hHeld
      obtain ⟨b, c, rfl, hy, hW⟩ := Z.out
      have W1 := Lib.hid hW
      have SC := Lib.hid (same9_c _ _ c _ _ _ G.cb _ w1 hy (TB.out _ hW) (by omega) (by omega))
      clear Z hy hW
      repeat refine tkn ?_
      refine tkc (v := .bool true) (R := fun W => LK w W F G bs ks) (SC.out.mono ?_) (fun W h => ⟨C0.out _ h, h⟩) ?_
      · rintro e W ⟨rfl, n, rfl⟩
        exact ⟨by simp, W1.out.keep (dBelow' (Below.refl _ _) n)⟩
      clear W1 SC hHeld
      intro w2 W1 hHeld
      repeat refine tkn ?_
      refine wpAnyH_done (by with_unfolding_all rfl) ?_ _
      clear hHeld
      go_wp2
      go_ret
      exact ⟨rfl, W1.out.b⟩
end
end Go.Proofs.YthjdjbipfdigeaaGreat

