/- Contracts and laws on the way to the statement, text 9 of 10. Conditions: as each states them. -/
import Derived.Test.YtljajnaclpbecaaGreatDoorDg2
import Derived.Test.YtljajnaclpbecaaGreatDoorDg4
import Derived.Test.YtljajnaclpbecaaGreatDoorDg6
import Derived.Test.YtljajnaclpbecaaGreatDoorDg7
import Derived.Test.YtljajnaclpbecaaGreatDoorDg8
namespace Go.Proofs.YtljajnaclpbecaaGreatDoor
open Go.RowKit
set_option maxRecDepth 100000
set_option linter.unusedVariables false
set_option linter.unusedSimpArgs false
set_option maxRecDepth 1000000 in
set_option maxHeartbeats 8000000 in
theorem dcatch_idle (r p nr np en : Value) (w : World) : CallsD Tryz.prog 68 #[r, p, nr, np, en] .returning w fun e u' w' => e = .returned (.tuple #[]) ∧ u' = .returning ∧ w' = w := by
  refine callsD_of_wpS Tryz.func68 rfl fun c₀ cs hu => ?_
  simp only [Tryz.ntmps68, List.size_toArray, List.length_cons, List.length_nil, Nat.reduceAdd, Nat.reduceSub, Array.replicate_succ, Array.replicate_zero, List.push_toArray, List.append_toArray, List.nil_append, List.cons_append]
  apply wpS_seq
  apply wpS_region
  show wpOpsS _ _ _ [0] _ _ _
  refine opsS_idle (w' := w) rfl (by kernel_rfl) (by kernel_rfl) (by simp [recoverD, hu]) ?_
  simp only [Act.put, List.setIfInBounds_toArray, List.set_cons_zero, List.set_cons_succ]
  unfold wpOpsS
  simp only [Exit.thenS]
  refine wpS_of_wp ?_
  go_wp2
  exact ⟨rfl, .returning, by cases c₀; simp_all, .tuple #[], by simp [results, Tryz.results68], rfl, rfl, rfl⟩
theorem exqd {R : Ending → World → Prop} {c : List PanicEntry} {a : Act} {d : Nat} {v : Value} {w : World} (h : bodyPostD Tryz.prog Tryz.f53 R (.panic c) (a.put (some d) v) w) (hd : (d != 8 && d != 9 && d != 10) = true := by rfl) : bodyPostD Tryz.prog Tryz.f53 R (.panic c) a w := by
  refine leaves_congr (fun w => ?_) _ _ _ h
  simp only [Bool.and_eq_true, bne_iff_ne, ne_eq] at hd
  simp [results, Act.put, Tryz.results53, Array.getElem?_setIfInBounds, hd]
section
variable {w0 w w' : World} {g : Nat} {F : Foot} {ix rs : List Int} {p : Ps} {bs bs' ks : List Int} {op fm r1 r2 x2 b1 d1 b2 d2 l1 l2 i2 : Int}
theorem DR.rb (h : DR w0 w g F ix rs p bs ks) : DR w w g F ix rs p bs ks := { h with b := Ch.refl _ _ }
theorem DR.row (h : DR w0 w g F ix rs p bs ks) {k : Nat} (h1 : k ≠ g) (h2 : k ≠ F.g) (h3 : k ≠ F.gb) (h4 : k ≠ F.gk) (cs : Array Value) : DR (w.setRow k cs) (w.setRow k cs) g F ix rs p bs ks := { h with m := h.m.rowOth h1.symm _, st := h.st.rowOth (by omega) (by omega) (by omega) _, b := Ch.refl _ _ }
theorem DR.oth (h : DR w0 w g F ix rs p bs ks) {k : Nat} (h1 : k ≠ g) (h2 : k ≠ F.g) (h3 : k ≠ F.gb) (h4 : k ≠ F.gk) (v : Value) : DR (w.setCell ⟨k, 0, none⟩ v) (w.setCell ⟨k, 0, none⟩ v) g F ix rs p bs ks := by
  have e := fun j hj => Below.heap_setCell w ⟨k, 0, none⟩ v j hj
  exact { h with m := h.m.kept (e _ h1.symm), st := h.st.keep (e _ h2.symm) (e _ h3.symm) (e _ h4.symm), b := Ch.refl _ _ }
/-- where exec has ended: Exec's blocks, and the run -/
structure YD (w0 w : World) (F : Foot) (bs ks : List Int) (z r zp a b : List Value) (v : Int) (g : Nat) (ix rs : List Int) (p : Ps) : Prop where
  x : XG w0 w F bs ks z r zp a b v
  d : DR w w g F ix rs p bs ks
  n : w0.heap.size + 1 + 1 + 1 + 1 + 1 < g
variable {z r zp a b : List Value} {v : Int}
theorem YD.drew (h : YD w0 w F bs ks z r zp a b v g ix rs p) : YD w0 w.drew F bs ks z r zp a b v g ix rs p := ⟨h.x.drew, h.d.drew.rb, h.n⟩
theorem YD.seta (h : YD w0 w F bs ks z r zp a b v g ix rs p) (a' : List Value) : YD w0 (w.setRow (w0.heap.size + 1 + 1 + 1) a'.toArray) F bs ks z r zp a' b v g ix rs p := have hn := h.n; have hg := h.x.gs; ⟨h.x.seta a', h.d.row (by omega) (by omega) (by omega) (by omega) _, h.n⟩
theorem YD.setb (h : YD w0 w F bs ks z r zp a b v g ix rs p) (b' : List Value) : YD w0 (w.setRow (w0.heap.size + 1 + 1 + 1 + 1) b'.toArray) F bs ks z r zp a b' v g ix rs p := have hn := h.n; have hg := h.x.gs; ⟨h.x.setb b', h.d.row (by omega) (by omega) (by omega) (by omega) _, h.n⟩
theorem YD.setc (h : YD w0 w F bs ks z r zp a b v g ix rs p) (v' : Int) : YD w0 (w.setCell ⟨w0.heap.size + 1 + 1 + 1 + 1 + 1, 0, none⟩ (.int .i64 v')) F bs ks z r zp a b v' g ix rs p := have hn := h.n; have hg := h.x.gs; ⟨h.x.setc v', h.d.oth (by omega) (by omega) (by omega) (by omega) _, h.n⟩
end
section
variable {w0 w w' : World} {g : Nat} {F : Foot} {ix rs : List Int} {p : Ps} {bs bs' ks : List Int} {op fm r1 r2 x2 b1 d1 b2 d2 l1 l2 i2 : Int}
set_option maxRecDepth 1000000 in
set_option maxHeartbeats 8000000 in
theorem dexec_ok (op fm r1 r2 x2 b1 d1 b2 d2 l1 l2 i2 : Int) (p : Ps) (hl : rs.length = 16) (h : St 63 w F bs ks) (hk : ∀ W, Calls Tryz.prog 52 #[.int .i64 op] W fun e w' => e = .returned (.bool true) ∧ W = w') (h2 : chk op fm [op, fm, r1, r2, x2, b1, d1, b2, d2, l1, l2, i2] = 0) (h3 : pok p.m p.key p.cd p.il p.cc p.pg p.ad = true) (hex : ∀ (W : World) (g : Nat), DR W W g F [op, fm, r1, r2, x2, b1, d1, b2, d2, l1, l2, i2] rs p bs ks → Ch w W [F.gb] → Calls Tryz.prog 69 #[.pointer (some ⟨g, 0, none⟩)] W fun e w' => e = .returned (.int .i64 0) ∧ DR W w' g F [op, fm, r1, r2, x2, b1, d1, b2, d2, l1, l2, i2] rs p bs' ks ∧ Ch W w' [F.gb]) : Calls Tryz.prog 53 #[.agg #[.int .i64 op, .int .i64 fm, .int .i64 r1, .int .i64 r2, .int .i64 x2, .int .i64 b1, .int .i64 d1, .int .i64 b2, .int .i64 d2, .int .i64 l1, .int .i64 l2, .int .i64 i2], .agg (rs.map (Value.int .u32)).toArray, .agg p.v.toArray, .pointer (some ⟨F.g, 0, none⟩)] w fun e w' => e = .returned (.tuple #[.agg (rs.map (Value.int .u32)).toArray, .agg p.v.toArray, .int .i64 0]) ∧ St 63 w' F bs' ks ∧ Ch w w' [F.gb] := by
  have hmf : ∀ (fn : Fn) (first cap : Array Value) (w : World), (Instr.makeFunc fn first cap).run Tryz.prog w = .ok (.func fn first cap) w := fun _ _ _ _ => rfl
  have CK := Lib.hid (fun W => icheck_c op fm r1 r2 x2 b1 d1 b2 d2 l1 l2 i2 W)
  rw [h2] at CK
  have KC := Lib.hid (fun W => (hk W).mono (R' := fun e w' => e = .returned (.bool true) ∧ Below W.heap.size W w') fun e w' h => ⟨h.1, h.2 ▸ Below.refl _ _⟩)
  have X0 := Lib.hid (XG.start h)
  have HPC := Lib.hid hex
  have gs0 : F.g < w.heap.size ∧ F.gb < w.heap.size ∧ F.gk < w.heap.size := ⟨h.ltg, h.ltb, h.ltk⟩
  have PN := Lib.hid (fun W (hW : St 63 W F bs ks) (hle : w.heap.size ≤ W.heap.size) => show DR (W.alloc (.cells (drC F [op, fm, r1, r2, x2, b1, d1, b2, d2, l1, l2, i2] rs p).toArray 132)) (W.alloc (.cells (drC F [op, fm, r1, r2, x2, b1, d1, b2, d2, l1, l2, i2] rs p).toArray 132)) W.heap.size F [op, fm, r1, r2, x2, b1, d1, b2, d2, l1, l2, i2] rs p bs ks from ⟨Bk.new _ _ _, hW.belowS ((Below.refl _ _).alloc (Nat.le_refl _) _), Ch.refl _ _, rfl, hl, by omega, by omega, by omega⟩)
  obtain ⟨a0, a1, a2, a3, a4, a5, a6, a7, a8, a9, a10, a11, a12, a13, a14, a15, rfl⟩ := list_16 hl
  clear hex h2 hl h hk
  go_enter_defers Tryz.func53, Tryz.ntmps53
  go_upto_region 1 with fail
  have X1 := Lib.hid (X0.out [.int .i64 op, .int .i64 fm, .int .i64 r1, .int .i64 r2, .int .i64 x2, .int .i64 b1, .int .i64 d1, .int .i64 b2, .int .i64 d2, .int .i64 l1, .int .i64 l2, .int .i64 i2] ([a0, a1, a2, a3, a4, a5, a6, a7, a8, a9, a10, a11, a12, a13, a14, a15].map (Value.int .u32)) p.v [.int .u32 0, .int .u32 0, .int .u32 0, .int .u32 0, .int .u32 0, .int .u32 0, .int .u32 0, .int .u32 0, .int .u32 0, .int .u32 0, .int .u32 0, .int .u32 0, .int .u32 0, .int .u32 0, .int .u32 0, .int .u32 0] [.int .i64 0, .int .i64 0, .bool false, .bool false, .bool false, .int .i64 0, .int .i64 0, .int .i64 0, .int .i64 0, .int .i64 0] 0)
  refine X1.out.opn ?_
  intro _ B1 B2
  refine B1.opn12 ?_
  refine B2.opn10 ?_
  clear B1 B2
  intros
  go_upto_region 3 with (first
      | (go_at_call 52; refine nx (X1.out.call (KC.out _)) ?_; intro w1 X1; refine X1.out.opn ?_; intro _ B1 B2; refine B1.opn12 ?_; refine B2.opn10 ?_; clear B1 B2; intros)
      | (go_at_call 41; refine nx (X1.out.call (CK.out _)) ?_; intro w1 X1; refine X1.out.opn ?_; intro _ B1 B2; refine B1.opn12 ?_; refine B2.opn10 ?_; clear B1 B2; intros)
      | (go_at_call 22; refine nx (X1.out.call (h3 ▸ valid_c _ _ _ _ _ _ _ _ _ _ _)) ?_; intro w1 X1; refine X1.out.opn ?_; intro _ B1 B2; refine B1.opn12 ?_; refine B2.opn10 ?_; clear B1 B2; intros))
  clear X0
  have CLT := Lib.hid X1.out.c.lt
  have B0 := Lib.hid X1.out.z
  have BR := Lib.hid X1.out.r
  have BP := Lib.hid X1.out.p
  go_upto_region 4 with fail
  refine wp_region_list ?_
  simp only [List.append_eq, List.cons_append, List.nil_append]
  refine lsl B0.out ?_
  refine lsl BR.out ?_
  refine lsl (cs := [.int .i64 p.m, .int .i64 p.key, .bool p.M, .bool p.W, .bool p.P, .int .i64 p.cd, .int .i64 p.il, .int .i64 p.cc, .int .i64 p.pg, .int .i64 p.ad]) BP.out ?_
  refine lsv ?_ (w' := w1)
  refine lsv (v := .agg (drC F [op, fm, r1, r2, x2, b1, d1, b2, d2, l1, l2, i2] [a0, a1, a2, a3, a4, a5, a6, a7, a8, a9, a10, a11, a12, a13, a14, a15] p).toArray) (w' := w1) ?_ (hr := by go_simp; kernel_rfl)
  have hsz : (drC F [op, fm, r1, r2, x2, b1, d1, b2, d2, l1, l2, i2] [a0, a1, a2, a3, a4, a5, a6, a7, a8, a9, a10, a11, a12, a13, a14, a15] p).toArray.size = 39 := rfl
  refine lsv (v := .pointer (some ⟨w1.heap.size, 0, none⟩)) (w' := w1.alloc (.cells (drC F [op, fm, r1, r2, x2, b1, d1, b2, d2, l1, l2, i2] [a0, a1, a2, a3, a4, a5, a6, a7, a8, a9, a10, a11, a12, a13, a14, a15] p).toArray 132)) ?_
  refine lsv ?_
  refine wpList_nil ?_
  have R1 := Lib.hid (PN.out _ X1.out.st X1.out.ch.size)
  replace X1 := Lib.hid (X1.out.keep ((Below.refl _ _).alloc (Nat.le_refl _) (.cells (drC F [op, fm, r1, r2, x2, b1, d1, b2, d2, l1, l2, i2] [a0, a1, a2, a3, a4, a5, a6, a7, a8, a9, a10, a11, a12, a13, a14, a15] p).toArray 132)))
  have hgm : w.heap.size + 1 + 1 + 1 + 1 + 1 < w1.heap.size := by have := B0.out.lt; have := CLT.out; omega
  obtain ⟨gm, hg⟩ : ∃ gm, w1.heap.size = gm := ⟨_, rfl⟩
  obtain ⟨W1, hW⟩ : ∃ W1, w1.alloc (.cells (drC F [op, fm, r1, r2, x2, b1, d1, b2, d2, l1, l2, i2] [a0, a1, a2, a3, a4, a5, a6, a7, a8, a9, a10, a11, a12, a13, a14, a15] p).toArray 132) = W1 := ⟨_, rfl⟩
  rw [hW, hg] at R1
  rw [hW] at X1 ⊢
  rw [hg] at hgm
  simp only [hg]
  clear hsz hW hg B0 BR BP PN CLT
  go_upto_region 5 with fail
  refine wp_region_list ?_
  simp only [List.append_eq, List.cons_append, List.nil_append]
  refine lsv ?_ (w' := W1)
  refine lsc (HPC.out _ _ R1.out X1.out.ch) ?_
  intro w2 Z
  have Y1 : Hid (YD w w2 F bs' ks [.int .i64 op, .int .i64 fm, .int .i64 r1, .int .i64 r2, .int .i64 x2, .int .i64 b1, .int .i64 d1, .int .i64 b2, .int .i64 d2, .int .i64 l1, .int .i64 l2, .int .i64 i2] ([a0, a1, a2, a3, a4, a5, a6, a7, a8, a9, a10, a11, a12, a13, a14, a15].map (Value.int .u32)) p.v [.int .u32 0, .int .u32 0, .int .u32 0, .int .u32 0, .int .u32 0, .int .u32 0, .int .u32 0, .int .u32 0, .int .u32 0, .int .u32 0, .int .u32 0, .int .u32 0, .int .u32 0, .int .u32 0, .int .u32 0, .int .u32 0] [.int .i64 0, .int .i64 0, .bool false, .bool false, .bool false, .int .i64 0, .int .i64 0, .int .i64 0, .int .i64 0, .int .i64 0] 0 gm [op, fm, r1, r2, x2, b1, d1, b2, d2, l1, l2, i2] [a0, a1, a2, a3, a4, a5, a6, a7, a8, a9, a10, a11, a12, a13, a14, a15] p) := Lib.hid ⟨X1.out.ex (Z.out.2.mono (by simp)) Z.out.1.st hgm, Z.out.1.rb, hgm⟩
  clear Z R1 X1 HPC
  refine lsk (w' := w2.setCell ⟨w.heap.size + 1 + 1 + 1 + 1 + 1, 0, none⟩ (.int .i64 0)) (by have c5 := Y1.out.x.c.cell (c := 0) rfl; have f5 := Y1.out.x.c.free 0; go_simp) ?_
  refine wpList_nil ?_
  replace Y1 := Lib.hid (Y1.out.setc 0)
  obtain ⟨w3, hW⟩ : ∃ V, w2.setCell ⟨w.heap.size + 1 + 1 + 1 + 1 + 1, 0, none⟩ (.int .i64 0) = V := ⟨_, rfl⟩
  rw [hW] at Y1
  rw [hW]
  clear hW
  go_upto_region 6 with fail
  refine wp_region_held_drew (S := fun W => ∃ a b, YD w W F bs' ks [.int .i64 op, .int .i64 fm, .int .i64 r1, .int .i64 r2, .int .i64 x2, .int .i64 b1, .int .i64 d1, .int .i64 b2, .int .i64 d2, .int .i64 l1, .int .i64 l2, .int .i64 i2] ([a0, a1, a2, a3, a4, a5, a6, a7, a8, a9, a10, a11, a12, a13, a14, a15].map (Value.int .u32)) p.v a b 0 gm [op, fm, r1, r2, x2, b1, d1, b2, d2, l1, l2, i2] [a0, a1, a2, a3, a4, a5, a6, a7, a8, a9, a10, a11, a12, a13, a14, a15] p) (by kernel_rfl) ⟨_, _, Y1.out.drew⟩ (fun hHeld => ?_)
  replace Y1 := Lib.hid Y1.out.drew
  repeat refine tkn ?_ (hQ := by exact fun _ _ _ h => exqd h)
  refine tkl 3 (fun w h => by obtain ⟨_, _, h⟩ := h; exact h.d.rowR) ?_ (hQ := by exact fun _ _ _ h => exqd h)
  repeat refine tkn ?_ (hQ := by exact fun _ _ _ h => exqd h)
  refine tkl (cs := p.v) 7 (fun w h => by obtain ⟨_, _, h⟩ := h; exact h.d.rowP) ?_ (hQ := by exact fun _ _ _ h => exqd h)
  refine tkn (v := .int .i64 0) ?_ (y := by intro w hSw; obtain ⟨_, _, h⟩ := hSw; have c5 := h.x.c.cell (c := 0) rfl; go_simp) (hQ := by exact fun _ _ _ h => exqd h)
  refine tks_ (cs' := [a0, a1, a2, a3, a4, a5, a6, a7, a8, a9, a10, a11, a12, a13, a14, a15].map (Value.int .u32)) Y1.out.x.a (by rfl) (one_u32 _) (by kernel_rfl) (Y1.out.seta _) (fun _ h => ⟨_, _, h⟩) ?_
  clear Y1 hHeld
  intro w5 Y1 hHeld
  refine tks_ (cs' := p.v) Y1.out.x.b (by rfl) (one_ps _) (by kernel_rfl) (Y1.out.setb _) (fun _ h => ⟨_, _, h⟩) ?_
  clear Y1 hHeld
  intro w6 Y1 hHeld
  refine tk_st (st_int (Y1.out.x.c.cell (c := 0) rfl) (Y1.out.x.c.free 0)) (Y1.out.setc 0) (fun _ h => ⟨_, _, h⟩) ?_ (by with_unfolding_all rfl) (by rfl) (by rfl) (by rfl) (by rfl) (by rfl) (fun w' => by simp only [Act.put, List.setIfInBounds_toArray, List.set_cons_zero, List.set_cons_succ]; try rfl)
  clear Y1 hHeld
  intro w7 Y1 hHeld
  refine wpAnyH_done (by kernel_rfl) ?_ _
  clear hHeld
  go_wp2
  refine leaves_cons (f := 68) (args := #[.pointer (some ⟨w.heap.size + 1, 0, none⟩), .pointer (some ⟨w.heap.size + 1 + 1, 0, none⟩), .pointer (some ⟨w.heap.size + 1 + 1 + 1, 0, none⟩), .pointer (some ⟨w.heap.size + 1 + 1 + 1 + 1, 0, none⟩), .pointer (some ⟨w.heap.size + 1 + 1 + 1 + 1 + 1, 0, none⟩)]) (by simp) (by simp [go_sem]) ?_
  refine (dcatch_idle _ _ _ _ _ _).mono ?_
  rintro e u' w'' ⟨rfl, rfl, hw6⟩
  subst hw6
  have X1 := Lib.hid Y1.out.x
  exact ⟨_, res_cells3 Tryz.results53 _ _ _ _ _ _ _ _ rfl rfl rfl X1.out.a X1.out.b X1.out.c Tryz.underlying25 rfl (by kernel_rfl) Tryz.underlying35 rfl (by kernel_rfl) (by have c5 := X1.out.c.cell (c := 0) rfl; go_simp), rfl, X1.out.st, X1.out.ch⟩
end
end Go.Proofs.YtljajnaclpbecaaGreatDoor

namespace Go.Proofs.YtljajnaclpbecaaGreatDoor
open Go.RowKit
set_option maxRecDepth 100000
set_option linter.unusedVariables false
set_option linter.unusedSimpArgs false
set_option maxRecDepth 1000000 in
set_option maxHeartbeats 8000000 in
theorem kd_26 (w : World) : Calls Tryz.prog 52 #[.int .i64 26] w fun e w' => e = .returned (.bool false) ∧ w = w' := by
  go_enter Tryz.func52, Tryz.ntmps52
  go_wp2
  go_ret
  exact ⟨rfl, rfl⟩
set_option maxRecDepth 1000000 in
set_option maxHeartbeats 8000000 in
theorem kd_150 (w : World) : Calls Tryz.prog 52 #[.int .i64 150] w fun e w' => e = .returned (.bool false) ∧ w = w' := by
  go_enter Tryz.func52, Tryz.ntmps52
  go_wp2
  go_ret
  exact ⟨rfl, rfl⟩
set_option maxRecDepth 1000000 in
set_option maxHeartbeats 8000000 in
theorem kd_78 (w : World) : Calls Tryz.prog 52 #[.int .i64 78] w fun e w' => e = .returned (.bool true) ∧ w = w' := by
  go_enter Tryz.func52, Tryz.ntmps52
  go_wp2
  go_ret
  exact ⟨rfl, rfl⟩
set_option maxRecDepth 1000000 in
set_option maxHeartbeats 8000000 in
theorem kd_243 (w : World) : Calls Tryz.prog 52 #[.int .i64 243] w fun e w' => e = .returned (.bool true) ∧ w = w' := by
  go_enter Tryz.func52, Tryz.ntmps52
  go_wp2
  go_ret
  exact ⟨rfl, rfl⟩
theorem alP_0 (k : Int) : alP 0 k = true := by simp [alP]
theorem alF_0 (k : Int) : alF 0 k = true := by simp [alF]
theorem scode_0 {al : Int → Bool} (hal : ∀ k, al k = true) (N : Nat) (ks : List Int) (a n : Nat) (h : a + n ≤ N) : sCode al N ks (a : Int) (n : Int) = 0 := by
  unfold sCode
  rw [if_pos (by unfold sIn; exact decide_eq_true (by omega)), if_pos (by unfold okB; simp [hal])]
theorem sput_get (bs ks ys : List Int) (a : Nat) (h : a + ys.length ≤ bs.length) (i : Nat) : (sPut (alP 0) bs ks (a : Int) ys).getD i 0 = if a ≤ i ∧ i < a + ys.length then ys.getD (i - a) 0 else bs.getD i 0 := by
  unfold sPut
  rw [if_pos (scode_0 alP_0 _ _ _ _ (by omega))]
  unfold splice
  simp only [List.getD_eq_getElem?_getD, Int.toNat_natCast]
  have e1 : (bs.take a).length = a := by simp; omega
  by_cases h1 : i < a
  · rw [if_neg (by omega), List.getElem?_append_left (by omega), List.getElem?_take, if_pos h1]
  · by_cases h2 : i < a + ys.length
    · rw [if_pos (by omega), List.getElem?_append_right (by omega), e1, List.getElem?_append_left (by omega)]
    · rw [if_neg (by omega), List.getElem?_append_right (by omega), e1, List.getElem?_append_right (by omega), List.getElem?_drop]
      congr 2
      omega
theorem sput_len (bs ks ys : List Int) (a : Nat) (h : a + ys.length ≤ bs.length) : (sPut (alP 0) bs ks (a : Int) ys).length = bs.length := by
  unfold sPut
  rw [if_pos (scode_0 alP_0 _ _ _ _ (by omega))]
  unfold splice; simp; omega
theorem sget_eq (bs zs : List Int) (a n : Nat) (hn : zs.length = n) (h : a + n ≤ bs.length) (hz : ∀ k, k < n → bs.getD (a + k) 0 = zs.getD k 0) : sGet bs (a : Int) (n : Int) = zs := by
  unfold sGet
  rw [if_pos (by unfold sIn; exact decide_eq_true (by omega)), Int.toNat_natCast, Int.toNat_natCast]
  refine list_getD_ext (by simp; omega) fun k hk => ?_
  have hk' : k < n := by simp at hk; omega
  rw [← hz k hk']
  simp only [List.getD_eq_getElem?_getD, List.getElem?_take, if_pos hk', List.getElem?_drop]
end Go.Proofs.YtljajnaclpbecaaGreatDoor

namespace Go.Proofs.YtljajnaclpbecaaGreatDoor
open Go.RowKit
set_option maxRecDepth 100000
set_option linter.unusedVariables false
set_option linter.unusedSimpArgs false
section
variable {w0 w w' : World} {g : Nat} {F : Foot} {I : In} {os rs : List Int} {p q : Ps} {ov : Bool} {bs ks : List Int}
/-- a method of the machine is called, its answer passed on -/
theorem nxp {P : Program} {f : FuncId} {args : Array Value} {o : Out} {Q : Ending → World → Prop} (hc : Calls P f args w (Gp w0 g F I os p bs ks o)) (h : ∀ w', Hid (Gp w0 g F I os p bs ks o (.returned (.tuple #[])) w') → Q (.returned (.tuple #[])) w') (h' : ∀ w', Hid (Gp w0 g F I os p bs ks o (.panicked [{ v := .iface 124 (.int .i64 o.c), recovered := false }]) w') → Q (.panicked [{ v := .iface 124 (.int .i64 o.c), recovered := false }]) w') : Calls P f args w Q :=
  hc.mono fun e w' he => by
    by_cases h0 : o.c = 0
    · obtain ⟨rfl, -⟩ := he.1 h0
      exact h w' (Lib.hid he)
    · obtain ⟨rfl, -⟩ := he.2 h0
      exact h' w' (Lib.hid he)
end
end Go.Proofs.YtljajnaclpbecaaGreatDoor

namespace Go.Proofs.YtljajnaclpbecaaGreatDoor
open Go.RowKit
set_option maxRecDepth 100000
set_option linter.unusedVariables false
set_option linter.unusedSimpArgs false
section
variable {w0 w w' : World} {g : Nat} {F : Foot} {I : In} {os rs : List Int} {p q : Ps} {ov : Bool} {bs ks : List Int}
/-- where exec has ended: Exec's blocks, and the machine -/
structure YG (w0 w : World) (F : Foot) (bs ks : List Int) (z r p a b : List Value) (v : Int) (g : Nat) (is os rs : List Int) (ps : List Value) (ov : Bool) : Prop where
  x : XG w0 w F bs ks z r p a b v
  m : Mc w g is os rs ps (.pointer (some ⟨F.g, 0, none⟩)) ov
  n : w0.heap.size + 1 + 1 + 1 + 1 + 1 < g
section
variable {z r zp a b : List Value} {v : Int} {is : List Int} {ps : List Value} {s : Value}
theorem YG.drew (h : YG w0 w F bs ks z r zp a b v g is os rs ps ov) : YG w0 w.drew F bs ks z r zp a b v g is os rs ps ov := ⟨h.x.drew, h.m.drewN 1, h.n⟩
theorem YG.seta (h : YG w0 w F bs ks z r zp a b v g is os rs ps ov) (a' : List Value) : YG w0 (w.setRow (w0.heap.size + 1 + 1 + 1) a'.toArray) F bs ks z r zp a' b v g is os rs ps ov := ⟨h.x.seta a', h.m.kept (setRow_other w _ _ _ (by have := h.n; omega)), h.n⟩
theorem YG.setb (h : YG w0 w F bs ks z r zp a b v g is os rs ps ov) (b' : List Value) : YG w0 (w.setRow (w0.heap.size + 1 + 1 + 1 + 1) b'.toArray) F bs ks z r zp a b' v g is os rs ps ov := ⟨h.x.setb b', h.m.kept (setRow_other w _ _ _ (by have := h.n; omega)), h.n⟩
theorem YG.setc (h : YG w0 w F bs ks z r zp a b v g is os rs ps ov) (v' : Int) : YG w0 (w.setCell ⟨w0.heap.size + 1 + 1 + 1 + 1 + 1, 0, none⟩ (.int .i64 v')) F bs ks z r zp a b v' g is os rs ps ov := ⟨h.x.setc v', h.m.other _ (by have := h.n; show w0.heap.size + 1 + 1 + 1 + 1 + 1 ≠ g; omega), h.n⟩
theorem Mc.bk (h : Mc w g is os rs ps s ov) : Bk w g 128 (is.map (Value.int .i64) ++ (os.map (Value.int .u32) ++ (rs.map (Value.int .u32) ++ (ps ++ [s, .bool ov])))) := h.1
theorem Mc.rowR (h : Mc w g is os rs ps s ov) : w.rangeAt g 28 (rs.map (Value.int .u32)) := by
  obtain ⟨_, h1, h2, h3, h4⟩ := id h
  have hk := h.bk
  rw [← List.append_assoc] at hk
  have hk := Bk.mid hk
  rw [List.length_append, List.length_map, List.length_map, h1, h2] at hk
  exact hk
theorem Mc.rowQ (h : Mc w g is os rs ps s ov) : w.rangeAt g 44 ps := by
  obtain ⟨_, h1, h2, h3, h4⟩ := id h
  have hk := h.bk
  rw [← List.append_assoc, ← List.append_assoc] at hk
  have hk := Bk.mid hk
  rw [List.length_append, List.length_append, List.length_map, List.length_map, List.length_map, h1, h2, h3] at hk
  exact hk
end
theorem PS.new (h : St 63 w F bs ks) (hl : os.length = 16) (ro : ∀ z ∈ os, 0 ≤ z ∧ z ≤ 4294967295) (hi : I.ok) : PS (w.alloc (.cells (mcC I.z os os p.v (.pointer (some ⟨F.g, 0, none⟩)) false).toArray 128)) (w.alloc (.cells (mcC I.z os os p.v (.pointer (some ⟨F.g, 0, none⟩)) false).toArray 128)) w.heap.size F I os os p p false bs ks :=
  ⟨⟨Bk.new w _ _, rfl, hl, hl, rfl⟩, h.belowS ((Below.refl _ _).alloc (Nat.le_refl _) _), Ch.refl _ _, by have := h.ltg; omega, by have := h.ltb; omega, by have := h.ltk; omega, ro, hi, rfl⟩
/-- what Exec answers -/
def Px (w : World) (F : Foot) (os : List Int) (p : Ps) (bs ks : List Int) (o : Out) (e : Ending) (w' : World) : Prop :=
  Ch w w' [F.gb] ∧ (o.c ≠ 0 → e = .returned (.tuple #[agR os, .agg p.v.toArray, .int .i64 o.c]) ∧ St 63 w' F bs ks) ∧
  (o.c = 0 → e = .returned (.tuple #[agR o.rs, .agg (p.to o.cc o.pg o.ad).v.toArray, .int .i64 (if o.ov = true ∧ 8 ≤ p.pg then 8 else 0)]) ∧ St 63 w' F o.bs ks)
theorem pand8 : ∀ n : Nat, n < 16 → bits .and .i64 (n : Int) 8 = if 8 ≤ n then 8 else 0 := by decide +kernel
set_option maxRecDepth 1000000 in
set_option maxHeartbeats 8000000 in
theorem pexec_ok (hl : os.length = 16) (ro : ∀ z ∈ os, 0 ≤ z ∧ z ≤ 4294967295) (hi : I.ok) (P0 : 0 ≤ p.pg ∧ p.pg ≤ 15) (h : St 63 w F bs ks) (h1 : kn I.op = true) (h2 : chk I.op I.fm [I.op, I.fm, I.n, I.k, I.x, I.b, I.d, I.b', I.d', I.l, I.l', I.i] = 0) (h3 : pok p.m p.key p.cd p.il p.cc p.pg p.ad = true) {o : Out} (hol : o.rs.length = 16) (hex : ∀ (w0 W : World) (g : Nat), PS w0 W g F I os os p p false bs ks → Calls Tryz.prog 67 #[.pointer (some ⟨g, 0, none⟩)] W (Gp w0 g F I os p bs ks o)) : Calls Tryz.prog 51 #[.agg #[.int .i64 I.op, .int .i64 I.fm, .int .i64 (I.n : Int), .int .i64 (I.k : Int), .int .i64 (I.x : Int), .int .i64 (I.b : Int), .int .i64 I.d, .int .i64 (I.b' : Int), .int .i64 I.d', .int .i64 (I.l : Int), .int .i64 I.l', .int .i64 I.i], agR os, .agg p.v.toArray, .pointer (some ⟨F.g, 0, none⟩)] w (Px w F os p bs ks o) := by
  have hmf : ∀ (fn : Fn) (first cap : Array Value) (w : World), (Instr.makeFunc fn first cap).run Tryz.prog w = .ok (.func fn first cap) w := fun _ _ _ _ => rfl
  have CK := Lib.hid (fun W => icheck_c I.op I.fm (I.n : Int) (I.k : Int) (I.x : Int) (I.b : Int) I.d (I.b' : Int) I.d' (I.l : Int) I.l' I.i W)
  rw [h2] at CK
  have X0 := Lib.hid (XG.start h)
  have HL := Lib.hid hl
  have HI := Lib.hid hi
  have RO := Lib.hid ro
  have HPC := Lib.hid hex
  have OL := Lib.hid hol
  have PN := Lib.hid (fun W (hW : St 63 W F bs ks) => PS.new (I := I) (p := p) hW hl ro hi)
  obtain ⟨a0, a1, a2, a3, a4, a5, a6, a7, a8, a9, a10, a11, a12, a13, a14, a15, rfl⟩ := list_16 hl
  unfold agR
  clear hex hol h2 hl ro hi h
  go_enter_defers Tryz.func51, Tryz.ntmps51
  go_upto_region 1 with fail
  have X1 := Lib.hid (X0.out [.int .i64 I.op, .int .i64 I.fm, .int .i64 (I.n : Int), .int .i64 (I.k : Int), .int .i64 (I.x : Int), .int .i64 (I.b : Int), .int .i64 I.d, .int .i64 (I.b' : Int), .int .i64 I.d', .int .i64 (I.l : Int), .int .i64 I.l', .int .i64 I.i] ([a0, a1, a2, a3, a4, a5, a6, a7, a8, a9, a10, a11, a12, a13, a14, a15].map (Value.int .u32)) p.v [.int .u32 0, .int .u32 0, .int .u32 0, .int .u32 0, .int .u32 0, .int .u32 0, .int .u32 0, .int .u32 0, .int .u32 0, .int .u32 0, .int .u32 0, .int .u32 0, .int .u32 0, .int .u32 0, .int .u32 0, .int .u32 0] [.int .i64 0, .int .i64 0, .bool false, .bool false, .bool false, .int .i64 0, .int .i64 0, .int .i64 0, .int .i64 0, .int .i64 0] 0)
  refine X1.out.opn ?_
  intro _ B1 B2
  refine B1.opn12 ?_
  refine B2.opn10 ?_
  clear B1 B2
  intros
  go_upto_region 3 with (first
      | (go_at_call 65; refine nx (X1.out.call (h1 ▸ pknows_c I.op _)) ?_; intro w1 X1; refine X1.out.opn ?_; intro _ B1 B2; refine B1.opn12 ?_; refine B2.opn10 ?_; clear B1 B2; intros)
      | (go_at_call 41; refine nx (X1.out.call (CK.out _)) ?_; intro w1 X1; refine X1.out.opn ?_; intro _ B1 B2; refine B1.opn12 ?_; refine B2.opn10 ?_; clear B1 B2; intros)
      | (go_at_call 22; refine nx (X1.out.call (h3 ▸ valid_c _ _ _ _ _ _ _ _ _ _ _)) ?_; intro w1 X1; refine X1.out.opn ?_; intro _ B1 B2; refine B1.opn12 ?_; refine B2.opn10 ?_; clear B1 B2; intros))
  clear X0
  have CLT := Lib.hid X1.out.c.lt
  have B0 := Lib.hid X1.out.z
  have BR := Lib.hid X1.out.r
  have BP := Lib.hid X1.out.p
  go_upto_region 4 with fail
  refine wp_region_list ?_
  simp only [List.append_eq, List.cons_append, List.nil_append]
  refine lsl B0.out ?_
  refine lsl BR.out ?_
  refine lsl BR.out ?_
  refine lsl (cs := [.int .i64 p.m, .int .i64 p.key, .bool p.M, .bool p.W, .bool p.P, .int .i64 p.cd, .int .i64 p.il, .int .i64 p.cc, .int .i64 p.pg, .int .i64 p.ad]) BP.out ?_
  refine lsv ?_ (w' := w1)
  refine lsv (v := .agg (mcC I.z [a0, a1, a2, a3, a4, a5, a6, a7, a8, a9, a10, a11, a12, a13, a14, a15] [a0, a1, a2, a3, a4, a5, a6, a7, a8, a9, a10, a11, a12, a13, a14, a15] p.v (.pointer (some ⟨F.g, 0, none⟩)) false).toArray) (w' := w1) ?_ (hr := by go_simp; kernel_rfl)
  have hsz : (mcC I.z [a0, a1, a2, a3, a4, a5, a6, a7, a8, a9, a10, a11, a12, a13, a14, a15] [a0, a1, a2, a3, a4, a5, a6, a7, a8, a9, a10, a11, a12, a13, a14, a15] p.v (.pointer (some ⟨F.g, 0, none⟩)) false).toArray.size = 56 := rfl
  refine lsv (v := .pointer (some ⟨w1.heap.size, 0, none⟩)) (w' := w1.alloc (.cells (mcC I.z [a0, a1, a2, a3, a4, a5, a6, a7, a8, a9, a10, a11, a12, a13, a14, a15] [a0, a1, a2, a3, a4, a5, a6, a7, a8, a9, a10, a11, a12, a13, a14, a15] p.v (.pointer (some ⟨F.g, 0, none⟩)) false).toArray 128)) ?_
  refine lsv ?_
  refine wpList_nil ?_
  have R1 := Lib.hid (PN.out _ X1.out.st)
  replace X1 := Lib.hid (X1.out.keep ((Below.refl _ _).alloc (Nat.le_refl _) (.cells (mcC I.z [a0, a1, a2, a3, a4, a5, a6, a7, a8, a9, a10, a11, a12, a13, a14, a15] [a0, a1, a2, a3, a4, a5, a6, a7, a8, a9, a10, a11, a12, a13, a14, a15] p.v (.pointer (some ⟨F.g, 0, none⟩)) false).toArray 128)))
  have hgm : w.heap.size + 1 + 1 + 1 + 1 + 1 < w1.heap.size := by have := B0.out.lt; have := CLT.out; omega
  obtain ⟨gm, hg⟩ : ∃ gm, w1.heap.size = gm := ⟨_, rfl⟩
  obtain ⟨W1, hW⟩ : ∃ W1, w1.alloc (.cells (mcC I.z [a0, a1, a2, a3, a4, a5, a6, a7, a8, a9, a10, a11, a12, a13, a14, a15] [a0, a1, a2, a3, a4, a5, a6, a7, a8, a9, a10, a11, a12, a13, a14, a15] p.v (.pointer (some ⟨F.g, 0, none⟩)) false).toArray 128) = W1 := ⟨_, rfl⟩
  rw [hW, hg] at R1
  rw [hW] at X1 ⊢
  rw [hg] at hgm
  simp only [hg]
  clear hsz hW hg B0 BR BP PN CLT
  go_upto_region 6 with (go_at_call 67; refine nxp (HPC.out _ _ _ R1.out) (fun w2 Z => ?_) (fun w2 Z => ?_))
  · have hzc : o.c = 0 := by
      by_cases h : o.c = 0
      · exact h
      · exact absurd (Z.out.2 h).1 (by unfold Pn; simp)
    have Y1 : Hid (YG w w2 F o.bs ks [.int .i64 I.op, .int .i64 I.fm, .int .i64 (I.n : Int), .int .i64 (I.k : Int), .int .i64 (I.x : Int), .int .i64 (I.b : Int), .int .i64 I.d, .int .i64 (I.b' : Int), .int .i64 I.d', .int .i64 (I.l : Int), .int .i64 I.l', .int .i64 I.i] ([a0, a1, a2, a3, a4, a5, a6, a7, a8, a9, a10, a11, a12, a13, a14, a15].map (Value.int .u32)) p.v [.int .u32 0, .int .u32 0, .int .u32 0, .int .u32 0, .int .u32 0, .int .u32 0, .int .u32 0, .int .u32 0, .int .u32 0, .int .u32 0, .int .u32 0, .int .u32 0, .int .u32 0, .int .u32 0, .int .u32 0, .int .u32 0] [.int .i64 0, .int .i64 0, .bool false, .bool false, .bool false, .int .i64 0, .int .i64 0, .int .i64 0, .int .i64 0, .int .i64 0] 0 gm I.z [a0, a1, a2, a3, a4, a5, a6, a7, a8, a9, a10, a11, a12, a13, a14, a15] o.rs (p.to o.cc o.pg o.ad).v o.ov) := Lib.hid ⟨X1.out.ex (Z.out.1 hzc).2.b (Z.out.1 hzc).2.st hgm, (Z.out.1 hzc).2.m, hgm⟩
    have HZ := Lib.hid hzc
    have KL := OL
    clear Z R1 X1 hzc HPC
    have cv := Y1.out.m.cv
    rcases (show o.ov = false ∨ (o.ov = true ∧ 8 ≤ p.pg) ∨ (o.ov = true ∧ ¬ 8 ≤ p.pg) by cases o.ov <;> simp <;> omega) with hv | ⟨hv, h8⟩ | ⟨hv, h8⟩
    · have HV := Lib.hid (show (if o.ov = true ∧ 8 ≤ p.pg then (8 : Int) else 0) = 0 from if_neg (by rw [hv]; simp))
      rw [hv] at cv
      have hv' := Lib.hid hv
      clear hv
      go_upto_region 8 with fail
      refine wp_region_held_drew (S := fun W => ∃ a b v, YG w W F o.bs ks [.int .i64 I.op, .int .i64 I.fm, .int .i64 (I.n : Int), .int .i64 (I.k : Int), .int .i64 (I.x : Int), .int .i64 (I.b : Int), .int .i64 I.d, .int .i64 (I.b' : Int), .int .i64 I.d', .int .i64 (I.l : Int), .int .i64 I.l', .int .i64 I.i] ([a0, a1, a2, a3, a4, a5, a6, a7, a8, a9, a10, a11, a12, a13, a14, a15].map (Value.int .u32)) p.v a b v gm I.z [a0, a1, a2, a3, a4, a5, a6, a7, a8, a9, a10, a11, a12, a13, a14, a15] o.rs (p.to o.cc o.pg o.ad).v o.ov) (by kernel_rfl) ⟨_, _, _, Y1.out.drew⟩ (fun hHeld => ?_)
      replace Y1 := Lib.hid Y1.out.drew
      repeat refine tkn ?_ (hQ := by exact fun _ _ _ h => exq h)
      refine tkl 3 (fun w h => by obtain ⟨_, _, _, h⟩ := h; exact h.m.rowR) ?_ (hn := by rw [List.length_map, KL.out]; kernel_rfl) (hQ := by exact fun _ _ _ h => exq h)
      repeat refine tkn ?_ (hQ := by exact fun _ _ _ h => exq h)
      refine tkl (cs := (p.to o.cc o.pg o.ad).v) 7 (fun w h => by obtain ⟨_, _, _, h⟩ := h; exact h.m.rowQ) ?_ (hQ := by exact fun _ _ _ h => exq h)
      repeat refine tkn ?_ (hQ := by exact fun _ _ _ h => exq h)
      refine tks_ (cs' := o.rs.map (Value.int .u32)) Y1.out.x.a (by rw [List.length_map, KL.out]; rfl) (one_u32 _) (by rw [List.length_map, KL.out]; kernel_rfl) (Y1.out.seta _) (fun _ h => ⟨_, _, _, h⟩) ?_
      clear Y1 hHeld
      intro w5 Y1 hHeld
      refine tks_ (cs' := (p.to o.cc o.pg o.ad).v) Y1.out.x.b (by rfl) (one_ps _) (by kernel_rfl) (Y1.out.setb _) (fun _ h => ⟨_, _, _, h⟩) ?_
      clear Y1 hHeld
      intro w6 Y1 hHeld
      refine tk_st (st_int (Y1.out.x.c.cell (c := 0) rfl) (Y1.out.x.c.free 0)) (Y1.out.setc 0) (fun _ h => ⟨_, _, _, h⟩) ?_ (by with_unfolding_all rfl) (by rfl) (by rfl) (by rfl) (by rfl) (by rfl) (fun w' => by simp only [Act.put, List.setIfInBounds_toArray, List.set_cons_zero, List.set_cons_succ]; try rfl)
      clear Y1 hHeld
      intro w7 Y1 hHeld
      refine wpAnyH_done (by kernel_rfl) ?_ _
      clear hHeld
      go_wp2
      refine leaves_cons (f := 66) (args := #[.pointer (some ⟨w.heap.size + 1, 0, none⟩), .pointer (some ⟨w.heap.size + 1 + 1, 0, none⟩), .pointer (some ⟨w.heap.size + 1 + 1 + 1, 0, none⟩), .pointer (some ⟨w.heap.size + 1 + 1 + 1 + 1, 0, none⟩), .pointer (some ⟨w.heap.size + 1 + 1 + 1 + 1 + 1, 0, none⟩)]) (by simp) (by simp [go_sem]) ?_
      refine (catch_idle _ _ _ _ _ _).mono ?_
      rintro e u' w'' ⟨rfl, rfl, hw6⟩
      subst hw6
      have X1 := Lib.hid Y1.out.x
      exact ⟨_, res_cells3 Tryz.results51 _ _ _ _ _ _ _ _ rfl rfl rfl X1.out.a X1.out.b X1.out.c Tryz.underlying25 rfl (by rw [List.length_map, KL.out]; kernel_rfl) Tryz.underlying35 rfl (by kernel_rfl) (by have c5 := X1.out.c.cell (c := 0) rfl; go_simp), Y1.out.x.ch, fun h => absurd HZ.out h, fun _ => ⟨by rw [HV.out]; rfl, Y1.out.x.st⟩⟩
    · have HV := Lib.hid (show (if o.ov = true ∧ 8 ≤ p.pg then (8 : Int) else 0) = 8 from if_pos ⟨hv, h8⟩)
      rw [hv] at cv
      have e8 : bits .and .i64 p.pg 8 = 8 := by obtain ⟨n, hn⟩ := Int.eq_ofNat_of_zero_le P0.1; rw [hn, pand8 n (by omega), if_pos (by omega)]
      have cg : w2.cell? ⟨w.heap.size + 1 + 1, 8, none⟩ = some (.int .i64 p.pg) := Y1.out.x.p.cell (c := 8) rfl
      have hv' := Lib.hid hv
      clear hv h8
      go_upto_region 7 with fail
      refine wp_region_held_drew (S := fun W => ∃ a b v, YG w W F o.bs ks [.int .i64 I.op, .int .i64 I.fm, .int .i64 (I.n : Int), .int .i64 (I.k : Int), .int .i64 (I.x : Int), .int .i64 (I.b : Int), .int .i64 I.d, .int .i64 (I.b' : Int), .int .i64 I.d', .int .i64 (I.l : Int), .int .i64 I.l', .int .i64 I.i] ([a0, a1, a2, a3, a4, a5, a6, a7, a8, a9, a10, a11, a12, a13, a14, a15].map (Value.int .u32)) p.v a b v gm I.z [a0, a1, a2, a3, a4, a5, a6, a7, a8, a9, a10, a11, a12, a13, a14, a15] o.rs (p.to o.cc o.pg o.ad).v o.ov) (by kernel_rfl) ⟨_, _, _, Y1.out.drew⟩ (fun hHeld => ?_)
      replace Y1 := Lib.hid Y1.out.drew
      repeat refine tkn ?_ (hQ := by exact fun _ _ _ h => exq h)
      refine tkl 3 (fun w h => by obtain ⟨_, _, _, h⟩ := h; exact h.m.rowR) ?_ (hn := by rw [List.length_map, KL.out]; kernel_rfl) (hQ := by exact fun _ _ _ h => exq h)
      repeat refine tkn ?_ (hQ := by exact fun _ _ _ h => exq h)
      refine tkl (cs := (p.to o.cc o.pg o.ad).v) 7 (fun w h => by obtain ⟨_, _, _, h⟩ := h; exact h.m.rowQ) ?_ (hQ := by exact fun _ _ _ h => exq h)
      repeat refine tkn ?_ (hQ := by exact fun _ _ _ h => exq h)
      refine tks_ (cs' := o.rs.map (Value.int .u32)) Y1.out.x.a (by rw [List.length_map, KL.out]; rfl) (one_u32 _) (by rw [List.length_map, KL.out]; kernel_rfl) (Y1.out.seta _) (fun _ h => ⟨_, _, _, h⟩) ?_
      clear Y1 hHeld
      intro w5 Y1 hHeld
      refine tks_ (cs' := (p.to o.cc o.pg o.ad).v) Y1.out.x.b (by rfl) (one_ps _) (by kernel_rfl) (Y1.out.setb _) (fun _ h => ⟨_, _, _, h⟩) ?_
      clear Y1 hHeld
      intro w6 Y1 hHeld
      refine tk_st (st_int (Y1.out.x.c.cell (c := 0) rfl) (Y1.out.x.c.free 0)) (Y1.out.setc 8) (fun _ h => ⟨_, _, _, h⟩) ?_ (by with_unfolding_all rfl) (by rfl) (by rfl) (by rfl) (by rfl) (by rfl) (fun w' => by simp only [Act.put, List.setIfInBounds_toArray, List.set_cons_zero, List.set_cons_succ]; try rfl)
      clear Y1 hHeld
      intro w7 Y1 hHeld
      refine wpAnyH_done (by kernel_rfl) ?_ _
      clear hHeld
      go_wp2
      refine leaves_cons (f := 66) (args := #[.pointer (some ⟨w.heap.size + 1, 0, none⟩), .pointer (some ⟨w.heap.size + 1 + 1, 0, none⟩), .pointer (some ⟨w.heap.size + 1 + 1 + 1, 0, none⟩), .pointer (some ⟨w.heap.size + 1 + 1 + 1 + 1, 0, none⟩), .pointer (some ⟨w.heap.size + 1 + 1 + 1 + 1 + 1, 0, none⟩)]) (by simp) (by simp [go_sem]) ?_
      refine (catch_idle _ _ _ _ _ _).mono ?_
      rintro e u' w'' ⟨rfl, rfl, hw6⟩
      subst hw6
      have X1 := Lib.hid Y1.out.x
      exact ⟨_, res_cells3 Tryz.results51 _ _ _ _ _ _ _ _ rfl rfl rfl X1.out.a X1.out.b X1.out.c Tryz.underlying25 rfl (by rw [List.length_map, KL.out]; kernel_rfl) Tryz.underlying35 rfl (by kernel_rfl) (by have c5 := X1.out.c.cell (c := 0) rfl; go_simp), Y1.out.x.ch, fun h => absurd HZ.out h, fun _ => ⟨by rw [HV.out]; rfl, Y1.out.x.st⟩⟩
    · have HV := Lib.hid (show (if o.ov = true ∧ 8 ≤ p.pg then (8 : Int) else 0) = 0 from if_neg (fun h => h8 h.2))
      rw [hv] at cv
      have e8 : bits .and .i64 p.pg 8 = 0 := by obtain ⟨n, hn⟩ := Int.eq_ofNat_of_zero_le P0.1; rw [hn, pand8 n (by omega), if_neg (by omega)]
      have cg : w2.cell? ⟨w.heap.size + 1 + 1, 8, none⟩ = some (.int .i64 p.pg) := Y1.out.x.p.cell (c := 8) rfl
      have hv' := Lib.hid hv
      clear hv h8
      go_upto_region 8 with fail
      refine wp_region_held_drew (S := fun W => ∃ a b v, YG w W F o.bs ks [.int .i64 I.op, .int .i64 I.fm, .int .i64 (I.n : Int), .int .i64 (I.k : Int), .int .i64 (I.x : Int), .int .i64 (I.b : Int), .int .i64 I.d, .int .i64 (I.b' : Int), .int .i64 I.d', .int .i64 (I.l : Int), .int .i64 I.l', .int .i64 I.i] ([a0, a1, a2, a3, a4, a5, a6, a7, a8, a9, a10, a11, a12, a13, a14, a15].map (Value.int .u32)) p.v a b v gm I.z [a0, a1, a2, a3, a4, a5, a6, a7, a8, a9, a10, a11, a12, a13, a14, a15] o.rs (p.to o.cc o.pg o.ad).v o.ov) (by kernel_rfl) ⟨_, _, _, Y1.out.drew⟩ (fun hHeld => ?_)
      replace Y1 := Lib.hid Y1.out.drew
      repeat refine tkn ?_ (hQ := by exact fun _ _ _ h => exq h)
      refine tkl 3 (fun w h => by obtain ⟨_, _, _, h⟩ := h; exact h.m.rowR) ?_ (hn := by rw [List.length_map, KL.out]; kernel_rfl) (hQ := by exact fun _ _ _ h => exq h)
      repeat refine tkn ?_ (hQ := by exact fun _ _ _ h => exq h)
      refine tkl (cs := (p.to o.cc o.pg o.ad).v) 7 (fun w h => by obtain ⟨_, _, _, h⟩ := h; exact h.m.rowQ) ?_ (hQ := by exact fun _ _ _ h => exq h)
      repeat refine tkn ?_ (hQ := by exact fun _ _ _ h => exq h)
      refine tks_ (cs' := o.rs.map (Value.int .u32)) Y1.out.x.a (by rw [List.length_map, KL.out]; rfl) (one_u32 _) (by rw [List.length_map, KL.out]; kernel_rfl) (Y1.out.seta _) (fun _ h => ⟨_, _, _, h⟩) ?_
      clear Y1 hHeld
      intro w5 Y1 hHeld
      refine tks_ (cs' := (p.to o.cc o.pg o.ad).v) Y1.out.x.b (by rfl) (one_ps _) (by kernel_rfl) (Y1.out.setb _) (fun _ h => ⟨_, _, _, h⟩) ?_
      clear Y1 hHeld
      intro w6 Y1 hHeld
      refine tk_st (st_int (Y1.out.x.c.cell (c := 0) rfl) (Y1.out.x.c.free 0)) (Y1.out.setc 0) (fun _ h => ⟨_, _, _, h⟩) ?_ (by with_unfolding_all rfl) (by rfl) (by rfl) (by rfl) (by rfl) (by rfl) (fun w' => by simp only [Act.put, List.setIfInBounds_toArray, List.set_cons_zero, List.set_cons_succ]; try rfl)
      clear Y1 hHeld
      intro w7 Y1 hHeld
      refine wpAnyH_done (by kernel_rfl) ?_ _
      clear hHeld
      go_wp2
      refine leaves_cons (f := 66) (args := #[.pointer (some ⟨w.heap.size + 1, 0, none⟩), .pointer (some ⟨w.heap.size + 1 + 1, 0, none⟩), .pointer (some ⟨w.heap.size + 1 + 1 + 1, 0, none⟩), .pointer (some ⟨w.heap.size + 1 + 1 + 1 + 1, 0, none⟩), .pointer (some ⟨w.heap.size + 1 + 1 + 1 + 1 + 1, 0, none⟩)]) (by simp) (by simp [go_sem]) ?_
      refine (catch_idle _ _ _ _ _ _).mono ?_
      rintro e u' w'' ⟨rfl, rfl, hw6⟩
      subst hw6
      have X1 := Lib.hid Y1.out.x
      exact ⟨_, res_cells3 Tryz.results51 _ _ _ _ _ _ _ _ rfl rfl rfl X1.out.a X1.out.b X1.out.c Tryz.underlying25 rfl (by rw [List.length_map, KL.out]; kernel_rfl) Tryz.underlying35 rfl (by kernel_rfl) (by have c5 := X1.out.c.cell (c := 0) rfl; go_simp), Y1.out.x.ch, fun h => absurd HZ.out h, fun _ => ⟨by rw [HV.out]; rfl, Y1.out.x.st⟩⟩
  · have hzc : o.c ≠ 0 := fun h => absurd (Z.out.1 h).1 (by simp)
    obtain ⟨rs, q, ov, hR⟩ := (Z.out.2 hzc).2
    replace X1 := Lib.hid (X1.out.ex hR.b hR.st hgm)
    have HZ := Lib.hid hzc
    clear hR Z R1 hzc HPC
    refine leaves_cons (f := 66) (args := #[.pointer (some ⟨w.heap.size + 1, 0, none⟩), .pointer (some ⟨w.heap.size + 1 + 1, 0, none⟩), .pointer (some ⟨w.heap.size + 1 + 1 + 1, 0, none⟩), .pointer (some ⟨w.heap.size + 1 + 1 + 1 + 1, 0, none⟩), .pointer (some ⟨w.heap.size + 1 + 1 + 1 + 1 + 1, 0, none⟩)]) (by simp) (by simp [go_sem]) ?_
    refine (pcatch_c (os := [a0, a1, a2, a3, a4, a5, a6, a7, a8, a9, a10, a11, a12, a13, a14, a15]) o.c [] X1.out rfl rfl rfl).mono ?_
    rintro e u' w'' ⟨rfl, rfl, hX⟩
    replace X1 := Lib.hid hX
    exact ⟨_, res_cells3 Tryz.results51 _ _ _ _ _ _ _ _ rfl rfl rfl X1.out.a X1.out.b X1.out.c Tryz.underlying25 rfl (by kernel_rfl) Tryz.underlying35 rfl (by kernel_rfl) (by have c5 := X1.out.c.cell (c := 0) rfl; go_simp), X1.out.ch, fun _ => ⟨rfl, X1.out.st⟩, fun h => absurd h HZ.out⟩
end
end Go.Proofs.YtljajnaclpbecaaGreatDoor

namespace Go.Proofs.YtljajnaclpbecaaGreatDoor
open Go.RowKit
set_option maxRecDepth 100000
set_option linter.unusedVariables false
set_option linter.unusedSimpArgs false
def cb (op x y : Int) : Int := if op = 209 then x / 16 * 16 + y % 16 else if op = 210 then y else if op = 211 then y / 16 * 16 + x % 16 else if op = 212 then bits .and .u8 x y else if op = 214 then bits .or .u8 x y else bits .xor .u8 x y
theorem cb_in (op x y : Int) (x0 : 0 ≤ x) (x1 : x ≤ 255) (y0 : 0 ≤ y) (y1 : y ≤ 255) : 0 ≤ cb op x y ∧ cb op x y ≤ 255 := by
  unfold cb
  repeat' split
  · omega
  · omega
  · omega
  · exact bounds_u8 (wf_bits .and .u8 x y)
  · exact bounds_u8 (wf_bits .or .u8 x y)
  · exact bounds_u8 (wf_bits .xor .u8 x y)
end Go.Proofs.YtljajnaclpbecaaGreatDoor

namespace Go.Proofs.YtljajnaclpbecaaGreatDoor
open Go.RowKit
set_option maxRecDepth 100000
set_option linter.unusedVariables false
set_option linter.unusedSimpArgs false
section
variable {w0 w w' : World} {g : Nat} {F : Foot} {I : In} {os rs : List Int} {p q : Ps} {ov : Bool} {bs ks : List Int}
theorem wr_ok {P : Pre} {a n cc : Int} {ys : List Int} (h : P.pc a n = 0) : P.wr a n ys cc = ⟨0, P.os, cc, P.pg, P.ad, false, sPut (alP P.key) P.bs P.ks a ys⟩ := if_pos h
theorem wr_no {P : Pre} {a n cc : Int} {ys : List Int} (h : P.pc a n ≠ 0) : (P.wr a n ys cc).c = P.pc a n := by unfold Pre.wr; rw [if_neg h]; rfl
theorem byt_one (w : World) {x : Int} (x0 : 0 ≤ x ∧ x ≤ 255) : Byt (w.alloc (.cells #[.int .u8 x] 5)) (some ⟨w.heap.size, 0, none⟩) 1 [x] := by
  refine ⟨rfl, by simpa using x0, fun _ => ⟨w.heap.size, 0, rfl, ?_⟩⟩
  intro i hi
  obtain rfl : i = 0 := by omega
  go_simp
  try rfl
theorem PS.one (h : PS w0 w g F I os rs p q ov bs ks) (o : Obj) : PS w0 (w.alloc o) g F I os rs p q ov bs ks := h.keep ((Below.refl _ _).alloc (Nat.le_refl _) _)
theorem pchg_c (h : PS w0 w g F I os rs p q ov bs ks) (a : Int) {b : Int} (b0 : 0 ≤ b ∧ b ≤ 255) : Calls Tryz.prog 120 #[.pointer (some ⟨g, 0, none⟩), .int .i64 a, .int .u8 b] w (Th (fun v w' => v = .tuple #[] ∧ sCode (alP p.key) bs.length ks a (1 : Nat) = 0 ∧ PS w0 w' g F I os rs p { q with cc := if b = 0 then 0 else 1 } ov (sPut (alP p.key) bs ks a [b]) ks) (sCode (alP p.key) bs.length ks a (1 : Nat)) (fun w' => sCode (alP p.key) bs.length ks a (1 : Nat) ≠ 0 ∧ PS w0 w' g F I os rs p q ov bs ks)) := by
  have bz : (b = 0 ∧ (b != 0) = false) ∨ (b ≠ 0 ∧ (b != 0) = true) := by by_cases h : b = 0 <;> simp [h]
  have R0 := Lib.hid h
  clear h
  rcases bz with ⟨b1, b2⟩ | ⟨b1, b2⟩
  all_goals
    (first | rw [if_pos b1] | rw [if_neg b1])
    clear b1
    go_enter Tryz.func120, Tryz.ntmps120
    go_wp2_with (go_at_call 113; refine nxk (pput_c (R0.out.one _) a _ 1 _ [b] (byt_one _ b0) (by omega)) (fun w1 Z1 R1 => R1.out.opn ?_) (fun w1 Z1 R1 => ?_) <;> intros)
    all_goals first
      | ((first | go_end0 | refine bodyPost_ret (results_none rfl _ _ _) rfl ?_); refine Th.ok ?_; first | exact ⟨rfl, Z1.out, (R1.out.setcc 0).setcc 1⟩ | exact ⟨rfl, Z1.out, R1.out.setcc 0⟩)
      | (refine ⟨rfl, Th.no rfl ?_⟩; exact ⟨Z1.out, R1.out⟩)
theorem imO_no {P : Pre} {op a i : Int} (h : op ≠ 146) (hc : P.fc a 1 ≠ 0) : imO P op a i = P.no (P.fc a 1) := by unfold imO; rw [if_neg h, if_pos hc]
set_option maxRecDepth 1000000 in
set_option maxHeartbeats 8000000 in
theorem pim_150 (h : PS w0 w g F I os os p p false bs ks) (ho : I.op = 150) : Calls Tryz.prog 76 #[.pointer (some ⟨g, 0, none⟩)] w (Gp w0 g F I os p bs ks (imO ⟨os, p.key, p.il, p.cc, p.pg, p.ad, bs, ks⟩ I.op (I.a1 os) I.i)) := by
  have i0 := h.ix.i
  have A0 := I.a1_in os
  have SC := Lib.hid (fun W (hW : PS w0 W g F I os os p p false bs ks) => pfst_c hW)
  obtain ⟨A, hA⟩ : ∃ A, I.a1 os = A := ⟨_, rfl⟩
  rw [hA] at SC A0 ⊢
  clear hA
  have j1 : IntKind.u8.wrap I.i = I.i := by rw [IntKind.wrap_u8]; omega
  have x0 := sGet_in A 1 h.st.rb 0
  obtain ⟨x, hx⟩ : ∃ x, (sGet bs A 1).getD 0 0 = x := ⟨_, rfl⟩
  rw [hx] at x0
  have HX := Lib.hid (show (sGet bs A ((1 : Nat) : Int)).getD 0 0 = x from hx)
  have KI : Hid (∀ W rs q ov bs ks, PS w0 W g F I os rs p q ov bs ks → W.cell? ⟨g, 11, none⟩ = some (.int .i64 I.i)) := Lib.hid fun W rs q ov bs ks h => h.m.ci (c := 11) (by omega)
  have y0 := cb_in 214 x I.i x0.1 x0.2 i0.1 i0.2
  obtain ⟨y, hy⟩ : ∃ y, bits .or .u8 x I.i = y := ⟨_, rfl⟩
  have y0 : 0 ≤ y ∧ y ≤ 255 := hy ▸ y0
  rw [ho]
  have HO := Lib.hid ho
  have HE := Lib.hid (show Pre.fc ⟨os, p.key, p.il, p.cc, p.pg, p.ad, bs, ks⟩ A 1 = 0 → imO ⟨os, p.key, p.il, p.cc, p.pg, p.ad, bs, ks⟩ 150 A I.i = Pre.wr ⟨os, p.key, p.il, p.cc, p.pg, p.ad, bs, ks⟩ A 1 [y] (if y = 0 then 0 else 1) from fun h0 => by unfold imO; rw [if_neg (by decide), if_neg (fun h => h h0), ← hy, ← hx]; rfl)
  have R0 := Lib.hid h
  clear hx ho h
  refine R0.out.opn ?_
  intros
  go_enter Tryz.func76, Tryz.ntmps76
  go_upto_region 0 with fail
  refine wp_region_held_drew (S := Sy w0 g F I os p) (by kernel_rfl) R0.out.drew.x (fun hHeld => ?_)
  have R1 := Lib.hid R0.out.drew
  clear R0
  repeat refine tkp ?_
  refine tkc (SC.out _ R1.out) (fun _ h => h.x) ?_
  clear R1 hHeld
  intro w2 R1 hHeld
  repeat refine tkp ?_
  refine wpAnyH_done (by kernel_rfl) ?_ _
  refine R1.out.opn ?_
  clear hHeld
  intros
  go_wp2_with (first
    | (go_at_call 116; refine nxh (pfet_c R1.out A 1 (by omega)) (fun b cap w1 Z2 O1 hb1 hb2 R1 => R1.out.opn ?_) (fun w1 Z2 R1 => ?_) <;> intros; have cb := byt0 O1.out.byt (by omega); rw [HX.out] at cb)
    | (go_at_call 120; refine nxk (pchg_c R1.out A y0) (fun w1 Z3 R1 => ?_) (fun w1 Z3 R1 => ?_)))
  all_goals first
    | ((first | go_end0 | refine bodyPost_ret (results_none rfl _ _ _) rfl ?_); exact gp_ok R1.out ((HE.out Z2.out).trans (wr_ok Z3.out)))
    | (refine ⟨rfl, gp_no R1.out ?_ Z3.out⟩; exact (congrArg Out.c (HE.out Z2.out)).trans (wr_no Z3.out))
    | (refine ⟨rfl, gp_no R1.out ?_ Z2.out⟩; exact congrArg Out.c (imO_no (P := ⟨os, p.key, p.il, p.cc, p.pg, p.ad, bs, ks⟩) (a := A) (by decide) Z2.out))

end
end Go.Proofs.YtljajnaclpbecaaGreatDoor

namespace Go.Proofs.YtljajnaclpbecaaGreatDoor
open Go.RowKit
set_option maxRecDepth 100000
set_option linter.unusedVariables false
set_option linter.unusedSimpArgs false
section
variable {w0 w w' : World} {g : Nat} {F : Foot} {I : In} {os rs : List Int} {p q : Ps} {ov : Bool} {bs ks : List Int}
set_option maxRecDepth 1000000 in
set_option maxHeartbeats 8000000 in
theorem par_26 (h : PS w0 w g F I os os p p false bs ks) (ho : (I.op = 26 ∨ I.op = 90 ∨ I.op = 74)) : Calls Tryz.prog 78 #[.pointer (some ⟨g, 0, none⟩)] w (Gp w0 g F I os p bs ks (arO ⟨os, p.key, p.il, p.cc, p.pg, p.ad, bs, ks⟩ I.op I.n (opC I.op I.fm bs ks p.key (I.a os)) (opV I.op I.fm os I.k bs (I.a os)))) := by
  have u0 := getD_in h.ro I.n
  have V0 := opV_in (op := I.op) (fm := I.fm) (a := I.a os) (k := I.k) h.ro h.st.rb
  have PO := Lib.hid (fun W (hW : PS w0 W g F I os os p p false bs ks) => popd_c hW)
  obtain ⟨u, hu⟩ : ∃ u, os.getD I.n 0 = u := ⟨_, rfl⟩
  obtain ⟨V, hV⟩ : ∃ V, opV I.op I.fm os I.k bs (I.a os) = V := ⟨_, rfl⟩
  obtain ⟨C, hC⟩ : ∃ C, opC I.op I.fm bs ks p.key (I.a os) = C := ⟨_, rfl⟩
  rw [hu] at u0
  rw [hV] at V0
  rw [hV, hC] at PO ⊢
  clear hV hC
  rcases ho with ho | ho | ho
  all_goals
    rw [ho]
    have HU := Lib.hid hu
    have HO := Lib.hid ho
    have R0 := Lib.hid h
    have hn := h.ix.n
    clear hu ho h
    refine R0.out.opn ?_
    intros
    go_enter Tryz.func78, Tryz.ntmps78
    go_upto_region 6 with fail
    refine wp_region_held_drew (S := Sy w0 g F I os p) (by kernel_rfl) R0.out.drew.x (fun hHeld => ?_)
    replace R0 := Lib.hid R0.out.drew
    repeat refine tkp ?_
    refine tkq (PO.out _ R0.out) (fun _ _ h => h.2.2.x) ?_ ?_
    rotate_left
    · intro w1 B1
      go_wp2
      exact ⟨rfl, gp_no B1.out.2 (congrArg Out.c (arO_no (by decide) B1.out.1)) B1.out.1⟩
    intro v w1 A1 hHeld
    obtain ⟨rfl, rfl, hR⟩ := A1.out
    have R1 := Lib.hid hR
    clear A1 hR R0 PO
    repeat refine tkp ?_
    refine wpAnyH_done (by kernel_rfl) ?_ _
    refine R1.out.opn ?_
    clear hHeld
    intros
    go_wp2_with (first
      | (go_at_call 135; refine nz (add_c u V u0.1 u0.2 V0.1 V0.2 _) ?_)
      | (go_at_call 106; refine nx (pset_c R1.out _ _ _) ?_; intro w1 R1))
    first | go_end0 | refine bodyPost_ret (results_none rfl _ _ _) rfl ?_
    exact gp_ok R1.out (by rw [← HU.out]; rfl)
end
end Go.Proofs.YtljajnaclpbecaaGreatDoor

namespace Go.Proofs.YtljajnaclpbecaaGreatDoor
open Go.RowKit
set_option maxRecDepth 100000
set_option linter.unusedVariables false
set_option linter.unusedSimpArgs false
section
variable {w0 w w' : World} {g : Nat} {F : Foot} {I : In} {os rs : List Int} {p q : Ps} {ov : Bool} {bs ks : List Int}
set_option maxRecDepth 1000000 in
set_option maxHeartbeats 8000000 in
theorem gx_150 (h : PS w0 w g F I os os p p false bs ks) (ho : I.op = 150) : Calls Tryz.prog 67 #[.pointer (some ⟨g, 0, none⟩)] w (Gp w0 g F I os p bs ks (imO ⟨os, p.key, p.il, p.cc, p.pg, p.ad, bs, ks⟩ I.op (I.a1 os) I.i)) := by
  have XC := Lib.hid (fun W (hW : PS w0 W g F I os os p p false bs ks) => pim_150 hW ho)
  obtain ⟨r, hr⟩ : ∃ r, (imO ⟨os, p.key, p.il, p.cc, p.pg, p.ad, bs, ks⟩ I.op (I.a1 os) I.i) = r := ⟨_, rfl⟩
  rw [hr] at XC ⊢
  have R0 := Lib.hid h
  have HO := Lib.hid ho
  clear hr h ho
  refine R0.out.opn ?_
  intros
  go_enter Tryz.func67, Tryz.ntmps67
  go_wp2_with (go_at_call 76; refine nxp (XC.out _ R0.out) (fun w1 Z => ?_) (fun w1 Z => ?_))
  · first | go_end0 | refine bodyPost_ret (results_none rfl _ _ _) rfl ?_
    exact Z.out
  · exact ⟨rfl, Z.out⟩
set_option maxRecDepth 1000000 in
set_option maxHeartbeats 8000000 in
theorem gx_26 (h : PS w0 w g F I os os p p false bs ks) (ho : I.op = 26) : Calls Tryz.prog 67 #[.pointer (some ⟨g, 0, none⟩)] w (Gp w0 g F I os p bs ks (arO ⟨os, p.key, p.il, p.cc, p.pg, p.ad, bs, ks⟩ I.op I.n (opC I.op I.fm bs ks p.key (I.a os)) (opV I.op I.fm os I.k bs (I.a os)))) := by
  have XC := Lib.hid (fun W (hW : PS w0 W g F I os os p p false bs ks) => par_26 hW (.inl ho))
  obtain ⟨r, hr⟩ : ∃ r, (arO ⟨os, p.key, p.il, p.cc, p.pg, p.ad, bs, ks⟩ I.op I.n (opC I.op I.fm bs ks p.key (I.a os)) (opV I.op I.fm os I.k bs (I.a os))) = r := ⟨_, rfl⟩
  rw [hr] at XC ⊢
  have R0 := Lib.hid h
  have HO := Lib.hid ho
  clear hr h ho
  refine R0.out.opn ?_
  intros
  go_enter Tryz.func67, Tryz.ntmps67
  go_wp2_with (go_at_call 78; refine nxp (XC.out _ R0.out) (fun w1 Z => ?_) (fun w1 Z => ?_))
  · first | go_end0 | refine bodyPost_ret (results_none rfl _ _ _) rfl ?_
    exact Z.out
  · exact ⟨rfl, Z.out⟩
theorem Px.zero {o : Out} {e : Ending} {w' : World} (h : Px w F os p bs ks o e w') (hc : o.c = 0) (hv : o.ov = false) : e = .returned (.tuple #[.agg (o.rs.map (Value.int .u32)).toArray, .agg (p.to o.cc o.pg o.ad).v.toArray, .int .i64 0]) ∧ St 63 w' F o.bs ks ∧ Ch w w' [F.gb] := by
  obtain ⟨h1, h2⟩ := h.2.2 hc
  rw [if_neg (by rw [hv]; simp)] at h1
  exact ⟨h1, h2, h.1⟩
set_option maxRecDepth 1000000 in
set_option maxHeartbeats 8000000 in
theorem oi_c (h : St 63 w F bs ks) (hl : os.length = 16) (ro : ∀ z ∈ os, 0 ≤ z ∧ z ≤ 4294967295) (P0 : 0 ≤ p.pg ∧ p.pg ≤ 15) (h3 : pok p.m p.key p.cd p.il p.cc p.pg p.ad = true) (hf : sCode (alF p.key) bs.length ks 1049 1 = 0) (hp : sCode (alP p.key) bs.length ks 1049 1 = 0) {y : Int} (hy : bits .or .u8 ((sGet bs 1049 1).getD 0 0) 240 = y) : Calls Tryz.prog 51 #[insV [150, 4, 0, 0, 0, 0, 1049, 0, 0, 0, 0, 240], .agg (os.map (Value.int .u32)).toArray, .agg p.v.toArray, .pointer (some ⟨F.g, 0, none⟩)] w fun e w' => e = .returned (.tuple #[.agg (os.map (Value.int .u32)).toArray, .agg (p.to (if y = 0 then 0 else 1) p.pg p.ad).v.toArray, .int .i64 0]) ∧ St 63 w' F (sPut (alP p.key) bs ks 1049 [y]) ks ∧ Ch w w' [F.gb] := by
  have hO : imO ⟨os, p.key, p.il, p.cc, p.pg, p.ad, bs, ks⟩ 150 1049 240 = ⟨0, os, if y = 0 then 0 else 1, p.pg, p.ad, false, sPut (alP p.key) bs ks 1049 [y]⟩ := by
    have h0 : Pre.fc ⟨os, p.key, p.il, p.cc, p.pg, p.ad, bs, ks⟩ 1049 1 = 0 := hf
    unfold imO
    rw [if_neg (by decide), if_neg (fun h => h h0)]
    subst hy
    exact wr_ok hp
  have hx := pexec_ok (I := ⟨150, 4, 0, 0, 0, 0, 1049, 0, 0, 0, 0, 240⟩) (o := ⟨0, os, if y = 0 then 0 else 1, p.pg, p.ad, false, sPut (alP p.key) bs ks 1049 [y]⟩) hl ro ⟨by decide, by decide, by decide, by decide, by decide, by decide, by decide, by decide, by decide⟩ P0 h (by decide +kernel) (by decide +kernel) h3 hl (fun w0 W g hW => by
    have := gx_150 hW rfl
    rw [show imO ⟨os, p.key, p.il, p.cc, p.pg, p.ad, bs, ks⟩ (150 : Int) ((⟨150, 4, 0, 0, 0, 0, 1049, 0, 0, 0, 0, 240⟩ : In).a1 os) 240 = _ from hO] at this
    exact this)
  exact Calls.mono hx fun e w' hh => hh.zero rfl rfl
set_option maxRecDepth 1000000 in
set_option maxHeartbeats 8000000 in
theorem ar_c (h : St 63 w F bs ks) (P0 : 0 ≤ p.pg ∧ p.pg ≤ 15) (h3 : pok p.m p.key p.cd p.il p.cc p.pg p.ad = true) : Calls Tryz.prog 51 #[insV [26, 1, 1, 2, 0, 0, 0, 0, 0, 0, 0, 0], .agg (([0, 5, 7, 0, 0, 0, 0, 0, 0, 0, 0, 0, 0, 0, 0, 0] : List Int).map (Value.int .u32)).toArray, .agg p.v.toArray, .pointer (some ⟨F.g, 0, none⟩)] w fun e w' => e = .returned (.tuple #[.agg (([0, 12, 7, 0, 0, 0, 0, 0, 0, 0, 0, 0, 0, 0, 0, 0] : List Int).map (Value.int .u32)).toArray, .agg (p.to 2 p.pg p.ad).v.toArray, .int .i64 0]) ∧ St 63 w' F bs ks ∧ Ch w w' [F.gb] := by
  have hx := pexec_ok (os := [0, 5, 7, 0, 0, 0, 0, 0, 0, 0, 0, 0, 0, 0, 0, 0]) (I := ⟨26, 1, 1, 2, 0, 0, 0, 0, 0, 0, 0, 0⟩) (o := ⟨0, [0, 12, 7, 0, 0, 0, 0, 0, 0, 0, 0, 0, 0, 0, 0, 0], 2, p.pg, p.ad, false, bs⟩) rfl (by decide) ⟨by decide, by decide, by decide, by decide, by decide, by decide, by decide, by decide, by decide⟩ P0 h (by decide +kernel) (by decide +kernel) h3 rfl (fun w0 W g hW => by
    have := gx_26 hW rfl
    exact this)
  exact Calls.mono hx fun e w' hh => hh.zero rfl rfl
end
end Go.Proofs.YtljajnaclpbecaaGreatDoor

namespace Go.Proofs.YtljajnaclpbecaaGreatDoor
open Go.RowKit
set_option maxRecDepth 100000
set_option linter.unusedVariables false
set_option linter.unusedSimpArgs false
def p256 : Ps := { p00 with ad := 256 }
section
variable {w0 w w' : World} {g : Nat} {F : Foot} {rs os : List Int} {p q : Ps} {n : Int} {bs bs' ks : List Int}
set_option maxRecDepth 1000000 in
set_option maxHeartbeats 8000000 in
theorem step_ar (h : CP w0 w g F [0, 5, 7, 0, 0, 0, 0, 0, 0, 0, 0, 0, 0, 0, 0, 0] p256 0 bs (z0 2)) (hl : bs.length = 4096) (hm : sGet bs 256 2 = [26, 18]) : Calls Tryz.prog 14 #[.pointer (some ⟨g, 0, none⟩)] w fun e w' => e = .returned (.agg #[.int .i64 0, .int .i64 0, .int .i64 0, .int .i64 0]) ∧ CP w0 w' g F [0, 12, 7, 0, 0, 0, 0, 0, 0, 0, 0, 0, 0, 0, 0, 0] ((p256.adv 2).to 2 0 258) 1 bs (z0 2) := by
  have hc : sCode (alF p256.key) bs.length (z0 2) ((256 : Nat) : Int) ((2 : Nat) : Int) = 0 := by rw [hl]; exact scode_0 alF_0 _ _ _ _ (by omega)
  refine cstep_c h rfl (fun W hW hcW => ?_)
  refine cnext_c (m := 2) (zs := [26, 18]) hW (by decide) (by omega) (fun W2 hW2 => ?_) (fun W2 b cap hW2 hc2 hy => ?_)
  · have hf := cfet_c hW2 256 2 (by decide) (by decide) hc (by show lenOf ((sGet bs 256 2).getD 0 0) = 2; rw [hm]; decide) (.inl rfl) hc
    rw [show sGet bs ((256 : Nat) : Int) ((2 : Nat) : Int) = [26, 18] from hm] at hf
    exact hf
  · exact cexe_c (op := 26) (ix := [26, 1, 1, 2, 0, 0, 0, 0, 0, 0, 0, 0]) (kb := false) hW2 hy (by decide) (by decide +kernel) (by decide +kernel) rfl rfl rfl (by kernel_rfl) (fun W3 => kd_26 W3) rfl rfl (by decide) (fun W3 hW3 => ar_c hW3.st (by decide) (by decide +kernel))
end
end Go.Proofs.YtljajnaclpbecaaGreatDoor

namespace Go.Proofs.YtljajnaclpbecaaGreatDoor
open Go.RowKit
set_option maxRecDepth 100000
set_option linter.unusedVariables false
set_option linter.unusedSimpArgs false
theorem mem_ar : sGet (memN [[26, 1, 1, 2, 0, 0, 0, 0, 0, 0, 0, 0]] 1).1 256 2 = [26, 18] ∧ (memN [[26, 1, 1, 2, 0, 0, 0, 0, 0, 0, 0, 0]] 1).1.length = 4096 := by
  have e : encI [26, 1, 1, 2, 0, 0, 0, 0, 0, 0, 0, 0] = [26, 18] := by decide +kernel
  have hz : (z0 4096).length = 4096 := by unfold z0; simp
  have hw : bsW.length = 4096 := by
    unfold bsW
    rw [show (104 : Int) = ((104 : Nat) : Int) from rfl, show (96 : Int) = ((96 : Nat) : Int) from rfl, sput_len _ _ _ _ (by rw [sput_len _ _ _ _ (by rw [hz]; decide), hz]; decide), sput_len _ _ _ _ (by rw [hz]; decide), hz]
  have hm : (memN [[26, 1, 1, 2, 0, 0, 0, 0, 0, 0, 0, 0]] 1).1 = sPut (alP 0) bsW (z0 2) ((256 : Nat) : Int) [26, 18] := by
    show sPut (alP 0) bsW (z0 2) 256 (encI [26, 1, 1, 2, 0, 0, 0, 0, 0, 0, 0, 0]) = _
    rw [e]; rfl
  rw [hm]
  refine ⟨?_, by rw [sput_len _ _ _ _ (by rw [hw]; decide), hw]⟩
  refine sget_eq _ [26, 18] 256 2 rfl (by rw [sput_len _ _ _ _ (by rw [hw]; decide), hw]; decide) fun k hk => ?_
  rw [sput_get _ _ _ _ (by rw [hw]; decide), if_pos (by simp; omega)]
  congr 1
  omega
set_option maxRecDepth 1000000 in
set_option maxHeartbeats 8000000 in
theorem adds_c (w : World) : Calls Tryz.prog 5 #[] w fun e w' => e = .returned (.bool true) ∧ Below w.heap.size w w' := by
  go_enter Tryz.func5, Tryz.ntmps5
  go_upto_region 1 with fail
  refine wp_region_list ?_
  simp only [List.append_eq, List.cons_append, List.nil_append]
  refine lsv (v := insV [26, 1, 1, 2, 0, 0, 0, 0, 0, 0, 0, 0]) (w' := w) ?_ (hr := by first | (go_simp; done) | (go_simp; kernel_rfl))
  refine lsv (v := .slice (some ⟨w.heap.size, 0, none⟩) 1 1) (w' := w.alloc (.cells (([26, 1, 1, 2, 0, 0, 0, 0, 0, 0, 0, 0] : List Int).map (Value.int .i64)).toArray 54)) ?_
  have B1 := Bk.new w (([26, 1, 1, 2, 0, 0, 0, 0, 0, 0, 0, 0] : List Int).map (Value.int .i64)) 54
  have L1 := (Below.refl w.heap.size w).alloc (Nat.le_refl _) (.cells (([26, 1, 1, 2, 0, 0, 0, 0, 0, 0, 0, 0] : List Int).map (Value.int .i64)).toArray 54)
  obtain ⟨w1, hW⟩ : ∃ V, w.alloc (.cells (([26, 1, 1, 2, 0, 0, 0, 0, 0, 0, 0, 0] : List Int).map (Value.int .i64)).toArray 54) = V := ⟨_, rfl⟩
  rw [hW] at B1 L1
  rw [hW]
  clear hW
  have MC := Lib.hid (machine_c (w := w1) (b := w.heap.size) (k := 1) (cap := 1) (ixs := [[26, 1, 1, 2, 0, 0, 0, 0, 0, 0, 0, 0]]) (p := p00) rfl (by decide) B1.lt (fun i ix h => by
    match i, h with
    | 0, h => injection h with h; subst h; exact B1.row
    | n + 1, h => cases h) (fun ix h => by
    rw [List.mem_singleton] at h
    subst h
    exact ⟨rfl, by decide, by decide +kernel⟩) (by decide +kernel))
  have LL := Lib.hid L1
  clear B1 L1
  refine lsv (v := .agg p00.v.toArray) (w' := w1) ?_ (hr := by first | (go_simp; done) | (go_simp; kernel_rfl))
  refine lsce MC.out ?_
  intro v w2 Z
  obtain ⟨g, F, rfl, hC, hb, hg1, hg2⟩ := Z.out
  have H := Lib.hid (show CP w2 w2 g F zr16 p256 0 (memN [[26, 1, 1, 2, 0, 0, 0, 0, 0, 0, 0, 0]] 1).1 (z0 2) from hC)
  have hl1 := LL.out.size
  replace LL := Lib.hid (LL.out.trans (hb.mono LL.out.size))
  have hlw := LL.out.size
  clear Z hC hb MC
  refine lsv (w' := w2) ?_
  refine lsv (w' := w2) ?_
  refine lsv (w' := w2) ?_
  refine lsv (w' := w2) ?_
  refine lsv (w' := w2) ?_
  refine wpList_nil ?_
  go_upto_region 2 with fail
  refine wp_region_list ?_
  simp only [List.append_eq, List.cons_append, List.nil_append]
  refine lsv (w' := w2) ?_
  refine lsv (w' := w2) ?_
  refine lsv (w' := w2) ?_
  refine lsv (w' := w2) ?_
  refine lsv (v := .agg (([0, 5, 7, 0, 0, 0, 0, 0, 0, 0, 0, 0, 0, 0, 0, 0] : List Int).map (Value.int .u32)).toArray) (w' := w2) ?_ (hr := by first | (go_simp; done) | (go_simp; kernel_rfl))
  refine lsc (csetregs_c (os := [0, 5, 7, 0, 0, 0, 0, 0, 0, 0, 0, 0, 0, 0, 0, 0]) H.out rfl (by decide)) ?_
  intro w3 Z
  replace H := Lib.hid Z.out
  clear Z
  refine lsv (w' := w3) ?_
  refine lsv (w' := w3) ?_
  refine wpList_nil ?_
  go_upto_region 4 with fail
  refine wp_region_list ?_
  simp only [List.append_eq, List.cons_append, List.nil_append]
  refine lsv (w' := w3) ?_
  refine lsc (step_ar H.out mem_ar.2 mem_ar.1) ?_
  intro w4 Z
  replace H := Lib.hid Z.out
  clear Z
  refine lsv (v := .agg #[.int .i64 0, .int .i64 0, .int .i64 0, .int .i64 0]) (w' := w4) ?_ (hr := by first | (go_simp; done) | (go_simp; kernel_rfl))
  refine lsv (v := .bool true) (w' := w4) ?_ (hr := by unfold execOp; simp only [Act.eval]; kernel_rfl)
  refine lsv (w' := w4) ?_
  refine lsv (w' := w4) ?_
  refine lsc (cregs_c H.out) ?_
  intro w5 Z
  replace H := Lib.hid Z.out
  clear Z
  refine lsv (v := .int .u32 12) (w' := w5) ?_ (hr := by first | (go_simp; done) | (go_simp; kernel_rfl))
  refine lsv (v := .bool true) (w' := w5) ?_
  refine lsv (w' := w5) ?_
  refine lsv (w' := w5) ?_
  refine lsv (w' := w5) ?_
  refine lsc (cpsw_c H.out) ?_
  intro w6 Z
  replace H := Lib.hid Z.out
  clear Z
  refine lsv (v := .int .i64 2) (w' := w6) ?_ (hr := by first | (go_simp; done) | (go_simp; kernel_rfl))
  refine lsv (v := .bool true) (w' := w6) ?_
  refine lsv (w' := w6) ?_
  refine lsv (w' := w6) ?_
  refine wpList_nil ?_
  go_wp2
  go_ret
  have lw := LL.out.size
  exact ⟨rfl, below_ch LL.out H.out.b (by simp; omega) hlw⟩
end Go.Proofs.YtljajnaclpbecaaGreatDoor

namespace Go.Proofs.YtljajnaclpbecaaGreatDoor
open Go.RowKit
set_option maxRecDepth 100000
set_option linter.unusedVariables false
set_option linter.unusedSimpArgs false
theorem tab_ch2 {w w' : World} {L : List Nat} (h : Lib.TabIs Tryz.prog w "internal/strconv.uint64pow10" .u64 Lib.pow10Tab) (hc : Ch w w' L) (hg : 2 ∉ L ∧ 2 < w.heap.size) : Lib.TabIs Tryz.prog w' "internal/strconv.uint64pow10" .u64 Lib.pow10Tab := by
  have e := hc.block 2 hg.2 hg.1
  have g0 : Tryz.prog.globalNamed "internal/strconv.uint64pow10" = some 2 := by kernel_rfl
  unfold Lib.TabIs World.var? at h ⊢
  rw [g0] at h ⊢
  simp only [Option.bind_some] at h ⊢
  rw [e]
  exact h
/-- what CVD stores for a register's word -/
def cvdV (v : Int) : List Int := cvdB (decide (nOf v < 0)) (nOf v).natAbs
section
variable {w0 w w' : World} {g : Nat} {F : Foot} {rs os : List Int} {p q : Ps} {n : Int} {bs bs' ks : List Int}
set_option maxRecDepth 1000000 in
set_option maxHeartbeats 8000000 in
theorem step_cvd {v : Int} (h : CP w0 w g F rs p256 0 bs (z0 2)) (hrl : rs.length = 16) (hro : ∀ z ∈ rs, 0 ≤ z ∧ z ≤ 4294967295) (hv : rs.getD 1 0 = v) (v0 : 0 ≤ v) (v1 : v ≤ 4294967295) (hl : bs.length = 4096) (hm : sGet bs 256 4 = [78, 16, 4, 0]) (hm2 : sGet bs 256 2 = [78, 16]) (ht : Lib.TabIs Tryz.prog w0 "internal/strconv.uint64pow10" .u64 Lib.pow10Tab) (hg : (2 ≠ g ∧ 2 ≠ F.gb) ∧ 2 < w0.heap.size) : Calls Tryz.prog 14 #[.pointer (some ⟨g, 0, none⟩)] w fun e w' => e = .returned (.agg #[.int .i64 0, .int .i64 0, .int .i64 0, .int .i64 0]) ∧ CP w0 w' g F rs (p256.adv 4) 1 (sPut (alP 0) bs (z0 2) 1024 (cvdV v)) (z0 2) := by
  have hc : ∀ n : Nat, n ≤ 4 → sCode (alF p256.key) bs.length (z0 2) ((256 : Nat) : Int) (n : Int) = 0 := fun n hn => by rw [hl]; exact scode_0 alF_0 _ _ _ _ (by omega)
  have hp : sCode (alP (p256.adv 4).key) bs.length (z0 2) 1024 8 = 0 := by rw [hl]; exact scode_0 alP_0 _ _ 1024 8 (by omega)
  refine cstep_c h rfl (fun W hW hcW => ?_)
  have tW := tab_ch2 ht hcW ⟨by simp; omega, hg.2⟩
  have lW := hcW.size
  refine cnext_c (m := 4) (zs := [78, 16, 4, 0]) hW (by decide) (by omega) (fun W2 hW2 => ?_) (fun W2 b cap hW2 hc2 hy => ?_)
  · have hf := cfet_c hW2 256 4 (by decide) (by decide) (hc 2 (by omega)) (by show lenOf ((sGet bs 256 2).getD 0 0) = 4; rw [hm2]; decide) (.inr ⟨by omega, by omega, by omega⟩) (hc 4 (by omega))
    rw [show sGet bs ((256 : Nat) : Int) ((4 : Nat) : Int) = [78, 16, 4, 0] from hm] at hf
    exact hf
  · have tW2 := tab_ch2 tW hc2 ⟨by simp; omega, by omega⟩
    have lW2 := hc2.size
    refine cexe_c (op := 78) (ix := [78, 2, 1, 0, 0, 0, 0, 0, 1024, 0, 0, 0]) (kb := true) hW2 hy (by decide) (by decide +kernel) (by decide +kernel) rfl rfl rfl (by kernel_rfl) (fun W3 => kd_78 W3) rfl hrl hro (fun W3 hW3 => ?_)
    have tW3 := tab_ch2 tW2 hW3.b ⟨by simp; omega, by omega⟩
    have lW3 := hW3.b.size
    refine dexec_ok 78 2 1 0 0 0 0 0 1024 0 0 0 (p256.adv 4) hrl hW3.st kd_78 (by decide +kernel) (by decide +kernel) (fun W4 g4 hD hc4 => ?_)
    have tW4 := tab_ch2 tW3 hc4 ⟨by simp; omega, by omega⟩
    have lW4 := hc4.size
    refine dcvd_c hD hp (by unfold cvdV cvdB; exact pkB_len _) tW4 ⟨by omega, by omega⟩ (fun W5 tW5 => ?_)
    rw [hv]
    exact fromb_c v v0 v1 (cvdV v) W5 tW5 (fun W6 neg u hn hu => by
      subst hn hu
      exact encode8_c _ _ (by unfold nOf; split <;> omega) W6)
end
def p260 : Ps := p256.adv 4
def p266 : Ps := p260.adv 6
section
variable {w0 w w' : World} {g : Nat} {F : Foot} {rs os : List Int} {p q : Ps} {n : Int} {bs bs' ks : List Int}
set_option maxRecDepth 1000000 in
set_option maxHeartbeats 8000000 in
theorem step_unpk {zu : List Int} (h : CP w0 w g F rs p260 1 bs (z0 2)) (hrl : rs.length = 16) (hro : ∀ z ∈ rs, 0 ≤ z ∧ z ≤ 4294967295) (hl : bs.length = 4096) (hm : sGet bs 260 6 = [243, 151, 4, 16, 4, 0]) (hm2 : sGet bs 260 2 = [243, 151]) (hzu : zu.length = 10) (up : ∀ W b cap, Byt W (some ⟨b, 0, none⟩) 8 (sGet bs 1024 8) → Calls Tryz.prog 89 #[.slice (some ⟨b, 0, none⟩) 8 cap, .int .i64 10] W fun e w' => ∃ v, e = .returned v ∧ ∃ A cap, v = .slice A 10 cap ∧ Byt w' A 10 zu ∧ Below W.heap.size W w') : Calls Tryz.prog 14 #[.pointer (some ⟨g, 0, none⟩)] w fun e w' => e = .returned (.agg #[.int .i64 0, .int .i64 0, .int .i64 0, .int .i64 0]) ∧ CP w0 w' g F rs (p260.adv 6) 2 (sPut (alP 0) bs (z0 2) 1040 zu) (z0 2) := by
  have hc : ∀ n : Nat, n ≤ 6 → sCode (alF p260.key) bs.length (z0 2) ((260 : Nat) : Int) (n : Int) = 0 := fun n hn => by rw [hl]; exact scode_0 alF_0 _ _ _ _ (by omega)
  have hp : sCode (alP (p260.adv 6).key) bs.length (z0 2) 1040 10 = 0 := by rw [hl]; exact scode_0 alP_0 _ _ 1040 10 (by omega)
  have hf8 : sCode (alF (p260.adv 6).key) bs.length (z0 2) 1024 8 = 0 := by rw [hl]; exact scode_0 alF_0 _ _ 1024 8 (by omega)
  refine cstep_c h rfl (fun W hW hcW => ?_)
  refine cnext_c (m := 6) (zs := [243, 151, 4, 16, 4, 0]) hW (by decide) (by omega) (fun W2 hW2 => ?_) (fun W2 b cap hW2 hc2 hy => ?_)
  · have hf := cfet_c hW2 260 6 (by decide) (by decide) (hc 2 (by omega)) (by show lenOf ((sGet bs 260 2).getD 0 0) = 6; rw [hm2]; decide) (.inr ⟨by omega, by omega, by omega⟩) (hc 6 (by omega))
    rw [show sGet bs ((260 : Nat) : Int) ((6 : Nat) : Int) = [243, 151, 4, 16, 4, 0] from hm] at hf
    exact hf
  · refine cexe_c (op := 243) (ix := [243, 6, 0, 0, 0, 0, 1040, 0, 1024, 9, 7, 0]) (kb := true) hW2 hy (by decide) (by decide +kernel) (by decide +kernel) rfl rfl rfl (by kernel_rfl) (fun W3 => kd_243 W3) rfl hrl hro (fun W3 hW3 => ?_)
    refine dexec_ok 243 6 0 0 0 0 1040 0 1024 9 7 0 (p260.adv 6) hrl hW3.st kd_243 (by decide +kernel) (by decide +kernel) (fun W4 g4 hD hc4 => ?_)
    exact dunpk_c hD hp hf8 hzu up
set_option maxRecDepth 1000000 in
set_option maxHeartbeats 8000000 in
theorem step_oi {y : Int} (h : CP w0 w g F rs p266 2 bs (z0 2)) (hrl : rs.length = 16) (hro : ∀ z ∈ rs, 0 ≤ z ∧ z ≤ 4294967295) (hl : bs.length = 4096) (hm : sGet bs 266 4 = [150, 240, 4, 25]) (hm2 : sGet bs 266 2 = [150, 240]) (hy0 : bits .or .u8 ((sGet bs 1049 1).getD 0 0) 240 = y) : Calls Tryz.prog 14 #[.pointer (some ⟨g, 0, none⟩)] w fun e w' => e = .returned (.agg #[.int .i64 0, .int .i64 0, .int .i64 0, .int .i64 0]) ∧ CP w0 w' g F rs ((p266.adv 4).to (if y = 0 then 0 else 1) 0 270) 3 (sPut (alP 0) bs (z0 2) 1049 [y]) (z0 2) := by
  have hc : ∀ n : Nat, n ≤ 6 → sCode (alF p266.key) bs.length (z0 2) ((266 : Nat) : Int) (n : Int) = 0 := fun n hn => by rw [hl]; exact scode_0 alF_0 _ _ _ _ (by omega)
  have hp : sCode (alP (p266.adv 4).key) bs.length (z0 2) 1049 1 = 0 := by rw [hl]; exact scode_0 alP_0 _ _ 1049 1 (by omega)
  have hf1 : sCode (alF (p266.adv 4).key) bs.length (z0 2) 1049 1 = 0 := by rw [hl]; exact scode_0 alF_0 _ _ 1049 1 (by omega)
  refine cstep_c h rfl (fun W hW hcW => ?_)
  refine cnext_c (m := 4) (zs := [150, 240, 4, 25]) hW (by decide) (by omega) (fun W2 hW2 => ?_) (fun W2 b cap hW2 hc2 hy => ?_)
  · have hf := cfet_c hW2 266 4 (by decide) (by decide) (hc 2 (by omega)) (by show lenOf ((sGet bs 266 2).getD 0 0) = 4; rw [hm2]; decide) (.inr ⟨by omega, by omega, by omega⟩) (hc 4 (by omega))
    rw [show sGet bs ((266 : Nat) : Int) ((4 : Nat) : Int) = [150, 240, 4, 25] from hm] at hf
    exact hf
  · exact cexe_c (op := 150) (ix := [150, 4, 0, 0, 0, 0, 1049, 0, 0, 0, 0, 240]) (kb := false) hW2 hy (by decide) (by decide +kernel) (by decide +kernel) rfl rfl rfl (by kernel_rfl) (fun W3 => kd_150 W3) rfl hrl hro (fun W3 hW3 => oi_c hW3.st hrl hro (by decide) (by decide +kernel) hf1 hp hy0)
end
end Go.Proofs.YtljajnaclpbecaaGreatDoor

namespace Go.Proofs.YtljajnaclpbecaaGreatDoor
open Go.RowKit
set_option maxRecDepth 100000
set_option linter.unusedVariables false
set_option linter.unusedSimpArgs false
def ix3 : List (List Int) := [[78, 2, 1, 0, 0, 0, 0, 0, 1024, 0, 0, 0], [243, 6, 0, 0, 0, 0, 1040, 0, 1024, 9, 7, 0], [150, 4, 0, 0, 0, 0, 1049, 0, 0, 0, 0, 240]]
def bs3 : List Int := (memN ix3 3).1
theorem bsW_len : bsW.length = 4096 := by
  have hz : (z0 4096).length = 4096 := by unfold z0; simp
  unfold bsW
  rw [show (104 : Int) = ((104 : Nat) : Int) from rfl, show (96 : Int) = ((96 : Nat) : Int) from rfl, sput_len _ _ _ _ (by rw [sput_len _ _ _ _ (by rw [hz]; decide), hz]; decide), sput_len _ _ _ _ (by rw [hz]; decide), hz]
theorem bs3_eq : bs3 = sPut (alP 0) (sPut (alP 0) (sPut (alP 0) bsW (z0 2) ((256 : Nat) : Int) [78, 16, 4, 0]) (z0 2) ((260 : Nat) : Int) [243, 151, 4, 16, 4, 0]) (z0 2) ((266 : Nat) : Int) [150, 240, 4, 25] := by
  have e1 : encI [78, 2, 1, 0, 0, 0, 0, 0, 1024, 0, 0, 0] = [78, 16, 4, 0] := by decide +kernel
  have e2 : encI [243, 6, 0, 0, 0, 0, 1040, 0, 1024, 9, 7, 0] = [243, 151, 4, 16, 4, 0] := by decide +kernel
  have e3 : encI [150, 4, 0, 0, 0, 0, 1049, 0, 0, 0, 0, 240] = [150, 240, 4, 25] := by decide +kernel
  show (putI (putI (putI (bsW, 256) [78, 2, 1, 0, 0, 0, 0, 0, 1024, 0, 0, 0]) [243, 6, 0, 0, 0, 0, 1040, 0, 1024, 9, 7, 0]) [150, 4, 0, 0, 0, 0, 1049, 0, 0, 0, 0, 240]).1 = _
  simp only [putI, e1, e2, e3]
  rfl
theorem bs3_len : bs3.length = 4096 := by
  have h := bsW_len
  rw [bs3_eq, sput_len _ _ _ _ (by rw [sput_len _ _ _ _ (by rw [sput_len _ _ _ _ (by rw [h]; decide), h]; decide), sput_len _ _ _ _ (by rw [h]; decide), h]; decide), sput_len _ _ _ _ (by rw [sput_len _ _ _ _ (by rw [h]; decide), h]; decide), sput_len _ _ _ _ (by rw [h]; decide), h]
theorem bs3_get (i : Nat) : bs3.getD i 0 = if 266 ≤ i ∧ i < 270 then ([150, 240, 4, 25] : List Int).getD (i - 266) 0 else if 260 ≤ i ∧ i < 266 then ([243, 151, 4, 16, 4, 0] : List Int).getD (i - 260) 0 else if 256 ≤ i ∧ i < 260 then ([78, 16, 4, 0] : List Int).getD (i - 256) 0 else bsW.getD i 0 := by
  have h := bsW_len
  rw [bs3_eq, sput_get _ _ _ _ (by rw [sput_len _ _ _ _ (by rw [sput_len _ _ _ _ (by rw [h]; decide), h]; decide), sput_len _ _ _ _ (by rw [h]; decide), h]; decide), sput_get _ _ _ _ (by rw [sput_len _ _ _ _ (by rw [h]; decide), h]; decide), sput_get _ _ _ _ (by rw [h]; decide)]
  rfl
theorem m256 : sGet bs3 256 4 = [78, 16, 4, 0] := by
  refine sget_eq _ _ 256 4 rfl (by rw [bs3_len]; decide) fun k hk => ?_
  rw [bs3_get, if_neg (by omega), if_neg (by omega), if_pos (by omega), show 256 + k - 256 = k by omega]
theorem m256' : sGet bs3 256 2 = [78, 16] := by
  refine sget_eq _ _ 256 2 rfl (by rw [bs3_len]; decide) fun k hk => ?_
  rw [bs3_get, if_neg (by omega), if_neg (by omega), if_pos (by omega), show 256 + k - 256 = k by omega]
  rcases (show k = 0 ∨ k = 1 by omega) with rfl | rfl <;> rfl
/-- a storage that below 1000 is bs3 -/
def Low3 (bs : List Int) : Prop := bs.length = 4096 ∧ ∀ i, i < 1000 → bs.getD i 0 = bs3.getD i 0
theorem Low3.put {bs ys : List Int} {a : Nat} (h : Low3 bs) (ha : 1000 ≤ a) (hy : a + ys.length ≤ 4096) : Low3 (sPut (alP 0) bs (z0 2) (a : Int) ys) :=
  ⟨by rw [sput_len _ _ _ _ (by rw [h.1]; exact hy), h.1], fun i hi => by rw [sput_get _ _ _ _ (by rw [h.1]; exact hy), if_neg (by omega), h.2 i hi]⟩
theorem Low3.m260 {bs : List Int} (h : Low3 bs) : sGet bs 260 6 = [243, 151, 4, 16, 4, 0] ∧ sGet bs 260 2 = [243, 151] := by
  constructor
  · refine sget_eq _ _ 260 6 rfl (by rw [h.1]; decide) fun k hk => ?_
    rw [h.2 _ (by omega), bs3_get, if_neg (by omega), if_pos (by omega), show 260 + k - 260 = k by omega]
  · refine sget_eq _ _ 260 2 rfl (by rw [h.1]; decide) fun k hk => ?_
    rw [h.2 _ (by omega), bs3_get, if_neg (by omega), if_pos (by omega), show 260 + k - 260 = k by omega]
    rcases (show k = 0 ∨ k = 1 by omega) with rfl | rfl <;> rfl
theorem Low3.m266 {bs : List Int} (h : Low3 bs) : sGet bs 266 4 = [150, 240, 4, 25] ∧ sGet bs 266 2 = [150, 240] := by
  constructor
  · refine sget_eq _ _ 266 4 rfl (by rw [h.1]; decide) fun k hk => ?_
    rw [h.2 _ (by omega), bs3_get, if_pos (by omega), show 266 + k - 266 = k by omega]
  · refine sget_eq _ _ 266 2 rfl (by rw [h.1]; decide) fun k hk => ?_
    rw [h.2 _ (by omega), bs3_get, if_pos (by omega), show 266 + k - 266 = k by omega]
    rcases (show k = 0 ∨ k = 1 by omega) with rfl | rfl <;> rfl
end Go.Proofs.YtljajnaclpbecaaGreatDoor

namespace Go.Proofs.YtljajnaclpbecaaGreatDoor
open Go.RowKit
set_option maxRecDepth 100000
set_option linter.unusedVariables false
set_option linter.unusedSimpArgs false
/-- ten digits of a number -/
def dg10 (u k : Nat) : List Nat := (List.range k).map fun i => u / 10 ^ (k - 1 - i) % 10
theorem dg10_succ (u k : Nat) : dg10 u (k + 1) = u / 10 ^ k % 10 :: dg10 u k := by
  unfold dg10
  rw [List.range_succ_eq_map, List.map_cons, List.map_map]
  congr 1
  refine List.map_congr_left fun i _ => ?_
  simp only [Function.comp, Nat.succ_eq_add_one]
  rw [show k + 1 - 1 - (i + 1) = k - 1 - i by omega]
theorem dg10_len (u k : Nat) : (dg10 u k).length = k := by simp [dg10]
theorem dg10_lt (u k : Nat) : ∀ d ∈ dg10 u k, d < 10 := by
  intro d hd
  simp only [dg10, List.mem_map, List.mem_range] at hd
  obtain ⟨i, -, rfl⟩ := hd
  exact Nat.mod_lt _ (by omega)
theorem half_pkB (ns : List Int) (hn : ∀ i, 0 ≤ ns.getD i 0 ∧ ns.getD i 0 ≤ 15) (j : Nat) (hj : j < 16) : half (pkB ns) j = ns.getD j 0 := by
  unfold half
  rw [pkB_len, pkB_get _ _ (by omega)]
  have h1 := hn (14 - 2 * (8 - 1 - j / 2))
  have h2 := hn (15 - 2 * (8 - 1 - j / 2))
  split
  · rw [show j = 14 - 2 * (8 - 1 - j / 2) by omega]
    rw [show 14 - 2 * (8 - 1 - (14 - 2 * (8 - 1 - j / 2)) / 2) = 14 - 2 * (8 - 1 - j / 2) by omega, show 15 - 2 * (8 - 1 - (14 - 2 * (8 - 1 - j / 2)) / 2) = 15 - 2 * (8 - 1 - j / 2) by omega]
    omega
  · have e : j = 15 - 2 * (8 - 1 - j / 2) := by omega
    have e2 : ns.getD j 0 = ns.getD (15 - 2 * (8 - 1 - j / 2)) 0 := congrArg (fun k => ns.getD k 0) e
    rw [e2]
    omega
theorem nd_lt : ∀ u : Nat, u < 10 ^ Lib.nDigits u := by
  intro u
  induction u using Nat.strongRecOn with
  | _ u ih =>
    by_cases h : u < 10
    · unfold Lib.nDigits; rw [dif_pos h]; omega
    · rw [nd_step (by omega), Nat.pow_succ]
      have := ih (u / 10) (by omega)
      omega
theorem half_cvd (neg : Bool) (u j : Nat) (hj : j < 15) : half (cvdB neg u) (j + 1) = ((u / 10 ^ j % 10 : Nat) : Int) := by
  have hs : sgnI neg = 12 ∨ sgnI neg = 13 := by unfold sgnI; cases neg <;> simp
  unfold cvdB
  rw [half_pkB _ (nsOf_rng _ _ _ (by omega) (by omega)) _ (by omega)]
  by_cases h : j < Lib.nDigits u
  · simp [nsOf, List.getD_eq_getElem?_getD, h]
  · rw [getD_out _ _ (by rw [nsOf_len]; omega)]
    have h1 := nd_lt u
    have h2 : 10 ^ Lib.nDigits u ≤ 10 ^ j := Nat.pow_le_pow_right (by omega) (by omega)
    rw [Nat.div_eq_of_lt (by omega)]
    rfl
theorem half_cvd0 (neg : Bool) (u : Nat) : half (cvdB neg u) 0 = sgnI neg := by
  have hs : sgnI neg = 12 ∨ sgnI neg = 13 := by unfold sgnI; cases neg <;> simp
  unfold cvdB
  rw [half_pkB _ (nsOf_rng _ _ _ (by omega) (by omega)) _ (by omega)]
  rfl
theorem cvdB_len (neg : Bool) (u : Nat) : (cvdB neg u).length = 8 := by unfold cvdB; exact pkB_len _
theorem oi_plain : ∀ s : Nat, s < 16 → ∀ d : Nat, d < 16 → bits .or .u8 (16 * (s : Int) + (d : Int)) 240 = 240 + (d : Int) := by decide +kernel
/-- what UNPK and OI leave is the ten digits' characters -/
theorem digits_plain (neg : Bool) (u : Nat) (i : Nat) (hi : i < 9) : (unpk (cvdB neg u) 10).getD i 0 = zon (u / 10 ^ (9 - i) % 10) := by
  unfold unpk
  rw [cvdB_len, outH_get _ _ _ (by omega), if_neg (by omega), hv_len, if_pos (by omega), hv_get _ _ _ (by omega), show 10 - i = (9 - i) + 1 by omega, half_cvd _ _ _ (by omega)]
  unfold zon
  omega
theorem digits_last (neg : Bool) (u : Nat) : bits .or .u8 ((unpk (cvdB neg u) 10).getD 9 0) 240 = zon (u / 10 ^ 0 % 10) := by
  have hs : sgnI neg = ((12 : Nat) : Int) ∨ sgnI neg = ((13 : Nat) : Int) := by unfold sgnI; cases neg <;> simp
  unfold unpk
  rw [cvdB_len, outH_get _ _ _ (by omega), if_pos rfl, hv_len, if_neg (by omega), hv_get _ _ _ (by omega), hv_get _ _ _ (by omega), half_cvd0, half_cvd _ _ 0 (by omega)]
  have hd : u / 10 ^ 0 % 10 < 10 := Nat.mod_lt _ (by omega)
  unfold zon
  rcases hs with h | h <;> rw [h, oi_plain _ (by omega) _ (by omega)] <;> omega
end Go.Proofs.YtljajnaclpbecaaGreatDoor

