/- Contracts and laws on the way to the statement, text 6 of 10. Conditions: as each states them. -/
import Derived.Test.YtljajnaclpbecaaGreatDoorDg1
import Derived.Test.YtljajnaclpbecaaGreatDoorDg3
import Derived.Test.YtljajnaclpbecaaGreatDoorDg5
import Derived.Laws.Rows
import Derived.Laws.CopyOwn
import Derived.Deep.OwnRows
namespace Go.Proofs.YtljajnaclpbecaaGreatDoor
open Go.RowKit
set_option maxRecDepth 100000
set_option linter.unusedVariables false
set_option linter.unusedSimpArgs false
section
variable {L : List Oper} {Q : Exit → Act → World → Prop} {md : Region.Mode} {S : World → Prop} {i : Nat} {oi : Oper} {fuel : Nat} {listed : Array Bool} {a : Act} {w : World}
/-- a row is written in the midst of a block; it alone may come up -/
theorem tksn {g off : Nat} {T : TypeId} {x y : Operand} {cs cs' : List Value} {R : World → Prop} {X : World → Prop} (hB : w.rangeAt g off cs) (hf : ∀ j, w.frozen? ⟨g, j, none⟩ = false) (hl : cs.length = cs'.length) (h1 : cs'.toArray.all (·.oneCell') = true) (hn : (Tryz.prog.info? T).map (·.size) = some cs'.length) (hR : R (w.setCells g off cs')) (hRS : ∀ w', R w' → S w') (h : ∀ w', Hid (R w') → S w' → X w') (hr : Region.ready md L.toArray listed = [i] := by with_unfolding_all rfl) (hi : L[i]? = some oi := by rfl) (ho : oi.op = .store T x y := by rfl) (hx : a.eval x = .pointer (some ⟨g, off, none⟩) := by rfl) (hy : a.eval y = .agg cs'.toArray := by rfl)
    (hw : Region.wanted oi (yielded L.toArray a.tmps) = true := by rfl)
    (hP : ∀ w', wpAnyH Tryz.prog md L.toArray Q S fuel (listed.setIfInBounds i true) (a.put oi.dst undef) w' = X w' := by (intro w'; simp only [Act.put, List.setIfInBounds_toArray, List.set_cons_zero, List.set_cons_succ]; try rfl)) : wpAnyH Tryz.prog md L.toArray Q S (fuel + 1) listed a w := by
  refine tkw hR hRS h hr hi hw ?_ hP
  unfold execOp
  simp only [ho, hx, hy]
  simp only [Sem.run_bind, run_storeAt_mid w g off T cs'.toArray (by have := there_of hB hf; rw [hl] at this; simpa using this) (by simpa using hn) h1, Result.andThen_ok, Sem.run_pure]
end
theorem below_row {B : Nat} {a w : World} (h : Below B a w) {k : Nat} (hk : B ≤ k) (cs : Array Value) : Below B a (w.setRow k cs) := ⟨h.os, h.tape, h.output, by have := h.size; simpa [World.setRow] using this, fun i hi => (setRow_other w k i cs (by omega)).trans (h.block i hi)⟩
/-- two boxes that are new -/
structure M3 (N : Nat) (w : World) (g g' : Nat) (xs ys : List Value) : Prop where
  a : Bk w g 25 xs
  b : Bk w g' 35 ys
  n : N ≤ g ∧ N ≤ g' ∧ g ≠ g'
theorem M3.setb {N : Nat} {w : World} {g g' : Nat} {xs ys : List Value} (h : M3 N w g g' xs ys) (ys' : List Value) : M3 N (w.setRow g' ys'.toArray) g g' xs ys' := ⟨h.a.rowOth h.n.2.2 _, h.b.rowSet _, h.n⟩
section
variable {P : Program} {L : List Oper} {Q : Exit → Act → World → Prop} {md : Region.Mode} {S : World → Prop} {i j k : Nat} {fuel : Nat} {listed : Array Bool} {a : Act} {w : World}
theorem tk3 (hr : Region.ready md L.toArray listed = [i, j, k]) (h : wpOp P L.toArray Q i (fun a' w' => S w' ∧ wpAnyH P md L.toArray Q S fuel (listed.setIfInBounds i true) a' w') a w) (h' : wpOp P L.toArray Q j (fun a' w' => S w' ∧ wpAnyH P md L.toArray Q S fuel (listed.setIfInBounds j true) a' w') a w) (h'' : wpOp P L.toArray Q k (fun a' w' => S w' ∧ wpAnyH P md L.toArray Q S fuel (listed.setIfInBounds k true) a' w') a w) : wpAnyH P md L.toArray Q S (fuel + 1) listed a w := by
  refine ⟨fun h0 => (by rw [hr] at h0; cases h0), fun m hm => ?_⟩
  rw [hr] at hm
  simp only [List.mem_cons, List.not_mem_nil, or_false] at hm
  rcases hm with rfl | rfl | rfl
  · exact h
  · exact h'
  · exact h''
end
section
variable {w0 w w' : World} {g : Nat} {F : Foot} {rs os : List Int} {p q : Ps} {n : Int} {bs ks : List Int}
theorem rowCP (h : CP w0 w g F rs p n bs ks) {k N : Nat} (hk : N ≤ k) (hN : w0.heap.size ≤ N ∧ g < N ∧ F.g < N ∧ F.gb < N ∧ F.gk < N) {cs : Array Value} : CP w0 (w.setRow k cs) g F rs p n bs ks :=
  { h with m := h.m.rowOth (by omega) _, st := h.st.rowOth (by omega) (by omega) (by omega) _, b := h.b.row (.inr (by omega)) _ }
/-- the instruction read, the event -/
structure Two (w : World) (g6 g4 : Nat) (ix : List Int) : Prop where
  a : Bk w g6 54 (ix.map (Value.int .i64))
  b : Bk w g4 44 [.int .i64 0, .int .i64 0, .int .i64 0, .int .i64 0]
section
variable {g6 g4 : Nat} {ix : List Int}
theorem Two.keep (h : Two w g6 g4 ix) (hb : Below w.heap.size w w') : Two w' g6 g4 ix := ⟨h.a.keep hb, h.b.keep hb⟩
theorem Two.drew (h : Two w g6 g4 ix) : Two w.drew g6 g4 ix := ⟨h.a.drewN 1, h.b.drewN 1⟩
theorem Two.ch (h : Two w g6 g4 ix) {l : List Nat} (hc : Ch w w' l) (h1 : g6 ∉ l) (h2 : g4 ∉ l) : Two w' g6 g4 ix := ⟨h.a.ch hc h1, h.b.ch hc h2⟩
theorem Two.row (h : Two w g6 g4 ix) {k : Nat} (h1 : k ≠ g6) (h2 : k ≠ g4) (cs : Array Value) : Two (w.setRow k cs) g6 g4 ix := ⟨h.a.rowOth h1.symm _, h.b.rowOth h2.symm _⟩
end
section
variable {P : Program} {L : List Oper} {Q : Exit → Act → World → Prop} {md : Region.Mode} {S : World → Prop} {i : Nat} {v : Value} {oi : Oper} {fuel : Nat} {listed : Array Bool} {a : Act} {w : World} {X : Prop}
/-- tkn where S holds CP of some storage -/
theorem tkf (h : X) (hn : nxt md L listed = some i := by with_unfolding_all rfl) (hi : L[i]? = some oi := by rfl)
    (hw : Region.wanted oi (yielded L.toArray a.tmps) = true := by rfl) (y : ∀ w, S w → (execOp a.eval oi).run P w = .ok (.value v) w := by (intro w hSw; obtain ⟨_, hx, hy⟩ := hSw; refine CP.opn hx ?_; intros; go_simp; (try with_reducible rfl)))
    (hP : wpAnyH P md L.toArray Q S fuel (listed.setIfInBounds i true) (a.put oi.dst v) w = X := by (simp only [Act.put, List.setIfInBounds_toArray, List.set_cons_zero, List.set_cons_succ]; try rfl))
    (hs : Region.noSelect L.toArray = true := by kernel_rfl)
    (hQ : ∀ c a w, Q (.panic c) (a.put oi.dst v) w → Q (.panic c) a w := by exact fun _ _ _ h => h) (hS : S w := by assumption) : wpAnyH P md L.toArray Q S (fuel + 1) listed a w := takeL hi hs (nxt_spec hn).1 (nxt_spec hn).2 hQ (.inl ⟨hw, y⟩) hS (hP ▸ h)
/-- .. of some registers and status too -/
theorem tkg (h : X) (hn : nxt md L listed = some i := by with_unfolding_all rfl) (hi : L[i]? = some oi := by rfl)
    (hw : Region.wanted oi (yielded L.toArray a.tmps) = true := by rfl) (y : ∀ w, S w → (execOp a.eval oi).run P w = .ok (.value v) w := by (intro w hSw; obtain ⟨_, _, hx, hy⟩ := hSw; refine CP.opn hx ?_; intros; go_simp; (try with_reducible rfl)))
    (hP : wpAnyH P md L.toArray Q S fuel (listed.setIfInBounds i true) (a.put oi.dst v) w = X := by (simp only [Act.put, List.setIfInBounds_toArray, List.set_cons_zero, List.set_cons_succ]; try rfl))
    (hs : Region.noSelect L.toArray = true := by kernel_rfl)
    (hQ : ∀ c a w, Q (.panic c) (a.put oi.dst v) w → Q (.panic c) a w := by exact fun _ _ _ h => h) (hS : S w := by assumption) : wpAnyH P md L.toArray Q S (fuel + 1) listed a w := takeL hi hs (nxt_spec hn).1 (nxt_spec hn).2 hQ (.inl ⟨hw, y⟩) hS (hP ▸ h)
/-- a map is asked for a key that it has not -/
theorem tklk {i b m : Nat} {es : Array MapEntry} {T kt et : TypeId} {k : Int} {z : Value} {xx yy : Operand} (hT : Tryz.prog.underlying T = some (.map kt et)) (hkt : Tryz.prog.underlying kt = some (.int .i64)) (hb : w.heap[b]? = some (.map es m)) (hf : Instr.findNow (.int .i64) (.int .i64 k) es.toList 0 = some none) (hz : (zeroValue et).run Tryz.prog w = .ok z w) (h : X) (hr : Region.ready md L.toArray listed = [i] := by with_unfolding_all rfl) (hi : L[i]? = some oi := by rfl) (ho : oi.op = .lookup T xx yy true := by rfl) (hx : a.eval xx = .map (some b) := by rfl) (hy : a.eval yy = .int .i64 k := by rfl)
    (hw : Region.wanted oi (yielded L.toArray a.tmps) = true := by rfl)
    (hP : wpAnyH Tryz.prog md L.toArray Q S fuel (listed.setIfInBounds i true) (a.put oi.dst (.tuple #[z, .bool false])) w = X := by (simp only [Act.put, List.setIfInBounds_toArray, List.set_cons_zero, List.set_cons_succ]; try rfl))
    (hS : S w := by assumption) : wpAnyH Tryz.prog md L.toArray Q S (fuel + 1) listed a w :=
  tkv (v := .tuple #[z, .bool false]) h hr hi hw (by unfold execOp; simp only [ho, hx, hy, Sem.run_bind, run_look hT hkt hb hf hz, Result.andThen_ok, Sem.run_pure]) hP hS
end
theorem callG (args : Array Value) (W : World) : Sem.run Tryz.prog (callFunc 51 args) W = .ok (.enter 51 args) W := by kernel_rfl
theorem callD (args : Array Value) (W : World) : Sem.run Tryz.prog (callFunc 53 args) W = .ok (.enter 53 args) W := by kernel_rfl
set_option maxRecDepth 1000000 in
set_option maxHeartbeats 8000000 in
theorem cexe_c {op : Int} {ix zs : List Int} {A : Option Addr} {len cap : Nat} {q : Ps} {bs' : List Int} {f : FuncId} {kb : Bool} (h : CP w0 w g F rs p n bs ks) (hy : Byt w A len zs) (hlen : (len : Int) ≤ 9223372036854775807) (hd : dokI len zs = true) (hI : decI zs = ix) (hil : ix.length = 12) (hi0 : ix[0]? = some op) (hP : p.P = false) (hk : Instr.findNow (.int .i64) (.int .i64 op) ownE.toList 0 = some none) (hkn : ∀ W, Calls Tryz.prog 52 #[.int .i64 op] W fun e w' => e = .returned (.bool kb) ∧ W = w') (hf : f = if kb then 53 else 51) (hol : os.length = 16) (hor : ∀ z ∈ os, 0 ≤ z ∧ z ≤ 4294967295) (hex : ∀ W, CP w0 W g F rs p n bs ks → Calls Tryz.prog f #[insV ix, .agg (rs.map (Value.int .u32)).toArray, .agg p.v.toArray, .pointer (some ⟨F.g, 0, none⟩)] W fun e w' => e = .returned (.tuple #[.agg (os.map (Value.int .u32)).toArray, .agg q.v.toArray, .int .i64 0]) ∧ St 63 w' F bs' ks ∧ Ch W w' [F.gb]) : Calls Tryz.prog 40 #[.pointer (some ⟨g, 0, none⟩), .slice A len cap] w fun e w' => e = .returned (.tuple #[.agg #[.int .i64 0, .int .i64 0, .int .i64 0, .int .i64 0], .int .i64 0]) ∧ CP w0 w' g F os q n bs' ks := by
  have DC := Lib.hid (fun W (hb : Below w.heap.size w W) => idecode_c A len cap zs W (hy.keep hb) hlen)
  simp only [hd, if_true, hI] at DC
  have H := Lib.hid h
  have EX := Lib.hid hex
  have OL := Lib.hid hol
  have OR := Lib.hid hor
  have IL := Lib.hid hil
  have I0 : Hid ((ix.map (Value.int .i64))[0]? = some (.int .i64 op)) := Lib.hid (by simp [hi0])
  have FK := Lib.hid hk
  have hsz : (ix.map (Value.int .i64)).toArray.size = 12 := by simp [hil]
  have KN := Lib.hid hkn
  have HF := Lib.hid hf
  have CF := Lib.hid (show ∀ args W, Sem.run Tryz.prog (callFunc f args) W = .ok (.enter f args) W from by rw [hf]; cases kb; exact callG; exact callD)
  have PP := hP
  have e0 := h.b.size
  have e1 := h.m.lt
  have e2 := h.st.ltg
  have e3 := h.st.ltb
  have e4 := h.st.ltk
  clear h hy hd hI hil hi0 hP hk hkn hf hol hor hex hlen
  go_enter Tryz.func40, Tryz.ntmps40
  go_upto_region 1 with fail
  have hE := Bk.new w [.int .i64 0, .int .i64 0, .int .i64 0, .int .i64 0] 44
  have hb := (Below.refl w.heap.size w).alloc (Nat.le_refl _) (.cells ([.int .i64 0, .int .i64 0, .int .i64 0, .int .i64 0] : List Value).toArray 44)
  have H1 := Lib.hid (H.out.keep hb)
  have DC1 := Lib.hid (DC.out _ hb)
  obtain ⟨w1, hW⟩ : ∃ V, w.alloc (.cells ([.int .i64 0, .int .i64 0, .int .i64 0, .int .i64 0] : List Value).toArray 44) = V := ⟨_, rfl⟩
  rw [hW] at hE H1 DC1
  try rw [hW]
  obtain ⟨g4, hg⟩ : ∃ k, w.heap.size = k := ⟨_, rfl⟩
  rw [hg] at hE e0 e1 e2 e3 e4
  try simp only [hg]
  have E1 := Lib.hid hE
  have l4 := hE.lt
  clear hW hg hb hE DC H
  refine wp_region_list ?_
  simp only [List.append_eq, List.cons_append, List.nil_append]
  refine lsv ?_
  refine lsc DC1.out ?_
  intro w2 B2
  have H2 := Lib.hid (H1.out.keep B2.out)
  have E2 := Lib.hid (E1.out.keep B2.out)
  have l2 := B2.out.size
  clear H1 E1 DC1 B2
  refine lsv ?_
  refine lsv ?_
  refine lsv ?_
  refine lsv (v := .pointer (some ⟨w2.heap.size, 0, none⟩)) (w' := w2.alloc (.cells ([.int .i64 0, .int .i64 0, .int .i64 0, .int .i64 0, .int .i64 0, .int .i64 0, .int .i64 0, .int .i64 0, .int .i64 0, .int .i64 0, .int .i64 0, .int .i64 0] : List Value).toArray 54)) ?_
  refine lss (cs' := ix.map (Value.int .i64)) (Bk.new w2 [.int .i64 0, .int .i64 0, .int .i64 0, .int .i64 0, .int .i64 0, .int .i64 0, .int .i64 0, .int .i64 0, .int .i64 0, .int .i64 0, .int .i64 0, .int .i64 0] 54) (by rw [List.length_map, IL.out]; rfl) (by simp [Value.oneCell']) (by rw [List.length_map, IL.out]; kernel_rfl) ?_
  refine lsv ?_
  refine wpList_nil ?_
  have hI6 := (Bk.new w2 [.int .i64 0, .int .i64 0, .int .i64 0, .int .i64 0, .int .i64 0, .int .i64 0, .int .i64 0, .int .i64 0, .int .i64 0, .int .i64 0, .int .i64 0, .int .i64 0] 54).rowSet (ix.map (Value.int .i64))
  have hb := below_row ((Below.refl w2.heap.size w2).alloc (Nat.le_refl _) (.cells ([.int .i64 0, .int .i64 0, .int .i64 0, .int .i64 0, .int .i64 0, .int .i64 0, .int .i64 0, .int .i64 0, .int .i64 0, .int .i64 0, .int .i64 0, .int .i64 0] : List Value).toArray 54)) (Nat.le_refl _) (ix.map (Value.int .i64)).toArray
  have H3 := Lib.hid (H2.out.keep hb)
  have E3 := Lib.hid (E2.out.keep hb)
  obtain ⟨w3, hW⟩ : ∃ V, (w2.alloc (.cells ([.int .i64 0, .int .i64 0, .int .i64 0, .int .i64 0, .int .i64 0, .int .i64 0, .int .i64 0, .int .i64 0, .int .i64 0, .int .i64 0, .int .i64 0, .int .i64 0] : List Value).toArray 54)).setRow w2.heap.size (ix.map (Value.int .i64)).toArray = V := ⟨_, rfl⟩
  rw [hW] at hI6 H3 E3
  try rw [hW]
  obtain ⟨g6, hg⟩ : ∃ k, w2.heap.size = k := ⟨_, rfl⟩
  rw [hg] at hI6 l2
  try simp only [hg]
  have I3 := Lib.hid hI6
  have l6 := hI6.lt
  clear hW hg hb hI6 H2 E2
  refine H3.out.opn ?_
  rw [PP]
  intros
  go_upto_region 6 with fail
  refine wp_region_held_drew (S := fun W => CP w0 W g F rs p n bs ks ∧ W.cell? ⟨g6, 0, none⟩ = some (.int .i64 op)) (by kernel_rfl) ⟨H3.out.drew, (I3.out.drewN 1).cell I0.out⟩ (fun hHeld => ?_)
  replace H3 := Lib.hid H3.out.drew
  replace I3 := Lib.hid (I3.out.drewN 1)
  replace E3 := Lib.hid (E3.out.drewN 1)
  repeat refine tkx ?_
  refine tkc (R := fun W => (CP w0 W g F rs p n bs ks ∧ W.cell? ⟨g6, 0, none⟩ = some (.int .i64 op)) ∧ W.heap[w3.drew.heap.size]? = some (.map ownE 10) ∧ Bk W g6 54 (ix.map (Value.int .i64)) ∧ Bk W g4 44 [.int .i64 0, .int .i64 0, .int .i64 0, .int .i64 0]) ((own_c w3.drew).mono fun e w' h => ⟨h.1, ⟨H3.out.keep h.2.b, (I3.out.keep h.2.b).cell I0.out⟩, h.2.m, I3.out.keep h.2.b, E3.out.keep h.2.b⟩) (fun _ h => h.1) ?_
  clear H3 I3 E3 hHeld
  intro w4 Z hHeld
  refine tklk (z := .nilFunc) Tryz.underlying114 Tryz.underlying3 Z.out.2.1 FK.out (by kernel_rfl) ?_
  repeat refine tkx ?_
  refine wpAnyH_done (by with_unfolding_all rfl) ?_ _
  clear hHeld
  have H4 := Lib.hid Z.out.1.1
  have T4 : Hid (Two w4 g6 g4 ix) := Lib.hid ⟨Z.out.2.2.1, Z.out.2.2.2⟩
  have RL := Lib.hid Z.out.1.1.rl
  have c4 := Z.out.1.2
  clear Z FK
  go_upto_if 49 with (go_at_call 52; refine nz (KN.out _) ?_)
  go_cut [10] from 47 to 49 (fun t wx => t = .func (.func f) #[] #[] ∧ wx = w4)
  case first =>
    clear KN EX CF
    cases kb
    · go_wp2_with fail
      go_meet
      rw [HF.out]
      exact ⟨rfl, rfl⟩
    · go_wp2_with fail
      go_meet
      rw [HF.out]
      exact ⟨rfl, rfl⟩
  case rest =>
    obtain ⟨rfl, rfl⟩ := hcut
    clear HF
    rename World => w4
    clear KN
    have hN := w4.heap.size.le_refl
    obtain ⟨N0, hN0⟩ : ∃ k, w4.heap.size = k := ⟨_, rfl⟩
    have n6 := T4.out.a.lt
    have n4 := T4.out.b.lt
    have ng := H4.out.m.lt
    have ns := H4.out.st.ltg
    have nb := H4.out.st.ltb
    have nk := H4.out.st.ltk
    rw [hN0] at n6 n4 ng ns nb nk hN
    go_upto_region 12 with fail
    go_cut [11, 12, 13] from 50 to 68 (fun t t' t'' wx => ∃ (ga gb : Nat), t = .pointer (some ⟨ga, 0, none⟩) ∧ t' = .pointer (some ⟨gb, 0, none⟩) ∧ t'' = .int .i64 0 ∧ M3 N0 wx ga gb (os.map (Value.int .u32)) q.v ∧ CP w0 wx g F rs p n bs' ks ∧ Two wx g6 g4 ix)
    case first =>
      refine wp_region_held_drew (S := fun W => ∃ b, CP w0 W g F rs p n b ks ∧ Two W g6 g4 ix) (by kernel_rfl) ⟨_, H4.out.drew, T4.out.drew⟩ (fun hHeld => ?_)
      have Z := Lib.hid (show CP w0 w4.drew g F rs p n bs ks ∧ Two w4.drew g6 g4 ix ∧ N0 ≤ w4.drew.heap.size ∧ True ∧ True from ⟨H4.out.drew, T4.out.drew, by rw [← hN0]; exact Nat.le_refl _, trivial, trivial⟩)
      obtain ⟨v0, hv0⟩ : ∃ V, w4.drew = V := ⟨_, rfl⟩
      rw [hv0] at Z hHeld ⊢
      clear hv0 H4 T4 hN0
      repeat refine tkf ?_
      refine tkl 1 (fun W h => by obtain ⟨_, _, h⟩ := h; exact h.a.row) ?_ (hn := by rw [List.length_map, IL.out]; kernel_rfl)
      repeat refine tkf ?_
      refine tkl 5 (fun W h => by obtain ⟨_, h, _⟩ := h; exact h.rowR) ?_ (hn := by rw [List.length_map, RL.out]; kernel_rfl)
      repeat refine tkf ?_
      refine tkl (cs := p.v) 9 (fun W h => by obtain ⟨_, h, _⟩ := h; exact h.rowP) ?_
      repeat refine tkf ?_
      refine tk3 (i := 14) (j := 19) (k := 20) (by with_unfolding_all rfl) ?_ ?_ ?_
      · refine opc (v := .tuple #[.agg (os.map (Value.int .u32)).toArray, .agg q.v.toArray, .int .i64 0]) (R := fun W => CP w0 W g F rs p n bs' ks ∧ Two W g6 g4 ix ∧ N0 ≤ W.heap.size ∧ True ∧ True) ((EX.out _ Z.out.1).mono fun e w' h => ⟨h.1, Z.out.1.ex (os := os) h.2.1 h.2.2, Z.out.2.1.ch h.2.2 (by simp; omega) (by simp; omega), Nat.le_trans Z.out.2.2.1 h.2.2.size, trivial, trivial⟩) (fun _ h => ⟨_, h.1, h.2.1⟩) ?_ (hx := by (go_simp; exact CF.out _ _))
        clear Z hHeld
        intro v1 Z hHeld
        repeat refine tkf ?_
        refine tk2 (i := 19) (j := 20) (by with_unfolding_all rfl) ?_ ?_
        · have al := (Below.refl v1.heap.size v1).alloc (Nat.le_refl _) (.cells ([.int .u32 0, .int .u32 0, .int .u32 0, .int .u32 0, .int .u32 0, .int .u32 0, .int .u32 0, .int .u32 0, .int .u32 0, .int .u32 0, .int .u32 0, .int .u32 0, .int .u32 0, .int .u32 0, .int .u32 0, .int .u32 0] : List Value).toArray 25)
          refine opb (v := .pointer (some ⟨v1.heap.size, 0, none⟩)) (w1 := v1.alloc (.cells ([.int .u32 0, .int .u32 0, .int .u32 0, .int .u32 0, .int .u32 0, .int .u32 0, .int .u32 0, .int .u32 0, .int .u32 0, .int .u32 0, .int .u32 0, .int .u32 0, .int .u32 0, .int .u32 0, .int .u32 0, .int .u32 0] : List Value).toArray 25)) (R := fun W => CP w0 W g F rs p n bs' ks ∧ Two W g6 g4 ix ∧ N0 ≤ W.heap.size ∧ (Bk W v1.heap.size 25 [.int .u32 0, .int .u32 0, .int .u32 0, .int .u32 0, .int .u32 0, .int .u32 0, .int .u32 0, .int .u32 0, .int .u32 0, .int .u32 0, .int .u32 0, .int .u32 0, .int .u32 0, .int .u32 0, .int .u32 0, .int .u32 0] ∧ N0 ≤ v1.heap.size) ∧ True) ⟨Z.out.1.keep al, Z.out.2.1.keep al, Nat.le_trans Z.out.2.2.1 al.size, ⟨Bk.new _ _ _, Z.out.2.2.1⟩, trivial⟩ (fun _ h => ⟨_, h.1, h.2.1⟩) ?_
          clear al
          clear Z hHeld
          intro v2 Z hHeld
          refine tk1 (i := 20) (by with_unfolding_all rfl) ?_
          · have ne2 := Z.out.2.2.2.1.1.lt
            have al := (Below.refl v2.heap.size v2).alloc (Nat.le_refl _) (.cells ([.int .i64 0, .int .i64 0, .bool false, .bool false, .bool false, .int .i64 0, .int .i64 0, .int .i64 0, .int .i64 0, .int .i64 0] : List Value).toArray 35)
            refine opb (v := .pointer (some ⟨v2.heap.size, 0, none⟩)) (w1 := v2.alloc (.cells ([.int .i64 0, .int .i64 0, .bool false, .bool false, .bool false, .int .i64 0, .int .i64 0, .int .i64 0, .int .i64 0, .int .i64 0] : List Value).toArray 35)) (R := fun W => CP w0 W g F rs p n bs' ks ∧ Two W g6 g4 ix ∧ N0 ≤ W.heap.size ∧ (Bk W v1.heap.size 25 [.int .u32 0, .int .u32 0, .int .u32 0, .int .u32 0, .int .u32 0, .int .u32 0, .int .u32 0, .int .u32 0, .int .u32 0, .int .u32 0, .int .u32 0, .int .u32 0, .int .u32 0, .int .u32 0, .int .u32 0, .int .u32 0] ∧ N0 ≤ v1.heap.size) ∧ (Bk W v2.heap.size 35 [.int .i64 0, .int .i64 0, .bool false, .bool false, .bool false, .int .i64 0, .int .i64 0, .int .i64 0, .int .i64 0, .int .i64 0] ∧ N0 ≤ v2.heap.size)) ⟨Z.out.1.keep al, Z.out.2.1.keep al, Nat.le_trans Z.out.2.2.1 al.size, ⟨Z.out.2.2.2.1.1.keep al, Z.out.2.2.2.1.2⟩, ⟨Bk.new _ _ _, Z.out.2.2.1⟩⟩ (fun _ h => ⟨_, h.1, h.2.1⟩) ?_
            clear al
            clear Z hHeld
            intro v3 Z hHeld
            have ne : v1.heap.size ≠ v2.heap.size := by have := Z.out.2.2.2.1.1.lt; have := Z.out.2.2.2.2.1.lt; omega
            repeat refine tkf ?_
            refine tks_ (cs' := os.map (Value.int .u32)) Z.out.2.2.2.1.1 (by rw [List.length_map, OL.out]; rfl) (one_u32 _) (by rw [List.length_map, OL.out]; kernel_rfl) (R := fun W => M3 N0 W v1.heap.size v2.heap.size (os.map (Value.int .u32)) [.int .i64 0, .int .i64 0, .bool false, .bool false, .bool false, .int .i64 0, .int .i64 0, .int .i64 0, .int .i64 0, .int .i64 0] ∧ CP w0 W g F rs p n bs' ks ∧ Two W g6 g4 ix) ⟨⟨Z.out.2.2.2.1.1.rowSet _, Z.out.2.2.2.2.1.rowOth (Ne.symm ne) _, ⟨Z.out.2.2.2.1.2, Z.out.2.2.2.2.2, ne⟩⟩, rowCP Z.out.1 Z.out.2.2.2.1.2 (by omega), Z.out.2.1.row (by have := Z.out.2.2.2.1.2; omega) (by have := Z.out.2.2.2.1.2; omega) _⟩ (fun _ h => ⟨_, h.2⟩) ?_
            clear Z hHeld
            intro w7 Z hHeld
            refine tks_ (cs' := q.v) Z.out.1.b (by rfl) (one_ps _) (by kernel_rfl) (R := fun W => M3 N0 W v1.heap.size v2.heap.size (os.map (Value.int .u32)) q.v ∧ CP w0 W g F rs p n bs' ks ∧ Two W g6 g4 ix) ⟨Z.out.1.setb _, rowCP Z.out.2.1 Z.out.1.n.2.1 (by omega), Z.out.2.2.row (by have := Z.out.1.n.2.1; omega) (by have := Z.out.1.n.2.1; omega) _⟩ (fun _ h => ⟨_, h.2⟩) ?_
            clear Z hHeld
            intro w8 Z hHeld
            repeat refine tkf ?_
            refine wpAnyH_done (by with_unfolding_all rfl) ?_ _
            clear hHeld
            go_wp2_with fail
            go_meet
            exact ⟨_, _, rfl, rfl, rfl, Z.out.1, Z.out.2⟩
        · have al := (Below.refl v1.heap.size v1).alloc (Nat.le_refl _) (.cells ([.int .i64 0, .int .i64 0, .bool false, .bool false, .bool false, .int .i64 0, .int .i64 0, .int .i64 0, .int .i64 0, .int .i64 0] : List Value).toArray 35)
          refine opb (v := .pointer (some ⟨v1.heap.size, 0, none⟩)) (w1 := v1.alloc (.cells ([.int .i64 0, .int .i64 0, .bool false, .bool false, .bool false, .int .i64 0, .int .i64 0, .int .i64 0, .int .i64 0, .int .i64 0] : List Value).toArray 35)) (R := fun W => CP w0 W g F rs p n bs' ks ∧ Two W g6 g4 ix ∧ N0 ≤ W.heap.size ∧ True ∧ (Bk W v1.heap.size 35 [.int .i64 0, .int .i64 0, .bool false, .bool false, .bool false, .int .i64 0, .int .i64 0, .int .i64 0, .int .i64 0, .int .i64 0] ∧ N0 ≤ v1.heap.size)) ⟨Z.out.1.keep al, Z.out.2.1.keep al, Nat.le_trans Z.out.2.2.1 al.size, trivial, ⟨Bk.new _ _ _, Z.out.2.2.1⟩⟩ (fun _ h => ⟨_, h.1, h.2.1⟩) ?_
          clear al
          clear Z hHeld
          intro v2 Z hHeld
          refine tk1 (i := 19) (by with_unfolding_all rfl) ?_
          · have ne2 := Z.out.2.2.2.2.1.lt
            have al := (Below.refl v2.heap.size v2).alloc (Nat.le_refl _) (.cells ([.int .u32 0, .int .u32 0, .int .u32 0, .int .u32 0, .int .u32 0, .int .u32 0, .int .u32 0, .int .u32 0, .int .u32 0, .int .u32 0, .int .u32 0, .int .u32 0, .int .u32 0, .int .u32 0, .int .u32 0, .int .u32 0] : List Value).toArray 25)
            refine opb (v := .pointer (some ⟨v2.heap.size, 0, none⟩)) (w1 := v2.alloc (.cells ([.int .u32 0, .int .u32 0, .int .u32 0, .int .u32 0, .int .u32 0, .int .u32 0, .int .u32 0, .int .u32 0, .int .u32 0, .int .u32 0, .int .u32 0, .int .u32 0, .int .u32 0, .int .u32 0, .int .u32 0, .int .u32 0] : List Value).toArray 25)) (R := fun W => CP w0 W g F rs p n bs' ks ∧ Two W g6 g4 ix ∧ N0 ≤ W.heap.size ∧ (Bk W v2.heap.size 25 [.int .u32 0, .int .u32 0, .int .u32 0, .int .u32 0, .int .u32 0, .int .u32 0, .int .u32 0, .int .u32 0, .int .u32 0, .int .u32 0, .int .u32 0, .int .u32 0, .int .u32 0, .int .u32 0, .int .u32 0, .int .u32 0] ∧ N0 ≤ v2.heap.size) ∧ (Bk W v1.heap.size 35 [.int .i64 0, .int .i64 0, .bool false, .bool false, .bool false, .int .i64 0, .int .i64 0, .int .i64 0, .int .i64 0, .int .i64 0] ∧ N0 ≤ v1.heap.size)) ⟨Z.out.1.keep al, Z.out.2.1.keep al, Nat.le_trans Z.out.2.2.1 al.size, ⟨Bk.new _ _ _, Z.out.2.2.1⟩, ⟨Z.out.2.2.2.2.1.keep al, Z.out.2.2.2.2.2⟩⟩ (fun _ h => ⟨_, h.1, h.2.1⟩) ?_
            clear al
            clear Z hHeld
            intro v3 Z hHeld
            have ne : v2.heap.size ≠ v1.heap.size := by have := Z.out.2.2.2.1.1.lt; have := Z.out.2.2.2.2.1.lt; omega
            repeat refine tkf ?_
            refine tks_ (cs' := os.map (Value.int .u32)) Z.out.2.2.2.1.1 (by rw [List.length_map, OL.out]; rfl) (one_u32 _) (by rw [List.length_map, OL.out]; kernel_rfl) (R := fun W => M3 N0 W v2.heap.size v1.heap.size (os.map (Value.int .u32)) [.int .i64 0, .int .i64 0, .bool false, .bool false, .bool false, .int .i64 0, .int .i64 0, .int .i64 0, .int .i64 0, .int .i64 0] ∧ CP w0 W g F rs p n bs' ks ∧ Two W g6 g4 ix) ⟨⟨Z.out.2.2.2.1.1.rowSet _, Z.out.2.2.2.2.1.rowOth (Ne.symm ne) _, ⟨Z.out.2.2.2.1.2, Z.out.2.2.2.2.2, ne⟩⟩, rowCP Z.out.1 Z.out.2.2.2.1.2 (by omega), Z.out.2.1.row (by have := Z.out.2.2.2.1.2; omega) (by have := Z.out.2.2.2.1.2; omega) _⟩ (fun _ h => ⟨_, h.2⟩) ?_
            clear Z hHeld
            intro w7 Z hHeld
            refine tks_ (cs' := q.v) Z.out.1.b (by rfl) (one_ps _) (by kernel_rfl) (R := fun W => M3 N0 W v2.heap.size v1.heap.size (os.map (Value.int .u32)) q.v ∧ CP w0 W g F rs p n bs' ks ∧ Two W g6 g4 ix) ⟨Z.out.1.setb _, rowCP Z.out.2.1 Z.out.1.n.2.1 (by omega), Z.out.2.2.row (by have := Z.out.1.n.2.1; omega) (by have := Z.out.1.n.2.1; omega) _⟩ (fun _ h => ⟨_, h.2⟩) ?_
            clear Z hHeld
            intro w8 Z hHeld
            repeat refine tkf ?_
            refine wpAnyH_done (by with_unfolding_all rfl) ?_ _
            clear hHeld
            go_wp2_with fail
            go_meet
            exact ⟨_, _, rfl, rfl, rfl, Z.out.1, Z.out.2⟩
      · have al := (Below.refl v0.heap.size v0).alloc (Nat.le_refl _) (.cells ([.int .u32 0, .int .u32 0, .int .u32 0, .int .u32 0, .int .u32 0, .int .u32 0, .int .u32 0, .int .u32 0, .int .u32 0, .int .u32 0, .int .u32 0, .int .u32 0, .int .u32 0, .int .u32 0, .int .u32 0, .int .u32 0] : List Value).toArray 25)
        refine opb (v := .pointer (some ⟨v0.heap.size, 0, none⟩)) (w1 := v0.alloc (.cells ([.int .u32 0, .int .u32 0, .int .u32 0, .int .u32 0, .int .u32 0, .int .u32 0, .int .u32 0, .int .u32 0, .int .u32 0, .int .u32 0, .int .u32 0, .int .u32 0, .int .u32 0, .int .u32 0, .int .u32 0, .int .u32 0] : List Value).toArray 25)) (R := fun W => CP w0 W g F rs p n bs ks ∧ Two W g6 g4 ix ∧ N0 ≤ W.heap.size ∧ (Bk W v0.heap.size 25 [.int .u32 0, .int .u32 0, .int .u32 0, .int .u32 0, .int .u32 0, .int .u32 0, .int .u32 0, .int .u32 0, .int .u32 0, .int .u32 0, .int .u32 0, .int .u32 0, .int .u32 0, .int .u32 0, .int .u32 0, .int .u32 0] ∧ N0 ≤ v0.heap.size) ∧ True) ⟨Z.out.1.keep al, Z.out.2.1.keep al, Nat.le_trans Z.out.2.2.1 al.size, ⟨Bk.new _ _ _, Z.out.2.2.1⟩, trivial⟩ (fun _ h => ⟨_, h.1, h.2.1⟩) ?_
        clear al
        clear Z hHeld
        intro v1 Z hHeld
        refine tk2 (i := 14) (j := 20) (by with_unfolding_all rfl) ?_ ?_
        · refine opc (v := .tuple #[.agg (os.map (Value.int .u32)).toArray, .agg q.v.toArray, .int .i64 0]) (R := fun W => CP w0 W g F rs p n bs' ks ∧ Two W g6 g4 ix ∧ N0 ≤ W.heap.size ∧ (Bk W v0.heap.size 25 [.int .u32 0, .int .u32 0, .int .u32 0, .int .u32 0, .int .u32 0, .int .u32 0, .int .u32 0, .int .u32 0, .int .u32 0, .int .u32 0, .int .u32 0, .int .u32 0, .int .u32 0, .int .u32 0, .int .u32 0, .int .u32 0] ∧ N0 ≤ v0.heap.size) ∧ True) ((EX.out _ Z.out.1).mono fun e w' h => ⟨h.1, Z.out.1.ex (os := os) h.2.1 h.2.2, Z.out.2.1.ch h.2.2 (by simp; omega) (by simp; omega), Nat.le_trans Z.out.2.2.1 h.2.2.size, ⟨Z.out.2.2.2.1.1.ch h.2.2 (by have := Z.out.2.2.2.1.2; simp; omega), Z.out.2.2.2.1.2⟩, trivial⟩) (fun _ h => ⟨_, h.1, h.2.1⟩) ?_ (hx := by (go_simp; exact CF.out _ _))
          clear Z hHeld
          intro v2 Z hHeld
          repeat refine tkf ?_
          refine tk1 (i := 20) (by with_unfolding_all rfl) ?_
          · have ne2 := Z.out.2.2.2.1.1.lt
            have al := (Below.refl v2.heap.size v2).alloc (Nat.le_refl _) (.cells ([.int .i64 0, .int .i64 0, .bool false, .bool false, .bool false, .int .i64 0, .int .i64 0, .int .i64 0, .int .i64 0, .int .i64 0] : List Value).toArray 35)
            refine opb (v := .pointer (some ⟨v2.heap.size, 0, none⟩)) (w1 := v2.alloc (.cells ([.int .i64 0, .int .i64 0, .bool false, .bool false, .bool false, .int .i64 0, .int .i64 0, .int .i64 0, .int .i64 0, .int .i64 0] : List Value).toArray 35)) (R := fun W => CP w0 W g F rs p n bs' ks ∧ Two W g6 g4 ix ∧ N0 ≤ W.heap.size ∧ (Bk W v0.heap.size 25 [.int .u32 0, .int .u32 0, .int .u32 0, .int .u32 0, .int .u32 0, .int .u32 0, .int .u32 0, .int .u32 0, .int .u32 0, .int .u32 0, .int .u32 0, .int .u32 0, .int .u32 0, .int .u32 0, .int .u32 0, .int .u32 0] ∧ N0 ≤ v0.heap.size) ∧ (Bk W v2.heap.size 35 [.int .i64 0, .int .i64 0, .bool false, .bool false, .bool false, .int .i64 0, .int .i64 0, .int .i64 0, .int .i64 0, .int .i64 0] ∧ N0 ≤ v2.heap.size)) ⟨Z.out.1.keep al, Z.out.2.1.keep al, Nat.le_trans Z.out.2.2.1 al.size, ⟨Z.out.2.2.2.1.1.keep al, Z.out.2.2.2.1.2⟩, ⟨Bk.new _ _ _, Z.out.2.2.1⟩⟩ (fun _ h => ⟨_, h.1, h.2.1⟩) ?_
            clear al
            clear Z hHeld
            intro v3 Z hHeld
            have ne : v0.heap.size ≠ v2.heap.size := by have := Z.out.2.2.2.1.1.lt; have := Z.out.2.2.2.2.1.lt; omega
            repeat refine tkf ?_
            refine tks_ (cs' := os.map (Value.int .u32)) Z.out.2.2.2.1.1 (by rw [List.length_map, OL.out]; rfl) (one_u32 _) (by rw [List.length_map, OL.out]; kernel_rfl) (R := fun W => M3 N0 W v0.heap.size v2.heap.size (os.map (Value.int .u32)) [.int .i64 0, .int .i64 0, .bool false, .bool false, .bool false, .int .i64 0, .int .i64 0, .int .i64 0, .int .i64 0, .int .i64 0] ∧ CP w0 W g F rs p n bs' ks ∧ Two W g6 g4 ix) ⟨⟨Z.out.2.2.2.1.1.rowSet _, Z.out.2.2.2.2.1.rowOth (Ne.symm ne) _, ⟨Z.out.2.2.2.1.2, Z.out.2.2.2.2.2, ne⟩⟩, rowCP Z.out.1 Z.out.2.2.2.1.2 (by omega), Z.out.2.1.row (by have := Z.out.2.2.2.1.2; omega) (by have := Z.out.2.2.2.1.2; omega) _⟩ (fun _ h => ⟨_, h.2⟩) ?_
            clear Z hHeld
            intro w7 Z hHeld
            refine tks_ (cs' := q.v) Z.out.1.b (by rfl) (one_ps _) (by kernel_rfl) (R := fun W => M3 N0 W v0.heap.size v2.heap.size (os.map (Value.int .u32)) q.v ∧ CP w0 W g F rs p n bs' ks ∧ Two W g6 g4 ix) ⟨Z.out.1.setb _, rowCP Z.out.2.1 Z.out.1.n.2.1 (by omega), Z.out.2.2.row (by have := Z.out.1.n.2.1; omega) (by have := Z.out.1.n.2.1; omega) _⟩ (fun _ h => ⟨_, h.2⟩) ?_
            clear Z hHeld
            intro w8 Z hHeld
            repeat refine tkf ?_
            refine wpAnyH_done (by with_unfolding_all rfl) ?_ _
            clear hHeld
            go_wp2_with fail
            go_meet
            exact ⟨_, _, rfl, rfl, rfl, Z.out.1, Z.out.2⟩
        · have ne1 := Z.out.2.2.2.1.1.lt
          have al := (Below.refl v1.heap.size v1).alloc (Nat.le_refl _) (.cells ([.int .i64 0, .int .i64 0, .bool false, .bool false, .bool false, .int .i64 0, .int .i64 0, .int .i64 0, .int .i64 0, .int .i64 0] : List Value).toArray 35)
          refine opb (v := .pointer (some ⟨v1.heap.size, 0, none⟩)) (w1 := v1.alloc (.cells ([.int .i64 0, .int .i64 0, .bool false, .bool false, .bool false, .int .i64 0, .int .i64 0, .int .i64 0, .int .i64 0, .int .i64 0] : List Value).toArray 35)) (R := fun W => CP w0 W g F rs p n bs ks ∧ Two W g6 g4 ix ∧ N0 ≤ W.heap.size ∧ (Bk W v0.heap.size 25 [.int .u32 0, .int .u32 0, .int .u32 0, .int .u32 0, .int .u32 0, .int .u32 0, .int .u32 0, .int .u32 0, .int .u32 0, .int .u32 0, .int .u32 0, .int .u32 0, .int .u32 0, .int .u32 0, .int .u32 0, .int .u32 0] ∧ N0 ≤ v0.heap.size) ∧ (Bk W v1.heap.size 35 [.int .i64 0, .int .i64 0, .bool false, .bool false, .bool false, .int .i64 0, .int .i64 0, .int .i64 0, .int .i64 0, .int .i64 0] ∧ N0 ≤ v1.heap.size)) ⟨Z.out.1.keep al, Z.out.2.1.keep al, Nat.le_trans Z.out.2.2.1 al.size, ⟨Z.out.2.2.2.1.1.keep al, Z.out.2.2.2.1.2⟩, ⟨Bk.new _ _ _, Z.out.2.2.1⟩⟩ (fun _ h => ⟨_, h.1, h.2.1⟩) ?_
          clear al
          clear Z hHeld
          intro v2 Z hHeld
          refine tk1 (i := 14) (by with_unfolding_all rfl) ?_
          · refine opc (v := .tuple #[.agg (os.map (Value.int .u32)).toArray, .agg q.v.toArray, .int .i64 0]) (R := fun W => CP w0 W g F rs p n bs' ks ∧ Two W g6 g4 ix ∧ N0 ≤ W.heap.size ∧ (Bk W v0.heap.size 25 [.int .u32 0, .int .u32 0, .int .u32 0, .int .u32 0, .int .u32 0, .int .u32 0, .int .u32 0, .int .u32 0, .int .u32 0, .int .u32 0, .int .u32 0, .int .u32 0, .int .u32 0, .int .u32 0, .int .u32 0, .int .u32 0] ∧ N0 ≤ v0.heap.size) ∧ (Bk W v1.heap.size 35 [.int .i64 0, .int .i64 0, .bool false, .bool false, .bool false, .int .i64 0, .int .i64 0, .int .i64 0, .int .i64 0, .int .i64 0] ∧ N0 ≤ v1.heap.size)) ((EX.out _ Z.out.1).mono fun e w' h => ⟨h.1, Z.out.1.ex (os := os) h.2.1 h.2.2, Z.out.2.1.ch h.2.2 (by simp; omega) (by simp; omega), Nat.le_trans Z.out.2.2.1 h.2.2.size, ⟨Z.out.2.2.2.1.1.ch h.2.2 (by have := Z.out.2.2.2.1.2; simp; omega), Z.out.2.2.2.1.2⟩, ⟨Z.out.2.2.2.2.1.ch h.2.2 (by have := Z.out.2.2.2.2.2; simp; omega), Z.out.2.2.2.2.2⟩⟩) (fun _ h => ⟨_, h.1, h.2.1⟩) ?_ (hx := by (go_simp; exact CF.out _ _))
            clear Z hHeld
            intro v3 Z hHeld
            repeat refine tkf ?_
            have ne : v0.heap.size ≠ v1.heap.size := by have := Z.out.2.2.2.1.1.lt; have := Z.out.2.2.2.2.1.lt; omega
            repeat refine tkf ?_
            refine tks_ (cs' := os.map (Value.int .u32)) Z.out.2.2.2.1.1 (by rw [List.length_map, OL.out]; rfl) (one_u32 _) (by rw [List.length_map, OL.out]; kernel_rfl) (R := fun W => M3 N0 W v0.heap.size v1.heap.size (os.map (Value.int .u32)) [.int .i64 0, .int .i64 0, .bool false, .bool false, .bool false, .int .i64 0, .int .i64 0, .int .i64 0, .int .i64 0, .int .i64 0] ∧ CP w0 W g F rs p n bs' ks ∧ Two W g6 g4 ix) ⟨⟨Z.out.2.2.2.1.1.rowSet _, Z.out.2.2.2.2.1.rowOth (Ne.symm ne) _, ⟨Z.out.2.2.2.1.2, Z.out.2.2.2.2.2, ne⟩⟩, rowCP Z.out.1 Z.out.2.2.2.1.2 (by omega), Z.out.2.1.row (by have := Z.out.2.2.2.1.2; omega) (by have := Z.out.2.2.2.1.2; omega) _⟩ (fun _ h => ⟨_, h.2⟩) ?_
            clear Z hHeld
            intro w7 Z hHeld
            refine tks_ (cs' := q.v) Z.out.1.b (by rfl) (one_ps _) (by kernel_rfl) (R := fun W => M3 N0 W v0.heap.size v1.heap.size (os.map (Value.int .u32)) q.v ∧ CP w0 W g F rs p n bs' ks ∧ Two W g6 g4 ix) ⟨Z.out.1.setb _, rowCP Z.out.2.1 Z.out.1.n.2.1 (by omega), Z.out.2.2.row (by have := Z.out.1.n.2.1; omega) (by have := Z.out.1.n.2.1; omega) _⟩ (fun _ h => ⟨_, h.2⟩) ?_
            clear Z hHeld
            intro w8 Z hHeld
            repeat refine tkf ?_
            refine wpAnyH_done (by with_unfolding_all rfl) ?_ _
            clear hHeld
            go_wp2_with fail
            go_meet
            exact ⟨_, _, rfl, rfl, rfl, Z.out.1, Z.out.2⟩
      · have al := (Below.refl v0.heap.size v0).alloc (Nat.le_refl _) (.cells ([.int .i64 0, .int .i64 0, .bool false, .bool false, .bool false, .int .i64 0, .int .i64 0, .int .i64 0, .int .i64 0, .int .i64 0] : List Value).toArray 35)
        refine opb (v := .pointer (some ⟨v0.heap.size, 0, none⟩)) (w1 := v0.alloc (.cells ([.int .i64 0, .int .i64 0, .bool false, .bool false, .bool false, .int .i64 0, .int .i64 0, .int .i64 0, .int .i64 0, .int .i64 0] : List Value).toArray 35)) (R := fun W => CP w0 W g F rs p n bs ks ∧ Two W g6 g4 ix ∧ N0 ≤ W.heap.size ∧ True ∧ (Bk W v0.heap.size 35 [.int .i64 0, .int .i64 0, .bool false, .bool false, .bool false, .int .i64 0, .int .i64 0, .int .i64 0, .int .i64 0, .int .i64 0] ∧ N0 ≤ v0.heap.size)) ⟨Z.out.1.keep al, Z.out.2.1.keep al, Nat.le_trans Z.out.2.2.1 al.size, trivial, ⟨Bk.new _ _ _, Z.out.2.2.1⟩⟩ (fun _ h => ⟨_, h.1, h.2.1⟩) ?_
        clear al
        clear Z hHeld
        intro v1 Z hHeld
        refine tk2 (i := 14) (j := 19) (by with_unfolding_all rfl) ?_ ?_
        · refine opc (v := .tuple #[.agg (os.map (Value.int .u32)).toArray, .agg q.v.toArray, .int .i64 0]) (R := fun W => CP w0 W g F rs p n bs' ks ∧ Two W g6 g4 ix ∧ N0 ≤ W.heap.size ∧ True ∧ (Bk W v0.heap.size 35 [.int .i64 0, .int .i64 0, .bool false, .bool false, .bool false, .int .i64 0, .int .i64 0, .int .i64 0, .int .i64 0, .int .i64 0] ∧ N0 ≤ v0.heap.size)) ((EX.out _ Z.out.1).mono fun e w' h => ⟨h.1, Z.out.1.ex (os := os) h.2.1 h.2.2, Z.out.2.1.ch h.2.2 (by simp; omega) (by simp; omega), Nat.le_trans Z.out.2.2.1 h.2.2.size, trivial, ⟨Z.out.2.2.2.2.1.ch h.2.2 (by have := Z.out.2.2.2.2.2; simp; omega), Z.out.2.2.2.2.2⟩⟩) (fun _ h => ⟨_, h.1, h.2.1⟩) ?_ (hx := by (go_simp; exact CF.out _ _))
          clear Z hHeld
          intro v2 Z hHeld
          repeat refine tkf ?_
          refine tk1 (i := 19) (by with_unfolding_all rfl) ?_
          · have ne2 := Z.out.2.2.2.2.1.lt
            have al := (Below.refl v2.heap.size v2).alloc (Nat.le_refl _) (.cells ([.int .u32 0, .int .u32 0, .int .u32 0, .int .u32 0, .int .u32 0, .int .u32 0, .int .u32 0, .int .u32 0, .int .u32 0, .int .u32 0, .int .u32 0, .int .u32 0, .int .u32 0, .int .u32 0, .int .u32 0, .int .u32 0] : List Value).toArray 25)
            refine opb (v := .pointer (some ⟨v2.heap.size, 0, none⟩)) (w1 := v2.alloc (.cells ([.int .u32 0, .int .u32 0, .int .u32 0, .int .u32 0, .int .u32 0, .int .u32 0, .int .u32 0, .int .u32 0, .int .u32 0, .int .u32 0, .int .u32 0, .int .u32 0, .int .u32 0, .int .u32 0, .int .u32 0, .int .u32 0] : List Value).toArray 25)) (R := fun W => CP w0 W g F rs p n bs' ks ∧ Two W g6 g4 ix ∧ N0 ≤ W.heap.size ∧ (Bk W v2.heap.size 25 [.int .u32 0, .int .u32 0, .int .u32 0, .int .u32 0, .int .u32 0, .int .u32 0, .int .u32 0, .int .u32 0, .int .u32 0, .int .u32 0, .int .u32 0, .int .u32 0, .int .u32 0, .int .u32 0, .int .u32 0, .int .u32 0] ∧ N0 ≤ v2.heap.size) ∧ (Bk W v0.heap.size 35 [.int .i64 0, .int .i64 0, .bool false, .bool false, .bool false, .int .i64 0, .int .i64 0, .int .i64 0, .int .i64 0, .int .i64 0] ∧ N0 ≤ v0.heap.size)) ⟨Z.out.1.keep al, Z.out.2.1.keep al, Nat.le_trans Z.out.2.2.1 al.size, ⟨Bk.new _ _ _, Z.out.2.2.1⟩, ⟨Z.out.2.2.2.2.1.keep al, Z.out.2.2.2.2.2⟩⟩ (fun _ h => ⟨_, h.1, h.2.1⟩) ?_
            clear al
            clear Z hHeld
            intro v3 Z hHeld
            have ne : v2.heap.size ≠ v0.heap.size := by have := Z.out.2.2.2.1.1.lt; have := Z.out.2.2.2.2.1.lt; omega
            repeat refine tkf ?_
            refine tks_ (cs' := os.map (Value.int .u32)) Z.out.2.2.2.1.1 (by rw [List.length_map, OL.out]; rfl) (one_u32 _) (by rw [List.length_map, OL.out]; kernel_rfl) (R := fun W => M3 N0 W v2.heap.size v0.heap.size (os.map (Value.int .u32)) [.int .i64 0, .int .i64 0, .bool false, .bool false, .bool false, .int .i64 0, .int .i64 0, .int .i64 0, .int .i64 0, .int .i64 0] ∧ CP w0 W g F rs p n bs' ks ∧ Two W g6 g4 ix) ⟨⟨Z.out.2.2.2.1.1.rowSet _, Z.out.2.2.2.2.1.rowOth (Ne.symm ne) _, ⟨Z.out.2.2.2.1.2, Z.out.2.2.2.2.2, ne⟩⟩, rowCP Z.out.1 Z.out.2.2.2.1.2 (by omega), Z.out.2.1.row (by have := Z.out.2.2.2.1.2; omega) (by have := Z.out.2.2.2.1.2; omega) _⟩ (fun _ h => ⟨_, h.2⟩) ?_
            clear Z hHeld
            intro w7 Z hHeld
            refine tks_ (cs' := q.v) Z.out.1.b (by rfl) (one_ps _) (by kernel_rfl) (R := fun W => M3 N0 W v2.heap.size v0.heap.size (os.map (Value.int .u32)) q.v ∧ CP w0 W g F rs p n bs' ks ∧ Two W g6 g4 ix) ⟨Z.out.1.setb _, rowCP Z.out.2.1 Z.out.1.n.2.1 (by omega), Z.out.2.2.row (by have := Z.out.1.n.2.1; omega) (by have := Z.out.1.n.2.1; omega) _⟩ (fun _ h => ⟨_, h.2⟩) ?_
            clear Z hHeld
            intro w8 Z hHeld
            repeat refine tkf ?_
            refine wpAnyH_done (by with_unfolding_all rfl) ?_ _
            clear hHeld
            go_wp2_with fail
            go_meet
            exact ⟨_, _, rfl, rfl, rfl, Z.out.1, Z.out.2⟩
        · have ne1 := Z.out.2.2.2.2.1.lt
          have al := (Below.refl v1.heap.size v1).alloc (Nat.le_refl _) (.cells ([.int .u32 0, .int .u32 0, .int .u32 0, .int .u32 0, .int .u32 0, .int .u32 0, .int .u32 0, .int .u32 0, .int .u32 0, .int .u32 0, .int .u32 0, .int .u32 0, .int .u32 0, .int .u32 0, .int .u32 0, .int .u32 0] : List Value).toArray 25)
          refine opb (v := .pointer (some ⟨v1.heap.size, 0, none⟩)) (w1 := v1.alloc (.cells ([.int .u32 0, .int .u32 0, .int .u32 0, .int .u32 0, .int .u32 0, .int .u32 0, .int .u32 0, .int .u32 0, .int .u32 0, .int .u32 0, .int .u32 0, .int .u32 0, .int .u32 0, .int .u32 0, .int .u32 0, .int .u32 0] : List Value).toArray 25)) (R := fun W => CP w0 W g F rs p n bs ks ∧ Two W g6 g4 ix ∧ N0 ≤ W.heap.size ∧ (Bk W v1.heap.size 25 [.int .u32 0, .int .u32 0, .int .u32 0, .int .u32 0, .int .u32 0, .int .u32 0, .int .u32 0, .int .u32 0, .int .u32 0, .int .u32 0, .int .u32 0, .int .u32 0, .int .u32 0, .int .u32 0, .int .u32 0, .int .u32 0] ∧ N0 ≤ v1.heap.size) ∧ (Bk W v0.heap.size 35 [.int .i64 0, .int .i64 0, .bool false, .bool false, .bool false, .int .i64 0, .int .i64 0, .int .i64 0, .int .i64 0, .int .i64 0] ∧ N0 ≤ v0.heap.size)) ⟨Z.out.1.keep al, Z.out.2.1.keep al, Nat.le_trans Z.out.2.2.1 al.size, ⟨Bk.new _ _ _, Z.out.2.2.1⟩, ⟨Z.out.2.2.2.2.1.keep al, Z.out.2.2.2.2.2⟩⟩ (fun _ h => ⟨_, h.1, h.2.1⟩) ?_
          clear al
          clear Z hHeld
          intro v2 Z hHeld
          refine tk1 (i := 14) (by with_unfolding_all rfl) ?_
          · refine opc (v := .tuple #[.agg (os.map (Value.int .u32)).toArray, .agg q.v.toArray, .int .i64 0]) (R := fun W => CP w0 W g F rs p n bs' ks ∧ Two W g6 g4 ix ∧ N0 ≤ W.heap.size ∧ (Bk W v1.heap.size 25 [.int .u32 0, .int .u32 0, .int .u32 0, .int .u32 0, .int .u32 0, .int .u32 0, .int .u32 0, .int .u32 0, .int .u32 0, .int .u32 0, .int .u32 0, .int .u32 0, .int .u32 0, .int .u32 0, .int .u32 0, .int .u32 0] ∧ N0 ≤ v1.heap.size) ∧ (Bk W v0.heap.size 35 [.int .i64 0, .int .i64 0, .bool false, .bool false, .bool false, .int .i64 0, .int .i64 0, .int .i64 0, .int .i64 0, .int .i64 0] ∧ N0 ≤ v0.heap.size)) ((EX.out _ Z.out.1).mono fun e w' h => ⟨h.1, Z.out.1.ex (os := os) h.2.1 h.2.2, Z.out.2.1.ch h.2.2 (by simp; omega) (by simp; omega), Nat.le_trans Z.out.2.2.1 h.2.2.size, ⟨Z.out.2.2.2.1.1.ch h.2.2 (by have := Z.out.2.2.2.1.2; simp; omega), Z.out.2.2.2.1.2⟩, ⟨Z.out.2.2.2.2.1.ch h.2.2 (by have := Z.out.2.2.2.2.2; simp; omega), Z.out.2.2.2.2.2⟩⟩) (fun _ h => ⟨_, h.1, h.2.1⟩) ?_ (hx := by (go_simp; exact CF.out _ _))
            clear Z hHeld
            intro v3 Z hHeld
            repeat refine tkf ?_
            have ne : v1.heap.size ≠ v0.heap.size := by have := Z.out.2.2.2.1.1.lt; have := Z.out.2.2.2.2.1.lt; omega
            repeat refine tkf ?_
            refine tks_ (cs' := os.map (Value.int .u32)) Z.out.2.2.2.1.1 (by rw [List.length_map, OL.out]; rfl) (one_u32 _) (by rw [List.length_map, OL.out]; kernel_rfl) (R := fun W => M3 N0 W v1.heap.size v0.heap.size (os.map (Value.int .u32)) [.int .i64 0, .int .i64 0, .bool false, .bool false, .bool false, .int .i64 0, .int .i64 0, .int .i64 0, .int .i64 0, .int .i64 0] ∧ CP w0 W g F rs p n bs' ks ∧ Two W g6 g4 ix) ⟨⟨Z.out.2.2.2.1.1.rowSet _, Z.out.2.2.2.2.1.rowOth (Ne.symm ne) _, ⟨Z.out.2.2.2.1.2, Z.out.2.2.2.2.2, ne⟩⟩, rowCP Z.out.1 Z.out.2.2.2.1.2 (by omega), Z.out.2.1.row (by have := Z.out.2.2.2.1.2; omega) (by have := Z.out.2.2.2.1.2; omega) _⟩ (fun _ h => ⟨_, h.2⟩) ?_
            clear Z hHeld
            intro w7 Z hHeld
            refine tks_ (cs' := q.v) Z.out.1.b (by rfl) (one_ps _) (by kernel_rfl) (R := fun W => M3 N0 W v1.heap.size v0.heap.size (os.map (Value.int .u32)) q.v ∧ CP w0 W g F rs p n bs' ks ∧ Two W g6 g4 ix) ⟨Z.out.1.setb _, rowCP Z.out.2.1 Z.out.1.n.2.1 (by omega), Z.out.2.2.row (by have := Z.out.1.n.2.1; omega) (by have := Z.out.1.n.2.1; omega) _⟩ (fun _ h => ⟨_, h.2⟩) ?_
            clear Z hHeld
            intro w8 Z hHeld
            repeat refine tkf ?_
            refine wpAnyH_done (by with_unfolding_all rfl) ?_ _
            clear hHeld
            go_wp2_with fail
            go_meet
            exact ⟨_, _, rfl, rfl, rfl, Z.out.1, Z.out.2⟩
    case rest =>
      obtain ⟨ga, gb, rfl, rfl, rfl, hM, hC, hT⟩ := hcut
      rename World => w6
      have H := Lib.hid hC
      have M := Lib.hid hM
      have T := Lib.hid hT
      clear hM hC hT EX CF
      go_upto_region 13 with fail
      refine wp_region_held_drew (S := fun W => ∃ r q', CP w0 W g F r q' n bs' ks ∧ M3 N0 W ga gb (os.map (Value.int .u32)) q.v) (by kernel_rfl) ⟨_, _, H.out.drew, ⟨M.out.a.drewN 1, M.out.b.drewN 1, M.out.n⟩⟩ (fun hHeld => ?_)
      have Z := Lib.hid (show CP w0 w6.drew g F rs p n bs' ks ∧ M3 N0 w6.drew ga gb (os.map (Value.int .u32)) q.v ∧ Two w6.drew g6 g4 ix from ⟨H.out.drew, ⟨M.out.a.drewN 1, M.out.b.drewN 1, M.out.n⟩, T.out.drew⟩)
      clear H M T
      repeat refine tkg ?_
      refine tkl 2 (fun W h => by obtain ⟨_, _, _, h⟩ := h; exact h.a.row) ?_ (hn := by rw [List.length_map, OL.out]; kernel_rfl)
      refine tkl (cs := q.v) 3 (fun W h => by obtain ⟨_, _, _, h⟩ := h; exact h.b.row) ?_
      repeat refine tkg ?_
      refine tksn Z.out.1.rowR Z.out.1.fz (by rw [List.length_map, List.length_map, RL.out, OL.out]) (one_u32 _) (by rw [List.length_map, OL.out]; kernel_rfl) (R := fun W => CP w0 W g F os p n bs' ks ∧ M3 N0 W ga gb (os.map (Value.int .u32)) q.v ∧ Two W g6 g4 ix) ⟨Z.out.1.setr OL.out OR.out, ⟨Z.out.2.1.a.kept (cells_oth g _ 1 _ ga (by have := Z.out.2.1.n.1; omega)), Z.out.2.1.b.kept (cells_oth g _ 1 _ gb (by have := Z.out.2.1.n.2.1; omega)), Z.out.2.1.n⟩, ⟨Z.out.2.2.a.kept (cells_oth g _ 1 _ g6 (by omega)), Z.out.2.2.b.kept (cells_oth g _ 1 _ g4 (by omega))⟩⟩ (fun _ h => ⟨_, _, h.1, h.2.1⟩) ?_
      clear Z hHeld
      intro w7 Z hHeld
      repeat refine tkg ?_
      refine tksn (cs := p.v) (cs' := q.v) Z.out.1.rowP Z.out.1.fz (by rfl) (one_ps _) (by kernel_rfl) (R := fun W => CP w0 W g F os q n bs' ks ∧ M3 N0 W ga gb (os.map (Value.int .u32)) q.v ∧ Two W g6 g4 ix) ⟨Z.out.1.setp q, ⟨Z.out.2.1.a.kept (cells_oth g _ 17 _ ga (by have := Z.out.2.1.n.1; omega)), Z.out.2.1.b.kept (cells_oth g _ 17 _ gb (by have := Z.out.2.1.n.2.1; omega)), Z.out.2.1.n⟩, ⟨Z.out.2.2.a.kept (cells_oth g _ 17 _ g6 (by omega)), Z.out.2.2.b.kept (cells_oth g _ 17 _ g4 (by omega))⟩⟩ (fun _ h => ⟨_, _, h.1, h.2.1⟩) ?_
      clear Z hHeld
      intro w8 Z hHeld
      repeat refine tkg ?_
      refine wpAnyH_done (by with_unfolding_all rfl) ?_ _
      clear hHeld
      have H := Lib.hid Z.out.1
      have T := Lib.hid Z.out.2.2
      clear Z
      go_upto_region 14 with fail
      refine wp_region_list ?_
      simp only [List.append_eq, List.cons_append, List.nil_append]
      refine lsv ?_
      refine lsv ?_
      refine lss (cs' := [.int .i64 0, .int .i64 0, .int .i64 0, .int .i64 0]) T.out.b (by rfl) (by simp [Value.oneCell']) (by kernel_rfl) ?_
      refine lsv ?_
      refine wpList_nil ?_
      have H9 := rowCP (k := g4) (cs := ([.int .i64 0, .int .i64 0, .int .i64 0, .int .i64 0] : List Value).toArray) H.out (Nat.le_refl g4) (by omega)
      go_wp2
      first | refine bodyPost_ret (res_cell2 rfl _ _ _ _ rfl (T.out.b.rowSet ([.int .i64 0, .int .i64 0, .int .i64 0, .int .i64 0] : List Value)) Tryz.underlying44 rfl (by kernel_rfl)) rfl ?_ | refine bodyPost_end (res_cell2 rfl _ _ _ _ rfl (T.out.b.rowSet ([.int .i64 0, .int .i64 0, .int .i64 0, .int .i64 0] : List Value)) Tryz.underlying44 rfl (by kernel_rfl)) rfl ?_
      exact ⟨rfl, H9⟩
end
end Go.Proofs.YtljajnaclpbecaaGreatDoor

namespace Go.Proofs.YtljajnaclpbecaaGreatDoor
open Go.RowKit
set_option linter.unusedVariables false
set_option linter.unusedSimpArgs false

theorem heap_step {w : World} {g : Nat} {cs : Array Value} {t : TypeId} {fr : Nat × Nat} (h : w.heap[g]? = some (.cells cs t fr)) (i : Nat) (v : Value) : (w.setCell ⟨g, i, none⟩ v).heap[g]? = some (.cells (cs.setIfInBounds i v) t fr) := by
  rw [setCell_eq_setRow w g i cs t fr v h, setRow_heap w g cs _ t fr h]
theorem ten_cells (w : World) (g : Nat) (t : TypeId) (fr : Nat × Nat) (x0 x1 x2 x3 x4 x5 x6 x7 x8 x9 : Value) (y0 y1 y2 y3 y4 y5 y6 y7 y8 y9 : Value) (h : w.heap[g]? = some (.cells #[x0, x1, x2, x3, x4, x5, x6, x7, x8, x9] t fr)) : ((((((((((w.setCell ⟨g, 0, none⟩ y0).setCell ⟨g, 1, none⟩ y1).setCell ⟨g, 2, none⟩ y2).setCell ⟨g, 3, none⟩ y3).setCell ⟨g, 4, none⟩ y4).setCell ⟨g, 5, none⟩ y5).setCell ⟨g, 6, none⟩ y6).setCell ⟨g, 7, none⟩ y7).setCell ⟨g, 8, none⟩ y8).setCell ⟨g, 9, none⟩ y9).heap[g]? = some (.cells #[y0, y1, y2, y3, y4, y5, y6, y7, y8, y9] t fr) := by
  have := (heap_step (heap_step (heap_step (heap_step (heap_step (heap_step (heap_step (heap_step (heap_step (heap_step h 0 y0) 1 y1) 2 y2) 3 y3) 4 y4) 5 y5) 6 y6) 7 y7) 8 y8) 9 y9)
  simpa using this

set_option maxHeartbeats 2000000 in
theorem advance_c (m k : Int) (M W P : Bool) (c i q g a : Int) (n : Int) (w : World) : Calls Tryz.prog 39 #[.agg #[.int .i64 m, .int .i64 k, .bool M, .bool W, .bool P, .int .i64 c, .int .i64 i, .int .i64 q, .int .i64 g, .int .i64 a], .int .i64 n] w fun e w' => e = .returned (.agg #[.int .i64 m, .int .i64 k, .bool M, .bool W, .bool P, .int .i64 c, .int .i64 (if padv (pok m k c i q g a) n = true then n / 2 else i), .int .i64 q, .int .i64 g, .int .i64 (if padv (pok m k c i q g a) n = true then (a + n) % 16777216 else a)]) ∧ Below w.heap.size w w' := by
  cases hp : pok m k c i q g a
  · have e0 : padv false n = false := rfl
    simp only [e0, Bool.false_eq_true, if_false]
    go_enter Tryz.func39, Tryz.ntmps39
    go_wp2_with (go_at_call 22; refine (valid_c m k M W P c i q g a _).mono ?_; rintro e w1 ⟨rfl, hb⟩; have c0 : w1.cell? ⟨w.heap.size, 0, none⟩ = some (.int .i64 m) := (hb.cell (p := ⟨w.heap.size, 0, none⟩) (by simp <;> omega)).trans (by simp <;> omega); have c1 : w1.cell? ⟨w.heap.size, 1, none⟩ = some (.int .i64 k) := (hb.cell (p := ⟨w.heap.size, 1, none⟩) (by simp <;> omega)).trans (by simp <;> omega); have c2 : w1.cell? ⟨w.heap.size, 2, none⟩ = some (.bool M) := (hb.cell (p := ⟨w.heap.size, 2, none⟩) (by simp <;> omega)).trans (by simp <;> omega); have c3 : w1.cell? ⟨w.heap.size, 3, none⟩ = some (.bool W) := (hb.cell (p := ⟨w.heap.size, 3, none⟩) (by simp <;> omega)).trans (by simp <;> omega); have c4 : w1.cell? ⟨w.heap.size, 4, none⟩ = some (.bool P) := (hb.cell (p := ⟨w.heap.size, 4, none⟩) (by simp <;> omega)).trans (by simp <;> omega); have c5 : w1.cell? ⟨w.heap.size, 5, none⟩ = some (.int .i64 c) := (hb.cell (p := ⟨w.heap.size, 5, none⟩) (by simp <;> omega)).trans (by simp <;> omega); have c6 : w1.cell? ⟨w.heap.size, 6, none⟩ = some (.int .i64 i) := (hb.cell (p := ⟨w.heap.size, 6, none⟩) (by simp <;> omega)).trans (by simp <;> omega); have c7 : w1.cell? ⟨w.heap.size, 7, none⟩ = some (.int .i64 q) := (hb.cell (p := ⟨w.heap.size, 7, none⟩) (by simp <;> omega)).trans (by simp <;> omega); have c8 : w1.cell? ⟨w.heap.size, 8, none⟩ = some (.int .i64 g) := (hb.cell (p := ⟨w.heap.size, 8, none⟩) (by simp <;> omega)).trans (by simp <;> omega); have c9 : w1.cell? ⟨w.heap.size, 9, none⟩ = some (.int .i64 a) := (hb.cell (p := ⟨w.heap.size, 9, none⟩) (by simp <;> omega)).trans (by simp <;> omega); have f6 : w1.frozen? ⟨w.heap.size, 6, none⟩ = false := (hb.frozen (p := ⟨w.heap.size, 6, none⟩) (by simp <;> omega)).trans (by simp <;> omega); have f9 : w1.frozen? ⟨w.heap.size, 9, none⟩ = false := (hb.frozen (p := ⟨w.heap.size, 9, none⟩) (by simp <;> omega)).trans (by simp <;> omega); have HB := Lib.hid (show Below w.heap.size w w1 from (((Below.refl w.heap.size w).alloc (Nat.le_refl _) _).alloc (by simp) _).trans (hb.mono (by simp <;> omega))); have d0 : w1.cell? ⟨w.heap.size + 1, 0, none⟩ = some (.int .i64 0) := (hb.cell (p := ⟨w.heap.size + 1, 0, none⟩) (by simp)).trans (by simp); have z0 : w1.frozen? ⟨w.heap.size + 1, 0, none⟩ = false := (hb.frozen (p := ⟨w.heap.size + 1, 0, none⟩) (by simp)).trans (by simp); have d1 : w1.cell? ⟨w.heap.size + 1, 1, none⟩ = some (.int .i64 0) := (hb.cell (p := ⟨w.heap.size + 1, 1, none⟩) (by simp)).trans (by simp); have z1 : w1.frozen? ⟨w.heap.size + 1, 1, none⟩ = false := (hb.frozen (p := ⟨w.heap.size + 1, 1, none⟩) (by simp)).trans (by simp); have d2 : w1.cell? ⟨w.heap.size + 1, 2, none⟩ = some (.bool false) := (hb.cell (p := ⟨w.heap.size + 1, 2, none⟩) (by simp)).trans (by simp); have z2 : w1.frozen? ⟨w.heap.size + 1, 2, none⟩ = false := (hb.frozen (p := ⟨w.heap.size + 1, 2, none⟩) (by simp)).trans (by simp); have d3 : w1.cell? ⟨w.heap.size + 1, 3, none⟩ = some (.bool false) := (hb.cell (p := ⟨w.heap.size + 1, 3, none⟩) (by simp)).trans (by simp); have z3 : w1.frozen? ⟨w.heap.size + 1, 3, none⟩ = false := (hb.frozen (p := ⟨w.heap.size + 1, 3, none⟩) (by simp)).trans (by simp); have d4 : w1.cell? ⟨w.heap.size + 1, 4, none⟩ = some (.bool false) := (hb.cell (p := ⟨w.heap.size + 1, 4, none⟩) (by simp)).trans (by simp); have z4 : w1.frozen? ⟨w.heap.size + 1, 4, none⟩ = false := (hb.frozen (p := ⟨w.heap.size + 1, 4, none⟩) (by simp)).trans (by simp); have d5 : w1.cell? ⟨w.heap.size + 1, 5, none⟩ = some (.int .i64 0) := (hb.cell (p := ⟨w.heap.size + 1, 5, none⟩) (by simp)).trans (by simp); have z5 : w1.frozen? ⟨w.heap.size + 1, 5, none⟩ = false := (hb.frozen (p := ⟨w.heap.size + 1, 5, none⟩) (by simp)).trans (by simp); have d6 : w1.cell? ⟨w.heap.size + 1, 6, none⟩ = some (.int .i64 0) := (hb.cell (p := ⟨w.heap.size + 1, 6, none⟩) (by simp)).trans (by simp); have z6 : w1.frozen? ⟨w.heap.size + 1, 6, none⟩ = false := (hb.frozen (p := ⟨w.heap.size + 1, 6, none⟩) (by simp)).trans (by simp); have d7 : w1.cell? ⟨w.heap.size + 1, 7, none⟩ = some (.int .i64 0) := (hb.cell (p := ⟨w.heap.size + 1, 7, none⟩) (by simp)).trans (by simp); have z7 : w1.frozen? ⟨w.heap.size + 1, 7, none⟩ = false := (hb.frozen (p := ⟨w.heap.size + 1, 7, none⟩) (by simp)).trans (by simp); have d8 : w1.cell? ⟨w.heap.size + 1, 8, none⟩ = some (.int .i64 0) := (hb.cell (p := ⟨w.heap.size + 1, 8, none⟩) (by simp)).trans (by simp); have z8 : w1.frozen? ⟨w.heap.size + 1, 8, none⟩ = false := (hb.frozen (p := ⟨w.heap.size + 1, 8, none⟩) (by simp)).trans (by simp); have d9 : w1.cell? ⟨w.heap.size + 1, 9, none⟩ = some (.int .i64 0) := (hb.cell (p := ⟨w.heap.size + 1, 9, none⟩) (by simp)).trans (by simp); have z9 : w1.frozen? ⟨w.heap.size + 1, 9, none⟩ = false := (hb.frozen (p := ⟨w.heap.size + 1, 9, none⟩) (by simp)).trans (by simp); have H1 := Lib.hid (show w1.heap[w.heap.size + 1]? = some (.cells #[(.int .i64 0), (.int .i64 0), (.bool false), (.bool false), (.bool false), (.int .i64 0), (.int .i64 0), (.int .i64 0), (.int .i64 0), (.int .i64 0)] 35 (0, 0)) from (hb.block (w.heap.size + 1) (by simp <;> omega)).trans (heap_alloc2_new w _ _)); clear hb)
    (try simp only [Exit.inBlock, Exit.then])
    refine bodyPost_ret (results_cell_row Tryz.results39 _ _ (w.heap.size + 1) 35 _ (0, 0) _ rfl (ten_cells _ _ _ _ _ _ _ _ _ _ _ _ _ _ _ _ _ _ _ _ _ _ _ _ (by exact H1.out)) Tryz.underlying35 rfl (by kernel_rfl)) rfl ?_
    exact ⟨rfl, by repeat' (first | with_reducible exact HB.out | refine Below.setCell ?_ (by first | with_reducible exact Nat.le_refl _ | exact Nat.le_succ _) _)⟩
  have hq := (pok_iff m k c i q g a).1 hp
  have a0 := hq.2.2.2.2.2.2.1
  have a1 := hq.2.2.2.2.2.2.2
  clear hq
  by_cases h2 : n = 2
  · subst h2
    have e0 : padv true 2 = true := rfl
    simp only [e0, if_true]
    have el := i64_low 24 16777215 (a + 2) rfl (by omega) (by omega) (by omega)
    go_enter Tryz.func39, Tryz.ntmps39
    go_wp2_with (go_at_call 22; refine (valid_c m k M W P c i q g a _).mono ?_; rintro e w1 ⟨rfl, hb⟩; have c0 : w1.cell? ⟨w.heap.size, 0, none⟩ = some (.int .i64 m) := (hb.cell (p := ⟨w.heap.size, 0, none⟩) (by simp <;> omega)).trans (by simp <;> omega); have c1 : w1.cell? ⟨w.heap.size, 1, none⟩ = some (.int .i64 k) := (hb.cell (p := ⟨w.heap.size, 1, none⟩) (by simp <;> omega)).trans (by simp <;> omega); have c2 : w1.cell? ⟨w.heap.size, 2, none⟩ = some (.bool M) := (hb.cell (p := ⟨w.heap.size, 2, none⟩) (by simp <;> omega)).trans (by simp <;> omega); have c3 : w1.cell? ⟨w.heap.size, 3, none⟩ = some (.bool W) := (hb.cell (p := ⟨w.heap.size, 3, none⟩) (by simp <;> omega)).trans (by simp <;> omega); have c4 : w1.cell? ⟨w.heap.size, 4, none⟩ = some (.bool P) := (hb.cell (p := ⟨w.heap.size, 4, none⟩) (by simp <;> omega)).trans (by simp <;> omega); have c5 : w1.cell? ⟨w.heap.size, 5, none⟩ = some (.int .i64 c) := (hb.cell (p := ⟨w.heap.size, 5, none⟩) (by simp <;> omega)).trans (by simp <;> omega); have c6 : w1.cell? ⟨w.heap.size, 6, none⟩ = some (.int .i64 i) := (hb.cell (p := ⟨w.heap.size, 6, none⟩) (by simp <;> omega)).trans (by simp <;> omega); have c7 : w1.cell? ⟨w.heap.size, 7, none⟩ = some (.int .i64 q) := (hb.cell (p := ⟨w.heap.size, 7, none⟩) (by simp <;> omega)).trans (by simp <;> omega); have c8 : w1.cell? ⟨w.heap.size, 8, none⟩ = some (.int .i64 g) := (hb.cell (p := ⟨w.heap.size, 8, none⟩) (by simp <;> omega)).trans (by simp <;> omega); have c9 : w1.cell? ⟨w.heap.size, 9, none⟩ = some (.int .i64 a) := (hb.cell (p := ⟨w.heap.size, 9, none⟩) (by simp <;> omega)).trans (by simp <;> omega); have f6 : w1.frozen? ⟨w.heap.size, 6, none⟩ = false := (hb.frozen (p := ⟨w.heap.size, 6, none⟩) (by simp <;> omega)).trans (by simp <;> omega); have f9 : w1.frozen? ⟨w.heap.size, 9, none⟩ = false := (hb.frozen (p := ⟨w.heap.size, 9, none⟩) (by simp <;> omega)).trans (by simp <;> omega); have HB := Lib.hid (show Below w.heap.size w w1 from (((Below.refl w.heap.size w).alloc (Nat.le_refl _) _).alloc (by simp) _).trans (hb.mono (by simp <;> omega))); have d0 : w1.cell? ⟨w.heap.size + 1, 0, none⟩ = some (.int .i64 0) := (hb.cell (p := ⟨w.heap.size + 1, 0, none⟩) (by simp)).trans (by simp); have z0 : w1.frozen? ⟨w.heap.size + 1, 0, none⟩ = false := (hb.frozen (p := ⟨w.heap.size + 1, 0, none⟩) (by simp)).trans (by simp); have d1 : w1.cell? ⟨w.heap.size + 1, 1, none⟩ = some (.int .i64 0) := (hb.cell (p := ⟨w.heap.size + 1, 1, none⟩) (by simp)).trans (by simp); have z1 : w1.frozen? ⟨w.heap.size + 1, 1, none⟩ = false := (hb.frozen (p := ⟨w.heap.size + 1, 1, none⟩) (by simp)).trans (by simp); have d2 : w1.cell? ⟨w.heap.size + 1, 2, none⟩ = some (.bool false) := (hb.cell (p := ⟨w.heap.size + 1, 2, none⟩) (by simp)).trans (by simp); have z2 : w1.frozen? ⟨w.heap.size + 1, 2, none⟩ = false := (hb.frozen (p := ⟨w.heap.size + 1, 2, none⟩) (by simp)).trans (by simp); have d3 : w1.cell? ⟨w.heap.size + 1, 3, none⟩ = some (.bool false) := (hb.cell (p := ⟨w.heap.size + 1, 3, none⟩) (by simp)).trans (by simp); have z3 : w1.frozen? ⟨w.heap.size + 1, 3, none⟩ = false := (hb.frozen (p := ⟨w.heap.size + 1, 3, none⟩) (by simp)).trans (by simp); have d4 : w1.cell? ⟨w.heap.size + 1, 4, none⟩ = some (.bool false) := (hb.cell (p := ⟨w.heap.size + 1, 4, none⟩) (by simp)).trans (by simp); have z4 : w1.frozen? ⟨w.heap.size + 1, 4, none⟩ = false := (hb.frozen (p := ⟨w.heap.size + 1, 4, none⟩) (by simp)).trans (by simp); have d5 : w1.cell? ⟨w.heap.size + 1, 5, none⟩ = some (.int .i64 0) := (hb.cell (p := ⟨w.heap.size + 1, 5, none⟩) (by simp)).trans (by simp); have z5 : w1.frozen? ⟨w.heap.size + 1, 5, none⟩ = false := (hb.frozen (p := ⟨w.heap.size + 1, 5, none⟩) (by simp)).trans (by simp); have d6 : w1.cell? ⟨w.heap.size + 1, 6, none⟩ = some (.int .i64 0) := (hb.cell (p := ⟨w.heap.size + 1, 6, none⟩) (by simp)).trans (by simp); have z6 : w1.frozen? ⟨w.heap.size + 1, 6, none⟩ = false := (hb.frozen (p := ⟨w.heap.size + 1, 6, none⟩) (by simp)).trans (by simp); have d7 : w1.cell? ⟨w.heap.size + 1, 7, none⟩ = some (.int .i64 0) := (hb.cell (p := ⟨w.heap.size + 1, 7, none⟩) (by simp)).trans (by simp); have z7 : w1.frozen? ⟨w.heap.size + 1, 7, none⟩ = false := (hb.frozen (p := ⟨w.heap.size + 1, 7, none⟩) (by simp)).trans (by simp); have d8 : w1.cell? ⟨w.heap.size + 1, 8, none⟩ = some (.int .i64 0) := (hb.cell (p := ⟨w.heap.size + 1, 8, none⟩) (by simp)).trans (by simp); have z8 : w1.frozen? ⟨w.heap.size + 1, 8, none⟩ = false := (hb.frozen (p := ⟨w.heap.size + 1, 8, none⟩) (by simp)).trans (by simp); have d9 : w1.cell? ⟨w.heap.size + 1, 9, none⟩ = some (.int .i64 0) := (hb.cell (p := ⟨w.heap.size + 1, 9, none⟩) (by simp)).trans (by simp); have z9 : w1.frozen? ⟨w.heap.size + 1, 9, none⟩ = false := (hb.frozen (p := ⟨w.heap.size + 1, 9, none⟩) (by simp)).trans (by simp); have H1 := Lib.hid (show w1.heap[w.heap.size + 1]? = some (.cells #[(.int .i64 0), (.int .i64 0), (.bool false), (.bool false), (.bool false), (.int .i64 0), (.int .i64 0), (.int .i64 0), (.int .i64 0), (.int .i64 0)] 35 (0, 0)) from (hb.block (w.heap.size + 1) (by simp <;> omega)).trans (heap_alloc2_new w _ _)); clear hb)
    (try simp only [Exit.inBlock, Exit.then])
    refine bodyPost_ret (results_cell_row Tryz.results39 _ _ (w.heap.size + 1) 35 _ (0, 0) _ rfl (ten_cells _ _ _ _ _ _ _ _ _ _ _ _ _ _ _ _ _ _ _ _ _ _ _ _ (by exact (Below.heap_setCell _ _ _ _ (by simp)).trans ((Below.heap_setCell _ _ _ _ (by simp)).trans H1.out))) Tryz.underlying35 rfl (by kernel_rfl)) rfl ?_
    exact ⟨rfl, by repeat' (first | with_reducible exact HB.out | refine Below.setCell ?_ (by first | with_reducible exact Nat.le_refl _ | exact Nat.le_succ _) _)⟩
  by_cases h4 : n = 4
  · subst h4
    have e0 : padv true 4 = true := rfl
    simp only [e0, if_true]
    have el := i64_low 24 16777215 (a + 4) rfl (by omega) (by omega) (by omega)
    go_enter Tryz.func39, Tryz.ntmps39
    go_wp2_with (go_at_call 22; refine (valid_c m k M W P c i q g a _).mono ?_; rintro e w1 ⟨rfl, hb⟩; have c0 : w1.cell? ⟨w.heap.size, 0, none⟩ = some (.int .i64 m) := (hb.cell (p := ⟨w.heap.size, 0, none⟩) (by simp <;> omega)).trans (by simp <;> omega); have c1 : w1.cell? ⟨w.heap.size, 1, none⟩ = some (.int .i64 k) := (hb.cell (p := ⟨w.heap.size, 1, none⟩) (by simp <;> omega)).trans (by simp <;> omega); have c2 : w1.cell? ⟨w.heap.size, 2, none⟩ = some (.bool M) := (hb.cell (p := ⟨w.heap.size, 2, none⟩) (by simp <;> omega)).trans (by simp <;> omega); have c3 : w1.cell? ⟨w.heap.size, 3, none⟩ = some (.bool W) := (hb.cell (p := ⟨w.heap.size, 3, none⟩) (by simp <;> omega)).trans (by simp <;> omega); have c4 : w1.cell? ⟨w.heap.size, 4, none⟩ = some (.bool P) := (hb.cell (p := ⟨w.heap.size, 4, none⟩) (by simp <;> omega)).trans (by simp <;> omega); have c5 : w1.cell? ⟨w.heap.size, 5, none⟩ = some (.int .i64 c) := (hb.cell (p := ⟨w.heap.size, 5, none⟩) (by simp <;> omega)).trans (by simp <;> omega); have c6 : w1.cell? ⟨w.heap.size, 6, none⟩ = some (.int .i64 i) := (hb.cell (p := ⟨w.heap.size, 6, none⟩) (by simp <;> omega)).trans (by simp <;> omega); have c7 : w1.cell? ⟨w.heap.size, 7, none⟩ = some (.int .i64 q) := (hb.cell (p := ⟨w.heap.size, 7, none⟩) (by simp <;> omega)).trans (by simp <;> omega); have c8 : w1.cell? ⟨w.heap.size, 8, none⟩ = some (.int .i64 g) := (hb.cell (p := ⟨w.heap.size, 8, none⟩) (by simp <;> omega)).trans (by simp <;> omega); have c9 : w1.cell? ⟨w.heap.size, 9, none⟩ = some (.int .i64 a) := (hb.cell (p := ⟨w.heap.size, 9, none⟩) (by simp <;> omega)).trans (by simp <;> omega); have f6 : w1.frozen? ⟨w.heap.size, 6, none⟩ = false := (hb.frozen (p := ⟨w.heap.size, 6, none⟩) (by simp <;> omega)).trans (by simp <;> omega); have f9 : w1.frozen? ⟨w.heap.size, 9, none⟩ = false := (hb.frozen (p := ⟨w.heap.size, 9, none⟩) (by simp <;> omega)).trans (by simp <;> omega); have HB := Lib.hid (show Below w.heap.size w w1 from (((Below.refl w.heap.size w).alloc (Nat.le_refl _) _).alloc (by simp) _).trans (hb.mono (by simp <;> omega))); have d0 : w1.cell? ⟨w.heap.size + 1, 0, none⟩ = some (.int .i64 0) := (hb.cell (p := ⟨w.heap.size + 1, 0, none⟩) (by simp)).trans (by simp); have z0 : w1.frozen? ⟨w.heap.size + 1, 0, none⟩ = false := (hb.frozen (p := ⟨w.heap.size + 1, 0, none⟩) (by simp)).trans (by simp); have d1 : w1.cell? ⟨w.heap.size + 1, 1, none⟩ = some (.int .i64 0) := (hb.cell (p := ⟨w.heap.size + 1, 1, none⟩) (by simp)).trans (by simp); have z1 : w1.frozen? ⟨w.heap.size + 1, 1, none⟩ = false := (hb.frozen (p := ⟨w.heap.size + 1, 1, none⟩) (by simp)).trans (by simp); have d2 : w1.cell? ⟨w.heap.size + 1, 2, none⟩ = some (.bool false) := (hb.cell (p := ⟨w.heap.size + 1, 2, none⟩) (by simp)).trans (by simp); have z2 : w1.frozen? ⟨w.heap.size + 1, 2, none⟩ = false := (hb.frozen (p := ⟨w.heap.size + 1, 2, none⟩) (by simp)).trans (by simp); have d3 : w1.cell? ⟨w.heap.size + 1, 3, none⟩ = some (.bool false) := (hb.cell (p := ⟨w.heap.size + 1, 3, none⟩) (by simp)).trans (by simp); have z3 : w1.frozen? ⟨w.heap.size + 1, 3, none⟩ = false := (hb.frozen (p := ⟨w.heap.size + 1, 3, none⟩) (by simp)).trans (by simp); have d4 : w1.cell? ⟨w.heap.size + 1, 4, none⟩ = some (.bool false) := (hb.cell (p := ⟨w.heap.size + 1, 4, none⟩) (by simp)).trans (by simp); have z4 : w1.frozen? ⟨w.heap.size + 1, 4, none⟩ = false := (hb.frozen (p := ⟨w.heap.size + 1, 4, none⟩) (by simp)).trans (by simp); have d5 : w1.cell? ⟨w.heap.size + 1, 5, none⟩ = some (.int .i64 0) := (hb.cell (p := ⟨w.heap.size + 1, 5, none⟩) (by simp)).trans (by simp); have z5 : w1.frozen? ⟨w.heap.size + 1, 5, none⟩ = false := (hb.frozen (p := ⟨w.heap.size + 1, 5, none⟩) (by simp)).trans (by simp); have d6 : w1.cell? ⟨w.heap.size + 1, 6, none⟩ = some (.int .i64 0) := (hb.cell (p := ⟨w.heap.size + 1, 6, none⟩) (by simp)).trans (by simp); have z6 : w1.frozen? ⟨w.heap.size + 1, 6, none⟩ = false := (hb.frozen (p := ⟨w.heap.size + 1, 6, none⟩) (by simp)).trans (by simp); have d7 : w1.cell? ⟨w.heap.size + 1, 7, none⟩ = some (.int .i64 0) := (hb.cell (p := ⟨w.heap.size + 1, 7, none⟩) (by simp)).trans (by simp); have z7 : w1.frozen? ⟨w.heap.size + 1, 7, none⟩ = false := (hb.frozen (p := ⟨w.heap.size + 1, 7, none⟩) (by simp)).trans (by simp); have d8 : w1.cell? ⟨w.heap.size + 1, 8, none⟩ = some (.int .i64 0) := (hb.cell (p := ⟨w.heap.size + 1, 8, none⟩) (by simp)).trans (by simp); have z8 : w1.frozen? ⟨w.heap.size + 1, 8, none⟩ = false := (hb.frozen (p := ⟨w.heap.size + 1, 8, none⟩) (by simp)).trans (by simp); have d9 : w1.cell? ⟨w.heap.size + 1, 9, none⟩ = some (.int .i64 0) := (hb.cell (p := ⟨w.heap.size + 1, 9, none⟩) (by simp)).trans (by simp); have z9 : w1.frozen? ⟨w.heap.size + 1, 9, none⟩ = false := (hb.frozen (p := ⟨w.heap.size + 1, 9, none⟩) (by simp)).trans (by simp); have H1 := Lib.hid (show w1.heap[w.heap.size + 1]? = some (.cells #[(.int .i64 0), (.int .i64 0), (.bool false), (.bool false), (.bool false), (.int .i64 0), (.int .i64 0), (.int .i64 0), (.int .i64 0), (.int .i64 0)] 35 (0, 0)) from (hb.block (w.heap.size + 1) (by simp <;> omega)).trans (heap_alloc2_new w _ _)); clear hb)
    (try simp only [Exit.inBlock, Exit.then])
    refine bodyPost_ret (results_cell_row Tryz.results39 _ _ (w.heap.size + 1) 35 _ (0, 0) _ rfl (ten_cells _ _ _ _ _ _ _ _ _ _ _ _ _ _ _ _ _ _ _ _ _ _ _ _ (by exact (Below.heap_setCell _ _ _ _ (by simp)).trans ((Below.heap_setCell _ _ _ _ (by simp)).trans H1.out))) Tryz.underlying35 rfl (by kernel_rfl)) rfl ?_
    exact ⟨rfl, by repeat' (first | with_reducible exact HB.out | refine Below.setCell ?_ (by first | with_reducible exact Nat.le_refl _ | exact Nat.le_succ _) _)⟩
  by_cases h6 : n = 6
  · subst h6
    have e0 : padv true 6 = true := rfl
    simp only [e0, if_true]
    have el := i64_low 24 16777215 (a + 6) rfl (by omega) (by omega) (by omega)
    go_enter Tryz.func39, Tryz.ntmps39
    go_wp2_with (go_at_call 22; refine (valid_c m k M W P c i q g a _).mono ?_; rintro e w1 ⟨rfl, hb⟩; have c0 : w1.cell? ⟨w.heap.size, 0, none⟩ = some (.int .i64 m) := (hb.cell (p := ⟨w.heap.size, 0, none⟩) (by simp <;> omega)).trans (by simp <;> omega); have c1 : w1.cell? ⟨w.heap.size, 1, none⟩ = some (.int .i64 k) := (hb.cell (p := ⟨w.heap.size, 1, none⟩) (by simp <;> omega)).trans (by simp <;> omega); have c2 : w1.cell? ⟨w.heap.size, 2, none⟩ = some (.bool M) := (hb.cell (p := ⟨w.heap.size, 2, none⟩) (by simp <;> omega)).trans (by simp <;> omega); have c3 : w1.cell? ⟨w.heap.size, 3, none⟩ = some (.bool W) := (hb.cell (p := ⟨w.heap.size, 3, none⟩) (by simp <;> omega)).trans (by simp <;> omega); have c4 : w1.cell? ⟨w.heap.size, 4, none⟩ = some (.bool P) := (hb.cell (p := ⟨w.heap.size, 4, none⟩) (by simp <;> omega)).trans (by simp <;> omega); have c5 : w1.cell? ⟨w.heap.size, 5, none⟩ = some (.int .i64 c) := (hb.cell (p := ⟨w.heap.size, 5, none⟩) (by simp <;> omega)).trans (by simp <;> omega); have c6 : w1.cell? ⟨w.heap.size, 6, none⟩ = some (.int .i64 i) := (hb.cell (p := ⟨w.heap.size, 6, none⟩) (by simp <;> omega)).trans (by simp <;> omega); have c7 : w1.cell? ⟨w.heap.size, 7, none⟩ = some (.int .i64 q) := (hb.cell (p := ⟨w.heap.size, 7, none⟩) (by simp <;> omega)).trans (by simp <;> omega); have c8 : w1.cell? ⟨w.heap.size, 8, none⟩ = some (.int .i64 g) := (hb.cell (p := ⟨w.heap.size, 8, none⟩) (by simp <;> omega)).trans (by simp <;> omega); have c9 : w1.cell? ⟨w.heap.size, 9, none⟩ = some (.int .i64 a) := (hb.cell (p := ⟨w.heap.size, 9, none⟩) (by simp <;> omega)).trans (by simp <;> omega); have f6 : w1.frozen? ⟨w.heap.size, 6, none⟩ = false := (hb.frozen (p := ⟨w.heap.size, 6, none⟩) (by simp <;> omega)).trans (by simp <;> omega); have f9 : w1.frozen? ⟨w.heap.size, 9, none⟩ = false := (hb.frozen (p := ⟨w.heap.size, 9, none⟩) (by simp <;> omega)).trans (by simp <;> omega); have HB := Lib.hid (show Below w.heap.size w w1 from (((Below.refl w.heap.size w).alloc (Nat.le_refl _) _).alloc (by simp) _).trans (hb.mono (by simp <;> omega))); have d0 : w1.cell? ⟨w.heap.size + 1, 0, none⟩ = some (.int .i64 0) := (hb.cell (p := ⟨w.heap.size + 1, 0, none⟩) (by simp)).trans (by simp); have z0 : w1.frozen? ⟨w.heap.size + 1, 0, none⟩ = false := (hb.frozen (p := ⟨w.heap.size + 1, 0, none⟩) (by simp)).trans (by simp); have d1 : w1.cell? ⟨w.heap.size + 1, 1, none⟩ = some (.int .i64 0) := (hb.cell (p := ⟨w.heap.size + 1, 1, none⟩) (by simp)).trans (by simp); have z1 : w1.frozen? ⟨w.heap.size + 1, 1, none⟩ = false := (hb.frozen (p := ⟨w.heap.size + 1, 1, none⟩) (by simp)).trans (by simp); have d2 : w1.cell? ⟨w.heap.size + 1, 2, none⟩ = some (.bool false) := (hb.cell (p := ⟨w.heap.size + 1, 2, none⟩) (by simp)).trans (by simp); have z2 : w1.frozen? ⟨w.heap.size + 1, 2, none⟩ = false := (hb.frozen (p := ⟨w.heap.size + 1, 2, none⟩) (by simp)).trans (by simp); have d3 : w1.cell? ⟨w.heap.size + 1, 3, none⟩ = some (.bool false) := (hb.cell (p := ⟨w.heap.size + 1, 3, none⟩) (by simp)).trans (by simp); have z3 : w1.frozen? ⟨w.heap.size + 1, 3, none⟩ = false := (hb.frozen (p := ⟨w.heap.size + 1, 3, none⟩) (by simp)).trans (by simp); have d4 : w1.cell? ⟨w.heap.size + 1, 4, none⟩ = some (.bool false) := (hb.cell (p := ⟨w.heap.size + 1, 4, none⟩) (by simp)).trans (by simp); have z4 : w1.frozen? ⟨w.heap.size + 1, 4, none⟩ = false := (hb.frozen (p := ⟨w.heap.size + 1, 4, none⟩) (by simp)).trans (by simp); have d5 : w1.cell? ⟨w.heap.size + 1, 5, none⟩ = some (.int .i64 0) := (hb.cell (p := ⟨w.heap.size + 1, 5, none⟩) (by simp)).trans (by simp); have z5 : w1.frozen? ⟨w.heap.size + 1, 5, none⟩ = false := (hb.frozen (p := ⟨w.heap.size + 1, 5, none⟩) (by simp)).trans (by simp); have d6 : w1.cell? ⟨w.heap.size + 1, 6, none⟩ = some (.int .i64 0) := (hb.cell (p := ⟨w.heap.size + 1, 6, none⟩) (by simp)).trans (by simp); have z6 : w1.frozen? ⟨w.heap.size + 1, 6, none⟩ = false := (hb.frozen (p := ⟨w.heap.size + 1, 6, none⟩) (by simp)).trans (by simp); have d7 : w1.cell? ⟨w.heap.size + 1, 7, none⟩ = some (.int .i64 0) := (hb.cell (p := ⟨w.heap.size + 1, 7, none⟩) (by simp)).trans (by simp); have z7 : w1.frozen? ⟨w.heap.size + 1, 7, none⟩ = false := (hb.frozen (p := ⟨w.heap.size + 1, 7, none⟩) (by simp)).trans (by simp); have d8 : w1.cell? ⟨w.heap.size + 1, 8, none⟩ = some (.int .i64 0) := (hb.cell (p := ⟨w.heap.size + 1, 8, none⟩) (by simp)).trans (by simp); have z8 : w1.frozen? ⟨w.heap.size + 1, 8, none⟩ = false := (hb.frozen (p := ⟨w.heap.size + 1, 8, none⟩) (by simp)).trans (by simp); have d9 : w1.cell? ⟨w.heap.size + 1, 9, none⟩ = some (.int .i64 0) := (hb.cell (p := ⟨w.heap.size + 1, 9, none⟩) (by simp)).trans (by simp); have z9 : w1.frozen? ⟨w.heap.size + 1, 9, none⟩ = false := (hb.frozen (p := ⟨w.heap.size + 1, 9, none⟩) (by simp)).trans (by simp); have H1 := Lib.hid (show w1.heap[w.heap.size + 1]? = some (.cells #[(.int .i64 0), (.int .i64 0), (.bool false), (.bool false), (.bool false), (.int .i64 0), (.int .i64 0), (.int .i64 0), (.int .i64 0), (.int .i64 0)] 35 (0, 0)) from (hb.block (w.heap.size + 1) (by simp <;> omega)).trans (heap_alloc2_new w _ _)); clear hb)
    (try simp only [Exit.inBlock, Exit.then])
    refine bodyPost_ret (results_cell_row Tryz.results39 _ _ (w.heap.size + 1) 35 _ (0, 0) _ rfl (ten_cells _ _ _ _ _ _ _ _ _ _ _ _ _ _ _ _ _ _ _ _ _ _ _ _ (by exact (Below.heap_setCell _ _ _ _ (by simp)).trans ((Below.heap_setCell _ _ _ _ (by simp)).trans H1.out))) Tryz.underlying35 rfl (by kernel_rfl)) rfl ?_
    exact ⟨rfl, by repeat' (first | with_reducible exact HB.out | refine Below.setCell ?_ (by first | with_reducible exact Nat.le_refl _ | exact Nat.le_succ _) _)⟩
  have e0 : padv true n = false := by simp [padv, h2, h4, h6]
  simp only [e0, Bool.false_eq_true, if_false]
  have e2 : (n == 2) = false := by simpa using h2
  have e4 : (n == 4) = false := by simpa using h4
  have e6 : (n == 6) = false := by simpa using h6
  clear h2 h4 h6
  go_enter Tryz.func39, Tryz.ntmps39
  go_wp2_with (go_at_call 22; refine (valid_c m k M W P c i q g a _).mono ?_; rintro e w1 ⟨rfl, hb⟩; have c0 : w1.cell? ⟨w.heap.size, 0, none⟩ = some (.int .i64 m) := (hb.cell (p := ⟨w.heap.size, 0, none⟩) (by simp <;> omega)).trans (by simp <;> omega); have c1 : w1.cell? ⟨w.heap.size, 1, none⟩ = some (.int .i64 k) := (hb.cell (p := ⟨w.heap.size, 1, none⟩) (by simp <;> omega)).trans (by simp <;> omega); have c2 : w1.cell? ⟨w.heap.size, 2, none⟩ = some (.bool M) := (hb.cell (p := ⟨w.heap.size, 2, none⟩) (by simp <;> omega)).trans (by simp <;> omega); have c3 : w1.cell? ⟨w.heap.size, 3, none⟩ = some (.bool W) := (hb.cell (p := ⟨w.heap.size, 3, none⟩) (by simp <;> omega)).trans (by simp <;> omega); have c4 : w1.cell? ⟨w.heap.size, 4, none⟩ = some (.bool P) := (hb.cell (p := ⟨w.heap.size, 4, none⟩) (by simp <;> omega)).trans (by simp <;> omega); have c5 : w1.cell? ⟨w.heap.size, 5, none⟩ = some (.int .i64 c) := (hb.cell (p := ⟨w.heap.size, 5, none⟩) (by simp <;> omega)).trans (by simp <;> omega); have c6 : w1.cell? ⟨w.heap.size, 6, none⟩ = some (.int .i64 i) := (hb.cell (p := ⟨w.heap.size, 6, none⟩) (by simp <;> omega)).trans (by simp <;> omega); have c7 : w1.cell? ⟨w.heap.size, 7, none⟩ = some (.int .i64 q) := (hb.cell (p := ⟨w.heap.size, 7, none⟩) (by simp <;> omega)).trans (by simp <;> omega); have c8 : w1.cell? ⟨w.heap.size, 8, none⟩ = some (.int .i64 g) := (hb.cell (p := ⟨w.heap.size, 8, none⟩) (by simp <;> omega)).trans (by simp <;> omega); have c9 : w1.cell? ⟨w.heap.size, 9, none⟩ = some (.int .i64 a) := (hb.cell (p := ⟨w.heap.size, 9, none⟩) (by simp <;> omega)).trans (by simp <;> omega); have f6 : w1.frozen? ⟨w.heap.size, 6, none⟩ = false := (hb.frozen (p := ⟨w.heap.size, 6, none⟩) (by simp <;> omega)).trans (by simp <;> omega); have f9 : w1.frozen? ⟨w.heap.size, 9, none⟩ = false := (hb.frozen (p := ⟨w.heap.size, 9, none⟩) (by simp <;> omega)).trans (by simp <;> omega); have HB := Lib.hid (show Below w.heap.size w w1 from (((Below.refl w.heap.size w).alloc (Nat.le_refl _) _).alloc (by simp) _).trans (hb.mono (by simp <;> omega))); have d0 : w1.cell? ⟨w.heap.size + 1, 0, none⟩ = some (.int .i64 0) := (hb.cell (p := ⟨w.heap.size + 1, 0, none⟩) (by simp)).trans (by simp); have z0 : w1.frozen? ⟨w.heap.size + 1, 0, none⟩ = false := (hb.frozen (p := ⟨w.heap.size + 1, 0, none⟩) (by simp)).trans (by simp); have d1 : w1.cell? ⟨w.heap.size + 1, 1, none⟩ = some (.int .i64 0) := (hb.cell (p := ⟨w.heap.size + 1, 1, none⟩) (by simp)).trans (by simp); have z1 : w1.frozen? ⟨w.heap.size + 1, 1, none⟩ = false := (hb.frozen (p := ⟨w.heap.size + 1, 1, none⟩) (by simp)).trans (by simp); have d2 : w1.cell? ⟨w.heap.size + 1, 2, none⟩ = some (.bool false) := (hb.cell (p := ⟨w.heap.size + 1, 2, none⟩) (by simp)).trans (by simp); have z2 : w1.frozen? ⟨w.heap.size + 1, 2, none⟩ = false := (hb.frozen (p := ⟨w.heap.size + 1, 2, none⟩) (by simp)).trans (by simp); have d3 : w1.cell? ⟨w.heap.size + 1, 3, none⟩ = some (.bool false) := (hb.cell (p := ⟨w.heap.size + 1, 3, none⟩) (by simp)).trans (by simp); have z3 : w1.frozen? ⟨w.heap.size + 1, 3, none⟩ = false := (hb.frozen (p := ⟨w.heap.size + 1, 3, none⟩) (by simp)).trans (by simp); have d4 : w1.cell? ⟨w.heap.size + 1, 4, none⟩ = some (.bool false) := (hb.cell (p := ⟨w.heap.size + 1, 4, none⟩) (by simp)).trans (by simp); have z4 : w1.frozen? ⟨w.heap.size + 1, 4, none⟩ = false := (hb.frozen (p := ⟨w.heap.size + 1, 4, none⟩) (by simp)).trans (by simp); have d5 : w1.cell? ⟨w.heap.size + 1, 5, none⟩ = some (.int .i64 0) := (hb.cell (p := ⟨w.heap.size + 1, 5, none⟩) (by simp)).trans (by simp); have z5 : w1.frozen? ⟨w.heap.size + 1, 5, none⟩ = false := (hb.frozen (p := ⟨w.heap.size + 1, 5, none⟩) (by simp)).trans (by simp); have d6 : w1.cell? ⟨w.heap.size + 1, 6, none⟩ = some (.int .i64 0) := (hb.cell (p := ⟨w.heap.size + 1, 6, none⟩) (by simp)).trans (by simp); have z6 : w1.frozen? ⟨w.heap.size + 1, 6, none⟩ = false := (hb.frozen (p := ⟨w.heap.size + 1, 6, none⟩) (by simp)).trans (by simp); have d7 : w1.cell? ⟨w.heap.size + 1, 7, none⟩ = some (.int .i64 0) := (hb.cell (p := ⟨w.heap.size + 1, 7, none⟩) (by simp)).trans (by simp); have z7 : w1.frozen? ⟨w.heap.size + 1, 7, none⟩ = false := (hb.frozen (p := ⟨w.heap.size + 1, 7, none⟩) (by simp)).trans (by simp); have d8 : w1.cell? ⟨w.heap.size + 1, 8, none⟩ = some (.int .i64 0) := (hb.cell (p := ⟨w.heap.size + 1, 8, none⟩) (by simp)).trans (by simp); have z8 : w1.frozen? ⟨w.heap.size + 1, 8, none⟩ = false := (hb.frozen (p := ⟨w.heap.size + 1, 8, none⟩) (by simp)).trans (by simp); have d9 : w1.cell? ⟨w.heap.size + 1, 9, none⟩ = some (.int .i64 0) := (hb.cell (p := ⟨w.heap.size + 1, 9, none⟩) (by simp)).trans (by simp); have z9 : w1.frozen? ⟨w.heap.size + 1, 9, none⟩ = false := (hb.frozen (p := ⟨w.heap.size + 1, 9, none⟩) (by simp)).trans (by simp); have H1 := Lib.hid (show w1.heap[w.heap.size + 1]? = some (.cells #[(.int .i64 0), (.int .i64 0), (.bool false), (.bool false), (.bool false), (.int .i64 0), (.int .i64 0), (.int .i64 0), (.int .i64 0), (.int .i64 0)] 35 (0, 0)) from (hb.block (w.heap.size + 1) (by simp <;> omega)).trans (heap_alloc2_new w _ _)); clear hb)
  (try simp only [Exit.inBlock, Exit.then])
  refine bodyPost_ret (results_cell_row Tryz.results39 _ _ (w.heap.size + 1) 35 _ (0, 0) _ rfl (ten_cells _ _ _ _ _ _ _ _ _ _ _ _ _ _ _ _ _ _ _ _ _ _ _ _ (by exact H1.out)) Tryz.underlying35 rfl (by kernel_rfl)) rfl ?_
  exact ⟨rfl, by repeat' (first | with_reducible exact HB.out | refine Below.setCell ?_ (by first | with_reducible exact Nat.le_refl _ | exact Nat.le_succ _) _)⟩

end Go.Proofs.YtljajnaclpbecaaGreatDoor

