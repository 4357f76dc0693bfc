/- CONTRACTS of package store and its reference: Copy. No conditions but that the storage reads as one. -/
import Derived.Test.YtcollddpfahaaaaSt7
import Derived.Test.YtcollddpfahaaaaSt8
import Derived.RegionTactic
import Derived.BigRegion
import Derived.StillTailTactics
import Derived.Deep.RegionHeld3
import Derived.Laws.Append
import Derived.Laws.AppendOwn
import Derived.Lib.Hide
import Derived.Outline
import Derived.Handy
import Derived.BigQuiet
import Derived.Deep.QuietTactic
namespace Go.Proofs.Ytcollddpfahaaaa
open Go.RowKit
set_option linter.unusedVariables false
set_option linter.unusedSimpArgs false

theorem layK {T : TypeId} {w : World} {F : Foot} {bs ks : List Int} (h : St T w F bs ks) (hT : T ≠ 3) (ys : List Int) (hy : ∀ z ∈ ys, 0 ≤ z ∧ z ≤ 31) (hl : ys.length = ks.length) :
    ∃ cur : List Value, w.heap[F.gk]? = some (.cells cur.toArray 3 (0, 0)) ∧ cur.length = F.ck ∧ St T (w.setRow F.gk (splice cur 0 (ys.map (Value.int .i64))).toArray) F bs ys := by
  obtain ⟨cur, h1, h2, h3⟩ := h.k.lay 0 (ys.map (Value.int .i64)) (by simp; omega)
  refine ⟨cur, h1, h2, ?_, ?_, ?_, h.rb, hy, by rw [hl]; exact h.ln, by rw [hl]; exact h.l0, by rw [hl]; exact h.l1⟩
  · rw [hl]; exact (setRow_other _ _ _ _ (Ne.symm (h.ngk hT))).trans h.hd
  · exact h.b.keep (setRow_other _ _ _ _ h.nbk)
  · have e2 : splice (ks.map (Value.int .i64)) 0 (ys.map (Value.int .i64)) = ys.map (Value.int .i64) := splice_all _ _ (by simp [hl])
    rw [e2] at h3; exact h3
/-- COPY of the keys of one storage into another's -/
theorem run_copy_keys {T T' : TypeId} {w : World} {F F' : Foot} {bs ks bs' ks' : List Int} (h : St T w F bs ks) (h' : St T' w F' bs' ks') (hT : T' ≠ 3) (hl : ks.length = ks'.length) (m : Nat) (hm : ks.length = m) :
    ∃ w2, (Builtin.copy_ #[61, 61] 3 #[.slice (some ⟨F'.gk, 0, none⟩) m F'.ck, .slice (some ⟨F.gk, 0, none⟩) m F.ck]).run Try.prog w = .ok (.int .i64 (m : Int)) w2 ∧
      St T' w2 F' bs' ks ∧ w.grownBy w2 (some F'.gk) := by
  subst hm
  obtain ⟨i0, hi, hz0, hz1, hz2⟩ := info_parts info_int
  have hone : (Try.prog.info? 3).map (·.size) = some 1 := by rw [hi]; simp [hz1]
  obtain ⟨cur, h1, h2, h3⟩ := layK h' hT ks h.rk hl
  have hlen : (ks.map (Value.int .i64)).length = ks.length := by simp
  have hcap := h'.capk
  have hsrc : ∀ j u, (ks.map (Value.int .i64))[j]? = some u → w.cell? ((⟨F.gk, 0, none⟩ : Addr).add j) = some u := by
    intro j u hu
    have hj : j < ks.length := by
      rcases Nat.lt_or_ge j ks.length with h4 | h4
      · exact h4
      · rw [List.getElem?_eq_none (by simpa using h4)] at hu; cases hu
    have hadd : (⟨F.gk, 0, none⟩ : Addr).add j = ⟨F.gk, j, none⟩ := by unfold Addr.add; split <;> simp_all
    rw [hadd, h.key hj]
    simp [hj] at hu
    simp [List.getD_eq_getElem?_getD, hj, hu]
  have hrun := run_copy_row (P := Try.prog) w 61 61 3 3 F'.gk 0 ks.length F'.ck ⟨F.gk, 0, none⟩ ks.length F.ck cur.toArray 3 (ks.map (Value.int .i64)) Try.underlying61 hone h1 (by rw [hlen]; exact (Nat.min_self _).symm) hsrc (by rw [hlen]; simp; omega) (by intro v hv; obtain ⟨z, _, rfl⟩ := List.mem_map.1 hv; rfl)
  have e : cur.toArray.toList.take 0 ++ ks.map (Value.int .i64) ++ cur.toArray.toList.drop (0 + (ks.map (Value.int .i64)).length) = splice cur 0 (ks.map (Value.int .i64)) := by simp [splice]
  rw [e, hlen] at hrun
  exact ⟨_, hrun, h3, grown_setRow _ _ _⟩
/-- COPY of the bytes of one storage into another's -/
theorem run_copy_bytes {T T' : TypeId} {w : World} {F F' : Foot} {bs ks bs' ks' : List Int} (h : St T w F bs ks) (h' : St T' w F' bs' ks') (hT : T' ≠ 5) (hl : bs.length = bs'.length) (N : Nat) (hN : bs.length = N) :
    ∃ w2, (Builtin.copy_ #[29, 29] 3 #[.slice (some ⟨F'.gb, 0, none⟩) N F'.cb, .slice (some ⟨F.gb, 0, none⟩) N F.cb]).run Try.prog w = .ok (.int .i64 (N : Int)) w2 ∧
      St T' w2 F' bs ks' ∧ w.grownBy w2 (some F'.gb) := by
  subst hN
  obtain ⟨w2, h1, h2, h3⟩ := run_copy_to h' hT (a := 0) (h.byt (a := 0) (n := bs.length) (by omega)) (by omega) (.inl rfl) (c := F.cb) (dc := F'.cb)
  rw [Nat.sub_zero, ← hl] at h1
  rw [List.drop_zero, List.take_length, splice_all _ _ hl] at h2
  exact ⟨w2, h1, h2, h3⟩

set_option maxHeartbeats 4000000 in
theorem copy_c {F : Foot} {bs ks : List Int} (w : World) (h : St 66 w F bs ks)  : Calls Try.prog 22 #[.pointer (some ⟨F.g, 0, none⟩)] w (fun e w' => ∃ v, e = .returned v ∧ NewSt 66 w bs ks v w') := by
  obtain ⟨N, hN⟩ : ∃ N, bs.length = N := ⟨_, rfl⟩
  obtain ⟨m, hm⟩ : ∃ m, ks.length = m := ⟨_, rfl⟩
  have c0 := h.cell0
  have c1 := h.cell1
  have H := Lib.hid h
  have LN := Lib.hid (show N = 2048 * m from by rw [← hN, ← hm]; exact h.ln)
  have n0 : (2048 : Int) ≤ (N : Int) := by have := h.ln; have := h.l0; omega
  have n1 : (N : Int) ≤ 65536 := by have := h.ln; have := h.l1; omega
  rw [hN] at c0
  rw [hm] at c1
  have HN := Lib.hid hN
  have HM := Lib.hid hm
  have ltg := H.out.ltg
  clear hN hm h
  have M1 : 1 ≤ m := by have := H.out.l0; rw [HM.out] at this; exact this
  have M2 : m ≤ 32 := by have := H.out.l1; rw [HM.out] at this; exact this
  have hmk := fun W => run_mk_b N (by omega) W
  have hmi := fun W => run_mk_i m (by omega) W
  go_enter Try.func22, Try.ntmps22
  go_wp2
  go_region
  all_goals clear hmk hmi c0 c1
  · obtain ⟨X, hX⟩ : ∃ X, (((w.alloc (.cells (zeroB N) 5)).alloc (.cells (zeroI m) 3)).alloc (.cells #[.slice (some ⟨w.heap.size, 0, none⟩) N N, .slice (some ⟨w.heap.size + 1, 0, none⟩) m m] 66)).drew = X := ⟨_, rfl⟩
    rw [hX]
    have hB : Below w.heap.size w ((((w.alloc (.cells (zeroB N) 5)).alloc (.cells (zeroI m) 3)).alloc (.cells #[.slice (some ⟨w.heap.size, 0, none⟩) N N, .slice (some ⟨w.heap.size + 1, 0, none⟩) m m] 66)).drew) := below3 w _ _ _
    have hS := (new_st1 66 w N m LN.out.symm M1 M2).drewN 1
    obtain ⟨F', hF⟩ : ∃ F' : Foot, F' = ⟨w.heap.size + 1 + 1, w.heap.size, w.heap.size + 1, N, m⟩ := ⟨_, rfl⟩
    rw [← hF] at hS
    have g1 : F'.g = w.heap.size + 1 + 1 := by rw [hF]
    have g2 : w.heap.size ≤ F'.gb := by rw [hF]; simp
    have g3 : w.heap.size ≤ F'.gk := by rw [hF]; simp
    have k1 : F'.cb = N := by rw [hF]
    have k2 : F'.ck = m := by rw [hF]
    have k3 := Lib.hid g1
    clear hF
    have hS' : St 66 X F' (z0 N) (z0 m) := by rw [← hX]; exact hS
    have hB' : Below w.heap.size w X := by rw [← hX]; exact hB
    clear hX hS hB
    have HS := Lib.hid hS'
    have HB := Lib.hid hB'
    have SX := Lib.hid (H.out.belowS hB')
    have d0 := hS'.cell0
    have d1 := hS'.cell1
    rw [z0_len] at d0 d1
    rw [k1] at d0
    rw [k2] at d1
    rw [g1] at d0 d1
    have e0 := SX.out.cell0
    have e1 := SX.out.cell1
    rw [HN.out] at e0
    rw [HM.out] at e1
    obtain ⟨X2, hcp, hS2, hG2⟩ := run_copy_bytes (SX.out.drewN 1) (HS.out.drewN 1) (by decide) (by rw [z0_len]; exact HN.out) N HN.out
    rw [k1] at hcp
    have hcp' : (Builtin.copy_ #[29, 29] 3 #[.slice (some ⟨F'.gb, 0, none⟩) N N, .slice (some ⟨F.gb, 0, none⟩) N F.cb]).run Try.prog X.drew = .ok (.int .i64 (N : Int)) X2 := hcp
    have S2 := Lib.hid hS2
    have G2 := Lib.hid hG2
    have B2 := Lib.hid (below_of_grown (dBelow HB.out 1) hG2 (Nat.le_refl _) g2)
    have SX2 := Lib.hid (H.out.belowS B2.out)
    have G1 := Lib.hid g1
    have K1 := Lib.hid k1
    have K2 := Lib.hid k2
    clear hS' hB' hS2 hG2 hcp g1 k1 k2
    go_wp2
    refine wp_region_still_tail 8 (by kernel_rfl) (by kernel_rfl) ?_
    change wpStill _ _ (World.drew _) (fun a => wpList _ _ _ _ a (World.drew _)) _ _
    simp only [List.append_eq, List.cons_append, List.nil_append, List.take_succ_cons, List.take_zero, List.drop_succ_cons, List.drop_zero]
    repeat still_step
    refine wpStill_nil ?_
    clear d0 d1 e0 e1
    have d0 := S2.out.cell0
    have d1 := S2.out.cell1
    rw [HN.out, K1.out, G1.out] at d0
    rw [z0_len, K2.out, G1.out] at d1
    have e0 := SX2.out.cell0
    have e1 := SX2.out.cell1
    rw [HN.out] at e0
    rw [HM.out] at e1
    obtain ⟨X3, hck, hS3, hG3⟩ := run_copy_keys (SX2.out.drewN 1) (S2.out.drewN 1) (by decide) (by rw [z0_len]; exact HM.out) m HM.out
    rw [K2.out] at hck
    have hck' : (Builtin.copy_ #[61, 61] 3 #[.slice (some ⟨F'.gk, 0, none⟩) m m, .slice (some ⟨F.gk, 0, none⟩) m F.ck]).run Try.prog X2.drew = .ok (.int .i64 (m : Int)) X3 := hck
    have S3 := Lib.hid hS3
    have B3 := Lib.hid (below_of_grown (dBelow B2.out 1) hG3 (Nat.le_refl _) g3)
    clear hS3 hG3 hck
    go_wp2
    refine wp_region_still_tail 8 (by kernel_rfl) (by kernel_rfl) ?_
    change wpStill _ _ (World.drew _) (fun a => wpList _ _ _ _ a (World.drew _)) _ _
    simp only [List.append_eq, List.cons_append, List.nil_append, List.take_succ_cons, List.take_zero, List.drop_succ_cons, List.drop_zero]
    repeat still_step
    refine wpStill_nil ?_
    go_wp2
    go_ret
    exact ⟨_, rfl, F', by rw [G1.out]; rfl, S3.out, B3.out, by rw [G1.out]; omega, g2, g3⟩
  · obtain ⟨X, hX⟩ : ∃ X, (((w.alloc (.cells (zeroI m) 3)).alloc (.cells (zeroB N) 5)).alloc (.cells #[.slice (some ⟨w.heap.size + 1, 0, none⟩) N N, .slice (some ⟨w.heap.size, 0, none⟩) m m] 66)).drew = X := ⟨_, rfl⟩
    rw [hX]
    have hB : Below w.heap.size w ((((w.alloc (.cells (zeroI m) 3)).alloc (.cells (zeroB N) 5)).alloc (.cells #[.slice (some ⟨w.heap.size + 1, 0, none⟩) N N, .slice (some ⟨w.heap.size, 0, none⟩) m m] 66)).drew) := below3 w _ _ _
    have hS := (new_st2 66 w N m LN.out.symm M1 M2).drewN 1
    obtain ⟨F', hF⟩ : ∃ F' : Foot, F' = ⟨w.heap.size + 1 + 1, w.heap.size + 1, w.heap.size, N, m⟩ := ⟨_, rfl⟩
    rw [← hF] at hS
    have g1 : F'.g = w.heap.size + 1 + 1 := by rw [hF]
    have g2 : w.heap.size ≤ F'.gb := by rw [hF]; simp
    have g3 : w.heap.size ≤ F'.gk := by rw [hF]; simp
    have k1 : F'.cb = N := by rw [hF]
    have k2 : F'.ck = m := by rw [hF]
    have k3 := Lib.hid g1
    clear hF
    have hS' : St 66 X F' (z0 N) (z0 m) := by rw [← hX]; exact hS
    have hB' : Below w.heap.size w X := by rw [← hX]; exact hB
    clear hX hS hB
    have HS := Lib.hid hS'
    have HB := Lib.hid hB'
    have SX := Lib.hid (H.out.belowS hB')
    have d0 := hS'.cell0
    have d1 := hS'.cell1
    rw [z0_len] at d0 d1
    rw [k1] at d0
    rw [k2] at d1
    rw [g1] at d0 d1
    have e0 := SX.out.cell0
    have e1 := SX.out.cell1
    rw [HN.out] at e0
    rw [HM.out] at e1
    obtain ⟨X2, hcp, hS2, hG2⟩ := run_copy_bytes (SX.out.drewN 1) (HS.out.drewN 1) (by decide) (by rw [z0_len]; exact HN.out) N HN.out
    rw [k1] at hcp
    have hcp' : (Builtin.copy_ #[29, 29] 3 #[.slice (some ⟨F'.gb, 0, none⟩) N N, .slice (some ⟨F.gb, 0, none⟩) N F.cb]).run Try.prog X.drew = .ok (.int .i64 (N : Int)) X2 := hcp
    have S2 := Lib.hid hS2
    have G2 := Lib.hid hG2
    have B2 := Lib.hid (below_of_grown (dBelow HB.out 1) hG2 (Nat.le_refl _) g2)
    have SX2 := Lib.hid (H.out.belowS B2.out)
    have G1 := Lib.hid g1
    have K1 := Lib.hid k1
    have K2 := Lib.hid k2
    clear hS' hB' hS2 hG2 hcp g1 k1 k2
    go_wp2
    refine wp_region_still_tail 8 (by kernel_rfl) (by kernel_rfl) ?_
    change wpStill _ _ (World.drew _) (fun a => wpList _ _ _ _ a (World.drew _)) _ _
    simp only [List.append_eq, List.cons_append, List.nil_append, List.take_succ_cons, List.take_zero, List.drop_succ_cons, List.drop_zero]
    repeat still_step
    refine wpStill_nil ?_
    clear d0 d1 e0 e1
    have d0 := S2.out.cell0
    have d1 := S2.out.cell1
    rw [HN.out, K1.out, G1.out] at d0
    rw [z0_len, K2.out, G1.out] at d1
    have e0 := SX2.out.cell0
    have e1 := SX2.out.cell1
    rw [HN.out] at e0
    rw [HM.out] at e1
    obtain ⟨X3, hck, hS3, hG3⟩ := run_copy_keys (SX2.out.drewN 1) (S2.out.drewN 1) (by decide) (by rw [z0_len]; exact HM.out) m HM.out
    rw [K2.out] at hck
    have hck' : (Builtin.copy_ #[61, 61] 3 #[.slice (some ⟨F'.gk, 0, none⟩) m m, .slice (some ⟨F.gk, 0, none⟩) m F.ck]).run Try.prog X2.drew = .ok (.int .i64 (m : Int)) X3 := hck
    have S3 := Lib.hid hS3
    have B3 := Lib.hid (below_of_grown (dBelow B2.out 1) hG3 (Nat.le_refl _) g3)
    clear hS3 hG3 hck
    go_wp2
    refine wp_region_still_tail 8 (by kernel_rfl) (by kernel_rfl) ?_
    change wpStill _ _ (World.drew _) (fun a => wpList _ _ _ _ a (World.drew _)) _ _
    simp only [List.append_eq, List.cons_append, List.nil_append, List.take_succ_cons, List.take_zero, List.drop_succ_cons, List.drop_zero]
    repeat still_step
    refine wpStill_nil ?_
    go_wp2
    go_ret
    exact ⟨_, rfl, F', by rw [G1.out]; rfl, S3.out, B3.out, by rw [G1.out]; omega, g2, g3⟩

/-- APPEND of a row onto an empty slice that is not nil, as one step of a region that draws its order: a new row -/
theorem step_append_fresh {ops : Array Oper} {o : Oper} {ac : Act} {w : World} {K : Act → World → Prop} {Q : Exit → Act → World → Prop} {E : Prop} (hgd : o.guard = none) (s x : Operand) (t e : TypeId)
    (ho : o.op = .call { callee := .builtin .append, args := #[s, x], argTypes := #[t, t] }) (i : TypeInfo) (z : Value) (bytes : Nat) (ht : Try.prog.underlying t = some (.slice e)) (hi : Try.prog.info? e = some i) (hz : i.zero = some z)
    (hsize : i.size = 1) (hby : i.bytes = bytes) (hzs : z.cells = #[z]) (hb8 : bytes ≤ 8) (g : Nat) (hs : ac.eval s = .slice (some ⟨g, 0, none⟩) 0 0) (b n c cb : Nat) (vs : List Value) (hx : ac.eval x = .slice (some ⟨b, 0, none⟩) n c)
    (hr : Rw w b e cb vs) (hn : vs.length = n) (h0 : 0 < n) (hm : n ≤ 1000000)
    (h : ∀ cap w', Rw w' w.heap.size e cap vs → Below w.heap.size w w' → K (ac.put o.dst (.slice (some ⟨w.heap.size, 0, none⟩) n cap)) w') :
    if Region.wanted o (yielded ops ac.tmps) = true then Oper.wp Try.prog o ac w K Q else E := by
  have hw : Region.wanted o (yielded ops ac.tmps) = true := by simp [Region.wanted, hgd]
  rw [if_pos hw]
  have hnews : ∀ j v, vs[j]? = some v → w.cell? ((⟨b, 0, none⟩ : Addr).add j) = some v := by
    intro j v hv
    have hj : j < vs.length := by
      rcases Nat.lt_or_ge j vs.length with h4 | h4
      · exact h4
      · rw [List.getElem?_eq_none h4] at hv; cases hv
    have hadd : (⟨b, 0, none⟩ : Addr).add j = ⟨b, j, none⟩ := by unfold Addr.add; split <;> simp_all
    rw [hadd, hr.cell hj]
    rw [List.getElem?_eq_getElem hj] at hv
    exact hv
  have hnx : Builtin.nextslicecap n 0 = n := nextslicecap_zero h0
  have hmul : n * bytes ≤ 1000000 * 8 := Nat.mul_le_mul hm hb8
  have hrun := run_append_grow (P := Try.prog) w t o.type e i z ht hi hz ⟨g, 0, none⟩ 0 0 [] (by simp) (by simp) ⟨b, 0, none⟩ n c vs (by rw [hsize, hn, Nat.mul_one]) hnews (by omega) (by omega) (by rw [hby, Nat.zero_add, hnx]; omega)
  simp only [Nat.zero_add] at hrun
  have hge := grownCap_ge w n 0 e
  have hle := grownCap_le_maxLen w n 0 e (by unfold maxLen; omega)
  have hzc : (Builtin.zeroCells z.cells (grownCap w n 0 e - n)).toList.length = grownCap w n 0 e - n := by rw [hzs]; simp [Builtin.zeroCells]
  have hrow : Rw (w.drew.alloc (.cells (([] : List Value).toArray ++ vs.toArray ++ Builtin.zeroCells z.cells (grownCap w n 0 e - n)) e)) w.heap.size e (grownCap w n 0 e) vs := by
    refine ⟨vs ++ (Builtin.zeroCells z.cells (grownCap w n 0 e - n)).toList, ?_, by rw [List.length_append, hzc, hn]; omega, by rw [List.take_left], hle⟩
    have h1 := heap_alloc_new w.drew (.cells (([] : List Value).toArray ++ vs.toArray ++ Builtin.zeroCells z.cells (grownCap w n 0 e - n)) e)
    have e2 : (vs ++ (Builtin.zeroCells z.cells (grownCap w n 0 e - n)).toList).toArray = ([] : List Value).toArray ++ vs.toArray ++ Builtin.zeroCells z.cells (grownCap w n 0 e - n) := by apply Array.ext'; simp
    rw [e2]
    exact h1
  have hbel : Below w.heap.size w (w.drew.alloc (.cells (([] : List Value).toArray ++ vs.toArray ++ Builtin.zeroCells z.cells (grownCap w n 0 e - n)) e)) := (dBelow (Below.refl w.heap.size w) 1).alloc (Nat.le_refl _) _
  unfold Oper.wp execOp
  simp only [ho, resolve, invoke, builtin, Sem.run_bind, Sem.run_pure, Result.andThen_ok, List.map_toArray, List.map_cons, List.map_nil, hs, hx, hrun]
  exact h _ _ hrow hbel
theorem bsz {B : Nat} {a w : World} (h : Below B a w) : a.heap.size ≤ w.heap.size := h.size
theorem Rw.at_ {w : World} {g g' c : Nat} {e : TypeId} {vs : List Value} (h : Rw w g e c vs) (hg : g = g') : Rw w g' e c vs := by subst hg; exact h
/-- a storage, behind a name that no tactic takes apart -/
structure StI (T : TypeId) (w : World) (F : Foot) (bs ks : List Int) : Prop where
  out : St T w F bs ks
theorem StI.alloc {T : TypeId} {w : World} {F : Foot} {bs ks : List Int} (O : Obj) (h : StI T w F bs ks) : StI T (w.alloc O) F bs ks := ⟨h.out.alloc O⟩
theorem StI.allocD {T : TypeId} {w : World} {F : Foot} {bs ks : List Int} (O : Obj) (h : StI T w.drew F bs ks) : StI T (w.alloc O).drew F bs ks := ⟨((h.out.keep (w' := w) rfl rfl rfl).alloc O).drewN 1⟩
theorem bcell_alloc {w : World} {b o : Nat} {v : Value} (O : Obj) (h : w.cell? ⟨b, o, none⟩ = some v) : (w.alloc O).cell? ⟨b, o, none⟩ = some v := bcell_keep h ((Below.refl w.heap.size w).alloc (Nat.le_refl _) O)
theorem bcell_allocD {w : World} {b o : Nat} {v : Value} (O : Obj) (h : w.drew.cell? ⟨b, o, none⟩ = some v) : (w.alloc O).drew.cell? ⟨b, o, none⟩ = some v := bcell_alloc (w := w) O h
theorem bbelow_alloc {B : Nat} {a w : World} (O : Obj) (h : Below B a w) (hB : B ≤ a.heap.size) : Below B a (w.alloc O) := h.alloc (Nat.le_trans hB h.size) O
theorem bbelow_allocD {B : Nat} {a w : World} (O : Obj) (h : Below B a w.drew) (hB : B ≤ a.heap.size) : Below B a (w.alloc O).drew := dBelow (bbelow_alloc (w := w) O ⟨h.os, h.tape, h.output, h.size, h.block⟩ hB) 1

section
variable {T : TypeId} {w w' a0 : World} {F : Foot} {bs ks : List Int} {B g : Nat} {x y : Value}
theorem keep4 (O : Obj) (h : w.cell? ⟨g, 0, none⟩ = some x ∧ w.cell? ⟨g, 1, none⟩ = some y ∧ StI T w F bs ks ∧ Below B a0 w) (hB : B ≤ a0.heap.size) : (w.alloc O).cell? ⟨g, 0, none⟩ = some x ∧ (w.alloc O).cell? ⟨g, 1, none⟩ = some y ∧ StI T (w.alloc O) F bs ks ∧ Below B a0 (w.alloc O) :=
  ⟨bcell_alloc O h.1, bcell_alloc O h.2.1, h.2.2.1.alloc O, bbelow_alloc O h.2.2.2 hB⟩
theorem keep4D (O : Obj) (h : w.drew.cell? ⟨g, 0, none⟩ = some x ∧ w.drew.cell? ⟨g, 1, none⟩ = some y ∧ StI T w.drew F bs ks ∧ Below B a0 w.drew) (hB : B ≤ a0.heap.size) : (w.alloc O).drew.cell? ⟨g, 0, none⟩ = some x ∧ (w.alloc O).drew.cell? ⟨g, 1, none⟩ = some y ∧ StI T (w.alloc O).drew F bs ks ∧ Below B a0 (w.alloc O).drew :=
  ⟨bcell_allocD O h.1, bcell_allocD O h.2.1, h.2.2.1.allocD O, bbelow_allocD O h.2.2.2 hB⟩
theorem keep4B (h : w.cell? ⟨g, 0, none⟩ = some x ∧ w.cell? ⟨g, 1, none⟩ = some y ∧ StI T w F bs ks ∧ Below B a0 w) (hb : Below w.heap.size w w') (hB : B ≤ a0.heap.size) : w'.cell? ⟨g, 0, none⟩ = some x ∧ w'.cell? ⟨g, 1, none⟩ = some y ∧ StI T w' F bs ks ∧ Below B a0 w' :=
  ⟨bcell_keep h.1 hb, bcell_keep h.2.1 hb, ⟨h.2.2.1.out.belowS hb⟩, bbelow_keep h.2.2.2 hB hb⟩
end

def rcopyPost (w : World) (bs ks : List Int) (e : Ending) (w' : World) : Prop := ∃ v, e = .returned v ∧ NewSt 63 w bs ks v w'
set_option maxHeartbeats 4000000 in
theorem rcopy_c {F : Foot} {bs ks : List Int} (w : World) (h : St 63 w F bs ks)  : Calls Try.prog 23 #[.pointer (some ⟨F.g, 0, none⟩)] w (rcopyPost w bs ks) := by
  obtain ⟨N, hN⟩ : ∃ N, bs.length = N := ⟨_, rfl⟩
  obtain ⟨m, hm⟩ : ∃ m, ks.length = m := ⟨_, rfl⟩
  have c0 := h.cell0
  have c1 := h.cell1
  have H := Lib.hid h
  have LN := Lib.hid (show N = 2048 * m from by rw [← hN, ← hm]; exact h.ln)
  have n0 : (2048 : Int) ≤ (N : Int) := by have := h.ln; have := h.l0; omega
  have n1 : (N : Int) ≤ 65536 := by have := h.ln; have := h.l1; omega
  rw [hN] at c0
  rw [hm] at c1
  have HN := Lib.hid hN
  have HM := Lib.hid hm
  have ltg := H.out.ltg
  clear hN hm h
  have M1 : 1 ≤ m := by have := H.out.l0; rw [HM.out] at this; exact this
  have M2 : m ≤ 32 := by have := H.out.l1; rw [HM.out] at this; exact this
  obtain ⟨i0, hi, hz0, hz1, hz2⟩ := info_parts info_u8
  obtain ⟨i1, ji, jz0, jz1, jz2⟩ := info_parts info_int
  have I0 := Lib.hid (And.intro hi (And.intro hz0 (And.intro hz1 hz2)))
  have I1 := Lib.hid (And.intro ji (And.intro jz0 (And.intro jz1 jz2)))
  have hst : StI 63 w.drew F bs ks := ⟨H.out.drewN 1⟩
  have hbw : Below w.heap.size w w.drew := dBelow (Below.refl w.heap.size w) 1
  clear hi hz0 hz1 hz2 ji jz0 jz1 jz2
  go_enter Try.func23, Try.ntmps23
  go_wp2
  go_region_held3 (fun w' => w'.cell? ⟨F.g, 0, none⟩ = some (.slice (some ⟨F.gb, 0, none⟩) N F.cb) ∧ w'.cell? ⟨F.g, 1, none⟩ = some (.slice (some ⟨F.gk, 0, none⟩) m F.ck) ∧ StI 63 w' F bs ks ∧ Below w.heap.size w w')
    (first | exact keep4D _ (by assumption) (Nat.le_refl _) | exact keep4 _ (by assumption) (Nat.le_refl _) | exact keep4B (by assumption) (by assumption) (Nat.le_refl _) | go_keep)
    (first
      | (refine step_append_fresh (by rfl) (.tmp 3) (.tmp 7) 29 5 (by rfl) i0 (.int .u8 0) 1 Try.underlying29 I0.out.1 I0.out.2.1 I0.out.2.2.1 I0.out.2.2.2 rfl (by omega) _ (by rfl) F.gb N F.cb F.cb (bs.map (Value.int .u8)) (by rfl) ?_ (by rw [List.length_map]; exact HN.out) (by omega) (by omega) ?_; exact (St.b (StI.out (by go_split_ands; assumption))); intro capb w1 hrb hb; have RB := Lib.hid hrb; have hlb := Nat.le_trans (bsz (B := w.heap.size) (a := w) (by go_split_ands; assumption)) hb.size)
      | (refine step_append_fresh (by rfl) (.tmp 9) (.tmp 13) 61 3 (by rfl) i1 (.int .i64 0) 8 Try.underlying61 I1.out.1 I1.out.2.1 I1.out.2.2.1 I1.out.2.2.2 rfl (by omega) _ (by rfl) F.gk m F.ck F.ck (ks.map (Value.int .i64)) (by rfl) ?_ (by rw [List.length_map]; exact HM.out) (by omega) (by omega) ?_; exact (St.k (StI.out (by go_split_ands; assumption))); intro capk w1 hrk hb; have RK := Lib.hid hrk; have hlk := Nat.le_trans (bsz (B := w.heap.size) (a := w) (by go_split_ands; assumption)) hb.size))
  all_goals
    go_wp2
    go_ret
    go_split_ands
    refine ⟨_, rfl, ⟨_, _, _, _, _⟩, rfl, St.make ?_ ?_ H.out.rb H.out.rk H.out.ln H.out.l0 H.out.l1 N m HN.out HM.out, by assumption, ?_, ?_, ?_⟩
    · first | exact RB.out.at_ (by simp) | exact (RB.out.belowS (by assumption)).at_ (by simp) | exact ((RB.out.alloc _).belowS (by assumption)).at_ (by simp)
    · first | exact RK.out.at_ (by simp) | exact (RK.out.belowS (by assumption)).at_ (by simp) | exact ((RK.out.alloc _).belowS (by assumption)).at_ (by simp)
    all_goals (dsimp only; omega)

end Go.Proofs.Ytcollddpfahaaaa
