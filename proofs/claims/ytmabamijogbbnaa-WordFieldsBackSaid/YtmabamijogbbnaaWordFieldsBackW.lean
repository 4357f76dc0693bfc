/- THE WALK of WordFieldsBack: whatever the bytes, the index and the word, it returns true and writes nothing that was there. Conditions: none but that the slice reads as bytes. -/
import Derived.Test.YtmabamijogbbnaaWdK
import Derived.Test.YtmabamijogbbnaaWdC7
import Derived.Test.YtmabamijogbbnaaRow
import Derived.Test.YtmabamijogbbnaaQt
import Derived.OpenShut
namespace Go.Proofs.Ytmabamijogbbnaa
open Go.RowKit Go.ChangeShapes Go.WideShapes
set_option linter.unusedVariables false

theorem take_of_splice (L ys : List Int) (k : Nat) (hk : k ≤ L.length) : (splice L k ys).take k = L.take k := by
  unfold splice; exact List.take_left' (by rw [List.length_take]; omega)
theorem drop_of_splice (L ys : List Int) (k : Nat) (hk : k ≤ L.length) : (splice L k ys).drop (k + ys.length) = L.drop (k + ys.length) := by
  unfold splice
  have l1 : (L.take k).length = k := by rw [List.length_take]; omega
  rw [List.drop_append, List.drop_append, l1, List.drop_of_length_le (by omega), List.drop_of_length_le (by omega), Nat.add_sub_cancel_left, Nat.sub_self]
  simp
theorem full_back (zs : List Int) (len k : Nat) (v : Int) (hz : zs.length = len) (hk : k + 4 ≤ len) (h0 : 0 ≤ v) (h1 : v ≤ 4294967295) : fval len k (splice zs k (fby v)) = v := by
  have hf : fitB len k 4 = true := by unfold fitB; simp; omega
  have e0 := splice_getD_in zs (fby v) k 0 (by omega) (by simp [fby])
  have e1 := splice_getD_in zs (fby v) k 1 (by omega) (by simp [fby])
  have e2 := splice_getD_in zs (fby v) k 2 (by omega) (by simp [fby])
  have e3 := splice_getD_in zs (fby v) k 3 (by omega) (by simp [fby])
  unfold fval
  rw [if_pos hf, Int.toNat_natCast, e1, e2, e3]
  rw [Nat.add_zero] at e0
  rw [e0]
  show flv (v / 16777216 % 256) (v / 65536 % 256) (v / 256 % 256) (v % 256) = v
  unfold flv; omega
theorem half_back (zs : List Int) (len k : Nat) (v : Int) (hz : zs.length = len) (hk : k + 2 ≤ len) : sg (hval len k (splice zs k (hby v))) = sx16 (v % 65536) := by
  have hf : fitB len k 2 = true := by unfold fitB; simp; omega
  have e0 := splice_getD_in zs (hby v) k 0 (by omega) (by simp [hby])
  have e1 := splice_getD_in zs (hby v) k 1 (by omega) (by simp [hby])
  unfold hval
  rw [if_pos hf, Int.toNat_natCast, e1]
  rw [Nat.add_zero] at e0
  rw [e0]
  show sg (hfv (v / 256 % 256) (v % 256)) = _
  have e : v / 256 % 256 * 256 + v % 256 = v % 65536 := by omega
  unfold hfv; rw [e, sg_lo32]
  have := sx16_lo (v % 65536) (by omega); have := sx16_hi (v % 65536) (by omega)
  exact IntWalk.wrap32_in _ (by omega)
theorem hval_lo (len : Nat) (a : Int) (zs : List Int) : 0 ≤ hval len a zs := by
  unfold hval hfv; split
  · exact lo32_lo _
  · omega
theorem hval_hi (len : Nat) (a : Int) (zs : List Int) : hval len a zs ≤ 4294967295 := by
  unfold hval hfv; split
  · exact lo32_hi _
  · omega
theorem byt_none (w : World) (A : Option Addr) : Byt w A 0 [] := ⟨rfl, by simp, fun h => absurd h (by omega)⟩

theorem signed_q (H v : Int) (w : World) (a : Nat) (h0 : 0 ≤ H) (h1 : H ≤ 4294967295) (hv : sg H = v) :
    ∀ x, Calls Try.prog 30 #[.int .u32 H] (w.drewN (a + x)) fun e w'' => e = .returned (.int .i64 v) ∧ ∃ m, w'' = w.drewN (a + m) := by
  intro x
  rw [← hv]
  exact quiet_add_left (signed_c H h0 h1 _)
/-- 'same' of two heads, of two tails, inside a region that draws -/
theorem same_q (A : Option Addr) (n cap : Nat) (A' : Option Addr) (cap' : Nat) (zs zs' : List Int) (w : World) (a : Nat) (h : Byt w A n zs) (h' : Byt w A' n zs') (e : zs = zs') (hn : n ≤ 4096) :
    ∀ x, Calls Try.prog 43 #[.slice A n cap, .slice A' n cap'] (w.drewN (a + x)) fun e w'' => e = .returned (.bool true) ∧ ∃ m, w'' = w.drewN (a + m) := by
  intro x
  refine quiet_add (((same_c A n cap zs A' n cap' zs' _ (by exact h.drewN _) (by exact h'.drewN _) (by omega) (by omega))).mono ?_)
  rintro e2 w2 ⟨rfl, m, rfl⟩
  exact ⟨by simp [e], _, rfl⟩

set_option maxRecDepth 100000 in
set_option maxHeartbeats 4000000 in
theorem fb4a (a0 : Option Addr) (len0 cap0 k : Nat) (zs : List Int) (a2 : Int) (w : World) (hby : Byt w a0 len0 zs) (hnil : a0 = none → cap0 = 0) (hlc : len0 ≤ cap0) (hcm : cap0 ≤ 9223372036854775807) (hle1 : len0 ≤ 4096) (la2 : 0 ≤ a2) (ua2 : a2 ≤ 4294967295) (hk : k + 4 ≤ len0) (hlt : k + 4 < len0) :
    Calls Try.prog 8 #[.slice a0 len0 cap0, .int .i64 k, .int .u32 a2] w fun e w' => e = .returned (.bool true) ∧ Below w.heap.size w w' := by
  have hB := Lib.hid hby
  have hN := Lib.hid hnil
  have hZ := Lib.hid hby.1
  have hle : (len0 : Int) ≤ 4096 := by omega
  obtain ⟨b, off, hab, _⟩ := hby.at_ (by omega)
  subst hab
  clear hby hnil
  have i0 := sx16_lo (a2 % 65536) (by omega)
  have i1 := sx16_hi (a2 % 65536) (by omega)
  have eu16 := IntKind.wrap_u16 a2
  have ei16 := wrap_i16_sx (a2 % 65536) (by omega) (by omega)
  have kl : (k : Int) ≤ (len0 : Int) := by omega
  have kc0 : (k : Int) ≤ (cap0 : Int) := by omega
  have k4 : (k : Int) + 4 ≤ (len0 : Int) := by omega
  have kc04 : (k : Int) + 4 ≤ (cap0 : Int) := by omega
  have q3 : ¬ cap0 = k + 2 := by omega
  have q1 : (k : Int) + 4 < (cap0 : Int) := by omega
  have q2 : ¬ cap0 = k + 4 := by omega
  go_enter Try.func8, Try.ntmps8
  go_wp2_with (go_at_call 18; refine (works_c _).mono ?_; rintro e w1 ⟨rfl, hb⟩; have X1 := Lib.hid hb; clear hb)
  refine (putfull_yes (some ⟨b, off, none⟩) len0 cap0 k a2 zs _ (by omega) (by exact hB.out.keep X1.out) hN.out hk la2 ua2).mono ?_
  rintro e w2 ⟨v, rfl, hown, hbl⟩
  obtain ⟨g, c5, hv, g1, g2, g3, g4⟩ := hown.pos (by omega)
  unfold maxLen at g4
  rw [hv]
  rw [hv] at hown
  have O5 := Lib.hid hown
  have B5 := Lib.hid hbl
  clear hown hbl hv
  go_wp2_with fail
  refine (puthalf_yes (some ⟨b, off, none⟩) len0 cap0 k a2 zs _ (by omega) (by exact hB.out.keep (X1.out.trans (B5.out.mono X1.out.size))) hN.out (by omega) la2 ua2).mono ?_
  rintro e w3 ⟨v, rfl, hown, hbl⟩
  obtain ⟨g', c3, hv, g1', g2', g3', g4'⟩ := hown.pos (by omega)
  unfold maxLen at g4'
  rw [hv]
  rw [hv] at hown
  have O3 := Lib.hid hown
  have B3 := Lib.hid hbl
  clear hown hbl hv
  have PB := Lib.hid (hB.out.keep ((X1.out.trans (B5.out.mono X1.out.size)).trans (B3.out.mono (Nat.le_trans X1.out.size B5.out.size))))
  have PC := Lib.hid (O5.out.byt.keep B3.out)
  have PD := Lib.hid O3.out.byt
  have kc5 : (k : Int) ≤ (c5 : Int) := by omega
  have kc54 : (k : Int) + 4 ≤ (c5 : Int) := by omega
  have kc3 : (k : Int) ≤ (c3 : Int) := by omega
  have kc32 : (k : Int) + 2 ≤ (c3 : Int) := by omega
  have q5 : ¬ c3 = k + 2 := by omega
  have hval4 := full_back zs len0 k a2 hZ.out hk la2 ua2
  have hf4 : fitB len0 k 4 = true := by unfold fitB; simp; omega
  have hf2 : fitB len0 k 2 = true := by unfold fitB; simp; omega
  have hv2 := half_back zs len0 k a2 hZ.out (by omega)
  have hv0 := hval_lo len0 k (splice zs k (hby a2))
  have hv1 := hval_hi len0 k (splice zs k (hby a2))
  obtain ⟨H, hH⟩ : ∃ H, hval len0 k (splice zs k (hby a2)) = H := ⟨_, rfl⟩
  rw [hH] at hv2 hv0 hv1
  go_wp2_with fail
  refine (full_any (some ⟨g, 0, none⟩) len0 c5 k _ _ (by omega) (by exact PC.out) (by omega) (by omega)).mono ?_
  rintro e w4 ⟨rfl, n4, rfl⟩
  rw [hval4, hf4]
  have q4 : ¬ c5 = k + 4 := by omega
  have q6 : (k : Int) + 4 < (c5 : Int) := by omega
  have S1 := Lib.hid (same_q (some ⟨g, 0, none⟩) k c5 (some ⟨b, off, none⟩) cap0 _ _ w3 n4 (PC.out.pre k (by omega)) (PB.out.pre k (by omega)) (take_of_splice zs (fby a2) k (by rw [hZ.out]; omega)) (by omega))
  have S2 := Lib.hid (same_q (some ⟨g, k + 4, none⟩) (len0 - (k + 4)) (c5 - (k + 4)) (some ⟨b, off + (k + 4), none⟩) (cap0 - (k + 4)) _ _ w3 n4 (by have := PC.out.cut (k + 4) (by omega); rwa [Nat.zero_add] at this) (PB.out.cut (k + 4) (by omega)) (drop_of_splice zs (fby a2) k (by rw [hZ.out]; omega)) (by omega))
  go_wp2_with fail
  go_quiet ((first | (with_reducible exact S1.out _) | (with_reducible exact S2.out _)))
  go_wp2_with fail
  refine (half_any (some ⟨g', 0, none⟩) len0 c3 k _ _ (by omega) (by exact PD.out.drewN _) (by omega) (by omega)).mono ?_
  rintro e w5 ⟨rfl, n5, rfl⟩
  rw [hH, hf2]
  obtain ⟨N, hN2⟩ : ∃ N, n4 + nq + n5 = N := ⟨_, rfl⟩
  have S3 := Lib.hid (same_q (some ⟨g', 0, none⟩) k c3 (some ⟨b, off, none⟩) cap0 _ _ w3 N (PD.out.pre k (by omega)) (PB.out.pre k (by omega)) (take_of_splice zs (hby a2) k (by rw [hZ.out]; omega)) (by omega))
  have S4 := Lib.hid (same_q (some ⟨g', k + 2, none⟩) (len0 - (k + 2)) (c3 - (k + 2)) (some ⟨b, off + (k + 2), none⟩) (cap0 - (k + 2)) _ _ w3 N (by have := PD.out.cut (k + 2) (by omega); rwa [Nat.zero_add] at this) (PB.out.cut (k + 2) (by omega)) (drop_of_splice zs (hby a2) k (by rw [hZ.out]; omega)) (by omega))
  have SG := Lib.hid (signed_q H (sx16 (a2 % 65536)) w3 N hv0 hv1 hv2)
  subst hN2
  go_wp2_with fail
  go_quiet ((first | (with_reducible exact SG.out _) | (with_reducible exact S3.out _) | (with_reducible exact S4.out _)))
  go_wp2_with fail
  go_ret
  exact ⟨rfl, drewN_below (drewN_below ((X1.out.trans (B5.out.mono X1.out.size)).trans (B3.out.mono (Nat.le_trans X1.out.size B5.out.size))) _) _⟩

set_option maxRecDepth 100000 in
set_option maxHeartbeats 4000000 in
theorem fb4b (a0 : Option Addr) (len0 cap0 k : Nat) (zs : List Int) (a2 : Int) (w : World) (hby : Byt w a0 len0 zs) (hnil : a0 = none → cap0 = 0) (hlc : len0 ≤ cap0) (hcm : cap0 ≤ 9223372036854775807) (hle1 : len0 ≤ 4096) (la2 : 0 ≤ a2) (ua2 : a2 ≤ 4294967295) (hk : k + 4 ≤ len0) (hlt : len0 = k + 4) (hcap : cap0 = k + 4) :
    Calls Try.prog 8 #[.slice a0 len0 cap0, .int .i64 k, .int .u32 a2] w fun e w' => e = .returned (.bool true) ∧ Below w.heap.size w w' := by
  have hB := Lib.hid hby
  have hN := Lib.hid hnil
  have hZ := Lib.hid hby.1
  have hle : (len0 : Int) ≤ 4096 := by omega
  obtain ⟨b, off, hab, _⟩ := hby.at_ (by omega)
  subst hab
  clear hby hnil
  have i0 := sx16_lo (a2 % 65536) (by omega)
  have i1 := sx16_hi (a2 % 65536) (by omega)
  have eu16 := IntKind.wrap_u16 a2
  have ei16 := wrap_i16_sx (a2 % 65536) (by omega) (by omega)
  have kl : (k : Int) ≤ (len0 : Int) := by omega
  have kc0 : (k : Int) ≤ (cap0 : Int) := by omega
  have k4 : (k : Int) + 4 ≤ (len0 : Int) := by omega
  have kc04 : (k : Int) + 4 ≤ (cap0 : Int) := by omega
  have q3 : ¬ cap0 = k + 2 := by omega
  subst hcap
  subst hlt
  go_enter Try.func8, Try.ntmps8
  go_wp2_with (go_at_call 18; refine (works_c _).mono ?_; rintro e w1 ⟨rfl, hb⟩; have X1 := Lib.hid hb; clear hb)
  refine (putfull_yes (some ⟨b, off, none⟩) (k + 4) (k + 4) k a2 zs _ (by omega) (by exact hB.out.keep X1.out) hN.out hk la2 ua2).mono ?_
  rintro e w2 ⟨v, rfl, hown, hbl⟩
  obtain ⟨g, c5, hv, g1, g2, g3, g4⟩ := hown.pos (by omega)
  unfold maxLen at g4
  rw [hv]
  rw [hv] at hown
  have O5 := Lib.hid hown
  have B5 := Lib.hid hbl
  clear hown hbl hv
  go_wp2_with fail
  refine (puthalf_yes (some ⟨b, off, none⟩) (k + 4) (k + 4) k a2 zs _ (by omega) (by exact hB.out.keep (X1.out.trans (B5.out.mono X1.out.size))) hN.out (by omega) la2 ua2).mono ?_
  rintro e w3 ⟨v, rfl, hown, hbl⟩
  obtain ⟨g', c3, hv, g1', g2', g3', g4'⟩ := hown.pos (by omega)
  unfold maxLen at g4'
  rw [hv]
  rw [hv] at hown
  have O3 := Lib.hid hown
  have B3 := Lib.hid hbl
  clear hown hbl hv
  have PB := Lib.hid (hB.out.keep ((X1.out.trans (B5.out.mono X1.out.size)).trans (B3.out.mono (Nat.le_trans X1.out.size B5.out.size))))
  have PC := Lib.hid (O5.out.byt.keep B3.out)
  have PD := Lib.hid O3.out.byt
  have kc5 : (k : Int) ≤ (c5 : Int) := by omega
  have kc54 : (k : Int) + 4 ≤ (c5 : Int) := by omega
  have kc3 : (k : Int) ≤ (c3 : Int) := by omega
  have kc32 : (k : Int) + 2 ≤ (c3 : Int) := by omega
  have q5 : ¬ c3 = k + 2 := by omega
  have hval4 := full_back zs (k + 4) k a2 hZ.out hk la2 ua2
  have hf4 : fitB (k + 4) k 4 = true := by unfold fitB; simp
  have hf2 : fitB (k + 4) k 2 = true := by unfold fitB; simp; omega
  have hv2 := half_back zs (k + 4) k a2 hZ.out (by omega)
  have hv0 := hval_lo (k + 4) k (splice zs k (hby a2))
  have hv1 := hval_hi (k + 4) k (splice zs k (hby a2))
  obtain ⟨H, hH⟩ : ∃ H, hval (k + 4) k (splice zs k (hby a2)) = H := ⟨_, rfl⟩
  rw [hH] at hv2 hv0 hv1
  go_wp2_with fail
  refine (full_any (some ⟨g, 0, none⟩) (k + 4) c5 k _ _ (by omega) (by exact PC.out) (by omega) (by omega)).mono ?_
  rintro e w4 ⟨rfl, n4, rfl⟩
  rw [hval4, hf4]
  by_cases q4 : c5 = k + 4
  · subst q4
    have S1 := Lib.hid (same_q (some ⟨g, 0, none⟩) k (k + 4) (some ⟨b, off, none⟩) (k + 4) _ _ w3 n4 (PC.out.pre k (by omega)) (PB.out.pre k (by omega)) (take_of_splice zs (fby a2) k (by rw [hZ.out]; omega)) (by omega))
    have S2 := Lib.hid (fun (A A' : Option Addr) (c c' : Nat) => same_q A 0 c A' c' [] [] w3 n4 (byt_none _ _) (byt_none _ _) rfl (by omega))
    go_wp2_with fail
    go_quiet ((first | (with_reducible exact S1.out _) | (with_reducible exact S2.out _ _ _ _ _)))
    go_wp2_with fail
    refine (half_any (some ⟨g', 0, none⟩) (k + 4) c3 k _ _ (by omega) (by exact PD.out.drewN _) (by omega) (by omega)).mono ?_
    rintro e w5 ⟨rfl, n5, rfl⟩
    rw [hH, hf2]
    obtain ⟨N, hN2⟩ : ∃ N, n4 + nq + n5 = N := ⟨_, rfl⟩
    have S3 := Lib.hid (same_q (some ⟨g', 0, none⟩) k c3 (some ⟨b, off, none⟩) (k + 4) _ _ w3 N (PD.out.pre k (by omega)) (PB.out.pre k (by omega)) (take_of_splice zs (hby a2) k (by rw [hZ.out]; omega)) (by omega))
    have S4 := Lib.hid (same_q (some ⟨g', k + 2, none⟩) 2 (c3 - (k + 2)) (some ⟨b, off + (k + 2), none⟩) (2) _ _ w3 N (by have := PD.out.cut (k + 2) (by omega); rwa [Nat.zero_add, show k + 4 - (k + 2) = 2 from by omega] at this) (by have := PB.out.cut (k + 2) (by omega); rwa [show k + 4 - (k + 2) = 2 from by omega] at this) (drop_of_splice zs (hby a2) k (by rw [hZ.out]; omega)) (by omega))
    have SG := Lib.hid (signed_q H (sx16 (a2 % 65536)) w3 N hv0 hv1 hv2)
    subst hN2
    go_wp2_with fail
    go_quiet ((first | (with_reducible exact SG.out _) | (with_reducible exact S3.out _) | (with_reducible exact S4.out _)))
    go_wp2_with fail
    go_ret
    exact ⟨rfl, drewN_below (drewN_below ((X1.out.trans (B5.out.mono X1.out.size)).trans (B3.out.mono (Nat.le_trans X1.out.size B5.out.size))) _) _⟩
  · have q6 : (k : Int) + 4 < (c5 : Int) := by omega
    have S1 := Lib.hid (same_q (some ⟨g, 0, none⟩) k c5 (some ⟨b, off, none⟩) (k + 4) _ _ w3 n4 (PC.out.pre k (by omega)) (PB.out.pre k (by omega)) (take_of_splice zs (fby a2) k (by rw [hZ.out]; omega)) (by omega))
    have S2 := Lib.hid (fun (A A' : Option Addr) (c c' : Nat) => same_q A 0 c A' c' [] [] w3 n4 (byt_none _ _) (byt_none _ _) rfl (by omega))
    go_wp2_with fail
    go_quiet ((first | (with_reducible exact S1.out _) | (with_reducible exact S2.out _ _ _ _ _)))
    go_wp2_with fail
    refine (half_any (some ⟨g', 0, none⟩) (k + 4) c3 k _ _ (by omega) (by exact PD.out.drewN _) (by omega) (by omega)).mono ?_
    rintro e w5 ⟨rfl, n5, rfl⟩
    rw [hH, hf2]
    obtain ⟨N, hN2⟩ : ∃ N, n4 + nq + n5 = N := ⟨_, rfl⟩
    have S3 := Lib.hid (same_q (some ⟨g', 0, none⟩) k c3 (some ⟨b, off, none⟩) (k + 4) _ _ w3 N (PD.out.pre k (by omega)) (PB.out.pre k (by omega)) (take_of_splice zs (hby a2) k (by rw [hZ.out]; omega)) (by omega))
    have S4 := Lib.hid (same_q (some ⟨g', k + 2, none⟩) 2 (c3 - (k + 2)) (some ⟨b, off + (k + 2), none⟩) (2) _ _ w3 N (by have := PD.out.cut (k + 2) (by omega); rwa [Nat.zero_add, show k + 4 - (k + 2) = 2 from by omega] at this) (by have := PB.out.cut (k + 2) (by omega); rwa [show k + 4 - (k + 2) = 2 from by omega] at this) (drop_of_splice zs (hby a2) k (by rw [hZ.out]; omega)) (by omega))
    have SG := Lib.hid (signed_q H (sx16 (a2 % 65536)) w3 N hv0 hv1 hv2)
    subst hN2
    go_wp2_with fail
    go_quiet ((first | (with_reducible exact SG.out _) | (with_reducible exact S3.out _) | (with_reducible exact S4.out _)))
    go_wp2_with fail
    go_ret
    exact ⟨rfl, drewN_below (drewN_below ((X1.out.trans (B5.out.mono X1.out.size)).trans (B3.out.mono (Nat.le_trans X1.out.size B5.out.size))) _) _⟩

set_option maxRecDepth 100000 in
set_option maxHeartbeats 4000000 in
theorem fb4c (a0 : Option Addr) (len0 cap0 k : Nat) (zs : List Int) (a2 : Int) (w : World) (hby : Byt w a0 len0 zs) (hnil : a0 = none → cap0 = 0) (hlc : len0 ≤ cap0) (hcm : cap0 ≤ 9223372036854775807) (hle1 : len0 ≤ 4096) (la2 : 0 ≤ a2) (ua2 : a2 ≤ 4294967295) (hk : k + 4 ≤ len0) (hlt : len0 = k + 4) (hcap : k + 4 < cap0) :
    Calls Try.prog 8 #[.slice a0 len0 cap0, .int .i64 k, .int .u32 a2] w fun e w' => e = .returned (.bool true) ∧ Below w.heap.size w w' := by
  have hB := Lib.hid hby
  have hN := Lib.hid hnil
  have hZ := Lib.hid hby.1
  have hle : (len0 : Int) ≤ 4096 := by omega
  obtain ⟨b, off, hab, _⟩ := hby.at_ (by omega)
  subst hab
  clear hby hnil
  have i0 := sx16_lo (a2 % 65536) (by omega)
  have i1 := sx16_hi (a2 % 65536) (by omega)
  have eu16 := IntKind.wrap_u16 a2
  have ei16 := wrap_i16_sx (a2 % 65536) (by omega) (by omega)
  have kl : (k : Int) ≤ (len0 : Int) := by omega
  have kc0 : (k : Int) ≤ (cap0 : Int) := by omega
  have k4 : (k : Int) + 4 ≤ (len0 : Int) := by omega
  have kc04 : (k : Int) + 4 ≤ (cap0 : Int) := by omega
  have q3 : ¬ cap0 = k + 2 := by omega
  have q2 : ¬ cap0 = k + 4 := by omega
  subst hlt
  go_enter Try.func8, Try.ntmps8
  go_wp2_with (go_at_call 18; refine (works_c _).mono ?_; rintro e w1 ⟨rfl, hb⟩; have X1 := Lib.hid hb; clear hb)
  refine (putfull_yes (some ⟨b, off, none⟩) (k + 4) cap0 k a2 zs _ (by omega) (by exact hB.out.keep X1.out) hN.out hk la2 ua2).mono ?_
  rintro e w2 ⟨v, rfl, hown, hbl⟩
  obtain ⟨g, c5, hv, g1, g2, g3, g4⟩ := hown.pos (by omega)
  unfold maxLen at g4
  rw [hv]
  rw [hv] at hown
  have O5 := Lib.hid hown
  have B5 := Lib.hid hbl
  clear hown hbl hv
  go_wp2_with fail
  refine (puthalf_yes (some ⟨b, off, none⟩) (k + 4) cap0 k a2 zs _ (by omega) (by exact hB.out.keep (X1.out.trans (B5.out.mono X1.out.size))) hN.out (by omega) la2 ua2).mono ?_
  rintro e w3 ⟨v, rfl, hown, hbl⟩
  obtain ⟨g', c3, hv, g1', g2', g3', g4'⟩ := hown.pos (by omega)
  unfold maxLen at g4'
  rw [hv]
  rw [hv] at hown
  have O3 := Lib.hid hown
  have B3 := Lib.hid hbl
  clear hown hbl hv
  have PB := Lib.hid (hB.out.keep ((X1.out.trans (B5.out.mono X1.out.size)).trans (B3.out.mono (Nat.le_trans X1.out.size B5.out.size))))
  have PC := Lib.hid (O5.out.byt.keep B3.out)
  have PD := Lib.hid O3.out.byt
  have kc5 : (k : Int) ≤ (c5 : Int) := by omega
  have kc54 : (k : Int) + 4 ≤ (c5 : Int) := by omega
  have kc3 : (k : Int) ≤ (c3 : Int) := by omega
  have kc32 : (k : Int) + 2 ≤ (c3 : Int) := by omega
  have q5 : ¬ c3 = k + 2 := by omega
  have hval4 := full_back zs (k + 4) k a2 hZ.out hk la2 ua2
  have hf4 : fitB (k + 4) k 4 = true := by unfold fitB; simp
  have hf2 : fitB (k + 4) k 2 = true := by unfold fitB; simp; omega
  have hv2 := half_back zs (k + 4) k a2 hZ.out (by omega)
  have hv0 := hval_lo (k + 4) k (splice zs k (hby a2))
  have hv1 := hval_hi (k + 4) k (splice zs k (hby a2))
  obtain ⟨H, hH⟩ : ∃ H, hval (k + 4) k (splice zs k (hby a2)) = H := ⟨_, rfl⟩
  rw [hH] at hv2 hv0 hv1
  go_wp2_with fail
  refine (full_any (some ⟨g, 0, none⟩) (k + 4) c5 k _ _ (by omega) (by exact PC.out) (by omega) (by omega)).mono ?_
  rintro e w4 ⟨rfl, n4, rfl⟩
  rw [hval4, hf4]
  by_cases q4 : c5 = k + 4
  · subst q4
    have S1 := Lib.hid (same_q (some ⟨g, 0, none⟩) k (k + 4) (some ⟨b, off, none⟩) cap0 _ _ w3 n4 (PC.out.pre k (by omega)) (PB.out.pre k (by omega)) (take_of_splice zs (fby a2) k (by rw [hZ.out]; omega)) (by omega))
    have S2 := Lib.hid (fun (A A' : Option Addr) (c c' : Nat) => same_q A 0 c A' c' [] [] w3 n4 (byt_none _ _) (byt_none _ _) rfl (by omega))
    go_wp2_with fail
    go_quiet ((first | (with_reducible exact S1.out _) | (with_reducible exact S2.out _ _ _ _ _)))
    go_wp2_with fail
    refine (half_any (some ⟨g', 0, none⟩) (k + 4) c3 k _ _ (by omega) (by exact PD.out.drewN _) (by omega) (by omega)).mono ?_
    rintro e w5 ⟨rfl, n5, rfl⟩
    rw [hH, hf2]
    obtain ⟨N, hN2⟩ : ∃ N, n4 + nq + n5 = N := ⟨_, rfl⟩
    have S3 := Lib.hid (same_q (some ⟨g', 0, none⟩) k c3 (some ⟨b, off, none⟩) cap0 _ _ w3 N (PD.out.pre k (by omega)) (PB.out.pre k (by omega)) (take_of_splice zs (hby a2) k (by rw [hZ.out]; omega)) (by omega))
    have S4 := Lib.hid (same_q (some ⟨g', k + 2, none⟩) 2 (c3 - (k + 2)) (some ⟨b, off + (k + 2), none⟩) (cap0 - (k + 2)) _ _ w3 N (by have := PD.out.cut (k + 2) (by omega); rwa [Nat.zero_add, show k + 4 - (k + 2) = 2 from by omega] at this) (by have := PB.out.cut (k + 2) (by omega); rwa [show k + 4 - (k + 2) = 2 from by omega] at this) (drop_of_splice zs (hby a2) k (by rw [hZ.out]; omega)) (by omega))
    have SG := Lib.hid (signed_q H (sx16 (a2 % 65536)) w3 N hv0 hv1 hv2)
    subst hN2
    go_wp2_with fail
    go_quiet ((first | (with_reducible exact SG.out _) | (with_reducible exact S3.out _) | (with_reducible exact S4.out _)))
    go_wp2_with fail
    go_ret
    exact ⟨rfl, drewN_below (drewN_below ((X1.out.trans (B5.out.mono X1.out.size)).trans (B3.out.mono (Nat.le_trans X1.out.size B5.out.size))) _) _⟩
  · have q6 : (k : Int) + 4 < (c5 : Int) := by omega
    have S1 := Lib.hid (same_q (some ⟨g, 0, none⟩) k c5 (some ⟨b, off, none⟩) cap0 _ _ w3 n4 (PC.out.pre k (by omega)) (PB.out.pre k (by omega)) (take_of_splice zs (fby a2) k (by rw [hZ.out]; omega)) (by omega))
    have S2 := Lib.hid (fun (A A' : Option Addr) (c c' : Nat) => same_q A 0 c A' c' [] [] w3 n4 (byt_none _ _) (byt_none _ _) rfl (by omega))
    go_wp2_with fail
    go_quiet ((first | (with_reducible exact S1.out _) | (with_reducible exact S2.out _ _ _ _ _)))
    go_wp2_with fail
    refine (half_any (some ⟨g', 0, none⟩) (k + 4) c3 k _ _ (by omega) (by exact PD.out.drewN _) (by omega) (by omega)).mono ?_
    rintro e w5 ⟨rfl, n5, rfl⟩
    rw [hH, hf2]
    obtain ⟨N, hN2⟩ : ∃ N, n4 + nq + n5 = N := ⟨_, rfl⟩
    have S3 := Lib.hid (same_q (some ⟨g', 0, none⟩) k c3 (some ⟨b, off, none⟩) cap0 _ _ w3 N (PD.out.pre k (by omega)) (PB.out.pre k (by omega)) (take_of_splice zs (hby a2) k (by rw [hZ.out]; omega)) (by omega))
    have S4 := Lib.hid (same_q (some ⟨g', k + 2, none⟩) 2 (c3 - (k + 2)) (some ⟨b, off + (k + 2), none⟩) (cap0 - (k + 2)) _ _ w3 N (by have := PD.out.cut (k + 2) (by omega); rwa [Nat.zero_add, show k + 4 - (k + 2) = 2 from by omega] at this) (by have := PB.out.cut (k + 2) (by omega); rwa [show k + 4 - (k + 2) = 2 from by omega] at this) (drop_of_splice zs (hby a2) k (by rw [hZ.out]; omega)) (by omega))
    have SG := Lib.hid (signed_q H (sx16 (a2 % 65536)) w3 N hv0 hv1 hv2)
    subst hN2
    go_wp2_with fail
    go_quiet ((first | (with_reducible exact SG.out _) | (with_reducible exact S3.out _) | (with_reducible exact S4.out _)))
    go_wp2_with fail
    go_ret
    exact ⟨rfl, drewN_below (drewN_below ((X1.out.trans (B5.out.mono X1.out.size)).trans (B3.out.mono (Nat.le_trans X1.out.size B5.out.size))) _) _⟩

set_option maxRecDepth 100000 in
set_option maxHeartbeats 4000000 in
theorem fb2a (a0 : Option Addr) (len0 cap0 k : Nat) (zs : List Int) (a2 : Int) (w : World) (hby : Byt w a0 len0 zs) (hnil : a0 = none → cap0 = 0) (hlc : len0 ≤ cap0) (hcm : cap0 ≤ 9223372036854775807) (hle1 : len0 ≤ 4096) (la2 : 0 ≤ a2) (ua2 : a2 ≤ 4294967295)  (hlt : len0 = k + 3) :
    Calls Try.prog 8 #[.slice a0 len0 cap0, .int .i64 k, .int .u32 a2] w fun e w' => e = .returned (.bool true) ∧ Below w.heap.size w w' := by
  have hB := Lib.hid hby
  have hN := Lib.hid hnil
  have hZ := Lib.hid hby.1
  have hle : (len0 : Int) ≤ 4096 := by omega
  obtain ⟨b, off, hab, _⟩ := hby.at_ (by omega)
  subst hab
  clear hby hnil
  have i0 := sx16_lo (a2 % 65536) (by omega)
  have i1 := sx16_hi (a2 % 65536) (by omega)
  have eu16 := IntKind.wrap_u16 a2
  have ei16 := wrap_i16_sx (a2 % 65536) (by omega) (by omega)
  have kl : (k : Int) ≤ (len0 : Int) := by omega
  have kc0 : (k : Int) ≤ (cap0 : Int) := by omega
  have q2 : ¬ cap0 = k + 2 := by omega
  subst hlt
  have kc02 : (k : Int) + 2 ≤ ((cap0 : Nat) : Int) := by omega
  have hd4 : decide ((k : Int) ≤ (((k + 3) : Nat) : Int) - 4) = false := by simp; omega
  have hd5 : decide ((k : Int) ≤ (k : Int) + 3 - 4) = false := by simp; omega
  have hf4 : fitB (k + 3) k 4 = false := by unfold fitB; simp; omega
  go_enter Try.func8, Try.ntmps8
  go_wp2_with (go_at_call 18; refine (works_c _).mono ?_; rintro e w1 ⟨rfl, hb⟩; have X1 := Lib.hid hb; clear hb)
  refine (putfull_no (some ⟨b, off, none⟩) (k + 3) cap0 k a2 _ (by omega) (by omega) (by omega) hf4 la2 ua2).mono ?_
  rintro e w2 ⟨rfl, hbl⟩
  have B5 := Lib.hid hbl
  clear hbl
  go_wp2_with fail
  refine (puthalf_yes (some ⟨b, off, none⟩) (k + 3) cap0 k a2 zs _ (by omega) (by exact hB.out.keep (X1.out.trans (B5.out.mono X1.out.size))) hN.out (by omega) la2 ua2).mono ?_
  rintro e w3 ⟨v, rfl, hown, hbl⟩
  obtain ⟨g', c3, hv, g1', g2', g3', g4'⟩ := hown.pos (by omega)
  unfold maxLen at g4'
  rw [hv]
  rw [hv] at hown
  have O3 := Lib.hid hown
  have B3 := Lib.hid hbl
  clear hown hbl hv
  have PB := Lib.hid (hB.out.keep ((X1.out.trans (B5.out.mono X1.out.size)).trans (B3.out.mono (Nat.le_trans X1.out.size B5.out.size))))
  have PD := Lib.hid O3.out.byt
  have kc3 : (k : Int) ≤ (c3 : Int) := by omega
  have kc32 : (k : Int) + 2 ≤ (c3 : Int) := by omega
  have hf2 : fitB (k + 3) k 2 = true := by unfold fitB; simp; omega
  have hv2 := half_back zs (k + 3) k a2 hZ.out (by omega)
  have hv0 := hval_lo (k + 3) k (splice zs k (hby a2))
  have hv1 := hval_hi (k + 3) k (splice zs k (hby a2))
  obtain ⟨H, hH⟩ : ∃ H, hval (k + 3) k (splice zs k (hby a2)) = H := ⟨_, rfl⟩
  rw [hH] at hv2 hv0 hv1
  go_wp2_with fail
  refine (half_any (some ⟨g', 0, none⟩) (k + 3) c3 k _ _ (by omega) (by exact PD.out) (by omega) (by omega)).mono ?_
  rintro e w5 ⟨rfl, N, rfl⟩
  rw [hH, hf2]
  have q5 : ¬ c3 = k + 2 := by omega
  have S3 := Lib.hid (same_q (some ⟨g', 0, none⟩) k c3 (some ⟨b, off, none⟩) cap0 _ _ w3 N (PD.out.pre k (by omega)) (PB.out.pre k (by omega)) (take_of_splice zs (hby a2) k (by rw [hZ.out]; omega)) (by omega))
  have S4 := Lib.hid (same_q (some ⟨g', k + 2, none⟩) 1 (c3 - (k + 2)) (some ⟨b, off + (k + 2), none⟩) (cap0 - (k + 2)) _ _ w3 N (by have := PD.out.cut (k + 2) (by omega); rwa [Nat.zero_add, show k + 3 - (k + 2) = 1 from by omega] at this) (by have := PB.out.cut (k + 2) (by omega); rwa [show k + 3 - (k + 2) = 1 from by omega] at this) (drop_of_splice zs (hby a2) k (by rw [hZ.out]; omega)) (by omega))
  have SG := Lib.hid (signed_q H (sx16 (a2 % 65536)) w3 N hv0 hv1 hv2)
  go_wp2_with fail
  go_quiet ((first | (with_reducible exact SG.out _) | (with_reducible exact S3.out _) | (with_reducible exact S4.out _)))
  go_wp2_with fail
  go_ret
  exact ⟨rfl, drewN_below (drewN_below ((X1.out.trans (B5.out.mono X1.out.size)).trans (B3.out.mono (Nat.le_trans X1.out.size B5.out.size))) _) _⟩

set_option maxRecDepth 100000 in
set_option maxHeartbeats 4000000 in
theorem fb2b (a0 : Option Addr) (len0 cap0 k : Nat) (zs : List Int) (a2 : Int) (w : World) (hby : Byt w a0 len0 zs) (hnil : a0 = none → cap0 = 0) (hlc : len0 ≤ cap0) (hcm : cap0 ≤ 9223372036854775807) (hle1 : len0 ≤ 4096) (la2 : 0 ≤ a2) (ua2 : a2 ≤ 4294967295)  (hlt : len0 = k + 2) (hcap : cap0 = k + 2) :
    Calls Try.prog 8 #[.slice a0 len0 cap0, .int .i64 k, .int .u32 a2] w fun e w' => e = .returned (.bool true) ∧ Below w.heap.size w w' := by
  have hB := Lib.hid hby
  have hN := Lib.hid hnil
  have hZ := Lib.hid hby.1
  have hle : (len0 : Int) ≤ 4096 := by omega
  obtain ⟨b, off, hab, _⟩ := hby.at_ (by omega)
  subst hab
  clear hby hnil
  have i0 := sx16_lo (a2 % 65536) (by omega)
  have i1 := sx16_hi (a2 % 65536) (by omega)
  have eu16 := IntKind.wrap_u16 a2
  have ei16 := wrap_i16_sx (a2 % 65536) (by omega) (by omega)
  have kl : (k : Int) ≤ (len0 : Int) := by omega
  have kc0 : (k : Int) ≤ (cap0 : Int) := by omega
  subst hcap
  subst hlt
  have kc02 : (k : Int) + 2 ≤ (((k + 2 : Nat) : Int) : Int) := by omega
  have hd4 : decide ((k : Int) ≤ (((k + 2) : Nat) : Int) - 4) = false := by simp; omega
  have hd5 : decide ((k : Int) ≤ (k : Int) + 2 - 4) = false := by simp; omega
  have hf4 : fitB (k + 2) k 4 = false := by unfold fitB; simp; omega
  go_enter Try.func8, Try.ntmps8
  go_wp2_with (go_at_call 18; refine (works_c _).mono ?_; rintro e w1 ⟨rfl, hb⟩; have X1 := Lib.hid hb; clear hb)
  refine (putfull_no (some ⟨b, off, none⟩) (k + 2) (k + 2) k a2 _ (by omega) (by omega) (by omega) hf4 la2 ua2).mono ?_
  rintro e w2 ⟨rfl, hbl⟩
  have B5 := Lib.hid hbl
  clear hbl
  go_wp2_with fail
  refine (puthalf_yes (some ⟨b, off, none⟩) (k + 2) (k + 2) k a2 zs _ (by omega) (by exact hB.out.keep (X1.out.trans (B5.out.mono X1.out.size))) hN.out (by omega) la2 ua2).mono ?_
  rintro e w3 ⟨v, rfl, hown, hbl⟩
  obtain ⟨g', c3, hv, g1', g2', g3', g4'⟩ := hown.pos (by omega)
  unfold maxLen at g4'
  rw [hv]
  rw [hv] at hown
  have O3 := Lib.hid hown
  have B3 := Lib.hid hbl
  clear hown hbl hv
  have PB := Lib.hid (hB.out.keep ((X1.out.trans (B5.out.mono X1.out.size)).trans (B3.out.mono (Nat.le_trans X1.out.size B5.out.size))))
  have PD := Lib.hid O3.out.byt
  have kc3 : (k : Int) ≤ (c3 : Int) := by omega
  have kc32 : (k : Int) + 2 ≤ (c3 : Int) := by omega
  have hf2 : fitB (k + 2) k 2 = true := by unfold fitB; simp
  have hv2 := half_back zs (k + 2) k a2 hZ.out (by omega)
  have hv0 := hval_lo (k + 2) k (splice zs k (hby a2))
  have hv1 := hval_hi (k + 2) k (splice zs k (hby a2))
  obtain ⟨H, hH⟩ : ∃ H, hval (k + 2) k (splice zs k (hby a2)) = H := ⟨_, rfl⟩
  rw [hH] at hv2 hv0 hv1
  go_wp2_with fail
  refine (half_any (some ⟨g', 0, none⟩) (k + 2) c3 k _ _ (by omega) (by exact PD.out) (by omega) (by omega)).mono ?_
  rintro e w5 ⟨rfl, N, rfl⟩
  rw [hH, hf2]
  by_cases q5 : c3 = k + 2
  · subst q5
    have S3 := Lib.hid (same_q (some ⟨g', 0, none⟩) k (k + 2) (some ⟨b, off, none⟩) (k + 2) _ _ w3 N (PD.out.pre k (by omega)) (PB.out.pre k (by omega)) (take_of_splice zs (hby a2) k (by rw [hZ.out]; omega)) (by omega))
    have S4 := Lib.hid (fun (A A' : Option Addr) (c c' : Nat) => same_q A 0 c A' c' [] [] w3 N (byt_none _ _) (byt_none _ _) rfl (by omega))
    have SG := Lib.hid (signed_q H (sx16 (a2 % 65536)) w3 N hv0 hv1 hv2)
    go_wp2_with fail
    go_quiet ((first | (with_reducible exact SG.out _) | (with_reducible exact S3.out _) | (with_reducible exact S4.out _ _ _ _ _)))
    go_wp2_with fail
    go_ret
    exact ⟨rfl, drewN_below (drewN_below ((X1.out.trans (B5.out.mono X1.out.size)).trans (B3.out.mono (Nat.le_trans X1.out.size B5.out.size))) _) _⟩
  · have q6 : (k : Int) + 2 < (c3 : Int) := by omega
    have S3 := Lib.hid (same_q (some ⟨g', 0, none⟩) k c3 (some ⟨b, off, none⟩) (k + 2) _ _ w3 N (PD.out.pre k (by omega)) (PB.out.pre k (by omega)) (take_of_splice zs (hby a2) k (by rw [hZ.out]; omega)) (by omega))
    have S4 := Lib.hid (fun (A A' : Option Addr) (c c' : Nat) => same_q A 0 c A' c' [] [] w3 N (byt_none _ _) (byt_none _ _) rfl (by omega))
    have SG := Lib.hid (signed_q H (sx16 (a2 % 65536)) w3 N hv0 hv1 hv2)
    go_wp2_with fail
    go_quiet ((first | (with_reducible exact SG.out _) | (with_reducible exact S3.out _) | (with_reducible exact S4.out _ _ _ _ _)))
    go_wp2_with fail
    go_ret
    exact ⟨rfl, drewN_below (drewN_below ((X1.out.trans (B5.out.mono X1.out.size)).trans (B3.out.mono (Nat.le_trans X1.out.size B5.out.size))) _) _⟩

set_option maxRecDepth 100000 in
set_option maxHeartbeats 4000000 in
theorem fb2c (a0 : Option Addr) (len0 cap0 k : Nat) (zs : List Int) (a2 : Int) (w : World) (hby : Byt w a0 len0 zs) (hnil : a0 = none → cap0 = 0) (hlc : len0 ≤ cap0) (hcm : cap0 ≤ 9223372036854775807) (hle1 : len0 ≤ 4096) (la2 : 0 ≤ a2) (ua2 : a2 ≤ 4294967295)  (hlt : len0 = k + 2) (hcap : k + 2 < cap0) :
    Calls Try.prog 8 #[.slice a0 len0 cap0, .int .i64 k, .int .u32 a2] w fun e w' => e = .returned (.bool true) ∧ Below w.heap.size w w' := by
  have hB := Lib.hid hby
  have hN := Lib.hid hnil
  have hZ := Lib.hid hby.1
  have hle : (len0 : Int) ≤ 4096 := by omega
  obtain ⟨b, off, hab, _⟩ := hby.at_ (by omega)
  subst hab
  clear hby hnil
  have i0 := sx16_lo (a2 % 65536) (by omega)
  have i1 := sx16_hi (a2 % 65536) (by omega)
  have eu16 := IntKind.wrap_u16 a2
  have ei16 := wrap_i16_sx (a2 % 65536) (by omega) (by omega)
  have kl : (k : Int) ≤ (len0 : Int) := by omega
  have kc0 : (k : Int) ≤ (cap0 : Int) := by omega
  have q2 : ¬ cap0 = k + 2 := by omega
  subst hlt
  have kc02 : (k : Int) + 2 ≤ ((cap0 : Nat) : Int) := by omega
  have hd4 : decide ((k : Int) ≤ (((k + 2) : Nat) : Int) - 4) = false := by simp; omega
  have hd5 : decide ((k : Int) ≤ (k : Int) + 2 - 4) = false := by simp; omega
  have hf4 : fitB (k + 2) k 4 = false := by unfold fitB; simp; omega
  go_enter Try.func8, Try.ntmps8
  go_wp2_with (go_at_call 18; refine (works_c _).mono ?_; rintro e w1 ⟨rfl, hb⟩; have X1 := Lib.hid hb; clear hb)
  refine (putfull_no (some ⟨b, off, none⟩) (k + 2) cap0 k a2 _ (by omega) (by omega) (by omega) hf4 la2 ua2).mono ?_
  rintro e w2 ⟨rfl, hbl⟩
  have B5 := Lib.hid hbl
  clear hbl
  go_wp2_with fail
  refine (puthalf_yes (some ⟨b, off, none⟩) (k + 2) cap0 k a2 zs _ (by omega) (by exact hB.out.keep (X1.out.trans (B5.out.mono X1.out.size))) hN.out (by omega) la2 ua2).mono ?_
  rintro e w3 ⟨v, rfl, hown, hbl⟩
  obtain ⟨g', c3, hv, g1', g2', g3', g4'⟩ := hown.pos (by omega)
  unfold maxLen at g4'
  rw [hv]
  rw [hv] at hown
  have O3 := Lib.hid hown
  have B3 := Lib.hid hbl
  clear hown hbl hv
  have PB := Lib.hid (hB.out.keep ((X1.out.trans (B5.out.mono X1.out.size)).trans (B3.out.mono (Nat.le_trans X1.out.size B5.out.size))))
  have PD := Lib.hid O3.out.byt
  have kc3 : (k : Int) ≤ (c3 : Int) := by omega
  have kc32 : (k : Int) + 2 ≤ (c3 : Int) := by omega
  have hf2 : fitB (k + 2) k 2 = true := by unfold fitB; simp
  have hv2 := half_back zs (k + 2) k a2 hZ.out (by omega)
  have hv0 := hval_lo (k + 2) k (splice zs k (hby a2))
  have hv1 := hval_hi (k + 2) k (splice zs k (hby a2))
  obtain ⟨H, hH⟩ : ∃ H, hval (k + 2) k (splice zs k (hby a2)) = H := ⟨_, rfl⟩
  rw [hH] at hv2 hv0 hv1
  go_wp2_with fail
  refine (half_any (some ⟨g', 0, none⟩) (k + 2) c3 k _ _ (by omega) (by exact PD.out) (by omega) (by omega)).mono ?_
  rintro e w5 ⟨rfl, N, rfl⟩
  rw [hH, hf2]
  by_cases q5 : c3 = k + 2
  · subst q5
    have S3 := Lib.hid (same_q (some ⟨g', 0, none⟩) k (k + 2) (some ⟨b, off, none⟩) cap0 _ _ w3 N (PD.out.pre k (by omega)) (PB.out.pre k (by omega)) (take_of_splice zs (hby a2) k (by rw [hZ.out]; omega)) (by omega))
    have S4 := Lib.hid (fun (A A' : Option Addr) (c c' : Nat) => same_q A 0 c A' c' [] [] w3 N (byt_none _ _) (byt_none _ _) rfl (by omega))
    have SG := Lib.hid (signed_q H (sx16 (a2 % 65536)) w3 N hv0 hv1 hv2)
    go_wp2_with fail
    go_quiet ((first | (with_reducible exact SG.out _) | (with_reducible exact S3.out _) | (with_reducible exact S4.out _ _ _ _ _)))
    go_wp2_with fail
    go_ret
    exact ⟨rfl, drewN_below (drewN_below ((X1.out.trans (B5.out.mono X1.out.size)).trans (B3.out.mono (Nat.le_trans X1.out.size B5.out.size))) _) _⟩
  · have q6 : (k : Int) + 2 < (c3 : Int) := by omega
    have S3 := Lib.hid (same_q (some ⟨g', 0, none⟩) k c3 (some ⟨b, off, none⟩) cap0 _ _ w3 N (PD.out.pre k (by omega)) (PB.out.pre k (by omega)) (take_of_splice zs (hby a2) k (by rw [hZ.out]; omega)) (by omega))
    have S4 := Lib.hid (fun (A A' : Option Addr) (c c' : Nat) => same_q A 0 c A' c' [] [] w3 N (byt_none _ _) (byt_none _ _) rfl (by omega))
    have SG := Lib.hid (signed_q H (sx16 (a2 % 65536)) w3 N hv0 hv1 hv2)
    go_wp2_with fail
    go_quiet ((first | (with_reducible exact SG.out _) | (with_reducible exact S3.out _) | (with_reducible exact S4.out _ _ _ _ _)))
    go_wp2_with fail
    go_ret
    exact ⟨rfl, drewN_below (drewN_below ((X1.out.trans (B5.out.mono X1.out.size)).trans (B3.out.mono (Nat.le_trans X1.out.size B5.out.size))) _) _⟩

set_option maxRecDepth 100000 in
set_option maxHeartbeats 4000000 in
theorem fb0a (a0 : Option Addr) (len0 cap0 : Nat) (a1 a2 : Int) (w : World) (hle1 : len0 ≤ 4096) (la1 : -9223372036854775808 ≤ a1) (ua1 : a1 ≤ 9223372036854775807) (la2 : 0 ≤ a2) (ua2 : a2 ≤ 4294967295) (h : a1 < 0) :
    Calls Try.prog 8 #[.slice a0 len0 cap0, .int .i64 a1, .int .u32 a2] w fun e w' => e = .returned (.bool true) ∧ Below w.heap.size w w' := by
  have hle : (len0 : Int) ≤ 4096 := by omega
  have hf4 : fitB len0 a1 4 = false := by unfold fitB; simp; omega
  have hf2 : fitB len0 a1 2 = false := by unfold fitB; simp; omega
  have d0 : decide (0 ≤ a1) = false := by simp; omega
  go_enter Try.func8, Try.ntmps8
  go_wp2_with (go_at_call 18; refine (works_c _).mono ?_; rintro e w1 ⟨rfl, hb⟩; have X1 := Lib.hid hb; clear hb)
  refine (putfull_no a0 len0 cap0 a1 a2 _ (by omega) la1 ua1 hf4 la2 ua2).mono ?_
  rintro e w2 ⟨rfl, hbl⟩
  have B5 := Lib.hid hbl
  clear hbl
  go_wp2_with fail
  refine (puthalf_no a0 len0 cap0 a1 a2 _ (by omega) la1 ua1 hf2 la2 ua2).mono ?_
  rintro e w3 ⟨rfl, hbl⟩
  have B3 := Lib.hid hbl
  clear hbl
  go_wp2_with fail
  go_ret
  exact ⟨rfl, (X1.out.trans (B5.out.mono X1.out.size)).trans (B3.out.mono (Nat.le_trans X1.out.size B5.out.size))⟩

set_option maxRecDepth 100000 in
set_option maxHeartbeats 4000000 in
theorem fb0b (a0 : Option Addr) (len0 cap0 : Nat) (a1 a2 : Int) (w : World) (hle1 : len0 ≤ 4096) (la1 : -9223372036854775808 ≤ a1) (ua1 : a1 ≤ 9223372036854775807) (la2 : 0 ≤ a2) (ua2 : a2 ≤ 4294967295) (h : (len0 : Int) - 2 < a1) :
    Calls Try.prog 8 #[.slice a0 len0 cap0, .int .i64 a1, .int .u32 a2] w fun e w' => e = .returned (.bool true) ∧ Below w.heap.size w w' := by
  have hle : (len0 : Int) ≤ 4096 := by omega
  have hf4 : fitB len0 a1 4 = false := by unfold fitB; simp; omega
  have hf2 : fitB len0 a1 2 = false := by unfold fitB; simp; omega
  by_cases hs : 0 ≤ a1
  · have d1 : decide (a1 ≤ (len0 : Int) - 4) = false := by simp; omega
    have d2 : decide (a1 ≤ (len0 : Int) - 2) = false := by simp; omega
    go_enter Try.func8, Try.ntmps8
    go_wp2_with (go_at_call 18; refine (works_c _).mono ?_; rintro e w1 ⟨rfl, hb⟩; have X1 := Lib.hid hb; clear hb)
    refine (putfull_no a0 len0 cap0 a1 a2 _ (by omega) la1 ua1 hf4 la2 ua2).mono ?_
    rintro e w2 ⟨rfl, hbl⟩
    have B5 := Lib.hid hbl
    clear hbl
    go_wp2_with fail
    refine (puthalf_no a0 len0 cap0 a1 a2 _ (by omega) la1 ua1 hf2 la2 ua2).mono ?_
    rintro e w3 ⟨rfl, hbl⟩
    have B3 := Lib.hid hbl
    clear hbl
    go_wp2_with fail
    go_ret
    exact ⟨rfl, (X1.out.trans (B5.out.mono X1.out.size)).trans (B3.out.mono (Nat.le_trans X1.out.size B5.out.size))⟩
  · have d0 : decide (0 ≤ a1) = false := by simp; omega
    have hn : a1 < 0 := by omega
    clear h
    go_enter Try.func8, Try.ntmps8
    go_wp2_with (go_at_call 18; refine (works_c _).mono ?_; rintro e w1 ⟨rfl, hb⟩; have X1 := Lib.hid hb; clear hb)
    refine (putfull_no a0 len0 cap0 a1 a2 _ (by omega) la1 ua1 hf4 la2 ua2).mono ?_
    rintro e w2 ⟨rfl, hbl⟩
    have B5 := Lib.hid hbl
    clear hbl
    go_wp2_with fail
    refine (puthalf_no a0 len0 cap0 a1 a2 _ (by omega) la1 ua1 hf2 la2 ua2).mono ?_
    rintro e w3 ⟨rfl, hbl⟩
    have B3 := Lib.hid hbl
    clear hbl
    go_wp2_with fail
    go_ret
    exact ⟨rfl, (X1.out.trans (B5.out.mono X1.out.size)).trans (B3.out.mono (Nat.le_trans X1.out.size B5.out.size))⟩

set_option maxRecDepth 100000 in
set_option maxHeartbeats 1000000 in
theorem fbbig (a0 : Option Addr) (len0 cap0 : Nat) (a1 a2 : Int) (w : World) (h : 4096 < len0) :
    Calls Try.prog 8 #[.slice a0 len0 cap0, .int .i64 a1, .int .u32 a2] w fun e w' => e = .returned (.bool true) ∧ Below w.heap.size w w' := by
  have hb1 : (4096 : Int) < (len0 : Int) := by omega
  go_enter Try.func8, Try.ntmps8
  go_wp2_with (go_at_call 18; refine (works_c _).mono ?_; rintro e w1 ⟨rfl, hb⟩)
  go_ret
  exact ⟨rfl, hb⟩

theorem wordFieldsBack_walk (a0 : Option Addr) (len0 cap0 : Nat) (z0 : List Int) (a1 a2 : Int) (w : World) (w0 : IsRow .u8 w a0 len0 cap0 z0) (w1 : (Lit.int .i64 a1).wf = true) (w2 : (Lit.int .u32 a2).wf = true) :
    Calls Try.prog 8 #[.slice a0 len0 cap0, .int .i64 a1, .int .u32 a2] w fun e w' => e = .returned (.bool true) ∧ Below w.heap.size w w' := by
  obtain ⟨hby, hnil, hlc, hcm⟩ := row_byt w0
  have la1 := (bounds_i64 w1).1
  have ua1 := (bounds_i64 w1).2
  have la2 := (bounds_u32 w2).1
  have ua2 := (bounds_u32 w2).2
  unfold maxLen at hcm
  by_cases hbig : 4096 < len0
  · exact fbbig a0 len0 cap0 a1 a2 w hbig
  · by_cases hneg : a1 < 0
    · exact fb0a a0 len0 cap0 a1 a2 w (by omega) la1 ua1 la2 ua2 hneg
    · by_cases hfar : (len0 : Int) - 2 < a1
      · exact fb0b a0 len0 cap0 a1 a2 w (by omega) la1 ua1 la2 ua2 hfar
      · obtain ⟨k, rfl⟩ := Int.eq_ofNat_of_zero_le (show 0 ≤ a1 by omega)
        by_cases h4 : k + 4 < len0
        · exact fb4a a0 len0 cap0 k _ a2 w hby hnil hlc (by omega) (by omega) la2 ua2 (by omega) h4
        · by_cases h4e : len0 = k + 4
          · by_cases hc : cap0 = k + 4
            · exact fb4b a0 len0 cap0 k _ a2 w hby hnil hlc (by omega) (by omega) la2 ua2 (by omega) h4e hc
            · exact fb4c a0 len0 cap0 k _ a2 w hby hnil hlc (by omega) (by omega) la2 ua2 (by omega) h4e (by omega)
          · by_cases h3 : len0 = k + 3
            · exact fb2a a0 len0 cap0 k _ a2 w hby hnil hlc (by omega) (by omega) la2 ua2 h3
            · have h2 : len0 = k + 2 := by omega
              by_cases hc : cap0 = k + 2
              · exact fb2b a0 len0 cap0 k _ a2 w hby hnil hlc (by omega) (by omega) la2 ua2 h2 hc
              · exact fb2c a0 len0 cap0 k _ a2 w hby hnil hlc (by omega) (by omega) la2 ua2 h2 (by omega)
end Go.Proofs.Ytmabamijogbbnaa
