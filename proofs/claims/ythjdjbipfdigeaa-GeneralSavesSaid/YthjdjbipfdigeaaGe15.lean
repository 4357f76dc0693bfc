/- CONTRACTS: count; append of a word's bytes. Conditions: the machine's form. -/
import Derived.Test.YthjdjbipfdigeaaGe14
namespace Go.Proofs.Ythjdjbipfdigeaa
open Go.RowKit
set_option maxRecDepth 100000
set_option linter.unusedVariables false
set_option linter.unusedSimpArgs false
/-- APPEND of bytes onto the call's own, as one operation -/
theorem wp_append_b {w : World} {o : Oper} {a : Act} {K : Act → World → Prop} {Q : Exit → Act → World → Prop} (s x : Operand)
    (ho : o.op = .call { callee := .builtin .append, args := #[s, x], argTypes := #[31, 31] })
    (base : Nat) (v : Value) (n : Nat) (zs : List Int) (hs : a.eval s = v) (hown : Own w base v n zs)
    (b off m c : Nat) (ys : List Int) (hx : a.eval x = .slice (some ⟨b, off, none⟩) m c) (hy : Byt w (some ⟨b, off, none⟩) m ys) (h63 : n + m ≤ 140737488355328) (hbase : base ≤ w.heap.size)
    (h : ∀ v' w', Own w' base v' (n + m) (zs ++ ys) → w.grownBy w' v.ownBlock → K (a.put o.dst v') w') : Oper.wp Try.prog o a w K Q := by
  obtain ⟨i0, hi, hz0, hz1, hz2⟩ := info_parts info_u8
  refine wp_append_own w s x 31 ho base 5 i0 (.int .u8 0) 1 1 Try.underlying31 hi hz0 hz1 hz2 rfl (by decide) v n _ hs hown.1 ⟨b, off, none⟩ m c (ys.map (Value.int .u8)) hx (by simp [hy.1]) ?_ (by simp [Value.oneCell']) (by unfold maxLen; omega) (by omega) hbase ?_
  · intro j u hu
    have hj : j < ys.length := by
      rcases Nat.lt_or_ge j ys.length with h1 | h1
      · exact h1
      · rw [List.getElem?_eq_none (by simpa using h1)] at hu; cases hu
    have h2 := hy.cells (by rw [← hy.1]; omega) j u hu
    exact h2
  · intro v' w' h1 h2 _
    refine h v' w' ⟨by simpa using h1, ?_⟩ h2
    intro z hz
    rcases List.mem_append.mp hz with hz | hz
    · exact hown.2 z hz
    · exact hy.2.1 z hz
set_option maxRecDepth 1000000 in
set_option maxHeartbeats 4000000 in
theorem count_m (g n m : Nat) (is os rs : List Int) (ps : List Value) (s : Value) (ov : Bool) (w : World) (hm : Mc w g is os rs ps s ov) (hn : is.getD 2 0 = (n : Int)) (hn16 : n < 16) (hk : is.getD 3 0 = (m : Int)) (hk16 : m < 16) : Calls Try.prog 69 #[.pointer (some ⟨g, 0, none⟩)] w fun e w' => e = .returned (.int .i64 (((m + 16 - n) % 16 + 1 : Nat) : Int)) ∧ ∃ d, w' = w.drewN d := by
  have c2 := hm.ci (c := 2) (by omega)
  rw [hn] at c2
  have c3 := hm.ci (c := 3) (by omega)
  rw [hk] at c3
  have i0 : (0 : Int) ≤ (m : Int) - (n : Int) + 16 := by omega
  have i1 : (m : Int) - (n : Int) + 16 ≤ 31 := by omega
  have e1 : ((m : Int) - (n : Int)) % 16 + 1 = (((m + 16 - n) % 16 + 1 : Nat) : Int) := by omega
  clear hm hn hk
  go_enter Try.func69, Try.ntmps69
  go_upto_region 1 with fail
  go_region
  go_wp2
  go_ret
  exact ⟨by first | rfl | (rw [← e1]; rfl), 1, rfl⟩
/-- a word's bytes; the bytes of k registers from a register on -/
def fb (v : Int) : List Int := [v / 16777216, v / 65536 % 256, v / 256 % 256, v % 256]
def stB (os : List Int) (n : Nat) : Nat → List Int
  | 0 => []
  | k + 1 => stB os n k ++ fb (os.getD ((n + k) % 16) 0)
theorem stB_len (os : List Int) (n : Nat) : ∀ k, (stB os n k).length = 4 * k
  | 0 => rfl
  | k + 1 => by simp only [stB, List.length_append, stB_len os n k]; rfl
theorem fb_in {v : Int} (h0 : 0 ≤ v) (h1 : v ≤ 4294967295) : ∀ z ∈ fb v, 0 ≤ z ∧ z ≤ 255 := by
  intro z hz; simp [fb] at hz; omega
set_option maxRecDepth 1000000 in
set_option maxHeartbeats 4000000 in
theorem move_stm (g n m : Nat) (F : Foot) (is os rs : List Int) (ps : List Value) (ov : Bool) (bs ks : List Int) (key a : Int) (w : World) (h : MS w g F is os rs ps ov bs ks) (h0 : is.getD 0 0 = 144) (hn : is.getD 2 0 = (n : Int)) (hn16 : n < 16) (hk : is.getD 3 0 = (m : Int)) (hk16 : m < 16) (ro : ∀ z ∈ os, 0 ≤ z ∧ z ≤ 4294967295) (hkey : ps.getD 1 undef = .int .i64 key) (hsec : ∀ W, MS W g F is os rs ps ov bs ks → Calls Try.prog 44 #[.pointer (some ⟨g, 0, none⟩)] W fun e w' => e = .returned (.int .i64 a) ∧ Ch W w' []) (ha0 : 0 ≤ a) (ha1 : a ≤ 16777215) (ha : a % 4 = 0) (hc : sCode (alP key) bs.length ks a ((4 * ((m + 16 - n) % 16 + 1) : Nat) : Int) = 0) : Calls Try.prog 45 #[.pointer (some ⟨g, 0, none⟩)] w fun e w' => e = .returned (.tuple #[]) ∧ MS w' g F is os rs ps ov (sPut (alP key) bs ks a (stB os n ((m + 16 - n) % 16 + 1))) ks ∧ Ch w w' [F.gb] := by
  have c0 := h.m.ci (c := 0) (by omega)
  rw [h0] at c0
  have c2 := h.m.ci (c := 2) (by omega)
  rw [hn] at c2
  have c4 := h.m.co hn16
  have i0 : (n : Int) < 16 := by omega
  have i1 : (0 : Int) ≤ (n : Int) := by omega
  obtain ⟨C, hC⟩ : ∃ C, (m + 16 - n) % 16 + 1 = C := ⟨_, rfl⟩
  have hC16 : C ≤ 16 := by omega
  have hC1 : 1 ≤ C := by omega
  have CM := Lib.hid (fun (W : World) (h : Mc W g is os rs ps (.pointer (some ⟨F.g, 0, none⟩)) ov) => count_m g n m is os rs ps _ ov W h hn hn16 hk hk16)
  simp only [hC] at CM hc ⊢
  have HM := Lib.hid h
  have HN := Lib.hid hn
  have RO := Lib.hid ro
  have SC := Lib.hid hsec
  have HK := Lib.hid hkey
  have HC := Lib.hid hc
  clear h h0 hn hk ro hkey hsec hc hC
  go_enter Try.func45, Try.ntmps45
  go_upto_region 0 with fail
  go_region
  go_upto_region 13 with fail
  obtain ⟨W0, hW0⟩ : ∃ W0, w.drew = W0 := ⟨_, rfl⟩
  have M0 := Lib.hid (show MS w.drew g F is os rs ps ov bs ks from HM.out.drewN 1)
  have C0 := Lib.hid (show Ch w w.drew [F.gb] from (Ch.refl w [F.gb]).drewN 1)
  rw [hW0] at M0 C0
  rw [hW0]
  clear hW0 c0 c2 c4 HM
  go_loopw [3, 4] (fun bv x W => ∃ k : Nat, k ≤ C ∧ x = .int .i64 (k : Int) ∧ Own W W0.heap.size bv (4 * k) (stB os n k) ∧ Below W0.heap.size W0 W) (fun _ x _ => C - (intOf x).toNat)
  case atStart => exact ⟨0, by omega, rfl, Own.nil _ _, Below.refl _ _⟩
  case round =>
    obtain ⟨k, hk, rfl, ho, hb⟩ := hrel
    have MW := Lib.hid (M0.out.keep hb)
    have HB := Lib.hid hb
    have HO := Lib.hid ho
    clear ho hb
    by_cases hlt : k < C
    · have hI : (k : Int) < (C : Int) := by omega
      obtain ⟨q, hq⟩ : ∃ q, (n + k) % 16 = q := ⟨_, rfl⟩
      have hm16 : q < 16 := by omega
      have hrem : ((n : Int) + (k : Int)) % 16 = (q : Int) := by omega
      have hr1 : (0 : Int) ≤ (n : Int) + (k : Int) := by omega
      have hr2 : (n : Int) + (k : Int) ≤ 31 := by omega
      have hwr : IntKind.i64.wrap ((n : Int) + (k : Int)) = (n : Int) + (k : Int) := wrap_i64_id (by omega) (by omega)
      have hrem2 : ((n : Int) + (k : Int)).tmod 16 = (q : Int) := by rw [Int.tmod_eq_emod_of_nonneg hr1]; exact hrem
      have hr3 : (q : Int) < 16 := by omega
      have hr4 : (0 : Int) ≤ (q : Int) := by omega
      have HQ := Lib.hid hq
      clear hq
      obtain ⟨v, hv⟩ : ∃ v, os.getD q 0 = v := ⟨_, rfl⟩
      have v01 : 0 ≤ v ∧ v ≤ 4294967295 := by rw [← hv]; exact getD_in RO.out _
      obtain ⟨v0, v1⟩ := v01
      have HV := Lib.hid hv
      clear hv
      go_upto_region 15 with (go_at_call 69; refine (CM.out _ MW.out.m).mono ?_; rintro e w3 ⟨rfl, d3, hw3⟩; have M3 := Lib.hid (show MS w3 g F is os rs ps ov bs ks from by rw [hw3]; exact MW.out.drewN d3); have B3 := Lib.hid (show Below W0.heap.size W0 w3 from by rw [hw3]; exact dBelow' HB.out d3); have O3 := Lib.hid (show Own w3 W0.heap.size u3 (4 * k) (stB os n k) from by rw [hw3]; exact HO.out.drewN d3); clear hw3)
      refine wp_region_held_drew (S := (fun w' => Mc w' g is os rs ps (.pointer (some ⟨F.g, 0, none⟩)) ov ∧ Below W0.heap.size W0 w')) (by kernel_rfl) ?_ (fun hHeld => ?_)
      · (try dsimp only); exact ⟨M3.out.m.drewN 1, dBelow' B3.out 1⟩
      refine' takeL (i := 0) (v := _) rfl (by kernel_rfl) (by kernel_rfl) (by kernel_rfl) (fun _ _ _ h => h) (Or.inl ⟨by rfl, ?yy29⟩) (by assumption) ?rr29
      case yy29 => intro w hSw; (try dsimp only at hSw); go_simp; (try with_reducible rfl)
      try simp only [Act.put, List.setIfInBounds_toArray, List.set_cons_zero, List.set_cons_succ]
      refine' takeL (i := 1) (v := _) rfl (by kernel_rfl) (by kernel_rfl) (by kernel_rfl) (fun _ _ _ h => h) (Or.inl ⟨by rfl, ?yy30⟩) (by assumption) ?rr30
      case yy30 => intro w hSw; (try dsimp only at hSw); go_simp; (try with_reducible rfl)
      try simp only [Act.put, List.setIfInBounds_toArray, List.set_cons_zero, List.set_cons_succ]
      refine' takeL (i := 2) (v := _) rfl (by kernel_rfl) (by kernel_rfl) (by kernel_rfl) (fun _ _ _ h => h) (Or.inl ⟨by rfl, ?yy31⟩) (by assumption) ?rr31
      case yy31 => intro w hSw; (try dsimp only at hSw); go_simp; (try with_reducible rfl)
      try simp only [Act.put, List.setIfInBounds_toArray, List.set_cons_zero, List.set_cons_succ]
      refine' takeL (i := 3) (v := _) rfl (by kernel_rfl) (by kernel_rfl) (by kernel_rfl) (fun _ _ _ h => h) (Or.inl ⟨by rfl, ?yy32⟩) (by assumption) ?rr32
      case yy32 => intro w hSw; (try dsimp only at hSw); go_simp; (try with_reducible rfl)
      try simp only [Act.put, List.setIfInBounds_toArray, List.set_cons_zero, List.set_cons_succ]
      refine' takeL (i := 4) (v := _) rfl (by kernel_rfl) (by kernel_rfl) (by kernel_rfl) (fun _ _ _ h => h) (Or.inl ⟨by rfl, ?yy33⟩) (by assumption) ?rr33
      case yy33 => intro w hSw; (try dsimp only at hSw); go_simp; (try with_reducible rfl)
      try simp only [Act.put, List.setIfInBounds_toArray, List.set_cons_zero, List.set_cons_succ]
      refine' takeL (i := 5) (v := _) rfl (by kernel_rfl) (by kernel_rfl) (by kernel_rfl) (fun _ _ _ h => h) (Or.inl ⟨by rfl, ?yy34⟩) (by assumption) ?rr34
      case yy34 => intro w hSw; (try dsimp only at hSw); go_simp; (try with_reducible rfl)
      try simp only [Act.put, List.setIfInBounds_toArray, List.set_cons_zero, List.set_cons_succ]
      refine' takeL (i := 6) (v := .int .i64 (n : Int)) rfl (by kernel_rfl) (by kernel_rfl) (by kernel_rfl) (fun _ _ _ h => h) (Or.inl ⟨by rfl, ?yy35⟩) (by assumption) ?rr35
      case yy35 => intro w hSw; (try dsimp only at hSw); have hq := hSw.1.ci (c := 2) (by omega); rw [HN.out] at hq; go_simp; (try with_reducible rfl)
      try simp only [Act.put, List.setIfInBounds_toArray, List.set_cons_zero, List.set_cons_succ]
      refine' takeL (i := 7) (v := _) rfl (by kernel_rfl) (by kernel_rfl) (by kernel_rfl) (fun _ _ _ h => h) (Or.inl ⟨by rfl, ?yy36⟩) (by assumption) ?rr36
      case yy36 => intro w hSw; (try dsimp only at hSw); go_simp; (try with_reducible rfl)
      try simp only [Act.put, List.setIfInBounds_toArray, List.set_cons_zero, List.set_cons_succ]
      refine' takeL (i := 8) (v := .int .i64 ((n : Int) + (k : Int))) rfl (by kernel_rfl) (by kernel_rfl) (by kernel_rfl) (fun _ _ _ h => h) (Or.inl ⟨by rfl, ?yy37⟩) (by assumption) ?rr37
      case yy37 => intro w hSw; (try dsimp only at hSw); have e := hwr; go_simp; (try with_reducible rfl)
      try simp only [Act.put, List.setIfInBounds_toArray, List.set_cons_zero, List.set_cons_succ]
      refine' takeL (i := 9) (v := .int .i64 (q : Int)) rfl (by kernel_rfl) (by kernel_rfl) (by kernel_rfl) (fun _ _ _ h => h) (Or.inl ⟨by rfl, ?yy38⟩) (by assumption) ?rr38
      case yy38 => intro w hSw; (try dsimp only at hSw); have e := hrem2; go_simp; (try with_reducible rfl)
      try simp only [Act.put, List.setIfInBounds_toArray, List.set_cons_zero, List.set_cons_succ]
      refine' takeL (i := 10) (v := _) rfl (by kernel_rfl) (by kernel_rfl) (by kernel_rfl) (fun _ _ _ h => h) (Or.inl ⟨by rfl, ?yy39⟩) (by assumption) ?rr39
      case yy39 => intro w hSw; (try dsimp only at hSw); go_simp; (try with_reducible rfl)
      try simp only [Act.put, List.setIfInBounds_toArray, List.set_cons_zero, List.set_cons_succ]
      refine' takeL (i := 11) (v := _) rfl (by kernel_rfl) (by kernel_rfl) (by kernel_rfl) (fun _ _ _ h => h) (Or.inl ⟨by rfl, ?yy40⟩) (by assumption) ?rr40
      case yy40 => intro w hSw; (try dsimp only at hSw); go_simp; (try with_reducible rfl)
      try simp only [Act.put, List.setIfInBounds_toArray, List.set_cons_zero, List.set_cons_succ]
      refine' takeL (i := 12) (v := _) rfl (by kernel_rfl) (by kernel_rfl) (by kernel_rfl) (fun _ _ _ h => h) (Or.inl ⟨by rfl, ?yy41⟩) (by assumption) ?rr41
      case yy41 => intro w hSw; (try dsimp only at hSw); go_simp; (try with_reducible rfl)
      try simp only [Act.put, List.setIfInBounds_toArray, List.set_cons_zero, List.set_cons_succ]
      refine' takeL (i := 13) (v := .int .u32 v) rfl (by kernel_rfl) (by kernel_rfl) (by kernel_rfl) (fun _ _ _ h => h) (Or.inl ⟨by rfl, ?yy42⟩) (by assumption) ?rr42
      case yy42 => intro w hSw; (try dsimp only at hSw); have hq := hSw.1.co hm16; rw [HV.out] at hq; go_simp; (try with_reducible rfl)
      try simp only [Act.put, List.setIfInBounds_toArray, List.set_cons_zero, List.set_cons_succ]
      refine wpAnyH_ready (rs := [14]) (by kernel_rfl) (by simp) ?_
      refine consL rfl (fun K hK => ?_) AllReadyH.nil
      go_simp
      go_at_call 67
      refine (full_c v _ v0 v1).mono ?_
      rintro e w5 ⟨rfl, hw5⟩
      have Y5 := Lib.hid (show Byt w5 (some ⟨w3.drew.heap.size, 0, none⟩) 4 (fb v) from by rw [hw5]; exact byt_new _ (fb v) (fb_in v0 v1) _ rfl 4 rfl _)
      have O5 := Lib.hid (show Own w5 W0.heap.size u3 (4 * k) (stB os n k) from by rw [hw5]; exact (O3.out.drewN 1).alloc _)
      have BX := Lib.hid (show ((fun w' => Mc w' g is os rs ps (.pointer (some ⟨F.g, 0, none⟩)) ov ∧ Below W0.heap.size W0 w')) w5 from by rw [hw5]; exact ⟨hHeld.1.alloc _, hHeld.2.alloc hHeld.2.size _⟩)
      clear hw5 hHeld
      go_wp2_with fail
      refine hK.out _ _ ?_ (fun hHeld => ?_)
      · (try dsimp only); exact BX.out
      clear hK K
      try simp only [Act.put, List.setIfInBounds_toArray, List.set_cons_zero, List.set_cons_succ]
      refine wpAnyH_ready (rs := [15]) (by kernel_rfl) (by simp) ?_
      refine consL rfl (fun K hK => ?_) AllReadyH.nil
      rw [if_pos (by kernel_rfl)]
      refine wp_append_b (.tmp 77) (.tmp 91) rfl W0.heap.size u3 (4 * k) (stB os n k) rfl O5.out w3.drew.heap.size 0 4 4 (fb v) rfl Y5.out (by omega) hHeld.2.size (fun v' w6 ho6 hg6 => ?_)
      have O6 := Lib.hid ho6
      have B6 := Lib.hid (hHeld.2.grown hg6 hHeld.2.size (fun j hj => (O5.out.block j hj).1))
      have M6 := Lib.hid (hHeld.1.kept (hg6.block g hHeld.1.lt (fun hj => by have := (O5.out.block g hj.symm).1; have := M0.out.m.lt; omega)))
      clear ho6 hg6 hHeld
      refine hK.out _ _ ?_ (fun hHeld => ?_)
      · (try dsimp only); exact ⟨M6.out, B6.out⟩
      clear hK K
      try simp only [Act.put, List.setIfInBounds_toArray, List.set_cons_zero, List.set_cons_succ]
      refine' takeL (i := 16) (v := _) rfl (by kernel_rfl) (by kernel_rfl) (by kernel_rfl) (fun _ _ _ h => h) (Or.inl ⟨by rfl, ?yy43⟩) (by assumption) ?rr43
      case yy43 => intro w hSw; (try dsimp only at hSw); go_simp; (try with_reducible rfl)
      try simp only [Act.put, List.setIfInBounds_toArray, List.set_cons_zero, List.set_cons_succ]
      refine wpAnyH_done (by kernel_rfl) ?_ _
      go_wp2
      refine ⟨⟨k + 1, by omega, rfl, ?_, B6.out⟩, by simp [intOf]; omega⟩
      have h6 := O6.out
      rw [← HV.out, ← HQ.out] at h6
      exact h6
    · obtain rfl : k = C := by omega
      obtain ⟨gb, cb, hbv, -, -, -, -⟩ := HO.out.pos (by omega)
      subst hbv
      have hI : ¬ (k : Int) < (k : Int) := by omega
      go_wp2_with (first
        | (go_at_call 69; refine (CM.out _ MW.out.m).mono ?_; rintro e w3 ⟨rfl, d3, hw3⟩; have M3 := Lib.hid (show MS w3 g F is os rs ps ov bs ks from by rw [hw3]; exact MW.out.drewN d3); have B3 := Lib.hid (show Below W0.heap.size W0 w3 from by rw [hw3]; exact dBelow' HB.out d3); have O3 := Lib.hid (show Own w3 W0.heap.size (.slice (some ⟨gb, 0, none⟩) (4 * k) cb) (4 * k) (stB os n k) from by rw [hw3]; exact HO.out.drewN d3); clear hw3)
        | (go_at_call 66; refine (aligned_m g a 4 _ (SC.out _ M3.out) (.inr rfl) ha0 ha1 ha).mono ?_; rintro e w4 ⟨rfl, hc4⟩; have M4 := Lib.hid (M3.out.ch hc4); have B4 := Lib.hid (B3.out.trans (hc4.below B3.out.size (by simp))); have Y4 := Lib.hid (O3.out.byt.keep (hc4.below (Nat.le_refl _) (by simp))); clear hc4)
        | (go_at_call 65; refine (put_m g F is os rs ps ov bs ks a key _ _ _ (stB os n k) _ M4.out HK.out Y4.out (by omega) HC.out).mono ?_; rintro e w5 ⟨rfl, hM5, hC5⟩; have M5 := Lib.hid hM5; have C5 := Lib.hid (C0.out.trans ((Ch.of_below B4.out _).trans hC5)); clear hM5 hC5))
      first | go_end0 | refine bodyPost_ret (results_none rfl _ _ _) rfl ?_
      exact ⟨rfl, M5.out, C5.out⟩
end Go.Proofs.Ythjdjbipfdigeaa
