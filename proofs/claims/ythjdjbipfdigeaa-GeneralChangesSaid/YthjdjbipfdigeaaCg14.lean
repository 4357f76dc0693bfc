/- Contracts and laws on the way to the statement, text 14 of 25. Conditions: as each states them. -/
import Derived.Test.YthjdjbipfdigeaaCg7
import Derived.Test.YthjdjbipfdigeaaCg13
namespace Go.Proofs.Ythjdjbipfdigeaa
open Go.RowKit
set_option maxRecDepth 100000
set_option linter.unusedVariables false
set_option linter.unusedSimpArgs false
theorem or_one : ∀ k : Nat, k < 16 → bits .or .i64 (k : Int) 1 = ((k / 2 * 2 + 1 : Nat) : Int) := by decide +kernel
theorem calls_R {P : Program} {f : Nat} {args : Array Value} {w : World} {Q : World → Prop} (h : ∀ R : World → Prop, (∀ w', Q w' → R w') → Calls P f args w fun e w' => e = .returned (.tuple #[]) ∧ R w') : Calls P f args w fun e w' => e = .returned (.tuple #[]) ∧ Q w' := h Q (fun _ h => h)
theorem branch_4 (g n : Nat) (F : Foot) (is os rs : List Int) (ps : List Value) (ov : Bool) (bs ks : List Int) (w : World) (h : MS w g F is os rs ps ov bs ks) (h0 : is.getD 0 0 = 4) (hn : is.getD 2 0 = (n : Int)) (hn16 : n < 16) (ro : ∀ z ∈ os, 0 ≤ z ∧ z ≤ 4294967295) : Calls Try.prog 42 #[.pointer (some ⟨g, 0, none⟩)] w fun e w' => e = .returned (.tuple #[]) ∧ MS w' g F is os rs ((ps.set 7 (.int .i64 (os.getD n 0 / 268435456 % 4))).set 8 (.int .i64 (os.getD n 0 / 16777216 % 16))) ov bs ks ∧ Ch w w' [g] := by
  refine (branch_spm g n _ is os rs ps _ ov w h.m h0 hn hn16 rfl (getD_in ro n).1 (getD_in ro n).2).mono ?_
  rintro e w' ⟨rfl, hM, hC⟩
  exact ⟨rfl, h.set_ hM hC, hC⟩
set_option maxRecDepth 1000000 in
set_option maxHeartbeats 8000000 in
theorem branch_5 (g n k : Nat) (F : Foot) (is os rs : List Int) (ps : List Value) (ov : Bool) (bs ks : List Int) (a fm : Int) (w : World) (h : MS w g F is os rs ps ov bs ks) (hn : is.getD 2 0 = (n : Int)) (hn16 : n < 16) (hk : is.getD 3 0 = (k : Int)) (hk16 : k < 16) (hf : is.getD 1 0 = fm) (hsec : ∀ (W : World) (rs' : List Int), MS W g F is os rs' ps ov bs ks → Calls Try.prog 44 #[.pointer (some ⟨g, 0, none⟩)] W fun e w' => e = .returned (.int .i64 a) ∧ Ch W w' []) (ro : ∀ z ∈ os, 0 ≤ z ∧ z ≤ 4294967295) (pi pq pg pa : Int) (h6 : ps.getD 6 undef = .int .i64 pi) (h7 : ps.getD 7 undef = .int .i64 pq) (h8 : ps.getD 8 undef = .int .i64 pg) (h9 : ps.getD 9 undef = .int .i64 pa) (q0 : 0 ≤ pi ∧ pi ≤ 3) (q1 : 0 ≤ pq ∧ pq ≤ 3) (q2 : 0 ≤ pg ∧ pg ≤ 15) (q3 : 0 ≤ pa ∧ pa ≤ 16777215) (hfm : fm = 1) (h0 : is.getD 0 0 = 5) : Calls Try.prog 42 #[.pointer (some ⟨g, 0, none⟩)] w fun e w' => e = .returned (.tuple #[]) ∧ MS w' g F is os (rs.set n (pi * 1073741824 + pq * 268435456 + pg * 16777216 + pa)) (if true = true ∧ k ≠ 0 then ps.set 9 (.int .i64 (os.getD k 0 % 16777216)) else ps) ov bs ks ∧ Ch w w' [g] := by
  have ef : (fm == 1) = true := by rw [hfm]; rfl
  have c0 := h.m.ci (c := 0) (by omega)
  rw [h0] at c0
  have c2 := h.m.ci (c := 2) (by omega)
  rw [hn] at c2
  have c4 := h.m.co hn16
  have ra := getD_in ro n
  obtain ⟨x, hx⟩ : ∃ x, os.getD n 0 = x := ⟨_, rfl⟩
  rw [hx] at ra c4
  try rw [hx]
  have HA := Lib.hid hx
  have i0 : (n : Int) < 16 := by omega
  have i1 : (0 : Int) ≤ (n : Int) := by omega
  have ru := getD_in ro k
  obtain ⟨u, hu⟩ : ∃ u, os.getD k 0 = u := ⟨_, rfl⟩
  rw [hu] at ru
  try rw [hu]
  have HU := Lib.hid hu
  have j0 : (k : Int) < 16 := by omega
  have j1 : (0 : Int) ≤ (k : Int) := by omega
  have HM := Lib.hid h
  have HN := Lib.hid hn
  have HK := Lib.hid hk
  have HF := Lib.hid hf
  have SC := Lib.hid hsec
  obtain ⟨x0, x1⟩ := ra
  obtain ⟨u0, u1⟩ := ru
  have p6 := h.m.cp (n := 6) (by omega)
  rw [h6] at p6
  have p7 := h.m.cp (n := 7) (by omega)
  rw [h7] at p7
  have p8 := h.m.cp (n := 8) (by omega)
  rw [h8] at p8
  have p9 := h.m.cp (n := 9) (by omega)
  rw [h9] at p9
  have c3 := h.m.cr hn16
  have f3 := h.m.free (28 + n)
  obtain ⟨qa, qb⟩ := q0
  obtain ⟨qc, qd⟩ := q1
  obtain ⟨qe, qf⟩ := q2
  obtain ⟨qg, qh⟩ := q3
  obtain ⟨lk, hlk⟩ : ∃ lk, (pi * 1073741824 + pq * 268435456 + pg * 16777216 + pa) = lk := ⟨_, rfl⟩
  rw [hlk]
  have HLK := Lib.hid hlk
  refine calls_R (fun R hR => ?_)
  have HR := Lib.hid hR
  clear h h0 hn hk hf hsec ro hx hu hfm h6 h7 h8 h9 hlk hR
  go_enter Try.func42, Try.ntmps42
  go_upto_region 0 with fail
  go_region
  go_upto_region 7 with fail
  go_region
  have hlink : bits .or .u32 (bits .or .u32 (bits .or .u32 (pi * 1073741824) (pq * 268435456)) (pg * 16777216)) pa = (pi * 1073741824 + pq * 268435456 + pg * 16777216 + pa) := by
    rw [or_32 30 (pi * 1073741824) (pq * 268435456) 1073741824 (by rfl) (by omega) (by omega) (by omega) (by omega) (by omega) (by omega), or_32 28 _ (pg * 16777216) 268435456 (by rfl) (by omega) (by omega) (by omega) (by omega) (by omega) (by omega), or_32 24 _ pa 16777216 (by rfl) (by omega) (by omega) (by omega) (by omega) (by omega) (by omega)]
  rw [hlink, HLK.out]
  clear hlink c3 f3 p6 p7 p8 p9 c0 c2 c4
  go_upto_region 21 with (go_at_call 44; refine (SC.out _ _ ((HM.out.setr hn16 lk).drewN 2)).mono ?_; rintro e W2 ⟨rfl, hcs⟩; have M2 := Lib.hid (((HM.out.setr hn16 lk).drewN 2).ch hcs); have C2 := Lib.hid ((((Ch.refl w [g]).setCell (p := ⟨g, 28 + n, none⟩) (by simp) (.int .u32 lk)).drewN 2).trans (hcs.mono (by simp))); clear hcs)
  have t1 := M2.out.m.ci (c := 1) (by omega)
  rw [HF.out] at t1
  have t9 := M2.out.m.cp (n := 9) (by omega)
  have f9 := M2.out.m.free 53
  have t3 := M2.out.m.ci (c := 3) (by omega)
  rw [HK.out] at t3
  have t4 := M2.out.m.co hk16
  rw [HU.out] at t4
  go_upto_region 22 with fail
  go_region
  clear t4
  by_cases hk0 : k = 0
  · have hm0 : ((k : Int) != 0) = false := by rw [hk0]; rfl
    have HK0 := Lib.hid hk0
    clear hk0
    go_wp2
    first | go_end0 | refine bodyPost_ret (results_none rfl _ _ _) rfl ?_
    exact ⟨rfl, HR.out _ ⟨by rw [if_neg (by simp [HK0.out])]; exact M2.out.drewN 1, C2.out.drewN 1⟩⟩
  · have hm0 : ((k : Int) != 0) = true := by simp; omega
    have HK0 := Lib.hid hk0
    clear hk0
    go_wp2
    first | go_end0 | refine bodyPost_ret (results_none rfl _ _ _) rfl ?_
    exact ⟨rfl, HR.out _ ⟨by rw [if_pos (by simp [HK0.out])]; exact (M2.out.setp (n := 9) (by omega) _).drewN 1, (C2.out.setCell (by simp) _).drewN 1⟩⟩
set_option maxRecDepth 1000000 in
set_option maxHeartbeats 8000000 in
theorem branch_69 (g n k : Nat) (F : Foot) (is os rs : List Int) (ps : List Value) (ov : Bool) (bs ks : List Int) (a fm : Int) (w : World) (h : MS w g F is os rs ps ov bs ks) (hn : is.getD 2 0 = (n : Int)) (hn16 : n < 16) (hk : is.getD 3 0 = (k : Int)) (hk16 : k < 16) (hf : is.getD 1 0 = fm) (hsec : ∀ (W : World) (rs' : List Int), MS W g F is os rs' ps ov bs ks → Calls Try.prog 44 #[.pointer (some ⟨g, 0, none⟩)] W fun e w' => e = .returned (.int .i64 a) ∧ Ch W w' []) (ro : ∀ z ∈ os, 0 ≤ z ∧ z ≤ 4294967295) (pi pq pg pa : Int) (h6 : ps.getD 6 undef = .int .i64 pi) (h7 : ps.getD 7 undef = .int .i64 pq) (h8 : ps.getD 8 undef = .int .i64 pg) (h9 : ps.getD 9 undef = .int .i64 pa) (q0 : 0 ≤ pi ∧ pi ≤ 3) (q1 : 0 ≤ pq ∧ pq ≤ 3) (q2 : 0 ≤ pg ∧ pg ≤ 15) (q3 : 0 ≤ pa ∧ pa ≤ 16777215) (hfm : fm ≠ 1) (h0 : is.getD 0 0 = 69) : Calls Try.prog 42 #[.pointer (some ⟨g, 0, none⟩)] w fun e w' => e = .returned (.tuple #[]) ∧ MS w' g F is os (rs.set n (pi * 1073741824 + pq * 268435456 + pg * 16777216 + pa)) (if true = true then ps.set 9 (.int .i64 (a)) else ps) ov bs ks ∧ Ch w w' [g] := by
  have ef : (fm == 1) = false := by simpa using hfm
  have c0 := h.m.ci (c := 0) (by omega)
  rw [h0] at c0
  have c2 := h.m.ci (c := 2) (by omega)
  rw [hn] at c2
  have c4 := h.m.co hn16
  have ra := getD_in ro n
  obtain ⟨x, hx⟩ : ∃ x, os.getD n 0 = x := ⟨_, rfl⟩
  rw [hx] at ra c4
  try rw [hx]
  have HA := Lib.hid hx
  have i0 : (n : Int) < 16 := by omega
  have i1 : (0 : Int) ≤ (n : Int) := by omega
  have ru := getD_in ro k
  obtain ⟨u, hu⟩ : ∃ u, os.getD k 0 = u := ⟨_, rfl⟩
  rw [hu] at ru
  try rw [hu]
  have HU := Lib.hid hu
  have j0 : (k : Int) < 16 := by omega
  have j1 : (0 : Int) ≤ (k : Int) := by omega
  have HM := Lib.hid h
  have HN := Lib.hid hn
  have HK := Lib.hid hk
  have HF := Lib.hid hf
  have SC := Lib.hid hsec
  obtain ⟨x0, x1⟩ := ra
  obtain ⟨u0, u1⟩ := ru
  have p6 := h.m.cp (n := 6) (by omega)
  rw [h6] at p6
  have p7 := h.m.cp (n := 7) (by omega)
  rw [h7] at p7
  have p8 := h.m.cp (n := 8) (by omega)
  rw [h8] at p8
  have p9 := h.m.cp (n := 9) (by omega)
  rw [h9] at p9
  have c3 := h.m.cr hn16
  have f3 := h.m.free (28 + n)
  obtain ⟨qa, qb⟩ := q0
  obtain ⟨qc, qd⟩ := q1
  obtain ⟨qe, qf⟩ := q2
  obtain ⟨qg, qh⟩ := q3
  obtain ⟨lk, hlk⟩ : ∃ lk, (pi * 1073741824 + pq * 268435456 + pg * 16777216 + pa) = lk := ⟨_, rfl⟩
  rw [hlk]
  have HLK := Lib.hid hlk
  refine calls_R (fun R hR => ?_)
  have HR := Lib.hid hR
  clear h h0 hn hk hf hsec ro hx hu hfm h6 h7 h8 h9 hlk hR
  go_enter Try.func42, Try.ntmps42
  go_upto_region 0 with fail
  go_region
  go_upto_region 7 with fail
  go_region
  have hlink : bits .or .u32 (bits .or .u32 (bits .or .u32 (pi * 1073741824) (pq * 268435456)) (pg * 16777216)) pa = (pi * 1073741824 + pq * 268435456 + pg * 16777216 + pa) := by
    rw [or_32 30 (pi * 1073741824) (pq * 268435456) 1073741824 (by rfl) (by omega) (by omega) (by omega) (by omega) (by omega) (by omega), or_32 28 _ (pg * 16777216) 268435456 (by rfl) (by omega) (by omega) (by omega) (by omega) (by omega) (by omega), or_32 24 _ pa 16777216 (by rfl) (by omega) (by omega) (by omega) (by omega) (by omega) (by omega)]
  rw [hlink, HLK.out]
  clear hlink c3 f3 p6 p7 p8 p9 c0 c2 c4
  go_upto_region 21 with (go_at_call 44; refine (SC.out _ _ ((HM.out.setr hn16 lk).drewN 2)).mono ?_; rintro e W2 ⟨rfl, hcs⟩; have M2 := Lib.hid (((HM.out.setr hn16 lk).drewN 2).ch hcs); have C2 := Lib.hid ((((Ch.refl w [g]).setCell (p := ⟨g, 28 + n, none⟩) (by simp) (.int .u32 lk)).drewN 2).trans (hcs.mono (by simp))); clear hcs)
  have t1 := M2.out.m.ci (c := 1) (by omega)
  rw [HF.out] at t1
  have t9 := M2.out.m.cp (n := 9) (by omega)
  have f9 := M2.out.m.free 53
  go_wp2
  first | go_end0 | refine bodyPost_ret (results_none rfl _ _ _) rfl ?_
  exact ⟨rfl, HR.out _ ⟨by rw [if_pos (by simp)]; exact M2.out.setp (n := 9) (by omega) _, C2.out.setCell (by simp) _⟩⟩
set_option maxRecDepth 1000000 in
set_option maxHeartbeats 8000000 in
theorem branch_6 (g n k : Nat) (F : Foot) (is os rs : List Int) (ps : List Value) (ov : Bool) (bs ks : List Int) (a fm : Int) (w : World) (h : MS w g F is os rs ps ov bs ks) (hn : is.getD 2 0 = (n : Int)) (hn16 : n < 16) (hk : is.getD 3 0 = (k : Int)) (hk16 : k < 16) (hf : is.getD 1 0 = fm) (hsec : ∀ (W : World) (rs' : List Int), MS W g F is os rs' ps ov bs ks → Calls Try.prog 44 #[.pointer (some ⟨g, 0, none⟩)] W fun e w' => e = .returned (.int .i64 a) ∧ Ch W w' []) (ro : ∀ z ∈ os, 0 ≤ z ∧ z ≤ 4294967295) (hfm : fm = 1) (h0 : is.getD 0 0 = 6) : Calls Try.prog 42 #[.pointer (some ⟨g, 0, none⟩)] w fun e w' => e = .returned (.tuple #[]) ∧ MS w' g F is os (rs.set n (lo32 (os.getD n 0 - 1))) (if (os.getD n 0 != 1) = true ∧ k ≠ 0 then ps.set 9 (.int .i64 (os.getD k 0 % 16777216)) else ps) ov bs ks ∧ Ch w w' [g] := by
  have ef : (fm == 1) = true := by rw [hfm]; rfl
  have c0 := h.m.ci (c := 0) (by omega)
  rw [h0] at c0
  have c2 := h.m.ci (c := 2) (by omega)
  rw [hn] at c2
  have c4 := h.m.co hn16
  have ra := getD_in ro n
  obtain ⟨x, hx⟩ : ∃ x, os.getD n 0 = x := ⟨_, rfl⟩
  rw [hx] at ra c4
  try rw [hx]
  have HA := Lib.hid hx
  have i0 : (n : Int) < 16 := by omega
  have i1 : (0 : Int) ≤ (n : Int) := by omega
  have ru := getD_in ro k
  obtain ⟨u, hu⟩ : ∃ u, os.getD k 0 = u := ⟨_, rfl⟩
  rw [hu] at ru
  try rw [hu]
  have HU := Lib.hid hu
  have j0 : (k : Int) < 16 := by omega
  have j1 : (0 : Int) ≤ (k : Int) := by omega
  have HM := Lib.hid h
  have HN := Lib.hid hn
  have HK := Lib.hid hk
  have HF := Lib.hid hf
  have SC := Lib.hid hsec
  obtain ⟨x0, x1⟩ := ra
  obtain ⟨u0, u1⟩ := ru
  have c3 := h.m.cr hn16
  have f3 := h.m.free (28 + n)
  obtain ⟨t, ht⟩ : ∃ t : Bool, (x != 1) = t := ⟨_, rfl⟩
  rw [ht]
  obtain ⟨s, hs⟩ : ∃ s, lo32 (x - 1) = s := ⟨_, rfl⟩
  have hs' : (x - 1) % 4294967296 = s := hs
  rw [hs]
  refine calls_R (fun R hR => ?_)
  have HR := Lib.hid hR
  clear hR h h0 hn hk hf hsec ro hx hu hfm hs
  go_enter Try.func42, Try.ntmps42
  go_upto_region 0 with fail
  go_region
  go_upto_region 10 with fail
  go_region
  go_upto_region 20 with fail
  clear c0 c2 c4 c3 f3 hs' ht
  go_upto_region 21 with (go_at_call 44; refine (SC.out _ _ ((HM.out.setr hn16 s).drewN 2)).mono ?_; rintro e W2 ⟨rfl, hcs⟩; have M2 := Lib.hid (((HM.out.setr hn16 s).drewN 2).ch hcs); have C2 := Lib.hid ((((Ch.refl w [g]).setCell (p := ⟨g, 28 + n, none⟩) (by simp) (.int .u32 s)).drewN 2).trans (hcs.mono (by simp))); clear hcs)
  have t1 := M2.out.m.ci (c := 1) (by omega)
  rw [HF.out] at t1
  have t9 := M2.out.m.cp (n := 9) (by omega)
  have f9 := M2.out.m.free 53
  have t3 := M2.out.m.ci (c := 3) (by omega)
  rw [HK.out] at t3
  have t4 := M2.out.m.co hk16
  rw [HU.out] at t4
  go_upto_region 22 with fail
  go_region
  clear t4
  cases t
  · go_wp2
    first | go_end0 | refine bodyPost_ret (results_none rfl _ _ _) rfl ?_
    exact ⟨rfl, HR.out _ ⟨by rw [if_neg (by simp)]; exact M2.out.drewN 1, C2.out.drewN 1⟩⟩
  · by_cases hk0 : k = 0
    · have hm0 : ((k : Int) != 0) = false := by rw [hk0]; rfl
      have HK0 := Lib.hid hk0
      clear hk0
      go_wp2
      first | go_end0 | refine bodyPost_ret (results_none rfl _ _ _) rfl ?_
      exact ⟨rfl, HR.out _ ⟨by rw [if_neg (by simp [HK0.out])]; exact M2.out.drewN 1, C2.out.drewN 1⟩⟩
    · have hm0 : ((k : Int) != 0) = true := by simp; omega
      have HK0 := Lib.hid hk0
      clear hk0
      go_wp2
      first | go_end0 | refine bodyPost_ret (results_none rfl _ _ _) rfl ?_
      exact ⟨rfl, HR.out _ ⟨by rw [if_pos (by simp [HK0.out])]; exact (M2.out.setp (n := 9) (by omega) _).drewN 1, (C2.out.setCell (by simp) _).drewN 1⟩⟩
set_option maxRecDepth 1000000 in
set_option maxHeartbeats 8000000 in
theorem branch_70 (g n k : Nat) (F : Foot) (is os rs : List Int) (ps : List Value) (ov : Bool) (bs ks : List Int) (a fm : Int) (w : World) (h : MS w g F is os rs ps ov bs ks) (hn : is.getD 2 0 = (n : Int)) (hn16 : n < 16) (hk : is.getD 3 0 = (k : Int)) (hk16 : k < 16) (hf : is.getD 1 0 = fm) (hsec : ∀ (W : World) (rs' : List Int), MS W g F is os rs' ps ov bs ks → Calls Try.prog 44 #[.pointer (some ⟨g, 0, none⟩)] W fun e w' => e = .returned (.int .i64 a) ∧ Ch W w' []) (ro : ∀ z ∈ os, 0 ≤ z ∧ z ≤ 4294967295) (hfm : fm ≠ 1) (h0 : is.getD 0 0 = 70) : Calls Try.prog 42 #[.pointer (some ⟨g, 0, none⟩)] w fun e w' => e = .returned (.tuple #[]) ∧ MS w' g F is os (rs.set n (lo32 (os.getD n 0 - 1))) (if (os.getD n 0 != 1) = true then ps.set 9 (.int .i64 (a)) else ps) ov bs ks ∧ Ch w w' [g] := by
  have ef : (fm == 1) = false := by simpa using hfm
  have c0 := h.m.ci (c := 0) (by omega)
  rw [h0] at c0
  have c2 := h.m.ci (c := 2) (by omega)
  rw [hn] at c2
  have c4 := h.m.co hn16
  have ra := getD_in ro n
  obtain ⟨x, hx⟩ : ∃ x, os.getD n 0 = x := ⟨_, rfl⟩
  rw [hx] at ra c4
  try rw [hx]
  have HA := Lib.hid hx
  have i0 : (n : Int) < 16 := by omega
  have i1 : (0 : Int) ≤ (n : Int) := by omega
  have ru := getD_in ro k
  obtain ⟨u, hu⟩ : ∃ u, os.getD k 0 = u := ⟨_, rfl⟩
  rw [hu] at ru
  try rw [hu]
  have HU := Lib.hid hu
  have j0 : (k : Int) < 16 := by omega
  have j1 : (0 : Int) ≤ (k : Int) := by omega
  have HM := Lib.hid h
  have HN := Lib.hid hn
  have HK := Lib.hid hk
  have HF := Lib.hid hf
  have SC := Lib.hid hsec
  obtain ⟨x0, x1⟩ := ra
  obtain ⟨u0, u1⟩ := ru
  have c3 := h.m.cr hn16
  have f3 := h.m.free (28 + n)
  obtain ⟨t, ht⟩ : ∃ t : Bool, (x != 1) = t := ⟨_, rfl⟩
  rw [ht]
  obtain ⟨s, hs⟩ : ∃ s, lo32 (x - 1) = s := ⟨_, rfl⟩
  have hs' : (x - 1) % 4294967296 = s := hs
  rw [hs]
  refine calls_R (fun R hR => ?_)
  have HR := Lib.hid hR
  clear hR h h0 hn hk hf hsec ro hx hu hfm hs
  go_enter Try.func42, Try.ntmps42
  go_upto_region 0 with fail
  go_region
  go_upto_region 10 with fail
  go_region
  go_upto_region 20 with fail
  clear c0 c2 c4 c3 f3 hs' ht
  go_upto_region 21 with (go_at_call 44; refine (SC.out _ _ ((HM.out.setr hn16 s).drewN 2)).mono ?_; rintro e W2 ⟨rfl, hcs⟩; have M2 := Lib.hid (((HM.out.setr hn16 s).drewN 2).ch hcs); have C2 := Lib.hid ((((Ch.refl w [g]).setCell (p := ⟨g, 28 + n, none⟩) (by simp) (.int .u32 s)).drewN 2).trans (hcs.mono (by simp))); clear hcs)
  have t1 := M2.out.m.ci (c := 1) (by omega)
  rw [HF.out] at t1
  have t9 := M2.out.m.cp (n := 9) (by omega)
  have f9 := M2.out.m.free 53
  cases t
  · go_wp2
    first | go_end0 | refine bodyPost_ret (results_none rfl _ _ _) rfl ?_
    exact ⟨rfl, HR.out _ ⟨by rw [if_neg (by simp)]; exact M2.out, C2.out⟩⟩
  · go_wp2
    first | go_end0 | refine bodyPost_ret (results_none rfl _ _ _) rfl ?_
    exact ⟨rfl, HR.out _ ⟨by rw [if_pos (by simp)]; exact M2.out.setp (n := 9) (by omega) _, C2.out.setCell (by simp) _⟩⟩
end Go.Proofs.Ythjdjbipfdigeaa

namespace Go.Proofs.Ythjdjbipfdigeaa
open Go.RowKit
set_option maxRecDepth 100000
set_option linter.unusedVariables false
set_option linter.unusedSimpArgs false
set_option maxRecDepth 1000000 in
set_option maxHeartbeats 8000000 in
theorem branch_7 (g n k : Nat) (F : Foot) (is os rs : List Int) (ps : List Value) (ov : Bool) (bs ks : List Int) (a fm : Int) (w : World) (h : MS w g F is os rs ps ov bs ks) (hn : is.getD 2 0 = (n : Int)) (hn16 : n < 16) (hk : is.getD 3 0 = (k : Int)) (hk16 : k < 16) (hf : is.getD 1 0 = fm) (hsec : ∀ (W : World) (rs' : List Int), MS W g F is os rs' ps ov bs ks → Calls Try.prog 44 #[.pointer (some ⟨g, 0, none⟩)] W fun e w' => e = .returned (.int .i64 a) ∧ Ch W w' []) (ro : ∀ z ∈ os, 0 ≤ z ∧ z ≤ 4294967295) (pq : Int) (h7 : ps.getD 7 undef = .int .i64 pq) (q1 : 0 ≤ pq ∧ pq ≤ 3) (hfm : fm = 1) (h0 : is.getD 0 0 = 7) : Calls Try.prog 42 #[.pointer (some ⟨g, 0, none⟩)] w fun e w' => e = .returned (.tuple #[]) ∧ MS w' g F is os rs (if (pbr (n : Int) pq) = true ∧ k ≠ 0 then ps.set 9 (.int .i64 (os.getD k 0 % 16777216)) else ps) ov bs ks ∧ Ch w w' [g] := by
  have ef : (fm == 1) = true := by rw [hfm]; rfl
  have c0 := h.m.ci (c := 0) (by omega)
  rw [h0] at c0
  have c2 := h.m.ci (c := 2) (by omega)
  rw [hn] at c2
  have c4 := h.m.co hn16
  have ra := getD_in ro n
  obtain ⟨x, hx⟩ : ∃ x, os.getD n 0 = x := ⟨_, rfl⟩
  rw [hx] at ra c4
  try rw [hx]
  have HA := Lib.hid hx
  have i0 : (n : Int) < 16 := by omega
  have i1 : (0 : Int) ≤ (n : Int) := by omega
  have ru := getD_in ro k
  obtain ⟨u, hu⟩ : ∃ u, os.getD k 0 = u := ⟨_, rfl⟩
  rw [hu] at ru
  try rw [hu]
  have HU := Lib.hid hu
  have j0 : (k : Int) < 16 := by omega
  have j1 : (0 : Int) ≤ (k : Int) := by omega
  have HM := Lib.hid h
  have HN := Lib.hid hn
  have HK := Lib.hid hk
  have HF := Lib.hid hf
  have SC := Lib.hid hsec
  obtain ⟨x0, x1⟩ := ra
  obtain ⟨u0, u1⟩ := ru
  have p7 := h.m.cp (n := 7) (by omega)
  rw [h7] at p7
  have BC := Lib.hid (fun W => branch_c (n : Int) pq (by omega) (by omega) (by have := q1.1; omega) (by have := q1.2; omega) W)
  obtain ⟨t, ht⟩ : ∃ t : Bool, pbr (n : Int) pq = t := ⟨_, rfl⟩
  rw [ht]
  simp only [ht] at BC
  have s2 : w.drew.drew.cell? ⟨g, 2, none⟩ = some (.int .i64 (n : Int)) := c2
  have s7 : w.drew.drew.cell? ⟨g, 51, none⟩ = some (.int .i64 pq) := p7
  refine calls_R (fun R hR => ?_)
  have HR := Lib.hid hR
  clear hR h h0 hn hk hf hsec ro hx hu hfm h7 ht
  go_enter Try.func42, Try.ntmps42
  go_upto_region 0 with fail
  go_region
  go_upto_region 14 with fail
  go_region_held3 (fun w' => w'.cell? ⟨g, 2, none⟩ = some (.int .i64 (n : Int)) ∧ w'.cell? ⟨g, 51, none⟩ = some (.int .i64 pq)) (exact ⟨s2, s7⟩) ((go_at_call 54; refine (BC.out _).mono ?_; rintro e w5 ⟨rfl, hw5⟩; subst hw5))
  go_upto_region 20 with fail
  clear c0 c2 c4 p7 s2 s7
  go_upto_region 21 with (go_at_call 44; refine (SC.out _ _ ((HM.out).drewN 2)).mono ?_; rintro e W2 ⟨rfl, hcs⟩; have M2 := Lib.hid (((HM.out).drewN 2).ch hcs); have C2 := Lib.hid (((Ch.refl w [g]).drewN 2).trans (hcs.mono (by simp))); clear hcs)
  have t1 := M2.out.m.ci (c := 1) (by omega)
  rw [HF.out] at t1
  have t9 := M2.out.m.cp (n := 9) (by omega)
  have f9 := M2.out.m.free 53
  have t3 := M2.out.m.ci (c := 3) (by omega)
  rw [HK.out] at t3
  have t4 := M2.out.m.co hk16
  rw [HU.out] at t4
  go_upto_region 22 with fail
  go_region
  clear t4
  cases t
  · go_wp2
    first | go_end0 | refine bodyPost_ret (results_none rfl _ _ _) rfl ?_
    exact ⟨rfl, HR.out _ ⟨by rw [if_neg (by simp)]; exact M2.out.drewN 1, C2.out.drewN 1⟩⟩
  · by_cases hk0 : k = 0
    · have hm0 : ((k : Int) != 0) = false := by rw [hk0]; rfl
      have HK0 := Lib.hid hk0
      clear hk0
      go_wp2
      first | go_end0 | refine bodyPost_ret (results_none rfl _ _ _) rfl ?_
      exact ⟨rfl, HR.out _ ⟨by rw [if_neg (by simp [HK0.out])]; exact M2.out.drewN 1, C2.out.drewN 1⟩⟩
    · have hm0 : ((k : Int) != 0) = true := by simp; omega
      have HK0 := Lib.hid hk0
      clear hk0
      go_wp2
      first | go_end0 | refine bodyPost_ret (results_none rfl _ _ _) rfl ?_
      exact ⟨rfl, HR.out _ ⟨by rw [if_pos (by simp [HK0.out])]; exact (M2.out.setp (n := 9) (by omega) _).drewN 1, (C2.out.setCell (by simp) _).drewN 1⟩⟩
set_option maxRecDepth 1000000 in
set_option maxHeartbeats 8000000 in
theorem branch_71 (g n k : Nat) (F : Foot) (is os rs : List Int) (ps : List Value) (ov : Bool) (bs ks : List Int) (a fm : Int) (w : World) (h : MS w g F is os rs ps ov bs ks) (hn : is.getD 2 0 = (n : Int)) (hn16 : n < 16) (hk : is.getD 3 0 = (k : Int)) (hk16 : k < 16) (hf : is.getD 1 0 = fm) (hsec : ∀ (W : World) (rs' : List Int), MS W g F is os rs' ps ov bs ks → Calls Try.prog 44 #[.pointer (some ⟨g, 0, none⟩)] W fun e w' => e = .returned (.int .i64 a) ∧ Ch W w' []) (ro : ∀ z ∈ os, 0 ≤ z ∧ z ≤ 4294967295) (pq : Int) (h7 : ps.getD 7 undef = .int .i64 pq) (q1 : 0 ≤ pq ∧ pq ≤ 3) (hfm : fm ≠ 1) (h0 : is.getD 0 0 = 71) : Calls Try.prog 42 #[.pointer (some ⟨g, 0, none⟩)] w fun e w' => e = .returned (.tuple #[]) ∧ MS w' g F is os rs (if (pbr (n : Int) pq) = true then ps.set 9 (.int .i64 (a)) else ps) ov bs ks ∧ Ch w w' [g] := by
  have ef : (fm == 1) = false := by simpa using hfm
  have c0 := h.m.ci (c := 0) (by omega)
  rw [h0] at c0
  have c2 := h.m.ci (c := 2) (by omega)
  rw [hn] at c2
  have c4 := h.m.co hn16
  have ra := getD_in ro n
  obtain ⟨x, hx⟩ : ∃ x, os.getD n 0 = x := ⟨_, rfl⟩
  rw [hx] at ra c4
  try rw [hx]
  have HA := Lib.hid hx
  have i0 : (n : Int) < 16 := by omega
  have i1 : (0 : Int) ≤ (n : Int) := by omega
  have ru := getD_in ro k
  obtain ⟨u, hu⟩ : ∃ u, os.getD k 0 = u := ⟨_, rfl⟩
  rw [hu] at ru
  try rw [hu]
  have HU := Lib.hid hu
  have j0 : (k : Int) < 16 := by omega
  have j1 : (0 : Int) ≤ (k : Int) := by omega
  have HM := Lib.hid h
  have HN := Lib.hid hn
  have HK := Lib.hid hk
  have HF := Lib.hid hf
  have SC := Lib.hid hsec
  obtain ⟨x0, x1⟩ := ra
  obtain ⟨u0, u1⟩ := ru
  have p7 := h.m.cp (n := 7) (by omega)
  rw [h7] at p7
  have BC := Lib.hid (fun W => branch_c (n : Int) pq (by omega) (by omega) (by have := q1.1; omega) (by have := q1.2; omega) W)
  obtain ⟨t, ht⟩ : ∃ t : Bool, pbr (n : Int) pq = t := ⟨_, rfl⟩
  rw [ht]
  simp only [ht] at BC
  have s2 : w.drew.drew.cell? ⟨g, 2, none⟩ = some (.int .i64 (n : Int)) := c2
  have s7 : w.drew.drew.cell? ⟨g, 51, none⟩ = some (.int .i64 pq) := p7
  refine calls_R (fun R hR => ?_)
  have HR := Lib.hid hR
  clear hR h h0 hn hk hf hsec ro hx hu hfm h7 ht
  go_enter Try.func42, Try.ntmps42
  go_upto_region 0 with fail
  go_region
  go_upto_region 14 with fail
  go_region_held3 (fun w' => w'.cell? ⟨g, 2, none⟩ = some (.int .i64 (n : Int)) ∧ w'.cell? ⟨g, 51, none⟩ = some (.int .i64 pq)) (exact ⟨s2, s7⟩) ((go_at_call 54; refine (BC.out _).mono ?_; rintro e w5 ⟨rfl, hw5⟩; subst hw5))
  go_upto_region 20 with fail
  clear c0 c2 c4 p7 s2 s7
  go_upto_region 21 with (go_at_call 44; refine (SC.out _ _ ((HM.out).drewN 2)).mono ?_; rintro e W2 ⟨rfl, hcs⟩; have M2 := Lib.hid (((HM.out).drewN 2).ch hcs); have C2 := Lib.hid (((Ch.refl w [g]).drewN 2).trans (hcs.mono (by simp))); clear hcs)
  have t1 := M2.out.m.ci (c := 1) (by omega)
  rw [HF.out] at t1
  have t9 := M2.out.m.cp (n := 9) (by omega)
  have f9 := M2.out.m.free 53
  cases t
  · go_wp2
    first | go_end0 | refine bodyPost_ret (results_none rfl _ _ _) rfl ?_
    exact ⟨rfl, HR.out _ ⟨by rw [if_neg (by simp)]; exact M2.out, C2.out⟩⟩
  · go_wp2
    first | go_end0 | refine bodyPost_ret (results_none rfl _ _ _) rfl ?_
    exact ⟨rfl, HR.out _ ⟨by rw [if_pos (by simp)]; exact M2.out.setp (n := 9) (by omega) _, C2.out.setCell (by simp) _⟩⟩
set_option maxRecDepth 1000000 in
set_option maxHeartbeats 8000000 in
theorem branch_134 (g n k : Nat) (F : Foot) (is os rs : List Int) (ps : List Value) (ov : Bool) (bs ks : List Int) (a fm : Int) (w : World) (h : MS w g F is os rs ps ov bs ks) (hn : is.getD 2 0 = (n : Int)) (hn16 : n < 16) (hk : is.getD 3 0 = (k : Int)) (hk16 : k < 16) (hf : is.getD 1 0 = fm) (hsec : ∀ (W : World) (rs' : List Int), MS W g F is os rs' ps ov bs ks → Calls Try.prog 44 #[.pointer (some ⟨g, 0, none⟩)] W fun e w' => e = .returned (.int .i64 a) ∧ Ch W w' []) (ro : ∀ z ∈ os, 0 ≤ z ∧ z ≤ 4294967295) (hfm : fm ≠ 1) (h0 : is.getD 0 0 = 134) : Calls Try.prog 42 #[.pointer (some ⟨g, 0, none⟩)] w fun e w' => e = .returned (.tuple #[]) ∧ MS w' g F is os (rs.set n (lo32 (os.getD n 0 + os.getD k 0))) (if ((sgn (sg (lo32 (os.getD n 0 + os.getD k 0)) - sg (os.getD (k / 2 * 2 + 1) 0)) == 2)) = true then ps.set 9 (.int .i64 (a)) else ps) ov bs ks ∧ Ch w w' [g] := by
  have ef : (fm == 1) = false := by simpa using hfm
  have c0 := h.m.ci (c := 0) (by omega)
  rw [h0] at c0
  have c2 := h.m.ci (c := 2) (by omega)
  rw [hn] at c2
  have c4 := h.m.co hn16
  have ra := getD_in ro n
  obtain ⟨x, hx⟩ : ∃ x, os.getD n 0 = x := ⟨_, rfl⟩
  rw [hx] at ra c4
  try rw [hx]
  have HA := Lib.hid hx
  have i0 : (n : Int) < 16 := by omega
  have i1 : (0 : Int) ≤ (n : Int) := by omega
  have ru := getD_in ro k
  obtain ⟨u, hu⟩ : ∃ u, os.getD k 0 = u := ⟨_, rfl⟩
  rw [hu] at ru
  try rw [hu]
  have HU := Lib.hid hu
  have j0 : (k : Int) < 16 := by omega
  have j1 : (0 : Int) ≤ (k : Int) := by omega
  have HM := Lib.hid h
  have HN := Lib.hid hn
  have HK := Lib.hid hk
  have HF := Lib.hid hf
  have SC := Lib.hid hsec
  obtain ⟨x0, x1⟩ := ra
  obtain ⟨u0, u1⟩ := ru
  have c3 := h.m.cr hn16
  have f3 := h.m.free (28 + n)
  have k3 := h.m.ci (c := 3) (by omega)
  rw [hk] at k3
  have k4 := h.m.co hk16
  rw [hu] at k4
  obtain ⟨q, hq⟩ : ∃ q, k / 2 * 2 + 1 = q := ⟨_, rfl⟩
  have hor := or_one k hk16
  rw [hq] at hor ⊢
  have hq16 : q < 16 := by omega
  have l0 : (q : Int) < 16 := by omega
  have l1 : (0 : Int) ≤ (q : Int) := by omega
  have k5 := h.m.co hq16
  have rz := getD_in ro q
  obtain ⟨z, hz⟩ : ∃ z, os.getD q 0 = z := ⟨_, rfl⟩
  rw [hz] at k5 rz ⊢
  obtain ⟨s, hs⟩ : ∃ s, lo32 (x + u) = s := ⟨_, rfl⟩
  have hs' : (x + u) % 4294967296 = s := hs
  have rs0 : 0 ≤ s ∧ s ≤ 4294967295 := by rw [← hs]; unfold lo32; omega
  rw [hs]
  have CC := Lib.hid (fun W => compare_c s z rs0.1 rs0.2 rz.1 rz.2 W)
  obtain ⟨b, hb⟩ : ∃ b, sgn (sg s - sg z) = b := ⟨_, rfl⟩
  simp only [hb] at CC
  rw [hb]
  obtain ⟨t0, ht⟩ : ∃ t : Bool, (b == 2) = t := ⟨_, rfl⟩
  rw [ht]
  obtain ⟨t, htt⟩ : ∃ t : Bool, (t0) = t := ⟨_, rfl⟩
  rw [htt]
  have M0 := Lib.hid ((h.setr hn16 s).drewN 3)
  have H0 := Lib.hid h0
  have HZ := Lib.hid hz
  refine calls_R (fun R hR => ?_)
  have HR := Lib.hid hR
  clear hR h h0 hn hk hf hsec ro hx hu hfm hq hs hb hz
  go_enter Try.func42, Try.ntmps42
  go_upto_region 0 with fail
  go_region
  go_upto_region 17 with fail
  go_region
  simp only [hs']
  go_upto_region 18 with fail
  go_region
  clear c0 c2 c4 c3 f3 k3 k4 k5 hs'
  go_upto_region 19 with fail
  refine wp_region_held_drew (S := (fun w' => ∃ (rs' : List Int) (ps' : List Value), Mc w' g is os rs' ps' (.pointer (some ⟨F.g, 0, none⟩)) ov)) (by kernel_rfl) ?_ (fun hHeld => ?_)
  · (try dsimp only); exact ⟨_, _, (M0.out.drewN 1).m⟩
  refine' takeL (i := 0) (v := _) rfl (by kernel_rfl) (by kernel_rfl) (by kernel_rfl) (fun _ _ _ h => h) (Or.inl ⟨by rfl, ?yy1⟩) (by assumption) ?rr1
  case yy1 => intro w hSw; (try dsimp only at hSw); go_simp; (try with_reducible rfl)
  try simp only [Act.put, List.setIfInBounds_toArray, List.set_cons_zero, List.set_cons_succ]
  refine' takeL (i := 1) (v := _) rfl (by kernel_rfl) (by kernel_rfl) (by kernel_rfl) (fun _ _ _ h => h) (Or.inl ⟨by rfl, ?yy2⟩) (by assumption) ?rr2
  case yy2 => intro w hSw; (try dsimp only at hSw); go_simp; (try with_reducible rfl)
  try simp only [Act.put, List.setIfInBounds_toArray, List.set_cons_zero, List.set_cons_succ]
  refine' takeL (i := 2) (v := _) rfl (by kernel_rfl) (by kernel_rfl) (by kernel_rfl) (fun _ _ _ h => h) (Or.inl ⟨by rfl, ?yy3⟩) (by assumption) ?rr3
  case yy3 => intro w hSw; (try dsimp only at hSw); go_simp; (try with_reducible rfl)
  try simp only [Act.put, List.setIfInBounds_toArray, List.set_cons_zero, List.set_cons_succ]
  refine' takeL (i := 3) (v := _) rfl (by kernel_rfl) (by kernel_rfl) (by kernel_rfl) (fun _ _ _ h => h) (Or.inl ⟨by rfl, ?yy4⟩) (by assumption) ?rr4
  case yy4 => intro w hSw; (try dsimp only at hSw); go_simp; (try with_reducible rfl)
  try simp only [Act.put, List.setIfInBounds_toArray, List.set_cons_zero, List.set_cons_succ]
  refine' takeL (i := 4) (v := _) rfl (by kernel_rfl) (by kernel_rfl) (by kernel_rfl) (fun _ _ _ h => h) (Or.inl ⟨by rfl, ?yy5⟩) (by assumption) ?rr5
  case yy5 => intro w hSw; (try dsimp only at hSw); go_simp; (try with_reducible rfl)
  try simp only [Act.put, List.setIfInBounds_toArray, List.set_cons_zero, List.set_cons_succ]
  refine' takeL (i := 5) (v := _) rfl (by kernel_rfl) (by kernel_rfl) (by kernel_rfl) (fun _ _ _ h => h) (Or.inl ⟨by rfl, ?yy6⟩) (by assumption) ?rr6
  case yy6 => intro w hSw; (try dsimp only at hSw); go_simp; (try with_reducible rfl)
  try simp only [Act.put, List.setIfInBounds_toArray, List.set_cons_zero, List.set_cons_succ]
  refine' takeL (i := 6) (v := .int .i64 (k : Int)) rfl (by kernel_rfl) (by kernel_rfl) (by kernel_rfl) (fun _ _ _ h => h) (Or.inl ⟨by rfl, ?yy7⟩) (by assumption) ?rr7
  case yy7 => intro w hSw; (try dsimp only at hSw); obtain ⟨rs', ps', hx⟩ := hSw; have hq := hx.ci (c := 3) (by omega); rw [HK.out] at hq; go_simp; (try with_reducible rfl)
  try simp only [Act.put, List.setIfInBounds_toArray, List.set_cons_zero, List.set_cons_succ]
  refine' takeL (i := 7) (v := .int .i64 (q : Int)) rfl (by kernel_rfl) (by kernel_rfl) (by kernel_rfl) (fun _ _ _ h => h) (Or.inl ⟨by rfl, ?yy8⟩) (by assumption) ?rr8
  case yy8 => intro w hSw; (try dsimp only at hSw); have e := hor; go_simp; (try with_reducible rfl)
  try simp only [Act.put, List.setIfInBounds_toArray, List.set_cons_zero, List.set_cons_succ]
  refine' takeL (i := 8) (v := _) rfl (by kernel_rfl) (by kernel_rfl) (by kernel_rfl) (fun _ _ _ h => h) (Or.inl ⟨by rfl, ?yy9⟩) (by assumption) ?rr9
  case yy9 => intro w hSw; (try dsimp only at hSw); go_simp; (try with_reducible rfl)
  try simp only [Act.put, List.setIfInBounds_toArray, List.set_cons_zero, List.set_cons_succ]
  refine' takeL (i := 9) (v := _) rfl (by kernel_rfl) (by kernel_rfl) (by kernel_rfl) (fun _ _ _ h => h) (Or.inl ⟨by rfl, ?yy10⟩) (by assumption) ?rr10
  case yy10 => intro w hSw; (try dsimp only at hSw); go_simp; (try with_reducible rfl)
  try simp only [Act.put, List.setIfInBounds_toArray, List.set_cons_zero, List.set_cons_succ]
  refine' takeL (i := 10) (v := _) rfl (by kernel_rfl) (by kernel_rfl) (by kernel_rfl) (fun _ _ _ h => h) (Or.inl ⟨by rfl, ?yy11⟩) (by assumption) ?rr11
  case yy11 => intro w hSw; (try dsimp only at hSw); go_simp; (try with_reducible rfl)
  try simp only [Act.put, List.setIfInBounds_toArray, List.set_cons_zero, List.set_cons_succ]
  refine' takeL (i := 11) (v := .int .u32 z) rfl (by kernel_rfl) (by kernel_rfl) (by kernel_rfl) (fun _ _ _ h => h) (Or.inl ⟨by rfl, ?yy12⟩) (by assumption) ?rr12
  case yy12 => intro w hSw; (try dsimp only at hSw); obtain ⟨rs', ps', hx⟩ := hSw; have hq := hx.co hq16; rw [HZ.out] at hq; go_simp; (try with_reducible rfl)
  try simp only [Act.put, List.setIfInBounds_toArray, List.set_cons_zero, List.set_cons_succ]
  refine' takeL (i := 14) (v := _) rfl (by kernel_rfl) (by kernel_rfl) (by kernel_rfl) (fun _ _ _ h => h) (Or.inl ⟨by rfl, ?yy13⟩) (by assumption) ?rr13
  case yy13 => intro w hSw; (try dsimp only at hSw); go_simp; (try with_reducible rfl)
  try simp only [Act.put, List.setIfInBounds_toArray, List.set_cons_zero, List.set_cons_succ]
  refine' takeL (i := 15) (v := _) rfl (by kernel_rfl) (by kernel_rfl) (by kernel_rfl) (fun _ _ _ h => h) (Or.inl ⟨by rfl, ?yy14⟩) (by assumption) ?rr14
  case yy14 => intro w hSw; (try dsimp only at hSw); go_simp; (try with_reducible rfl)
  try simp only [Act.put, List.setIfInBounds_toArray, List.set_cons_zero, List.set_cons_succ]
  refine' takeL (i := 16) (v := _) rfl (by kernel_rfl) (by kernel_rfl) (by kernel_rfl) (fun _ _ _ h => h) (Or.inl ⟨by rfl, ?yy15⟩) (by assumption) ?rr15
  case yy15 => intro w hSw; (try dsimp only at hSw); go_simp; (try with_reducible rfl)
  try simp only [Act.put, List.setIfInBounds_toArray, List.set_cons_zero, List.set_cons_succ]
  refine' takeL (i := 17) (v := _) rfl (by kernel_rfl) (by kernel_rfl) (by kernel_rfl) (fun _ _ _ h => h) (Or.inl ⟨by rfl, ?yy16⟩) (by assumption) ?rr16
  case yy16 => intro w hSw; (try dsimp only at hSw); go_simp; (try with_reducible rfl)
  try simp only [Act.put, List.setIfInBounds_toArray, List.set_cons_zero, List.set_cons_succ]
  refine' takeL (i := 18) (v := .int .i64 134) rfl (by kernel_rfl) (by kernel_rfl) (by kernel_rfl) (fun _ _ _ h => h) (Or.inl ⟨by rfl, ?yy17⟩) (by assumption) ?rr17
  case yy17 => intro w hSw; (try dsimp only at hSw); obtain ⟨rs', ps', hx⟩ := hSw; have hq := hx.ci (c := 0) (by omega); rw [H0.out] at hq; go_simp; (try with_reducible rfl)
  try simp only [Act.put, List.setIfInBounds_toArray, List.set_cons_zero, List.set_cons_succ]
  refine' takeL (i := 19) (v := _) rfl (by kernel_rfl) (by kernel_rfl) (by kernel_rfl) (fun _ _ _ h => h) (Or.inl ⟨by rfl, ?yy18⟩) (by assumption) ?rr18
  case yy18 => intro w hSw; (try dsimp only at hSw); go_simp; (try with_reducible rfl)
  try simp only [Act.put, List.setIfInBounds_toArray, List.set_cons_zero, List.set_cons_succ]
  refine wpAnyH_ready (rs := [12]) (by kernel_rfl) (by simp) ?_
  refine consL rfl (fun K hK => ?_) AllReadyH.nil
  go_simp
  go_at_call 55
  refine (CC.out _).mono ?_
  rintro e w5 ⟨rfl, hw5⟩
  subst hw5
  go_wp2_with fail
  refine hK.out _ _ ?_ (fun hHeld => ?_)
  · (try dsimp only); exact hHeld
  clear hK K
  try simp only [Act.put, List.setIfInBounds_toArray, List.set_cons_zero, List.set_cons_succ]
  refine' takeL (i := 13) (v := .bool t0) rfl (by kernel_rfl) (by kernel_rfl) (by kernel_rfl) (fun _ _ _ h => h) (Or.inl ⟨by rfl, ?yy19⟩) (by assumption) ?rr19
  case yy19 => intro w hSw; (try dsimp only at hSw); have e := ht; go_simp; (try with_reducible rfl)
  try simp only [Act.put, List.setIfInBounds_toArray, List.set_cons_zero, List.set_cons_succ]
  refine' takeL (i := 20) (v := .bool t) rfl (by kernel_rfl) (by kernel_rfl) (by kernel_rfl) (fun _ _ _ h => h) (Or.inl ⟨by rfl, ?yy20⟩) (by assumption) ?rr20
  case yy20 => intro w hSw; (try dsimp only at hSw); have e := htt; go_simp; (try with_reducible rfl)
  try simp only [Act.put, List.setIfInBounds_toArray, List.set_cons_zero, List.set_cons_succ]
  refine' takeL (i := 21) (v := _) rfl (by kernel_rfl) (by kernel_rfl) (by kernel_rfl) (fun _ _ _ h => h) (Or.inl ⟨by rfl, ?yy21⟩) (by assumption) ?rr21
  case yy21 => intro w hSw; (try dsimp only at hSw); go_simp; (try with_reducible rfl)
  try simp only [Act.put, List.setIfInBounds_toArray, List.set_cons_zero, List.set_cons_succ]
  refine wpAnyH_done (by kernel_rfl) ?_ _
  go_upto_region 20 with fail
  clear hor ht htt
  go_upto_region 21 with (go_at_call 44; refine (SC.out _ _ ((HM.out.setr hn16 s).drewN 4)).mono ?_; rintro e W2 ⟨rfl, hcs⟩; have M2 := Lib.hid (((HM.out.setr hn16 s).drewN 4).ch hcs); have C2 := Lib.hid ((((Ch.refl w [g]).setCell (p := ⟨g, 28 + n, none⟩) (by simp) (.int .u32 s)).drewN 4).trans (hcs.mono (by simp))); clear hcs)
  have t1 := M2.out.m.ci (c := 1) (by omega)
  rw [HF.out] at t1
  have t9 := M2.out.m.cp (n := 9) (by omega)
  have f9 := M2.out.m.free 53
  cases t
  · go_wp2
    first | go_end0 | refine bodyPost_ret (results_none rfl _ _ _) rfl ?_
    exact ⟨rfl, HR.out _ ⟨by rw [if_neg (by simp)]; exact M2.out, C2.out⟩⟩
  · go_wp2
    first | go_end0 | refine bodyPost_ret (results_none rfl _ _ _) rfl ?_
    exact ⟨rfl, HR.out _ ⟨by rw [if_pos (by simp)]; exact M2.out.setp (n := 9) (by omega) _, C2.out.setCell (by simp) _⟩⟩
set_option maxRecDepth 1000000 in
set_option maxHeartbeats 8000000 in
theorem branch_135 (g n k : Nat) (F : Foot) (is os rs : List Int) (ps : List Value) (ov : Bool) (bs ks : List Int) (a fm : Int) (w : World) (h : MS w g F is os rs ps ov bs ks) (hn : is.getD 2 0 = (n : Int)) (hn16 : n < 16) (hk : is.getD 3 0 = (k : Int)) (hk16 : k < 16) (hf : is.getD 1 0 = fm) (hsec : ∀ (W : World) (rs' : List Int), MS W g F is os rs' ps ov bs ks → Calls Try.prog 44 #[.pointer (some ⟨g, 0, none⟩)] W fun e w' => e = .returned (.int .i64 a) ∧ Ch W w' []) (ro : ∀ z ∈ os, 0 ≤ z ∧ z ≤ 4294967295) (hfm : fm ≠ 1) (h0 : is.getD 0 0 = 135) : Calls Try.prog 42 #[.pointer (some ⟨g, 0, none⟩)] w fun e w' => e = .returned (.tuple #[]) ∧ MS w' g F is os (rs.set n (lo32 (os.getD n 0 + os.getD k 0))) (if (!(sgn (sg (lo32 (os.getD n 0 + os.getD k 0)) - sg (os.getD (k / 2 * 2 + 1) 0)) == 2)) = true then ps.set 9 (.int .i64 (a)) else ps) ov bs ks ∧ Ch w w' [g] := by
  have ef : (fm == 1) = false := by simpa using hfm
  have c0 := h.m.ci (c := 0) (by omega)
  rw [h0] at c0
  have c2 := h.m.ci (c := 2) (by omega)
  rw [hn] at c2
  have c4 := h.m.co hn16
  have ra := getD_in ro n
  obtain ⟨x, hx⟩ : ∃ x, os.getD n 0 = x := ⟨_, rfl⟩
  rw [hx] at ra c4
  try rw [hx]
  have HA := Lib.hid hx
  have i0 : (n : Int) < 16 := by omega
  have i1 : (0 : Int) ≤ (n : Int) := by omega
  have ru := getD_in ro k
  obtain ⟨u, hu⟩ : ∃ u, os.getD k 0 = u := ⟨_, rfl⟩
  rw [hu] at ru
  try rw [hu]
  have HU := Lib.hid hu
  have j0 : (k : Int) < 16 := by omega
  have j1 : (0 : Int) ≤ (k : Int) := by omega
  have HM := Lib.hid h
  have HN := Lib.hid hn
  have HK := Lib.hid hk
  have HF := Lib.hid hf
  have SC := Lib.hid hsec
  obtain ⟨x0, x1⟩ := ra
  obtain ⟨u0, u1⟩ := ru
  have c3 := h.m.cr hn16
  have f3 := h.m.free (28 + n)
  have k3 := h.m.ci (c := 3) (by omega)
  rw [hk] at k3
  have k4 := h.m.co hk16
  rw [hu] at k4
  obtain ⟨q, hq⟩ : ∃ q, k / 2 * 2 + 1 = q := ⟨_, rfl⟩
  have hor := or_one k hk16
  rw [hq] at hor ⊢
  have hq16 : q < 16 := by omega
  have l0 : (q : Int) < 16 := by omega
  have l1 : (0 : Int) ≤ (q : Int) := by omega
  have k5 := h.m.co hq16
  have rz := getD_in ro q
  obtain ⟨z, hz⟩ : ∃ z, os.getD q 0 = z := ⟨_, rfl⟩
  rw [hz] at k5 rz ⊢
  obtain ⟨s, hs⟩ : ∃ s, lo32 (x + u) = s := ⟨_, rfl⟩
  have hs' : (x + u) % 4294967296 = s := hs
  have rs0 : 0 ≤ s ∧ s ≤ 4294967295 := by rw [← hs]; unfold lo32; omega
  rw [hs]
  have CC := Lib.hid (fun W => compare_c s z rs0.1 rs0.2 rz.1 rz.2 W)
  obtain ⟨b, hb⟩ : ∃ b, sgn (sg s - sg z) = b := ⟨_, rfl⟩
  simp only [hb] at CC
  rw [hb]
  obtain ⟨t0, ht⟩ : ∃ t : Bool, (b == 2) = t := ⟨_, rfl⟩
  rw [ht]
  obtain ⟨t, htt⟩ : ∃ t : Bool, (!t0) = t := ⟨_, rfl⟩
  rw [htt]
  have M0 := Lib.hid ((h.setr hn16 s).drewN 3)
  have H0 := Lib.hid h0
  have HZ := Lib.hid hz
  refine calls_R (fun R hR => ?_)
  have HR := Lib.hid hR
  clear hR h h0 hn hk hf hsec ro hx hu hfm hq hs hb hz
  go_enter Try.func42, Try.ntmps42
  go_upto_region 0 with fail
  go_region
  go_upto_region 17 with fail
  go_region
  simp only [hs']
  go_upto_region 18 with fail
  go_region
  clear c0 c2 c4 c3 f3 k3 k4 k5 hs'
  go_upto_region 19 with fail
  refine wp_region_held_drew (S := (fun w' => ∃ (rs' : List Int) (ps' : List Value), Mc w' g is os rs' ps' (.pointer (some ⟨F.g, 0, none⟩)) ov)) (by kernel_rfl) ?_ (fun hHeld => ?_)
  · (try dsimp only); exact ⟨_, _, (M0.out.drewN 1).m⟩
  refine' takeL (i := 0) (v := _) rfl (by kernel_rfl) (by kernel_rfl) (by kernel_rfl) (fun _ _ _ h => h) (Or.inl ⟨by rfl, ?yy22⟩) (by assumption) ?rr22
  case yy22 => intro w hSw; (try dsimp only at hSw); go_simp; (try with_reducible rfl)
  try simp only [Act.put, List.setIfInBounds_toArray, List.set_cons_zero, List.set_cons_succ]
  refine' takeL (i := 1) (v := _) rfl (by kernel_rfl) (by kernel_rfl) (by kernel_rfl) (fun _ _ _ h => h) (Or.inl ⟨by rfl, ?yy23⟩) (by assumption) ?rr23
  case yy23 => intro w hSw; (try dsimp only at hSw); go_simp; (try with_reducible rfl)
  try simp only [Act.put, List.setIfInBounds_toArray, List.set_cons_zero, List.set_cons_succ]
  refine' takeL (i := 2) (v := _) rfl (by kernel_rfl) (by kernel_rfl) (by kernel_rfl) (fun _ _ _ h => h) (Or.inl ⟨by rfl, ?yy24⟩) (by assumption) ?rr24
  case yy24 => intro w hSw; (try dsimp only at hSw); go_simp; (try with_reducible rfl)
  try simp only [Act.put, List.setIfInBounds_toArray, List.set_cons_zero, List.set_cons_succ]
  refine' takeL (i := 3) (v := _) rfl (by kernel_rfl) (by kernel_rfl) (by kernel_rfl) (fun _ _ _ h => h) (Or.inl ⟨by rfl, ?yy25⟩) (by assumption) ?rr25
  case yy25 => intro w hSw; (try dsimp only at hSw); go_simp; (try with_reducible rfl)
  try simp only [Act.put, List.setIfInBounds_toArray, List.set_cons_zero, List.set_cons_succ]
  refine' takeL (i := 4) (v := _) rfl (by kernel_rfl) (by kernel_rfl) (by kernel_rfl) (fun _ _ _ h => h) (Or.inl ⟨by rfl, ?yy26⟩) (by assumption) ?rr26
  case yy26 => intro w hSw; (try dsimp only at hSw); go_simp; (try with_reducible rfl)
  try simp only [Act.put, List.setIfInBounds_toArray, List.set_cons_zero, List.set_cons_succ]
  refine' takeL (i := 5) (v := _) rfl (by kernel_rfl) (by kernel_rfl) (by kernel_rfl) (fun _ _ _ h => h) (Or.inl ⟨by rfl, ?yy27⟩) (by assumption) ?rr27
  case yy27 => intro w hSw; (try dsimp only at hSw); go_simp; (try with_reducible rfl)
  try simp only [Act.put, List.setIfInBounds_toArray, List.set_cons_zero, List.set_cons_succ]
  refine' takeL (i := 6) (v := .int .i64 (k : Int)) rfl (by kernel_rfl) (by kernel_rfl) (by kernel_rfl) (fun _ _ _ h => h) (Or.inl ⟨by rfl, ?yy28⟩) (by assumption) ?rr28
  case yy28 => intro w hSw; (try dsimp only at hSw); obtain ⟨rs', ps', hx⟩ := hSw; have hq := hx.ci (c := 3) (by omega); rw [HK.out] at hq; go_simp; (try with_reducible rfl)
  try simp only [Act.put, List.setIfInBounds_toArray, List.set_cons_zero, List.set_cons_succ]
  refine' takeL (i := 7) (v := .int .i64 (q : Int)) rfl (by kernel_rfl) (by kernel_rfl) (by kernel_rfl) (fun _ _ _ h => h) (Or.inl ⟨by rfl, ?yy29⟩) (by assumption) ?rr29
  case yy29 => intro w hSw; (try dsimp only at hSw); have e := hor; go_simp; (try with_reducible rfl)
  try simp only [Act.put, List.setIfInBounds_toArray, List.set_cons_zero, List.set_cons_succ]
  refine' takeL (i := 8) (v := _) rfl (by kernel_rfl) (by kernel_rfl) (by kernel_rfl) (fun _ _ _ h => h) (Or.inl ⟨by rfl, ?yy30⟩) (by assumption) ?rr30
  case yy30 => intro w hSw; (try dsimp only at hSw); go_simp; (try with_reducible rfl)
  try simp only [Act.put, List.setIfInBounds_toArray, List.set_cons_zero, List.set_cons_succ]
  refine' takeL (i := 9) (v := _) rfl (by kernel_rfl) (by kernel_rfl) (by kernel_rfl) (fun _ _ _ h => h) (Or.inl ⟨by rfl, ?yy31⟩) (by assumption) ?rr31
  case yy31 => intro w hSw; (try dsimp only at hSw); go_simp; (try with_reducible rfl)
  try simp only [Act.put, List.setIfInBounds_toArray, List.set_cons_zero, List.set_cons_succ]
  refine' takeL (i := 10) (v := _) rfl (by kernel_rfl) (by kernel_rfl) (by kernel_rfl) (fun _ _ _ h => h) (Or.inl ⟨by rfl, ?yy32⟩) (by assumption) ?rr32
  case yy32 => intro w hSw; (try dsimp only at hSw); go_simp; (try with_reducible rfl)
  try simp only [Act.put, List.setIfInBounds_toArray, List.set_cons_zero, List.set_cons_succ]
  refine' takeL (i := 11) (v := .int .u32 z) rfl (by kernel_rfl) (by kernel_rfl) (by kernel_rfl) (fun _ _ _ h => h) (Or.inl ⟨by rfl, ?yy33⟩) (by assumption) ?rr33
  case yy33 => intro w hSw; (try dsimp only at hSw); obtain ⟨rs', ps', hx⟩ := hSw; have hq := hx.co hq16; rw [HZ.out] at hq; go_simp; (try with_reducible rfl)
  try simp only [Act.put, List.setIfInBounds_toArray, List.set_cons_zero, List.set_cons_succ]
  refine' takeL (i := 14) (v := _) rfl (by kernel_rfl) (by kernel_rfl) (by kernel_rfl) (fun _ _ _ h => h) (Or.inl ⟨by rfl, ?yy34⟩) (by assumption) ?rr34
  case yy34 => intro w hSw; (try dsimp only at hSw); go_simp; (try with_reducible rfl)
  try simp only [Act.put, List.setIfInBounds_toArray, List.set_cons_zero, List.set_cons_succ]
  refine' takeL (i := 15) (v := _) rfl (by kernel_rfl) (by kernel_rfl) (by kernel_rfl) (fun _ _ _ h => h) (Or.inl ⟨by rfl, ?yy35⟩) (by assumption) ?rr35
  case yy35 => intro w hSw; (try dsimp only at hSw); go_simp; (try with_reducible rfl)
  try simp only [Act.put, List.setIfInBounds_toArray, List.set_cons_zero, List.set_cons_succ]
  refine' takeL (i := 16) (v := _) rfl (by kernel_rfl) (by kernel_rfl) (by kernel_rfl) (fun _ _ _ h => h) (Or.inl ⟨by rfl, ?yy36⟩) (by assumption) ?rr36
  case yy36 => intro w hSw; (try dsimp only at hSw); go_simp; (try with_reducible rfl)
  try simp only [Act.put, List.setIfInBounds_toArray, List.set_cons_zero, List.set_cons_succ]
  refine' takeL (i := 17) (v := _) rfl (by kernel_rfl) (by kernel_rfl) (by kernel_rfl) (fun _ _ _ h => h) (Or.inl ⟨by rfl, ?yy37⟩) (by assumption) ?rr37
  case yy37 => intro w hSw; (try dsimp only at hSw); go_simp; (try with_reducible rfl)
  try simp only [Act.put, List.setIfInBounds_toArray, List.set_cons_zero, List.set_cons_succ]
  refine' takeL (i := 18) (v := .int .i64 135) rfl (by kernel_rfl) (by kernel_rfl) (by kernel_rfl) (fun _ _ _ h => h) (Or.inl ⟨by rfl, ?yy38⟩) (by assumption) ?rr38
  case yy38 => intro w hSw; (try dsimp only at hSw); obtain ⟨rs', ps', hx⟩ := hSw; have hq := hx.ci (c := 0) (by omega); rw [H0.out] at hq; go_simp; (try with_reducible rfl)
  try simp only [Act.put, List.setIfInBounds_toArray, List.set_cons_zero, List.set_cons_succ]
  refine' takeL (i := 19) (v := _) rfl (by kernel_rfl) (by kernel_rfl) (by kernel_rfl) (fun _ _ _ h => h) (Or.inl ⟨by rfl, ?yy39⟩) (by assumption) ?rr39
  case yy39 => intro w hSw; (try dsimp only at hSw); go_simp; (try with_reducible rfl)
  try simp only [Act.put, List.setIfInBounds_toArray, List.set_cons_zero, List.set_cons_succ]
  refine wpAnyH_ready (rs := [12]) (by kernel_rfl) (by simp) ?_
  refine consL rfl (fun K hK => ?_) AllReadyH.nil
  go_simp
  go_at_call 55
  refine (CC.out _).mono ?_
  rintro e w5 ⟨rfl, hw5⟩
  subst hw5
  go_wp2_with fail
  refine hK.out _ _ ?_ (fun hHeld => ?_)
  · (try dsimp only); exact hHeld
  clear hK K
  try simp only [Act.put, List.setIfInBounds_toArray, List.set_cons_zero, List.set_cons_succ]
  refine' takeL (i := 13) (v := .bool t0) rfl (by kernel_rfl) (by kernel_rfl) (by kernel_rfl) (fun _ _ _ h => h) (Or.inl ⟨by rfl, ?yy40⟩) (by assumption) ?rr40
  case yy40 => intro w hSw; (try dsimp only at hSw); have e := ht; go_simp; (try with_reducible rfl)
  try simp only [Act.put, List.setIfInBounds_toArray, List.set_cons_zero, List.set_cons_succ]
  refine' takeL (i := 20) (v := .bool t) rfl (by kernel_rfl) (by kernel_rfl) (by kernel_rfl) (fun _ _ _ h => h) (Or.inl ⟨by rfl, ?yy41⟩) (by assumption) ?rr41
  case yy41 => intro w hSw; (try dsimp only at hSw); have e := htt; go_simp; (try with_reducible rfl)
  try simp only [Act.put, List.setIfInBounds_toArray, List.set_cons_zero, List.set_cons_succ]
  refine' takeL (i := 21) (v := _) rfl (by kernel_rfl) (by kernel_rfl) (by kernel_rfl) (fun _ _ _ h => h) (Or.inl ⟨by rfl, ?yy42⟩) (by assumption) ?rr42
  case yy42 => intro w hSw; (try dsimp only at hSw); go_simp; (try with_reducible rfl)
  try simp only [Act.put, List.setIfInBounds_toArray, List.set_cons_zero, List.set_cons_succ]
  refine wpAnyH_done (by kernel_rfl) ?_ _
  go_upto_region 20 with fail
  clear hor ht htt
  go_upto_region 21 with (go_at_call 44; refine (SC.out _ _ ((HM.out.setr hn16 s).drewN 4)).mono ?_; rintro e W2 ⟨rfl, hcs⟩; have M2 := Lib.hid (((HM.out.setr hn16 s).drewN 4).ch hcs); have C2 := Lib.hid ((((Ch.refl w [g]).setCell (p := ⟨g, 28 + n, none⟩) (by simp) (.int .u32 s)).drewN 4).trans (hcs.mono (by simp))); clear hcs)
  have t1 := M2.out.m.ci (c := 1) (by omega)
  rw [HF.out] at t1
  have t9 := M2.out.m.cp (n := 9) (by omega)
  have f9 := M2.out.m.free 53
  cases t
  · go_wp2
    first | go_end0 | refine bodyPost_ret (results_none rfl _ _ _) rfl ?_
    exact ⟨rfl, HR.out _ ⟨by rw [if_neg (by simp)]; exact M2.out, C2.out⟩⟩
  · go_wp2
    first | go_end0 | refine bodyPost_ret (results_none rfl _ _ _) rfl ?_
    exact ⟨rfl, HR.out _ ⟨by rw [if_pos (by simp)]; exact M2.out.setp (n := 9) (by omega) _, C2.out.setCell (by simp) _⟩⟩
end Go.Proofs.Ythjdjbipfdigeaa

