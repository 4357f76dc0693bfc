/- THE WALK of GeneralSaves: it returns true and writes nothing that was there. Conditions: the numbers' own. -/
import Derived.Test.YthjdjbipfdigeaaGe21
import Derived.Test.YthjdjbipfdigeaaRow
namespace Go.Proofs.Ythjdjbipfdigeaa
open Go.RowKit
set_option maxRecDepth 100000
set_option linter.unusedVariables false
set_option linter.unusedSimpArgs false
attribute [local go_sem] eqr_run eqr_guard eqr_refl eqp_run eqp_guard eqp_refl
theorem list16s {α : Type} : ∀ {l : List α}, l.length = 16 → ∃ q0 q1 q2 q3 q4 q5 q6 q7 q8 q9 q10 q11 q12 q13 q14 q15, l = [q0, q1, q2, q3, q4, q5, q6, q7, q8, q9, q10, q11, q12, q13, q14, q15]
  | [q0, q1, q2, q3, q4, q5, q6, q7, q8, q9, q10, q11, q12, q13, q14, q15], _ => ⟨q0, q1, q2, q3, q4, q5, q6, q7, q8, q9, q10, q11, q12, q13, q14, q15, rfl⟩
theorem Bk.at_ {W : World} {g : Nat} {T : TypeId} {l : List Int} (h : Bk W g T (l.map (Value.int .u32))) {k : Nat} (hk : k < l.length) : W.cell? ⟨g, k, none⟩ = some (.int .u32 (l.getD k 0)) := by
  rw [cell_blk h k, List.getElem?_toArray, List.getElem?_map, List.getD_eq_getElem?_getD, List.getElem?_eq_getElem hk]; rfl
set_option maxRecDepth 1000000 in
set_option maxHeartbeats 4000000 in
theorem generalSaves_go (a0 a1 a2 a3 a4 a5 a6 a7 a8 a9 a10 a11 a12 a13 a14 a15 : Int) (b0 b1 b2 b3 b4 b5 b6 b7 b8 b9 b10 b11 b12 b13 b14 b15 : Int) (q0 q1 q2 q3 q4 q5 q6 q7 q8 q9 q10 q11 q12 q13 q14 q15 : Int) (nn : Int) (n m : Nat) (w : World) (h0 : 0 ≤ nn) (h1 : nn ≤ 255) (hn : nn / 16 = (n : Int)) (hm : nn % 16 = (m : Int)) (ro : ∀ z ∈ [a0, a1, a2, a3, a4, a5, a6, a7, a8, a9, a10, a11, a12, a13, a14, a15], 0 ≤ z ∧ z ≤ 4294967295) (rn : ∀ z ∈ [b0, b1, b2, b3, b4, b5, b6, b7, b8, b9, b10, b11, b12, b13, b14, b15], 0 ≤ z ∧ z ≤ 4294967295) (hq : lmR [b0, b1, b2, b3, b4, b5, b6, b7, b8, b9, b10, b11, b12, b13, b14, b15] n (sGet (sPut (alP 0) (z0 2048) (z0 1) 512 (stB [a0, a1, a2, a3, a4, a5, a6, a7, a8, a9, a10, a11, a12, a13, a14, a15] n ((m + 16 - n) % 16 + 1))) 512 ((4 * ((m + 16 - n) % 16 + 1) : Nat) : Int)) ((m + 16 - n) % 16 + 1) = [q0, q1, q2, q3, q4, q5, q6, q7, q8, q9, q10, q11, q12, q13, q14, q15]) : Calls Try.prog 5 #[.agg #[.int .u32 a0, .int .u32 a1, .int .u32 a2, .int .u32 a3, .int .u32 a4, .int .u32 a5, .int .u32 a6, .int .u32 a7, .int .u32 a8, .int .u32 a9, .int .u32 a10, .int .u32 a11, .int .u32 a12, .int .u32 a13, .int .u32 a14, .int .u32 a15], .agg #[.int .u32 b0, .int .u32 b1, .int .u32 b2, .int .u32 b3, .int .u32 b4, .int .u32 b5, .int .u32 b6, .int .u32 b7, .int .u32 b8, .int .u32 b9, .int .u32 b10, .int .u32 b11, .int .u32 b12, .int .u32 b13, .int .u32 b14, .int .u32 b15], .int .u8 nn] w fun e w' => e = .returned (.bool true) ∧ Below w.heap.size w w' := by
  have hn16 : n < 16 := by omega
  have hm16 : m < 16 := by omega
  have hzl : (z0 2048).length = 2048 := z0_len 2048
  have SV := Lib.hid (fun j (hj : j < 16) => saved [b0, b1, b2, b3, b4, b5, b6, b7, b8, b9, b10, b11, b12, b13, b14, b15] [a0, a1, a2, a3, a4, a5, a6, a7, a8, a9, a10, a11, a12, a13, a14, a15] (z0 2048) (z0 1) n m hn16 hm16 rfl ro (by rw [hzl]; omega) j hj)
  rw [hq] at SV
  have R1 := Lib.hid (fun F W => run_stm n m F (z0 2048) (z0 1) hn16 hm16 a0 a1 a2 a3 a4 a5 a6 a7 a8 a9 a10 a11 a12 a13 a14 a15 ro (by rw [hzl]; omega) W)
  have hpl : 1024 ≤ (sPut (alP 0) (z0 2048) (z0 1) 512 (stB [a0, a1, a2, a3, a4, a5, a6, a7, a8, a9, a10, a11, a12, a13, a14, a15] n ((m + 16 - n) % 16 + 1))).length := by
    have hl := stB_len [a0, a1, a2, a3, a4, a5, a6, a7, a8, a9, a10, a11, a12, a13, a14, a15] n ((m + 16 - n) % 16 + 1)
    have := sPut_len (z0 2048) (z0 1) (stB [a0, a1, a2, a3, a4, a5, a6, a7, a8, a9, a10, a11, a12, a13, a14, a15] n ((m + 16 - n) % 16 + 1)) 512 (by omega)
    rw [show sPut (alP 0) (z0 2048) (z0 1) ((512 : Nat) : Int) (stB [a0, a1, a2, a3, a4, a5, a6, a7, a8, a9, a10, a11, a12, a13, a14, a15] n ((m + 16 - n) % 16 + 1)) = sPut (alP 0) (z0 2048) (z0 1) 512 (stB [a0, a1, a2, a3, a4, a5, a6, a7, a8, a9, a10, a11, a12, a13, a14, a15] n ((m + 16 - n) % 16 + 1)) from rfl] at this
    omega
  have R2 := Lib.hid (fun F W => run_lm n m F _ (z0 1) hn16 hm16 b0 b1 b2 b3 b4 b5 b6 b7 b8 b9 b10 b11 b12 b13 b14 b15 q0 q1 q2 q3 q4 q5 q6 q7 q8 q9 q10 q11 q12 q13 q14 q15 rn hpl hq W)
  obtain ⟨bs1, hb1⟩ : ∃ b, sPut (alP 0) (z0 2048) (z0 1) 512 (stB [a0, a1, a2, a3, a4, a5, a6, a7, a8, a9, a10, a11, a12, a13, a14, a15] n ((m + 16 - n) % 16 + 1)) = b := ⟨_, rfl⟩
  rw [hb1] at R1 R2
  have N16 := Lib.hid hn16
  have M16 := Lib.hid hm16
  clear hq hb1 hpl ro rn hzl hn16 hm16
  have NC := Lib.hid (fun W => new_yes 1 (by omega) (by omega) W)
  rw [show (((2048 * 1 : Nat) : Int)) = 2048 from rfl] at NC
  go_enter Try.func5, Try.ntmps5
  go_upto_region 1 with fail
  have HB_0 := Lib.hid (Below.refl w.heap.size w)
  obtain ⟨W1, hW⟩ : ∃ W1, ((w.alloc (.cells #[.int .u32 a0, .int .u32 a1, .int .u32 a2, .int .u32 a3, .int .u32 a4, .int .u32 a5, .int .u32 a6, .int .u32 a7, .int .u32 a8, .int .u32 a9, .int .u32 a10, .int .u32 a11, .int .u32 a12, .int .u32 a13, .int .u32 a14, .int .u32 a15] 28)).alloc (.cells #[.int .u32 b0, .int .u32 b1, .int .u32 b2, .int .u32 b3, .int .u32 b4, .int .u32 b5, .int .u32 b6, .int .u32 b7, .int .u32 b8, .int .u32 b9, .int .u32 b10, .int .u32 b11, .int .u32 b12, .int .u32 b13, .int .u32 b14, .int .u32 b15] 28)) = W1 := ⟨_, rfl⟩
  have O_1 : Hid (Bk W1 (w.heap.size) 28 [.int .u32 a0, .int .u32 a1, .int .u32 a2, .int .u32 a3, .int .u32 a4, .int .u32 a5, .int .u32 a6, .int .u32 a7, .int .u32 a8, .int .u32 a9, .int .u32 a10, .int .u32 a11, .int .u32 a12, .int .u32 a13, .int .u32 a14, .int .u32 a15]) := by
    rw [← hW]
    have hq := Bk.new w [.int .u32 a0, .int .u32 a1, .int .u32 a2, .int .u32 a3, .int .u32 a4, .int .u32 a5, .int .u32 a6, .int .u32 a7, .int .u32 a8, .int .u32 a9, .int .u32 a10, .int .u32 a11, .int .u32 a12, .int .u32 a13, .int .u32 a14, .int .u32 a15] 28
    exact hq.alloc _
  have N_1 : Hid (Bk W1 (w.heap.size + 1) 28 [.int .u32 b0, .int .u32 b1, .int .u32 b2, .int .u32 b3, .int .u32 b4, .int .u32 b5, .int .u32 b6, .int .u32 b7, .int .u32 b8, .int .u32 b9, .int .u32 b10, .int .u32 b11, .int .u32 b12, .int .u32 b13, .int .u32 b14, .int .u32 b15]) := by
    rw [← hW]
    have hq := Bk.new (w.alloc (.cells #[.int .u32 a0, .int .u32 a1, .int .u32 a2, .int .u32 a3, .int .u32 a4, .int .u32 a5, .int .u32 a6, .int .u32 a7, .int .u32 a8, .int .u32 a9, .int .u32 a10, .int .u32 a11, .int .u32 a12, .int .u32 a13, .int .u32 a14, .int .u32 a15] 28)) [.int .u32 b0, .int .u32 b1, .int .u32 b2, .int .u32 b3, .int .u32 b4, .int .u32 b5, .int .u32 b6, .int .u32 b7, .int .u32 b8, .int .u32 b9, .int .u32 b10, .int .u32 b11, .int .u32 b12, .int .u32 b13, .int .u32 b14, .int .u32 b15] 28
    rw [World.size_alloc] at hq
    exact hq
  have HB_1 : Hid (Below w.heap.size w W1) := by rw [← hW]; exact (Below.alloc (Below.alloc HB_0.out (by first | (have := HB_0.out.size; omega) | (simp; done) | (simp; have := HB_0.out.size; omega)) _) (by first | (have := HB_0.out.size; omega) | (simp; done) | (simp; have := HB_0.out.size; omega)) _)
  try rw [hW]
  clear hW HB_0 
  have hlt1 := N_1.out.lt
  obtain ⟨V1_, hV1_⟩ : ∃ V, Value.agg #[.int .u32 a0, .int .u32 a1, .int .u32 a2, .int .u32 a3, .int .u32 a4, .int .u32 a5, .int .u32 a6, .int .u32 a7, .int .u32 a8, .int .u32 a9, .int .u32 a10, .int .u32 a11, .int .u32 a12, .int .u32 a13, .int .u32 a14, .int .u32 a15] = V := ⟨_, rfl⟩
  try simp only [hV1_]
  clear hV1_
  obtain ⟨V2_, hV2_⟩ : ∃ V, Value.agg #[.int .u32 b0, .int .u32 b1, .int .u32 b2, .int .u32 b3, .int .u32 b4, .int .u32 b5, .int .u32 b6, .int .u32 b7, .int .u32 b8, .int .u32 b9, .int .u32 b10, .int .u32 b11, .int .u32 b12, .int .u32 b13, .int .u32 b14, .int .u32 b15] = V := ⟨_, rfl⟩
  try simp only [hV2_]
  clear hV2_
  go_wp2_with fail
  refine (NC.out _).mono ?_
  rintro e w2 ⟨vv, rfl, F, rfl, hS, hb, hF1, hF2, hF3⟩
  have S1 := Lib.hid hS
  clear hS
  have O_2 := Lib.hid (O_1.out.keep hb)
  have N_2 := Lib.hid (N_1.out.keep hb)
  have HB_2 := Lib.hid (HB_1.out.trans (hb.mono HB_1.out.size))
  clear hb HB_1 O_1 N_1
  go_wp2_with fail
  refine (works_c _).mono ?_
  rintro e w3 ⟨rfl, hb⟩
  have S2 := Lib.hid (S1.out.belowS hb)
  clear S1
  have O_3 := Lib.hid (O_2.out.keep hb)
  have N_3 := Lib.hid (N_2.out.keep hb)
  have HB_3 := Lib.hid (HB_2.out.trans (hb.mono HB_2.out.size))
  clear hb HB_2 O_2 N_2
  go_upto_region 6 with fail
  refine saves_reg6 (n := n) (m := m) (sp := F.g) (R := fun w' => St 71 w' F bs1 (z0 1) ∧ Ch w3 w' [F.gb]) (by kernel_rfl) O_3.out ((R1.out F _ S2.out).mono fun _ _ hr => hr) ?_
  intro w4 _ _ _ _ _ _ _ _ _ _ _ hR
  obtain ⟨hS3, hC3⟩ := hR
  have S3 := Lib.hid hS3
  have O_4 := Lib.hid (O_3.out.ch hC3 (by first | (simp; omega) | (intro hz; simp at hz; omega)))
  have N_4 := Lib.hid (N_3.out.ch hC3 (by first | (simp; omega) | (intro hz; simp at hz; omega)))
  have HB_4 := Lib.hid (HB_3.out.trans (hC3.below HB_3.out.size (by intro z hz; simp at hz; omega)))
  clear hS3 hC3 S2 HB_3 O_3 N_3
  go_upto_region 7 with fail
  have S4 := Lib.hid ((S3.out.alloc (.cells #[.int .u32 a0, .int .u32 a1, .int .u32 a2, .int .u32 a3, .int .u32 a4, .int .u32 a5, .int .u32 a6, .int .u32 a7, .int .u32 a8, .int .u32 a9, .int .u32 a10, .int .u32 a11, .int .u32 a12, .int .u32 a13, .int .u32 a14, .int .u32 a15] 28)).alloc (.cells #[.int .i64 0, .int .i64 0, .bool false, .bool false, .bool false, .int .i64 0, .int .i64 0, .int .i64 0, .int .i64 0, .int .i64 0] 30))
  obtain ⟨W5, hW⟩ : ∃ W5, ((w4.alloc (.cells #[.int .u32 a0, .int .u32 a1, .int .u32 a2, .int .u32 a3, .int .u32 a4, .int .u32 a5, .int .u32 a6, .int .u32 a7, .int .u32 a8, .int .u32 a9, .int .u32 a10, .int .u32 a11, .int .u32 a12, .int .u32 a13, .int .u32 a14, .int .u32 a15] 28)).alloc (.cells #[.int .i64 0, .int .i64 0, .bool false, .bool false, .bool false, .int .i64 0, .int .i64 0, .int .i64 0, .int .i64 0, .int .i64 0] 30)) = W5 := ⟨_, rfl⟩
  have O_5 : Hid (Bk W5 (w.heap.size) 28 [.int .u32 a0, .int .u32 a1, .int .u32 a2, .int .u32 a3, .int .u32 a4, .int .u32 a5, .int .u32 a6, .int .u32 a7, .int .u32 a8, .int .u32 a9, .int .u32 a10, .int .u32 a11, .int .u32 a12, .int .u32 a13, .int .u32 a14, .int .u32 a15]) := by rw [← hW]; exact ((O_4.out.alloc _).alloc _)
  have N_5 : Hid (Bk W5 (w.heap.size + 1) 28 [.int .u32 b0, .int .u32 b1, .int .u32 b2, .int .u32 b3, .int .u32 b4, .int .u32 b5, .int .u32 b6, .int .u32 b7, .int .u32 b8, .int .u32 b9, .int .u32 b10, .int .u32 b11, .int .u32 b12, .int .u32 b13, .int .u32 b14, .int .u32 b15]) := by rw [← hW]; exact ((N_4.out.alloc _).alloc _)
  have R_5 : Hid (Bk W5 (w4.heap.size) 28 [.int .u32 a0, .int .u32 a1, .int .u32 a2, .int .u32 a3, .int .u32 a4, .int .u32 a5, .int .u32 a6, .int .u32 a7, .int .u32 a8, .int .u32 a9, .int .u32 a10, .int .u32 a11, .int .u32 a12, .int .u32 a13, .int .u32 a14, .int .u32 a15]) := by
    rw [← hW]
    have hq := Bk.new w4 [.int .u32 a0, .int .u32 a1, .int .u32 a2, .int .u32 a3, .int .u32 a4, .int .u32 a5, .int .u32 a6, .int .u32 a7, .int .u32 a8, .int .u32 a9, .int .u32 a10, .int .u32 a11, .int .u32 a12, .int .u32 a13, .int .u32 a14, .int .u32 a15] 28
    exact hq.alloc _
  have P_5 : Hid (Bk W5 (w4.heap.size + 1) 30 [.int .i64 0, .int .i64 0, .bool false, .bool false, .bool false, .int .i64 0, .int .i64 0, .int .i64 0, .int .i64 0, .int .i64 0]) := by
    rw [← hW]
    have hq := Bk.new (w4.alloc (.cells #[.int .u32 a0, .int .u32 a1, .int .u32 a2, .int .u32 a3, .int .u32 a4, .int .u32 a5, .int .u32 a6, .int .u32 a7, .int .u32 a8, .int .u32 a9, .int .u32 a10, .int .u32 a11, .int .u32 a12, .int .u32 a13, .int .u32 a14, .int .u32 a15] 28)) [.int .i64 0, .int .i64 0, .bool false, .bool false, .bool false, .int .i64 0, .int .i64 0, .int .i64 0, .int .i64 0, .int .i64 0] 30
    rw [World.size_alloc] at hq
    exact hq
  have HB_5 : Hid (Below w.heap.size w W5) := by rw [← hW]; exact (Below.alloc (Below.alloc HB_4.out (by first | (have := HB_4.out.size; omega) | (simp; done) | (simp; have := HB_4.out.size; omega)) _) (by first | (have := HB_4.out.size; omega) | (simp; done) | (simp; have := HB_4.out.size; omega)) _)
  rw [hW] at S4
  try rw [hW]
  clear hW HB_4 O_4 N_4
  obtain ⟨V3_, hV3_⟩ : ∃ V, Value.agg #[.int .u32 a0, .int .u32 a1, .int .u32 a2, .int .u32 a3, .int .u32 a4, .int .u32 a5, .int .u32 a6, .int .u32 a7, .int .u32 a8, .int .u32 a9, .int .u32 a10, .int .u32 a11, .int .u32 a12, .int .u32 a13, .int .u32 a14, .int .u32 a15] = V := ⟨_, rfl⟩
  try simp only [hV3_]
  clear hV3_
  obtain ⟨V4_, hV4_⟩ : ∃ V, Value.agg #[.int .i64 0, .int .i64 0, .bool false, .bool false, .bool false, .int .i64 0, .int .i64 0, .int .i64 0, .int .i64 0, .int .i64 0] = V := ⟨_, rfl⟩
  try simp only [hV4_]
  clear hV4_
  refine saves_reg7 (n := n) (m := m) (sp := F.g) (R := fun w' => Below W5.heap.size W5 w') (by kernel_rfl) N_5.out ((R2.out F _ S4.out).mono fun _ _ hr => hr) ?_
  intro w6 _ _ _ _ _ _ _ _ _ _ _ hb
  clear S3 S4
  have O_6 := Lib.hid (O_5.out.keep hb)
  have N_6 := Lib.hid (N_5.out.keep hb)
  have R_6 := Lib.hid (R_5.out.keep hb)
  have P_6 := Lib.hid (P_5.out.keep hb)
  have HB_6 := Lib.hid (HB_5.out.trans (hb.mono HB_5.out.size))
  clear hb HB_5 O_5 N_5 R_5 P_5
  go_upto_region 8 with fail
  obtain ⟨W7, hW⟩ : ∃ W7, ((w6.alloc (.cells #[.int .u32 q0, .int .u32 q1, .int .u32 q2, .int .u32 q3, .int .u32 q4, .int .u32 q5, .int .u32 q6, .int .u32 q7, .int .u32 q8, .int .u32 q9, .int .u32 q10, .int .u32 q11, .int .u32 q12, .int .u32 q13, .int .u32 q14, .int .u32 q15] 28)).alloc (.cells #[.int .i64 0, .int .i64 0, .bool false, .bool false, .bool false, .int .i64 0, .int .i64 0, .int .i64 0, .int .i64 0, .int .i64 0] 30)) = W7 := ⟨_, rfl⟩
  have O_7 : Hid (Bk W7 (w.heap.size) 28 [.int .u32 a0, .int .u32 a1, .int .u32 a2, .int .u32 a3, .int .u32 a4, .int .u32 a5, .int .u32 a6, .int .u32 a7, .int .u32 a8, .int .u32 a9, .int .u32 a10, .int .u32 a11, .int .u32 a12, .int .u32 a13, .int .u32 a14, .int .u32 a15]) := by rw [← hW]; exact ((O_6.out.alloc _).alloc _)
  have N_7 : Hid (Bk W7 (w.heap.size + 1) 28 [.int .u32 b0, .int .u32 b1, .int .u32 b2, .int .u32 b3, .int .u32 b4, .int .u32 b5, .int .u32 b6, .int .u32 b7, .int .u32 b8, .int .u32 b9, .int .u32 b10, .int .u32 b11, .int .u32 b12, .int .u32 b13, .int .u32 b14, .int .u32 b15]) := by rw [← hW]; exact ((N_6.out.alloc _).alloc _)
  have R_7 : Hid (Bk W7 (w4.heap.size) 28 [.int .u32 a0, .int .u32 a1, .int .u32 a2, .int .u32 a3, .int .u32 a4, .int .u32 a5, .int .u32 a6, .int .u32 a7, .int .u32 a8, .int .u32 a9, .int .u32 a10, .int .u32 a11, .int .u32 a12, .int .u32 a13, .int .u32 a14, .int .u32 a15]) := by rw [← hW]; exact ((R_6.out.alloc _).alloc _)
  have P_7 : Hid (Bk W7 (w4.heap.size + 1) 30 [.int .i64 0, .int .i64 0, .bool false, .bool false, .bool false, .int .i64 0, .int .i64 0, .int .i64 0, .int .i64 0, .int .i64 0]) := by rw [← hW]; exact ((P_6.out.alloc _).alloc _)
  have Q_7 : Hid (Bk W7 (w6.heap.size) 28 [.int .u32 q0, .int .u32 q1, .int .u32 q2, .int .u32 q3, .int .u32 q4, .int .u32 q5, .int .u32 q6, .int .u32 q7, .int .u32 q8, .int .u32 q9, .int .u32 q10, .int .u32 q11, .int .u32 q12, .int .u32 q13, .int .u32 q14, .int .u32 q15]) := by
    rw [← hW]
    have hq := Bk.new w6 [.int .u32 q0, .int .u32 q1, .int .u32 q2, .int .u32 q3, .int .u32 q4, .int .u32 q5, .int .u32 q6, .int .u32 q7, .int .u32 q8, .int .u32 q9, .int .u32 q10, .int .u32 q11, .int .u32 q12, .int .u32 q13, .int .u32 q14, .int .u32 q15] 28
    exact hq.alloc _
  have T_7 : Hid (Bk W7 (w6.heap.size + 1) 30 [.int .i64 0, .int .i64 0, .bool false, .bool false, .bool false, .int .i64 0, .int .i64 0, .int .i64 0, .int .i64 0, .int .i64 0]) := by
    rw [← hW]
    have hq := Bk.new (w6.alloc (.cells #[.int .u32 q0, .int .u32 q1, .int .u32 q2, .int .u32 q3, .int .u32 q4, .int .u32 q5, .int .u32 q6, .int .u32 q7, .int .u32 q8, .int .u32 q9, .int .u32 q10, .int .u32 q11, .int .u32 q12, .int .u32 q13, .int .u32 q14, .int .u32 q15] 28)) [.int .i64 0, .int .i64 0, .bool false, .bool false, .bool false, .int .i64 0, .int .i64 0, .int .i64 0, .int .i64 0, .int .i64 0] 30
    rw [World.size_alloc] at hq
    exact hq
  have HB_7 : Hid (Below w.heap.size w W7) := by rw [← hW]; exact (Below.alloc (Below.alloc HB_6.out (by first | (have := HB_6.out.size; omega) | (simp; done) | (simp; have := HB_6.out.size; omega)) _) (by first | (have := HB_6.out.size; omega) | (simp; done) | (simp; have := HB_6.out.size; omega)) _)
  try rw [hW]
  clear hW HB_6 O_6 N_6 R_6 P_6
  obtain ⟨V5_, hV5_⟩ : ∃ V, Value.agg #[.int .u32 b0, .int .u32 b1, .int .u32 b2, .int .u32 b3, .int .u32 b4, .int .u32 b5, .int .u32 b6, .int .u32 b7, .int .u32 b8, .int .u32 b9, .int .u32 b10, .int .u32 b11, .int .u32 b12, .int .u32 b13, .int .u32 b14, .int .u32 b15] = V := ⟨_, rfl⟩
  try simp only [hV5_]
  clear hV5_
  obtain ⟨V6_, hV6_⟩ : ∃ V, Value.agg #[.int .u32 q0, .int .u32 q1, .int .u32 q2, .int .u32 q3, .int .u32 q4, .int .u32 q5, .int .u32 q6, .int .u32 q7, .int .u32 q8, .int .u32 q9, .int .u32 q10, .int .u32 q11, .int .u32 q12, .int .u32 q13, .int .u32 q14, .int .u32 q15] = V := ⟨_, rfl⟩
  try simp only [hV6_]
  clear hV6_
  obtain ⟨V7_, hV7_⟩ : ∃ V, Value.agg #[.int .i64 0, .int .i64 0, .bool false, .bool false, .bool false, .int .i64 0, .int .i64 0, .int .i64 0, .int .i64 0, .int .i64 0] = V := ⟨_, rfl⟩
  try simp only [hV7_]
  clear hV7_
  have kr0 : W7.cell? ⟨w4.heap.size, 0, none⟩ = some (.int .u32 a0) := R_7.out.cell (c := 0) rfl
  have kr1 : W7.cell? ⟨w4.heap.size, 1, none⟩ = some (.int .u32 a1) := R_7.out.cell (c := 1) rfl
  have kr2 : W7.cell? ⟨w4.heap.size, 2, none⟩ = some (.int .u32 a2) := R_7.out.cell (c := 2) rfl
  have kr3 : W7.cell? ⟨w4.heap.size, 3, none⟩ = some (.int .u32 a3) := R_7.out.cell (c := 3) rfl
  have kr4 : W7.cell? ⟨w4.heap.size, 4, none⟩ = some (.int .u32 a4) := R_7.out.cell (c := 4) rfl
  have kr5 : W7.cell? ⟨w4.heap.size, 5, none⟩ = some (.int .u32 a5) := R_7.out.cell (c := 5) rfl
  have kr6 : W7.cell? ⟨w4.heap.size, 6, none⟩ = some (.int .u32 a6) := R_7.out.cell (c := 6) rfl
  have kr7 : W7.cell? ⟨w4.heap.size, 7, none⟩ = some (.int .u32 a7) := R_7.out.cell (c := 7) rfl
  have kr8 : W7.cell? ⟨w4.heap.size, 8, none⟩ = some (.int .u32 a8) := R_7.out.cell (c := 8) rfl
  have kr9 : W7.cell? ⟨w4.heap.size, 9, none⟩ = some (.int .u32 a9) := R_7.out.cell (c := 9) rfl
  have kr10 : W7.cell? ⟨w4.heap.size, 10, none⟩ = some (.int .u32 a10) := R_7.out.cell (c := 10) rfl
  have kr11 : W7.cell? ⟨w4.heap.size, 11, none⟩ = some (.int .u32 a11) := R_7.out.cell (c := 11) rfl
  have kr12 : W7.cell? ⟨w4.heap.size, 12, none⟩ = some (.int .u32 a12) := R_7.out.cell (c := 12) rfl
  have kr13 : W7.cell? ⟨w4.heap.size, 13, none⟩ = some (.int .u32 a13) := R_7.out.cell (c := 13) rfl
  have kr14 : W7.cell? ⟨w4.heap.size, 14, none⟩ = some (.int .u32 a14) := R_7.out.cell (c := 14) rfl
  have kr15 : W7.cell? ⟨w4.heap.size, 15, none⟩ = some (.int .u32 a15) := R_7.out.cell (c := 15) rfl
  have ko0 : W7.cell? ⟨w.heap.size, 0, none⟩ = some (.int .u32 a0) := O_7.out.cell (c := 0) rfl
  have ko1 : W7.cell? ⟨w.heap.size, 1, none⟩ = some (.int .u32 a1) := O_7.out.cell (c := 1) rfl
  have ko2 : W7.cell? ⟨w.heap.size, 2, none⟩ = some (.int .u32 a2) := O_7.out.cell (c := 2) rfl
  have ko3 : W7.cell? ⟨w.heap.size, 3, none⟩ = some (.int .u32 a3) := O_7.out.cell (c := 3) rfl
  have ko4 : W7.cell? ⟨w.heap.size, 4, none⟩ = some (.int .u32 a4) := O_7.out.cell (c := 4) rfl
  have ko5 : W7.cell? ⟨w.heap.size, 5, none⟩ = some (.int .u32 a5) := O_7.out.cell (c := 5) rfl
  have ko6 : W7.cell? ⟨w.heap.size, 6, none⟩ = some (.int .u32 a6) := O_7.out.cell (c := 6) rfl
  have ko7 : W7.cell? ⟨w.heap.size, 7, none⟩ = some (.int .u32 a7) := O_7.out.cell (c := 7) rfl
  have ko8 : W7.cell? ⟨w.heap.size, 8, none⟩ = some (.int .u32 a8) := O_7.out.cell (c := 8) rfl
  have ko9 : W7.cell? ⟨w.heap.size, 9, none⟩ = some (.int .u32 a9) := O_7.out.cell (c := 9) rfl
  have ko10 : W7.cell? ⟨w.heap.size, 10, none⟩ = some (.int .u32 a10) := O_7.out.cell (c := 10) rfl
  have ko11 : W7.cell? ⟨w.heap.size, 11, none⟩ = some (.int .u32 a11) := O_7.out.cell (c := 11) rfl
  have ko12 : W7.cell? ⟨w.heap.size, 12, none⟩ = some (.int .u32 a12) := O_7.out.cell (c := 12) rfl
  have ko13 : W7.cell? ⟨w.heap.size, 13, none⟩ = some (.int .u32 a13) := O_7.out.cell (c := 13) rfl
  have ko14 : W7.cell? ⟨w.heap.size, 14, none⟩ = some (.int .u32 a14) := O_7.out.cell (c := 14) rfl
  have ko15 : W7.cell? ⟨w.heap.size, 15, none⟩ = some (.int .u32 a15) := O_7.out.cell (c := 15) rfl
  have kp0 : W7.cell? ⟨w4.heap.size + 1, 0, none⟩ = some (.int .i64 0) := P_7.out.cell (c := 0) rfl
  have kp1 : W7.cell? ⟨w4.heap.size + 1, 1, none⟩ = some (.int .i64 0) := P_7.out.cell (c := 1) rfl
  have kp2 : W7.cell? ⟨w4.heap.size + 1, 2, none⟩ = some (.bool false) := P_7.out.cell (c := 2) rfl
  have kp3 : W7.cell? ⟨w4.heap.size + 1, 3, none⟩ = some (.bool false) := P_7.out.cell (c := 3) rfl
  have kp4 : W7.cell? ⟨w4.heap.size + 1, 4, none⟩ = some (.bool false) := P_7.out.cell (c := 4) rfl
  have kp5 : W7.cell? ⟨w4.heap.size + 1, 5, none⟩ = some (.int .i64 0) := P_7.out.cell (c := 5) rfl
  have kp6 : W7.cell? ⟨w4.heap.size + 1, 6, none⟩ = some (.int .i64 0) := P_7.out.cell (c := 6) rfl
  have kp7 : W7.cell? ⟨w4.heap.size + 1, 7, none⟩ = some (.int .i64 0) := P_7.out.cell (c := 7) rfl
  have kp8 : W7.cell? ⟨w4.heap.size + 1, 8, none⟩ = some (.int .i64 0) := P_7.out.cell (c := 8) rfl
  have kp9 : W7.cell? ⟨w4.heap.size + 1, 9, none⟩ = some (.int .i64 0) := P_7.out.cell (c := 9) rfl
  have kt0 : W7.cell? ⟨w6.heap.size + 1, 0, none⟩ = some (.int .i64 0) := T_7.out.cell (c := 0) rfl
  have kt1 : W7.cell? ⟨w6.heap.size + 1, 1, none⟩ = some (.int .i64 0) := T_7.out.cell (c := 1) rfl
  have kt2 : W7.cell? ⟨w6.heap.size + 1, 2, none⟩ = some (.bool false) := T_7.out.cell (c := 2) rfl
  have kt3 : W7.cell? ⟨w6.heap.size + 1, 3, none⟩ = some (.bool false) := T_7.out.cell (c := 3) rfl
  have kt4 : W7.cell? ⟨w6.heap.size + 1, 4, none⟩ = some (.bool false) := T_7.out.cell (c := 4) rfl
  have kt5 : W7.cell? ⟨w6.heap.size + 1, 5, none⟩ = some (.int .i64 0) := T_7.out.cell (c := 5) rfl
  have kt6 : W7.cell? ⟨w6.heap.size + 1, 6, none⟩ = some (.int .i64 0) := T_7.out.cell (c := 6) rfl
  have kt7 : W7.cell? ⟨w6.heap.size + 1, 7, none⟩ = some (.int .i64 0) := T_7.out.cell (c := 7) rfl
  have kt8 : W7.cell? ⟨w6.heap.size + 1, 8, none⟩ = some (.int .i64 0) := T_7.out.cell (c := 8) rfl
  have kt9 : W7.cell? ⟨w6.heap.size + 1, 9, none⟩ = some (.int .i64 0) := T_7.out.cell (c := 9) rfl
  go_upto_region 10 with fail
  clear kr0 kr1 kr2 kr3 kr4 kr5 kr6 kr7 kr8 kr9 kr10 kr11 kr12 kr13 kr14 kr15 ko0 ko1 ko2 ko3 ko4 ko5 ko6 ko7 ko8 ko9 ko10 ko11 ko12 ko13 ko14 ko15 kp0 kp1 kp2 kp3 kp4 kp5 kp6 kp7 kp8 kp9 kt0 kt1 kt2 kt3 kt4 kt5 kt6 kt7 kt8 kt9
  go_upto_region 11 with fail
  obtain ⟨V8_, hV8_⟩ : ∃ V, Value.agg #[.int .u32 a0, .int .u32 a1, .int .u32 a2, .int .u32 a3, .int .u32 a4, .int .u32 a5, .int .u32 a6, .int .u32 a7, .int .u32 a8, .int .u32 a9, .int .u32 a10, .int .u32 a11, .int .u32 a12, .int .u32 a13, .int .u32 a14, .int .u32 a15] = V := ⟨_, rfl⟩
  try simp only [hV8_]
  clear hV8_
  obtain ⟨V9_, hV9_⟩ : ∃ V, Value.agg #[.int .i64 0, .int .i64 0, .bool false, .bool false, .bool false, .int .i64 0, .int .i64 0, .int .i64 0, .int .i64 0, .int .i64 0] = V := ⟨_, rfl⟩
  try simp only [hV9_]
  clear hV9_
  have LQ := Lib.hid (fun k (hk : k < 16) => Bk.at_ (l := [q0, q1, q2, q3, q4, q5, q6, q7, q8, q9, q10, q11, q12, q13, q14, q15]) Q_7.out hk)
  have LO := Lib.hid (fun k (hk : k < 16) => Bk.at_ (l := [a0, a1, a2, a3, a4, a5, a6, a7, a8, a9, a10, a11, a12, a13, a14, a15]) O_7.out hk)
  have LN := Lib.hid (fun k (hk : k < 16) => Bk.at_ (l := [b0, b1, b2, b3, b4, b5, b6, b7, b8, b9, b10, b11, b12, b13, b14, b15]) N_7.out hk)
  clear O_7 N_7 R_7 P_7 Q_7 T_7
  refine saves_loop (ql := [q0, q1, q2, q3, q4, q5, q6, q7, q8, q9, q10, q11, q12, q13, q14, q15]) (ol := [a0, a1, a2, a3, a4, a5, a6, a7, a8, a9, a10, a11, a12, a13, a14, a15]) (nl := [b0, b1, b2, b3, b4, b5, b6, b7, b8, b9, b10, b11, b12, b13, b14, b15]) (by kernel_rfl) SV.out LQ.out LO.out LN.out (fun _ a a' _ e h => by have h' : a'.defers = [] ∧ _ := h; exact ⟨e ▸ h'.1, h'.2⟩) ?_
  intros
  go_wp2
  go_ret
  exact ⟨by rfl, dBelow' HB_7.out _⟩
theorem generalSaves_walk (a0 a1 a2 a3 a4 a5 a6 a7 a8 a9 a10 a11 a12 a13 a14 a15 : Int) (b0 b1 b2 b3 b4 b5 b6 b7 b8 b9 b10 b11 b12 b13 b14 b15 : Int) (nn : Int) (w : World) (wa0 : (Lit.int .u32 a0).wf = true) (wa1 : (Lit.int .u32 a1).wf = true) (wa2 : (Lit.int .u32 a2).wf = true) (wa3 : (Lit.int .u32 a3).wf = true) (wa4 : (Lit.int .u32 a4).wf = true) (wa5 : (Lit.int .u32 a5).wf = true) (wa6 : (Lit.int .u32 a6).wf = true) (wa7 : (Lit.int .u32 a7).wf = true) (wa8 : (Lit.int .u32 a8).wf = true) (wa9 : (Lit.int .u32 a9).wf = true) (wa10 : (Lit.int .u32 a10).wf = true) (wa11 : (Lit.int .u32 a11).wf = true) (wa12 : (Lit.int .u32 a12).wf = true) (wa13 : (Lit.int .u32 a13).wf = true) (wa14 : (Lit.int .u32 a14).wf = true) (wa15 : (Lit.int .u32 a15).wf = true) (wb0 : (Lit.int .u32 b0).wf = true) (wb1 : (Lit.int .u32 b1).wf = true) (wb2 : (Lit.int .u32 b2).wf = true) (wb3 : (Lit.int .u32 b3).wf = true) (wb4 : (Lit.int .u32 b4).wf = true) (wb5 : (Lit.int .u32 b5).wf = true) (wb6 : (Lit.int .u32 b6).wf = true) (wb7 : (Lit.int .u32 b7).wf = true) (wb8 : (Lit.int .u32 b8).wf = true) (wb9 : (Lit.int .u32 b9).wf = true) (wb10 : (Lit.int .u32 b10).wf = true) (wb11 : (Lit.int .u32 b11).wf = true) (wb12 : (Lit.int .u32 b12).wf = true) (wb13 : (Lit.int .u32 b13).wf = true) (wb14 : (Lit.int .u32 b14).wf = true) (wb15 : (Lit.int .u32 b15).wf = true) (wn : (Lit.int .u8 nn).wf = true) : Calls Try.prog 5 #[.agg #[.int .u32 a0, .int .u32 a1, .int .u32 a2, .int .u32 a3, .int .u32 a4, .int .u32 a5, .int .u32 a6, .int .u32 a7, .int .u32 a8, .int .u32 a9, .int .u32 a10, .int .u32 a11, .int .u32 a12, .int .u32 a13, .int .u32 a14, .int .u32 a15], .agg #[.int .u32 b0, .int .u32 b1, .int .u32 b2, .int .u32 b3, .int .u32 b4, .int .u32 b5, .int .u32 b6, .int .u32 b7, .int .u32 b8, .int .u32 b9, .int .u32 b10, .int .u32 b11, .int .u32 b12, .int .u32 b13, .int .u32 b14, .int .u32 b15], .int .u8 nn] w fun e w' => e = .returned (.bool true) ∧ Below w.heap.size w w' := by
  obtain ⟨h0, h1⟩ := bounds_u8 wn
  obtain ⟨n, hn⟩ := Int.eq_ofNat_of_zero_le (show 0 ≤ nn / 16 by omega)
  obtain ⟨m, hm⟩ := Int.eq_ofNat_of_zero_le (show 0 ≤ nn % 16 by omega)
  have ro : ∀ z ∈ [a0, a1, a2, a3, a4, a5, a6, a7, a8, a9, a10, a11, a12, a13, a14, a15], 0 ≤ z ∧ z ≤ 4294967295 := by
    intro z hz
    simp only [List.mem_cons, List.not_mem_nil, or_false] at hz
    rcases hz with rfl | rfl | rfl | rfl | rfl | rfl | rfl | rfl | rfl | rfl | rfl | rfl | rfl | rfl | rfl | rfl
    · exact bounds_u32 wa0
    · exact bounds_u32 wa1
    · exact bounds_u32 wa2
    · exact bounds_u32 wa3
    · exact bounds_u32 wa4
    · exact bounds_u32 wa5
    · exact bounds_u32 wa6
    · exact bounds_u32 wa7
    · exact bounds_u32 wa8
    · exact bounds_u32 wa9
    · exact bounds_u32 wa10
    · exact bounds_u32 wa11
    · exact bounds_u32 wa12
    · exact bounds_u32 wa13
    · exact bounds_u32 wa14
    · exact bounds_u32 wa15
  have rn : ∀ z ∈ [b0, b1, b2, b3, b4, b5, b6, b7, b8, b9, b10, b11, b12, b13, b14, b15], 0 ≤ z ∧ z ≤ 4294967295 := by
    intro z hz
    simp only [List.mem_cons, List.not_mem_nil, or_false] at hz
    rcases hz with rfl | rfl | rfl | rfl | rfl | rfl | rfl | rfl | rfl | rfl | rfl | rfl | rfl | rfl | rfl | rfl
    · exact bounds_u32 wb0
    · exact bounds_u32 wb1
    · exact bounds_u32 wb2
    · exact bounds_u32 wb3
    · exact bounds_u32 wb4
    · exact bounds_u32 wb5
    · exact bounds_u32 wb6
    · exact bounds_u32 wb7
    · exact bounds_u32 wb8
    · exact bounds_u32 wb9
    · exact bounds_u32 wb10
    · exact bounds_u32 wb11
    · exact bounds_u32 wb12
    · exact bounds_u32 wb13
    · exact bounds_u32 wb14
    · exact bounds_u32 wb15
  obtain ⟨q0, q1, q2, q3, q4, q5, q6, q7, q8, q9, q10, q11, q12, q13, q14, q15, hq⟩ := list16s (l := lmR [b0, b1, b2, b3, b4, b5, b6, b7, b8, b9, b10, b11, b12, b13, b14, b15] n (sGet (sPut (alP 0) (z0 2048) (z0 1) 512 (stB [a0, a1, a2, a3, a4, a5, a6, a7, a8, a9, a10, a11, a12, a13, a14, a15] n ((m + 16 - n) % 16 + 1))) 512 ((4 * ((m + 16 - n) % 16 + 1) : Nat) : Int)) ((m + 16 - n) % 16 + 1)) (by rw [lmR_len]; rfl)
  exact generalSaves_go a0 a1 a2 a3 a4 a5 a6 a7 a8 a9 a10 a11 a12 a13 a14 a15 b0 b1 b2 b3 b4 b5 b6 b7 b8 b9 b10 b11 b12 b13 b14 b15 q0 q1 q2 q3 q4 q5 q6 q7 q8 q9 q10 q11 q12 q13 q14 q15 nn n m w h0 h1 hn hm ro rn hq
end Go.Proofs.Ythjdjbipfdigeaa
