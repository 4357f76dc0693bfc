/- CONTRACTS: Exec on STM and LM at address 512. Conditions: the numbers in their ranges. -/
import Derived.Test.YthjdjbipfdigeaaGe16
import Derived.Test.YthjdjbipfdigeaaGe10
namespace Go.Proofs.Ythjdjbipfdigeaa
open Go.RowKit
set_option maxRecDepth 100000
set_option linter.unusedVariables false
set_option linter.unusedSimpArgs false
set_option maxRecDepth 1000000 in
set_option maxHeartbeats 4000000 in
theorem exec_mv144 (g : Nat) (R : World → Prop) (w : World) (c0 : w.cell? ⟨g, 0, none⟩ = some (.int .i64 144)) (hb : Calls Try.prog 45 #[.pointer (some ⟨g, 0, none⟩)] w fun e w' => e = .returned (.tuple #[]) ∧ R w') : Calls Try.prog 31 #[.pointer (some ⟨g, 0, none⟩)] w fun e w' => e = .returned (.tuple #[]) ∧ R w' := by
  have HB := Lib.hid hb
  clear hb
  go_enter Try.func31, Try.ntmps31
  go_wp2_with (go_at_call 45; refine HB.out.mono ?_; rintro e w3 ⟨rfl, hR⟩; have HR := Lib.hid hR; clear hR)
  go_end0
  exact ⟨by rfl, HR.out⟩
theorem chk_mv144 : ∀ n : Nat, n < 16 → ∀ m : Nat, m < 16 → chk 144 3 [144, 3, (n : Int), (m : Int), 0, 0, 0, 0, 512, 0, 0, 0] = 0 := by decide +kernel
set_option maxRecDepth 1000000 in
set_option maxHeartbeats 4000000 in
theorem exec_mv152 (g : Nat) (R : World → Prop) (w : World) (c0 : w.cell? ⟨g, 0, none⟩ = some (.int .i64 152)) (hb : Calls Try.prog 45 #[.pointer (some ⟨g, 0, none⟩)] w fun e w' => e = .returned (.tuple #[]) ∧ R w') : Calls Try.prog 31 #[.pointer (some ⟨g, 0, none⟩)] w fun e w' => e = .returned (.tuple #[]) ∧ R w' := by
  have HB := Lib.hid hb
  clear hb
  go_enter Try.func31, Try.ntmps31
  go_wp2_with (go_at_call 45; refine HB.out.mono ?_; rintro e w3 ⟨rfl, hR⟩; have HR := Lib.hid hR; clear hR)
  go_end0
  exact ⟨by rfl, HR.out⟩
theorem chk_mv152 : ∀ n : Nat, n < 16 → ∀ m : Nat, m < 16 → chk 152 3 [152, 3, (n : Int), (m : Int), 0, 0, 0, 0, 512, 0, 0, 0] = 0 := by decide +kernel
theorem code0 (al : Int → Bool) (hal : ∀ k, al k = true) (N : Nat) (ks : List Int) (a n : Int) (h0 : 0 ≤ a) (h1 : 0 ≤ n) (h2 : a + n ≤ (N : Int)) : sCode al N ks a n = 0 := by
  unfold sCode
  rw [if_pos (show sIn N a n = true from by unfold sIn; exact decide_eq_true (by omega)), if_pos (show okB al ks a.toNat n.toNat = true from by unfold okB; simp [hal])]
theorem alP0 (k : Int) : alP 0 k = true := by simp [alP]
theorem alF0 (k : Int) : alF 0 k = true := by simp [alF]
theorem lmR_len (rs : List Int) (n : Nat) (zs : List Int) : ∀ k, (lmR rs n zs k).length = rs.length
  | 0 => rfl
  | k + 1 => by simp only [lmR, List.length_set, lmR_len rs n zs k]
theorem run_stm (n m : Nat) (F : Foot) (bs ks : List Int) (hn : n < 16) (hm : m < 16) (a0 a1 a2 a3 a4 a5 a6 a7 a8 a9 a10 a11 a12 a13 a14 a15 : Int) (ro : ∀ z ∈ [a0, a1, a2, a3, a4, a5, a6, a7, a8, a9, a10, a11, a12, a13, a14, a15], 0 ≤ z ∧ z ≤ 4294967295) (hb : 1024 ≤ bs.length) (w : World) (hs : St 71 w F bs ks) :
    Calls Try.prog 14 #[.agg #[.int .i64 144, .int .i64 3, .int .i64 (n : Int), .int .i64 (m : Int), .int .i64 0, .int .i64 0, .int .i64 0, .int .i64 0, .int .i64 512, .int .i64 0, .int .i64 0, .int .i64 0], .agg #[.int .u32 a0, .int .u32 a1, .int .u32 a2, .int .u32 a3, .int .u32 a4, .int .u32 a5, .int .u32 a6, .int .u32 a7, .int .u32 a8, .int .u32 a9, .int .u32 a10, .int .u32 a11, .int .u32 a12, .int .u32 a13, .int .u32 a14, .int .u32 a15], .agg #[.int .i64 0, .int .i64 0, .bool false, .bool false, .bool false, .int .i64 0, .int .i64 0, .int .i64 0, .int .i64 0, .int .i64 0], .pointer (some ⟨F.g, 0, none⟩)] w fun e w' => e = .returned (.tuple #[.agg #[.int .u32 a0, .int .u32 a1, .int .u32 a2, .int .u32 a3, .int .u32 a4, .int .u32 a5, .int .u32 a6, .int .u32 a7, .int .u32 a8, .int .u32 a9, .int .u32 a10, .int .u32 a11, .int .u32 a12, .int .u32 a13, .int .u32 a14, .int .u32 a15], .agg #[.int .i64 0, .int .i64 0, .bool false, .bool false, .bool false, .int .i64 0, .int .i64 0, .int .i64 0, .int .i64 0, .int .i64 0], .int .i64 0]) ∧ St 71 w' F (sPut (alP 0) bs ks 512 (stB [a0, a1, a2, a3, a4, a5, a6, a7, a8, a9, a10, a11, a12, a13, a14, a15] n ((m + 16 - n) % 16 + 1))) ks ∧ Ch w w' [F.gb] := by
  have l0 := hs.ltg
  have l1 := hs.ltb
  have l2 := hs.ltk
  refine (Exec_plain 144 3 (n : Int) (m : Int) 0 0 0 0 512 0 0 0 a0 a1 a2 a3 a4 a5 a6 a7 a8 a9 a10 a11 a12 a13 a14 a15 0 0 false false false 0 0 0 0 0 F.g [F.gb] (fun W => St 71 W F (sPut (alP 0) bs ks 512 (stB [a0, a1, a2, a3, a4, a5, a6, a7, a8, a9, a10, a11, a12, a13, a14, a15] n ((m + 16 - n) % 16 + 1))) ks) a0 a1 a2 a3 a4 a5 a6 a7 a8 a9 a10 a11 a12 a13 a14 a15 0 0 false false false 0 0 0 0 0 false w (by decide +kernel) (chk_mv144 n hn m hm) (by decide +kernel) (by simp; exact l1) (fun W W' h hb => h.below hb l0 l1 l2) (fun g W hg hbw hmm => ?_) rfl)
  have hM : MS W g F [144, 3, (n : Int), (m : Int), 0, 0, 0, 0, 512, 0, 0, 0] [a0, a1, a2, a3, a4, a5, a6, a7, a8, a9, a10, a11, a12, a13, a14, a15] [a0, a1, a2, a3, a4, a5, a6, a7, a8, a9, a10, a11, a12, a13, a14, a15] [.int .i64 0, .int .i64 0, .bool false, .bool false, .bool false, .int .i64 0, .int .i64 0, .int .i64 0, .int .i64 0, .int .i64 0] false bs ks := ⟨hmm, hs.below hbw l0 l1 l2, by omega, by omega, by omega⟩
  refine (exec_mv144 g (fun w' => MS w' g F [144, 3, (n : Int), (m : Int), 0, 0, 0, 0, 512, 0, 0, 0] [a0, a1, a2, a3, a4, a5, a6, a7, a8, a9, a10, a11, a12, a13, a14, a15] [a0, a1, a2, a3, a4, a5, a6, a7, a8, a9, a10, a11, a12, a13, a14, a15] [.int .i64 0, .int .i64 0, .bool false, .bool false, .bool false, .int .i64 0, .int .i64 0, .int .i64 0, .int .i64 0, .int .i64 0] false (sPut (alP 0) bs ks 512 (stB [a0, a1, a2, a3, a4, a5, a6, a7, a8, a9, a10, a11, a12, a13, a14, a15] n ((m + 16 - n) % 16 + 1))) ks ∧ Ch W w' [F.gb]) W (hmm.ci (c := 0) (by omega)) ?_).mono ?_
  · refine move_stm g n m F _ _ _ _ _ _ _ 0 512 W hM rfl rfl hn rfl hm ro rfl (fun W' hW' => ?_) (by omega) (by omega) (by omega) (code0 _ alP0 _ _ _ _ (by omega) (by omega) (by omega))
    have hz := second_c g 0 0 512 _ _ _ _ _ _ W' hW'.m ro rfl (by omega) (by omega) rfl (by omega) rfl (by omega)
    rw [show ((512 : Int) + sumB [a0, a1, a2, a3, a4, a5, a6, a7, a8, a9, a10, a11, a12, a13, a14, a15] [0, 0]) % 16777216 = 512 from by simp [sumB, baseV]] at hz
    exact hz
  · rintro e w' ⟨rfl, hM', hC⟩
    exact ⟨rfl, hM'.m, hC.mono (by simp), hM'.st⟩
theorem run_lm (n m : Nat) (F : Foot) (bs ks : List Int) (hn : n < 16) (hm : m < 16) (a0 a1 a2 a3 a4 a5 a6 a7 a8 a9 a10 a11 a12 a13 a14 a15 n0 n1 n2 n3 n4 n5 n6 n7 n8 n9 n10 n11 n12 n13 n14 n15 : Int) (ro : ∀ z ∈ [a0, a1, a2, a3, a4, a5, a6, a7, a8, a9, a10, a11, a12, a13, a14, a15], 0 ≤ z ∧ z ≤ 4294967295) (hb : 1024 ≤ bs.length) (hr : lmR [a0, a1, a2, a3, a4, a5, a6, a7, a8, a9, a10, a11, a12, a13, a14, a15] n (sGet bs 512 ((4 * ((m + 16 - n) % 16 + 1) : Nat) : Int)) ((m + 16 - n) % 16 + 1) = [n0, n1, n2, n3, n4, n5, n6, n7, n8, n9, n10, n11, n12, n13, n14, n15]) (w : World) (hs : St 71 w F bs ks) :
    Calls Try.prog 14 #[.agg #[.int .i64 152, .int .i64 3, .int .i64 (n : Int), .int .i64 (m : Int), .int .i64 0, .int .i64 0, .int .i64 0, .int .i64 0, .int .i64 512, .int .i64 0, .int .i64 0, .int .i64 0], .agg #[.int .u32 a0, .int .u32 a1, .int .u32 a2, .int .u32 a3, .int .u32 a4, .int .u32 a5, .int .u32 a6, .int .u32 a7, .int .u32 a8, .int .u32 a9, .int .u32 a10, .int .u32 a11, .int .u32 a12, .int .u32 a13, .int .u32 a14, .int .u32 a15], .agg #[.int .i64 0, .int .i64 0, .bool false, .bool false, .bool false, .int .i64 0, .int .i64 0, .int .i64 0, .int .i64 0, .int .i64 0], .pointer (some ⟨F.g, 0, none⟩)] w fun e w' => e = .returned (.tuple #[.agg #[.int .u32 n0, .int .u32 n1, .int .u32 n2, .int .u32 n3, .int .u32 n4, .int .u32 n5, .int .u32 n6, .int .u32 n7, .int .u32 n8, .int .u32 n9, .int .u32 n10, .int .u32 n11, .int .u32 n12, .int .u32 n13, .int .u32 n14, .int .u32 n15], .agg #[.int .i64 0, .int .i64 0, .bool false, .bool false, .bool false, .int .i64 0, .int .i64 0, .int .i64 0, .int .i64 0, .int .i64 0], .int .i64 0]) ∧ Below w.heap.size w w' := by
  have l0 := hs.ltg
  have l1 := hs.ltb
  have l2 := hs.ltk
  refine (Exec_plain 152 3 (n : Int) (m : Int) 0 0 0 0 512 0 0 0 a0 a1 a2 a3 a4 a5 a6 a7 a8 a9 a10 a11 a12 a13 a14 a15 0 0 false false false 0 0 0 0 0 F.g [] (fun W => True) n0 n1 n2 n3 n4 n5 n6 n7 n8 n9 n10 n11 n12 n13 n14 n15 0 0 false false false 0 0 0 0 0 false w (by decide +kernel) (chk_mv152 n hn m hm) (by decide +kernel) (by simp) (fun _ _ _ _ => trivial) (fun g W hg hbw hmm => ?_) rfl).mono ?_
  · have hM : MS W g F [152, 3, (n : Int), (m : Int), 0, 0, 0, 0, 512, 0, 0, 0] [a0, a1, a2, a3, a4, a5, a6, a7, a8, a9, a10, a11, a12, a13, a14, a15] [a0, a1, a2, a3, a4, a5, a6, a7, a8, a9, a10, a11, a12, a13, a14, a15] [.int .i64 0, .int .i64 0, .bool false, .bool false, .bool false, .int .i64 0, .int .i64 0, .int .i64 0, .int .i64 0, .int .i64 0] false bs ks := ⟨hmm, hs.below hbw l0 l1 l2, by omega, by omega, by omega⟩
    refine (exec_mv152 g (fun w' => MS w' g F [152, 3, (n : Int), (m : Int), 0, 0, 0, 0, 512, 0, 0, 0] [a0, a1, a2, a3, a4, a5, a6, a7, a8, a9, a10, a11, a12, a13, a14, a15] [n0, n1, n2, n3, n4, n5, n6, n7, n8, n9, n10, n11, n12, n13, n14, n15] [.int .i64 0, .int .i64 0, .bool false, .bool false, .bool false, .int .i64 0, .int .i64 0, .int .i64 0, .int .i64 0, .int .i64 0] false bs ks ∧ Ch W w' [g]) W (hmm.ci (c := 0) (by omega)) ?_).mono ?_
    · have hq := move_lm g n m F _ _ _ _ _ _ _ 0 512 W hM rfl rfl hn rfl hm rfl (fun W' hW' => by
        have hz := second_c g 0 0 512 _ _ _ _ _ _ W' hW'.m ro rfl (by omega) (by omega) rfl (by omega) rfl (by omega)
        rw [show ((512 : Int) + sumB [a0, a1, a2, a3, a4, a5, a6, a7, a8, a9, a10, a11, a12, a13, a14, a15] [0, 0]) % 16777216 = 512 from by simp [sumB, baseV]] at hz
        exact hz) (by omega) (by omega) (by omega) (code0 _ alF0 _ _ _ _ (by omega) (by omega) (by omega))
      rw [hr] at hq
      exact hq
    · rintro e w' ⟨rfl, hM', hC⟩
      exact ⟨rfl, hM'.m, hC, trivial⟩
  · rintro e w' ⟨rfl, -, hc⟩
    exact ⟨rfl, hc.below (Nat.le_refl _) (by simp)⟩
end Go.Proofs.Ythjdjbipfdigeaa
