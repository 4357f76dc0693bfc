/- Rows.GeneralMovesSaid (jobshop/jobshoplaw09.GeneralMoves): whatever the input, the law returns true and each argument reads as it did. The frame of the proof; the walk lies in GeneralMovesW. No conditions; the last text of 5. Conditions: as each states them. -/
import Derived.Test.YthjdjbipfdigeaaMv4
import Derived.Test.YthjdjbipfdigeaaProg
import Derived.WalkKit
import Derived.ChangeKeysEq
import Derived.Laws.StructEq
import Derived.Laws.Tables
namespace Go.Proofs.Ythjdjbipfdigeaa
open Go.RowKit
set_option maxRecDepth 100000
set_option linter.unusedVariables false
set_option linter.unusedSimpArgs false
theorem Byt.chd {w w' : World} {b off len : Nat} {zs : List Int} {L : List Nat} (h : Byt w (some ⟨b, off, none⟩) len zs) (hc : Ch w w' L) (hb : b < w.heap.size) (hL : b ∉ L) : Byt w' (some ⟨b, off, none⟩) len zs := by
  refine ⟨h.1, h.2.1, fun h0 => ?_⟩
  obtain ⟨b', off', e, hcell⟩ := h.2.2 h0
  injection e with e; injection e with e1 e2; subst e1 e2
  exact ⟨b, off, rfl, fun i hi => by rw [← hcell i hi]; unfold World.cell?; rw [hc.block b hb hL]⟩
theorem Byt.lt {w : World} {b off len : Nat} {zs : List Int} (h : Byt w (some ⟨b, off, none⟩) len zs) (h0 : 0 < len) : b < w.heap.size := by
  obtain ⟨b', off', e, hcell⟩ := h.2.2 h0
  injection e with e; injection e with e1 e2; subst e1 e2
  have h1 := hcell 0 h0
  rcases Nat.lt_or_ge b w.heap.size with h2 | h2
  · exact h2
  · unfold World.cell? at h1; simp only [Array.getElem?_eq_none h2] at h1; cases h1
theorem put9 {F : Foot} {bs ks : List Int} (w : World) (h : St 71 w F bs ks) (a n cp : Nat) (A : Option Addr) (ys : List Int) (h1 : a + n ≤ bs.length) (h2 : bs.length ≤ 65536) (hy : Byt w A n ys) : Calls Try.prog 16 #[.pointer (some ⟨F.g, 0, none⟩), .int .i64 (a : Int), .slice A n cp, .int .i64 0] w fun e w' => e = .returned (.int .i64 0) ∧ St 71 w' F (sPut (alP 0) bs ks (a : Int) ys) ks ∧ Ch w w' [F.gb] := by
  refine (put_c w h (a : Int) 0 A n cp ys hy (by omega)).mono ?_
  rintro e w' ⟨he, hs, hg⟩
  rw [codeH _ alP_0 _ _ _ _ h1] at he
  exact ⟨he, hs, Ch.of_grown hg⟩
theorem get9 {F : Foot} {bs ks : List Int} (w : World) (h : St 71 w F bs ks) (a : Nat) (n N : Int) (X : List Int) (h0 : 1 ≤ n) (h1 : a + n ≤ (bs.length : Int)) (hX : sGet bs (a : Int) n = X) : Calls Try.prog 19 #[.pointer (some ⟨F.g, 0, none⟩), .int .i64 (a : Int), .int .i64 n] w fun e w' => ∃ b m c : Nat, e = .returned (.slice (some ⟨b, 0, none⟩) m c) ∧ (m : Int) = n ∧ Byt w' (some ⟨b, 0, none⟩) m X ∧ w.heap.size ≤ b ∧ Below w.heap.size w w' := by
  refine (bytes_c w h (a : Int) n).mono ?_
  rintro e w' ⟨A, m, c, he, ho, hb⟩
  rw [hX] at ho
  obtain ⟨k, rfl⟩ := Int.eq_ofNat_of_zero_le (show 0 ≤ n by omega)
  have hm : m = k := by rw [← ho.len, ← hX]; exact get_len _ _ _ (by omega)
  obtain ⟨g, cap, hv, hg, -⟩ := ho.pos (by omega)
  injection hv with hA h2 h3
  subst hA h3
  exact ⟨g, m, c, he, by omega, ho.byt, hg, hb⟩
theorem same9_t (A : Option Addr) (n c : Nat) (xs : List Int) (A' : Option Addr) (n' c' : Nat) (ys : List Int) (w : World) (h1 : Byt w A n xs) (h2 : Byt w A' n' ys) (he : xs = ys) (hn : n ≤ 65536) : Calls Try.prog 18 #[.slice A n c, .slice A' n' c'] w fun e w' => e = .returned (.bool true) ∧ Below w.heap.size w w' := by
  have hl := h1.1
  have hl' := h2.1
  refine (same9_c A n c xs A' n' c' ys w h1 h2 (by omega) (by rw [← he] at hl'; omega)).mono ?_
  rintro e w' ⟨h, d, rfl⟩
  rw [decide_eq_true he] at h
  exact ⟨h, dBelow' (Below.refl _ _) d⟩
theorem exec_ss (op : Int) (hop : op = 210 ∨ op = 215) {F : Foot} {bs ks : List Int} (w : World) (h : St 71 w F bs ks) (cc L : Int) (l a b : Nat) (hL : L = (l : Int)) (hl : l < 256) (hc : 0 ≤ cc ∧ cc ≤ 3) (ha : a + (l + 1) ≤ bs.length) (hb : b + (l + 1) ≤ bs.length) (hs : bs.length ≤ 65536) (X Y Z : List Int) (q : Int) (hX : sGet bs (a : Int) ((l + 1 : Nat) : Int) = X) (hY : sGet bs (b : Int) ((l + 1 : Nat) : Int) = Y) (hZ : cmb (cb op) X Y ((a : Int) - (b : Int)) (l + 1) = Z) (hq : (if op = 215 then cmbS (cb op) X Y ((a : Int) - (b : Int)) (l + 1) else cc) = q) : Calls Try.prog 14 #[.agg #[.int .i64 op, .int .i64 5, .int .i64 0, .int .i64 0, .int .i64 0, .int .i64 14, .int .i64 0, .int .i64 15, .int .i64 0, .int .i64 L, .int .i64 0, .int .i64 0], .agg #[.int .u32 0, .int .u32 0, .int .u32 0, .int .u32 0, .int .u32 0, .int .u32 0, .int .u32 0, .int .u32 0, .int .u32 0, .int .u32 0, .int .u32 0, .int .u32 0, .int .u32 0, .int .u32 0, .int .u32 (a : Int), .int .u32 (b : Int)], .agg #[.int .i64 0, .int .i64 0, .bool false, .bool false, .bool false, .int .i64 0, .int .i64 0, .int .i64 cc, .int .i64 0, .int .i64 0], .pointer (some ⟨F.g, 0, none⟩)] w fun e w' => e = .returned (.tuple #[.agg #[.int .u32 0, .int .u32 0, .int .u32 0, .int .u32 0, .int .u32 0, .int .u32 0, .int .u32 0, .int .u32 0, .int .u32 0, .int .u32 0, .int .u32 0, .int .u32 0, .int .u32 0, .int .u32 0, .int .u32 (a : Int), .int .u32 (b : Int)], .agg #[.int .i64 0, .int .i64 0, .bool false, .bool false, .bool false, .int .i64 0, .int .i64 0, .int .i64 q, .int .i64 0, .int .i64 0], .int .i64 0]) ∧ St 71 w' F (sPut (alP 0) bs ks (a : Int) Z) ks ∧ Ch w w' [F.gb] := by
  subst hL
  have hx := exO_ss op hop [0, 0, 0, 0, 0, 0, 0, 0, 0, 0, 0, 0, 0, 0, (a : Int), (b : Int)] bs ks cc l a b ha hb X Y hX hY
  rw [hZ, hq] at hx
  have hv : pok 0 0 0 0 cc 0 0 = true := by simp [pok, inr]; omega
  have ro : ∀ z ∈ [0, 0, 0, 0, 0, 0, 0, 0, 0, 0, 0, 0, 0, 0, (a : Int), (b : Int)], 0 ≤ z ∧ z ≤ 4294967295 := by
    intro z hz
    simp only [List.mem_cons, List.not_mem_nil, or_false] at hz
    omega
  have hF : ∀ k, k ∈ [F.gb] → k < w.heap.size := by simp; exact h.ltb
  have e1 : (0 + sumB [0, 0, 0, 0, 0, 0, 0, 0, 0, 0, 0, 0, 0, 0, (a : Int), (b : Int)] [14]) % 16777216 = (a : Int) := by
    have h1 : sumB [0, 0, 0, 0, 0, 0, 0, 0, 0, 0, 0, 0, 0, 0, (a : Int), (b : Int)] [14] = (a : Int) + 0 := by simp [sumB, baseV]
    rw [h1]; omega
  have e2 : (0 + sumB [0, 0, 0, 0, 0, 0, 0, 0, 0, 0, 0, 0, 0, 0, (a : Int), (b : Int)] [15, 0]) % 16777216 = (b : Int) := by
    have h1 : sumB [0, 0, 0, 0, 0, 0, 0, 0, 0, 0, 0, 0, 0, 0, (a : Int), (b : Int)] [15, 0] = (b : Int) + (0 + 0) := by simp [sumB, baseV]
    rw [h1]; omega
  refine (Exec_plain op 5 0 0 0 14 0 15 0 (l : Int) 0 0 0 0 0 0 0 0 0 0 0 0 0 0 0 0 (a : Int) (b : Int) 0 0 false false false 0 0 cc 0 0 F.g [F.gb] (fun w' => St 71 w' F (sPut (alP 0) bs ks (a : Int) Z) ks) 0 0 0 0 0 0 0 0 0 0 0 0 0 0 (a : Int) (b : Int) 0 0 false false false 0 0 q 0 0 false w (chk_s2 op hop l hl).1 (chk_s2 op hop l hl).2 hv hF (fun W W' hh hb' => hh.below hb' h.ltg h.ltb h.ltk) (fun g W hg hbw hm => ?_) rfl).mono ?_
  · have h1 := h.ltg
    have h2 := h.ltb
    have h3 := h.ltk
    have hM : MS W g F (isL op 5 0 0 0 14 0 15 0 l 0 0) [0, 0, 0, 0, 0, 0, 0, 0, 0, 0, 0, 0, 0, 0, (a : Int), (b : Int)] [0, 0, 0, 0, 0, 0, 0, 0, 0, 0, 0, 0, 0, 0, (a : Int), (b : Int)] (psL 0 0 false false false 0 0 cc 0 0) false bs ks := ⟨hm, h.below hbw h1 h2 h3, by omega, by omega, by omega⟩
    have hE : Calls Try.prog 31 #[.pointer (some ⟨g, 0, none⟩)] W (Ends g F (isL op 5 0 0 0 14 0 15 0 l 0 0) [0, 0, 0, 0, 0, 0, 0, 0, 0, 0, 0, 0, 0, 0, (a : Int), (b : Int)] 0 0 false false false 0 0 bs ks (exO ⟨[0, 0, 0, 0, 0, 0, 0, 0, 0, 0, 0, 0, 0, 0, (a : Int), (b : Int)], 0, 0, cc, 0, 0, bs, ks⟩ op 5 0 0 (a : Int) (b : Int) l 0) W) := by
      rcases hop with rfl | rfl
      · exact exec_gl210 g 0 0 0 14 15 l F 210 5 0 0 0 0 0 0 false false false 0 0 cc 0 0 _ bs ks W hM ro (by omega) (by omega) (by omega) (by omega) (by omega) hl (by omega) (by omega) (by omega) (a : Int) (b : Int) e1 e2 rfl
      · exact exec_gl215 g 0 0 0 14 15 l F 215 5 0 0 0 0 0 0 false false false 0 0 cc 0 0 _ bs ks W hM ro (by omega) (by omega) (by omega) (by omega) (by omega) hl (by omega) (by omega) (by omega) (a : Int) (b : Int) e1 e2 rfl
    rw [hx] at hE
    refine hE.mono ?_
    rintro e w' ⟨h4, -, h6⟩
    obtain ⟨h7, h8⟩ := h4 rfl
    exact ⟨h7, h8.m, h6, h8.st⟩
  · rintro e w' ⟨rfl, h4, h5⟩
    exact ⟨rfl, h4, h5⟩
theorem exec_sn (op : Int) (hop : op = 210 ∨ op = 215) {F : Foot} {bs ks : List Int} (w : World) (h : St 71 w F bs ks) (cc : Int) (n a b : Nat) (n0 : 1 ≤ n) (n1 : n ≤ 256) (hc : 0 ≤ cc ∧ cc ≤ 3) (ha : a + n ≤ bs.length) (hb : b + n ≤ bs.length) (hs : bs.length ≤ 65536) (X Y Z : List Int) (q : Int) (hX : sGet bs (a : Int) (n : Int) = X) (hY : sGet bs (b : Int) (n : Int) = Y) (hZ : cmb (cb op) X Y ((a : Int) - (b : Int)) n = Z) (hq : (if op = 215 then cmbS (cb op) X Y ((a : Int) - (b : Int)) n else cc) = q) : Calls Try.prog 14 #[.agg #[.int .i64 op, .int .i64 5, .int .i64 0, .int .i64 0, .int .i64 0, .int .i64 14, .int .i64 0, .int .i64 15, .int .i64 0, .int .i64 ((n : Int) - 1), .int .i64 0, .int .i64 0], .agg #[.int .u32 0, .int .u32 0, .int .u32 0, .int .u32 0, .int .u32 0, .int .u32 0, .int .u32 0, .int .u32 0, .int .u32 0, .int .u32 0, .int .u32 0, .int .u32 0, .int .u32 0, .int .u32 0, .int .u32 (a : Int), .int .u32 (b : Int)], .agg #[.int .i64 0, .int .i64 0, .bool false, .bool false, .bool false, .int .i64 0, .int .i64 0, .int .i64 cc, .int .i64 0, .int .i64 0], .pointer (some ⟨F.g, 0, none⟩)] w fun e w' => e = .returned (.tuple #[.agg #[.int .u32 0, .int .u32 0, .int .u32 0, .int .u32 0, .int .u32 0, .int .u32 0, .int .u32 0, .int .u32 0, .int .u32 0, .int .u32 0, .int .u32 0, .int .u32 0, .int .u32 0, .int .u32 0, .int .u32 (a : Int), .int .u32 (b : Int)], .agg #[.int .i64 0, .int .i64 0, .bool false, .bool false, .bool false, .int .i64 0, .int .i64 0, .int .i64 q, .int .i64 0, .int .i64 0], .int .i64 0]) ∧ St 71 w' F (sPut (alP 0) bs ks (a : Int) Z) ks ∧ Ch w w' [F.gb] := by
  obtain ⟨l, rfl⟩ : ∃ l, n = l + 1 := ⟨n - 1, by omega⟩
  exact exec_ss op hop w h cc _ l a b (by omega) (by omega) hc ha hb hs X Y Z q hX hY hZ hq
theorem getD_255 {bs : List Int} (h : ∀ z ∈ bs, 0 ≤ z ∧ z ≤ 255) (j : Nat) : 0 ≤ bs.getD j 0 ∧ bs.getD j 0 ≤ 255 := by
  rw [List.getD_eq_getElem?_getD]
  rcases Nat.lt_or_ge j bs.length with hi | hi
  · rw [List.getElem?_eq_getElem hi]; exact h _ (List.getElem_mem hi)
  · rw [List.getElem?_eq_none hi]; simp
/-- what the bytes are, step by step -/
theorem moves_law (ys : List Int) (n : Nat) (hl : ys.length = n) (n0 : 1 ≤ n) (n1 : n ≤ 256) : ∃ bs1 bs2 bs3 Z : List Int, sPut (alP 0) (z0 2048) (z0 1) ((100 : Nat) : Int) ys = bs1 ∧ sPut (alP 0) bs1 (z0 1) ((1000 : Nat) : Int) ys = bs2 ∧ sPut (alP 0) bs2 (z0 1) ((101 : Nat) : Int) Z = bs3 ∧ bs1.length = 2048 ∧ bs2.length = 2048 ∧ bs3.length = 2048 ∧ Z.length = n ∧
    sGet bs1 ((100 : Nat) : Int) (n : Int) = ys ∧ cmb (cb 210) (sGet bs1 ((1000 : Nat) : Int) (n : Int)) ys (((1000 : Nat) : Int) - ((100 : Nat) : Int)) n = ys ∧ sGet bs2 ((1000 : Nat) : Int) (n : Int) = ys ∧ sGet bs2 ((100 : Nat) : Int) (n : Int) = ys ∧
    cmb (cb 210) (sGet bs2 ((101 : Nat) : Int) (n : Int)) ys (((101 : Nat) : Int) - ((100 : Nat) : Int)) n = Z ∧ (∀ k, k < n + 1 → (sGet bs3 ((100 : Nat) : Int) ((n + 1 : Nat) : Int)).getD k 0 = ys.getD 0 0) := by
  obtain ⟨bs1, h1⟩ : ∃ x, sPut (alP 0) (z0 2048) (z0 1) ((100 : Nat) : Int) ys = x := ⟨_, rfl⟩
  obtain ⟨bs2, h2⟩ : ∃ x, sPut (alP 0) bs1 (z0 1) ((1000 : Nat) : Int) ys = x := ⟨_, rfl⟩
  obtain ⟨Z, hZ⟩ : ∃ x, cmb (cb 210) (sGet bs2 ((101 : Nat) : Int) (n : Int)) ys (((101 : Nat) : Int) - ((100 : Nat) : Int)) n = x := ⟨_, rfl⟩
  obtain ⟨bs3, h3⟩ : ∃ x, sPut (alP 0) bs2 (z0 1) ((101 : Nat) : Int) Z = x := ⟨_, rfl⟩
  have hz : (z0 2048).length = 2048 := z0_len 2048
  have l1 : bs1.length = 2048 := by rw [← h1, put_len _ _ _ _ (by omega), hz]
  have l2 : bs2.length = 2048 := by rw [← h2, put_len _ _ _ _ (by omega), l1]
  have lx : (sGet bs2 ((101 : Nat) : Int) (n : Int)).length = n := get_len _ _ _ (by omega)
  have lZ : Z.length = n := by rw [← hZ, cmb_len, lx]
  have l3 : bs3.length = 2048 := by rw [← h3, put_len _ _ _ _ (by omega), l2]
  have g1 : sGet bs1 ((100 : Nat) : Int) (n : Int) = ys := by rw [← h1]; have := get_put_same (z0 2048) (z0 1) ys 100 (by omega); rw [hl] at this; exact this
  have g2 : sGet bs2 ((1000 : Nat) : Int) (n : Int) = ys := by rw [← h2]; have := get_put_same bs1 (z0 1) ys 1000 (by omega); rw [hl] at this; exact this
  have g3 : sGet bs2 ((100 : Nat) : Int) (n : Int) = ys := by rw [← h2, get_put_far bs1 (z0 1) ys 1000 100 n (by omega) (by omega) (by omega), g1]
  refine ⟨bs1, bs2, bs3, Z, h1, h2, h3, l1, l2, l3, lZ, g1, ?_, g2, g3, hZ, ?_⟩
  · exact cmb_eq _ _ _ _ _ n (get_len _ _ _ (by omega)) hl (by omega) (fun j _ => by simp [cb])
  · intro k hk
    rw [get_getD bs3 100 (n + 1) k (by omega) hk, ← h3, put_getD bs2 (z0 1) Z 101 (100 + k) (by omega)]
    by_cases h : k = 0
    · subst h
      rw [if_neg (by omega)]
      have := get_getD bs2 100 n 0 (by omega) (by omega)
      rw [g3] at this
      exact this.symm
    · rw [if_pos (by omega), ← hZ, show (((101 : Nat) : Int) - ((100 : Nat) : Int)) = 1 from rfl]
      exact cmb_one _ ys n (by omega) _ (by omega)
/-- the last step: XC of an operand with itself -/
theorem moves_law2 (bs : List Int) (n : Nat) (X : List Int) (hr : ∀ z ∈ bs, 0 ≤ z ∧ z ≤ 255) (hl : 1000 + n ≤ bs.length) (hX : sGet bs ((1000 : Nat) : Int) (n : Int) = X) : cmb (cb 215) X X (((1000 : Nat) : Int) - ((1000 : Nat) : Int)) n = List.replicate n 0 ∧ cmbS (cb 215) X X (((1000 : Nat) : Int) - ((1000 : Nat) : Int)) n = 0 := by
  have lx : X.length = n := by rw [← hX]; exact get_len _ _ _ (by omega)
  have hf : ∀ j, j < n → cb 215 (X.getD j 0) (X.getD j 0) = 0 := by
    intro j hj
    rw [← hX, get_getD bs 1000 n j hl hj]
    have := getD_255 hr (1000 + j)
    obtain ⟨u, hu⟩ := Int.eq_ofNat_of_zero_le this.1
    rw [hu]
    have e : cb 215 (u : Int) (u : Int) = bits .xor .u8 (u : Int) (u : Int) := by simp [cb]
    rw [e]
    exact xor_self u (by omega)
  refine ⟨cmb_eq _ _ _ _ _ n lx (by simp) (by omega) (fun j hj => ?_), cmbS_zero _ _ _ _ n (by omega) (by omega) hf n (by omega)⟩
  rw [hf j hj]
  simp [List.getD_eq_getElem?_getD, hj]
end Go.Proofs.Ythjdjbipfdigeaa

namespace Go.Proofs.Ythjdjbipfdigeaa
open Go.RowKit
set_option maxRecDepth 100000
set_option linter.unusedVariables false
set_option linter.unusedSimpArgs false
set_option maxRecDepth 1000000 in
set_option maxHeartbeats 4000000 in
theorem moves_reg17 {u1 u2 u3 u4 u5 u6 u7 u8 u9 u12 u13 u14 u15 u16 u17 u18 u19 u20 u21 u22 u23 u24 u25 u26 u27 u28 u29 u30 u31 u32 u33 u34 u35 u36 u37 u38 u39 u40 u41 u42 u43 u44 u45 u46 u47 u48 u49 u50 u51 u52 u53 u54 u55 u56 u57 u58 u59 u60 u61 u62 u63 u64 u65 u66 u67 u68 u69 u70 u71 u72 u73 u74 u75 u76 u77 u78 u79 u80 u81 u82 u83 u84 u85 u86 u87 u88 u89 u90 u91 u92 u93 u94 u95 u96 u97 u98 u99 u100 u101 u102 u103 u104 u105 u106 u107 u108 u109 u110 u111 u112 u113 u114 u115 u116 u117 u118 u119 u120 u121 u122 u123 u124 u125 u126 u127 u128 u129 u130 u131 u132 u133 u134 u135 u136 u137 u138 u139 u140 : Value} {k ga ba off n cp m c2 : Nat} {v : Int} {ops : Array Oper} (hops : (Try.f6.body.bind (regOpsH 17)) = some ops) {Q : Exit → Act → World → Prop} {ds : List Deferred} {W : World} (hlt : k < m) (hn : 0 < n) (hq1 : W.cell? ⟨ga, k, none⟩ = some (.int .u8 v)) (hq2 : W.cell? ⟨ba, off, none⟩ = some (.int .u8 v)) (hQ : ∀ (c : List PanicEntry) (a a' : Act) (w : World), a'.defers = a.defers → Q (.panic c) a' w → Q (.panic c) a w) (h : ∀ x96 x97 x98 x99 x100 x101 x102, Q .normal { tmps := #[.slice (some ⟨ba, off, none⟩) n cp, u1, u2, u3, u4, u5, u6, u7, u8, u9, .slice (some ⟨ga, 0, none⟩) m c2, .int .i64 (k : Int), u12, u13, u14, u15, u16, u17, u18, u19, u20, u21, u22, u23, u24, u25, u26, u27, u28, u29, u30, u31, u32, u33, u34, u35, u36, u37, u38, u39, u40, u41, u42, u43, u44, u45, u46, u47, u48, u49, u50, u51, u52, u53, u54, u55, u56, u57, u58, u59, u60, u61, u62, u63, u64, u65, u66, u67, u68, u69, u70, u71, u72, u73, u74, u75, u76, u77, u78, u79, u80, u81, u82, u83, u84, u85, u86, u87, u88, u89, u90, u91, u92, u93, u94, u95, x96, x97, x98, x99, x100, x101, x102, .bool false, u104, u105, u106, u107, u108, u109, u110, u111, u112, u113, u114, u115, u116, u117, u118, u119, u120, u121, u122, u123, u124, u125, u126, u127, u128, u129, u130, u131, u132, u133, u134, u135, u136, u137, u138, u139, u140], defers := ds } W.drew) : Code.wp Try.prog (Code.region 17 ops true) Q { tmps := #[.slice (some ⟨ba, off, none⟩) n cp, u1, u2, u3, u4, u5, u6, u7, u8, u9, .slice (some ⟨ga, 0, none⟩) m c2, .int .i64 (k : Int), u12, u13, u14, u15, u16, u17, u18, u19, u20, u21, u22, u23, u24, u25, u26, u27, u28, u29, u30, u31, u32, u33, u34, u35, u36, u37, u38, u39, u40, u41, u42, u43, u44, u45, u46, u47, u48, u49, u50, u51, u52, u53, u54, u55, u56, u57, u58, u59, u60, u61, u62, u63, u64, u65, u66, u67, u68, u69, u70, u71, u72, u73, u74, u75, u76, u77, u78, u79, u80, u81, u82, u83, u84, u85, u86, u87, u88, u89, u90, u91, u92, u93, u94, u95, u96, u97, u98, u99, u100, u101, u102, u103, u104, u105, u106, u107, u108, u109, u110, u111, u112, u113, u114, u115, u116, u117, u118, u119, u120, u121, u122, u123, u124, u125, u126, u127, u128, u129, u130, u131, u132, u133, u134, u135, u136, u137, u138, u139, u140], defers := ds } W := by
  simp [Try.f6, regOpsH] at hops
  subst hops
  have i0 : (k : Int) < (m : Int) := by omega
  have i1 : (0 : Int) ≤ (k : Int) := by omega
  have j0 : (0 : Int) < (n : Int) := by omega
  have j1 : (0 : Int) ≤ (0 : Int) := by omega
  have H := Lib.hid h
  clear h hlt
  refine wp_region_held_drew (S := (fun w' => w'.cell? ⟨ga, k, none⟩ = some (.int .u8 v) ∧ w'.cell? ⟨ba, off, none⟩ = some (.int .u8 v))) (by kernel_rfl) ?_ (fun hHeld => ?_)
  · (try dsimp only); exact ⟨hq1, hq2⟩
  refine' takeL (i := 0) (v := _) rfl (by kernel_rfl) (by kernel_rfl) (by kernel_rfl) (fun c a w => hQ c a _ w rfl) (Or.inl ⟨by rfl, ?yy106⟩) (by assumption) ?rr106
  case yy106 => intro w hSw; (try dsimp only at hSw); go_simp; (try with_reducible rfl)
  try simp only [Act.put, List.setIfInBounds_toArray, List.set_cons_zero, List.set_cons_succ]
  refine' takeL (i := 1) (v := _) rfl (by kernel_rfl) (by kernel_rfl) (by kernel_rfl) (fun c a w => hQ c a _ w rfl) (Or.inl ⟨by rfl, ?yy107⟩) (by assumption) ?rr107
  case yy107 => intro w hSw; (try dsimp only at hSw); go_simp; (try with_reducible rfl)
  try simp only [Act.put, List.setIfInBounds_toArray, List.set_cons_zero, List.set_cons_succ]
  refine' takeL (i := 2) (v := _) rfl (by kernel_rfl) (by kernel_rfl) (by kernel_rfl) (fun c a w => hQ c a _ w rfl) (Or.inl ⟨by rfl, ?yy108⟩) (by assumption) ?rr108
  case yy108 => intro w hSw; (try dsimp only at hSw); have e := i0; have e' := i1; go_simp; (try with_reducible rfl)
  try simp only [Act.put, List.setIfInBounds_toArray, List.set_cons_zero, List.set_cons_succ]
  refine' takeL (i := 3) (v := .int .u8 v) rfl (by kernel_rfl) (by kernel_rfl) (by kernel_rfl) (fun c a w => hQ c a _ w rfl) (Or.inl ⟨by rfl, ?yy109⟩) (by assumption) ?rr109
  case yy109 => intro w hSw; (try dsimp only at hSw); have hz := hSw.1; go_simp; (try with_reducible rfl)
  try simp only [Act.put, List.setIfInBounds_toArray, List.set_cons_zero, List.set_cons_succ]
  refine' takeL (i := 4) (v := _) rfl (by kernel_rfl) (by kernel_rfl) (by kernel_rfl) (fun c a w => hQ c a _ w rfl) (Or.inl ⟨by rfl, ?yy110⟩) (by assumption) ?rr110
  case yy110 => intro w hSw; (try dsimp only at hSw); go_simp; (try with_reducible rfl)
  try simp only [Act.put, List.setIfInBounds_toArray, List.set_cons_zero, List.set_cons_succ]
  refine' takeL (i := 5) (v := _) rfl (by kernel_rfl) (by kernel_rfl) (by kernel_rfl) (fun c a w => hQ c a _ w rfl) (Or.inl ⟨by rfl, ?yy111⟩) (by assumption) ?rr111
  case yy111 => intro w hSw; (try dsimp only at hSw); have e := hn; go_simp; (try with_reducible rfl)
  try simp only [Act.put, List.setIfInBounds_toArray, List.set_cons_zero, List.set_cons_succ]
  refine' takeL (i := 6) (v := .int .u8 v) rfl (by kernel_rfl) (by kernel_rfl) (by kernel_rfl) (fun c a w => hQ c a _ w rfl) (Or.inl ⟨by rfl, ?yy112⟩) (by assumption) ?rr112
  case yy112 => intro w hSw; (try dsimp only at hSw); have hz := hSw.2; go_simp; (try with_reducible rfl)
  try simp only [Act.put, List.setIfInBounds_toArray, List.set_cons_zero, List.set_cons_succ]
  refine' takeL (i := 7) (v := _) rfl (by kernel_rfl) (by kernel_rfl) (by kernel_rfl) (fun c a w => hQ c a _ w rfl) (Or.inl ⟨by rfl, ?yy113⟩) (by assumption) ?rr113
  case yy113 => intro w hSw; (try dsimp only at hSw); go_simp; (try with_reducible rfl)
  try simp only [Act.put, List.setIfInBounds_toArray, List.set_cons_zero, List.set_cons_succ]
  refine wpAnyH_done (by kernel_rfl) ?_ _
  exact H.out _ _ _ _ _ _ _
set_option maxRecDepth 1000000 in
set_option maxHeartbeats 8000000 in
theorem moves_loop {u1 u2 u3 u4 u5 u6 u7 u8 u9 u12 u13 u14 u15 u16 u17 u18 u19 u20 u21 u22 u23 u24 u25 u26 u27 u28 u29 u30 u31 u32 u33 u34 u35 u36 u37 u38 u39 u40 u41 u42 u43 u44 u45 u46 u47 u48 u49 u50 u51 u52 u53 u54 u55 u56 u57 u58 u59 u60 u61 u62 u63 u64 u65 u66 u67 u68 u69 u70 u71 u72 u73 u74 u75 u76 u77 u78 u79 u80 u81 u82 u83 u84 u85 u86 u87 u88 u89 u90 u91 u92 u93 u94 u95 u96 u97 u98 u99 u100 u101 u102 u103 u104 u105 u106 u107 u108 u109 u110 u111 u112 u113 u114 u115 u116 u117 u118 u119 u120 u121 u122 u123 u124 u125 u126 u127 u128 u129 u130 u131 u132 u133 u134 u135 u136 u137 u138 u139 u140 : Value} {ga ba off n cp m c2 : Nat} {v : Int} {body : Code} (hbody : (Try.f6.body.bind loopAtH) = some body) {Q : Exit → Act → World → Prop} {ds : List Deferred} {W : World} (hm : m ≤ 65536) (hn : 0 < n) (hall : ∀ k, k < m → W.cell? ⟨ga, k, none⟩ = some (.int .u8 v)) (hb : W.cell? ⟨ba, off, none⟩ = some (.int .u8 v)) (hQ : ∀ (c : List PanicEntry) (a a' : Act) (w : World), a'.defers = a.defers → Q (.panic c) a' w → Q (.panic c) a w)
    (h : ∀ (d : Nat) (x2 x11 x90 x91 x92 x93 x94 x95 x96 x97 x98 x99 x100 x101 x102 x103 : Value), Q (.exit 0) { tmps := #[.slice (some ⟨ba, off, none⟩) n cp, u1, x2, u3, u4, u5, u6, u7, u8, u9, .slice (some ⟨ga, 0, none⟩) m c2, x11, u12, u13, u14, u15, u16, u17, u18, u19, u20, u21, u22, u23, u24, u25, u26, u27, u28, u29, u30, u31, u32, u33, u34, u35, u36, u37, u38, u39, u40, u41, u42, u43, u44, u45, u46, u47, u48, u49, u50, u51, u52, u53, u54, u55, u56, u57, u58, u59, u60, u61, u62, u63, u64, u65, u66, u67, u68, u69, u70, u71, u72, u73, u74, u75, u76, u77, u78, u79, u80, u81, u82, u83, u84, u85, u86, u87, u88, u89, x90, x91, x92, x93, x94, x95, x96, x97, x98, x99, x100, x101, x102, x103, u104, u105, u106, u107, u108, u109, u110, u111, u112, u113, u114, u115, u116, u117, u118, u119, u120, u121, u122, u123, u124, u125, u126, u127, u128, u129, u130, u131, u132, u133, u134, u135, u136, u137, u138, u139, u140], defers := ds } (W.drewN d)) : Code.wp Try.prog (Code.loop body) Q { tmps := #[.slice (some ⟨ba, off, none⟩) n cp, u1, u2, u3, u4, u5, u6, u7, u8, u9, .slice (some ⟨ga, 0, none⟩) m c2, .int .i64 0, u12, u13, u14, u15, u16, u17, u18, u19, u20, u21, u22, u23, u24, u25, u26, u27, u28, u29, u30, u31, u32, u33, u34, u35, u36, u37, u38, u39, u40, u41, u42, u43, u44, u45, u46, u47, u48, u49, u50, u51, u52, u53, u54, u55, u56, u57, u58, u59, u60, u61, u62, u63, u64, u65, u66, u67, u68, u69, u70, u71, u72, u73, u74, u75, u76, u77, u78, u79, u80, u81, u82, u83, u84, u85, u86, u87, u88, u89, u90, u91, u92, u93, u94, u95, u96, u97, u98, u99, u100, u101, u102, u103, u104, u105, u106, u107, u108, u109, u110, u111, u112, u113, u114, u115, u116, u117, u118, u119, u120, u121, u122, u123, u124, u125, u126, u127, u128, u129, u130, u131, u132, u133, u134, u135, u136, u137, u138, u139, u140], defers := ds } W := by
  simp [Try.f6, loopAtH] at hbody
  subst hbody
  have LA := Lib.hid hall
  have LB := Lib.hid hb
  have HP := Lib.hid hQ
  have HE := Lib.hid h
  clear hall hb hQ h
  dsimp only
  go_loopw [11] (fun x w' => ∃ k : Nat, k ≤ m ∧ x = .int .i64 (k : Int) ∧ ∃ d, w' = W.drewN d) (fun x _ => m - (intOf x).toNat)
  case atStart => exact ⟨0, by omega, rfl, 0, rfl⟩
  case round =>
    obtain ⟨k, hk, rfl, d, rfl⟩ := hrel
    by_cases hlt : k < m
    · have i0 : (k : Int) < (m : Int) := by omega
      have L1 := Lib.hid (show (W.drewN d).cell? _ = _ from LA.out k hlt)
      have L2 := Lib.hid (show (W.drewN d).cell? _ = _ from LB.out)
      go_upto_region 17 with fail
      refine moves_reg17 (by kernel_rfl) hlt hn L1.out L2.out (fun c a a' w e h => HP.out c a a' w e h) ?_
      intros
      go_wp2
      exact ⟨⟨k + 1, by omega, rfl, d + 1, rfl⟩, by simp [intOf]; omega⟩
    · obtain rfl : k = m := by omega
      go_wp2
      exact HE.out d _ _ _ _ _ _ _ _ _ _ _ _ _ _ _ _
set_option maxRecDepth 1000000 in
set_option maxHeartbeats 8000000 in
theorem moves_reg21 {u0 u1 u2 u4 u6 u7 u8 u11 u12 u15 u16 u17 u18 u19 u20 u21 u22 u23 u24 u25 u26 u27 u28 u29 u30 u31 u32 u33 u34 u35 u36 u37 u38 u39 u40 u41 u42 u43 u44 u45 u46 u47 u48 u49 u50 u51 u52 u53 u54 u55 u56 u57 u58 u59 u60 u61 u62 u63 u64 u65 u66 u67 u68 u69 u70 u71 u72 u73 u74 u75 u76 u77 u78 u79 u80 u81 u82 u83 u84 u85 u86 u87 u88 u89 u90 u91 u92 u93 u94 u95 u96 u97 u98 u99 u100 u101 u102 u103 u104 u105 u106 u107 u108 u109 u110 u111 u112 u113 u114 u115 u116 u117 u118 u119 u120 u121 u122 u123 u124 u125 u126 u127 u128 u129 u130 u131 u132 u133 u134 u135 u136 u137 u138 u139 u140 : Value} {F : Foot} {bs ks X : List Int} {n ga c2 gp : Nat} {ops : Array Oper} (hops : (Try.f6.body.bind (regOpsH 21)) = some ops) {Q : Exit → Act → World → Prop} {ds : List Deferred} {W : World} (hn0 : 1 ≤ n) (hn1 : n ≤ 256) (hl : 1000 + n ≤ bs.length) (hS : St 71 W F bs ks) (hX : sGet bs ((1000 : Nat) : Int) (n : Int) = X) (hXz : X = List.replicate n 0) (hP : Bk W gp 30 [.int .i64 0, .int .i64 0, .bool false, .bool false, .bool false, .int .i64 0, .int .i64 0, .int .i64 0, .int .i64 0, .int .i64 0]) (hQ : ∀ (c : List PanicEntry) (a a' : Act) (w : World), a'.defers = a.defers → Q (.panic c) a' w → Q (.panic c) a w) (h : ∀ (w' : World) (x115 x116 x117 x118 x119 x120 x121 x122 x123 x124 x125 x126 x127 x128 x129 x130 x131 x132 x133 x134 x135 x136 x137 x138 x139 x140 : Value), Below W.heap.size W w' → Q .normal { tmps := #[u0, u1, .bool true, .pointer (some ⟨F.g, 0, none⟩), u4, .int .i64 (n : Int), u6, u7, u8, .int .i64 0, .slice (some ⟨ga, 0, none⟩) (n + 1) c2, u11, u12, .pointer (some ⟨gp, 0, none⟩), .int .i64 0, u15, u16, u17, u18, u19, u20, u21, u22, u23, u24, u25, u26, u27, u28, u29, u30, u31, u32, u33, u34, u35, u36, u37, u38, u39, u40, u41, u42, u43, u44, u45, u46, u47, u48, u49, u50, u51, u52, u53, u54, u55, u56, u57, u58, u59, u60, u61, u62, u63, u64, u65, u66, u67, u68, u69, u70, u71, u72, u73, u74, u75, u76, u77, u78, u79, u80, u81, u82, u83, u84, u85, u86, u87, u88, u89, u90, u91, u92, u93, u94, u95, u96, u97, u98, u99, u100, u101, u102, u103, u104, u105, u106, u107, u108, u109, u110, u111, u112, u113, u114, x115, x116, x117, x118, x119, x120, x121, x122, x123, x124, x125, x126, x127, x128, x129, x130, x131, x132, x133, x134, x135, x136, x137, x138, x139, x140], defers := ds } w') : Code.wp Try.prog (Code.region 21 ops true) Q { tmps := #[u0, u1, u2, .pointer (some ⟨F.g, 0, none⟩), u4, .int .i64 (n : Int), u6, u7, u8, .int .i64 0, .slice (some ⟨ga, 0, none⟩) (n + 1) c2, u11, u12, .pointer (some ⟨gp, 0, none⟩), .int .i64 0, u15, u16, u17, u18, u19, u20, u21, u22, u23, u24, u25, u26, u27, u28, u29, u30, u31, u32, u33, u34, u35, u36, u37, u38, u39, u40, u41, u42, u43, u44, u45, u46, u47, u48, u49, u50, u51, u52, u53, u54, u55, u56, u57, u58, u59, u60, u61, u62, u63, u64, u65, u66, u67, u68, u69, u70, u71, u72, u73, u74, u75, u76, u77, u78, u79, u80, u81, u82, u83, u84, u85, u86, u87, u88, u89, u90, u91, u92, u93, u94, u95, u96, u97, u98, u99, u100, u101, u102, u103, u104, u105, u106, u107, u108, u109, u110, u111, u112, u113, u114, u115, u116, u117, u118, u119, u120, u121, u122, u123, u124, u125, u126, u127, u128, u129, u130, u131, u132, u133, u134, u135, u136, u137, u138, u139, u140], defers := ds } W := by
  simp [Try.f6, regOpsH] at hops
  subst hops
  have ee : (((n + 1 : Nat) : Int) == (n : Int) + 1) = true := by simp
  have wz : IntKind.i64.wrap ((n : Int) + 1) = (n : Int) + 1 := by simp only [IntKind.wrap, IntKind.bits, IntKind.signed]; simp; omega
  have H := Lib.hid h
  have S0 := Lib.hid hS
  have P0 := Lib.hid hP
  clear h hS hP
  refine wp_region_held_drew (S := (fun w' => w'.cell? ⟨gp, 7, none⟩ = some (.int .i64 0))) (by kernel_rfl) ?_ (fun hHeld => ?_)
  · (try dsimp only); exact (P0.out.drewN 1).cell (c := 7) rfl
  obtain ⟨A, hWd⟩ : ∃ Wd, W.drew = Wd := ⟨_, rfl⟩
  have S : Hid (St 71 A F bs ks) := by rw [← hWd]; exact S0.out.drewN 1
  have P : Hid (Bk A gp 30 [.int .i64 0, .int .i64 0, .bool false, .bool false, .bool false, .int .i64 0, .int .i64 0, .int .i64 0, .int .i64 0, .int .i64 0]) := by rw [← hWd]; exact P0.out.drewN 1
  have HB : Hid (Below W.heap.size W A) := by rw [← hWd]; exact dBelow' (Below.refl _ _) 1
  rw [hWd] at hHeld ⊢
  clear hWd S0 P0
  refine' takeL (i := 0) (v := _) rfl (by kernel_rfl) (by kernel_rfl) (by kernel_rfl) (fun c a w => hQ c a _ w rfl) (Or.inl ⟨by rfl, ?yy114⟩) (by assumption) ?rr114
  case yy114 => intro w hSw; (try dsimp only at hSw); go_simp; (try with_reducible rfl)
  try simp only [Act.put, List.setIfInBounds_toArray, List.set_cons_zero, List.set_cons_succ]
  refine' takeL (i := 1) (v := _) rfl (by kernel_rfl) (by kernel_rfl) (by kernel_rfl) (fun c a w => hQ c a _ w rfl) (Or.inl ⟨by rfl, ?yy115⟩) (by assumption) ?rr115
  case yy115 => intro w hSw; (try dsimp only at hSw); go_simp; (try with_reducible rfl)
  try simp only [Act.put, List.setIfInBounds_toArray, List.set_cons_zero, List.set_cons_succ]
  refine' takeL (i := 2) (v := _) rfl (by kernel_rfl) (by kernel_rfl) (by kernel_rfl) (fun c a w => hQ c a _ w rfl) (Or.inl ⟨by rfl, ?yy116⟩) (by assumption) ?rr116
  case yy116 => intro w hSw; (try dsimp only at hSw); go_simp; (try with_reducible rfl)
  try simp only [Act.put, List.setIfInBounds_toArray, List.set_cons_zero, List.set_cons_succ]
  refine' takeL (i := 3) (v := _) rfl (by kernel_rfl) (by kernel_rfl) (by kernel_rfl) (fun c a w => hQ c a _ w rfl) (Or.inl ⟨by rfl, ?yy117⟩) (by assumption) ?rr117
  case yy117 => intro w hSw; (try dsimp only at hSw); go_simp; (try with_reducible rfl)
  try simp only [Act.put, List.setIfInBounds_toArray, List.set_cons_zero, List.set_cons_succ]
  refine' takeL (i := 4) (v := _) rfl (by kernel_rfl) (by kernel_rfl) (by kernel_rfl) (fun c a w => hQ c a _ w rfl) (Or.inl ⟨by rfl, ?yy118⟩) (by assumption) ?rr118
  case yy118 => intro w hSw; (try dsimp only at hSw); go_simp; (try with_reducible rfl)
  try simp only [Act.put, List.setIfInBounds_toArray, List.set_cons_zero, List.set_cons_succ]
  refine' takeL (i := 5) (v := _) rfl (by kernel_rfl) (by kernel_rfl) (by kernel_rfl) (fun c a w => hQ c a _ w rfl) (Or.inl ⟨by rfl, ?yy119⟩) (by assumption) ?rr119
  case yy119 => intro w hSw; (try dsimp only at hSw); go_simp; (try with_reducible rfl)
  try simp only [Act.put, List.setIfInBounds_toArray, List.set_cons_zero, List.set_cons_succ]
  refine' takeL (i := 6) (v := _) rfl (by kernel_rfl) (by kernel_rfl) (by kernel_rfl) (fun c a w => hQ c a _ w rfl) (Or.inl ⟨by rfl, ?yy120⟩) (by assumption) ?rr120
  case yy120 => intro w hSw; (try dsimp only at hSw); go_simp; (try with_reducible rfl)
  try simp only [Act.put, List.setIfInBounds_toArray, List.set_cons_zero, List.set_cons_succ]
  refine' takeL (i := 7) (v := _) rfl (by kernel_rfl) (by kernel_rfl) (by kernel_rfl) (fun c a w => hQ c a _ w rfl) (Or.inl ⟨by rfl, ?yy121⟩) (by assumption) ?rr121
  case yy121 => intro w hSw; (try dsimp only at hSw); go_simp; (try with_reducible rfl)
  try simp only [Act.put, List.setIfInBounds_toArray, List.set_cons_zero, List.set_cons_succ]
  refine' takeL (i := 8) (v := _) rfl (by kernel_rfl) (by kernel_rfl) (by kernel_rfl) (fun c a w => hQ c a _ w rfl) (Or.inl ⟨by rfl, ?yy122⟩) (by assumption) ?rr122
  case yy122 => intro w hSw; (try dsimp only at hSw); go_simp; (try with_reducible rfl)
  try simp only [Act.put, List.setIfInBounds_toArray, List.set_cons_zero, List.set_cons_succ]
  refine' takeL (i := 9) (v := _) rfl (by kernel_rfl) (by kernel_rfl) (by kernel_rfl) (fun c a w => hQ c a _ w rfl) (Or.inl ⟨by rfl, ?yy123⟩) (by assumption) ?rr123
  case yy123 => intro w hSw; (try dsimp only at hSw); go_simp; (try with_reducible rfl)
  try simp only [Act.put, List.setIfInBounds_toArray, List.set_cons_zero, List.set_cons_succ]
  refine' takeL (i := 10) (v := _) rfl (by kernel_rfl) (by kernel_rfl) (by kernel_rfl) (fun c a w => hQ c a _ w rfl) (Or.inl ⟨by rfl, ?yy124⟩) (by assumption) ?rr124
  case yy124 => intro w hSw; (try dsimp only at hSw); go_simp; (try with_reducible rfl)
  try simp only [Act.put, List.setIfInBounds_toArray, List.set_cons_zero, List.set_cons_succ]
  refine' takeL (i := 11) (v := .bool true) rfl (by kernel_rfl) (by kernel_rfl) (by kernel_rfl) (fun c a w => hQ c a _ w rfl) (Or.inl ⟨by rfl, ?yy125⟩) (by assumption) ?rr125
  case yy125 => intro w hSw; (try dsimp only at hSw); have ez := ee; go_simp; (try with_reducible rfl)
  try simp only [Act.put, List.setIfInBounds_toArray, List.set_cons_zero, List.set_cons_succ]
  refine' takeL (i := 12) (v := _) rfl (by kernel_rfl) (by kernel_rfl) (by kernel_rfl) (fun c a w => hQ c a _ w rfl) (Or.inl ⟨by rfl, ?yy126⟩) (by assumption) ?rr126
  case yy126 => intro w hSw; (try dsimp only at hSw); go_simp; (try with_reducible rfl)
  try simp only [Act.put, List.setIfInBounds_toArray, List.set_cons_zero, List.set_cons_succ]
  refine' takeL (i := 13) (v := _) rfl (by kernel_rfl) (by kernel_rfl) (by kernel_rfl) (fun c a w => hQ c a _ w rfl) (Or.inl ⟨by rfl, ?yy127⟩) (by assumption) ?rr127
  case yy127 => intro w hSw; (try dsimp only at hSw); go_simp; (try with_reducible rfl)
  try simp only [Act.put, List.setIfInBounds_toArray, List.set_cons_zero, List.set_cons_succ]
  refine' takeL (i := 14) (v := _) rfl (by kernel_rfl) (by kernel_rfl) (by kernel_rfl) (fun c a w => hQ c a _ w rfl) (Or.inl ⟨by rfl, ?yy128⟩) (by assumption) ?rr128
  case yy128 => intro w hSw; (try dsimp only at hSw); go_simp; (try with_reducible rfl)
  try simp only [Act.put, List.setIfInBounds_toArray, List.set_cons_zero, List.set_cons_succ]
  refine' takeL (i := 15) (v := .int .i64 0) rfl (by kernel_rfl) (by kernel_rfl) (by kernel_rfl) (fun c a w => hQ c a _ w rfl) (Or.inl ⟨by rfl, ?yy129⟩) (by assumption) ?rr129
  case yy129 => intro w hSw; (try dsimp only at hSw); have hz := hSw; go_simp; (try with_reducible rfl)
  try simp only [Act.put, List.setIfInBounds_toArray, List.set_cons_zero, List.set_cons_succ]
  refine' takeL (i := 16) (v := _) rfl (by kernel_rfl) (by kernel_rfl) (by kernel_rfl) (fun c a w => hQ c a _ w rfl) (Or.inl ⟨by rfl, ?yy130⟩) (by assumption) ?rr130
  case yy130 => intro w hSw; (try dsimp only at hSw); go_simp; (try with_reducible rfl)
  try simp only [Act.put, List.setIfInBounds_toArray, List.set_cons_zero, List.set_cons_succ]
  refine' takeL (i := 17) (v := _) rfl (by kernel_rfl) (by kernel_rfl) (by kernel_rfl) (fun c a w => hQ c a _ w rfl) (Or.inl ⟨by rfl, ?yy131⟩) (by assumption) ?rr131
  case yy131 => intro w hSw; (try dsimp only at hSw); go_simp; (try with_reducible rfl)
  try simp only [Act.put, List.setIfInBounds_toArray, List.set_cons_zero, List.set_cons_succ]
  refine' takeL (i := 18) (v := _) rfl (by kernel_rfl) (by kernel_rfl) (by kernel_rfl) (fun c a w => hQ c a _ w rfl) (Or.inl ⟨by rfl, ?yy132⟩) (by assumption) ?rr132
  case yy132 => intro w hSw; (try dsimp only at hSw); go_simp; (try with_reducible rfl)
  try simp only [Act.put, List.setIfInBounds_toArray, List.set_cons_zero, List.set_cons_succ]
  refine' takeL (i := 19) (v := _) rfl (by kernel_rfl) (by kernel_rfl) (by kernel_rfl) (fun c a w => hQ c a _ w rfl) (Or.inl ⟨by rfl, ?yy133⟩) (by assumption) ?rr133
  case yy133 => intro w hSw; (try dsimp only at hSw); go_simp; (try with_reducible rfl)
  try simp only [Act.put, List.setIfInBounds_toArray, List.set_cons_zero, List.set_cons_succ]
  refine' takeL (i := 20) (v := _) rfl (by kernel_rfl) (by kernel_rfl) (by kernel_rfl) (fun c a w => hQ c a _ w rfl) (Or.inl ⟨by rfl, ?yy134⟩) (by assumption) ?rr134
  case yy134 => intro w hSw; (try dsimp only at hSw); go_simp; (try with_reducible rfl)
  try simp only [Act.put, List.setIfInBounds_toArray, List.set_cons_zero, List.set_cons_succ]
  refine' takeL (i := 22) (v := _) rfl (by kernel_rfl) (by kernel_rfl) (by kernel_rfl) (fun c a w => hQ c a _ w rfl) (Or.inl ⟨by rfl, ?yy135⟩) (by assumption) ?rr135
  case yy135 => intro w hSw; (try dsimp only at hSw); go_simp; (try with_reducible rfl)
  try simp only [Act.put, List.setIfInBounds_toArray, List.set_cons_zero, List.set_cons_succ]
  refine wpAnyH_ready (rs := [21, 23]) (by kernel_rfl) (by simp) ?_
  refine consL rfl (fun K hK => ?_) ?_
  · go_simp
    go_at_call 19
    refine (get9 A S.out 1000 (n : Int) 0 X (by omega) (by omega) hX).mono ?_
    rintro e V ⟨b1, m1, c1, rfl, hm1, hy, -, hb⟩
    have hmm : n = m1 := by omega
    subst hmm
    replace S := Lib.hid (S.out.belowS hb)
    replace P := Lib.hid (P.out.keep hb)
    replace HB := Lib.hid (HB.out.trans (hb.mono HB.out.size))
    clear hb
    have Y1 := Lib.hid hy
    clear hy hm1
    clear hHeld A
    rename World => A
    go_wp2_with fail
    refine hK.out _ _ ?_ (fun hHeld => ?_)
    · (try dsimp only); exact P.out.cell (c := 7) rfl
    clear hK K
    try simp only [Act.put, List.setIfInBounds_toArray, List.set_cons_zero, List.set_cons_succ]
    refine wpAnyH_ready (rs := [23]) (by kernel_rfl) (by simp) ?_
    refine consL rfl (fun K hK => ?_) AllReadyH.nil
    have MK := run_mk_b n (by omega) A
    go_simp
    clear MK
    obtain ⟨V, hW⟩ : ∃ V, A.alloc (.cells (zeroB n) 5) = V := ⟨_, rfl⟩
    have hy : Byt V (some ⟨A.heap.size, 0, none⟩) n (List.replicate n 0) := by rw [← hW]; exact (own_zeros A n 0 (by omega) (by unfold maxLen; omega)).byt
    obtain ⟨b2, hb2⟩ : ∃ q, A.heap.size = q := ⟨_, rfl⟩
    rw [hb2] at hy
    have hb : Below A.heap.size A V := by rw [← hW]; exact (Below.refl _ _).alloc (Nat.le_refl _) _
    rw [hW]
    try rw [hb2]
    clear hW hb2
    replace S := Lib.hid (S.out.belowS hb)
    replace P := Lib.hid (P.out.keep hb)
    replace Y1 := Lib.hid (Y1.out.keep hb)
    replace HB := Lib.hid (HB.out.trans (hb.mono HB.out.size))
    clear hb
    have Y2 := Lib.hid hy
    clear hy
    clear hHeld A
    rename World => A
    refine hK.out _ _ ?_ (fun hHeld => ?_)
    · (try dsimp only); exact P.out.cell (c := 7) rfl
    clear hK K
    try simp only [Act.put, List.setIfInBounds_toArray, List.set_cons_zero, List.set_cons_succ]
    refine wpAnyH_ready (rs := [24]) (by kernel_rfl) (by simp) ?_
    refine consL rfl (fun K hK => ?_) AllReadyH.nil
    go_simp
    go_at_call 18
    refine (same9_t _ _ _ _ _ _ _ _ A Y1.out Y2.out hXz (by omega)).mono ?_
    rintro e V ⟨rfl, hb⟩
    replace S := Lib.hid (S.out.belowS hb)
    replace P := Lib.hid (P.out.keep hb)
    replace HB := Lib.hid (HB.out.trans (hb.mono HB.out.size))
    clear hb
    clear Y1 Y2
    clear hHeld A
    rename World => A
    go_wp2_with fail
    refine hK.out _ _ ?_ (fun hHeld => ?_)
    · (try dsimp only); exact P.out.cell (c := 7) rfl
    clear hK K
    try simp only [Act.put, List.setIfInBounds_toArray, List.set_cons_zero, List.set_cons_succ]
    refine' takeL (i := 25) (v := _) rfl (by kernel_rfl) (by kernel_rfl) (by kernel_rfl) (fun c a w => hQ c a _ w rfl) (Or.inl ⟨by rfl, ?yy136⟩) (by assumption) ?rr136
    case yy136 => intro w hSw; (try dsimp only at hSw); go_simp; (try with_reducible rfl)
    try simp only [Act.put, List.setIfInBounds_toArray, List.set_cons_zero, List.set_cons_succ]
    refine' takeL (i := 26) (v := _) rfl (by kernel_rfl) (by kernel_rfl) (by kernel_rfl) (fun c a w => hQ c a _ w rfl) (Or.inl ⟨by rfl, ?yy137⟩) (by assumption) ?rr137
    case yy137 => intro w hSw; (try dsimp only at hSw); go_simp; (try with_reducible rfl)
    try simp only [Act.put, List.setIfInBounds_toArray, List.set_cons_zero, List.set_cons_succ]
    refine wpAnyH_done (by kernel_rfl) ?_ _
    exact H.out _ _ _ _ _ _ _ _ _ _ _ _ _ _ _ _ _ _ _ _ _ _ _ _ _ _ _ HB.out
  refine consL rfl (fun K hK => ?_) AllReadyH.nil
  have MK := run_mk_b n (by omega) A
  go_simp
  clear MK
  obtain ⟨V, hW⟩ : ∃ V, A.alloc (.cells (zeroB n) 5) = V := ⟨_, rfl⟩
  have hy : Byt V (some ⟨A.heap.size, 0, none⟩) n (List.replicate n 0) := by rw [← hW]; exact (own_zeros A n 0 (by omega) (by unfold maxLen; omega)).byt
  obtain ⟨b2, hb2⟩ : ∃ q, A.heap.size = q := ⟨_, rfl⟩
  rw [hb2] at hy
  have hb : Below A.heap.size A V := by rw [← hW]; exact (Below.refl _ _).alloc (Nat.le_refl _) _
  rw [hW]
  try rw [hb2]
  clear hW hb2
  replace S := Lib.hid (S.out.belowS hb)
  replace P := Lib.hid (P.out.keep hb)
  replace HB := Lib.hid (HB.out.trans (hb.mono HB.out.size))
  clear hb
  have Y2 := Lib.hid hy
  clear hy
  clear hHeld A
  rename World => A
  refine hK.out _ _ ?_ (fun hHeld => ?_)
  · (try dsimp only); exact P.out.cell (c := 7) rfl
  clear hK K
  try simp only [Act.put, List.setIfInBounds_toArray, List.set_cons_zero, List.set_cons_succ]
  refine wpAnyH_ready (rs := [21]) (by kernel_rfl) (by simp) ?_
  refine consL rfl (fun K hK => ?_) AllReadyH.nil
  go_simp
  go_at_call 19
  refine (get9 A S.out 1000 (n : Int) 0 X (by omega) (by omega) hX).mono ?_
  rintro e V ⟨b1, m1, c1, rfl, hm1, hy, -, hb⟩
  have hmm : n = m1 := by omega
  subst hmm
  replace S := Lib.hid (S.out.belowS hb)
  replace P := Lib.hid (P.out.keep hb)
  replace Y2 := Lib.hid (Y2.out.keep hb)
  replace HB := Lib.hid (HB.out.trans (hb.mono HB.out.size))
  clear hb
  have Y1 := Lib.hid hy
  clear hy hm1
  clear hHeld A
  rename World => A
  go_wp2_with fail
  refine hK.out _ _ ?_ (fun hHeld => ?_)
  · (try dsimp only); exact P.out.cell (c := 7) rfl
  clear hK K
  try simp only [Act.put, List.setIfInBounds_toArray, List.set_cons_zero, List.set_cons_succ]
  refine wpAnyH_ready (rs := [24]) (by kernel_rfl) (by simp) ?_
  refine consL rfl (fun K hK => ?_) AllReadyH.nil
  go_simp
  go_at_call 18
  refine (same9_t _ _ _ _ _ _ _ _ A Y1.out Y2.out hXz (by omega)).mono ?_
  rintro e V ⟨rfl, hb⟩
  replace S := Lib.hid (S.out.belowS hb)
  replace P := Lib.hid (P.out.keep hb)
  replace HB := Lib.hid (HB.out.trans (hb.mono HB.out.size))
  clear hb
  clear Y1 Y2
  clear hHeld A
  rename World => A
  go_wp2_with fail
  refine hK.out _ _ ?_ (fun hHeld => ?_)
  · (try dsimp only); exact P.out.cell (c := 7) rfl
  clear hK K
  try simp only [Act.put, List.setIfInBounds_toArray, List.set_cons_zero, List.set_cons_succ]
  refine' takeL (i := 25) (v := _) rfl (by kernel_rfl) (by kernel_rfl) (by kernel_rfl) (fun c a w => hQ c a _ w rfl) (Or.inl ⟨by rfl, ?yy138⟩) (by assumption) ?rr138
  case yy138 => intro w hSw; (try dsimp only at hSw); go_simp; (try with_reducible rfl)
  try simp only [Act.put, List.setIfInBounds_toArray, List.set_cons_zero, List.set_cons_succ]
  refine' takeL (i := 26) (v := _) rfl (by kernel_rfl) (by kernel_rfl) (by kernel_rfl) (fun c a w => hQ c a _ w rfl) (Or.inl ⟨by rfl, ?yy139⟩) (by assumption) ?rr139
  case yy139 => intro w hSw; (try dsimp only at hSw); go_simp; (try with_reducible rfl)
  try simp only [Act.put, List.setIfInBounds_toArray, List.set_cons_zero, List.set_cons_succ]
  refine wpAnyH_done (by kernel_rfl) ?_ _
  exact H.out _ _ _ _ _ _ _ _ _ _ _ _ _ _ _ _ _ _ _ _ _ _ _ _ _ _ _ HB.out
end Go.Proofs.Ythjdjbipfdigeaa

namespace Go.Proofs.Ythjdjbipfdigeaa
open Go.RowKit
set_option maxRecDepth 100000
set_option linter.unusedVariables false
set_option linter.unusedSimpArgs false
set_option maxRecDepth 1000000 in
set_option maxHeartbeats 4000000 in
theorem Exec_over (op fm r1 r2 x2 b1 d1 b2 d2 l1 l2 i2 : Int) (a0 a1 a2 a3 a4 a5 a6 a7 a8 a9 a10 a11 a12 a13 a14 a15 : Int) (pm pk : Int) (pM pW pP : Bool) (pc pi pq pg pa : Int) (sg : Nat) (L : List Nat) (R : World → Prop) (n0 n1 n2 n3 n4 n5 n6 n7 n8 n9 n10 n11 n12 n13 n14 n15 : Int) (vm vk : Int) (vM vW vP : Bool) (vc vi vq vg va : Int) (ov : Bool) (w : World) (hkn : kn op = true) (hck : chk op fm [op, fm, r1, r2, x2, b1, d1, b2, d2, l1, l2, i2] = 0) (hv : pok pm pk pc pi pq pg pa = true) (hL : ∀ k, k ∈ L → k < w.heap.size) (hR : ∀ W W', R W → Below w.heap.size W W' → R W') (hex : ∀ (g : Nat) (W : World), w.heap.size ≤ g → Below w.heap.size w W → Mc W g [op, fm, r1, r2, x2, b1, d1, b2, d2, l1, l2, i2] [a0, a1, a2, a3, a4, a5, a6, a7, a8, a9, a10, a11, a12, a13, a14, a15] [a0, a1, a2, a3, a4, a5, a6, a7, a8, a9, a10, a11, a12, a13, a14, a15] [.int .i64 pm, .int .i64 pk, .bool pM, .bool pW, .bool pP, .int .i64 pc, .int .i64 pi, .int .i64 pq, .int .i64 pg, .int .i64 pa] (.pointer (some ⟨sg, 0, none⟩)) false → Calls Try.prog 31 #[.pointer (some ⟨g, 0, none⟩)] W fun e w' => e = .returned (.tuple #[]) ∧ Mc w' g [op, fm, r1, r2, x2, b1, d1, b2, d2, l1, l2, i2] [a0, a1, a2, a3, a4, a5, a6, a7, a8, a9, a10, a11, a12, a13, a14, a15] [n0, n1, n2, n3, n4, n5, n6, n7, n8, n9, n10, n11, n12, n13, n14, n15] [(.int .i64 vm), (.int .i64 vk), (.bool vM), (.bool vW), (.bool vP), (.int .i64 vc), (.int .i64 vi), (.int .i64 vq), (.int .i64 vg), (.int .i64 va)] (.pointer (some ⟨sg, 0, none⟩)) ov ∧ Ch W w' (g :: L) ∧ R w') (ho : ov = true) (h8 : bits .and .i64 pg 8 = 8) : Calls Try.prog 14 #[.agg #[.int .i64 op, .int .i64 fm, .int .i64 r1, .int .i64 r2, .int .i64 x2, .int .i64 b1, .int .i64 d1, .int .i64 b2, .int .i64 d2, .int .i64 l1, .int .i64 l2, .int .i64 i2], .agg #[.int .u32 a0, .int .u32 a1, .int .u32 a2, .int .u32 a3, .int .u32 a4, .int .u32 a5, .int .u32 a6, .int .u32 a7, .int .u32 a8, .int .u32 a9, .int .u32 a10, .int .u32 a11, .int .u32 a12, .int .u32 a13, .int .u32 a14, .int .u32 a15], .agg #[.int .i64 pm, .int .i64 pk, .bool pM, .bool pW, .bool pP, .int .i64 pc, .int .i64 pi, .int .i64 pq, .int .i64 pg, .int .i64 pa], .pointer (some ⟨sg, 0, none⟩)] w fun e w' => e = .returned (.tuple #[.agg #[.int .u32 n0, .int .u32 n1, .int .u32 n2, .int .u32 n3, .int .u32 n4, .int .u32 n5, .int .u32 n6, .int .u32 n7, .int .u32 n8, .int .u32 n9, .int .u32 n10, .int .u32 n11, .int .u32 n12, .int .u32 n13, .int .u32 n14, .int .u32 n15], .agg #[(.int .i64 vm), (.int .i64 vk), (.bool vM), (.bool vW), (.bool vP), (.int .i64 vc), (.int .i64 vi), (.int .i64 vq), (.int .i64 vg), (.int .i64 va)], .int .i64 8]) ∧ R w' ∧ Ch w w' L := by
  have hmf : ∀ (fn : Fn) (first cap : Array Value) (w : World), (Instr.makeFunc fn first cap).run Try.prog w = .ok (.func fn first cap) w := fun _ _ _ _ => rfl
  have KC := Lib.hid (fun W => knows_c op W)
  rw [hkn] at KC
  have CC := Lib.hid (fun W => icheck_c op fm r1 r2 x2 b1 d1 b2 d2 l1 l2 i2 W)
  rw [hck] at CC
  have VC := Lib.hid (fun W => valid_c pm pk pM pW pP pc pi pq pg pa W)
  rw [hv] at VC
  subst ho
  have e8 : ((8 : Int) != 0) = true := by decide
  have HX := Lib.hid hex
  have HLL := Lib.hid hL
  have HRR := Lib.hid hR
  clear hkn hck hv hex hL hR
  go_enter_defers Try.func14, Try.ntmps14
  go_upto_region 1 with fail
  have X0 := Lib.hid (show XF w ((((((w.alloc (.cells #[.int .i64 op, .int .i64 fm, .int .i64 r1, .int .i64 r2, .int .i64 x2, .int .i64 b1, .int .i64 d1, .int .i64 b2, .int .i64 d2, .int .i64 l1, .int .i64 l2, .int .i64 i2] 25)).alloc (.cells #[.int .u32 a0, .int .u32 a1, .int .u32 a2, .int .u32 a3, .int .u32 a4, .int .u32 a5, .int .u32 a6, .int .u32 a7, .int .u32 a8, .int .u32 a9, .int .u32 a10, .int .u32 a11, .int .u32 a12, .int .u32 a13, .int .u32 a14, .int .u32 a15] 28)).alloc (.cells #[.int .i64 pm, .int .i64 pk, .bool pM, .bool pW, .bool pP, .int .i64 pc, .int .i64 pi, .int .i64 pq, .int .i64 pg, .int .i64 pa] 30)).alloc (.cells #[.int .u32 0, .int .u32 0, .int .u32 0, .int .u32 0, .int .u32 0, .int .u32 0, .int .u32 0, .int .u32 0, .int .u32 0, .int .u32 0, .int .u32 0, .int .u32 0, .int .u32 0, .int .u32 0, .int .u32 0, .int .u32 0] 28)).alloc (.cells #[.int .i64 0, .int .i64 0, .bool false, .bool false, .bool false, .int .i64 0, .int .i64 0, .int .i64 0, .int .i64 0, .int .i64 0] 30)).alloc (.cells #[.int .i64 0] 3)) [] [op, fm, r1, r2, x2, b1, d1, b2, d2, l1, l2, i2] [a0, a1, a2, a3, a4, a5, a6, a7, a8, a9, a10, a11, a12, a13, a14, a15] [.int .i64 pm, .int .i64 pk, .bool pM, .bool pW, .bool pP, .int .i64 pc, .int .i64 pi, .int .i64 pq, .int .i64 pg, .int .i64 pa] [.int .u32 0, .int .u32 0, .int .u32 0, .int .u32 0, .int .u32 0, .int .u32 0, .int .u32 0, .int .u32 0, .int .u32 0, .int .u32 0, .int .u32 0, .int .u32 0, .int .u32 0, .int .u32 0, .int .u32 0, .int .u32 0] [.int .i64 0, .int .i64 0, .bool false, .bool false, .bool false, .int .i64 0, .int .i64 0, .int .i64 0, .int .i64 0, .int .i64 0] (.int .i64 0) from XF.start w [] [op, fm, r1, r2, x2, b1, d1, b2, d2, l1, l2, i2] [a0, a1, a2, a3, a4, a5, a6, a7, a8, a9, a10, a11, a12, a13, a14, a15] [.int .i64 pm, .int .i64 pk, .bool pM, .bool pW, .bool pP, .int .i64 pc, .int .i64 pi, .int .i64 pq, .int .i64 pg, .int .i64 pa] [.int .u32 0, .int .u32 0, .int .u32 0, .int .u32 0, .int .u32 0, .int .u32 0, .int .u32 0, .int .u32 0, .int .u32 0, .int .u32 0, .int .u32 0, .int .u32 0, .int .u32 0, .int .u32 0, .int .u32 0, .int .u32 0] [.int .i64 0, .int .i64 0, .bool false, .bool false, .bool false, .int .i64 0, .int .i64 0, .int .i64 0, .int .i64 0, .int .i64 0] (.int .i64 0))
  obtain ⟨W0, hW0⟩ : ∃ W0, ((((((w.alloc (.cells #[.int .i64 op, .int .i64 fm, .int .i64 r1, .int .i64 r2, .int .i64 x2, .int .i64 b1, .int .i64 d1, .int .i64 b2, .int .i64 d2, .int .i64 l1, .int .i64 l2, .int .i64 i2] 25)).alloc (.cells #[.int .u32 a0, .int .u32 a1, .int .u32 a2, .int .u32 a3, .int .u32 a4, .int .u32 a5, .int .u32 a6, .int .u32 a7, .int .u32 a8, .int .u32 a9, .int .u32 a10, .int .u32 a11, .int .u32 a12, .int .u32 a13, .int .u32 a14, .int .u32 a15] 28)).alloc (.cells #[.int .i64 pm, .int .i64 pk, .bool pM, .bool pW, .bool pP, .int .i64 pc, .int .i64 pi, .int .i64 pq, .int .i64 pg, .int .i64 pa] 30)).alloc (.cells #[.int .u32 0, .int .u32 0, .int .u32 0, .int .u32 0, .int .u32 0, .int .u32 0, .int .u32 0, .int .u32 0, .int .u32 0, .int .u32 0, .int .u32 0, .int .u32 0, .int .u32 0, .int .u32 0, .int .u32 0, .int .u32 0] 28)).alloc (.cells #[.int .i64 0, .int .i64 0, .bool false, .bool false, .bool false, .int .i64 0, .int .i64 0, .int .i64 0, .int .i64 0, .int .i64 0] 30)).alloc (.cells #[.int .i64 0] 3)) = W0 := ⟨_, rfl⟩
  rw [hW0] at X0
  try rw [hW0]
  clear hW0
  have hb0 : W0.cell? ⟨w.heap.size, 0, none⟩ = some (.int .i64 op) := X0.out.b0.cell (c := 0) rfl
  go_upto_region 3 with (first
    | (go_at_call 11; refine (KC.out _).mono ?_; rintro e w1 ⟨rfl, nk, hw1⟩; have X1 := Lib.hid (X0.out.keep (below_of_drew hw1)); clear hw1; have ka0 : w1.cell? ⟨w.heap.size, 0, none⟩ = some (.int .i64 op) := X1.out.b0.cell (c := 0) rfl; have ka1 : w1.cell? ⟨w.heap.size, 1, none⟩ = some (.int .i64 fm) := X1.out.b0.cell (c := 1) rfl; have ka2 : w1.cell? ⟨w.heap.size, 2, none⟩ = some (.int .i64 r1) := X1.out.b0.cell (c := 2) rfl; have ka3 : w1.cell? ⟨w.heap.size, 3, none⟩ = some (.int .i64 r2) := X1.out.b0.cell (c := 3) rfl; have ka4 : w1.cell? ⟨w.heap.size, 4, none⟩ = some (.int .i64 x2) := X1.out.b0.cell (c := 4) rfl; have ka5 : w1.cell? ⟨w.heap.size, 5, none⟩ = some (.int .i64 b1) := X1.out.b0.cell (c := 5) rfl; have ka6 : w1.cell? ⟨w.heap.size, 6, none⟩ = some (.int .i64 d1) := X1.out.b0.cell (c := 6) rfl; have ka7 : w1.cell? ⟨w.heap.size, 7, none⟩ = some (.int .i64 b2) := X1.out.b0.cell (c := 7) rfl; have ka8 : w1.cell? ⟨w.heap.size, 8, none⟩ = some (.int .i64 d2) := X1.out.b0.cell (c := 8) rfl; have ka9 : w1.cell? ⟨w.heap.size, 9, none⟩ = some (.int .i64 l1) := X1.out.b0.cell (c := 9) rfl; have ka10 : w1.cell? ⟨w.heap.size, 10, none⟩ = some (.int .i64 l2) := X1.out.b0.cell (c := 10) rfl; have ka11 : w1.cell? ⟨w.heap.size, 11, none⟩ = some (.int .i64 i2) := X1.out.b0.cell (c := 11) rfl)
    | (go_at_call 28; refine (CC.out _).mono ?_; rintro e w2 ⟨rfl, hb⟩; have X2 := Lib.hid (X1.out.keep hb); clear hb; have kb0 : w2.cell? ⟨w.heap.size + 1 + 1, 0, none⟩ = some (.int .i64 pm) := X2.out.b2.cell (c := 0) rfl; have kb1 : w2.cell? ⟨w.heap.size + 1 + 1, 1, none⟩ = some (.int .i64 pk) := X2.out.b2.cell (c := 1) rfl; have kb2 : w2.cell? ⟨w.heap.size + 1 + 1, 2, none⟩ = some (.bool pM) := X2.out.b2.cell (c := 2) rfl; have kb3 : w2.cell? ⟨w.heap.size + 1 + 1, 3, none⟩ = some (.bool pW) := X2.out.b2.cell (c := 3) rfl; have kb4 : w2.cell? ⟨w.heap.size + 1 + 1, 4, none⟩ = some (.bool pP) := X2.out.b2.cell (c := 4) rfl; have kb5 : w2.cell? ⟨w.heap.size + 1 + 1, 5, none⟩ = some (.int .i64 pc) := X2.out.b2.cell (c := 5) rfl; have kb6 : w2.cell? ⟨w.heap.size + 1 + 1, 6, none⟩ = some (.int .i64 pi) := X2.out.b2.cell (c := 6) rfl; have kb7 : w2.cell? ⟨w.heap.size + 1 + 1, 7, none⟩ = some (.int .i64 pq) := X2.out.b2.cell (c := 7) rfl; have kb8 : w2.cell? ⟨w.heap.size + 1 + 1, 8, none⟩ = some (.int .i64 pg) := X2.out.b2.cell (c := 8) rfl; have kb9 : w2.cell? ⟨w.heap.size + 1 + 1, 9, none⟩ = some (.int .i64 pa) := X2.out.b2.cell (c := 9) rfl)
    | (go_at_call 29; refine (VC.out _).mono ?_; rintro e W ⟨rfl, hb⟩; have X3 := Lib.hid (X2.out.keep hb); clear hb))
  clear X0 X1 X2 hb0 ka0 ka1 ka2 ka3 ka4 ka5 ka6 ka7 ka8 ka9 ka10 ka11 kb0 kb1 kb2 kb3 kb4 kb5 kb6 kb7 kb8 kb9
  have ka0 : W.cell? ⟨w.heap.size, 0, none⟩ = some (.int .i64 op) := X3.out.b0.cell (c := 0) rfl
  have ka1 : W.cell? ⟨w.heap.size, 1, none⟩ = some (.int .i64 fm) := X3.out.b0.cell (c := 1) rfl
  have ka2 : W.cell? ⟨w.heap.size, 2, none⟩ = some (.int .i64 r1) := X3.out.b0.cell (c := 2) rfl
  have ka3 : W.cell? ⟨w.heap.size, 3, none⟩ = some (.int .i64 r2) := X3.out.b0.cell (c := 3) rfl
  have ka4 : W.cell? ⟨w.heap.size, 4, none⟩ = some (.int .i64 x2) := X3.out.b0.cell (c := 4) rfl
  have ka5 : W.cell? ⟨w.heap.size, 5, none⟩ = some (.int .i64 b1) := X3.out.b0.cell (c := 5) rfl
  have ka6 : W.cell? ⟨w.heap.size, 6, none⟩ = some (.int .i64 d1) := X3.out.b0.cell (c := 6) rfl
  have ka7 : W.cell? ⟨w.heap.size, 7, none⟩ = some (.int .i64 b2) := X3.out.b0.cell (c := 7) rfl
  have ka8 : W.cell? ⟨w.heap.size, 8, none⟩ = some (.int .i64 d2) := X3.out.b0.cell (c := 8) rfl
  have ka9 : W.cell? ⟨w.heap.size, 9, none⟩ = some (.int .i64 l1) := X3.out.b0.cell (c := 9) rfl
  have ka10 : W.cell? ⟨w.heap.size, 10, none⟩ = some (.int .i64 l2) := X3.out.b0.cell (c := 10) rfl
  have ka11 : W.cell? ⟨w.heap.size, 11, none⟩ = some (.int .i64 i2) := X3.out.b0.cell (c := 11) rfl
  have kc0 : W.cell? ⟨w.heap.size + 1, 0, none⟩ = some (.int .u32 a0) := X3.out.b1.cell (c := 0) rfl
  have kc1 : W.cell? ⟨w.heap.size + 1, 1, none⟩ = some (.int .u32 a1) := X3.out.b1.cell (c := 1) rfl
  have kc2 : W.cell? ⟨w.heap.size + 1, 2, none⟩ = some (.int .u32 a2) := X3.out.b1.cell (c := 2) rfl
  have kc3 : W.cell? ⟨w.heap.size + 1, 3, none⟩ = some (.int .u32 a3) := X3.out.b1.cell (c := 3) rfl
  have kc4 : W.cell? ⟨w.heap.size + 1, 4, none⟩ = some (.int .u32 a4) := X3.out.b1.cell (c := 4) rfl
  have kc5 : W.cell? ⟨w.heap.size + 1, 5, none⟩ = some (.int .u32 a5) := X3.out.b1.cell (c := 5) rfl
  have kc6 : W.cell? ⟨w.heap.size + 1, 6, none⟩ = some (.int .u32 a6) := X3.out.b1.cell (c := 6) rfl
  have kc7 : W.cell? ⟨w.heap.size + 1, 7, none⟩ = some (.int .u32 a7) := X3.out.b1.cell (c := 7) rfl
  have kc8 : W.cell? ⟨w.heap.size + 1, 8, none⟩ = some (.int .u32 a8) := X3.out.b1.cell (c := 8) rfl
  have kc9 : W.cell? ⟨w.heap.size + 1, 9, none⟩ = some (.int .u32 a9) := X3.out.b1.cell (c := 9) rfl
  have kc10 : W.cell? ⟨w.heap.size + 1, 10, none⟩ = some (.int .u32 a10) := X3.out.b1.cell (c := 10) rfl
  have kc11 : W.cell? ⟨w.heap.size + 1, 11, none⟩ = some (.int .u32 a11) := X3.out.b1.cell (c := 11) rfl
  have kc12 : W.cell? ⟨w.heap.size + 1, 12, none⟩ = some (.int .u32 a12) := X3.out.b1.cell (c := 12) rfl
  have kc13 : W.cell? ⟨w.heap.size + 1, 13, none⟩ = some (.int .u32 a13) := X3.out.b1.cell (c := 13) rfl
  have kc14 : W.cell? ⟨w.heap.size + 1, 14, none⟩ = some (.int .u32 a14) := X3.out.b1.cell (c := 14) rfl
  have kc15 : W.cell? ⟨w.heap.size + 1, 15, none⟩ = some (.int .u32 a15) := X3.out.b1.cell (c := 15) rfl
  have kb0 : W.cell? ⟨w.heap.size + 1 + 1, 0, none⟩ = some (.int .i64 pm) := X3.out.b2.cell (c := 0) rfl
  have kb1 : W.cell? ⟨w.heap.size + 1 + 1, 1, none⟩ = some (.int .i64 pk) := X3.out.b2.cell (c := 1) rfl
  have kb2 : W.cell? ⟨w.heap.size + 1 + 1, 2, none⟩ = some (.bool pM) := X3.out.b2.cell (c := 2) rfl
  have kb3 : W.cell? ⟨w.heap.size + 1 + 1, 3, none⟩ = some (.bool pW) := X3.out.b2.cell (c := 3) rfl
  have kb4 : W.cell? ⟨w.heap.size + 1 + 1, 4, none⟩ = some (.bool pP) := X3.out.b2.cell (c := 4) rfl
  have kb5 : W.cell? ⟨w.heap.size + 1 + 1, 5, none⟩ = some (.int .i64 pc) := X3.out.b2.cell (c := 5) rfl
  have kb6 : W.cell? ⟨w.heap.size + 1 + 1, 6, none⟩ = some (.int .i64 pi) := X3.out.b2.cell (c := 6) rfl
  have kb7 : W.cell? ⟨w.heap.size + 1 + 1, 7, none⟩ = some (.int .i64 pq) := X3.out.b2.cell (c := 7) rfl
  have kb8 : W.cell? ⟨w.heap.size + 1 + 1, 8, none⟩ = some (.int .i64 pg) := X3.out.b2.cell (c := 8) rfl
  have kb9 : W.cell? ⟨w.heap.size + 1 + 1, 9, none⟩ = some (.int .i64 pa) := X3.out.b2.cell (c := 9) rfl
  go_upto_region 5 with fail
  clear ka0 ka1 ka2 ka3 ka4 ka5 ka6 ka7 ka8 ka9 ka10 ka11 kc0 kc1 kc2 kc3 kc4 kc5 kc6 kc7 kc8 kc9 kc10 kc11 kc12 kc13 kc14 kc15 kb0 kb1 kb2 kb3 kb4 kb5 kb6 kb7 kb8 kb9
  have M4 : Hid (Mc (W.alloc (.cells #[.int .i64 op, .int .i64 fm, .int .i64 r1, .int .i64 r2, .int .i64 x2, .int .i64 b1, .int .i64 d1, .int .i64 b2, .int .i64 d2, .int .i64 l1, .int .i64 l2, .int .i64 i2, .int .u32 a0, .int .u32 a1, .int .u32 a2, .int .u32 a3, .int .u32 a4, .int .u32 a5, .int .u32 a6, .int .u32 a7, .int .u32 a8, .int .u32 a9, .int .u32 a10, .int .u32 a11, .int .u32 a12, .int .u32 a13, .int .u32 a14, .int .u32 a15, .int .u32 a0, .int .u32 a1, .int .u32 a2, .int .u32 a3, .int .u32 a4, .int .u32 a5, .int .u32 a6, .int .u32 a7, .int .u32 a8, .int .u32 a9, .int .u32 a10, .int .u32 a11, .int .u32 a12, .int .u32 a13, .int .u32 a14, .int .u32 a15, .int .i64 pm, .int .i64 pk, .bool pM, .bool pW, .bool pP, .int .i64 pc, .int .i64 pi, .int .i64 pq, .int .i64 pg, .int .i64 pa, .pointer (some ⟨sg, 0, none⟩), .bool false] 69)) W.heap.size [op, fm, r1, r2, x2, b1, d1, b2, d2, l1, l2, i2] [a0, a1, a2, a3, a4, a5, a6, a7, a8, a9, a10, a11, a12, a13, a14, a15] [a0, a1, a2, a3, a4, a5, a6, a7, a8, a9, a10, a11, a12, a13, a14, a15] [.int .i64 pm, .int .i64 pk, .bool pM, .bool pW, .bool pP, .int .i64 pc, .int .i64 pi, .int .i64 pq, .int .i64 pg, .int .i64 pa] (.pointer (some ⟨sg, 0, none⟩)) false) := mc_new W [op, fm, r1, r2, x2, b1, d1, b2, d2, l1, l2, i2] [a0, a1, a2, a3, a4, a5, a6, a7, a8, a9, a10, a11, a12, a13, a14, a15] [a0, a1, a2, a3, a4, a5, a6, a7, a8, a9, a10, a11, a12, a13, a14, a15] [.int .i64 pm, .int .i64 pk, .bool pM, .bool pW, .bool pP, .int .i64 pc, .int .i64 pi, .int .i64 pq, .int .i64 pg, .int .i64 pa] (.pointer (some ⟨sg, 0, none⟩)) false rfl rfl rfl rfl
  have X4 := Lib.hid (X3.out.keep ((Below.refl W.heap.size W).alloc (Nat.le_refl _) (.cells #[.int .i64 op, .int .i64 fm, .int .i64 r1, .int .i64 r2, .int .i64 x2, .int .i64 b1, .int .i64 d1, .int .i64 b2, .int .i64 d2, .int .i64 l1, .int .i64 l2, .int .i64 i2, .int .u32 a0, .int .u32 a1, .int .u32 a2, .int .u32 a3, .int .u32 a4, .int .u32 a5, .int .u32 a6, .int .u32 a7, .int .u32 a8, .int .u32 a9, .int .u32 a10, .int .u32 a11, .int .u32 a12, .int .u32 a13, .int .u32 a14, .int .u32 a15, .int .u32 a0, .int .u32 a1, .int .u32 a2, .int .u32 a3, .int .u32 a4, .int .u32 a5, .int .u32 a6, .int .u32 a7, .int .u32 a8, .int .u32 a9, .int .u32 a10, .int .u32 a11, .int .u32 a12, .int .u32 a13, .int .u32 a14, .int .u32 a15, .int .i64 pm, .int .i64 pk, .bool pM, .bool pW, .bool pP, .int .i64 pc, .int .i64 pi, .int .i64 pq, .int .i64 pg, .int .i64 pa, .pointer (some ⟨sg, 0, none⟩), .bool false] 69)))
  have hgm : w.heap.size + 6 ≤ W.heap.size := by have := X3.out.b5.lt; omega
  obtain ⟨W4, hW4⟩ : ∃ W4, W.alloc (.cells #[.int .i64 op, .int .i64 fm, .int .i64 r1, .int .i64 r2, .int .i64 x2, .int .i64 b1, .int .i64 d1, .int .i64 b2, .int .i64 d2, .int .i64 l1, .int .i64 l2, .int .i64 i2, .int .u32 a0, .int .u32 a1, .int .u32 a2, .int .u32 a3, .int .u32 a4, .int .u32 a5, .int .u32 a6, .int .u32 a7, .int .u32 a8, .int .u32 a9, .int .u32 a10, .int .u32 a11, .int .u32 a12, .int .u32 a13, .int .u32 a14, .int .u32 a15, .int .u32 a0, .int .u32 a1, .int .u32 a2, .int .u32 a3, .int .u32 a4, .int .u32 a5, .int .u32 a6, .int .u32 a7, .int .u32 a8, .int .u32 a9, .int .u32 a10, .int .u32 a11, .int .u32 a12, .int .u32 a13, .int .u32 a14, .int .u32 a15, .int .i64 pm, .int .i64 pk, .bool pM, .bool pW, .bool pP, .int .i64 pc, .int .i64 pi, .int .i64 pq, .int .i64 pg, .int .i64 pa, .pointer (some ⟨sg, 0, none⟩), .bool false] 69) = W4 := ⟨_, rfl⟩
  rw [hW4] at M4 X4
  try rw [hW4]
  obtain ⟨gm, hg⟩ : ∃ gm, W.heap.size = gm := ⟨_, rfl⟩
  rw [hg] at M4 hgm
  simp only [hg]
  have B4 := Lib.hid (X4.out.be.below (Nat.le_refl _) (by simp))
  clear hW4 hg X3
  go_upto_region 6 with (go_at_call 31; refine (HX.out gm W4 (by omega) B4.out M4.out).mono ?_; rintro e W5 ⟨rfl, hM, hC, hr⟩; have M5 := Lib.hid hM; have X5 := Lib.hid (X4.out.ch hC HLL.out hgm); have R5 := Lib.hid hr; clear hM hC hr)
  have cv := M5.out.cv
  have hgm' : gm ≠ w.heap.size + 1 + 1 + 1 ∧ gm ≠ w.heap.size + 1 + 1 + 1 + 1 ∧ gm ≠ w.heap.size + 1 + 1 + 1 + 1 + 1 := by omega
  obtain ⟨hq1, hq2, hq3⟩ := hgm'
  have cq := X5.out.b2.cell (c := 8) rfl
  go_upto_region 7 with fail
  clear cv cq
  have mr0 : W5.cell? ⟨gm, 28, none⟩ = some (.int .u32 n0) := M5.out.cr (n := 0) (by omega)
  have mr1 : W5.cell? ⟨gm, 29, none⟩ = some (.int .u32 n1) := M5.out.cr (n := 1) (by omega)
  have mr2 : W5.cell? ⟨gm, 30, none⟩ = some (.int .u32 n2) := M5.out.cr (n := 2) (by omega)
  have mr3 : W5.cell? ⟨gm, 31, none⟩ = some (.int .u32 n3) := M5.out.cr (n := 3) (by omega)
  have mr4 : W5.cell? ⟨gm, 32, none⟩ = some (.int .u32 n4) := M5.out.cr (n := 4) (by omega)
  have mr5 : W5.cell? ⟨gm, 33, none⟩ = some (.int .u32 n5) := M5.out.cr (n := 5) (by omega)
  have mr6 : W5.cell? ⟨gm, 34, none⟩ = some (.int .u32 n6) := M5.out.cr (n := 6) (by omega)
  have mr7 : W5.cell? ⟨gm, 35, none⟩ = some (.int .u32 n7) := M5.out.cr (n := 7) (by omega)
  have mr8 : W5.cell? ⟨gm, 36, none⟩ = some (.int .u32 n8) := M5.out.cr (n := 8) (by omega)
  have mr9 : W5.cell? ⟨gm, 37, none⟩ = some (.int .u32 n9) := M5.out.cr (n := 9) (by omega)
  have mr10 : W5.cell? ⟨gm, 38, none⟩ = some (.int .u32 n10) := M5.out.cr (n := 10) (by omega)
  have mr11 : W5.cell? ⟨gm, 39, none⟩ = some (.int .u32 n11) := M5.out.cr (n := 11) (by omega)
  have mr12 : W5.cell? ⟨gm, 40, none⟩ = some (.int .u32 n12) := M5.out.cr (n := 12) (by omega)
  have mr13 : W5.cell? ⟨gm, 41, none⟩ = some (.int .u32 n13) := M5.out.cr (n := 13) (by omega)
  have mr14 : W5.cell? ⟨gm, 42, none⟩ = some (.int .u32 n14) := M5.out.cr (n := 14) (by omega)
  have mr15 : W5.cell? ⟨gm, 43, none⟩ = some (.int .u32 n15) := M5.out.cr (n := 15) (by omega)
  have mp0 : W5.cell? ⟨gm, 44, none⟩ = some (.int .i64 vm) := M5.out.cp (n := 0) (by omega)
  have mp1 : W5.cell? ⟨gm, 45, none⟩ = some (.int .i64 vk) := M5.out.cp (n := 1) (by omega)
  have mp2 : W5.cell? ⟨gm, 46, none⟩ = some (.bool vM) := M5.out.cp (n := 2) (by omega)
  have mp3 : W5.cell? ⟨gm, 47, none⟩ = some (.bool vW) := M5.out.cp (n := 3) (by omega)
  have mp4 : W5.cell? ⟨gm, 48, none⟩ = some (.bool vP) := M5.out.cp (n := 4) (by omega)
  have mp5 : W5.cell? ⟨gm, 49, none⟩ = some (.int .i64 vc) := M5.out.cp (n := 5) (by omega)
  have mp6 : W5.cell? ⟨gm, 50, none⟩ = some (.int .i64 vi) := M5.out.cp (n := 6) (by omega)
  have mp7 : W5.cell? ⟨gm, 51, none⟩ = some (.int .i64 vq) := M5.out.cp (n := 7) (by omega)
  have mp8 : W5.cell? ⟨gm, 52, none⟩ = some (.int .i64 vg) := M5.out.cp (n := 8) (by omega)
  have mp9 : W5.cell? ⟨gm, 53, none⟩ = some (.int .i64 va) := M5.out.cp (n := 9) (by omega)
  have xa0 : W5.cell? ⟨w.heap.size + 1 + 1 + 1, 0, none⟩ = some (.int .u32 0) := X5.out.b3.cell (c := 0) rfl
  have xaf0 := X5.out.b3.free 0
  have xa1 : W5.cell? ⟨w.heap.size + 1 + 1 + 1, 1, none⟩ = some (.int .u32 0) := X5.out.b3.cell (c := 1) rfl
  have xaf1 := X5.out.b3.free 1
  have xa2 : W5.cell? ⟨w.heap.size + 1 + 1 + 1, 2, none⟩ = some (.int .u32 0) := X5.out.b3.cell (c := 2) rfl
  have xaf2 := X5.out.b3.free 2
  have xa3 : W5.cell? ⟨w.heap.size + 1 + 1 + 1, 3, none⟩ = some (.int .u32 0) := X5.out.b3.cell (c := 3) rfl
  have xaf3 := X5.out.b3.free 3
  have xa4 : W5.cell? ⟨w.heap.size + 1 + 1 + 1, 4, none⟩ = some (.int .u32 0) := X5.out.b3.cell (c := 4) rfl
  have xaf4 := X5.out.b3.free 4
  have xa5 : W5.cell? ⟨w.heap.size + 1 + 1 + 1, 5, none⟩ = some (.int .u32 0) := X5.out.b3.cell (c := 5) rfl
  have xaf5 := X5.out.b3.free 5
  have xa6 : W5.cell? ⟨w.heap.size + 1 + 1 + 1, 6, none⟩ = some (.int .u32 0) := X5.out.b3.cell (c := 6) rfl
  have xaf6 := X5.out.b3.free 6
  have xa7 : W5.cell? ⟨w.heap.size + 1 + 1 + 1, 7, none⟩ = some (.int .u32 0) := X5.out.b3.cell (c := 7) rfl
  have xaf7 := X5.out.b3.free 7
  have xa8 : W5.cell? ⟨w.heap.size + 1 + 1 + 1, 8, none⟩ = some (.int .u32 0) := X5.out.b3.cell (c := 8) rfl
  have xaf8 := X5.out.b3.free 8
  have xa9 : W5.cell? ⟨w.heap.size + 1 + 1 + 1, 9, none⟩ = some (.int .u32 0) := X5.out.b3.cell (c := 9) rfl
  have xaf9 := X5.out.b3.free 9
  have xa10 : W5.cell? ⟨w.heap.size + 1 + 1 + 1, 10, none⟩ = some (.int .u32 0) := X5.out.b3.cell (c := 10) rfl
  have xaf10 := X5.out.b3.free 10
  have xa11 : W5.cell? ⟨w.heap.size + 1 + 1 + 1, 11, none⟩ = some (.int .u32 0) := X5.out.b3.cell (c := 11) rfl
  have xaf11 := X5.out.b3.free 11
  have xa12 : W5.cell? ⟨w.heap.size + 1 + 1 + 1, 12, none⟩ = some (.int .u32 0) := X5.out.b3.cell (c := 12) rfl
  have xaf12 := X5.out.b3.free 12
  have xa13 : W5.cell? ⟨w.heap.size + 1 + 1 + 1, 13, none⟩ = some (.int .u32 0) := X5.out.b3.cell (c := 13) rfl
  have xaf13 := X5.out.b3.free 13
  have xa14 : W5.cell? ⟨w.heap.size + 1 + 1 + 1, 14, none⟩ = some (.int .u32 0) := X5.out.b3.cell (c := 14) rfl
  have xaf14 := X5.out.b3.free 14
  have xa15 : W5.cell? ⟨w.heap.size + 1 + 1 + 1, 15, none⟩ = some (.int .u32 0) := X5.out.b3.cell (c := 15) rfl
  have xaf15 := X5.out.b3.free 15
  have ya0 : W5.cell? ⟨w.heap.size + 1 + 1 + 1 + 1, 0, none⟩ = some (.int .i64 0) := X5.out.b4.cell (c := 0) rfl
  have yaf0 := X5.out.b4.free 0
  have ya1 : W5.cell? ⟨w.heap.size + 1 + 1 + 1 + 1, 1, none⟩ = some (.int .i64 0) := X5.out.b4.cell (c := 1) rfl
  have yaf1 := X5.out.b4.free 1
  have ya2 : W5.cell? ⟨w.heap.size + 1 + 1 + 1 + 1, 2, none⟩ = some (.bool false) := X5.out.b4.cell (c := 2) rfl
  have yaf2 := X5.out.b4.free 2
  have ya3 : W5.cell? ⟨w.heap.size + 1 + 1 + 1 + 1, 3, none⟩ = some (.bool false) := X5.out.b4.cell (c := 3) rfl
  have yaf3 := X5.out.b4.free 3
  have ya4 : W5.cell? ⟨w.heap.size + 1 + 1 + 1 + 1, 4, none⟩ = some (.bool false) := X5.out.b4.cell (c := 4) rfl
  have yaf4 := X5.out.b4.free 4
  have ya5 : W5.cell? ⟨w.heap.size + 1 + 1 + 1 + 1, 5, none⟩ = some (.int .i64 0) := X5.out.b4.cell (c := 5) rfl
  have yaf5 := X5.out.b4.free 5
  have ya6 : W5.cell? ⟨w.heap.size + 1 + 1 + 1 + 1, 6, none⟩ = some (.int .i64 0) := X5.out.b4.cell (c := 6) rfl
  have yaf6 := X5.out.b4.free 6
  have ya7 : W5.cell? ⟨w.heap.size + 1 + 1 + 1 + 1, 7, none⟩ = some (.int .i64 0) := X5.out.b4.cell (c := 7) rfl
  have yaf7 := X5.out.b4.free 7
  have ya8 : W5.cell? ⟨w.heap.size + 1 + 1 + 1 + 1, 8, none⟩ = some (.int .i64 0) := X5.out.b4.cell (c := 8) rfl
  have yaf8 := X5.out.b4.free 8
  have ya9 : W5.cell? ⟨w.heap.size + 1 + 1 + 1 + 1, 9, none⟩ = some (.int .i64 0) := X5.out.b4.cell (c := 9) rfl
  have yaf9 := X5.out.b4.free 9
  have za0 : W5.cell? ⟨w.heap.size + 1 + 1 + 1 + 1 + 1, 0, none⟩ = some (.int .i64 0) := X5.out.b5.cell (c := 0) rfl
  have zaf0 := X5.out.b5.free 0
  go_region
  obtain ⟨W6, hW6⟩ : ∃ W6, (((((((((((((((((((((((((((W5.setCell ⟨w.heap.size + 1 + 1 + 1, 0, none⟩ (.int .u32 n0)).setCell ⟨w.heap.size + 1 + 1 + 1, 1, none⟩ (.int .u32 n1)).setCell ⟨w.heap.size + 1 + 1 + 1, 2, none⟩ (.int .u32 n2)).setCell ⟨w.heap.size + 1 + 1 + 1, 3, none⟩ (.int .u32 n3)).setCell ⟨w.heap.size + 1 + 1 + 1, 4, none⟩ (.int .u32 n4)).setCell ⟨w.heap.size + 1 + 1 + 1, 5, none⟩ (.int .u32 n5)).setCell ⟨w.heap.size + 1 + 1 + 1, 6, none⟩ (.int .u32 n6)).setCell ⟨w.heap.size + 1 + 1 + 1, 7, none⟩ (.int .u32 n7)).setCell ⟨w.heap.size + 1 + 1 + 1, 8, none⟩ (.int .u32 n8)).setCell ⟨w.heap.size + 1 + 1 + 1, 9, none⟩ (.int .u32 n9)).setCell ⟨w.heap.size + 1 + 1 + 1, 10, none⟩ (.int .u32 n10)).setCell ⟨w.heap.size + 1 + 1 + 1, 11, none⟩ (.int .u32 n11)).setCell ⟨w.heap.size + 1 + 1 + 1, 12, none⟩ (.int .u32 n12)).setCell ⟨w.heap.size + 1 + 1 + 1, 13, none⟩ (.int .u32 n13)).setCell ⟨w.heap.size + 1 + 1 + 1, 14, none⟩ (.int .u32 n14)).setCell ⟨w.heap.size + 1 + 1 + 1, 15, none⟩ (.int .u32 n15)).setCell ⟨w.heap.size + 1 + 1 + 1 + 1, 0, none⟩ ((.int .i64 vm))).setCell ⟨w.heap.size + 1 + 1 + 1 + 1, 1, none⟩ ((.int .i64 vk))).setCell ⟨w.heap.size + 1 + 1 + 1 + 1, 2, none⟩ ((.bool vM))).setCell ⟨w.heap.size + 1 + 1 + 1 + 1, 3, none⟩ ((.bool vW))).setCell ⟨w.heap.size + 1 + 1 + 1 + 1, 4, none⟩ ((.bool vP))).setCell ⟨w.heap.size + 1 + 1 + 1 + 1, 5, none⟩ ((.int .i64 vc))).setCell ⟨w.heap.size + 1 + 1 + 1 + 1, 6, none⟩ ((.int .i64 vi))).setCell ⟨w.heap.size + 1 + 1 + 1 + 1, 7, none⟩ ((.int .i64 vq))).setCell ⟨w.heap.size + 1 + 1 + 1 + 1, 8, none⟩ ((.int .i64 vg))).setCell ⟨w.heap.size + 1 + 1 + 1 + 1, 9, none⟩ ((.int .i64 va))).setCell ⟨w.heap.size + 1 + 1 + 1 + 1 + 1, 0, none⟩ (.int .i64 8)).drew = W6 := ⟨_, rfl⟩
  have X6 := Lib.hid (show XF w (((((((((((((((((((((((((((W5.setCell ⟨w.heap.size + 1 + 1 + 1, 0, none⟩ (.int .u32 n0)).setCell ⟨w.heap.size + 1 + 1 + 1, 1, none⟩ (.int .u32 n1)).setCell ⟨w.heap.size + 1 + 1 + 1, 2, none⟩ (.int .u32 n2)).setCell ⟨w.heap.size + 1 + 1 + 1, 3, none⟩ (.int .u32 n3)).setCell ⟨w.heap.size + 1 + 1 + 1, 4, none⟩ (.int .u32 n4)).setCell ⟨w.heap.size + 1 + 1 + 1, 5, none⟩ (.int .u32 n5)).setCell ⟨w.heap.size + 1 + 1 + 1, 6, none⟩ (.int .u32 n6)).setCell ⟨w.heap.size + 1 + 1 + 1, 7, none⟩ (.int .u32 n7)).setCell ⟨w.heap.size + 1 + 1 + 1, 8, none⟩ (.int .u32 n8)).setCell ⟨w.heap.size + 1 + 1 + 1, 9, none⟩ (.int .u32 n9)).setCell ⟨w.heap.size + 1 + 1 + 1, 10, none⟩ (.int .u32 n10)).setCell ⟨w.heap.size + 1 + 1 + 1, 11, none⟩ (.int .u32 n11)).setCell ⟨w.heap.size + 1 + 1 + 1, 12, none⟩ (.int .u32 n12)).setCell ⟨w.heap.size + 1 + 1 + 1, 13, none⟩ (.int .u32 n13)).setCell ⟨w.heap.size + 1 + 1 + 1, 14, none⟩ (.int .u32 n14)).setCell ⟨w.heap.size + 1 + 1 + 1, 15, none⟩ (.int .u32 n15)).setCell ⟨w.heap.size + 1 + 1 + 1 + 1, 0, none⟩ ((.int .i64 vm))).setCell ⟨w.heap.size + 1 + 1 + 1 + 1, 1, none⟩ ((.int .i64 vk))).setCell ⟨w.heap.size + 1 + 1 + 1 + 1, 2, none⟩ ((.bool vM))).setCell ⟨w.heap.size + 1 + 1 + 1 + 1, 3, none⟩ ((.bool vW))).setCell ⟨w.heap.size + 1 + 1 + 1 + 1, 4, none⟩ ((.bool vP))).setCell ⟨w.heap.size + 1 + 1 + 1 + 1, 5, none⟩ ((.int .i64 vc))).setCell ⟨w.heap.size + 1 + 1 + 1 + 1, 6, none⟩ ((.int .i64 vi))).setCell ⟨w.heap.size + 1 + 1 + 1 + 1, 7, none⟩ ((.int .i64 vq))).setCell ⟨w.heap.size + 1 + 1 + 1 + 1, 8, none⟩ ((.int .i64 vg))).setCell ⟨w.heap.size + 1 + 1 + 1 + 1, 9, none⟩ ((.int .i64 va))).setCell ⟨w.heap.size + 1 + 1 + 1 + 1 + 1, 0, none⟩ (.int .i64 8)).drew L [op, fm, r1, r2, x2, b1, d1, b2, d2, l1, l2, i2] [a0, a1, a2, a3, a4, a5, a6, a7, a8, a9, a10, a11, a12, a13, a14, a15] [.int .i64 pm, .int .i64 pk, .bool pM, .bool pW, .bool pP, .int .i64 pc, .int .i64 pi, .int .i64 pq, .int .i64 pg, .int .i64 pa] [.int .u32 n0, .int .u32 n1, .int .u32 n2, .int .u32 n3, .int .u32 n4, .int .u32 n5, .int .u32 n6, .int .u32 n7, .int .u32 n8, .int .u32 n9, .int .u32 n10, .int .u32 n11, .int .u32 n12, .int .u32 n13, .int .u32 n14, .int .u32 n15] [(.int .i64 vm), (.int .i64 vk), (.bool vM), (.bool vW), (.bool vP), (.int .i64 vc), (.int .i64 vi), (.int .i64 vq), (.int .i64 vg), (.int .i64 va)] (.int .i64 8) from (X5.out.give rfl rfl (.int .u32 n0) (.int .u32 n1) (.int .u32 n2) (.int .u32 n3) (.int .u32 n4) (.int .u32 n5) (.int .u32 n6) (.int .u32 n7) (.int .u32 n8) (.int .u32 n9) (.int .u32 n10) (.int .u32 n11) (.int .u32 n12) (.int .u32 n13) (.int .u32 n14) (.int .u32 n15) (.int .i64 vm) (.int .i64 vk) (.bool vM) (.bool vW) (.bool vP) (.int .i64 vc) (.int .i64 vi) (.int .i64 vq) (.int .i64 vg) (.int .i64 va) (.int .i64 8)).drewN 1)
  have R6 := Lib.hid (HRR.out W5 (((((((((((((((((((((((((((W5.setCell ⟨w.heap.size + 1 + 1 + 1, 0, none⟩ (.int .u32 n0)).setCell ⟨w.heap.size + 1 + 1 + 1, 1, none⟩ (.int .u32 n1)).setCell ⟨w.heap.size + 1 + 1 + 1, 2, none⟩ (.int .u32 n2)).setCell ⟨w.heap.size + 1 + 1 + 1, 3, none⟩ (.int .u32 n3)).setCell ⟨w.heap.size + 1 + 1 + 1, 4, none⟩ (.int .u32 n4)).setCell ⟨w.heap.size + 1 + 1 + 1, 5, none⟩ (.int .u32 n5)).setCell ⟨w.heap.size + 1 + 1 + 1, 6, none⟩ (.int .u32 n6)).setCell ⟨w.heap.size + 1 + 1 + 1, 7, none⟩ (.int .u32 n7)).setCell ⟨w.heap.size + 1 + 1 + 1, 8, none⟩ (.int .u32 n8)).setCell ⟨w.heap.size + 1 + 1 + 1, 9, none⟩ (.int .u32 n9)).setCell ⟨w.heap.size + 1 + 1 + 1, 10, none⟩ (.int .u32 n10)).setCell ⟨w.heap.size + 1 + 1 + 1, 11, none⟩ (.int .u32 n11)).setCell ⟨w.heap.size + 1 + 1 + 1, 12, none⟩ (.int .u32 n12)).setCell ⟨w.heap.size + 1 + 1 + 1, 13, none⟩ (.int .u32 n13)).setCell ⟨w.heap.size + 1 + 1 + 1, 14, none⟩ (.int .u32 n14)).setCell ⟨w.heap.size + 1 + 1 + 1, 15, none⟩ (.int .u32 n15)).setCell ⟨w.heap.size + 1 + 1 + 1 + 1, 0, none⟩ ((.int .i64 vm))).setCell ⟨w.heap.size + 1 + 1 + 1 + 1, 1, none⟩ ((.int .i64 vk))).setCell ⟨w.heap.size + 1 + 1 + 1 + 1, 2, none⟩ ((.bool vM))).setCell ⟨w.heap.size + 1 + 1 + 1 + 1, 3, none⟩ ((.bool vW))).setCell ⟨w.heap.size + 1 + 1 + 1 + 1, 4, none⟩ ((.bool vP))).setCell ⟨w.heap.size + 1 + 1 + 1 + 1, 5, none⟩ ((.int .i64 vc))).setCell ⟨w.heap.size + 1 + 1 + 1 + 1, 6, none⟩ ((.int .i64 vi))).setCell ⟨w.heap.size + 1 + 1 + 1 + 1, 7, none⟩ ((.int .i64 vq))).setCell ⟨w.heap.size + 1 + 1 + 1 + 1, 8, none⟩ ((.int .i64 vg))).setCell ⟨w.heap.size + 1 + 1 + 1 + 1, 9, none⟩ ((.int .i64 va))).setCell ⟨w.heap.size + 1 + 1 + 1 + 1 + 1, 0, none⟩ (.int .i64 8)).drew R5.out (dBelow' ((below_s10 (below_s16 (Below.refl _ _) (by omega) (.int .u32 n0) (.int .u32 n1) (.int .u32 n2) (.int .u32 n3) (.int .u32 n4) (.int .u32 n5) (.int .u32 n6) (.int .u32 n7) (.int .u32 n8) (.int .u32 n9) (.int .u32 n10) (.int .u32 n11) (.int .u32 n12) (.int .u32 n13) (.int .u32 n14) (.int .u32 n15)) (by omega) (.int .i64 vm) (.int .i64 vk) (.bool vM) (.bool vW) (.bool vP) (.int .i64 vc) (.int .i64 vi) (.int .i64 vq) (.int .i64 vg) (.int .i64 va)).setCell (p := ⟨_, 0, none⟩) (by first | (simp; done) | (simp; omega)) _) 1))
  rw [hW6] at X6 R6
  rw [hW6]
  clear hW6 X5 M5 R5 mr0 mr1 mr2 mr3 mr4 mr5 mr6 mr7 mr8 mr9 mr10 mr11 mr12 mr13 mr14 mr15 mp0 mp1 mp2 mp3 mp4 mp5 mp6 mp7 mp8 mp9 xa0 xaf0 xa1 xaf1 xa2 xaf2 xa3 xaf3 xa4 xaf4 xa5 xaf5 xa6 xaf6 xa7 xaf7 xa8 xaf8 xa9 xaf9 xa10 xaf10 xa11 xaf11 xa12 xaf12 xa13 xaf13 xa14 xaf14 xa15 xaf15 ya0 yaf0 ya1 yaf1 ya2 yaf2 ya3 yaf3 ya4 yaf4 ya5 yaf5 ya6 yaf6 ya7 yaf7 ya8 yaf8 ya9 yaf9 za0 zaf0
  go_wp2
  refine leaves_cons (f := 30) (args := #[.pointer (some ⟨w.heap.size + 1, 0, none⟩), .pointer (some ⟨w.heap.size + 1 + 1, 0, none⟩), .pointer (some ⟨w.heap.size + 1 + 1 + 1, 0, none⟩), .pointer (some ⟨w.heap.size + 1 + 1 + 1 + 1, 0, none⟩), .pointer (some ⟨w.heap.size + 1 + 1 + 1 + 1 + 1, 0, none⟩)]) (by simp) (by simp [go_sem]) ?_
  refine (catch_idle _ _ _ _ _ _).mono ?_
  rintro e u' w'' ⟨rfl, rfl, hw6⟩
  subst hw6
  have c5 := X6.out.b5.cell (c := 0) rfl
  exact ⟨_, res_cells3 Try.results14 _ _ _ _ _ _ _ _ rfl rfl rfl X6.out.b3 X6.out.b4 X6.out.b5 Try.underlying28 rfl (by kernel_rfl) Try.underlying30 rfl (by kernel_rfl) (by go_simp), rfl, R6.out, X6.out.be⟩
end Go.Proofs.Ythjdjbipfdigeaa

namespace Go.Proofs.Ythjdjbipfdigeaa
open Go.RowKit
set_option maxRecDepth 100000
set_option linter.unusedVariables false
set_option linter.unusedSimpArgs false
theorem eq_items_u32 (w : World) (xs ys : List Int) : ∀ is : List Nat, (∀ i ∈ is, i < xs.length ∧ i < ys.length) → (Op.eqItems 9999 26 1 (xs.map (Value.int .u32)).toArray (ys.map (Value.int .u32)).toArray is).run Try.prog w = .ok (is.all fun i => xs.getD i 0 == ys.getD i 0) w
  | [], _ => by simp [Op.eqItems]
  | i :: is, h => by
    have hi := h i (by simp)
    have he : Try.prog.underlying 26 = some (.int .u32) := Try.underlying26
    have px : (part 26 (xs.map (Value.int .u32)).toArray (i * 1)).run Try.prog w = .ok (.int .u32 (xs.getD i 0)) w := by
      simp [part, isAgg, run_underlying he, List.getD, List.getElem?_eq_getElem hi.1]
    have py : (part 26 (ys.map (Value.int .u32)).toArray (i * 1)).run Try.prog w = .ok (.int .u32 (ys.getD i 0)) w := by
      simp [part, isAgg, run_underlying he, List.getD, List.getElem?_eq_getElem hi.2]
    have pe : (Op.equalIn 9999 26 (.int .u32 (xs.getD i 0)) (.int .u32 (ys.getD i 0))).run Try.prog w = .ok (xs.getD i 0 == ys.getD i 0) w := run_equalIn_int w 9998 26 .u32 .u32 _ _ he
    have ih := eq_items_u32 w xs ys is (fun j hj => h j (by simp [hj]))
    simp only [Op.eqItems, Sem.run_bind, px, py, pe, Result.andThen_ok, List.all_cons]
    cases hb : (xs.getD i 0 == ys.getD i 0)
    · simp
    · simpa using ih
def eqrB (a0 a1 a2 a3 a4 a5 a6 a7 a8 a9 a10 a11 a12 a13 a14 a15 b0 b1 b2 b3 b4 b5 b6 b7 b8 b9 b10 b11 b12 b13 b14 b15 : Int) : Bool := [a0, a1, a2, a3, a4, a5, a6, a7, a8, a9, a10, a11, a12, a13, a14, a15] == [b0, b1, b2, b3, b4, b5, b6, b7, b8, b9, b10, b11, b12, b13, b14, b15]
theorem eqr_run (a0 a1 a2 a3 a4 a5 a6 a7 a8 a9 a10 a11 a12 a13 a14 a15 b0 b1 b2 b3 b4 b5 b6 b7 b8 b9 b10 b11 b12 b13 b14 b15 : Int) (w : World) : (Op.equalIn 10000 28 (.agg #[.int .u32 a0, .int .u32 a1, .int .u32 a2, .int .u32 a3, .int .u32 a4, .int .u32 a5, .int .u32 a6, .int .u32 a7, .int .u32 a8, .int .u32 a9, .int .u32 a10, .int .u32 a11, .int .u32 a12, .int .u32 a13, .int .u32 a14, .int .u32 a15]) (.agg #[.int .u32 b0, .int .u32 b1, .int .u32 b2, .int .u32 b3, .int .u32 b4, .int .u32 b5, .int .u32 b6, .int .u32 b7, .int .u32 b8, .int .u32 b9, .int .u32 b10, .int .u32 b11, .int .u32 b12, .int .u32 b13, .int .u32 b14, .int .u32 b15])).run Try.prog w = .ok (eqrB a0 a1 a2 a3 a4 a5 a6 a7 a8 a9 a10 a11 a12 a13 a14 a15 b0 b1 b2 b3 b4 b5 b6 b7 b8 b9 b10 b11 b12 b13 b14 b15) w := by
  have hu : Try.prog.underlying 28 = some (.array 16 26) := by kernel_rfl
  obtain ⟨i, hi⟩ : ∃ i, Try.prog.info? 26 = some i := ⟨_, rfl⟩
  have hc : Try.prog.cellsOf 26 = 1 := by kernel_rfl
  rw [show (10000 : Nat) = 9999 + 1 from rfl, run_equalIn_array w 9999 _ _ hu hi, hc]
  have h := eq_items_u32 w [a0, a1, a2, a3, a4, a5, a6, a7, a8, a9, a10, a11, a12, a13, a14, a15] [b0, b1, b2, b3, b4, b5, b6, b7, b8, b9, b10, b11, b12, b13, b14, b15] (List.range 16) (fun i hi => by have := List.mem_range.mp hi; exact ⟨this, this⟩)
  refine h.trans ?_
  congr 1
theorem eqr_guard : Try.prog.eqGuardType Try.prog.depth 28 = false := by kernel_rfl
theorem eqr_refl (a0 a1 a2 a3 a4 a5 a6 a7 a8 a9 a10 a11 a12 a13 a14 a15 : Int) : eqrB a0 a1 a2 a3 a4 a5 a6 a7 a8 a9 a10 a11 a12 a13 a14 a15 a0 a1 a2 a3 a4 a5 a6 a7 a8 a9 a10 a11 a12 a13 a14 a15 = true := by simp [eqrB]
end Go.Proofs.Ythjdjbipfdigeaa

namespace Go.Proofs.Ythjdjbipfdigeaa
open Go.RowKit
set_option linter.unusedVariables false
set_option linter.unusedSimpArgs false
def eqpB (m k c i q g a m' k' c' i' q' g' a' : Int) (M W P M' W' P' : Bool) : Bool := m == m' && (k == k' && (M == M' && (W == W' && (P == P' && (c == c' && (i == i' && (q == q' && (g == g' && (a == a')))))))))
set_option maxHeartbeats 1000000 in
theorem eqp_run (m k c i q g a m' k' c' i' q' g' a' : Int) (M W P M' W' P' : Bool) (w : World) : (Op.equalIn 10000 30 (.agg #[.int .i64 m, .int .i64 k, .bool M, .bool W, .bool P, .int .i64 c, .int .i64 i, .int .i64 q, .int .i64 g, .int .i64 a]) (.agg #[.int .i64 m', .int .i64 k', .bool M', .bool W', .bool P', .int .i64 c', .int .i64 i', .int .i64 q', .int .i64 g', .int .i64 a'])).run Try.prog w = .ok (eqpB m k c i q g a m' k' c' i' q' g' a' M W P M' W' P') w := by
  have hS : Try.prog.underlying 30 = some (.struct (Try.prog.fieldsOf 30)) := by kernel_rfl
  have hp : Try.prog.stoodInHeld 30 = false := by kernel_rfl
  rw [show (10000 : Nat) = 9999 + 1 from rfl, run_equalIn_agg w 9999 30 _ _ hS hp]
  simp only [Program.fieldsOf, Try.underlying30]
  go_simp
  unfold eqpB
  by_cases h_m : m = m'
  case neg => simp [h_m]
  subst h_m
  by_cases h_k : k = k'
  case neg => simp [h_k]
  subst h_k
  by_cases h_M : M = M'
  case neg => simp [h_M]
  subst h_M
  by_cases h_W : W = W'
  case neg => simp [h_W]
  subst h_W
  by_cases h_P : P = P'
  case neg => simp [h_P]
  subst h_P
  by_cases h_c : c = c'
  case neg => simp [h_c]
  subst h_c
  by_cases h_i : i = i'
  case neg => simp [h_i]
  subst h_i
  by_cases h_q : q = q'
  case neg => simp [h_q]
  subst h_q
  by_cases h_g : g = g'
  case neg => simp [h_g]
  subst h_g
  by_cases h_a : a = a'
  case neg => simp [h_a]
  subst h_a
  simp
theorem eqp_guard : Try.prog.eqGuardType Try.prog.depth 30 = false := by kernel_rfl
end Go.Proofs.Ythjdjbipfdigeaa

namespace Go.Proofs.Ythjdjbipfdigeaa
open Go.RowKit
set_option maxRecDepth 100000
set_option linter.unusedVariables false
set_option linter.unusedSimpArgs false
theorem eqp_refl (m k c i q g a : Int) (M W P : Bool) : eqpB m k c i q g a m k c i q g a M W P M W P = true := by simp [eqpB]
set_option maxRecDepth 1000000 in
set_option maxHeartbeats 4000000 in
theorem works_exec (sp : Nat) (w : World) : Calls Try.prog 14 #[.agg #[.int .i64 26, .int .i64 1, .int .i64 1, .int .i64 2, .int .i64 0, .int .i64 0, .int .i64 0, .int .i64 0, .int .i64 0, .int .i64 0, .int .i64 0, .int .i64 0], .agg #[.int .u32 0, .int .u32 2147483647, .int .u32 1, .int .u32 0, .int .u32 0, .int .u32 0, .int .u32 0, .int .u32 0, .int .u32 0, .int .u32 0, .int .u32 0, .int .u32 0, .int .u32 0, .int .u32 0, .int .u32 0, .int .u32 0], .agg #[.int .i64 0, .int .i64 0, .bool false, .bool false, .bool false, .int .i64 0, .int .i64 0, .int .i64 0, .int .i64 8, .int .i64 0], .pointer (some ⟨sp, 0, none⟩)] w fun e w' => e = .returned (.tuple #[.agg #[.int .u32 0, .int .u32 2147483648, .int .u32 1, .int .u32 0, .int .u32 0, .int .u32 0, .int .u32 0, .int .u32 0, .int .u32 0, .int .u32 0, .int .u32 0, .int .u32 0, .int .u32 0, .int .u32 0, .int .u32 0, .int .u32 0], .agg #[.int .i64 0, .int .i64 0, .bool false, .bool false, .bool false, .int .i64 0, .int .i64 0, .int .i64 3, .int .i64 8, .int .i64 0], .int .i64 8]) ∧ Below w.heap.size w w' := by
  refine (Exec_over 26 1 1 2 0 0 0 0 0 0 0 0 0 2147483647 1 0 0 0 0 0 0 0 0 0 0 0 0 0 0 0 false false false 0 0 0 8 0 sp [] (fun _ => True) 0 2147483648 1 0 0 0 0 0 0 0 0 0 0 0 0 0 0 0 false false false 0 0 3 8 0 true w (by decide +kernel) (by decide +kernel) (by decide +kernel) (by simp) (fun _ _ _ _ => trivial) (fun g W hg hb hm => ?_) rfl (by decide +kernel)).mono ?_
  · refine (exec_ar g 1 2 _ _ _ _ _ _ W hm rfl rfl rfl (by omega) rfl (by omega) (by decide)).mono ?_
    rintro e w' ⟨rfl, hM, hC⟩
    have e1 : lo32 (sg (2147483647 : Int) + sg 1) = 2147483648 := by decide
    have e2 : rcc (sg (2147483647 : Int) + sg 1) = 3 := by decide
    have e3 : ovf (sg (2147483647 : Int) + sg 1) = true := by decide
    have e4 : ([0, 2147483647, 1, 0, 0, 0, 0, 0, 0, 0, 0, 0, 0, 0, 0, 0] : List Int).getD 1 0 = 2147483647 := rfl
    have e5 : ([0, 2147483647, 1, 0, 0, 0, 0, 0, 0, 0, 0, 0, 0, 0, 0, 0] : List Int).getD 2 0 = 1 := rfl
    rw [e4, e5, e1, e2, e3] at hM
    exact ⟨rfl, hM, hC, trivial⟩
  · rintro e w' ⟨rfl, -, hc⟩
    exact ⟨rfl, hc.below (Nat.le_refl _) (by simp)⟩
attribute [local go_sem] eqr_run eqr_guard eqr_refl eqp_run eqp_guard eqp_refl
set_option maxRecDepth 1000000 in
set_option maxHeartbeats 4000000 in
theorem works_c (w : World) : Calls Try.prog 13 #[] w fun e w' => e = .returned (.bool true) ∧ Below w.heap.size w w' := by
  have NC := Lib.hid (new_yes 1 (by omega) (by omega) w)
  rw [show (((2048 * 1 : Nat) : Int)) = 2048 from rfl] at NC
  have EC := Lib.hid works_exec
  go_enter Try.func13, Try.ntmps13
  go_wp2_with fail
  refine NC.out.mono ?_
  rintro e w1 ⟨v, rfl, F, rfl, hS, hb, -, -, -⟩
  have HB1 := Lib.hid hb
  clear hS hb NC
  go_wp2_with (go_at_call 14; refine (EC.out _ _).mono ?_; rintro e w2 ⟨rfl, hb⟩; have HB2 := Lib.hid (HB1.out.trans (hb.mono HB1.out.size)); clear hb)
  go_ret
  trace_state
  exact ⟨by rfl, (HB2.out.alloc HB2.out.size _).alloc (by simp; have := HB2.out.size; omega) _⟩
end Go.Proofs.Ythjdjbipfdigeaa

namespace Go.Proofs.Ythjdjbipfdigeaa
open Go.RowKit
set_option linter.unusedVariables false

theorem row_byt {w : World} {a : Option Addr} {len cap : Nat} {zs : List Int} (h : IsRow .u8 w a len cap zs) : Byt w a len (zs.take len) ∧ (a = none → cap = 0) ∧ len ≤ cap ∧ cap ≤ maxLen := by
  rcases h with ⟨rfl, rfl, rfl, rfl⟩ | ⟨x, rfl, hl, hm, hz, hc, hw⟩
  · exact ⟨⟨rfl, by simp, fun h => absurd h (by omega)⟩, fun _ => rfl, Nat.le_refl _, Nat.zero_le _⟩
  · refine ⟨⟨by rw [List.length_take]; omega, fun n hn => ?_, fun h0 => ?_⟩, (by intro h; cases h), hl, hm⟩
    · exact bounds_u8 (hw n (List.mem_of_mem_take hn))
    · obtain ⟨b, off, spot⟩ := x
      have h1 := hc 0 (by omega)
      have hspot : spot = none := by simpa [Addr.add] using World.cell?_spot h1
      subst hspot
      refine ⟨b, off, rfl, fun i hi => ?_⟩
      have h2 := hc i (by omega)
      have hadd : (⟨b, off, none⟩ : Addr).add i = ⟨b, off + i, none⟩ := by unfold Addr.add; split <;> simp_all
      rw [hadd] at h2
      rw [h2]
      simp [List.getD_eq_getElem?_getD, hi]

section
variable {w : World} {base n : Nat} {zs : List Int} {g cap : Nat}
theorem Own.cell (h : Own w base (.slice (some ⟨g, 0, none⟩) n cap) n zs) {k : Nat} (hk : k < n) : w.cell? ⟨g, k, none⟩ = some (.int .u8 (zs.getD k 0)) := by
  obtain ⟨b, off, e, hc⟩ := h.byt.2.2 (by omega)
  injection e with e; injection e with e1 e2; subst e1 e2
  have := hc k hk
  rwa [Nat.zero_add] at this
theorem Own.free (h : Own w base (.slice (some ⟨g, 0, none⟩) n cap) n zs) (k : Nat) : w.frozen? ⟨g, k, none⟩ = false := by
  obtain ⟨cur, q1, _⟩ := Own.heap h
  simp [World.frozen?, q1]
end
end Go.Proofs.Ythjdjbipfdigeaa

namespace Go.Proofs.Ythjdjbipfdigeaa
open Go.RowKit
set_option maxRecDepth 100000
set_option linter.unusedVariables false
set_option linter.unusedSimpArgs false
set_option maxRecDepth 1000000 in
set_option maxHeartbeats 8000000 in
theorem moves_walk0 (A : Option Addr) (len cap : Nat) (zs : List Int) (w : World) (hb : Byt w A len zs) (hl : (len : Int) ≤ 9223372036854775807) : Calls Try.prog 6 #[.slice A len cap] w fun e w' => e = .returned (.bool true) ∧ Below w.heap.size w w' := by
  have HY := Lib.hid hb
  clear hb
  go_enter Try.func6, Try.ntmps6
  go_upto_region 1 with fail
  go_cut [22] from 15 to 22 (fun t wx => t = .bool (decide (len = 0 ∨ 256 < len)) ∧ wx = w)
  case first =>
    by_cases h0 : len = 0
    · have e0 : ((len : Int) == 0) = true := by simp [h0]
      go_wp2_with fail
      go_meet
      exact ⟨by simp [h0], rfl⟩
    · have e0 : ((len : Int) == 0) = false := by simp [h0]
      by_cases h1 : 256 < len
      · have e1 : (256 : Int) < (len : Int) := by omega
        go_wp2_with fail
        go_meet
        exact ⟨by simp [h1], rfl⟩
      · have e1 : ¬ (256 : Int) < (len : Int) := by omega
        go_wp2_with fail
        go_meet
        exact ⟨by simp [h0, h1], rfl⟩
  case rest =>
  obtain ⟨rfl, rfl⟩ := hcut
  rename World => w
  go_upto_if 22 with fail
  go_cut [0] from 23 to 23 (fun t wx => ∃ (b off n c : Nat) (ys : List Int), t = .slice (some ⟨b, off, none⟩) n c ∧ 1 ≤ n ∧ n ≤ 256 ∧ Byt wx (some ⟨b, off, none⟩) n ys ∧ Below w.heap.size w wx)
  case first =>
    by_cases hbad : len = 0 ∨ 256 < len
    · have e2 : decide (len = 0 ∨ 256 < len) = true := by simpa using hbad
      go_wp2_with fail
      go_meet
      exact ⟨_, 0, 1, 1, [7], rfl, by omega, by omega, byt_new _ [7] (by simp) _ (by rfl) 1 rfl _, (Below.refl _ _).alloc (Nat.le_refl _) _⟩
    · have e2 : decide (len = 0 ∨ 256 < len) = false := by simpa using hbad
      obtain ⟨b, off, rfl, -⟩ := HY.out.at_ (by omega)
      go_wp2_with fail
      go_meet
      exact ⟨b, off, len, cap, zs, rfl, by omega, by omega, HY.out, Below.refl _ _⟩
  case rest =>
  obtain ⟨ba, off, n, cp, ys, rfl, n0, n1, hy, hw1⟩ := hcut
  rename World => w1
  have HB := Lib.hid hw1
  have Y := Lib.hid hy
  clear hy hw1 HY hl
  obtain ⟨bs1, bs2, bs3, Z, h1, h2, h3, l1, l2, l3, lZ, g1, z1, g2, g3, z2, a3⟩ := moves_law ys n Y.out.1 n0 n1
  have hba := Y.out.lt (by omega)
  have hzl : (z0 2048).length = 2048 := z0_len 2048
  have PC := Lib.hid (fun (F : Foot) (W : World) (hS : St 71 W F (z0 2048) (z0 1)) (hY : Byt W (some ⟨ba, off, none⟩) n ys) => put9 W hS 100 n cp _ ys (by omega) (by omega) hY)
  rw [h1] at PC
  have E1 := Lib.hid (fun (F : Foot) (W : World) (hS : St 71 W F bs1 (z0 1)) => show Calls Try.prog 14 #[.agg #[.int .i64 210, .int .i64 5, .int .i64 0, .int .i64 0, .int .i64 0, .int .i64 14, .int .i64 0, .int .i64 15, .int .i64 0, .int .i64 ((n : Int) - 1), .int .i64 0, .int .i64 0], .agg #[.int .u32 0, .int .u32 0, .int .u32 0, .int .u32 0, .int .u32 0, .int .u32 0, .int .u32 0, .int .u32 0, .int .u32 0, .int .u32 0, .int .u32 0, .int .u32 0, .int .u32 0, .int .u32 0, .int .u32 1000, .int .u32 100], .agg #[.int .i64 0, .int .i64 0, .bool false, .bool false, .bool false, .int .i64 0, .int .i64 0, .int .i64 0, .int .i64 0, .int .i64 0], .pointer (some ⟨F.g, 0, none⟩)] W fun e w' => e = .returned (.tuple #[.agg #[.int .u32 0, .int .u32 0, .int .u32 0, .int .u32 0, .int .u32 0, .int .u32 0, .int .u32 0, .int .u32 0, .int .u32 0, .int .u32 0, .int .u32 0, .int .u32 0, .int .u32 0, .int .u32 0, .int .u32 1000, .int .u32 100], .agg #[.int .i64 0, .int .i64 0, .bool false, .bool false, .bool false, .int .i64 0, .int .i64 0, .int .i64 0, .int .i64 0, .int .i64 0], .int .i64 0]) ∧ St 71 w' F bs2 (z0 1) ∧ Ch W w' [F.gb] from by rw [← h2]; exact exec_sn 210 (.inl rfl) W hS 0 n 1000 100 n0 n1 (by omega) (by omega) (by omega) (by omega) _ ys ys 0 rfl g1 z1 rfl)
  have E2 := Lib.hid (fun (F : Foot) (W : World) (hS : St 71 W F bs2 (z0 1)) => show Calls Try.prog 14 #[.agg #[.int .i64 210, .int .i64 5, .int .i64 0, .int .i64 0, .int .i64 0, .int .i64 14, .int .i64 0, .int .i64 15, .int .i64 0, .int .i64 ((n : Int) - 1), .int .i64 0, .int .i64 0], .agg #[.int .u32 0, .int .u32 0, .int .u32 0, .int .u32 0, .int .u32 0, .int .u32 0, .int .u32 0, .int .u32 0, .int .u32 0, .int .u32 0, .int .u32 0, .int .u32 0, .int .u32 0, .int .u32 0, .int .u32 101, .int .u32 100], .agg #[.int .i64 0, .int .i64 0, .bool false, .bool false, .bool false, .int .i64 0, .int .i64 0, .int .i64 0, .int .i64 0, .int .i64 0], .pointer (some ⟨F.g, 0, none⟩)] W fun e w' => e = .returned (.tuple #[.agg #[.int .u32 0, .int .u32 0, .int .u32 0, .int .u32 0, .int .u32 0, .int .u32 0, .int .u32 0, .int .u32 0, .int .u32 0, .int .u32 0, .int .u32 0, .int .u32 0, .int .u32 0, .int .u32 0, .int .u32 101, .int .u32 100], .agg #[.int .i64 0, .int .i64 0, .bool false, .bool false, .bool false, .int .i64 0, .int .i64 0, .int .i64 0, .int .i64 0, .int .i64 0], .int .i64 0]) ∧ St 71 w' F bs3 (z0 1) ∧ Ch W w' [F.gb] from by rw [← h3]; exact exec_sn 210 (.inl rfl) W hS 0 n 101 100 n0 n1 (by omega) (by omega) (by omega) (by omega) _ ys Z 0 rfl g3 z2 rfl)
  have G2 := Lib.hid g2
  have G3 := Lib.hid g3
  have A3 := Lib.hid a3
  have LB := Lib.hid (And.intro l1 (And.intro l2 l3))
  have wz : IntKind.i64.wrap ((n : Int) + 1) = (n : Int) + 1 := by simp only [IntKind.wrap, IntKind.bits, IntKind.signed]; simp; omega
  have WZ := Lib.hid wz
  clear h1 h2 h3 l1 l2 l3 lZ g1 z1 g2 g3 z2 a3 hzl wz
  have NC := Lib.hid (fun W => new_yes 1 (by omega) (by omega) W)
  rw [show (((2048 * 1 : Nat) : Int)) = 2048 from rfl] at NC
  have hw0 := HB.out.size
  go_wp2_with fail
  refine (NC.out _).mono ?_
  rintro e w1_ ⟨v, rfl, F, rfl, hS, hb, hF1, hF2, hF3⟩
  have S := Lib.hid hS
  clear hS NC
  replace HB := Lib.hid (HB.out.trans (hb.mono HB.out.size))
  replace Y := Lib.hid (Y.out.keep hb)
  clear hb
  go_wp2_with fail
  refine (PC.out F _ S.out Y.out).mono ?_
  rintro e w2_ ⟨rfl, hs, hc⟩
  replace HB := Lib.hid (HB.out.trans (hc.below HB.out.size (by intro z hz; simp at hz; omega)))
  replace Y := Lib.hid (Y.out.chd hc (Y.out.lt (by omega)) (by simp; omega))
  replace S := Lib.hid hs
  clear hc
  clear hs PC
  go_wp2_with fail
  refine (works_c _).mono ?_
  rintro e w3_ ⟨rfl, hb⟩
  replace HB := Lib.hid (HB.out.trans (hb.mono HB.out.size))
  replace Y := Lib.hid (Y.out.keep hb)
  replace S := Lib.hid (S.out.belowS hb)
  clear hb
  have hs1 := HB.out.size
  have hlg := S.out.ltg
  have hlb := S.out.ltb
  have hlk := S.out.ltk
  go_upto_region 8 with fail
  obtain ⟨w4_, hW⟩ : ∃ V, (w3_.alloc (.cells #[.int .u32 0, .int .u32 0, .int .u32 0, .int .u32 0, .int .u32 0, .int .u32 0, .int .u32 0, .int .u32 0, .int .u32 0, .int .u32 0, .int .u32 0, .int .u32 0, .int .u32 0, .int .u32 0, .int .u32 1000, .int .u32 100] 28)) = V := ⟨_, rfl⟩
  have hb : Below w3_.heap.size w3_ w4_ := by rw [← hW]; exact (Below.alloc (Below.refl _ _) (by first | exact Nat.le_refl _ | (simp; done) | (simp; omega)) _)
  obtain ⟨gR, hgR⟩ : ∃ q, w3_.heap.size = q := ⟨_, rfl⟩
  have R_ : Hid (Bk w4_ gR 28 [.int .u32 0, .int .u32 0, .int .u32 0, .int .u32 0, .int .u32 0, .int .u32 0, .int .u32 0, .int .u32 0, .int .u32 0, .int .u32 0, .int .u32 0, .int .u32 0, .int .u32 0, .int .u32 0, .int .u32 1000, .int .u32 100]) := by
    rw [← hW, ← hgR]
    have hq := Bk.new w3_ [.int .u32 0, .int .u32 0, .int .u32 0, .int .u32 0, .int .u32 0, .int .u32 0, .int .u32 0, .int .u32 0, .int .u32 0, .int .u32 0, .int .u32 0, .int .u32 0, .int .u32 0, .int .u32 0, .int .u32 1000, .int .u32 100] 28
    exact hq
  have nR : w3_.heap.size ≤ gR := by omega
  rw [hW]
  try rw [hgR]
  replace HB := Lib.hid (HB.out.trans (hb.mono HB.out.size))
  replace Y := Lib.hid (Y.out.keep hb)
  replace S := Lib.hid (S.out.belowS hb)
  clear hb
  have R := R_
  clear R_
  clear hW hgR
  refine moves_reg8 (by omega) (by omega) (z_ := 0) (by kernel_rfl) (fun _ a a' _ e h => by have h' : a'.defers = [] ∧ _ := h; exact ⟨e ▸ h'.1, h'.2⟩) S.out R.out (by omega) (by omega) (by omega) (fun W h => E1.out F W h) ?_
  intro w5_ _ _ _ _ _ _ _ _ _ _ g7 g8 _ hs hR hb7 hb8 hge0 hge1 hc
  replace HB := Lib.hid (HB.out.trans (hc.below HB.out.size (by intro z hz; simp at hz; omega)))
  replace Y := Lib.hid (Y.out.chd hc (Y.out.lt (by omega)) (by simp; omega))
  replace S := Lib.hid hs
  replace R := Lib.hid hR
  clear hc
  clear hs hR
  clear hb7 hb8 E1 hge0 hge1
  go_wp2_with fail
  refine (get9 _ S.out 1000 (n : Int) 0 ys (by omega) (by have := LB.out; omega) G2.out).mono ?_
  rintro e w6_ ⟨b6, m6, c6, rfl, hm, hy, -, hb⟩
  replace HB := Lib.hid (HB.out.trans (hb.mono HB.out.size))
  replace Y := Lib.hid (Y.out.keep hb)
  replace S := Lib.hid (S.out.belowS hb)
  replace R := Lib.hid (R.out.keep hb)
  clear hb
  have hmm6 : n = m6 := by omega
  subst hmm6
  clear hm
  go_wp2_with fail
  refine (same9_t _ _ _ _ _ _ _ _ _ hy Y.out rfl (by omega)).mono ?_
  rintro e w7_ ⟨rfl, hb⟩
  clear hy
  replace HB := Lib.hid (HB.out.trans (hb.mono HB.out.size))
  replace Y := Lib.hid (Y.out.keep hb)
  replace S := Lib.hid (S.out.belowS hb)
  replace R := Lib.hid (R.out.keep hb)
  clear hb
  go_wp2_with fail
  refine (get9 _ S.out 100 (n : Int) 0 ys (by omega) (by have := LB.out; omega) G3.out).mono ?_
  rintro e w8_ ⟨b8, m8, c8, rfl, hm, hy, -, hb⟩
  replace HB := Lib.hid (HB.out.trans (hb.mono HB.out.size))
  replace Y := Lib.hid (Y.out.keep hb)
  replace S := Lib.hid (S.out.belowS hb)
  replace R := Lib.hid (R.out.keep hb)
  clear hb
  have hmm8 : n = m8 := by omega
  subst hmm8
  clear hm
  go_wp2_with fail
  refine (same9_t _ _ _ _ _ _ _ _ _ hy Y.out rfl (by omega)).mono ?_
  rintro e w9_ ⟨rfl, hb⟩
  clear hy
  replace HB := Lib.hid (HB.out.trans (hb.mono HB.out.size))
  replace Y := Lib.hid (Y.out.keep hb)
  replace S := Lib.hid (S.out.belowS hb)
  replace R := Lib.hid (R.out.keep hb)
  clear hb
  have kc14 : w9_.cell? ⟨gR, 14, none⟩ = some (.int .u32 1000) := R.out.cell (c := 14) rfl
  have kf14 := R.out.free 14
  go_upto_region 12 with fail
  clear kc14 kf14
  obtain ⟨w10_, hW⟩ : ∃ V, w9_.setCell ⟨gR, 14, none⟩ (.int .u32 101) = V := ⟨_, rfl⟩
  have hc : Ch w9_ w10_ [gR] := by rw [← hW]; exact (Ch.refl _ _).setCell (by simp) _
  have hr : Bk w10_ gR 28 [.int .u32 0, .int .u32 0, .int .u32 0, .int .u32 0, .int .u32 0, .int .u32 0, .int .u32 0, .int .u32 0, .int .u32 0, .int .u32 0, .int .u32 0, .int .u32 0, .int .u32 0, .int .u32 0, .int .u32 101, .int .u32 100] := by rw [← hW]; exact R.out.set_ 14 (.int .u32 101)
  rw [hW]
  clear hW
  replace HB := Lib.hid (HB.out.trans (hc.below HB.out.size (by intro z hz; simp at hz; omega)))
  replace Y := Lib.hid (Y.out.chd hc (Y.out.lt (by omega)) (by simp; omega))
  replace S := Lib.hid (S.out.chd hc (by simp; omega) (by simp; omega) (by simp; omega))
  replace R := Lib.hid hr
  clear hc
  clear hr
  refine moves_reg12 (by omega) (by omega) (z_ := 0) (by kernel_rfl) (fun _ a a' _ e h => by have h' : a'.defers = [] ∧ _ := h; exact ⟨e ▸ h'.1, h'.2⟩) S.out R.out (by omega) (by omega) (by omega) (fun W h => E2.out F W h) ?_
  intro w11_ _ _ _ _ _ _ _ _ _ _ _ hs hR  hc
  replace HB := Lib.hid (HB.out.trans (hc.below HB.out.size (by intro z hz; simp at hz; omega)))
  replace Y := Lib.hid (Y.out.chd hc (Y.out.lt (by omega)) (by simp; omega))
  replace S := Lib.hid hs
  replace R := Lib.hid hR
  clear hc
  clear hs hR
  clear E2
  have wz := WZ.out
  go_wp2_with fail
  refine (get9 _ S.out 100 ((n : Int) + 1) 0 _ (by omega) (by have := LB.out; omega) rfl).mono ?_
  rintro e w12_ ⟨ga, m, ca, rfl, hm, hall, hga, hb⟩
  clear wz
  replace HB := Lib.hid (HB.out.trans (hb.mono HB.out.size))
  replace Y := Lib.hid (Y.out.keep hb)
  replace S := Lib.hid (S.out.belowS hb)
  replace R := Lib.hid (R.out.keep hb)
  clear hb
  have hmm : m = n + 1 := by omega
  subst hmm
  have ALL := Lib.hid hall
  clear hall hm
  go_upto_region 15 with fail
  have hc1 : ∀ k, k < n + 1 → w12_.cell? ⟨ga, k, none⟩ = some (.int .u8 (ys.getD 0 0)) := by
    obtain ⟨b', off', e, hcl⟩ := ALL.out.at_ (by omega)
    injection e with e; injection e with e1 e2; subst e1 e2
    intro k hk
    have := hcl k hk
    rw [Nat.zero_add] at this
    rw [this]
    exact congrArg (fun x => some (Value.int .u8 x)) (A3.out k hk)
  have hc2 : w12_.cell? ⟨ba, off, none⟩ = some (.int .u8 (ys.getD 0 0)) := by
    obtain ⟨b', off', e, hcl⟩ := Y.out.at_ (by omega)
    injection e with e; injection e with e1 e2; subst e1 e2
    exact hcl 0 (by omega)
  have HC1 := Lib.hid hc1
  have HC2 := Lib.hid hc2
  clear hc1 hc2
  refine moves_loop (by kernel_rfl) (by omega) (by omega) HC1.out HC2.out (fun _ a a' _ e h => by have h' : a'.defers = [] ∧ _ := h; exact ⟨e ▸ h'.1, h'.2⟩) ?_
  clear HC1 HC2
  intro d _ _ _ _ _ _ _ _ _ _ _ _ _ _ _ _
  obtain ⟨w13_, hW⟩ : ∃ V, w12_.drewN d = V := ⟨_, rfl⟩
  have hb : Below w12_.heap.size w12_ w13_ := by rw [← hW]; exact dBelow' (Below.refl _ _) d
  rw [hW]
  clear hW
  replace HB := Lib.hid (HB.out.trans (hb.mono HB.out.size))
  replace Y := Lib.hid (Y.out.keep hb)
  replace S := Lib.hid (S.out.belowS hb)
  replace R := Lib.hid (R.out.keep hb)
  replace ALL := Lib.hid (ALL.out.keep hb)
  clear hb
  clear ALL
  clear A3
  have kc0 : w13_.cell? ⟨gR, 0, none⟩ = some (.int .u32 0) := R.out.cell (c := 0) rfl
  have kc1 : w13_.cell? ⟨gR, 1, none⟩ = some (.int .u32 0) := R.out.cell (c := 1) rfl
  have kc2 : w13_.cell? ⟨gR, 2, none⟩ = some (.int .u32 0) := R.out.cell (c := 2) rfl
  have kc3 : w13_.cell? ⟨gR, 3, none⟩ = some (.int .u32 0) := R.out.cell (c := 3) rfl
  have kc4 : w13_.cell? ⟨gR, 4, none⟩ = some (.int .u32 0) := R.out.cell (c := 4) rfl
  have kc5 : w13_.cell? ⟨gR, 5, none⟩ = some (.int .u32 0) := R.out.cell (c := 5) rfl
  have kc6 : w13_.cell? ⟨gR, 6, none⟩ = some (.int .u32 0) := R.out.cell (c := 6) rfl
  have kc7 : w13_.cell? ⟨gR, 7, none⟩ = some (.int .u32 0) := R.out.cell (c := 7) rfl
  have kc8 : w13_.cell? ⟨gR, 8, none⟩ = some (.int .u32 0) := R.out.cell (c := 8) rfl
  have kc9 : w13_.cell? ⟨gR, 9, none⟩ = some (.int .u32 0) := R.out.cell (c := 9) rfl
  have kc10 : w13_.cell? ⟨gR, 10, none⟩ = some (.int .u32 0) := R.out.cell (c := 10) rfl
  have kc11 : w13_.cell? ⟨gR, 11, none⟩ = some (.int .u32 0) := R.out.cell (c := 11) rfl
  have kc12 : w13_.cell? ⟨gR, 12, none⟩ = some (.int .u32 0) := R.out.cell (c := 12) rfl
  have kc13 : w13_.cell? ⟨gR, 13, none⟩ = some (.int .u32 0) := R.out.cell (c := 13) rfl
  have kc14 : w13_.cell? ⟨gR, 14, none⟩ = some (.int .u32 101) := R.out.cell (c := 14) rfl
  have kc15 : w13_.cell? ⟨gR, 15, none⟩ = some (.int .u32 100) := R.out.cell (c := 15) rfl
  have kf0 := R.out.free 0
  have kf1 := R.out.free 1
  have kf2 := R.out.free 2
  have kf3 := R.out.free 3
  have kf4 := R.out.free 4
  have kf5 := R.out.free 5
  have kf6 := R.out.free 6
  have kf7 := R.out.free 7
  have kf8 := R.out.free 8
  have kf9 := R.out.free 9
  have kf10 := R.out.free 10
  have kf11 := R.out.free 11
  have kf12 := R.out.free 12
  have kf13 := R.out.free 13
  have kf14 := R.out.free 14
  have kf15 := R.out.free 15
  go_upto_region 20 with fail
  clear kc0 kc1 kc2 kc3 kc4 kc5 kc6 kc7 kc8 kc9 kc10 kc11 kc12 kc13 kc14 kc15 kf0 kf1 kf2 kf3 kf4 kf5 kf6 kf7 kf8 kf9 kf10 kf11 kf12 kf13 kf14 kf15
  obtain ⟨w14_, hW⟩ : ∃ V, ((((((((((((((((w13_.setCell ⟨gR, 0, none⟩ (.int .u32 0)).setCell ⟨gR, 1, none⟩ (.int .u32 0)).setCell ⟨gR, 2, none⟩ (.int .u32 0)).setCell ⟨gR, 3, none⟩ (.int .u32 0)).setCell ⟨gR, 4, none⟩ (.int .u32 0)).setCell ⟨gR, 5, none⟩ (.int .u32 0)).setCell ⟨gR, 6, none⟩ (.int .u32 0)).setCell ⟨gR, 7, none⟩ (.int .u32 0)).setCell ⟨gR, 8, none⟩ (.int .u32 0)).setCell ⟨gR, 9, none⟩ (.int .u32 0)).setCell ⟨gR, 10, none⟩ (.int .u32 0)).setCell ⟨gR, 11, none⟩ (.int .u32 0)).setCell ⟨gR, 12, none⟩ (.int .u32 0)).setCell ⟨gR, 13, none⟩ (.int .u32 0)).setCell ⟨gR, 14, none⟩ (.int .u32 1000)).setCell ⟨gR, 15, none⟩ (.int .u32 1000)) = V := ⟨_, rfl⟩
  have hc : Ch w13_ w14_ [gR] := by rw [← hW]; exact ch_n16 w13_ gR (.int .u32 0) (.int .u32 0) (.int .u32 0) (.int .u32 0) (.int .u32 0) (.int .u32 0) (.int .u32 0) (.int .u32 0) (.int .u32 0) (.int .u32 0) (.int .u32 0) (.int .u32 0) (.int .u32 0) (.int .u32 0) (.int .u32 1000) (.int .u32 1000)
  have hr : Bk w14_ gR 28 [.int .u32 0, .int .u32 0, .int .u32 0, .int .u32 0, .int .u32 0, .int .u32 0, .int .u32 0, .int .u32 0, .int .u32 0, .int .u32 0, .int .u32 0, .int .u32 0, .int .u32 0, .int .u32 0, .int .u32 1000, .int .u32 1000] := by rw [← hW]; exact Bk.sets16 R.out rfl (.int .u32 0) (.int .u32 0) (.int .u32 0) (.int .u32 0) (.int .u32 0) (.int .u32 0) (.int .u32 0) (.int .u32 0) (.int .u32 0) (.int .u32 0) (.int .u32 0) (.int .u32 0) (.int .u32 0) (.int .u32 0) (.int .u32 1000) (.int .u32 1000)
  rw [hW]
  clear hW
  replace HB := Lib.hid (HB.out.trans (hc.below HB.out.size (by intro z hz; simp at hz; omega)))
  replace Y := Lib.hid (Y.out.chd hc (Y.out.lt (by omega)) (by simp; omega))
  replace S := Lib.hid (S.out.chd hc (by simp; omega) (by simp; omega) (by simp; omega))
  replace R := Lib.hid hr
  clear hc
  clear hr
  obtain ⟨X, hX⟩ : ∃ X, sGet bs3 ((1000 : Nat) : Int) (n : Int) = X := ⟨_, rfl⟩
  obtain ⟨m1, m2⟩ := moves_law2 bs3 n X S.out.rb (by have := LB.out; omega) hX
  have l3 := LB.out.2.2
  have E3 := Lib.hid (fun (F : Foot) (W : World) (hS : St 71 W F bs3 (z0 1)) => show Calls Try.prog 14 #[.agg #[.int .i64 215, .int .i64 5, .int .i64 0, .int .i64 0, .int .i64 0, .int .i64 14, .int .i64 0, .int .i64 15, .int .i64 0, .int .i64 ((n : Int) - 1), .int .i64 0, .int .i64 0], .agg #[.int .u32 0, .int .u32 0, .int .u32 0, .int .u32 0, .int .u32 0, .int .u32 0, .int .u32 0, .int .u32 0, .int .u32 0, .int .u32 0, .int .u32 0, .int .u32 0, .int .u32 0, .int .u32 0, .int .u32 1000, .int .u32 1000], .agg #[.int .i64 0, .int .i64 0, .bool false, .bool false, .bool false, .int .i64 0, .int .i64 0, .int .i64 2, .int .i64 0, .int .i64 0], .pointer (some ⟨F.g, 0, none⟩)] W fun e w' => e = .returned (.tuple #[.agg #[.int .u32 0, .int .u32 0, .int .u32 0, .int .u32 0, .int .u32 0, .int .u32 0, .int .u32 0, .int .u32 0, .int .u32 0, .int .u32 0, .int .u32 0, .int .u32 0, .int .u32 0, .int .u32 0, .int .u32 1000, .int .u32 1000], .agg #[.int .i64 0, .int .i64 0, .bool false, .bool false, .bool false, .int .i64 0, .int .i64 0, .int .i64 0, .int .i64 0, .int .i64 0], .int .i64 0]) ∧ St 71 w' F (sPut (alP 0) bs3 (z0 1) ((1000 : Nat) : Int) (List.replicate n 0)) (z0 1) ∧ Ch W w' [F.gb] from exec_sn 215 (.inr rfl) W hS 2 n 1000 1000 n0 n1 (by omega) (by omega) (by omega) (by omega) X X _ 0 hX hX m1 (by rw [if_pos rfl]; exact m2))
  have L4 := Lib.hid (show (sPut (alP 0) bs3 (z0 1) ((1000 : Nat) : Int) (List.replicate n 0)).length = 2048 ∧ sGet (sPut (alP 0) bs3 (z0 1) ((1000 : Nat) : Int) (List.replicate n 0)) ((1000 : Nat) : Int) (n : Int) = List.replicate n 0 from ⟨by rw [put_len _ _ _ _ (by simp; omega), l3], by have := get_put_same bs3 (z0 1) (List.replicate n 0) 1000 (by simp; omega); rw [List.length_replicate] at this; exact this⟩)
  clear hX m1 m2 l3
  refine moves_reg20 (by omega) (by omega) (z_ := 0) (by kernel_rfl) (fun _ a a' _ e h => by have h' : a'.defers = [] ∧ _ := h; exact ⟨e ▸ h'.1, h'.2⟩) S.out R.out (by omega) (by omega) (by omega) (fun W h => E3.out F W h) ?_
  intro w15_ _ _ _ _ _ _ _ _ _ _ g12 g13 _ hs hR hb12 hb13 hge0 hge1 hc
  replace HB := Lib.hid (HB.out.trans (hc.below HB.out.size (by intro z hz; simp at hz; omega)))
  replace Y := Lib.hid (Y.out.chd hc (Y.out.lt (by omega)) (by simp; omega))
  replace S := Lib.hid hs
  replace R := Lib.hid hR
  clear hc
  clear hs hR
  clear E3 hb12 hge0 hge1
  have P := Lib.hid hb13
  clear hb13
  go_upto_region 21 with fail
  refine moves_reg21 (by kernel_rfl) n0 n1 (by have := L4.out.1; omega) S.out L4.out.2 rfl P.out (fun _ a a' _ e h => by have h' : a'.defers = [] ∧ _ := h; exact ⟨e ▸ h'.1, h'.2⟩) ?_
  intro w16_ _ _ _ _ _ _ _ _ _ _ _ _ _ _ _ _ _ _ _ _ _ _ _ _ _ _ hb
  have HE := Lib.hid (HB.out.trans (hb.mono HB.out.size))
  clear hb
  go_wp2
  go_ret
  exact ⟨by rfl, HE.out⟩
theorem generalMoves_walk (a : Option Addr) (len cap : Nat) (zs : List Int) (w : World) (h : IsRow .u8 w a len cap zs) : Calls Try.prog 6 #[.slice a len cap] w fun e w' => e = .returned (.bool true) ∧ Below w.heap.size w w' := by
  obtain ⟨hb, -, h1, h2⟩ := row_byt h
  exact moves_walk0 a len cap _ w hb (by unfold maxLen at h2; omega)
end Go.Proofs.Ythjdjbipfdigeaa

namespace Go.Proofs.Ythjdjbipfdigeaa.generalMoves
open Go.ChangeShapes Go.WideShapes Go.ChangeAt Go.RowKit
open Go.ChangeMaps (open_string shut_string)
set_option linter.unusedVariables false

set_option maxRecDepth 100000 in
theorem lifted (os : Os) (started : os.Started) (H : Type) (enc : TypeId × Value → H) :
    ReturnsInHanded {} Try.checked os 6 .any (Rows.generalMovesSpec.pre6 enc Try.prog Try.f6 Rows.generalMovesRow.domain false) (Rows.generalMovesSpec.post enc Try.prog Try.f6 false true false false) := by
  refine returnsInHanded_of_change (C := Try.checked) own started (by kernel_rfl) Try.func6
    (ChangeSpec.witness6 (enc := enc) (C := Try.checked) false ⟨#[], #[.slice none 0 0], []⟩ 8 (by kernel_rfl) (by kernel_rfl) (by kernel_rfl) (by kernel_rfl)) ?_
  intro W base args ds gs before hval0 hW hcnd _
  have hval : ∀ (j : Nat) t v, Try.f6.params[j]? = some t → args[j]? = some v → Value.okWide Try.prog W .any base t v := hval0
  have hW' := hW
  obtain ⟨p, q, hA0, hV, rfl, hfz, hnd⟩ := hW
  have hA : DataW.TrodAll enc Try.prog W 0 (fun _ => true) true Try.f6.params.toList args.toList ds p := hA0
  rw [Try.params6] at hA hval
  obtain ⟨v0, vs0, d0, ds0, p0, q0, hargs, rfl, rfl, h0, r0⟩ := trodAll_cons hA
  obtain ⟨rfl, rfl, rfl⟩ := trodAll_nil r0
  obtain rfl : args = #[v0] := by cases args; simp_all
  obtain ⟨rfl, rfl⟩ := trodVars_none hV
  have k0 := h0
  have lt0 : ∀ x ∈ p0, x.block < W.heap.size := by obtain ⟨m, hm⟩ := k0; exact DataW.trod_lt m _ _ _ hm
  obtain ⟨a0, len0, cap0, rfl⟩ := okWide_slice Try.underlying31 (hval 0 31 v0 rfl rfl)
  obtain ⟨z0, w0⟩ := open_row Try.underlying31 Try.underlying5 (by kernel_rfl) h0
  clear hA0 hval0
  refine (generalMoves_walk a0 len0 cap0 z0 W w0).mono fun e W' ⟨he, bel⟩ => ?_
  subst he
  exact ⟨_, rfl, _, _, _, [], _, [], hW', trodAll_mk1 (shut_bool Try.underlying4 _), (trodAll_cons_mk (Below.trod laidOut (by kernel_rfl) (of_decide_eq_true (by kernel_rfl)) k0 bel lt0) trodAll_mk0), rfl, bel.frame _, fun h => by cases h⟩

theorem over : Rows.generalMovesRow.holds Try.pinned (OpenSpec.ofChange Rows.generalMovesSpec) :=
  OpenClaim.holds_of_wide 6 Try.f6 rfl rfl rfl rfl rfl rfl rfl ⟨rfl, rfl, rfl, rfl, rfl⟩ rfl rfl rfl rfl rfl (by kernel_rfl) Try.func6 (by kernel_rfl)
    (of_decide_eq_true (by kernel_rfl)) (by unfold Func.isWrapper; first | (rw [if_pos (by decide +kernel)]; kernel_rfl) | (rw [if_neg (by decide +kernel)]; exact ⟨rfl, rfl⟩))
    (fun os started H enc _ => lifted os started H enc)

/-- THE STATEMENT -/
theorem proved : Rows.GeneralMovesSaid := over
end Go.Proofs.Ythjdjbipfdigeaa.generalMoves

