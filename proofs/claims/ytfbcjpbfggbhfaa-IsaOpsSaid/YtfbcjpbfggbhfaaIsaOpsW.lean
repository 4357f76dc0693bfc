/- THE WALK of IsaOps: it returns true and writes nothing that was there. No conditions. -/
import Derived.Test.YtfbcjpbfggbhfaaIs7
import Derived.Test.YtfbcjpbfggbhfaaIs8
import Derived.BigQuiet
namespace Go.Proofs.Ytfbcjpbfggbhfaa
open Go.RowKit
set_option linter.unusedVariables false
set_option linter.unusedSimpArgs false
theorem fn_nm : ∀ k, k < 97 → fnIx (strN (nmK k)) = k := by decide +kernel
theorem opsV_get {k : Nat} (h : k < 97) : (opsV 97)[k]? = some (.int .i64 (opK k)) := by
  have hl : opL.length = 97 := by decide +kernel
  unfold opsV opK
  rw [List.take_of_length_le (by omega), List.getElem?_map, List.getD_eq_getElem?_getD, List.getElem?_eq_getElem (by omega)]; rfl
theorem ix_lt_succ (op : Int) {k : Nat} (hk : k < 97) : decide (ix op < k + 1) = (decide (ix op < k) || opK k == op) := by
  rw [Bool.eq_iff_iff, Bool.or_eq_true, decide_eq_true_iff, decide_eq_true_iff, beq_iff_eq]
  constructor
  · intro h
    rcases Nat.lt_or_ge (ix op) k with h1 | h1
    · exact .inl h1
    · have h2 : ix op = k := by omega
      exact .inr (h2 ▸ ix_op (by omega))
  · rintro (h | h)
    · omega
    · rw [ix_of hk h]; omega
set_option maxRecDepth 1000000 in
set_option maxHeartbeats 4000000 in
theorem isaOps_walk (op : Int) (w : World) (ho : (Lit.int .i64 op).wf = true) : Calls Try.prog 8 #[.int .i64 op] w fun e w' => e = .returned (.bool true) ∧ Below w.heap.size w w' := by
  go_enter Try.func8, Try.ntmps8
  go_wp2_with fail
  refine (ops_c _).mono ?_
  rintro e w1 ⟨v, rfl, hown, hB⟩
  obtain ⟨g, cap, rfl, hg0, hg, hcells⟩ := owns_read hown (by omega)
  have HC := Lib.hid hcells
  have HB := Lib.hid hB
  clear hown hcells hB hg0 hg
  go_wp2
  go_loopw [4, 5] (fun b x wr => ∃ k : Nat, k ≤ 97 ∧ x = .int .i64 (k : Int) ∧ b = .bool (decide (ix op < k)) ∧ ∃ n, wr = w1.drewN n) (fun _ x _ => 97 - (intOf x).toNat)
  case atStart => exact ⟨0, by omega, rfl, rfl, 0, rfl⟩
  case round =>
    obtain ⟨k, hk, rfl, rfl, n, rfl⟩ := hrel
    by_cases hlt : k < 97
    · have c0 : w1.cell? ⟨g, k, none⟩ = some (.int .i64 (opK k)) := HC.out k _ (opsV_get hlt)
      have X := Lib.hid (ix_lt_succ op hlt)
      have hI : (k : Int) < 97 := by omega
      obtain ⟨b, hb⟩ : ∃ b, decide (ix op < k) = b := ⟨_, rfl⟩
      rw [hb]
      have HBB := Lib.hid hb
      clear hb
      obtain ⟨z, hz⟩ : ∃ z, opK k = z := ⟨_, rfl⟩
      rw [hz] at c0
      have HZ := Lib.hid hz
      have Y := Lib.hid (show decide (ix op < k + 1) = (b || decide (z = op)) from by rw [X.out, HBB.out, HZ.out]; congr 1)
      clear hz
      rcases Nat.eq_zero_or_pos k with h0 | h0
      · subst h0
        cases b
        · by_cases hzo : z = op
          · have e0 : (z == op) = true := by simpa using hzo
            have Z := Lib.hid (show decide (ix op < 0 + 1) = true from by rw [Y.out]; simpa using hzo)
            clear hzo
            go_wp2
            go_quiet (fail)
            go_wp2
            exact ⟨⟨0 + 1, by omega, by go_num, by rw [Z.out], _, rfl⟩, by first | (simp [intOf]; done) | (simp [intOf]; omega)⟩
          · have e0 : (z == op) = false := by simpa using hzo
            have Z := Lib.hid (show decide (ix op < 0 + 1) = false from by rw [Y.out]; simpa using hzo)
            clear hzo
            go_wp2
            go_quiet (fail)
            go_wp2
            exact ⟨⟨0 + 1, by omega, by go_num, by rw [Z.out], _, rfl⟩, by first | (simp [intOf]; done) | (simp [intOf]; omega)⟩
        · exact absurd HBB.out (by simp)
      · obtain ⟨m, rfl⟩ : ∃ m, k = m + 1 := ⟨k - 1, by omega⟩
        have c1 : w1.cell? ⟨g, m, none⟩ = some (.int .i64 (opK m)) := HC.out m _ (opsV_get (by omega))
        obtain ⟨y, hy⟩ : ∃ y, opK m = y := ⟨_, rfl⟩
        have hup : ¬ (z ≤ y) := by have := op_up m (by omega); have := HZ.out; omega
        rw [hy] at c1
        clear hy
        have g0 : (0 : Int) < ((m + 1 : Nat) : Int) := by omega
        cases b
        · by_cases hzo : z = op
          · have e0 : (z == op) = true := by simpa using hzo
            have Z := Lib.hid (show decide (ix op < m + 1 + 1) = true from by rw [Y.out]; simpa using hzo)
            clear hzo
            go_wp2
            go_quiet (fail)
            go_wp2
            exact ⟨⟨m + 1 + 1, by omega, by go_num, by rw [Z.out], _, rfl⟩, by first | (simp [intOf]; done) | (simp [intOf]; omega)⟩
          · have e0 : (z == op) = false := by simpa using hzo
            have Z := Lib.hid (show decide (ix op < m + 1 + 1) = false from by rw [Y.out]; simpa using hzo)
            clear hzo
            go_wp2
            go_quiet (fail)
            go_wp2
            exact ⟨⟨m + 1 + 1, by omega, by go_num, by rw [Z.out], _, rfl⟩, by first | (simp [intOf]; done) | (simp [intOf]; omega)⟩
        · have Z := Lib.hid (show decide (ix op < m + 1 + 1) = true from by rw [Y.out]; rfl)
          go_wp2
          go_quiet (fail)
          go_wp2
          exact ⟨⟨m + 1 + 1, by omega, by go_num, by rw [Z.out], _, rfl⟩, by first | (simp [intOf]; done) | (simp [intOf]; omega)⟩
    · obtain rfl : k = 97 := by omega
      have HB2 := Lib.hid (below_dn HB.out n)
      have WK := Lib.hid (fun W (h : Below w.heap.size w W) => (works_c W).mono (fun e w' h' => And.intro h'.1 (h.trans (h'.2.mono h.size))))
      by_cases hi : ix op < 97
      · have e1 : (decide (ix op < 97)) = true := by simpa using hi
        rw [e1]
        have hn : strN (nmOf op) = strN (nmK (ix op)) := by unfold nmOf; rw [if_pos hi]
        obtain ⟨nm, hnm⟩ : ∃ nm, strN (nmOf op) = nm := ⟨_, rfl⟩
        have NC := Lib.hid (name_c op)
        have f0 : fnOp nm = op := by unfold fnOp; rw [← hnm, hn, fn_nm _ hi, if_pos hi, ix_op hi]
        have f1 : fnOk nm = true := by unfold fnOk; rw [← hnm, hn, fn_nm _ hi]; exact e1
        have FC := Lib.hid (find_c nm)
        rw [hnm] at NC
        rw [f0, f1] at FC
        clear hn hnm f0 f1 e1 hi
        go_wp2_with (first
          | (go_at_call 24; refine (NC.out _).mono ?_; rintro e w2 ⟨rfl, n2, rfl⟩)
          | (go_at_call 23; refine (FC.out _).mono ?_; rintro e w3 ⟨rfl, n3, rfl⟩)
          | (go_at_call 14; refine (WK.out _ (below_dn HB.out _)).mono ?_; rintro e w4 ⟨rfl, HB3⟩))
        go_ret
        exact ⟨by simp, HB3⟩
      · have e1 : (decide (ix op < 97)) = false := by simpa using hi
        rw [e1]
        have hnm : strN (nmOf op) = ⟨#[]⟩ := by unfold nmOf; rw [if_neg hi]; rfl
        have NC := Lib.hid (name_c op)
        rw [hnm] at NC
        obtain ⟨y0, hy0⟩ : ∃ x, fnOp ⟨#[]⟩ = x := ⟨_, rfl⟩
        obtain ⟨y1, hy1⟩ : ∃ x, fnOk ⟨#[]⟩ = x := ⟨_, rfl⟩
        have FC := Lib.hid (find_c ⟨#[]⟩)
        rw [hy0, hy1] at FC
        clear hnm hy0 hy1 e1 hi
        go_wp2_with (first
          | (go_at_call 24; refine (NC.out _).mono ?_; rintro e w2 ⟨rfl, n2, rfl⟩)
          | (go_at_call 23; refine (FC.out _).mono ?_; rintro e w3 ⟨rfl, n3, rfl⟩)
          | (go_at_call 14; refine (WK.out _ (below_dn HB.out _)).mono ?_; rintro e w4 ⟨rfl, HB3⟩))
        go_ret
        exact ⟨by simp, HB3⟩
end Go.Proofs.Ytfbcjpbfggbhfaa
