/- CONTRACTS of the reference's put, PutHalf, PutFull: a new slice, byte by byte. Conditions: the slices read as bytes; lengths within the form's reach. -/
import Derived.Test.YtmabamijogbbnaaWdI
namespace Go.Proofs.Ytmabamijogbbnaa
open Go.RowKit
set_option linter.unusedVariables false

theorem take_snoc_getD (S : List Int) (j : Nat) (h : j < S.length) : S.take (j + 1) = S.take j ++ [S.getD j 0] := by
  rw [List.take_succ_eq_append_getElem h]; simp [List.getD_eq_getElem?_getD, h]
theorem splice_getD_in (L ys : List Int) (k d : Nat) (hk : k ≤ L.length) (hd : d < ys.length) : (splice L k ys).getD (k + d) 0 = ys.getD d 0 := by
  have l1 : (L.take k).length = k := by rw [List.length_take]; omega
  unfold splice
  simp only [List.getD_eq_getElem?_getD]
  rw [List.getElem?_append_right (by omega), l1, Nat.add_sub_cancel_left, List.getElem?_append_left hd]
theorem splice_getD_out (L ys : List Int) (k j : Nat) (hk : k + ys.length ≤ L.length) (hj : j < k ∨ k + ys.length ≤ j) : (splice L k ys).getD j 0 = L.getD j 0 := by
  have l1 : (L.take k).length = k := by rw [List.length_take]; omega
  unfold splice
  simp only [List.getD_eq_getElem?_getD]
  rcases hj with hj | hj
  · rw [List.getElem?_append_left (by omega), List.getElem?_take, if_pos hj]
  · rw [List.getElem?_append_right (by omega), l1, List.getElem?_append_right (by omega), List.getElem?_drop]
    congr 2; omega

set_option maxHeartbeats 2000000 in
theorem rput_yes (A : Option Addr) (len cap k m : Nat) (n v : Int) (zs ys : List Int) (w : World) (hl : len ≤ 140737488355328) (hb : Byt w A len zs) (hn : 2 ≤ n) (hn' : n ≤ 4) (hm : (m : Int) = n) (hk : k + m ≤ len) (hv : 0 ≤ v) (hv' : v ≤ 4294967295)
    (hys : ys.length = m) (hyr : ∀ z ∈ ys, 0 ≤ z ∧ z ≤ 255) (hyv : ∀ d : Nat, d < m → v / 2 ^ (8 * (n - 1 - (d : Int))).toNat % 256 = ys.getD d 0) :
    Calls Try.prog 77 #[.slice A len cap, .int .i64 k, .int .i64 n, .int .u32 v] w (Fresh w len (splice zs k ys)) := by
  have hl2 : (len : Int) ≤ 9223372036854775807 := by omega
  have hkn : (k : Int) + n ≤ (len : Int) := by omega
  have hkl : (k : Int) ≤ (len : Int) := by omega
  have HB := Lib.hid hb
  have HL := Lib.hid hb.1
  obtain ⟨S, hS⟩ : ∃ S, splice zs k ys = S := ⟨_, rfl⟩
  have hSl : S.length = len := by rw [← hS, length_splice _ _ _ (by rw [hb.1, hys]; exact hk), hb.1]
  have hSr : ∀ z ∈ S, 0 ≤ z ∧ z ≤ 255 := by rw [← hS]; exact splice_range _ _ _ hb.2.1 hyr
  have hin : ∀ j : Nat, k ≤ j → j < k + m → v / 2 ^ (8 * (n - 1 - ((j : Int) - (k : Int)))).toNat % 256 = S.getD j 0 := by
    intro j h1 h2
    have e := hyv (j - k) (by omega)
    rw [show ((j - k : Nat) : Int) = (j : Int) - (k : Int) from by omega] at e
    rw [e, ← hS]
    have := splice_getD_in zs ys k (j - k) (by rw [hb.1]; omega) (by omega)
    rw [show k + (j - k) = j from by omega] at this
    exact this.symm
  have hout : ∀ j : Nat, j < k ∨ k + m ≤ j → S.getD j 0 = zs.getD j 0 := by
    intro j h
    rw [← hS]; exact splice_getD_out zs ys k j (by rw [hb.1, hys]; exact hk) (by rw [hys]; exact h)
  rw [hS]
  have HSl := Lib.hid hSl
  have HSr := Lib.hid hSr
  have Hin := Lib.hid hin
  have Hout := Lib.hid hout
  have Hm := Lib.hid hm
  have Hk := Lib.hid hk
  clear hb hyv hys hyr hS hSl hSr hin hout hm hk
  go_enter Try.func77, Try.ntmps77
  go_wp2_with (go_at_call 75; refine (rfield_yes _ _ _ k n zs _ hl2 HB.out hn hn' hkn).mono ?_; rintro e w' ⟨rfl, rfl⟩)
  go_loopw [12, 13] (fun o i wr => ∃ j : Nat, j ≤ len ∧ i = .int .i64 j ∧ Own wr w.heap.size o j (S.take j) ∧ Below w.heap.size w wr) (fun _ i _ => len - (intOf i).toNat)
  case atStart => exact ⟨0, Nat.zero_le _, rfl, by simpa using Own.nil _ _, Below.refl _ _⟩
  case round =>
    obtain ⟨j, hj, rfl, hown, hbl⟩ := hrel
    have HO := Lib.hid hown
    have HBl := Lib.hid hbl
    clear hown hbl
    by_cases hlt : j < len
    · have htk := Lib.hid (take_snoc_getD S j (by rw [HSl.out]; exact hlt))
      have hr1 : 0 ≤ S.getD j 0 ∧ S.getD j 0 ≤ 255 := HSr.out _ (by rw [List.getD_eq_getElem?_getD, List.getElem?_eq_getElem (by rw [HSl.out]; exact hlt)]; exact List.getElem_mem _)
      have hsz := HBl.out.size
      by_cases hmid : k ≤ j ∧ j < k + m
      · obtain ⟨m1, m2⟩ := hmid
        have m3 : (k : Int) ≤ (j : Int) := by omega
        have m4 : (j : Int) < (k : Int) + n := by have := Hm.out; omega
        have he := Hin.out j m1 m2
        obtain ⟨e, hE⟩ : ∃ e, S.getD j 0 = e := ⟨_, rfl⟩
        rw [hE] at he hr1
        have HE := Lib.hid hE
        have Hr := Lib.hid hr1
        clear hE hr1 m1 m2
        go_wp2_with (at_builtin; refine wpList_append_bytes rfl _ _ rfl w.heap.size _ j (S.take j) rfl (HO.out.alloc _) (some ⟨wr.heap.size, 0, none⟩) 1 1 [e] rfl (byt_new _ _ (by simpa using Hr.out) _ (by simp) _ rfl _) (fun h => nomatch h) (by omega) (by simp; omega) ?_; intro v' w1 hown1 hg1; have HO1 := Lib.hid hown1; have HB1 := Lib.hid ((HBl.out.alloc hsz _).grown hg1 (by simp; omega) (fun g hg => (HO.out.block g hg).1)); clear hown1 hg1)
        go_roundw
        case rel => exact ⟨j + 1, by omega, by go_num, by rw [htk.out, HE.out]; exact HO1.out, HB1.out⟩
        case measure => simp [intOf]; omega
      · have he := Hout.out j (by omega)
        have hmd := Lib.hid hmid
        have HBy := HB.out.keep HBl.out
        obtain ⟨b, off, rfl, hc⟩ := HBy.at_ (by omega)
        have c1 := hc j hlt
        rw [← he] at c1
        obtain ⟨e, hE⟩ : ∃ e, S.getD j 0 = e := ⟨_, rfl⟩
        rw [hE] at he hr1 c1
        have HE := Lib.hid hE
        have Hr := Lib.hid hr1
        have k1 : (j : Int) < (len : Int) := by omega
        by_cases hlo : j < k
        · have g1 : decide ((k : Int) ≤ (j : Int)) = false := by simp; omega
          have g2 : (j : Int) < (k : Int) := by omega
          clear hE hr1 hc HBy hmid he
          go_wp2_with (at_builtin; refine wpList_append_bytes rfl _ _ rfl w.heap.size _ j (S.take j) rfl (HO.out.alloc _) (some ⟨wr.heap.size, 0, none⟩) 1 1 [e] rfl (byt_new _ _ (by simpa using Hr.out) _ (by simp) _ rfl _) (fun h => nomatch h) (by omega) (by simp; omega) ?_; intro v' w1 hown1 hg1; have HO1 := Lib.hid hown1; have HB1 := Lib.hid ((HBl.out.alloc hsz _).grown hg1 (by simp; omega) (fun g hg => (HO.out.block g hg).1)); clear hown1 hg1)
          go_roundw
          case rel => exact ⟨j + 1, by omega, by go_num, by rw [htk.out, HE.out]; exact HO1.out, HB1.out⟩
          case measure => simp [intOf]; omega
        · have g0 : (k : Int) ≤ (j : Int) := by omega
          have g2 : (k : Int) + n ≤ (j : Int) := by have := Hm.out; have := hmd.out; omega
          have g1 : decide ((j : Int) < (k : Int) + n) = false := by simp; omega
          clear hE hr1 hc HBy hmid he hlo
          go_wp2_with (at_builtin; refine wpList_append_bytes rfl _ _ rfl w.heap.size _ j (S.take j) rfl (HO.out.alloc _) (some ⟨wr.heap.size, 0, none⟩) 1 1 [e] rfl (byt_new _ _ (by simpa using Hr.out) _ (by simp) _ rfl _) (fun h => nomatch h) (by omega) (by simp; omega) ?_; intro v' w1 hown1 hg1; have HO1 := Lib.hid hown1; have HB1 := Lib.hid ((HBl.out.alloc hsz _).grown hg1 (by simp; omega) (fun g hg => (HO.out.block g hg).1)); clear hown1 hg1)
          go_roundw
          case rel => exact ⟨j + 1, by omega, by go_num, by rw [htk.out, HE.out]; exact HO1.out, HB1.out⟩
          case measure => simp [intOf]; omega
    · obtain rfl : j = len := by omega
      go_wp2
      go_ret2
      exact ⟨_, rfl, by have := HO.out; rwa [List.take_of_length_le (by rw [HSl.out]; exact Nat.le_refl _)] at this, HBl.out⟩
end Go.Proofs.Ytmabamijogbbnaa
