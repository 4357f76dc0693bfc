/- CONTRACTS of package jobshoplaw07: works. No conditions but that the storage reads as one. -/
import Derived.Test.YtcollddpfahaaaaSt12
import Derived.Laws.BytesArg
import Derived.Laws.Strings
import Derived.Lib.Hide
import Derived.Outline
import Derived.Handy
import Derived.BigQuiet
import Derived.Deep.QuietTactic
namespace Go.Proofs.Ytcollddpfahaaaa
open Go.RowKit
set_option linter.unusedVariables false
set_option linter.unusedSimpArgs false

theorem wk_new {T : TypeId} {B : Nat} {a0 w : World} {F : Foot} {bs ks : List Int} (h : Wk T B a0 w F bs ks) (zs : List Int) (hr : ∀ z ∈ zs, 0 ≤ z ∧ z ≤ 255) (C : Array Value) (hC : C.toList = zs.map (Value.int .u8)) (n : Nat) (hn : zs.length = n) (e : TypeId) : Wk T B a0 (w.alloc (.cells C e)) F bs ks ∧ Byt (w.alloc (.cells C e)) (some ⟨w.heap.size, 0, none⟩) n zs := ⟨h.alloc _, byt_new w zs hr C hC n hn e⟩
/-- the bytes of a fresh slice -/
theorem byt_newC (w : World) (C : Array Value) (e : TypeId) (h : (C.toList.all fun v => match v with | .int .u8 z => decide (0 ≤ z ∧ z ≤ 255) | _ => false) = true) : Byt (w.alloc (.cells C e)) (some ⟨w.heap.size, 0, none⟩) C.size (C.toList.map intOf) := by
  have h1 : ∀ v ∈ C.toList, ∃ z, v = .int .u8 z ∧ 0 ≤ z ∧ z ≤ 255 := by
    intro v hv
    have := List.all_eq_true.1 h v hv
    split at this
    · exact ⟨_, rfl, of_decide_eq_true this⟩
    · cases this
  refine byt_new w _ ?_ C ?_ _ ?_ e
  · intro z hz
    obtain ⟨v, hv, rfl⟩ := List.mem_map.1 hz
    obtain ⟨z, rfl, h2, h3⟩ := h1 v hv
    exact ⟨h2, h3⟩
  · rw [List.map_map]
    conv => lhs; rw [← List.map_id C.toList]
    refine List.map_congr_left fun v hv => ?_
    obtain ⟨z, rfl, _, _⟩ := h1 v hv
    rfl
  · simp
set_option maxRecDepth 100000 in
set_option maxHeartbeats 4000000 in
theorem works_c (w : World) : Calls Try.prog 15 #[] w fun e w' => e = .returned (.bool true) ∧ Below w.heap.size w w' := by
  go_enter Try.func15, Try.ntmps15
  go_wp2_with (first | (go_at_call 16; refine (new_yes 2 (by omega) (by omega) _).mono ?_; rintro e w' ⟨v, rfl, F, rfl, hs, hb, q1, q2, q3⟩; have WK : Wk 66 w.heap.size w w' F (z0 (2048 * 2)) (z0 2) := ⟨hs, hb, q1, q2, q3⟩; clear hs hb q1 q2 q3) | (go_at_call 19; refine (size_c _ WK.st).mono ?_; rintro e w' ⟨rfl, rfl⟩; rw [show (z0 (2048 * 2)).length = 4096 from z0_len _]) | (go_at_call 17; refine (wk_set _ WK _ _ true (by decide +kernel)).mono ?_; rintro e w' ⟨rfl, hw, hg⟩; replace WK := hw; clear hw hg) | (go_at_call 26; refine (wk_key _ WK _ _ _ (by decide +kernel) (by decide +kernel)).mono ?_; rintro e w' ⟨rfl, rfl⟩) | (go_at_call 20; refine (wk_put _ (by first | exact WK | exact WK.alloc _) _ _ _ _ _ _ (by first | exact byt_none _ | exact byt_newC _ _ _ rfl) _ (by first | (show _ = (0 : Int); decide +kernel) | (show _ = (4 : Int); decide +kernel) | (show _ = (5 : Int); decide +kernel)) (by decide)).mono ?_; rintro e w' ⟨rfl, hw, hg⟩; replace WK := hw; clear hw hg) | (go_at_call 18; refine (wk_bytes _ WK _ _ [1, 2, 3, 4] (by decide +kernel)).mono ?_; rintro e w' ⟨A, m, c, rfl, ho, hw, hb⟩; replace WK := hw; have cv := conv_byt ho.byt c; rw [show strOfNums [1, 2, 3, 4] = { data := #[1, 2, 3, 4] } from rfl] at cv; clear ho hb hw))
  obtain ⟨WK, hy⟩ := wk_new WK [1, 2, 9, 4] (by decide) #[.int .u8 1, .int .u8 2, .int .u8 9, .int .u8 4] rfl 4 rfl 5
  have HY := Lib.hid hy
  clear hy
  go_wp2_with (first | (go_at_call 27; refine (wk_has _ (by first | exact WK | exact WK.alloc _) _ _ _ _ _ _ _ _ (by first | exact byt_none _ | exact HY.out | exact HY.out.pre 2 (by omega) | exact byt_newC _ _ _ rfl) (by decide +kernel) (by decide +kernel)).mono ?_; rintro e w' ⟨rfl, hw, hb⟩; replace WK := hw; (try replace HY := Lib.hid (HY.out.keep hb)); clear hw hb) | (go_at_call 20; refine (wk_put _ (by first | exact WK | exact WK.alloc _) _ _ _ _ _ _ (by first | exact byt_none _ | exact byt_newC _ _ _ rfl) _ (by first | (show _ = (0 : Int); decide +kernel) | (show _ = (4 : Int); decide +kernel) | (show _ = (5 : Int); decide +kernel)) (by decide)).mono ?_; rintro e w' ⟨rfl, hw, hg⟩; replace WK := hw; clear hw hg) | (go_at_call 25; refine (wk_clr _ WK _ _ _ (by first | (show _ = true; decide +kernel) | (show _ = false; decide +kernel))).mono ?_; rintro e w' ⟨rfl, hw, hg⟩; replace WK := hw; clear hw hg) | (go_at_call 18; refine (wk_bytes _ WK _ _ [1, 0, 0, 4] (by decide +kernel)).mono ?_; rintro e w' ⟨A, m, c, rfl, ho, hw, hb⟩; replace WK := hw; have cv := conv_byt ho.byt c; rw [show strOfNums [1, 0, 0, 4] = { data := #[1, 0, 0, 4] } from rfl] at cv; clear ho hb hw))
  go_ret
  exact ⟨rfl, WK.bl⟩

end Go.Proofs.Ytcollddpfahaaaa
