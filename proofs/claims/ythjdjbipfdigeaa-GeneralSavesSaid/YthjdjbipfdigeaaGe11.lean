/- CONTRACTS of the machine's methods: address, second, first. Conditions: the numbers in their ranges. -/
import Derived.Test.YthjdjbipfdigeaaGe4
import Derived.LoopNIn
namespace Go.Proofs.Ythjdjbipfdigeaa
open Go.RowKit
set_option maxRecDepth 100000
set_option linter.unusedVariables false
set_option linter.unusedSimpArgs false
/-- what a register adds to an address -/
def baseV (os : List Int) (n : Nat) : Int := if n = 0 then 0 else os.getD n 0
def sumB (os : List Int) : List Nat → Int
  | [] => 0
  | n :: l => baseV os n + sumB os l
theorem sumB_app (os : List Int) : ∀ (l m : List Nat), sumB os (l ++ m) = sumB os l + sumB os m
  | [], m => by simp [sumB]
  | n :: l, m => by simp only [List.cons_append, sumB, sumB_app os l m]; omega
theorem getD_in {os : List Int} (ro : ∀ z ∈ os, 0 ≤ z ∧ z ≤ 4294967295) (n : Nat) : 0 ≤ os.getD n 0 ∧ os.getD n 0 ≤ 4294967295 := by
  rw [List.getD_eq_getElem?_getD]
  rcases Nat.lt_or_ge n os.length with h | h
  · rw [List.getElem?_eq_getElem h]; exact ro _ (List.getElem_mem _)
  · rw [List.getElem?_eq_none h]; exact ⟨by decide, by decide⟩
theorem baseV_in {os : List Int} (ro : ∀ z ∈ os, 0 ≤ z ∧ z ≤ 4294967295) (n : Nat) : 0 ≤ baseV os n ∧ baseV os n ≤ 4294967295 := by
  unfold baseV; split
  · exact ⟨by decide, by decide⟩
  · exact getD_in ro n
theorem sumB_in {os : List Int} (ro : ∀ z ∈ os, 0 ≤ z ∧ z ≤ 4294967295) : ∀ l : List Nat, 0 ≤ sumB os l ∧ sumB os l ≤ 4294967295 * l.length
  | [] => by simp [sumB]
  | n :: l => by
    have h1 := baseV_in ro n
    have h2 := sumB_in ro l
    simp only [sumB, List.length_cons]
    omega
set_option maxRecDepth 1000000 in
set_option maxHeartbeats 4000000 in
theorem address_c (g b : Nat) (d : Int) (ns : List Nat) (cap : Nat) (is os rs : List Int) (ps : List Value) (s : Value) (ov : Bool) (w : World) (hm : Mc w g is os rs ps s ov) (ro : ∀ z ∈ os, 0 ≤ z ∧ z ≤ 4294967295) (hd : 0 ≤ d) (hd' : d ≤ 4095) (hl : ns.length ≤ 2) (hn : ∀ n ∈ ns, n < 16) (hc : ∀ i, i < ns.length → w.cell? ⟨b, i, none⟩ = some (.int .i64 ((ns.getD i 0 : Nat) : Int))) : Calls Try.prog 64 #[.pointer (some ⟨g, 0, none⟩), .int .i64 d, .slice (some ⟨b, 0, none⟩) ns.length cap] w fun e w' => e = .returned (.int .i64 ((d + sumB os ns) % 16777216)) ∧ w = w' := by
  have HM := Lib.hid hm
  have HC := Lib.hid hc
  have HN := Lib.hid hn
  have RO := Lib.hid ro
  obtain ⟨L, hL⟩ : ∃ L, ns.length = L := ⟨_, rfl⟩
  rw [hL] at hl
  have LL := Lib.hid hL
  simp only [hL]
  clear hm hc hn ro hL
  go_enter Try.func64, Try.ntmps64
  go_wp2
  go_loopw [1, 11] (fun dv x wr => ∃ k : Nat, k ≤ L ∧ x = .int .i64 (k : Int) ∧ dv = .int .i64 (d + sumB os (ns.take k)) ∧ wr = w) (fun _ x _ => L - (intOf x).toNat)
  case atStart => exact ⟨0, by omega, rfl, by simp [sumB], rfl⟩
  case round =>
    obtain ⟨k, hk, rfl, rfl, hw⟩ := hrel
    subst hw
    by_cases hlt : k < L
    · have hI : (k : Int) < (L : Int) := by omega
      have c0 := HC.out k (by have := LL.out; omega)
      obtain ⟨n, hn⟩ : ∃ n, ns.getD k 0 = n := ⟨_, rfl⟩
      rw [hn] at c0
      have ht : ns.take (k + 1) = ns.take k ++ [n] := by
        rw [List.take_add_one, ← hn, List.getD_eq_getElem?_getD, List.getElem?_eq_getElem (by have := LL.out; omega)]; rfl
      have hn16 : n < 16 := HN.out n (by rw [← hn, List.getD_eq_getElem?_getD, List.getElem?_eq_getElem (by have := LL.out; omega)]; exact List.getElem_mem _)
      have hs := sumB_in RO.out (ns.take k)
      have hlen : (ns.take k).length = k := by rw [List.length_take]; have := LL.out; omega
      rw [hlen] at hs
      obtain ⟨S, hS⟩ : ∃ S, sumB os (ns.take k) = S := ⟨_, rfl⟩
      rw [hS] at hs ⊢
      have HS := Lib.hid (show sumB os (ns.take (k + 1)) = S + baseV os n from by rw [ht, sumB_app, hS]; simp [sumB])
      have s0 := hs.1
      have s1 : S ≤ 4294967295 * 2 := by have := hs.2; omega
      clear hn ht hs hlen hS
      rcases Nat.eq_zero_or_pos n with h0 | h0
      · subst h0
        have HB := Lib.hid (show sumB os (ns.take (k + 1)) = S from by rw [HS.out]; simp [baseV])
        go_wp2
        exact ⟨⟨k + 1, by omega, rfl, by rw [HB.out], trivial⟩, by simp [intOf]; omega⟩
      · have e0 : ((n : Int) != 0) = true := by simp; omega
        have c1 := HM.out.co hn16
        obtain ⟨v, hv⟩ : ∃ v, os.getD n 0 = v := ⟨_, rfl⟩
        rw [hv] at c1
        have rv : 0 ≤ v ∧ v ≤ 4294967295 := by rw [← hv]; exact getD_in RO.out n
        obtain ⟨v0, v1⟩ := rv
        have HB := Lib.hid (show sumB os (ns.take (k + 1)) = S + v from by rw [HS.out, ← hv]; unfold baseV; rw [if_neg (by omega)])
        have i0 : (n : Int) < 16 := by omega
        have i1 : (0 : Int) ≤ (n : Int) := by omega
        clear hv HS
        go_wp2
        refine ⟨⟨k + 1, by omega, rfl, ?_, trivial⟩, by simp [intOf]; omega⟩
        rw [HB.out]
        go_num
    · obtain rfl : k = L := by omega
      have hs := sumB_in RO.out ns
      have hs2 : (ns.length : Int) ≤ 2 := by have := LL.out; omega
      have ht : ns.take k = ns := by rw [← LL.out]; exact List.take_length
      rw [ht]
      obtain ⟨S, hS⟩ : ∃ S, sumB os ns = S := ⟨_, rfl⟩
      rw [hS] at hs ⊢
      have s0 := hs.1
      have s1 : S ≤ 4294967295 * 2 := by have := hs.2; omega
      have t0 : 0 ≤ d + S := by omega
      clear hs ht
      go_wp2
      go_ret
      exact ⟨by rw [hS]; rfl, rfl⟩
set_option maxRecDepth 1000000 in
set_option maxHeartbeats 4000000 in
theorem second_c (g n0 n1 : Nat) (d : Int) (is os rs : List Int) (ps : List Value) (s : Value) (ov : Bool) (w : World) (hm : Mc w g is os rs ps s ov) (ro : ∀ z ∈ os, 0 ≤ z ∧ z ≤ 4294967295) (hd0 : is.getD 8 0 = d) (hd : 0 ≤ d) (hd' : d ≤ 4095) (hn0 : is.getD 7 0 = (n0 : Int)) (h160 : n0 < 16) (hn1 : is.getD 4 0 = (n1 : Int)) (h161 : n1 < 16) : Calls Try.prog 44 #[.pointer (some ⟨g, 0, none⟩)] w fun e w' => e = .returned (.int .i64 ((d + sumB os [n0, n1]) % 16777216)) ∧ Ch w w' [] := by
  have HM := Lib.hid hm
  have RO := Lib.hid ro
  have HD := Lib.hid hd0
  have HN0 := Lib.hid hn0
  have HN1 := Lib.hid hn1
  clear hm ro hd0 hn0 hn1
  go_enter Try.func44, Try.ntmps44
  go_upto_region 1 with fail
  refine wp_region_held_drew (S := (fun w' => Mc w' g is os rs ps s ov ∧ Ch w w' [])) (by kernel_rfl) ?_ (fun hHeld => ?_)
  · (try dsimp only); exact ⟨HM.out.drewN 1, (Ch.refl _ _).drewN 1⟩
  refine' takeL (i := 0) (v := _) rfl (by kernel_rfl) (by kernel_rfl) (by kernel_rfl) (fun _ _ _ h => h) (Or.inl ⟨by rfl, ?yy1⟩) (by assumption) ?rr1
  case yy1 => intro w hSw; (try dsimp only at hSw); go_simp; (try with_reducible rfl)
  try simp only [Act.put, List.setIfInBounds_toArray, List.set_cons_zero, List.set_cons_succ]
  refine' takeL (i := 1) (v := _) rfl (by kernel_rfl) (by kernel_rfl) (by kernel_rfl) (fun _ _ _ h => h) (Or.inl ⟨by rfl, ?yy2⟩) (by assumption) ?rr2
  case yy2 => intro w hSw; (try dsimp only at hSw); go_simp; (try with_reducible rfl)
  try simp only [Act.put, List.setIfInBounds_toArray, List.set_cons_zero, List.set_cons_succ]
  refine' takeL (i := 2) (v := _) rfl (by kernel_rfl) (by kernel_rfl) (by kernel_rfl) (fun _ _ _ h => h) (Or.inl ⟨by rfl, ?yy3⟩) (by assumption) ?rr3
  case yy3 => intro w hSw; (try dsimp only at hSw); go_simp; (try with_reducible rfl)
  try simp only [Act.put, List.setIfInBounds_toArray, List.set_cons_zero, List.set_cons_succ]
  refine' takeL (i := 3) (v := _) rfl (by kernel_rfl) (by kernel_rfl) (by kernel_rfl) (fun _ _ _ h => h) (Or.inl ⟨by rfl, ?yy4⟩) (by assumption) ?rr4
  case yy4 => intro w hSw; (try dsimp only at hSw); go_simp; (try with_reducible rfl)
  try simp only [Act.put, List.setIfInBounds_toArray, List.set_cons_zero, List.set_cons_succ]
  refine' takeL (i := 4) (v := _) rfl (by kernel_rfl) (by kernel_rfl) (by kernel_rfl) (fun _ _ _ h => h) (Or.inl ⟨by rfl, ?yy5⟩) (by assumption) ?rr5
  case yy5 => intro w hSw; (try dsimp only at hSw); go_simp; (try with_reducible rfl)
  try simp only [Act.put, List.setIfInBounds_toArray, List.set_cons_zero, List.set_cons_succ]
  refine' takeL (i := 5) (v := .int .i64 d) rfl (by kernel_rfl) (by kernel_rfl) (by kernel_rfl) (fun _ _ _ h => h) (Or.inl ⟨by rfl, ?yy6⟩) (by assumption) ?rr6
  case yy6 => intro w hSw; (try dsimp only at hSw); have hc := hSw.1.ci (c := 8) (by omega); rw [HD.out] at hc; go_simp; (try with_reducible rfl)
  try simp only [Act.put, List.setIfInBounds_toArray, List.set_cons_zero, List.set_cons_succ]
  refine' takeL (i := 6) (v := _) rfl (by kernel_rfl) (by kernel_rfl) (by kernel_rfl) (fun _ _ _ h => h) (Or.inl ⟨by rfl, ?yy7⟩) (by assumption) ?rr7
  case yy7 => intro w hSw; (try dsimp only at hSw); go_simp; (try with_reducible rfl)
  try simp only [Act.put, List.setIfInBounds_toArray, List.set_cons_zero, List.set_cons_succ]
  refine' takeL (i := 7) (v := _) rfl (by kernel_rfl) (by kernel_rfl) (by kernel_rfl) (fun _ _ _ h => h) (Or.inl ⟨by rfl, ?yy8⟩) (by assumption) ?rr8
  case yy8 => intro w hSw; (try dsimp only at hSw); go_simp; (try with_reducible rfl)
  try simp only [Act.put, List.setIfInBounds_toArray, List.set_cons_zero, List.set_cons_succ]
  refine' takeL (i := 8) (v := _) rfl (by kernel_rfl) (by kernel_rfl) (by kernel_rfl) (fun _ _ _ h => h) (Or.inl ⟨by rfl, ?yy9⟩) (by assumption) ?rr9
  case yy9 => intro w hSw; (try dsimp only at hSw); go_simp; (try with_reducible rfl)
  try simp only [Act.put, List.setIfInBounds_toArray, List.set_cons_zero, List.set_cons_succ]
  refine' takeL (i := 9) (v := _) rfl (by kernel_rfl) (by kernel_rfl) (by kernel_rfl) (fun _ _ _ h => h) (Or.inl ⟨by rfl, ?yy10⟩) (by assumption) ?rr10
  case yy10 => intro w hSw; (try dsimp only at hSw); go_simp; (try with_reducible rfl)
  try simp only [Act.put, List.setIfInBounds_toArray, List.set_cons_zero, List.set_cons_succ]
  refine' takeL (i := 10) (v := .int .i64 (n0 : Int)) rfl (by kernel_rfl) (by kernel_rfl) (by kernel_rfl) (fun _ _ _ h => h) (Or.inl ⟨by rfl, ?yy11⟩) (by assumption) ?rr11
  case yy11 => intro w hSw; (try dsimp only at hSw); have hc := hSw.1.ci (c := 7) (by omega); rw [HN0.out] at hc; go_simp; (try with_reducible rfl)
  try simp only [Act.put, List.setIfInBounds_toArray, List.set_cons_zero, List.set_cons_succ]
  refine' takeL (i := 11) (v := _) rfl (by kernel_rfl) (by kernel_rfl) (by kernel_rfl) (fun _ _ _ h => h) (Or.inl ⟨by rfl, ?yy12⟩) (by assumption) ?rr12
  case yy12 => intro w hSw; (try dsimp only at hSw); go_simp; (try with_reducible rfl)
  try simp only [Act.put, List.setIfInBounds_toArray, List.set_cons_zero, List.set_cons_succ]
  refine' takeL (i := 12) (v := _) rfl (by kernel_rfl) (by kernel_rfl) (by kernel_rfl) (fun _ _ _ h => h) (Or.inl ⟨by rfl, ?yy13⟩) (by assumption) ?rr13
  case yy13 => intro w hSw; (try dsimp only at hSw); go_simp; (try with_reducible rfl)
  try simp only [Act.put, List.setIfInBounds_toArray, List.set_cons_zero, List.set_cons_succ]
  refine' takeL (i := 13) (v := _) rfl (by kernel_rfl) (by kernel_rfl) (by kernel_rfl) (fun _ _ _ h => h) (Or.inl ⟨by rfl, ?yy14⟩) (by assumption) ?rr14
  case yy14 => intro w hSw; (try dsimp only at hSw); go_simp; (try with_reducible rfl)
  try simp only [Act.put, List.setIfInBounds_toArray, List.set_cons_zero, List.set_cons_succ]
  refine' takeL (i := 14) (v := _) rfl (by kernel_rfl) (by kernel_rfl) (by kernel_rfl) (fun _ _ _ h => h) (Or.inl ⟨by rfl, ?yy15⟩) (by assumption) ?rr15
  case yy15 => intro w hSw; (try dsimp only at hSw); go_simp; (try with_reducible rfl)
  try simp only [Act.put, List.setIfInBounds_toArray, List.set_cons_zero, List.set_cons_succ]
  refine' takeL (i := 15) (v := .int .i64 (n1 : Int)) rfl (by kernel_rfl) (by kernel_rfl) (by kernel_rfl) (fun _ _ _ h => h) (Or.inl ⟨by rfl, ?yy16⟩) (by assumption) ?rr16
  case yy16 => intro w hSw; (try dsimp only at hSw); have hc := hSw.1.ci (c := 4) (by omega); rw [HN1.out] at hc; go_simp; (try with_reducible rfl)
  try simp only [Act.put, List.setIfInBounds_toArray, List.set_cons_zero, List.set_cons_succ]
  refine wpAnyH_ready (rs := [16]) (by kernel_rfl) (by simp) ?_
  refine consL rfl (fun K hK => ?_) AllReadyH.nil
  go_simp
  refine hK.out _ _ ?_ (fun hHeld => ?_)
  · exact ⟨hHeld.1.alloc _, hHeld.2.alloc _⟩
  clear hK K
  try simp only [Act.put, List.setIfInBounds_toArray, List.set_cons_zero, List.set_cons_succ]
  have hcell : ∀ i, i < [n0, n1].length → ((w.alloc (.cells #[.int .i64 (n0 : Int), .int .i64 (n1 : Int)] 3)).drew).cell? ⟨w.heap.size, i, none⟩ = some (.int .i64 (([n0, n1].getD i 0 : Nat) : Int)) := by
    intro i hi
    rw [cell_blk (show ((w.alloc (.cells #[.int .i64 (n0 : Int), .int .i64 (n1 : Int)] 3)).drew).heap[w.heap.size]? = _ from heap_alloc_new w _) i]
    match i, hi with
    | 0, _ => rfl
    | 1, _ => rfl
  have hmem : ∀ n ∈ [n0, n1], n < 16 := by intro n hn; simp at hn; omega
  refine wpAnyH_ready (rs := [17]) (by kernel_rfl) (by simp) ?_
  refine consL rfl (fun K hK => ?_) AllReadyH.nil
  go_simp
  go_at_call 64
  refine (address_c g w.heap.size d [n0, n1] 2 is os rs ps s ov _ hHeld.1 RO.out hd hd' (by simp) hmem hcell).mono ?_
  rintro e w5 ⟨rfl, hw5⟩
  subst hw5
  go_wp2_with fail
  refine hK.out _ _ ?_ (fun hHeld => ?_)
  · (try dsimp only); exact hHeld
  clear hK K
  try simp only [Act.put, List.setIfInBounds_toArray, List.set_cons_zero, List.set_cons_succ]
  refine' takeL (i := 18) (v := _) rfl (by kernel_rfl) (by kernel_rfl) (by kernel_rfl) (fun _ _ _ h => h) (Or.inl ⟨by rfl, ?yy17⟩) (by assumption) ?rr17
  case yy17 => intro w hSw; (try dsimp only at hSw); go_simp; (try with_reducible rfl)
  try simp only [Act.put, List.setIfInBounds_toArray, List.set_cons_zero, List.set_cons_succ]
  refine wpAnyH_done (by kernel_rfl) ?_ _
  go_wp2
  go_ret
  exact ⟨by rfl, hHeld.2⟩
set_option maxRecDepth 1000000 in
set_option maxHeartbeats 4000000 in
theorem first_c (g n0 : Nat) (d : Int) (is os rs : List Int) (ps : List Value) (s : Value) (ov : Bool) (w : World) (hm : Mc w g is os rs ps s ov) (ro : ∀ z ∈ os, 0 ≤ z ∧ z ≤ 4294967295) (hd0 : is.getD 6 0 = d) (hd : 0 ≤ d) (hd' : d ≤ 4095) (hn0 : is.getD 5 0 = (n0 : Int)) (h160 : n0 < 16) : Calls Try.prog 71 #[.pointer (some ⟨g, 0, none⟩)] w fun e w' => e = .returned (.int .i64 ((d + sumB os [n0]) % 16777216)) ∧ Ch w w' [] := by
  have HM := Lib.hid hm
  have RO := Lib.hid ro
  have HD := Lib.hid hd0
  have HN0 := Lib.hid hn0
  clear hm ro hd0 hn0
  go_enter Try.func71, Try.ntmps71
  go_upto_region 1 with fail
  refine wp_region_held_drew (S := (fun w' => Mc w' g is os rs ps s ov ∧ Ch w w' [])) (by kernel_rfl) ?_ (fun hHeld => ?_)
  · (try dsimp only); exact ⟨HM.out.drewN 1, (Ch.refl _ _).drewN 1⟩
  refine' takeL (i := 0) (v := _) rfl (by kernel_rfl) (by kernel_rfl) (by kernel_rfl) (fun _ _ _ h => h) (Or.inl ⟨by rfl, ?yy18⟩) (by assumption) ?rr18
  case yy18 => intro w hSw; (try dsimp only at hSw); go_simp; (try with_reducible rfl)
  try simp only [Act.put, List.setIfInBounds_toArray, List.set_cons_zero, List.set_cons_succ]
  refine' takeL (i := 1) (v := _) rfl (by kernel_rfl) (by kernel_rfl) (by kernel_rfl) (fun _ _ _ h => h) (Or.inl ⟨by rfl, ?yy19⟩) (by assumption) ?rr19
  case yy19 => intro w hSw; (try dsimp only at hSw); go_simp; (try with_reducible rfl)
  try simp only [Act.put, List.setIfInBounds_toArray, List.set_cons_zero, List.set_cons_succ]
  refine' takeL (i := 2) (v := _) rfl (by kernel_rfl) (by kernel_rfl) (by kernel_rfl) (fun _ _ _ h => h) (Or.inl ⟨by rfl, ?yy20⟩) (by assumption) ?rr20
  case yy20 => intro w hSw; (try dsimp only at hSw); go_simp; (try with_reducible rfl)
  try simp only [Act.put, List.setIfInBounds_toArray, List.set_cons_zero, List.set_cons_succ]
  refine' takeL (i := 3) (v := _) rfl (by kernel_rfl) (by kernel_rfl) (by kernel_rfl) (fun _ _ _ h => h) (Or.inl ⟨by rfl, ?yy21⟩) (by assumption) ?rr21
  case yy21 => intro w hSw; (try dsimp only at hSw); go_simp; (try with_reducible rfl)
  try simp only [Act.put, List.setIfInBounds_toArray, List.set_cons_zero, List.set_cons_succ]
  refine' takeL (i := 4) (v := _) rfl (by kernel_rfl) (by kernel_rfl) (by kernel_rfl) (fun _ _ _ h => h) (Or.inl ⟨by rfl, ?yy22⟩) (by assumption) ?rr22
  case yy22 => intro w hSw; (try dsimp only at hSw); go_simp; (try with_reducible rfl)
  try simp only [Act.put, List.setIfInBounds_toArray, List.set_cons_zero, List.set_cons_succ]
  refine' takeL (i := 5) (v := .int .i64 d) rfl (by kernel_rfl) (by kernel_rfl) (by kernel_rfl) (fun _ _ _ h => h) (Or.inl ⟨by rfl, ?yy23⟩) (by assumption) ?rr23
  case yy23 => intro w hSw; (try dsimp only at hSw); have hc := hSw.1.ci (c := 6) (by omega); rw [HD.out] at hc; go_simp; (try with_reducible rfl)
  try simp only [Act.put, List.setIfInBounds_toArray, List.set_cons_zero, List.set_cons_succ]
  refine' takeL (i := 6) (v := _) rfl (by kernel_rfl) (by kernel_rfl) (by kernel_rfl) (fun _ _ _ h => h) (Or.inl ⟨by rfl, ?yy24⟩) (by assumption) ?rr24
  case yy24 => intro w hSw; (try dsimp only at hSw); go_simp; (try with_reducible rfl)
  try simp only [Act.put, List.setIfInBounds_toArray, List.set_cons_zero, List.set_cons_succ]
  refine' takeL (i := 7) (v := _) rfl (by kernel_rfl) (by kernel_rfl) (by kernel_rfl) (fun _ _ _ h => h) (Or.inl ⟨by rfl, ?yy25⟩) (by assumption) ?rr25
  case yy25 => intro w hSw; (try dsimp only at hSw); go_simp; (try with_reducible rfl)
  try simp only [Act.put, List.setIfInBounds_toArray, List.set_cons_zero, List.set_cons_succ]
  refine' takeL (i := 8) (v := _) rfl (by kernel_rfl) (by kernel_rfl) (by kernel_rfl) (fun _ _ _ h => h) (Or.inl ⟨by rfl, ?yy26⟩) (by assumption) ?rr26
  case yy26 => intro w hSw; (try dsimp only at hSw); go_simp; (try with_reducible rfl)
  try simp only [Act.put, List.setIfInBounds_toArray, List.set_cons_zero, List.set_cons_succ]
  refine' takeL (i := 9) (v := _) rfl (by kernel_rfl) (by kernel_rfl) (by kernel_rfl) (fun _ _ _ h => h) (Or.inl ⟨by rfl, ?yy27⟩) (by assumption) ?rr27
  case yy27 => intro w hSw; (try dsimp only at hSw); go_simp; (try with_reducible rfl)
  try simp only [Act.put, List.setIfInBounds_toArray, List.set_cons_zero, List.set_cons_succ]
  refine' takeL (i := 10) (v := .int .i64 (n0 : Int)) rfl (by kernel_rfl) (by kernel_rfl) (by kernel_rfl) (fun _ _ _ h => h) (Or.inl ⟨by rfl, ?yy28⟩) (by assumption) ?rr28
  case yy28 => intro w hSw; (try dsimp only at hSw); have hc := hSw.1.ci (c := 5) (by omega); rw [HN0.out] at hc; go_simp; (try with_reducible rfl)
  try simp only [Act.put, List.setIfInBounds_toArray, List.set_cons_zero, List.set_cons_succ]
  refine wpAnyH_ready (rs := [11]) (by kernel_rfl) (by simp) ?_
  refine consL rfl (fun K hK => ?_) AllReadyH.nil
  go_simp
  refine hK.out _ _ ?_ (fun hHeld => ?_)
  · exact ⟨hHeld.1.alloc _, hHeld.2.alloc _⟩
  clear hK K
  try simp only [Act.put, List.setIfInBounds_toArray, List.set_cons_zero, List.set_cons_succ]
  have hcell : ∀ i, i < [n0].length → ((w.alloc (.cells #[.int .i64 (n0 : Int)] 3)).drew).cell? ⟨w.heap.size, i, none⟩ = some (.int .i64 (([n0].getD i 0 : Nat) : Int)) := by
    intro i hi
    rw [cell_blk (show ((w.alloc (.cells #[.int .i64 (n0 : Int)] 3)).drew).heap[w.heap.size]? = _ from heap_alloc_new w _) i]
    match i, hi with
    | 0, _ => rfl
  have hmem : ∀ n ∈ [n0], n < 16 := by intro n hn; simp at hn; omega
  refine wpAnyH_ready (rs := [12]) (by kernel_rfl) (by simp) ?_
  refine consL rfl (fun K hK => ?_) AllReadyH.nil
  go_simp
  go_at_call 64
  refine (address_c g w.heap.size d [n0] 1 is os rs ps s ov _ hHeld.1 RO.out hd hd' (by simp) hmem hcell).mono ?_
  rintro e w5 ⟨rfl, hw5⟩
  subst hw5
  go_wp2_with fail
  refine hK.out _ _ ?_ (fun hHeld => ?_)
  · (try dsimp only); exact hHeld
  clear hK K
  try simp only [Act.put, List.setIfInBounds_toArray, List.set_cons_zero, List.set_cons_succ]
  refine' takeL (i := 13) (v := _) rfl (by kernel_rfl) (by kernel_rfl) (by kernel_rfl) (fun _ _ _ h => h) (Or.inl ⟨by rfl, ?yy29⟩) (by assumption) ?rr29
  case yy29 => intro w hSw; (try dsimp only at hSw); go_simp; (try with_reducible rfl)
  try simp only [Act.put, List.setIfInBounds_toArray, List.set_cons_zero, List.set_cons_succ]
  refine wpAnyH_done (by kernel_rfl) ?_ _
  go_wp2
  go_ret
  exact ⟨by rfl, hHeld.2⟩
end Go.Proofs.Ythjdjbipfdigeaa
