/- CONTRACTS of package jobshoplaw07: Size, Make, bytes, Alike. No conditions but that the storage reads as one. -/
import Derived.Test.YtcollddpfahaaaaSt9
import Derived.Laws.BytesArg
import Derived.Laws.Strings
import Derived.Lib.Hide
import Derived.Outline
import Derived.Handy
import Derived.BigQuiet
import Derived.Deep.QuietTactic
namespace Go.Proofs.Ytcollddpfahaaaa
open Go.RowKit
set_option linter.unusedVariables false
set_option linter.unusedSimpArgs false

/-- string(b) -/
theorem conv_byt {w : World} {A : Option Addr} {len : Nat} {zs : List Int} (h : Byt w A len zs) (c : Nat) : (convert 29 9 (.slice A len c)).run Try.prog w = .ok (.string (strOfNums zs)) w := by
  rcases Nat.eq_zero_or_pos len with rfl | h0
  · obtain rfl : zs = [] := List.eq_nil_of_length_eq_zero h.1
    rcases A with _ | a
    · exact run_convert_bytes_nil w 29 5 Try.underlying29 Try.underlying5 0 c _ Try.underlying9
    · rw [run_convert_bytes_string w 29 9 5 _ 0 c Try.underlying29 Try.underlying5 Try.underlying9]
      have hl : (loadCells a 0).run Try.prog w = .ok (([] : List Int).map (Value.int .u8)).toArray w := by simpa using run_loadCells_list (P := Try.prog) w a [] (by simp)
      rw [run_bytesToString w a 0 c [] hl]
      rfl
  · obtain ⟨b, off, rfl, hc⟩ := h.2.2 h0
    exact run_convert_bytes_arg w 29 5 Try.underlying29 Try.underlying5 b off len c zs h.1 hc _ Try.underlying9
/-- the bytes of a storage, as the slice in its struct -/
theorem St.bytAll {T : TypeId} {w : World} {F : Foot} {bs ks : List Int} (h : St T w F bs ks) : Byt w (some ⟨F.gb, 0, none⟩) bs.length bs := by
  have := h.byt (a := 0) (n := bs.length) (by omega)
  rwa [List.drop_zero, List.take_length] at this
/-- blocks of Size -/
def sBlk (n : Int) : Nat := (1 + n % 4).toNat
theorem sBlk_lo (n : Int) : 1 ≤ sBlk n := by unfold sBlk; omega
theorem sBlk_hi (n : Int) : sBlk n ≤ 4 := by unfold sBlk; omega
theorem lsize_c (n : Int) (h0 : 0 ≤ n) (h1 : n ≤ 255) (w : World) : Calls Try.prog 12 #[.int .u8 n] w fun e w' => e = .returned (.int .i64 ((2048 * sBlk n : Nat) : Int)) ∧ w = w' := by
  have hr := Lib.hid (show (1 + n % 4) * 2048 = ((2048 * sBlk n : Nat) : Int) from by unfold sBlk; omega)
  go_enter Try.func12, Try.ntmps12
  go_wp2
  go_ret
  exact ⟨by rw [← hr.out]; rfl, rfl⟩
def makePost (n : Int) (w : World) (e : Ending) (w' : World) : Prop := ∃ F : Foot, e = .returned (.pointer (some ⟨F.g, 0, none⟩)) ∧ St 66 w' F (z0 (2048 * sBlk n)) (z0 (sBlk n)) ∧ Below w.heap.size w w' ∧ w.heap.size ≤ F.g ∧ w.heap.size ≤ F.gb ∧ w.heap.size ≤ F.gk
theorem make_c (n : Int) (h0 : 0 ≤ n) (h1 : n ≤ 255) (w : World) : Calls Try.prog 10 #[.int .u8 n] w (makePost n w) := by
  go_enter Try.func10, Try.ntmps10
  go_wp2_with fail
  refine (lsize_c n h0 h1 _).mono ?_
  rintro e w1 ⟨rfl, rfl⟩
  go_wp2_with fail
  refine (new_yes (sBlk n) (sBlk_lo n) (by have := sBlk_hi n; omega) _).mono ?_
  rintro e w2 ⟨v, rfl, F, rfl, hs, hb, q1, q2, q3⟩
  have HS := Lib.hid hs
  have HB := Lib.hid hb
  clear hs hb
  go_wp2_with fail
  go_ret
  exact ⟨F, rfl, HS.out, HB.out, q1, q2, q3⟩

theorem wpAnyH_mono {P : Program} {ops : Array Oper} {Q : Exit → Act → World → Prop} {md : Region.Mode} {S S' : World → Prop} (hs : ∀ w, S' w → S w) : ∀ (fuel : Nat) (l : Array Bool) (a : Act) (w : World), wpAnyH P md ops Q S' fuel l a w → wpAnyH P md ops Q S fuel l a w
  | 0, _, _, _, h => h
  | fuel + 1, _, _, _, h => ⟨h.1, fun i hi => wpOp_mono (fun a' w' h' => ⟨hs _ h'.1, wpAnyH_mono hs fuel _ a' w' h'.2⟩) (h.2 i hi)⟩
theorem wpAnyH_more {P : Program} {ops : Array Oper} {Q : Exit → Act → World → Prop} {md : Region.Mode} {S : World → Prop} (S' : World → Prop) {fuel : Nat} {l : Array Bool} {a : Act} {w : World} (h0 : S' w) (hs : ∀ w, S' w → S w) (h : S' w → wpAnyH P md ops Q S' fuel l a w) : wpAnyH P md ops Q S fuel l a w := wpAnyH_mono hs _ _ _ _ (h h0)
theorem takeL {P : Program} {L : List Oper} {Q : Exit → Act → World → Prop} {md : Region.Mode} {S : World → Prop} {i : Nat} {oi : Oper} {v : Value} {fuel : Nat} {listed : Array Bool} {a : Act} {w : World} (hi : L[i]? = some oi)
    (hs : Region.noSelect L.toArray = true) (hf : Region.free md L.toArray listed i = true) (hr : (Region.ready md L.toArray listed).contains i = true)
    (hQ : ∀ c a w, Q (.panic c) (a.put oi.dst v) w → Q (.panic c) a w) (hy : YieldsIf P L.toArray S oi v a) (hS : S w)
    (h : wpAnyH P md L.toArray Q S fuel (listed.setIfInBounds i true) (a.put oi.dst v) w) : wpAnyH P md L.toArray Q S (fuel + 1) listed a w := wpAnyH_take (by simpa using hi) hs hf hr hQ hy hS h
theorem consL {P : Program} {L : List Oper} {Q : Exit → Act → World → Prop} {md : Region.Mode} {S : World → Prop} {fuel : Nat} {listed : Array Bool} {a : Act} {w : World} {i : Nat} {o : Oper} {rs : List Nat} (ho : L[i]? = some o)
    (h : ∀ K' : Act → World → Prop, Shut (∀ a w, S w → (S w → wpAnyH P md L.toArray Q S fuel (listed.setIfInBounds i true) a w) → K' a w) → if Region.wanted o (yielded L.toArray a.tmps) = true then Oper.wp P o a w K' Q else K' (a.put o.dst undef) w)
    (hs : AllReadyH P md L.toArray Q S fuel listed a w rs) : AllReadyH P md L.toArray Q S fuel listed a w (i :: rs) := AllReadyH.cons (by simpa using ho) h hs

/-- two storages alike -/
structure StP (T : TypeId) (w : World) (F : Foot) (bs ks : List Int) : Prop where
  out : St T w F bs ks
theorem keepA {T T' : TypeId} {w w' a0 : World} {F F' : Foot} {bs ks bs' ks' : List Int} {g g' B : Nat} {x y : Value} (h : w.cell? ⟨g, 0, none⟩ = some x ∧ w.cell? ⟨g', 0, none⟩ = some y ∧ StP T w F bs ks ∧ StP T' w F' bs' ks' ∧ Below B a0 w) (hb : Below w.heap.size w w') (hB : B ≤ a0.heap.size) :
    w'.cell? ⟨g, 0, none⟩ = some x ∧ w'.cell? ⟨g', 0, none⟩ = some y ∧ StP T w' F bs ks ∧ StP T' w' F' bs' ks' ∧ Below B a0 w' :=
  ⟨bcell_keep h.1 hb, bcell_keep h.2.1 hb, ⟨h.2.2.1.out.belowS hb⟩, ⟨h.2.2.2.1.out.belowS hb⟩, bbelow_keep h.2.2.2.2 hB hb⟩
set_option maxRecDepth 100000 in
set_option maxHeartbeats 4000000 in
theorem alike_c {F F' : Foot} {bs ks : List Int} (w : World) (h : St 66 w F bs ks) (h' : St 63 w F' bs ks) : Calls Try.prog 14 #[.pointer (some ⟨F.g, 0, none⟩), .pointer (some ⟨F'.g, 0, none⟩)] w fun e w' => e = .returned (.bool true) ∧ Below w.heap.size w w' := by
  obtain ⟨N, hN⟩ : ∃ N, bs.length = N := ⟨_, rfl⟩
  obtain ⟨m, hm⟩ : ∃ m, ks.length = m := ⟨_, rfl⟩
  have c0 : w.cell? ⟨F.g, 0, none⟩ = some (.slice (some ⟨F.gb, 0, none⟩) N F.cb) := by rw [← hN]; exact h.cell0
  have d0 : w.cell? ⟨F'.g, 0, none⟩ = some (.slice (some ⟨F'.gb, 0, none⟩) N F'.cb) := by rw [← hN]; exact h'.cell0
  have LN := Lib.hid (show N = 2048 * m from by rw [← hN, ← hm]; exact h.ln)
  have n1 : (N : Int) ≤ 65536 := by have := h.ln; have := h.l1; omega
  have m1 : (m : Int) ≤ 32 := by have := h.l1; omega
  have s0 : StP 66 w.drew F bs ks := ⟨h.drewN 1⟩
  have s1 : StP 63 w.drew F' bs ks := ⟨h'.drewN 1⟩
  have b0 : Below w.heap.size w w.drew := dBelow (Below.refl w.heap.size w) 1
  have k0 := conv_byt (s1.out.bytAll) F'.cb
  rw [hN] at k0
  have gt := Lib.hid (show sGet bs 0 (N : Int) = bs from by unfold sGet; rw [show sIn bs.length 0 (N : Int) = true from by simp [sIn]; omega, if_pos rfl]; simp [← hN])
  have e0 : ((N : Int) != (N : Int)) = false := by simp
  have HN := Lib.hid hN
  have HM := Lib.hid hm
  clear hN hm h h'
  go_enter Try.func14, Try.ntmps14
  go_wp2
  refine wp_region_held_drew (S := (fun w' => w'.cell? ⟨F.g, 0, none⟩ = some (.slice (some ⟨F.gb, 0, none⟩) N F.cb) ∧ w'.cell? ⟨F'.g, 0, none⟩ = some (.slice (some ⟨F'.gb, 0, none⟩) N F'.cb) ∧ StP 66 w' F bs ks ∧ StP 63 w' F' bs ks ∧ Below w.heap.size w w')) (by kernel_rfl) ?_ (fun hHeld => ?_)
  · (try dsimp only); (first | exact keepA (by assumption) (by assumption) (Nat.le_refl _) | exact ⟨c0, d0, s0, s1, b0⟩)
  refine' takeL (i := 0) (v := _) rfl (by kernel_rfl) (by kernel_rfl) (by kernel_rfl) (fun _ _ _ h => h) (Or.inl ⟨by rfl, ?yy1⟩) (by assumption) ?rr1
  case yy1 => intro w hSw; (try dsimp only at hSw); go_simp; (try with_reducible rfl)
  try simp only [Act.put, List.setIfInBounds_toArray, List.set_cons_zero, List.set_cons_succ]
  refine' takeL (i := 2) (v := _) rfl (by kernel_rfl) (by kernel_rfl) (by kernel_rfl) (fun _ _ _ h => h) (Or.inl ⟨by rfl, ?yy2⟩) (by assumption) ?rr2
  case yy2 => intro w hSw; (try dsimp only at hSw); go_simp; (try with_reducible rfl)
  try simp only [Act.put, List.setIfInBounds_toArray, List.set_cons_zero, List.set_cons_succ]
  refine' takeL (i := 3) (v := _) rfl (by kernel_rfl) (by kernel_rfl) (by kernel_rfl) (fun _ _ _ h => h) (Or.inl ⟨by rfl, ?yy3⟩) (by assumption) ?rr3
  case yy3 => intro w hSw; (try dsimp only at hSw); go_simp; (try with_reducible rfl)
  try simp only [Act.put, List.setIfInBounds_toArray, List.set_cons_zero, List.set_cons_succ]
  refine' takeL (i := 4) (v := _) rfl (by kernel_rfl) (by kernel_rfl) (by kernel_rfl) (fun _ _ _ h => h) (Or.inl ⟨by rfl, ?yy4⟩) (by assumption) ?rr4
  case yy4 => intro w hSw; (try dsimp only at hSw); go_simp; (try with_reducible rfl)
  try simp only [Act.put, List.setIfInBounds_toArray, List.set_cons_zero, List.set_cons_succ]
  refine' takeL (i := 5) (v := _) rfl (by kernel_rfl) (by kernel_rfl) (by kernel_rfl) (fun _ _ _ h => h) (Or.inl ⟨by rfl, ?yy5⟩) (by assumption) ?rr5
  case yy5 => intro w hSw; (try dsimp only at hSw); go_simp; (try with_reducible rfl)
  try simp only [Act.put, List.setIfInBounds_toArray, List.set_cons_zero, List.set_cons_succ]
  refine' takeL (i := 6) (v := _) rfl (by kernel_rfl) (by kernel_rfl) (by kernel_rfl) (fun _ _ _ h => h) (Or.inl ⟨by rfl, ?yy6⟩) (by assumption) ?rr6
  case yy6 => intro w hSw; (try dsimp only at hSw); go_simp; (try with_reducible rfl)
  try simp only [Act.put, List.setIfInBounds_toArray, List.set_cons_zero, List.set_cons_succ]
  refine wpAnyH_ready (rs := [1]) (by kernel_rfl) (by simp) ?_
  refine consL rfl (fun K hK => ?_) AllReadyH.nil
  go_simp
  go_at_call 19
  refine (size_c _ (hHeld.2.2.1.out)).mono ?_
  rintro e w1 ⟨rfl, rfl⟩
  rw [HN.out]
  go_wp2_with fail
  refine hK.out _ _ ?_ (fun hHeld => ?_)
  · (try dsimp only); exact hHeld
  clear hK K
  try simp only [Act.put, List.setIfInBounds_toArray, List.set_cons_zero, List.set_cons_succ]
  refine' takeL (i := 7) (v := _) rfl (by kernel_rfl) (by kernel_rfl) (by kernel_rfl) (fun _ _ _ h => h) (Or.inl ⟨by rfl, ?yy7⟩) (by assumption) ?rr7
  case yy7 => intro w hSw; (try dsimp only at hSw); go_simp; (try with_reducible rfl)
  try simp only [Act.put, List.setIfInBounds_toArray, List.set_cons_zero, List.set_cons_succ]
  refine' takeL (i := 8) (v := _) rfl (by kernel_rfl) (by kernel_rfl) (by kernel_rfl) (fun _ _ _ h => h) (Or.inl ⟨by rfl, ?yy8⟩) (by assumption) ?rr8
  case yy8 => intro w hSw; (try dsimp only at hSw); go_simp; (try with_reducible rfl)
  try simp only [Act.put, List.setIfInBounds_toArray, List.set_cons_zero, List.set_cons_succ]
  refine' takeL (i := 9) (v := _) rfl (by kernel_rfl) (by kernel_rfl) (by kernel_rfl) (fun _ _ _ h => h) (Or.inl ⟨by rfl, ?yy9⟩) (by assumption) ?rr9
  case yy9 => intro w hSw; (try dsimp only at hSw); go_simp; (try with_reducible rfl)
  try simp only [Act.put, List.setIfInBounds_toArray, List.set_cons_zero, List.set_cons_succ]
  refine' takeL (i := 10) (v := _) rfl (by kernel_rfl) (by kernel_rfl) (by kernel_rfl) (fun _ _ _ h => h) (Or.inl ⟨by rfl, ?yy10⟩) (by assumption) ?rr10
  case yy10 => intro w hSw; (try dsimp only at hSw); go_simp; (try with_reducible rfl)
  try simp only [Act.put, List.setIfInBounds_toArray, List.set_cons_zero, List.set_cons_succ]
  refine' takeL (i := 11) (v := _) rfl (by kernel_rfl) (by kernel_rfl) (by kernel_rfl) (fun _ _ _ h => h) (Or.inl ⟨by rfl, ?yy11⟩) (by assumption) ?rr11
  case yy11 => intro w hSw; (try dsimp only at hSw); go_simp; (try with_reducible rfl)
  try simp only [Act.put, List.setIfInBounds_toArray, List.set_cons_zero, List.set_cons_succ]
  refine' takeL (i := 12) (v := _) rfl (by kernel_rfl) (by kernel_rfl) (by kernel_rfl) (fun _ _ _ h => h) (Or.inl ⟨by rfl, ?yy12⟩) (by assumption) ?rr12
  case yy12 => intro w hSw; (try dsimp only at hSw); go_simp; (try with_reducible rfl)
  try simp only [Act.put, List.setIfInBounds_toArray, List.set_cons_zero, List.set_cons_succ]
  refine' takeL (i := 13) (v := _) rfl (by kernel_rfl) (by kernel_rfl) (by kernel_rfl) (fun _ _ _ h => h) (Or.inl ⟨by rfl, ?yy13⟩) (by assumption) ?rr13
  case yy13 => intro w hSw; (try dsimp only at hSw); go_simp; (try with_reducible rfl)
  try simp only [Act.put, List.setIfInBounds_toArray, List.set_cons_zero, List.set_cons_succ]
  refine' takeL (i := 14) (v := _) rfl (by kernel_rfl) (by kernel_rfl) (by kernel_rfl) (fun _ _ _ h => h) (Or.inl ⟨by rfl, ?yy14⟩) (by assumption) ?rr14
  case yy14 => intro w hSw; (try dsimp only at hSw); go_simp; (try with_reducible rfl)
  try simp only [Act.put, List.setIfInBounds_toArray, List.set_cons_zero, List.set_cons_succ]
  refine' takeL (i := 17) (v := _) rfl (by kernel_rfl) (by kernel_rfl) (by kernel_rfl) (fun _ _ _ h => h) (Or.inl ⟨by rfl, ?yy15⟩) (by assumption) ?rr15
  case yy15 => intro w hSw; (try dsimp only at hSw); go_simp; (try with_reducible rfl)
  try simp only [Act.put, List.setIfInBounds_toArray, List.set_cons_zero, List.set_cons_succ]
  refine' takeL (i := 18) (v := _) rfl (by kernel_rfl) (by kernel_rfl) (by kernel_rfl) (fun _ _ _ h => h) (Or.inl ⟨by rfl, ?yy16⟩) (by assumption) ?rr16
  case yy16 => intro w hSw; (try dsimp only at hSw); go_simp; (try with_reducible rfl)
  try simp only [Act.put, List.setIfInBounds_toArray, List.set_cons_zero, List.set_cons_succ]
  refine' takeL (i := 19) (v := _) rfl (by kernel_rfl) (by kernel_rfl) (by kernel_rfl) (fun _ _ _ h => h) (Or.inl ⟨by rfl, ?yy17⟩) (by assumption) ?rr17
  case yy17 => intro w hSw; (try dsimp only at hSw); go_simp; (try with_reducible rfl)
  try simp only [Act.put, List.setIfInBounds_toArray, List.set_cons_zero, List.set_cons_succ]
  refine' takeL (i := 20) (v := _) rfl (by kernel_rfl) (by kernel_rfl) (by kernel_rfl) (fun _ _ _ h => h) (Or.inl ⟨by rfl, ?yy18⟩) (by assumption) ?rr18
  case yy18 => intro w hSw; (try dsimp only at hSw); go_simp; (try with_reducible rfl)
  try simp only [Act.put, List.setIfInBounds_toArray, List.set_cons_zero, List.set_cons_succ]
  refine' takeL (i := 21) (v := _) rfl (by kernel_rfl) (by kernel_rfl) (by kernel_rfl) (fun _ _ _ h => h) (Or.inl ⟨by rfl, ?yy19⟩) (by assumption) ?rr19
  case yy19 => intro w hSw; (try dsimp only at hSw); have k := conv_byt hSw.2.2.2.1.out.bytAll F'.cb; rw [HN.out] at k; go_simp; (try with_reducible rfl)
  try simp only [Act.put, List.setIfInBounds_toArray, List.set_cons_zero, List.set_cons_succ]
  refine wpAnyH_ready (rs := [15]) (by kernel_rfl) (by simp) ?_
  refine consL rfl (fun K hK => ?_) AllReadyH.nil
  go_simp
  go_at_call 18
  refine (bytes_c _ hHeld.2.2.1.out _ _).mono ?_
  rintro e w1 ⟨A, q, cap, rfl, ho, hb⟩
  rw [gt.out] at ho
  have HO := Lib.hid ho
  have HBB := Lib.hid hb
  clear ho hb
  go_wp2_with fail
  refine hK.out _ _ ?_ (fun hHeld => ?_)
  · (try dsimp only); exact keepA hHeld HBB.out (by exact b0.size)
  clear hK K
  try simp only [Act.put, List.setIfInBounds_toArray, List.set_cons_zero, List.set_cons_succ]
  refine wpAnyH_more (fun w' => (w'.cell? ⟨F.g, 0, none⟩ = some (.slice (some ⟨F.gb, 0, none⟩) N F.cb) ∧ w'.cell? ⟨F'.g, 0, none⟩ = some (.slice (some ⟨F'.gb, 0, none⟩) N F'.cb) ∧ StP 66 w' F bs ks ∧ StP 63 w' F' bs ks ∧ Below w.heap.size w w') ∧ Byt w' A q bs) ⟨hHeld, HO.out.byt⟩ (fun _ h => h.1) (fun hHeld => ?_)
  refine' takeL (i := 16) (v := _) rfl (by kernel_rfl) (by kernel_rfl) (by kernel_rfl) (fun _ _ _ h => h) (Or.inl ⟨by rfl, ?yy20⟩) (by assumption) ?rr20
  case yy20 => intro w hSw; (try dsimp only at hSw); have k := conv_byt hSw.2 cap; go_simp; (try with_reducible rfl)
  try simp only [Act.put, List.setIfInBounds_toArray, List.set_cons_zero, List.set_cons_succ]
  refine' takeL (i := 22) (v := _) rfl (by kernel_rfl) (by kernel_rfl) (by kernel_rfl) (fun _ _ _ h => h) (Or.inl ⟨by rfl, ?yy21⟩) (by assumption) ?rr21
  case yy21 => intro w hSw; (try dsimp only at hSw); go_simp; (try with_reducible rfl)
  try simp only [Act.put, List.setIfInBounds_toArray, List.set_cons_zero, List.set_cons_succ]
  refine' takeL (i := 23) (v := _) rfl (by kernel_rfl) (by kernel_rfl) (by kernel_rfl) (fun _ _ _ h => h) (Or.inl ⟨by rfl, ?yy22⟩) (by assumption) ?rr22
  case yy22 => intro w hSw; (try dsimp only at hSw); go_simp; (try with_reducible rfl)
  try simp only [Act.put, List.setIfInBounds_toArray, List.set_cons_zero, List.set_cons_succ]
  refine wpAnyH_done (by kernel_rfl) ?_ _

  obtain ⟨⟨_, _, t0, t1, bb⟩, _⟩ := hHeld
  have T0 := Lib.hid t0.out
  have c1 := t1.out.cell1
  have T1 := Lib.hid t1.out
  have BB := Lib.hid bb
  rw [HM.out] at c1
  clear t0 t1 bb c0 d0 s0 s1 b0 k0
  go_wp2
  go_loop [5] (fun iv => ∃ x : Nat, x ≤ m ∧ iv = .int .i64 x) (fun iv => m - (intOf iv).toNat)
  case atStart => exact ⟨0, Nat.zero_le _, rfl⟩
  case round =>
    obtain ⟨x, x0, rfl⟩ := hrel
    by_cases hlt : (x : Int) < (m : Int)
    · have ck := T1.out.key (i := x) (by rw [HM.out]; omega)
      obtain ⟨kv, hk⟩ : ∃ kv, ks.getD x 0 = kv := ⟨_, rfl⟩
      rw [hk] at ck
      have at1 := Lib.hid (show sAt N ((x : Int) * 2048) = true from by unfold sAt; rw [decide_eq_true_iff]; have := LN.out; omega)
      have at2 := Lib.hid (show sKV N ks ((x : Int) * 2048) = kv from by unfold sKV; rw [at1.out, if_pos rfl, show ((x : Int) * 2048 / 2048).toNat = x from by omega, hk])
      clear hk
      have w1' : IntKind.i64.wrap ((x : Int) * 2048) = (x : Int) * 2048 := by rw [IntKind.wrap_i64]; omega
      have w2' : IntKind.i64.wrap ((x : Int) + 1) = (x : Int) + 1 := by rw [IntKind.wrap_i64]; omega
      have e1 : (kv != kv) = false := by simp
      go_wp2_with (first | (go_at_call 24; refine (keyof_c _ T0.out _).mono ?_; rintro e w2 ⟨rfl, rfl⟩; rw [HN.out, at1.out, at2.out]))
      exact ⟨⟨x + 1, by omega, rfl⟩, by show m - (x + 1) < m - x; omega⟩
    · go_wp2
      go_ret
      exact ⟨rfl, BB.out⟩

end Go.Proofs.Ytcollddpfahaaaa
