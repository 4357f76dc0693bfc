/- CONTRACTS of package store and its reference: New. No conditions but that the storage reads as one. -/
import Derived.Test.YthjdjbipfdigeaaSt2
import Derived.RegionTactic
import Derived.BigRegion
import Derived.Lib.Hide
import Derived.Outline
import Derived.Handy
import Derived.BigQuiet
import Derived.Deep.QuietTactic
namespace Go.Proofs.Ythjdjbipfdigeaa
open Go.RowKit
set_option maxRecDepth 100000
set_option linter.unusedVariables false
set_option linter.unusedSimpArgs false

/-- a size that New takes -/
def nOk (size : Int) : Bool := decide (2048 ≤ size ∧ size ≤ 65536 ∧ size % 2048 = 0)
theorem nOk_yes {size : Int} (h : nOk size = true) : 2048 ≤ size ∧ size ≤ 65536 ∧ size % 2048 = 0 := by simpa [nOk] using h
theorem nOk_no {size : Int} (h : nOk size = false) : ¬ (2048 ≤ size ∧ size ≤ 65536 ∧ size % 2048 = 0) := by unfold nOk at h; exact of_decide_eq_false h
theorem Rw.zerosB (w : World) (k : Nat) (hk : k ≤ maxLen) : Rw (w.alloc (.cells (zeroB k) 5)) w.heap.size 5 k ((List.replicate k (0 : Int)).map (Value.int .u8)) := by
  have h := Rw.new w (zeroB k) 5 ((List.replicate k (0 : Int)).map (Value.int .u8)) (by simp [zeroB]) (by simpa using hk)
  simpa using h
theorem Rw.zerosI (w : World) (k : Nat) (hk : k ≤ maxLen) : Rw (w.alloc (.cells (zeroI k) 3)) w.heap.size 3 k ((List.replicate k (0 : Int)).map (Value.int .i64)) := by
  have h := Rw.new w (zeroI k) 3 ((List.replicate k (0 : Int)).map (Value.int .i64)) (by simp [zeroI]) (by simpa using hk)
  simpa using h
theorem Rw.alloc {w : World} {g c : Nat} {e : TypeId} {vs : List Value} (h : Rw w g e c vs) (o : Obj) : Rw (w.alloc o) g e c vs := h.keep (Below.heap_alloc w o _ h.lt)
theorem Rw.belowS {w w' : World} {g c : Nat} {e : TypeId} {vs : List Value} (h : Rw w g e c vs) (hb : Below w.heap.size w w') : Rw w' g e c vs := h.keep (hb.block _ h.lt)
/-- the struct laid round its rows -/
theorem St.make {T : TypeId} {w : World} {gb gk cb ck : Nat} {bs ks : List Int} (hb : Rw w gb 5 cb (bs.map (Value.int .u8))) (hk : Rw w gk 3 ck (ks.map (Value.int .i64))) (rb : ∀ z ∈ bs, 0 ≤ z ∧ z ≤ 255) (rk : ∀ z ∈ ks, 0 ≤ z ∧ z ≤ 31) (ln : bs.length = 2048 * ks.length) (l0 : 1 ≤ ks.length) (l1 : ks.length ≤ 32)
    (N m : Nat) (hN : bs.length = N) (hm : ks.length = m) :
    St T (w.alloc (.cells #[.slice (some ⟨gb, 0, none⟩) N cb, .slice (some ⟨gk, 0, none⟩) m ck] T)) ⟨w.heap.size, gb, gk, cb, ck⟩ bs ks :=
  ⟨by subst hN hm; exact heap_alloc_new w _, hb.alloc _, hk.alloc _, rb, rk, ln, l0, l1⟩
/-- zeros -/
def z0 (k : Nat) : List Int := List.replicate k 0
theorem z0_len (k : Nat) : (z0 k).length = k := by simp [z0]
theorem z0_mem {k : Nat} {z : Int} (h : z ∈ z0 k) : z = 0 := List.eq_of_mem_replicate h
theorem new_st1 (T : TypeId) (w : World) (N m : Nat) (h : 2048 * m = N) (h1 : 1 ≤ m) (h2 : m ≤ 32) :
    St T (((w.alloc (.cells (zeroB N) 5)).alloc (.cells (zeroI m) 3)).alloc (.cells #[.slice (some ⟨w.heap.size, 0, none⟩) N N, .slice (some ⟨w.heap.size + 1, 0, none⟩) m m] T)) ⟨w.heap.size + 1 + 1, w.heap.size, w.heap.size + 1, N, m⟩ (z0 N) (z0 m) := by
  have hk := Rw.zerosI (w.alloc (.cells (zeroB N) 5)) m (by unfold maxLen; omega)
  have hb := (Rw.zerosB w N (by unfold maxLen; omega)).alloc (.cells (zeroI m) 3)
  rw [World.size_alloc] at hk
  have h3 := St.make (T := T) (bs := z0 N) (ks := z0 m) hb hk (fun z hz => by rw [z0_mem hz]; omega) (fun z hz => by rw [z0_mem hz]; omega) (by rw [z0_len, z0_len]; omega) (by rw [z0_len]; exact h1) (by rw [z0_len]; exact h2) N m (z0_len _) (z0_len _)
  simp only [World.size_alloc] at h3
  exact h3
theorem new_st2 (T : TypeId) (w : World) (N m : Nat) (h : 2048 * m = N) (h1 : 1 ≤ m) (h2 : m ≤ 32) :
    St T (((w.alloc (.cells (zeroI m) 3)).alloc (.cells (zeroB N) 5)).alloc (.cells #[.slice (some ⟨w.heap.size + 1, 0, none⟩) N N, .slice (some ⟨w.heap.size, 0, none⟩) m m] T)) ⟨w.heap.size + 1 + 1, w.heap.size + 1, w.heap.size, N, m⟩ (z0 N) (z0 m) := by
  have hb := Rw.zerosB (w.alloc (.cells (zeroI m) 3)) N (by unfold maxLen; omega)
  have hk := (Rw.zerosI w m (by unfold maxLen; omega)).alloc (.cells (zeroB N) 5)
  rw [World.size_alloc] at hb
  have h3 := St.make (T := T) (bs := z0 N) (ks := z0 m) hb hk (fun z hz => by rw [z0_mem hz]; omega) (fun z hz => by rw [z0_mem hz]; omega) (by rw [z0_len, z0_len]; omega) (by rw [z0_len]; exact h1) (by rw [z0_len]; exact h2) N m (z0_len _) (z0_len _)
  simp only [World.size_alloc] at h3
  exact h3
theorem below3 (w : World) (a b c : Obj) : Below w.heap.size w ((((w.alloc a).alloc b).alloc c).drew) := dBelow ((((Below.refl w.heap.size w).alloc (Nat.le_refl _) _).alloc (by simp) _).alloc (by simp; omega) _) 1
/-- a storage that is new: pointer value v -/
def NewSt (T : TypeId) (w : World) (bs ks : List Int) (v : Value) (w' : World) : Prop := ∃ F : Foot, v = .pointer (some ⟨F.g, 0, none⟩) ∧ St T w' F bs ks ∧ Below w.heap.size w w' ∧ w.heap.size ≤ F.g ∧ w.heap.size ≤ F.gb ∧ w.heap.size ≤ F.gk

theorem new_no (size : Int) (w : World) (h : nOk size = false) : Calls Try.prog 15 #[.int .i64 size] w fun e w' => e = .returned (.tuple #[.pointer none, .int .i64 1]) ∧ w = w' := by
  have hn := nOk_no h
  clear h
  by_cases h1 : size < 2048
  · clear hn
    go_enter Try.func15, Try.ntmps15
    go_wp2
    go_ret2
    exact ⟨rfl, rfl⟩
  by_cases h2 : 65536 < size
  · clear hn
    go_enter Try.func15, Try.ntmps15
    go_wp2
    go_ret2
    exact ⟨rfl, rfl⟩
  have h3 : (size % 2048 != 0) = true := by rw [bne_iff_ne]; omega
  have h4 : 2048 ≤ size := by omega
  have h5 : size ≤ 65536 := by omega
  clear hn h1 h2
  go_enter Try.func15, Try.ntmps15
  go_wp2
  go_ret2
  exact ⟨rfl, rfl⟩
def newPost (m : Nat) (w : World) (e : Ending) (w' : World) : Prop := ∃ v, e = .returned (.tuple #[v, .int .i64 0]) ∧ NewSt 71 w (z0 (2048 * m)) (z0 m) v w'
set_option maxHeartbeats 2000000 in
theorem new_yes (m : Nat) (h1 : 1 ≤ m) (h2 : m ≤ 32) (w : World) : Calls Try.prog 15 #[.int .i64 ((2048 * m : Nat) : Int)] w (newPost m w) := by
  obtain ⟨N, hN⟩ : ∃ N, 2048 * m = N := ⟨_, rfl⟩
  rw [hN]
  have a1 : (2048 : Int) ≤ (N : Int) := by omega
  have a2 : (N : Int) ≤ 65536 := by omega
  have a3 : ((N : Int) % 2048 != 0) = false := by rw [bne_eq_false_iff_eq]; omega
  have hmk := fun W => run_mk_b N (by omega) W
  have hmi := fun W => run_mk_i m (by omega) W
  have d1 : (N : Int).tdiv 2048 = (m : Int) := by rw [Int.tdiv_eq_ediv_of_nonneg (by omega)]; omega
  have d2 : (N : Int) / 2048 = (m : Int) := by omega
  have d3 : IntKind.i64.wrap (m : Int) = (m : Int) := by rw [IntKind.wrap_i64]; omega
  have HN := Lib.hid hN
  have M1 := Lib.hid h1
  have M2 := Lib.hid h2
  clear hN h1 h2
  go_enter Try.func15, Try.ntmps15
  go_wp2
  go_region
  skip
  all_goals
    go_wp2
    go_ret2
    first
      | exact ⟨_, rfl, ⟨_, _, _, _, _⟩, rfl, by rw [HN.out]; exact (new_st1 _ w N m HN.out M1.out M2.out).drewN 1, below3 _ _ _ _, by simp; omega, by simp, by simp⟩
      | exact ⟨_, rfl, ⟨_, _, _, _, _⟩, rfl, by rw [HN.out]; exact (new_st2 _ w N m HN.out M1.out M2.out).drewN 1, below3 _ _ _ _, by simp; omega, by simp, by simp⟩

theorem rnew_no (size : Int) (w : World) (h : nOk size = false) : Calls Try.prog 35 #[.int .i64 size] w fun e w' => e = .returned (.pointer none) ∧ w = w' := by
  have hn := nOk_no h
  clear h
  by_cases h1 : size < 2048
  · clear hn
    go_enter Try.func35, Try.ntmps35
    go_wp2
    go_ret
    exact ⟨rfl, rfl⟩
  by_cases h2 : 65536 < size
  · clear hn
    go_enter Try.func35, Try.ntmps35
    go_wp2
    go_ret
    exact ⟨rfl, rfl⟩
  have h3 : (size % 2048 != 0) = true := by rw [bne_iff_ne]; omega
  have h4 : 2048 ≤ size := by omega
  have h5 : size ≤ 65536 := by omega
  clear hn h1 h2
  go_enter Try.func35, Try.ntmps35
  go_wp2
  go_ret
  exact ⟨rfl, rfl⟩
def rnewPost (m : Nat) (w : World) (e : Ending) (w' : World) : Prop := ∃ v, e = .returned (v) ∧ NewSt 93 w (z0 (2048 * m)) (z0 m) v w'
set_option maxHeartbeats 2000000 in
theorem rnew_yes (m : Nat) (h1 : 1 ≤ m) (h2 : m ≤ 32) (w : World) : Calls Try.prog 35 #[.int .i64 ((2048 * m : Nat) : Int)] w (rnewPost m w) := by
  obtain ⟨N, hN⟩ : ∃ N, 2048 * m = N := ⟨_, rfl⟩
  rw [hN]
  have a1 : (2048 : Int) ≤ (N : Int) := by omega
  have a2 : (N : Int) ≤ 65536 := by omega
  have a3 : ((N : Int) % 2048 != 0) = false := by rw [bne_eq_false_iff_eq]; omega
  have hmk := fun W => run_mk_b N (by omega) W
  have hmi := fun W => run_mk_i m (by omega) W
  have d1 : (N : Int).tdiv 2048 = (m : Int) := by rw [Int.tdiv_eq_ediv_of_nonneg (by omega)]; omega
  have d2 : (N : Int) / 2048 = (m : Int) := by omega
  have d3 : IntKind.i64.wrap (m : Int) = (m : Int) := by rw [IntKind.wrap_i64]; omega
  have HN := Lib.hid hN
  have M1 := Lib.hid h1
  have M2 := Lib.hid h2
  clear hN h1 h2
  go_enter Try.func35, Try.ntmps35
  go_wp2
  go_region
  skip
  all_goals
    go_wp2
    go_ret
    first
      | exact ⟨_, rfl, ⟨_, _, _, _, _⟩, rfl, by rw [HN.out]; exact (new_st1 _ w N m HN.out M1.out M2.out).drewN 1, below3 _ _ _ _, by simp; omega, by simp, by simp⟩
      | exact ⟨_, rfl, ⟨_, _, _, _, _⟩, rfl, by rw [HN.out]; exact (new_st2 _ w N m HN.out M1.out M2.out).drewN 1, below3 _ _ _ _, by simp; omega, by simp, by simp⟩

end Go.Proofs.Ythjdjbipfdigeaa
