/- SMALL: a storage in memory (a struct of a slice of bytes and a slice of keys) as two lists; what package store computes, as functions on lists. No conditions. -/
import Derived.Test.YthjdjbipfdigeaaProg
import Derived.Test.YthjdjbipfdigeaaWdF
import Derived.Test.YthjdjbipfdigeaaBo
import Derived.Test.YthjdjbipfdigeaaSm
import Derived.Laws.CopyOwn
import Derived.Laws.MakeOwn
import Derived.Lib.Hide
namespace Go.Proofs.Ythjdjbipfdigeaa
open Go.RowKit
set_option maxRecDepth 100000
set_option linter.unusedVariables false

/-- is a range in a storage of N bytes? -/
def sIn (N : Nat) (addr n : Int) : Bool := decide (0 ≤ addr ∧ 0 ≤ n ∧ addr ≤ (N : Int) ∧ n ≤ (N : Int) - addr)
theorem sIn_yes {N : Nat} {addr n : Int} (h : sIn N addr n = true) : 0 ≤ addr ∧ 0 ≤ n ∧ addr ≤ (N : Int) ∧ n ≤ (N : Int) - addr := by simpa [sIn] using h
theorem sIn_no {N : Nat} {addr n : Int} (h : sIn N addr n = false) : ¬ (0 ≤ addr ∧ 0 ≤ n ∧ addr ≤ (N : Int) ∧ n ≤ (N : Int) - addr) := by unfold sIn at h; exact of_decide_eq_false h
/-- may a key store, fetch, in a block of key k? -/
def alP (key k : Int) : Bool := decide (key = 0 ∨ key = k / 2)
def alF (key k : Int) : Bool := decide (key = 0 ∨ key = k / 2 ∨ k % 2 = 0)
/-- may every byte of a range be touched? -/
def okB (al : Int → Bool) (ks : List Int) (a n : Nat) : Bool := (List.range n).all fun j => al (ks.getD ((a + j) / 2048) 0)
/-- the code of an access -/
def sCode (al : Int → Bool) (N : Nat) (ks : List Int) (addr n : Int) : Int := if sIn N addr n = true then (if okB al ks addr.toNat n.toNat = true then 0 else 4) else 5
/-- the bytes of a range -/
def sGet (bs : List Int) (addr n : Int) : List Int := if sIn bs.length addr n = true then (bs.drop addr.toNat).take n.toNat else []
/-- is an address in the storage? -/
def sAt (N : Nat) (addr : Int) : Bool := decide (0 ≤ addr ∧ addr < (N : Int))
theorem sAt_yes {N : Nat} {addr : Int} (h : sAt N addr = true) : 0 ≤ addr ∧ addr < (N : Int) := by simpa [sAt] using h
theorem sAt_no {N : Nat} {addr : Int} (h : sAt N addr = false) : ¬ (0 ≤ addr ∧ addr < (N : Int)) := by unfold sAt at h; exact of_decide_eq_false h

/-- block g is a row of c cells of type e, of which the first are vs -/
def Rw (w : World) (g : Nat) (e : TypeId) (c : Nat) (vs : List Value) : Prop :=
  ∃ cur : List Value, w.heap[g]? = some (.cells cur.toArray e (0, 0)) ∧ cur.length = c ∧ cur.take vs.length = vs ∧ c ≤ maxLen

section
variable {w w' : World} {g c : Nat} {e : TypeId} {vs : List Value}
theorem Rw.lt (h : Rw w g e c vs) : g < w.heap.size := by obtain ⟨cur, h1, _⟩ := h; exact (Array.getElem?_eq_some_iff.1 h1).1
theorem Rw.len (h : Rw w g e c vs) : vs.length ≤ c := by
  obtain ⟨cur, _, h2, h3, _⟩ := h
  have := congrArg List.length h3
  rw [List.length_take] at this; omega
theorem Rw.cell (h : Rw w g e c vs) {i : Nat} (hi : i < vs.length) : w.cell? ⟨g, i, none⟩ = some vs[i] := by
  obtain ⟨cur, h1, h2, h3, _⟩ := h
  have e1 : cur[i]? = some vs[i] := by
    have h4 : (cur.take vs.length)[i]? = some vs[i] := by rw [h3]; exact List.getElem?_eq_getElem hi
    rwa [List.getElem?_take, if_pos hi] at h4
  simp [World.cell?, h1, e1]
theorem Rw.free (h : Rw w g e c vs) (i : Nat) : w.frozen? ⟨g, i, none⟩ = false := by obtain ⟨cur, h1, _⟩ := h; simp [World.frozen?, h1]
theorem Rw.keep (h : Rw w g e c vs) (hk : w'.heap[g]? = w.heap[g]?) : Rw w' g e c vs := by obtain ⟨cur, h1, h2⟩ := h; exact ⟨cur, hk.trans h1, h2⟩
theorem Rw.set_ (h : Rw w g e c vs) {i : Nat} (v : Value) : Rw (w.setCell ⟨g, i, none⟩ v) g e c (vs.set i v) := by
  obtain ⟨cur, h1, h2, h3, h4⟩ := h
  refine ⟨cur.set i v, ?_, by simpa using h2, by rw [List.length_set, List.take_set, h3], h4⟩
  rw [setCell_eq_setRow w g i cur.toArray e (0, 0) _ h1, setRow_heap w g _ _ _ _ h1]
  simp
theorem Rw.ne {g' c' : Nat} {e' : TypeId} {vs' : List Value} (h : Rw w g e c vs) (h' : Rw w g' e' c' vs') (he : e ≠ e') : g ≠ g' := by
  rintro rfl
  obtain ⟨cur, h1, _⟩ := h
  obtain ⟨cur', h1', _⟩ := h'
  rw [h1] at h1'
  injection h1' with h1'
  injection h1' with _ ht
  exact he ht
theorem Rw.ne_blk {g' : Nat} {e' : TypeId} {C : Array Value} (h : Rw w g e c vs) (h' : w.heap[g']? = some (.cells C e' (0, 0))) (he : e ≠ e') : g ≠ g' := by
  rintro rfl
  obtain ⟨cur, h1, _⟩ := h
  rw [h1] at h'
  injection h' with h'
  injection h' with _ ht
  exact he ht
theorem Rw.new (w : World) (C : Array Value) (e : TypeId) (vs : List Value) (hC : C.toList = vs) (hm : vs.length ≤ maxLen) : Rw (w.alloc (.cells C e)) w.heap.size e vs.length vs := by
  refine ⟨C.toList, ?_, by rw [hC], by rw [hC, List.take_length], hm⟩
  have := heap_alloc_new w (.cells C e)
  simpa using this
/-- cells laid over a row from place k on -/
theorem Rw.lay (h : Rw w g e c vs) (k : Nat) (us : List Value) (hk : k + us.length ≤ vs.length) : ∃ cur : List Value, w.heap[g]? = some (.cells cur.toArray e (0, 0)) ∧ cur.length = c ∧
    Rw (w.setRow g (splice cur k us).toArray) g e c (splice vs k us) := by
  obtain ⟨cur, h1, h2, h3, h4⟩ := h
  have hl : vs.length ≤ cur.length := by have := congrArg List.length h3; rw [List.length_take] at this; omega
  refine ⟨cur, h1, h2, splice cur k us, setRow_heap w g _ _ _ _ h1, ?_, ?_, h4⟩
  · rw [length_splice _ _ _ (by omega), h2]
  · rw [length_splice _ _ _ hk, take_splice _ _ _ _ hk hl, h3]
end

/-- A storage: the struct in block g, its bytes in block gb, its keys in block gk. -/
structure Foot where
  g : Nat
  gb : Nat
  gk : Nat
  cb : Nat
  ck : Nat
structure St (T : TypeId) (w : World) (F : Foot) (bs ks : List Int) : Prop where
  hd : w.heap[F.g]? = some (.cells #[.slice (some ⟨F.gb, 0, none⟩) bs.length F.cb, .slice (some ⟨F.gk, 0, none⟩) ks.length F.ck] T (0, 0))
  b : Rw w F.gb 5 F.cb (bs.map (Value.int .u8))
  k : Rw w F.gk 3 F.ck (ks.map (Value.int .i64))
  rb : ∀ z ∈ bs, 0 ≤ z ∧ z ≤ 255
  rk : ∀ z ∈ ks, 0 ≤ z ∧ z ≤ 31
  ln : bs.length = 2048 * ks.length
  l0 : 1 ≤ ks.length
  l1 : ks.length ≤ 32
/-- two storages apart -/
def Foot.apart (F F' : Foot) : Prop := F.g ≠ F'.g ∧ F.gb ≠ F'.gb ∧ F.gk ≠ F'.gk

section
variable {T T' : TypeId} {w w' : World} {F F' : Foot} {bs ks bs' ks' : List Int}
theorem St.ltg (h : St T w F bs ks) : F.g < w.heap.size := (Array.getElem?_eq_some_iff.1 h.hd).1
theorem St.ltb (h : St T w F bs ks) : F.gb < w.heap.size := h.b.lt
theorem St.ltk (h : St T w F bs ks) : F.gk < w.heap.size := h.k.lt
theorem St.keep (h : St T w F bs ks) (h1 : w'.heap[F.g]? = w.heap[F.g]?) (h2 : w'.heap[F.gb]? = w.heap[F.gb]?) (h3 : w'.heap[F.gk]? = w.heap[F.gk]?) : St T w' F bs ks :=
  ⟨h1.trans h.hd, h.b.keep h2, h.k.keep h3, h.rb, h.rk, h.ln, h.l0, h.l1⟩
theorem St.below {B : Nat} (h : St T w F bs ks) (hb : Below B w w') (h1 : F.g < B) (h2 : F.gb < B) (h3 : F.gk < B) : St T w' F bs ks := h.keep (hb.block _ h1) (hb.block _ h2) (hb.block _ h3)
theorem St.belowS (h : St T w F bs ks) (hb : Below w.heap.size w w') : St T w' F bs ks := h.below hb h.ltg h.ltb h.ltk
theorem St.drewN (h : St T w F bs ks) (n : Nat) : St T (w.drewN n) F bs ks := h.keep rfl rfl rfl
theorem St.alloc (h : St T w F bs ks) (o : Obj) : St T (w.alloc o) F bs ks := h.keep (Below.heap_alloc w o _ h.ltg) (Below.heap_alloc w o _ h.ltb) (Below.heap_alloc w o _ h.ltk)
theorem St.grown {row : Option Nat} (h : St T w F bs ks) (hb : w.grownBy w' row) (h1 : some F.g ≠ row) (h2 : some F.gb ≠ row) (h3 : some F.gk ≠ row) : St T w' F bs ks :=
  h.keep (hb.block _ h.ltg h1) (hb.block _ h.ltb h2) (hb.block _ h.ltk h3)
theorem St.cell0 (h : St T w F bs ks) : w.cell? ⟨F.g, 0, none⟩ = some (.slice (some ⟨F.gb, 0, none⟩) bs.length F.cb) := cell_blk h.hd 0
theorem St.cell1 (h : St T w F bs ks) : w.cell? ⟨F.g, 1, none⟩ = some (.slice (some ⟨F.gk, 0, none⟩) ks.length F.ck) := cell_blk h.hd 1
theorem St.byte (h : St T w F bs ks) {i : Nat} (hi : i < bs.length) : w.cell? ⟨F.gb, i, none⟩ = some (.int .u8 (bs.getD i 0)) := by
  rw [h.b.cell (by simpa using hi)]; simp [List.getD_eq_getElem?_getD, hi]
theorem St.key (h : St T w F bs ks) {i : Nat} (hi : i < ks.length) : w.cell? ⟨F.gk, i, none⟩ = some (.int .i64 (ks.getD i 0)) := by
  rw [h.k.cell (by simpa using hi)]; simp [List.getD_eq_getElem?_getD, hi]
theorem St.keyr (h : St T w F bs ks) (i : Nat) : 0 ≤ ks.getD i 0 ∧ ks.getD i 0 ≤ 31 := by
  rw [List.getD_eq_getElem?_getD]
  rcases Nat.lt_or_ge i ks.length with hi | hi
  · rw [List.getElem?_eq_getElem hi]; exact h.rk _ (List.getElem_mem hi)
  · rw [List.getElem?_eq_none hi]; simp
theorem St.capb (h : St T w F bs ks) : bs.length ≤ F.cb := by have := h.b.len; simpa using this
theorem St.capk (h : St T w F bs ks) : ks.length ≤ F.ck := by have := h.k.len; simpa using this
theorem St.maxb (h : St T w F bs ks) : F.cb ≤ maxLen := by obtain ⟨cur, _, _, _, h4⟩ := h.b; exact h4
theorem St.byt (h : St T w F bs ks) {a n : Nat} (hn : a + n ≤ bs.length) : Byt w (some ⟨F.gb, a, none⟩) n ((bs.drop a).take n) := by
  refine ⟨by rw [List.length_take, List.length_drop]; omega, fun z hz => h.rb z (List.mem_of_mem_drop (List.mem_of_mem_take hz)), fun _ => ⟨F.gb, a, rfl, fun i hi => ?_⟩⟩
  rw [h.byte (by omega)]
  simp [List.getD_eq_getElem?_getD, hi]
/-- the three blocks are not one -/
theorem St.nbk (h : St T w F bs ks) : F.gb ≠ F.gk := h.b.ne h.k (by decide)
theorem St.ngb (h : St T w F bs ks) (hT : T ≠ 5) : F.gb ≠ F.g := h.b.ne_blk h.hd (Ne.symm hT)
theorem St.ngk (h : St T w F bs ks) (hT : T ≠ 3) : F.gk ≠ F.g := h.k.ne_blk h.hd (Ne.symm hT)
/-- a key is stored -/
theorem St.setKey (h : St T w F bs ks) (hT : T ≠ 3) {i : Nat} {v : Int} (hv : 0 ≤ v ∧ v ≤ 31) : St T (w.setCell ⟨F.gk, i, none⟩ (.int .i64 v)) F bs (ks.set i v) := by
  refine ⟨?_, ?_, ?_, h.rb, ?_, by rw [List.length_set]; exact h.ln, by rw [List.length_set]; exact h.l0, by rw [List.length_set]; exact h.l1⟩
  · rw [List.length_set]; exact (Below.heap_setCell _ _ _ _ (Ne.symm (h.ngk hT))).trans h.hd
  · exact h.b.keep (Below.heap_setCell _ _ _ _ h.nbk)
  · rw [List.map_set]; exact h.k.set_ _
  · intro z hz
    rcases List.mem_or_eq_of_mem_set hz with hz | rfl
    · exact h.rk z hz
    · exact hv
/-- a byte is stored -/
theorem St.setByte (h : St T w F bs ks) (hT : T ≠ 5) {i : Nat} {v : Int} (hv : 0 ≤ v ∧ v ≤ 255) : St T (w.setCell ⟨F.gb, i, none⟩ (.int .u8 v)) F (bs.set i v) ks := by
  refine ⟨?_, ?_, ?_, ?_, h.rk, by rw [List.length_set]; exact h.ln, h.l0, h.l1⟩
  · rw [List.length_set]; exact (Below.heap_setCell _ _ _ _ (Ne.symm (h.ngb hT))).trans h.hd
  · rw [List.map_set]; exact h.b.set_ _
  · exact h.k.keep (Below.heap_setCell _ _ _ _ (Ne.symm h.nbk))
  · intro z hz
    rcases List.mem_or_eq_of_mem_set hz with hz | rfl
    · exact h.rb z hz
    · exact hv
/-- bytes are laid over it -/
theorem St.lay (h : St T w F bs ks) (hT : T ≠ 5) (k : Nat) (ys : List Int) (hy : ∀ z ∈ ys, 0 ≤ z ∧ z ≤ 255) (hk : k + ys.length ≤ bs.length) :
    ∃ cur : List Value, w.heap[F.gb]? = some (.cells cur.toArray 5 (0, 0)) ∧ cur.length = F.cb ∧ St T (w.setRow F.gb (splice cur k (ys.map (Value.int .u8))).toArray) F (splice bs k ys) ks := by
  obtain ⟨cur, h1, h2, h3⟩ := h.b.lay k (ys.map (Value.int .u8)) (by simpa using hk)
  refine ⟨cur, h1, h2, ?_, ?_, ?_, splice_range _ _ _ h.rb hy, h.rk, by rw [length_splice _ _ _ hk]; exact h.ln, h.l0, h.l1⟩
  · rw [length_splice _ _ _ hk]; exact (setRow_other _ _ _ _ (Ne.symm (h.ngb hT))).trans h.hd
  · rw [← splice_map]; exact h3
  · exact h.k.keep (setRow_other _ _ _ _ (Ne.symm h.nbk))
end

theorem grown_setRow (w : World) (g : Nat) (cs : Array Value) : w.grownBy (w.setRow g cs) (some g) := ⟨rfl, rfl, rfl, by simp [World.setRow], fun k _ hk => setRow_other w g k cs (fun e => hk (by rw [e]))⟩
theorem grown_setCell (w : World) (g i : Nat) (v : Value) : w.grownBy (w.setCell ⟨g, i, none⟩ v) (some g) := ⟨rfl, rfl, rfl, by simp [World.setCell], fun k _ hk => Below.heap_setCell w _ v k (fun e => hk (by rw [e]))⟩
theorem grown_drewN {a w : World} {row : Option Nat} (h : a.grownBy w row) (n : Nat) : a.grownBy (w.drewN n) row := ⟨h.os, h.tape, h.output, h.size, h.block⟩
theorem grown_alloc {a w : World} {row : Option Nat} (h : a.grownBy w row) (o : Obj) : a.grownBy (w.alloc o) row :=
  ⟨h.os, h.tape, h.output, Nat.le_trans h.size (by simp), fun i hi hne => (Below.heap_alloc w o i (Nat.lt_of_lt_of_le hi h.size)).trans (h.block i hi hne)⟩
theorem grown_of_below {a w : World} (h : Below a.heap.size a w) (row : Option Nat) : a.grownBy w row := ⟨h.os, h.tape, h.output, h.size, fun i hi _ => h.block i hi⟩
theorem grown_trans {a b c : World} {row : Option Nat} (h : a.grownBy b row) (k : b.grownBy c row) : a.grownBy c row :=
  ⟨k.os.trans h.os, k.tape.trans h.tape, k.output.trans h.output, Nat.le_trans h.size k.size, fun i hi hne => (k.block i (Nat.lt_of_lt_of_le hi h.size) hne).trans (h.block i hi hne)⟩
theorem below_of_grown {B : Nat} {a b c : World} {g : Nat} (h : Below B a b) (k : b.grownBy c (some g)) (hB : B ≤ a.heap.size) (hg : B ≤ g) : Below B a c :=
  h.grown k (Nat.le_trans hB h.size) (by intro j hj; injection hj with hj; omega)
end Go.Proofs.Ythjdjbipfdigeaa
