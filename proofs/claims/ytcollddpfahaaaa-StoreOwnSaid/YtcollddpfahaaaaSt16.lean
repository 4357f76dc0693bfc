/- CONTRACTS of package jobshoplaw07: one, in all kinds; a slice of calls that came in; a pair of storages made. No conditions but that the storages read as two. -/
import Derived.Test.YtcollddpfahaaaaSt15
import Derived.Test.YtcollddpfahaaaaSt13
import Derived.Test.YtcollddpfahaaaaRow
namespace Go.Proofs.Ytcollddpfahaaaa
open Go.RowKit
set_option linter.unusedVariables false

theorem one_c {R : World → Prop} {F F' : Foot} {bs ks : List Int} (a0 w : World) (h : Tw R a0 w F F' bs ks bs ks) (kind addr n key : Int) (A : Option Addr) (len cap : Nat) (ys : List Int) (hy : Byt a0 A len ys) (hl : (len : Int) ≤ (cap : Int)) (hc : (cap : Int) ≤ 9223372036854775807) (hk : 0 ≤ kind) : Calls Try.prog 13 #[.pointer (some ⟨F.g, 0, none⟩), .pointer (some ⟨F'.g, 0, none⟩), .agg #[.int .u8 kind, .int .i64 addr, .int .i64 n, .int .i64 key, .slice A len cap]] w fun e w' => e = .returned (.bool true) ∧ ∃ bs1 ks1, Tw R a0 w' F F' bs1 ks1 bs1 ks1 := by
  have h6 : kind.tmod 6 = 0 ∨ kind.tmod 6 = 1 ∨ kind.tmod 6 = 2 ∨ kind.tmod 6 = 3 ∨ kind.tmod 6 = 4 ∨ kind.tmod 6 = 5 := by
    rw [Int.tmod_eq_emod_of_nonneg hk]; omega
  rcases h6 with h6 | h6 | h6 | h6 | h6 | h6
  · exact one_0 a0 w h kind addr n key A len cap ys hy hl hc h6
  · exact one_1 a0 w h kind addr n key A len cap ys hy hl hc h6
  · exact one_2 a0 w h kind addr n key A len cap ys hy hl hc h6
  · exact one_3 a0 w h kind addr n key A len cap ys hy hl hc h6
  · exact one_4 a0 w h kind addr n key A len cap ys hy hl hc h6
  · exact one_5 a0 w h kind addr n key A len cap ys hy hl hc h6

/-- five cells from o on of block b are a call -/
def IsOp (w : World) (b o : Nat) : Prop := ∃ (kind addr n key : Int) (A : Option Addr) (len cap : Nat) (ys : List Int), w.cell? ⟨b, o, none⟩ = some (.int .u8 kind) ∧ w.cell? ⟨b, o + 1, none⟩ = some (.int .i64 addr) ∧ w.cell? ⟨b, o + 2, none⟩ = some (.int .i64 n) ∧ w.cell? ⟨b, o + 3, none⟩ = some (.int .i64 key) ∧ w.cell? ⟨b, o + 4, none⟩ = some (.slice A len cap) ∧ Byt w A len ys ∧ (len : Int) ≤ (cap : Int) ∧ (cap : Int) ≤ 9223372036854775807 ∧ 0 ≤ kind
/-- a slice of calls -/
def IsOps (w : World) (A : Option Addr) (len cap : Nat) : Prop := len ≤ cap ∧ cap ≤ maxLen ∧ ∀ i, i < len → ∃ b off, A = some ⟨b, off, none⟩ ∧ IsOp w b (off + i * 5)
theorem IsOps.len {w : World} {A : Option Addr} {len cap : Nat} (h : IsOps w A len cap) : len ≤ 9223372036854775807 := by
  have h1 := h.1; have h2 := h.2.1; unfold maxLen at h2; omega
theorem IsOps.at_ {w : World} {A : Option Addr} {len cap : Nat} (h : IsOps w A len cap) {i : Nat} (hi : i < len) : ∃ b off, A = some ⟨b, off, none⟩ ∧ IsOp w b (off + i * 5) := h.2.2 i hi
theorem tw_cell {R : World → Prop} {a0 w : World} {F F' : Foot} {bs ks bs' ks' : List Int} (h : Tw R a0 w F F' bs ks bs' ks') {p : Addr} {v : Value} (hv : a0.cell? p = some v) : w.cell? p = some v := by
  exact (h.bl.cell (World.block_lt_of_cell? a0 _ hv)).trans hv

/-- two new storages -/
theorem tw_new {R : World → Prop} {a0 w1 w2 : World} {F F' : Foot} {bs ks : List Int} (h1 : St 66 w1 F bs ks) (b1 : Below a0.heap.size a0 w1) (q1 : a0.heap.size ≤ F.g ∧ a0.heap.size ≤ F.gb ∧ a0.heap.size ≤ F.gk) (h2 : St 63 w2 F' bs ks) (b2 : Below w1.heap.size w1 w2) (q2 : w1.heap.size ≤ F'.g ∧ w1.heap.size ≤ F'.gb ∧ w1.heap.size ≤ F'.gk)
    (z : R w2) (zs : ∀ (u u' : World) (g : Nat), (g = F.gb ∨ g = F.gk ∨ g = F'.gb ∨ g = F'.gk) → u.grownBy u' (some g) → R u → R u') : Tw R a0 w2 F F' bs ks bs ks := by
  have l1 := h1.ltg; have l2 := h1.ltb; have l3 := h1.ltk; have := b1.size
  refine ⟨h1.belowS b2, h2, b1.trans (b2.mono b1.size), q1.1, q1.2.1, q1.2.2, ?_, ?_, ?_, ⟨?_, ?_, ?_⟩, ⟨?_, ?_, ?_⟩, ⟨?_, ?_, ?_⟩, ⟨?_, ?_, ?_⟩, z, zs⟩ <;> omega
/-- two storages stand in a world -/
def Two (F F' : Foot) (bs ks : List Int) (w : World) : Prop := St 66 w F bs ks ∧ St 63 w F' bs ks
/-- the blocks that a pair writes are none of another pair's -/
def Off (F F' G G' : Foot) : Prop := ∀ g, (g = F.gb ∨ g = F.gk ∨ g = F'.gb ∨ g = F'.gk) → g ≠ G.g ∧ g ≠ G.gb ∧ g ≠ G.gk ∧ g ≠ G'.g ∧ g ≠ G'.gb ∧ g ≠ G'.gk
theorem Off.zs {F F' G G' : Foot} (h : Off F F' G G') (bs ks : List Int) (u u' : World) (g : Nat) (hg : g = F.gb ∨ g = F.gk ∨ g = F'.gb ∨ g = F'.gk) (hu : u.grownBy u' (some g)) (hr : Two G G' bs ks u) : Two G G' bs ks u' := by
  obtain ⟨h1, h2, h3, h4, h5, h6⟩ := h g hg
  exact ⟨hr.1.grown hu (sne h1.symm) (sne h2.symm) (sne h3.symm), hr.2.grown hu (sne h4.symm) (sne h5.symm) (sne h6.symm)⟩
/-- another thing kept -/
theorem Tw.with_ {R R' : World → Prop} {a0 w : World} {F F' : Foot} {bs ks bs' ks' : List Int} (h : Tw R a0 w F F' bs ks bs' ks') (z : R' w) (zs : ∀ (u u' : World) (g : Nat), (g = F.gb ∨ g = F.gk ∨ g = F'.gb ∨ g = F'.gk) → u.grownBy u' (some g) → R' u → R' u') : Tw R' a0 w F F' bs ks bs' ks' :=
  ⟨h.p, h.r, h.bl, h.fg, h.fb, h.fk, h.fg', h.fb', h.fk', h.d0, h.d1, h.e0, h.e1, z, zs⟩
/-- two pairs: now the other one is at work -/
theorem Tw.turn {R' : World → Prop} {a0 w0 w : World} {F F' G G' : Foot} {bs ks cs ls ds ms : List Int} (h : Tw (Two G G' cs ls) a0 w F F' bs ks bs ks) (g : Tw R' a0 w0 G G' ds ms ds ms) (hf : Off G G' F F') : Tw (Two F F' bs ks) a0 w G G' cs ls cs ls :=
  ⟨h.z.1, h.z.2, h.bl, g.fg, g.fb, g.fk, g.fg', g.fb', g.fk', g.d0, g.d1, g.e0, g.e1, ⟨h.p, h.r⟩, hf.zs bs ks⟩
end Go.Proofs.Ytcollddpfahaaaa
