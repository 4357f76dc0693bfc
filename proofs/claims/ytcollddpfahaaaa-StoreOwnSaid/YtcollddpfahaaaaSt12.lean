/- CONTRACTS of package jobshoplaw07: a storage at work. No conditions but that the storage reads as one. -/
import Derived.Test.YtcollddpfahaaaaSt11
import Derived.Laws.BytesArg
import Derived.Laws.Strings
import Derived.Lib.Hide
import Derived.Outline
import Derived.Handy
import Derived.BigQuiet
import Derived.Deep.QuietTactic
namespace Go.Proofs.Ytcollddpfahaaaa
open Go.RowKit
set_option linter.unusedVariables false
set_option linter.unusedSimpArgs false

/-- a storage at work: it reads as bs, ks; its blocks lie at B or above; what lies below B is as it was in a0 -/
structure Wk (T : TypeId) (B : Nat) (a0 w : World) (F : Foot) (bs ks : List Int) : Prop where
  st : St T w F bs ks
  bl : Below B a0 w
  fg : B ≤ F.g
  fb : B ≤ F.gb
  fk : B ≤ F.gk
theorem below_of_grownB {a w w' : World} {B g : Nat} (h : Below B a w) (hg : w.grownBy w' (some g)) (hB : B ≤ g) (hw : B ≤ w.heap.size) : Below B a w' :=
  ⟨hg.os.trans h.os, hg.tape.trans h.tape, hg.output.trans h.output, Nat.le_trans h.size hg.size, fun i hi => (hg.block i (by omega) (by intro e; injection e with e; omega)).trans (h.block i hi)⟩
section
variable {T : TypeId} {B : Nat} {a0 w w' : World} {F : Foot} {bs ks bs' ks' : List Int}
theorem Wk.hB (h : Wk T B a0 w F bs ks) : B ≤ w.heap.size := by have := h.st.ltg; have := h.fg; omega
theorem Wk.keep (h : Wk T B a0 w F bs ks) (hb : Below w.heap.size w w') : Wk T B a0 w' F bs ks := ⟨h.st.belowS hb, h.bl.trans (hb.mono h.hB), h.fg, h.fb, h.fk⟩
theorem Wk.alloc (h : Wk T B a0 w F bs ks) (o : Obj) : Wk T B a0 (w.alloc o) F bs ks := ⟨h.st.alloc o, h.bl.alloc h.hB o, h.fg, h.fb, h.fk⟩
theorem Wk.drewN (h : Wk T B a0 w F bs ks) (n : Nat) : Wk T B a0 (w.drewN n) F bs ks := ⟨h.st.drewN n, dBelow h.bl n, h.fg, h.fb, h.fk⟩
theorem Wk.gb (h : Wk T B a0 w F bs ks) (s : St T w' F bs' ks') (hg : w.grownBy w' (some F.gb)) : Wk T B a0 w' F bs' ks' := ⟨s, below_of_grownB h.bl hg h.fb h.hB, h.fg, h.fb, h.fk⟩
theorem Wk.gk (h : Wk T B a0 w F bs ks) (s : St T w' F bs' ks') (hg : w.grownBy w' (some F.gk)) : Wk T B a0 w' F bs' ks' := ⟨s, below_of_grownB h.bl hg h.fk h.hB, h.fg, h.fb, h.fk⟩
end
variable {B : Nat} {a0 : World} {F : Foot} {bs ks : List Int}
theorem wk_set (w : World) (h : Wk 66 B a0 w F bs ks) (addr key : Int) (b : Bool) (hb : (sAt bs.length addr && sKey key) = b) : Calls Try.prog 17 #[.pointer (some ⟨F.g, 0, none⟩), .int .i64 addr, .int .i64 key] w fun e w' => e = .returned (.bool b) ∧ Wk 66 B a0 w' F bs (sSet bs.length ks addr key) ∧ w.grownBy w' (some F.gk) := by
  refine (setkey_c w h.st addr key).mono ?_
  rintro e w' ⟨rfl, hs, hg⟩
  exact ⟨by rw [hb], h.gk hs hg, hg⟩
theorem wk_put (w : World) (h : Wk 66 B a0 w F bs ks) (addr key : Int) (A : Option Addr) (len cap : Nat) (ys : List Int) (hy : Byt w A len ys) (c : Int) (hc : sCode (alP key) bs.length ks addr len = c) (hl : (len : Int) ≤ 9223372036854775807) : Calls Try.prog 20 #[.pointer (some ⟨F.g, 0, none⟩), .int .i64 addr, .slice A len cap, .int .i64 key] w fun e w' => e = .returned (.int .i64 c) ∧ Wk 66 B a0 w' F (sPut (alP key) bs ks addr ys) ks ∧ w.grownBy w' (some F.gb) := by
  refine (put_c w h.st addr key A len cap ys hy hl).mono ?_
  rintro e w' ⟨rfl, hs, hg⟩
  exact ⟨by rw [hc], h.gb hs hg, hg⟩
theorem wk_clr (w : World) (h : Wk 66 B a0 w F bs ks) (addr n : Int) (b : Bool) (hb : sIn bs.length addr n = b) : Calls Try.prog 25 #[.pointer (some ⟨F.g, 0, none⟩), .int .i64 addr, .int .i64 n] w fun e w' => e = .returned (.bool b) ∧ Wk 66 B a0 w' F (sClr bs addr n) ks ∧ w.grownBy w' (some F.gb) := by
  refine (clear_c w h.st addr n).mono ?_
  rintro e w' ⟨rfl, hs, hg⟩
  exact ⟨by rw [hb], h.gb hs hg, hg⟩
theorem wk_bytes (w : World) (h : Wk 66 B a0 w F bs ks) (addr n : Int) (zs : List Int) (hz : sGet bs addr n = zs) : Calls Try.prog 18 #[.pointer (some ⟨F.g, 0, none⟩), .int .i64 addr, .int .i64 n] w fun e w' => ∃ A m c, e = .returned (.slice A m c) ∧ Own w' w.heap.size (.slice A m c) m zs ∧ Wk 66 B a0 w' F bs ks ∧ Below w.heap.size w w' := by
  refine (bytes_c w h.st addr n).mono ?_
  rintro e w' ⟨A, m, c, rfl, ho, hb⟩
  exact ⟨A, m, c, rfl, hz ▸ ho, h.keep hb, hb⟩
theorem wk_key (w : World) (h : Wk 66 B a0 w F bs ks) (addr want : Int) (is : Bool) (hv : sKV bs.length ks addr = want) (ha : sAt bs.length addr = is) : Calls Try.prog 26 #[.pointer (some ⟨F.g, 0, none⟩), .int .i64 addr, .int .i64 want, .bool is] w fun e w' => e = .returned (.bool true) ∧ w = w' := key_c w h.st addr want is hv ha
theorem wk_has (w : World) (h : Wk 66 B a0 w F bs ks) (addr n key code : Int) (A : Option Addr) (len cap : Nat) (ys : List Int) (hy : Byt w A len ys) (hv : sFet (alF key) bs ks addr n = ys) (ha : sCode (alF key) bs.length ks addr n = code) : Calls Try.prog 27 #[.pointer (some ⟨F.g, 0, none⟩), .int .i64 addr, .int .i64 n, .int .i64 key, .slice A len cap, .int .i64 code] w fun e w' => e = .returned (.bool true) ∧ Wk 66 B a0 w' F bs ks ∧ Below w.heap.size w w' := by
  refine (has_c w h.st addr n key code A len cap ys hy hv ha).mono ?_
  rintro e w' ⟨rfl, hb⟩
  exact ⟨rfl, h.keep hb, hb⟩
theorem byt_none (w : World) : Byt w none 0 [] := ⟨rfl, by simp, fun h => absurd h (by omega)⟩

end Go.Proofs.Ytcollddpfahaaaa
