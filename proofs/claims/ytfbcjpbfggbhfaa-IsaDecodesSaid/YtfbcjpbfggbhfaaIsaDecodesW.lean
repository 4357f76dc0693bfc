/- THE WALK of IsaDecodes: it returns true and writes nothing that was there. Conditions: the slice reads as bytes. -/
import Derived.Test.YtfbcjpbfggbhfaaIs7
import Derived.Test.YtfbcjpbfggbhfaaIsD2
import Derived.Test.YtfbcjpbfggbhfaaKp
import Derived.Test.YtfbcjpbfggbhfaaRow
namespace Go.Proofs.Ytfbcjpbfggbhfaa
open Go.RowKit
set_option linter.unusedVariables false
set_option linter.unusedSimpArgs false
theorem eqi_refl (op fm r1 r2 x2 b1 d1 b2 d2 l1 l2 i2 : Int) : eqiB op fm r1 r2 x2 b1 d1 b2 d2 l1 l2 i2 op fm r1 r2 x2 b1 d1 b2 d2 l1 l2 i2 = true := by simp [eqiB]
attribute [local go_sem] eqi_run eqi_guard eqi_refl
set_option maxRecDepth 100000 in
set_option maxHeartbeats 4000000 in
theorem isaDecodes_go (A : Option Addr) (len cap : Nat) (zs : List Int) (w : World) (hy : Byt w A len zs) (hl : (len : Int) ≤ 9223372036854775807) : Calls Try.prog 5 #[.slice A len cap] w fun e w' => e = .returned (.bool true) ∧ Below w.heap.size w w' := by
  have DC := Lib.hid (idecode_c A len cap zs w hy hl)
  have RD := Lib.hid (fun W (hb : Below w.heap.size w W) => rdecode_c A len cap zs W (hy.keep hb) hl)
  have hlen : (if dokI len zs = true then decI zs else [0, 0, 0, 0, 0, 0, 0, 0, 0, 0, 0, 0]).length = 12 := by
    split
    · exact decI_length zs
    · rfl
  obtain ⟨x0, x1, x2, x3, x4, x5, x6, x7, x8, x9, x10, x11, hx⟩ := list_12 hlen
  obtain ⟨ok, hok⟩ : ∃ ok, dokI len zs = ok := ⟨_, rfl⟩
  rw [hx, hok] at DC
  simp only [hx] at RD
  simp only [hok] at RD
  simp only [insV, List.map_cons, List.map_nil] at DC RD
  have e1 : (ok == ok) = true := by simp
  clear hx hok hlen hl hy
  have WK := Lib.hid (fun W (h : Below w.heap.size w W) => (works_c W).mono (fun e w' h' => And.intro h'.1 (h.trans (h'.2.mono h.size))))
  go_enter Try.func5, Try.ntmps5
  go_wp2_with fail
  refine DC.out.mono ?_
  rintro e w1 ⟨rfl, hb⟩
  have HB1 := Lib.hid (hb.alloc hb.size (.cells #[.int .i64 x0, .int .i64 x1, .int .i64 x2, .int .i64 x3, .int .i64 x4, .int .i64 x5, .int .i64 x6, .int .i64 x7, .int .i64 x8, .int .i64 x9, .int .i64 x10, .int .i64 x11] 28))
  have B1 := Lib.hid (show Blk (w1.alloc (.cells #[.int .i64 x0, .int .i64 x1, .int .i64 x2, .int .i64 x3, .int .i64 x4, .int .i64 x5, .int .i64 x6, .int .i64 x7, .int .i64 x8, .int .i64 x9, .int .i64 x10, .int .i64 x11] 28)) w1.heap.size 28 [x0, x1, x2, x3, x4, x5, x6, x7, x8, x9, x10, x11] from heap_alloc_new w1 _)
  clear hb
  go_wp2_with fail
  refine (RD.out _ HB1.out).mono ?_
  rintro e w2 ⟨rfl, hb⟩
  have HB2 := Lib.hid ((HB1.out.trans (hb.mono HB1.out.size)).alloc (HB1.out.trans (hb.mono HB1.out.size)).size (.cells #[.int .i64 x0, .int .i64 x1, .int .i64 x2, .int .i64 x3, .int .i64 x4, .int .i64 x5, .int .i64 x6, .int .i64 x7, .int .i64 x8, .int .i64 x9, .int .i64 x10, .int .i64 x11] 28))
  have B2 := Lib.hid ((B1.out.keep hb).alloc (.cells #[.int .i64 x0, .int .i64 x1, .int .i64 x2, .int .i64 x3, .int .i64 x4, .int .i64 x5, .int .i64 x6, .int .i64 x7, .int .i64 x8, .int .i64 x9, .int .i64 x10, .int .i64 x11] 28))
  have C2 := Lib.hid (show Blk (w2.alloc (.cells #[.int .i64 x0, .int .i64 x1, .int .i64 x2, .int .i64 x3, .int .i64 x4, .int .i64 x5, .int .i64 x6, .int .i64 x7, .int .i64 x8, .int .i64 x9, .int .i64 x10, .int .i64 x11] 28)) w2.heap.size 28 [x0, x1, x2, x3, x4, x5, x6, x7, x8, x9, x10, x11] from heap_alloc_new w2 _)
  clear hb HB1 B1 DC RD
  go_upto_region 3 with fail
  obtain ⟨W, hW⟩ : ∃ W, w2.alloc (.cells #[.int .i64 x0, .int .i64 x1, .int .i64 x2, .int .i64 x3, .int .i64 x4, .int .i64 x5, .int .i64 x6, .int .i64 x7, .int .i64 x8, .int .i64 x9, .int .i64 x10, .int .i64 x11] 28) = W := ⟨_, rfl⟩
  rw [hW] at HB2 B2 C2
  rw [hW]
  clear hW
  have k0 : W.cell? ⟨w1.heap.size, 0, none⟩ = some (.int .i64 x0) := B2.out.cell (c := 0) (by simp)
  have l0 : W.cell? ⟨w2.heap.size, 0, none⟩ = some (.int .i64 x0) := C2.out.cell (c := 0) (by simp)
  have k1 : W.cell? ⟨w1.heap.size, 1, none⟩ = some (.int .i64 x1) := B2.out.cell (c := 1) (by simp)
  have l1 : W.cell? ⟨w2.heap.size, 1, none⟩ = some (.int .i64 x1) := C2.out.cell (c := 1) (by simp)
  have k2 : W.cell? ⟨w1.heap.size, 2, none⟩ = some (.int .i64 x2) := B2.out.cell (c := 2) (by simp)
  have l2 : W.cell? ⟨w2.heap.size, 2, none⟩ = some (.int .i64 x2) := C2.out.cell (c := 2) (by simp)
  have k3 : W.cell? ⟨w1.heap.size, 3, none⟩ = some (.int .i64 x3) := B2.out.cell (c := 3) (by simp)
  have l3 : W.cell? ⟨w2.heap.size, 3, none⟩ = some (.int .i64 x3) := C2.out.cell (c := 3) (by simp)
  have k4 : W.cell? ⟨w1.heap.size, 4, none⟩ = some (.int .i64 x4) := B2.out.cell (c := 4) (by simp)
  have l4 : W.cell? ⟨w2.heap.size, 4, none⟩ = some (.int .i64 x4) := C2.out.cell (c := 4) (by simp)
  have k5 : W.cell? ⟨w1.heap.size, 5, none⟩ = some (.int .i64 x5) := B2.out.cell (c := 5) (by simp)
  have l5 : W.cell? ⟨w2.heap.size, 5, none⟩ = some (.int .i64 x5) := C2.out.cell (c := 5) (by simp)
  have k6 : W.cell? ⟨w1.heap.size, 6, none⟩ = some (.int .i64 x6) := B2.out.cell (c := 6) (by simp)
  have l6 : W.cell? ⟨w2.heap.size, 6, none⟩ = some (.int .i64 x6) := C2.out.cell (c := 6) (by simp)
  have k7 : W.cell? ⟨w1.heap.size, 7, none⟩ = some (.int .i64 x7) := B2.out.cell (c := 7) (by simp)
  have l7 : W.cell? ⟨w2.heap.size, 7, none⟩ = some (.int .i64 x7) := C2.out.cell (c := 7) (by simp)
  have k8 : W.cell? ⟨w1.heap.size, 8, none⟩ = some (.int .i64 x8) := B2.out.cell (c := 8) (by simp)
  have l8 : W.cell? ⟨w2.heap.size, 8, none⟩ = some (.int .i64 x8) := C2.out.cell (c := 8) (by simp)
  have k9 : W.cell? ⟨w1.heap.size, 9, none⟩ = some (.int .i64 x9) := B2.out.cell (c := 9) (by simp)
  have l9 : W.cell? ⟨w2.heap.size, 9, none⟩ = some (.int .i64 x9) := C2.out.cell (c := 9) (by simp)
  have k10 : W.cell? ⟨w1.heap.size, 10, none⟩ = some (.int .i64 x10) := B2.out.cell (c := 10) (by simp)
  have l10 : W.cell? ⟨w2.heap.size, 10, none⟩ = some (.int .i64 x10) := C2.out.cell (c := 10) (by simp)
  have k11 : W.cell? ⟨w1.heap.size, 11, none⟩ = some (.int .i64 x11) := B2.out.cell (c := 11) (by simp)
  have l11 : W.cell? ⟨w2.heap.size, 11, none⟩ = some (.int .i64 x11) := C2.out.cell (c := 11) (by simp)
  go_wp2_with (go_at_call 14; refine (WK.out _ HB2.out).mono ?_; rintro e w4 ⟨rfl, HB3⟩)
  go_ret
  exact ⟨by simp, HB3⟩
theorem isaDecodes_walk (A : Option Addr) (len cap : Nat) (z : List Int) (w : World) (w0 : IsRow .u8 w A len cap z) : Calls Try.prog 5 #[.slice A len cap] w fun e w' => e = .returned (.bool true) ∧ Below w.heap.size w w' := by
  obtain ⟨hby, hnil, hlc, hcm⟩ := row_byt w0
  unfold maxLen at hcm
  exact isaDecodes_go A len cap _ w hby (by omega)
end Go.Proofs.Ytfbcjpbfggbhfaa
