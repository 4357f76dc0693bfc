/- CONTRACTS of the machine's methods: set; operand in a register. No conditions but the machine's form. -/
import Derived.Test.YthjdjbipfdigeaaGe1
import Derived.Deep.Cut
import Derived.BigRegion
namespace Go.Proofs.Ythjdjbipfdigeaa
open Go.RowKit
set_option linter.unusedVariables false
set_option linter.unusedSimpArgs false
set_option maxRecDepth 1000000 in
set_option maxHeartbeats 4000000 in
theorem set_c (g n : Nat) (v cc : Int) (o : Bool) (is os rs : List Int) (ps : List Value) (s : Value) (ov : Bool) (w : World) (hm : Mc w g is os rs ps s ov) (hn : is.getD 2 0 = (n : Int)) (hn16 : n < 16) : Calls Try.prog 58 #[.pointer (some ⟨g, 0, none⟩), .int .u32 v, .int .i64 cc, .bool o] w fun e w' => e = .returned (.tuple #[]) ∧ Mc w' g is os (rs.set n v) (ps.set 7 (.int .i64 cc)) s o ∧ Ch w w' [g] := by
  have c2 := hm.ci (c := 2) (by omega)
  rw [hn] at c2
  have c3 := hm.cr hn16
  have c4 := hm.cp (n := 7) (by omega)
  have c5 := hm.cv
  have f3 := hm.free (28 + n)
  have f4 := hm.free 51
  have f5 := hm.free 55
  have i0 : (n : Int) < 16 := by omega
  have i1 : (0 : Int) ≤ (n : Int) := by omega
  have HM := Lib.hid hm
  clear hm hn
  go_enter Try.func58, Try.ntmps58
  go_upto_region 0 with fail
  go_region
  go_wp2
  go_end0
  refine ⟨rfl, ?_, ?_⟩
  · exact (((HM.out.setr hn16 v).setp (n := 7) (by omega) (.int .i64 cc)).setv o).drewN 1
  · exact ((((Ch.refl w [g]).setCell (by simp) _).setCell (by simp) _).setCell (by simp) _).drewN 1
end Go.Proofs.Ythjdjbipfdigeaa
