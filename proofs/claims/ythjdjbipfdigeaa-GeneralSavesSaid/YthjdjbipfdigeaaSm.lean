/- SMALL: draws over Below. No conditions. -/
import Derived.Below
import Derived.Deep.Draws
namespace Go.Proofs.Ythjdjbipfdigeaa
open Go.RowKit
theorem dBelow {B : Nat} {a w : World} (h : Below B a w) (n : Nat) : Below B a (w.drewN n) := ⟨h.os, h.tape, h.output, h.size, h.block⟩
end Go.Proofs.Ythjdjbipfdigeaa
