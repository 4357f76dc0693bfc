/- StoreOwn: the walk as the frame wants it. No conditions but that the arguments read as they do. -/
import Derived.Test.YtcollddpfahaaaaStoreOwnW
import Derived.Test.YtcollddpfahaaaaRow
namespace Go.Proofs.Ytcollddpfahaaaa
theorem storeOwn_walk' (A : Option Addr) (len cap : Nat) (zs : List Int) (at_ : Int) (w : World) (hr : IsRow .u8 w A len cap zs) (ha : (Lit.int .u16 at_).wf = true) : Calls Try.prog 6 #[.slice A len cap, .int .u16 at_] w fun e w' => e = .returned (.bool true) ∧ Go.RowKit.Below w.heap.size w w' := by
  obtain ⟨hy, hc, hl, hm⟩ := row_byt hr
  exact storeOwn_walk A len cap _ at_ w hy hc (by omega) (by unfold maxLen at hm; omega) (bounds_u16 ha)
end Go.Proofs.Ytcollddpfahaaaa
