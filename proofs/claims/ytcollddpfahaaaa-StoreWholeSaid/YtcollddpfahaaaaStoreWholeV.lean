/- StoreWhole: the walk as the frame wants it. No conditions but that the arguments read as they do. -/
import Derived.Test.YtcollddpfahaaaaStoreWholeW
import Derived.Test.YtcollddpfahaaaaRow
namespace Go.Proofs.Ytcollddpfahaaaa
theorem storeWhole_walk' (n k0 k1 k2 k3 at_ : Int) (A : Option Addr) (len cap : Nat) (zs : List Int) (key : Int) (w : World) (hn : (Lit.int .u8 n).wf = true) (h0 : (Lit.int .u8 k0).wf = true) (h1 : (Lit.int .u8 k1).wf = true) (h2 : (Lit.int .u8 k2).wf = true) (h3 : (Lit.int .u8 k3).wf = true) (ha : (Lit.int .u16 at_).wf = true) (hr : IsRow .u8 w A len cap zs) (hk : (Lit.int .u8 key).wf = true) : Calls Try.prog 8 #[.int .u8 n, .agg #[.int .u8 k0, .int .u8 k1, .int .u8 k2, .int .u8 k3], .int .u16 at_, .slice A len cap, .int .u8 key] w fun e w' => e = .returned (.bool true) ∧ Go.RowKit.Below w.heap.size w w' := by
  obtain ⟨hy, _, hl, hm⟩ := row_byt hr
  exact storeWhole_walk n k0 k1 k2 k3 at_ A len cap _ key w (bounds_u8 hn) (bounds_u8 h0) (bounds_u8 h1) (bounds_u8 h2) (bounds_u8 h3) hy (by omega) (by unfold maxLen at hm; omega) (bounds_u8 hk) (bounds_u16 ha)
end Go.Proofs.Ytcollddpfahaaaa
