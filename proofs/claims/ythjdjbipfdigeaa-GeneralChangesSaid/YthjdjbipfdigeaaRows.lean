/-
  No cell of these rows narrows 'for every input' (looked for: loops, veiled, ifaces, maps, wideKeys, modest, calm, conditions, laid).
  DERIVED. THE GIVEN ROWS OF THIS SEAT. 8 by the template 'for every input the law returns true; each argument reads behind the call as it read before'; 0 by the template 'total and deterministic' (their statements: YthjdjbipfdigeaaTotals.lean).
  GIVEN WITH THE SEED: the statements are not yours to turn. If you find one false, say at which input.
  Laid BY PROGRAM, IN A SANDBOX (cutbox-rows.mjs): the forced cells as the released guide's own fill.sh prints them over the translation 6bb0a568275fc1d3… (all of the seat's roots in one cut). By AI agents, Wed Nov 11 2026. No macro, syntax, notation, axiom, sorry.
-/
import Derived.Test.YthjdjbipfdigeaaChecked
import GoSem.Claim
import GoSem.ClaimJoined
import GoSem.ClaimMapViews
import Derived.JoinedTies
import Derived.KernelRfl
namespace Go.Proofs.Ythjdjbipfdigeaa
/- THE CELL 'sum', in the pinned program and in every row, IS THE sha256 OF THE DUMP (.gsa) THAT YthjdjbipfdigeaaProg.lean LOADS. Nothing in Lean hashes anything: it is a label: what it is worth is what the hold of that sum in a sandbox is worth. -/
noncomputable def Try.pinned : Pinned := { name := "ythjdjbipfdigeaa", sum := "6bb0a568275fc1d3c0046b1e40b053606a4d0ee9885de11a48b740764403ace6", checked := Try.checked }
namespace Rows
def none {H : Type} : Left H := { results := [], args := [] }

/-- 'jobshoplaw09.GeneralKnows': WHATEVER THE INPUT: true; the input reads as it did. -/
def generalKnowsSpec : ChangeSpec := { name := "generalKnows", fn := fun _ => fun
  | [d] => { results := [.lit (.bool true)], args := [d] }
  | _ => none }
def generalKnowsRow : OpenClaim := { program := "ythjdjbipfdigeaa", sum := "6bb0a568275fc1d3c0046b1e40b053606a4d0ee9885de11a48b740764403ace6", func := "jobshop/jobshoplaw09.GeneralKnows", spec := "generalKnows", unfollowed := true, recurses := true, apart := false }
def GeneralKnowsSaid : Prop := generalKnowsRow.holds Try.pinned (OpenSpec.ofChange generalKnowsSpec)

/-- ITS FALSE NEIGHBOUR: 'it returns false'. Refute it at one input. -/
def generalKnowsWrong : ChangeSpec := { name := "generalKnows", fn := fun _ => fun
  | [d] => { results := [.lit (.bool false)], args := [d] }
  | _ => none }
def GeneralKnowsWrongFalsely : Prop := generalKnowsRow.holds Try.pinned (OpenSpec.ofChange generalKnowsWrong)

/-- 'jobshoplaw09.GeneralNone': WHATEVER THE INPUT: true; the input reads as it did. -/
def generalNoneSpec : ChangeSpec := { name := "generalNone", fn := fun _ => fun
  | [d1, d2] => { results := [.lit (.bool true)], args := [d1, d2] }
  | _ => none }
def generalNoneRow : OpenClaim := { program := "ythjdjbipfdigeaa", sum := "6bb0a568275fc1d3c0046b1e40b053606a4d0ee9885de11a48b740764403ace6", func := "jobshop/jobshoplaw09.GeneralNone", spec := "generalNone", unfollowed := true, recurses := true, apart := false }
def GeneralNoneSaid : Prop := generalNoneRow.holds Try.pinned (OpenSpec.ofChange generalNoneSpec)

/-- ITS FALSE NEIGHBOUR: 'it returns false'. Refute it at one input. -/
def generalNoneWrong : ChangeSpec := { name := "generalNone", fn := fun _ => fun
  | [d1, d2] => { results := [.lit (.bool false)], args := [d1, d2] }
  | _ => none }
def GeneralNoneWrongFalsely : Prop := generalNoneRow.holds Try.pinned (OpenSpec.ofChange generalNoneWrong)

/-- 'jobshoplaw09.GeneralSaves': WHATEVER THE INPUT: true; the input reads as it did. -/
def generalSavesSpec : ChangeSpec := { name := "generalSaves", fn := fun _ => fun
  | [d1, d2, d3] => { results := [.lit (.bool true)], args := [d1, d2, d3] }
  | _ => none }
def generalSavesRow : OpenClaim := { program := "ythjdjbipfdigeaa", sum := "6bb0a568275fc1d3c0046b1e40b053606a4d0ee9885de11a48b740764403ace6", func := "jobshop/jobshoplaw09.GeneralSaves", spec := "generalSaves", unfollowed := true, recurses := true, apart := false }
def GeneralSavesSaid : Prop := generalSavesRow.holds Try.pinned (OpenSpec.ofChange generalSavesSpec)

/-- ITS FALSE NEIGHBOUR: 'it returns false'. Refute it at one input. -/
def generalSavesWrong : ChangeSpec := { name := "generalSaves", fn := fun _ => fun
  | [d1, d2, d3] => { results := [.lit (.bool false)], args := [d1, d2, d3] }
  | _ => none }
def GeneralSavesWrongFalsely : Prop := generalSavesRow.holds Try.pinned (OpenSpec.ofChange generalSavesWrong)

/-- 'jobshoplaw09.GeneralMoves': WHATEVER THE INPUT: true; the input reads as it did. -/
def generalMovesSpec : ChangeSpec := { name := "generalMoves", fn := fun _ => fun
  | [d] => { results := [.lit (.bool true)], args := [d] }
  | _ => none }
def generalMovesRow : OpenClaim := { program := "ythjdjbipfdigeaa", sum := "6bb0a568275fc1d3c0046b1e40b053606a4d0ee9885de11a48b740764403ace6", func := "jobshop/jobshoplaw09.GeneralMoves", spec := "generalMoves", unfollowed := true, recurses := true, apart := false }
def GeneralMovesSaid : Prop := generalMovesRow.holds Try.pinned (OpenSpec.ofChange generalMovesSpec)

/-- ITS FALSE NEIGHBOUR: 'it returns false'. Refute it at one input. -/
def generalMovesWrong : ChangeSpec := { name := "generalMoves", fn := fun _ => fun
  | [d] => { results := [.lit (.bool false)], args := [d] }
  | _ => none }
def GeneralMovesWrongFalsely : Prop := generalMovesRow.holds Try.pinned (OpenSpec.ofChange generalMovesWrong)

/-- 'jobshoplaw09.GeneralSwaps': WHATEVER THE INPUT: true; the input reads as it did. -/
def generalSwapsSpec : ChangeSpec := { name := "generalSwaps", fn := fun _ => fun
  | [d1, d2] => { results := [.lit (.bool true)], args := [d1, d2] }
  | _ => none }
def generalSwapsRow : OpenClaim := { program := "ythjdjbipfdigeaa", sum := "6bb0a568275fc1d3c0046b1e40b053606a4d0ee9885de11a48b740764403ace6", func := "jobshop/jobshoplaw09.GeneralSwaps", spec := "generalSwaps", unfollowed := true, recurses := true, apart := false }
def GeneralSwapsSaid : Prop := generalSwapsRow.holds Try.pinned (OpenSpec.ofChange generalSwapsSpec)

/-- ITS FALSE NEIGHBOUR: 'it returns false'. Refute it at one input. -/
def generalSwapsWrong : ChangeSpec := { name := "generalSwaps", fn := fun _ => fun
  | [d1, d2] => { results := [.lit (.bool false)], args := [d1, d2] }
  | _ => none }
def GeneralSwapsWrongFalsely : Prop := generalSwapsRow.holds Try.pinned (OpenSpec.ofChange generalSwapsWrong)

/-- 'jobshoplaw09.GeneralLinks': WHATEVER THE INPUT: true; the input reads as it did. -/
def generalLinksSpec : ChangeSpec := { name := "generalLinks", fn := fun _ => fun
  | [d] => { results := [.lit (.bool true)], args := [d] }
  | _ => none }
def generalLinksRow : OpenClaim := { program := "ythjdjbipfdigeaa", sum := "6bb0a568275fc1d3c0046b1e40b053606a4d0ee9885de11a48b740764403ace6", func := "jobshop/jobshoplaw09.GeneralLinks", spec := "generalLinks", unfollowed := true, recurses := true, apart := false }
def GeneralLinksSaid : Prop := generalLinksRow.holds Try.pinned (OpenSpec.ofChange generalLinksSpec)

/-- ITS FALSE NEIGHBOUR: 'it returns false'. Refute it at one input. -/
def generalLinksWrong : ChangeSpec := { name := "generalLinks", fn := fun _ => fun
  | [d] => { results := [.lit (.bool false)], args := [d] }
  | _ => none }
def GeneralLinksWrongFalsely : Prop := generalLinksRow.holds Try.pinned (OpenSpec.ofChange generalLinksWrong)

/-- 'jobshoplaw09.GeneralKnown': WHATEVER THE INPUT: true; the input reads as it did. -/
def generalKnownSpec : ChangeSpec := { name := "generalKnown", fn := fun _ => fun
  | [] => { results := [.lit (.bool true)], args := [] }
  | _ => none }
def generalKnownRow : OpenClaim := { program := "ythjdjbipfdigeaa", sum := "6bb0a568275fc1d3c0046b1e40b053606a4d0ee9885de11a48b740764403ace6", func := "jobshop/jobshoplaw09.GeneralKnown", spec := "generalKnown", unfollowed := true, recurses := true, apart := false }
def GeneralKnownSaid : Prop := generalKnownRow.holds Try.pinned (OpenSpec.ofChange generalKnownSpec)

/-- ITS FALSE NEIGHBOUR: 'it returns false'. Refute it at one input. -/
def generalKnownWrong : ChangeSpec := { name := "generalKnown", fn := fun _ => fun
  | [] => { results := [.lit (.bool false)], args := [] }
  | _ => none }
def GeneralKnownWrongFalsely : Prop := generalKnownRow.holds Try.pinned (OpenSpec.ofChange generalKnownWrong)

/-- 'jobshoplaw09.GeneralChanges': WHATEVER THE INPUT: true; the input reads as it did. -/
def generalChangesSpec : ChangeSpec := { name := "generalChanges", fn := fun _ => fun
  | [d1, d2] => { results := [.lit (.bool true)], args := [d1, d2] }
  | _ => none }
def generalChangesRow : OpenClaim := { program := "ythjdjbipfdigeaa", sum := "6bb0a568275fc1d3c0046b1e40b053606a4d0ee9885de11a48b740764403ace6", func := "jobshop/jobshoplaw09.GeneralChanges", spec := "generalChanges", unfollowed := true, recurses := true, apart := false }
def GeneralChangesSaid : Prop := generalChangesRow.holds Try.pinned (OpenSpec.ofChange generalChangesSpec)

/-- ITS FALSE NEIGHBOUR: 'it returns false'. Refute it at one input. -/
def generalChangesWrong : ChangeSpec := { name := "generalChanges", fn := fun _ => fun
  | [d1, d2] => { results := [.lit (.bool false)], args := [d1, d2] }
  | _ => none }
def GeneralChangesWrongFalsely : Prop := generalChangesRow.holds Try.pinned (OpenSpec.ofChange generalChangesWrong)

/- THE SECOND FORM. 'bulk': how many values and letters a reading holds, each counted each time it is reached (what is shared counts as often as it is met; a slice's spare places count too). A statement '..UptoSaid' is the law's where the arguments, and the package variables that the reading takes, are together of bulk at most 1048576: NARROWER than '..Said'. Prove '..Said' where nothing that the law and all that it calls make is longer than what came in: it says more and counts as full. Else prove '..UptoSaid'. A law counts once. -/
mutual
def uptoBulk {H : Type} : DataW H → Nat
  | .lit (.string bytes) => bytes.length + 1
  | .lit _ => 1
  | .nil => 1
  | .ptr d => uptoBulk d + 1
  | .slice elems spare => uptoBulkAll elems + uptoBulkAll spare + 1
  | .agg parts => uptoBulkAll parts + 1
  | .iface _ d => uptoBulk d + 1
  | .map entries => uptoBulkEntries entries + 1
  | .held _ => 1
def uptoBulkAll {H : Type} : List (DataW H) → Nat
  | [] => 0
  | d :: r => uptoBulk d + uptoBulkAll r
def uptoBulkEntries {H : Type} : List (Lit × DataW H) → Nat
  | [] => 0
  | x :: r => uptoBulkEntry x + uptoBulkEntries r
def uptoBulkEntry {H : Type} : Lit × DataW H → Nat
  | (.string bytes, d) => bytes.length + uptoBulk d + 1
  | (_, d) => uptoBulk d + 1
 end
def uptoSmall : (H : Type) → List (DataW H) → Bool := fun _ ds => decide (uptoBulkAll ds ≤ 1048576)
def OpenSpec.upto (s : _root_.Go.ChangeSpec) : _root_.Go.OpenSpec := { _root_.Go.OpenSpec.ofChange s with cond := some uptoSmall }

/-- 'jobshoplaw09.GeneralKnows', WHERE WHAT IT READS IS OF BULK AT MOST 1048576: true; the input reads as it did. -/
def generalKnowsUptoRow : OpenClaim := { program := "ythjdjbipfdigeaa", sum := "6bb0a568275fc1d3c0046b1e40b053606a4d0ee9885de11a48b740764403ace6", func := "jobshop/jobshoplaw09.GeneralKnows", spec := "generalKnows", unfollowed := true, recurses := true, apart := false, narrowed := true }
def GeneralKnowsUptoSaid : Prop := generalKnowsUptoRow.holds Try.pinned (OpenSpec.upto generalKnowsSpec)

/-- 'jobshoplaw09.GeneralNone', WHERE WHAT IT READS IS OF BULK AT MOST 1048576: true; the input reads as it did. -/
def generalNoneUptoRow : OpenClaim := { program := "ythjdjbipfdigeaa", sum := "6bb0a568275fc1d3c0046b1e40b053606a4d0ee9885de11a48b740764403ace6", func := "jobshop/jobshoplaw09.GeneralNone", spec := "generalNone", unfollowed := true, recurses := true, apart := false, narrowed := true }
def GeneralNoneUptoSaid : Prop := generalNoneUptoRow.holds Try.pinned (OpenSpec.upto generalNoneSpec)

/-- 'jobshoplaw09.GeneralSaves', WHERE WHAT IT READS IS OF BULK AT MOST 1048576: true; the input reads as it did. -/
def generalSavesUptoRow : OpenClaim := { program := "ythjdjbipfdigeaa", sum := "6bb0a568275fc1d3c0046b1e40b053606a4d0ee9885de11a48b740764403ace6", func := "jobshop/jobshoplaw09.GeneralSaves", spec := "generalSaves", unfollowed := true, recurses := true, apart := false, narrowed := true }
def GeneralSavesUptoSaid : Prop := generalSavesUptoRow.holds Try.pinned (OpenSpec.upto generalSavesSpec)

/-- 'jobshoplaw09.GeneralMoves', WHERE WHAT IT READS IS OF BULK AT MOST 1048576: true; the input reads as it did. -/
def generalMovesUptoRow : OpenClaim := { program := "ythjdjbipfdigeaa", sum := "6bb0a568275fc1d3c0046b1e40b053606a4d0ee9885de11a48b740764403ace6", func := "jobshop/jobshoplaw09.GeneralMoves", spec := "generalMoves", unfollowed := true, recurses := true, apart := false, narrowed := true }
def GeneralMovesUptoSaid : Prop := generalMovesUptoRow.holds Try.pinned (OpenSpec.upto generalMovesSpec)

/-- 'jobshoplaw09.GeneralSwaps', WHERE WHAT IT READS IS OF BULK AT MOST 1048576: true; the input reads as it did. -/
def generalSwapsUptoRow : OpenClaim := { program := "ythjdjbipfdigeaa", sum := "6bb0a568275fc1d3c0046b1e40b053606a4d0ee9885de11a48b740764403ace6", func := "jobshop/jobshoplaw09.GeneralSwaps", spec := "generalSwaps", unfollowed := true, recurses := true, apart := false, narrowed := true }
def GeneralSwapsUptoSaid : Prop := generalSwapsUptoRow.holds Try.pinned (OpenSpec.upto generalSwapsSpec)

/-- 'jobshoplaw09.GeneralLinks', WHERE WHAT IT READS IS OF BULK AT MOST 1048576: true; the input reads as it did. -/
def generalLinksUptoRow : OpenClaim := { program := "ythjdjbipfdigeaa", sum := "6bb0a568275fc1d3c0046b1e40b053606a4d0ee9885de11a48b740764403ace6", func := "jobshop/jobshoplaw09.GeneralLinks", spec := "generalLinks", unfollowed := true, recurses := true, apart := false, narrowed := true }
def GeneralLinksUptoSaid : Prop := generalLinksUptoRow.holds Try.pinned (OpenSpec.upto generalLinksSpec)

/-- 'jobshoplaw09.GeneralKnown', WHERE WHAT IT READS IS OF BULK AT MOST 1048576: true; the input reads as it did. -/
def generalKnownUptoRow : OpenClaim := { program := "ythjdjbipfdigeaa", sum := "6bb0a568275fc1d3c0046b1e40b053606a4d0ee9885de11a48b740764403ace6", func := "jobshop/jobshoplaw09.GeneralKnown", spec := "generalKnown", unfollowed := true, recurses := true, apart := false, narrowed := true }
def GeneralKnownUptoSaid : Prop := generalKnownUptoRow.holds Try.pinned (OpenSpec.upto generalKnownSpec)

/-- 'jobshoplaw09.GeneralChanges', WHERE WHAT IT READS IS OF BULK AT MOST 1048576: true; the input reads as it did. -/
def generalChangesUptoRow : OpenClaim := { program := "ythjdjbipfdigeaa", sum := "6bb0a568275fc1d3c0046b1e40b053606a4d0ee9885de11a48b740764403ace6", func := "jobshop/jobshoplaw09.GeneralChanges", spec := "generalChanges", unfollowed := true, recurses := true, apart := false, narrowed := true }
def GeneralChangesUptoSaid : Prop := generalChangesUptoRow.holds Try.pinned (OpenSpec.upto generalChangesSpec)

end Rows
end Go.Proofs.Ythjdjbipfdigeaa
