/-
  No cell of these rows narrows 'for every input' (looked for: loops, veiled, ifaces, maps, wideKeys, modest, calm, conditions, laid).
  DERIVED. THE GIVEN ROWS OF THIS SEAT. 7 by the template 'for every input the law returns true; each argument reads behind the call as it read before'; 0 by the template 'total and deterministic' (their statements: YtfbcjpbfggbhfaaTotals.lean).
  GIVEN WITH THE SEED: the statements are not yours to turn. If you find one false, say at which input.
  Laid BY PROGRAM, IN A SANDBOX (cutbox-rows.mjs): the forced cells as the released guide's own fill.sh prints them over the translation 494508b40463198e… (all of the seat's roots in one cut). By AI agents, Wed Nov 11 2026. No macro, syntax, notation, axiom, sorry.
-/
import Derived.Test.YtfbcjpbfggbhfaaChecked
import GoSem.Claim
import GoSem.ClaimJoined
import GoSem.ClaimMapViews
import Derived.JoinedTies
import Derived.KernelRfl
namespace Go.Proofs.Ytfbcjpbfggbhfaa
/- THE CELL 'sum', in the pinned program and in every row, IS THE sha256 OF THE DUMP (.gsa) THAT YtfbcjpbfggbhfaaProg.lean LOADS. Nothing in Lean hashes anything: it is a label: what it is worth is what the hold of that sum in a sandbox is worth. -/
noncomputable def Try.pinned : Pinned := { name := "ytfbcjpbfggbhfaa", sum := "494508b40463198e5ee9ebfcd40a2035750c90d52b5f8feca6a9a264cfa14ef6", checked := Try.checked }
namespace Rows
def none {H : Type} : Left H := { results := [], args := [] }

/-- 'jobshoplaw08.IsaForms': WHATEVER THE INPUT: true; the input reads as it did. -/
def isaFormsSpec : ChangeSpec := { name := "isaForms", fn := fun _ => fun
  | [d] => { results := [.lit (.bool true)], args := [d] }
  | _ => none }
def isaFormsRow : OpenClaim := { program := "ytfbcjpbfggbhfaa", sum := "494508b40463198e5ee9ebfcd40a2035750c90d52b5f8feca6a9a264cfa14ef6", func := "jobshop/jobshoplaw08.IsaForms", spec := "isaForms", unfollowed := true, recurses := true, apart := false }
def IsaFormsSaid : Prop := isaFormsRow.holds Try.pinned (OpenSpec.ofChange isaFormsSpec)

/-- ITS FALSE NEIGHBOUR: 'it returns false'. Refute it at one input. -/
def isaFormsWrong : ChangeSpec := { name := "isaForms", fn := fun _ => fun
  | [d] => { results := [.lit (.bool false)], args := [d] }
  | _ => none }
def IsaFormsWrongFalsely : Prop := isaFormsRow.holds Try.pinned (OpenSpec.ofChange isaFormsWrong)

/-- 'jobshoplaw08.IsaEncodes': WHATEVER THE INPUT: true; the input reads as it did. -/
def isaEncodesSpec : ChangeSpec := { name := "isaEncodes", fn := fun _ => fun
  | [d] => { results := [.lit (.bool true)], args := [d] }
  | _ => none }
def isaEncodesRow : OpenClaim := { program := "ytfbcjpbfggbhfaa", sum := "494508b40463198e5ee9ebfcd40a2035750c90d52b5f8feca6a9a264cfa14ef6", func := "jobshop/jobshoplaw08.IsaEncodes", spec := "isaEncodes", unfollowed := true, recurses := true, apart := false }
def IsaEncodesSaid : Prop := isaEncodesRow.holds Try.pinned (OpenSpec.ofChange isaEncodesSpec)

/-- ITS FALSE NEIGHBOUR: 'it returns false'. Refute it at one input. -/
def isaEncodesWrong : ChangeSpec := { name := "isaEncodes", fn := fun _ => fun
  | [d] => { results := [.lit (.bool false)], args := [d] }
  | _ => none }
def IsaEncodesWrongFalsely : Prop := isaEncodesRow.holds Try.pinned (OpenSpec.ofChange isaEncodesWrong)

/-- 'jobshoplaw08.IsaDecodes': WHATEVER THE INPUT: true; the input reads as it did. -/
def isaDecodesSpec : ChangeSpec := { name := "isaDecodes", fn := fun _ => fun
  | [d] => { results := [.lit (.bool true)], args := [d] }
  | _ => none }
def isaDecodesRow : OpenClaim := { program := "ytfbcjpbfggbhfaa", sum := "494508b40463198e5ee9ebfcd40a2035750c90d52b5f8feca6a9a264cfa14ef6", func := "jobshop/jobshoplaw08.IsaDecodes", spec := "isaDecodes", unfollowed := true, recurses := true, apart := false }
def IsaDecodesSaid : Prop := isaDecodesRow.holds Try.pinned (OpenSpec.ofChange isaDecodesSpec)

/-- ITS FALSE NEIGHBOUR: 'it returns false'. Refute it at one input. -/
def isaDecodesWrong : ChangeSpec := { name := "isaDecodes", fn := fun _ => fun
  | [d] => { results := [.lit (.bool false)], args := [d] }
  | _ => none }
def IsaDecodesWrongFalsely : Prop := isaDecodesRow.holds Try.pinned (OpenSpec.ofChange isaDecodesWrong)

/-- 'jobshoplaw08.IsaBack': WHATEVER THE INPUT: true; the input reads as it did. -/
def isaBackSpec : ChangeSpec := { name := "isaBack", fn := fun _ => fun
  | [d1, d2] => { results := [.lit (.bool true)], args := [d1, d2] }
  | _ => none }
def isaBackRow : OpenClaim := { program := "ytfbcjpbfggbhfaa", sum := "494508b40463198e5ee9ebfcd40a2035750c90d52b5f8feca6a9a264cfa14ef6", func := "jobshop/jobshoplaw08.IsaBack", spec := "isaBack", unfollowed := true, recurses := true, apart := false }
def IsaBackSaid : Prop := isaBackRow.holds Try.pinned (OpenSpec.ofChange isaBackSpec)

/-- ITS FALSE NEIGHBOUR: 'it returns false'. Refute it at one input. -/
def isaBackWrong : ChangeSpec := { name := "isaBack", fn := fun _ => fun
  | [d1, d2] => { results := [.lit (.bool false)], args := [d1, d2] }
  | _ => none }
def IsaBackWrongFalsely : Prop := isaBackRow.holds Try.pinned (OpenSpec.ofChange isaBackWrong)

/-- 'jobshoplaw08.IsaAgain': WHATEVER THE INPUT: true; the input reads as it did. -/
def isaAgainSpec : ChangeSpec := { name := "isaAgain", fn := fun _ => fun
  | [d] => { results := [.lit (.bool true)], args := [d] }
  | _ => none }
def isaAgainRow : OpenClaim := { program := "ytfbcjpbfggbhfaa", sum := "494508b40463198e5ee9ebfcd40a2035750c90d52b5f8feca6a9a264cfa14ef6", func := "jobshop/jobshoplaw08.IsaAgain", spec := "isaAgain", unfollowed := true, recurses := true, apart := false }
def IsaAgainSaid : Prop := isaAgainRow.holds Try.pinned (OpenSpec.ofChange isaAgainSpec)

/-- ITS FALSE NEIGHBOUR: 'it returns false'. Refute it at one input. -/
def isaAgainWrong : ChangeSpec := { name := "isaAgain", fn := fun _ => fun
  | [d] => { results := [.lit (.bool false)], args := [d] }
  | _ => none }
def IsaAgainWrongFalsely : Prop := isaAgainRow.holds Try.pinned (OpenSpec.ofChange isaAgainWrong)

/-- 'jobshoplaw08.IsaOps': WHATEVER THE INPUT: true; the input reads as it did. -/
def isaOpsSpec : ChangeSpec := { name := "isaOps", fn := fun _ => fun
  | [d] => { results := [.lit (.bool true)], args := [d] }
  | _ => none }
def isaOpsRow : OpenClaim := { program := "ytfbcjpbfggbhfaa", sum := "494508b40463198e5ee9ebfcd40a2035750c90d52b5f8feca6a9a264cfa14ef6", func := "jobshop/jobshoplaw08.IsaOps", spec := "isaOps", unfollowed := true, recurses := true, apart := false }
def IsaOpsSaid : Prop := isaOpsRow.holds Try.pinned (OpenSpec.ofChange isaOpsSpec)

/-- ITS FALSE NEIGHBOUR: 'it returns false'. Refute it at one input. -/
def isaOpsWrong : ChangeSpec := { name := "isaOps", fn := fun _ => fun
  | [d] => { results := [.lit (.bool false)], args := [d] }
  | _ => none }
def IsaOpsWrongFalsely : Prop := isaOpsRow.holds Try.pinned (OpenSpec.ofChange isaOpsWrong)

/-- 'jobshoplaw08.IsaNames': WHATEVER THE INPUT: true; the input reads as it did. -/
def isaNamesSpec : ChangeSpec := { name := "isaNames", fn := fun _ => fun
  | [d1, d2] => { results := [.lit (.bool true)], args := [d1, d2] }
  | _ => none }
def isaNamesRow : OpenClaim := { program := "ytfbcjpbfggbhfaa", sum := "494508b40463198e5ee9ebfcd40a2035750c90d52b5f8feca6a9a264cfa14ef6", func := "jobshop/jobshoplaw08.IsaNames", spec := "isaNames", unfollowed := true, recurses := true, apart := false }
def IsaNamesSaid : Prop := isaNamesRow.holds Try.pinned (OpenSpec.ofChange isaNamesSpec)

/-- ITS FALSE NEIGHBOUR: 'it returns false'. Refute it at one input. -/
def isaNamesWrong : ChangeSpec := { name := "isaNames", fn := fun _ => fun
  | [d1, d2] => { results := [.lit (.bool false)], args := [d1, d2] }
  | _ => none }
def IsaNamesWrongFalsely : Prop := isaNamesRow.holds Try.pinned (OpenSpec.ofChange isaNamesWrong)

/- THE SECOND FORM. 'bulk': how many values and letters a reading holds, each counted each time it is reached (what is shared counts as often as it is met; a slice's spare places count too). A statement '..UptoSaid' is the law's where the arguments, and the package variables that the reading takes, are together of bulk at most 1048576: NARROWER than '..Said'. Prove '..Said' where nothing that the law and all that it calls make is longer than what came in: it says more and counts as full. Else prove '..UptoSaid'. A law counts once. -/
mutual
def uptoBulk {H : Type} : DataW H → Nat
  | .lit (.string bytes) => bytes.length + 1
  | .lit _ => 1
  | .nil => 1
  | .ptr d => uptoBulk d + 1
  | .slice elems spare => uptoBulkAll elems + uptoBulkAll spare + 1
  | .agg parts => uptoBulkAll parts + 1
  | .iface _ d => uptoBulk d + 1
  | .map entries => uptoBulkEntries entries + 1
  | .held _ => 1
def uptoBulkAll {H : Type} : List (DataW H) → Nat
  | [] => 0
  | d :: r => uptoBulk d + uptoBulkAll r
def uptoBulkEntries {H : Type} : List (Lit × DataW H) → Nat
  | [] => 0
  | x :: r => uptoBulkEntry x + uptoBulkEntries r
def uptoBulkEntry {H : Type} : Lit × DataW H → Nat
  | (.string bytes, d) => bytes.length + uptoBulk d + 1
  | (_, d) => uptoBulk d + 1
 end
def uptoSmall : (H : Type) → List (DataW H) → Bool := fun _ ds => decide (uptoBulkAll ds ≤ 1048576)
def OpenSpec.upto (s : _root_.Go.ChangeSpec) : _root_.Go.OpenSpec := { _root_.Go.OpenSpec.ofChange s with cond := some uptoSmall }

/-- 'jobshoplaw08.IsaForms', WHERE WHAT IT READS IS OF BULK AT MOST 1048576: true; the input reads as it did. -/
def isaFormsUptoRow : OpenClaim := { program := "ytfbcjpbfggbhfaa", sum := "494508b40463198e5ee9ebfcd40a2035750c90d52b5f8feca6a9a264cfa14ef6", func := "jobshop/jobshoplaw08.IsaForms", spec := "isaForms", unfollowed := true, recurses := true, apart := false, narrowed := true }
def IsaFormsUptoSaid : Prop := isaFormsUptoRow.holds Try.pinned (OpenSpec.upto isaFormsSpec)

/-- 'jobshoplaw08.IsaEncodes', WHERE WHAT IT READS IS OF BULK AT MOST 1048576: true; the input reads as it did. -/
def isaEncodesUptoRow : OpenClaim := { program := "ytfbcjpbfggbhfaa", sum := "494508b40463198e5ee9ebfcd40a2035750c90d52b5f8feca6a9a264cfa14ef6", func := "jobshop/jobshoplaw08.IsaEncodes", spec := "isaEncodes", unfollowed := true, recurses := true, apart := false, narrowed := true }
def IsaEncodesUptoSaid : Prop := isaEncodesUptoRow.holds Try.pinned (OpenSpec.upto isaEncodesSpec)

/-- 'jobshoplaw08.IsaDecodes', WHERE WHAT IT READS IS OF BULK AT MOST 1048576: true; the input reads as it did. -/
def isaDecodesUptoRow : OpenClaim := { program := "ytfbcjpbfggbhfaa", sum := "494508b40463198e5ee9ebfcd40a2035750c90d52b5f8feca6a9a264cfa14ef6", func := "jobshop/jobshoplaw08.IsaDecodes", spec := "isaDecodes", unfollowed := true, recurses := true, apart := false, narrowed := true }
def IsaDecodesUptoSaid : Prop := isaDecodesUptoRow.holds Try.pinned (OpenSpec.upto isaDecodesSpec)

/-- 'jobshoplaw08.IsaBack', WHERE WHAT IT READS IS OF BULK AT MOST 1048576: true; the input reads as it did. -/
def isaBackUptoRow : OpenClaim := { program := "ytfbcjpbfggbhfaa", sum := "494508b40463198e5ee9ebfcd40a2035750c90d52b5f8feca6a9a264cfa14ef6", func := "jobshop/jobshoplaw08.IsaBack", spec := "isaBack", unfollowed := true, recurses := true, apart := false, narrowed := true }
def IsaBackUptoSaid : Prop := isaBackUptoRow.holds Try.pinned (OpenSpec.upto isaBackSpec)

/-- 'jobshoplaw08.IsaAgain', WHERE WHAT IT READS IS OF BULK AT MOST 1048576: true; the input reads as it did. -/
def isaAgainUptoRow : OpenClaim := { program := "ytfbcjpbfggbhfaa", sum := "494508b40463198e5ee9ebfcd40a2035750c90d52b5f8feca6a9a264cfa14ef6", func := "jobshop/jobshoplaw08.IsaAgain", spec := "isaAgain", unfollowed := true, recurses := true, apart := false, narrowed := true }
def IsaAgainUptoSaid : Prop := isaAgainUptoRow.holds Try.pinned (OpenSpec.upto isaAgainSpec)

/-- 'jobshoplaw08.IsaOps', WHERE WHAT IT READS IS OF BULK AT MOST 1048576: true; the input reads as it did. -/
def isaOpsUptoRow : OpenClaim := { program := "ytfbcjpbfggbhfaa", sum := "494508b40463198e5ee9ebfcd40a2035750c90d52b5f8feca6a9a264cfa14ef6", func := "jobshop/jobshoplaw08.IsaOps", spec := "isaOps", unfollowed := true, recurses := true, apart := false, narrowed := true }
def IsaOpsUptoSaid : Prop := isaOpsUptoRow.holds Try.pinned (OpenSpec.upto isaOpsSpec)

/-- 'jobshoplaw08.IsaNames', WHERE WHAT IT READS IS OF BULK AT MOST 1048576: true; the input reads as it did. -/
def isaNamesUptoRow : OpenClaim := { program := "ytfbcjpbfggbhfaa", sum := "494508b40463198e5ee9ebfcd40a2035750c90d52b5f8feca6a9a264cfa14ef6", func := "jobshop/jobshoplaw08.IsaNames", spec := "isaNames", unfollowed := true, recurses := true, apart := false, narrowed := true }
def IsaNamesUptoSaid : Prop := isaNamesUptoRow.holds Try.pinned (OpenSpec.upto isaNamesSpec)

end Rows
end Go.Proofs.Ytfbcjpbfggbhfaa
