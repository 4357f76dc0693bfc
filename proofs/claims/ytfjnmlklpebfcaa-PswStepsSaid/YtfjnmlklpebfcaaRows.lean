/-
  No cell of these rows narrows 'for every input' (looked for: loops, veiled, ifaces, maps, wideKeys, modest, calm, conditions, laid).
  DERIVED. THE GIVEN ROWS OF THIS SEAT. 9 by the template 'for every input the law returns true; each argument reads behind the call as it read before'; 0 by the template 'total and deterministic' (their statements: YtfjnmlklpebfcaaTotals.lean).
  GIVEN WITH THE SEED: the statements are not yours to turn. If you find one false, say at which input.
  Laid BY PROGRAM, IN A SANDBOX (cutbox-rows.mjs): the forced cells as the released guide's own fill.sh prints them over the translation 218824bfb53ac4c7… (all of the seat's roots in one cut). By AI agents, Wed Nov 11 2026. No macro, syntax, notation, axiom, sorry.
-/
import Derived.Test.YtfjnmlklpebfcaaChecked
import GoSem.Claim
import GoSem.ClaimJoined
import GoSem.ClaimMapViews
import Derived.JoinedTies
import Derived.KernelRfl
namespace Go.Proofs.Ytfjnmlklpebfcaa
/- THE CELL 'sum', in the pinned program and in every row, IS THE sha256 OF THE DUMP (.gsa) THAT YtfjnmlklpebfcaaProg.lean LOADS. Nothing in Lean hashes anything: it is a label: what it is worth is what the hold of that sum in a sandbox is worth. -/
noncomputable def Try.pinned : Pinned := { name := "ytfjnmlklpebfcaa", sum := "218824bfb53ac4c7c64cfda1a9ad3d4c2db457ebc8c7472dba6d73afdf95cb47", checked := Try.checked }
namespace Rows
def none {H : Type} : Left H := { results := [], args := [] }

/-- 'jobshoplaw06.PswEncodes': WHATEVER THE INPUT: true; the input reads as it did. -/
def pswEncodesSpec : ChangeSpec := { name := "pswEncodes", fn := fun _ => fun
  | [d] => { results := [.lit (.bool true)], args := [d] }
  | _ => none }
def pswEncodesRow : OpenClaim := { program := "ytfjnmlklpebfcaa", sum := "218824bfb53ac4c7c64cfda1a9ad3d4c2db457ebc8c7472dba6d73afdf95cb47", func := "jobshop/jobshoplaw06.PswEncodes", spec := "pswEncodes", apart := false }
def PswEncodesSaid : Prop := pswEncodesRow.holds Try.pinned (OpenSpec.ofChange pswEncodesSpec)

/-- ITS FALSE NEIGHBOUR: 'it returns false'. Refute it at one input. -/
def pswEncodesWrong : ChangeSpec := { name := "pswEncodes", fn := fun _ => fun
  | [d] => { results := [.lit (.bool false)], args := [d] }
  | _ => none }
def PswEncodesWrongFalsely : Prop := pswEncodesRow.holds Try.pinned (OpenSpec.ofChange pswEncodesWrong)

/-- 'jobshoplaw06.PswDecodes': WHATEVER THE INPUT: true; the input reads as it did. -/
def pswDecodesSpec : ChangeSpec := { name := "pswDecodes", fn := fun _ => fun
  | [d] => { results := [.lit (.bool true)], args := [d] }
  | _ => none }
def pswDecodesRow : OpenClaim := { program := "ytfjnmlklpebfcaa", sum := "218824bfb53ac4c7c64cfda1a9ad3d4c2db457ebc8c7472dba6d73afdf95cb47", func := "jobshop/jobshoplaw06.PswDecodes", spec := "pswDecodes", apart := false }
def PswDecodesSaid : Prop := pswDecodesRow.holds Try.pinned (OpenSpec.ofChange pswDecodesSpec)

/-- ITS FALSE NEIGHBOUR: 'it returns false'. Refute it at one input. -/
def pswDecodesWrong : ChangeSpec := { name := "pswDecodes", fn := fun _ => fun
  | [d] => { results := [.lit (.bool false)], args := [d] }
  | _ => none }
def PswDecodesWrongFalsely : Prop := pswDecodesRow.holds Try.pinned (OpenSpec.ofChange pswDecodesWrong)

/-- 'jobshoplaw06.PswBranches': WHATEVER THE INPUT: true; the input reads as it did. -/
def pswBranchesSpec : ChangeSpec := { name := "pswBranches", fn := fun _ => fun
  | [d1, d2] => { results := [.lit (.bool true)], args := [d1, d2] }
  | _ => none }
def pswBranchesRow : OpenClaim := { program := "ytfjnmlklpebfcaa", sum := "218824bfb53ac4c7c64cfda1a9ad3d4c2db457ebc8c7472dba6d73afdf95cb47", func := "jobshop/jobshoplaw06.PswBranches", spec := "pswBranches", apart := false }
def PswBranchesSaid : Prop := pswBranchesRow.holds Try.pinned (OpenSpec.ofChange pswBranchesSpec)

/-- ITS FALSE NEIGHBOUR: 'it returns false'. Refute it at one input. -/
def pswBranchesWrong : ChangeSpec := { name := "pswBranches", fn := fun _ => fun
  | [d1, d2] => { results := [.lit (.bool false)], args := [d1, d2] }
  | _ => none }
def PswBranchesWrongFalsely : Prop := pswBranchesRow.holds Try.pinned (OpenSpec.ofChange pswBranchesWrong)

/-- 'jobshoplaw06.PswAdmits': WHATEVER THE INPUT: true; the input reads as it did. -/
def pswAdmitsSpec : ChangeSpec := { name := "pswAdmits", fn := fun _ => fun
  | [d1, d2] => { results := [.lit (.bool true)], args := [d1, d2] }
  | _ => none }
def pswAdmitsRow : OpenClaim := { program := "ytfjnmlklpebfcaa", sum := "218824bfb53ac4c7c64cfda1a9ad3d4c2db457ebc8c7472dba6d73afdf95cb47", func := "jobshop/jobshoplaw06.PswAdmits", spec := "pswAdmits", apart := false }
def PswAdmitsSaid : Prop := pswAdmitsRow.holds Try.pinned (OpenSpec.ofChange pswAdmitsSpec)

/-- ITS FALSE NEIGHBOUR: 'it returns false'. Refute it at one input. -/
def pswAdmitsWrong : ChangeSpec := { name := "pswAdmits", fn := fun _ => fun
  | [d1, d2] => { results := [.lit (.bool false)], args := [d1, d2] }
  | _ => none }
def PswAdmitsWrongFalsely : Prop := pswAdmitsRow.holds Try.pinned (OpenSpec.ofChange pswAdmitsWrong)

/-- 'jobshoplaw06.PswAdvances': WHATEVER THE INPUT: true; the input reads as it did. -/
def pswAdvancesSpec : ChangeSpec := { name := "pswAdvances", fn := fun _ => fun
  | [d1, d2] => { results := [.lit (.bool true)], args := [d1, d2] }
  | _ => none }
def pswAdvancesRow : OpenClaim := { program := "ytfjnmlklpebfcaa", sum := "218824bfb53ac4c7c64cfda1a9ad3d4c2db457ebc8c7472dba6d73afdf95cb47", func := "jobshop/jobshoplaw06.PswAdvances", spec := "pswAdvances", apart := false }
def PswAdvancesSaid : Prop := pswAdvancesRow.holds Try.pinned (OpenSpec.ofChange pswAdvancesSpec)

/-- ITS FALSE NEIGHBOUR: 'it returns false'. Refute it at one input. -/
def pswAdvancesWrong : ChangeSpec := { name := "pswAdvances", fn := fun _ => fun
  | [d1, d2] => { results := [.lit (.bool false)], args := [d1, d2] }
  | _ => none }
def PswAdvancesWrongFalsely : Prop := pswAdvancesRow.holds Try.pinned (OpenSpec.ofChange pswAdvancesWrong)

/-- 'jobshoplaw06.PswInverse': WHATEVER THE INPUT: true; the input reads as it did. -/
def pswInverseSpec : ChangeSpec := { name := "pswInverse", fn := fun _ => fun
  | [d1, d2] => { results := [.lit (.bool true)], args := [d1, d2] }
  | _ => none }
def pswInverseRow : OpenClaim := { program := "ytfjnmlklpebfcaa", sum := "218824bfb53ac4c7c64cfda1a9ad3d4c2db457ebc8c7472dba6d73afdf95cb47", func := "jobshop/jobshoplaw06.PswInverse", spec := "pswInverse", apart := false }
def PswInverseSaid : Prop := pswInverseRow.holds Try.pinned (OpenSpec.ofChange pswInverseSpec)

/-- ITS FALSE NEIGHBOUR: 'it returns false'. Refute it at one input. -/
def pswInverseWrong : ChangeSpec := { name := "pswInverse", fn := fun _ => fun
  | [d1, d2] => { results := [.lit (.bool false)], args := [d1, d2] }
  | _ => none }
def PswInverseWrongFalsely : Prop := pswInverseRow.holds Try.pinned (OpenSpec.ofChange pswInverseWrong)

/-- 'jobshoplaw06.PswMasks': WHATEVER THE INPUT: true; the input reads as it did. -/
def pswMasksSpec : ChangeSpec := { name := "pswMasks", fn := fun _ => fun
  | [d1, d2, d3] => { results := [.lit (.bool true)], args := [d1, d2, d3] }
  | _ => none }
def pswMasksRow : OpenClaim := { program := "ytfjnmlklpebfcaa", sum := "218824bfb53ac4c7c64cfda1a9ad3d4c2db457ebc8c7472dba6d73afdf95cb47", func := "jobshop/jobshoplaw06.PswMasks", spec := "pswMasks", apart := false }
def PswMasksSaid : Prop := pswMasksRow.holds Try.pinned (OpenSpec.ofChange pswMasksSpec)

/-- ITS FALSE NEIGHBOUR: 'it returns false'. Refute it at one input. -/
def pswMasksWrong : ChangeSpec := { name := "pswMasks", fn := fun _ => fun
  | [d1, d2, d3] => { results := [.lit (.bool false)], args := [d1, d2, d3] }
  | _ => none }
def PswMasksWrongFalsely : Prop := pswMasksRow.holds Try.pinned (OpenSpec.ofChange pswMasksWrong)

/-- 'jobshoplaw06.PswBranchesOnce': WHATEVER THE INPUT: true; the input reads as it did. -/
def pswBranchesOnceSpec : ChangeSpec := { name := "pswBranchesOnce", fn := fun _ => fun
  | [d1, d2] => { results := [.lit (.bool true)], args := [d1, d2] }
  | _ => none }
def pswBranchesOnceRow : OpenClaim := { program := "ytfjnmlklpebfcaa", sum := "218824bfb53ac4c7c64cfda1a9ad3d4c2db457ebc8c7472dba6d73afdf95cb47", func := "jobshop/jobshoplaw06.PswBranchesOnce", spec := "pswBranchesOnce", apart := false }
def PswBranchesOnceSaid : Prop := pswBranchesOnceRow.holds Try.pinned (OpenSpec.ofChange pswBranchesOnceSpec)

/-- ITS FALSE NEIGHBOUR: 'it returns false'. Refute it at one input. -/
def pswBranchesOnceWrong : ChangeSpec := { name := "pswBranchesOnce", fn := fun _ => fun
  | [d1, d2] => { results := [.lit (.bool false)], args := [d1, d2] }
  | _ => none }
def PswBranchesOnceWrongFalsely : Prop := pswBranchesOnceRow.holds Try.pinned (OpenSpec.ofChange pswBranchesOnceWrong)

/-- 'jobshoplaw06.PswSteps': WHATEVER THE INPUT: true; the input reads as it did. -/
def pswStepsSpec : ChangeSpec := { name := "pswSteps", fn := fun _ => fun
  | [d1, d2] => { results := [.lit (.bool true)], args := [d1, d2] }
  | _ => none }
def pswStepsRow : OpenClaim := { program := "ytfjnmlklpebfcaa", sum := "218824bfb53ac4c7c64cfda1a9ad3d4c2db457ebc8c7472dba6d73afdf95cb47", func := "jobshop/jobshoplaw06.PswSteps", spec := "pswSteps", apart := false }
def PswStepsSaid : Prop := pswStepsRow.holds Try.pinned (OpenSpec.ofChange pswStepsSpec)

/-- ITS FALSE NEIGHBOUR: 'it returns false'. Refute it at one input. -/
def pswStepsWrong : ChangeSpec := { name := "pswSteps", fn := fun _ => fun
  | [d1, d2] => { results := [.lit (.bool false)], args := [d1, d2] }
  | _ => none }
def PswStepsWrongFalsely : Prop := pswStepsRow.holds Try.pinned (OpenSpec.ofChange pswStepsWrong)

/- THE SECOND FORM. 'bulk': how many values and letters a reading holds, each counted each time it is reached (what is shared counts as often as it is met; a slice's spare places count too). A statement '..UptoSaid' is the law's where the arguments, and the package variables that the reading takes, are together of bulk at most 1048576: NARROWER than '..Said'. Prove '..Said' where nothing that the law and all that it calls make is longer than what came in: it says more and counts as full. Else prove '..UptoSaid'. A law counts once. -/
mutual
def uptoBulk {H : Type} : DataW H → Nat
  | .lit (.string bytes) => bytes.length + 1
  | .lit _ => 1
  | .nil => 1
  | .ptr d => uptoBulk d + 1
  | .slice elems spare => uptoBulkAll elems + uptoBulkAll spare + 1
  | .agg parts => uptoBulkAll parts + 1
  | .iface _ d => uptoBulk d + 1
  | .map entries => uptoBulkEntries entries + 1
  | .held _ => 1
def uptoBulkAll {H : Type} : List (DataW H) → Nat
  | [] => 0
  | d :: r => uptoBulk d + uptoBulkAll r
def uptoBulkEntries {H : Type} : List (Lit × DataW H) → Nat
  | [] => 0
  | x :: r => uptoBulkEntry x + uptoBulkEntries r
def uptoBulkEntry {H : Type} : Lit × DataW H → Nat
  | (.string bytes, d) => bytes.length + uptoBulk d + 1
  | (_, d) => uptoBulk d + 1
 end
def uptoSmall : (H : Type) → List (DataW H) → Bool := fun _ ds => decide (uptoBulkAll ds ≤ 1048576)
def OpenSpec.upto (s : _root_.Go.ChangeSpec) : _root_.Go.OpenSpec := { _root_.Go.OpenSpec.ofChange s with cond := some uptoSmall }

/-- 'jobshoplaw06.PswEncodes', WHERE WHAT IT READS IS OF BULK AT MOST 1048576: true; the input reads as it did. -/
def pswEncodesUptoRow : OpenClaim := { program := "ytfjnmlklpebfcaa", sum := "218824bfb53ac4c7c64cfda1a9ad3d4c2db457ebc8c7472dba6d73afdf95cb47", func := "jobshop/jobshoplaw06.PswEncodes", spec := "pswEncodes", apart := false, narrowed := true }
def PswEncodesUptoSaid : Prop := pswEncodesUptoRow.holds Try.pinned (OpenSpec.upto pswEncodesSpec)

/-- 'jobshoplaw06.PswDecodes', WHERE WHAT IT READS IS OF BULK AT MOST 1048576: true; the input reads as it did. -/
def pswDecodesUptoRow : OpenClaim := { program := "ytfjnmlklpebfcaa", sum := "218824bfb53ac4c7c64cfda1a9ad3d4c2db457ebc8c7472dba6d73afdf95cb47", func := "jobshop/jobshoplaw06.PswDecodes", spec := "pswDecodes", apart := false, narrowed := true }
def PswDecodesUptoSaid : Prop := pswDecodesUptoRow.holds Try.pinned (OpenSpec.upto pswDecodesSpec)

/-- 'jobshoplaw06.PswBranches', WHERE WHAT IT READS IS OF BULK AT MOST 1048576: true; the input reads as it did. -/
def pswBranchesUptoRow : OpenClaim := { program := "ytfjnmlklpebfcaa", sum := "218824bfb53ac4c7c64cfda1a9ad3d4c2db457ebc8c7472dba6d73afdf95cb47", func := "jobshop/jobshoplaw06.PswBranches", spec := "pswBranches", apart := false, narrowed := true }
def PswBranchesUptoSaid : Prop := pswBranchesUptoRow.holds Try.pinned (OpenSpec.upto pswBranchesSpec)

/-- 'jobshoplaw06.PswAdmits', WHERE WHAT IT READS IS OF BULK AT MOST 1048576: true; the input reads as it did. -/
def pswAdmitsUptoRow : OpenClaim := { program := "ytfjnmlklpebfcaa", sum := "218824bfb53ac4c7c64cfda1a9ad3d4c2db457ebc8c7472dba6d73afdf95cb47", func := "jobshop/jobshoplaw06.PswAdmits", spec := "pswAdmits", apart := false, narrowed := true }
def PswAdmitsUptoSaid : Prop := pswAdmitsUptoRow.holds Try.pinned (OpenSpec.upto pswAdmitsSpec)

/-- 'jobshoplaw06.PswAdvances', WHERE WHAT IT READS IS OF BULK AT MOST 1048576: true; the input reads as it did. -/
def pswAdvancesUptoRow : OpenClaim := { program := "ytfjnmlklpebfcaa", sum := "218824bfb53ac4c7c64cfda1a9ad3d4c2db457ebc8c7472dba6d73afdf95cb47", func := "jobshop/jobshoplaw06.PswAdvances", spec := "pswAdvances", apart := false, narrowed := true }
def PswAdvancesUptoSaid : Prop := pswAdvancesUptoRow.holds Try.pinned (OpenSpec.upto pswAdvancesSpec)

/-- 'jobshoplaw06.PswInverse', WHERE WHAT IT READS IS OF BULK AT MOST 1048576: true; the input reads as it did. -/
def pswInverseUptoRow : OpenClaim := { program := "ytfjnmlklpebfcaa", sum := "218824bfb53ac4c7c64cfda1a9ad3d4c2db457ebc8c7472dba6d73afdf95cb47", func := "jobshop/jobshoplaw06.PswInverse", spec := "pswInverse", apart := false, narrowed := true }
def PswInverseUptoSaid : Prop := pswInverseUptoRow.holds Try.pinned (OpenSpec.upto pswInverseSpec)

/-- 'jobshoplaw06.PswMasks', WHERE WHAT IT READS IS OF BULK AT MOST 1048576: true; the input reads as it did. -/
def pswMasksUptoRow : OpenClaim := { program := "ytfjnmlklpebfcaa", sum := "218824bfb53ac4c7c64cfda1a9ad3d4c2db457ebc8c7472dba6d73afdf95cb47", func := "jobshop/jobshoplaw06.PswMasks", spec := "pswMasks", apart := false, narrowed := true }
def PswMasksUptoSaid : Prop := pswMasksUptoRow.holds Try.pinned (OpenSpec.upto pswMasksSpec)

/-- 'jobshoplaw06.PswBranchesOnce', WHERE WHAT IT READS IS OF BULK AT MOST 1048576: true; the input reads as it did. -/
def pswBranchesOnceUptoRow : OpenClaim := { program := "ytfjnmlklpebfcaa", sum := "218824bfb53ac4c7c64cfda1a9ad3d4c2db457ebc8c7472dba6d73afdf95cb47", func := "jobshop/jobshoplaw06.PswBranchesOnce", spec := "pswBranchesOnce", apart := false, narrowed := true }
def PswBranchesOnceUptoSaid : Prop := pswBranchesOnceUptoRow.holds Try.pinned (OpenSpec.upto pswBranchesOnceSpec)

/-- 'jobshoplaw06.PswSteps', WHERE WHAT IT READS IS OF BULK AT MOST 1048576: true; the input reads as it did. -/
def pswStepsUptoRow : OpenClaim := { program := "ytfjnmlklpebfcaa", sum := "218824bfb53ac4c7c64cfda1a9ad3d4c2db457ebc8c7472dba6d73afdf95cb47", func := "jobshop/jobshoplaw06.PswSteps", spec := "pswSteps", apart := false, narrowed := true }
def PswStepsUptoSaid : Prop := pswStepsUptoRow.holds Try.pinned (OpenSpec.upto pswStepsSpec)

end Rows
end Go.Proofs.Ytfjnmlklpebfcaa
