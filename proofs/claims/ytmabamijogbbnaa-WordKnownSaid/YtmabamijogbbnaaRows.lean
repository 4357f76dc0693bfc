/-
  No cell of these rows narrows 'for every input' (looked for: loops, veiled, ifaces, maps, wideKeys, modest, calm, conditions, laid).
  DERIVED. THE GIVEN ROWS OF THIS SEAT. 15 by the template 'for every input the law returns true; each argument reads behind the call as it read before'; 0 by the template 'total and deterministic' (their statements: YtmabamijogbbnaaTotals.lean).
  GIVEN WITH THE SEED: the statements are not yours to turn. If you find one false, say at which input.
  Laid BY PROGRAM, IN A SANDBOX (cutbox-rows.mjs): the forced cells as the released guide's own fill.sh prints them over the translation daaac8b99bdba2c1… (all of the seat's roots in one cut). By AI agents, Wed Nov 11 2026. No macro, syntax, notation, axiom, sorry.
-/
import Derived.Test.YtmabamijogbbnaaChecked
import GoSem.Claim
import GoSem.ClaimJoined
import GoSem.ClaimMapViews
import Derived.JoinedTies
import Derived.KernelRfl
namespace Go.Proofs.Ytmabamijogbbnaa
/- THE CELL 'sum', in the pinned program and in every row, IS THE sha256 OF THE DUMP (.gsa) THAT YtmabamijogbbnaaProg.lean LOADS. Nothing in Lean hashes anything: it is a label: what it is worth is what the hold of that sum in a sandbox is worth. -/
noncomputable def Try.pinned : Pinned := { name := "ytmabamijogbbnaa", sum := "daaac8b99bdba2c12d10047e472a29f0a0fd80f6fd0cc43a97878448600259dd", checked := Try.checked }
namespace Rows
def none {H : Type} : Left H := { results := [], args := [] }

/-- 'jobshoplaw01.WordOrders': WHATEVER THE INPUT: true; the input reads as it did. -/
def wordOrdersSpec : ChangeSpec := { name := "wordOrders", fn := fun _ => fun
  | [d1, d2] => { results := [.lit (.bool true)], args := [d1, d2] }
  | _ => none }
def wordOrdersRow : OpenClaim := { program := "ytmabamijogbbnaa", sum := "daaac8b99bdba2c12d10047e472a29f0a0fd80f6fd0cc43a97878448600259dd", func := "jobshop/jobshoplaw01.WordOrders", spec := "wordOrders", apart := false }
def WordOrdersSaid : Prop := wordOrdersRow.holds Try.pinned (OpenSpec.ofChange wordOrdersSpec)

/-- ITS FALSE NEIGHBOUR: 'it returns false'. Refute it at one input. -/
def wordOrdersWrong : ChangeSpec := { name := "wordOrders", fn := fun _ => fun
  | [d1, d2] => { results := [.lit (.bool false)], args := [d1, d2] }
  | _ => none }
def WordOrdersWrongFalsely : Prop := wordOrdersRow.holds Try.pinned (OpenSpec.ofChange wordOrdersWrong)

/-- 'jobshoplaw01.WordProducts': WHATEVER THE INPUT: true; the input reads as it did. -/
def wordProductsSpec : ChangeSpec := { name := "wordProducts", fn := fun _ => fun
  | [d1, d2, d3] => { results := [.lit (.bool true)], args := [d1, d2, d3] }
  | _ => none }
def wordProductsRow : OpenClaim := { program := "ytmabamijogbbnaa", sum := "daaac8b99bdba2c12d10047e472a29f0a0fd80f6fd0cc43a97878448600259dd", func := "jobshop/jobshoplaw01.WordProducts", spec := "wordProducts", apart := false }
def WordProductsSaid : Prop := wordProductsRow.holds Try.pinned (OpenSpec.ofChange wordProductsSpec)

/-- ITS FALSE NEIGHBOUR: 'it returns false'. Refute it at one input. -/
def wordProductsWrong : ChangeSpec := { name := "wordProducts", fn := fun _ => fun
  | [d1, d2, d3] => { results := [.lit (.bool false)], args := [d1, d2, d3] }
  | _ => none }
def WordProductsWrongFalsely : Prop := wordProductsRow.holds Try.pinned (OpenSpec.ofChange wordProductsWrong)

/-- 'jobshoplaw01.WordDivides': WHATEVER THE INPUT: true; the input reads as it did. -/
def wordDividesSpec : ChangeSpec := { name := "wordDivides", fn := fun _ => fun
  | [d] => { results := [.lit (.bool true)], args := [d] }
  | _ => none }
def wordDividesRow : OpenClaim := { program := "ytmabamijogbbnaa", sum := "daaac8b99bdba2c12d10047e472a29f0a0fd80f6fd0cc43a97878448600259dd", func := "jobshop/jobshoplaw01.WordDivides", spec := "wordDivides", apart := false }
def WordDividesSaid : Prop := wordDividesRow.holds Try.pinned (OpenSpec.ofChange wordDividesSpec)

/-- ITS FALSE NEIGHBOUR: 'it returns false'. Refute it at one input. -/
def wordDividesWrong : ChangeSpec := { name := "wordDivides", fn := fun _ => fun
  | [d] => { results := [.lit (.bool false)], args := [d] }
  | _ => none }
def WordDividesWrongFalsely : Prop := wordDividesRow.holds Try.pinned (OpenSpec.ofChange wordDividesWrong)

/-- 'jobshoplaw01.WordCompares': WHATEVER THE INPUT: true; the input reads as it did. -/
def wordComparesSpec : ChangeSpec := { name := "wordCompares", fn := fun _ => fun
  | [d1, d2, d3] => { results := [.lit (.bool true)], args := [d1, d2, d3] }
  | _ => none }
def wordComparesRow : OpenClaim := { program := "ytmabamijogbbnaa", sum := "daaac8b99bdba2c12d10047e472a29f0a0fd80f6fd0cc43a97878448600259dd", func := "jobshop/jobshoplaw01.WordCompares", spec := "wordCompares", apart := false }
def WordComparesSaid : Prop := wordComparesRow.holds Try.pinned (OpenSpec.ofChange wordComparesSpec)

/-- ITS FALSE NEIGHBOUR: 'it returns false'. Refute it at one input. -/
def wordComparesWrong : ChangeSpec := { name := "wordCompares", fn := fun _ => fun
  | [d1, d2, d3] => { results := [.lit (.bool false)], args := [d1, d2, d3] }
  | _ => none }
def WordComparesWrongFalsely : Prop := wordComparesRow.holds Try.pinned (OpenSpec.ofChange wordComparesWrong)

/-- 'jobshoplaw01.WordFields': WHATEVER THE INPUT: true; the input reads as it did. -/
def wordFieldsSpec : ChangeSpec := { name := "wordFields", fn := fun _ => fun
  | [d1, d2, d3] => { results := [.lit (.bool true)], args := [d1, d2, d3] }
  | _ => none }
def wordFieldsRow : OpenClaim := { program := "ytmabamijogbbnaa", sum := "daaac8b99bdba2c12d10047e472a29f0a0fd80f6fd0cc43a97878448600259dd", func := "jobshop/jobshoplaw01.WordFields", spec := "wordFields", apart := false }
def WordFieldsSaid : Prop := wordFieldsRow.holds Try.pinned (OpenSpec.ofChange wordFieldsSpec)

/-- ITS FALSE NEIGHBOUR: 'it returns false'. Refute it at one input. -/
def wordFieldsWrong : ChangeSpec := { name := "wordFields", fn := fun _ => fun
  | [d1, d2, d3] => { results := [.lit (.bool false)], args := [d1, d2, d3] }
  | _ => none }
def WordFieldsWrongFalsely : Prop := wordFieldsRow.holds Try.pinned (OpenSpec.ofChange wordFieldsWrong)

/-- 'jobshoplaw01.WordFieldsBack': WHATEVER THE INPUT: true; the input reads as it did. -/
def wordFieldsBackSpec : ChangeSpec := { name := "wordFieldsBack", fn := fun _ => fun
  | [d1, d2, d3] => { results := [.lit (.bool true)], args := [d1, d2, d3] }
  | _ => none }
def wordFieldsBackRow : OpenClaim := { program := "ytmabamijogbbnaa", sum := "daaac8b99bdba2c12d10047e472a29f0a0fd80f6fd0cc43a97878448600259dd", func := "jobshop/jobshoplaw01.WordFieldsBack", spec := "wordFieldsBack", apart := false }
def WordFieldsBackSaid : Prop := wordFieldsBackRow.holds Try.pinned (OpenSpec.ofChange wordFieldsBackSpec)

/-- ITS FALSE NEIGHBOUR: 'it returns false'. Refute it at one input. -/
def wordFieldsBackWrong : ChangeSpec := { name := "wordFieldsBack", fn := fun _ => fun
  | [d1, d2, d3] => { results := [.lit (.bool false)], args := [d1, d2, d3] }
  | _ => none }
def WordFieldsBackWrongFalsely : Prop := wordFieldsBackRow.holds Try.pinned (OpenSpec.ofChange wordFieldsBackWrong)

/-- 'jobshoplaw01.WordSums': WHATEVER THE INPUT: true; the input reads as it did. -/
def wordSumsSpec : ChangeSpec := { name := "wordSums", fn := fun _ => fun
  | [d1, d2] => { results := [.lit (.bool true)], args := [d1, d2] }
  | _ => none }
def wordSumsRow : OpenClaim := { program := "ytmabamijogbbnaa", sum := "daaac8b99bdba2c12d10047e472a29f0a0fd80f6fd0cc43a97878448600259dd", func := "jobshop/jobshoplaw01.WordSums", spec := "wordSums", apart := false }
def WordSumsSaid : Prop := wordSumsRow.holds Try.pinned (OpenSpec.ofChange wordSumsSpec)

/-- ITS FALSE NEIGHBOUR: 'it returns false'. Refute it at one input. -/
def wordSumsWrong : ChangeSpec := { name := "wordSums", fn := fun _ => fun
  | [d1, d2] => { results := [.lit (.bool false)], args := [d1, d2] }
  | _ => none }
def WordSumsWrongFalsely : Prop := wordSumsRow.holds Try.pinned (OpenSpec.ofChange wordSumsWrong)

/-- 'jobshoplaw01.WordInverse': WHATEVER THE INPUT: true; the input reads as it did. -/
def wordInverseSpec : ChangeSpec := { name := "wordInverse", fn := fun _ => fun
  | [d1, d2] => { results := [.lit (.bool true)], args := [d1, d2] }
  | _ => none }
def wordInverseRow : OpenClaim := { program := "ytmabamijogbbnaa", sum := "daaac8b99bdba2c12d10047e472a29f0a0fd80f6fd0cc43a97878448600259dd", func := "jobshop/jobshoplaw01.WordInverse", spec := "wordInverse", apart := false }
def WordInverseSaid : Prop := wordInverseRow.holds Try.pinned (OpenSpec.ofChange wordInverseSpec)

/-- ITS FALSE NEIGHBOUR: 'it returns false'. Refute it at one input. -/
def wordInverseWrong : ChangeSpec := { name := "wordInverse", fn := fun _ => fun
  | [d1, d2] => { results := [.lit (.bool false)], args := [d1, d2] }
  | _ => none }
def WordInverseWrongFalsely : Prop := wordInverseRow.holds Try.pinned (OpenSpec.ofChange wordInverseWrong)

/-- 'jobshoplaw01.WordLongShifts': WHATEVER THE INPUT: true; the input reads as it did. -/
def wordLongShiftsSpec : ChangeSpec := { name := "wordLongShifts", fn := fun _ => fun
  | [d] => { results := [.lit (.bool true)], args := [d] }
  | _ => none }
def wordLongShiftsRow : OpenClaim := { program := "ytmabamijogbbnaa", sum := "daaac8b99bdba2c12d10047e472a29f0a0fd80f6fd0cc43a97878448600259dd", func := "jobshop/jobshoplaw01.WordLongShifts", spec := "wordLongShifts", apart := false }
def WordLongShiftsSaid : Prop := wordLongShiftsRow.holds Try.pinned (OpenSpec.ofChange wordLongShiftsSpec)

/-- ITS FALSE NEIGHBOUR: 'it returns false'. Refute it at one input. -/
def wordLongShiftsWrong : ChangeSpec := { name := "wordLongShifts", fn := fun _ => fun
  | [d] => { results := [.lit (.bool false)], args := [d] }
  | _ => none }
def WordLongShiftsWrongFalsely : Prop := wordLongShiftsRow.holds Try.pinned (OpenSpec.ofChange wordLongShiftsWrong)

/-- 'jobshoplaw01.WordLongMultiplies': WHATEVER THE INPUT: true; the input reads as it did. -/
def wordLongMultipliesSpec : ChangeSpec := { name := "wordLongMultiplies", fn := fun _ => fun
  | [d1, d2, d3] => { results := [.lit (.bool true)], args := [d1, d2, d3] }
  | _ => none }
def wordLongMultipliesRow : OpenClaim := { program := "ytmabamijogbbnaa", sum := "daaac8b99bdba2c12d10047e472a29f0a0fd80f6fd0cc43a97878448600259dd", func := "jobshop/jobshoplaw01.WordLongMultiplies", spec := "wordLongMultiplies", apart := false }
def WordLongMultipliesSaid : Prop := wordLongMultipliesRow.holds Try.pinned (OpenSpec.ofChange wordLongMultipliesSpec)

/-- ITS FALSE NEIGHBOUR: 'it returns false'. Refute it at one input. -/
def wordLongMultipliesWrong : ChangeSpec := { name := "wordLongMultiplies", fn := fun _ => fun
  | [d1, d2, d3] => { results := [.lit (.bool false)], args := [d1, d2, d3] }
  | _ => none }
def WordLongMultipliesWrongFalsely : Prop := wordLongMultipliesRow.holds Try.pinned (OpenSpec.ofChange wordLongMultipliesWrong)

/-- 'jobshoplaw01.WordProductShifts': WHATEVER THE INPUT: true; the input reads as it did. -/
def wordProductShiftsSpec : ChangeSpec := { name := "wordProductShifts", fn := fun _ => fun
  | [d1, d2, d3] => { results := [.lit (.bool true)], args := [d1, d2, d3] }
  | _ => none }
def wordProductShiftsRow : OpenClaim := { program := "ytmabamijogbbnaa", sum := "daaac8b99bdba2c12d10047e472a29f0a0fd80f6fd0cc43a97878448600259dd", func := "jobshop/jobshoplaw01.WordProductShifts", spec := "wordProductShifts", apart := false }
def WordProductShiftsSaid : Prop := wordProductShiftsRow.holds Try.pinned (OpenSpec.ofChange wordProductShiftsSpec)

/-- ITS FALSE NEIGHBOUR: 'it returns false'. Refute it at one input. -/
def wordProductShiftsWrong : ChangeSpec := { name := "wordProductShifts", fn := fun _ => fun
  | [d1, d2, d3] => { results := [.lit (.bool false)], args := [d1, d2, d3] }
  | _ => none }
def WordProductShiftsWrongFalsely : Prop := wordProductShiftsRow.holds Try.pinned (OpenSpec.ofChange wordProductShiftsWrong)

/-- 'jobshoplaw01.WordShifts': WHATEVER THE INPUT: true; the input reads as it did. -/
def wordShiftsSpec : ChangeSpec := { name := "wordShifts", fn := fun _ => fun
  | [d1, d2, d3] => { results := [.lit (.bool true)], args := [d1, d2, d3] }
  | _ => none }
def wordShiftsRow : OpenClaim := { program := "ytmabamijogbbnaa", sum := "daaac8b99bdba2c12d10047e472a29f0a0fd80f6fd0cc43a97878448600259dd", func := "jobshop/jobshoplaw01.WordShifts", spec := "wordShifts", apart := false }
def WordShiftsSaid : Prop := wordShiftsRow.holds Try.pinned (OpenSpec.ofChange wordShiftsSpec)

/-- ITS FALSE NEIGHBOUR: 'it returns false'. Refute it at one input. -/
def wordShiftsWrong : ChangeSpec := { name := "wordShifts", fn := fun _ => fun
  | [d1, d2, d3] => { results := [.lit (.bool false)], args := [d1, d2, d3] }
  | _ => none }
def WordShiftsWrongFalsely : Prop := wordShiftsRow.holds Try.pinned (OpenSpec.ofChange wordShiftsWrong)

/-- 'jobshoplaw01.WordShiftsMultiply': WHATEVER THE INPUT: true; the input reads as it did. -/
def wordShiftsMultiplySpec : ChangeSpec := { name := "wordShiftsMultiply", fn := fun _ => fun
  | [d1, d2] => { results := [.lit (.bool true)], args := [d1, d2] }
  | _ => none }
def wordShiftsMultiplyRow : OpenClaim := { program := "ytmabamijogbbnaa", sum := "daaac8b99bdba2c12d10047e472a29f0a0fd80f6fd0cc43a97878448600259dd", func := "jobshop/jobshoplaw01.WordShiftsMultiply", spec := "wordShiftsMultiply", apart := false }
def WordShiftsMultiplySaid : Prop := wordShiftsMultiplyRow.holds Try.pinned (OpenSpec.ofChange wordShiftsMultiplySpec)

/-- ITS FALSE NEIGHBOUR: 'it returns false'. Refute it at one input. -/
def wordShiftsMultiplyWrong : ChangeSpec := { name := "wordShiftsMultiply", fn := fun _ => fun
  | [d1, d2] => { results := [.lit (.bool false)], args := [d1, d2] }
  | _ => none }
def WordShiftsMultiplyWrongFalsely : Prop := wordShiftsMultiplyRow.holds Try.pinned (OpenSpec.ofChange wordShiftsMultiplyWrong)

/-- 'jobshoplaw01.WordShiftsInParts': WHATEVER THE INPUT: true; the input reads as it did. -/
def wordShiftsInPartsSpec : ChangeSpec := { name := "wordShiftsInParts", fn := fun _ => fun
  | [d1, d2] => { results := [.lit (.bool true)], args := [d1, d2] }
  | _ => none }
def wordShiftsInPartsRow : OpenClaim := { program := "ytmabamijogbbnaa", sum := "daaac8b99bdba2c12d10047e472a29f0a0fd80f6fd0cc43a97878448600259dd", func := "jobshop/jobshoplaw01.WordShiftsInParts", spec := "wordShiftsInParts", apart := false }
def WordShiftsInPartsSaid : Prop := wordShiftsInPartsRow.holds Try.pinned (OpenSpec.ofChange wordShiftsInPartsSpec)

/-- ITS FALSE NEIGHBOUR: 'it returns false'. Refute it at one input. -/
def wordShiftsInPartsWrong : ChangeSpec := { name := "wordShiftsInParts", fn := fun _ => fun
  | [d1, d2] => { results := [.lit (.bool false)], args := [d1, d2] }
  | _ => none }
def WordShiftsInPartsWrongFalsely : Prop := wordShiftsInPartsRow.holds Try.pinned (OpenSpec.ofChange wordShiftsInPartsWrong)

/-- 'jobshoplaw01.WordKnown': WHATEVER THE INPUT: true; the input reads as it did. -/
def wordKnownSpec : ChangeSpec := { name := "wordKnown", fn := fun _ => fun
  | [] => { results := [.lit (.bool true)], args := [] }
  | _ => none }
def wordKnownRow : OpenClaim := { program := "ytmabamijogbbnaa", sum := "daaac8b99bdba2c12d10047e472a29f0a0fd80f6fd0cc43a97878448600259dd", func := "jobshop/jobshoplaw01.WordKnown", spec := "wordKnown", apart := false }
def WordKnownSaid : Prop := wordKnownRow.holds Try.pinned (OpenSpec.ofChange wordKnownSpec)

/-- ITS FALSE NEIGHBOUR: 'it returns false'. Refute it at one input. -/
def wordKnownWrong : ChangeSpec := { name := "wordKnown", fn := fun _ => fun
  | [] => { results := [.lit (.bool false)], args := [] }
  | _ => none }
def WordKnownWrongFalsely : Prop := wordKnownRow.holds Try.pinned (OpenSpec.ofChange wordKnownWrong)

/- THE SECOND FORM. 'bulk': how many values and letters a reading holds, each counted each time it is reached (what is shared counts as often as it is met; a slice's spare places count too). A statement '..UptoSaid' is the law's where the arguments, and the package variables that the reading takes, are together of bulk at most 1048576: NARROWER than '..Said'. Prove '..Said' where nothing that the law and all that it calls make is longer than what came in: it says more and counts as full. Else prove '..UptoSaid'. A law counts once. -/
mutual
def uptoBulk {H : Type} : DataW H → Nat
  | .lit (.string bytes) => bytes.length + 1
  | .lit _ => 1
  | .nil => 1
  | .ptr d => uptoBulk d + 1
  | .slice elems spare => uptoBulkAll elems + uptoBulkAll spare + 1
  | .agg parts => uptoBulkAll parts + 1
  | .iface _ d => uptoBulk d + 1
  | .map entries => uptoBulkEntries entries + 1
  | .held _ => 1
def uptoBulkAll {H : Type} : List (DataW H) → Nat
  | [] => 0
  | d :: r => uptoBulk d + uptoBulkAll r
def uptoBulkEntries {H : Type} : List (Lit × DataW H) → Nat
  | [] => 0
  | x :: r => uptoBulkEntry x + uptoBulkEntries r
def uptoBulkEntry {H : Type} : Lit × DataW H → Nat
  | (.string bytes, d) => bytes.length + uptoBulk d + 1
  | (_, d) => uptoBulk d + 1
 end
def uptoSmall : (H : Type) → List (DataW H) → Bool := fun _ ds => decide (uptoBulkAll ds ≤ 1048576)
def OpenSpec.upto (s : _root_.Go.ChangeSpec) : _root_.Go.OpenSpec := { _root_.Go.OpenSpec.ofChange s with cond := some uptoSmall }

/-- 'jobshoplaw01.WordOrders', WHERE WHAT IT READS IS OF BULK AT MOST 1048576: true; the input reads as it did. -/
def wordOrdersUptoRow : OpenClaim := { program := "ytmabamijogbbnaa", sum := "daaac8b99bdba2c12d10047e472a29f0a0fd80f6fd0cc43a97878448600259dd", func := "jobshop/jobshoplaw01.WordOrders", spec := "wordOrders", apart := false, narrowed := true }
def WordOrdersUptoSaid : Prop := wordOrdersUptoRow.holds Try.pinned (OpenSpec.upto wordOrdersSpec)

/-- 'jobshoplaw01.WordProducts', WHERE WHAT IT READS IS OF BULK AT MOST 1048576: true; the input reads as it did. -/
def wordProductsUptoRow : OpenClaim := { program := "ytmabamijogbbnaa", sum := "daaac8b99bdba2c12d10047e472a29f0a0fd80f6fd0cc43a97878448600259dd", func := "jobshop/jobshoplaw01.WordProducts", spec := "wordProducts", apart := false, narrowed := true }
def WordProductsUptoSaid : Prop := wordProductsUptoRow.holds Try.pinned (OpenSpec.upto wordProductsSpec)

/-- 'jobshoplaw01.WordDivides', WHERE WHAT IT READS IS OF BULK AT MOST 1048576: true; the input reads as it did. -/
def wordDividesUptoRow : OpenClaim := { program := "ytmabamijogbbnaa", sum := "daaac8b99bdba2c12d10047e472a29f0a0fd80f6fd0cc43a97878448600259dd", func := "jobshop/jobshoplaw01.WordDivides", spec := "wordDivides", apart := false, narrowed := true }
def WordDividesUptoSaid : Prop := wordDividesUptoRow.holds Try.pinned (OpenSpec.upto wordDividesSpec)

/-- 'jobshoplaw01.WordCompares', WHERE WHAT IT READS IS OF BULK AT MOST 1048576: true; the input reads as it did. -/
def wordComparesUptoRow : OpenClaim := { program := "ytmabamijogbbnaa", sum := "daaac8b99bdba2c12d10047e472a29f0a0fd80f6fd0cc43a97878448600259dd", func := "jobshop/jobshoplaw01.WordCompares", spec := "wordCompares", apart := false, narrowed := true }
def WordComparesUptoSaid : Prop := wordComparesUptoRow.holds Try.pinned (OpenSpec.upto wordComparesSpec)

/-- 'jobshoplaw01.WordFields', WHERE WHAT IT READS IS OF BULK AT MOST 1048576: true; the input reads as it did. -/
def wordFieldsUptoRow : OpenClaim := { program := "ytmabamijogbbnaa", sum := "daaac8b99bdba2c12d10047e472a29f0a0fd80f6fd0cc43a97878448600259dd", func := "jobshop/jobshoplaw01.WordFields", spec := "wordFields", apart := false, narrowed := true }
def WordFieldsUptoSaid : Prop := wordFieldsUptoRow.holds Try.pinned (OpenSpec.upto wordFieldsSpec)

/-- 'jobshoplaw01.WordFieldsBack', WHERE WHAT IT READS IS OF BULK AT MOST 1048576: true; the input reads as it did. -/
def wordFieldsBackUptoRow : OpenClaim := { program := "ytmabamijogbbnaa", sum := "daaac8b99bdba2c12d10047e472a29f0a0fd80f6fd0cc43a97878448600259dd", func := "jobshop/jobshoplaw01.WordFieldsBack", spec := "wordFieldsBack", apart := false, narrowed := true }
def WordFieldsBackUptoSaid : Prop := wordFieldsBackUptoRow.holds Try.pinned (OpenSpec.upto wordFieldsBackSpec)

/-- 'jobshoplaw01.WordSums', WHERE WHAT IT READS IS OF BULK AT MOST 1048576: true; the input reads as it did. -/
def wordSumsUptoRow : OpenClaim := { program := "ytmabamijogbbnaa", sum := "daaac8b99bdba2c12d10047e472a29f0a0fd80f6fd0cc43a97878448600259dd", func := "jobshop/jobshoplaw01.WordSums", spec := "wordSums", apart := false, narrowed := true }
def WordSumsUptoSaid : Prop := wordSumsUptoRow.holds Try.pinned (OpenSpec.upto wordSumsSpec)

/-- 'jobshoplaw01.WordInverse', WHERE WHAT IT READS IS OF BULK AT MOST 1048576: true; the input reads as it did. -/
def wordInverseUptoRow : OpenClaim := { program := "ytmabamijogbbnaa", sum := "daaac8b99bdba2c12d10047e472a29f0a0fd80f6fd0cc43a97878448600259dd", func := "jobshop/jobshoplaw01.WordInverse", spec := "wordInverse", apart := false, narrowed := true }
def WordInverseUptoSaid : Prop := wordInverseUptoRow.holds Try.pinned (OpenSpec.upto wordInverseSpec)

/-- 'jobshoplaw01.WordLongShifts', WHERE WHAT IT READS IS OF BULK AT MOST 1048576: true; the input reads as it did. -/
def wordLongShiftsUptoRow : OpenClaim := { program := "ytmabamijogbbnaa", sum := "daaac8b99bdba2c12d10047e472a29f0a0fd80f6fd0cc43a97878448600259dd", func := "jobshop/jobshoplaw01.WordLongShifts", spec := "wordLongShifts", apart := false, narrowed := true }
def WordLongShiftsUptoSaid : Prop := wordLongShiftsUptoRow.holds Try.pinned (OpenSpec.upto wordLongShiftsSpec)

/-- 'jobshoplaw01.WordLongMultiplies', WHERE WHAT IT READS IS OF BULK AT MOST 1048576: true; the input reads as it did. -/
def wordLongMultipliesUptoRow : OpenClaim := { program := "ytmabamijogbbnaa", sum := "daaac8b99bdba2c12d10047e472a29f0a0fd80f6fd0cc43a97878448600259dd", func := "jobshop/jobshoplaw01.WordLongMultiplies", spec := "wordLongMultiplies", apart := false, narrowed := true }
def WordLongMultipliesUptoSaid : Prop := wordLongMultipliesUptoRow.holds Try.pinned (OpenSpec.upto wordLongMultipliesSpec)

/-- 'jobshoplaw01.WordProductShifts', WHERE WHAT IT READS IS OF BULK AT MOST 1048576: true; the input reads as it did. -/
def wordProductShiftsUptoRow : OpenClaim := { program := "ytmabamijogbbnaa", sum := "daaac8b99bdba2c12d10047e472a29f0a0fd80f6fd0cc43a97878448600259dd", func := "jobshop/jobshoplaw01.WordProductShifts", spec := "wordProductShifts", apart := false, narrowed := true }
def WordProductShiftsUptoSaid : Prop := wordProductShiftsUptoRow.holds Try.pinned (OpenSpec.upto wordProductShiftsSpec)

/-- 'jobshoplaw01.WordShifts', WHERE WHAT IT READS IS OF BULK AT MOST 1048576: true; the input reads as it did. -/
def wordShiftsUptoRow : OpenClaim := { program := "ytmabamijogbbnaa", sum := "daaac8b99bdba2c12d10047e472a29f0a0fd80f6fd0cc43a97878448600259dd", func := "jobshop/jobshoplaw01.WordShifts", spec := "wordShifts", apart := false, narrowed := true }
def WordShiftsUptoSaid : Prop := wordShiftsUptoRow.holds Try.pinned (OpenSpec.upto wordShiftsSpec)

/-- 'jobshoplaw01.WordShiftsMultiply', WHERE WHAT IT READS IS OF BULK AT MOST 1048576: true; the input reads as it did. -/
def wordShiftsMultiplyUptoRow : OpenClaim := { program := "ytmabamijogbbnaa", sum := "daaac8b99bdba2c12d10047e472a29f0a0fd80f6fd0cc43a97878448600259dd", func := "jobshop/jobshoplaw01.WordShiftsMultiply", spec := "wordShiftsMultiply", apart := false, narrowed := true }
def WordShiftsMultiplyUptoSaid : Prop := wordShiftsMultiplyUptoRow.holds Try.pinned (OpenSpec.upto wordShiftsMultiplySpec)

/-- 'jobshoplaw01.WordShiftsInParts', WHERE WHAT IT READS IS OF BULK AT MOST 1048576: true; the input reads as it did. -/
def wordShiftsInPartsUptoRow : OpenClaim := { program := "ytmabamijogbbnaa", sum := "daaac8b99bdba2c12d10047e472a29f0a0fd80f6fd0cc43a97878448600259dd", func := "jobshop/jobshoplaw01.WordShiftsInParts", spec := "wordShiftsInParts", apart := false, narrowed := true }
def WordShiftsInPartsUptoSaid : Prop := wordShiftsInPartsUptoRow.holds Try.pinned (OpenSpec.upto wordShiftsInPartsSpec)

/-- 'jobshoplaw01.WordKnown', WHERE WHAT IT READS IS OF BULK AT MOST 1048576: true; the input reads as it did. -/
def wordKnownUptoRow : OpenClaim := { program := "ytmabamijogbbnaa", sum := "daaac8b99bdba2c12d10047e472a29f0a0fd80f6fd0cc43a97878448600259dd", func := "jobshop/jobshoplaw01.WordKnown", spec := "wordKnown", apart := false, narrowed := true }
def WordKnownUptoSaid : Prop := wordKnownUptoRow.holds Try.pinned (OpenSpec.upto wordKnownSpec)

end Rows
end Go.Proofs.Ytmabamijogbbnaa
