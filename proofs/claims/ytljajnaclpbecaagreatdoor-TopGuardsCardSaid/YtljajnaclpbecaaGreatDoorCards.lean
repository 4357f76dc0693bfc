/-
  DERIVED. GIVEN WITH THE SEED: THE CARDS: each row of YtljajnaclpbecaaGreatDoorRows.lean that lists a variable, with what it lists TIED to the program's text (the seventh form; the later family's looks); each row that meets fmt, with fmt's text TOLD by the authors' own Lean function (tested against real Go, not proved from fmt's source: count such statements apart). THE CARD IS WHAT COUNTS. Prove the row's statement (the work); the ties are given (YtljajnaclpbecaaGreatDoorTie.lean); close each card by the builder's one call (the guide's Derived/Test/ToyasCard.lean, 'card_holds'). Laid BY PROGRAM, IN A SANDBOX (cutbox-door.mjs). By AI agents, Wed Nov 11 2026. No macro, syntax, notation, axiom, sorry.
-/
import Derived.Test.YtljajnaclpbecaaGreatDoorRows
import GoSem.ClaimSeven
namespace Go.Proofs.YtljajnaclpbecaaGreatDoor
namespace Rows

/-- THE TIED CARD OF 'jobshoptop.TopGuards'. -/
def topGuardsCard : Claim7 := { stood := { row := topGuardsRow, standIns := [], harness := (true, "3fd9dd237a96e907f835589ca18451a8cd01a7f1e968c804d45186a4ee567112"), looks := true }, kinds := [], alts := [], laidByText := true, laidKinds := [.data, .data, .data], laidTests := true, laidLooks := .later }
def TopGuardsCardSaid : Prop := Claim7.holds Tryz.pinned (.plain (OpenSpec.ofChange topGuardsSpec)) topGuardsCard

/-- THE TIED CARD OF 'jobshoptop.TopDigits'. -/
def topDigitsCard : Claim7 := { stood := { row := topDigitsRow, standIns := [], harness := (true, "3fd9dd237a96e907f835589ca18451a8cd01a7f1e968c804d45186a4ee567112"), looks := true }, kinds := [], alts := [], laidByText := true, laidKinds := [.data, .data, .data], laidTests := true, laidLooks := .later }
def TopDigitsCardSaid : Prop := Claim7.holds Tryz.pinned (.plain (OpenSpec.ofChange topDigitsSpec)) topDigitsCard

/-- THE SECOND FORM's CARD OF 'jobshoptop.TopGuards'. -/
def topGuardsUptoCard : Claim7 := { stood := { row := topGuardsUptoRow, standIns := [], harness := (true, "3fd9dd237a96e907f835589ca18451a8cd01a7f1e968c804d45186a4ee567112"), looks := true }, kinds := [], alts := [], laidByText := true, laidKinds := [.data, .data, .data], laidTests := true, laidLooks := .later }
def TopGuardsUptoCardSaid : Prop := Claim7.holds Tryz.pinned (.plain (OpenSpec.upto topGuardsSpec)) topGuardsUptoCard

/-- THE SECOND FORM's CARD OF 'jobshoptop.TopDigits'. -/
def topDigitsUptoCard : Claim7 := { stood := { row := topDigitsUptoRow, standIns := [], harness := (true, "3fd9dd237a96e907f835589ca18451a8cd01a7f1e968c804d45186a4ee567112"), looks := true }, kinds := [], alts := [], laidByText := true, laidKinds := [.data, .data, .data], laidTests := true, laidLooks := .later }
def TopDigitsUptoCardSaid : Prop := Claim7.holds Tryz.pinned (.plain (OpenSpec.upto topDigitsSpec)) topDigitsUptoCard
end Rows
end Go.Proofs.YtljajnaclpbecaaGreatDoor
