/-
  DERIVED. GIVEN WITH THE SEED: THE CARDS: each row of YtboiakcocelkmaaGreatDoorRows.lean that lists a variable, with what it lists TIED to the program's text (the seventh form; the later family's looks); each row that meets fmt, with fmt's text TOLD by the authors' own Lean function (tested against real Go, not proved from fmt's source: count such statements apart). THE CARD IS WHAT COUNTS. Prove the row's statement (the work); the ties are given (YtboiakcocelkmaaGreatDoorTie.lean); close each card by the builder's one call (the guide's Derived/Test/ToyasCard.lean, 'card_holds'). Laid BY PROGRAM, IN A SANDBOX (cutbox-door.mjs). By AI agents, Wed Nov 11 2026. No macro, syntax, notation, axiom, sorry.
-/
import Derived.Test.YtboiakcocelkmaaGreatDoorRows
import GoSem.ClaimSeven
namespace Go.Proofs.YtboiakcocelkmaaGreatDoor
namespace Rows

/-- THE TIED CARD OF 'nosalelaw05.BuildTimes'. -/
def buildTimesCard : Claim7 := { stood := { row := buildTimesRow, standIns := [], harness := (true, "62ffe854ef3fe70f475f41cf2bbbb300e9603062f413c6fa32f8f81a39c1212f"), looks := false }, kinds := [], alts := [], goes := true, laidByText := true, laidKinds := [.funcs], laidTests := true, laidLooks := .later }
def BuildTimesCardSaid : Prop := Claim7.holds Tryz.pinned (.plain (OpenSpec.ofChange buildTimesSpec)) buildTimesCard

/-- THE TIED CARD OF 'nosalelaw05.BuildMachines'. -/
def buildMachinesCard : Claim7 := { stood := { row := buildMachinesRow, standIns := [], harness := (true, "62ffe854ef3fe70f475f41cf2bbbb300e9603062f413c6fa32f8f81a39c1212f"), looks := false }, kinds := [], alts := [], goes := true, laidByText := true, laidKinds := [.funcs], laidTests := true, laidLooks := .later }
def BuildMachinesCardSaid : Prop := Claim7.holds Tryz.pinned (.plain (OpenSpec.ofChange buildMachinesSpec)) buildMachinesCard

/-- THE SECOND FORM's CARD OF 'nosalelaw05.BuildTimes'. -/
def buildTimesUptoCard : Claim7 := { stood := { row := buildTimesUptoRow, standIns := [], harness := (true, "62ffe854ef3fe70f475f41cf2bbbb300e9603062f413c6fa32f8f81a39c1212f"), looks := false }, kinds := [], alts := [], goes := true, laidByText := true, laidKinds := [.funcs], laidTests := true, laidLooks := .later }
def BuildTimesUptoCardSaid : Prop := Claim7.holds Tryz.pinned (.plain (OpenSpec.upto buildTimesSpec)) buildTimesUptoCard

/-- THE SECOND FORM's CARD OF 'nosalelaw05.BuildMachines'. -/
def buildMachinesUptoCard : Claim7 := { stood := { row := buildMachinesUptoRow, standIns := [], harness := (true, "62ffe854ef3fe70f475f41cf2bbbb300e9603062f413c6fa32f8f81a39c1212f"), looks := false }, kinds := [], alts := [], goes := true, laidByText := true, laidKinds := [.funcs], laidTests := true, laidLooks := .later }
def BuildMachinesUptoCardSaid : Prop := Claim7.holds Tryz.pinned (.plain (OpenSpec.upto buildMachinesSpec)) buildMachinesUptoCard
end Rows
end Go.Proofs.YtboiakcocelkmaaGreatDoor
