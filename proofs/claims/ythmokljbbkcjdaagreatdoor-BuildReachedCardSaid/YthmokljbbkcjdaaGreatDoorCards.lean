/-
  DERIVED. GIVEN WITH THE SEED: THE CARDS: each row of YthmokljbbkcjdaaGreatDoorRows.lean that lists a variable, with what it lists TIED to the program's text (the seventh form; the later family's looks); each row that meets fmt, with fmt's text TOLD by the authors' own Lean function (tested against real Go, not proved from fmt's source: count such statements apart). THE CARD IS WHAT COUNTS. Prove the row's statement (the work); the ties are given (YthmokljbbkcjdaaGreatDoorTie.lean); close each card by the builder's one call (the guide's Derived/Test/ToyasCard.lean, 'card_holds'). Laid BY PROGRAM, IN A SANDBOX (cutbox-door.mjs). By AI agents, Wed Nov 11 2026. No macro, syntax, notation, axiom, sorry.
-/
import Derived.Test.YthmokljbbkcjdaaGreatDoorRows
import GoSem.ClaimSeven
namespace Go.Proofs.YthmokljbbkcjdaaGreatDoor
namespace Rows

/-- THE TIED CARD OF 'nosalelaw05.BuildWhy'. -/
def buildWhyCard : Claim7 := { stood := { row := buildWhyRow, standIns := [], harness := (true, "deff9c88a88476826a06dadbedf48f1a799a4f01fa0a6dc3b72ecf3fe82428c9"), looks := false }, kinds := [], alts := [], goes := true, laidByText := true, laidKinds := [.funcs], laidTests := true, laidLooks := .later }
def BuildWhyCardSaid : Prop := Claim7.holds Tryz.pinned (.plain (OpenSpec.ofChange buildWhySpec)) buildWhyCard

/-- THE TIED CARD OF 'nosalelaw05.BuildNeeds'. -/
def buildNeedsCard : Claim7 := { stood := { row := buildNeedsRow, standIns := [], harness := (true, "deff9c88a88476826a06dadbedf48f1a799a4f01fa0a6dc3b72ecf3fe82428c9"), looks := false }, kinds := [], alts := [], goes := true, laidByText := true, laidKinds := [.funcs], laidTests := true, laidLooks := .later }
def BuildNeedsCardSaid : Prop := Claim7.holds Tryz.pinned (.plain (OpenSpec.ofChange buildNeedsSpec)) buildNeedsCard

/-- THE TIED CARD OF 'nosalelaw05.BuildStocked'. -/
def buildStockedCard : Claim7 := { stood := { row := buildStockedRow, standIns := [], harness := (true, "deff9c88a88476826a06dadbedf48f1a799a4f01fa0a6dc3b72ecf3fe82428c9"), looks := false }, kinds := [], alts := [], goes := true, laidByText := true, laidKinds := [.funcs], laidTests := true, laidLooks := .later }
def BuildStockedCardSaid : Prop := Claim7.holds Tryz.pinned (.plain (OpenSpec.ofChange buildStockedSpec)) buildStockedCard

/-- THE TIED CARD OF 'nosalelaw05.BuildReached'. -/
def buildReachedCard : Claim7 := { stood := { row := buildReachedRow, standIns := [], harness := (true, "deff9c88a88476826a06dadbedf48f1a799a4f01fa0a6dc3b72ecf3fe82428c9"), looks := false }, kinds := [], alts := [], goes := true, laidByText := true, laidKinds := [.funcs], laidTests := true, laidLooks := .later }
def BuildReachedCardSaid : Prop := Claim7.holds Tryz.pinned (.plain (OpenSpec.ofChange buildReachedSpec)) buildReachedCard

/-- THE TIED CARD OF 'nosalelaw05.BuildSum'. -/
def buildSumCard : Claim7 := { stood := { row := buildSumRow, standIns := [], harness := (true, "deff9c88a88476826a06dadbedf48f1a799a4f01fa0a6dc3b72ecf3fe82428c9"), looks := false }, kinds := [], alts := [], goes := true, laidByText := true, laidKinds := [.funcs], laidTests := true, laidLooks := .later }
def BuildSumCardSaid : Prop := Claim7.holds Tryz.pinned (.plain (OpenSpec.ofChange buildSumSpec)) buildSumCard

/-- THE TIED CARD OF 'nosalelaw05.BuildBest'. -/
def buildBestCard : Claim7 := { stood := { row := buildBestRow, standIns := [], harness := (true, "deff9c88a88476826a06dadbedf48f1a799a4f01fa0a6dc3b72ecf3fe82428c9"), looks := false }, kinds := [], alts := [], goes := true, laidByText := true, laidKinds := [.funcs], laidTests := true, laidLooks := .later }
def BuildBestCardSaid : Prop := Claim7.holds Tryz.pinned (.plain (OpenSpec.ofChange buildBestSpec)) buildBestCard

/-- THE SECOND FORM's CARD OF 'nosalelaw05.BuildWhy'. -/
def buildWhyUptoCard : Claim7 := { stood := { row := buildWhyUptoRow, standIns := [], harness := (true, "deff9c88a88476826a06dadbedf48f1a799a4f01fa0a6dc3b72ecf3fe82428c9"), looks := false }, kinds := [], alts := [], goes := true, laidByText := true, laidKinds := [.funcs], laidTests := true, laidLooks := .later }
def BuildWhyUptoCardSaid : Prop := Claim7.holds Tryz.pinned (.plain (OpenSpec.upto buildWhySpec)) buildWhyUptoCard

/-- THE SECOND FORM's CARD OF 'nosalelaw05.BuildNeeds'. -/
def buildNeedsUptoCard : Claim7 := { stood := { row := buildNeedsUptoRow, standIns := [], harness := (true, "deff9c88a88476826a06dadbedf48f1a799a4f01fa0a6dc3b72ecf3fe82428c9"), looks := false }, kinds := [], alts := [], goes := true, laidByText := true, laidKinds := [.funcs], laidTests := true, laidLooks := .later }
def BuildNeedsUptoCardSaid : Prop := Claim7.holds Tryz.pinned (.plain (OpenSpec.upto buildNeedsSpec)) buildNeedsUptoCard

/-- THE SECOND FORM's CARD OF 'nosalelaw05.BuildStocked'. -/
def buildStockedUptoCard : Claim7 := { stood := { row := buildStockedUptoRow, standIns := [], harness := (true, "deff9c88a88476826a06dadbedf48f1a799a4f01fa0a6dc3b72ecf3fe82428c9"), looks := false }, kinds := [], alts := [], goes := true, laidByText := true, laidKinds := [.funcs], laidTests := true, laidLooks := .later }
def BuildStockedUptoCardSaid : Prop := Claim7.holds Tryz.pinned (.plain (OpenSpec.upto buildStockedSpec)) buildStockedUptoCard

/-- THE SECOND FORM's CARD OF 'nosalelaw05.BuildReached'. -/
def buildReachedUptoCard : Claim7 := { stood := { row := buildReachedUptoRow, standIns := [], harness := (true, "deff9c88a88476826a06dadbedf48f1a799a4f01fa0a6dc3b72ecf3fe82428c9"), looks := false }, kinds := [], alts := [], goes := true, laidByText := true, laidKinds := [.funcs], laidTests := true, laidLooks := .later }
def BuildReachedUptoCardSaid : Prop := Claim7.holds Tryz.pinned (.plain (OpenSpec.upto buildReachedSpec)) buildReachedUptoCard

/-- THE SECOND FORM's CARD OF 'nosalelaw05.BuildSum'. -/
def buildSumUptoCard : Claim7 := { stood := { row := buildSumUptoRow, standIns := [], harness := (true, "deff9c88a88476826a06dadbedf48f1a799a4f01fa0a6dc3b72ecf3fe82428c9"), looks := false }, kinds := [], alts := [], goes := true, laidByText := true, laidKinds := [.funcs], laidTests := true, laidLooks := .later }
def BuildSumUptoCardSaid : Prop := Claim7.holds Tryz.pinned (.plain (OpenSpec.upto buildSumSpec)) buildSumUptoCard

/-- THE SECOND FORM's CARD OF 'nosalelaw05.BuildBest'. -/
def buildBestUptoCard : Claim7 := { stood := { row := buildBestUptoRow, standIns := [], harness := (true, "deff9c88a88476826a06dadbedf48f1a799a4f01fa0a6dc3b72ecf3fe82428c9"), looks := false }, kinds := [], alts := [], goes := true, laidByText := true, laidKinds := [.funcs], laidTests := true, laidLooks := .later }
def BuildBestUptoCardSaid : Prop := Claim7.holds Tryz.pinned (.plain (OpenSpec.upto buildBestSpec)) buildBestUptoCard
end Rows
end Go.Proofs.YthmokljbbkcjdaaGreatDoor
