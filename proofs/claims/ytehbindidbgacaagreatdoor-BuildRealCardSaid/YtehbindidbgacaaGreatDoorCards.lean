/-
  DERIVED. GIVEN WITH THE SEED: THE CARDS: each row of YtehbindidbgacaaGreatDoorRows.lean that lists a variable, with what it lists TIED to the program's text (the seventh form; the later family's looks); each row that meets fmt, with fmt's text TOLD by the authors' own Lean function (tested against real Go, not proved from fmt's source: count such statements apart). THE CARD IS WHAT COUNTS. Prove the row's statement (the work); the ties are given (YtehbindidbgacaaGreatDoorTie.lean); close each card by the builder's one call (the guide's Derived/Test/ToyasCard.lean, 'card_holds'). Laid BY PROGRAM, IN A SANDBOX (cutbox-door.mjs). By AI agents, Wed Nov 11 2026. No macro, syntax, notation, axiom, sorry.
-/
import Derived.Test.YtehbindidbgacaaGreatDoorRows
import GoSem.ClaimSeven
namespace Go.Proofs.YtehbindidbgacaaGreatDoor
namespace Rows

/-- THE TIED CARD OF 'nosalelaw05.BuildReal'. -/
def buildRealCard : Claim7 := { stood := { row := buildRealRow, standIns := [], harness := (true, "1b9312770360f7c806582f7de71b656c6949c50e60dfdfb6cd6d42eb4c1231be"), looks := false }, kinds := [], alts := [], goes := true, laidByText := true, laidKinds := [.funcs], laidTests := true, laidLooks := .later }
def BuildRealCardSaid : Prop := Claim7.holds Tryz.pinned (.plain (OpenSpec.ofChange buildRealSpec)) buildRealCard

/-- THE TIED CARD OF 'nosalelaw05.BuildAsked'. -/
def buildAskedCard : Claim7 := { stood := { row := buildAskedRow, standIns := [], harness := (true, "1b9312770360f7c806582f7de71b656c6949c50e60dfdfb6cd6d42eb4c1231be"), looks := false }, kinds := [], alts := [], goes := true, laidByText := true, laidKinds := [.funcs], laidTests := true, laidLooks := .later }
def BuildAskedCardSaid : Prop := Claim7.holds Tryz.pinned (.plain (OpenSpec.ofChange buildAskedSpec)) buildAskedCard

/-- THE TIED CARD OF 'nosalelaw05.BuildLearnt'. -/
def buildLearntCard : Claim7 := { stood := { row := buildLearntRow, standIns := [], harness := (true, "1b9312770360f7c806582f7de71b656c6949c50e60dfdfb6cd6d42eb4c1231be"), looks := false }, kinds := [], alts := [], goes := true, laidByText := true, laidKinds := [.funcs], laidTests := true, laidLooks := .later }
def BuildLearntCardSaid : Prop := Claim7.holds Tryz.pinned (.plain (OpenSpec.ofChange buildLearntSpec)) buildLearntCard

/-- THE SECOND FORM's CARD OF 'nosalelaw05.BuildReal'. -/
def buildRealUptoCard : Claim7 := { stood := { row := buildRealUptoRow, standIns := [], harness := (true, "1b9312770360f7c806582f7de71b656c6949c50e60dfdfb6cd6d42eb4c1231be"), looks := false }, kinds := [], alts := [], goes := true, laidByText := true, laidKinds := [.funcs], laidTests := true, laidLooks := .later }
def BuildRealUptoCardSaid : Prop := Claim7.holds Tryz.pinned (.plain (OpenSpec.upto buildRealSpec)) buildRealUptoCard

/-- THE SECOND FORM's CARD OF 'nosalelaw05.BuildAsked'. -/
def buildAskedUptoCard : Claim7 := { stood := { row := buildAskedUptoRow, standIns := [], harness := (true, "1b9312770360f7c806582f7de71b656c6949c50e60dfdfb6cd6d42eb4c1231be"), looks := false }, kinds := [], alts := [], goes := true, laidByText := true, laidKinds := [.funcs], laidTests := true, laidLooks := .later }
def BuildAskedUptoCardSaid : Prop := Claim7.holds Tryz.pinned (.plain (OpenSpec.upto buildAskedSpec)) buildAskedUptoCard

/-- THE SECOND FORM's CARD OF 'nosalelaw05.BuildLearnt'. -/
def buildLearntUptoCard : Claim7 := { stood := { row := buildLearntUptoRow, standIns := [], harness := (true, "1b9312770360f7c806582f7de71b656c6949c50e60dfdfb6cd6d42eb4c1231be"), looks := false }, kinds := [], alts := [], goes := true, laidByText := true, laidKinds := [.funcs], laidTests := true, laidLooks := .later }
def BuildLearntUptoCardSaid : Prop := Claim7.holds Tryz.pinned (.plain (OpenSpec.upto buildLearntSpec)) buildLearntUptoCard
end Rows
end Go.Proofs.YtehbindidbgacaaGreatDoor
