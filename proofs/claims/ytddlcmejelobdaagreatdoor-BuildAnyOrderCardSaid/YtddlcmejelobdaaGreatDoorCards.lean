/-
  DERIVED. GIVEN WITH THE SEED: THE CARDS: each row of YtddlcmejelobdaaGreatDoorRows.lean that lists a variable, with what it lists TIED to the program's text (the seventh form; the later family's looks); each row that meets fmt, with fmt's text TOLD by the authors' own Lean function (tested against real Go, not proved from fmt's source: count such statements apart). THE CARD IS WHAT COUNTS. Prove the row's statement (the work); the ties are given (YtddlcmejelobdaaGreatDoorTie.lean); close each card by the builder's one call (the guide's Derived/Test/ToyasCard.lean, 'card_holds'). Laid BY PROGRAM, IN A SANDBOX (cutbox-door.mjs). By AI agents, Wed Nov 11 2026. No macro, syntax, notation, axiom, sorry.
-/
import Derived.Test.YtddlcmejelobdaaGreatDoorRows
import GoSem.ClaimSeven
namespace Go.Proofs.YtddlcmejelobdaaGreatDoor
namespace Rows

/-- THE TIED CARD OF 'nosalelaw05.BuildStocked'. -/
def buildStockedCard : Claim7 := { stood := { row := buildStockedRow, standIns := [], harness := (true, "d21bd67031cd145a7d6763941cd9ecf1711f3297c089475bad4f10b97f158b8c"), looks := false }, kinds := [], alts := [], goes := true, laidByText := true, laidKinds := [.funcs], laidTests := true, laidLooks := .later }
def BuildStockedCardSaid : Prop := Claim7.holds Tryz.pinned (.plain (OpenSpec.ofChange buildStockedSpec)) buildStockedCard

/-- THE TIED CARD OF 'nosalelaw05.BuildChoices'. -/
def buildChoicesCard : Claim7 := { stood := { row := buildChoicesRow, standIns := [], harness := (true, "d21bd67031cd145a7d6763941cd9ecf1711f3297c089475bad4f10b97f158b8c"), looks := false }, kinds := [], alts := [], goes := true, laidByText := true, laidKinds := [.funcs], laidTests := true, laidLooks := .later }
def BuildChoicesCardSaid : Prop := Claim7.holds Tryz.pinned (.plain (OpenSpec.ofChange buildChoicesSpec)) buildChoicesCard

/-- THE TIED CARD OF 'nosalelaw05.BuildAnyOrder'. -/
def buildAnyOrderCard : Claim7 := { stood := { row := buildAnyOrderRow, standIns := [], harness := (true, "d21bd67031cd145a7d6763941cd9ecf1711f3297c089475bad4f10b97f158b8c"), looks := false }, kinds := [], alts := [], goes := true, laidByText := true, laidKinds := [.funcs], laidTests := true, laidLooks := .later }
def BuildAnyOrderCardSaid : Prop := Claim7.holds Tryz.pinned (.plain (OpenSpec.ofChange buildAnyOrderSpec)) buildAnyOrderCard

/-- THE TIED CARD OF 'nosalelaw05.BuildClashes'. -/
def buildClashesCard : Claim7 := { stood := { row := buildClashesRow, standIns := [], harness := (true, "d21bd67031cd145a7d6763941cd9ecf1711f3297c089475bad4f10b97f158b8c"), looks := false }, kinds := [], alts := [], goes := true, laidByText := true, laidKinds := [.funcs], laidTests := true, laidLooks := .later }
def BuildClashesCardSaid : Prop := Claim7.holds Tryz.pinned (.plain (OpenSpec.ofChange buildClashesSpec)) buildClashesCard

/-- THE TIED CARD OF 'nosalelaw05.BuildNews'. -/
def buildNewsCard : Claim7 := { stood := { row := buildNewsRow, standIns := [], harness := (true, "d21bd67031cd145a7d6763941cd9ecf1711f3297c089475bad4f10b97f158b8c"), looks := false }, kinds := [], alts := [], goes := true, laidByText := true, laidKinds := [.funcs], laidTests := true, laidLooks := .later }
def BuildNewsCardSaid : Prop := Claim7.holds Tryz.pinned (.plain (OpenSpec.ofChange buildNewsSpec)) buildNewsCard

/-- THE SECOND FORM's CARD OF 'nosalelaw05.BuildStocked'. -/
def buildStockedUptoCard : Claim7 := { stood := { row := buildStockedUptoRow, standIns := [], harness := (true, "d21bd67031cd145a7d6763941cd9ecf1711f3297c089475bad4f10b97f158b8c"), looks := false }, kinds := [], alts := [], goes := true, laidByText := true, laidKinds := [.funcs], laidTests := true, laidLooks := .later }
def BuildStockedUptoCardSaid : Prop := Claim7.holds Tryz.pinned (.plain (OpenSpec.upto buildStockedSpec)) buildStockedUptoCard

/-- THE SECOND FORM's CARD OF 'nosalelaw05.BuildChoices'. -/
def buildChoicesUptoCard : Claim7 := { stood := { row := buildChoicesUptoRow, standIns := [], harness := (true, "d21bd67031cd145a7d6763941cd9ecf1711f3297c089475bad4f10b97f158b8c"), looks := false }, kinds := [], alts := [], goes := true, laidByText := true, laidKinds := [.funcs], laidTests := true, laidLooks := .later }
def BuildChoicesUptoCardSaid : Prop := Claim7.holds Tryz.pinned (.plain (OpenSpec.upto buildChoicesSpec)) buildChoicesUptoCard

/-- THE SECOND FORM's CARD OF 'nosalelaw05.BuildAnyOrder'. -/
def buildAnyOrderUptoCard : Claim7 := { stood := { row := buildAnyOrderUptoRow, standIns := [], harness := (true, "d21bd67031cd145a7d6763941cd9ecf1711f3297c089475bad4f10b97f158b8c"), looks := false }, kinds := [], alts := [], goes := true, laidByText := true, laidKinds := [.funcs], laidTests := true, laidLooks := .later }
def BuildAnyOrderUptoCardSaid : Prop := Claim7.holds Tryz.pinned (.plain (OpenSpec.upto buildAnyOrderSpec)) buildAnyOrderUptoCard

/-- THE SECOND FORM's CARD OF 'nosalelaw05.BuildClashes'. -/
def buildClashesUptoCard : Claim7 := { stood := { row := buildClashesUptoRow, standIns := [], harness := (true, "d21bd67031cd145a7d6763941cd9ecf1711f3297c089475bad4f10b97f158b8c"), looks := false }, kinds := [], alts := [], goes := true, laidByText := true, laidKinds := [.funcs], laidTests := true, laidLooks := .later }
def BuildClashesUptoCardSaid : Prop := Claim7.holds Tryz.pinned (.plain (OpenSpec.upto buildClashesSpec)) buildClashesUptoCard

/-- THE SECOND FORM's CARD OF 'nosalelaw05.BuildNews'. -/
def buildNewsUptoCard : Claim7 := { stood := { row := buildNewsUptoRow, standIns := [], harness := (true, "d21bd67031cd145a7d6763941cd9ecf1711f3297c089475bad4f10b97f158b8c"), looks := false }, kinds := [], alts := [], goes := true, laidByText := true, laidKinds := [.funcs], laidTests := true, laidLooks := .later }
def BuildNewsUptoCardSaid : Prop := Claim7.holds Tryz.pinned (.plain (OpenSpec.upto buildNewsSpec)) buildNewsUptoCard
end Rows
end Go.Proofs.YtddlcmejelobdaaGreatDoor
