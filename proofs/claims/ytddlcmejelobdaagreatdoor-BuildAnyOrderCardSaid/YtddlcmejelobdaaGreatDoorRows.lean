/-
  NARROWER THAN 'FOR EVERY INPUT', by the rows' own cells (each row's printed sentence says how): BuildStocked: laid · BuildChoices: laid · BuildAnyOrder: laid · BuildClashes: laid · BuildNews: laid.
  DERIVED. THE GIVEN ROWS OF THIS SEAT. 5 by the template 'for every input the law returns true; each argument reads behind the call as it read before'; 0 by the template 'total and deterministic' (their statements: YtddlcmejelobdaaGreatDoorTotals.lean).
  GIVEN WITH THE SEED: the statements are not yours to turn. If you find one false, say at which input.
  Laid BY PROGRAM, IN A SANDBOX (cutbox-rows.mjs): the forced cells as the released guide's own fill.sh prints them over the translation e466c46cbc494fbf… (all of the seat's roots in one cut). By AI agents, Wed Nov 11 2026. No macro, syntax, notation, axiom, sorry.
-/
import Derived.Test.YtddlcmejelobdaaGreatDoorChecked
import GoSem.Claim
import GoSem.ClaimJoined
import GoSem.ClaimMapViews
import Derived.JoinedTies
import Derived.KernelRfl
namespace Go.Proofs.YtddlcmejelobdaaGreatDoor
/- THE CELL 'sum', in the pinned program and in every row, IS THE sha256 OF THE DUMP (.gsa) THAT YtddlcmejelobdaaGreatDoorProg.lean LOADS. Nothing in Lean hashes anything: it is a label: what it is worth is what the hold of that sum in a sandbox is worth. -/
noncomputable def Tryz.pinned : Pinned := { name := "ytddlcmejelobdaagreatdoor", sum := "e466c46cbc494fbfe2c5b6d83298cddecc41fa476f68e948e622cee27bff6611", checked := Tryz.checked }
namespace Rows
def none {H : Type} : Left H := { results := [], args := [] }

/- WHAT THE LISTED PACKAGE-LEVEL VARIABLES READ AS WHEN THE CALL BEGINS. Each datum BY PROGRAM (the guide's laid-datum.mjs) off the statement by which the dump's own 'gosem.cut.vars' lays the variable. In a bare row this is a premise. The card (YtddlcmejelobdaaGreatDoorCards.lean) ties it to the program's text. -/
def laid_nosale_build_checks {H : Type} : DataW H := .iface "func table" (.agg [.iface "func" (.lit (.string [40, 110, 111, 115, 97, 108, 101, 47, 98, 117, 105, 108, 100, 46, 98, 111, 111, 107, 41, 46, 111, 114, 100, 101, 114])), .iface "func" (.lit (.string [40, 110, 111, 115, 97, 108, 101, 47, 98, 117, 105, 108, 100, 46, 98, 111, 111, 107, 41, 46, 112, 97, 114, 116, 115])), .iface "func" (.lit (.string [40, 110, 111, 115, 97, 108, 101, 47, 98, 117, 105, 108, 100, 46, 98, 111, 111, 107, 41, 46, 112, 97, 105, 114, 115])), .iface "func" (.lit (.string [40, 110, 111, 115, 97, 108, 101, 47, 98, 117, 105, 108, 100, 46, 98, 111, 111, 107, 41, 46, 116, 114, 105, 97, 108, 115]))])

/-- 'nosalelaw05.BuildStocked': WHATEVER THE INPUT: true; the input reads as it did. -/
def buildStockedSpec : ChangeSpec := { name := "buildStocked", fn := fun _ => fun
  | [d1, d2, d3] => { results := [.lit (.bool true)], args := [d1, d2, d3] }
  | _ => none }
def buildStockedRow : OpenClaim := { program := "ytddlcmejelobdaagreatdoor", sum := "e466c46cbc494fbfe2c5b6d83298cddecc41fa476f68e948e622cee27bff6611", func := "nosale/nosalelaw05.BuildStocked", spec := "buildStocked", unfollowed := true, recurses := true, named := ["nosale/build.checks"], plainKeys := false, leaving := true, apart := false, laid := [("nosale/build.checks", laid_nosale_build_checks)] }
def BuildStockedSaid : Prop := buildStockedRow.holds Tryz.pinned (OpenSpec.ofChange buildStockedSpec)

/-- ITS FALSE NEIGHBOUR: 'it returns false'. Refute it at one input. -/
def buildStockedWrong : ChangeSpec := { name := "buildStocked", fn := fun _ => fun
  | [d1, d2, d3] => { results := [.lit (.bool false)], args := [d1, d2, d3] }
  | _ => none }
def BuildStockedWrongFalsely : Prop := buildStockedRow.holds Tryz.pinned (OpenSpec.ofChange buildStockedWrong)

/-- 'nosalelaw05.BuildChoices': WHATEVER THE INPUT: true; the input reads as it did. -/
def buildChoicesSpec : ChangeSpec := { name := "buildChoices", fn := fun _ => fun
  | [d] => { results := [.lit (.bool true)], args := [d] }
  | _ => none }
def buildChoicesRow : OpenClaim := { program := "ytddlcmejelobdaagreatdoor", sum := "e466c46cbc494fbfe2c5b6d83298cddecc41fa476f68e948e622cee27bff6611", func := "nosale/nosalelaw05.BuildChoices", spec := "buildChoices", unfollowed := true, recurses := true, named := ["nosale/build.checks"], plainKeys := false, leaving := true, apart := false, laid := [("nosale/build.checks", laid_nosale_build_checks)] }
def BuildChoicesSaid : Prop := buildChoicesRow.holds Tryz.pinned (OpenSpec.ofChange buildChoicesSpec)

/-- ITS FALSE NEIGHBOUR: 'it returns false'. Refute it at one input. -/
def buildChoicesWrong : ChangeSpec := { name := "buildChoices", fn := fun _ => fun
  | [d] => { results := [.lit (.bool false)], args := [d] }
  | _ => none }
def BuildChoicesWrongFalsely : Prop := buildChoicesRow.holds Tryz.pinned (OpenSpec.ofChange buildChoicesWrong)

/-- 'nosalelaw05.BuildAnyOrder': WHATEVER THE INPUT: true; the input reads as it did. -/
def buildAnyOrderSpec : ChangeSpec := { name := "buildAnyOrder", fn := fun _ => fun
  | [d1, d2] => { results := [.lit (.bool true)], args := [d1, d2] }
  | _ => none }
def buildAnyOrderRow : OpenClaim := { program := "ytddlcmejelobdaagreatdoor", sum := "e466c46cbc494fbfe2c5b6d83298cddecc41fa476f68e948e622cee27bff6611", func := "nosale/nosalelaw05.BuildAnyOrder", spec := "buildAnyOrder", unfollowed := true, recurses := true, named := ["nosale/build.checks"], plainKeys := false, leaving := true, apart := false, laid := [("nosale/build.checks", laid_nosale_build_checks)] }
def BuildAnyOrderSaid : Prop := buildAnyOrderRow.holds Tryz.pinned (OpenSpec.ofChange buildAnyOrderSpec)

/-- ITS FALSE NEIGHBOUR: 'it returns false'. Refute it at one input. -/
def buildAnyOrderWrong : ChangeSpec := { name := "buildAnyOrder", fn := fun _ => fun
  | [d1, d2] => { results := [.lit (.bool false)], args := [d1, d2] }
  | _ => none }
def BuildAnyOrderWrongFalsely : Prop := buildAnyOrderRow.holds Tryz.pinned (OpenSpec.ofChange buildAnyOrderWrong)

/-- 'nosalelaw05.BuildClashes': WHATEVER THE INPUT: true; the input reads as it did. -/
def buildClashesSpec : ChangeSpec := { name := "buildClashes", fn := fun _ => fun
  | [d1, d2] => { results := [.lit (.bool true)], args := [d1, d2] }
  | _ => none }
def buildClashesRow : OpenClaim := { program := "ytddlcmejelobdaagreatdoor", sum := "e466c46cbc494fbfe2c5b6d83298cddecc41fa476f68e948e622cee27bff6611", func := "nosale/nosalelaw05.BuildClashes", spec := "buildClashes", unfollowed := true, recurses := true, named := ["nosale/build.checks"], plainKeys := false, leaving := true, apart := false, laid := [("nosale/build.checks", laid_nosale_build_checks)] }
def BuildClashesSaid : Prop := buildClashesRow.holds Tryz.pinned (OpenSpec.ofChange buildClashesSpec)

/-- ITS FALSE NEIGHBOUR: 'it returns false'. Refute it at one input. -/
def buildClashesWrong : ChangeSpec := { name := "buildClashes", fn := fun _ => fun
  | [d1, d2] => { results := [.lit (.bool false)], args := [d1, d2] }
  | _ => none }
def BuildClashesWrongFalsely : Prop := buildClashesRow.holds Tryz.pinned (OpenSpec.ofChange buildClashesWrong)

/-- 'nosalelaw05.BuildNews': WHATEVER THE INPUT: true; the input reads as it did. -/
def buildNewsSpec : ChangeSpec := { name := "buildNews", fn := fun _ => fun
  | [d1, d2, d3, d4] => { results := [.lit (.bool true)], args := [d1, d2, d3, d4] }
  | _ => none }
def buildNewsRow : OpenClaim := { program := "ytddlcmejelobdaagreatdoor", sum := "e466c46cbc494fbfe2c5b6d83298cddecc41fa476f68e948e622cee27bff6611", func := "nosale/nosalelaw05.BuildNews", spec := "buildNews", unfollowed := true, recurses := true, named := ["nosale/build.checks"], plainKeys := false, leaving := true, apart := false, laid := [("nosale/build.checks", laid_nosale_build_checks)] }
def BuildNewsSaid : Prop := buildNewsRow.holds Tryz.pinned (OpenSpec.ofChange buildNewsSpec)

/-- ITS FALSE NEIGHBOUR: 'it returns false'. Refute it at one input. -/
def buildNewsWrong : ChangeSpec := { name := "buildNews", fn := fun _ => fun
  | [d1, d2, d3, d4] => { results := [.lit (.bool false)], args := [d1, d2, d3, d4] }
  | _ => none }
def BuildNewsWrongFalsely : Prop := buildNewsRow.holds Tryz.pinned (OpenSpec.ofChange buildNewsWrong)

/- THE SECOND FORM. 'bulk': how many values and letters a reading holds, each counted each time it is reached (what is shared counts as often as it is met; a slice's spare places count too). A statement '..UptoSaid' is the law's where the arguments, and the package variables that the reading takes, are together of bulk at most 1048576: NARROWER than '..Said'. Prove '..Said' where nothing that the law and all that it calls make is longer than what came in: it says more and counts as full. Else prove '..UptoSaid'. A law counts once. -/
mutual
def uptoBulk {H : Type} : DataW H → Nat
  | .lit (.string bytes) => bytes.length + 1
  | .lit _ => 1
  | .nil => 1
  | .ptr d => uptoBulk d + 1
  | .slice elems spare => uptoBulkAll elems + uptoBulkAll spare + 1
  | .agg parts => uptoBulkAll parts + 1
  | .iface _ d => uptoBulk d + 1
  | .map entries => uptoBulkEntries entries + 1
  | .held _ => 1
def uptoBulkAll {H : Type} : List (DataW H) → Nat
  | [] => 0
  | d :: r => uptoBulk d + uptoBulkAll r
def uptoBulkEntries {H : Type} : List (Lit × DataW H) → Nat
  | [] => 0
  | x :: r => uptoBulkEntry x + uptoBulkEntries r
def uptoBulkEntry {H : Type} : Lit × DataW H → Nat
  | (.string bytes, d) => bytes.length + uptoBulk d + 1
  | (_, d) => uptoBulk d + 1
 end
def uptoSmall : (H : Type) → List (DataW H) → Bool := fun _ ds => decide (uptoBulkAll ds ≤ 1048576)
def OpenSpec.upto (s : _root_.Go.ChangeSpec) : _root_.Go.OpenSpec := { _root_.Go.OpenSpec.ofChange s with cond := some uptoSmall }

/-- 'nosalelaw05.BuildStocked', WHERE WHAT IT READS IS OF BULK AT MOST 1048576: true; the input reads as it did. -/
def buildStockedUptoRow : OpenClaim := { program := "ytddlcmejelobdaagreatdoor", sum := "e466c46cbc494fbfe2c5b6d83298cddecc41fa476f68e948e622cee27bff6611", func := "nosale/nosalelaw05.BuildStocked", spec := "buildStocked", unfollowed := true, recurses := true, named := ["nosale/build.checks"], plainKeys := false, leaving := true, apart := false, laid := [("nosale/build.checks", laid_nosale_build_checks)], narrowed := true }
def BuildStockedUptoSaid : Prop := buildStockedUptoRow.holds Tryz.pinned (OpenSpec.upto buildStockedSpec)

/-- 'nosalelaw05.BuildChoices', WHERE WHAT IT READS IS OF BULK AT MOST 1048576: true; the input reads as it did. -/
def buildChoicesUptoRow : OpenClaim := { program := "ytddlcmejelobdaagreatdoor", sum := "e466c46cbc494fbfe2c5b6d83298cddecc41fa476f68e948e622cee27bff6611", func := "nosale/nosalelaw05.BuildChoices", spec := "buildChoices", unfollowed := true, recurses := true, named := ["nosale/build.checks"], plainKeys := false, leaving := true, apart := false, laid := [("nosale/build.checks", laid_nosale_build_checks)], narrowed := true }
def BuildChoicesUptoSaid : Prop := buildChoicesUptoRow.holds Tryz.pinned (OpenSpec.upto buildChoicesSpec)

/-- 'nosalelaw05.BuildAnyOrder', WHERE WHAT IT READS IS OF BULK AT MOST 1048576: true; the input reads as it did. -/
def buildAnyOrderUptoRow : OpenClaim := { program := "ytddlcmejelobdaagreatdoor", sum := "e466c46cbc494fbfe2c5b6d83298cddecc41fa476f68e948e622cee27bff6611", func := "nosale/nosalelaw05.BuildAnyOrder", spec := "buildAnyOrder", unfollowed := true, recurses := true, named := ["nosale/build.checks"], plainKeys := false, leaving := true, apart := false, laid := [("nosale/build.checks", laid_nosale_build_checks)], narrowed := true }
def BuildAnyOrderUptoSaid : Prop := buildAnyOrderUptoRow.holds Tryz.pinned (OpenSpec.upto buildAnyOrderSpec)

/-- 'nosalelaw05.BuildClashes', WHERE WHAT IT READS IS OF BULK AT MOST 1048576: true; the input reads as it did. -/
def buildClashesUptoRow : OpenClaim := { program := "ytddlcmejelobdaagreatdoor", sum := "e466c46cbc494fbfe2c5b6d83298cddecc41fa476f68e948e622cee27bff6611", func := "nosale/nosalelaw05.BuildClashes", spec := "buildClashes", unfollowed := true, recurses := true, named := ["nosale/build.checks"], plainKeys := false, leaving := true, apart := false, laid := [("nosale/build.checks", laid_nosale_build_checks)], narrowed := true }
def BuildClashesUptoSaid : Prop := buildClashesUptoRow.holds Tryz.pinned (OpenSpec.upto buildClashesSpec)

/-- 'nosalelaw05.BuildNews', WHERE WHAT IT READS IS OF BULK AT MOST 1048576: true; the input reads as it did. -/
def buildNewsUptoRow : OpenClaim := { program := "ytddlcmejelobdaagreatdoor", sum := "e466c46cbc494fbfe2c5b6d83298cddecc41fa476f68e948e622cee27bff6611", func := "nosale/nosalelaw05.BuildNews", spec := "buildNews", unfollowed := true, recurses := true, named := ["nosale/build.checks"], plainKeys := false, leaving := true, apart := false, laid := [("nosale/build.checks", laid_nosale_build_checks)], narrowed := true }
def BuildNewsUptoSaid : Prop := buildNewsUptoRow.holds Tryz.pinned (OpenSpec.upto buildNewsSpec)

end Rows
end Go.Proofs.YtddlcmejelobdaaGreatDoor
