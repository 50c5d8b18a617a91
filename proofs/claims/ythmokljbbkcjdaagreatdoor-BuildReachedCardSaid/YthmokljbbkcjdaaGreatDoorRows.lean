/-
  NARROWER THAN 'FOR EVERY INPUT', by the rows' own cells (each row's printed sentence says how): BuildWhy: laid · BuildNeeds: laid · BuildStocked: laid · BuildReached: laid · BuildSum: laid · BuildBest: laid.
  DERIVED. THE GIVEN ROWS OF THIS SEAT. 6 by the template 'for every input the law returns true; each argument reads behind the call as it read before'; 0 by the template 'total and deterministic' (their statements: YthmokljbbkcjdaaGreatDoorTotals.lean).
  GIVEN WITH THE SEED: the statements are not yours to turn. If you find one false, say at which input.
  Laid BY PROGRAM, IN A SANDBOX (cutbox-rows.mjs): the forced cells as the released guide's own fill.sh prints them over the translation 576d721a78d9b372… (all of the seat's roots in one cut). By AI agents, Wed Nov 11 2026. No macro, syntax, notation, axiom, sorry.
-/
import Derived.Test.YthmokljbbkcjdaaGreatDoorChecked
import GoSem.Claim
import GoSem.ClaimJoined
import GoSem.ClaimMapViews
import Derived.JoinedTies
import Derived.KernelRfl
namespace Go.Proofs.YthmokljbbkcjdaaGreatDoor
/- THE CELL 'sum', in the pinned program and in every row, IS THE sha256 OF THE DUMP (.gsa) THAT YthmokljbbkcjdaaGreatDoorProg.lean LOADS. Nothing in Lean hashes anything: it is a label: what it is worth is what the hold of that sum in a sandbox is worth. -/
noncomputable def Tryz.pinned : Pinned := { name := "ythmokljbbkcjdaagreatdoor", sum := "576d721a78d9b3726b7f8dc6af7d3a9bbd5084583c1c1af94574af4c1a061ca4", checked := Tryz.checked }
namespace Rows
def none {H : Type} : Left H := { results := [], args := [] }

/- WHAT THE LISTED PACKAGE-LEVEL VARIABLES READ AS WHEN THE CALL BEGINS. Each datum BY PROGRAM (the guide's laid-datum.mjs) off the statement by which the dump's own 'gosem.cut.vars' lays the variable. In a bare row this is a premise. The card (YthmokljbbkcjdaaGreatDoorCards.lean) ties it to the program's text. -/
def laid_nosale_build_checks {H : Type} : DataW H := .iface "func table" (.agg [.iface "func" (.lit (.string [40, 110, 111, 115, 97, 108, 101, 47, 98, 117, 105, 108, 100, 46, 98, 111, 111, 107, 41, 46, 111, 114, 100, 101, 114])), .iface "func" (.lit (.string [40, 110, 111, 115, 97, 108, 101, 47, 98, 117, 105, 108, 100, 46, 98, 111, 111, 107, 41, 46, 112, 97, 114, 116, 115])), .iface "func" (.lit (.string [40, 110, 111, 115, 97, 108, 101, 47, 98, 117, 105, 108, 100, 46, 98, 111, 111, 107, 41, 46, 112, 97, 105, 114, 115])), .iface "func" (.lit (.string [40, 110, 111, 115, 97, 108, 101, 47, 98, 117, 105, 108, 100, 46, 98, 111, 111, 107, 41, 46, 116, 114, 105, 97, 108, 115]))])

/-- 'nosalelaw05.BuildWhy': WHATEVER THE INPUT: true; the input reads as it did. -/
def buildWhySpec : ChangeSpec := { name := "buildWhy", fn := fun _ => fun
  | [d1, d2] => { results := [.lit (.bool true)], args := [d1, d2] }
  | _ => none }
def buildWhyRow : OpenClaim := { program := "ythmokljbbkcjdaagreatdoor", sum := "576d721a78d9b3726b7f8dc6af7d3a9bbd5084583c1c1af94574af4c1a061ca4", func := "nosale/nosalelaw05.BuildWhy", spec := "buildWhy", unfollowed := true, recurses := true, named := ["nosale/build.checks"], plainKeys := false, leaving := true, apart := false, laid := [("nosale/build.checks", laid_nosale_build_checks)] }
def BuildWhySaid : Prop := buildWhyRow.holds Tryz.pinned (OpenSpec.ofChange buildWhySpec)

/-- ITS FALSE NEIGHBOUR: 'it returns false'. Refute it at one input. -/
def buildWhyWrong : ChangeSpec := { name := "buildWhy", fn := fun _ => fun
  | [d1, d2] => { results := [.lit (.bool false)], args := [d1, d2] }
  | _ => none }
def BuildWhyWrongFalsely : Prop := buildWhyRow.holds Tryz.pinned (OpenSpec.ofChange buildWhyWrong)

/-- 'nosalelaw05.BuildNeeds': WHATEVER THE INPUT: true; the input reads as it did. -/
def buildNeedsSpec : ChangeSpec := { name := "buildNeeds", fn := fun _ => fun
  | [d1, d2] => { results := [.lit (.bool true)], args := [d1, d2] }
  | _ => none }
def buildNeedsRow : OpenClaim := { program := "ythmokljbbkcjdaagreatdoor", sum := "576d721a78d9b3726b7f8dc6af7d3a9bbd5084583c1c1af94574af4c1a061ca4", func := "nosale/nosalelaw05.BuildNeeds", spec := "buildNeeds", unfollowed := true, recurses := true, named := ["nosale/build.checks"], plainKeys := false, leaving := true, apart := false, laid := [("nosale/build.checks", laid_nosale_build_checks)] }
def BuildNeedsSaid : Prop := buildNeedsRow.holds Tryz.pinned (OpenSpec.ofChange buildNeedsSpec)

/-- ITS FALSE NEIGHBOUR: 'it returns false'. Refute it at one input. -/
def buildNeedsWrong : ChangeSpec := { name := "buildNeeds", fn := fun _ => fun
  | [d1, d2] => { results := [.lit (.bool false)], args := [d1, d2] }
  | _ => none }
def BuildNeedsWrongFalsely : Prop := buildNeedsRow.holds Tryz.pinned (OpenSpec.ofChange buildNeedsWrong)

/-- 'nosalelaw05.BuildStocked': WHATEVER THE INPUT: true; the input reads as it did. -/
def buildStockedSpec : ChangeSpec := { name := "buildStocked", fn := fun _ => fun
  | [d1, d2, d3] => { results := [.lit (.bool true)], args := [d1, d2, d3] }
  | _ => none }
def buildStockedRow : OpenClaim := { program := "ythmokljbbkcjdaagreatdoor", sum := "576d721a78d9b3726b7f8dc6af7d3a9bbd5084583c1c1af94574af4c1a061ca4", func := "nosale/nosalelaw05.BuildStocked", spec := "buildStocked", unfollowed := true, recurses := true, named := ["nosale/build.checks"], plainKeys := false, leaving := true, apart := false, laid := [("nosale/build.checks", laid_nosale_build_checks)] }
def BuildStockedSaid : Prop := buildStockedRow.holds Tryz.pinned (OpenSpec.ofChange buildStockedSpec)

/-- ITS FALSE NEIGHBOUR: 'it returns false'. Refute it at one input. -/
def buildStockedWrong : ChangeSpec := { name := "buildStocked", fn := fun _ => fun
  | [d1, d2, d3] => { results := [.lit (.bool false)], args := [d1, d2, d3] }
  | _ => none }
def BuildStockedWrongFalsely : Prop := buildStockedRow.holds Tryz.pinned (OpenSpec.ofChange buildStockedWrong)

/-- 'nosalelaw05.BuildReached': WHATEVER THE INPUT: true; the input reads as it did. -/
def buildReachedSpec : ChangeSpec := { name := "buildReached", fn := fun _ => fun
  | [d1, d2] => { results := [.lit (.bool true)], args := [d1, d2] }
  | _ => none }
def buildReachedRow : OpenClaim := { program := "ythmokljbbkcjdaagreatdoor", sum := "576d721a78d9b3726b7f8dc6af7d3a9bbd5084583c1c1af94574af4c1a061ca4", func := "nosale/nosalelaw05.BuildReached", spec := "buildReached", unfollowed := true, recurses := true, named := ["nosale/build.checks"], plainKeys := false, leaving := true, apart := false, laid := [("nosale/build.checks", laid_nosale_build_checks)] }
def BuildReachedSaid : Prop := buildReachedRow.holds Tryz.pinned (OpenSpec.ofChange buildReachedSpec)

/-- ITS FALSE NEIGHBOUR: 'it returns false'. Refute it at one input. -/
def buildReachedWrong : ChangeSpec := { name := "buildReached", fn := fun _ => fun
  | [d1, d2] => { results := [.lit (.bool false)], args := [d1, d2] }
  | _ => none }
def BuildReachedWrongFalsely : Prop := buildReachedRow.holds Tryz.pinned (OpenSpec.ofChange buildReachedWrong)

/-- 'nosalelaw05.BuildSum': WHATEVER THE INPUT: true; the input reads as it did. -/
def buildSumSpec : ChangeSpec := { name := "buildSum", fn := fun _ => fun
  | [d1, d2] => { results := [.lit (.bool true)], args := [d1, d2] }
  | _ => none }
def buildSumRow : OpenClaim := { program := "ythmokljbbkcjdaagreatdoor", sum := "576d721a78d9b3726b7f8dc6af7d3a9bbd5084583c1c1af94574af4c1a061ca4", func := "nosale/nosalelaw05.BuildSum", spec := "buildSum", unfollowed := true, recurses := true, named := ["nosale/build.checks"], plainKeys := false, leaving := true, apart := false, laid := [("nosale/build.checks", laid_nosale_build_checks)] }
def BuildSumSaid : Prop := buildSumRow.holds Tryz.pinned (OpenSpec.ofChange buildSumSpec)

/-- ITS FALSE NEIGHBOUR: 'it returns false'. Refute it at one input. -/
def buildSumWrong : ChangeSpec := { name := "buildSum", fn := fun _ => fun
  | [d1, d2] => { results := [.lit (.bool false)], args := [d1, d2] }
  | _ => none }
def BuildSumWrongFalsely : Prop := buildSumRow.holds Tryz.pinned (OpenSpec.ofChange buildSumWrong)

/-- 'nosalelaw05.BuildBest': WHATEVER THE INPUT: true; the input reads as it did. -/
def buildBestSpec : ChangeSpec := { name := "buildBest", fn := fun _ => fun
  | [d1, d2] => { results := [.lit (.bool true)], args := [d1, d2] }
  | _ => none }
def buildBestRow : OpenClaim := { program := "ythmokljbbkcjdaagreatdoor", sum := "576d721a78d9b3726b7f8dc6af7d3a9bbd5084583c1c1af94574af4c1a061ca4", func := "nosale/nosalelaw05.BuildBest", spec := "buildBest", unfollowed := true, recurses := true, named := ["nosale/build.checks"], plainKeys := false, leaving := true, apart := false, laid := [("nosale/build.checks", laid_nosale_build_checks)] }
def BuildBestSaid : Prop := buildBestRow.holds Tryz.pinned (OpenSpec.ofChange buildBestSpec)

/-- ITS FALSE NEIGHBOUR: 'it returns false'. Refute it at one input. -/
def buildBestWrong : ChangeSpec := { name := "buildBest", fn := fun _ => fun
  | [d1, d2] => { results := [.lit (.bool false)], args := [d1, d2] }
  | _ => none }
def BuildBestWrongFalsely : Prop := buildBestRow.holds Tryz.pinned (OpenSpec.ofChange buildBestWrong)

/- THE SECOND FORM. 'bulk': how many values and letters a reading holds, each counted each time it is reached (what is shared counts as often as it is met; a slice's spare places count too). A statement '..UptoSaid' is the law's where the arguments, and the package variables that the reading takes, are together of bulk at most 1048576: NARROWER than '..Said'. Prove '..Said' where nothing that the law and all that it calls make is longer than what came in: it says more and counts as full. Else prove '..UptoSaid'. A law counts once. -/
mutual
def uptoBulk {H : Type} : DataW H → Nat
  | .lit (.string bytes) => bytes.length + 1
  | .lit _ => 1
  | .nil => 1
  | .ptr d => uptoBulk d + 1
  | .slice elems spare => uptoBulkAll elems + uptoBulkAll spare + 1
  | .agg parts => uptoBulkAll parts + 1
  | .iface _ d => uptoBulk d + 1
  | .map entries => uptoBulkEntries entries + 1
  | .held _ => 1
def uptoBulkAll {H : Type} : List (DataW H) → Nat
  | [] => 0
  | d :: r => uptoBulk d + uptoBulkAll r
def uptoBulkEntries {H : Type} : List (Lit × DataW H) → Nat
  | [] => 0
  | x :: r => uptoBulkEntry x + uptoBulkEntries r
def uptoBulkEntry {H : Type} : Lit × DataW H → Nat
  | (.string bytes, d) => bytes.length + uptoBulk d + 1
  | (_, d) => uptoBulk d + 1
 end
def uptoSmall : (H : Type) → List (DataW H) → Bool := fun _ ds => decide (uptoBulkAll ds ≤ 1048576)
def OpenSpec.upto (s : _root_.Go.ChangeSpec) : _root_.Go.OpenSpec := { _root_.Go.OpenSpec.ofChange s with cond := some uptoSmall }

/-- 'nosalelaw05.BuildWhy', WHERE WHAT IT READS IS OF BULK AT MOST 1048576: true; the input reads as it did. -/
def buildWhyUptoRow : OpenClaim := { program := "ythmokljbbkcjdaagreatdoor", sum := "576d721a78d9b3726b7f8dc6af7d3a9bbd5084583c1c1af94574af4c1a061ca4", func := "nosale/nosalelaw05.BuildWhy", spec := "buildWhy", unfollowed := true, recurses := true, named := ["nosale/build.checks"], plainKeys := false, leaving := true, apart := false, laid := [("nosale/build.checks", laid_nosale_build_checks)], narrowed := true }
def BuildWhyUptoSaid : Prop := buildWhyUptoRow.holds Tryz.pinned (OpenSpec.upto buildWhySpec)

/-- 'nosalelaw05.BuildNeeds', WHERE WHAT IT READS IS OF BULK AT MOST 1048576: true; the input reads as it did. -/
def buildNeedsUptoRow : OpenClaim := { program := "ythmokljbbkcjdaagreatdoor", sum := "576d721a78d9b3726b7f8dc6af7d3a9bbd5084583c1c1af94574af4c1a061ca4", func := "nosale/nosalelaw05.BuildNeeds", spec := "buildNeeds", unfollowed := true, recurses := true, named := ["nosale/build.checks"], plainKeys := false, leaving := true, apart := false, laid := [("nosale/build.checks", laid_nosale_build_checks)], narrowed := true }
def BuildNeedsUptoSaid : Prop := buildNeedsUptoRow.holds Tryz.pinned (OpenSpec.upto buildNeedsSpec)

/-- 'nosalelaw05.BuildStocked', WHERE WHAT IT READS IS OF BULK AT MOST 1048576: true; the input reads as it did. -/
def buildStockedUptoRow : OpenClaim := { program := "ythmokljbbkcjdaagreatdoor", sum := "576d721a78d9b3726b7f8dc6af7d3a9bbd5084583c1c1af94574af4c1a061ca4", func := "nosale/nosalelaw05.BuildStocked", spec := "buildStocked", unfollowed := true, recurses := true, named := ["nosale/build.checks"], plainKeys := false, leaving := true, apart := false, laid := [("nosale/build.checks", laid_nosale_build_checks)], narrowed := true }
def BuildStockedUptoSaid : Prop := buildStockedUptoRow.holds Tryz.pinned (OpenSpec.upto buildStockedSpec)

/-- 'nosalelaw05.BuildReached', WHERE WHAT IT READS IS OF BULK AT MOST 1048576: true; the input reads as it did. -/
def buildReachedUptoRow : OpenClaim := { program := "ythmokljbbkcjdaagreatdoor", sum := "576d721a78d9b3726b7f8dc6af7d3a9bbd5084583c1c1af94574af4c1a061ca4", func := "nosale/nosalelaw05.BuildReached", spec := "buildReached", unfollowed := true, recurses := true, named := ["nosale/build.checks"], plainKeys := false, leaving := true, apart := false, laid := [("nosale/build.checks", laid_nosale_build_checks)], narrowed := true }
def BuildReachedUptoSaid : Prop := buildReachedUptoRow.holds Tryz.pinned (OpenSpec.upto buildReachedSpec)

/-- 'nosalelaw05.BuildSum', WHERE WHAT IT READS IS OF BULK AT MOST 1048576: true; the input reads as it did. -/
def buildSumUptoRow : OpenClaim := { program := "ythmokljbbkcjdaagreatdoor", sum := "576d721a78d9b3726b7f8dc6af7d3a9bbd5084583c1c1af94574af4c1a061ca4", func := "nosale/nosalelaw05.BuildSum", spec := "buildSum", unfollowed := true, recurses := true, named := ["nosale/build.checks"], plainKeys := false, leaving := true, apart := false, laid := [("nosale/build.checks", laid_nosale_build_checks)], narrowed := true }
def BuildSumUptoSaid : Prop := buildSumUptoRow.holds Tryz.pinned (OpenSpec.upto buildSumSpec)

/-- 'nosalelaw05.BuildBest', WHERE WHAT IT READS IS OF BULK AT MOST 1048576: true; the input reads as it did. -/
def buildBestUptoRow : OpenClaim := { program := "ythmokljbbkcjdaagreatdoor", sum := "576d721a78d9b3726b7f8dc6af7d3a9bbd5084583c1c1af94574af4c1a061ca4", func := "nosale/nosalelaw05.BuildBest", spec := "buildBest", unfollowed := true, recurses := true, named := ["nosale/build.checks"], plainKeys := false, leaving := true, apart := false, laid := [("nosale/build.checks", laid_nosale_build_checks)], narrowed := true }
def BuildBestUptoSaid : Prop := buildBestUptoRow.holds Tryz.pinned (OpenSpec.upto buildBestSpec)

end Rows
end Go.Proofs.YthmokljbbkcjdaaGreatDoor
