/-
  NARROWER THAN 'FOR EVERY INPUT', by the rows' own cells (each row's printed sentence says how): BuildTimes: laid · BuildMachines: laid.
  DERIVED. THE GIVEN ROWS OF THIS SEAT. 2 by the template 'for every input the law returns true; each argument reads behind the call as it read before'; 0 by the template 'total and deterministic' (their statements: YtboiakcocelkmaaGreatDoorTotals.lean).
  GIVEN WITH THE SEED: the statements are not yours to turn. If you find one false, say at which input.
  Laid BY PROGRAM, IN A SANDBOX (cutbox-rows.mjs): the forced cells as the released guide's own fill.sh prints them over the translation 968e6ce0645b903b… (all of the seat's roots in one cut). By AI agents, Wed Nov 11 2026. No macro, syntax, notation, axiom, sorry.
-/
import Derived.Test.YtboiakcocelkmaaGreatDoorChecked
import GoSem.Claim
import GoSem.ClaimJoined
import GoSem.ClaimMapViews
import Derived.JoinedTies
import Derived.KernelRfl
namespace Go.Proofs.YtboiakcocelkmaaGreatDoor
/- THE CELL 'sum', in the pinned program and in every row, IS THE sha256 OF THE DUMP (.gsa) THAT YtboiakcocelkmaaGreatDoorProg.lean LOADS. Nothing in Lean hashes anything: it is a label: what it is worth is what the hold of that sum in a sandbox is worth. -/
noncomputable def Tryz.pinned : Pinned := { name := "ytboiakcocelkmaagreatdoor", sum := "968e6ce0645b903b78dbf4495dda9b28ee2751b3d4a57d256cde101afa74341a", checked := Tryz.checked }
namespace Rows
def none {H : Type} : Left H := { results := [], args := [] }

/- WHAT THE LISTED PACKAGE-LEVEL VARIABLES READ AS WHEN THE CALL BEGINS. Each datum BY PROGRAM (the guide's laid-datum.mjs) off the statement by which the dump's own 'gosem.cut.vars' lays the variable. In a bare row this is a premise. The card (YtboiakcocelkmaaGreatDoorCards.lean) ties it to the program's text. -/
def laid_nosale_build_checks {H : Type} : DataW H := .iface "func table" (.agg [.iface "func" (.lit (.string [40, 110, 111, 115, 97, 108, 101, 47, 98, 117, 105, 108, 100, 46, 98, 111, 111, 107, 41, 46, 111, 114, 100, 101, 114])), .iface "func" (.lit (.string [40, 110, 111, 115, 97, 108, 101, 47, 98, 117, 105, 108, 100, 46, 98, 111, 111, 107, 41, 46, 112, 97, 114, 116, 115])), .iface "func" (.lit (.string [40, 110, 111, 115, 97, 108, 101, 47, 98, 117, 105, 108, 100, 46, 98, 111, 111, 107, 41, 46, 112, 97, 105, 114, 115])), .iface "func" (.lit (.string [40, 110, 111, 115, 97, 108, 101, 47, 98, 117, 105, 108, 100, 46, 98, 111, 111, 107, 41, 46, 116, 114, 105, 97, 108, 115]))])

/-- 'nosalelaw05.BuildTimes': WHATEVER THE INPUT: true; the input reads as it did. -/
def buildTimesSpec : ChangeSpec := { name := "buildTimes", fn := fun _ => fun
  | [d1, d2, d3] => { results := [.lit (.bool true)], args := [d1, d2, d3] }
  | _ => none }
def buildTimesRow : OpenClaim := { program := "ytboiakcocelkmaagreatdoor", sum := "968e6ce0645b903b78dbf4495dda9b28ee2751b3d4a57d256cde101afa74341a", func := "nosale/nosalelaw05.BuildTimes", spec := "buildTimes", unfollowed := true, recurses := true, named := ["nosale/build.checks"], plainKeys := false, leaving := true, apart := false, laid := [("nosale/build.checks", laid_nosale_build_checks)] }
def BuildTimesSaid : Prop := buildTimesRow.holds Tryz.pinned (OpenSpec.ofChange buildTimesSpec)

/-- ITS FALSE NEIGHBOUR: 'it returns false'. Refute it at one input. -/
def buildTimesWrong : ChangeSpec := { name := "buildTimes", fn := fun _ => fun
  | [d1, d2, d3] => { results := [.lit (.bool false)], args := [d1, d2, d3] }
  | _ => none }
def BuildTimesWrongFalsely : Prop := buildTimesRow.holds Tryz.pinned (OpenSpec.ofChange buildTimesWrong)

/-- 'nosalelaw05.BuildMachines': WHATEVER THE INPUT: true; the input reads as it did. -/
def buildMachinesSpec : ChangeSpec := { name := "buildMachines", fn := fun _ => fun
  | [d1, d2, d3] => { results := [.lit (.bool true)], args := [d1, d2, d3] }
  | _ => none }
def buildMachinesRow : OpenClaim := { program := "ytboiakcocelkmaagreatdoor", sum := "968e6ce0645b903b78dbf4495dda9b28ee2751b3d4a57d256cde101afa74341a", func := "nosale/nosalelaw05.BuildMachines", spec := "buildMachines", unfollowed := true, recurses := true, named := ["nosale/build.checks"], plainKeys := false, leaving := true, apart := false, laid := [("nosale/build.checks", laid_nosale_build_checks)] }
def BuildMachinesSaid : Prop := buildMachinesRow.holds Tryz.pinned (OpenSpec.ofChange buildMachinesSpec)

/-- ITS FALSE NEIGHBOUR: 'it returns false'. Refute it at one input. -/
def buildMachinesWrong : ChangeSpec := { name := "buildMachines", fn := fun _ => fun
  | [d1, d2, d3] => { results := [.lit (.bool false)], args := [d1, d2, d3] }
  | _ => none }
def BuildMachinesWrongFalsely : Prop := buildMachinesRow.holds Tryz.pinned (OpenSpec.ofChange buildMachinesWrong)

/- THE SECOND FORM. 'bulk': how many values and letters a reading holds, each counted each time it is reached (what is shared counts as often as it is met; a slice's spare places count too). A statement '..UptoSaid' is the law's where the arguments, and the package variables that the reading takes, are together of bulk at most 1048576: NARROWER than '..Said'. Prove '..Said' where nothing that the law and all that it calls make is longer than what came in: it says more and counts as full. Else prove '..UptoSaid'. A law counts once. -/
mutual
def uptoBulk {H : Type} : DataW H → Nat
  | .lit (.string bytes) => bytes.length + 1
  | .lit _ => 1
  | .nil => 1
  | .ptr d => uptoBulk d + 1
  | .slice elems spare => uptoBulkAll elems + uptoBulkAll spare + 1
  | .agg parts => uptoBulkAll parts + 1
  | .iface _ d => uptoBulk d + 1
  | .map entries => uptoBulkEntries entries + 1
  | .held _ => 1
def uptoBulkAll {H : Type} : List (DataW H) → Nat
  | [] => 0
  | d :: r => uptoBulk d + uptoBulkAll r
def uptoBulkEntries {H : Type} : List (Lit × DataW H) → Nat
  | [] => 0
  | x :: r => uptoBulkEntry x + uptoBulkEntries r
def uptoBulkEntry {H : Type} : Lit × DataW H → Nat
  | (.string bytes, d) => bytes.length + uptoBulk d + 1
  | (_, d) => uptoBulk d + 1
 end
def uptoSmall : (H : Type) → List (DataW H) → Bool := fun _ ds => decide (uptoBulkAll ds ≤ 1048576)
def OpenSpec.upto (s : _root_.Go.ChangeSpec) : _root_.Go.OpenSpec := { _root_.Go.OpenSpec.ofChange s with cond := some uptoSmall }

/-- 'nosalelaw05.BuildTimes', WHERE WHAT IT READS IS OF BULK AT MOST 1048576: true; the input reads as it did. -/
def buildTimesUptoRow : OpenClaim := { program := "ytboiakcocelkmaagreatdoor", sum := "968e6ce0645b903b78dbf4495dda9b28ee2751b3d4a57d256cde101afa74341a", func := "nosale/nosalelaw05.BuildTimes", spec := "buildTimes", unfollowed := true, recurses := true, named := ["nosale/build.checks"], plainKeys := false, leaving := true, apart := false, laid := [("nosale/build.checks", laid_nosale_build_checks)], narrowed := true }
def BuildTimesUptoSaid : Prop := buildTimesUptoRow.holds Tryz.pinned (OpenSpec.upto buildTimesSpec)

/-- 'nosalelaw05.BuildMachines', WHERE WHAT IT READS IS OF BULK AT MOST 1048576: true; the input reads as it did. -/
def buildMachinesUptoRow : OpenClaim := { program := "ytboiakcocelkmaagreatdoor", sum := "968e6ce0645b903b78dbf4495dda9b28ee2751b3d4a57d256cde101afa74341a", func := "nosale/nosalelaw05.BuildMachines", spec := "buildMachines", unfollowed := true, recurses := true, named := ["nosale/build.checks"], plainKeys := false, leaving := true, apart := false, laid := [("nosale/build.checks", laid_nosale_build_checks)], narrowed := true }
def BuildMachinesUptoSaid : Prop := buildMachinesUptoRow.holds Tryz.pinned (OpenSpec.upto buildMachinesSpec)

end Rows
end Go.Proofs.YtboiakcocelkmaaGreatDoor
