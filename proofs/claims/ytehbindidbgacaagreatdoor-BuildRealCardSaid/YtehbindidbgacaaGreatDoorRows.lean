/-
  NARROWER THAN 'FOR EVERY INPUT', by the rows' own cells (each row's printed sentence says how): BuildReal: laid · BuildAsked: laid · BuildLearnt: laid.
  DERIVED. THE GIVEN ROWS OF THIS SEAT. 3 by the template 'for every input the law returns true; each argument reads behind the call as it read before'; 0 by the template 'total and deterministic' (their statements: YtehbindidbgacaaGreatDoorTotals.lean).
  GIVEN WITH THE SEED: the statements are not yours to turn. If you find one false, say at which input.
  Laid BY PROGRAM, IN A SANDBOX (cutbox-rows.mjs): the forced cells as the released guide's own fill.sh prints them over the translation c6bab19ee755c955… (all of the seat's roots in one cut). By AI agents, Wed Nov 11 2026. No macro, syntax, notation, axiom, sorry.
-/
import Derived.Test.YtehbindidbgacaaGreatDoorChecked
import GoSem.Claim
import GoSem.ClaimJoined
import GoSem.ClaimMapViews
import Derived.JoinedTies
import Derived.KernelRfl
namespace Go.Proofs.YtehbindidbgacaaGreatDoor
/- THE CELL 'sum', in the pinned program and in every row, IS THE sha256 OF THE DUMP (.gsa) THAT YtehbindidbgacaaGreatDoorProg.lean LOADS. Nothing in Lean hashes anything: it is a label: what it is worth is what the hold of that sum in a sandbox is worth. -/
noncomputable def Tryz.pinned : Pinned := { name := "ytehbindidbgacaagreatdoor", sum := "c6bab19ee755c95501861d75c95e1c13746d1f32377d9cd5098fa37a4f6ba8c3", checked := Tryz.checked }
namespace Rows
def none {H : Type} : Left H := { results := [], args := [] }

/- WHAT THE LISTED PACKAGE-LEVEL VARIABLES READ AS WHEN THE CALL BEGINS. Each datum BY PROGRAM (the guide's laid-datum.mjs) off the statement by which the dump's own 'gosem.cut.vars' lays the variable. In a bare row this is a premise. The card (YtehbindidbgacaaGreatDoorCards.lean) ties it to the program's text. -/
def laid_nosale_build_checks {H : Type} : DataW H := .iface "func table" (.agg [.iface "func" (.lit (.string [40, 110, 111, 115, 97, 108, 101, 47, 98, 117, 105, 108, 100, 46, 98, 111, 111, 107, 41, 46, 111, 114, 100, 101, 114])), .iface "func" (.lit (.string [40, 110, 111, 115, 97, 108, 101, 47, 98, 117, 105, 108, 100, 46, 98, 111, 111, 107, 41, 46, 112, 97, 114, 116, 115])), .iface "func" (.lit (.string [40, 110, 111, 115, 97, 108, 101, 47, 98, 117, 105, 108, 100, 46, 98, 111, 111, 107, 41, 46, 112, 97, 105, 114, 115])), .iface "func" (.lit (.string [40, 110, 111, 115, 97, 108, 101, 47, 98, 117, 105, 108, 100, 46, 98, 111, 111, 107, 41, 46, 116, 114, 105, 97, 108, 115]))])

/-- 'nosalelaw05.BuildReal': WHATEVER THE INPUT: true; the input reads as it did. -/
def buildRealSpec : ChangeSpec := { name := "buildReal", fn := fun _ => fun
  | [d1, d2, d3, d4] => { results := [.lit (.bool true)], args := [d1, d2, d3, d4] }
  | _ => none }
def buildRealRow : OpenClaim := { program := "ytehbindidbgacaagreatdoor", sum := "c6bab19ee755c95501861d75c95e1c13746d1f32377d9cd5098fa37a4f6ba8c3", func := "nosale/nosalelaw05.BuildReal", spec := "buildReal", unfollowed := true, recurses := true, named := ["nosale/build.checks"], plainKeys := false, leaving := true, apart := false, laid := [("nosale/build.checks", laid_nosale_build_checks)] }
def BuildRealSaid : Prop := buildRealRow.holds Tryz.pinned (OpenSpec.ofChange buildRealSpec)

/-- ITS FALSE NEIGHBOUR: 'it returns false'. Refute it at one input. -/
def buildRealWrong : ChangeSpec := { name := "buildReal", fn := fun _ => fun
  | [d1, d2, d3, d4] => { results := [.lit (.bool false)], args := [d1, d2, d3, d4] }
  | _ => none }
def BuildRealWrongFalsely : Prop := buildRealRow.holds Tryz.pinned (OpenSpec.ofChange buildRealWrong)

/-- 'nosalelaw05.BuildAsked': WHATEVER THE INPUT: true; the input reads as it did. -/
def buildAskedSpec : ChangeSpec := { name := "buildAsked", fn := fun _ => fun
  | [d1, d2] => { results := [.lit (.bool true)], args := [d1, d2] }
  | _ => none }
def buildAskedRow : OpenClaim := { program := "ytehbindidbgacaagreatdoor", sum := "c6bab19ee755c95501861d75c95e1c13746d1f32377d9cd5098fa37a4f6ba8c3", func := "nosale/nosalelaw05.BuildAsked", spec := "buildAsked", unfollowed := true, recurses := true, named := ["nosale/build.checks"], plainKeys := false, leaving := true, apart := false, laid := [("nosale/build.checks", laid_nosale_build_checks)] }
def BuildAskedSaid : Prop := buildAskedRow.holds Tryz.pinned (OpenSpec.ofChange buildAskedSpec)

/-- ITS FALSE NEIGHBOUR: 'it returns false'. Refute it at one input. -/
def buildAskedWrong : ChangeSpec := { name := "buildAsked", fn := fun _ => fun
  | [d1, d2] => { results := [.lit (.bool false)], args := [d1, d2] }
  | _ => none }
def BuildAskedWrongFalsely : Prop := buildAskedRow.holds Tryz.pinned (OpenSpec.ofChange buildAskedWrong)

/-- 'nosalelaw05.BuildLearnt': WHATEVER THE INPUT: true; the input reads as it did. -/
def buildLearntSpec : ChangeSpec := { name := "buildLearnt", fn := fun _ => fun
  | [d1, d2, d3, d4, d5] => { results := [.lit (.bool true)], args := [d1, d2, d3, d4, d5] }
  | _ => none }
def buildLearntRow : OpenClaim := { program := "ytehbindidbgacaagreatdoor", sum := "c6bab19ee755c95501861d75c95e1c13746d1f32377d9cd5098fa37a4f6ba8c3", func := "nosale/nosalelaw05.BuildLearnt", spec := "buildLearnt", unfollowed := true, recurses := true, named := ["nosale/build.checks"], plainKeys := false, leaving := true, apart := false, laid := [("nosale/build.checks", laid_nosale_build_checks)] }
def BuildLearntSaid : Prop := buildLearntRow.holds Tryz.pinned (OpenSpec.ofChange buildLearntSpec)

/-- ITS FALSE NEIGHBOUR: 'it returns false'. Refute it at one input. -/
def buildLearntWrong : ChangeSpec := { name := "buildLearnt", fn := fun _ => fun
  | [d1, d2, d3, d4, d5] => { results := [.lit (.bool false)], args := [d1, d2, d3, d4, d5] }
  | _ => none }
def BuildLearntWrongFalsely : Prop := buildLearntRow.holds Tryz.pinned (OpenSpec.ofChange buildLearntWrong)

/- THE SECOND FORM. 'bulk': how many values and letters a reading holds, each counted each time it is reached (what is shared counts as often as it is met; a slice's spare places count too). A statement '..UptoSaid' is the law's where the arguments, and the package variables that the reading takes, are together of bulk at most 1048576: NARROWER than '..Said'. Prove '..Said' where nothing that the law and all that it calls make is longer than what came in: it says more and counts as full. Else prove '..UptoSaid'. A law counts once. -/
mutual
def uptoBulk {H : Type} : DataW H → Nat
  | .lit (.string bytes) => bytes.length + 1
  | .lit _ => 1
  | .nil => 1
  | .ptr d => uptoBulk d + 1
  | .slice elems spare => uptoBulkAll elems + uptoBulkAll spare + 1
  | .agg parts => uptoBulkAll parts + 1
  | .iface _ d => uptoBulk d + 1
  | .map entries => uptoBulkEntries entries + 1
  | .held _ => 1
def uptoBulkAll {H : Type} : List (DataW H) → Nat
  | [] => 0
  | d :: r => uptoBulk d + uptoBulkAll r
def uptoBulkEntries {H : Type} : List (Lit × DataW H) → Nat
  | [] => 0
  | x :: r => uptoBulkEntry x + uptoBulkEntries r
def uptoBulkEntry {H : Type} : Lit × DataW H → Nat
  | (.string bytes, d) => bytes.length + uptoBulk d + 1
  | (_, d) => uptoBulk d + 1
 end
def uptoSmall : (H : Type) → List (DataW H) → Bool := fun _ ds => decide (uptoBulkAll ds ≤ 1048576)
def OpenSpec.upto (s : _root_.Go.ChangeSpec) : _root_.Go.OpenSpec := { _root_.Go.OpenSpec.ofChange s with cond := some uptoSmall }

/-- 'nosalelaw05.BuildReal', WHERE WHAT IT READS IS OF BULK AT MOST 1048576: true; the input reads as it did. -/
def buildRealUptoRow : OpenClaim := { program := "ytehbindidbgacaagreatdoor", sum := "c6bab19ee755c95501861d75c95e1c13746d1f32377d9cd5098fa37a4f6ba8c3", func := "nosale/nosalelaw05.BuildReal", spec := "buildReal", unfollowed := true, recurses := true, named := ["nosale/build.checks"], plainKeys := false, leaving := true, apart := false, laid := [("nosale/build.checks", laid_nosale_build_checks)], narrowed := true }
def BuildRealUptoSaid : Prop := buildRealUptoRow.holds Tryz.pinned (OpenSpec.upto buildRealSpec)

/-- 'nosalelaw05.BuildAsked', WHERE WHAT IT READS IS OF BULK AT MOST 1048576: true; the input reads as it did. -/
def buildAskedUptoRow : OpenClaim := { program := "ytehbindidbgacaagreatdoor", sum := "c6bab19ee755c95501861d75c95e1c13746d1f32377d9cd5098fa37a4f6ba8c3", func := "nosale/nosalelaw05.BuildAsked", spec := "buildAsked", unfollowed := true, recurses := true, named := ["nosale/build.checks"], plainKeys := false, leaving := true, apart := false, laid := [("nosale/build.checks", laid_nosale_build_checks)], narrowed := true }
def BuildAskedUptoSaid : Prop := buildAskedUptoRow.holds Tryz.pinned (OpenSpec.upto buildAskedSpec)

/-- 'nosalelaw05.BuildLearnt', WHERE WHAT IT READS IS OF BULK AT MOST 1048576: true; the input reads as it did. -/
def buildLearntUptoRow : OpenClaim := { program := "ytehbindidbgacaagreatdoor", sum := "c6bab19ee755c95501861d75c95e1c13746d1f32377d9cd5098fa37a4f6ba8c3", func := "nosale/nosalelaw05.BuildLearnt", spec := "buildLearnt", unfollowed := true, recurses := true, named := ["nosale/build.checks"], plainKeys := false, leaving := true, apart := false, laid := [("nosale/build.checks", laid_nosale_build_checks)], narrowed := true }
def BuildLearntUptoSaid : Prop := buildLearntUptoRow.holds Tryz.pinned (OpenSpec.upto buildLearntSpec)

end Rows
end Go.Proofs.YtehbindidbgacaaGreatDoor
