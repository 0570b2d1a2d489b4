/-
  No cell of these rows narrows 'for every input' (looked for: loops, veiled, ifaces, maps, wideKeys, modest, calm, conditions, laid).
  DERIVED. THE GIVEN ROWS OF THIS SEAT. 12 by the template 'for every input the law returns true; each argument reads behind the call as it read before'; 0 by the template 'total and deterministic' (their statements: YthdoilfjcgickaaTotals.lean).
  GIVEN WITH THE SEED: the statements are not yours to turn. If you find one false, say at which input.
  Laid BY PROGRAM, IN A SANDBOX (cutbox-rows.mjs): the forced cells as the released guide's own fill.sh prints them over the translation 9dfefddfcfe1ec70… (all of the seat's roots in one cut). By AI agents, Wed Nov 11 2026. No macro, syntax, notation, axiom, sorry.
-/
import Derived.Test.YthdoilfjcgickaaChecked
import GoSem.Claim
import GoSem.ClaimJoined
import GoSem.ClaimMapViews
import Derived.JoinedTies
import Derived.KernelRfl
namespace Go.Proofs.Ythdoilfjcgickaa
/- THE CELL 'sum', in the pinned program and in every row, IS THE sha256 OF THE DUMP (.gsa) THAT YthdoilfjcgickaaProg.lean LOADS. Nothing in Lean hashes anything: it is a label: what it is worth is what the hold of that sum in a sandbox is worth. -/
noncomputable def Try.pinned : Pinned := { name := "ythdoilfjcgickaa", sum := "9dfefddfcfe1ec70c41a5c469f23286b49288d125b2e7a32a85e7f380ba12d46", checked := Try.checked }
namespace Rows
def none {H : Type} : Left H := { results := [], args := [] }

/-- 'laws.FnExactSignsOfPivot': WHATEVER THE INPUT: true; the input reads as it did. -/
def fnExactSignsOfPivotSpec : ChangeSpec := { name := "fnExactSignsOfPivot", fn := fun _ => fun
  | [d1, d2] => { results := [.lit (.bool true)], args := [d1, d2] }
  | _ => none }
def fnExactSignsOfPivotRow : OpenClaim := { program := "ythdoilfjcgickaa", sum := "9dfefddfcfe1ec70c41a5c469f23286b49288d125b2e7a32a85e7f380ba12d46", func := "loop.example/g01343/laws.FnExactSignsOfPivot", spec := "fnExactSignsOfPivot", unfollowed := true, recurses := true, apart := false }
def FnExactSignsOfPivotSaid : Prop := fnExactSignsOfPivotRow.holds Try.pinned (OpenSpec.ofChange fnExactSignsOfPivotSpec)

/-- ITS FALSE NEIGHBOUR: 'it returns false'. Refute it at one input. -/
def fnExactSignsOfPivotWrong : ChangeSpec := { name := "fnExactSignsOfPivot", fn := fun _ => fun
  | [d1, d2] => { results := [.lit (.bool false)], args := [d1, d2] }
  | _ => none }
def FnExactSignsOfPivotWrongFalsely : Prop := fnExactSignsOfPivotRow.holds Try.pinned (OpenSpec.ofChange fnExactSignsOfPivotWrong)

/-- 'laws.FnExactCubeOfProblem': WHATEVER THE INPUT: true; the input reads as it did. -/
def fnExactCubeOfProblemSpec : ChangeSpec := { name := "fnExactCubeOfProblem", fn := fun _ => fun
  | [d] => { results := [.lit (.bool true)], args := [d] }
  | _ => none }
def fnExactCubeOfProblemRow : OpenClaim := { program := "ythdoilfjcgickaa", sum := "9dfefddfcfe1ec70c41a5c469f23286b49288d125b2e7a32a85e7f380ba12d46", func := "loop.example/g01343/laws.FnExactCubeOfProblem", spec := "fnExactCubeOfProblem", unfollowed := true, recurses := true, apart := false }
def FnExactCubeOfProblemSaid : Prop := fnExactCubeOfProblemRow.holds Try.pinned (OpenSpec.ofChange fnExactCubeOfProblemSpec)

/-- ITS FALSE NEIGHBOUR: 'it returns false'. Refute it at one input. -/
def fnExactCubeOfProblemWrong : ChangeSpec := { name := "fnExactCubeOfProblem", fn := fun _ => fun
  | [d] => { results := [.lit (.bool false)], args := [d] }
  | _ => none }
def FnExactCubeOfProblemWrongFalsely : Prop := fnExactCubeOfProblemRow.holds Try.pinned (OpenSpec.ofChange fnExactCubeOfProblemWrong)

/-- 'laws.FnExactComplementOf': WHATEVER THE INPUT: true; the input reads as it did. -/
def fnExactComplementOfSpec : ChangeSpec := { name := "fnExactComplementOf", fn := fun _ => fun
  | [d1, d2] => { results := [.lit (.bool true)], args := [d1, d2] }
  | _ => none }
def fnExactComplementOfRow : OpenClaim := { program := "ythdoilfjcgickaa", sum := "9dfefddfcfe1ec70c41a5c469f23286b49288d125b2e7a32a85e7f380ba12d46", func := "loop.example/g01343/laws.FnExactComplementOf", spec := "fnExactComplementOf", unfollowed := true, recurses := true, apart := false }
def FnExactComplementOfSaid : Prop := fnExactComplementOfRow.holds Try.pinned (OpenSpec.ofChange fnExactComplementOfSpec)

/-- ITS FALSE NEIGHBOUR: 'it returns false'. Refute it at one input. -/
def fnExactComplementOfWrong : ChangeSpec := { name := "fnExactComplementOf", fn := fun _ => fun
  | [d1, d2] => { results := [.lit (.bool false)], args := [d1, d2] }
  | _ => none }
def FnExactComplementOfWrongFalsely : Prop := fnExactComplementOfRow.holds Try.pinned (OpenSpec.ofChange fnExactComplementOfWrong)

/-- 'laws.FnExactStepsByRule': WHATEVER THE INPUT: true; the input reads as it did. -/
def fnExactStepsByRuleSpec : ChangeSpec := { name := "fnExactStepsByRule", fn := fun _ => fun
  | [d1, d2] => { results := [.lit (.bool true)], args := [d1, d2] }
  | _ => none }
def fnExactStepsByRuleRow : OpenClaim := { program := "ythdoilfjcgickaa", sum := "9dfefddfcfe1ec70c41a5c469f23286b49288d125b2e7a32a85e7f380ba12d46", func := "loop.example/g01343/laws.FnExactStepsByRule", spec := "fnExactStepsByRule", unfollowed := true, recurses := true, apart := false }
def FnExactStepsByRuleSaid : Prop := fnExactStepsByRuleRow.holds Try.pinned (OpenSpec.ofChange fnExactStepsByRuleSpec)

/-- ITS FALSE NEIGHBOUR: 'it returns false'. Refute it at one input. -/
def fnExactStepsByRuleWrong : ChangeSpec := { name := "fnExactStepsByRule", fn := fun _ => fun
  | [d1, d2] => { results := [.lit (.bool false)], args := [d1, d2] }
  | _ => none }
def FnExactStepsByRuleWrongFalsely : Prop := fnExactStepsByRuleRow.holds Try.pinned (OpenSpec.ofChange fnExactStepsByRuleWrong)

/-- 'laws.FnExactRunByRule': WHATEVER THE INPUT: true; the input reads as it did. -/
def fnExactRunByRuleSpec : ChangeSpec := { name := "fnExactRunByRule", fn := fun _ => fun
  | [d1, d2, d3] => { results := [.lit (.bool true)], args := [d1, d2, d3] }
  | _ => none }
def fnExactRunByRuleRow : OpenClaim := { program := "ythdoilfjcgickaa", sum := "9dfefddfcfe1ec70c41a5c469f23286b49288d125b2e7a32a85e7f380ba12d46", func := "loop.example/g01343/laws.FnExactRunByRule", spec := "fnExactRunByRule", unfollowed := true, recurses := true, apart := false }
def FnExactRunByRuleSaid : Prop := fnExactRunByRuleRow.holds Try.pinned (OpenSpec.ofChange fnExactRunByRuleSpec)

/-- ITS FALSE NEIGHBOUR: 'it returns false'. Refute it at one input. -/
def fnExactRunByRuleWrong : ChangeSpec := { name := "fnExactRunByRule", fn := fun _ => fun
  | [d1, d2, d3] => { results := [.lit (.bool false)], args := [d1, d2, d3] }
  | _ => none }
def FnExactRunByRuleWrongFalsely : Prop := fnExactRunByRuleRow.holds Try.pinned (OpenSpec.ofChange fnExactRunByRuleWrong)

/-- 'laws.FnExactCountEnds': WHATEVER THE INPUT: true; the input reads as it did. -/
def fnExactCountEndsSpec : ChangeSpec := { name := "fnExactCountEnds", fn := fun _ => fun
  | [d1, d2] => { results := [.lit (.bool true)], args := [d1, d2] }
  | _ => none }
def fnExactCountEndsRow : OpenClaim := { program := "ythdoilfjcgickaa", sum := "9dfefddfcfe1ec70c41a5c469f23286b49288d125b2e7a32a85e7f380ba12d46", func := "loop.example/g01343/laws.FnExactCountEnds", spec := "fnExactCountEnds", unfollowed := true, recurses := true, apart := false }
def FnExactCountEndsSaid : Prop := fnExactCountEndsRow.holds Try.pinned (OpenSpec.ofChange fnExactCountEndsSpec)

/-- ITS FALSE NEIGHBOUR: 'it returns false'. Refute it at one input. -/
def fnExactCountEndsWrong : ChangeSpec := { name := "fnExactCountEnds", fn := fun _ => fun
  | [d1, d2] => { results := [.lit (.bool false)], args := [d1, d2] }
  | _ => none }
def FnExactCountEndsWrongFalsely : Prop := fnExactCountEndsRow.holds Try.pinned (OpenSpec.ofChange fnExactCountEndsWrong)

/-- 'laws.FnExactPivotedProblem': WHATEVER THE INPUT: true; the input reads as it did. -/
def fnExactPivotedProblemSpec : ChangeSpec := { name := "fnExactPivotedProblem", fn := fun _ => fun
  | [d1, d2] => { results := [.lit (.bool true)], args := [d1, d2] }
  | _ => none }
def fnExactPivotedProblemRow : OpenClaim := { program := "ythdoilfjcgickaa", sum := "9dfefddfcfe1ec70c41a5c469f23286b49288d125b2e7a32a85e7f380ba12d46", func := "loop.example/g01343/laws.FnExactPivotedProblem", spec := "fnExactPivotedProblem", unfollowed := true, recurses := true, apart := false }
def FnExactPivotedProblemSaid : Prop := fnExactPivotedProblemRow.holds Try.pinned (OpenSpec.ofChange fnExactPivotedProblemSpec)

/-- ITS FALSE NEIGHBOUR: 'it returns false'. Refute it at one input. -/
def fnExactPivotedProblemWrong : ChangeSpec := { name := "fnExactPivotedProblem", fn := fun _ => fun
  | [d1, d2] => { results := [.lit (.bool false)], args := [d1, d2] }
  | _ => none }
def FnExactPivotedProblemWrongFalsely : Prop := fnExactPivotedProblemRow.holds Try.pinned (OpenSpec.ofChange fnExactPivotedProblemWrong)

/-- 'laws.FnExactLemkeSteps': WHATEVER THE INPUT: true; the input reads as it did. -/
def fnExactLemkeStepsSpec : ChangeSpec := { name := "fnExactLemkeSteps", fn := fun _ => fun
  | [d1, d2] => { results := [.lit (.bool true)], args := [d1, d2] }
  | _ => none }
def fnExactLemkeStepsRow : OpenClaim := { program := "ythdoilfjcgickaa", sum := "9dfefddfcfe1ec70c41a5c469f23286b49288d125b2e7a32a85e7f380ba12d46", func := "loop.example/g01343/laws.FnExactLemkeSteps", spec := "fnExactLemkeSteps", unfollowed := true, recurses := true, apart := false }
def FnExactLemkeStepsSaid : Prop := fnExactLemkeStepsRow.holds Try.pinned (OpenSpec.ofChange fnExactLemkeStepsSpec)

/-- ITS FALSE NEIGHBOUR: 'it returns false'. Refute it at one input. -/
def fnExactLemkeStepsWrong : ChangeSpec := { name := "fnExactLemkeSteps", fn := fun _ => fun
  | [d1, d2] => { results := [.lit (.bool false)], args := [d1, d2] }
  | _ => none }
def FnExactLemkeStepsWrongFalsely : Prop := fnExactLemkeStepsRow.holds Try.pinned (OpenSpec.ofChange fnExactLemkeStepsWrong)

/-- 'laws.FnExactBasisAfter': WHATEVER THE INPUT: true; the input reads as it did. -/
def fnExactBasisAfterSpec : ChangeSpec := { name := "fnExactBasisAfter", fn := fun _ => fun
  | [d1, d2, d3] => { results := [.lit (.bool true)], args := [d1, d2, d3] }
  | _ => none }
def fnExactBasisAfterRow : OpenClaim := { program := "ythdoilfjcgickaa", sum := "9dfefddfcfe1ec70c41a5c469f23286b49288d125b2e7a32a85e7f380ba12d46", func := "loop.example/g01343/laws.FnExactBasisAfter", spec := "fnExactBasisAfter", unfollowed := true, recurses := true, apart := false }
def FnExactBasisAfterSaid : Prop := fnExactBasisAfterRow.holds Try.pinned (OpenSpec.ofChange fnExactBasisAfterSpec)

/-- ITS FALSE NEIGHBOUR: 'it returns false'. Refute it at one input. -/
def fnExactBasisAfterWrong : ChangeSpec := { name := "fnExactBasisAfter", fn := fun _ => fun
  | [d1, d2, d3] => { results := [.lit (.bool false)], args := [d1, d2, d3] }
  | _ => none }
def FnExactBasisAfterWrongFalsely : Prop := fnExactBasisAfterRow.holds Try.pinned (OpenSpec.ofChange fnExactBasisAfterWrong)

/-- 'laws.FnExactCountLemke': WHATEVER THE INPUT: true; the input reads as it did. -/
def fnExactCountLemkeSpec : ChangeSpec := { name := "fnExactCountLemke", fn := fun _ => fun
  | [d1, d2] => { results := [.lit (.bool true)], args := [d1, d2] }
  | _ => none }
def fnExactCountLemkeRow : OpenClaim := { program := "ythdoilfjcgickaa", sum := "9dfefddfcfe1ec70c41a5c469f23286b49288d125b2e7a32a85e7f380ba12d46", func := "loop.example/g01343/laws.FnExactCountLemke", spec := "fnExactCountLemke", unfollowed := true, recurses := true, apart := false }
def FnExactCountLemkeSaid : Prop := fnExactCountLemkeRow.holds Try.pinned (OpenSpec.ofChange fnExactCountLemkeSpec)

/-- ITS FALSE NEIGHBOUR: 'it returns false'. Refute it at one input. -/
def fnExactCountLemkeWrong : ChangeSpec := { name := "fnExactCountLemke", fn := fun _ => fun
  | [d1, d2] => { results := [.lit (.bool false)], args := [d1, d2] }
  | _ => none }
def FnExactCountLemkeWrongFalsely : Prop := fnExactCountLemkeRow.holds Try.pinned (OpenSpec.ofChange fnExactCountLemkeWrong)

/-- 'laws.FnExactCoverAfter': WHATEVER THE INPUT: true; the input reads as it did. -/
def fnExactCoverAfterSpec : ChangeSpec := { name := "fnExactCoverAfter", fn := fun _ => fun
  | [d1, d2, d3] => { results := [.lit (.bool true)], args := [d1, d2, d3] }
  | _ => none }
def fnExactCoverAfterRow : OpenClaim := { program := "ythdoilfjcgickaa", sum := "9dfefddfcfe1ec70c41a5c469f23286b49288d125b2e7a32a85e7f380ba12d46", func := "loop.example/g01343/laws.FnExactCoverAfter", spec := "fnExactCoverAfter", unfollowed := true, recurses := true, apart := false }
def FnExactCoverAfterSaid : Prop := fnExactCoverAfterRow.holds Try.pinned (OpenSpec.ofChange fnExactCoverAfterSpec)

/-- ITS FALSE NEIGHBOUR: 'it returns false'. Refute it at one input. -/
def fnExactCoverAfterWrong : ChangeSpec := { name := "fnExactCoverAfter", fn := fun _ => fun
  | [d1, d2, d3] => { results := [.lit (.bool false)], args := [d1, d2, d3] }
  | _ => none }
def FnExactCoverAfterWrongFalsely : Prop := fnExactCoverAfterRow.holds Try.pinned (OpenSpec.ofChange fnExactCoverAfterWrong)

/-- 'laws.FnExactLemkeRay': WHATEVER THE INPUT: true; the input reads as it did. -/
def fnExactLemkeRaySpec : ChangeSpec := { name := "fnExactLemkeRay", fn := fun _ => fun
  | [d1, d2] => { results := [.lit (.bool true)], args := [d1, d2] }
  | _ => none }
def fnExactLemkeRayRow : OpenClaim := { program := "ythdoilfjcgickaa", sum := "9dfefddfcfe1ec70c41a5c469f23286b49288d125b2e7a32a85e7f380ba12d46", func := "loop.example/g01343/laws.FnExactLemkeRay", spec := "fnExactLemkeRay", unfollowed := true, recurses := true, apart := false }
def FnExactLemkeRaySaid : Prop := fnExactLemkeRayRow.holds Try.pinned (OpenSpec.ofChange fnExactLemkeRaySpec)

/-- ITS FALSE NEIGHBOUR: 'it returns false'. Refute it at one input. -/
def fnExactLemkeRayWrong : ChangeSpec := { name := "fnExactLemkeRay", fn := fun _ => fun
  | [d1, d2] => { results := [.lit (.bool false)], args := [d1, d2] }
  | _ => none }
def FnExactLemkeRayWrongFalsely : Prop := fnExactLemkeRayRow.holds Try.pinned (OpenSpec.ofChange fnExactLemkeRayWrong)

/- THE SECOND FORM. 'bulk': how many values and letters a reading holds, each counted each time it is reached (what is shared counts as often as it is met; a slice's spare places count too). A statement '..UptoSaid' is the law's where the arguments, and the package variables that the reading takes, are together of bulk at most 1048576: NARROWER than '..Said'. Prove '..Said' where nothing that the law and all that it calls make is longer than what came in: it says more and counts as full. Else prove '..UptoSaid'. A law counts once. -/
mutual
def uptoBulk {H : Type} : DataW H → Nat
  | .lit (.string bytes) => bytes.length + 1
  | .lit _ => 1
  | .nil => 1
  | .ptr d => uptoBulk d + 1
  | .slice elems spare => uptoBulkAll elems + uptoBulkAll spare + 1
  | .agg parts => uptoBulkAll parts + 1
  | .iface _ d => uptoBulk d + 1
  | .map entries => uptoBulkEntries entries + 1
  | .held _ => 1
def uptoBulkAll {H : Type} : List (DataW H) → Nat
  | [] => 0
  | d :: r => uptoBulk d + uptoBulkAll r
def uptoBulkEntries {H : Type} : List (Lit × DataW H) → Nat
  | [] => 0
  | x :: r => uptoBulkEntry x + uptoBulkEntries r
def uptoBulkEntry {H : Type} : Lit × DataW H → Nat
  | (.string bytes, d) => bytes.length + uptoBulk d + 1
  | (_, d) => uptoBulk d + 1
 end
def uptoSmall : (H : Type) → List (DataW H) → Bool := fun _ ds => decide (uptoBulkAll ds ≤ 1048576)
def OpenSpec.upto (s : _root_.Go.ChangeSpec) : _root_.Go.OpenSpec := { _root_.Go.OpenSpec.ofChange s with cond := some uptoSmall }

/-- 'laws.FnExactSignsOfPivot', WHERE WHAT IT READS IS OF BULK AT MOST 1048576: true; the input reads as it did. -/
def fnExactSignsOfPivotUptoRow : OpenClaim := { program := "ythdoilfjcgickaa", sum := "9dfefddfcfe1ec70c41a5c469f23286b49288d125b2e7a32a85e7f380ba12d46", func := "loop.example/g01343/laws.FnExactSignsOfPivot", spec := "fnExactSignsOfPivot", unfollowed := true, recurses := true, apart := false, narrowed := true }
def FnExactSignsOfPivotUptoSaid : Prop := fnExactSignsOfPivotUptoRow.holds Try.pinned (OpenSpec.upto fnExactSignsOfPivotSpec)

/-- 'laws.FnExactCubeOfProblem', WHERE WHAT IT READS IS OF BULK AT MOST 1048576: true; the input reads as it did. -/
def fnExactCubeOfProblemUptoRow : OpenClaim := { program := "ythdoilfjcgickaa", sum := "9dfefddfcfe1ec70c41a5c469f23286b49288d125b2e7a32a85e7f380ba12d46", func := "loop.example/g01343/laws.FnExactCubeOfProblem", spec := "fnExactCubeOfProblem", unfollowed := true, recurses := true, apart := false, narrowed := true }
def FnExactCubeOfProblemUptoSaid : Prop := fnExactCubeOfProblemUptoRow.holds Try.pinned (OpenSpec.upto fnExactCubeOfProblemSpec)

/-- 'laws.FnExactComplementOf', WHERE WHAT IT READS IS OF BULK AT MOST 1048576: true; the input reads as it did. -/
def fnExactComplementOfUptoRow : OpenClaim := { program := "ythdoilfjcgickaa", sum := "9dfefddfcfe1ec70c41a5c469f23286b49288d125b2e7a32a85e7f380ba12d46", func := "loop.example/g01343/laws.FnExactComplementOf", spec := "fnExactComplementOf", unfollowed := true, recurses := true, apart := false, narrowed := true }
def FnExactComplementOfUptoSaid : Prop := fnExactComplementOfUptoRow.holds Try.pinned (OpenSpec.upto fnExactComplementOfSpec)

/-- 'laws.FnExactStepsByRule', WHERE WHAT IT READS IS OF BULK AT MOST 1048576: true; the input reads as it did. -/
def fnExactStepsByRuleUptoRow : OpenClaim := { program := "ythdoilfjcgickaa", sum := "9dfefddfcfe1ec70c41a5c469f23286b49288d125b2e7a32a85e7f380ba12d46", func := "loop.example/g01343/laws.FnExactStepsByRule", spec := "fnExactStepsByRule", unfollowed := true, recurses := true, apart := false, narrowed := true }
def FnExactStepsByRuleUptoSaid : Prop := fnExactStepsByRuleUptoRow.holds Try.pinned (OpenSpec.upto fnExactStepsByRuleSpec)

/-- 'laws.FnExactRunByRule', WHERE WHAT IT READS IS OF BULK AT MOST 1048576: true; the input reads as it did. -/
def fnExactRunByRuleUptoRow : OpenClaim := { program := "ythdoilfjcgickaa", sum := "9dfefddfcfe1ec70c41a5c469f23286b49288d125b2e7a32a85e7f380ba12d46", func := "loop.example/g01343/laws.FnExactRunByRule", spec := "fnExactRunByRule", unfollowed := true, recurses := true, apart := false, narrowed := true }
def FnExactRunByRuleUptoSaid : Prop := fnExactRunByRuleUptoRow.holds Try.pinned (OpenSpec.upto fnExactRunByRuleSpec)

/-- 'laws.FnExactCountEnds', WHERE WHAT IT READS IS OF BULK AT MOST 1048576: true; the input reads as it did. -/
def fnExactCountEndsUptoRow : OpenClaim := { program := "ythdoilfjcgickaa", sum := "9dfefddfcfe1ec70c41a5c469f23286b49288d125b2e7a32a85e7f380ba12d46", func := "loop.example/g01343/laws.FnExactCountEnds", spec := "fnExactCountEnds", unfollowed := true, recurses := true, apart := false, narrowed := true }
def FnExactCountEndsUptoSaid : Prop := fnExactCountEndsUptoRow.holds Try.pinned (OpenSpec.upto fnExactCountEndsSpec)

/-- 'laws.FnExactPivotedProblem', WHERE WHAT IT READS IS OF BULK AT MOST 1048576: true; the input reads as it did. -/
def fnExactPivotedProblemUptoRow : OpenClaim := { program := "ythdoilfjcgickaa", sum := "9dfefddfcfe1ec70c41a5c469f23286b49288d125b2e7a32a85e7f380ba12d46", func := "loop.example/g01343/laws.FnExactPivotedProblem", spec := "fnExactPivotedProblem", unfollowed := true, recurses := true, apart := false, narrowed := true }
def FnExactPivotedProblemUptoSaid : Prop := fnExactPivotedProblemUptoRow.holds Try.pinned (OpenSpec.upto fnExactPivotedProblemSpec)

/-- 'laws.FnExactLemkeSteps', WHERE WHAT IT READS IS OF BULK AT MOST 1048576: true; the input reads as it did. -/
def fnExactLemkeStepsUptoRow : OpenClaim := { program := "ythdoilfjcgickaa", sum := "9dfefddfcfe1ec70c41a5c469f23286b49288d125b2e7a32a85e7f380ba12d46", func := "loop.example/g01343/laws.FnExactLemkeSteps", spec := "fnExactLemkeSteps", unfollowed := true, recurses := true, apart := false, narrowed := true }
def FnExactLemkeStepsUptoSaid : Prop := fnExactLemkeStepsUptoRow.holds Try.pinned (OpenSpec.upto fnExactLemkeStepsSpec)

/-- 'laws.FnExactBasisAfter', WHERE WHAT IT READS IS OF BULK AT MOST 1048576: true; the input reads as it did. -/
def fnExactBasisAfterUptoRow : OpenClaim := { program := "ythdoilfjcgickaa", sum := "9dfefddfcfe1ec70c41a5c469f23286b49288d125b2e7a32a85e7f380ba12d46", func := "loop.example/g01343/laws.FnExactBasisAfter", spec := "fnExactBasisAfter", unfollowed := true, recurses := true, apart := false, narrowed := true }
def FnExactBasisAfterUptoSaid : Prop := fnExactBasisAfterUptoRow.holds Try.pinned (OpenSpec.upto fnExactBasisAfterSpec)

/-- 'laws.FnExactCountLemke', WHERE WHAT IT READS IS OF BULK AT MOST 1048576: true; the input reads as it did. -/
def fnExactCountLemkeUptoRow : OpenClaim := { program := "ythdoilfjcgickaa", sum := "9dfefddfcfe1ec70c41a5c469f23286b49288d125b2e7a32a85e7f380ba12d46", func := "loop.example/g01343/laws.FnExactCountLemke", spec := "fnExactCountLemke", unfollowed := true, recurses := true, apart := false, narrowed := true }
def FnExactCountLemkeUptoSaid : Prop := fnExactCountLemkeUptoRow.holds Try.pinned (OpenSpec.upto fnExactCountLemkeSpec)

/-- 'laws.FnExactCoverAfter', WHERE WHAT IT READS IS OF BULK AT MOST 1048576: true; the input reads as it did. -/
def fnExactCoverAfterUptoRow : OpenClaim := { program := "ythdoilfjcgickaa", sum := "9dfefddfcfe1ec70c41a5c469f23286b49288d125b2e7a32a85e7f380ba12d46", func := "loop.example/g01343/laws.FnExactCoverAfter", spec := "fnExactCoverAfter", unfollowed := true, recurses := true, apart := false, narrowed := true }
def FnExactCoverAfterUptoSaid : Prop := fnExactCoverAfterUptoRow.holds Try.pinned (OpenSpec.upto fnExactCoverAfterSpec)

/-- 'laws.FnExactLemkeRay', WHERE WHAT IT READS IS OF BULK AT MOST 1048576: true; the input reads as it did. -/
def fnExactLemkeRayUptoRow : OpenClaim := { program := "ythdoilfjcgickaa", sum := "9dfefddfcfe1ec70c41a5c469f23286b49288d125b2e7a32a85e7f380ba12d46", func := "loop.example/g01343/laws.FnExactLemkeRay", spec := "fnExactLemkeRay", unfollowed := true, recurses := true, apart := false, narrowed := true }
def FnExactLemkeRayUptoSaid : Prop := fnExactLemkeRayUptoRow.holds Try.pinned (OpenSpec.upto fnExactLemkeRaySpec)

end Rows
end Go.Proofs.Ythdoilfjcgickaa
