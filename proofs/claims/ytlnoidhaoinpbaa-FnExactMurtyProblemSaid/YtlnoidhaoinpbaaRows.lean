/-
  No cell of these rows narrows 'for every input' (looked for: loops, veiled, ifaces, maps, wideKeys, modest, calm, conditions, laid).
  DERIVED. THE GIVEN ROWS OF THIS SEAT. 12 by the template 'for every input the law returns true; each argument reads behind the call as it read before'; 0 by the template 'total and deterministic' (their statements: YtlnoidhaoinpbaaTotals.lean).
  GIVEN WITH THE SEED: the statements are not yours to turn. If you find one false, say at which input.
  Laid BY PROGRAM, IN A SANDBOX (cutbox-rows.mjs): the forced cells as the released guide's own fill.sh prints them over the translation 217c8788d7b6fbc1… (all of the seat's roots in one cut). By AI agents, Wed Nov 11 2026. No macro, syntax, notation, axiom, sorry.
-/
import Derived.Test.YtlnoidhaoinpbaaChecked
import GoSem.Claim
import GoSem.ClaimJoined
import GoSem.ClaimMapViews
import Derived.JoinedTies
import Derived.KernelRfl
namespace Go.Proofs.Ytlnoidhaoinpbaa
/- THE CELL 'sum', in the pinned program and in every row, IS THE sha256 OF THE DUMP (.gsa) THAT YtlnoidhaoinpbaaProg.lean LOADS. Nothing in Lean hashes anything: it is a label: what it is worth is what the hold of that sum in a sandbox is worth. -/
noncomputable def Try.pinned : Pinned := { name := "ytlnoidhaoinpbaa", sum := "217c8788d7b6fbc1da78e08d442c41335b87a8613ca2f86aa233a4a111789c8e", checked := Try.checked }
namespace Rows
def none {H : Type} : Left H := { results := [], args := [] }

/-- 'laws.FnExactIsCube': WHATEVER THE INPUT: true; the input reads as it did. -/
def fnExactIsCubeSpec : ChangeSpec := { name := "fnExactIsCube", fn := fun _ => fun
  | [d] => { results := [.lit (.bool true)], args := [d] }
  | _ => none }
def fnExactIsCubeRow : OpenClaim := { program := "ytlnoidhaoinpbaa", sum := "217c8788d7b6fbc1da78e08d442c41335b87a8613ca2f86aa233a4a111789c8e", func := "loop.example/g01343/laws.FnExactIsCube", spec := "fnExactIsCube", apart := false }
def FnExactIsCubeSaid : Prop := fnExactIsCubeRow.holds Try.pinned (OpenSpec.ofChange fnExactIsCubeSpec)

/-- ITS FALSE NEIGHBOUR: 'it returns false'. Refute it at one input. -/
def fnExactIsCubeWrong : ChangeSpec := { name := "fnExactIsCube", fn := fun _ => fun
  | [d] => { results := [.lit (.bool false)], args := [d] }
  | _ => none }
def FnExactIsCubeWrongFalsely : Prop := fnExactIsCubeRow.holds Try.pinned (OpenSpec.ofChange fnExactIsCubeWrong)

/-- 'laws.FnExactCountUniqueSinks': WHATEVER THE INPUT: true; the input reads as it did. -/
def fnExactCountUniqueSinksSpec : ChangeSpec := { name := "fnExactCountUniqueSinks", fn := fun _ => fun
  | [d] => { results := [.lit (.bool true)], args := [d] }
  | _ => none }
def fnExactCountUniqueSinksRow : OpenClaim := { program := "ytlnoidhaoinpbaa", sum := "217c8788d7b6fbc1da78e08d442c41335b87a8613ca2f86aa233a4a111789c8e", func := "loop.example/g01343/laws.FnExactCountUniqueSinks", spec := "fnExactCountUniqueSinks", apart := false }
def FnExactCountUniqueSinksSaid : Prop := fnExactCountUniqueSinksRow.holds Try.pinned (OpenSpec.ofChange fnExactCountUniqueSinksSpec)

/-- ITS FALSE NEIGHBOUR: 'it returns false'. Refute it at one input. -/
def fnExactCountUniqueSinksWrong : ChangeSpec := { name := "fnExactCountUniqueSinks", fn := fun _ => fun
  | [d] => { results := [.lit (.bool false)], args := [d] }
  | _ => none }
def FnExactCountUniqueSinksWrongFalsely : Prop := fnExactCountUniqueSinksRow.holds Try.pinned (OpenSpec.ofChange fnExactCountUniqueSinksWrong)

/-- 'laws.FnExactHasUniqueSinks': WHATEVER THE INPUT: true; the input reads as it did. -/
def fnExactHasUniqueSinksSpec : ChangeSpec := { name := "fnExactHasUniqueSinks", fn := fun _ => fun
  | [d] => { results := [.lit (.bool true)], args := [d] }
  | _ => none }
def fnExactHasUniqueSinksRow : OpenClaim := { program := "ytlnoidhaoinpbaa", sum := "217c8788d7b6fbc1da78e08d442c41335b87a8613ca2f86aa233a4a111789c8e", func := "loop.example/g01343/laws.FnExactHasUniqueSinks", spec := "fnExactHasUniqueSinks", apart := false }
def FnExactHasUniqueSinksSaid : Prop := fnExactHasUniqueSinksRow.holds Try.pinned (OpenSpec.ofChange fnExactHasUniqueSinksSpec)

/-- ITS FALSE NEIGHBOUR: 'it returns false'. Refute it at one input. -/
def fnExactHasUniqueSinksWrong : ChangeSpec := { name := "fnExactHasUniqueSinks", fn := fun _ => fun
  | [d] => { results := [.lit (.bool false)], args := [d] }
  | _ => none }
def FnExactHasUniqueSinksWrongFalsely : Prop := fnExactHasUniqueSinksRow.holds Try.pinned (OpenSpec.ofChange fnExactHasUniqueSinksWrong)

/-- 'laws.FnExactSinksOf': WHATEVER THE INPUT: true; the input reads as it did. -/
def fnExactSinksOfSpec : ChangeSpec := { name := "fnExactSinksOf", fn := fun _ => fun
  | [d] => { results := [.lit (.bool true)], args := [d] }
  | _ => none }
def fnExactSinksOfRow : OpenClaim := { program := "ytlnoidhaoinpbaa", sum := "217c8788d7b6fbc1da78e08d442c41335b87a8613ca2f86aa233a4a111789c8e", func := "loop.example/g01343/laws.FnExactSinksOf", spec := "fnExactSinksOf", apart := false }
def FnExactSinksOfSaid : Prop := fnExactSinksOfRow.holds Try.pinned (OpenSpec.ofChange fnExactSinksOfSpec)

/-- ITS FALSE NEIGHBOUR: 'it returns false'. Refute it at one input. -/
def fnExactSinksOfWrong : ChangeSpec := { name := "fnExactSinksOf", fn := fun _ => fun
  | [d] => { results := [.lit (.bool false)], args := [d] }
  | _ => none }
def FnExactSinksOfWrongFalsely : Prop := fnExactSinksOfRow.holds Try.pinned (OpenSpec.ofChange fnExactSinksOfWrong)

/-- 'laws.FnExactIsGame': WHATEVER THE INPUT: true; the input reads as it did. -/
def fnExactIsGameSpec : ChangeSpec := { name := "fnExactIsGame", fn := fun _ => fun
  | [d] => { results := [.lit (.bool true)], args := [d] }
  | _ => none }
def fnExactIsGameRow : OpenClaim := { program := "ytlnoidhaoinpbaa", sum := "217c8788d7b6fbc1da78e08d442c41335b87a8613ca2f86aa233a4a111789c8e", func := "loop.example/g01343/laws.FnExactIsGame", spec := "fnExactIsGame", unfollowed := true, recurses := true, apart := false }
def FnExactIsGameSaid : Prop := fnExactIsGameRow.holds Try.pinned (OpenSpec.ofChange fnExactIsGameSpec)

/-- ITS FALSE NEIGHBOUR: 'it returns false'. Refute it at one input. -/
def fnExactIsGameWrong : ChangeSpec := { name := "fnExactIsGame", fn := fun _ => fun
  | [d] => { results := [.lit (.bool false)], args := [d] }
  | _ => none }
def FnExactIsGameWrongFalsely : Prop := fnExactIsGameRow.holds Try.pinned (OpenSpec.ofChange fnExactIsGameWrong)

/-- 'laws.FnExactMirrorCube': WHATEVER THE INPUT: true; the input reads as it did. -/
def fnExactMirrorCubeSpec : ChangeSpec := { name := "fnExactMirrorCube", fn := fun _ => fun
  | [d1, d2] => { results := [.lit (.bool true)], args := [d1, d2] }
  | _ => none }
def fnExactMirrorCubeRow : OpenClaim := { program := "ytlnoidhaoinpbaa", sum := "217c8788d7b6fbc1da78e08d442c41335b87a8613ca2f86aa233a4a111789c8e", func := "loop.example/g01343/laws.FnExactMirrorCube", spec := "fnExactMirrorCube", apart := false }
def FnExactMirrorCubeSaid : Prop := fnExactMirrorCubeRow.holds Try.pinned (OpenSpec.ofChange fnExactMirrorCubeSpec)

/-- ITS FALSE NEIGHBOUR: 'it returns false'. Refute it at one input. -/
def fnExactMirrorCubeWrong : ChangeSpec := { name := "fnExactMirrorCube", fn := fun _ => fun
  | [d1, d2] => { results := [.lit (.bool false)], args := [d1, d2] }
  | _ => none }
def FnExactMirrorCubeWrongFalsely : Prop := fnExactMirrorCubeRow.holds Try.pinned (OpenSpec.ofChange fnExactMirrorCubeWrong)

/-- 'laws.FnExactTurnCube': WHATEVER THE INPUT: true; the input reads as it did. -/
def fnExactTurnCubeSpec : ChangeSpec := { name := "fnExactTurnCube", fn := fun _ => fun
  | [d1, d2] => { results := [.lit (.bool true)], args := [d1, d2] }
  | _ => none }
def fnExactTurnCubeRow : OpenClaim := { program := "ytlnoidhaoinpbaa", sum := "217c8788d7b6fbc1da78e08d442c41335b87a8613ca2f86aa233a4a111789c8e", func := "loop.example/g01343/laws.FnExactTurnCube", spec := "fnExactTurnCube", apart := false }
def FnExactTurnCubeSaid : Prop := fnExactTurnCubeRow.holds Try.pinned (OpenSpec.ofChange fnExactTurnCubeSpec)

/-- ITS FALSE NEIGHBOUR: 'it returns false'. Refute it at one input. -/
def fnExactTurnCubeWrong : ChangeSpec := { name := "fnExactTurnCube", fn := fun _ => fun
  | [d1, d2] => { results := [.lit (.bool false)], args := [d1, d2] }
  | _ => none }
def FnExactTurnCubeWrongFalsely : Prop := fnExactTurnCubeRow.holds Try.pinned (OpenSpec.ofChange fnExactTurnCubeWrong)

/-- 'laws.FnExactIsConstantSum': WHATEVER THE INPUT: true; the input reads as it did. -/
def fnExactIsConstantSumSpec : ChangeSpec := { name := "fnExactIsConstantSum", fn := fun _ => fun
  | [d] => { results := [.lit (.bool true)], args := [d] }
  | _ => none }
def fnExactIsConstantSumRow : OpenClaim := { program := "ytlnoidhaoinpbaa", sum := "217c8788d7b6fbc1da78e08d442c41335b87a8613ca2f86aa233a4a111789c8e", func := "loop.example/g01343/laws.FnExactIsConstantSum", spec := "fnExactIsConstantSum", unfollowed := true, recurses := true, apart := false }
def FnExactIsConstantSumSaid : Prop := fnExactIsConstantSumRow.holds Try.pinned (OpenSpec.ofChange fnExactIsConstantSumSpec)

/-- ITS FALSE NEIGHBOUR: 'it returns false'. Refute it at one input. -/
def fnExactIsConstantSumWrong : ChangeSpec := { name := "fnExactIsConstantSum", fn := fun _ => fun
  | [d] => { results := [.lit (.bool false)], args := [d] }
  | _ => none }
def FnExactIsConstantSumWrongFalsely : Prop := fnExactIsConstantSumRow.holds Try.pinned (OpenSpec.ofChange fnExactIsConstantSumWrong)

/-- 'laws.FnExactMurtyProblem': WHATEVER THE INPUT: true; the input reads as it did. -/
def fnExactMurtyProblemSpec : ChangeSpec := { name := "fnExactMurtyProblem", fn := fun _ => fun
  | [d] => { results := [.lit (.bool true)], args := [d] }
  | _ => none }
def fnExactMurtyProblemRow : OpenClaim := { program := "ytlnoidhaoinpbaa", sum := "217c8788d7b6fbc1da78e08d442c41335b87a8613ca2f86aa233a4a111789c8e", func := "loop.example/g01343/laws.FnExactMurtyProblem", spec := "fnExactMurtyProblem", apart := false }
def FnExactMurtyProblemSaid : Prop := fnExactMurtyProblemRow.holds Try.pinned (OpenSpec.ofChange fnExactMurtyProblemSpec)

/-- ITS FALSE NEIGHBOUR: 'it returns false'. Refute it at one input. -/
def fnExactMurtyProblemWrong : ChangeSpec := { name := "fnExactMurtyProblem", fn := fun _ => fun
  | [d] => { results := [.lit (.bool false)], args := [d] }
  | _ => none }
def FnExactMurtyProblemWrongFalsely : Prop := fnExactMurtyProblemRow.holds Try.pinned (OpenSpec.ofChange fnExactMurtyProblemWrong)

/-- 'laws.FnExactWalkByRule': WHATEVER THE INPUT: true; the input reads as it did. -/
def fnExactWalkByRuleSpec : ChangeSpec := { name := "fnExactWalkByRule", fn := fun _ => fun
  | [d1, d2, d3] => { results := [.lit (.bool true)], args := [d1, d2, d3] }
  | _ => none }
def fnExactWalkByRuleRow : OpenClaim := { program := "ytlnoidhaoinpbaa", sum := "217c8788d7b6fbc1da78e08d442c41335b87a8613ca2f86aa233a4a111789c8e", func := "loop.example/g01343/laws.FnExactWalkByRule", spec := "fnExactWalkByRule", apart := false }
def FnExactWalkByRuleSaid : Prop := fnExactWalkByRuleRow.holds Try.pinned (OpenSpec.ofChange fnExactWalkByRuleSpec)

/-- ITS FALSE NEIGHBOUR: 'it returns false'. Refute it at one input. -/
def fnExactWalkByRuleWrong : ChangeSpec := { name := "fnExactWalkByRule", fn := fun _ => fun
  | [d1, d2, d3] => { results := [.lit (.bool false)], args := [d1, d2, d3] }
  | _ => none }
def FnExactWalkByRuleWrongFalsely : Prop := fnExactWalkByRuleRow.holds Try.pinned (OpenSpec.ofChange fnExactWalkByRuleWrong)

/-- 'laws.FnExactFaceOf': WHATEVER THE INPUT: true; the input reads as it did. -/
def fnExactFaceOfSpec : ChangeSpec := { name := "fnExactFaceOf", fn := fun _ => fun
  | [d1, d2, d3] => { results := [.lit (.bool true)], args := [d1, d2, d3] }
  | _ => none }
def fnExactFaceOfRow : OpenClaim := { program := "ytlnoidhaoinpbaa", sum := "217c8788d7b6fbc1da78e08d442c41335b87a8613ca2f86aa233a4a111789c8e", func := "loop.example/g01343/laws.FnExactFaceOf", spec := "fnExactFaceOf", apart := false }
def FnExactFaceOfSaid : Prop := fnExactFaceOfRow.holds Try.pinned (OpenSpec.ofChange fnExactFaceOfSpec)

/-- ITS FALSE NEIGHBOUR: 'it returns false'. Refute it at one input. -/
def fnExactFaceOfWrong : ChangeSpec := { name := "fnExactFaceOf", fn := fun _ => fun
  | [d1, d2, d3] => { results := [.lit (.bool false)], args := [d1, d2, d3] }
  | _ => none }
def FnExactFaceOfWrongFalsely : Prop := fnExactFaceOfRow.holds Try.pinned (OpenSpec.ofChange fnExactFaceOfWrong)

/-- 'laws.FnExactIsAcyclicCube': WHATEVER THE INPUT: true; the input reads as it did. -/
def fnExactIsAcyclicCubeSpec : ChangeSpec := { name := "fnExactIsAcyclicCube", fn := fun _ => fun
  | [d] => { results := [.lit (.bool true)], args := [d] }
  | _ => none }
def fnExactIsAcyclicCubeRow : OpenClaim := { program := "ytlnoidhaoinpbaa", sum := "217c8788d7b6fbc1da78e08d442c41335b87a8613ca2f86aa233a4a111789c8e", func := "loop.example/g01343/laws.FnExactIsAcyclicCube", spec := "fnExactIsAcyclicCube", apart := false }
def FnExactIsAcyclicCubeSaid : Prop := fnExactIsAcyclicCubeRow.holds Try.pinned (OpenSpec.ofChange fnExactIsAcyclicCubeSpec)

/-- ITS FALSE NEIGHBOUR: 'it returns false'. Refute it at one input. -/
def fnExactIsAcyclicCubeWrong : ChangeSpec := { name := "fnExactIsAcyclicCube", fn := fun _ => fun
  | [d] => { results := [.lit (.bool false)], args := [d] }
  | _ => none }
def FnExactIsAcyclicCubeWrongFalsely : Prop := fnExactIsAcyclicCubeRow.holds Try.pinned (OpenSpec.ofChange fnExactIsAcyclicCubeWrong)

/- THE SECOND FORM. 'bulk': how many values and letters a reading holds, each counted each time it is reached (what is shared counts as often as it is met; a slice's spare places count too). A statement '..UptoSaid' is the law's where the arguments, and the package variables that the reading takes, are together of bulk at most 1048576: NARROWER than '..Said'. Prove '..Said' where nothing that the law and all that it calls make is longer than what came in: it says more and counts as full. Else prove '..UptoSaid'. A law counts once. -/
mutual
def uptoBulk {H : Type} : DataW H → Nat
  | .lit (.string bytes) => bytes.length + 1
  | .lit _ => 1
  | .nil => 1
  | .ptr d => uptoBulk d + 1
  | .slice elems spare => uptoBulkAll elems + uptoBulkAll spare + 1
  | .agg parts => uptoBulkAll parts + 1
  | .iface _ d => uptoBulk d + 1
  | .map entries => uptoBulkEntries entries + 1
  | .held _ => 1
def uptoBulkAll {H : Type} : List (DataW H) → Nat
  | [] => 0
  | d :: r => uptoBulk d + uptoBulkAll r
def uptoBulkEntries {H : Type} : List (Lit × DataW H) → Nat
  | [] => 0
  | x :: r => uptoBulkEntry x + uptoBulkEntries r
def uptoBulkEntry {H : Type} : Lit × DataW H → Nat
  | (.string bytes, d) => bytes.length + uptoBulk d + 1
  | (_, d) => uptoBulk d + 1
 end
def uptoSmall : (H : Type) → List (DataW H) → Bool := fun _ ds => decide (uptoBulkAll ds ≤ 1048576)
def OpenSpec.upto (s : _root_.Go.ChangeSpec) : _root_.Go.OpenSpec := { _root_.Go.OpenSpec.ofChange s with cond := some uptoSmall }

/-- 'laws.FnExactIsCube', WHERE WHAT IT READS IS OF BULK AT MOST 1048576: true; the input reads as it did. -/
def fnExactIsCubeUptoRow : OpenClaim := { program := "ytlnoidhaoinpbaa", sum := "217c8788d7b6fbc1da78e08d442c41335b87a8613ca2f86aa233a4a111789c8e", func := "loop.example/g01343/laws.FnExactIsCube", spec := "fnExactIsCube", apart := false, narrowed := true }
def FnExactIsCubeUptoSaid : Prop := fnExactIsCubeUptoRow.holds Try.pinned (OpenSpec.upto fnExactIsCubeSpec)

/-- 'laws.FnExactCountUniqueSinks', WHERE WHAT IT READS IS OF BULK AT MOST 1048576: true; the input reads as it did. -/
def fnExactCountUniqueSinksUptoRow : OpenClaim := { program := "ytlnoidhaoinpbaa", sum := "217c8788d7b6fbc1da78e08d442c41335b87a8613ca2f86aa233a4a111789c8e", func := "loop.example/g01343/laws.FnExactCountUniqueSinks", spec := "fnExactCountUniqueSinks", apart := false, narrowed := true }
def FnExactCountUniqueSinksUptoSaid : Prop := fnExactCountUniqueSinksUptoRow.holds Try.pinned (OpenSpec.upto fnExactCountUniqueSinksSpec)

/-- 'laws.FnExactHasUniqueSinks', WHERE WHAT IT READS IS OF BULK AT MOST 1048576: true; the input reads as it did. -/
def fnExactHasUniqueSinksUptoRow : OpenClaim := { program := "ytlnoidhaoinpbaa", sum := "217c8788d7b6fbc1da78e08d442c41335b87a8613ca2f86aa233a4a111789c8e", func := "loop.example/g01343/laws.FnExactHasUniqueSinks", spec := "fnExactHasUniqueSinks", apart := false, narrowed := true }
def FnExactHasUniqueSinksUptoSaid : Prop := fnExactHasUniqueSinksUptoRow.holds Try.pinned (OpenSpec.upto fnExactHasUniqueSinksSpec)

/-- 'laws.FnExactSinksOf', WHERE WHAT IT READS IS OF BULK AT MOST 1048576: true; the input reads as it did. -/
def fnExactSinksOfUptoRow : OpenClaim := { program := "ytlnoidhaoinpbaa", sum := "217c8788d7b6fbc1da78e08d442c41335b87a8613ca2f86aa233a4a111789c8e", func := "loop.example/g01343/laws.FnExactSinksOf", spec := "fnExactSinksOf", apart := false, narrowed := true }
def FnExactSinksOfUptoSaid : Prop := fnExactSinksOfUptoRow.holds Try.pinned (OpenSpec.upto fnExactSinksOfSpec)

/-- 'laws.FnExactIsGame', WHERE WHAT IT READS IS OF BULK AT MOST 1048576: true; the input reads as it did. -/
def fnExactIsGameUptoRow : OpenClaim := { program := "ytlnoidhaoinpbaa", sum := "217c8788d7b6fbc1da78e08d442c41335b87a8613ca2f86aa233a4a111789c8e", func := "loop.example/g01343/laws.FnExactIsGame", spec := "fnExactIsGame", unfollowed := true, recurses := true, apart := false, narrowed := true }
def FnExactIsGameUptoSaid : Prop := fnExactIsGameUptoRow.holds Try.pinned (OpenSpec.upto fnExactIsGameSpec)

/-- 'laws.FnExactMirrorCube', WHERE WHAT IT READS IS OF BULK AT MOST 1048576: true; the input reads as it did. -/
def fnExactMirrorCubeUptoRow : OpenClaim := { program := "ytlnoidhaoinpbaa", sum := "217c8788d7b6fbc1da78e08d442c41335b87a8613ca2f86aa233a4a111789c8e", func := "loop.example/g01343/laws.FnExactMirrorCube", spec := "fnExactMirrorCube", apart := false, narrowed := true }
def FnExactMirrorCubeUptoSaid : Prop := fnExactMirrorCubeUptoRow.holds Try.pinned (OpenSpec.upto fnExactMirrorCubeSpec)

/-- 'laws.FnExactTurnCube', WHERE WHAT IT READS IS OF BULK AT MOST 1048576: true; the input reads as it did. -/
def fnExactTurnCubeUptoRow : OpenClaim := { program := "ytlnoidhaoinpbaa", sum := "217c8788d7b6fbc1da78e08d442c41335b87a8613ca2f86aa233a4a111789c8e", func := "loop.example/g01343/laws.FnExactTurnCube", spec := "fnExactTurnCube", apart := false, narrowed := true }
def FnExactTurnCubeUptoSaid : Prop := fnExactTurnCubeUptoRow.holds Try.pinned (OpenSpec.upto fnExactTurnCubeSpec)

/-- 'laws.FnExactIsConstantSum', WHERE WHAT IT READS IS OF BULK AT MOST 1048576: true; the input reads as it did. -/
def fnExactIsConstantSumUptoRow : OpenClaim := { program := "ytlnoidhaoinpbaa", sum := "217c8788d7b6fbc1da78e08d442c41335b87a8613ca2f86aa233a4a111789c8e", func := "loop.example/g01343/laws.FnExactIsConstantSum", spec := "fnExactIsConstantSum", unfollowed := true, recurses := true, apart := false, narrowed := true }
def FnExactIsConstantSumUptoSaid : Prop := fnExactIsConstantSumUptoRow.holds Try.pinned (OpenSpec.upto fnExactIsConstantSumSpec)

/-- 'laws.FnExactMurtyProblem', WHERE WHAT IT READS IS OF BULK AT MOST 1048576: true; the input reads as it did. -/
def fnExactMurtyProblemUptoRow : OpenClaim := { program := "ytlnoidhaoinpbaa", sum := "217c8788d7b6fbc1da78e08d442c41335b87a8613ca2f86aa233a4a111789c8e", func := "loop.example/g01343/laws.FnExactMurtyProblem", spec := "fnExactMurtyProblem", apart := false, narrowed := true }
def FnExactMurtyProblemUptoSaid : Prop := fnExactMurtyProblemUptoRow.holds Try.pinned (OpenSpec.upto fnExactMurtyProblemSpec)

/-- 'laws.FnExactWalkByRule', WHERE WHAT IT READS IS OF BULK AT MOST 1048576: true; the input reads as it did. -/
def fnExactWalkByRuleUptoRow : OpenClaim := { program := "ytlnoidhaoinpbaa", sum := "217c8788d7b6fbc1da78e08d442c41335b87a8613ca2f86aa233a4a111789c8e", func := "loop.example/g01343/laws.FnExactWalkByRule", spec := "fnExactWalkByRule", apart := false, narrowed := true }
def FnExactWalkByRuleUptoSaid : Prop := fnExactWalkByRuleUptoRow.holds Try.pinned (OpenSpec.upto fnExactWalkByRuleSpec)

/-- 'laws.FnExactFaceOf', WHERE WHAT IT READS IS OF BULK AT MOST 1048576: true; the input reads as it did. -/
def fnExactFaceOfUptoRow : OpenClaim := { program := "ytlnoidhaoinpbaa", sum := "217c8788d7b6fbc1da78e08d442c41335b87a8613ca2f86aa233a4a111789c8e", func := "loop.example/g01343/laws.FnExactFaceOf", spec := "fnExactFaceOf", apart := false, narrowed := true }
def FnExactFaceOfUptoSaid : Prop := fnExactFaceOfUptoRow.holds Try.pinned (OpenSpec.upto fnExactFaceOfSpec)

/-- 'laws.FnExactIsAcyclicCube', WHERE WHAT IT READS IS OF BULK AT MOST 1048576: true; the input reads as it did. -/
def fnExactIsAcyclicCubeUptoRow : OpenClaim := { program := "ytlnoidhaoinpbaa", sum := "217c8788d7b6fbc1da78e08d442c41335b87a8613ca2f86aa233a4a111789c8e", func := "loop.example/g01343/laws.FnExactIsAcyclicCube", spec := "fnExactIsAcyclicCube", apart := false, narrowed := true }
def FnExactIsAcyclicCubeUptoSaid : Prop := fnExactIsAcyclicCubeUptoRow.holds Try.pinned (OpenSpec.upto fnExactIsAcyclicCubeSpec)

end Rows
end Go.Proofs.Ytlnoidhaoinpbaa
