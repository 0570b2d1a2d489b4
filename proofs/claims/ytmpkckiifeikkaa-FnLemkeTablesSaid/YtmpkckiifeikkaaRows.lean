/-
  No cell of these rows narrows 'for every input' (looked for: loops, veiled, ifaces, maps, wideKeys, modest, calm, conditions, laid).
  DERIVED. THE GIVEN ROWS OF THIS SEAT. 6 by the template 'for every input the law returns true; each argument reads behind the call as it read before'; 0 by the template 'total and deterministic' (their statements: YtmpkckiifeikkaaTotals.lean).
  GIVEN WITH THE SEED: the statements are not yours to turn. If you find one false, say at which input.
  Laid BY PROGRAM, IN A SANDBOX (cutbox-rows.mjs): the forced cells as the released guide's own fill.sh prints them over the translation 10f08190f23cf9ce… (all of the seat's roots in one cut). By AI agents, Wed Nov 11 2026. No macro, syntax, notation, axiom, sorry.
-/
import Derived.Test.YtmpkckiifeikkaaChecked
import GoSem.Claim
import GoSem.ClaimJoined
import GoSem.ClaimMapViews
import Derived.JoinedTies
import Derived.KernelRfl
namespace Go.Proofs.Ytmpkckiifeikkaa
/- THE CELL 'sum', in the pinned program and in every row, IS THE sha256 OF THE DUMP (.gsa) THAT YtmpkckiifeikkaaProg.lean LOADS. Nothing in Lean hashes anything: it is a label: what it is worth is what the hold of that sum in a sandbox is worth. -/
noncomputable def Try.pinned : Pinned := { name := "ytmpkckiifeikkaa", sum := "10f08190f23cf9ced80a9035647e53bad58aa9bb265d34bacdd5a381cbe453f8", checked := Try.checked }
namespace Rows
def none {H : Type} : Left H := { results := [], args := [] }

/-- 'laws.FnExactRightAfter': WHATEVER THE INPUT: true; the input reads as it did. -/
def fnExactRightAfterSpec : ChangeSpec := { name := "fnExactRightAfter", fn := fun _ => fun
  | [d1, d2, d3] => { results := [.lit (.bool true)], args := [d1, d2, d3] }
  | _ => none }
def fnExactRightAfterRow : OpenClaim := { program := "ytmpkckiifeikkaa", sum := "10f08190f23cf9ced80a9035647e53bad58aa9bb265d34bacdd5a381cbe453f8", func := "loop.example/g01343/laws.FnExactRightAfter", spec := "fnExactRightAfter", unfollowed := true, recurses := true, apart := false }
def FnExactRightAfterSaid : Prop := fnExactRightAfterRow.holds Try.pinned (OpenSpec.ofChange fnExactRightAfterSpec)

/-- ITS FALSE NEIGHBOUR: 'it returns false'. Refute it at one input. -/
def fnExactRightAfterWrong : ChangeSpec := { name := "fnExactRightAfter", fn := fun _ => fun
  | [d1, d2, d3] => { results := [.lit (.bool false)], args := [d1, d2, d3] }
  | _ => none }
def FnExactRightAfterWrongFalsely : Prop := fnExactRightAfterRow.holds Try.pinned (OpenSpec.ofChange fnExactRightAfterWrong)

/-- 'laws.FnExactLemkeSolution': WHATEVER THE INPUT: true; the input reads as it did. -/
def fnExactLemkeSolutionSpec : ChangeSpec := { name := "fnExactLemkeSolution", fn := fun _ => fun
  | [d1, d2] => { results := [.lit (.bool true)], args := [d1, d2] }
  | _ => none }
def fnExactLemkeSolutionRow : OpenClaim := { program := "ytmpkckiifeikkaa", sum := "10f08190f23cf9ced80a9035647e53bad58aa9bb265d34bacdd5a381cbe453f8", func := "loop.example/g01343/laws.FnExactLemkeSolution", spec := "fnExactLemkeSolution", unfollowed := true, recurses := true, apart := false }
def FnExactLemkeSolutionSaid : Prop := fnExactLemkeSolutionRow.holds Try.pinned (OpenSpec.ofChange fnExactLemkeSolutionSpec)

/-- ITS FALSE NEIGHBOUR: 'it returns false'. Refute it at one input. -/
def fnExactLemkeSolutionWrong : ChangeSpec := { name := "fnExactLemkeSolution", fn := fun _ => fun
  | [d1, d2] => { results := [.lit (.bool false)], args := [d1, d2] }
  | _ => none }
def FnExactLemkeSolutionWrongFalsely : Prop := fnExactLemkeSolutionRow.holds Try.pinned (OpenSpec.ofChange fnExactLemkeSolutionWrong)

/-- 'laws.FnPivotMinors': WHATEVER THE INPUT: true; the input reads as it did. -/
def fnPivotMinorsSpec : ChangeSpec := { name := "fnPivotMinors", fn := fun _ => fun
  | [d] => { results := [.lit (.bool true)], args := [d] }
  | _ => none }
def fnPivotMinorsRow : OpenClaim := { program := "ytmpkckiifeikkaa", sum := "10f08190f23cf9ced80a9035647e53bad58aa9bb265d34bacdd5a381cbe453f8", func := "loop.example/g01343/laws.FnPivotMinors", spec := "fnPivotMinors", unfollowed := true, recurses := true, apart := false }
def FnPivotMinorsSaid : Prop := fnPivotMinorsRow.holds Try.pinned (OpenSpec.ofChange fnPivotMinorsSpec)

/-- ITS FALSE NEIGHBOUR: 'it returns false'. Refute it at one input. -/
def fnPivotMinorsWrong : ChangeSpec := { name := "fnPivotMinors", fn := fun _ => fun
  | [d] => { results := [.lit (.bool false)], args := [d] }
  | _ => none }
def FnPivotMinorsWrongFalsely : Prop := fnPivotMinorsRow.holds Try.pinned (OpenSpec.ofChange fnPivotMinorsWrong)

/-- 'laws.FnCubes': WHATEVER THE INPUT: true; the input reads as it did. -/
def fnCubesSpec : ChangeSpec := { name := "fnCubes", fn := fun _ => fun
  | [d] => { results := [.lit (.bool true)], args := [d] }
  | _ => none }
def fnCubesRow : OpenClaim := { program := "ytmpkckiifeikkaa", sum := "10f08190f23cf9ced80a9035647e53bad58aa9bb265d34bacdd5a381cbe453f8", func := "loop.example/g01343/laws.FnCubes", spec := "fnCubes", apart := false }
def FnCubesSaid : Prop := fnCubesRow.holds Try.pinned (OpenSpec.ofChange fnCubesSpec)

/-- ITS FALSE NEIGHBOUR: 'it returns false'. Refute it at one input. -/
def fnCubesWrong : ChangeSpec := { name := "fnCubes", fn := fun _ => fun
  | [d] => { results := [.lit (.bool false)], args := [d] }
  | _ => none }
def FnCubesWrongFalsely : Prop := fnCubesRow.holds Try.pinned (OpenSpec.ofChange fnCubesWrong)

/-- 'laws.FnPivots': WHATEVER THE INPUT: true; the input reads as it did. -/
def fnPivotsSpec : ChangeSpec := { name := "fnPivots", fn := fun _ => fun
  | [d] => { results := [.lit (.bool true)], args := [d] }
  | _ => none }
def fnPivotsRow : OpenClaim := { program := "ytmpkckiifeikkaa", sum := "10f08190f23cf9ced80a9035647e53bad58aa9bb265d34bacdd5a381cbe453f8", func := "loop.example/g01343/laws.FnPivots", spec := "fnPivots", unfollowed := true, recurses := true, apart := false }
def FnPivotsSaid : Prop := fnPivotsRow.holds Try.pinned (OpenSpec.ofChange fnPivotsSpec)

/-- ITS FALSE NEIGHBOUR: 'it returns false'. Refute it at one input. -/
def fnPivotsWrong : ChangeSpec := { name := "fnPivots", fn := fun _ => fun
  | [d] => { results := [.lit (.bool false)], args := [d] }
  | _ => none }
def FnPivotsWrongFalsely : Prop := fnPivotsRow.holds Try.pinned (OpenSpec.ofChange fnPivotsWrong)

/-- 'laws.FnLemkeTables': WHATEVER THE INPUT: true; the input reads as it did. -/
def fnLemkeTablesSpec : ChangeSpec := { name := "fnLemkeTables", fn := fun _ => fun
  | [d] => { results := [.lit (.bool true)], args := [d] }
  | _ => none }
def fnLemkeTablesRow : OpenClaim := { program := "ytmpkckiifeikkaa", sum := "10f08190f23cf9ced80a9035647e53bad58aa9bb265d34bacdd5a381cbe453f8", func := "loop.example/g01343/laws.FnLemkeTables", spec := "fnLemkeTables", unfollowed := true, recurses := true, apart := false }
def FnLemkeTablesSaid : Prop := fnLemkeTablesRow.holds Try.pinned (OpenSpec.ofChange fnLemkeTablesSpec)

/-- ITS FALSE NEIGHBOUR: 'it returns false'. Refute it at one input. -/
def fnLemkeTablesWrong : ChangeSpec := { name := "fnLemkeTables", fn := fun _ => fun
  | [d] => { results := [.lit (.bool false)], args := [d] }
  | _ => none }
def FnLemkeTablesWrongFalsely : Prop := fnLemkeTablesRow.holds Try.pinned (OpenSpec.ofChange fnLemkeTablesWrong)

/- THE SECOND FORM. 'bulk': how many values and letters a reading holds, each counted each time it is reached (what is shared counts as often as it is met; a slice's spare places count too). A statement '..UptoSaid' is the law's where the arguments, and the package variables that the reading takes, are together of bulk at most 1048576: NARROWER than '..Said'. Prove '..Said' where nothing that the law and all that it calls make is longer than what came in: it says more and counts as full. Else prove '..UptoSaid'. A law counts once. -/
mutual
def uptoBulk {H : Type} : DataW H → Nat
  | .lit (.string bytes) => bytes.length + 1
  | .lit _ => 1
  | .nil => 1
  | .ptr d => uptoBulk d + 1
  | .slice elems spare => uptoBulkAll elems + uptoBulkAll spare + 1
  | .agg parts => uptoBulkAll parts + 1
  | .iface _ d => uptoBulk d + 1
  | .map entries => uptoBulkEntries entries + 1
  | .held _ => 1
def uptoBulkAll {H : Type} : List (DataW H) → Nat
  | [] => 0
  | d :: r => uptoBulk d + uptoBulkAll r
def uptoBulkEntries {H : Type} : List (Lit × DataW H) → Nat
  | [] => 0
  | x :: r => uptoBulkEntry x + uptoBulkEntries r
def uptoBulkEntry {H : Type} : Lit × DataW H → Nat
  | (.string bytes, d) => bytes.length + uptoBulk d + 1
  | (_, d) => uptoBulk d + 1
 end
def uptoSmall : (H : Type) → List (DataW H) → Bool := fun _ ds => decide (uptoBulkAll ds ≤ 1048576)
def OpenSpec.upto (s : _root_.Go.ChangeSpec) : _root_.Go.OpenSpec := { _root_.Go.OpenSpec.ofChange s with cond := some uptoSmall }

/-- 'laws.FnExactRightAfter', WHERE WHAT IT READS IS OF BULK AT MOST 1048576: true; the input reads as it did. -/
def fnExactRightAfterUptoRow : OpenClaim := { program := "ytmpkckiifeikkaa", sum := "10f08190f23cf9ced80a9035647e53bad58aa9bb265d34bacdd5a381cbe453f8", func := "loop.example/g01343/laws.FnExactRightAfter", spec := "fnExactRightAfter", unfollowed := true, recurses := true, apart := false, narrowed := true }
def FnExactRightAfterUptoSaid : Prop := fnExactRightAfterUptoRow.holds Try.pinned (OpenSpec.upto fnExactRightAfterSpec)

/-- 'laws.FnExactLemkeSolution', WHERE WHAT IT READS IS OF BULK AT MOST 1048576: true; the input reads as it did. -/
def fnExactLemkeSolutionUptoRow : OpenClaim := { program := "ytmpkckiifeikkaa", sum := "10f08190f23cf9ced80a9035647e53bad58aa9bb265d34bacdd5a381cbe453f8", func := "loop.example/g01343/laws.FnExactLemkeSolution", spec := "fnExactLemkeSolution", unfollowed := true, recurses := true, apart := false, narrowed := true }
def FnExactLemkeSolutionUptoSaid : Prop := fnExactLemkeSolutionUptoRow.holds Try.pinned (OpenSpec.upto fnExactLemkeSolutionSpec)

/-- 'laws.FnPivotMinors', WHERE WHAT IT READS IS OF BULK AT MOST 1048576: true; the input reads as it did. -/
def fnPivotMinorsUptoRow : OpenClaim := { program := "ytmpkckiifeikkaa", sum := "10f08190f23cf9ced80a9035647e53bad58aa9bb265d34bacdd5a381cbe453f8", func := "loop.example/g01343/laws.FnPivotMinors", spec := "fnPivotMinors", unfollowed := true, recurses := true, apart := false, narrowed := true }
def FnPivotMinorsUptoSaid : Prop := fnPivotMinorsUptoRow.holds Try.pinned (OpenSpec.upto fnPivotMinorsSpec)

/-- 'laws.FnCubes', WHERE WHAT IT READS IS OF BULK AT MOST 1048576: true; the input reads as it did. -/
def fnCubesUptoRow : OpenClaim := { program := "ytmpkckiifeikkaa", sum := "10f08190f23cf9ced80a9035647e53bad58aa9bb265d34bacdd5a381cbe453f8", func := "loop.example/g01343/laws.FnCubes", spec := "fnCubes", apart := false, narrowed := true }
def FnCubesUptoSaid : Prop := fnCubesUptoRow.holds Try.pinned (OpenSpec.upto fnCubesSpec)

/-- 'laws.FnPivots', WHERE WHAT IT READS IS OF BULK AT MOST 1048576: true; the input reads as it did. -/
def fnPivotsUptoRow : OpenClaim := { program := "ytmpkckiifeikkaa", sum := "10f08190f23cf9ced80a9035647e53bad58aa9bb265d34bacdd5a381cbe453f8", func := "loop.example/g01343/laws.FnPivots", spec := "fnPivots", unfollowed := true, recurses := true, apart := false, narrowed := true }
def FnPivotsUptoSaid : Prop := fnPivotsUptoRow.holds Try.pinned (OpenSpec.upto fnPivotsSpec)

/-- 'laws.FnLemkeTables', WHERE WHAT IT READS IS OF BULK AT MOST 1048576: true; the input reads as it did. -/
def fnLemkeTablesUptoRow : OpenClaim := { program := "ytmpkckiifeikkaa", sum := "10f08190f23cf9ced80a9035647e53bad58aa9bb265d34bacdd5a381cbe453f8", func := "loop.example/g01343/laws.FnLemkeTables", spec := "fnLemkeTables", unfollowed := true, recurses := true, apart := false, narrowed := true }
def FnLemkeTablesUptoSaid : Prop := fnLemkeTablesUptoRow.holds Try.pinned (OpenSpec.upto fnLemkeTablesSpec)

end Rows
end Go.Proofs.Ytmpkckiifeikkaa
