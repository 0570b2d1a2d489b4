/-
  No cell of these rows narrows 'for every input' (looked for: loops, veiled, ifaces, maps, wideKeys, modest, calm, conditions, laid).
  DERIVED. THE GIVEN ROWS OF THIS SEAT. 2 by the template 'for every input the law returns true; each argument reads behind the call as it read before'; 0 by the template 'total and deterministic' (their statements: YtmcddlpgffbmpaaTotals.lean).
  GIVEN WITH THE SEED: the statements are not yours to turn. If you find one false, say at which input.
  Laid BY PROGRAM, IN A SANDBOX (cutbox-rows.mjs): the forced cells as the released guide's own fill.sh prints them over the translation 28ca449f78f0f77d… (all of the seat's roots in one cut). By AI agents, Wed Nov 11 2026. No macro, syntax, notation, axiom, sorry.
-/
import Derived.Test.YtmcddlpgffbmpaaChecked
import GoSem.Claim
import GoSem.ClaimJoined
import GoSem.ClaimMapViews
import Derived.JoinedTies
import Derived.KernelRfl
namespace Go.Proofs.Ytmcddlpgffbmpaa
/- THE CELL 'sum', in the pinned program and in every row, IS THE sha256 OF THE DUMP (.gsa) THAT YtmcddlpgffbmpaaProg.lean LOADS. Nothing in Lean hashes anything: it is a label: what it is worth is what the hold of that sum in a sandbox is worth. -/
noncomputable def Try.pinned : Pinned := { name := "ytmcddlpgffbmpaa", sum := "28ca449f78f0f77d5a0ac173513ede2887785f0b31d6791b4c9df21495ef9bb6", checked := Try.checked }
namespace Rows
def none {H : Type} : Left H := { results := [], args := [] }

/-- 'laws.FnExactCountUniqueSinks': WHATEVER THE INPUT: true; the input reads as it did. -/
def fnExactCountUniqueSinksSpec : ChangeSpec := { name := "fnExactCountUniqueSinks", fn := fun _ => fun
  | [d] => { results := [.lit (.bool true)], args := [d] }
  | _ => none }
def fnExactCountUniqueSinksRow : OpenClaim := { program := "ytmcddlpgffbmpaa", sum := "28ca449f78f0f77d5a0ac173513ede2887785f0b31d6791b4c9df21495ef9bb6", func := "loop.example/g01343/laws.FnExactCountUniqueSinks", spec := "fnExactCountUniqueSinks", apart := false }
def FnExactCountUniqueSinksSaid : Prop := fnExactCountUniqueSinksRow.holds Try.pinned (OpenSpec.ofChange fnExactCountUniqueSinksSpec)

/-- ITS FALSE NEIGHBOUR: 'it returns false'. Refute it at one input. -/
def fnExactCountUniqueSinksWrong : ChangeSpec := { name := "fnExactCountUniqueSinks", fn := fun _ => fun
  | [d] => { results := [.lit (.bool false)], args := [d] }
  | _ => none }
def FnExactCountUniqueSinksWrongFalsely : Prop := fnExactCountUniqueSinksRow.holds Try.pinned (OpenSpec.ofChange fnExactCountUniqueSinksWrong)

/-- 'laws.FnExactRemainingChoices': WHATEVER THE INPUT: true; the input reads as it did. -/
def fnExactRemainingChoicesSpec : ChangeSpec := { name := "fnExactRemainingChoices", fn := fun _ => fun
  | [d] => { results := [.lit (.bool true)], args := [d] }
  | _ => none }
def fnExactRemainingChoicesRow : OpenClaim := { program := "ytmcddlpgffbmpaa", sum := "28ca449f78f0f77d5a0ac173513ede2887785f0b31d6791b4c9df21495ef9bb6", func := "loop.example/g01343/laws.FnExactRemainingChoices", spec := "fnExactRemainingChoices", unfollowed := true, recurses := true, apart := false }
def FnExactRemainingChoicesSaid : Prop := fnExactRemainingChoicesRow.holds Try.pinned (OpenSpec.ofChange fnExactRemainingChoicesSpec)

/-- ITS FALSE NEIGHBOUR: 'it returns false'. Refute it at one input. -/
def fnExactRemainingChoicesWrong : ChangeSpec := { name := "fnExactRemainingChoices", fn := fun _ => fun
  | [d] => { results := [.lit (.bool false)], args := [d] }
  | _ => none }
def FnExactRemainingChoicesWrongFalsely : Prop := fnExactRemainingChoicesRow.holds Try.pinned (OpenSpec.ofChange fnExactRemainingChoicesWrong)

/- THE SECOND FORM. 'bulk': how many values and letters a reading holds, each counted each time it is reached (what is shared counts as often as it is met; a slice's spare places count too). A statement '..UptoSaid' is the law's where the arguments, and the package variables that the reading takes, are together of bulk at most 1048576: NARROWER than '..Said'. Prove '..Said' where nothing that the law and all that it calls make is longer than what came in: it says more and counts as full. Else prove '..UptoSaid'. A law counts once. -/
mutual
def uptoBulk {H : Type} : DataW H → Nat
  | .lit (.string bytes) => bytes.length + 1
  | .lit _ => 1
  | .nil => 1
  | .ptr d => uptoBulk d + 1
  | .slice elems spare => uptoBulkAll elems + uptoBulkAll spare + 1
  | .agg parts => uptoBulkAll parts + 1
  | .iface _ d => uptoBulk d + 1
  | .map entries => uptoBulkEntries entries + 1
  | .held _ => 1
def uptoBulkAll {H : Type} : List (DataW H) → Nat
  | [] => 0
  | d :: r => uptoBulk d + uptoBulkAll r
def uptoBulkEntries {H : Type} : List (Lit × DataW H) → Nat
  | [] => 0
  | x :: r => uptoBulkEntry x + uptoBulkEntries r
def uptoBulkEntry {H : Type} : Lit × DataW H → Nat
  | (.string bytes, d) => bytes.length + uptoBulk d + 1
  | (_, d) => uptoBulk d + 1
 end
def uptoSmall : (H : Type) → List (DataW H) → Bool := fun _ ds => decide (uptoBulkAll ds ≤ 1048576)
def OpenSpec.upto (s : _root_.Go.ChangeSpec) : _root_.Go.OpenSpec := { _root_.Go.OpenSpec.ofChange s with cond := some uptoSmall }

/-- 'laws.FnExactCountUniqueSinks', WHERE WHAT IT READS IS OF BULK AT MOST 1048576: true; the input reads as it did. -/
def fnExactCountUniqueSinksUptoRow : OpenClaim := { program := "ytmcddlpgffbmpaa", sum := "28ca449f78f0f77d5a0ac173513ede2887785f0b31d6791b4c9df21495ef9bb6", func := "loop.example/g01343/laws.FnExactCountUniqueSinks", spec := "fnExactCountUniqueSinks", apart := false, narrowed := true }
def FnExactCountUniqueSinksUptoSaid : Prop := fnExactCountUniqueSinksUptoRow.holds Try.pinned (OpenSpec.upto fnExactCountUniqueSinksSpec)

/-- 'laws.FnExactRemainingChoices', WHERE WHAT IT READS IS OF BULK AT MOST 1048576: true; the input reads as it did. -/
def fnExactRemainingChoicesUptoRow : OpenClaim := { program := "ytmcddlpgffbmpaa", sum := "28ca449f78f0f77d5a0ac173513ede2887785f0b31d6791b4c9df21495ef9bb6", func := "loop.example/g01343/laws.FnExactRemainingChoices", spec := "fnExactRemainingChoices", unfollowed := true, recurses := true, apart := false, narrowed := true }
def FnExactRemainingChoicesUptoSaid : Prop := fnExactRemainingChoicesUptoRow.holds Try.pinned (OpenSpec.upto fnExactRemainingChoicesSpec)

end Rows
end Go.Proofs.Ytmcddlpgffbmpaa
