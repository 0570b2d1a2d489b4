/-
  No cell of these rows narrows 'for every input' (looked for: loops, veiled, ifaces, maps, wideKeys, modest, calm, conditions, laid).
  DERIVED. THE GIVEN ROWS OF THIS SEAT. 12 by the template 'for every input the law returns true; each argument reads behind the call as it read before'; 0 by the template 'total and deterministic' (their statements: YtjjbhdpjnjncbaaTotals.lean).
  GIVEN WITH THE SEED: the statements are not yours to turn. If you find one false, say at which input.
  Laid BY PROGRAM, IN A SANDBOX (cutbox-rows.mjs): the forced cells as the released guide's own fill.sh prints them over the translation a2a57f1be4d16191… (all of the seat's roots in one cut). By AI agents, Wed Nov 11 2026. No macro, syntax, notation, axiom, sorry.
-/
import Derived.Test.YtjjbhdpjnjncbaaChecked
import GoSem.Claim
import GoSem.ClaimJoined
import GoSem.ClaimMapViews
import Derived.JoinedTies
import Derived.KernelRfl
namespace Go.Proofs.Ytjjbhdpjnjncbaa
/- THE CELL 'sum', in the pinned program and in every row, IS THE sha256 OF THE DUMP (.gsa) THAT YtjjbhdpjnjncbaaProg.lean LOADS. Nothing in Lean hashes anything: it is a label: what it is worth is what the hold of that sum in a sandbox is worth. -/
noncomputable def Try.pinned : Pinned := { name := "ytjjbhdpjnjncbaa", sum := "a2a57f1be4d16191fb24bb1d534564658167d735f26ce869041563a7089b619a", checked := Try.checked }
namespace Rows
def none {H : Type} : Left H := { results := [], args := [] }

/-- 'laws.FnExactExchangePlayers': WHATEVER THE INPUT: true; the input reads as it did. -/
def fnExactExchangePlayersSpec : ChangeSpec := { name := "fnExactExchangePlayers", fn := fun _ => fun
  | [d] => { results := [.lit (.bool true)], args := [d] }
  | _ => none }
def fnExactExchangePlayersRow : OpenClaim := { program := "ytjjbhdpjnjncbaa", sum := "a2a57f1be4d16191fb24bb1d534564658167d735f26ce869041563a7089b619a", func := "loop.example/g01343/laws.FnExactExchangePlayers", spec := "fnExactExchangePlayers", unfollowed := true, recurses := true, apart := false }
def FnExactExchangePlayersSaid : Prop := fnExactExchangePlayersRow.holds Try.pinned (OpenSpec.ofChange fnExactExchangePlayersSpec)

/-- ITS FALSE NEIGHBOUR: 'it returns false'. Refute it at one input. -/
def fnExactExchangePlayersWrong : ChangeSpec := { name := "fnExactExchangePlayers", fn := fun _ => fun
  | [d] => { results := [.lit (.bool false)], args := [d] }
  | _ => none }
def FnExactExchangePlayersWrongFalsely : Prop := fnExactExchangePlayersRow.holds Try.pinned (OpenSpec.ofChange fnExactExchangePlayersWrong)

/-- 'laws.FnExactLongestPath': WHATEVER THE INPUT: true; the input reads as it did. -/
def fnExactLongestPathSpec : ChangeSpec := { name := "fnExactLongestPath", fn := fun _ => fun
  | [d] => { results := [.lit (.bool true)], args := [d] }
  | _ => none }
def fnExactLongestPathRow : OpenClaim := { program := "ytjjbhdpjnjncbaa", sum := "a2a57f1be4d16191fb24bb1d534564658167d735f26ce869041563a7089b619a", func := "loop.example/g01343/laws.FnExactLongestPath", spec := "fnExactLongestPath", apart := false }
def FnExactLongestPathSaid : Prop := fnExactLongestPathRow.holds Try.pinned (OpenSpec.ofChange fnExactLongestPathSpec)

/-- ITS FALSE NEIGHBOUR: 'it returns false'. Refute it at one input. -/
def fnExactLongestPathWrong : ChangeSpec := { name := "fnExactLongestPath", fn := fun _ => fun
  | [d] => { results := [.lit (.bool false)], args := [d] }
  | _ => none }
def FnExactLongestPathWrongFalsely : Prop := fnExactLongestPathRow.holds Try.pinned (OpenSpec.ofChange fnExactLongestPathWrong)

/-- 'laws.FnExactPureEquilibria': WHATEVER THE INPUT: true; the input reads as it did. -/
def fnExactPureEquilibriaSpec : ChangeSpec := { name := "fnExactPureEquilibria", fn := fun _ => fun
  | [d] => { results := [.lit (.bool true)], args := [d] }
  | _ => none }
def fnExactPureEquilibriaRow : OpenClaim := { program := "ytjjbhdpjnjncbaa", sum := "a2a57f1be4d16191fb24bb1d534564658167d735f26ce869041563a7089b619a", func := "loop.example/g01343/laws.FnExactPureEquilibria", spec := "fnExactPureEquilibria", unfollowed := true, recurses := true, apart := false }
def FnExactPureEquilibriaSaid : Prop := fnExactPureEquilibriaRow.holds Try.pinned (OpenSpec.ofChange fnExactPureEquilibriaSpec)

/-- ITS FALSE NEIGHBOUR: 'it returns false'. Refute it at one input. -/
def fnExactPureEquilibriaWrong : ChangeSpec := { name := "fnExactPureEquilibria", fn := fun _ => fun
  | [d] => { results := [.lit (.bool false)], args := [d] }
  | _ => none }
def FnExactPureEquilibriaWrongFalsely : Prop := fnExactPureEquilibriaRow.holds Try.pinned (OpenSpec.ofChange fnExactPureEquilibriaWrong)

/-- 'laws.FnExactRemainingChoices': WHATEVER THE INPUT: true; the input reads as it did. -/
def fnExactRemainingChoicesSpec : ChangeSpec := { name := "fnExactRemainingChoices", fn := fun _ => fun
  | [d] => { results := [.lit (.bool true)], args := [d] }
  | _ => none }
def fnExactRemainingChoicesRow : OpenClaim := { program := "ytjjbhdpjnjncbaa", sum := "a2a57f1be4d16191fb24bb1d534564658167d735f26ce869041563a7089b619a", func := "loop.example/g01343/laws.FnExactRemainingChoices", spec := "fnExactRemainingChoices", unfollowed := true, recurses := true, apart := false }
def FnExactRemainingChoicesSaid : Prop := fnExactRemainingChoicesRow.holds Try.pinned (OpenSpec.ofChange fnExactRemainingChoicesSpec)

/-- ITS FALSE NEIGHBOUR: 'it returns false'. Refute it at one input. -/
def fnExactRemainingChoicesWrong : ChangeSpec := { name := "fnExactRemainingChoices", fn := fun _ => fun
  | [d] => { results := [.lit (.bool false)], args := [d] }
  | _ => none }
def FnExactRemainingChoicesWrongFalsely : Prop := fnExactRemainingChoicesRow.holds Try.pinned (OpenSpec.ofChange fnExactRemainingChoicesWrong)

/-- 'laws.FnExactRunChain': WHATEVER THE INPUT: true; the input reads as it did. -/
def fnExactRunChainSpec : ChangeSpec := { name := "fnExactRunChain", fn := fun _ => fun
  | [d1, d2] => { results := [.lit (.bool true)], args := [d1, d2] }
  | _ => none }
def fnExactRunChainRow : OpenClaim := { program := "ytjjbhdpjnjncbaa", sum := "a2a57f1be4d16191fb24bb1d534564658167d735f26ce869041563a7089b619a", func := "loop.example/g01343/laws.FnExactRunChain", spec := "fnExactRunChain", unfollowed := true, recurses := true, apart := false }
def FnExactRunChainSaid : Prop := fnExactRunChainRow.holds Try.pinned (OpenSpec.ofChange fnExactRunChainSpec)

/-- ITS FALSE NEIGHBOUR: 'it returns false'. Refute it at one input. -/
def fnExactRunChainWrong : ChangeSpec := { name := "fnExactRunChain", fn := fun _ => fun
  | [d1, d2] => { results := [.lit (.bool false)], args := [d1, d2] }
  | _ => none }
def FnExactRunChainWrongFalsely : Prop := fnExactRunChainRow.holds Try.pinned (OpenSpec.ofChange fnExactRunChainWrong)

/-- 'laws.FnExactPayoffsAt': WHATEVER THE INPUT: true; the input reads as it did. -/
def fnExactPayoffsAtSpec : ChangeSpec := { name := "fnExactPayoffsAt", fn := fun _ => fun
  | [d1, d2, d3] => { results := [.lit (.bool true)], args := [d1, d2, d3] }
  | _ => none }
def fnExactPayoffsAtRow : OpenClaim := { program := "ytjjbhdpjnjncbaa", sum := "a2a57f1be4d16191fb24bb1d534564658167d735f26ce869041563a7089b619a", func := "loop.example/g01343/laws.FnExactPayoffsAt", spec := "fnExactPayoffsAt", unfollowed := true, recurses := true, apart := false }
def FnExactPayoffsAtSaid : Prop := fnExactPayoffsAtRow.holds Try.pinned (OpenSpec.ofChange fnExactPayoffsAtSpec)

/-- ITS FALSE NEIGHBOUR: 'it returns false'. Refute it at one input. -/
def fnExactPayoffsAtWrong : ChangeSpec := { name := "fnExactPayoffsAt", fn := fun _ => fun
  | [d1, d2, d3] => { results := [.lit (.bool false)], args := [d1, d2, d3] }
  | _ => none }
def FnExactPayoffsAtWrongFalsely : Prop := fnExactPayoffsAtRow.holds Try.pinned (OpenSpec.ofChange fnExactPayoffsAtWrong)

/-- 'laws.FnExactIsEquilibrium': WHATEVER THE INPUT: true; the input reads as it did. -/
def fnExactIsEquilibriumSpec : ChangeSpec := { name := "fnExactIsEquilibrium", fn := fun _ => fun
  | [d1, d2, d3] => { results := [.lit (.bool true)], args := [d1, d2, d3] }
  | _ => none }
def fnExactIsEquilibriumRow : OpenClaim := { program := "ytjjbhdpjnjncbaa", sum := "a2a57f1be4d16191fb24bb1d534564658167d735f26ce869041563a7089b619a", func := "loop.example/g01343/laws.FnExactIsEquilibrium", spec := "fnExactIsEquilibrium", unfollowed := true, recurses := true, apart := false }
def FnExactIsEquilibriumSaid : Prop := fnExactIsEquilibriumRow.holds Try.pinned (OpenSpec.ofChange fnExactIsEquilibriumSpec)

/-- ITS FALSE NEIGHBOUR: 'it returns false'. Refute it at one input. -/
def fnExactIsEquilibriumWrong : ChangeSpec := { name := "fnExactIsEquilibrium", fn := fun _ => fun
  | [d1, d2, d3] => { results := [.lit (.bool false)], args := [d1, d2, d3] }
  | _ => none }
def FnExactIsEquilibriumWrongFalsely : Prop := fnExactIsEquilibriumRow.holds Try.pinned (OpenSpec.ofChange fnExactIsEquilibriumWrong)

/-- 'laws.FnExactBestReplies': WHATEVER THE INPUT: true; the input reads as it did. -/
def fnExactBestRepliesSpec : ChangeSpec := { name := "fnExactBestReplies", fn := fun _ => fun
  | [d1, d2, d3] => { results := [.lit (.bool true)], args := [d1, d2, d3] }
  | _ => none }
def fnExactBestRepliesRow : OpenClaim := { program := "ytjjbhdpjnjncbaa", sum := "a2a57f1be4d16191fb24bb1d534564658167d735f26ce869041563a7089b619a", func := "loop.example/g01343/laws.FnExactBestReplies", spec := "fnExactBestReplies", unfollowed := true, recurses := true, apart := false }
def FnExactBestRepliesSaid : Prop := fnExactBestRepliesRow.holds Try.pinned (OpenSpec.ofChange fnExactBestRepliesSpec)

/-- ITS FALSE NEIGHBOUR: 'it returns false'. Refute it at one input. -/
def fnExactBestRepliesWrong : ChangeSpec := { name := "fnExactBestReplies", fn := fun _ => fun
  | [d1, d2, d3] => { results := [.lit (.bool false)], args := [d1, d2, d3] }
  | _ => none }
def FnExactBestRepliesWrongFalsely : Prop := fnExactBestRepliesRow.holds Try.pinned (OpenSpec.ofChange fnExactBestRepliesWrong)

/-- 'laws.FnExactInverseOf': WHATEVER THE INPUT: true; the input reads as it did. -/
def fnExactInverseOfSpec : ChangeSpec := { name := "fnExactInverseOf", fn := fun _ => fun
  | [d] => { results := [.lit (.bool true)], args := [d] }
  | _ => none }
def fnExactInverseOfRow : OpenClaim := { program := "ytjjbhdpjnjncbaa", sum := "a2a57f1be4d16191fb24bb1d534564658167d735f26ce869041563a7089b619a", func := "loop.example/g01343/laws.FnExactInverseOf", spec := "fnExactInverseOf", unfollowed := true, recurses := true, apart := false }
def FnExactInverseOfSaid : Prop := fnExactInverseOfRow.holds Try.pinned (OpenSpec.ofChange fnExactInverseOfSpec)

/-- ITS FALSE NEIGHBOUR: 'it returns false'. Refute it at one input. -/
def fnExactInverseOfWrong : ChangeSpec := { name := "fnExactInverseOf", fn := fun _ => fun
  | [d] => { results := [.lit (.bool false)], args := [d] }
  | _ => none }
def FnExactInverseOfWrongFalsely : Prop := fnExactInverseOfRow.holds Try.pinned (OpenSpec.ofChange fnExactInverseOfWrong)

/-- 'laws.FnExactIsWholePivot': WHATEVER THE INPUT: true; the input reads as it did. -/
def fnExactIsWholePivotSpec : ChangeSpec := { name := "fnExactIsWholePivot", fn := fun _ => fun
  | [d1, d2] => { results := [.lit (.bool true)], args := [d1, d2] }
  | _ => none }
def fnExactIsWholePivotRow : OpenClaim := { program := "ytjjbhdpjnjncbaa", sum := "a2a57f1be4d16191fb24bb1d534564658167d735f26ce869041563a7089b619a", func := "loop.example/g01343/laws.FnExactIsWholePivot", spec := "fnExactIsWholePivot", unfollowed := true, recurses := true, apart := false }
def FnExactIsWholePivotSaid : Prop := fnExactIsWholePivotRow.holds Try.pinned (OpenSpec.ofChange fnExactIsWholePivotSpec)

/-- ITS FALSE NEIGHBOUR: 'it returns false'. Refute it at one input. -/
def fnExactIsWholePivotWrong : ChangeSpec := { name := "fnExactIsWholePivot", fn := fun _ => fun
  | [d1, d2] => { results := [.lit (.bool false)], args := [d1, d2] }
  | _ => none }
def FnExactIsWholePivotWrongFalsely : Prop := fnExactIsWholePivotRow.holds Try.pinned (OpenSpec.ofChange fnExactIsWholePivotWrong)

/-- 'laws.FnExactStepByRule': WHATEVER THE INPUT: true; the input reads as it did. -/
def fnExactStepByRuleSpec : ChangeSpec := { name := "fnExactStepByRule", fn := fun _ => fun
  | [d1, d2, d3] => { results := [.lit (.bool true)], args := [d1, d2, d3] }
  | _ => none }
def fnExactStepByRuleRow : OpenClaim := { program := "ytjjbhdpjnjncbaa", sum := "a2a57f1be4d16191fb24bb1d534564658167d735f26ce869041563a7089b619a", func := "loop.example/g01343/laws.FnExactStepByRule", spec := "fnExactStepByRule", unfollowed := true, recurses := true, apart := false }
def FnExactStepByRuleSaid : Prop := fnExactStepByRuleRow.holds Try.pinned (OpenSpec.ofChange fnExactStepByRuleSpec)

/-- ITS FALSE NEIGHBOUR: 'it returns false'. Refute it at one input. -/
def fnExactStepByRuleWrong : ChangeSpec := { name := "fnExactStepByRule", fn := fun _ => fun
  | [d1, d2, d3] => { results := [.lit (.bool false)], args := [d1, d2, d3] }
  | _ => none }
def FnExactStepByRuleWrongFalsely : Prop := fnExactStepByRuleRow.holds Try.pinned (OpenSpec.ofChange fnExactStepByRuleWrong)

/-- 'laws.FnExactPivotOf': WHATEVER THE INPUT: true; the input reads as it did. -/
def fnExactPivotOfSpec : ChangeSpec := { name := "fnExactPivotOf", fn := fun _ => fun
  | [d1, d2] => { results := [.lit (.bool true)], args := [d1, d2] }
  | _ => none }
def fnExactPivotOfRow : OpenClaim := { program := "ytjjbhdpjnjncbaa", sum := "a2a57f1be4d16191fb24bb1d534564658167d735f26ce869041563a7089b619a", func := "loop.example/g01343/laws.FnExactPivotOf", spec := "fnExactPivotOf", unfollowed := true, recurses := true, apart := false }
def FnExactPivotOfSaid : Prop := fnExactPivotOfRow.holds Try.pinned (OpenSpec.ofChange fnExactPivotOfSpec)

/-- ITS FALSE NEIGHBOUR: 'it returns false'. Refute it at one input. -/
def fnExactPivotOfWrong : ChangeSpec := { name := "fnExactPivotOf", fn := fun _ => fun
  | [d1, d2] => { results := [.lit (.bool false)], args := [d1, d2] }
  | _ => none }
def FnExactPivotOfWrongFalsely : Prop := fnExactPivotOfRow.holds Try.pinned (OpenSpec.ofChange fnExactPivotOfWrong)

/- THE SECOND FORM. 'bulk': how many values and letters a reading holds, each counted each time it is reached (what is shared counts as often as it is met; a slice's spare places count too). A statement '..UptoSaid' is the law's where the arguments, and the package variables that the reading takes, are together of bulk at most 1048576: NARROWER than '..Said'. Prove '..Said' where nothing that the law and all that it calls make is longer than what came in: it says more and counts as full. Else prove '..UptoSaid'. A law counts once. -/
mutual
def uptoBulk {H : Type} : DataW H → Nat
  | .lit (.string bytes) => bytes.length + 1
  | .lit _ => 1
  | .nil => 1
  | .ptr d => uptoBulk d + 1
  | .slice elems spare => uptoBulkAll elems + uptoBulkAll spare + 1
  | .agg parts => uptoBulkAll parts + 1
  | .iface _ d => uptoBulk d + 1
  | .map entries => uptoBulkEntries entries + 1
  | .held _ => 1
def uptoBulkAll {H : Type} : List (DataW H) → Nat
  | [] => 0
  | d :: r => uptoBulk d + uptoBulkAll r
def uptoBulkEntries {H : Type} : List (Lit × DataW H) → Nat
  | [] => 0
  | x :: r => uptoBulkEntry x + uptoBulkEntries r
def uptoBulkEntry {H : Type} : Lit × DataW H → Nat
  | (.string bytes, d) => bytes.length + uptoBulk d + 1
  | (_, d) => uptoBulk d + 1
 end
def uptoSmall : (H : Type) → List (DataW H) → Bool := fun _ ds => decide (uptoBulkAll ds ≤ 1048576)
def OpenSpec.upto (s : _root_.Go.ChangeSpec) : _root_.Go.OpenSpec := { _root_.Go.OpenSpec.ofChange s with cond := some uptoSmall }

/-- 'laws.FnExactExchangePlayers', WHERE WHAT IT READS IS OF BULK AT MOST 1048576: true; the input reads as it did. -/
def fnExactExchangePlayersUptoRow : OpenClaim := { program := "ytjjbhdpjnjncbaa", sum := "a2a57f1be4d16191fb24bb1d534564658167d735f26ce869041563a7089b619a", func := "loop.example/g01343/laws.FnExactExchangePlayers", spec := "fnExactExchangePlayers", unfollowed := true, recurses := true, apart := false, narrowed := true }
def FnExactExchangePlayersUptoSaid : Prop := fnExactExchangePlayersUptoRow.holds Try.pinned (OpenSpec.upto fnExactExchangePlayersSpec)

/-- 'laws.FnExactLongestPath', WHERE WHAT IT READS IS OF BULK AT MOST 1048576: true; the input reads as it did. -/
def fnExactLongestPathUptoRow : OpenClaim := { program := "ytjjbhdpjnjncbaa", sum := "a2a57f1be4d16191fb24bb1d534564658167d735f26ce869041563a7089b619a", func := "loop.example/g01343/laws.FnExactLongestPath", spec := "fnExactLongestPath", apart := false, narrowed := true }
def FnExactLongestPathUptoSaid : Prop := fnExactLongestPathUptoRow.holds Try.pinned (OpenSpec.upto fnExactLongestPathSpec)

/-- 'laws.FnExactPureEquilibria', WHERE WHAT IT READS IS OF BULK AT MOST 1048576: true; the input reads as it did. -/
def fnExactPureEquilibriaUptoRow : OpenClaim := { program := "ytjjbhdpjnjncbaa", sum := "a2a57f1be4d16191fb24bb1d534564658167d735f26ce869041563a7089b619a", func := "loop.example/g01343/laws.FnExactPureEquilibria", spec := "fnExactPureEquilibria", unfollowed := true, recurses := true, apart := false, narrowed := true }
def FnExactPureEquilibriaUptoSaid : Prop := fnExactPureEquilibriaUptoRow.holds Try.pinned (OpenSpec.upto fnExactPureEquilibriaSpec)

/-- 'laws.FnExactRemainingChoices', WHERE WHAT IT READS IS OF BULK AT MOST 1048576: true; the input reads as it did. -/
def fnExactRemainingChoicesUptoRow : OpenClaim := { program := "ytjjbhdpjnjncbaa", sum := "a2a57f1be4d16191fb24bb1d534564658167d735f26ce869041563a7089b619a", func := "loop.example/g01343/laws.FnExactRemainingChoices", spec := "fnExactRemainingChoices", unfollowed := true, recurses := true, apart := false, narrowed := true }
def FnExactRemainingChoicesUptoSaid : Prop := fnExactRemainingChoicesUptoRow.holds Try.pinned (OpenSpec.upto fnExactRemainingChoicesSpec)

/-- 'laws.FnExactRunChain', WHERE WHAT IT READS IS OF BULK AT MOST 1048576: true; the input reads as it did. -/
def fnExactRunChainUptoRow : OpenClaim := { program := "ytjjbhdpjnjncbaa", sum := "a2a57f1be4d16191fb24bb1d534564658167d735f26ce869041563a7089b619a", func := "loop.example/g01343/laws.FnExactRunChain", spec := "fnExactRunChain", unfollowed := true, recurses := true, apart := false, narrowed := true }
def FnExactRunChainUptoSaid : Prop := fnExactRunChainUptoRow.holds Try.pinned (OpenSpec.upto fnExactRunChainSpec)

/-- 'laws.FnExactPayoffsAt', WHERE WHAT IT READS IS OF BULK AT MOST 1048576: true; the input reads as it did. -/
def fnExactPayoffsAtUptoRow : OpenClaim := { program := "ytjjbhdpjnjncbaa", sum := "a2a57f1be4d16191fb24bb1d534564658167d735f26ce869041563a7089b619a", func := "loop.example/g01343/laws.FnExactPayoffsAt", spec := "fnExactPayoffsAt", unfollowed := true, recurses := true, apart := false, narrowed := true }
def FnExactPayoffsAtUptoSaid : Prop := fnExactPayoffsAtUptoRow.holds Try.pinned (OpenSpec.upto fnExactPayoffsAtSpec)

/-- 'laws.FnExactIsEquilibrium', WHERE WHAT IT READS IS OF BULK AT MOST 1048576: true; the input reads as it did. -/
def fnExactIsEquilibriumUptoRow : OpenClaim := { program := "ytjjbhdpjnjncbaa", sum := "a2a57f1be4d16191fb24bb1d534564658167d735f26ce869041563a7089b619a", func := "loop.example/g01343/laws.FnExactIsEquilibrium", spec := "fnExactIsEquilibrium", unfollowed := true, recurses := true, apart := false, narrowed := true }
def FnExactIsEquilibriumUptoSaid : Prop := fnExactIsEquilibriumUptoRow.holds Try.pinned (OpenSpec.upto fnExactIsEquilibriumSpec)

/-- 'laws.FnExactBestReplies', WHERE WHAT IT READS IS OF BULK AT MOST 1048576: true; the input reads as it did. -/
def fnExactBestRepliesUptoRow : OpenClaim := { program := "ytjjbhdpjnjncbaa", sum := "a2a57f1be4d16191fb24bb1d534564658167d735f26ce869041563a7089b619a", func := "loop.example/g01343/laws.FnExactBestReplies", spec := "fnExactBestReplies", unfollowed := true, recurses := true, apart := false, narrowed := true }
def FnExactBestRepliesUptoSaid : Prop := fnExactBestRepliesUptoRow.holds Try.pinned (OpenSpec.upto fnExactBestRepliesSpec)

/-- 'laws.FnExactInverseOf', WHERE WHAT IT READS IS OF BULK AT MOST 1048576: true; the input reads as it did. -/
def fnExactInverseOfUptoRow : OpenClaim := { program := "ytjjbhdpjnjncbaa", sum := "a2a57f1be4d16191fb24bb1d534564658167d735f26ce869041563a7089b619a", func := "loop.example/g01343/laws.FnExactInverseOf", spec := "fnExactInverseOf", unfollowed := true, recurses := true, apart := false, narrowed := true }
def FnExactInverseOfUptoSaid : Prop := fnExactInverseOfUptoRow.holds Try.pinned (OpenSpec.upto fnExactInverseOfSpec)

/-- 'laws.FnExactIsWholePivot', WHERE WHAT IT READS IS OF BULK AT MOST 1048576: true; the input reads as it did. -/
def fnExactIsWholePivotUptoRow : OpenClaim := { program := "ytjjbhdpjnjncbaa", sum := "a2a57f1be4d16191fb24bb1d534564658167d735f26ce869041563a7089b619a", func := "loop.example/g01343/laws.FnExactIsWholePivot", spec := "fnExactIsWholePivot", unfollowed := true, recurses := true, apart := false, narrowed := true }
def FnExactIsWholePivotUptoSaid : Prop := fnExactIsWholePivotUptoRow.holds Try.pinned (OpenSpec.upto fnExactIsWholePivotSpec)

/-- 'laws.FnExactStepByRule', WHERE WHAT IT READS IS OF BULK AT MOST 1048576: true; the input reads as it did. -/
def fnExactStepByRuleUptoRow : OpenClaim := { program := "ytjjbhdpjnjncbaa", sum := "a2a57f1be4d16191fb24bb1d534564658167d735f26ce869041563a7089b619a", func := "loop.example/g01343/laws.FnExactStepByRule", spec := "fnExactStepByRule", unfollowed := true, recurses := true, apart := false, narrowed := true }
def FnExactStepByRuleUptoSaid : Prop := fnExactStepByRuleUptoRow.holds Try.pinned (OpenSpec.upto fnExactStepByRuleSpec)

/-- 'laws.FnExactPivotOf', WHERE WHAT IT READS IS OF BULK AT MOST 1048576: true; the input reads as it did. -/
def fnExactPivotOfUptoRow : OpenClaim := { program := "ytjjbhdpjnjncbaa", sum := "a2a57f1be4d16191fb24bb1d534564658167d735f26ce869041563a7089b619a", func := "loop.example/g01343/laws.FnExactPivotOf", spec := "fnExactPivotOf", unfollowed := true, recurses := true, apart := false, narrowed := true }
def FnExactPivotOfUptoSaid : Prop := fnExactPivotOfUptoRow.holds Try.pinned (OpenSpec.upto fnExactPivotOfSpec)

end Rows
end Go.Proofs.Ytjjbhdpjnjncbaa
