/- The pure statement of the law FnExactMurtyProblem: the printed function answers true at every good input. -/
import Derived.Test.YtlnoidhaoinpbaaLwFnExactMurtyProblem
import Derived.Test.YtlnoidhaoinpbaaOp
namespace Go.Proofs.Ytlnoidhaoinpbaa.Say
open Go.Proofs.Ytlnoidhaoinpbaa.Op Go.Proofs.Ytlnoidhaoinpbaa.Pr
def FnExactMurtyProblem : Prop := ∀ (a0 : Int), GoodInt .i64 a0 → ∃ k, laws_FnExactMurtyProblem.f k a0 = some true
end Go.Proofs.Ytlnoidhaoinpbaa.Say
