/- The pure statement of the law FnExactIsConstantSum: the printed function answers true at every good input. -/
import Derived.Test.YtlnoidhaoinpbaaPrx31
import Derived.Test.YtlnoidhaoinpbaaOp
namespace Go.Proofs.Ytlnoidhaoinpbaa.Say
open Go.Proofs.Ytlnoidhaoinpbaa.Op Go.Proofs.Ytlnoidhaoinpbaa.Pr
def FnExactIsConstantSum : Prop := ∀ (l0_0 : List (List Int)) (l0_1 : List (List Int)), GoodList (GoodList (GoodInt .i64)) l0_0 → GoodList (GoodList (GoodInt .i64)) l0_1 → ∃ k, laws_FnExactIsConstantSum.f k l0_0 l0_1 = some true
end Go.Proofs.Ytlnoidhaoinpbaa.Say
