/- The pure statement of the law FnExactIsAcyclicCube: the printed function answers true at every good input. -/
import Derived.Test.YtlnoidhaoinpbaaPrx49
import Derived.Test.YtlnoidhaoinpbaaOp
namespace Go.Proofs.Ytlnoidhaoinpbaa.Say
open Go.Proofs.Ytlnoidhaoinpbaa.Op Go.Proofs.Ytlnoidhaoinpbaa.Pr
def FnExactIsAcyclicCube : Prop := ∀ (a0_0 : Int) (l0_1 : List Int), GoodInt .i64 a0_0 → GoodList (GoodInt .i64) l0_1 → ∃ k, laws_FnExactIsAcyclicCube.f k a0_0 l0_1 = some true
end Go.Proofs.Ytlnoidhaoinpbaa.Say
