/- The pure statement of the law FnExactTurnCube: the printed function answers true at every good input. -/
import Derived.Test.YtlnoidhaoinpbaaPrx28
import Derived.Test.YtlnoidhaoinpbaaOp
namespace Go.Proofs.Ytlnoidhaoinpbaa.Say
open Go.Proofs.Ytlnoidhaoinpbaa.Op Go.Proofs.Ytlnoidhaoinpbaa.Pr
def FnExactTurnCube : Prop := ∀ (a0_0 : Int) (l0_1 : List Int) (a1 : Int), GoodInt .i64 a0_0 → GoodList (GoodInt .i64) l0_1 → GoodInt .i64 a1 → ∃ k, laws_FnExactTurnCube.f k a0_0 l0_1 a1 = some true
end Go.Proofs.Ytlnoidhaoinpbaa.Say
