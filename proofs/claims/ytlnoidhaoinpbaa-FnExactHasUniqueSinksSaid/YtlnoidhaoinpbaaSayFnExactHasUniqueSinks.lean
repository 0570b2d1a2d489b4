/- The pure statement of the law FnExactHasUniqueSinks: the printed function answers true at every good input. -/
import Derived.Test.YtlnoidhaoinpbaaPrx8
import Derived.Test.YtlnoidhaoinpbaaOp
namespace Go.Proofs.Ytlnoidhaoinpbaa.Say
open Go.Proofs.Ytlnoidhaoinpbaa.Op Go.Proofs.Ytlnoidhaoinpbaa.Pr
def FnExactHasUniqueSinks : Prop := ∀ (a0_0 : Int) (l0_1 : List Int), GoodInt .i64 a0_0 → GoodList (GoodInt .i64) l0_1 → ∃ k, laws_FnExactHasUniqueSinks.f k a0_0 l0_1 = some true
end Go.Proofs.Ytlnoidhaoinpbaa.Say
