/- The pure statement of the law FnExactLongestPath: the printed function answers true at every good input. -/
import Derived.Test.YtjjbhdpjnjncbaaPrx23
import Derived.Test.YtjjbhdpjnjncbaaOp
namespace Go.Proofs.Ytjjbhdpjnjncbaa.Say
open Go.Proofs.Ytjjbhdpjnjncbaa.Op Go.Proofs.Ytjjbhdpjnjncbaa.Pr
def FnExactLongestPath : Prop := ∀ (a0_0 : Int) (l0_1 : List Int), GoodInt .i64 a0_0 → GoodList (GoodInt .i64) l0_1 → ∃ k, laws_FnExactLongestPath.f k a0_0 l0_1 = some true
end Go.Proofs.Ytjjbhdpjnjncbaa.Say
