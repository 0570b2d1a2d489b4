/- The pure statement of the law FnExactFaceOf: the printed function answers true at every good input. -/
import Derived.Test.YtlnoidhaoinpbaaPrx42
import Derived.Test.YtlnoidhaoinpbaaOp
namespace Go.Proofs.Ytlnoidhaoinpbaa.Say
open Go.Proofs.Ytlnoidhaoinpbaa.Op Go.Proofs.Ytlnoidhaoinpbaa.Pr
def FnExactFaceOf : Prop := ∀ (a0_0 : Int) (l0_1 : List Int) (a1 : Int) (a2 : Int), GoodInt .i64 a0_0 → GoodList (GoodInt .i64) l0_1 → GoodInt .i64 a1 → GoodInt .i64 a2 → ∃ k, laws_FnExactFaceOf.f k a0_0 l0_1 a1 a2 = some true
end Go.Proofs.Ytlnoidhaoinpbaa.Say
