/- The laws' marks at a cube. -/
import Derived.Test.YtlnoidhaoinpbaaLm
import Derived.Test.YtlnoidhaoinpbaaPrx3
import Derived.Test.YtlnoidhaoinpbaaPrx3
namespace Go.Proofs.Ytlnoidhaoinpbaa.La
open Go.RowKit Go.Proofs.YtlnoidhaoinpbaaW.PrintWords Go.Proofs.YtlnoidhaoinpbaaW.PrintMore Go.Proofs.Ytlnoidhaoinpbaa.Ma Go.Proofs.Ytlnoidhaoinpbaa.Pr
set_option linter.unusedVariables false
theorem markC (d : Int) (l : List Int) (hl : l.length ≤ 1152921504606846976) : Ev (fun k => laws_markCube.f k d l 1) (1 + l.length, count 1 l.length) := by
  unfold laws_markCube.f
  exact evbind (markI l 1 hl (by decide) (by decide)) (evc rfl)
theorem heldC (d : Int) (m : Nat) (hl : m ≤ 1152921504606846976) : Ev (fun k => laws_heldCube.f k d (count 1 m) 1) (1 + m) := by
  unfold laws_heldCube.f
  exact evbind (heldI 1 m hl (by decide) (by decide)) (evneg (by omega) (evc rfl))
end Go.Proofs.Ytlnoidhaoinpbaa.La
