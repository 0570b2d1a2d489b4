/- The laws' helpers at a problem that came back: equality and marks. Conditions: as each theorem says. -/
import Derived.Test.YtlnoidhaoinpbaaLmS
import Derived.Test.YtlnoidhaoinpbaaPrx6
import Derived.Test.YtlnoidhaoinpbaaPrx5
namespace Go.Proofs.Ytlnoidhaoinpbaa.La
open Go.RowKit Go.Proofs.YtlnoidhaoinpbaaW.PrintWords Go.Proofs.YtlnoidhaoinpbaaW.PrintMore Go.Proofs.Ytlnoidhaoinpbaa.Ma Go.Proofs.Ytlnoidhaoinpbaa.Pr Go.Proofs.Ytlnoidhaoinpbaa.Hm
set_option linter.unusedVariables false
theorem eqP {M : List (List Int)} {Q : List Int} (hM : Fit M) (hQ : Q.length ≤ 1152921504606846976) : Ev (fun k => laws_eqProblem.f k M Q M Q) true := by
  unfold laws_eqProblem.f
  exact evbind (fit_eq hM) (evpos rfl (evbind (eqI_same Q hQ) (evpos rfl (evc rfl))))
theorem heldP (M : List (List Int)) (Q : List Int) (n : Int) (h0 : 0 ≤ n) (h1 : n + lens M + Q.length ≤ 1099511627776) (hl : M.length ≤ 1099511627776) : Ev (fun k => laws_heldProblem.f k (marks M n) (count (n + lens M) Q.length) n) (n + lens M + Q.length) := by
  unfold laws_heldProblem.f
  exact evbind (heldSS M n h0 (by omega) hl) (evneg (by omega) (evbind (heldI (n + lens M) Q.length (by omega) (by omega) (by omega)) (evneg (by omega) (evc rfl))))
end Go.Proofs.Ytlnoidhaoinpbaa.La
