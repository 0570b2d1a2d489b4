/- The laws' helpers at a cube. -/
import Derived.Test.YtjjbhdpjnjncbaaLa
import Derived.Test.YtjjbhdpjnjncbaaPrx2
import Derived.Test.YtjjbhdpjnjncbaaPrx2
import Derived.Test.YtjjbhdpjnjncbaaPrx3
namespace Go.Proofs.Ytjjbhdpjnjncbaa.La
open Go.RowKit Go.Proofs.YtjjbhdpjnjncbaaW.PrintWords Go.Proofs.YtjjbhdpjnjncbaaW.PrintMore Go.Proofs.Ytjjbhdpjnjncbaa.Ma Go.Proofs.Ytjjbhdpjnjncbaa.Pr
set_option linter.unusedVariables false
theorem szC (d : Int) (l : List Int) (hl : l.length ≤ maxLen) : laws_szCube.f d l 1048576 = some (if (1048576 : Int) < l.length then (-1 : Int) else 1048576 - (l.length : Int)) := by
  unfold laws_szCube.f
  rw [sz_eq (by decide) (by decide) hl, Option.bind_some]
  by_cases h : (1048576 : Int) < l.length
  · rw [if_pos h, if_pos (by decide)]
  · rw [if_neg h, if_neg (by omega)]
theorem toC (d : Int) (l : List Int) (hl : l.length ≤ 1048576) : Ev (fun k => laws_toCube.f k d l) (d, l) := by
  unfold laws_toCube.f
  exact evbind (toI l hl) (evc rfl)
theorem eqC (d : Int) (l : List Int) (hl : l.length ≤ 1152921504606846976) : Ev (fun k => laws_eqCube.f k d l d l) true := by
  unfold laws_eqCube.f
  exact evpos rfl (evbind (eqI_same l hl) (evc rfl))
/-- A law over a cube: at a list that is too long it answers at once. -/
theorem lawC {l : List Int} (d : Int) (hl : l.length ≤ maxLen) {g : Nat → Int → Option Bool} (h : l.length ≤ 1048576 → Ev (fun k => g k (1048576 - l.length)) true) :
    Ev (fun k => (laws_szCube.f d l 1048576).bind fun t => if t < 0 then some true else g k t) true := by
  refine evsome (szC d l hl) ?_
  by_cases c : (1048576 : Int) < l.length
  · rw [if_pos c]
    exact evpos (by decide) (evc rfl)
  · rw [if_neg c]
    exact evneg (by omega) (h (by omega))
end Go.Proofs.Ytjjbhdpjnjncbaa.La
