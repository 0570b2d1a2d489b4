/- The laws' helpers at a game. Conditions: as each theorem says. -/
import Derived.Test.YtlnoidhaoinpbaaLaS
import Derived.Test.YtlnoidhaoinpbaaPrx4
import Derived.Test.YtlnoidhaoinpbaaPrx4
import Derived.Test.YtlnoidhaoinpbaaPrx5
namespace Go.Proofs.Ytlnoidhaoinpbaa.La
open Go.RowKit Go.Proofs.YtlnoidhaoinpbaaW.PrintWords Go.Proofs.YtlnoidhaoinpbaaW.PrintMore Go.Proofs.Ytlnoidhaoinpbaa.Ma Go.Proofs.Ytlnoidhaoinpbaa.Pr Go.Proofs.Ytlnoidhaoinpbaa.Op
set_option linter.unusedVariables false
theorem toG {a b : List (List Int)} (ha : Fit a) (hb : Fit b) : Ev (fun k => laws_toGame.f k a b) (a, b) := by
  unfold laws_toGame.f
  exact evbind (fit_to ha) (evbind (fit_to hb) (evc rfl))
theorem eqG {a b : List (List Int)} (ha : Fit a) (hb : Fit b) : Ev (fun k => laws_eqGame.f k a b a b) true := by
  unfold laws_eqGame.f
  exact evbind (fit_eq ha) (evpos rfl (evbind (fit_eq hb) (evpos rfl (evc rfl))))
theorem szG {a b : List (List Int)} (ga : GoodList (GoodList (GoodInt .i64)) a) (gb : GoodList (GoodList (GoodInt .i64)) b) :
    ∃ t : Int, Ev (fun k => laws_szGame.f k a b 1048576) t ∧ (0 ≤ t → Fit a ∧ Fit b) := by
  have h1 := szSS a ga (n := 1048576) (by decide) (by decide)
  by_cases c : (1048576 : Int) < (tot a : Int)
  · rw [if_pos c] at h1
    exact ⟨-1, by unfold laws_szGame.f; exact evbind h1 (evpos (by decide) (evc rfl)), fun h => by omega⟩
  · rw [if_neg c] at h1
    have h2 := szSS b gb (n := 1048576 - (tot a : Int)) (by omega) (by omega)
    by_cases c2 : (1048576 : Int) - (tot a : Int) < (tot b : Int)
    · rw [if_pos c2] at h2
      exact ⟨-1, by unfold laws_szGame.f; exact evbind h1 (evneg (by omega) (evbind h2 (evpos (by decide) (evc rfl)))), fun h => by omega⟩
    · rw [if_neg c2] at h2
      exact ⟨_, by unfold laws_szGame.f; exact evbind h1 (evneg (by omega) (evbind h2 (evneg (by omega) (evc rfl)))), fun _ => ⟨fit_of (by omega), fit_of (by omega)⟩⟩
/-- A law over a game: at one that is too large it answers at once. -/
theorem lawG {a b : List (List Int)} (ga : GoodList (GoodList (GoodInt .i64)) a) (gb : GoodList (GoodList (GoodInt .i64)) b) {g : Nat → Int → Option Bool} (h : ∀ t, Fit a → Fit b → Ev (fun k => g k t) true) :
    Ev (fun k => (laws_szGame.f k a b 1048576).bind fun t => if t < 0 then some true else g k t) true := by
  obtain ⟨t, ht, hf⟩ := szG ga gb
  refine evbind ht ?_
  by_cases c : t < 0
  · exact evpos c (evc rfl)
  · exact evneg c (h t (hf (by omega)).1 (hf (by omega)).2)
end Go.Proofs.Ytlnoidhaoinpbaa.La
