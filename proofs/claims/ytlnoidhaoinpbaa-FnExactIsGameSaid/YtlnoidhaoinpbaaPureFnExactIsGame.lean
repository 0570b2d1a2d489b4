/- IsGame of the program answers as that of the reference, at every game. -/
import Derived.Test.YtlnoidhaoinpbaaSayFnExactIsGame
import Derived.Test.YtlnoidhaoinpbaaGm
import Derived.Test.YtlnoidhaoinpbaaLaG
import Derived.Test.YtlnoidhaoinpbaaPrx11
namespace Go.Proofs.Ytlnoidhaoinpbaa.Pure
open Go.RowKit Go.Proofs.YtlnoidhaoinpbaaW.PrintWords Go.Proofs.YtlnoidhaoinpbaaW.PrintMore Go.Proofs.Ytlnoidhaoinpbaa.Ma Go.Proofs.Ytlnoidhaoinpbaa.Pr Go.Proofs.Ytlnoidhaoinpbaa.Gm Go.Proofs.Ytlnoidhaoinpbaa.La
open Classical in
theorem FnExactIsGame : Say.FnExactIsGame := by
  intro a b ga gb
  refine evk (g := fun k => laws_FnExactIsGame.f k a b) ?_
  unfold laws_FnExactIsGame.f
  refine lawG ga gb (fun t fa fb => ?_)
  have hb : decide (GameOK a b) = true ↔ GameOK a b := by simp
  have hs : Ev (fun k => spec_IsGame.f k a b) (decide (GameOK a b)) := by
    unfold spec_IsGame.f
    exact evbind (Gm.spec_is a b fa.len fa.row _ hb) (evc rfl)
  refine evbind (toG fa fb) (evbind hs (evbind (toG fa fb) (evsome (Gm.impl_is a b fa.len fa.row _ hb) (evneg (by simp) ?_))))
  exact evbind (toG fa fb) (evbind (eqG fa fb) (evpos rfl (evc rfl)))
end Go.Proofs.Ytlnoidhaoinpbaa.Pure
