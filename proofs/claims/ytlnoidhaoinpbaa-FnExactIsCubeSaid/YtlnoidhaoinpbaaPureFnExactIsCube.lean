/- IsCube of the program answers as IsCube of the reference, at every cube. -/
import Derived.Test.YtlnoidhaoinpbaaSayFnExactIsCube
import Derived.Test.YtlnoidhaoinpbaaCu
import Derived.Test.YtlnoidhaoinpbaaLaC
import Derived.Test.YtlnoidhaoinpbaaPrx1
namespace Go.Proofs.Ytlnoidhaoinpbaa.Pure
open Go.RowKit Go.Proofs.YtlnoidhaoinpbaaW.PrintWords Go.Proofs.YtlnoidhaoinpbaaW.PrintMore Go.Proofs.Ytlnoidhaoinpbaa.Ma Go.Proofs.Ytlnoidhaoinpbaa.Pr Go.Proofs.Ytlnoidhaoinpbaa.Cu Go.Proofs.Ytlnoidhaoinpbaa.La
open Classical in
theorem FnExactIsCube : Say.FnExactIsCube := by
  intro d l hd hl
  have hb : decide (IsC d l) = true ↔ IsC d l := by simp
  refine evk (g := fun k => laws_FnExactIsCube.f k d l) ?_
  unfold laws_FnExactIsCube.f
  refine lawC d hl.1 (fun h => ?_)
  have hs : Ev (fun k => spec_IsCube.f k d l) (decide (IsC d l)) := by
    unfold spec_IsCube.f
    exact evbind (spec_is d l _ hb) (evc rfl)
  refine evbind (toC d l h) (evbind hs (evbind (toC d l h) (evbind (impl_is d l _ hb) (evneg (by simp) ?_))))
  exact evbind (toC d l h) (evbind (eqC d l (by omega)) (evpos rfl (evc rfl)))
end Go.Proofs.Ytlnoidhaoinpbaa.Pure
