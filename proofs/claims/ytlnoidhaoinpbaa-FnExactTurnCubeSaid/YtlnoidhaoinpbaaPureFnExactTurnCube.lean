/- TurnCube of the program returns what that of the reference returns, in memory of its own, at every cube and number. -/
import Derived.Test.YtlnoidhaoinpbaaSayFnExactTurnCube
import Derived.Test.YtlnoidhaoinpbaaCuT
import Derived.Test.YtlnoidhaoinpbaaLaC
import Derived.Test.YtlnoidhaoinpbaaLmC
namespace Go.Proofs.Ytlnoidhaoinpbaa.Pure
open Go.RowKit Go.Proofs.YtlnoidhaoinpbaaW.PrintWords Go.Proofs.YtlnoidhaoinpbaaW.PrintMore Go.Proofs.Ytlnoidhaoinpbaa.Ma Go.Proofs.Ytlnoidhaoinpbaa.Pr Go.Proofs.Ytlnoidhaoinpbaa.Cu Go.Proofs.Ytlnoidhaoinpbaa.La
theorem FnExactTurnCube : Say.FnExactTurnCube := by
  intro d l a hd hl _
  refine evk (g := fun k => laws_FnExactTurnCube.f k d l a) ?_
  unfold laws_FnExactTurnCube.f
  refine lawC d hl.1 (fun h => ?_)
  have hs := spec_turn d l a
  have hi := impl_turn d l a
  have hlen := cubeR_len turnG d l a
  generalize cubeR turnG d l a = r at hs hi hlen
  obtain ⟨x, y, c⟩ := r
  refine evbind (toC d l h) (evbind hs (evbind (toC d l h) (evbind hi (evbind (eqC x y (by simp at hlen; omega)) (evpos rfl ?_)))))
  refine evstep (fun k => by rw [laws_FnExactTurnCube.j0]) (evneg (by simp) ?_)
  refine evbind (toC d l h) (evbind (eqC d l (by omega)) (evpos rfl (evbind (markC d l (by omega)) (evneg (by omega) (evbind (eqC x y (by simp at hlen; omega)) (evpos rfl ?_))))))
  refine evstep (fun k => by rw [laws_FnExactTurnCube.j1]) (evneg (by simp) ?_)
  refine evbind (markC x y (by simp at hlen; omega)) (evbind (heldC x y.length (by simp at hlen; omega)) (evneg (by omega) (evpos rfl ?_)))
  refine evbind (toC d l h) (evbind hi (evbind (eqC x y (by simp at hlen; omega)) (evpos rfl ?_)))
  refine evstep (fun k => by rw [laws_FnExactTurnCube.j2]) (evneg (by simp) ?_)
  exact evbind (heldC x y.length (by simp at hlen; omega)) (evneg (by omega) (evpos rfl (evc rfl)))
end Go.Proofs.Ytlnoidhaoinpbaa.Pure
