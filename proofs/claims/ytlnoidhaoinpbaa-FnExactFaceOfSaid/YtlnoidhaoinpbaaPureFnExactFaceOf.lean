/- FaceOf of the program returns what that of the reference returns, in memory of its own, at every cube, vertex and set of directions. -/
import Derived.Test.YtlnoidhaoinpbaaSayFnExactFaceOf
import Derived.Test.YtlnoidhaoinpbaaCuF
import Derived.Test.YtlnoidhaoinpbaaLaC
import Derived.Test.YtlnoidhaoinpbaaLmC
namespace Go.Proofs.Ytlnoidhaoinpbaa.Pure
open Go.RowKit Go.Proofs.YtlnoidhaoinpbaaW.PrintWords Go.Proofs.YtlnoidhaoinpbaaW.PrintMore Go.Proofs.Ytlnoidhaoinpbaa.Ma Go.Proofs.Ytlnoidhaoinpbaa.Pr Go.Proofs.Ytlnoidhaoinpbaa.Cu Go.Proofs.Ytlnoidhaoinpbaa.La Go.Proofs.Ytlnoidhaoinpbaa.Us
theorem FnExactFaceOf : Say.FnExactFaceOf := by
  intro d l v D hd hl _ _
  refine evk (g := fun k => laws_FnExactFaceOf.f k d l v D) ?_
  unfold laws_FnExactFaceOf.f
  refine lawC d hl.1 (fun h => ?_)
  obtain ⟨⟨x, y, c⟩, hlen, hs, hi⟩ := faces d l v D
  have hy : y.length ≤ 1152921504606846976 := by simp at hlen; omega
  refine evbind (toC d l h) (evbind hs (evbind (toC d l h) (evbind hi (evbind (eqC x y hy) (evpos rfl ?_)))))
  refine evstep (fun k => by rw [laws_FnExactFaceOf.j0]) (evneg (by simp) ?_)
  refine evbind (toC d l h) (evbind (eqC d l (by omega)) (evpos rfl (evbind (markC d l (by omega)) (evneg (by omega) (evbind (eqC x y hy) (evpos rfl ?_))))))
  refine evstep (fun k => by rw [laws_FnExactFaceOf.j1]) (evneg (by simp) ?_)
  refine evbind (markC x y hy) (evbind (heldC x y.length hy) (evneg (by omega) (evpos rfl ?_)))
  refine evbind (toC d l h) (evbind hi (evbind (eqC x y hy) (evpos rfl ?_)))
  refine evstep (fun k => by rw [laws_FnExactFaceOf.j2]) (evneg (by simp) ?_)
  exact evbind (heldC x y.length hy) (evneg (by omega) (evpos rfl (evc rfl)))
end Go.Proofs.Ytlnoidhaoinpbaa.Pure
