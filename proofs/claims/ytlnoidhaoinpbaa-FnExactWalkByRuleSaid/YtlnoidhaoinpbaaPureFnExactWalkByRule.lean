/- WalkByRule of the program returns what that of the reference returns, in memory of its own, at every cube, vertex and rule. -/
import Derived.Test.YtlnoidhaoinpbaaSayFnExactWalkByRule
import Derived.Test.YtlnoidhaoinpbaaCuW
import Derived.Test.YtlnoidhaoinpbaaLaC
import Derived.Test.YtlnoidhaoinpbaaLmC
namespace Go.Proofs.Ytlnoidhaoinpbaa.Pure
open Go.RowKit Go.Proofs.YtlnoidhaoinpbaaW.PrintWords Go.Proofs.YtlnoidhaoinpbaaW.PrintMore Go.Proofs.Ytlnoidhaoinpbaa.Ma Go.Proofs.Ytlnoidhaoinpbaa.Pr Go.Proofs.Ytlnoidhaoinpbaa.Cu Go.Proofs.Ytlnoidhaoinpbaa.La Go.Proofs.Ytlnoidhaoinpbaa.Us
theorem FnExactWalkByRule : Say.FnExactWalkByRule := by
  intro d l v rule hd hl _ _
  refine evk (g := fun k => laws_FnExactWalkByRule.f k d l v rule) ?_
  unfold laws_FnExactWalkByRule.f
  refine lawC d hl.1 (fun h => ?_)
  obtain ⟨⟨y, c⟩, hlen, hs, hi⟩ := walks d l v rule
  have hy : y.length ≤ 1152921504606846976 := by simp at hlen; omega
  refine evbind (toC d l h) (evbind hs (evbind (toC d l h) (evbind hi (evbind (eqI_same y hy) (evpos rfl ?_)))))
  refine evstep (fun k => by rw [laws_FnExactWalkByRule.j0]) (evneg (by simp) ?_)
  refine evbind (toC d l h) (evbind (eqC d l (by omega)) (evpos rfl (evbind (markC d l (by omega)) (evneg (by omega) (evbind (eqI_same y hy) (evpos rfl ?_))))))
  refine evstep (fun k => by rw [laws_FnExactWalkByRule.j1]) (evneg (by simp) ?_)
  refine evbind (markI y 1 hy (by decide) (by decide)) (evbind (heldI 1 y.length hy (by decide) (by decide)) (evneg (by omega) (evpos rfl ?_)))
  refine evbind (toC d l h) (evbind hi (evbind (eqI_same y hy) (evpos rfl ?_)))
  refine evstep (fun k => by rw [laws_FnExactWalkByRule.j2]) (evneg (by simp) ?_)
  exact evbind (heldI 1 y.length hy (by decide) (by decide)) (evneg (by omega) (evpos rfl (evc rfl)))
end Go.Proofs.Ytlnoidhaoinpbaa.Pure
