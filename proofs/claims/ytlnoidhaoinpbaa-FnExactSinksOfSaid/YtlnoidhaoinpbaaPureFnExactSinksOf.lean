/- SinksOf of the program returns what that of the reference returns, in memory of its own, at every cube. -/
import Derived.Test.YtlnoidhaoinpbaaSayFnExactSinksOf
import Derived.Test.YtlnoidhaoinpbaaCuS
import Derived.Test.YtlnoidhaoinpbaaLaC
import Derived.Test.YtlnoidhaoinpbaaLmC
namespace Go.Proofs.Ytlnoidhaoinpbaa.Pure
open Go.RowKit Go.Proofs.YtlnoidhaoinpbaaW.PrintWords Go.Proofs.YtlnoidhaoinpbaaW.PrintMore Go.Proofs.Ytlnoidhaoinpbaa.Ma Go.Proofs.Ytlnoidhaoinpbaa.Pr Go.Proofs.Ytlnoidhaoinpbaa.Cu Go.Proofs.Ytlnoidhaoinpbaa.La
theorem FnExactSinksOf : Say.FnExactSinksOf := by
  intro d l hd hl
  refine evk (g := fun k => laws_FnExactSinksOf.f k d l) ?_
  unfold laws_FnExactSinksOf.f
  refine lawC d hl.1 (fun h => ?_)
  have hs := spec_sinksOf d l
  have hi := impl_sinksOf d l
  have hlen := sinksR_len d l
  generalize sinksR d l = r at hs hi hlen
  obtain ⟨y, c⟩ := r
  have hy : y.length ≤ 1152921504606846976 := by simp at hlen; omega
  refine evbind (toC d l h) (evbind hs (evbind (toC d l h) (evbind hi (evbind (eqI_same y hy) (evpos rfl ?_)))))
  refine evstep (fun k => by rw [laws_FnExactSinksOf.j0]) (evneg (by simp) ?_)
  refine evbind (toC d l h) (evbind (eqC d l (by omega)) (evpos rfl (evbind (markC d l (by omega)) (evneg (by omega) (evbind (eqI_same y hy) (evpos rfl ?_))))))
  refine evstep (fun k => by rw [laws_FnExactSinksOf.j1]) (evneg (by simp) ?_)
  refine evbind (markI y 1 hy (by decide) (by decide)) (evbind (heldI 1 y.length hy (by decide) (by decide)) (evneg (by omega) (evpos rfl ?_)))
  refine evbind (toC d l h) (evbind hi (evbind (eqI_same y hy) (evpos rfl ?_)))
  refine evstep (fun k => by rw [laws_FnExactSinksOf.j2]) (evneg (by simp) ?_)
  exact evbind (heldI 1 y.length hy (by decide) (by decide)) (evneg (by omega) (evpos rfl (evc rfl)))
end Go.Proofs.Ytlnoidhaoinpbaa.Pure
