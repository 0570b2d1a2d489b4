/- IsConstantSum of the program answers as that of the reference, at every game. -/
import Derived.Test.YtlnoidhaoinpbaaSayFnExactIsConstantSum
import Derived.Test.YtlnoidhaoinpbaaGc
import Derived.Test.YtlnoidhaoinpbaaLaG
namespace Go.Proofs.Ytlnoidhaoinpbaa.Pure
open Go.RowKit Go.Proofs.YtlnoidhaoinpbaaW.PrintWords Go.Proofs.YtlnoidhaoinpbaaW.PrintMore Go.Proofs.Ytlnoidhaoinpbaa.Ma Go.Proofs.Ytlnoidhaoinpbaa.Pr Go.Proofs.Ytlnoidhaoinpbaa.La
theorem FnExactIsConstantSum : Say.FnExactIsConstantSum := by
  intro a b ga gb
  refine evk (g := fun k => laws_FnExactIsConstantSum.f k a b) ?_
  unfold laws_FnExactIsConstantSum.f
  refine lawG ga gb (fun t fa fb => ?_)
  obtain ⟨t, hs, hi⟩ := Gc.both a b fa.len fa.row
  refine evbind (toG fa fb) (evbind hs (evbind (toG fa fb) (evbind hi (evneg (by simp) ?_))))
  refine evstep (fun k => by rw [laws_FnExactIsConstantSum.j0]) (evneg (by simp) ?_)
  exact evbind (toG fa fb) (evbind (eqG fa fb) (evpos rfl (evc rfl)))
end Go.Proofs.Ytlnoidhaoinpbaa.Pure
