/- HasUniqueSinks of the program answers as that of the reference, at every cube. -/
import Derived.Test.YtlnoidhaoinpbaaSayFnExactHasUniqueSinks
import Derived.Test.YtlnoidhaoinpbaaCuU
import Derived.Test.YtlnoidhaoinpbaaLaC
import Derived.Test.YtlnoidhaoinpbaaPrx7
import Derived.Test.YtlnoidhaoinpbaaPrx7
namespace Go.Proofs.Ytlnoidhaoinpbaa.Pure
open Go.RowKit Go.Proofs.YtlnoidhaoinpbaaW.PrintWords Go.Proofs.YtlnoidhaoinpbaaW.PrintMore Go.Proofs.Ytlnoidhaoinpbaa.Ma Go.Proofs.Ytlnoidhaoinpbaa.Pr Go.Proofs.Ytlnoidhaoinpbaa.Cu Go.Proofs.Ytlnoidhaoinpbaa.La Go.Proofs.Ytlnoidhaoinpbaa.Us
open Classical in
/-- What HasUniqueSinks returns. -/
noncomputable def hasR (d : Int) (l : List Int) : Bool × Int := if IsC d l then (decide (Pairs (2 ^ d.toNat) (sN l)), 0) else (false, 1)
theorem spec_has (d : Int) (l : List Int) : Ev (fun k => spec_HasUniqueSinks.f k d l) (hasR d l) := by
  classical
  unfold spec_HasUniqueSinks.f hasR
  refine evbind (spec_is d l (decide (IsC d l)) (by simp)) ?_
  by_cases h : IsC d l
  · obtain ⟨n, rfl⟩ := Int.eq_ofNat_of_zero_le h.1
    rw [if_pos h]
    exact evpos (by simpa using h) (evbind (spec_unique h.2 _ (by simp)) (evc rfl))
  · rw [if_neg h]
    exact evneg (by simpa using h) (evc rfl)
theorem impl_has (d : Int) (l : List Int) : Ev (fun k => impl_HasUniqueSinks.f k d l) (hasR d l) := by
  classical
  unfold impl_HasUniqueSinks.f hasR
  refine evbind (impl_is d l (decide (IsC d l)) (by simp)) ?_
  by_cases h : IsC d l
  · obtain ⟨n, rfl⟩ := Int.eq_ofNat_of_zero_le h.1
    rw [if_pos h]
    exact evpos (by simpa using h) (evbind (impl_unique h.2 _ (by simp)) (evc rfl))
  · rw [if_neg h]
    exact evneg (by simpa using h) (evc rfl)
theorem FnExactHasUniqueSinks : Say.FnExactHasUniqueSinks := by
  intro d l hd hl
  refine evk (g := fun k => laws_FnExactHasUniqueSinks.f k d l) ?_
  unfold laws_FnExactHasUniqueSinks.f
  refine lawC d hl.1 (fun h => ?_)
  refine evbind (toC d l h) (evbind (spec_has d l) (evbind (toC d l h) (evbind (impl_has d l) (evneg (by simp) ?_))))
  refine evstep (fun k => by rw [laws_FnExactHasUniqueSinks.j0]) (evneg (by simp) ?_)
  exact evbind (toC d l h) (evbind (eqC d l (by omega)) (evpos rfl (evc rfl)))
end Go.Proofs.Ytlnoidhaoinpbaa.Pure
