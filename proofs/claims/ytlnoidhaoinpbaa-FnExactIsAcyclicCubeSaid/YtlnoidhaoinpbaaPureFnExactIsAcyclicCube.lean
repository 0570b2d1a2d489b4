/- IsAcyclicCube of the program answers as that of the reference, at every cube. -/
import Derived.Test.YtlnoidhaoinpbaaSayFnExactIsAcyclicCube
import Derived.Test.YtlnoidhaoinpbaaCuA
import Derived.Test.YtlnoidhaoinpbaaLaC
import Derived.Test.YtlnoidhaoinpbaaPrx46
import Derived.Test.YtlnoidhaoinpbaaPrx48
namespace Go.Proofs.Ytlnoidhaoinpbaa.Pure
open Go.RowKit Go.Proofs.YtlnoidhaoinpbaaW.PrintWords Go.Proofs.YtlnoidhaoinpbaaW.PrintMore Go.Proofs.Ytlnoidhaoinpbaa.Ma Go.Proofs.Ytlnoidhaoinpbaa.Pr Go.Proofs.Ytlnoidhaoinpbaa.Cu Go.Proofs.Ytlnoidhaoinpbaa.La Go.Proofs.Ytlnoidhaoinpbaa.CuA
open Classical in
/-- What IsAcyclicCube returns. -/
noncomputable def acR (d : Int) (l : List Int) : Bool × Int := if IsC d l then (decide (cnt (last d.toNat l) l.length = l.length), 0) else (false, 1)
theorem spec_ac (d : Int) (l : List Int) : Ev (fun k => spec_IsAcyclicCube.f k d l) (acR d l) := by
  classical
  unfold spec_IsAcyclicCube.f acR
  refine evbind (spec_is d l (decide (IsC d l)) (by simp)) ?_
  by_cases h : IsC d l
  · obtain ⟨n, rfl⟩ := Int.eq_ofNat_of_zero_le h.1
    rw [if_pos h]
    exact evpos (by simpa using h) (evbind (spec_heights h.2) (evc rfl))
  · rw [if_neg h]
    exact evneg (by simpa using h) (evc rfl)
theorem impl_ac (d : Int) (l : List Int) : Ev (fun k => impl_IsAcyclicCube.f k d l) (acR d l) := by
  classical
  unfold impl_IsAcyclicCube.f acR
  refine evbind (impl_is d l (decide (IsC d l)) (by simp)) ?_
  by_cases h : IsC d l
  · obtain ⟨n, rfl⟩ := Int.eq_ofNat_of_zero_le h.1
    rw [if_pos h]
    refine evpos (by simpa using h) ?_
    have h2 : CubeOK n l := h.2
    by_cases e : cnt (last n l) l.length = l.length
    · have hp : 0 < l.length := by rw [h2.2.2.1]; exact Nat.pos_of_ne_zero (by simp)
      refine evbind (impl_longest h2 _ (fun _ => evbind (max_of _ (by rw [lst_len]; omega) (by rw [lst_len]; have := ok32 h2; omega)) (evc rfl)) (fun e' => absurd e e')) (evc ?_)
      simp [e]
    · refine evbind (impl_longest h2 (0, false) (fun e' => absurd e' e) (fun _ => rfl)) (evc ?_)
      simp [e]
  · rw [if_neg h]
    exact evneg (by simpa using h) (evc rfl)
theorem FnExactIsAcyclicCube : Say.FnExactIsAcyclicCube := by
  intro d l hd hl
  refine evk (g := fun k => laws_FnExactIsAcyclicCube.f k d l) ?_
  unfold laws_FnExactIsAcyclicCube.f
  refine lawC d hl.1 (fun h => ?_)
  refine evbind (toC d l h) (evbind (spec_ac d l) (evbind (toC d l h) (evbind (impl_ac d l) (evneg (by simp) ?_))))
  refine evstep (fun k => by rw [laws_FnExactIsAcyclicCube.j0]) (evneg (by simp) ?_)
  exact evbind (toC d l h) (evbind (eqC d l (by omega)) (evpos rfl (evc rfl)))
end Go.Proofs.Ytlnoidhaoinpbaa.Pure
