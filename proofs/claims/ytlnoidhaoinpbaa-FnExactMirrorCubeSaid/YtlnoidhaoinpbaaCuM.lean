/- MirrorCube: what the program and the reference return, at every input. -/
import Derived.Test.YtlnoidhaoinpbaaCuX
import Derived.Test.YtlnoidhaoinpbaaPrx23
import Derived.Test.YtlnoidhaoinpbaaPrx24
namespace Go.Proofs.Ytlnoidhaoinpbaa.Cu
open Go.RowKit Go.Proofs.YtlnoidhaoinpbaaW.PrintWords Go.Proofs.YtlnoidhaoinpbaaW.PrintMore Go.Proofs.Ytlnoidhaoinpbaa.Ma Go.Proofs.Ytlnoidhaoinpbaa.Pr
set_option linter.unusedVariables false

theorem spec_mir_loop (d x : Int) (l : List Int) (a : Int) (h32 : l.length ≤ 32) : ∀ m i acc, i + m = l.length → acc.length = i → Ev (fun k => spec_MirrorCube.l0 k a (i : Nat) d l x acc) (x, acc ++ mpd (mirG l a) i m, 0) := by
  intro m
  induction m with
  | zero =>
    intro i acc hi ha
    refine evstep (fun k => by rw [spec_MirrorCube.l0]) (evneg (by omega) (evc ?_))
    simp [mpd]
  | succ m ih =>
    intro i acc hi ha
    refine evstep (fun k => by rw [spec_MirrorCube.l0]) (evpos (by omega) (evpos (by omega) (evpos (by omega) ?_)))
    rw [rd_nat, w64 (by omega) (by omega), mpd_succ]
    have := ih (i + 1) (acc ++ [mirG l a i]) (by omega) (by simp; omega)
    rw [List.append_assoc] at this
    exact this
theorem impl_mir_loop (x : Int) (l : List Int) (a : Int) (h32 : l.length ≤ 32) : ∀ m i acc, i + m = l.length → acc.length = i → Ev (fun k => impl_MirrorCube.l0 k a l (l.length : Int) (i : Nat) x acc) (x, acc ++ mpd (mirG l a) i m, 0) := by
  intro m
  induction m with
  | zero =>
    intro i acc hi ha
    refine evstep (fun k => by rw [impl_MirrorCube.l0]) (evneg (by omega) (evc ?_))
    simp [mpd]
  | succ m ih =>
    intro i acc hi ha
    refine evstep (fun k => by rw [impl_MirrorCube.l0]) (evpos (by omega) (evpos (by omega) (evpos (by omega) (evpos (by omega) ?_))))
    rw [rd_nat, w64 (by omega) (by omega), mpd_succ]
    have := ih (i + 1) (acc ++ [mirG l a i]) (by omega) (by simp; omega)
    rw [List.append_assoc] at this
    exact this
theorem spec_mirror (d : Int) (l : List Int) (a : Int) : Ev (fun k => spec_MirrorCube.f k d l a) (cubeR mirG d l a) := by
  classical
  unfold spec_MirrorCube.f cubeR
  refine evbind (spec_code d l [a] (by simp)) ?_
  obtain ⟨c1, c2, c3⟩ := codeR_one d l a
  by_cases h : IsC d l
  · by_cases e : IsV l a
    · rw [c1 ⟨h, e⟩, if_pos h, if_pos e]
      exact evpos rfl (spec_mir_loop d d l a (ok32 h.2) l.length 0 [] (by omega) rfl)
    · rw [c2 ⟨h, e⟩, if_pos h, if_neg e]
      exact evneg (by decide) (evc rfl)
  · rw [c3 h, if_neg h]
    exact evneg (by decide) (evc rfl)
theorem impl_mirror (d : Int) (l : List Int) (a : Int) : Ev (fun k => impl_MirrorCube.f k d l a) (cubeR mirG d l a) := by
  classical
  unfold impl_MirrorCube.f cubeR
  refine evbind (impl_is d l (decide (IsC d l)) (by simp)) ?_
  by_cases h : IsC d l
  · rw [if_pos h]
    refine evpos (by simpa using h) (evsome (impl_vertex d l a (ok32 h.2)) ?_)
    by_cases e : IsV l a
    · rw [if_pos e]
      exact evpos (decide_eq_true (show 0 ≤ a ∧ a ≤ (l.length : Int) - 1 from e)) (impl_mir_loop d l a (ok32 h.2) l.length 0 [] (by omega) rfl)
    · rw [if_neg e]
      exact evneg (fun h => e (of_decide_eq_true (p := 0 ≤ a ∧ a ≤ (l.length : Int) - 1) h)) (evc rfl)
  · rw [if_neg h]
    exact evneg (by simpa using h) (evc rfl)
end Go.Proofs.Ytlnoidhaoinpbaa.Cu
