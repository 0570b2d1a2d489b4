/- SinksOf: what the program and the reference return, at every input. -/
import Derived.Test.YtlnoidhaoinpbaaCu
import Derived.Test.YtlnoidhaoinpbaaPrx16
import Derived.Test.YtlnoidhaoinpbaaPrx16
namespace Go.Proofs.Ytlnoidhaoinpbaa.Cu
open Go.RowKit Go.Proofs.YtlnoidhaoinpbaaW.PrintWords Go.Proofs.YtlnoidhaoinpbaaW.PrintMore Go.Proofs.Ytlnoidhaoinpbaa.Ma Go.Proofs.Ytlnoidhaoinpbaa.Pr
set_option linter.unusedVariables false

/-- The sinks from a vertex on. -/
def snk (l : List Int) (i m : Nat) : List Int := ((List.range' i m).filter fun v => at_ l v == 0).map fun v : Nat => (v : Int)
theorem snk_succ (l : List Int) (i m : Nat) : snk l i (m + 1) = if at_ l i = 0 then (i : Int) :: snk l (i + 1) m else snk l (i + 1) m := by
  unfold snk
  rw [List.range'_succ, List.filter_cons]
  by_cases h : at_ l i = 0 <;> simp [h]
theorem spec_sinks (d : Int) (l : List Int) (h32 : l.length ≤ 32) : ∀ m i acc, i + m = l.length → acc.length ≤ i → Ev (fun k => spec_SinksOf.l0 k acc (i : Nat) d l) (acc ++ snk l i m, 0) := by
  intro m
  induction m with
  | zero =>
    intro i acc hi ha
    refine evstep (fun k => by rw [spec_SinksOf.l0]) (evneg (by omega) (evc ?_))
    simp [snk]
  | succ m ih =>
    intro i acc hi ha
    refine evstep (fun k => by rw [spec_SinksOf.l0]) (evpos (by omega) (evpos (by omega) ?_))
    rw [rd_nat, w64 (by omega) (by omega), snk_succ]
    by_cases c : at_ l i = 0
    · rw [if_pos c]
      refine evpos c (evpos (by omega) ?_)
      have := ih (i + 1) (acc ++ [(i : Int)]) (by omega) (by simp; omega)
      rw [List.append_assoc] at this
      exact this
    · rw [if_neg c]
      exact evneg c (ih (i + 1) acc (by omega) (by omega))
theorem impl_sinks (l : List Int) (h32 : l.length ≤ 32) : ∀ m i acc, i + m = l.length → acc.length ≤ i → Ev (fun k => impl_SinksOf.l0 k acc l (l.length : Int) (i : Nat)) (acc ++ snk l i m, 0) := by
  intro m
  induction m with
  | zero =>
    intro i acc hi ha
    refine evstep (fun k => by rw [impl_SinksOf.l0]) (evneg (by omega) (evc ?_))
    simp [snk]
  | succ m ih =>
    intro i acc hi ha
    refine evstep (fun k => by rw [impl_SinksOf.l0]) (evpos (by omega) (evpos (by omega) (evpos (by omega) ?_)))
    rw [rd_nat, w64 (by omega) (by omega), snk_succ]
    by_cases c : at_ l i = 0
    · rw [if_pos c]
      refine evpos c (evpos (by omega) ?_)
      have := ih (i + 1) (acc ++ [(i : Int)]) (by omega) (by simp; omega)
      rw [List.append_assoc] at this
      exact this
    · rw [if_neg c]
      exact evneg c (ih (i + 1) acc (by omega) (by omega))
open Classical in
noncomputable def sinksR (d : Int) (l : List Int) : List Int × Int := if IsC d l then (snk l 0 l.length, 0) else ([], 1)
theorem snk_len (l : List Int) (i m : Nat) : (snk l i m).length ≤ m := by
  unfold snk
  rw [List.length_map]
  exact Nat.le_trans (List.length_filter_le _ _) (by simp)
theorem sinksR_len (d : Int) (l : List Int) : (sinksR d l).1.length ≤ 32 := by
  unfold sinksR
  by_cases h : IsC d l
  · rw [if_pos h]
    exact Nat.le_trans (snk_len _ _ _) (ok32 h.2)
  · rw [if_neg h]; simp
theorem spec_sinksOf (d : Int) (l : List Int) : Ev (fun k => spec_SinksOf.f k d l) (sinksR d l) := by
  classical
  unfold spec_SinksOf.f sinksR
  refine evbind (spec_is d l (decide (IsC d l)) (by simp)) ?_
  by_cases h : IsC d l
  · rw [if_pos h]
    exact evpos (by simpa using h) (spec_sinks d l (ok32 h.2) l.length 0 [] (by omega) (by simp))
  · rw [if_neg h]
    exact evneg (by simpa using h) (evc rfl)
theorem impl_sinksOf (d : Int) (l : List Int) : Ev (fun k => impl_SinksOf.f k d l) (sinksR d l) := by
  classical
  unfold impl_SinksOf.f sinksR
  refine evbind (impl_is d l (decide (IsC d l)) (by simp)) ?_
  by_cases h : IsC d l
  · rw [if_pos h]
    exact evpos (by simpa using h) (impl_sinks l (ok32 h.2) l.length 0 [] (by omega) (by simp))
  · rw [if_neg h]
    exact evneg (by simpa using h) (evc rfl)

end Go.Proofs.Ytlnoidhaoinpbaa.Cu
