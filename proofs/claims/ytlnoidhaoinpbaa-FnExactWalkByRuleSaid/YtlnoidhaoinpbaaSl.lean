/- slices.Contains over whole numbers, at lists that are short enough. -/
import Derived.Test.YtlnoidhaoinpbaaMa
import Derived.Test.YtlnoidhaoinpbaaPrx35
namespace Go.Proofs.Ytlnoidhaoinpbaa.Sl
open Go.RowKit Go.Proofs.YtlnoidhaoinpbaaW.PrintWords Go.Proofs.YtlnoidhaoinpbaaW.PrintMore Go.Proofs.Ytlnoidhaoinpbaa.Ma Go.Proofs.Ytlnoidhaoinpbaa.Pr
set_option linter.unusedVariables false
theorem index_loop (xs : List Int) (a : Int) (hx : xs.length ≤ 1048576) : ∀ m i, i + m = xs.length → ∃ r : Int, Ev (fun k => slices_Index_int64_int64.l0 k xs a (xs.length : Int) (i : Nat)) r ∧ (0 ≤ r ↔ a ∈ xs.drop i) := by
  intro m
  induction m with
  | zero =>
    intro i hi
    refine ⟨-1, ?_, by rw [List.drop_of_length_le (by omega)]; simp⟩
    refine evstep (fun k => by rw [slices_Index_int64_int64.l0]) ?_
    exact evneg (by omega) (evc rfl)
  | succ m ih =>
    intro i hi
    have hlt : i < xs.length := by omega
    have e1 : xs.getD i 0 = xs[i] := by simp [hlt]
    by_cases c : a = xs[i]
    · refine ⟨i, ?_, by rw [List.drop_eq_getElem_cons hlt, List.mem_cons]; exact ⟨fun _ => .inl c, fun _ => by omega⟩⟩
      refine evstep (fun k => by rw [slices_Index_int64_int64.l0]) (evpos (by omega) (evpos (by omega) (evpos (by omega) ?_)))
      rw [rd_nat, e1]
      exact evpos c (evc rfl)
    · obtain ⟨r, hr, hi'⟩ := ih (i + 1) (by omega)
      refine ⟨r, ?_, by rw [hi', List.drop_eq_getElem_cons hlt, List.mem_cons]; exact ⟨.inr, fun h => h.elim (fun e => absurd e c) id⟩⟩
      refine evstep (fun k => by rw [slices_Index_int64_int64.l0]) (evpos (by omega) (evpos (by omega) (evpos (by omega) ?_)))
      rw [rd_nat, e1, w64 (by omega) (by omega)]
      exact evneg c hr
theorem contains_eq (xs : List Int) (a : Int) (hx : xs.length ≤ 1048576) : Ev (fun k => slices_Contains_int64_int64.f k xs a) (decide (a ∈ xs)) := by
  obtain ⟨r, hr, hi⟩ := index_loop xs a hx xs.length 0 (by omega)
  rw [List.drop_zero] at hi
  unfold slices_Contains_int64_int64.f slices_Index_int64_int64.f
  refine evbind hr (evc ?_)
  have : decide (r ≥ 0) = decide (a ∈ xs) := by rw [decide_eq_decide]; exact hi
  rw [this]
end Go.Proofs.Ytlnoidhaoinpbaa.Sl
