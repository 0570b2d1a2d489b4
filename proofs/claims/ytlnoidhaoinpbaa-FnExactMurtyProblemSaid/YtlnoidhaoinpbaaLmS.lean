/- What the laws' marks do to rows of lists: marked rows are held. Conditions: as each theorem says. -/
import Derived.Test.YtlnoidhaoinpbaaHm
import Derived.Test.YtlnoidhaoinpbaaPrx6
namespace Go.Proofs.Ytlnoidhaoinpbaa.La
open Go.RowKit Go.Proofs.YtlnoidhaoinpbaaW.PrintWords Go.Proofs.YtlnoidhaoinpbaaW.PrintMore Go.Proofs.Ytlnoidhaoinpbaa.Ma Go.Proofs.Ytlnoidhaoinpbaa.Pr Go.Proofs.Ytlnoidhaoinpbaa.Hm
set_option linter.unusedVariables false
theorem marks_at : ∀ (l : List (List Int)) (n : Int) (i : Nat) (h : i < l.length), (marks l n).getD i [] = count (n + lens (l.take i)) l[i].length
  | x :: l, n, 0, _ => by simp [marks, lens]
  | x :: l, n, i + 1, h => by
    have := marks_at l (n + x.length) i (by simpa using h)
    simp only [marks, List.getD_cons_succ, this, List.take_succ_cons, lens, List.getElem_cons_succ]
    congr 1
    push_cast
    omega
theorem heldSS (l : List (List Int)) (n : Int) (h0 : 0 ≤ n) (h1 : n + lens l ≤ 1099511627776) (hl : l.length ≤ 1099511627776) : Ev (fun k => laws_heldInt64SS.f k (marks l n) n) (n + lens l) := by
  have key : ∀ m i, i + m = l.length → Ev (fun k => laws_heldInt64SS.l0 k (marks l n) (n + lens (l.take i)) (i : Nat)) (n + lens l) := by
    intro m
    induction m with
    | zero =>
      intro i hi
      refine evstep (fun k => by rw [laws_heldInt64SS.l0]) (evneg (by rw [marks_length]; omega) (evc ?_))
      rw [List.take_of_length_le (by omega)]
    | succ m ih =>
      intro i hi
      have hlt : i < l.length := by omega
      have e1 := lens_take_succ l i hlt
      have e2 := lens_take_le l (i + 1)
      refine evstep (fun k => by rw [laws_heldInt64SS.l0]) (evpos (by rw [marks_length]; omega) (evpos (by omega) ?_))
      rw [rdL, marks_at l n i hlt, w64 (by omega) (by omega)]
      refine evbind (heldI (n + lens (l.take i)) l[i].length (by omega) (by omega) (by omega)) (evneg (by omega) ?_)
      have := ih (i + 1) (by omega)
      rw [show n + (lens (l.take (i + 1)) : Int) = n + lens (l.take i) + l[i].length from by rw [e1]; push_cast; omega] at this
      exact this
  have := key l.length 0 (by omega)
  unfold laws_heldInt64SS.f
  simpa [lens] using this
end Go.Proofs.Ytlnoidhaoinpbaa.La
