/- What the laws' marks do to lists of whole numbers. -/
import Derived.Test.YtlnoidhaoinpbaaLa
import Derived.Test.YtlnoidhaoinpbaaPrx2
import Derived.Test.YtlnoidhaoinpbaaPrx3
namespace Go.Proofs.Ytlnoidhaoinpbaa.La
open Go.RowKit Go.Proofs.YtlnoidhaoinpbaaW.PrintWords Go.Proofs.YtlnoidhaoinpbaaW.PrintMore Go.Proofs.Ytlnoidhaoinpbaa.Ma Go.Proofs.Ytlnoidhaoinpbaa.Pr
set_option linter.unusedVariables false

/-- The numbers from n on. -/
def count (n : Int) (m : Nat) : List Int := (List.range m).map fun i : Nat => n + (i : Int)
theorem count_length (n : Int) (m : Nat) : (count n m).length = m := by simp [count]
theorem count_at (n : Int) (m i : Nat) (h : i < m) : (count n m).getD i 0 = n + i := by simp [count, h]
theorem markI (l : List Int) (n : Int) (hl : l.length ≤ 1152921504606846976) (h0 : 0 ≤ n) (h1 : n ≤ 1152921504606846976) : Ev (fun k => laws_markInt64S.f k l n) (n + l.length, count n l.length) := by
  have key : ∀ (m i : Nat), i + m = l.length → Ev (fun k => laws_markInt64S.l0 k (count n i ++ l.drop i) (n + i) i) (n + l.length, count n l.length) := by
    intro m
    induction m with
    | zero =>
      intro i hi
      refine evstep (fun k => by rw [laws_markInt64S.l0]) (evneg (by simp [count_length]; omega) (evc ?_))
      have e : i = l.length := by omega
      subst e
      rw [List.drop_of_length_le (Nat.le_refl _), List.append_nil]
    | succ m ih =>
      intro i hi
      refine evstep (fun k => by rw [laws_markInt64S.l0]) (evpos (by simp [count_length]; omega) (evpos (by omega) ?_))
      rw [w64 (by omega) (by omega), w64 (by omega) (by omega), Int.toNat_natCast]
      have hlt : i < l.length := by omega
      have e : (count n i ++ l.drop i).set i (n + i) = count n (i + 1) ++ l.drop (i + 1) := by
        have h2 := set_append_nat (count n i) (l.drop (i + 1)) (n + i) l[i]
        rw [count_length] at h2
        rw [List.drop_eq_getElem_cons hlt, h2]
        simp [count, List.range_succ]
      rw [e]
      have := ih (i + 1) (by omega)
      rw [show n + ((i + 1 : Nat) : Int) = n + i + 1 from by omega] at this
      exact this
  have := key l.length 0 (by omega)
  simpa [laws_markInt64S.f, count] using this
theorem heldI (n : Int) (m : Nat) (hl : m ≤ 1152921504606846976) (h0 : 0 ≤ n) (h1 : n ≤ 1152921504606846976) : Ev (fun k => laws_heldInt64S.f k (count n m) n) (n + m) := by
  have key : ∀ (j i : Nat), i + j = m → Ev (fun k => laws_heldInt64S.l0 k (count n m) (n + i) i) (n + m) := by
    intro j
    induction j with
    | zero =>
      intro i hi
      refine evstep (fun k => by rw [laws_heldInt64S.l0]) (evneg (by simp [count_length]; omega) (evc ?_))
      rw [show i = m from by omega]
    | succ j ih =>
      intro i hi
      refine evstep (fun k => by rw [laws_heldInt64S.l0]) (evpos (by simp [count_length]; omega) (evpos (by omega) (evpos ?_ ?_)))
      · rw [rd_nat, count_at n m i (by omega)]
      · rw [w64 (by omega) (by omega), w64 (by omega) (by omega)]
        have := ih (i + 1) (by omega)
        rw [show n + ((i + 1 : Nat) : Int) = n + i + 1 from by omega] at this
        exact this
  have := key m 0 (by omega)
  simpa [laws_heldInt64S.f] using this
end Go.Proofs.Ytlnoidhaoinpbaa.La
