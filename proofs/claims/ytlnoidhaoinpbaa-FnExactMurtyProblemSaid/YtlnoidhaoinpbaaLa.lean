/- What the laws' own helpers do to lists of whole numbers: sizes, copies, equality. -/
import Derived.Test.YtlnoidhaoinpbaaMa
import Derived.Test.YtlnoidhaoinpbaaPrx1
import Derived.Test.YtlnoidhaoinpbaaPrx1
import Derived.Test.YtlnoidhaoinpbaaPrx2
namespace Go.Proofs.Ytlnoidhaoinpbaa.La
open Go.RowKit Go.Proofs.YtlnoidhaoinpbaaW.PrintWords Go.Proofs.YtlnoidhaoinpbaaW.PrintMore Go.Proofs.Ytlnoidhaoinpbaa.Ma Go.Proofs.Ytlnoidhaoinpbaa.Pr
set_option linter.unusedVariables false

theorem sz_eq {l : List Int} {n : Int} (hn : 0 ≤ n) (hn2 : n ≤ 1048576) (hl : l.length ≤ maxLen) : laws_szInt64S.f l n = some (if n < l.length then (-1 : Int) else n - (l.length : Int)) := by
  unfold maxLen at hl
  unfold laws_szInt64S.f
  rw [w64 (by omega) (by omega)]
  by_cases h : n < l.length
  · rw [if_pos (by omega), if_pos h]
  · rw [if_neg (by omega), if_neg h]
theorem set_append_nat {α : Type} (a b : List α) (x y : α) : (a ++ y :: b).set a.length x = a ++ x :: b := by
  rw [List.set_append_right _ _ (Nat.le_refl _), Nat.sub_self, List.set_cons_zero]
theorem toI (l : List Int) (hl : l.length ≤ 1048576) : Ev (fun k => laws_toInt64S.f k l) l := by
  have key : ∀ (m i : Nat), i + m = l.length → Ev (fun k => laws_toInt64S.l0 k l (l.take i ++ List.replicate m 0) i) l := by
    intro m
    induction m with
    | zero =>
      intro i hi
      refine evstep (fun k => by rw [laws_toInt64S.l0]) (evneg (by omega) (evc ?_))
      rw [List.replicate_zero, List.append_nil, List.take_of_length_le (by omega)]
    | succ m ih =>
      intro i hi
      refine evstep (fun k => by rw [laws_toInt64S.l0]) (evpos (by omega) (evpos (by omega) (evpos (by simp; omega) ?_)))
      rw [w64 (by omega) (by omega), Int.toNat_natCast, rd_nat]
      have e : (l.take i ++ List.replicate (m + 1) 0).set i (l.getD i 0) = l.take (i + 1) ++ List.replicate m 0 := by
        have hlt : i < l.length := by omega
        have h1 : (l.take i).length = i := by rw [List.length_take]; omega
        have h2 := set_append_nat (l.take i) (List.replicate m 0) (l.getD i 0) 0
        rw [h1] at h2
        rw [List.replicate_succ, h2, List.take_succ_eq_append_getElem hlt, List.append_assoc]
        simp [hlt]
      rw [e]
      exact ih (i + 1) (by omega)
  unfold laws_toInt64S.f
  refine evpos (by omega) (evpos (by omega) ?_)
  have := key l.length 0 (by omega)
  simpa using this
theorem eqI (a b : List Int) (ha : a.length ≤ 1152921504606846976) : Ev (fun k => laws_eqInt64S.f k a b) (decide (a = b)) := by
  unfold laws_eqInt64S.f
  by_cases hl : a.length = b.length
  · refine evpos (by omega) ?_
    have key : ∀ (m i : Nat), i + m = a.length → a.take i = b.take i → Ev (fun k => laws_eqInt64S.l0 k a b i) (decide (a = b)) := by
      intro m
      induction m with
      | zero =>
        intro i hi ht
        refine evstep (fun k => by rw [laws_eqInt64S.l0]) (evneg (by omega) (evc ?_))
        rw [List.take_of_length_le (by omega), List.take_of_length_le (by omega)] at ht
        simp [ht]
      | succ m ih =>
        intro i hi ht
        refine evstep (fun k => by rw [laws_eqInt64S.l0]) (evpos (by omega) (evpos (by omega) (evpos (by omega) ?_)))
        rw [rd_nat, rd_nat]
        have h1 : i < a.length := by omega
        have h2 : i < b.length := by omega
        by_cases e : a.getD i 0 = b.getD i 0
        · refine evpos e ?_
          rw [w64 (by omega) (by omega)]
          refine ih (i + 1) (by omega) ?_
          rw [List.take_succ_eq_append_getElem h1, List.take_succ_eq_append_getElem h2, ht]
          simp [h1, h2] at e
          rw [e]
        · refine evneg e (evc ?_)
          have : a ≠ b := fun h => e (by rw [h])
          simp [this]
    exact key a.length 0 (by omega) rfl
  · refine evneg (by omega) (evc ?_)
    have : a ≠ b := fun h => hl (by rw [h])
    simp [this]
theorem eqI_same (a : List Int) (ha : a.length ≤ 1152921504606846976) : Ev (fun k => laws_eqInt64S.f k a a) true := by
  have := eqI a a ha
  simpa using this
end Go.Proofs.Ytlnoidhaoinpbaa.La
