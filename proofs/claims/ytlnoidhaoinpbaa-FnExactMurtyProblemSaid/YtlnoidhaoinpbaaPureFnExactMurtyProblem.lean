/- MurtyProblem of the program answers as that of the reference, at every number. -/
import Derived.Test.YtlnoidhaoinpbaaSayFnExactMurtyProblem
import Derived.Test.YtlnoidhaoinpbaaLmP
import Derived.Test.YtlnoidhaoinpbaaPrx32
import Derived.Test.YtlnoidhaoinpbaaPrx34
namespace Go.Proofs.Ytlnoidhaoinpbaa.Pure
open Go.RowKit Go.Proofs.YtlnoidhaoinpbaaW.PrintWords Go.Proofs.YtlnoidhaoinpbaaW.PrintMore Go.Proofs.Ytlnoidhaoinpbaa.Ma Go.Proofs.Ytlnoidhaoinpbaa.Pr Go.Proofs.Ytlnoidhaoinpbaa.La Go.Proofs.Ytlnoidhaoinpbaa.Hm
/-- What MurtyProblem returns. -/
def muR (n : Int) : List (List Int) × List Int × Int :=
  if n = 1 then ([[1]], [-1], 0) else if n = 2 then ([[1, 2], [0, 1]], [-1, -1], 0) else if n = 3 then ([[1, 2, 2], [0, 1, 2], [0, 0, 1]], [-1, -1, -1], 0)
  else if n = 4 then ([[1, 2, 2, 2], [0, 1, 2, 2], [0, 0, 1, 2], [0, 0, 0, 1]], [-1, -1, -1, -1], 0)
  else if n = 5 then ([[1, 2, 2, 2, 2], [0, 1, 2, 2, 2], [0, 0, 1, 2, 2], [0, 0, 0, 1, 2], [0, 0, 0, 0, 1]], [-1, -1, -1, -1, -1], 0) else ([], [], 2)
theorem cases5 {P : Int → Prop} (h : ∀ n, ¬ (1 ≤ n ∧ n ≤ 5) → P n) (h1 : P 1) (h2 : P 2) (h3 : P 3) (h4 : P 4) (h5 : P 5) (n : Int) : P n := by
  by_cases c : 1 ≤ n ∧ n ≤ 5
  · have : n = 1 ∨ n = 2 ∨ n = 3 ∨ n = 4 ∨ n = 5 := by omega
    rcases this with rfl | rfl | rfl | rfl | rfl <;> assumption
  · exact h n c
theorem out5 {n : Int} (c : ¬ (1 ≤ n ∧ n ≤ 5)) : muR n = ([], [], 2) := by
  unfold muR
  rw [if_neg (by omega), if_neg (by omega), if_neg (by omega), if_neg (by omega), if_neg (by omega)]
theorem spec_mu (n : Int) : Ev (fun k => spec_MurtyProblem.f k n) (muR n) := by
  have one : ∀ n, spec_MurtyProblem.f 40 n = some (muR n) → Ev (fun k => spec_MurtyProblem.f k n) (muR n) := fun n h => Ev.of (fun k => spec_MurtyProblem.mono n k) h
  refine cases5 (P := fun n => Ev (fun k => spec_MurtyProblem.f k n) (muR n)) (fun n c => ?_) (one 1 (by decide +kernel)) (one 2 (by decide +kernel)) (one 3 (by decide +kernel)) (one 4 (by decide +kernel)) (one 5 (by decide +kernel)) n
  rw [out5 c]
  unfold spec_MurtyProblem.f
  refine evsome (a := false) ?_ (evneg (by decide) (evc rfl))
  unfold spec_l01In.f
  by_cases h : 1 ≤ n
  · rw [if_pos (by omega)]; simp; omega
  · rw [if_neg (by omega)]
theorem impl_mu (n : Int) : Ev (fun k => impl_MurtyProblem.f k n) (muR n) := by
  have one : ∀ n, impl_MurtyProblem.f 40 n = some (muR n) → Ev (fun k => impl_MurtyProblem.f k n) (muR n) := fun n h => Ev.of (fun k => impl_MurtyProblem.mono n k) h
  refine cases5 (P := fun n => Ev (fun k => impl_MurtyProblem.f k n) (muR n)) (fun n c => ?_) (one 1 (by decide +kernel)) (one 2 (by decide +kernel)) (one 3 (by decide +kernel)) (one 4 (by decide +kernel)) (one 5 (by decide +kernel)) n
  rw [out5 c]
  unfold impl_MurtyProblem.f
  refine evsome (a := false) ?_ (evneg (by decide) (evc rfl))
  unfold impl_within.f
  by_cases h : 1 ≤ n
  · rw [if_pos (by omega)]; simp; omega
  · rw [if_neg (by omega)]
theorem mu_small (n : Int) : tot (muR n).1 ≤ 1048576 ∧ (muR n).2.1.length ≤ 5 :=
  cases5 (P := fun n => tot (muR n).1 ≤ 1048576 ∧ (muR n).2.1.length ≤ 5) (fun n c => by rw [out5 c]; decide) (by decide) (by decide) (by decide) (by decide) (by decide) n
theorem FnExactMurtyProblem : Say.FnExactMurtyProblem := by
  intro n _
  obtain ⟨h1, h2⟩ := mu_small n
  have hf : Fit (muR n).1 := fit_of h1
  have hlen := hf.len
  have hl : lens (muR n).1 ≤ 1048576 := by unfold tot at h1; omega
  obtain ⟨k1, e1⟩ := spec_mu n
  obtain ⟨k2, e2⟩ := impl_mu n
  obtain ⟨k3, e3⟩ := eqP hf (Q := (muR n).2.1) (by omega)
  obtain ⟨k4, e4⟩ := heldP (muR n).1 (muR n).2.1 1 (by decide) (by omega) (by omega)
  refine ⟨k1 + k2 + k3 + k4, ?_⟩
  unfold laws_FnExactMurtyProblem.f
  rw [if_pos]
  exact ⟨(muR n).1, (muR n).2.1, (muR n).2.2, _, e1 _ (by omega), e2 _ (by omega), e3 _ (by omega), rfl, by omega, by omega, by omega, e4 _ (by omega)⟩
end Go.Proofs.Ytlnoidhaoinpbaa.Pure
