/- The place of the first element of a list of which a predicate holds. -/
import Derived.Test.YtlnoidhaoinpbaaPrx0
namespace Go.Proofs.Ytlnoidhaoinpbaa.Pr
open Go.RowKit Go.Proofs.YtlnoidhaoinpbaaW.PrintWords Go.Proofs.YtlnoidhaoinpbaaW.PrintLast Go.Proofs.YtlnoidhaoinpbaaW.PrintMore
set_option linter.unusedVariables false
set_option linter.unusedSimpArgs false

/-- The place of the first element that is such, from a place on; -1 if there is none. -/
def idxP {α : Type} (p : α → Bool) : List α → Int → Int
  | [], _ => -1
  | x :: l, i => if p x then i else idxP p l (i + 1)
theorem idxP_nonneg {α : Type} (p : α → Bool) (l : List α) (i : Int) (h : 0 ≤ i) : decide (0 ≤ idxP p l i) = l.any p := by
  induction l generalizing i with
  | nil => simp [idxP]
  | cons x l ih =>
    rw [idxP, List.any_cons]
    cases hx : p x
    · rw [if_neg (by simp), ih (i + 1) (by omega)]; simp
    · rw [if_pos rfl]; simp [h]
theorem idxP_from {α : Type} (p : α → Bool) (l : List α) (j : Nat) (hj : j ≤ l.length) (h : ∀ i (hi : i < l.length), i < j → p l[i] = false) (a : Int) : idxP p l a = idxP p (l.drop j) (a + j) := by
  induction j generalizing l a with
  | zero => simp
  | succ j ih =>
    cases l with
    | nil => simp at hj
    | cons x l =>
      have h0 := h 0 (by simp) (by omega)
      simp at h0
      rw [idxP, if_neg (by simp [h0]), List.drop_succ_cons, ih l (by simpa using hj) (fun i hi hij => by have := h (i + 1) (by simpa using hi) (by omega); simpa using this)]
      congr 1
      omega
theorem idxP_hit {α : Type} (p : α → Bool) (l : List α) (j : Nat) (hj : j < l.length) (h : ∀ i (hi : i < l.length), i < j → p l[i] = false) (hp : p l[j] = true) : idxP p l 0 = j := by
  rw [idxP_from p l j (by omega) h 0, List.drop_eq_getElem_cons hj, idxP, if_pos hp]
  omega
theorem idxP_miss {α : Type} (p : α → Bool) (l : List α) (h : ∀ i (hi : i < l.length), p l[i] = false) : idxP p l 0 = -1 := by
  rw [idxP_from p l l.length (Nat.le_refl _) (fun i hi _ => h i hi) 0, List.drop_length, idxP]

/-- A call of a function that has a body enters it. -/
theorem enters_fn {P : Program} {f : FuncId} {fn : Func} {c : Code} (hf : P.funcs[f]? = some fn) (hname : (fn.name == "runtime.NumGoroutine") = false) (hb : fn.body = some c) : ∀ args w, (callFunc f args).run P w = .ok (.enter f args) w := by
  intro args w
  have h1 : fn.name ≠ "runtime.NumGoroutine" := by simpa using hname
  simp [callFunc, hf, h1, hb, mark]
end Go.Proofs.Ytlnoidhaoinpbaa.Pr
