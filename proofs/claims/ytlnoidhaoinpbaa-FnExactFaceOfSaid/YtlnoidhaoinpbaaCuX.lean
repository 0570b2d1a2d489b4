/- Vertices and sets of directions: what the program and the reference test, at every input. -/
import Derived.Test.YtlnoidhaoinpbaaCu
import Derived.Test.YtlnoidhaoinpbaaPrx22
import Derived.Test.YtlnoidhaoinpbaaPrx24
namespace Go.Proofs.Ytlnoidhaoinpbaa.Cu
open Go.RowKit Go.Proofs.YtlnoidhaoinpbaaW.PrintWords Go.Proofs.YtlnoidhaoinpbaaW.PrintMore Go.Proofs.Ytlnoidhaoinpbaa.Ma Go.Proofs.Ytlnoidhaoinpbaa.Pr
set_option linter.unusedVariables false

/-! ### vertices -/
def IsV (l : List Int) (a : Int) : Prop := 0 ≤ a ∧ a ≤ (l.length : Int) - 1
open Classical in
/-- What spec's l06Code tells of a list of numbers. -/
noncomputable def codeR (d : Int) (l xs : List Int) : Int := if IsC d l then (if ∀ a ∈ xs, IsV l a then 0 else 2) else 1
theorem spec_code_loop (d : Int) (l xs : List Int) (h32 : l.length ≤ 32) (hs : xs.length ≤ 32) : ∀ m i, i + m = xs.length → ∀ c : Int, ((∀ j, i ≤ j → j < xs.length → IsV l (xs.getD j 0)) → c = 0) → (¬ (∀ j, i ≤ j → j < xs.length → IsV l (xs.getD j 0)) → c = 2) → Ev (fun k => spec_l06Code.l0 k xs (i : Nat) d l) c := by
  classical
  intro m
  induction m with
  | zero =>
    intro i hi c hc hc'
    refine evstep (fun k => by rw [spec_l06Code.l0]) (evneg (by omega) (evc ?_))
    rw [hc (fun j h1 h2 => by omega)]
  | succ m ih =>
    intro i hi c hc hc'
    refine evstep (fun k => by rw [spec_l06Code.l0]) (evpos (by omega) (evpos (by omega) (evsome (within_eq _ _ _) ?_)))
    rw [rd_nat, w64 (by omega) (by omega)]
    rw [split_head (P := fun j => IsV l (xs.getD j 0)) (show i < xs.length by omega)] at hc hc'
    by_cases e : IsV l (xs.getD i 0)
    · refine evpos (decide_eq_true (show 0 ≤ xs.getD i 0 ∧ xs.getD i 0 ≤ (l.length : Int) - 1 from e)) ?_
      rw [w64 (by omega) (by omega)]
      exact ih (i + 1) (by omega) c (fun h => hc ⟨e, h⟩) (fun h => hc' (fun k => h k.2))
    · refine evneg (fun h => e (of_decide_eq_true (p := 0 ≤ xs.getD i 0 ∧ xs.getD i 0 ≤ (l.length : Int) - 1) h)) (evc ?_)
      rw [hc' (fun h => e h.1)]
theorem spec_code (d : Int) (l xs : List Int) (hs : xs.length ≤ 32) : Ev (fun k => spec_l06Code.f k d l xs) (codeR d l xs) := by
  classical
  unfold spec_l06Code.f codeR
  refine evbind (spec_is d l (decide (IsC d l)) (by simp)) ?_
  by_cases h : IsC d l
  · rw [if_pos h]
    have : (∀ a ∈ xs, IsV l a) ↔ ∀ j, 0 ≤ j → j < xs.length → IsV l (xs.getD j 0) := by
      constructor
      · intro k j _ hj
        have := k xs[j] (List.getElem_mem hj)
        simpa [hj] using this
      · intro k a ha
        obtain ⟨j, hj, rfl⟩ := List.getElem_of_mem ha
        have := k j (Nat.zero_le _) hj
        simpa [hj] using this
    refine evpos (by simpa using h) (spec_code_loop d l xs (ok32 h.2) hs xs.length 0 (by omega) _ (fun k => if_pos (this.2 k)) (fun k => if_neg (fun k' => k (this.1 k'))))
  · rw [if_neg h]
    exact evneg (by simpa using h) (evc rfl)
theorem impl_vertex (d : Int) (l : List Int) (a : Int) (h32 : l.length ≤ 32) : impl_Cube_isVertex.f d l a = some (decide (0 ≤ a ∧ a ≤ (l.length : Int) - 1)) := by
  unfold impl_Cube_isVertex.f
  rw [w64 (by omega) (by omega), iwithin_eq, Option.bind_some]

/-! ### mirrored and turned -/
/-- The entries from a vertex on, each handed to a function. -/
def mpd (g : Nat → Int) (i m : Nat) : List Int := (List.range' i m).map g
theorem mpd_succ (g : Nat → Int) (i m : Nat) : mpd g i (m + 1) = g i :: mpd g (i + 1) m := by unfold mpd; rw [List.range'_succ]; rfl
theorem mpd_len (g : Nat → Int) (i m : Nat) : (mpd g i m).length = m := by simp [mpd]
def mirG (l : List Int) (a : Int) (v : Nat) : Int := Go.bits .xor .i64 (at_ l v) a
def turnG (l : List Int) (a : Int) (v : Nat) : Int := rd l (Go.bits .xor .i64 (v : Int) a)
open Classical in
noncomputable def cubeR (G : List Int → Int → Nat → Int) (d : Int) (l : List Int) (a : Int) : Int × List Int × Int :=
  if IsC d l then (if IsV l a then (d, mpd (G l a) 0 l.length, 0) else (0, [], 2)) else (0, [], 1)
theorem codeR_one (d : Int) (l : List Int) (a : Int) : (IsC d l ∧ IsV l a → codeR d l [a] = 0) ∧ (IsC d l ∧ ¬ IsV l a → codeR d l [a] = 2) ∧ (¬ IsC d l → codeR d l [a] = 1) := by
  classical
  unfold codeR
  refine ⟨fun h => ?_, fun h => ?_, fun h => ?_⟩
  · rw [if_pos h.1, if_pos (by simpa using h.2)]
  · rw [if_pos h.1, if_neg (by simpa using h.2)]
  · rw [if_neg h]

theorem cubeR_len (G : List Int → Int → Nat → Int) (d : Int) (l : List Int) (a : Int) : (cubeR G d l a).2.1.length ≤ 32 := by
  unfold cubeR
  by_cases h : IsC d l
  · rw [if_pos h]
    by_cases e : IsV l a
    · rw [if_pos e, mpd_len]; exact ok32 h.2
    · rw [if_neg e]; simp
  · rw [if_neg h]; simp
end Go.Proofs.Ytlnoidhaoinpbaa.Cu
