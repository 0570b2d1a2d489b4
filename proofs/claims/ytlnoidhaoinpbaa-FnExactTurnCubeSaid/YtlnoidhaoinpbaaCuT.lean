/- TurnCube: what the program and the reference return, at every input. -/
import Derived.Test.YtlnoidhaoinpbaaCuX
import Derived.Test.YtlnoidhaoinpbaaPrx26
import Derived.Test.YtlnoidhaoinpbaaPrx27
namespace Go.Proofs.Ytlnoidhaoinpbaa.Cu
open Go.RowKit Go.Proofs.YtlnoidhaoinpbaaW.PrintWords Go.Proofs.YtlnoidhaoinpbaaW.PrintMore Go.Proofs.Ytlnoidhaoinpbaa.Ma Go.Proofs.Ytlnoidhaoinpbaa.Pr
set_option linter.unusedVariables false

/-- A vertex and a set: again a vertex. -/
theorem xor_vertex {n : Nat} {l : List Int} (ok : CubeOK n l) {a : Int} (ha : IsV l a) {i : Nat} (hi : i < l.length) : 0 ≤ Go.bits .xor .i64 (i : Int) a ∧ Go.bits .xor .i64 (i : Int) a < l.length := by
  have h32 := ok32 ok
  obtain ⟨x, rfl⟩ := Int.eq_ofNat_of_zero_le ha.1
  have hx : x < l.length := by have := ha.2; omega
  rw [xor_nat (by omega) (by omega)]
  have := ok.2.2.1
  have : i ^^^ x < 2 ^ n := Nat.xor_lt_two_pow (by omega) (by omega)
  omega
theorem spec_turn_loop {n : Nat} (d x : Int) (l : List Int) (ok : CubeOK n l) (a : Int) (hv : IsV l a) : ∀ m i acc, i + m = l.length → acc.length = i → Ev (fun k => spec_TurnCube.l0 k a (i : Nat) d l x acc) (x, acc ++ mpd (turnG l a) i m, 0) := by
  have h32 := ok32 ok
  intro m
  induction m with
  | zero =>
    intro i acc hi ha
    refine evstep (fun k => by rw [spec_TurnCube.l0]) (evneg (by omega) (evc ?_))
    simp [mpd]
  | succ m ih =>
    intro i acc hi ha
    have hx := xor_vertex ok hv (show i < l.length by omega)
    refine evstep (fun k => by rw [spec_TurnCube.l0]) (evpos (by omega) (evpos hx.1 (evpos hx.2 (evpos (by omega) ?_))))
    rw [w64 (by omega) (by omega), mpd_succ]
    have := ih (i + 1) (acc ++ [turnG l a i]) (by omega) (by simp; omega)
    rw [List.append_assoc] at this
    exact this
theorem impl_turn_loop {n : Nat} (d x : Int) (l : List Int) (ok : CubeOK n l) (a : Int) (hv : IsV l a) : ∀ m i acc, i + m = l.length → acc.length = i → Ev (fun k => impl_TurnCube.l0 k a (l.length : Int) (i : Nat) d l x acc) (x, acc ++ mpd (turnG l a) i m, 0) := by
  have h32 := ok32 ok
  intro m
  induction m with
  | zero =>
    intro i acc hi ha
    refine evstep (fun k => by rw [impl_TurnCube.l0]) (evneg (by omega) (evc ?_))
    simp [mpd]
  | succ m ih =>
    intro i acc hi ha
    have hx := xor_vertex ok hv (show i < l.length by omega)
    refine evstep (fun k => by rw [impl_TurnCube.l0]) (evpos (by omega) (evpos hx.1 (evpos hx.2 (evpos (by omega) ?_))))
    rw [w64 (by omega) (by omega), mpd_succ]
    have := ih (i + 1) (acc ++ [turnG l a i]) (by omega) (by simp; omega)
    rw [List.append_assoc] at this
    exact this
theorem spec_turn (d : Int) (l : List Int) (a : Int) : Ev (fun k => spec_TurnCube.f k d l a) (cubeR turnG d l a) := by
  classical
  unfold spec_TurnCube.f cubeR
  refine evbind (spec_code d l [a] (by simp)) ?_
  obtain ⟨c1, c2, c3⟩ := codeR_one d l a
  by_cases h : IsC d l
  · by_cases e : IsV l a
    · rw [c1 ⟨h, e⟩, if_pos h, if_pos e]
      exact evpos rfl (spec_turn_loop d d l h.2 a e l.length 0 [] (by omega) rfl)
    · rw [c2 ⟨h, e⟩, if_pos h, if_neg e]
      exact evneg (by decide) (evc rfl)
  · rw [c3 h, if_neg h]
    exact evneg (by decide) (evc rfl)
theorem impl_turn (d : Int) (l : List Int) (a : Int) : Ev (fun k => impl_TurnCube.f k d l a) (cubeR turnG d l a) := by
  classical
  unfold impl_TurnCube.f cubeR
  refine evbind (impl_is d l (decide (IsC d l)) (by simp)) ?_
  by_cases h : IsC d l
  · rw [if_pos h]
    refine evpos (by simpa using h) (evsome (impl_vertex d l a (ok32 h.2)) ?_)
    by_cases e : IsV l a
    · rw [if_pos e]
      exact evpos (decide_eq_true (show 0 ≤ a ∧ a ≤ (l.length : Int) - 1 from e)) (impl_turn_loop d d l h.2 a e l.length 0 [] (by omega) rfl)
    · rw [if_neg e]
      exact evneg (fun h => e (of_decide_eq_true (p := 0 ≤ a ∧ a ≤ (l.length : Int) - 1) h)) (evc rfl)
  · rw [if_neg h]
    exact evneg (by simpa using h) (evc rfl)
end Go.Proofs.Ytlnoidhaoinpbaa.Cu
