/- LongestPath of the program answers as that of the reference, at every cube. -/
import Derived.Test.YtjjbhdpjnjncbaaSayFnExactLongestPath
import Derived.Test.YtjjbhdpjnjncbaaCuA
import Derived.Test.YtjjbhdpjnjncbaaLaC
import Derived.Test.YtjjbhdpjnjncbaaPrx18
import Derived.Test.YtjjbhdpjnjncbaaPrx22
namespace Go.Proofs.Ytjjbhdpjnjncbaa.Pure
open Go.RowKit Go.Proofs.YtjjbhdpjnjncbaaW.PrintWords Go.Proofs.YtjjbhdpjnjncbaaW.PrintMore Go.Proofs.Ytjjbhdpjnjncbaa.Ma Go.Proofs.Ytjjbhdpjnjncbaa.Pr Go.Proofs.Ytjjbhdpjnjncbaa.Cu Go.Proofs.Ytjjbhdpjnjncbaa.La Go.Proofs.Ytjjbhdpjnjncbaa.CuA
theorem spec_max (l : List Int) (hl : l.length ≤ 1048576) : ∀ m i (x : Int), i + m = l.length → Ev (fun k => spec_LongestPath.l0 k l x (i : Nat)) ((l.drop i).foldl mx x, 0) := by
  intro m
  induction m with
  | zero =>
    intro i x hi
    rw [List.drop_eq_nil_of_le (by omega)]
    show Ev (fun k => spec_LongestPath.l0 k l x (i : Nat)) (x, 0)
    exact evstep (fun k => by rw [spec_LongestPath.l0]) (evneg (by omega) (evc rfl))
  | succ m ih =>
    intro i x hi
    have hlt : i < l.length := by omega
    have e : l.getD i 0 = l[i] := by simp [hlt]
    have h := ih (i + 1) (mx x l[i]) (by omega)
    rw [List.drop_eq_getElem_cons hlt, List.foldl_cons]
    refine evstep (fun k => by rw [spec_LongestPath.l0]) (evpos (by omega) (evpos (by omega) ?_))
    rw [rd_nat, w64 (by omega) (by omega), e]
    exact h
theorem lists_same {d : Nat} {l : List Int} (e : cnt (last d l) l.length = l.length) : lst val (last d l) l.length = lst encV (last d l) l.length := by
  apply List.ext_getElem
  · simp [lst]
  · intro i h1 h2
    obtain ⟨m, hm⟩ := cnt_full _ _ e i (by simpa [lst] using h1)
    simp [lst, hm, val, encV]
/-- The greatest of the lengths. -/
def top (d : Nat) (l : List Int) : Int := (lst encV (last d l) l.length).foldl mx 0
theorem top_eq {d : Nat} {l : List Int} (e : cnt (last d l) l.length = l.length) (hp : 0 < l.length) : ((lst encV (last d l) l.length).drop 1).foldl mx ((lst encV (last d l) l.length).getD 0 0) = top d l := by
  unfold top
  have hp' : 0 < (lst encV (last d l) l.length).length := by rw [lst_len]; exact hp
  have h0 : 0 ≤ (lst encV (last d l) l.length).getD 0 0 := by
    rw [lst_get _ _ _ _ _ hp]
    obtain ⟨m, hm⟩ := cnt_full _ _ e 0 hp
    rw [hm]; simp [encV]
  generalize lst encV (last d l) l.length = x at *
  cases x with
  | nil => simp at hp'
  | cons a t =>
    simp only [List.getD_cons_zero] at h0
    simp only [List.getD_cons_zero, List.drop_succ_cons, List.drop_zero, List.foldl_cons]
    rw [show mx 0 a = a from by unfold mx; split <;> omega]
open Classical in
/-- What LongestPath returns. -/
noncomputable def loR (d : Int) (l : List Int) : Int × Int := if IsC d l then (if cnt (last d.toNat l) l.length = l.length then (top d.toNat l, 0) else (0, 5)) else (0, 1)
theorem spec_lo (d : Int) (l : List Int) : Ev (fun k => spec_LongestPath.f k d l) (loR d l) := by
  classical
  unfold spec_LongestPath.f loR
  refine evbind (spec_is d l (decide (IsC d l)) (by simp)) ?_
  by_cases h : IsC d l
  · obtain ⟨n, rfl⟩ := Int.eq_ofNat_of_zero_le h.1
    rw [if_pos h]
    have h2 : CubeOK n l := h.2
    have h32 := ok32 h2
    refine evpos (by simpa using h) (evbind (spec_heights h2) ?_)
    by_cases e : cnt (last n l) l.length = l.length
    · refine evpos (by simpa using e) ?_
      rw [if_pos (by simpa using e)]
      have := spec_max (lst val (last n l) l.length) (by rw [lst_len]; omega) (lst val (last n l) l.length).length 0 0 (by omega)
      rw [lists_same e] at this
      show Ev (fun k => spec_LongestPath.l0 k (lst val (last n l) l.length) 0 0) (top n l, 0)
      rw [lists_same e]
      exact this
    · refine evneg (by simpa using e) ?_
      rw [if_neg (by simpa using e)]
      exact evc rfl
  · rw [if_neg h]
    exact evneg (by simpa using h) (evc rfl)
theorem impl_lo (d : Int) (l : List Int) : Ev (fun k => impl_LongestPath.f k d l) (loR d l) := by
  classical
  unfold impl_LongestPath.f loR
  refine evbind (impl_is d l (decide (IsC d l)) (by simp)) ?_
  by_cases h : IsC d l
  · obtain ⟨n, rfl⟩ := Int.eq_ofNat_of_zero_le h.1
    rw [if_pos h]
    refine evpos (by simpa using h) ?_
    have h2 : CubeOK n l := h.2
    by_cases e : cnt (last n l) l.length = l.length
    · have hp : 0 < l.length := by rw [h2.2.2.1]; exact Nat.pos_of_ne_zero (by simp)
      rw [if_pos (by simpa using e)]
      refine evbind (impl_longest h2 (top n l, true) (fun _ => ?_) (fun e' => absurd e e')) (evpos rfl (evc rfl))
      rw [← top_eq e hp]
      exact evbind (max_of _ (by rw [lst_len]; omega) (by rw [lst_len]; have := ok32 h2; omega)) (evc rfl)
    · rw [if_neg (by simpa using e)]
      exact evbind (impl_longest h2 (0, false) (fun e' => absurd e' e) (fun _ => rfl)) (evneg (by simp) (evc rfl))
  · rw [if_neg h]
    exact evneg (by simpa using h) (evc rfl)
theorem FnExactLongestPath : Say.FnExactLongestPath := by
  intro d l hd hl
  refine evk (g := fun k => laws_FnExactLongestPath.f k d l) ?_
  unfold laws_FnExactLongestPath.f
  refine lawC d hl.1 (fun h => ?_)
  refine evbind (toC d l h) (evbind (spec_lo d l) (evbind (toC d l h) (evbind (impl_lo d l) (evpos rfl ?_))))
  refine evstep (fun k => by rw [laws_FnExactLongestPath.j0]) (evneg (by simp) ?_)
  exact evbind (toC d l h) (evbind (eqC d l (by omega)) (evpos rfl (evc rfl)))
end Go.Proofs.Ytjjbhdpjnjncbaa.Pure
