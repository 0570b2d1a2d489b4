/- Texts of one claim (the words of the kit's print that the claim uses, printed functions, and this session's own texts), joined in the order of their imports by this session's own program (merge.py). -/
import Derived.Test.YtjjbhdpjnjncbaaRows
import Derived.WalkKit
import Derived.ProofKit
import Derived.OpenShut
import Derived.ShutString
import Derived.ChangeOld
import Derived.Below
import Derived.SizedLaws
import Derived.Test.YtjjbhdpjnjncbaaJnFnExactIsWholePivot0
import Derived.Test.YtjjbhdpjnjncbaaJnFnExactIsWholePivot1
import Derived.Test.YtjjbhdpjnjncbaaJnFnExactIsWholePivot2
import Derived.Test.YtjjbhdpjnjncbaaJnFnExactIsWholePivot3
set_option linter.unusedVariables false
set_option linter.unusedSimpArgs false
set_option maxHeartbeats 8000000
set_option maxRecDepth 100000
section
namespace Go.Proofs.Ytjjbhdpjnjncbaa.Cz
open Go.RowKit Go.Proofs.YtjjbhdpjnjncbaaW.PrintWords Go.Proofs.YtjjbhdpjnjncbaaW.PrintMore Go.Proofs.Ytjjbhdpjnjncbaa.Ma Go.Proofs.Ytjjbhdpjnjncbaa.Pr Go.Proofs.Ytjjbhdpjnjncbaa.Dt Go.Proofs.Ytjjbhdpjnjncbaa.Bz Go.Proofs.Ytjjbhdpjnjncbaa.Un
def en (l : List (List Int)) : Mat := fun i j => (l.getD i []).getD j 0
structure Sq (n : Nat) (l : List (List Int)) : Prop where
 len : l.length = n
 row : ∀ i, i < n → (l.getD i []).length = n
 num : ∀ i j, i < n → j < n → (en l i j).natAbs ≤ 20
theorem rdL1 (l : List (List Int)) (i : Nat) : rd_L1 l (i : Int) = l.getD i [] := by simp [rd_L1]
def rw1 (m : Nat) (f : Nat → Int) : List Int := (List.range m).map f
theorem rw1_len (m : Nat) (f : Nat → Int) : (rw1 m f).length = m := by simp [rw1]
theorem rw1_succ (m : Nat) (f : Nat → Int) : rw1 (m + 1) f = rw1 m f ++ [f m] := by simp [rw1, List.range_succ]
def mk (r m : Nat) (f : Nat → Nat → Int) : List (List Int) := (List.range r).map fun i => rw1 m (f i)
theorem mk_len (r m : Nat) (f : Nat → Nat → Int) : (mk r m f).length = r := by simp [mk]
theorem mk_succ (r m : Nat) (f : Nat → Nat → Int) : mk (r + 1) m f = mk r m f ++ [rw1 m (f r)] := by simp [mk, List.range_succ]
theorem mk_row (r m : Nat) (f : Nat → Nat → Int) (i : Nat) (hi : i < r) : (mk r m f).getD i [] = rw1 m (f i) := by simp [mk, hi]
theorem mk_en (r m : Nat) (f : Nat → Nat → Int) (i j : Nat) (hi : i < r) (hj : j < m) : en (mk r m f) i j = f i j := by
 unfold en; rw [mk_row r m f i hi]; simp [rw1, hj]
theorem mk_rows (r m : Nat) (f : Nat → Nat → Int) : ∀ x ∈ mk r m f, x.length = m := by
 intro x hx
 obtain ⟨i, _, rfl⟩ := List.mem_map.1 hx
 exact rw1_len _ _
section
variable {n : Nat} {l : List (List Int)} (h : Sq n l) (hn : n ≤ 5) (s : Int)
include h hn
theorem spec_cols : Ev (fun k => spec_l01Columns.f k l s) (mk n n (colM (bB s) (en l))) := by
 have hl := h.len
 have rows : ∀ q i, i + q = n → Ev (fun k => spec_l01Columns.l0 k l s (mk i n (colM (bB s) (en l))) i) (mk n n (colM (bB s) (en l))) := by
  intro q
  induction q with
  | zero =>
   intro i hi
   obtain rfl : i = n := by omega
   exact evstep (fun k => by rw [spec_l01Columns.l0]) (evneg (by omega) (evc rfl))
  | succ q ih =>
   intro i hi
   have nx := ih (i + 1) (by omega)
   have hr := h.row i (by omega)
   have cols : ∀ p c, c + p = n → Ev (fun k => spec_l01Columns.l1 k l s (mk i n (colM (bB s) (en l))) i (rw1 c (colM (bB s) (en l) i)) c) (mk n n (colM (bB s) (en l))) := by
    intro p
    induction p with
    | zero =>
     intro c hc
     obtain rfl : c = n := by omega
     refine evstep (fun k => by rw [spec_l01Columns.l1]) (evneg (by omega) (evpos (by rw [mk_len]; omega) ?_))
     rw [w64 (x := (i : Int) + 1) (by omega) (by omega), ← mk_succ]
     exact nx
    | succ p ihp =>
     intro c hc
     have nx2 := ihp (c + 1) (by omega)
     rw [rw1_succ] at nx2
     have hnum := h.num i c (by omega) (by omega)
     refine evstep (fun k => by rw [spec_l01Columns.l1]) (evpos (by omega) ?_)
     rw [u64w (x := (c : Int)) (by omega) (by omega), shr_and_one s (by omega)]
     refine evpos (by omega) ?_
     have ce : colM (bB s) (en l) i c = if bB s c = true then - en l i c else if i = c then 1 else 0 := rfl
     by_cases b : bB s c = true
     ·rw [if_pos b] at ce
      rw [ce] at nx2
      rw [rdL1]
      refine evpos (by rw [if_pos b]) (evpos (by omega) (evpos (by omega) (evpos (by omega) (evpos (by omega) (evpos (by rw [rw1_len]; omega) ?_)))))
      rw [rd_nat, show (l.getD i []).getD c 0 = en l i c from rfl, w64 (x := - en l i c) (by omega) (by omega), w64 (x := (c : Int) + 1) (by omega) (by omega)]
      exact nx2
     ·rw [if_neg b] at ce
      refine evneg (by rw [if_neg b]; decide) ?_
      rw [w64 (x := (c : Int) + 1) (by omega) (by omega)]
      by_cases e : i = c
      ·rw [if_pos e] at ce
       rw [ce] at nx2
       exact evpos (by omega) (evpos (by rw [rw1_len]; omega) nx2)
      ·rw [if_neg e] at ce
       rw [ce] at nx2
       exact evneg (by omega) (evpos (by rw [rw1_len]; omega) nx2)
   refine evstep (fun k => by rw [spec_l01Columns.l0]) (evpos (by omega) ?_)
   exact cols n 0 (by omega)
 exact rows n 0 (by omega)
theorem has_eq (c : Nat) (hc : c < 64) : impl_has.f s (c : Int) = some (bB s c) := by
 have _h := h
 have _h2 := hn
 unfold impl_has.f
 rw [if_pos (by omega), shr_and_one s hc]
 congr 1
 cases hb : bB s c <;> simp
end
end Go.Proofs.Ytjjbhdpjnjncbaa.Cz
end
section
namespace Go.Proofs.Ytjjbhdpjnjncbaa.Pb
open Go.RowKit Go.Proofs.YtjjbhdpjnjncbaaW.PrintWords Go.Proofs.YtjjbhdpjnjncbaaW.PrintMore Go.Proofs.Ytjjbhdpjnjncbaa.Ma Go.Proofs.Ytjjbhdpjnjncbaa.Pr Go.Proofs.Ytjjbhdpjnjncbaa.Dt Go.Proofs.Ytjjbhdpjnjncbaa.Bz Go.Proofs.Ytjjbhdpjnjncbaa.Cz
theorem sin_eq (x a b : Int) : spec_l01In.f x a b = some (decide (a ≤ x ∧ x ≤ b)) := by
 unfold spec_l01In.f
 by_cases h : x ≥ a
 ·rw [if_pos h]; congr 1; rw [Bool.eq_iff_iff]; simp; omega
 ·rw [if_neg h]; congr 1; rw [Bool.eq_iff_iff]; simp; omega
theorem head_step {P : Nat → Prop} {i d : Nat} (h : i < d) : (∀ j, i ≤ j → j < d → P j) ↔ P i ∧ ∀ j, i + 1 ≤ j → j < d → P j :=
 ⟨fun q => ⟨q i (Nat.le_refl _) h, fun j h1 h2 => q j (by omega) h2⟩, fun q j h1 h2 => by
  by_cases e : j = i
  ·subst e; exact q.1
  ·exact q.2 j (by omega) h2⟩
theorem no_iff {b : Bool} {p : Prop} (h : b = true ↔ p) (hp : ¬ p) : b = false := by
 cases b with
 | false => rfl
 | true => exact absurd (h.1 rfl) hp
def N20 (x : Int) : Prop := -20 ≤ x ∧ x ≤ 20
def N100 (x : Int) : Prop := -100 ≤ x ∧ x ≤ 100
def RowM (M : List (List Int)) (i : Nat) : Prop := (M.getD i []).length = M.length ∧ ∀ j, 0 ≤ j → j < M.length → N20 (en M i j)
structure MatOK (M : List (List Int)) : Prop where
 n1 : 1 ≤ M.length
 n5 : M.length ≤ 5
 rows : ∀ i, 0 ≤ i → i < M.length → RowM M i
structure POK (M : List (List Int)) (q : List Int) : Prop where
 mat : MatOK M
 len : q.length = M.length
 num : ∀ i, 0 ≤ i → i < q.length → N100 (q.getD i 0)
theorem MatOK.sq {M : List (List Int)} (h : MatOK M) : Sq M.length M := ⟨rfl, fun i hi => (h.rows i (Nat.zero_le _) hi).1, fun i j hi hj => by have := (h.rows i (Nat.zero_le _) hi).2 j (Nat.zero_le _) hj; unfold N20 at this; omega⟩
section
variable {M : List (List Int)} (hM : M.length ≤ 5)
include hM
theorem spec_mrows : ∀ m i, i + m = M.length → ∀ t : Bool, (t = true ↔ ∀ u, i ≤ u → u < M.length → RowM M u) → Ev (fun k => spec_l01Matrix.l0 k M (M.length : Int) i) t := by
 intro m
 induction m with
 | zero =>
  intro i hi t ht
  obtain rfl : t = true := ht.2 (fun u h1 h2 => by omega)
  exact evstep (fun k => by rw [spec_l01Matrix.l0]) (evneg (by omega) (evc rfl))
 | succ m ih =>
  intro i hi t ht
  have hs := head_step (P := RowM M) (i := i) (d := M.length) (by omega)
  have ht2 := ht.trans hs
  refine evstep (fun k => by rw [spec_l01Matrix.l0]) (evpos (by omega) (evpos (by omega) (evpos (by omega) ?_)))
  rw [rdL1]
  by_cases c : (M.getD i []).length = M.length
  ·refine evpos (by omega) ?_
   have cols : ∀ p j, j + p = M.length → ∀ t : Bool, (t = true ↔ (∀ v, j ≤ v → v < M.length → N20 (en M i v)) ∧ ∀ u, i + 1 ≤ u → u < M.length → RowM M u) → Ev (fun k => spec_l01Matrix.l1 k M (M.length : Int) i j) t := by
    intro p
    induction p with
    | zero =>
     intro j hj t ht
     refine evstep (fun k => by rw [spec_l01Matrix.l1]) (evneg (by omega) ?_)
     rw [w64 (x := (i : Int) + 1) (by omega) (by omega)]
     exact ih (i + 1) (by omega) t (ht.trans ⟨fun h => h.2, fun h => ⟨fun v h1 h2 => by omega, h⟩⟩)
    | succ p ihp =>
     intro j hj t ht
     have hs2 := head_step (P := fun v => N20 (en M i v)) (i := j) (d := M.length) (by omega)
     refine evstep (fun k => by rw [spec_l01Matrix.l1]) ?_
     rw [rdL1]
     refine evpos (by omega) (evpos (by omega) (evpos (by omega) (evpos (by omega) (evpos (by omega) (evsome (sin_eq _ _ _) ?_)))))
     rw [rd_nat, show (M.getD i []).getD j 0 = en M i j from rfl, w64 (x := (j : Int) + 1) (by omega) (by omega)]
     by_cases d : -20 ≤ en M i j ∧ en M i j ≤ 20
     ·exact evpos (decide_eq_true d) (ihp (j + 1) (by omega) t (ht.trans ⟨fun h => ⟨(hs2.1 h.1).2, h.2⟩, fun h => ⟨hs2.2 ⟨d, h.1⟩, h.2⟩⟩))
     ·rw [no_iff ht (fun h => d ((hs2.1 h.1).1))]
      exact evneg (by simpa using d) (evc rfl)
   exact cols M.length 0 (by omega) t (ht2.trans ⟨fun h => ⟨fun v h1 h2 => h.1.2 v h1 h2, h.2⟩, fun h => ⟨⟨c, fun v h1 h2 => h.1 v h1 h2⟩, h.2⟩⟩)
  ·rw [no_iff ht2 (fun h => c h.1.1)]
   exact evneg (by omega) (evc rfl)
end
theorem spec_mat (M : List (List Int)) (t : Bool) (ht : t = true ↔ MatOK M) : Ev (fun k => spec_l01Matrix.f k M) t := by
 unfold spec_l01Matrix.f
 by_cases c1 : (M.length : Int) < 1
 ·rw [no_iff ht (fun h => by have := h.n1; omega)]
  exact evpos c1 (evstep (fun k => by rw [spec_l01Matrix.j0]) (evpos rfl (evc rfl)))
 ·refine evneg c1 (evstep (fun k => by rw [spec_l01Matrix.j0]) ?_)
  by_cases c2 : (M.length : Int) > 5
  ·rw [no_iff ht (fun h => by have := h.n5; omega)]
   exact evpos (decide_eq_true c2) (evc rfl)
  ·refine evneg (by simpa using c2) ?_
   exact spec_mrows (by omega) M.length 0 (by omega) t (ht.trans ⟨fun h => h.rows, fun h => ⟨by omega, by omega, h⟩⟩)
open Classical in
theorem spec_is (M : List (List Int)) (q : List Int) (hq : q.length ≤ 1048576) (t : Bool) (ht : t = true ↔ POK M q) : Ev (fun k => spec_l01Is.f k M q) t := by
 unfold spec_l01Is.f
 refine evbind (spec_mat M (decide (MatOK M)) (by simp)) ?_
 by_cases m : MatOK M
 ·refine evpos (by simpa using m) (evstep (fun k => by rw [spec_l01Is.j0]) ?_)
  by_cases c : q.length = M.length
  ·refine evneg (by simp [c]) ?_
   have loop : ∀ p i, i + p = q.length → ∀ t : Bool, (t = true ↔ ∀ u, i ≤ u → u < q.length → N100 (q.getD u 0)) → Ev (fun k => spec_l01Is.l0 k i M q) t := by
    intro p
    induction p with
    | zero =>
     intro i hi t ht
     obtain rfl : t = true := ht.2 (fun u h1 h2 => by omega)
     exact evstep (fun k => by rw [spec_l01Is.l0]) (evneg (by omega) (evc rfl))
    | succ p ih =>
     intro i hi t ht
     have hs := head_step (P := fun u => N100 (q.getD u 0)) (i := i) (d := q.length) (by omega)
     refine evstep (fun k => by rw [spec_l01Is.l0]) (evpos (by omega) (evpos (by omega) (evsome (sin_eq _ _ _) ?_)))
     rw [rd_nat, w64 (x := (i : Int) + 1) (by omega) (by omega)]
     by_cases d : -100 ≤ q.getD i 0 ∧ q.getD i 0 ≤ 100
     ·exact evpos (decide_eq_true d) (ih (i + 1) (by omega) t (ht.trans (hs.trans ⟨fun h => h.2, fun h => ⟨d, h⟩⟩)))
     ·rw [no_iff (ht.trans hs) (fun h => d h.1)]
      exact evneg (by simpa using d) (evc rfl)
   exact loop q.length 0 (by omega) t (ht.trans ⟨fun h => h.num, fun h => ⟨m, c, h⟩⟩)
  ·rw [no_iff ht (fun h => c h.len)]
   exact evpos (by simp; omega) (evc rfl)
 ·rw [no_iff ht (fun h => m h.mat)]
  exact evneg (by simpa using m) (evstep (fun k => by rw [spec_l01Is.j0]) (evpos rfl (evc rfl)))
theorem any_false {α : Type} (p : α → Bool) (l : List α) : l.any p = false ↔ ∀ i (h : i < l.length), p l[i] = false := by
 rw [List.any_eq_false]
 constructor
 ·intro h i hi
  have := h l[i] (List.getElem_mem hi)
  simpa using this
 ·intro h x hx
  obtain ⟨i, hi, rfl⟩ := List.getElem_of_mem hx
  simp [h i hi]
theorem badU_iff (a n : Int) : badU a n = false ↔ -a ≤ n ∧ n ≤ a := by unfold badU; simp
theorem any_badU (a : Int) (l : List Int) : l.any (badU a) = false ↔ ∀ i, 0 ≤ i → i < l.length → -a ≤ l.getD i 0 ∧ l.getD i 0 ≤ a := by
 rw [any_false]
 constructor
 ·intro h i _ hi
  have := (badU_iff a _).1 (h i hi)
  simpa [hi] using this
 ·intro h i hi
  have := h i (Nat.zero_le _) hi
  exact (badU_iff a _).2 (by simpa [hi] using this)
theorem gD {M : List (List Int)} {i : Nat} (h : i < M.length) : M.getD i [] = M[i] := by simp [h]
open Classical in
theorem impl_mat (M : List (List Int)) : impl_IsMatrix.f M = some (decide (MatOK M)) := by
 unfold impl_IsMatrix.f
 congr 1
 rw [Bool.eq_iff_iff]
 simp only [Bool.and_eq_true, decide_eq_true_eq, Bool.not_eq_true']
 rw [any_false, any_false]
 constructor
 ·rintro ⟨⟨h1, h2⟩, h3⟩
  refine ⟨by omega, by omega, fun i _ hi => ?_⟩
  have r1 := h2 i hi
  have r2 := h3 i hi
  unfold badL at r1
  unfold badM at r2
  have e : M[i].length = M.length := by simp at r1; omega
  refine ⟨by rw [gD hi]; exact e, fun j _ hj => ?_⟩
  have := (any_badU 20 M[i]).1 r2 j (Nat.zero_le _) (by omega)
  rw [← gD hi] at this
  exact this
 ·intro h
  refine ⟨⟨⟨by have := h.n1; omega, by have := h.n5; omega⟩, fun i hi => ?_⟩, fun i hi => ?_⟩
  ·have := (h.rows i (Nat.zero_le _) hi).1
   rw [gD hi] at this
   unfold badL; simp [this]
  ·have := h.rows i (Nat.zero_le _) hi
   unfold badM
   refine (any_badU 20 M[i]).2 (fun j h0 hj => ?_)
   have e := this.1
   rw [gD hi] at e
   have := this.2 j h0 (by omega)
   unfold N20 en at this
   rwa [gD hi] at this
open Classical in
theorem impl_is (M : List (List Int)) (q : List Int) (t : Bool) (ht : t = true ↔ POK M q) : impl_IsProblem.f M q = some t := by
 unfold impl_IsProblem.f
 rw [impl_mat, Option.bind_some]
 by_cases m : MatOK M
 ·rw [if_pos (by simpa using m)]
  by_cases c : q.length = M.length
  ·rw [if_pos (by omega)]
   unfold impl_allUpTo.f
   rw [if_pos (by decide), Option.bind_some]
   congr 1
   rw [Bool.eq_iff_iff, ht, Bool.not_eq_true', any_badU]
   exact ⟨fun h => ⟨m, c, h⟩, fun h => h.num⟩
  ·rw [if_neg (by omega), no_iff ht (fun h => c h.len)]
 ·rw [if_neg (by simpa using m), no_iff ht (fun h => m h.mat)]
end Go.Proofs.Ytjjbhdpjnjncbaa.Pb
end
section
namespace Go.Proofs.Ytjjbhdpjnjncbaa.Sd
open Go.RowKit Go.Proofs.YtjjbhdpjnjncbaaW.PrintWords Go.Proofs.YtjjbhdpjnjncbaaW.PrintMore Go.Proofs.Ytjjbhdpjnjncbaa.Ma Go.Proofs.Ytjjbhdpjnjncbaa.Pr Go.Proofs.Ytjjbhdpjnjncbaa.Dt Go.Proofs.Ytjjbhdpjnjncbaa.Bz
def en (l : List (List Int)) : Mat := fun i j => (l.getD i []).getD j 0
def SB (n : Nat) (A : Mat) : Prop := ∃ k, Bk n k A
theorem SB.mnr {n c : Nat} {A : Mat} (h : SB (n + 1) A) (hc : c < n + 1) : SB n (mnr c A) := by
 obtain ⟨k, h⟩ := h
 by_cases e : c = k
 ·subst e
  refine ⟨n, fun i j hi hj => ?_⟩
  have := h (i + 1) (up c j) (by omega) (up_lt hj)
  rw [if_neg (up_ne c j)] at this
  unfold Dt.mnr
  split <;> omega
 ·refine ⟨dn c k, fun i j hi hj => ?_⟩
  have := h (i + 1) (up c j) (by omega) (up_lt hj)
  unfold Dt.mnr
  by_cases q : up c j = k
  ·rw [if_pos q] at this
   rw [if_pos (by rw [← q, dn_up])]; exact this
  ·rw [if_neg q] at this
   split <;> omega
theorem SB.det {n : Nat} {A : Mat} (h : SB n A) (hn : n ≤ 5) : -1920000000 ≤ det n A ∧ det n A ≤ 1920000000 := by
 obtain ⟨k, h⟩ := h
 have h1 := det_absk n k A h
 have h2 := b20_le n hn
 omega
theorem SB.num {n : Nat} {A : Mat} (h : SB n A) {i j : Nat} (hi : i < n) (hj : j < n) : -100 ≤ A i j ∧ A i j ≤ 100 := by
 obtain ⟨k, h⟩ := h
 have := h i j hi hj
 split at this <;> omega
def mrow (l : List (List Int)) (c r : Nat) : List (List Int) := (List.range r).map fun i => ((l.getD (i + 1) []).take c) ++ ((l.getD (i + 1) []).drop (c + 1))
theorem mrow_len (l : List (List Int)) (c r : Nat) : (mrow l c r).length = r := by simp [mrow]
theorem mrow_succ (l : List (List Int)) (c r : Nat) : mrow l c (r + 1) = mrow l c r ++ [((l.getD (r + 1) []).take c) ++ ((l.getD (r + 1) []).drop (c + 1))] := by simp [mrow, List.range_succ]
theorem mrow_en (l : List (List Int)) (c r n : Nat) (hl : ∀ x ∈ l, x.length = n + 1) (hn : l.length = n + 1) (hc : c < n + 1) (i j : Nat) (hi : i < r) (hr : r ≤ n) (hj : j < n) : en (mrow l c r) i j = Dt.mnr c (en l) i j := by
 have hx : (l.getD (i + 1) []).length = n + 1 := by
  rw [List.getD_eq_getElem?_getD, List.getElem?_eq_getElem (show i + 1 < l.length by omega)]; exact hl _ (List.getElem_mem _)
 unfold en Dt.mnr mrow
 rw [List.getD_eq_getElem?_getD (l := List.map _ _), List.getElem?_map, List.getElem?_range hi]
 simp only [Option.map_some, Option.getD_some]
 show _ = (l.getD (i + 1) []).getD (up c j) 0
 generalize l.getD (i + 1) [] = x at hx ⊢
 rw [List.getD_eq_getElem?_getD, List.getD_eq_getElem?_getD]
 congr 1
 unfold up
 by_cases q : j < c
 ·rw [if_pos q, List.getElem?_append_left (by rw [List.length_take]; omega), List.getElem?_take_of_lt q]
 ·rw [if_neg q, List.getElem?_append_right (by rw [List.length_take]; omega), List.length_take, Nat.min_eq_left (by omega), List.getElem?_drop, show c + 1 + (j - c) = j + 1 from by omega]
theorem own_eq (x : List Int) (h : x.length < 17592186044416) : spec_l01Own.f x = some x := by
 unfold spec_l01Own.f
 simp only [Option.bind_some, List.length_nil, Nat.zero_add, List.nil_append]
 rw [if_pos h]
theorem rdL1 (l : List (List Int)) (i : Nat) : rd_L1 l (i : Int) = l.getD i [] := by simp [rd_L1]
theorem odd_sg (c : Nat) (x : Int) : (if Int.tmod (c : Int) 2 = 1 then -x else x) = sg c * x := by
 have e : Int.tmod (c : Int) 2 = ((c % 2 : Nat) : Int) := by rw [Int.tmod_eq_emod_of_nonneg (by omega)]; omega
 unfold sg
 by_cases q : c % 2 = 1
 ·rw [if_pos (by rw [e, q]; rfl), if_pos q]; omega
 ·rw [if_neg (by rw [e]; omega), if_neg q]; omega
theorem spec_det : ∀ (n : Nat) (l : List (List Int)), n ≤ 5 → l.length = n → (∀ x ∈ l, x.length = n) → SB n (en l) → Ev (fun k => spec_l01Det.f k l) (det n (en l)) := by
 intro n
 induction n with
 | zero =>
  intro l _ hn _ _
  show Ev _ (1 : Int)
  exact evstep (fun k => by rw [spec_l01Det.f]) (evpos (by omega) (evc rfl))
 | succ n ih =>
  intro l h5 hn hl hs
  have hrow (i : Nat) (hi : i < n + 1) : (l.getD i []).length = n + 1 := by
   rw [List.getD_eq_getElem?_getD, List.getElem?_eq_getElem (show i < l.length by omega)]; exact hl _ (List.getElem_mem _)
  let F : Nat → Int := fun k => sg k * (en l 0 k * det n (Dt.mnr k (en l)))
  have hF (k : Nat) (hk : k < n + 1) : -192000000000 ≤ F k ∧ F k ≤ 192000000000 := by
   have h1 := (hs.mnr hk).det (by omega)
   have h2 := hs.num (i := 0) (j := k) (by omega) hk
   have : (F k).natAbs ≤ 100 * 1920000000 := by
    show (sg k * (en l 0 k * det n (Dt.mnr k (en l)))).natAbs ≤ _
    rw [Int.natAbs_mul, Int.natAbs_mul, sg_abs, Nat.one_mul]
    exact Nat.mul_le_mul (by omega) (by omega)
   omega
  have hS : ∀ c, c ≤ n + 1 → -192000000000 * (c : Int) ≤ sm c F ∧ sm c F ≤ 192000000000 * (c : Int) := by
   intro c
   induction c with
   | zero => intro _; simp [sm]
   | succ c ihc =>
    intro hc
    have h1 := ihc (by omega)
    have h2 := hF c (by omega)
    simp only [sm]
    push_cast
    omega
  have key : ∀ q c, c + q = n + 1 → Ev (fun k => spec_l01Det.l0 k l (sm c F) c) (sm (n + 1) F) := by
   intro q
   induction q with
   | zero =>
    intro c hc
    obtain rfl : c = n + 1 := by omega
    exact evstep (fun k => by rw [spec_l01Det.l0]) (evneg (by omega) (evc rfl))
   | succ q ihq =>
    intro c hc
    have nx := ihq (c + 1) (by omega)
    have hr0 := hrow 0 (by omega)
    have e0 : rd (rd_L1 l 0) (c : Int) = en l 0 c := by
     rw [show rd_L1 l 0 = l.getD 0 [] from rdL1 l 0, rd_nat]; rfl
    have hr0' : (rd_L1 l 0).length = n + 1 := by rw [show rd_L1 l 0 = l.getD 0 [] from rdL1 l 0]; exact hr0
    have f1 := hF c (by omega)
    have s1 := hS c (by omega)
    have s2 := hS (c + 1) (by omega)
    refine evstep (fun k => by rw [spec_l01Det.l0]) (evpos (by omega) (evpos (by omega) (evpos (by omega) (evpos (by omega) ?_))))
    rw [e0]
    by_cases z : en l 0 c = 0
    ·refine evpos z ?_
     rw [w64 (x := (c : Int) + 1) (by omega) (by omega)]
     have e : sm (c + 1) F = sm c F := by
      show sm c F + sg c * (en l 0 c * det n (Dt.mnr c (en l))) = _
      rw [z]; simp
     rw [e] at nx
     exact nx
    ·refine evneg z ?_
     have build : ∀ p r, r + p = n → Ev (fun k => spec_l01Det.l1 k l (sm c F) c (mrow l c r) ((r + 1 : Nat) : Int)) (sm (n + 1) F) := by
      intro p
      induction p with
      | zero =>
       intro r hr
       obtain rfl : r = n := by omega
       refine evstep (fun k => by rw [spec_l01Det.l1]) (evneg (by omega) (evpos (by omega) (evpos (by omega) (evpos (by omega) ?_))))
       have hm := ih (mrow l c r) (by omega) (mrow_len l c r) (fun x hx => by
        obtain ⟨i, hi, rfl⟩ := List.mem_map.1 hx
        have := hrow (i + 1) (by have := List.mem_range.1 hi; omega)
        rw [List.length_append, List.length_take, List.length_drop]; omega) (by
        obtain ⟨k', hk'⟩ := hs.mnr (c := c) (by omega)
        exact ⟨k', fun i j hi hj => by rw [mrow_en l c r r hl hn (by omega) i j hi (Nat.le_refl _) hj]; exact hk' i j hi hj⟩)
       rw [det_congr (A := en (mrow l c r)) (B := Dt.mnr c (en l)) (fun i j hi hj => mrow_en l c r r hl hn (by omega) i j hi (Nat.le_refl _) hj)] at hm
       have hd := (hs.mnr (c := c) (by omega)).det (by omega)
       have ha := hs.num (i := 0) (j := c) (by omega) (by omega)
       refine evbind hm ?_
       rw [e0]
       have hp : -192000000000 ≤ en l 0 c * det r (Dt.mnr c (en l)) ∧ en l 0 c * det r (Dt.mnr c (en l)) ≤ 192000000000 := by
        have : (en l 0 c * det r (Dt.mnr c (en l))).natAbs ≤ 100 * 1920000000 := by
         rw [Int.natAbs_mul]; exact Nat.mul_le_mul (by omega) (by omega)
        omega
       have o := odd_sg c (en l 0 c * det r (Dt.mnr c (en l)))
       have fe : F c = sg c * (en l 0 c * det r (Dt.mnr c (en l))) := rfl
       have se : sm (c + 1) F = sm c F + F c := rfl
       rw [w64 (x := en l 0 c * det r (Dt.mnr c (en l))) (by omega) (by omega)]
       by_cases od : Int.tmod (c : Int) 2 = 1
       ·refine evpos od ?_
        rw [if_pos od] at o
        rw [w64 (x := -(en l 0 c * det r (Dt.mnr c (en l)))) (by omega) (by omega), o, ← fe, ← se, w64 (x := sm (c + 1) F) (by omega) (by omega), w64 (x := (c : Int) + 1) (by omega) (by omega)]
        exact nx
       ·refine evneg od ?_
        rw [if_neg od] at o
        rw [o, ← fe, ← se, w64 (x := sm (c + 1) F) (by omega) (by omega), w64 (x := (c : Int) + 1) (by omega) (by omega)]
        exact nx
      | succ p ihp =>
       intro r hr
       have hx := hrow (r + 1) (by omega)
       have nx2 := ihp (r + 1) (by omega)
       rw [mrow_succ] at nx2
       refine evstep (fun k => by rw [spec_l01Det.l1]) ?_
       rw [rdL1]
       refine evpos (by omega) (evpos (by omega) (evpos (by omega) (evpos (by omega) ?_)))
       rw [Int.toNat_natCast, w64 (x := (c : Int) + 1) (by omega) (by omega)]
       refine evsome (a := (l.getD (r + 1) []).take c) (own_eq _ (by rw [List.length_take]; omega)) (evpos (by omega) (evpos (by omega) (evpos ?_ (evpos (by rw [mrow_len]; omega) ?_))))
       ·rw [List.length_take, List.length_drop]; omega
       ·rw [show ((c : Int) + 1).toNat = c + 1 from by omega, w64 (x := ((r + 1 : Nat) : Int) + 1) (by omega) (by omega)]
        exact nx2
     have := build n 0 (by omega)
     exact this
  refine evstep (fun k => by rw [spec_l01Det.f]) (evneg (by omega) ?_)
  exact key (n + 1) 0 (by omega)
end Go.Proofs.Ytjjbhdpjnjncbaa.Sd
end
section
namespace Go.Proofs.Ytjjbhdpjnjncbaa.Mn
open Go.RowKit Go.Proofs.YtjjbhdpjnjncbaaW.PrintWords Go.Proofs.YtjjbhdpjnjncbaaW.PrintMore Go.Proofs.Ytjjbhdpjnjncbaa.Ma Go.Proofs.Ytjjbhdpjnjncbaa.Pr Go.Proofs.Ytjjbhdpjnjncbaa.Dt Go.Proofs.Ytjjbhdpjnjncbaa.Bz Go.Proofs.Ytjjbhdpjnjncbaa.Bd Go.Proofs.Ytjjbhdpjnjncbaa.Un Go.Proofs.Ytjjbhdpjnjncbaa.Cz
section
variable {n : Nat} {l : List (List Int)} (h : Sq n l) (hn : n ≤ 5) (s : Int)
include h hn
theorem colM_small (i j : Nat) (hi : i < n) (hj : j < n) : (colM (bB s) (en l) i j).natAbs ≤ 20 := by
 have _h := hn
 have := h.num i j hi hj
 unfold colM
 split
 ·omega
 ·split <;> decide
theorem cols_det : Ev (fun k => spec_l01Det.f k (mk n n (colM (bB s) (en l)))) (det n (colM (bB s) (en l))) := by
 have he (i j : Nat) (hi : i < n) (hj : j < n) : en (mk n n (colM (bB s) (en l))) i j = colM (bB s) (en l) i j := mk_en n n _ i j hi hj
 have := Sd.spec_det n (mk n n (colM (bB s) (en l))) hn (mk_len _ _ _) (mk_rows _ _ _) ⟨0, fun i j hi hj => by
  show (en (mk n n (colM (bB s) (en l))) i j).natAbs ≤ _
  rw [he i j hi hj]
  have := colM_small h hn s i j hi hj
  split <;> omega⟩
 have e : det n (Sd.en (mk n n (colM (bB s) (en l)))) = det n (colM (bB s) (en l)) := det_congr he
 rw [e] at this
 exact this
end
end Go.Proofs.Ytjjbhdpjnjncbaa.Mn
end
section
namespace Go.Proofs.Ytjjbhdpjnjncbaa.Sv
open Go.RowKit Go.Proofs.YtjjbhdpjnjncbaaW.PrintWords Go.Proofs.YtjjbhdpjnjncbaaW.PrintMore Go.Proofs.Ytjjbhdpjnjncbaa.Ma Go.Proofs.Ytjjbhdpjnjncbaa.Pr Go.Proofs.Ytjjbhdpjnjncbaa.Dt Go.Proofs.Ytjjbhdpjnjncbaa.Bz Go.Proofs.Ytjjbhdpjnjncbaa.Bd Go.Proofs.Ytjjbhdpjnjncbaa.Un Go.Proofs.Ytjjbhdpjnjncbaa.Cz Go.Proofs.Ytjjbhdpjnjncbaa.Mn
open Go.Proofs.Ytjjbhdpjnjncbaa.Hd (dO cM pcol rowsFrom rowsFrom_len sl slL)
def dc (n : Nat) (C : Mat) (x : List Int) (i : Nat) : Int := det n (cset i (fun r => x.getD r 0) C)
def sgn (d : Int) : Int := if d < 0 then -1 else if d > 0 then 1 else 0
section
variable {n : Nat} {l : List (List Int)} (h : Sq n l) (hn : n ≤ 5) (s : Int)
include h hn
theorem col_t (Q : List Int) (hQ : Q.length = n) (i : Nat) (hi : i < n) : Ev (fun k => impl_Problem_column.f k l Q (i : Int) true) (rw1 n (fun r => - en l r i)) := by
 have hl := h.len
 have at_ (r : Nat) (hr : r < n) : ((List.range n).map fun u => if u < r then - en l u i else 0).set r (- en l r i) = (List.range n).map fun u => if u < r + 1 then - en l u i else 0 := by
  apply List.ext_getElem
  ·simp
  ·intro k h1 h2
   have hk : k < n := by simpa using h2
   rw [List.getElem_set]
   simp only [List.getElem_map, List.getElem_range]
   by_cases e : r = k
   ·subst e; rw [if_pos rfl, if_pos (by omega)]
   ·rw [if_neg e]
    by_cases c : k < r
    ·rw [if_pos c, if_pos (by omega)]
    ·rw [if_neg c, if_neg (by omega)]
 have loop : ∀ q r, r + q = n → Ev (fun k => impl_Problem_column.l0 k (i : Int) true ((List.range n).map fun u => if u < r then - en l u i else 0) l (n : Int) r) (rw1 n (fun r => - en l r i)) := by
  intro q
  induction q with
  | zero =>
   intro r hr
   obtain rfl : r = n := by omega
   refine evstep (fun k => by rw [impl_Problem_column.l0]) (evneg (by omega) (evpos rfl (evc ?_)))
   congr 1
   exact List.map_congr_left (fun u hu => by rw [if_pos (List.mem_range.1 hu)])
  | succ q ih =>
   intro r hr
   have nx := ih (r + 1) (by omega)
   have hrow := h.row r (by omega)
   have hnum := h.num r i (by omega) hi
   refine evstep (fun k => by rw [impl_Problem_column.l0]) ?_
   rw [rdL1]
   refine evpos (by omega) (evpos (by omega) (evpos (by omega) (evpos rfl (evpos (by omega) (evpos (by omega) (evpos (by simp; omega) ?_))))))
   rw [rd_nat, show (l.getD r []).getD i 0 = en l r i from rfl, w64 (x := - en l r i) (by omega) (by omega), Int.toNat_natCast, at_ r (by omega), w64 (x := (r : Int) + 1) (by omega) (by omega)]
   exact nx
 unfold impl_Problem_column.f
 rw [hQ, hl]
 refine evpos (by omega) (evpos (by omega) ?_)
 have := loop n 0 (by omega)
 rw [show ((List.range n).map fun u => if u < 0 then - en l u i else 0) = List.replicate ((n : Int)).toNat 0 from by
  apply List.ext_getElem
  ·simp
  ·intro k h1 h2; simp] at this
 exact this
theorem col_f (Q : List Int) (hQ : Q.length = n) (i : Nat) (hi : i < n) : Ev (fun k => impl_Problem_column.f k l Q (i : Int) false) (rw1 n (fun r => if r = i then 1 else 0)) := by
 have hl := h.len
 have loop : ∀ q r, r + q = n → Ev (fun k => impl_Problem_column.l0 k (i : Int) false (List.replicate n 0) l (n : Int) r) (rw1 n (fun r => if r = i then 1 else 0)) := by
  intro q
  induction q with
  | zero =>
   intro r hr
   obtain rfl : r = n := by omega
   refine evstep (fun k => by rw [impl_Problem_column.l0]) (evneg (by omega) (evneg (by simp) (evpos (by omega) (evpos (by simp; omega) (evc ?_)))))
   congr 1
   rw [Int.toNat_natCast]
   apply List.ext_getElem
   ·simp [rw1]
   ·intro k h1 h2
    rw [List.getElem_set]
    simp only [rw1, List.getElem_map, List.getElem_range, List.getElem_replicate]
    by_cases e : i = k
    ·subst e; simp
    ·rw [if_neg e, if_neg (Ne.symm e)]
  | succ q ih =>
   intro r hr
   have nx := ih (r + 1) (by omega)
   refine evstep (fun k => by rw [impl_Problem_column.l0]) (evpos (by omega) (evpos (by omega) (evpos (by omega) (evneg (by simp) ?_))))
   rw [w64 (x := (r : Int) + 1) (by omega) (by omega)]
   exact nx
 unfold impl_Problem_column.f
 rw [hQ, hl]
 refine evpos (by omega) (evpos (by omega) ?_)
 have := loop n 0 (by omega)
 rw [Int.toNat_natCast]
 exact this
theorem colF_eq (Q : List Int) (hQ : Q.length = n) (i : Nat) (hi : i < n) : Ev (fun k => colF k l Q s i) (rw1 n (fun r => colM (bB s) (en l) r i)) := by
 unfold colF
 refine evsome (has_eq h hn s i (by omega)) ?_
 cases hb : bB s i with
 | true =>
  have := col_t h hn Q hQ i hi
  have e : (fun r => colM (bB s) (en l) r i) = fun r => - en l r i := by funext r; unfold colM; rw [if_pos hb]
  rw [e]; exact this
 | false =>
  have := col_f h hn Q hQ i hi
  have e : (fun r => colM (bB s) (en l) r i) = fun r => if r = i then 1 else 0 := by funext r; unfold colM; rw [if_neg (by simp [hb])]
  rw [e]; exact this
theorem cols_all (Q : List Int) (hQ : Q.length = n) : ∃ K, ∀ k, K ≤ k → ∀ i, i < n → colF k l Q s i = some (rw1 n (fun r => colM (bB s) (en l) r i)) := by
 have key : ∀ m, m ≤ n → ∃ K, ∀ k, K ≤ k → ∀ i, i < m → colF k l Q s i = some (rw1 n (fun r => colM (bB s) (en l) r i)) := by
  intro m
  induction m with
  | zero => intro _; exact ⟨0, fun k _ i hi => by omega⟩
  | succ m ih =>
   intro hm
   obtain ⟨K1, h1⟩ := ih (by omega)
   obtain ⟨K2, h2⟩ := colF_eq h hn s Q hQ m (by omega)
   refine ⟨K1 + K2, fun k hk i hi => ?_⟩
   by_cases e : i = m
   ·subst e; exact h2 k (by omega)
   ·exact h1 k (by omega) i (by omega)
 exact key n (Nat.le_refl _)
end
theorem en_rows (M : Mat) (n a d : Nat) (ha : a < n) (hd : d < n) : Hd.en (rowsFrom M n 0) a d = M a d := by
 unfold Hd.en rowsFrom
 simp [ha, hd]
theorem dO_det {n k : Nat} (hn : n ≤ 5) (M : Mat) (hb : Bk n k M) : dO n M = det n M := by
 unfold dO
 rw [dgo_det hn (k := k) (Hd.en (rowsFrom M n 0)) (fun i j hi hj => by rw [en_rows M n i j hi hj]; exact hb i j hi hj)]
 exact det_congr (fun i j hi hj => en_rows M n i j hi hj)
theorem sgn_mul (d x : Int) (hx : -1920000000 ≤ x ∧ x ≤ 1920000000) : wrap64 (sgn d * x) = sgn d * x := by
 unfold sgn
 split
 ·exact w64 (by omega) (by omega)
 ·split
  ·exact w64 (by omega) (by omega)
  ·exact w64 (by omega) (by omega)
section
variable {n : Nat} {l : List (List Int)} (h : Sq n l) (hn : n ≤ 5) (s : Int)
include h hn
theorem D_b : -1920000000 ≤ det n (colM (bB s) (en l)) ∧ det n (colM (bB s) (en l)) ≤ 1920000000 := by
 have h1 := det_abs20 n (colM (bB s) (en l)) (fun i j hi hj => colM_small h hn s i j hi hj)
 have h2 := b20_le n hn
 omega
end
section
variable {n : Nat} {l : List (List Int)} (h : Sq n l) (hn : n ≤ 5) (s : Int) (x : List Int) (hx : ∀ r, r < n → (x.getD r 0).natAbs ≤ 100)
include h hn hx
theorem cset_small (i : Nat) : Bk n i (cset i (fun r => x.getD r 0) (colM (bB s) (en l))) := by
 intro a d ha hd
 unfold cset
 by_cases e : d = i
 ·rw [if_pos e, if_pos e]; exact hx a ha
 ·rw [if_neg e, if_neg e]; exact colM_small h hn s a d ha hd
theorem dc_b (i : Nat) : -1920000000 ≤ dc n (colM (bB s) (en l)) x i ∧ dc n (colM (bB s) (en l)) x i ≤ 1920000000 := by
 have h1 := det_absk n i _ (cset_small h hn s x hx i)
 have h2 := b20_le n hn
 unfold dc
 omega
def solR (n : Nat) (C : Mat) (x : List Int) : List Int × Int × Bool := if det n C = 0 then ([], 0, false) else ((List.range n).map fun i => sgn (det n C) * dc n C x i, (if det n C < 0 then - det n C else det n C), true)
theorem impl_solve (Q : List Int) (hQ : Q.length = n) (hxl : x.length = n) (hp : 0 < n) : Ev (fun k => impl_Problem_solve.f k l Q s x) (solR n (colM (bB s) (en l)) x) := by
 obtain ⟨K, hK⟩ := cols_all h hn s Q hQ
 refine ⟨K, fun k hk => ?_⟩
 have hc := hK k hk
 have hL (i : Nat) (hi : i < n) : colL k l Q s i = rw1 n (fun r => colM (bB s) (en l) r i) := by unfold colL; rw [hc i hi]; rfl
 have hcM (a d : Nat) (ha : a < n) (hd : d < n) : cM (colL k l Q s) n a d = colM (bB s) (en l) a d := by
  unfold cM
  rw [if_pos hd, hL d hd]
  simp [rw1, ha]
 have hD : dO n (cM (colL k l Q s) n) = det n (colM (bB s) (en l)) := by
  rw [dO_det hn (k := 0) _ (fun i j hi hj => by rw [hcM i j hi hj]; have := colM_small h hn s i j hi hj; split <;> omega)]
  exact det_congr hcM
 have db := D_b h hn s
 show impl_Problem_solve.f k l Q s x = _
 unfold impl_Problem_solve.f
 rw [hQ]
 rw [if_pos ⟨hp, by omega, hxl, by
  unfold colOK
  rw [List.all_eq_true]
  intro i hi
  rw [hc i (List.mem_range.1 hi)]
  simp [rw1]⟩]
 rw [hD]
 have e1 : impl_sign.f (det n (colM (bB s) (en l))) = some (sgn (det n (colM (bB s) (en l)))) := by
  unfold impl_sign.f sgn
  split
  ·rfl
  ·split <;> rfl
 have e2 : impl_size.f (det n (colM (bB s) (en l))) = some (if det n (colM (bB s) (en l)) < 0 then - det n (colM (bB s) (en l)) else det n (colM (bB s) (en l))) := by
  unfold impl_size.f mx
  rw [w64 (x := - det n (colM (bB s) (en l))) (by omega) (by omega)]
  congr 1
  split <;> split <;> omega
 rw [e1, e2, Option.bind_some, Option.bind_some]
 congr 1
 unfold solR
 by_cases d : det n (colM (bB s) (en l)) = 0
 ·rw [if_pos d, if_pos d]
 ·rw [if_neg d, if_neg d]
  congr 1
  unfold slL
  refine List.map_congr_left (fun i hi => ?_)
  have hi := List.mem_range.1 hi
  rw [if_pos hi]
  unfold sl
  have hY (a d : Nat) (ha : a < n) (hd : d < n) : pcol (Hd.en (rowsFrom (cM (colL k l Q s) n) n 0)) i x n a d = cset i (fun r => x.getD r 0) (colM (bB s) (en l)) a d := by
   unfold pcol cset
   by_cases e : d = i
   ·rw [if_pos ⟨e, ha⟩, if_pos e]
   ·rw [if_neg (fun q => e q.1), if_neg e, en_rows _ n a d ha hd, hcM a d ha hd]
  rw [dO_det hn (k := i) _ (fun a d ha hd => by rw [hY a d ha hd]; exact cset_small h hn s x hx i a d ha hd), det_congr hY]
  exact sgn_mul _ _ (dc_b h hn s x hx i)
theorem spec_solve (hxl : x.length = n) : Ev (fun k => spec_l01Solve.f k (mk n n (colM (bB s) (en l))) x) ((List.range n).map (dc n (colM (bB s) (en l)) x), det n (colM (bB s) (en l))) := by
 have hml := mk_len n n (colM (bB s) (en l))
 have rows : ∀ q c, c + q = n → Ev (fun k => spec_l01Solve.l0 k (mk n n (colM (bB s) (en l))) x ((List.range c).map (dc n (colM (bB s) (en l)) x)) c) ((List.range n).map (dc n (colM (bB s) (en l)) x), det n (colM (bB s) (en l))) := by
  intro q
  induction q with
  | zero =>
   intro c hc
   obtain rfl : c = n := by omega
   exact evstep (fun k => by rw [spec_l01Solve.l0]) (evneg (by omega) (evbind (cols_det h hn s) (evc rfl)))
  | succ q ih =>
   intro c hc
   have nx := ih (c + 1) (by omega)
   rw [List.range_succ, List.map_append] at nx
   have build : ∀ p r, r + p = n → Ev (fun k => spec_l01Solve.l1 k (mk n n (colM (bB s) (en l))) x ((List.range c).map (dc n (colM (bB s) (en l)) x)) c (mk r n (cset c (fun r => x.getD r 0) (colM (bB s) (en l)))) r) ((List.range n).map (dc n (colM (bB s) (en l)) x), det n (colM (bB s) (en l))) := by
    intro p
    induction p with
    | zero =>
     intro r hr
     obtain rfl : r = n := by omega
     have he (i j : Nat) (hi : i < r) (hj : j < r) : en (mk r r (cset c (fun r => x.getD r 0) (colM (bB s) (en l)))) i j = cset c (fun r => x.getD r 0) (colM (bB s) (en l)) i j := mk_en r r _ i j hi hj
     have hd := Sd.spec_det r (mk r r (cset c (fun r => x.getD r 0) (colM (bB s) (en l)))) hn (mk_len _ _ _) (mk_rows _ _ _) ⟨c, fun i j hi hj => by
      show (en (mk r r (cset c (fun r => x.getD r 0) (colM (bB s) (en l)))) i j).natAbs ≤ _
      rw [he i j hi hj]; exact cset_small h hn s x hx c i j hi hj⟩
     have e : det r (Sd.en (mk r r (cset c (fun r => x.getD r 0) (colM (bB s) (en l))))) = dc r (colM (bB s) (en l)) x c := det_congr he
     rw [e] at hd
     refine evstep (fun k => by rw [spec_l01Solve.l1]) (evneg (by omega) (evbind hd ?_))
     refine evpos (by rw [List.length_map, List.length_range]; omega) ?_
     rw [w64 (x := (c : Int) + 1) (by omega) (by omega)]
     exact nx
    | succ p ihp =>
     intro r hr
     have nx2 := ihp (r + 1) (by omega)
     rw [mk_succ] at nx2
     refine evstep (fun k => by rw [spec_l01Solve.l1]) ?_
     rw [rdL1, mk_row n n _ r (by omega)]
     refine evpos (by omega) (evpos (by omega) (evsome (Sd.own_eq _ (by rw [rw1_len]; omega)) (evpos (by omega) (evpos (by omega) (evpos (by rw [rw1_len]; omega) (evpos (by rw [mk_len]; omega) ?_))))))
     rw [rd_nat, Int.toNat_natCast, w64 (x := (r : Int) + 1) (by omega) (by omega), show (rw1 n (colM (bB s) (en l) r)).set c (x.getD r 0) = rw1 n (cset c (fun r => x.getD r 0) (colM (bB s) (en l)) r) from by
      apply List.ext_getElem
      ·simp [rw1]
      ·intro k h1 h2
       rw [List.getElem_set]
       simp only [rw1, List.getElem_map, List.getElem_range, cset]
       by_cases e : c = k
       ·subst e; simp
       ·rw [if_neg e, if_neg (Ne.symm e)]]
     exact nx2
   refine evstep (fun k => by rw [spec_l01Solve.l0]) (evpos (by omega) ?_)
   exact build n 0 (by omega)
 exact rows n 0 (by omega)
end
end Go.Proofs.Ytjjbhdpjnjncbaa.Sv
end
section
namespace Go.Proofs.Ytjjbhdpjnjncbaa.Pp
open Go.RowKit Go.Proofs.YtjjbhdpjnjncbaaW.PrintWords Go.Proofs.YtjjbhdpjnjncbaaW.PrintMore Go.Proofs.Ytjjbhdpjnjncbaa.Ma Go.Proofs.Ytjjbhdpjnjncbaa.Pr Go.Proofs.Ytjjbhdpjnjncbaa.Dt Go.Proofs.Ytjjbhdpjnjncbaa.Bz Go.Proofs.Ytjjbhdpjnjncbaa.Un Go.Proofs.Ytjjbhdpjnjncbaa.Cz Go.Proofs.Ytjjbhdpjnjncbaa.Pb Go.Proofs.Ytjjbhdpjnjncbaa.Mn Go.Proofs.Ytjjbhdpjnjncbaa.Sv Go.Proofs.Ytjjbhdpjnjncbaa.Pv
def cW (s : Int) (M : Mat) (j : Nat) (i : Nat) : Int := if bB s j then (if i = j then 1 else 0) else - M i j
def Cm (s : Int) (l : List (List Int)) : Mat := colM (bB s) (en l)
def pvl (n : Nat) (l : List (List Int)) (s : Int) (j : Nat) : List Int := (List.range n).map fun i => sgn (det n (Cm s l)) * dc n (Cm s l) (rw1 n (cW s (en l) j)) i
def ab (d : Int) : Int := if d < 0 then - d else d
def pvS (n : Nat) (l : List (List Int)) (s : Int) (x : List Int) : List Int := (List.range n).map fun i => sgn (det n (Cm s l)) * dc n (Cm s l) x i
def Zr (n : Nat) : List (List Int) := List.replicate n (List.replicate n 0)
def pvR (n : Nat) (l : List (List Int)) (s : Int) : List (List Int) := pR (Zr n) (pvl n l s) n n 0
def pvA (n : Nat) (l : List (List Int)) (s : Int) (x : List Int) : Int × List (List Int) × List Int × Bool := if det n (Cm s l) = 0 then (0, [], [], false) else (ab (det n (Cm s l)), pvR n l s, pvS n l s x, true)
theorem pR_full (l l' : List (List Int)) (cs : Nat → List Int) (n : Nat) : pR l cs n n 0 = pR l' cs n n 0 := by
 unfold pR
 refine List.map_congr_left (fun r _ => List.map_congr_left (fun c hc => ?_))
 unfold pE
 rw [if_pos (.inl (List.mem_range.1 hc)), if_pos (.inl (List.mem_range.1 hc))]
theorem pR_getD (l : List (List Int)) (cs : Nat → List Int) (n k i r : Nat) (h : r < n) : (pR l cs n k i).getD r [] = (List.range n).map (pE l cs k i r) := by
 simp [pR, h]
theorem Zr_zero (n : Nat) (cs : Nat → List Int) : pR (Zr n) cs n 0 0 = Zr n := pR_zero _ cs n (by simp [Zr]) (fun x hx => by rw [(List.mem_replicate.1 hx).2]; simp)
section
variable {n : Nat} {l : List (List Int)} (h : Sq n l) (hn : n ≤ 5) (s : Int)
include h hn
theorem cW_b (j : Nat) (hj : j < n) (i : Nat) (hi : i < n) : (cW s (en l) j i).natAbs ≤ 20 := by
 have _h := hn
 have := h.num i j hi hj
 unfold cW
 split
 ·split <;> decide
 ·omega
theorem cW_x (j : Nat) (hj : j < n) (r : Nat) (hr : r < n) : ((rw1 n (cW s (en l) j)).getD r 0).natAbs ≤ 100 := by
 have := cW_b h hn s j hj r hr
 rw [show (rw1 n (cW s (en l) j)).getD r 0 = cW s (en l) j r from by simp [rw1, hr]]
 omega
theorem cW_y (j : Nat) (hj : j < n) (r : Nat) (hr : r < n) : ((rw1 n (fun i => - cW s (en l) j i)).getD r 0).natAbs ≤ 100 := by
 have := cW_b h hn s j hj r hr
 rw [show (rw1 n (fun i => - cW s (en l) j i)).getD r 0 = - cW s (en l) j r from by simp [rw1, hr]]
 omega
theorem col_eq (Q : List Int) (hQ : Q.length = n) (j : Nat) (hj : j < n) : Ev (fun k => impl_Problem_column.f k l Q (j : Int) (!bB s j)) (rw1 n (cW s (en l) j)) := by
 cases hb : bB s j with
 | true =>
  have := col_f h hn Q hQ j hj
  have e : cW s (en l) j = fun r => if r = j then 1 else 0 := by funext r; unfold cW; rw [if_pos hb]
  rw [e]; exact this
 | false =>
  have := col_t h hn Q hQ j hj
  have e : cW s (en l) j = fun r => - en l r j := by funext r; unfold cW; rw [if_neg (by simp [hb])]
  rw [e]; exact this
theorem pvC_eq (Q : List Int) (hQ : Q.length = n) (hp : 0 < n) (d : det n (Cm s l) ≠ 0) (j : Nat) (hj : j < n) : Ev (fun k => pvC k l Q s j) (pvl n l s j) := by
 have si := impl_solve h hn s (rw1 n (cW s (en l) j)) (cW_x h hn s j hj) Q hQ (rw1_len _ _) hp
 unfold solR at si
 rw [if_neg (show ¬ det n (colM (bB s) (en l)) = 0 from d)] at si
 unfold pvC
 exact evsome (has_eq h hn s j (by omega)) (evbind (col_eq h hn s Q hQ j hj) (evbind si (evc rfl)))
theorem pv_all (Q : List Int) (hQ : Q.length = n) (hp : 0 < n) (d : det n (Cm s l) ≠ 0) : ∃ K, ∀ k, K ≤ k → ∀ i, i < n → pvC k l Q s i = some (pvl n l s i) := by
 have key : ∀ m, m ≤ n → ∃ K, ∀ k, K ≤ k → ∀ i, i < m → pvC k l Q s i = some (pvl n l s i) := by
  intro m
  induction m with
  | zero => intro _; exact ⟨0, fun k _ i hi => by omega⟩
  | succ m ih =>
   intro hm
   obtain ⟨K1, h1⟩ := ih (by omega)
   obtain ⟨K2, h2⟩ := pvC_eq h hn s Q hQ hp d m (by omega)
   refine ⟨K1 + K2, fun k hk i hi => ?_⟩
   by_cases e : i = m
   ·subst e; exact h2 k (by omega)
   ·exact h1 k (by omega) i (by omega)
 exact key n (Nat.le_refl _)
theorem impl_pivot (Q : List Int) (hQ : Q.length = n) (hx : ∀ r, r < n → (Q.getD r 0).natAbs ≤ 100) (hp : 0 < n) (hrows : ∀ x ∈ l, x.length = n) : Ev (fun k => impl_Problem_pivot.f k l Q s) (pvA n l s Q) := by
 have si := impl_solve h hn s Q hx Q hQ hQ hp
 unfold solR at si
 unfold impl_Problem_pivot.f impl_Problem_point.f pvA
 by_cases d : det n (Cm s l) = 0
 ·rw [if_pos d]
  unfold Cm at d
  rw [if_pos d] at si
  exact evbind (evbind si (evc rfl)) (evneg (by simp) (evc rfl))
 ·rw [if_neg d]
  obtain ⟨K1, k1⟩ := pv_all h hn s Q hQ hp d
  obtain ⟨K2, k2⟩ := Cp.copy_eq l (by have := h.len; omega) (fun x hx => by have := hrows x hx; omega)
  have d' := d
  unfold Cm at d'
  rw [if_neg d'] at si
  refine evbind (evbind si (evc rfl)) (evpos rfl ?_)
  refine ⟨K1 + K2, fun k hk => ?_⟩
  dsimp only
  have hc := k1 k (by omega)
  have hL (i : Nat) (hi : i < n) : pvL k l Q s i = pvl n l s i := by unfold pvL; rw [hc i hi]; rfl
  rw [hQ]
  rw [if_pos ⟨hp, by omega, h.len, by
   rw [List.all_eq_true]
   intro x hx
   simpa using hrows x hx, by simp, k2 k (by omega), by
   unfold pvOK
   rw [List.all_eq_true]
   intro i hi
   rw [hc i (List.mem_range.1 hi)]
   simp [pvl]⟩]
  rw [pR_congr _ _ _ _ hL, pR_full l (Zr n)]
  rfl
theorem dc_neg (j : Nat) (i : Nat) (hi : i < n) : dc n (Cm s l) (rw1 n (fun i => - cW s (en l) j i)) i = - dc n (Cm s l) (rw1 n (cW s (en l) j)) i := by
 have _h := h
 have _hn := hn
 have e := det_cadd hi (fun r => (rw1 n (cW s (en l) j)).getD r 0) (fun _ => 0) (Cm s l) (-1) 0
 unfold dc
 rw [show det n (cset i (fun r => (rw1 n (fun i => - cW s (en l) j i)).getD r 0) (Cm s l)) = det n (cset i (fun r => -1 * (rw1 n (cW s (en l) j)).getD r 0 + 0 * 0) (Cm s l)) from det_congr (fun a b ha hb => by
  unfold cset
  split
  ·simp [rw1, ha]
  ·rfl)]
 rw [e]
 omega
end
theorem sgn_ne {d : Int} (h : d ≠ 0) : sgn d = if d < 0 then -1 else 1 := by
 unfold sgn
 by_cases c : d < 0
 ·rw [if_pos c, if_pos c]
 ·rw [if_neg c, if_neg c, if_pos (by omega)]
section
variable {n : Nat} {l : List (List Int)} (h : Sq n l) (hn : n ≤ 5) (s : Int) (Q : List Int) (hQ : Q.length = n)
include h hn hQ
theorem loop3 (sg : Int) (hsg : sg = sgn (det n (Cm s l))) (X : List (List Int)) (den : Int) (side : List Int) (j : Nat) (hj : j < n) (R : Int × List (List Int) × List Int × Bool) (nx1 : Ev (fun k => spec_l04Pivot.l1 k s (n : Int) X sg ((j + 1 : Nat) : Int) l Q den (pR (Zr n) (pvl n l s) n (j + 1) 0) side) R) :
  ∀ q i, i + q = n → Ev (fun k => spec_l04Pivot.l3 k s (n : Int) X sg (j : Int) ((List.range n).map (dc n (Cm s l) (rw1 n (fun i => - cW s (en l) j i)))) (i : Int) l Q den (pR (Zr n) (pvl n l s) n j i) side) R := by
 intro q
 induction q with
 | zero =>
  intro i hi
  obtain rfl : i = n := by omega
  refine evstep (fun k => by rw [spec_l04Pivot.l3]) (evneg (by omega) ?_)
  rw [w64 (x := (j : Int) + 1) (by omega) (by omega), pR_col]
  exact nx1
 | succ q ih =>
  intro i hi
  have nx := ih (i + 1) (by omega)
  refine evstep (fun k => by rw [spec_l04Pivot.l3]) ?_
  rw [rdL1, pR_getD _ _ _ _ _ _ (by omega)]
  refine evpos (by omega) (evpos (by omega) (evpos (by rw [pR_len]; omega) (evpos (by simp; omega) (evpos (by omega) (evpos (by simp; omega) ?_)))))
  rw [rd_nat, show ((List.range n).map (dc n (Cm s l) (rw1 n (fun i => - cW s (en l) j i)))).getD i 0 = dc n (Cm s l) (rw1 n (fun i => - cW s (en l) j i)) i from by simp [show i < n by omega]]
  rw [dc_neg h hn s j i (by omega), hsg, show sgn (det n (Cm s l)) * - dc n (Cm s l) (rw1 n (cW s (en l) j)) i = -(pvl n l s j).getD i 0 from by
   rw [show (pvl n l s j).getD i 0 = sgn (det n (Cm s l)) * dc n (Cm s l) (rw1 n (cW s (en l) j)) i from by simp [pvl, show i < n by omega], Int.mul_neg]]
  rw [Int.toNat_natCast, Int.toNat_natCast, pR_set _ _ _ _ _ (by omega) hj, w64 (x := (i : Int) + 1) (by omega) (by omega), ← hsg]
  exact nx
theorem loop2 (sg : Int) (hsg : sg = sgn (det n (Cm s l))) (den : Int) (side : List Int) (j : Nat) (hj : j < n) (R : Int × List (List Int) × List Int × Bool) (nx1 : Ev (fun k => spec_l04Pivot.l1 k s (n : Int) (mk n n (Cm s l)) sg ((j + 1 : Nat) : Int) l Q den (pR (Zr n) (pvl n l s) n (j + 1) 0) side) R) :
  ∀ q i, i + q = n → Ev (fun k => spec_l04Pivot.l2 k s (n : Int) (mk n n (Cm s l)) sg (j : Int) ((List.range n).map fun u => if u < i then (if bB s j then 0 else en l u j) else 0) (i : Int) l Q den (pR (Zr n) (pvl n l s) n j 0) side) R := by
 have hl := h.len
 have ss := spec_solve h hn s (rw1 n (fun i => - cW s (en l) j i)) (cW_y h hn s j hj) (rw1_len _ _)
 have l3 := loop3 h hn s Q hQ sg hsg (mk n n (Cm s l)) den side j hj R nx1 n 0 (by omega)
 have j4 : Ev (fun k => spec_l04Pivot.j4 k s (n : Int) (mk n n (Cm s l)) sg (j : Int) (rw1 n (fun i => - cW s (en l) j i)) l Q den (pR (Zr n) (pvl n l s) n j 0) side) R := by
  refine evstep (fun k => by rw [spec_l04Pivot.j4]) ?_
  exact evbind ss l3
 have hu : IntKind.u64.wrap (j : Int) = (j : Int) := u64w (by omega) (by omega)
 intro q
 induction q with
 | zero =>
  intro i hi
  obtain rfl : i = n := by omega
  refine evstep (fun k => by rw [spec_l04Pivot.l2]) (evneg (by omega) ?_)
  rw [hu, shr_and_one s (by omega)]
  refine evpos (by omega) ?_
  cases hb : bB s j with
  | true =>
   refine evpos rfl (evpos (by omega) (evpos (by simp; omega) ?_))
   rw [Int.toNat_natCast]
   rw [show ((List.range i).map fun u => if u < i then (if true = true then (0 : Int) else en l u j) else 0).set j (-1) = rw1 i (fun i => - cW s (en l) j i) from by
    apply List.ext_getElem
    ·simp [rw1]
    ·intro k h1 h2
     rw [List.getElem_set]
     simp only [rw1, List.getElem_map, List.getElem_range, cW, hb]
     by_cases e : j = k
     ·subst e; simp
     ·simp [e, Ne.symm e]]
   exact j4
  | false =>
   refine evneg (by simp) ?_
   rw [show ((List.range i).map fun u => if u < i then (if false = true then (0 : Int) else en l u j) else 0) = rw1 i (fun i => - cW s (en l) j i) from by
    unfold rw1
    refine List.map_congr_left (fun u hu => ?_)
    rw [if_pos (List.mem_range.1 hu)]
    simp [cW, hb]]
   exact j4
 | succ q ih =>
  intro i hi
  have nx := ih (i + 1) (by omega)
  have hrow := h.row i (by omega)
  refine evstep (fun k => by rw [spec_l04Pivot.l2]) (evpos (by omega) ?_)
  rw [hu, shr_and_one s (by omega), w64 (x := (i : Int) + 1) (by omega) (by omega), rdL1]
  refine evpos (by omega) ?_
  have at_ : ((List.range n).map fun u => if u < i then (if bB s j then 0 else en l u j) else 0).set i (if bB s j then 0 else en l i j) = (List.range n).map fun u => if u < i + 1 then (if bB s j then 0 else en l u j) else 0 := by
   apply List.ext_getElem
   ·simp
   ·intro k h1 h2
    have hk : k < n := by simpa using h2
    rw [List.getElem_set]
    simp only [List.getElem_map, List.getElem_range]
    by_cases e : i = k
    ·subst e; rw [if_pos rfl, if_pos (show i < i + 1 by omega)]
    ·rw [if_neg e]
     by_cases c : k < i
     ·rw [if_pos c, if_pos (show k < i + 1 by omega)]
     ·rw [if_neg c, if_neg (show ¬ k < i + 1 by omega)]
  cases hb : bB s j with
  | true =>
   refine evneg (by simp) ?_
   rw [hb] at nx at_
   have : ((List.range n).map fun u => if u < i then (if true = true then (0 : Int) else en l u j) else 0) = (List.range n).map fun u => if u < i + 1 then (if true = true then (0 : Int) else en l u j) else 0 := by
    refine List.map_congr_left (fun u _ => ?_)
    simp
   rw [this]
   exact nx
  | false =>
   rw [hb] at nx at_
   refine evpos (by simp) (evpos (by omega) (evpos (by omega) (evpos (by omega) (evpos (by omega) (evpos (by simp; omega) ?_)))))
   rw [rd_nat, show (l.getD i []).getD j 0 = en l i j from rfl, Int.toNat_natCast]
   have e : (if false = true then (0 : Int) else en l i j) = en l i j := by simp
   rw [e] at at_
   rw [at_]
   exact nx
theorem loop1 (sg : Int) (hsg : sg = sgn (det n (Cm s l))) (den : Int) (side : List Int) : ∀ q j, j + q = n → Ev (fun k => spec_l04Pivot.l1 k s (n : Int) (mk n n (Cm s l)) sg (j : Int) l Q den (pR (Zr n) (pvl n l s) n j 0) side) (den, pvR n l s, side, true) := by
 intro q
 induction q with
 | zero =>
  intro j hj
  obtain rfl : j = n := by omega
  refine evstep (fun k => by rw [spec_l04Pivot.l1]) ?_
  exact evneg (by omega) (evc rfl)
 | succ q ih =>
  intro j hj
  have nx := ih (j + 1) (by omega)
  have l2 := loop2 h hn s Q hQ sg hsg den side j (by omega) _ nx n 0 (by omega)
  refine evstep (fun k => by rw [spec_l04Pivot.l1]) (evpos (by omega) (evpos (by omega) (evpos (by omega) ?_)))
  rw [show List.replicate ((n : Int)).toNat (0 : Int) = (List.range n).map fun u => if u < 0 then (if bB s j then 0 else en l u j) else 0 from by
   apply List.ext_getElem
   ·simp
   ·intro k h1 h2; simp]
  exact l2
theorem loop0 (hx : ∀ r, r < n → (Q.getD r 0).natAbs ≤ 100) (sg : Int) (hsg : sg = sgn (det n (Cm s l))) (den : Int) : ∀ q i, i + q = n → Ev (fun k => spec_l04Pivot.l0 k s (n : Int) (mk n n (Cm s l)) ((List.range n).map (dc n (Cm s l) Q)) sg (i : Int) l Q den (List.replicate i (List.replicate n 0)) ((List.range i).map fun i => sgn (det n (Cm s l)) * dc n (Cm s l) Q i)) (den, pvR n l s, pvS n l s Q, true) := by
 intro q
 induction q with
 | zero =>
  intro i hi
  obtain rfl : i = n := by omega
  have l1 := loop1 h hn s Q hQ sg hsg den (pvS i l s Q) i 0 (by omega)
  rw [Zr_zero] at l1
  refine evstep (fun k => by rw [spec_l04Pivot.l0]) ?_
  exact evneg (by omega) l1
 | succ q ih =>
  intro i hi
  have nx := ih (i + 1) (by omega)
  rw [List.range_succ, List.map_append, List.replicate_succ'] at nx
  refine evstep (fun k => by rw [spec_l04Pivot.l0]) (evpos (by omega) (evpos (by omega) (evpos (by omega) (evpos (by simp; omega) (evpos (by omega) (evpos (by simp; omega) (evpos (by simp; omega) ?_)))))))
  rw [rd_nat, show ((List.range n).map (dc n (Cm s l) Q)).getD i 0 = dc n (Cm s l) Q i from by simp [show i < n by omega], hsg, show wrap64 (sgn (det n (Cm s l)) * dc n (Cm s l) Q i) = sgn (det n (Cm s l)) * dc n (Cm s l) Q i from sgn_mul _ _ (dc_b h hn s Q hx i), w64 (x := (i : Int) + 1) (by omega) (by omega), Int.toNat_natCast, ← hsg]
  rw [hsg] at nx ⊢
  exact nx
theorem spec_pivot (hx : ∀ r, r < n → (Q.getD r 0).natAbs ≤ 100) : Ev (fun k => spec_l04Pivot.f k l Q s) (pvA n l s Q) := by
 unfold spec_l04Pivot.f pvA
 have db : -1920000000 ≤ det n (Cm s l) ∧ det n (Cm s l) ≤ 1920000000 := D_b h hn s
 refine evbind (spec_cols h hn s) (evbind (spec_solve h hn s Q hx hQ) ?_)
 by_cases d : det n (Cm s l) = 0
 ·rw [if_pos d]
  exact evpos d (evc rfl)
 ·rw [if_neg d, hQ]
  refine evneg d ?_
  have e0 := sgn_ne d
  by_cases c : det n (Cm s l) < 0
  ·rw [if_pos c] at e0
   refine evpos c (evstep (fun k => by rw [spec_l04Pivot.j0]) ?_)
   have := loop0 h hn s Q hQ hx (-1) e0.symm (ab (det n (Cm s l))) n 0 (by omega)
   show Ev (fun k => spec_l04Pivot.l0 k s (n : Int) (mk n n (Cm s l)) ((List.range n).map (dc n (Cm s l) Q)) (-1) 0 l Q (wrap64 (-1 * det n (Cm s l))) [] []) _
   rw [show wrap64 (-1 * det n (Cm s l)) = ab (det n (Cm s l)) from by unfold ab; rw [if_pos c, w64 (by omega) (by omega)]; omega]
   exact this
  ·rw [if_neg c] at e0
   refine evneg c (evstep (fun k => by rw [spec_l04Pivot.j0]) ?_)
   have := loop0 h hn s Q hQ hx 1 e0.symm (ab (det n (Cm s l))) n 0 (by omega)
   show Ev (fun k => spec_l04Pivot.l0 k s (n : Int) (mk n n (Cm s l)) ((List.range n).map (dc n (Cm s l) Q)) 1 0 l Q (wrap64 (1 * det n (Cm s l))) [] []) _
   rw [show wrap64 (1 * det n (Cm s l)) = ab (det n (Cm s l)) from by unfold ab; rw [if_neg c, w64 (by omega) (by omega)]; omega]
   exact this
end
end Go.Proofs.Ytjjbhdpjnjncbaa.Pp
end
section
namespace Go.Proofs.Ytjjbhdpjnjncbaa.La
open Go.RowKit Go.Proofs.YtjjbhdpjnjncbaaW.PrintWords Go.Proofs.YtjjbhdpjnjncbaaW.PrintMore Go.Proofs.Ytjjbhdpjnjncbaa.Ma Go.Proofs.Ytjjbhdpjnjncbaa.Pr Go.Proofs.Ytjjbhdpjnjncbaa.Hm
end Go.Proofs.Ytjjbhdpjnjncbaa.La
end
section
namespace Go.Proofs.Ytjjbhdpjnjncbaa.La
open Go.RowKit Go.Proofs.YtjjbhdpjnjncbaaW.PrintWords Go.Proofs.YtjjbhdpjnjncbaaW.PrintMore Go.Proofs.Ytjjbhdpjnjncbaa.Ma Go.Proofs.Ytjjbhdpjnjncbaa.Pr Go.Proofs.Ytjjbhdpjnjncbaa.Hm Go.Proofs.Ytjjbhdpjnjncbaa.Op
theorem szP2 {M : List (List Int)} {Q : List Int} (ga : GoodList (GoodList (GoodInt .i64)) M) (gb : GoodList (GoodInt .i64) Q) :
  ∃ t : Int, Ev (fun k => laws_szProblem.f k M Q 1048576) t ∧ t ≤ 1048576 ∧ (0 ≤ t → tot M ≤ 1048576 ∧ Q.length ≤ 1048576) := by
 have h1 := szSS M ga (n := 1048576) (by decide) (by decide)
 by_cases c : (1048576 : Int) < (tot M : Int)
 ·rw [if_pos c] at h1
  exact ⟨-1, by unfold laws_szProblem.f; exact evbind h1 (evpos (by decide) (evc rfl)), by decide, fun h => by omega⟩
 ·rw [if_neg c] at h1
  have h2 := sz_eq (l := Q) (n := 1048576 - (tot M : Int)) (by omega) (by omega) gb.1
  by_cases c2 : (1048576 : Int) - (tot M : Int) < (Q.length : Int)
  ·rw [if_pos c2] at h2
   exact ⟨-1, by unfold laws_szProblem.f; exact evbind h1 (evneg (by omega) (evsome h2 (evpos (by decide) (evc rfl)))), by decide, fun h => by omega⟩
  ·rw [if_neg c2] at h2
   exact ⟨_, by unfold laws_szProblem.f; exact evbind h1 (evneg (by omega) (evsome h2 (evneg (by omega) (evc rfl)))), by omega, fun _ => ⟨by omega, by omega⟩⟩
theorem toP {M : List (List Int)} {Q : List Int} (hM : Fit M) (hQ : Q.length ≤ 1048576) : Ev (fun k => laws_toProblem.f k M Q) (M, Q) := by
 unfold laws_toProblem.f
 exact evbind (fit_to hM) (evbind (toI Q hQ) (evc rfl))
theorem eqPr {M : List (List Int)} {Q : List Int} (hM : Fit M) (hQ : Q.length ≤ 1152921504606846976) : Ev (fun k => laws_eqProblem.f k M Q M Q) true := by
 unfold laws_eqProblem.f
 exact evbind (fit_eq hM) (evpos rfl (evbind (eqI_same Q hQ) (evpos rfl (evc rfl))))
end Go.Proofs.Ytjjbhdpjnjncbaa.La
end
section
namespace Go.Proofs.Ytjjbhdpjnjncbaa.Pp
open Go.RowKit Go.Proofs.YtjjbhdpjnjncbaaW.PrintWords Go.Proofs.YtjjbhdpjnjncbaaW.PrintMore Go.Proofs.Ytjjbhdpjnjncbaa.Ma Go.Proofs.Ytjjbhdpjnjncbaa.Pr Go.Proofs.Ytjjbhdpjnjncbaa.Dt Go.Proofs.Ytjjbhdpjnjncbaa.Bz Go.Proofs.Ytjjbhdpjnjncbaa.Un Go.Proofs.Ytjjbhdpjnjncbaa.Cz Go.Proofs.Ytjjbhdpjnjncbaa.Pb Go.Proofs.Ytjjbhdpjnjncbaa.Mn Go.Proofs.Ytjjbhdpjnjncbaa.Sv Go.Proofs.Ytjjbhdpjnjncbaa.Pv Go.Proofs.Ytjjbhdpjnjncbaa.La Go.Proofs.Ytjjbhdpjnjncbaa.Hm
structure Few (l : List (List Int)) : Prop where
 len : l.length ≤ 5
 row : ∀ x ∈ l, x.length ≤ 6
theorem few_lens : ∀ (x : List (List Int)), (∀ y ∈ x, y.length ≤ 6) → lens x ≤ 6 * x.length
 | [], _ => by simp [lens]
 | y :: x, h => by
  have h1 := h y (by simp)
  have h2 := few_lens x (fun z hz => h z (by simp [hz]))
  have h3 := lens_cons y x
  simp only [List.length_cons]
  omega
theorem Few.small {l : List (List Int)} (h : Few l) : lens l ≤ 30 := by have := few_lens l h.row; have := h.len; omega
theorem Few.nil : Few [] := ⟨by simp, fun x hx => by simp at hx⟩
theorem pvR_len (n : Nat) (l : List (List Int)) (s : Int) : (pvR n l s).length = n := pR_len _ _ _ _ _
theorem pvR_row (n : Nat) (l : List (List Int)) (s : Int) : ∀ x ∈ pvR n l s, x.length = n := by
 intro x hx
 unfold pvR pR at hx
 obtain ⟨r, _, rfl⟩ := List.mem_map.1 hx
 simp
theorem pvS_len (n : Nat) (l : List (List Int)) (s : Int) (x : List Int) : (pvS n l s x).length = n := by simp [pvS]
theorem POK.small {M : List (List Int)} {Q : List Int} (p : POK M Q) (r : Nat) (hr : r < M.length) : (Q.getD r 0).natAbs ≤ 100 := by
 have := p.num r (Nat.zero_le _) (by have := p.len; omega)
 unfold N100 at this
 omega
theorem POK.rows {M : List (List Int)} {Q : List Int} (p : POK M Q) : ∀ x ∈ M, x.length = M.length := by
 intro x hx
 obtain ⟨i, hi, rfl⟩ := List.getElem_of_mem hx
 have := p.mat.sq.row i hi
 rw [show M.getD i [] = M[i] from by simp [hi]] at this
 exact this
def SetIn (n : Nat) (s : Int) : Prop := 0 ≤ s ∧ s ≤ ((2 ^ n : Nat) : Int) - 1
theorem pow_sub {n : Nat} (hn : n ≤ 5) : wrap64 (shl .i64 1 (n : Int) - 1) = ((2 ^ n : Nat) : Int) - 1 := by
 rw [shl_one (by omega) (by omega), Int.toNat_natCast]
 have key : ∀ m : Nat, 1 ≤ m → m ≤ 2 ^ 5 → wrap64 ((m : Int) - 1) = (m : Int) - 1 := fun m h1 h2 => w64 (by omega) (by omega)
 exact key _ Nat.one_le_two_pow (Nat.pow_le_pow_right (by decide) hn)
theorem iin_eq (x a b : Int) : impl_within.f x a b = some (decide (a ≤ x ∧ x ≤ b)) := by
 unfold impl_within.f
 by_cases h : x ≥ a
 ·rw [if_pos h]; congr 1; rw [Bool.eq_iff_iff]; simp; omega
 ·rw [if_neg h]; congr 1; rw [Bool.eq_iff_iff]; simp; omega
open Classical in
noncomputable def codeS (M : List (List Int)) (Q : List Int) (s : Int) : Int := if POK M Q then (if SetIn Q.length s then 0 else 2) else 1
open Classical in
theorem impl_code (M : List (List Int)) (Q : List Int) (s : Int) : impl_setCode.f M Q s = some (codeS M Q s) := by
 unfold impl_setCode.f codeS
 have is := Pb.impl_is M Q (decide (POK M Q)) (by simp)
 rw [is, Option.bind_some]
 by_cases p : POK M Q
 ·have hq := p.len; have h5 := p.mat.n5
  rw [if_pos (by simpa using p), if_pos p]
  unfold impl_isSet.f
  rw [if_pos (by omega), pow_sub (by omega), iin_eq, Option.bind_some, Option.bind_some]
  by_cases c : 0 ≤ s ∧ s ≤ ((2 ^ Q.length : Nat) : Int) - 1
  ·rw [if_pos (decide_eq_true c), if_pos (show SetIn Q.length s from c)]
  ·rw [if_neg (by simpa using c), if_neg (show ¬ SetIn Q.length s from c)]
 ·rw [if_neg (by simpa using p), if_neg p]
open Classical in
theorem spec_code (M : List (List Int)) (Q : List Int) (s : Int) (hQ : Q.length ≤ 1048576) : Ev (fun k => spec_l02Code.f k M Q s) (codeS M Q s) := by
 unfold spec_l02Code.f codeS
 refine evbind (Pb.spec_is M Q hQ (decide (POK M Q)) (by simp)) ?_
 by_cases p : POK M Q
 ·have hq := p.len; have h5 := p.mat.n5
  rw [if_pos p]
  refine evpos (by simpa using p) ?_
  rw [u64w (x := (Q.length : Int)) (by omega) (by omega), pow_sub (by omega)]
  refine evpos (by omega) (evsome (sin_eq _ _ _) ?_)
  by_cases c : 0 ≤ s ∧ s ≤ ((2 ^ Q.length : Nat) : Int) - 1
  ·rw [show (if SetIn Q.length s then (0 : Int) else 2) = 0 from if_pos c]; exact evpos (decide_eq_true c) (evc rfl)
  ·rw [show (if SetIn Q.length s then (0 : Int) else 2) = 2 from if_neg c]; exact evneg (by simpa using c) (evc rfl)
 ·rw [if_neg p]
  exact evneg (by simpa using p) (evc rfl)
theorem code_zero {M : List (List Int)} {Q : List Int} {s : Int} (c0 : codeS M Q s = 0) : POK M Q ∧ SetIn Q.length s := by
 classical
 unfold codeS at c0
 by_cases p : POK M Q
 ·rw [if_pos p] at c0
  by_cases z : SetIn Q.length s
  ·exact ⟨p, z⟩
  ·rw [if_neg z] at c0; omega
 ·rw [if_neg p] at c0; omega
noncomputable def pvO (M : List (List Int)) (Q : List Int) (s : Int) : Int × List (List Int) × List Int × Int := if codeS M Q s = 0 then (if det M.length (Cm s M) = 0 then (0, [], [], 5) else (ab (det M.length (Cm s M)), pvR M.length M s, pvS M.length M s Q, 0)) else (0, [], [], codeS M Q s)
theorem impl_pivotOf_eq (M : List (List Int)) (Q : List Int) (s : Int) : Ev (fun k => impl_pivotOf.f k M Q s) (pvO M Q s) := by
 unfold impl_pivotOf.f pvO
 refine evsome (impl_code M Q s) ?_
 by_cases c : codeS M Q s = 0
 ·rw [if_pos c]
  refine evpos c ?_
  obtain ⟨p, hs⟩ := code_zero c
  have e := impl_pivot p.mat.sq p.mat.n5 s Q p.len (POK.small p) p.mat.n1 (POK.rows p)
  unfold pvA at e
  by_cases d : det M.length (Cm s M) = 0
  ·rw [if_pos d] at e ⊢
   exact evbind e (evneg (by simp) (evc rfl))
  ·rw [if_neg d] at e ⊢
   exact evbind e (evpos rfl (evc rfl))
 ·rw [if_neg c]
  exact evneg c (evc rfl)
theorem spec_PivotOf_eq (M : List (List Int)) (Q : List Int) (s : Int) (hQ : Q.length ≤ 1048576) : Ev (fun k => spec_PivotOf.f k M Q s) (pvO M Q s) := by
 unfold spec_PivotOf.f pvO
 refine evbind (spec_code M Q s hQ) ?_
 by_cases c : codeS M Q s = 0
 ·rw [if_pos c]
  refine evpos c ?_
  obtain ⟨p, hs⟩ := code_zero c
  have e := spec_pivot p.mat.sq p.mat.n5 s Q p.len (POK.small p)
  unfold pvA at e
  by_cases d : det M.length (Cm s M) = 0
  ·rw [if_pos d] at e ⊢
   exact evbind e (evneg (by simp) (evc rfl))
  ·rw [if_neg d] at e ⊢
   exact evbind e (evpos rfl (evc rfl))
 ·rw [if_neg c]
  exact evneg c (evc rfl)
end Go.Proofs.Ytjjbhdpjnjncbaa.Pp
end
section
namespace Go.Proofs.Ytjjbhdpjnjncbaa.Pp
open Go.RowKit Go.Proofs.YtjjbhdpjnjncbaaW.PrintWords Go.Proofs.YtjjbhdpjnjncbaaW.PrintMore Go.Proofs.Ytjjbhdpjnjncbaa.Ma Go.Proofs.Ytjjbhdpjnjncbaa.Pr Go.Proofs.Ytjjbhdpjnjncbaa.Dt Go.Proofs.Ytjjbhdpjnjncbaa.Bz Go.Proofs.Ytjjbhdpjnjncbaa.Un Go.Proofs.Ytjjbhdpjnjncbaa.Cz Go.Proofs.Ytjjbhdpjnjncbaa.Pb Go.Proofs.Ytjjbhdpjnjncbaa.Mn Go.Proofs.Ytjjbhdpjnjncbaa.Sv Go.Proofs.Ytjjbhdpjnjncbaa.Pv Go.Proofs.Ytjjbhdpjnjncbaa.La Go.Proofs.Ytjjbhdpjnjncbaa.Hm
def Whole (n : Nat) (den : Int) (R : List (List Int)) (S : List Int) : Prop := ∀ r, r < n → Int.tmod (S.getD r 0) den = 0 ∧ ∀ c, c < n → Int.tmod (en R r c) den = 0
theorem bool_of {b : Bool} {p : Prop} (h : b = true ↔ p) (hp : ¬ p) : b = false := by cases b with
 | false => rfl
 | true => exact absurd (h.1 rfl) hp
section
variable {n : Nat} (hn : n ≤ 5) (R : List (List Int)) (S : List Int) (hR : R.length = n) (hr : ∀ i, i < n → (R.getD i []).length = n) (hS : S.length = n) {den : Int} (hd : den ≠ 0)
include hn hR hr hS hd
theorem spec_whole_loop : ∀ q i, i + q = n → ∀ b : Bool, (b = true ↔ ∀ r, i ≤ r → r < n → Int.tmod (S.getD r 0) den = 0 ∧ ∀ c, c < n → Int.tmod (en R r c) den = 0) → Ev (fun k => spec_l04Whole.l0 k (i : Int) den R S) b := by
 intro q
 induction q with
 | zero =>
  intro i hi b hb
  have : b = true := hb.2 (fun r h1 h2 => by omega)
  subst this
  exact evstep (fun k => by rw [spec_l04Whole.l0]) (evneg (by omega) (evc rfl))
 | succ q ih =>
  intro i hi b hb
  have hl := hr i (by omega)
  refine evstep (fun k => by rw [spec_l04Whole.l0]) (evpos (by omega) (evpos (by omega) (evneg hd ?_)))
  rw [rd_nat]
  have cols : ∀ p c, c + p = n → ∀ b : Bool, (b = true ↔ (∀ d, c ≤ d → d < n → Int.tmod (en R i d) den = 0) ∧ ∀ r, i + 1 ≤ r → r < n → Int.tmod (S.getD r 0) den = 0 ∧ ∀ c, c < n → Int.tmod (en R r c) den = 0) → Ev (fun k => spec_l04Whole.l1 k (i : Int) (c : Int) den R S) b := by
   intro p
   induction p with
   | zero =>
    intro c hc b hb
    refine evstep (fun k => by rw [spec_l04Whole.l1]) (evneg (by omega) ?_)
    rw [w64 (x := (i : Int) + 1) (by omega) (by omega)]
    exact ih (i + 1) (by omega) b (hb.trans ⟨fun h => h.2, fun h => ⟨fun d h1 h2 => by omega, h⟩⟩)
   | succ p ihp =>
    intro c hc b hb
    refine evstep (fun k => by rw [spec_l04Whole.l1]) (evpos (by omega) (evpos (by omega) (evpos (by omega) (evpos (by omega) ?_))))
    rw [rdL1]
    refine evpos (by omega) (evneg hd ?_)
    rw [rd_nat, show (R.getD i []).getD c 0 = en R i c from rfl, w64 (x := (c : Int) + 1) (by omega) (by omega)]
    by_cases z : Int.tmod (en R i c) den = 0
    ·refine evpos z (ihp (c + 1) (by omega) b (hb.trans ⟨fun h => ⟨fun d h1 h2 => h.1 d (by omega) h2, h.2⟩, fun h => ⟨fun d h1 h2 => ?_, h.2⟩⟩))
     by_cases e : d = c
     ·rw [e]; exact z
     ·exact h.1 d (by omega) h2
    ·refine evneg z ?_
     rw [bool_of hb (fun h => z (h.1 c (Nat.le_refl _) (by omega)))]
     exact evc rfl
  by_cases z : Int.tmod (S.getD i 0) den = 0
  ·refine evpos z (cols n 0 (by omega) b (hb.trans ⟨fun h => ⟨fun d _ h2 => (h i (Nat.le_refl _) (by omega)).2 d h2, fun r h1 h2 => h r (by omega) h2⟩, fun h r h1 h2 => ?_⟩))
   by_cases e : r = i
   ·rw [e]; exact ⟨z, fun c hc => h.1 c (Nat.zero_le _) hc⟩
   ·exact h.2 r (by omega) h2
  ·refine evneg z ?_
   rw [bool_of hb (fun h => z (h i (Nat.le_refl _) (by omega)).1)]
   exact evc rfl
theorem impl_whole (b : Bool) (hb : b = true ↔ Whole n den R S) : impl_Pivot_isWhole.f den R S = some b := by
 have hrow (i : Nat) (hi : i < n) : R.getD i [] ∈ R := by
  rw [List.getD_eq_getElem?_getD, List.getElem?_eq_getElem (by omega)]
  exact List.getElem_mem (by omega)
 have hmem (x : List Int) (hx : x ∈ R) : ∃ i, i < n ∧ x = R.getD i [] := by
  obtain ⟨i, hi, rfl⟩ := List.getElem_of_mem hx
  exact ⟨i, by omega, by simp [hi]⟩
 have hf : R.flatten.length ≤ 1000000 := by
  have key : ∀ l : List (List Int), (∀ x ∈ l, x.length ≤ 5) → l.flatten.length ≤ 5 * l.length := by
   intro l
   induction l with
   | nil => intro _; simp
   | cons x l ih =>
    intro h
    have h1 := h x (by simp)
    have h2 := ih (fun y hy => h y (by simp [hy]))
    rw [List.flatten_cons, List.length_append, List.length_cons]
    omega
  have := key R (fun x hx => by obtain ⟨i, hi, rfl⟩ := hmem x hx; rw [hr i hi]; exact hn)
  omega
 unfold impl_Pivot_isWhole.f
 rw [if_pos ⟨hd, by omega, hf, by omega⟩]
 congr 1
 have e : (R.flatten ++ S).any (restP den) = true ↔ ¬ Whole n den R S := by
  rw [List.any_eq_true]
  constructor
  ·rintro ⟨x, hx, hp⟩ hw
   have hp := of_decide_eq_true hp
   rcases List.mem_append.1 hx with hx | hx
   ·obtain ⟨y, hy, hxy⟩ := List.mem_flatten.1 hx
    obtain ⟨i, hi, rfl⟩ := hmem y hy
    obtain ⟨c, hc, rfl⟩ := List.getElem_of_mem hxy
    have := (hw i hi).2 c (by rw [hr i hi] at hc; exact hc)
    unfold en at this
    rw [List.getD_eq_getElem?_getD (l := R.getD i []), List.getElem?_eq_getElem hc] at this
    exact hp this
   ·obtain ⟨i, hi, rfl⟩ := List.getElem_of_mem hx
    have := (hw i (by omega)).1
    rw [List.getD_eq_getElem?_getD, List.getElem?_eq_getElem hi] at this
    exact hp this
  ·intro hw
   refine Classical.byContradiction fun hno => hw (fun r hr' => ⟨?_, fun c hc => ?_⟩)
   ·refine Classical.byContradiction fun z => hno ⟨S.getD r 0, List.mem_append.2 (.inr ?_), decide_eq_true z⟩
    rw [List.getD_eq_getElem?_getD, List.getElem?_eq_getElem (by omega)]
    exact List.getElem_mem (by omega)
   ·refine Classical.byContradiction fun z => hno ⟨en R r c, List.mem_append.2 (.inl (List.mem_flatten.2 ⟨R.getD r [], hrow r hr', ?_⟩)), decide_eq_true z⟩
    have hl := hr r hr'
    unfold en
    rw [List.getD_eq_getElem?_getD (l := R.getD r []), List.getElem?_eq_getElem (by omega)]
    exact List.getElem_mem (by omega)
 rw [Bool.eq_iff_iff, hb, Bool.not_eq_true', ← Bool.not_eq_true, e]
 exact ⟨fun h => Classical.byContradiction h, fun h q => q h⟩
end
theorem ab_pos {d : Int} (h : d ≠ 0) : 0 < ab d := by unfold ab; split <;> omega
theorem pvR_getD' {n i : Nat} (hi : i < n) (l : List (List Int)) (s : Int) : ((pvR n l s).getD i []).length = n := by
 have e := pvR_len n l s
 rw [List.getD_eq_getElem?_getD, List.getElem?_eq_getElem (by omega)]
 exact pvR_row n l s _ (List.getElem_mem (by omega))
open Classical in
theorem wholes {M : List (List Int)} (h5 : M.length ≤ 5) (s : Int) (Q : List Int) (d : det M.length (Cm s M) ≠ 0) : ∃ b : Bool, (b = true ↔ Whole M.length (ab (det M.length (Cm s M))) (pvR M.length M s) (pvS M.length M s Q)) ∧ Ev (fun k => spec_l04Whole.f k (ab (det M.length (Cm s M))) (pvR M.length M s) (pvS M.length M s Q)) b ∧ impl_Pivot_isWhole.f (ab (det M.length (Cm s M))) (pvR M.length M s) (pvS M.length M s Q) = some b := by
 have hb := ab_pos d
 refine ⟨decide (Whole M.length (ab (det M.length (Cm s M))) (pvR M.length M s) (pvS M.length M s Q)), by simp, ?_, impl_whole h5 _ _ (pvR_len _ _ _) (fun i hi => pvR_getD' hi M s) (pvS_len _ _ _ _) (by omega) _ (by simp)⟩
 unfold spec_l04Whole.f
 refine spec_whole_loop h5 (pvR M.length M s) (pvS M.length M s Q) (pvR_len _ _ _) (fun i hi => pvR_getD' hi M s) (pvS_len _ _ _ _) (by omega) M.length 0 (by omega) _ ?_
 rw [decide_eq_true_eq]
 exact ⟨fun h r _ hr => h r hr, fun h r hr => h r (Nat.zero_le _) hr⟩
theorem pvO_zero {M : List (List Int)} {Q : List Int} {s : Int} (c : (pvO M Q s).2.2.2 = 0) : codeS M Q s = 0 ∧ det M.length (Cm s M) ≠ 0 := by
 unfold pvO at c
 by_cases c1 : codeS M Q s = 0
 ·rw [if_pos c1] at c
  refine ⟨c1, fun d => ?_⟩
  rw [if_pos d] at c
  exact absurd c (by decide)
 ·rw [if_neg c1] at c; exact absurd c c1
theorem pvO_at {M : List (List Int)} {Q : List Int} {s : Int} (c : codeS M Q s = 0) (d : det M.length (Cm s M) ≠ 0) : pvO M Q s = (ab (det M.length (Cm s M)), pvR M.length M s, pvS M.length M s Q, 0) := by unfold pvO; rw [if_pos c, if_neg d]
end Go.Proofs.Ytjjbhdpjnjncbaa.Pp
end
section
namespace Go.Proofs.Ytjjbhdpjnjncbaa.Pp
open Go.RowKit Go.Proofs.YtjjbhdpjnjncbaaW.PrintWords Go.Proofs.YtjjbhdpjnjncbaaW.PrintMore Go.Proofs.Ytjjbhdpjnjncbaa.Ma Go.Proofs.Ytjjbhdpjnjncbaa.Pr Go.Proofs.Ytjjbhdpjnjncbaa.Dt Go.Proofs.Ytjjbhdpjnjncbaa.Pb
theorem isWhole (M : List (List Int)) (Q : List Int) (s : Int) (hQ : Q.length ≤ 1048576) : ∃ R : Bool × Int, Ev (fun k => spec_IsWholePivot.f k M Q s) R ∧ Ev (fun k => impl_IsWholePivot.f k M Q s) R := by
 have ip := impl_pivotOf_eq M Q s
 have sp := spec_PivotOf_eq M Q s hQ
 unfold impl_IsWholePivot.f spec_IsWholePivot.f
 by_cases c : (pvO M Q s).2.2.2 = 0
 ·obtain ⟨c1, d⟩ := pvO_zero c
  obtain ⟨p, _⟩ := code_zero c1
  rw [pvO_at c1 d] at ip sp
  obtain ⟨b, _, sw, iw⟩ := wholes p.mat.n5 s Q d
  exact ⟨(b, 0), evbind sp (evpos rfl (evbind sw (evc rfl))), evbind ip (evpos rfl (evsome iw (evc rfl)))⟩
 ·exact ⟨(false, (pvO M Q s).2.2.2), evbind sp (evneg c (evc rfl)), evbind ip (evneg c (evc rfl))⟩
end Go.Proofs.Ytjjbhdpjnjncbaa.Pp
end
section
namespace Go.Proofs.Ytjjbhdpjnjncbaa.Pure
open Go.RowKit Go.Proofs.YtjjbhdpjnjncbaaW.PrintWords Go.Proofs.YtjjbhdpjnjncbaaW.PrintMore Go.Proofs.Ytjjbhdpjnjncbaa.Ma Go.Proofs.Ytjjbhdpjnjncbaa.Pr Go.Proofs.Ytjjbhdpjnjncbaa.La Go.Proofs.Ytjjbhdpjnjncbaa.Op
theorem FnExactIsWholePivot : Say.FnExactIsWholePivot := by
 intro M q s ga gb gs
 obtain ⟨t, ⟨k0, ht⟩, ht1, hf⟩ := szP2 ga gb
 by_cases c0 : t < 0
 ·refine ⟨k0, ?_⟩
  unfold laws_FnExactIsWholePivot.f
  rw [if_pos]
  exact .inr ⟨t, ht _ (Nat.le_refl _), c0⟩
 ·obtain ⟨ta, tb⟩ := hf (by omega)
  have fa := fit_of ta
  have al := fa.len
  obtain ⟨R, ⟨k1, e1⟩, ⟨k2, e2⟩⟩ := Pp.isWhole M q s tb
  obtain ⟨k3, e3⟩ := toP fa tb
  obtain ⟨k6, e6⟩ := eqPr (Q := q) fa (by omega)
  refine ⟨k0 + k1 + k2 + k3 + k6, ?_⟩
  unfold laws_FnExactIsWholePivot.f
  rw [if_pos]
  exact .inl ⟨t, R.1, R.2, ht _ (by omega), c0, e3 _ (by omega), e1 _ (by omega), e2 _ (by omega), e6 _ (by omega)⟩
end Go.Proofs.Ytjjbhdpjnjncbaa.Pure
end
section
namespace Go.Proofs.Ytjjbhdpjnjncbaa.fnExactIsWholePivot
open Go.ChangeShapes Go.WideShapes Go.ChangeAt Go.RowKit Go.Proofs.Ytjjbhdpjnjncbaa.Op Go.Proofs.YtjjbhdpjnjncbaaW.PrintWords
theorem own : ownKnob Try.prog.godebug = none := by kernel_rfl
theorem laidOut : laidOutB Try.prog = true := by kernel_rfl
theorem lifted (os : Os) (started : os.Started) (H : Type) (enc : TypeId × Value → H) :
  ReturnsInHanded {} Try.checked os 12 .any (Rows.fnExactIsWholePivotSpec.pre6 enc Try.prog Try.f12 Rows.fnExactIsWholePivotRow.domain false) (Rows.fnExactIsWholePivotSpec.post enc Try.prog Try.f12 false true false false) := by
 refine returnsInHanded_of_change_sized (C := Try.checked) own started (by kernel_rfl) Try.func12
  (ChangeSpec.witness6 (enc := enc) (C := Try.checked) false ⟨#[], #[.agg #[.slice none 0 0, .slice none 0 0], .int .i64 0], []⟩ 8 (by kernel_rfl) (by kernel_rfl) (by kernel_rfl) (by kernel_rfl)) ?_
 intro W base args ds gs before hval0 hW hcnd hsz0 _
 have hval : ∀ (j : Nat) t v, Try.f12.params[j]? = some t → args[j]? = some v → Value.okWide Try.prog W .any base t v := hval0
 have hW' := hW
 obtain ⟨p, q, hA0, hV, rfl, hfz, hnd⟩ := hW
 have hA : DataW.TrodAll enc Try.prog W 0 (fun _ => true) true Try.f12.params.toList args.toList ds p := hA0
 rw [Try.params12] at hA hval
 obtain ⟨v0, vs0, d0, ds0, p0, q0, hargs, rfl, rfl, h0, r0⟩ := trodAll_cons hA
 obtain ⟨v1, vs1, d1, ds1, p1, q1, rfl, rfl, rfl, h1, r1⟩ := trodAll_cons r0
 obtain ⟨rfl, rfl, rfl⟩ := trodAll_nil r1
 obtain rfl : args = #[v0, v1] := by cases args; simp_all
 obtain ⟨rfl, rfl⟩ := trodVars_none hV
 have k0 := h0
 have lt0 := trod_blocks k0
 obtain ⟨⟨x0_0, x0_1⟩, cs0, rfl, hk0, g0⟩ := arg_struct Try.underlying52 (opens_struct2 Try.underlying52 ⟨by kernel_rfl, by kernel_rfl⟩ ⟨by kernel_rfl, by kernel_rfl⟩ (by kernel_rfl) (opens_slice Try.underlying22 (by kernel_rfl) (opens_slice Try.underlying33 (by kernel_rfl) (opens_int Try.underlying2))) (opens_slice Try.underlying33 (by kernel_rfl) (opens_int Try.underlying2)) id (Kd.pair (Kd.slice 33 (Kd.slice 2 (Kd.int .i64))) (Kd.slice 2 (Kd.int .i64))) (fun _ _ _ h => h) (fun x => (GoodList (GoodList (GoodInt .i64))) x.1 ∧ (GoodList (GoodInt .i64)) x.2) (fun _ h0 h1 => ⟨h0, h1⟩)) (hval 0 52 v0 rfl rfl) h0
 obtain ⟨A0_0, c0_0, A0_1, c0_1, rfl, q0_0, r0_0, q0_1, r0_1⟩ := cells_slice_slice hk0
 have k1 := h1
 have lt1 := trod_blocks k1
 obtain ⟨a1, rfl, rfl, rfl, g1⟩ := open_int Try.underlying2 (hval 1 2 v1 rfl rfl) h1
 obtain ⟨k, h⟩ := Pure.FnExactIsWholePivot x0_0 x0_1 a1 g0.1 g0.2 g1
 clear hA0 hval0 hsz0
 refine (Pr.laws_FnExactIsWholePivot.calls k A0_0 c0_0 x0_0 A0_1 c0_1 x0_1 a1 true W r0_0 q0_0 r0_1 q0_1 h).mono ?_
 rintro e W' ⟨rfl, bel0⟩
 have bel : Below W.heap.size W W' := by first | exact bel0 | exact bel0.below
 exact ⟨_, rfl, _, _, _, [], _, [], hW', trodAll_mk1 (shut_bool Try.underlying4 _), (trodAll_cons_mk (Below.trod laidOut (by kernel_rfl) (of_decide_eq_true (by kernel_rfl)) k0 bel lt0) (trodAll_cons_mk (Below.trod laidOut (by kernel_rfl) (of_decide_eq_true (by kernel_rfl)) k1 bel lt1) trodAll_mk0)), rfl, bel.frame _, fun h => by cases h⟩
theorem over : Rows.fnExactIsWholePivotRow.holds Try.pinned (OpenSpec.ofChange Rows.fnExactIsWholePivotSpec) :=
 OpenClaim.holds_of_wide 12 Try.f12 rfl rfl rfl rfl rfl rfl rfl ⟨rfl, rfl, rfl, rfl, rfl⟩ rfl rfl rfl rfl rfl (by kernel_rfl) Try.func12 (by kernel_rfl)
  (of_decide_eq_true (by kernel_rfl)) (by unfold Func.isWrapper; first | (rw [if_pos (by decide +kernel)]; kernel_rfl) | (rw [if_neg (by decide +kernel)]; exact ⟨rfl, rfl⟩))
  (fun os started H enc _ => lifted os started H enc)
theorem proved : Rows.FnExactIsWholePivotSaid := over
#print axioms proved
end Go.Proofs.Ytjjbhdpjnjncbaa.fnExactIsWholePivot
namespace Go.Proofs.Ytjjbhdpjnjncbaa
theorem fnExactIsWholePivot_holds : Rows.FnExactIsWholePivotSaid := fnExactIsWholePivot.proved
end Go.Proofs.Ytjjbhdpjnjncbaa
end
