/- Games: what IsGame tests, for the program and for the reference, at every input. -/
import Derived.Test.YtlnoidhaoinpbaaLaS
import Derived.Test.YtlnoidhaoinpbaaPrx18
import Derived.Test.YtlnoidhaoinpbaaPrx20
import Derived.Test.YtlnoidhaoinpbaaHt
namespace Go.Proofs.Ytlnoidhaoinpbaa.Gm
open Go.RowKit Go.Proofs.YtlnoidhaoinpbaaW.PrintWords Go.Proofs.YtlnoidhaoinpbaaW.PrintMore Go.Proofs.Ytlnoidhaoinpbaa.Ma Go.Proofs.Ytlnoidhaoinpbaa.Pr Go.Proofs.Ytlnoidhaoinpbaa.La
set_option linter.unusedVariables false

theorem sin_eq (x a b : Int) : spec_l01In.f x a b = some (decide (a ≤ x ∧ x ≤ b)) := by
  unfold spec_l01In.f
  by_cases h : a ≤ x
  · rw [if_pos (by omega)]; simp [h]
  · rw [if_neg (by omega)]; simp [h]
theorem iin_eq (x a b : Int) : impl_within.f x a b = some (decide (a ≤ x ∧ x ≤ b)) := by
  unfold impl_within.f
  by_cases h : a ≤ x
  · rw [if_pos (by omega)]; simp [h]
  · rw [if_neg (by omega)]; simp [h]
theorem head_step {P : Nat → Prop} {i d : Nat} (h : i < d) : (∀ j, i ≤ j → j < d → P j) ↔ P i ∧ ∀ j, i + 1 ≤ j → j < d → P j :=
  ⟨fun f => ⟨f i (Nat.le_refl _) h, fun j h1 h2 => f j (by omega) h2⟩, fun ⟨a, f⟩ j h1 h2 => by
    by_cases e : i = j
    · subst e; exact a
    · exact f j (by omega) h2⟩
theorem no_iff {b : Bool} {p : Prop} (h : b = true ↔ p) (hp : ¬ p) : b = false := by
  cases b
  · rfl
  · exact absurd (h.1 rfl) hp

/-- The row of a table. -/
def rw_ (a : List (List Int)) (i : Nat) : List Int := a.getD i []
def ent (a : List (List Int)) (i j : Nat) : Int := (rw_ a i).getD j 0
theorem rw_eq (a : List (List Int)) (i : Nat) : rd_L1 a (i : Int) = rw_ a i := rdL a i
theorem rw_at {a : List (List Int)} {i : Nat} (h : i < a.length) : rw_ a i = a[i] := by simp [rw_, h]
def E20 (n : Int) : Prop := 1 ≤ n ∧ n ≤ 20
def RowOK (a b : List (List Int)) (l i : Nat) : Prop := (rw_ a i).length = l ∧ (rw_ b i).length = l ∧ ∀ j, 0 ≤ j → j < l → E20 (ent a i j) ∧ E20 (ent b i j)
structure GameOK (a b : List (List Int)) : Prop where
  k1 : 1 ≤ a.length
  k4 : a.length ≤ 4
  same : b.length = a.length
  l1 : 1 ≤ (rw_ a 0).length
  l4 : (rw_ a 0).length ≤ 4
  sum : a.length + (rw_ a 0).length ≤ 5
  rows : ∀ i, 0 ≤ i → i < a.length → RowOK a b (rw_ a 0).length i

section
variable {a b : List (List Int)} {l : Nat} (hk : a.length ≤ 4) (hl : l ≤ 4) (hs : b.length = a.length)
include hk hl hs
theorem spec_row (i : Nat) (hi : i < a.length) (e1 : (rw_ a i).length = l) (e2 : (rw_ b i).length = l)
    (next : ∀ t, (t = true ↔ ∀ u, i + 1 ≤ u → u < a.length → RowOK a b l u) → Ev (fun k => spec_l07Is.l0 k (a.length : Int) l ((i + 1 : Nat) : Int) a b) t) :
    ∀ m j, j + m = l → ∀ t, (t = true ↔ (∀ c, j ≤ c → c < l → E20 (ent a i c) ∧ E20 (ent b i c)) ∧ ∀ u, i + 1 ≤ u → u < a.length → RowOK a b l u) → Ev (fun k => spec_l07Is.l1 k (a.length : Int) l i j a b) t := by
  intro m
  induction m with
  | zero =>
    intro j hj t ht
    refine evstep (fun k => by rw [spec_l07Is.l1]) (evneg (by omega) ?_)
    rw [w64 (by omega) (by omega)]
    exact next t (ht.trans ⟨fun h => h.2, fun h => ⟨fun c h1 h2 => by omega, h⟩⟩)
  | succ m ih =>
    intro j hj t ht
    have hjl : j < l := by omega
    rw [head_step (P := fun c => E20 (ent a i c) ∧ E20 (ent b i c)) hjl, and_assoc, and_assoc] at ht
    refine evstep (fun k => by rw [spec_l07Is.l1]) (evpos (by omega) (evpos (by omega) (evpos (by omega) (evpos (by omega) ?_))))
    rw [rw_eq, rw_eq, rd_nat, rd_nat]
    refine evpos (by omega) (evsome (sin_eq _ _ _) ?_)
    by_cases c1 : E20 (ent a i j)
    · refine evpos (decide_eq_true (show 1 ≤ ent a i j ∧ ent a i j ≤ 20 from c1)) (evpos (by omega) (evpos (by omega) (evsome (sin_eq _ _ _) ?_)))
      by_cases c2 : E20 (ent b i j)
      · refine evpos (decide_eq_true (show 1 ≤ ent b i j ∧ ent b i j ≤ 20 from c2)) ?_
        rw [w64 (by omega) (by omega)]
        exact ih (j + 1) (by omega) t (ht.trans ⟨fun h => h.2.2, fun h => ⟨c1, c2, h⟩⟩)
      · refine evneg (fun h => c2 (of_decide_eq_true (p := 1 ≤ ent b i j ∧ ent b i j ≤ 20) h)) ?_
        rw [no_iff ht (fun h => c2 h.2.1)]
        exact evc rfl
    · refine evneg (fun h => c1 (of_decide_eq_true (p := 1 ≤ ent a i j ∧ ent a i j ≤ 20) h)) ?_
      rw [no_iff ht (fun h => c1 h.1)]
      exact evc rfl
theorem spec_rows : ∀ m i, i + m = a.length → ∀ t, (t = true ↔ ∀ u, i ≤ u → u < a.length → RowOK a b l u) → Ev (fun k => spec_l07Is.l0 k (a.length : Int) l i a b) t := by
  intro m
  induction m with
  | zero =>
    intro i hi t ht
    refine evstep (fun k => by rw [spec_l07Is.l0]) (evneg (by omega) ?_)
    rw [ht.2 (fun u h1 h2 => by omega)]
    exact evc rfl
  | succ m ih =>
    intro i hi t ht
    have hlt : i < a.length := by omega
    rw [head_step (P := fun u => RowOK a b l u) hlt] at ht
    refine evstep (fun k => by rw [spec_l07Is.l0]) (evpos (by omega) (evpos (by omega) (evpos (by omega) ?_)))
    rw [rw_eq, rw_eq]
    by_cases c1 : (rw_ a i).length = l
    · refine evpos (by omega) (evpos (by omega) (evstep (fun k => by rw [spec_l07Is.j3]) ?_))
      by_cases c2 : (rw_ b i).length = l
      · refine evneg (by simp [c2]) ?_
        exact spec_row hk hl hs i hlt c1 c2 (ih (i + 1) (by omega)) l 0 (by omega) t (ht.trans ⟨fun h => ⟨h.1.2.2, h.2⟩, fun h => ⟨⟨c1, c2, h.1⟩, h.2⟩⟩)
      · refine evpos (by simp; omega) ?_
        rw [no_iff ht (fun h => c2 h.1.2.1)]
        exact evc rfl
    · refine evneg (by omega) (evstep (fun k => by rw [spec_l07Is.j3]) (evpos rfl ?_))
      rw [no_iff ht (fun h => c1 h.1.1)]
      exact evc rfl
end
theorem spec_is (a b : List (List Int)) (ha : a.length ≤ 1048576) (hr : ∀ x ∈ a, x.length ≤ 1048576) (t : Bool) (ht : t = true ↔ GameOK a b) : Ev (fun k => spec_l07Is.f k a b) t := by
  unfold spec_l07Is.f
  by_cases c1 : (a.length : Int) < 1
  · refine evpos c1 (evstep (fun k => by rw [spec_l07Is.j0]) (evpos rfl ?_))
    rw [no_iff ht (fun h => by have := h.k1; omega)]
    exact evc rfl
  · refine evneg c1 ?_
    by_cases c2 : (a.length : Int) > 4
    · refine evpos c2 (evstep (fun k => by rw [spec_l07Is.j0]) (evpos rfl ?_))
      rw [no_iff ht (fun h => by have := h.k4; omega)]
      exact evc rfl
    · refine evneg c2 (evstep (fun k => by rw [spec_l07Is.j0]) ?_)
      by_cases c3 : b.length = a.length
      · refine evneg (by simp [c3]) (evpos (by omega) ?_)
        have e0 : rd_L1 a 0 = rw_ a 0 := rw_eq a 0
        have h0 : (rw_ a 0).length ≤ 1048576 := by rw [rw_at (by omega)]; exact hr _ (List.getElem_mem (by omega))
        rw [e0]
        by_cases c4 : ((rw_ a 0).length : Int) < 1
        · refine evpos c4 (evstep (fun k => by rw [spec_l07Is.j1]) (evpos rfl ?_))
          rw [no_iff ht (fun h => by have := h.l1; omega)]
          exact evc rfl
        · refine evneg c4 ?_
          by_cases c5 : ((rw_ a 0).length : Int) > 4
          · refine evpos c5 (evstep (fun k => by rw [spec_l07Is.j1]) (evpos rfl ?_))
            rw [no_iff ht (fun h => by have := h.l4; omega)]
            exact evc rfl
          · refine evneg c5 (evstep (fun k => by rw [spec_l07Is.j1]) ?_)
            rw [w64 (by omega) (by omega)]
            by_cases c6 : (a.length : Int) + ((rw_ a 0).length : Int) > 5
            · refine evpos (decide_eq_true c6) ?_
              rw [no_iff ht (fun h => by have := h.sum; omega)]
              exact evc rfl
            · refine evneg (by simpa using c6) ?_
              exact spec_rows (l := (rw_ a 0).length) (by omega) (by omega) c3 a.length 0 (by omega) t (ht.trans ⟨fun h => h.rows, fun h => ⟨by omega, by omega, c3, by omega, by omega, by omega, h⟩⟩)
      · refine evpos (by simp; omega) ?_
        rw [no_iff ht (fun h => c3 h.same)]
        exact evc rfl

theorem badE_iff (n : Int) : badE n = false ↔ E20 n := by unfold badE E20; simp
theorem any_false {α : Type} (p : α → Bool) (l : List α) : l.any p = false ↔ ∀ i (h : i < l.length), p l[i] = false := by
  rw [List.any_eq_false]
  constructor
  · intro h i hi
    have := h l[i] (List.getElem_mem hi)
    simpa using this
  · intro h x hx
    obtain ⟨i, hi, rfl⟩ := List.getElem_of_mem hx
    simp [h i hi]
theorem badR_iff (k : Nat) (row : List Int) : badR (k : Int) row = false ↔ row.length = k ∧ ∀ j, 0 ≤ j → j < k → E20 (row.getD j 0) := by
  unfold badR
  rw [Bool.or_eq_false_iff, any_false]
  constructor
  · rintro ⟨h1, h2⟩
    have e : row.length = k := by simp at h1; omega
    exact ⟨e, fun j _ hj => by have := (badE_iff _).1 (h2 j (by omega)); simpa [show j < row.length from by omega] using this⟩
  · rintro ⟨h1, h2⟩
    exact ⟨by simp [h1], fun i hi => (badE_iff _).2 (by have := h2 i (Nat.zero_le _) (by omega); simpa [hi] using this)⟩
theorem table_f (a : List (List Int)) (k l : Nat) : ∃ t, impl_isTable.f a k l = some t ∧ (t = true ↔ a.length = k ∧ ∀ i, 0 ≤ i → i < a.length → (rw_ a i).length = l ∧ ∀ j, 0 ≤ j → j < l → E20 (ent a i j)) := by
  refine ⟨_, rfl, ?_⟩
  rw [Bool.and_eq_true, Bool.not_eq_true', any_false]
  constructor
  · rintro ⟨h1, h2⟩
    refine ⟨by simp at h1; omega, fun i _ hi => ?_⟩
    have := (badR_iff l a[i]).1 (h2 i hi)
    rw [← rw_at hi] at this
    exact this
  · rintro ⟨h1, h2⟩
    refine ⟨by simp [h1], fun i hi => (badR_iff l a[i]).2 ?_⟩
    have := h2 i (Nat.zero_le _) hi
    rw [← rw_at hi]
    exact this
theorem impl_is (a b : List (List Int)) (ha : a.length ≤ 1048576) (hr : ∀ x ∈ a, x.length ≤ 1048576) (t : Bool) (ht : t = true ↔ GameOK a b) : impl_IsGame.f a b = some t := by
  unfold impl_IsGame.f
  rw [iin_eq, Option.bind_some]
  by_cases c1 : 1 ≤ (a.length : Int) ∧ (a.length : Int) ≤ 4
  · have e0 : rd_L1 a 0 = rw_ a 0 := rw_eq a 0
    have h0 : (rw_ a 0).length ≤ 1048576 := by rw [rw_at (by omega)]; exact hr _ (List.getElem_mem (by omega))
    rw [if_pos (decide_eq_true c1), if_pos (by omega), e0, iin_eq, Option.bind_some, w64 (by omega) (by omega)]
    by_cases c2 : 1 ≤ ((rw_ a 0).length : Int) ∧ ((rw_ a 0).length : Int) ≤ 4
    · rw [if_pos (decide_eq_true c2)]
      by_cases c3 : (a.length : Int) + ((rw_ a 0).length : Int) ≤ 5
      · rw [if_pos c3]
        obtain ⟨t1, h1, i1⟩ := table_f a a.length (rw_ a 0).length
        obtain ⟨t2, h2, i2⟩ := table_f b a.length (rw_ a 0).length
        rw [h1, Option.bind_some, h2]
        have key : GameOK a b ↔ t1 = true ∧ t2 = true := by
          rw [i1, i2]
          constructor
          · intro h
            exact ⟨⟨rfl, fun i z hi => ⟨(h.rows i z hi).1, fun j z2 hj => ((h.rows i z hi).2.2 j z2 hj).1⟩⟩, h.same, fun i z hi => ⟨(h.rows i z (by have := h.same; omega)).2.1, fun j z2 hj => ((h.rows i z (by have := h.same; omega)).2.2 j z2 hj).2⟩⟩
          · rintro ⟨⟨_, ha'⟩, hs, hb'⟩
            exact ⟨by omega, by omega, hs, by omega, by omega, by omega, fun i z hi => ⟨(ha' i z hi).1, (hb' i z (by omega)).1, fun j z2 hj => ⟨(ha' i z hi).2 j z2 hj, (hb' i z (by omega)).2 j z2 hj⟩⟩⟩
        rw [key] at ht
        cases t1
        · rw [no_iff ht (fun h => by cases h.1)]; rfl
        · cases t2
          · rw [no_iff ht (fun h => by cases h.2)]; rfl
          · rw [ht.2 ⟨rfl, rfl⟩]; rfl
      · rw [if_neg c3, no_iff ht (fun h => c3 (by have := h.sum; omega))]
    · rw [if_neg (by simpa using c2), no_iff ht (fun h => c2 (by have := h.l1; have := h.l4; omega))]
  · rw [if_neg (by simpa using c1), no_iff ht (fun h => c1 (by have := h.k1; have := h.k4; omega))]
end Go.Proofs.Ytlnoidhaoinpbaa.Gm
