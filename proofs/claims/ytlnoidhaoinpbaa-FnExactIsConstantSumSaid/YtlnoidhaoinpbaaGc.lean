/- Games of constant sum: the program's and the reference's rounds, at every game. -/
import Derived.Test.YtlnoidhaoinpbaaGm
import Derived.Test.YtlnoidhaoinpbaaPrx29
import Derived.Test.YtlnoidhaoinpbaaPrx30
namespace Go.Proofs.Ytlnoidhaoinpbaa.Gc
open Go.RowKit Go.Proofs.YtlnoidhaoinpbaaW.PrintWords Go.Proofs.YtlnoidhaoinpbaaW.PrintMore Go.Proofs.Ytlnoidhaoinpbaa.Ma Go.Proofs.Ytlnoidhaoinpbaa.Pr Go.Proofs.Ytlnoidhaoinpbaa.La Go.Proofs.Ytlnoidhaoinpbaa.Gm
set_option linter.unusedVariables false

/-- A place's sum is the first place's. -/
def Sm (a b : List (List Int)) (i j : Nat) : Prop := ent a i j + ent b i j = ent a 0 0 + ent b 0 0
def SmR (a b : List (List Int)) (l i : Nat) : Prop := ∀ j, 0 ≤ j → j < l → Sm a b i j
section
variable {a b : List (List Int)} (g : GameOK a b)
include g
theorem places (i j : Nat) (hi : i < a.length) (hj : j < (rw_ a 0).length) : (wrap64 (ent a i j + ent b i j) = wrap64 (ent a 0 0 + ent b 0 0)) ↔ Sm a b i j := by
  have h1 := (g.rows i (Nat.zero_le _) hi).2.2 j (Nat.zero_le _) hj
  have h0 := (g.rows 0 (Nat.zero_le _) (by have := g.k1; omega)).2.2 0 (Nat.zero_le _) (by have := g.l1; omega)
  unfold E20 at h1 h0
  rw [w64 (by omega) (by omega), w64 (by omega) (by omega)]
  exact Iff.rfl
theorem impl_row (i : Nat) (hi : i < a.length)
    (next : ∀ t, (t = true ↔ ∀ u, i + 1 ≤ u → u < a.length → SmR a b (rw_ a 0).length u) → Ev (fun k => impl_IsConstantSum.l0 k a (a.length : Int) ((i + 1 : Nat) : Int) a b) (t, 0)) :
    ∀ m j, j + m = (rw_ a 0).length → ∀ t, (t = true ↔ (∀ c, j ≤ c → c < (rw_ a 0).length → Sm a b i c) ∧ ∀ u, i + 1 ≤ u → u < a.length → SmR a b (rw_ a 0).length u) →
    Ev (fun k => impl_IsConstantSum.l1 k i a (a.length : Int) i (rw_ a i) ((rw_ a i).length : Int) j a b) (t, 0) := by
  have hs := g.same; have hk := g.k4; have hl := g.l4; have hk1 := g.k1; have hl1 := g.l1
  have r1 := (g.rows i (Nat.zero_le _) hi).1; have r2 := (g.rows i (Nat.zero_le _) hi).2.1
  have z2 := (g.rows 0 (Nat.zero_le _) (by omega)).2.1
  intro m
  induction m with
  | zero =>
    intro j hj t ht
    refine evstep (fun k => by rw [impl_IsConstantSum.l1]) (evneg (by omega) ?_)
    rw [w64 (by omega) (by omega)]
    exact next t (ht.trans ⟨fun h => h.2, fun h => ⟨fun c h1 h2 => by omega, h⟩⟩)
  | succ m ih =>
    intro j hj t ht
    have hjl : j < (rw_ a 0).length := by omega
    rw [head_step (P := fun c => Sm a b i c) hjl, and_assoc] at ht
    have e0 : rd_L1 a 0 = rw_ a 0 := rw_eq a 0
    have e1 : rd_L1 b 0 = rw_ b 0 := rw_eq b 0
    refine evstep (fun k => by rw [impl_IsConstantSum.l1]) ?_
    rw [rw_eq, e0, e1, rd_nat, rd_nat, show rd (rw_ a 0) 0 = ent a 0 0 from rd_nat (rw_ a 0) 0, show rd (rw_ b 0) 0 = ent b 0 0 from rd_nat (rw_ b 0) 0]
    refine evpos (by omega) (evpos (by omega) (evpos (by omega) (evpos (by omega) (evpos (by omega) (evpos (by omega) (evpos (by omega) (evpos (by omega) (evpos (by omega) (evpos (by omega) ?_)))))))))
    by_cases c1 : Sm a b i j
    · refine evpos ((places g i j hi hjl).2 c1) ?_
      rw [w64 (by omega) (by omega)]
      exact ih (j + 1) (by omega) t (ht.trans ⟨fun h => h.2, fun h => ⟨c1, h⟩⟩)
    · refine evneg (fun h => c1 ((places g i j hi hjl).1 h)) ?_
      rw [no_iff ht (fun h => c1 h.1)]
      exact evc rfl
theorem impl_rows : ∀ m i, i + m = a.length → ∀ t, (t = true ↔ ∀ u, i ≤ u → u < a.length → SmR a b (rw_ a 0).length u) → Ev (fun k => impl_IsConstantSum.l0 k a (a.length : Int) i a b) (t, 0) := by
  have hk := g.k4; have hl := g.l4
  intro m
  induction m with
  | zero =>
    intro i hi t ht
    refine evstep (fun k => by rw [impl_IsConstantSum.l0]) (evneg (by omega) ?_)
    rw [ht.2 (fun u h1 h2 => by omega)]
    exact evc rfl
  | succ m ih =>
    intro i hi t ht
    have hlt : i < a.length := by omega
    rw [head_step (P := fun u => SmR a b (rw_ a 0).length u) hlt] at ht
    refine evstep (fun k => by rw [impl_IsConstantSum.l0]) (evpos (by omega) (evpos (by omega) (evpos (by omega) ?_)))
    rw [rw_eq]
    exact impl_row g i hlt (fun t' ht' => ih (i + 1) (by omega) t' ht') (rw_ a 0).length 0 (by omega) t ht
theorem spec_row (i : Nat) (hi : i < a.length)
    (next : ∀ t, (t = true ↔ ∀ u, i + 1 ≤ u → u < a.length → SmR a b (rw_ a 0).length u) → Ev (fun k => spec_IsConstantSum.l0 k ((i + 1 : Nat) : Int) a b) (t, 0)) :
    ∀ m j, j + m = (rw_ a 0).length → ∀ t, (t = true ↔ (∀ c, j ≤ c → c < (rw_ a 0).length → Sm a b i c) ∧ ∀ u, i + 1 ≤ u → u < a.length → SmR a b (rw_ a 0).length u) →
    Ev (fun k => spec_IsConstantSum.l1 k i j a b) (t, 0) := by
  have hs := g.same; have hk := g.k4; have hl := g.l4; have hk1 := g.k1; have hl1 := g.l1
  have r1 := (g.rows i (Nat.zero_le _) hi).1; have r2 := (g.rows i (Nat.zero_le _) hi).2.1
  have z2 := (g.rows 0 (Nat.zero_le _) (by omega)).2.1
  intro m
  induction m with
  | zero =>
    intro j hj t ht
    refine evstep (fun k => by rw [spec_IsConstantSum.l1]) (evpos (by omega) (evpos (by omega) ?_))
    rw [rw_eq]
    refine evneg (by omega) ?_
    rw [w64 (by omega) (by omega)]
    exact next t (ht.trans ⟨fun h => h.2, fun h => ⟨fun c h1 h2 => by omega, h⟩⟩)
  | succ m ih =>
    intro j hj t ht
    have hjl : j < (rw_ a 0).length := by omega
    rw [head_step (P := fun c => Sm a b i c) hjl, and_assoc] at ht
    have e0 : rd_L1 a 0 = rw_ a 0 := rw_eq a 0
    have e1 : rd_L1 b 0 = rw_ b 0 := rw_eq b 0
    refine evstep (fun k => by rw [spec_IsConstantSum.l1]) ?_
    rw [rw_eq, rw_eq, e0, e1, rd_nat, rd_nat, show rd (rw_ a 0) 0 = ent a 0 0 from rd_nat (rw_ a 0) 0, show rd (rw_ b 0) 0 = ent b 0 0 from rd_nat (rw_ b 0) 0]
    refine evpos (by omega) (evpos (by omega) (evpos (by omega) (evpos (by omega) (evpos (by omega) (evpos (by omega) (evpos (by omega) (evpos (by omega) (evpos (by omega) (evpos (by omega) ?_)))))))))
    by_cases c1 : Sm a b i j
    · refine evpos ((places g i j hi hjl).2 c1) ?_
      rw [w64 (by omega) (by omega)]
      exact ih (j + 1) (by omega) t (ht.trans ⟨fun h => h.2, fun h => ⟨c1, h⟩⟩)
    · refine evneg (fun h => c1 ((places g i j hi hjl).1 h)) ?_
      rw [no_iff ht (fun h => c1 h.1)]
      exact evc rfl
theorem spec_rows : ∀ m i, i + m = a.length → ∀ t, (t = true ↔ ∀ u, i ≤ u → u < a.length → SmR a b (rw_ a 0).length u) → Ev (fun k => spec_IsConstantSum.l0 k i a b) (t, 0) := by
  have hk := g.k4; have hl := g.l4
  intro m
  induction m with
  | zero =>
    intro i hi t ht
    refine evstep (fun k => by rw [spec_IsConstantSum.l0]) (evneg (by omega) ?_)
    rw [ht.2 (fun u h1 h2 => by omega)]
    exact evc rfl
  | succ m ih =>
    intro i hi t ht
    have hlt : i < a.length := by omega
    rw [head_step (P := fun u => SmR a b (rw_ a 0).length u) hlt] at ht
    refine evstep (fun k => by rw [spec_IsConstantSum.l0]) (evpos (by omega) ?_)
    exact spec_row g i hlt (fun t' ht' => ih (i + 1) (by omega) t' ht') (rw_ a 0).length 0 (by omega) t ht
end
open Classical in
theorem both (a b : List (List Int)) (ha : a.length ≤ 1048576) (hr : ∀ x ∈ a, x.length ≤ 1048576) : ∃ t, Ev (fun k => spec_IsConstantSum.f k a b) t ∧ Ev (fun k => impl_IsConstantSum.f k a b) t := by
  have hb : decide (GameOK a b) = true ↔ GameOK a b := by simp
  by_cases g : GameOK a b
  · refine ⟨(decide (∀ u, 0 ≤ u → u < a.length → SmR a b (rw_ a 0).length u), 0), ?_, ?_⟩
    · unfold spec_IsConstantSum.f
      exact evbind (Gm.spec_is a b ha hr _ hb) (evpos (by simpa using g) (spec_rows g a.length 0 (by omega) _ (by simp)))
    · unfold impl_IsConstantSum.f
      exact evsome (Gm.impl_is a b ha hr _ hb) (evpos (by simpa using g) (impl_rows g a.length 0 (by omega) _ (by simp)))
  · refine ⟨(false, 1), ?_, ?_⟩
    · unfold spec_IsConstantSum.f
      exact evbind (Gm.spec_is a b ha hr _ hb) (evneg (by simpa using g) (evc rfl))
    · unfold impl_IsConstantSum.f
      exact evsome (Gm.impl_is a b ha hr _ hb) (evneg (by simpa using g) (evc rfl))
end Go.Proofs.Ytlnoidhaoinpbaa.Gc
