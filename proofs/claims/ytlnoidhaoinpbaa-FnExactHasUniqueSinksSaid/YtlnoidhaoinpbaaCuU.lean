/- HasUniqueSinks: the faces of the program and the pairs of the reference tell the same. -/
import Derived.Test.YtlnoidhaoinpbaaCu
import Derived.Test.YtlnoidhaoinpbaaUs
import Derived.Test.YtlnoidhaoinpbaaPrx5
import Derived.Test.YtlnoidhaoinpbaaPrx7
import Derived.Test.YtlnoidhaoinpbaaPrx7
namespace Go.Proofs.Ytlnoidhaoinpbaa.Cu
open Go.RowKit Go.Proofs.YtlnoidhaoinpbaaW.PrintWords Go.Proofs.YtlnoidhaoinpbaaW.PrintMore Go.Proofs.Ytlnoidhaoinpbaa.Ma Go.Proofs.Ytlnoidhaoinpbaa.Pr Go.Proofs.Ytlnoidhaoinpbaa.Us
set_option linter.unusedVariables false

/-- A vertex's entry, as a natural number. -/
def sN (l : List Int) (v : Nat) : Nat := (at_ l v).toNat
theorem at_nat {d : Nat} {l : List Int} (h : CubeOK d l) {v : Nat} (hv : v < l.length) : at_ l v = (sN l v : Int) ∧ sN l v < 2 ^ d := by
  obtain ⟨h0, h1, _⟩ := h.2.2.2 v hv
  have := h.2.2.1
  unfold sN
  omega
theorem ok32 {d : Nat} {l : List Int} (h : CubeOK d l) : l.length ≤ 32 := len32 h.2.1 h.2.2.1
theorem small {d : Nat} (hd : d ≤ 5) {x : Nat} (h : x < 2 ^ d) : x < 2 ^ 63 := by have := pow_le hd; omega
def Dif (l : List Int) (v u : Nat) : Prop := (sN l v ^^^ sN l u) &&& (v ^^^ u) ≠ 0
theorem and_ne {a b : Nat} : a &&& b ≠ 0 ↔ ∃ j, a.testBit j = true ∧ b.testBit j = true := by
  constructor
  · intro h
    apply Classical.byContradiction
    intro hno
    apply h
    apply Nat.eq_of_testBit_eq
    intro j
    rw [Nat.testBit_and, Nat.zero_testBit]
    cases ha : a.testBit j <;> cases hb : b.testBit j <;> simp
    exact hno ⟨j, ha, hb⟩
  · rintro ⟨j, ha, hb⟩ h
    have := Nat.testBit_and a b j
    rw [h, ha, hb, Nat.zero_testBit] at this
    cases this
theorem dif_iff (l : List Int) (v u : Nat) : Dif l v u ↔ ∃ j, (sN l v).testBit j ≠ (sN l u).testBit j ∧ v.testBit j ≠ u.testBit j := by
  unfold Dif
  rw [and_ne]
  constructor
  · rintro ⟨j, h1, h2⟩
    rw [Nat.testBit_xor] at h1 h2
    exact ⟨j, by simpa using h1, by simpa using h2⟩
  · rintro ⟨j, h1, h2⟩
    exact ⟨j, by rw [Nat.testBit_xor]; simpa using h1, by rw [Nat.testBit_xor]; simpa using h2⟩
theorem pairs_dif (n : Nat) (l : List Int) : Pairs n (sN l) ↔ ∀ v, v < n → ∀ u, u < v → Dif l v u := by
  constructor
  · intro h v hv u hu
    exact (dif_iff l v u).2 (h v u hv (by omega) (by omega))
  · intro h v w hv hw hne
    rcases Nat.lt_or_ge w v with k | k
    · exact (dif_iff l v w).1 (h v hv w k)
    · obtain ⟨j, h1, h2⟩ := (dif_iff l w v).1 (h w hw v (by omega))
      exact ⟨j, h1.symm, h2.symm⟩

section
variable {d : Nat} {l : List Int} (ok : CubeOK d l)
include ok
theorem uni_in (v : Nat) (hv : v < l.length) (next : ∀ b, (b = true ↔ ∀ x, v + 1 ≤ x → x < l.length → ∀ u, u < x → Dif l x u) → Ev (fun k => spec_l06Unique.l0 k ((v + 1 : Nat) : Int) d l) b) :
    ∀ m w, w + m = v → ∀ b, (b = true ↔ (∀ u, w ≤ u → u < v → Dif l v u) ∧ ∀ x, v + 1 ≤ x → x < l.length → ∀ u, u < x → Dif l x u) → Ev (fun k => spec_l06Unique.l1 k v w d l) b := by
  have h32 := ok32 ok
  intro m
  induction m with
  | zero =>
    intro w hw b hb
    refine evstep (fun k => by rw [spec_l06Unique.l1]) (evneg (by omega) ?_)
    rw [w64 (by omega) (by omega)]
    exact next b (hb.trans ⟨fun h => h.2, fun h => ⟨fun u h1 h2 => by omega, h⟩⟩)
  | succ m ih =>
    intro w hw b hb
    have hwv : w < v := by omega
    obtain ⟨ea, la⟩ := at_nat ok hv
    obtain ⟨eb, lb⟩ := at_nat ok (show w < l.length by omega)
    have e : Go.bits .and .i64 (Go.bits .xor .i64 (rd l (v : Int)) (rd l (w : Int))) (Go.bits .xor .i64 (v : Int) (w : Int)) = (((sN l v ^^^ sN l w) &&& (v ^^^ w) : Nat) : Int) := by
      have hd := ok.2.1
      rw [rd_nat, rd_nat, show l.getD v 0 = (sN l v : Int) from ea, show l.getD w 0 = (sN l w : Int) from eb, xor_nat (small hd la) (small hd lb), xor_nat (by omega) (by omega),
        and_nat (Nat.xor_lt_two_pow (small hd la) (small hd lb)) (Nat.xor_lt_two_pow (by omega) (by omega))]
    refine evstep (fun k => by rw [spec_l06Unique.l1]) (evpos (by omega) (evpos (by omega) (evpos (by omega) (evpos (by omega) (evpos (by omega) ?_)))))
    rw [e]
    rw [split_head (P := fun u => Dif l v u) hwv, and_assoc] at hb
    by_cases c : (sN l v ^^^ sN l w) &&& (v ^^^ w) = 0
    · refine evpos (by omega) ?_
      rw [bool_iff hb (fun h => h.1 c)]
      exact evc rfl
    · refine evneg (by omega) ?_
      rw [w64 (by omega) (by omega)]
      exact ih (w + 1) (by omega) b (hb.trans ⟨fun h => h.2, fun h => ⟨c, h⟩⟩)
theorem uni_out : ∀ m v, v + m = l.length → ∀ b, (b = true ↔ ∀ x, v ≤ x → x < l.length → ∀ u, u < x → Dif l x u) → Ev (fun k => spec_l06Unique.l0 k v d l) b := by
  have h32 := ok32 ok
  intro m
  induction m with
  | zero =>
    intro v hv b hb
    refine evstep (fun k => by rw [spec_l06Unique.l0]) (evneg (by omega) ?_)
    rw [hb.2 (fun x h1 h2 => by omega)]
    exact evc rfl
  | succ m ih =>
    intro v hv b hb
    refine evstep (fun k => by rw [spec_l06Unique.l0]) (evpos (by omega) ?_)
    rw [split_head (P := fun x => ∀ u, u < x → Dif l x u) (show v < l.length by omega)] at hb
    exact uni_in ok v (by omega) (ih (v + 1) (by omega)) v 0 (by omega) b (hb.trans ⟨fun h => ⟨fun u _ hu => h.1 u hu, h.2⟩, fun h => ⟨fun u hu => h.1 u (Nat.zero_le _) hu, h.2⟩⟩)
theorem spec_unique (b : Bool) (hb : b = true ↔ Pairs (2 ^ d) (sN l)) : Ev (fun k => spec_l06Unique.f k d l) b := by
  unfold spec_l06Unique.f
  refine uni_out ok l.length 0 (by omega) b (hb.trans ?_)
  rw [pairs_dif, ← ok.2.2.1]
  exact ⟨fun h x _ hx => h x hx, fun h x hx => h x (Nat.zero_le _) hx⟩

theorem sinks_in {v D : Nat} (hv : v < 2 ^ d) (hD : D < 2 ^ d) : ∀ m w acc, w + m = l.length → acc + m ≤ 64 →
    Ev (fun k => impl_Cube_sinksIn.l0 k v D (acc : Nat) l (l.length : Int) w) ((acc + (List.range' w m).countP (chk fun w => inF D v w ∧ onD D (sN l w) 0) : Nat) : Int) := by
  have h32 := ok32 ok
  have hd := ok.2.1
  intro m
  induction m with
  | zero =>
    intro w acc hw ha
    refine evstep (fun k => by rw [impl_Cube_sinksIn.l0]) ?_
    exact evneg (by omega) (evc rfl)
  | succ m ih =>
    intro w acc hw ha
    have hwl : w < l.length := by omega
    obtain ⟨ea, la⟩ := at_nat ok hwl
    have hx : w ^^^ v < 2 ^ 63 := Nat.xor_lt_two_pow (by omega) (small hd hv)
    have e1 : Go.bits .andNot .i64 (Go.bits .xor .i64 (w : Int) (v : Int)) (D : Int) = ((((w ^^^ v) ^^^ ((w ^^^ v) &&& D) : Nat)) : Int) := by
      rw [xor_nat (by omega) (small hd hv), andNot_nat hx (small hd hD)]
    have e2 : Go.bits .and .i64 (rd l (w : Int)) (D : Int) = ((sN l w &&& D : Nat) : Int) := by
      rw [rd_nat, show l.getD w 0 = (sN l w : Int) from ea, and_nat (small hd la) (small hd hD)]
    have c1 : (w ^^^ v) ^^^ ((w ^^^ v) &&& D) = 0 ↔ inF D v w := by
      constructor
      · intro h j hj
        have := congrArg (fun x => x.testBit j) h
        simp only [Nat.testBit_xor, Nat.testBit_and, hj, Nat.zero_testBit] at this
        cases hw : w.testBit j <;> cases hv' : v.testBit j <;> simp_all
      · intro h
        apply Nat.eq_of_testBit_eq
        intro j
        simp only [Nat.testBit_xor, Nat.testBit_and, Nat.zero_testBit]
        cases hj : D.testBit j
        · rw [h j hj]; simp
        · simp
    have c2 : sN l w &&& D = 0 ↔ onD D (sN l w) 0 := by
      constructor
      · intro h j hj
        have := congrArg (fun x => x.testBit j) h
        simp only [Nat.testBit_and, hj, Nat.zero_testBit] at this
        simpa using this
      · intro h
        apply Nat.eq_of_testBit_eq
        intro j
        rw [Nat.testBit_and, Nat.zero_testBit]
        cases hj : D.testBit j
        · simp
        · rw [h j hj]; simp
    refine evstep (fun k => by rw [impl_Cube_sinksIn.l0]) (evpos (by omega) (evpos (by omega) (evpos (by omega) ?_)))
    rw [e1, e2, List.range'_succ, List.countP_cons]
    have go : ∀ a : Nat, a + m ≤ 64 → Ev (fun k => impl_Cube_sinksIn.l0 k v D (a : Nat) l (l.length : Int) ((w + 1 : Nat) : Int)) ((a + (List.range' (w + 1) m).countP (chk fun w => inF D v w ∧ onD D (sN l w) 0) : Nat) : Int) := fun a ha' => ih (w + 1) a (by omega) ha'
    by_cases k1 : inF D v w
    · refine evpos (by have := c1.2 k1; omega) ?_
      by_cases k2 : onD D (sN l w) 0
      · refine evpos (by have := c2.2 k2; omega) ?_
        have := go (acc + 1) (by omega)
        rw [chk_yes (P := fun w => inF D v w ∧ onD D (sN l w) 0) ⟨k1, k2⟩, if_pos rfl, show acc + (List.countP (chk fun w => inF D v w ∧ onD D (sN l w) 0) (List.range' (w + 1) m) + 1) = acc + 1 + List.countP (chk fun w => inF D v w ∧ onD D (sN l w) 0) (List.range' (w + 1) m) from by omega, w64 (by omega) (by omega), w64 (by omega) (by omega)]
        exact this
      · refine evneg (by have := mt c2.1 k2; omega) ?_
        have := go acc (by omega)
        rw [chk_no (P := fun w => inF D v w ∧ onD D (sN l w) 0) (fun h => k2 h.2), if_neg (by decide), Nat.add_zero, w64 (by omega) (by omega)]
        exact this
    · refine evneg (by have := mt c1.1 k1; omega) ?_
      have := go acc (by omega)
      rw [chk_no (P := fun w => inF D v w ∧ onD D (sN l w) 0) (fun h => k1 h.1), if_neg (by decide), Nat.add_zero, w64 (by omega) (by omega)]
      exact this
theorem sinksIn_eq {v D : Nat} (hv : v < 2 ^ d) (hD : D < 2 ^ d) : Ev (fun k => impl_Cube_sinksIn.f k d l v D) ((C (2 ^ d) (sN l) D v 0 : Nat) : Int) := by
  have h32 := ok32 ok
  have := sinks_in ok hv hD l.length 0 0 (by omega) (by omega)
  unfold impl_Cube_sinksIn.f C cnt
  rw [Nat.zero_add, ← List.range_eq_range', ok.2.2.1] at this
  rw [← ok.2.2.1] at this ⊢
  simpa using this
/-- At least what is asked: one sink for each v that has nothing of D. -/
def Free (n : Nat) (s : Nat → Nat) (D v : Nat) : Prop := v &&& D = 0 → C n s D v 0 = 1
theorem has_in (D : Nat) (hD : D < l.length) (next : ∀ b, (b = true ↔ ∀ x, D + 1 ≤ x → x < l.length → ∀ v, v < l.length → Free (2 ^ d) (sN l) x v) → Ev (fun k => impl_Cube_hasUniqueSinks.l0 k (l.length : Int) ((D + 1 : Nat) : Int) d l) b) :
    ∀ m v, v + m = l.length → ∀ b, (b = true ↔ (∀ u, v ≤ u → u < l.length → Free (2 ^ d) (sN l) D u) ∧ ∀ x, D + 1 ≤ x → x < l.length → ∀ v, v < l.length → Free (2 ^ d) (sN l) x v) →
      Ev (fun k => impl_Cube_hasUniqueSinks.l1 k D (l.length : Int) D (l.length : Int) v d l) b := by
  have h32 := ok32 ok
  have hlen := ok.2.2.1
  intro m
  induction m with
  | zero =>
    intro v hv b hb
    refine evstep (fun k => by rw [impl_Cube_hasUniqueSinks.l1]) (evneg (by omega) ?_)
    rw [w64 (by omega) (by omega)]
    exact next b (hb.trans ⟨fun h => h.2, fun h => ⟨fun u h1 h2 => by omega, h⟩⟩)
  | succ m ih =>
    intro v hv b hb
    have hvl : v < l.length := by omega
    rw [split_head (P := fun u => Free (2 ^ d) (sN l) D u) hvl, and_assoc] at hb
    refine evstep (fun k => by rw [impl_Cube_hasUniqueSinks.l1]) (evpos (by omega) ?_)
    rw [and_nat (by omega) (by omega), w64 (by omega) (by omega)]
    by_cases c : v &&& D = 0
    · refine evpos (by omega) (evbind (sinksIn_eq ok (by omega) (by omega)) ?_)
      by_cases e : C (2 ^ d) (sN l) D v 0 = 1
      · refine evpos (by omega) ?_
        exact ih (v + 1) (by omega) b (hb.trans ⟨fun h => h.2, fun h => ⟨fun _ => e, h⟩⟩)
      · refine evneg (by omega) ?_
        rw [bool_iff hb (fun h => e (h.1 c))]
        exact evc rfl
    · refine evneg (by omega) ?_
      exact ih (v + 1) (by omega) b (hb.trans ⟨fun h => h.2, fun h => ⟨fun k => absurd k c, h⟩⟩)
theorem has_out : ∀ m D, D + m = l.length → ∀ b, (b = true ↔ ∀ x, D ≤ x → x < l.length → ∀ v, v < l.length → Free (2 ^ d) (sN l) x v) → Ev (fun k => impl_Cube_hasUniqueSinks.l0 k (l.length : Int) D d l) b := by
  have h32 := ok32 ok
  intro m
  induction m with
  | zero =>
    intro D hD b hb
    refine evstep (fun k => by rw [impl_Cube_hasUniqueSinks.l0]) (evneg (by omega) ?_)
    rw [hb.2 (fun x h1 h2 => by omega)]
    exact evc rfl
  | succ m ih =>
    intro D hD b hb
    refine evstep (fun k => by rw [impl_Cube_hasUniqueSinks.l0]) (evpos (by omega) ?_)
    rw [split_head (P := fun x => ∀ v, v < l.length → Free (2 ^ d) (sN l) x v) (show D < l.length by omega)] at hb
    exact has_in ok D (by omega) (ih (D + 1) (by omega)) l.length 0 (by omega) b (hb.trans ⟨fun h => ⟨fun u _ hu => h.1 u hu, h.2⟩, fun h => ⟨fun u hu => h.1 u (Nat.zero_le _) hu, h.2⟩⟩)
theorem free_sinks : (∀ x, 0 ≤ x → x < l.length → ∀ v, v < l.length → Free (2 ^ d) (sN l) x v) ↔ Sinks (2 ^ d) (sN l) := by
  have hlen := ok.2.2.1
  constructor
  · intro h D v hD hv
    have hle : v ^^^ (v &&& D) < 2 ^ d := Nat.xor_lt_two_pow hv (Nat.and_lt_two_pow _ hD)
    have k := h D (Nat.zero_le _) (by omega) (v ^^^ (v &&& D)) (by omega) (by
      apply Nat.eq_of_testBit_eq
      intro j
      simp only [Nat.testBit_and, Nat.testBit_xor, Nat.zero_testBit]
      cases v.testBit j <;> cases D.testBit j <;> rfl)
    rw [← k]
    exact C_same _ _ (fun j hj => by simp [Nat.testBit_xor, Nat.testBit_and, hj]) (fun _ _ => rfl)
  · intro h D _ hD v hv _
    exact h D v (by omega) (by omega)
theorem impl_unique (b : Bool) (hb : b = true ↔ Pairs (2 ^ d) (sN l)) : Ev (fun k => impl_Cube_hasUniqueSinks.f k d l) b := by
  unfold impl_Cube_hasUniqueSinks.f
  exact has_out ok l.length 0 (by omega) b (hb.trans (sinks_iff_pairs.symm.trans (free_sinks ok).symm))
end
end Go.Proofs.Ytlnoidhaoinpbaa.Cu
