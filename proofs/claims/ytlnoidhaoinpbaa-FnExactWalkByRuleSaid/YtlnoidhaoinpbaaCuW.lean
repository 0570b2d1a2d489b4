/- WalkByRule: the walks of the program and of the reference are the same, at every cube, vertex and rule. -/
import Derived.Test.YtlnoidhaoinpbaaCuX
import Derived.Test.YtlnoidhaoinpbaaUs
import Derived.Test.YtlnoidhaoinpbaaSl
import Derived.Test.YtlnoidhaoinpbaaPrx34
import Derived.Test.YtlnoidhaoinpbaaPrx36
namespace Go.Proofs.Ytlnoidhaoinpbaa.Cu
open Go.RowKit Go.Proofs.YtlnoidhaoinpbaaW.PrintWords Go.Proofs.YtlnoidhaoinpbaaW.PrintMore Go.Proofs.Ytlnoidhaoinpbaa.Ma Go.Proofs.Ytlnoidhaoinpbaa.Pr Go.Proofs.Ytlnoidhaoinpbaa.Us Go.Proofs.Ytlnoidhaoinpbaa.Sl
set_option linter.unusedVariables false

/-! ### bits of numbers below 32 -/
theorem low_fin : ∀ s : Fin 32, s.val ≠ 0 → ∃ i, i < 5 ∧ s.val.testBit i = true ∧ (∀ j, j < i → s.val.testBit j = false) ∧ Go.bits .and .i64 (s.val : Int) (wrap64 (-(s.val : Int))) = ((2 ^ i : Nat) : Int) := by decide +kernel
theorem high_fin : ∀ s : Fin 32, s.val ≠ 0 → (2 ^ s.val.log2 ≤ s.val ∧ s.val < 2 ^ (s.val.log2 + 1) ∧ s.val.log2 < 5) ∧ (s.val &&& (s.val - 1) = 0 → s.val = 2 ^ s.val.log2) ∧ (s.val &&& (s.val - 1) ≠ 0 → (s.val &&& (s.val - 1)).log2 = s.val.log2 ∧ s.val &&& (s.val - 1) < s.val) := by decide +kernel
theorem low_of {s : Nat} (h0 : s ≠ 0) (h : s < 32) : ∃ i, i < 5 ∧ s.testBit i = true ∧ (∀ j, j < i → s.testBit j = false) ∧ Go.bits .and .i64 (s : Int) (wrap64 (-(s : Int))) = ((2 ^ i : Nat) : Int) := low_fin ⟨s, h⟩ h0
theorem high_of {s : Nat} (h0 : s ≠ 0) (h : s < 32) : (2 ^ s.log2 ≤ s ∧ s < 2 ^ (s.log2 + 1) ∧ s.log2 < 5) ∧ (s &&& (s - 1) = 0 → s = 2 ^ s.log2) ∧ (s &&& (s - 1) ≠ 0 → (s &&& (s - 1)).log2 = s.log2 ∧ s &&& (s - 1) < s) := high_fin ⟨s, h⟩ h0
theorem pow5 {i : Nat} (h : i < 5) : 2 ^ i ≤ 16 := Nat.pow_le_pow_right (n := 2) (by decide) (show i ≤ 4 by omega)
theorem and_pow_zero {s i : Nat} (hs : s < 32) (hi : i < 5) : Go.bits .and .i64 (s : Int) ((2 ^ i : Nat) : Int) = 0 ↔ s.testBit i = false := by
  have h16 := pow5 hi
  have e2 : ((2 ^ i : Nat) : Int) = 2 ^ i := by simp
  rw [e2, and_pow _ (by omega), bB_nat _ _ (by omega)]
  have hp : (2 : Int) ^ i ≠ 0 := Int.ne_of_gt (Int.pow_pos (by decide))
  cases s.testBit i <;> simp [hp]
theorem great_bit : ∀ n s : Nat, s ≤ n → s ≠ 0 → s < 32 → Ev (fun k => impl_greatestBit.l0 k (s : Int)) ((2 ^ s.log2 : Nat) : Int) := by
  intro n
  induction n with
  | zero => intro s h h0; omega
  | succ n ih =>
    intro s h h0 h32
    obtain ⟨_, c1, c2⟩ := high_of h0 h32
    have e : Go.bits .and .i64 (s : Int) (wrap64 ((s : Int) - 1)) = ((s &&& (s - 1) : Nat) : Int) := by
      rw [w64 (by omega) (by omega), show (s : Int) - 1 = ((s - 1 : Nat) : Int) from by omega]
      exact and_nat (by omega) (by omega)
    refine evstep (fun k => by rw [impl_greatestBit.l0]) ?_
    rw [e]
    by_cases c : s &&& (s - 1) = 0
    · refine evpos (by omega) (evc ?_)
      rw [← c1 c]
    · obtain ⟨d1, d2⟩ := c2 c
      refine evneg (by omega) ?_
      have := ih (s &&& (s - 1)) (by omega) c (by omega)
      rw [d1] at this
      exact this

section
variable {d : Nat} {l : List Int} (ok : CubeOK d l)
include ok
theorem next_low {v : Nat} (hv : v < l.length) {i : Nat} (hi : i < 5) (hb : (sN l v).testBit i = true) (hz : ∀ j, j < i → (sN l v).testBit j = false) : ∀ m j, j + m = i → Ev (fun k => spec_l06Next.l0 k v ((2 ^ j : Nat) : Int) d l) ((v ^^^ 2 ^ i : Nat) : Int) := by
  have h32 := ok32 ok
  obtain ⟨ea, la⟩ := at_nat ok hv
  have hs : sN l v < 32 := by have := pow_le ok.2.1; omega
  have h16 := pow5 hi
  intro m
  induction m with
  | zero =>
    intro j hj
    obtain rfl : j = i := by omega
    refine evstep (fun k => by rw [spec_l06Next.l0]) (evpos (by omega) (evpos (by omega) ?_))
    rw [rd_nat, show l.getD v 0 = (sN l v : Int) from ea]
    refine evneg (fun h => by rw [(and_pow_zero hs hi).1 h] at hb; cases hb) (evc ?_)
    rw [xor_nat (by omega) (by omega)]
  | succ m ih =>
    intro j hj
    have hp := pow5 (show j < 5 by omega)
    have hq : (0 : Int) ≤ ((2 ^ j : Nat) : Int) := Int.natCast_nonneg _
    refine evstep (fun k => by rw [spec_l06Next.l0]) (evpos (by omega) (evpos (by omega) ?_))
    rw [rd_nat, show l.getD v 0 = (sN l v : Int) from ea]
    refine evpos ((and_pow_zero hs (by omega)).2 (hz j (by omega))) ?_
    have := ih (j + 1) (by omega)
    rw [w64 (by omega) (by omega), show 2 * ((2 ^ j : Nat) : Int) = ((2 ^ (j + 1) : Nat) : Int) from by rw [Nat.pow_succ]; omega]
    exact this
theorem next_high {v : Nat} (hv : v < l.length) (h0 : sN l v ≠ 0) : ∀ m j, j + m = (sN l v).log2 → Ev (fun k => spec_l06Next.l1 k v ((2 ^ j : Nat) : Int) d l) ((v ^^^ 2 ^ (sN l v).log2 : Nat) : Int) := by
  have h32 := ok32 ok
  obtain ⟨ea, la⟩ := at_nat ok hv
  have hs : sN l v < 32 := by have := pow_le ok.2.1; omega
  obtain ⟨⟨g1, g2, g3⟩, _⟩ := high_of h0 hs
  intro m
  induction m with
  | zero =>
    intro j hj
    obtain rfl : j = (sN l v).log2 := by omega
    have hp := pow5 g3
    have hq : (0 : Int) ≤ ((2 ^ (sN l v).log2 : Nat) : Int) := Int.natCast_nonneg _
    refine evstep (fun k => by rw [spec_l06Next.l1]) (evpos (by omega) (evpos (by omega) ?_))
    rw [rd_nat, show l.getD v 0 = (sN l v : Int) from ea, w64 (by omega) (by omega)]
    refine evneg (by rw [Nat.pow_succ] at g2; omega) (evc ?_)
    rw [xor_nat (by omega) (by omega)]
  | succ m ih =>
    intro j hj
    have hp := pow5 (show j < 5 by omega)
    have hq : (0 : Int) ≤ ((2 ^ j : Nat) : Int) := Int.natCast_nonneg _
    have hle : 2 ^ (j + 1) ≤ 2 ^ (sN l v).log2 := Nat.pow_le_pow_right (by decide) (by omega)
    refine evstep (fun k => by rw [spec_l06Next.l1]) (evpos (by omega) (evpos (by omega) ?_))
    rw [rd_nat, show l.getD v 0 = (sN l v : Int) from ea, w64 (by omega) (by omega), show 2 * ((2 ^ j : Nat) : Int) = ((2 ^ (j + 1) : Nat) : Int) from by rw [Nat.pow_succ]; omega]
    exact evpos (by omega) (ih (j + 1) (by omega))
/-- The vertex behind one that is no sink. -/
theorem next_same {v : Nat} (hv : v < l.length) (h0 : sN l v ≠ 0) (rule : Int) (hr : 0 ≤ rule ∧ rule ≤ 2) : ∃ u : Nat, u < l.length ∧ Ev (fun k => spec_l06Next.f k d l v rule) (u : Int) ∧ Ev (fun k => impl_Cube_next.f k d l v rule) (u : Int) := by
  have h32 := ok32 ok
  have hlen := ok.2.2.1
  obtain ⟨ea, la⟩ := at_nat ok hv
  have hs : sN l v < 32 := by have := pow_le ok.2.1; omega
  unfold spec_l06Next.f impl_Cube_next.f
  rw [rd_nat, show l.getD v 0 = (sN l v : Int) from ea]
  by_cases c2 : rule = 2
  · refine ⟨v ^^^ sN l v, by rw [hlen]; exact Nat.xor_lt_two_pow (by omega) la, ?_, ?_⟩
    · refine evpos c2 (evpos (by omega) (evpos (by omega) (evc ?_)))
      rw [xor_nat (by omega) (by omega)]
    · refine evpos (by omega) (evpos (by omega) (evneg (by omega) (evneg (by omega) (evc ?_))))
      rw [xor_nat (by omega) (by omega)]
  · by_cases c0 : rule = 0
    · obtain ⟨i, hi, hb, hz, hneg⟩ := low_of h0 hs
      have hid : i < d := bit_lt la hb
      refine ⟨v ^^^ 2 ^ i, xor_lt hlen hv hid, ?_, ?_⟩
      · refine evneg c2 (evpos c0 ?_)
        exact next_low ok hv hi hb hz i 0 (by omega)
      · refine evpos (by omega) (evpos (by omega) (evpos c0 (evc ?_)))
        rw [hneg, xor_nat (by omega) (by have := pow5 hi; omega)]
    · obtain ⟨⟨g1, g2, g3⟩, _⟩ := high_of h0 hs
      have hid : (sN l v).log2 < d := by
        rcases Nat.lt_or_ge (sN l v).log2 d with h | h
        · exact h
        · have := Nat.pow_le_pow_right (n := 2) (by decide) h; omega
      refine ⟨v ^^^ 2 ^ (sN l v).log2, xor_lt hlen hv hid, ?_, ?_⟩
      · refine evneg c2 (evneg c0 ?_)
        exact next_high ok hv h0 (sN l v).log2 0 (by omega)
      · refine evpos (by omega) (evpos (by omega) (evneg c0 (evpos (by omega) (evbind (great_bit _ _ (Nat.le_refl _) h0 hs) (evc ?_)))))
        rw [xor_nat (by omega) (by have := pow5 g3; omega)]
end
/-- How many vertices are not met yet. -/
def left_ : List Bool → Nat
  | [] => 0
  | b :: l => (if b then 0 else 1) + left_ l
theorem left_set : ∀ (m : List Bool) (i : Nat), i < m.length → m.getD i false = false → left_ (m.set i true) + 1 = left_ m
  | [], i, h, _ => by simp at h
  | b :: m, 0, _, h => by
    have : b = false := by simpa using h
    subst this
    simp [left_]
    omega
  | b :: m, i + 1, h, hb => by
    have := left_set m i (by simpa using h) (by simpa using hb)
    simp only [List.set_cons_succ, left_]
    omega
theorem rdOf_nat (m : List Bool) (i : Nat) : rdOf false m (i : Int) = m.getD i false := by simp [rdOf]
theorem walk_same {d : Nat} {l : List Int} (ok : CubeOK d l) (rule : Int) (hr : 0 ≤ rule ∧ rule ≤ 2) : ∀ c (met : List Bool) (v : Nat) (out : List Int), met.length = l.length → left_ met = c → v < l.length → (∀ u : Nat, u < l.length → (met.getD u false = true ↔ (u : Int) ∈ out)) → out.length + c ≤ 64 →
    ∃ r : List Int, r.length ≤ out.length + c + 1 ∧ Ev (fun k => spec_WalkByRule.l0 k v rule met out d l) (r, 0) ∧ Ev (fun k => impl_WalkByRule.l0 k v rule out d l) (r, 0) := by
  have h32 := ok32 ok
  intro c
  induction c with
  | zero =>
    intro met v out hm hc hv hin ho
    obtain ⟨ea, la⟩ := at_nat ok hv
    by_cases h0 : sN l v = 0
    · refine ⟨out, by omega, ?_, ?_⟩
      · refine evstep (fun k => by rw [spec_WalkByRule.l0]) (evpos (by omega) (evpos (by omega) ?_))
        rw [rd_nat, show l.getD v 0 = (sN l v : Int) from ea]
        exact evpos (by omega) (evc rfl)
      · refine evstep (fun k => by rw [impl_WalkByRule.l0]) (evpos (by omega) (evpos (by omega) ?_))
        rw [rd_nat, show l.getD v 0 = (sN l v : Int) from ea]
        exact evpos (by omega) (evc rfl)
    · obtain ⟨u, hu, e1, e2⟩ := next_same ok hv h0 rule hr
      have hmet : met.getD u false = true := by
        cases hq : met.getD u false
        · have := left_set met u (by omega) hq; omega
        · rfl
      refine ⟨out ++ [(u : Int)], by simp, ?_, ?_⟩
      · refine evstep (fun k => by rw [spec_WalkByRule.l0]) (evpos (by omega) (evpos (by omega) ?_))
        rw [rd_nat, show l.getD v 0 = (sN l v : Int) from ea]
        refine evneg (by omega) (evbind e1 (evpos (by omega) (evsome rfl (evpos (by omega) (evpos (by omega) ?_)))))
        rw [rdOf_nat]
        exact evpos hmet (evc rfl)
      · refine evstep (fun k => by rw [impl_WalkByRule.l0]) (evpos (by omega) (evpos (by omega) ?_))
        rw [rd_nat, show l.getD v 0 = (sN l v : Int) from ea]
        refine evneg (by omega) (evbind e2 (evbind (contains_eq out u (by omega)) (evpos (by omega) (evsome rfl ?_))))
        exact evpos (by simpa using (hin u hu).1 hmet) (evc rfl)
  | succ c ih =>
    intro met v out hm hc hv hin ho
    obtain ⟨ea, la⟩ := at_nat ok hv
    by_cases h0 : sN l v = 0
    · refine ⟨out, by omega, ?_, ?_⟩
      · refine evstep (fun k => by rw [spec_WalkByRule.l0]) (evpos (by omega) (evpos (by omega) ?_))
        rw [rd_nat, show l.getD v 0 = (sN l v : Int) from ea]
        exact evpos (by omega) (evc rfl)
      · refine evstep (fun k => by rw [impl_WalkByRule.l0]) (evpos (by omega) (evpos (by omega) ?_))
        rw [rd_nat, show l.getD v 0 = (sN l v : Int) from ea]
        exact evpos (by omega) (evc rfl)
    · obtain ⟨u, hu, e1, e2⟩ := next_same ok hv h0 rule hr
      cases hmet : met.getD u false with
      | true =>
        refine ⟨out ++ [(u : Int)], by simp, ?_, ?_⟩
        · refine evstep (fun k => by rw [spec_WalkByRule.l0]) (evpos (by omega) (evpos (by omega) ?_))
          rw [rd_nat, show l.getD v 0 = (sN l v : Int) from ea]
          refine evneg (by omega) (evbind e1 (evpos (by omega) (evsome rfl (evpos (by omega) (evpos (by omega) ?_)))))
          rw [rdOf_nat]
          exact evpos hmet (evc rfl)
        · refine evstep (fun k => by rw [impl_WalkByRule.l0]) (evpos (by omega) (evpos (by omega) ?_))
          rw [rd_nat, show l.getD v 0 = (sN l v : Int) from ea]
          refine evneg (by omega) (evbind e2 (evbind (contains_eq out u (by omega)) (evpos (by omega) (evsome rfl ?_))))
          exact evpos (by simpa using (hin u hu).1 hmet) (evc rfl)
      | false =>
        have hleft := left_set met u (by omega) hmet
        have hnew : ∀ x : Nat, x < l.length → ((met.set u true).getD x false = true ↔ (x : Int) ∈ out ++ [(u : Int)]) := by
          intro x hx
          by_cases e : x = u
          · subst e
            simp [show x < met.length from by omega]
          · have : (met.set u true).getD x false = met.getD x false := by simp [Ne.symm e]
            rw [this, hin x hx]
            simp
            omega
        obtain ⟨r, hlen, r1, r2⟩ := ih (met.set u true) u (out ++ [(u : Int)]) (by simp; omega) (by omega) hu hnew (by simp; omega)
        refine ⟨r, by simp at hlen; omega, ?_, ?_⟩
        · refine evstep (fun k => by rw [spec_WalkByRule.l0]) (evpos (by omega) (evpos (by omega) ?_))
          rw [rd_nat, show l.getD v 0 = (sN l v : Int) from ea]
          refine evneg (by omega) (evbind e1 (evpos (by omega) (evsome rfl (evpos (by omega) (evpos (by omega) ?_)))))
          rw [rdOf_nat, Int.toNat_natCast]
          exact evneg (by rw [hmet]; decide) r1
        · refine evstep (fun k => by rw [impl_WalkByRule.l0]) (evpos (by omega) (evpos (by omega) ?_))
          rw [rd_nat, show l.getD v 0 = (sN l v : Int) from ea]
          refine evneg (by omega) (evbind e2 (evbind (contains_eq out u (by omega)) (evpos (by omega) (evsome rfl ?_))))
          have hno : ¬ (u : Int) ∈ out := fun h => by rw [(hin u hu).2 h] at hmet; cases hmet
          exact evneg (by simpa using hno) r2
theorem left_rep (n : Nat) : left_ (List.replicate n false) = n := by
  induction n with
  | zero => rfl
  | succ n ih => rw [List.replicate_succ, left_, ih]; simp; omega
theorem walks (d : Int) (l : List Int) (v rule : Int) : ∃ r : List Int × Int, r.1.length ≤ 64 ∧ Ev (fun k => spec_WalkByRule.f k d l v rule) r ∧ Ev (fun k => impl_WalkByRule.f k d l v rule) r := by
  classical
  obtain ⟨c1, c2, c3⟩ := codeR_one d l v
  have hcode := spec_code d l [v] (by simp)
  have his := impl_is d l (decide (IsC d l)) (by simp)
  unfold spec_WalkByRule.f impl_WalkByRule.f
  by_cases h : IsC d l
  · obtain ⟨n, rfl⟩ := Int.eq_ofNat_of_zero_le h.1
    have ok : CubeOK n l := h.2
    have h32 := ok32 ok
    by_cases e : IsV l v
    · by_cases hr : 0 ≤ rule ∧ rule ≤ 2
      · obtain ⟨x, rfl⟩ := Int.eq_ofNat_of_zero_le e.1
        have hx : x < l.length := by have := e.2; omega
        have hl0 := left_set (List.replicate l.length false) x (by simpa using hx) (by simp [hx])
        rw [left_rep] at hl0
        obtain ⟨r, hlen, r1, r2⟩ := walk_same ok rule hr _ ((List.replicate l.length false).set x true) x [(x : Int)] (by simp) rfl hx (fun u hu => by
          by_cases q : u = x
          · subst q; simp [hu]
          · simp [Ne.symm q, hu]; omega) (by simp; omega)
        refine ⟨(r, 0), by simp at hlen ⊢; omega, ?_, ?_⟩
        · refine evbind hcode ?_
          rw [c1 ⟨h, e⟩]
          refine evpos rfl (evsome (within_eq _ _ _) (evstep (fun k => by rw [spec_WalkByRule.j0]) (evneg (by simp [hr]) (evstep (fun k => by rw [spec_WalkByRule.j1]) ?_))))
          refine evpos rfl (evpos (by omega) (evpos (by omega) (evsome rfl (evpos (by omega) (evpos (by simp; omega) ?_)))))
          simpa using r1
        · refine evbind his (evpos (by simpa using h) (evsome (impl_vertex _ l x h32) (evpos (decide_eq_true (show 0 ≤ (x : Int) ∧ (x : Int) ≤ (l.length : Int) - 1 from e)) (evsome (iwithin_eq _ _ _) (evstep (fun k => by rw [impl_WalkByRule.j0]) (evneg (by simp [hr]) ?_))))))
          exact r2
      · refine ⟨([], 2), by simp, ?_, ?_⟩
        · refine evbind hcode ?_
          rw [c1 ⟨h, e⟩]
          refine evpos rfl (evsome (within_eq _ _ _) (evstep (fun k => by rw [spec_WalkByRule.j0]) (evpos (by simp; omega) (evstep (fun k => by rw [spec_WalkByRule.j1]) ?_))))
          exact evneg (by decide) (evc rfl)
        · refine evbind his (evpos (by simpa using h) (evsome (impl_vertex _ l v h32) (evpos (decide_eq_true (show 0 ≤ v ∧ v ≤ (l.length : Int) - 1 from e)) (evsome (iwithin_eq _ _ _) (evstep (fun k => by rw [impl_WalkByRule.j0]) (evpos (by simp; omega) (evc rfl)))))))
    · refine ⟨([], 2), by simp, ?_, ?_⟩
      · refine evbind hcode ?_
        rw [c2 ⟨h, e⟩]
        refine evneg (by decide) (evstep (fun k => by rw [spec_WalkByRule.j0]) (evneg (by decide) (evstep (fun k => by rw [spec_WalkByRule.j1]) ?_)))
        exact evneg (by decide) (evc rfl)
      · refine evbind his (evpos (by simpa using h) (evsome (impl_vertex _ l v h32) (evneg (fun k => e (of_decide_eq_true (p := 0 ≤ v ∧ v ≤ (l.length : Int) - 1) k)) (evstep (fun k => by rw [impl_WalkByRule.j0]) (evpos rfl (evc rfl))))))
  · refine ⟨([], 1), by simp, ?_, ?_⟩
    · refine evbind hcode ?_
      rw [c3 h]
      refine evneg (by decide) (evstep (fun k => by rw [spec_WalkByRule.j0]) (evneg (by decide) (evstep (fun k => by rw [spec_WalkByRule.j1]) ?_)))
      exact evneg (by decide) (evc rfl)
    · exact evbind his (evneg (by simpa using h) (evc rfl))
end Go.Proofs.Ytlnoidhaoinpbaa.Cu
