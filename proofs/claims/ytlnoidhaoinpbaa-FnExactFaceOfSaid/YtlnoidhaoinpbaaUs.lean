/- Orientations of cubes with unique sinks: each face has just one sink exactly if any two vertices differ in a direction in which their outmaps do. Conditions: none beyond the theorems' own. -/
import Derived.Test.YtlnoidhaoinpbaaMa
namespace Go.Proofs.Ytlnoidhaoinpbaa.Us
set_option linter.unusedVariables false
open Classical

/-- How many numbers below n are such. -/
noncomputable def chk (P : Nat → Prop) (w : Nat) : Bool := decide (P w)
theorem chk_yes {P : Nat → Prop} {w : Nat} (h : P w) : chk P w = true := by simp [chk, h]
theorem chk_no {P : Nat → Prop} {w : Nat} (h : ¬ P w) : chk P w = false := by simp [chk, h]
noncomputable def cnt (n : Nat) (P : Nat → Prop) : Nat := (List.range n).countP (chk P)
theorem cnt_congr {n : Nat} {P Q : Nat → Prop} (h : ∀ w, w < n → (P w ↔ Q w)) : cnt n P = cnt n Q := by
  unfold cnt
  apply List.countP_congr
  intro w hw
  simp [chk, h w (List.mem_range.1 hw)]
theorem cnt_split (n : Nat) (P Q : Nat → Prop) : cnt n P = cnt n (fun w => P w ∧ Q w) + cnt n (fun w => P w ∧ ¬ Q w) := by
  unfold cnt
  induction (List.range n) with
  | nil => rfl
  | cons a l ih =>
    rw [List.countP_cons, List.countP_cons, List.countP_cons, ih]
    by_cases hp : P a <;> by_cases hq : Q a <;> simp [chk, hp, hq] <;> omega
theorem countP_le_one {l : List Nat} (hn : l.Nodup) {p : Nat → Bool} (h : ∀ a b, a ∈ l → b ∈ l → p a = true → p b = true → a = b) : l.countP p ≤ 1 := by
  induction l with
  | nil => simp
  | cons a l ih =>
    rw [List.nodup_cons] at hn
    rw [List.countP_cons]
    by_cases ha : p a = true
    · have : l.countP p = 0 := List.countP_eq_zero.2 (fun b hb hpb => hn.1 (by
        rw [h a b List.mem_cons_self (List.mem_cons_of_mem _ hb) ha hpb]; exact hb))
      simp [ha, this]
    · have := ih hn.2 (fun x y hx hy => h x y (List.mem_cons_of_mem _ hx) (List.mem_cons_of_mem _ hy))
      simp [ha]
      exact this
theorem cnt_le_one {n : Nat} {P : Nat → Prop} (h : ∀ a b, a < n → b < n → P a → P b → a = b) : cnt n P ≤ 1 :=
  countP_le_one List.nodup_range (fun a b ha hb pa pb => h a b (List.mem_range.1 ha) (List.mem_range.1 hb) (by simpa [chk] using pa) (by simpa [chk] using pb))
theorem cnt_pos {n : Nat} {P : Nat → Prop} {a : Nat} (ha : a < n) (h : P a) : 1 ≤ cnt n P := by
  unfold cnt
  exact List.countP_pos_iff.2 ⟨a, List.mem_range.2 ha, chk_yes h⟩
theorem cnt_two {n : Nat} {P : Nat → Prop} {a b : Nat} (ha : a < n) (hb : b < n) (hab : a ≠ b) (pa : P a) (pb : P b) : 2 ≤ cnt n P := by
  rw [cnt_split n P (fun w => w = a)]
  have h1 := cnt_pos (P := fun w => P w ∧ w = a) ha ⟨pa, rfl⟩
  have h2 := cnt_pos (P := fun w => P w ∧ ¬ w = a) hb ⟨pb, fun e => hab e.symm⟩
  omega

/-- w lies in the face of v and the directions D. -/
def inF (D v w : Nat) : Prop := ∀ j, D.testBit j = false → w.testBit j = v.testBit j
/-- a and b are alike in the directions D. -/
def onD (D a b : Nat) : Prop := ∀ j, D.testBit j = true → a.testBit j = b.testBit j
noncomputable def C (n : Nat) (s : Nat → Nat) (D v f : Nat) : Nat := cnt n fun w => inF D v w ∧ onD D (s w) f

theorem tb_flip (x k j : Nat) : (x ^^^ 2 ^ k).testBit j = if j = k then !x.testBit j else x.testBit j := by
  rw [Nat.testBit_xor, Nat.testBit_two_pow]
  by_cases h : j = k
  · subst h; simp
  · simp [h, Ne.symm h]
/-- A direction k of D: the face falls into two, and its vertices into two kinds. -/
theorem C_halves (n : Nat) (s : Nat → Nat) {D k : Nat} (hk : D.testBit k = true) (v f : Nat) :
    C n s D v f + C n s D v (f ^^^ 2 ^ k) = C n s (D ^^^ 2 ^ k) v f + C n s (D ^^^ 2 ^ k) (v ^^^ 2 ^ k) f := by
  have e1 := cnt_split n (fun w => inF D v w ∧ onD (D ^^^ 2 ^ k) (s w) f) (fun w => (s w).testBit k = f.testBit k)
  have e2 := cnt_split n (fun w => inF D v w ∧ onD (D ^^^ 2 ^ k) (s w) f) (fun w => w.testBit k = v.testBit k)
  have a1 : cnt n (fun w => (inF D v w ∧ onD (D ^^^ 2 ^ k) (s w) f) ∧ (s w).testBit k = f.testBit k) = C n s D v f := cnt_congr fun w _ => by
    constructor
    · rintro ⟨⟨h1, h2⟩, h3⟩
      refine ⟨h1, fun j hj => ?_⟩
      by_cases e : j = k
      · subst e; exact h3
      · exact h2 j (by rw [tb_flip]; simp [e, hj])
    · rintro ⟨h1, h2⟩
      refine ⟨⟨h1, fun j hj => ?_⟩, h2 k hk⟩
      rw [tb_flip] at hj
      by_cases e : j = k
      · subst e; simp [hk] at hj
      · simp [e] at hj; exact h2 j hj
  have a2 : cnt n (fun w => (inF D v w ∧ onD (D ^^^ 2 ^ k) (s w) f) ∧ ¬ (s w).testBit k = f.testBit k) = C n s D v (f ^^^ 2 ^ k) := cnt_congr fun w _ => by
    constructor
    · rintro ⟨⟨h1, h2⟩, h3⟩
      refine ⟨h1, fun j hj => ?_⟩
      rw [tb_flip]
      by_cases e : j = k
      · subst e; simp; cases hx : (s w).testBit j <;> cases hy : f.testBit j <;> simp_all
      · simp [e]; exact h2 j (by rw [tb_flip]; simp [e, hj])
    · rintro ⟨h1, h2⟩
      refine ⟨⟨h1, fun j hj => ?_⟩, fun h3 => ?_⟩
      · rw [tb_flip] at hj
        by_cases e : j = k
        · subst e; simp [hk] at hj
        · simp [e] at hj
          have := h2 j hj
          rw [tb_flip] at this
          simpa [e] using this
      · have := h2 k hk
        rw [tb_flip, h3] at this
        simp at this
  have b1 : cnt n (fun w => (inF D v w ∧ onD (D ^^^ 2 ^ k) (s w) f) ∧ w.testBit k = v.testBit k) = C n s (D ^^^ 2 ^ k) v f := cnt_congr fun w _ => by
    constructor
    · rintro ⟨⟨h1, h2⟩, h3⟩
      refine ⟨fun j hj => ?_, h2⟩
      rw [tb_flip] at hj
      by_cases e : j = k
      · subst e; exact h3
      · simp [e] at hj; exact h1 j hj
    · rintro ⟨h1, h2⟩
      refine ⟨⟨fun j hj => ?_, h2⟩, h1 k (by rw [tb_flip]; simp [hk])⟩
      have e : j ≠ k := by rintro rfl; simp [hk] at hj
      exact h1 j (by rw [tb_flip]; simp [e, hj])
  have b2 : cnt n (fun w => (inF D v w ∧ onD (D ^^^ 2 ^ k) (s w) f) ∧ ¬ w.testBit k = v.testBit k) = C n s (D ^^^ 2 ^ k) (v ^^^ 2 ^ k) f := cnt_congr fun w _ => by
    constructor
    · rintro ⟨⟨h1, h2⟩, h3⟩
      refine ⟨fun j hj => ?_, h2⟩
      rw [tb_flip] at hj ⊢
      by_cases e : j = k
      · subst e; simp; cases hx : w.testBit j <;> cases hy : v.testBit j <;> simp_all
      · simp [e] at hj ⊢; exact h1 j hj
    · rintro ⟨h1, h2⟩
      refine ⟨⟨fun j hj => ?_, h2⟩, fun h3 => ?_⟩
      · have e : j ≠ k := by rintro rfl; simp [hk] at hj
        have := h1 j (by rw [tb_flip]; simp [e, hj])
        rw [tb_flip] at this
        simpa [e] using this
      · have := h1 k (by rw [tb_flip]; simp [hk])
        rw [tb_flip, h3] at this
        simp at this
  rw [a1, a2] at e1
  rw [b1, b2] at e2
  omega

theorem C_same (n : Nat) (s : Nat → Nat) {D v v' f f' : Nat} (hv : ∀ j, D.testBit j = false → v.testBit j = v'.testBit j) (hf : onD D f f') : C n s D v f = C n s D v' f' :=
  cnt_congr fun w _ => ⟨fun ⟨h1, h2⟩ => ⟨fun j hj => (h1 j hj).trans (hv j hj), fun j hj => (h2 j hj).trans (hf j hj)⟩, fun ⟨h1, h2⟩ => ⟨fun j hj => (h1 j hj).trans (hv j hj).symm, fun j hj => (h2 j hj).trans (hf j hj).symm⟩⟩

def Pairs (n : Nat) (s : Nat → Nat) : Prop := ∀ v w, v < n → w < n → v ≠ w → ∃ j, (s v).testBit j ≠ (s w).testBit j ∧ v.testBit j ≠ w.testBit j
def Sinks (n : Nat) (s : Nat → Nat) : Prop := ∀ D v, D < n → v < n → C n s D v 0 = 1

theorem flip_lt {d x k : Nat} (hx : x < 2 ^ d) (hk : k < d) : x ^^^ 2 ^ k < 2 ^ d := Nat.xor_lt_two_pow hx (Nat.pow_lt_pow_right (by decide) hk)
theorem bit_lt {d x k : Nat} (hx : x < 2 ^ d) (hk : x.testBit k = true) : k < d := by
  rcases Nat.lt_or_ge k d with h | h
  · exact h
  · have := Nat.testBit_lt_two_pow (Nat.lt_of_lt_of_le hx (Nat.pow_le_pow_right (by decide) h))
    rw [this] at hk
    cases hk
theorem all_one {d : Nat} {s : Nat → Nat} (h : Sinks (2 ^ d) s) : ∀ k D v f, D < 2 ^ d → v < 2 ^ d → (∀ j, k ≤ j → D.testBit j = true → f.testBit j = false) → C (2 ^ d) s D v f = 1 := by
  intro k
  induction k with
  | zero =>
    intro D v f hD hv hf
    rw [C_same (2 ^ d) s (v' := v) (f' := 0) (fun _ _ => rfl) (fun j hj => by rw [hf j (Nat.zero_le _) hj, Nat.zero_testBit])]
    exact h D v hD hv
  | succ k ih =>
    intro D v f hD hv hf
    by_cases hk : D.testBit k = true
    · by_cases hfk : f.testBit k = true
      · have hkd := bit_lt hD hk
        have e := C_halves (2 ^ d) s hk v f
        have h0 := ih D v (f ^^^ 2 ^ k) hD hv (fun j hj hDj => by
          rw [tb_flip]
          by_cases e : j = k
          · subst e; simp [hfk]
          · simp [e]; exact hf j (by omega) hDj)
        have hf' : ∀ j, k ≤ j → (D ^^^ 2 ^ k).testBit j = true → f.testBit j = false := fun j hj hDj => by
          rw [tb_flip] at hDj
          by_cases e : j = k
          · subst e; simp [hk] at hDj
          · simp [e] at hDj; exact hf j (by omega) hDj
        have h1 := ih (D ^^^ 2 ^ k) v f (flip_lt hD hkd) hv hf'
        have h2 := ih (D ^^^ 2 ^ k) (v ^^^ 2 ^ k) f (flip_lt hD hkd) (flip_lt hv hkd) hf'
        omega
      · refine ih D v f hD hv (fun j hj hDj => ?_)
        by_cases e : j = k
        · subst e; simpa using hfk
        · exact hf j (by omega) hDj
    · refine ih D v f hD hv (fun j hj hDj => ?_)
      have e : j ≠ k := by rintro rfl; exact hk hDj
      exact hf j (by omega) hDj
theorem pairs_of_sinks {d : Nat} {s : Nat → Nat} (h : Sinks (2 ^ d) s) : Pairs (2 ^ d) s := by
  intro v w hv hw hne
  apply Classical.byContradiction
  intro hno
  have hall : ∀ j, v.testBit j ≠ w.testBit j → (s v).testBit j = (s w).testBit j := fun j hj => Classical.byContradiction fun hs => hno ⟨j, hs, hj⟩
  have hD : v ^^^ w < 2 ^ d := Nat.xor_lt_two_pow hv hw
  have h1 := all_one h d (v ^^^ w) v (s v) hD hv (fun j hj hDj => absurd (bit_lt hD hDj) (by omega))
  have hx : ∀ j, (v ^^^ w).testBit j = true ↔ v.testBit j ≠ w.testBit j := fun j => by rw [Nat.testBit_xor]; simp
  have hface : inF (v ^^^ w) v w := by
    intro j hj
    apply Classical.byContradiction
    intro e
    have := (hx j).2 (fun e' => e e'.symm)
    rw [this] at hj
    cases hj
  have h2 := cnt_two (P := fun u => inF (v ^^^ w) v u ∧ onD (v ^^^ w) (s u) (s v)) hv hw hne ⟨fun _ _ => rfl, fun _ _ => rfl⟩
    ⟨hface, fun j hj => (hall j ((hx j).1 hj)).symm⟩
  unfold C at h1
  omega
theorem one_of_pairs {d : Nat} {s : Nat → Nat} (h : Pairs (2 ^ d) s) : ∀ k D v f, D < 2 ^ d → v < 2 ^ d → (∀ j, k ≤ j → D.testBit j = false) → C (2 ^ d) s D v f = 1 := by
  have le : ∀ D v f, C (2 ^ d) s D v f ≤ 1 := fun D v f => cnt_le_one fun a b ha hb ⟨a1, a2⟩ ⟨b1, b2⟩ => by
    apply Classical.byContradiction
    intro hne
    obtain ⟨j, h1, h2⟩ := h a b ha hb hne
    cases hj : D.testBit j
    · exact h2 ((a1 j hj).trans (b1 j hj).symm)
    · exact h1 ((a2 j hj).trans (b2 j hj).symm)
  intro k
  induction k with
  | zero =>
    intro D v f hD hv h0
    have h1 := le D v f
    have h2 : 1 ≤ C (2 ^ d) s D v f := cnt_pos (a := v) hv ⟨fun _ _ => rfl, fun j hj => by rw [h0 j (Nat.zero_le _)] at hj; cases hj⟩
    omega
  | succ k ih =>
    intro D v f hD hv h0
    by_cases hk : D.testBit k = true
    · have hkd := bit_lt hD hk
      have e := C_halves (2 ^ d) s hk v f
      have hz : ∀ j, k ≤ j → (D ^^^ 2 ^ k).testBit j = false := fun j hj => by
        rw [tb_flip]
        by_cases e : j = k
        · subst e; simp [hk]
        · simp [e]; exact h0 j (by omega)
      have h1 := ih (D ^^^ 2 ^ k) v f (flip_lt hD hkd) hv hz
      have h2 := ih (D ^^^ 2 ^ k) (v ^^^ 2 ^ k) f (flip_lt hD hkd) (flip_lt hv hkd) hz
      have h3 := le D v f
      have h4 := le D v (f ^^^ 2 ^ k)
      omega
    · refine ih D v f hD hv (fun j hj => ?_)
      by_cases e : j = k
      · subst e; simpa using hk
      · exact h0 j (by omega)
theorem sinks_of_pairs {d : Nat} {s : Nat → Nat} (h : Pairs (2 ^ d) s) : Sinks (2 ^ d) s := fun D v hD hv =>
  one_of_pairs h d D v 0 hD hv (fun j hj => by
    cases e : D.testBit j
    · rfl
    · exact absurd (bit_lt hD e) (by omega))
/-- The theorem of Szabó and Welzl. -/
theorem sinks_iff_pairs {d : Nat} {s : Nat → Nat} : Sinks (2 ^ d) s ↔ Pairs (2 ^ d) s := ⟨pairs_of_sinks, sinks_of_pairs⟩
end Go.Proofs.Ytlnoidhaoinpbaa.Us
