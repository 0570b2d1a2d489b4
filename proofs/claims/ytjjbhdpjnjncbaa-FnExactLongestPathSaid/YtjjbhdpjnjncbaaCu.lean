/- Orientations of cubes: what IsCube tests, for the program and for the reference. -/
import Derived.Test.YtjjbhdpjnjncbaaMa
import Derived.Test.YtjjbhdpjnjncbaaPrx16
import Derived.Test.YtjjbhdpjnjncbaaPrx19
namespace Go.Proofs.Ytjjbhdpjnjncbaa.Cu
open Go.RowKit Go.Proofs.YtjjbhdpjnjncbaaW.PrintWords Go.Proofs.YtjjbhdpjnjncbaaW.PrintMore Go.Proofs.Ytjjbhdpjnjncbaa.Ma Go.Proofs.Ytjjbhdpjnjncbaa.Pr
set_option linter.unusedVariables false

/-- The entry of a vertex. -/
def at_ (l : List Int) (v : Nat) : Int := l.getD v 0
def Edge (l : List Int) (v j : Nat) : Prop := bB (at_ l v) j ≠ bB (at_ l (v ^^^ 2 ^ j)) j
def VOK (d : Nat) (l : List Int) (v : Nat) : Prop := 0 ≤ at_ l v ∧ at_ l v ≤ (l.length : Int) - 1 ∧ ∀ j, j < d → Edge l v j
/-- The list is the orientation of a cube of d dimensions. -/
def CubeOK (d : Nat) (l : List Int) : Prop := 1 ≤ d ∧ d ≤ 5 ∧ l.length = 2 ^ d ∧ ∀ v, v < l.length → VOK d l v

theorem pow_le {d : Nat} (h : d ≤ 5) : 2 ^ d ≤ 32 := Nat.pow_le_pow_right (n := 2) (by decide) h
theorem pow_lt63 {i : Nat} (h : i < 63) : 2 ^ i < 2 ^ 63 := Nat.pow_lt_pow_right (by decide) h
theorem within_eq (x a b : Int) : spec_l01In.f x a b = some (decide (a ≤ x ∧ x ≤ b)) := by
  unfold spec_l01In.f
  by_cases h : a ≤ x
  · rw [if_pos (by omega)]; simp [h]
  · rw [if_neg (by omega)]; simp [h]
theorem iwithin_eq (x a b : Int) : impl_within.f x a b = some (decide (a ≤ x ∧ x ≤ b)) := by
  unfold impl_within.f
  by_cases h : a ≤ x
  · rw [if_pos (by omega)]; simp [h]
  · rw [if_neg (by omega)]; simp [h]
theorem has_eq (x : Int) {i : Nat} (h : i < 64) : impl_has.f x (i : Int) = some (bB x i) := by
  unfold impl_has.f
  rw [if_pos (by omega), shr_and_one x h]
  cases bB x i <;> rfl
theorem xor_pow {v i : Nat} (hv : v < 2 ^ 63) (hi : i < 63) : Go.bits .xor .i64 (v : Int) (shl .i64 1 (i : Int)) = ((v ^^^ 2 ^ i : Nat) : Int) := by
  rw [shl_one (by omega) (by omega), Int.toNat_natCast]
  exact xor_nat hv (pow_lt63 hi)
theorem and_shl (x : Int) {i : Nat} (hi : i < 63) : Go.bits .and .i64 x (shl .i64 1 (i : Int)) = if bB x i = true then 2 ^ i else 0 := by
  rw [shl_one (by omega) (by omega), Int.toNat_natCast]
  have e2 : ((2 ^ i : Nat) : Int) = 2 ^ i := by simp
  rw [e2]
  exact and_pow x hi
theorem and_same (x y : Int) {i : Nat} (hi : i < 63) : Go.bits .and .i64 x (shl .i64 1 (i : Int)) = Go.bits .and .i64 y (shl .i64 1 (i : Int)) ↔ bB x i = bB y i := by
  rw [and_shl x hi, and_shl y hi]
  have hp : (2 : Int) ^ i ≠ 0 := Int.ne_of_gt (Int.pow_pos (by decide))
  cases bB x i <;> cases bB y i <;> simp [hp, Ne.symm hp]
theorem split_head {P : Nat → Prop} {i d : Nat} (h : i < d) : (∀ j, i ≤ j → j < d → P j) ↔ P i ∧ ∀ j, i + 1 ≤ j → j < d → P j :=
  ⟨fun f => ⟨f i (Nat.le_refl _) h, fun j h1 h2 => f j (by omega) h2⟩, fun ⟨a, f⟩ j h1 h2 => by
    by_cases e : i = j
    · subst e; exact a
    · exact f j (by omega) h2⟩
theorem bool_iff {b : Bool} {p : Prop} (h : b = true ↔ p) (hp : ¬ p) : b = false := by
  cases b
  · rfl
  · exact absurd (h.1 rfl) hp

theorem xor_lt {d : Nat} {l : List Int} (hn : l.length = 2 ^ d) {v i : Nat} (hv : v < l.length) (hi : i < d) : v ^^^ 2 ^ i < l.length := by
  rw [hn] at hv ⊢
  exact Nat.xor_lt_two_pow hv (Nat.pow_lt_pow_right (by decide) hi)
section
variable {d : Nat} {l : List Int} (hd : d ≤ 5) (hn : l.length = 2 ^ d)
include hd hn
theorem len32 : l.length ≤ 32 := by rw [hn]; exact pow_le hd

theorem spec_in (v : Nat) (hv : v < l.length) (next : ∀ b, (b = true ↔ ∀ u, v + 1 ≤ u → u < l.length → VOK d l u) → Ev (fun k => spec_l06Is.l0 k ((v + 1 : Nat) : Int) d l) b) :
    ∀ m i, i + m = d → ∀ b, (b = true ↔ (∀ j, i ≤ j → j < d → Edge l v j) ∧ ∀ u, v + 1 ≤ u → u < l.length → VOK d l u) → Ev (fun k => spec_l06Is.l1 k v i d l) b := by
  have h32 := len32 hd hn
  intro m
  induction m with
  | zero =>
    intro i hi b hb
    refine evstep (fun k => by rw [spec_l06Is.l1]) ?_
    refine evneg (by omega) ?_
    rw [w64 (by omega) (by omega)]
    exact next b (hb.trans ⟨fun h => h.2, fun h => ⟨fun j h1 h2 => by omega, h⟩⟩)
  | succ m ih =>
    intro i hi b hb
    have hid : i < d := by omega
    have hx := xor_lt hn hv hid
    refine evstep (fun k => by rw [spec_l06Is.l1]) ?_
    refine evpos (by omega) ?_
    rw [u64w (by omega) (by omega), xor_pow (by omega) (by omega)]
    refine evpos (by omega) (evpos (by omega) (evpos (by omega) (evpos (by omega) (evpos (by omega) ?_))))
    rw [split_head hid, and_assoc] at hb
    rw [rd_nat, rd_nat]
    by_cases e : bB (at_ l v) i = bB (at_ l (v ^^^ 2 ^ i)) i
    · refine evpos ((and_same _ _ (by omega)).2 e) ?_
      rw [bool_iff hb (fun h => h.1 e)]
      exact evc rfl
    · refine evneg (fun h => e ((and_same _ _ (by omega)).1 h)) ?_
      rw [w64 (by omega) (by omega)]
      exact ih (i + 1) (by omega) b (hb.trans ⟨fun h => h.2, fun h => ⟨e, h⟩⟩)
theorem spec_out : ∀ m v, v + m = l.length → ∀ b, (b = true ↔ ∀ u, v ≤ u → u < l.length → VOK d l u) → Ev (fun k => spec_l06Is.l0 k v d l) b := by
  have h32 := len32 hd hn
  intro m
  induction m with
  | zero =>
    intro v hv b hb
    refine evstep (fun k => by rw [spec_l06Is.l0]) ?_
    refine evneg (by omega) ?_
    rw [hb.2 (fun u h1 h2 => by omega)]
    exact evc rfl
  | succ m ih =>
    intro v hv b hb
    have hlt : v < l.length := by omega
    refine evstep (fun k => by rw [spec_l06Is.l0]) ?_
    refine evpos (by omega) (evpos (by omega) (evsome (within_eq _ _ _) ?_))
    rw [w64 (by omega) (by omega), rd_nat]
    rw [split_head hlt] at hb
    by_cases e : 0 ≤ at_ l v ∧ at_ l v ≤ (l.length : Int) - 1
    · refine evpos (by simpa [at_] using e) ?_
      refine spec_in hd hn v hlt (ih (v + 1) (by omega)) d 0 (by omega) b (hb.trans ?_)
      exact ⟨fun h => ⟨fun j _ hj => h.1.2.2 j hj, h.2⟩, fun h => ⟨⟨e.1, e.2, fun j hj => h.1 j (Nat.zero_le _) hj⟩, h.2⟩⟩
    · refine evneg (by simpa [at_] using e) ?_
      rw [bool_iff hb (fun h => e ⟨h.1.1, h.1.2.1⟩)]
      exact evc rfl

theorem impl_in (v : Nat) (hv : v < l.length) (next : ∀ b, (b = true ↔ ∀ u, v + 1 ≤ u → u < l.length → VOK d l u) → Ev (fun k => impl_IsCube.l0 k l (l.length : Int) ((v + 1 : Nat) : Int) d l) b) :
    ∀ m i, i + m = d → ∀ b, (b = true ↔ (∀ j, i ≤ j → j < d → Edge l v j) ∧ ∀ u, v + 1 ≤ u → u < l.length → VOK d l u) → Ev (fun k => impl_IsCube.l1 k v (at_ l v) l (l.length : Int) v d i d l) b := by
  have h32 := len32 hd hn
  intro m
  induction m with
  | zero =>
    intro i hi b hb
    refine evstep (fun k => by rw [impl_IsCube.l1]) ?_
    refine evneg (by omega) ?_
    rw [w64 (by omega) (by omega)]
    exact next b (hb.trans ⟨fun h => h.2, fun h => ⟨fun j h1 h2 => by omega, h⟩⟩)
  | succ m ih =>
    intro i hi b hb
    have hid : i < d := by omega
    have hx := xor_lt hn hv hid
    refine evstep (fun k => by rw [impl_IsCube.l1]) ?_
    refine evpos (by omega) (evsome (has_eq _ (by omega)) ?_)
    rw [xor_pow (by omega) (by omega)]
    refine evpos (by omega) (evpos (by omega) (evpos (by omega) ?_))
    rw [rd_nat]
    refine evsome (has_eq _ (by omega)) ?_
    rw [split_head hid, and_assoc] at hb
    by_cases e : bB (at_ l v) i = bB (at_ l (v ^^^ 2 ^ i)) i
    · refine evpos (by simpa [at_] using e) ?_
      rw [bool_iff hb (fun h => h.1 e)]
      exact evc rfl
    · refine evneg (by simpa [at_] using e) ?_
      rw [w64 (by omega) (by omega)]
      exact ih (i + 1) (by omega) b (hb.trans ⟨fun h => h.2, fun h => ⟨e, h⟩⟩)
theorem impl_out : ∀ m v, v + m = l.length → ∀ b, (b = true ↔ ∀ u, v ≤ u → u < l.length → VOK d l u) → Ev (fun k => impl_IsCube.l0 k l (l.length : Int) v d l) b := by
  have h32 := len32 hd hn
  intro m
  induction m with
  | zero =>
    intro v hv b hb
    refine evstep (fun k => by rw [impl_IsCube.l0]) ?_
    refine evneg (by omega) ?_
    rw [hb.2 (fun u h1 h2 => by omega)]
    exact evc rfl
  | succ m ih =>
    intro v hv b hb
    have hlt : v < l.length := by omega
    refine evstep (fun k => by rw [impl_IsCube.l0]) ?_
    refine evpos (by omega) (evpos (by omega) (evpos (by omega) (evsome (iwithin_eq _ _ _) ?_)))
    rw [w64 (by omega) (by omega), rd_nat]
    rw [split_head hlt] at hb
    by_cases e : 0 ≤ at_ l v ∧ at_ l v ≤ (l.length : Int) - 1
    · refine evpos (by simpa [at_] using e) ?_
      refine impl_in hd hn v hlt (ih (v + 1) (by omega)) d 0 (by omega) b (hb.trans ?_)
      exact ⟨fun h => ⟨fun j _ hj => h.1.2.2 j hj, h.2⟩, fun h => ⟨⟨e.1, e.2, fun j hj => h.1 j (Nat.zero_le _) hj⟩, h.2⟩⟩
    · refine evneg (by simpa [at_] using e) ?_
      rw [bool_iff hb (fun h => e ⟨h.1.1, h.1.2.1⟩)]
      exact evc rfl
end

/-- A vertex's entry, as a natural number. -/
def sN (l : List Int) (v : Nat) : Nat := (at_ l v).toNat
theorem at_nat {d : Nat} {l : List Int} (h : CubeOK d l) {v : Nat} (hv : v < l.length) : at_ l v = (sN l v : Int) ∧ sN l v < 2 ^ d := by
  obtain ⟨h0, h1, _⟩ := h.2.2.2 v hv
  have := h.2.2.1
  unfold sN
  omega
theorem ok32 {d : Nat} {l : List Int} (h : CubeOK d l) : l.length ≤ 32 := len32 h.2.1 h.2.2.1
theorem small {d : Nat} (hd : d ≤ 5) {x : Nat} (h : x < 2 ^ d) : x < 2 ^ 63 := by have := pow_le hd; omega
theorem len_test (d : Nat) (l : List Int) (hd : d ≤ 5) : ((l.length : Int) != shl .i64 1 (d : Int)) = decide (l.length ≠ 2 ^ d) := by
  rw [shl_one (by omega) (by omega), Int.toNat_natCast, Bool.eq_iff_iff]
  simp only [bne_iff_ne, decide_eq_true_eq, ne_eq]
  exact ⟨fun h e => h (by exact_mod_cast e), fun h e => h (by exact_mod_cast e)⟩
def IsC (d : Int) (l : List Int) : Prop := 0 ≤ d ∧ CubeOK d.toNat l
theorem spec_is (d : Int) (l : List Int) (b : Bool) (hb : b = true ↔ IsC d l) : Ev (fun k => spec_l06Is.f k d l) b := by
  unfold spec_l06Is.f
  refine evsome (within_eq _ _ _) ?_
  by_cases h : 1 ≤ d ∧ d ≤ 5
  · refine evpos (by simpa using h) ?_
    rw [u64w (by omega) (by omega)]
    refine evpos (by omega) (evstep (fun k => by rw [spec_l06Is.j0]) ?_)
    obtain ⟨n, rfl⟩ := Int.eq_ofNat_of_zero_le (show 0 ≤ d by omega)
    rw [len_test n l (by omega)]
    by_cases e : l.length = 2 ^ n
    · refine evneg (by simpa using e) ?_
      refine spec_out (by omega) e l.length 0 (by omega) b (hb.trans ?_)
      exact ⟨fun k u _ hu => k.2.2.2.2 u hu, fun k => ⟨by omega, by simp only [Int.toNat_natCast]; omega, by simp only [Int.toNat_natCast]; omega, e, fun v hv => k v (Nat.zero_le _) hv⟩⟩
    · refine evpos (by simpa using e) ?_
      rw [bool_iff hb (fun k => e k.2.2.2.1)]
      exact evc rfl
  · refine evneg (by simpa using h) (evstep (fun k => by rw [spec_l06Is.j0]) (evpos rfl ?_))
    rw [bool_iff hb (fun k => h (by have := k.2.1; have := k.2.2.1; have := k.1; omega))]
    exact evc rfl
theorem impl_is (d : Int) (l : List Int) (b : Bool) (hb : b = true ↔ IsC d l) : Ev (fun k => impl_IsCube.f k d l) b := by
  unfold impl_IsCube.f
  refine evsome (iwithin_eq _ _ _) ?_
  by_cases h : 1 ≤ d ∧ d ≤ 5
  · refine evpos (by simpa using h) (evpos (by omega) (evstep (fun k => by rw [impl_IsCube.j0]) ?_))
    obtain ⟨n, rfl⟩ := Int.eq_ofNat_of_zero_le (show 0 ≤ d by omega)
    rw [len_test n l (by omega)]
    by_cases e : l.length = 2 ^ n
    · refine evneg (by simpa using e) ?_
      refine impl_out (by omega) e l.length 0 (by omega) b (hb.trans ?_)
      exact ⟨fun k u _ hu => k.2.2.2.2 u hu, fun k => ⟨by omega, by simp only [Int.toNat_natCast]; omega, by simp only [Int.toNat_natCast]; omega, e, fun v hv => k v (Nat.zero_le _) hv⟩⟩
    · refine evpos (by simpa using e) ?_
      rw [bool_iff hb (fun k => e k.2.2.2.1)]
      exact evc rfl
  · refine evneg (by simpa using h) (evstep (fun k => by rw [impl_IsCube.j0]) (evpos rfl ?_))
    rw [bool_iff hb (fun k => h (by have := k.2.1; have := k.2.2.1; have := k.1; omega))]
    exact evc rfl
end Go.Proofs.Ytjjbhdpjnjncbaa.Cu
