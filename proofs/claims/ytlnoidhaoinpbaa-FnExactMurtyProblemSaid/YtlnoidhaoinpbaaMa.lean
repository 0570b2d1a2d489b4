/- Plain facts: rounds (Ev), whole numbers of 64 bits without overflow, and Go's operations on bits as those of natural numbers. -/
import Derived.Test.YtlnoidhaoinpbaaWMore
import Derived.Laws.BitsLemmas
namespace Go.Proofs.Ytlnoidhaoinpbaa.Ma
open Go.RowKit Go.Proofs.YtlnoidhaoinpbaaW.PrintWords Go.Proofs.YtlnoidhaoinpbaaW.PrintMore
set_option linter.unusedVariables false

/-! ### rounds -/
theorem evc {α : Type} {g : Option α} {r : α} (h : g = some r) : Ev (fun _ => g) r := ⟨0, fun _ _ => h⟩
theorem evpos {α : Type} {A B : Nat → Option α} {r : α} {c : Prop} [Decidable c] (h : c) (k : Ev A r) : Ev (fun n => if c then A n else B n) r := by
  obtain ⟨K, k⟩ := k
  exact ⟨K, fun n hn => by simp only [if_pos h]; exact k n hn⟩
theorem evneg {α : Type} {A B : Nat → Option α} {r : α} {c : Prop} [Decidable c] (h : ¬ c) (k : Ev B r) : Ev (fun n => if c then A n else B n) r := by
  obtain ⟨K, k⟩ := k
  exact ⟨K, fun n hn => by simp only [if_neg h]; exact k n hn⟩
theorem evbind {α β : Type} {g : Nat → Option α} {f : Nat → α → Option β} {a : α} {r : β} (h : Ev g a) (k : Ev (fun n => f n a) r) : Ev (fun n => (g n).bind (f n)) r := Ev.bind h k
theorem evsome {α β : Type} {g : Option α} {f : Nat → α → Option β} {a : α} {r : β} (h : g = some a) (k : Ev (fun n => f n a) r) : Ev (fun n => g.bind (f n)) r := Ev.bind (evc h) k
theorem evstep {α : Type} {g f : Nat → Option α} {r : α} (h : ∀ k, g (k + 1) = f k) (k : Ev f r) : Ev g r := Ev.step h k
theorem evmap {α β : Type} {g : Nat → Option α} {a : α} (f : α → β) (h : Ev g a) : Ev (fun n => (g n).bind fun t => some (f t)) (f a) := evbind h (evc rfl)
theorem evk {α : Type} {g : Nat → Option α} {r : α} (h : Ev g r) : ∃ k, g k = some r := Ev.rounds h

/-! ### whole numbers -/
theorem w64 {x : Int} (h0 : -9223372036854775808 ≤ x) (h1 : x ≤ 9223372036854775807) : wrap64 x = x := by unfold wrap64; omega
theorem u64w {x : Int} (h0 : 0 ≤ x) (h1 : x ≤ 9223372036854775807) : IntKind.u64.wrap x = x := by
  simp only [IntKind.wrap, IntKind.bits, IntKind.signed]
  simp
  omega
theorem rd_nat (l : List Int) (i : Nat) : rd l (i : Int) = l.getD i 0 := by simp [rd]

/-! ### bits -/
/-- The bit i of a whole number of 64 bits. -/
def bB (x : Int) (i : Nat) : Bool := (BitVec.ofInt 64 x).getLsbD i
theorem mod_div_two (x : Int) (i : Nat) (h : i < 64) : (x % 2 ^ 64) / 2 ^ i % 2 = x / 2 ^ i % 2 := by
  have e : (2 : Int) ^ 64 = 2 ^ i * (2 * 2 ^ (63 - i)) := by
    have : (64 : Nat) = i + (1 + (63 - i)) := by omega
    rw [show (2 : Int) ^ 64 = 2 ^ (i + (1 + (63 - i))) from by rw [← this], Int.pow_add, Int.pow_add]
    simp
  have hp : (0 : Int) < 2 ^ i := Int.pow_pos (by decide)
  have h1 : x % 2 ^ 64 = x + 2 ^ i * (2 * (-(2 ^ (63 - i) * (x / 2 ^ 64)))) := by
    have h2 := Int.emod_add_mul_ediv x (2 ^ 64)
    have h3 : (2 : Int) ^ 64 * (x / 2 ^ 64) = 2 ^ i * (2 * (2 ^ (63 - i) * (x / 2 ^ 64))) := by
      generalize x / 2 ^ 64 = y
      rw [e]; simp only [Int.mul_assoc]
    rw [Int.mul_neg, Int.mul_neg, ← h3]
    omega
  rw [h1, Int.add_mul_ediv_left _ _ (Int.ne_of_gt hp), Int.add_mul_emod_self_left]
theorem bB_div (x : Int) (i : Nat) (h : i < 64) : bB x i = decide (x / 2 ^ i % 2 = 1) := by
  unfold bB
  rw [← BitVec.testBit_toNat, BitVec.toNat_ofInt, Nat.testBit_eq_decide_div_mod_eq]
  have e : ((2 ^ 64 : Nat) : Int) = 2 ^ 64 := by decide
  rw [e]
  have h0 : 0 ≤ x % 2 ^ 64 := Int.emod_nonneg _ (by decide)
  have k := mod_div_two x i h
  obtain ⟨n, hn⟩ := Int.eq_ofNat_of_zero_le h0
  rw [hn] at k ⊢
  rw [← k, Int.toNat_natCast]
  have : ((n : Int) / 2 ^ i % 2) = ((n / 2 ^ i % 2 : Nat) : Int) := by simp
  rw [this]
  rw [Bool.eq_iff_iff]
  simp only [decide_eq_true_eq]
  omega
theorem bB_nat (n i : Nat) (h : i < 64) : bB (n : Int) i = n.testBit i := by
  unfold bB
  rw [BitVec.ofInt_natCast, BitVec.getLsbD_ofNat]
  simp [h]
theorem wraps_i64 (n : Int) (h₀ : 0 ≤ n) (h₁ : n < 2 ^ 63) : IntKind.i64.wrap n = n := by rw [IntKind.wrap_i64]; omega
theorem and_nat {a b : Nat} (ha : a < 2 ^ 63) (hb : b < 2 ^ 63) : Go.bits .and .i64 (a : Int) b = ((a &&& b : Nat) : Int) := (bits_nat .i64 63 (by decide) wraps_i64 a b ha hb).1
theorem or_nat {a b : Nat} (ha : a < 2 ^ 63) (hb : b < 2 ^ 63) : Go.bits .or .i64 (a : Int) b = ((a ||| b : Nat) : Int) := (bits_nat .i64 63 (by decide) wraps_i64 a b ha hb).2
theorem lt63 {n : Nat} (h : n < 2 ^ 63) : ((n : Nat) : Int) < 2 ^ 63 := by exact_mod_cast h
theorem xor_nat {a b : Nat} (ha : a < 2 ^ 63) (hb : b < 2 ^ 63) : Go.bits .xor .i64 (a : Int) b = ((a ^^^ b : Nat) : Int) := by
  have e : (BitVec.ofInt 64 (a : Int) ^^^ BitVec.ofInt 64 (b : Int)).toNat = a ^^^ b := by
    rw [BitVec.ofInt_natCast, BitVec.ofInt_natCast, BitVec.toNat_xor, BitVec.toNat_ofNat, BitVec.toNat_ofNat, Nat.mod_eq_of_lt (by omega), Nat.mod_eq_of_lt (by omega)]
  show IntKind.i64.wrap (((BitVec.ofInt 64 (a : Int) ^^^ BitVec.ofInt 64 (b : Int)).toNat : Nat) : Int) = _
  rw [e]
  exact wraps_i64 _ (Int.natCast_nonneg _) (lt63 (Nat.xor_lt_two_pow ha hb))
theorem andNot_nat {a b : Nat} (ha : a < 2 ^ 63) (hb : b < 2 ^ 63) : Go.bits .andNot .i64 (a : Int) b = ((a ^^^ (a &&& b) : Nat) : Int) := by
  have e : (BitVec.ofInt 64 (a : Int) &&& ~~~BitVec.ofInt 64 (b : Int)).toNat = a ^^^ (a &&& b) := by
    apply Nat.eq_of_testBit_eq
    intro i
    rw [BitVec.testBit_toNat, BitVec.ofInt_natCast, BitVec.ofInt_natCast, BitVec.getLsbD_and, BitVec.getLsbD_not, BitVec.getLsbD_ofNat, BitVec.getLsbD_ofNat, Nat.testBit_xor, Nat.testBit_and]
    by_cases h : i < 64
    · simp only [h, decide_true, Bool.true_and]; cases a.testBit i <;> cases b.testBit i <;> rfl
    · have : a.testBit i = false := Nat.testBit_lt_two_pow (Nat.lt_of_lt_of_le ha (Nat.pow_le_pow_right (by decide) (by omega)))
      simp [h, this]
  show IntKind.i64.wrap (((BitVec.ofInt 64 (a : Int) &&& ~~~BitVec.ofInt 64 (b : Int)).toNat : Nat) : Int) = _
  rw [e]
  exact wraps_i64 _ (Int.natCast_nonneg _) (lt63 (Nat.xor_lt_two_pow ha (Nat.and_lt_two_pow _ hb)))
/-- Any number and one bit. -/
theorem and_pow (x : Int) {i : Nat} (h : i < 63) : Go.bits .and .i64 x (2 ^ i) = if bB x i = true then 2 ^ i else 0 := by
  have e : (BitVec.ofInt 64 x &&& BitVec.ofInt 64 ((2 ^ i : Nat) : Int)).toNat = if bB x i = true then 2 ^ i else 0 := by
    apply Nat.eq_of_testBit_eq
    intro j
    rw [BitVec.testBit_toNat, BitVec.ofInt_natCast, BitVec.getLsbD_and, BitVec.getLsbD_ofNat, Nat.testBit_two_pow]
    unfold bB
    by_cases hj : i = j
    · subst hj
      cases hb : (BitVec.ofInt 64 x).getLsbD i <;> simp [show i < 64 from by omega]
    · cases hb : (BitVec.ofInt 64 x).getLsbD i <;> simp [hj]
  show IntKind.i64.wrap (((BitVec.ofInt 64 x &&& BitVec.ofInt 64 (2 ^ i)).toNat : Nat) : Int) = _
  have e2 : ((2 ^ i : Nat) : Int) = 2 ^ i := by simp
  rw [← e2, e]
  have hp : (2 : Nat) ^ i < 2 ^ 63 := Nat.pow_lt_pow_right (by decide) h
  split
  · exact wraps_i64 _ (Int.natCast_nonneg _) (lt63 hp)
  · rfl
theorem shl_one {i : Int} (h0 : 0 ≤ i) (h1 : i ≤ 62) : shl .i64 1 i = ((2 ^ i.toNat : Nat) : Int) := by
  unfold shl
  obtain ⟨n, rfl⟩ := Int.eq_ofNat_of_zero_le h0
  have hn : n ≤ 62 := by omega
  rw [Int.toNat_natCast, Nat.min_eq_left (by simp [IntKind.bits]; omega), Int.one_mul]
  have e2 : ((2 ^ n : Nat) : Int) = 2 ^ n := by simp
  rw [← e2]
  exact wraps_i64 _ (Int.natCast_nonneg _) (lt63 (Nat.pow_lt_pow_right (by decide) (by omega)))
theorem shr_div {x i : Int} (h0 : 0 ≤ i) (h1 : i ≤ 63) : shr .i64 x i = x / 2 ^ i.toNat := by
  unfold shr
  rw [Nat.min_eq_left (by simp [IntKind.bits]; omega)]
/-- 's >> i & 1 == 1'. -/
theorem shr_and_one (x : Int) {i : Nat} (h : i < 64) : Go.bits .and .i64 (shr .i64 x (i : Int)) 1 = if bB x i = true then 1 else 0 := by
  rw [shr_div (by omega) (by omega), Int.toNat_natCast]
  have k := and_pow (x / 2 ^ i) (i := 0) (by omega)
  rw [Int.pow_zero] at k
  rw [k, bB_div _ 0 (by omega), bB_div x i h, Int.pow_zero, Int.ediv_one]
end Go.Proofs.Ytlnoidhaoinpbaa.Ma
