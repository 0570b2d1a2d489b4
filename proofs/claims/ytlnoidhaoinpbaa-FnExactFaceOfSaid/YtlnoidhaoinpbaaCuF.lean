/- FaceOf: the faces of the program and of the reference are the same, at every cube, vertex and set of directions. -/
import Derived.Test.YtlnoidhaoinpbaaCuX
import Derived.Test.YtlnoidhaoinpbaaUs
import Derived.Test.YtlnoidhaoinpbaaPrx39
import Derived.Test.YtlnoidhaoinpbaaPrx41
import Derived.Test.YtlnoidhaoinpbaaPrx40
import Derived.Test.YtlnoidhaoinpbaaPrx40
import Derived.Test.YtlnoidhaoinpbaaPrx40
namespace Go.Proofs.Ytlnoidhaoinpbaa.Cu
open Go.RowKit Go.Proofs.YtlnoidhaoinpbaaW.PrintWords Go.Proofs.YtlnoidhaoinpbaaW.PrintMore Go.Proofs.Ytlnoidhaoinpbaa.Ma Go.Proofs.Ytlnoidhaoinpbaa.Pr Go.Proofs.Ytlnoidhaoinpbaa.Us
set_option linter.unusedVariables false

/-! ### digits at the directions of a set, for numbers below 32: by trying all -/
def gathN (x D : Nat) : Nat := ((impl_gathered.f 6 x D).getD 0).toNat
def sprN (x D : Nat) : Nat := ((impl_spread.f 6 x D).getD 0).toNat
def onesN (D : Nat) : Nat := ((impl_count.f 6 D).getD 0).toNat
theorem gath_fin : ∀ x D : Fin 32, impl_gathered.f 6 (x.val : Int) (D.val : Int) = some (gathN x.val D.val : Int) ∧ spec_l06Gather.f 6 (x.val : Int) (D.val : Int) = some (gathN x.val D.val : Int) := by decide +kernel
theorem spr_fin : ∀ x D : Fin 32, impl_spread.f 6 (x.val : Int) (D.val : Int) = some (sprN x.val D.val : Int) := by decide +kernel
theorem ones_fin : ∀ D : Fin 32, impl_count.f 6 (D.val : Int) = some (onesN D.val : Int) ∧ spec_l01Ones.f 6 (D.val : Int) = some (onesN D.val : Int) ∧ onesN D.val ≤ 5 := by decide +kernel
theorem bits_fin : ∀ x D : Fin 32, sprN x.val D.val &&& D.val = sprN x.val D.val ∧ (x.val < 2 ^ onesN D.val → gathN (sprN x.val D.val) D.val = x.val) ∧ gathN x.val D.val = gathN (x.val &&& D.val) D.val ∧ sprN (gathN x.val D.val) D.val = x.val &&& D.val ∧ gathN x.val D.val < 2 ^ onesN D.val := by decide +kernel

theorem gath_impl {x D : Nat} (hx : x < 32) (hD : D < 32) : Ev (fun k => impl_gathered.f k (x : Int) D) (gathN x D : Int) := Ev.of (impl_gathered.mono _ _) (gath_fin ⟨x, hx⟩ ⟨D, hD⟩).1
theorem gath_spec {x D : Nat} (hx : x < 32) (hD : D < 32) : Ev (fun k => spec_l06Gather.f k (x : Int) D) (gathN x D : Int) := Ev.of (spec_l06Gather.mono _ _) (gath_fin ⟨x, hx⟩ ⟨D, hD⟩).2
theorem spr_impl {x D : Nat} (hx : x < 32) (hD : D < 32) : Ev (fun k => impl_spread.f k (x : Int) D) (sprN x D : Int) := Ev.of (impl_spread.mono _ _) (spr_fin ⟨x, hx⟩ ⟨D, hD⟩)
theorem ones_impl {D : Nat} (hD : D < 32) : Ev (fun k => impl_count.f k (D : Int)) (onesN D : Int) := Ev.of (impl_count.mono _) (ones_fin ⟨D, hD⟩).1
theorem ones_spec {D : Nat} (hD : D < 32) : Ev (fun k => spec_l01Ones.f k (D : Int)) (onesN D : Int) := Ev.of (spec_l01Ones.mono _) (ones_fin ⟨D, hD⟩).2.1
theorem ones_le {D : Nat} (hD : D < 32) : onesN D ≤ 5 := (ones_fin ⟨D, hD⟩).2.2

section
variable {d : Nat} {l : List Int} (ok : CubeOK d l)
/-- The vertex of the face with the number u. -/
def wU (v D u : Nat) : Nat := (v ^^^ (v &&& D)) ||| sprN u D
theorem wU_bit (v D u j : Nat) : (wU v D u).testBit j = if D.testBit j then (sprN u D).testBit j else (v.testBit j || (sprN u D).testBit j) := by
  unfold wU
  rw [Nat.testBit_or, Nat.testBit_xor, Nat.testBit_and]
  cases D.testBit j <;> simp
theorem spr_in {u D : Nat} (hu : u < 32) (hD : D < 32) (j : Nat) (h : D.testBit j = false) : (sprN u D).testBit j = false := by
  have := congrArg (fun x => x.testBit j) (bits_fin ⟨u, hu⟩ ⟨D, hD⟩).1
  simp only [Nat.testBit_and, h, Bool.and_false] at this
  exact this.symm
theorem wU_and {v u D : Nat} (hu : u < 32) (hD : D < 32) : wU v D u &&& D = sprN u D := by
  apply Nat.eq_of_testBit_eq
  intro j
  rw [Nat.testBit_and, wU_bit]
  cases h : D.testBit j
  · simp [spr_in hu hD j h]
  · simp
theorem wU_lt {d v u D : Nat} (hu : u < 32) (hD32 : D < 32) (hv : v < 2 ^ d) (hD : D < 2 ^ d) : wU v D u < 2 ^ d := by
  unfold wU
  refine Nat.or_lt_two_pow (Nat.xor_lt_two_pow hv (Nat.and_lt_two_pow _ hD)) ?_
  rw [← (bits_fin ⟨u, hu⟩ ⟨D, hD32⟩).1]
  exact Nat.and_lt_two_pow _ hD
theorem gath_wU {v u D : Nat} (hu : u < 2 ^ onesN D) (hv : v < 32) (hD : D < 32) : gathN (wU v D u) D = u := by
  have h5 := ones_le hD
  have hu32 : u < 32 := Nat.lt_of_lt_of_le hu (pow_le h5)
  have hw : wU v D u < 2 ^ 5 := wU_lt hu32 hD hv hD
  have := (bits_fin ⟨wU v D u, hw⟩ ⟨D, hD⟩).2.2.1
  simp only at this
  rw [this, wU_and hu32 hD]
  exact (bits_fin ⟨u, hu32⟩ ⟨D, hD⟩).2.1 hu
theorem wU_gath {v w D : Nat} (hw : w < 32) (hD : D < 32) (hf : inF D v w) : wU v D (gathN w D) = w := by
  apply Nat.eq_of_testBit_eq
  intro j
  rw [wU_bit]
  have h4 := (bits_fin ⟨w, hw⟩ ⟨D, hD⟩).2.2.2.1
  simp only at h4
  rw [h4, Nat.testBit_and]
  cases h : D.testBit j
  · simp [hf j h]
  · simp
theorem wU_face {v u D : Nat} (hu : u < 32) (hD : D < 32) : inF D v (wU v D u) := by
  intro j hj
  rw [wU_bit, hj]
  simp [spr_in hu hD j hj]
include ok
def gE (l : List Int) (D w : Nat) : Int := (gathN (sN l w) D : Int)
/-- What the reference has told after the vertices below i. -/
def arr (l : List Int) (v D i : Nat) : List Int := (List.range (2 ^ onesN D)).map fun u => if wU v D u < i then gE l D (wU v D u) else 0
omit ok in
theorem arr_set {v D i : Nat} (hv : v < 32) (hD : D < 32) (hi : i < 32) (hf : inF D v i) : (arr l v D i).set (gathN i D) (gE l D i) = arr l v D (i + 1) := by
  apply List.ext_getElem
  · simp [arr]
  · intro u h1 h2
    have hu : u < 2 ^ onesN D := by simpa [arr] using h2
    have h5 := ones_le hD
    have hu32 : u < 32 := Nat.lt_of_lt_of_le hu (pow_le h5)
    rw [List.getElem_set]
    by_cases e : gathN i D = u
    · subst e
      rw [if_pos rfl]
      simp only [arr, List.getElem_map, List.getElem_range]
      rw [wU_gath hi hD hf, if_pos (by omega)]
    · rw [if_neg e]
      simp only [arr, List.getElem_map, List.getElem_range]
      have hne : wU v D u ≠ i := fun h => e (by rw [← h, gath_wU hu hv hD])
      by_cases c : wU v D u < i
      · rw [if_pos c, if_pos (by omega)]
      · rw [if_neg c, if_neg (by omega)]
omit ok in
theorem arr_skip {v D i : Nat} (hD : D < 32) (hf : ¬ inF D v i) : arr l v D i = arr l v D (i + 1) := by
  unfold arr
  apply List.map_congr_left
  intro u hu
  have hu := List.mem_range.1 hu
  have h5 := ones_le hD
  have hu32 : u < 32 := Nat.lt_of_lt_of_le hu (pow_le h5)
  have hne : wU v D u ≠ i := fun h => hf (h ▸ wU_face hu32 hD)
  by_cases c : wU v D u < i
  · rw [if_pos c, if_pos (by omega)]
  · rw [if_neg c, if_neg (by omega)]
omit ok in
theorem face_zero {w v D : Nat} (hw : w < 2 ^ 63) (hv : v < 2 ^ 63) (hD : D < 2 ^ 63) : Go.bits .andNot .i64 (Go.bits .xor .i64 (w : Int) (v : Int)) (D : Int) = 0 ↔ inF D v w := by
  rw [xor_nat hw hv, andNot_nat (Nat.xor_lt_two_pow hw hv) hD]
  have c1 : (w ^^^ v) ^^^ ((w ^^^ v) &&& D) = 0 ↔ inF D v w := by
    constructor
    · intro h j hj
      have := congrArg (fun x => x.testBit j) h
      simp only [Nat.testBit_xor, Nat.testBit_and, hj, Nat.zero_testBit] at this
      cases hw : w.testBit j <;> cases hv' : v.testBit j <;> simp_all
    · intro h
      apply Nat.eq_of_testBit_eq
      intro j
      simp only [Nat.testBit_xor, Nat.testBit_and, Nat.zero_testBit]
      cases hj : D.testBit j
      · rw [h j hj]; simp
      · simp
  rw [← c1]
  omega
theorem spec_face_loop (x : Int) {v D : Nat} (hv : v < l.length) (hD : D < l.length) : ∀ m i, i + m = l.length → Ev (fun k => spec_FaceOf.l0 k v D (i : Nat) d l x (arr l v D i)) (x, arr l v D l.length, 0) := by
  have h32 := ok32 ok
  intro m
  induction m with
  | zero =>
    intro i hi
    refine evstep (fun k => by rw [spec_FaceOf.l0]) (evneg (by omega) (evc ?_))
    rw [show i = l.length from by omega]
  | succ m ih =>
    intro i hi
    have hil : i < l.length := by omega
    obtain ⟨ea, la⟩ := at_nat ok hil
    have hs : sN l i < 32 := by have := pow_le ok.2.1; omega
    refine evstep (fun k => by rw [spec_FaceOf.l0]) (evpos (by omega) ?_)
    by_cases hf : inF D v i
    · refine evpos ((face_zero (by omega) (by omega) (by omega)).2 hf) (evbind (gath_spec (by omega) (by omega)) (evpos (by omega) ?_))
      rw [rd_nat, show l.getD i 0 = (sN l i : Int) from ea]
      have hg := (bits_fin ⟨i, by omega⟩ ⟨D, by omega⟩).2.2.2.2
      simp only at hg
      refine evbind (gath_spec hs (by omega)) (evpos (by omega) (evpos (by simp only [arr, List.length_map, List.length_range]; omega) ?_))
      rw [w64 (by omega) (by omega), Int.toNat_natCast]
      have := ih (i + 1) (by omega)
      rw [← arr_set (by omega) (by omega) (by omega) hf] at this
      exact this
    · refine evneg (fun h => hf ((face_zero (by omega) (by omega) (by omega)).1 h)) ?_
      rw [w64 (by omega) (by omega), arr_skip (by omega) hf]
      exact ih (i + 1) (by omega)
theorem impl_face_loop (x : Int) {v D : Nat} (hv : v < l.length) (hD : D < l.length) : ∀ m i acc, i + m = 2 ^ onesN D → acc = (List.range i).map (fun u => gE l D (wU v D u)) → Ev (fun k => impl_FaceOf.l0 k v D ((2 ^ onesN D : Nat) : Int) (i : Nat) d l x acc) (x, (List.range (2 ^ onesN D)).map (fun u => gE l D (wU v D u)), 0) := by
  have h32 := ok32 ok
  have hlen := ok.2.2.1
  have h5 := ones_le (show D < 32 by omega)
  have hp := pow_le h5
  intro m
  induction m with
  | zero =>
    intro i acc hi ha
    subst ha
    refine evstep (fun k => by rw [impl_FaceOf.l0]) (evneg (by omega) (evc ?_))
    rw [show i = 2 ^ onesN D from by omega]
  | succ m ih =>
    intro i acc hi ha
    have hw : wU v D i < 2 ^ d := wU_lt (by omega) (by omega) (by omega) (by omega)
    obtain ⟨ea, la⟩ := at_nat ok (show wU v D i < l.length by omega)
    have hs : sN l (wU v D i) < 32 := by have := pow_le ok.2.1; omega
    have hsp : sprN i D < 32 := by
      rw [← (bits_fin ⟨i, by omega⟩ ⟨D, by omega⟩).1]
      exact Nat.lt_of_le_of_lt Nat.and_le_right (by omega)
    have hx : v ^^^ (v &&& D) < 2 ^ 63 := Nat.xor_lt_two_pow (by omega) (Nat.and_lt_two_pow _ (by omega))
    have e : Go.bits .or .i64 (Go.bits .andNot .i64 (v : Int) (D : Int)) (sprN i D : Int) = (wU v D i : Int) := by
      rw [andNot_nat (by omega) (by omega), or_nat hx (by omega)]
      rfl
    refine evstep (fun k => by rw [impl_FaceOf.l0]) (evpos (by omega) (evbind (spr_impl (by omega) (by omega)) ?_))
    rw [e]
    refine evpos (by omega) (evpos (by omega) ?_)
    rw [rd_nat, show l.getD (wU v D i) 0 = (sN l (wU v D i) : Int) from ea]
    refine evbind (gath_impl hs (by omega)) (evpos (by rw [ha]; simp; omega) ?_)
    rw [w64 (by omega) (by omega)]
    refine ih (i + 1) _ (by omega) ?_
    rw [ha, List.range_succ, List.map_append]
    rfl
end
theorem arr_zero (l : List Int) (v D : Nat) : arr l v D 0 = List.replicate (2 ^ onesN D) 0 := by
  unfold arr
  simp only [Nat.not_lt_zero, if_false]
  exact List.map_const' .. |>.trans (by simp)
theorem arr_full {n : Nat} {l : List Int} (ok : CubeOK n l) {v D : Nat} (hv : v < l.length) (hD : D < l.length) : arr l v D l.length = (List.range (2 ^ onesN D)).map (fun u => gE l D (wU v D u)) := by
  have h32 := ok32 ok
  have hlen := ok.2.2.1
  unfold arr
  apply List.map_congr_left
  intro u hu
  have hu := List.mem_range.1 hu
  have h5 := ones_le (show D < 32 by omega)
  have := pow_le h5
  have hw : wU v D u < 2 ^ n := wU_lt (by omega) (by omega) (by omega) (by omega)
  rw [if_pos (by omega)]
theorem codeR_two (d : Int) (l : List Int) (a b : Int) : (IsC d l ∧ IsV l a ∧ IsV l b → codeR d l [a, b] = 0) ∧ (IsC d l ∧ ¬ (IsV l a ∧ IsV l b) → codeR d l [a, b] = 2) ∧ (¬ IsC d l → codeR d l [a, b] = 1) := by
  classical
  unfold codeR
  refine ⟨fun h => ?_, fun h => ?_, fun h => ?_⟩
  · rw [if_pos h.1, if_pos (by simpa using h.2)]
  · rw [if_pos h.1, if_neg (by simpa using h.2)]
  · rw [if_neg h]
theorem faces (d : Int) (l : List Int) (v D : Int) : ∃ r : Int × List Int × Int, r.2.1.length ≤ 64 ∧ Ev (fun k => spec_FaceOf.f k d l v D) r ∧ Ev (fun k => impl_FaceOf.f k d l v D) r := by
  classical
  obtain ⟨c1, c2, c3⟩ := codeR_two d l v D
  have hcode := spec_code d l [v, D] (by simp)
  have his := impl_is d l (decide (IsC d l)) (by simp)
  unfold spec_FaceOf.f impl_FaceOf.f
  by_cases h : IsC d l
  · obtain ⟨n, rfl⟩ := Int.eq_ofNat_of_zero_le h.1
    have ok : CubeOK n l := h.2
    have h32 := ok32 ok
    by_cases e : IsV l v
    · by_cases e2 : IsV l D
      · by_cases z : D = 0
        · refine ⟨(0, [], 2), by simp, ?_, ?_⟩
          · refine evbind hcode ?_
            rw [c1 ⟨h, e, e2⟩]
            refine evpos rfl (evstep (fun k => by rw [spec_FaceOf.j0]) (evpos (by simp [z]) (evstep (fun k => by rw [spec_FaceOf.j1]) ?_)))
            exact evneg (by decide) (evc rfl)
          · refine evbind his (evpos (by simpa using h) (evsome (impl_vertex _ l v h32) (evpos (decide_eq_true (show 0 ≤ v ∧ v ≤ (l.length : Int) - 1 from e)) (evsome (impl_vertex _ l D h32) (evpos (decide_eq_true (show 0 ≤ D ∧ D ≤ (l.length : Int) - 1 from e2)) ?_)))))
            exact evstep (fun k => by rw [impl_FaceOf.j0]) (evpos (by simp [z]) (evc rfl))
        · obtain ⟨x, rfl⟩ := Int.eq_ofNat_of_zero_le e.1
          obtain ⟨y, rfl⟩ := Int.eq_ofNat_of_zero_le e2.1
          have hx : x < l.length := by have := e.2; omega
          have hy : y < l.length := by have := e2.2; omega
          have h5 := ones_le (show y < 32 by omega)
          have hp := pow_le h5
          refine ⟨((onesN y : Int), arr l x y l.length, 0), by simp [arr]; omega, ?_, ?_⟩
          · refine evbind hcode ?_
            rw [c1 ⟨h, e, e2⟩]
            refine evpos rfl (evstep (fun k => by rw [spec_FaceOf.j0]) (evneg (by simp; omega) (evstep (fun k => by rw [spec_FaceOf.j1]) (evpos rfl (evbind (ones_spec (by omega)) ?_)))))
            rw [u64w (by omega) (by omega), shl_one (by omega) (by omega), Int.toNat_natCast]
            have hq : (0 : Int) ≤ ((2 ^ onesN y : Nat) : Int) := Int.natCast_nonneg _
            refine evpos (by omega) (evpos hq (evpos (by omega) ?_))
            rw [Int.toNat_natCast, ← arr_zero l x y]
            exact spec_face_loop ok _ hx hy l.length 0 (by omega)
          · refine evbind his (evpos (by simpa using h) (evsome (impl_vertex _ l x h32) (evpos (decide_eq_true (show 0 ≤ (x : Int) ∧ (x : Int) ≤ (l.length : Int) - 1 from e)) (evsome (impl_vertex _ l y h32) (evpos (decide_eq_true (show 0 ≤ (y : Int) ∧ (y : Int) ≤ (l.length : Int) - 1 from e2)) ?_)))))
            refine evstep (fun k => by rw [impl_FaceOf.j0]) (evneg (by simp; omega) (evbind (ones_impl (by omega)) ?_))
            have hq : (0 : Int) ≤ (onesN y : Int) := Int.natCast_nonneg _
            refine evpos hq ?_
            rw [shl_one (by omega) (by omega), Int.toNat_natCast, arr_full ok hx hy]
            exact impl_face_loop ok _ hx hy (2 ^ onesN y) 0 [] (by omega) rfl
      · refine ⟨(0, [], 2), by simp, ?_, ?_⟩
        · refine evbind hcode ?_
          rw [c2 ⟨h, fun k => e2 k.2⟩]
          refine evneg (by decide) (evstep (fun k => by rw [spec_FaceOf.j0]) (evneg (by decide) (evstep (fun k => by rw [spec_FaceOf.j1]) ?_)))
          exact evneg (by decide) (evc rfl)
        · refine evbind his (evpos (by simpa using h) (evsome (impl_vertex _ l v h32) (evpos (decide_eq_true (show 0 ≤ v ∧ v ≤ (l.length : Int) - 1 from e)) (evsome (impl_vertex _ l D h32) (evneg (fun k => e2 (of_decide_eq_true (p := 0 ≤ D ∧ D ≤ (l.length : Int) - 1) k)) ?_)))))
          exact evstep (fun k => by rw [impl_FaceOf.j0]) (evpos rfl (evc rfl))
    · refine ⟨(0, [], 2), by simp, ?_, ?_⟩
      · refine evbind hcode ?_
        rw [c2 ⟨h, fun k => e k.1⟩]
        refine evneg (by decide) (evstep (fun k => by rw [spec_FaceOf.j0]) (evneg (by decide) (evstep (fun k => by rw [spec_FaceOf.j1]) ?_)))
        exact evneg (by decide) (evc rfl)
      · refine evbind his (evpos (by simpa using h) (evsome (impl_vertex _ l v h32) (evneg (fun k => e (of_decide_eq_true (p := 0 ≤ v ∧ v ≤ (l.length : Int) - 1) k)) ?_)))
        exact evstep (fun k => by rw [impl_FaceOf.j0]) (evpos rfl (evc rfl))
  · refine ⟨(0, [], 1), by simp, ?_, ?_⟩
    · refine evbind hcode ?_
      rw [c3 h]
      refine evneg (by decide) (evstep (fun k => by rw [spec_FaceOf.j0]) (evneg (by decide) (evstep (fun k => by rw [spec_FaceOf.j1]) ?_)))
      exact evneg (by decide) (evc rfl)
    · exact evbind his (evneg (by simpa using h) (evc rfl))
end Go.Proofs.Ytlnoidhaoinpbaa.Cu
