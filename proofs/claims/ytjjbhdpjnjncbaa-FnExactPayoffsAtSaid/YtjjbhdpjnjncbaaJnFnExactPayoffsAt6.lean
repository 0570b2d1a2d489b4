/- Texts of one claim (the words of the kit's print that the claim uses, printed functions, and this session's own texts), joined in the order of their imports by this session's own program (merge.py). -/
import Derived.Test.YtjjbhdpjnjncbaaRows
import Derived.WalkKit
import Derived.ProofKit
import Derived.OpenShut
import Derived.ShutString
import Derived.ChangeOld
import Derived.Below
import Derived.SizedLaws
import Derived.Test.YtjjbhdpjnjncbaaJnFnExactPayoffsAt0
import Derived.Test.YtjjbhdpjnjncbaaJnFnExactPayoffsAt1
import Derived.Test.YtjjbhdpjnjncbaaJnFnExactPayoffsAt2
import Derived.Test.YtjjbhdpjnjncbaaJnFnExactPayoffsAt3
import Derived.Test.YtjjbhdpjnjncbaaJnFnExactPayoffsAt4
import Derived.Test.YtjjbhdpjnjncbaaJnFnExactPayoffsAt5
set_option linter.unusedVariables false
set_option linter.unusedSimpArgs false
set_option maxHeartbeats 8000000
set_option maxRecDepth 100000
section
namespace Go.Proofs.Ytjjbhdpjnjncbaa.Mj
open Go.RowKit Go.Proofs.YtjjbhdpjnjncbaaW.PrintWords Go.Proofs.YtjjbhdpjnjncbaaW.PrintMore Go.Proofs.Ytjjbhdpjnjncbaa.Ma Go.Proofs.Ytjjbhdpjnjncbaa.Pr Go.Proofs.Ytjjbhdpjnjncbaa.Fr Go.Proofs.Ytjjbhdpjnjncbaa.Mi
def IsFr (l : FS) (i : Nat) : Prop := isF 1000000000 (nu l i) (dn l i) = true
def su (l : FS) (D : Int) : Nat → Int
 | 0 => 0
 | n + 1 => su l D n + nm l D n
structure V (l : FS) (n : Int) (D : Int) : Prop where
 len : (l.length : Int) = n
 fr : ∀ i, 0 ≤ i → i < l.length → IsFr l i
 den : denL l l.length 0 1 = some D
 fits : ∀ i, 0 ≤ i → i < l.length → Fits l D i
 pos : ∀ i, i < l.length → 0 ≤ nm l D i
 sum : su l D l.length = D
theorem ok_of {l : FS} (h : ∀ i, 0 ≤ i → i < l.length → IsFr l i) : Ok l := by
 intro i hi
 have := h i (Nat.zero_le _) hi
 unfold IsFr isF at this
 simp only [Bool.and_eq_true, decide_eq_true_eq] at this
 omega
theorem any_badF (l : FS) : l.any badF = false ↔ ∀ i, 0 ≤ i → i < l.length → IsFr l i := by
 rw [List.any_eq_false]
 constructor
 ·intro h i _ hi
  have := h l[i] (List.getElem_mem hi)
  simpa [badF, IsFr, nu, dn, hi] using this
 ·intro h x hx
  obtain ⟨i, hi, rfl⟩ := List.getElem_of_mem hx
  have := h i (Nat.zero_le _) hi
  simpa [badF, IsFr, nu, dn, hi] using this
theorem any_neg (x : List Int) : x.any badN = false ↔ ∀ i, i < x.length → 0 ≤ x.getD i 0 := by
 rw [List.any_eq_false]
 constructor
 ·intro h i hi
  have := h x[i] (List.getElem_mem hi)
  simpa [badN, hi] using this
 ·intro h y hy
  obtain ⟨i, hi, rfl⟩ := List.getElem_of_mem hy
  have := h i hi
  simpa [badN, hi] using this
theorem numL_at (l : FS) (D : Int) (n i : Nat) (h : i < n) : (numL l D n).getD i 0 = nm l D i := by simp [numL, h]
section
variable {l : FS} {D : Int}
theorem su_bound (hf : ∀ i, 0 ≤ i → i < l.length → Fits l D i) : ∀ n, n ≤ l.length → -1000000000000 * (n : Int) ≤ su l D n ∧ su l D n ≤ 1000000000000 * (n : Int) := by
 intro n
 induction n with
 | zero => intro _; simp [su]
 | succ n ih =>
  intro hn
  have h1 := ih (by omega)
  have h2 := hf n (Nat.zero_le _) (by omega)
  unfold Fits at h2
  unfold su
  push_cast
  omega
theorem su_ge (hp : ∀ i, i < l.length → 0 ≤ nm l D i) : ∀ n, n ≤ l.length → 0 ≤ su l D n ∧ ∀ i, i < n → nm l D i ≤ su l D n := by
 intro n
 induction n with
 | zero => intro _; exact ⟨Int.le_refl _, fun i h => by omega⟩
 | succ n ih =>
  intro hn
  have h1 := ih (by omega)
  have h2 := hp n (by omega)
  unfold su
  refine ⟨by omega, fun i hi => ?_⟩
  by_cases e : i = n
  ·subst e; omega
  ·have := h1.2 i (by omega); omega
theorem nm_num (hO : Ok l) (hd : denL l l.length 0 1 = some D) (i : Nat) (hi : i < l.length) : (0 ≤ nm l D i ↔ 0 ≤ nu l i) ∧ (nm l D i ≤ D ↔ nu l i ≤ dn l i) := by
 obtain ⟨d1, d2, _, d4⟩ := denL_facts hO l.length 0 1 D (by omega) (by decide) (by decide) hd
 obtain ⟨q, hq⟩ := d4 i (Nat.zero_le _) hi
 obtain ⟨b1, b2, b3, b4⟩ := hO i hi
 have e : Int.tdiv D (dn l i) = q := by
  have h9 : Int.tdiv (dn l i * q) (dn l i) = q := Int.mul_tdiv_cancel_left q (by omega)
  rwa [← hq] at h9
 have q1 : 1 ≤ q := by
  by_cases h : 1 ≤ q
  ·exact h
  ·have : dn l i * q ≤ 0 := Int.mul_nonpos_of_nonneg_of_nonpos (by omega) (by omega)
   omega
 unfold nm
 rw [e]
 constructor
 ·constructor
  ·intro h
   by_cases c : 0 ≤ nu l i
   ·exact c
   ·exfalso
    have : nu l i * q < 0 := Int.mul_neg_of_neg_of_pos (by omega) (by omega)
    omega
  ·intro h
   exact Int.mul_nonneg h (by omega)
 ·rw [hq]
  constructor
  ·intro h
   exact Int.le_of_mul_le_mul_right h (by omega)
  ·intro h
   exact Int.mul_le_mul_of_nonneg_right h (by omega)
theorem total_loop (hf : ∀ i, 0 ≤ i → i < l.length → Fits l D i) (hl : l.length ≤ 1048576) : ∀ m i, i + m = l.length → Ev (fun k => impl_total.l0 k (su l D i) (numL l D l.length) (l.length : Int) i) (su l D l.length) := by
 intro m
 induction m with
 | zero =>
  intro i hi
  obtain rfl : i = l.length := by omega
  exact evstep (fun k => by rw [impl_total.l0]) (evneg (by omega) (evc rfl))
 | succ m ih =>
  intro i hi
  have h1 := su_bound hf (i + 1) (by omega)
  refine evstep (fun k => by rw [impl_total.l0]) (evpos (by omega) (evpos (by omega) (evpos (by rw [numL_len]; omega) ?_)))
  rw [rd_nat, numL_at l D _ i (by omega), show su l D i + nm l D i = su l D (i + 1) from rfl, w64 (x := su l D (i + 1)) (by omega) (by omega), w64 (x := (i : Int) + 1) (by omega) (by omega)]
  exact ih (i + 1) (by omega)
theorem spec_sum (hf : ∀ i, 0 ≤ i → i < l.length → Fits l D i) (hl : l.length ≤ 1048576) (M : Int) : ∀ m i, i + m = l.length → Ev (fun k => spec_l07Mix.l1 k (l.length : Int) M (numL l D l.length) D (su l D i) i) (if su l D l.length = D then (if D > M then ([], 0, 3) else (numL l D l.length, D, 0)) else ([], 0, 2)) := by
 intro m
 induction m with
 | zero =>
  intro i hi
  obtain rfl : i = l.length := by omega
  refine evstep (fun k => by rw [spec_l07Mix.l1]) (evneg (by omega) ?_)
  by_cases c : su l D l.length = D
  ·refine evpos c ?_
   rw [if_pos c]
   by_cases c2 : D > M
   ·refine evpos c2 ?_
    rw [if_pos c2]; exact evc rfl
   ·refine evneg c2 ?_
    rw [if_neg c2]; exact evc rfl
  ·refine evneg c ?_
   rw [if_neg c]
   exact evc rfl
 | succ m ih =>
  intro i hi
  have h1 := su_bound hf (i + 1) (by omega)
  refine evstep (fun k => by rw [spec_l07Mix.l1]) (evpos (by omega) (evpos (by omega) (evpos (by rw [numL_len]; omega) ?_)))
  rw [rd_nat, numL_at l D _ i (by omega), show su l D i + nm l D i = su l D (i + 1) from rfl, w64 (x := su l D (i + 1)) (by omega) (by omega), w64 (x := (i : Int) + 1) (by omega) (by omega)]
  exact ih (i + 1) (by omega)
end
theorem impl_mix_v {l : FS} {n D : Int} (hl : l.length ≤ 1048576) (v : V l n D) : Ev (fun k => impl_mix.f k l n) (numL l D l.length, D, true) := by
 have hO := ok_of v.fr
 have ht : togR l = (numL l D l.length, D, true) := by unfold togR; rw [v.den]; exact if_pos v.fits
 have hb := (any_badF l).2 v.fr
 unfold impl_mix.f
 refine evpos v.len (evsome (a := true) (by unfold impl_areFracs.f; rw [hb]; rfl) (evstep (fun k => by rw [impl_mix.j0]) (evneg (by simp) ?_)))
 refine evbind (impl_tog hO hl) ?_
 rw [ht]
 refine evpos rfl (evsome (a := true) ?_ (evpos rfl ?_))
 ·unfold impl_isFeasible.f
  rw [(any_neg (numL l D l.length)).2 (fun i hi => by rw [numL_len] at hi; rw [numL_at l D _ i hi]; exact v.pos i hi)]
  rfl
 ·have := total_loop v.fits hl l.length 0 (by omega)
  refine evbind (a := su l D l.length) ?_ (evpos v.sum (evc rfl))
  unfold impl_total.f
  rw [numL_len]
  exact this
theorem impl_mix_n {l : FS} {n : Int} (hl : l.length ≤ 1048576) (v : ¬ ∃ D, V l n D) : Ev (fun k => impl_mix.f k l n) ([], 0, false) := by
 classical
 unfold impl_mix.f
 by_cases c1 : (l.length : Int) = n
 ·refine evpos c1 ?_
  by_cases c2 : ∀ i, 0 ≤ i → i < l.length → IsFr l i
  ·have hO := ok_of c2
   refine evsome (a := true) (by unfold impl_areFracs.f; rw [(any_badF l).2 c2]; rfl) (evstep (fun k => by rw [impl_mix.j0]) (evneg (by simp) ?_))
   refine evbind (impl_tog hO hl) ?_
   unfold togR
   cases hd : denL l l.length 0 1 with
   | none => exact evneg (by simp) (evc rfl)
   | some D =>
    by_cases c3 : ∀ i, 0 ≤ i → i < l.length → Fits l D i
    ·simp only []
     rw [if_pos c3]
     refine evpos rfl ?_
     by_cases c4 : ∀ i, i < l.length → 0 ≤ nm l D i
     ·refine evsome (a := true) ?_ (evpos rfl ?_)
      ·unfold impl_isFeasible.f
       rw [(any_neg (numL l D l.length)).2 (fun i hi => by rw [numL_len] at hi; rw [numL_at l D _ i hi]; exact c4 i hi)]
       rfl
      ·have := total_loop c3 hl l.length 0 (by omega)
       refine evbind (a := su l D l.length) ?_ ?_
       ·unfold impl_total.f
        rw [numL_len]
        exact this
       ·exact evneg (fun e => v ⟨D, c1, c2, hd, c3, c4, e⟩) (evc rfl)
     ·refine evsome (a := false) ?_ (evneg (by simp) (evc rfl))
      unfold impl_isFeasible.f
      have : ((numL l D l.length).any badN) = true := by
       cases q : (numL l D l.length).any badN with
       | true => rfl
       | false =>
        exfalso
        have := (any_neg _).1 q
        exact c4 (fun i hi => by have := this i (by rw [numL_len]; exact hi); rwa [numL_at l D _ i hi] at this)
      rw [this]; rfl
    ·simp only []
     rw [if_neg c3]
     exact evneg (by simp) (evc rfl)
  ·have : l.any badF = true := by
    cases q : l.any badF with
    | true => rfl
    | false => exact absurd ((any_badF l).1 q) c2
   refine evsome (a := false) (by unfold impl_areFracs.f; rw [this]; rfl) (evstep (fun k => by rw [impl_mix.j0]) (evpos (by simp) (evc rfl)))
 ·exact evneg c1 (evstep (fun k => by rw [impl_mix.j0]) (evpos rfl (evc rfl)))
theorem spec_loop {l : FS} (hl : l.length ≤ 1048576) (M : Int) (R : List Int × Int × Int) (next : (∀ i, i < l.length → IsFr l i ∧ 0 ≤ nu l i ∧ nu l i ≤ dn l i) → Ev (fun k => (spec_l01Common.f k l).bind fun bt670 => (if bt670.2.2 = true then (spec_l07Mix.l1 k (l.length : Int) M bt670.1 bt670.2.1 0 0) else (some (([] : List Int), 0, 2)))) R)
  (no : ¬ (∀ i, i < l.length → IsFr l i ∧ 0 ≤ nu l i ∧ nu l i ≤ dn l i) → R = ([], 0, 2)) :
  ∀ m i, i + m = l.length → (∀ j, j < i → IsFr l j ∧ 0 ≤ nu l j ∧ nu l j ≤ dn l j) → Ev (fun k => spec_l07Mix.l0 k l (l.length : Int) M i) R := by
 intro m
 induction m with
 | zero =>
  intro i hi h
  obtain rfl : i = l.length := by omega
  exact evstep (fun k => by rw [spec_l07Mix.l0]) (evneg (by omega) (next h))
 | succ m ih =>
  intro i hi h
  refine evstep (fun k => by rw [spec_l07Mix.l0]) ?_
  rw [rd_f0, rd_f1]
  refine evpos (by omega) (evpos (by omega) (evpos (by omega) (evbind (spec_isF9 _ _) ?_)))
  rw [w64 (x := (i : Int) + 1) (by omega) (by omega)]
  by_cases c : isF 1000000000 (nu l i) (dn l i) = true
  ·refine evpos c ?_
   by_cases c2 : nu l i < 0
   ·rw [no (fun q => by have := (q i (by omega)).2.1; omega)]
    exact evpos c2 (evc rfl)
   ·refine evneg c2 ?_
    by_cases c3 : nu l i > dn l i
    ·rw [no (fun q => by have := (q i (by omega)).2.2; omega)]
     exact evpos c3 (evc rfl)
    ·refine evneg c3 (ih (i + 1) (by omega) (fun j hj => ?_))
     by_cases e : j = i
     ·subst e; exact ⟨c, by omega, by omega⟩
     ·exact h j (by omega)
  ·rw [no (fun q => c (q i (by omega)).1)]
   exact evneg c (evc rfl)
theorem spec_mix_v {l : FS} {n D : Int} (hl : l.length ≤ 1048576) (v : V l n D) (M : Int) : Ev (fun k => spec_l07Mix.f k l n M) (if D > M then ([], 0, 3) else (numL l D l.length, D, 0)) := by
 have hO := ok_of v.fr
 have ht : togR l = (numL l D l.length, D, true) := by unfold togR; rw [v.den]; exact if_pos v.fits
 have hg := su_ge v.pos l.length (Nat.le_refl _)
 have hall : ∀ i, i < l.length → IsFr l i ∧ 0 ≤ nu l i ∧ nu l i ≤ dn l i := fun i hi => by
  have h1 := nm_num hO v.den i hi
  exact ⟨v.fr i (Nat.zero_le _) hi, h1.1.1 (v.pos i hi), h1.2.1 (by have := hg.2 i hi; have := v.sum; omega)⟩
 unfold spec_l07Mix.f
 refine evpos v.len ?_
 rw [← v.len]
 refine spec_loop hl M _ (fun _ => ?_) (fun q => absurd hall q) l.length 0 (by omega) (fun j hj => by omega)
 refine evbind (spec_tog hO hl) ?_
 rw [ht]
 refine evpos rfl ?_
 have := spec_sum v.fits hl M l.length 0 (by omega)
 rw [if_pos v.sum] at this
 exact this
theorem spec_mix_n {l : FS} {n : Int} (hl : l.length ≤ 1048576) (v : ¬ ∃ D, V l n D) (M : Int) : Ev (fun k => spec_l07Mix.f k l n M) ([], 0, 2) := by
 classical
 unfold spec_l07Mix.f
 by_cases c1 : (l.length : Int) = n
 ·refine evpos c1 ?_
  subst c1
  refine spec_loop hl M _ (fun h => ?_) (fun _ => rfl) l.length 0 (by omega) (fun j hj => by omega)
  have c2 : ∀ i, 0 ≤ i → i < l.length → IsFr l i := fun i _ hi => (h i hi).1
  have hO := ok_of c2
  refine evbind (spec_tog hO hl) ?_
  unfold togR
  cases hd : denL l l.length 0 1 with
  | none => exact evneg (by simp) (evc rfl)
  | some D =>
   by_cases c3 : ∀ i, 0 ≤ i → i < l.length → Fits l D i
   ·simp only []
    rw [if_pos c3]
    refine evpos rfl ?_
    have h4 : ∀ i, i < l.length → 0 ≤ nm l D i := fun i hi => (nm_num hO hd i hi).1.2 (h i hi).2.1
    have h5 : ¬ su l D l.length = D := fun e => v ⟨D, rfl, c2, hd, c3, h4, e⟩
    have := spec_sum c3 hl M l.length 0 (by omega)
    rw [if_neg h5] at this
    exact this
   ·simp only []
    rw [if_neg c3]
    exact evneg (by simp) (evc rfl)
 ·exact evneg c1 (evc rfl)
end Go.Proofs.Ytjjbhdpjnjncbaa.Mj
end
section
namespace Go.Proofs.Ytjjbhdpjnjncbaa.Mp
open Go.RowKit Go.Proofs.YtjjbhdpjnjncbaaW.PrintWords Go.Proofs.YtjjbhdpjnjncbaaW.PrintMore Go.Proofs.Ytjjbhdpjnjncbaa.Ma Go.Proofs.Ytjjbhdpjnjncbaa.Pr Go.Proofs.Ytjjbhdpjnjncbaa.Fr Go.Proofs.Ytjjbhdpjnjncbaa.Mi Go.Proofs.Ytjjbhdpjnjncbaa.Mj Go.Proofs.Ytjjbhdpjnjncbaa.La Go.Proofs.Ytjjbhdpjnjncbaa.Gm
section
variable (m : List (List Int)) (X Y : Nat → Int) (l : Nat)
def inn (i : Nat) : Nat → Int
 | 0 => 0
 | j + 1 => inn i j + ent m i j * Y j
def out : Nat → Int
 | 0 => 0
 | i + 1 => out i + X i * inn m Y i l
end
def Sml (x : Int) : Prop := 0 ≤ x ∧ x ≤ 30000
section
variable {m : List (List Int)} {X Y : Nat → Int} {l k : Nat} (hX : ∀ i, i < k → Sml (X i)) (hY : ∀ j, j < l → Sml (Y j)) (hm : ∀ i j, i < k → j < l → E20 (ent m i j)) (hk : k ≤ 4) (hl : l ≤ 4)
include hY hm
theorem inn_b (i : Nat) (hi : i < k) : ∀ j, j ≤ l → 0 ≤ inn m Y i j ∧ inn m Y i j ≤ 600000 * (j : Int) := by
 intro j
 induction j with
 | zero => intro _; simp [inn]
 | succ j ih =>
  intro hj
  have h1 := ih (by omega)
  have h2 := hY j (by omega)
  have h3 := hm i j hi (by omega)
  unfold Sml at h2; unfold E20 at h3
  have p1 : ent m i j * Y j ≤ 20 * 30000 := Int.mul_le_mul h3.2 h2.2 h2.1 (by decide)
  have p0 : 0 ≤ ent m i j * Y j := Int.mul_nonneg (by omega) h2.1
  unfold inn
  push_cast
  omega
include hX hl
theorem term_b (i : Nat) (hi : i < k) (j : Nat) (hj : j ≤ l) : 0 ≤ X i * inn m Y i j ∧ X i * inn m Y i j ≤ 72000000000 := by
 have h1 := inn_b hY hm i hi j hj
 have h2 := hX i hi
 unfold Sml at h2
 have h3 : inn m Y i j ≤ 2400000 := by omega
 have p1 : X i * inn m Y i j ≤ 30000 * 2400000 := Int.mul_le_mul h2.2 h3 h1.1 (by decide)
 exact ⟨Int.mul_nonneg h2.1 h1.1, by omega⟩
theorem out_b : ∀ i, i ≤ k → 0 ≤ out m X Y l i ∧ out m X Y l i ≤ 72000000000 * (i : Int) := by
 intro i
 induction i with
 | zero => intro _; simp [out]
 | succ i ih =>
  intro hi
  have h1 := ih (by omega)
  have h2 := term_b hX hY hm hl i (by omega) l (Nat.le_refl _)
  unfold out
  push_cast
  omega
end
def redR (v d : Int) : Int × Int × Int := if isF 1000000000 (Int.tdiv v (gc v d)) (Int.tdiv d (gc v d)) = true then (Int.tdiv v (gc v d), Int.tdiv d (gc v d), 0) else (0, 0, 3)
theorem red_facts {v d : Int} (hv : 0 ≤ v) (hv2 : v ≤ 1000000000000) (hd : 1 ≤ d) (hd2 : d ≤ 1000000000000) : gc v d ≠ 0 ∧ (0 ≤ Int.tdiv v (gc v d) ∧ Int.tdiv v (gc v d) ≤ 1000000000000) ∧ (0 ≤ Int.tdiv d (gc v d) ∧ Int.tdiv d (gc v d) ≤ 1000000000000) ∧ 0 ≤ gc v d := by
 have h1 : 0 < Int.gcd v d := Int.gcd_pos_of_ne_zero_right v (by omega)
 have g1 : 1 ≤ gc v d := by unfold gc; omega
 refine ⟨by omega, ⟨Int.tdiv_nonneg hv (by omega), ?_⟩, ⟨Int.tdiv_nonneg (by omega) (by omega), ?_⟩, by omega⟩
 ·rw [Int.tdiv_eq_ediv_of_nonneg hv]; exact Int.le_trans (Int.ediv_le_self _ hv) hv2
 ·rw [Int.tdiv_eq_ediv_of_nonneg (by omega)]; exact Int.le_trans (Int.ediv_le_self _ (by omega)) hd2
theorem impl_red {v d : Int} (hv : 0 ≤ v) (hv2 : v ≤ 1000000000000) (hd : 1 ≤ d) (hd2 : d ≤ 1000000000000) : Ev (fun k => impl_reduced.f k v d) (redR v d) := by
 obtain ⟨f1, f2, f3, f4⟩ := red_facts hv hv2 hd hd2
 unfold impl_reduced.f redR
 refine evbind (impl_gcd v d (by unfold Big; omega) (by unfold Big; omega)) (evneg (by omega) (evneg f1 ?_))
 rw [w64 (x := Int.tdiv v (gc v d)) (by omega) (by omega), w64 (x := Int.tdiv d (gc v d)) (by omega) (by omega)]
 refine evbind (impl_isF _ _) ?_
 by_cases c : isF 1000000000 (Int.tdiv v (gc v d)) (Int.tdiv d (gc v d)) = true
 ·refine evpos c ?_
  rw [if_pos c]; exact evc rfl
 ·refine evneg c ?_
  rw [if_neg c]; exact evc rfl
theorem spec_red {v d : Int} {β : Type} {f : Nat → Int × Int × Int → Option β} {r : β} (hv : 0 ≤ v) (hv2 : v ≤ 1000000000000) (hd : 1 ≤ d) (hd2 : d ≤ 1000000000000) (next : Ev (fun k => f k (redR v d)) r) :
  Ev (fun k => (spec_l01Frac.f k v d).bind fun b => (spec_l01Told.f k b.1 b.2).bind (f k)) r := by
 obtain ⟨f1, f2, f3, f4⟩ := red_facts hv hv2 hd hd2
 refine evbind (a := (Int.tdiv v (gc v d), Int.tdiv d (gc v d))) ?_ (evbind (a := redR v d) ?_ next)
 ·unfold spec_l01Frac.f
  refine evneg (by omega) (evbind (spec_gcd v d (by unfold Big; omega) (by unfold Big; omega)) (evneg f1 (evc ?_)))
  rw [w64 (x := Int.tdiv v (gc v d)) (by omega) (by omega), w64 (x := Int.tdiv d (gc v d)) (by omega) (by omega)]
 ·unfold spec_l01Told.f redR
  refine evbind (spec_isF 1000000000 _ _ (by decide) (by decide)) ?_
  by_cases c : isF 1000000000 (Int.tdiv v (gc v d)) (Int.tdiv d (gc v d)) = true
  ·refine evpos c ?_
   rw [if_pos c]; exact evc rfl
  ·refine evneg c ?_
   rw [if_neg c]; exact evc rfl
section
variable {a b : List (List Int)} (g : GameOK a b) {l1 l2 : FS} {D1 D2 : Int} (v1 : V l1 (a.length : Int) D1) (v2 : V l2 ((rw_ a 0).length : Int) D2)
def WS (m : List (List Int)) (k l : Nat) : Prop := m.length = k ∧ (∀ i, i < k → (rw_ m i).length = l) ∧ ∀ i j, i < k → j < l → E20 (ent m i j)
theorem v_len {l : FS} {n : Nat} {D : Int} (v : V l (n : Int) D) : l.length = n := by have := v.len; omega
theorem v_den {l : FS} {n D : Int} (v : V l n D) : 1 ≤ D ∧ D ≤ 1000000000 := by
 obtain ⟨d1, d2, _, _⟩ := denL_facts (ok_of v.fr) l.length 0 1 D (by omega) (by decide) (by decide) v.den
 exact ⟨d1, d2⟩
theorem v_sml {l : FS} {n D : Int} (v : V l n D) (h : D ≤ 30000) (i : Nat) (hi : i < l.length) : Sml (nm l D i) := by
 have hg := (su_ge v.pos l.length (Nat.le_refl _)).2 i hi
 have := v.sum
 have := v.pos i hi
 unfold Sml
 omega
theorem impl_sum_loop {m : List (List Int)} {k l : Nat} (w : WS m k l) (hk : k ≤ 4) (hl : l ≤ 4) {x : List Int} {Y : Nat → Int} (hx : x.length = l) (hxa : ∀ j, j < l → x.getD j 0 = Y j) (hY : ∀ j, j < l → Sml (Y j)) (i : Nat) (hi : i < k) :
  ∀ q j, j + q = l → Ev (fun n => impl_sum.l0 n x (inn m Y i j) (rw_ m i) ((rw_ m i).length : Int) j) (inn m Y i l) := by
 obtain ⟨w1, w2, w3⟩ := w
 have hr := w2 i hi
 intro q
 induction q with
 | zero =>
  intro j hj
  obtain rfl : j = l := by omega
  exact evstep (fun k => by rw [impl_sum.l0]) (evneg (by omega) (evc rfl))
 | succ q ih =>
  intro j hj
  have h3 := w3 i j hi (by omega)
  have h2 := hY j (by omega)
  have hb := inn_b (m := m) (Y := Y) (l := l) (k := k) hY w3 i hi (j + 1) (by omega)
  unfold Sml at h2; unfold E20 at h3
  have p1 : ent m i j * Y j ≤ 20 * 30000 := Int.mul_le_mul h3.2 h2.2 h2.1 (by decide)
  have p0 : 0 ≤ ent m i j * Y j := Int.mul_nonneg (by omega) h2.1
  refine evstep (fun k => by rw [impl_sum.l0]) (evpos (by omega) (evpos (by omega) (evpos (by omega) (evpos (by omega) ?_))))
  rw [rd_nat, rd_nat, hxa j (by omega), show (rw_ m i).getD j 0 = ent m i j from rfl, w64 (x := ent m i j * Y j) (by omega) (by omega), show inn m Y i j + ent m i j * Y j = inn m Y i (j + 1) from rfl, w64 (x := inn m Y i (j + 1)) (by omega) (by omega), w64 (x := (j : Int) + 1) (by omega) (by omega)]
  exact ih (j + 1) (by omega)
theorem impl_form_loop {m : List (List Int)} {k l : Nat} (w : WS m k l) (hk : k ≤ 4) (hl : l ≤ 4) {x y : List Int} {X Y : Nat → Int} (hx : x.length = k) (hxa : ∀ j, j < k → x.getD j 0 = X j) (hX : ∀ j, j < k → Sml (X j)) (hy : y.length = l) (hya : ∀ j, j < l → y.getD j 0 = Y j) (hY : ∀ j, j < l → Sml (Y j)) :
  ∀ q i, i + q = k → Ev (fun n => impl_form.l0 n x y (out m X Y l i) m (k : Int) i) (out m X Y l k) := by
 have w1 := w.1; have w2 := w.2.1; have w3 := w.2.2
 intro q
 induction q with
 | zero =>
  intro i hi
  obtain rfl : i = k := by omega
  exact evstep (fun k => by rw [impl_form.l0]) (evneg (by omega) (evc rfl))
 | succ q ih =>
  intro i hi
  have hb := out_b (m := m) (X := X) (Y := Y) (l := l) (k := k) hX hY w3 hl (i + 1) (by omega)
  have ht := term_b (m := m) (X := X) (Y := Y) (l := l) (k := k) hX hY w3 hl i (by omega) l (Nat.le_refl _)
  have hs := impl_sum_loop w hk hl hy hya hY i (by omega) l 0 (by omega)
  refine evstep (fun k => by rw [impl_form.l0]) (evpos (by omega) (evpos (by omega) (evpos (by omega) (evpos (by omega) ?_))))
  rw [rw_eq]
  refine evbind (a := inn m Y i l) ?_ ?_
  ·unfold impl_sum.f; exact hs
  ·rw [rd_nat, hxa i (by omega), w64 (x := X i * inn m Y i l) (by omega) (by omega), show out m X Y l i + X i * inn m Y i l = out m X Y l (i + 1) from rfl, w64 (x := out m X Y l (i + 1)) (by omega) (by omega), w64 (x := (i : Int) + 1) (by omega) (by omega)]
   exact ih (i + 1) (by omega)
theorem impl_form_eq {m : List (List Int)} {k l : Nat} (w : WS m k l) (hk : k ≤ 4) (hl : l ≤ 4) {x y : List Int} {X Y : Nat → Int} (hx : x.length = k) (hxa : ∀ j, j < k → x.getD j 0 = X j) (hX : ∀ j, j < k → Sml (X j)) (hy : y.length = l) (hya : ∀ j, j < l → y.getD j 0 = Y j) (hY : ∀ j, j < l → Sml (Y j)) :
  Ev (fun n => impl_form.f n m x y) (out m X Y l k) := by
 unfold impl_form.f
 have := impl_form_loop w hk hl hx hxa hX hy hya hY k 0 (by omega)
 rw [w.1]
 exact this
def payR (p q : Int × Int × Int) : Int × Int × Int × Int × Int := if p.2.2 = 0 then (if q.2.2 = 0 then (p.1, p.2.1, q.1, q.2.1, 0) else (0, 0, 0, 0, 3)) else (0, 0, 0, 0, 3)
theorem redR_code (v d : Int) : (redR v d).2.2 = 0 ∨ (redR v d).2.2 = 3 := by unfold redR; split <;> simp
theorem spec_pay {k l : Nat} (wa : WS a k l) (wb : WS b k l) (hk : k ≤ 4) (hl : l ≤ 4) {x y : List Int} {X Y : Nat → Int} (hx : x.length = k) (hxa : ∀ j, j < k → x.getD j 0 = X j) (hX : ∀ j, j < k → Sml (X j)) (hy : y.length = l) (hya : ∀ j, j < l → y.getD j 0 = Y j) (hY : ∀ j, j < l → Sml (Y j))
  {d1 d2 : Int} (e1 : 1 ≤ d1) (e2 : d1 ≤ 30000) (e3 : 1 ≤ d2) (e4 : d2 ≤ 30000) :
  ∀ q i, i + q = k → Ev (fun n => spec_PayoffsAt.l0 n x y d1 d2 (out a X Y l i) (out b X Y l i) i a b) (payR (redR (out a X Y l k) (d1 * d2)) (redR (out b X Y l k) (d1 * d2))) := by
 have wa1 := wa.1; have wa2 := wa.2.1; have wa3 := wa.2.2
 have wb1 := wb.1; have wb2 := wb.2.1; have wb3 := wb.2.2
 have pd1 : 1 * 1 ≤ d1 * d2 := Int.mul_le_mul e1 e3 (by decide) (by omega)
 have pd2 : d1 * d2 ≤ 30000 * 30000 := Int.mul_le_mul e2 e4 (by omega) (by decide)
 intro q
 induction q with
 | zero =>
  intro i hi
  obtain rfl : i = k := by omega
  have ba := out_b (m := a) (X := X) (Y := Y) (l := l) (k := i) hX hY wa3 hl i (Nat.le_refl _)
  have bb := out_b (m := b) (X := X) (Y := Y) (l := l) (k := i) hX hY wb3 hl i (Nat.le_refl _)
  refine evstep (fun k => by rw [spec_PayoffsAt.l0]) (evneg (by omega) ?_)
  rw [w64 (x := d1 * d2) (by omega) (by omega)]
  refine spec_red ba.1 (by omega) (by omega) (by omega) ?_
  refine spec_red bb.1 (by omega) (by omega) (by omega) ?_
  unfold payR
  by_cases c1 : (redR (out a X Y l i) (d1 * d2)).2.2 = 0
  ·refine evpos c1 ?_
   rw [if_pos c1]
   by_cases c2 : (redR (out b X Y l i) (d1 * d2)).2.2 = 0
   ·refine evpos c2 ?_
    rw [if_pos c2]; exact evc rfl
   ·refine evneg c2 ?_
    rw [if_neg c2]; exact evc rfl
  ·refine evneg c1 ?_
   rw [if_neg c1]; exact evc rfl
 | succ q ih =>
  intro i hi
  have nx := ih (i + 1) (by omega)
  refine evstep (fun k => by rw [spec_PayoffsAt.l0]) (evpos (by omega) ?_)
  have key : ∀ p j, j + p = l → Ev (fun n => spec_PayoffsAt.l1 n x y d1 d2 (out a X Y l i + X i * inn a Y i j) (out b X Y l i + X i * inn b Y i j) i j a b) (payR (redR (out a X Y l k) (d1 * d2)) (redR (out b X Y l k) (d1 * d2))) := by
   intro p
   induction p with
   | zero =>
    intro j hj
    obtain rfl : j = l := by omega
    refine evstep (fun k => by rw [spec_PayoffsAt.l1]) (evneg (by omega) ?_)
    rw [w64 (x := (i : Int) + 1) (by omega) (by omega)]
    exact nx
   | succ p ihp =>
    intro j hj
    have ra := wa2 i (by omega)
    have rb := wb2 i (by omega)
    have ta := term_b (m := a) (X := X) (Y := Y) (l := l) (k := k) hX hY wa3 hl i (by omega) (j + 1) (by omega)
    have tb := term_b (m := b) (X := X) (Y := Y) (l := l) (k := k) hX hY wb3 hl i (by omega) (j + 1) (by omega)
    have ta0 := term_b (m := a) (X := X) (Y := Y) (l := l) (k := k) hX hY wa3 hl i (by omega) j (by omega)
    have tb0 := term_b (m := b) (X := X) (Y := Y) (l := l) (k := k) hX hY wb3 hl i (by omega) j (by omega)
    have oa := out_b (m := a) (X := X) (Y := Y) (l := l) (k := k) hX hY wa3 hl i (by omega)
    have ob := out_b (m := b) (X := X) (Y := Y) (l := l) (k := k) hX hY wb3 hl i (by omega)
    have sx := hX i (by omega); have sy := hY j (by omega)
    unfold Sml at sx sy
    have pxy : X i * Y j ≤ 30000 * 30000 := Int.mul_le_mul sx.2 sy.2 sy.1 (by decide)
    have pxy0 : 0 ≤ X i * Y j := Int.mul_nonneg sx.1 sy.1
    have ea : X i * inn a Y i (j + 1) = X i * inn a Y i j + X i * Y j * ent a i j := by
     show X i * (inn a Y i j + ent a i j * Y j) = _
     rw [Int.mul_add, Int.mul_assoc (X i) (Y j), Int.mul_comm (Y j) (ent a i j)]
    have eb : X i * inn b Y i (j + 1) = X i * inn b Y i j + X i * Y j * ent b i j := by
     show X i * (inn b Y i j + ent b i j * Y j) = _
     rw [Int.mul_add, Int.mul_assoc (X i) (Y j), Int.mul_comm (Y j) (ent b i j)]
    refine evstep (fun k => by rw [spec_PayoffsAt.l1]) ?_
    rw [rw_eq, rw_eq, rd_nat, rd_nat, rd_nat, rd_nat, hxa i (by omega), hya j (by omega), show (rw_ a i).getD j 0 = ent a i j from rfl, show (rw_ b i).getD j 0 = ent b i j from rfl]
    refine evpos (by omega) (evpos (by omega) (evpos (by omega) (evpos (by omega) (evpos (by omega) (evpos (by omega) (evpos (by omega) (evpos (by omega) ?_)))))))
    rw [w64 (x := X i * Y j) (by omega) (by omega), w64 (x := X i * Y j * ent a i j) (by omega) (by omega), w64 (x := X i * Y j * ent b i j) (by omega) (by omega), w64 (x := (j : Int) + 1) (by omega) (by omega)]
    have fa : out a X Y l i + X i * inn a Y i j + X i * Y j * ent a i j = out a X Y l i + X i * inn a Y i (j + 1) := by omega
    have fb : out b X Y l i + X i * inn b Y i j + X i * Y j * ent b i j = out b X Y l i + X i * inn b Y i (j + 1) := by omega
    rw [fa, fb, w64 (x := out a X Y l i + X i * inn a Y i (j + 1)) (by omega) (by omega), w64 (x := out b X Y l i + X i * inn b Y i (j + 1)) (by omega) (by omega)]
    exact ihp (j + 1) (by omega)
  have := key l 0 (by omega)
  simpa [inn] using this
end
open Classical in
theorem both (a b : List (List Int)) (l1 l2 : FS) (ha : a.length ≤ 1048576) (hr : ∀ x ∈ a, x.length ≤ 1048576) (h1 : l1.length ≤ 1048576) (h2 : l2.length ≤ 1048576) : ∃ R, Ev (fun k => spec_PayoffsAt.f k a b l1 l2) R ∧ Ev (fun k => impl_PayoffsAt.f k a b l1 l2) R := by
 have hb : decide (GameOK a b) = true ↔ GameOK a b := by simp
 have e0 : rd_L1 a 0 = rw_ a 0 := rw_eq a 0
 by_cases g : GameOK a b
 ·have hk := g.k4; have hk1 := g.k1; have hl := g.l4; have hs := g.same
  have wa : WS a a.length (rw_ a 0).length := ⟨rfl, fun i hi => (g.rows i (Nat.zero_le _) hi).1, fun i j hi hj => ((g.rows i (Nat.zero_le _) hi).2.2 j (Nat.zero_le _) hj).1⟩
  have wb : WS b a.length (rw_ a 0).length := ⟨hs, fun i hi => (g.rows i (Nat.zero_le _) hi).2.1, fun i j hi hj => ((g.rows i (Nat.zero_le _) hi).2.2 j (Nat.zero_le _) hj).2⟩
  have is := Gm.impl_is a b ha hr _ hb
  have ss := Gm.spec_is a b ha hr _ hb
  have gd : decide (GameOK a b) = true := by simpa using g
  by_cases v1 : ∃ D, V l1 (a.length : Int) D
  ·by_cases v2 : ∃ D, V l2 ((rw_ a 0).length : Int) D
   ·obtain ⟨D1, v1⟩ := v1
    obtain ⟨D2, v2⟩ := v2
    obtain ⟨p1, p2⟩ := v_den v1
    obtain ⟨q1, q2⟩ := v_den v2
    have n1 := v_len v1; have n2 := v_len v2
    by_cases c : D1 > 30000 ∨ D2 > 30000
    ·refine ⟨(0, 0, 0, 0, 3), ?_, ?_⟩
     ·unfold spec_PayoffsAt.f spec_l07Both.f
      refine evbind (a := ([], [], 0, 0, 3)) (evbind ss (evpos gd (evbind (spec_mix_v h1 v1 30000) (evpos (by omega) ?_)))) (evneg (by decide) (evc rfl))
      rw [e0]
      refine evbind (spec_mix_v h2 v2 30000) ?_
      by_cases c1 : D1 > 30000
      ·rw [if_pos c1]
       refine evneg (by decide) (evstep (fun k => by rw [spec_l07Both.j0]) ?_)
       by_cases c2 : D2 > 30000
       ·rw [if_pos c2]; exact evneg (by decide) (evneg (by decide) (evc rfl))
       ·rw [if_neg c2]; exact evneg (by simp) (evneg (by decide) (evc rfl))
      ·have c2 : D2 > 30000 := by omega
       rw [if_neg c1, if_pos c2]
       exact evneg (by simp) (evstep (fun k => by rw [spec_l07Both.j0]) (evneg (by decide) (evpos rfl (evneg (by decide) (evc rfl)))))
     ·unfold impl_PayoffsAt.f
      refine evsome is (evpos gd ?_)
      unfold impl_Game_sizes.f
      rw [if_pos (by omega), e0]
      refine evsome rfl (evbind (impl_mix_v h1 v1) (evbind (impl_mix_v h2 v2) ?_))
      unfold payAt
      refine evpos rfl (evpos rfl ?_)
      by_cases c1 : D1 > 30000
      ·exact evpos c1 (evc rfl)
      ·exact evneg c1 (evpos (show D2 > 30000 by omega) (evc rfl))
    ·have c1 : ¬ D1 > 30000 := by omega
     have c2 : ¬ D2 > 30000 := by omega
     have X1 : ∀ i, i < a.length → Sml (nm l1 D1 i) := fun i hi => v_sml v1 (by omega) i (by omega)
     have Y1 : ∀ i, i < (rw_ a 0).length → Sml (nm l2 D2 i) := fun i hi => v_sml v2 (by omega) i (by omega)
     have x1 : (numL l1 D1 l1.length).length = a.length := by rw [numL_len]; exact n1
     have y1 : (numL l2 D2 l2.length).length = (rw_ a 0).length := by rw [numL_len]; exact n2
     have x2 : ∀ j, j < a.length → (numL l1 D1 l1.length).getD j 0 = nm l1 D1 j := fun j hj => numL_at l1 D1 _ j (by omega)
     have y2 : ∀ j, j < (rw_ a 0).length → (numL l2 D2 l2.length).getD j 0 = nm l2 D2 j := fun j hj => numL_at l2 D2 _ j (by omega)
     have pd1 : 1 * 1 ≤ D1 * D2 := Int.mul_le_mul p1 q1 (by decide) (by omega)
     have pd2 : D1 * D2 ≤ 30000 * 30000 := Int.mul_le_mul (by omega) (by omega) (by omega) (by decide)
     have ba := out_b (m := a) (X := nm l1 D1) (Y := nm l2 D2) (l := (rw_ a 0).length) (k := a.length) X1 Y1 wa.2.2 hl a.length (Nat.le_refl _)
     have bb := out_b (m := b) (X := nm l1 D1) (Y := nm l2 D2) (l := (rw_ a 0).length) (k := a.length) X1 Y1 wb.2.2 hl a.length (Nat.le_refl _)
     refine ⟨payR (redR (out a (nm l1 D1) (nm l2 D2) (rw_ a 0).length a.length) (D1 * D2)) (redR (out b (nm l1 D1) (nm l2 D2) (rw_ a 0).length a.length) (D1 * D2)), ?_, ?_⟩
     ·unfold spec_PayoffsAt.f spec_l07Both.f
      refine evbind (a := (numL l1 D1 l1.length, numL l2 D2 l2.length, D1, D2, 0)) (evbind ss (evpos gd (evbind (spec_mix_v h1 v1 30000) (evpos (by omega) ?_)))) (evpos rfl ?_)
      ·rw [e0]
       refine evbind (spec_mix_v h2 v2 30000) ?_
       rw [if_neg c1, if_neg c2]
       exact evneg (by simp) (evstep (fun k => by rw [spec_l07Both.j0]) (evneg (by simp) (evpos rfl (evpos rfl (evc rfl)))))
      ·exact spec_pay wa wb hk hl x1 x2 X1 y1 y2 Y1 p1 (by omega) q1 (by omega) a.length 0 (by omega)
     ·unfold impl_PayoffsAt.f
      refine evsome is (evpos gd ?_)
      unfold impl_Game_sizes.f
      rw [if_pos (by omega), e0]
      refine evsome rfl (evbind (impl_mix_v h1 v1) (evbind (impl_mix_v h2 v2) ?_))
      unfold payAt payTell
      have wd : IntKind.i64.wrap (D1 * D2) = D1 * D2 := IntWalk.i64_in _ (by omega)
      refine evpos rfl (evpos rfl (evneg c1 (evneg c2 ?_)))
      simp only [wd]
      refine evbind (impl_form_eq wa hk hl x1 x2 X1 y1 y2 Y1) (evbind (impl_red ba.1 (by omega) (by omega) (by omega)) ?_)
      have r1 := redR_code (out a (nm l1 D1) (nm l2 D2) (rw_ a 0).length a.length) (D1 * D2)
      have r2 := redR_code (out b (nm l1 D1) (nm l2 D2) (rw_ a 0).length a.length) (D1 * D2)
      unfold payR
      by_cases k1 : (redR (out a (nm l1 D1) (nm l2 D2) (rw_ a 0).length a.length) (D1 * D2)).2.2 = 0
      ·refine evpos k1 ?_
       rw [if_pos k1]
       refine evbind (impl_form_eq wb hk hl x1 x2 X1 y1 y2 Y1) (evbind (impl_red bb.1 (by omega) (by omega) (by omega)) ?_)
       by_cases k2 : (redR (out b (nm l1 D1) (nm l2 D2) (rw_ a 0).length a.length) (D1 * D2)).2.2 = 0
       ·refine evpos k2 ?_
        rw [if_pos k2]; exact evc rfl
       ·refine evneg k2 ?_
        rw [if_neg k2, show (redR (out b (nm l1 D1) (nm l2 D2) (rw_ a 0).length a.length) (D1 * D2)).2.2 = 3 from by omega]; exact evc rfl
      ·refine evneg k1 ?_
       rw [if_neg k1, show (redR (out a (nm l1 D1) (nm l2 D2) (rw_ a 0).length a.length) (D1 * D2)).2.2 = 3 from by omega]; exact evc rfl
   ·obtain ⟨D1, v1⟩ := v1
    refine ⟨(0, 0, 0, 0, 2), ?_, ?_⟩
    ·unfold spec_PayoffsAt.f spec_l07Both.f
     refine evbind (a := ([], [], 0, 0, 2)) (evbind ss (evpos gd (evbind (spec_mix_v h1 v1 30000) (evpos (by omega) ?_)))) (evneg (by decide) (evc rfl))
     rw [e0]
     refine evbind (spec_mix_n h2 v2 30000) (evneg (by split <;> simp) (evstep (fun k => by rw [spec_l07Both.j0]) (evpos (by decide) (evc rfl))))
    ·unfold impl_PayoffsAt.f
     refine evsome is (evpos gd ?_)
     unfold impl_Game_sizes.f
     rw [if_pos (by omega), e0]
     refine evsome rfl (evbind (impl_mix_v h1 v1) (evbind (impl_mix_n h2 v2) ?_))
     unfold payAt
     exact evpos rfl (evneg (by simp) (evc rfl))
  ·refine ⟨(0, 0, 0, 0, 2), ?_, ?_⟩
   ·unfold spec_PayoffsAt.f spec_l07Both.f
    refine evbind (a := ([], [], 0, 0, 2)) (evbind ss (evpos gd (evbind (spec_mix_n h1 v1 30000) (evpos (by omega) ?_)))) (evneg (by decide) (evc rfl))
    rw [e0]
    by_cases v2 : ∃ D, V l2 ((rw_ a 0).length : Int) D
    ·obtain ⟨D2, v2⟩ := v2
     exact evbind (spec_mix_v h2 v2 30000) (evpos rfl (evstep (fun k => by rw [spec_l07Both.j0]) (evpos rfl (evc rfl))))
    ·exact evbind (spec_mix_n h2 v2 30000) (evpos rfl (evstep (fun k => by rw [spec_l07Both.j0]) (evpos rfl (evc rfl))))
   ·unfold impl_PayoffsAt.f
    refine evsome is (evpos gd ?_)
    unfold impl_Game_sizes.f
    rw [if_pos (by omega), e0]
    refine evsome rfl (evbind (impl_mix_n h1 v1) ?_)
    by_cases v2 : ∃ D, V l2 ((rw_ a 0).length : Int) D
    ·obtain ⟨D2, v2⟩ := v2
     refine evbind (impl_mix_v h2 v2) ?_
     unfold payAt
     exact evneg (by simp) (evc rfl)
    ·refine evbind (impl_mix_n h2 v2) ?_
     unfold payAt
     exact evneg (by simp) (evc rfl)
 ·refine ⟨(0, 0, 0, 0, 1), ?_, ?_⟩
  ·unfold spec_PayoffsAt.f spec_l07Both.f
   exact evbind (a := ([], [], 0, 0, 1)) (evbind (Gm.spec_is a b ha hr _ hb) (evneg (by simpa using g) (evc rfl))) (evneg (by decide) (evc rfl))
  ·unfold impl_PayoffsAt.f
   exact evsome (Gm.impl_is a b ha hr _ hb) (evneg (by simpa using g) (evc rfl))
end Go.Proofs.Ytjjbhdpjnjncbaa.Mp
end
section
namespace Go.Proofs.Ytjjbhdpjnjncbaa.La
open Go.RowKit Go.Proofs.YtjjbhdpjnjncbaaW.PrintWords Go.Proofs.YtjjbhdpjnjncbaaW.PrintMore Go.Proofs.Ytjjbhdpjnjncbaa.Ma Go.Proofs.Ytjjbhdpjnjncbaa.Pr Go.Proofs.Ytjjbhdpjnjncbaa.Hm
end Go.Proofs.Ytjjbhdpjnjncbaa.La
end
section
namespace Go.Proofs.Ytjjbhdpjnjncbaa.La
open Go.RowKit Go.Proofs.YtjjbhdpjnjncbaaW.PrintWords Go.Proofs.YtjjbhdpjnjncbaaW.PrintMore Go.Proofs.Ytjjbhdpjnjncbaa.Ma Go.Proofs.Ytjjbhdpjnjncbaa.Pr Go.Proofs.Ytjjbhdpjnjncbaa.Op
theorem eqG {a b : List (List Int)} (ha : Fit a) (hb : Fit b) : Ev (fun k => laws_eqGame.f k a b a b) true := by
 unfold laws_eqGame.f
 exact evbind (fit_eq ha) (evpos rfl (evbind (fit_eq hb) (evpos rfl (evc rfl))))
end Go.Proofs.Ytjjbhdpjnjncbaa.La
end
section
namespace Go.Proofs.Ytjjbhdpjnjncbaa.La
open Go.RowKit Go.Proofs.YtjjbhdpjnjncbaaW.PrintWords Go.Proofs.YtjjbhdpjnjncbaaW.PrintMore Go.Proofs.Ytjjbhdpjnjncbaa.Ma Go.Proofs.Ytjjbhdpjnjncbaa.Pr Go.Proofs.Ytjjbhdpjnjncbaa.Hm Go.Proofs.Ytjjbhdpjnjncbaa.Op
theorem szG2 {a b : List (List Int)} (ga : GoodList (GoodList (GoodInt .i64)) a) (gb : GoodList (GoodList (GoodInt .i64)) b) :
  ∃ t : Int, Ev (fun k => laws_szGame.f k a b 1048576) t ∧ (0 ≤ t → tot a ≤ 1048576 ∧ tot b ≤ 1048576) := by
 have h1 := szSS a ga (n := 1048576) (by decide) (by decide)
 by_cases c : (1048576 : Int) < (tot a : Int)
 ·rw [if_pos c] at h1
  exact ⟨-1, by unfold laws_szGame.f; exact evbind h1 (evpos (by decide) (evc rfl)), fun h => by omega⟩
 ·rw [if_neg c] at h1
  have h2 := szSS b gb (n := 1048576 - (tot a : Int)) (by omega) (by omega)
  by_cases c2 : (1048576 : Int) - (tot a : Int) < (tot b : Int)
  ·rw [if_pos c2] at h2
   exact ⟨-1, by unfold laws_szGame.f; exact evbind h1 (evneg (by omega) (evbind h2 (evpos (by decide) (evc rfl)))), fun h => by omega⟩
  ·rw [if_neg c2] at h2
   exact ⟨_, by unfold laws_szGame.f; exact evbind h1 (evneg (by omega) (evbind h2 (evneg (by omega) (evc rfl)))), fun _ => ⟨by omega, by omega⟩⟩
theorem szG_le {a b : List (List Int)} (ga : GoodList (GoodList (GoodInt .i64)) a) (gb : GoodList (GoodList (GoodInt .i64)) b) {t : Int} (ht : Ev (fun k => laws_szGame.f k a b 1048576) t) : t ≤ 1048576 := by
 have uniq : ∀ u : Int, Ev (fun k => laws_szGame.f k a b 1048576) u → t = u := by
  intro u hu
  obtain ⟨k1, e1⟩ := ht
  obtain ⟨k2, e2⟩ := hu
  have h1 := e1 (k1 + k2) (by omega)
  have h2 := e2 (k1 + k2) (by omega)
  rw [h1] at h2
  exact Option.some.inj h2
 have h1 := szSS a ga (n := 1048576) (by decide) (by decide)
 by_cases c : (1048576 : Int) < (tot a : Int)
 ·rw [if_pos c] at h1
  have := uniq (-1) (by unfold laws_szGame.f; exact evbind h1 (evpos (by decide) (evc rfl)))
  omega
 ·rw [if_neg c] at h1
  have h2 := szSS b gb (n := 1048576 - (tot a : Int)) (by omega) (by omega)
  by_cases c2 : (1048576 : Int) - (tot a : Int) < (tot b : Int)
  ·rw [if_pos c2] at h2
   have := uniq (-1) (by unfold laws_szGame.f; exact evbind h1 (evneg (by omega) (evbind h2 (evpos (by decide) (evc rfl)))))
   omega
  ·rw [if_neg c2] at h2
   have := uniq _ (by unfold laws_szGame.f; exact evbind h1 (evneg (by omega) (evbind h2 (evneg (by omega) (evc rfl)))))
   omega
end Go.Proofs.Ytjjbhdpjnjncbaa.La
end
section
namespace Go.Proofs.Ytjjbhdpjnjncbaa.Pure
open Go.RowKit Go.Proofs.YtjjbhdpjnjncbaaW.PrintWords Go.Proofs.YtjjbhdpjnjncbaaW.PrintMore Go.Proofs.Ytjjbhdpjnjncbaa.Ma Go.Proofs.Ytjjbhdpjnjncbaa.Pr Go.Proofs.Ytjjbhdpjnjncbaa.La Go.Proofs.Ytjjbhdpjnjncbaa.Op
theorem FnExactPayoffsAt : Say.FnExactPayoffsAt := by
 intro a b l1 l2 ga gb g1 g2
 obtain ⟨t, hsz, hf⟩ := szG2 ga gb
 have ht1 : t ≤ 1048576 := szG_le ga gb hsz
 obtain ⟨k0, ht⟩ := hsz
 by_cases c : t < 0
 ·refine ⟨k0, ?_⟩
  unfold laws_FnExactPayoffsAt.f
  rw [if_pos]
  exact .inr (.inl ⟨t, ht _ (Nat.le_refl _), c⟩)
 ·obtain ⟨ta, tb⟩ := hf (by omega)
  have s1 := szF (l := l1) (n := t) (by omega) ht1 g1.1
  by_cases c1 : t < (l1.length : Int)
  ·rw [if_pos c1] at s1
   refine ⟨k0, ?_⟩
   unfold laws_FnExactPayoffsAt.f
   rw [if_pos]
   exact .inr (.inr (.inl ⟨t, -1, ht _ (Nat.le_refl _), c, s1, by decide⟩))
  ·rw [if_neg c1] at s1
   have s2 := szF (l := l2) (n := t - (l1.length : Int)) (by omega) (by omega) g2.1
   by_cases c2 : t - (l1.length : Int) < (l2.length : Int)
   ·rw [if_pos c2] at s2
    refine ⟨k0, ?_⟩
    unfold laws_FnExactPayoffsAt.f
    rw [if_pos]
    exact .inr (.inr (.inr ⟨t, _, -1, ht _ (Nat.le_refl _), c, s1, by omega, s2, by decide⟩))
   ·rw [if_neg c2] at s2
    have fa := fit_of ta; have fb := fit_of tb
    have m1 : (l1.map cv).length ≤ 1048576 := by rw [List.length_map]; omega
    have m2 : (l2.map cv).length ≤ 1048576 := by rw [List.length_map]; omega
    obtain ⟨R, ⟨k1, e1⟩, ⟨k2, e2⟩⟩ := Mp.both a b (l1.map cv) (l2.map cv) fa.len fa.row m1 m2
    obtain ⟨k3, e3⟩ := fit_to fa
    obtain ⟨k4, e4⟩ := fit_to fb
    obtain ⟨k5, e5⟩ := toF l1 (by omega)
    obtain ⟨k6, e6⟩ := toF l2 (by omega)
    obtain ⟨k7, e7⟩ := eqG fa fb
    obtain ⟨k8, e8⟩ := eqF _ m1
    obtain ⟨k9, e9⟩ := eqF _ m2
    have q : ∀ x y : Int, laws_eqFrac.f x y x y = some true := fun x y => by unfold laws_eqFrac.f; simp
    refine ⟨k0 + k1 + k2 + k3 + k4 + k5 + k6 + k7 + k8 + k9, ?_⟩
    unfold laws_FnExactPayoffsAt.f
    rw [if_pos]
    exact .inl ⟨t, _, _, l1.map cv, l2.map cv, R.1, R.2.1, R.2.2.1, R.2.2.2.1, R.2.2.2.2, ht _ (by omega), c, s1, by omega, s2, by omega, ⟨e3 _ (by omega), e4 _ (by omega)⟩, e5 _ (by omega), e6 _ (by omega), e1 _ (by omega), e2 _ (by omega), q _ _, q _ _, e7 _ (by omega), e8 _ (by omega), e9 _ (by omega)⟩
end Go.Proofs.Ytjjbhdpjnjncbaa.Pure
end
section
namespace Go.Proofs.Ytjjbhdpjnjncbaa.fnExactPayoffsAt
open Go.ChangeShapes Go.WideShapes Go.ChangeAt Go.RowKit Go.Proofs.Ytjjbhdpjnjncbaa.Op Go.Proofs.YtjjbhdpjnjncbaaW.PrintWords
theorem own : ownKnob Try.prog.godebug = none := by kernel_rfl
theorem laidOut : laidOutB Try.prog = true := by kernel_rfl
theorem lifted (os : Os) (started : os.Started) (H : Type) (enc : TypeId × Value → H) :
  ReturnsInHanded {} Try.checked os 8 .any (Rows.fnExactPayoffsAtSpec.pre6 enc Try.prog Try.f8 Rows.fnExactPayoffsAtRow.domain false) (Rows.fnExactPayoffsAtSpec.post enc Try.prog Try.f8 false true false false) := by
 refine returnsInHanded_of_change_sized (C := Try.checked) own started (by kernel_rfl) Try.func8
  (ChangeSpec.witness6 (enc := enc) (C := Try.checked) false ⟨#[], #[.agg #[.slice none 0 0, .slice none 0 0], .slice none 0 0, .slice none 0 0], []⟩ 8 (by kernel_rfl) (by kernel_rfl) (by kernel_rfl) (by kernel_rfl)) ?_
 intro W base args ds gs before hval0 hW hcnd hsz0 _
 have hval : ∀ (j : Nat) t v, Try.f8.params[j]? = some t → args[j]? = some v → Value.okWide Try.prog W .any base t v := hval0
 have hW' := hW
 obtain ⟨p, q, hA0, hV, rfl, hfz, hnd⟩ := hW
 have hA : DataW.TrodAll enc Try.prog W 0 (fun _ => true) true Try.f8.params.toList args.toList ds p := hA0
 rw [Try.params8] at hA hval
 obtain ⟨v0, vs0, d0, ds0, p0, q0, hargs, rfl, rfl, h0, r0⟩ := trodAll_cons hA
 obtain ⟨v1, vs1, d1, ds1, p1, q1, rfl, rfl, rfl, h1, r1⟩ := trodAll_cons r0
 obtain ⟨v2, vs2, d2, ds2, p2, q2, rfl, rfl, rfl, h2, r2⟩ := trodAll_cons r1
 obtain ⟨rfl, rfl, rfl⟩ := trodAll_nil r2
 obtain rfl : args = #[v0, v1, v2] := by cases args; simp_all
 obtain ⟨rfl, rfl⟩ := trodVars_none hV
 have k0 := h0
 have lt0 := trod_blocks k0
 obtain ⟨⟨x0_0, x0_1⟩, cs0, rfl, hk0, g0⟩ := arg_struct Try.underlying24 (opens_struct2 Try.underlying24 ⟨by kernel_rfl, by kernel_rfl⟩ ⟨by kernel_rfl, by kernel_rfl⟩ (by kernel_rfl) (opens_slice Try.underlying22 (by kernel_rfl) (opens_slice Try.underlying33 (by kernel_rfl) (opens_int Try.underlying2))) (opens_slice Try.underlying22 (by kernel_rfl) (opens_slice Try.underlying33 (by kernel_rfl) (opens_int Try.underlying2))) id (Kd.pair (Kd.slice 33 (Kd.slice 2 (Kd.int .i64))) (Kd.slice 33 (Kd.slice 2 (Kd.int .i64)))) (fun _ _ _ h => h) (fun x => (GoodList (GoodList (GoodInt .i64))) x.1 ∧ (GoodList (GoodList (GoodInt .i64))) x.2) (fun _ h0 h1 => ⟨h0, h1⟩)) (hval 0 24 v0 rfl rfl) h0
 obtain ⟨A0_0, c0_0, A0_1, c0_1, rfl, q0_0, r0_0, q0_1, r0_1⟩ := cells_slice_slice hk0
 have k1 := h1
 have lt1 := trod_blocks k1
 letI inh1 : Inhabited Pr.S120 := ⟨Pr.z120⟩
 obtain ⟨A1, c1, l1, rfl, q1_0, r1_0, g1⟩ := arg_slice (d := Pr.k120) Try.underlying62 (by kernel_rfl) (opens_struct2 Try.underlying120 ⟨by kernel_rfl, by kernel_rfl⟩ ⟨by kernel_rfl, by kernel_rfl⟩ (by kernel_rfl) (opens_int Try.underlying2) (opens_int Try.underlying2) (fun x : Int × Int => (⟨x.1, x.2⟩ : Pr.S120)) Pr.k120 (fun _ _ _ h => h) (fun x : Pr.S120 => (GoodInt .i64) x.f0 ∧ (GoodInt .i64) x.f1) (fun _ h0 h1 => ⟨h0, h1⟩)) (hval 1 62 v1 rfl rfl) h1
 have k2 := h2
 have lt2 := trod_blocks k2
 letI inh2 : Inhabited Pr.S120 := ⟨Pr.z120⟩
 obtain ⟨A2, c2, l2, rfl, q2_0, r2_0, g2⟩ := arg_slice (d := Pr.k120) Try.underlying62 (by kernel_rfl) (opens_struct2 Try.underlying120 ⟨by kernel_rfl, by kernel_rfl⟩ ⟨by kernel_rfl, by kernel_rfl⟩ (by kernel_rfl) (opens_int Try.underlying2) (opens_int Try.underlying2) (fun x : Int × Int => (⟨x.1, x.2⟩ : Pr.S120)) Pr.k120 (fun _ _ _ h => h) (fun x : Pr.S120 => (GoodInt .i64) x.f0 ∧ (GoodInt .i64) x.f1) (fun _ h0 h1 => ⟨h0, h1⟩)) (hval 2 62 v2 rfl rfl) h2
 obtain ⟨k, h⟩ := Pure.FnExactPayoffsAt x0_0 x0_1 l1 l2 g0.1 g0.2 g1 g2
 clear hA0 hval0 hsz0
 refine (Pr.laws_FnExactPayoffsAt.calls k A0_0 c0_0 x0_0 A0_1 c0_1 x0_1 A1 c1 l1 A2 c2 l2 true W r0_0 q0_0 r0_1 q0_1 r1_0 q1_0 r2_0 q2_0 h).mono ?_
 rintro e W' ⟨rfl, bel0⟩
 have bel : Below W.heap.size W W' := by first | exact bel0 | exact bel0.below
 exact ⟨_, rfl, _, _, _, [], _, [], hW', trodAll_mk1 (shut_bool Try.underlying4 _), (trodAll_cons_mk (Below.trod laidOut (by kernel_rfl) (of_decide_eq_true (by kernel_rfl)) k0 bel lt0) (trodAll_cons_mk (Below.trod laidOut (by kernel_rfl) (of_decide_eq_true (by kernel_rfl)) k1 bel lt1) (trodAll_cons_mk (Below.trod laidOut (by kernel_rfl) (of_decide_eq_true (by kernel_rfl)) k2 bel lt2) trodAll_mk0))), rfl, bel.frame _, fun h => by cases h⟩
theorem over : Rows.fnExactPayoffsAtRow.holds Try.pinned (OpenSpec.ofChange Rows.fnExactPayoffsAtSpec) :=
 OpenClaim.holds_of_wide 8 Try.f8 rfl rfl rfl rfl rfl rfl rfl ⟨rfl, rfl, rfl, rfl, rfl⟩ rfl rfl rfl rfl rfl (by kernel_rfl) Try.func8 (by kernel_rfl)
  (of_decide_eq_true (by kernel_rfl)) (by unfold Func.isWrapper; first | (rw [if_pos (by decide +kernel)]; kernel_rfl) | (rw [if_neg (by decide +kernel)]; exact ⟨rfl, rfl⟩))
  (fun os started H enc _ => lifted os started H enc)
theorem proved : Rows.FnExactPayoffsAtSaid := over
#print axioms proved
end Go.Proofs.Ytjjbhdpjnjncbaa.fnExactPayoffsAt
namespace Go.Proofs.Ytjjbhdpjnjncbaa
theorem fnExactPayoffsAt_holds : Rows.FnExactPayoffsAtSaid := fnExactPayoffsAt.proved
end Go.Proofs.Ytjjbhdpjnjncbaa
end
