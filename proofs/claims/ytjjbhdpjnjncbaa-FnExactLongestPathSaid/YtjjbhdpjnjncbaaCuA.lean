/- Acyclic orientations: the program's and the reference's taking away of sinks are the same passes. -/
import Derived.Test.YtjjbhdpjnjncbaaCu
import Derived.Test.YtjjbhdpjnjncbaaPrx17
import Derived.Test.YtjjbhdpjnjncbaaPrx21
namespace Go.Proofs.Ytjjbhdpjnjncbaa.CuA
open Go.RowKit Go.Proofs.YtjjbhdpjnjncbaaW.PrintWords Go.Proofs.YtjjbhdpjnjncbaaW.PrintMore Go.Proofs.Ytjjbhdpjnjncbaa.Ma Go.Proofs.Ytjjbhdpjnjncbaa.Pr Go.Proofs.Ytjjbhdpjnjncbaa.Cu
set_option linter.unusedVariables false

/-- What is known: the greatest length of a walk from a vertex. -/
abbrev St := Nat → Option Nat
def upd (f : St) (v m : Nat) : St := fun u => if u = v then some m else f u
/-- One direction's part of a vertex's length. -/
def jn : Option Nat → Option Nat → Option Nat
  | some m, some h => some (max m (h + 1))
  | _, _ => none
def best (l : List Int) (f : St) (v : Nat) : Nat → Option Nat
  | 0 => some 0
  | i + 1 => if bB (at_ l v) i = true then jn (best l f v i) (f (v ^^^ 2 ^ i)) else best l f v i
def stepV (d : Nat) (l : List Int) (f : St) (v : Nat) : St := match f v with
  | some _ => f
  | none => match best l f v d with
    | some m => upd f v m
    | none => f
def passN (d : Nat) (l : List Int) : Nat → St → Nat → St
  | 0, f, _ => f
  | m + 1, f, v => passN d l m (stepV d l f v) (v + 1)
/-- How many are known below n. -/
def cnt (f : St) : Nat → Nat
  | 0 => 0
  | n + 1 => cnt f n + if (f n).isSome = true then 1 else 0
theorem cnt_le (f : St) (n : Nat) : cnt f n ≤ n := by
  induction n with
  | zero => exact Nat.le_refl _
  | succ n ih => unfold cnt; split <;> omega
theorem cnt_upd_ge (f : St) (v m : Nat) (n : Nat) (h : n ≤ v) : cnt (upd f v m) n = cnt f n := by
  induction n with
  | zero => rfl
  | succ n ih => unfold cnt; rw [ih (by omega), show upd f v m n = f n from if_neg (by omega)]
theorem cnt_upd (f : St) (v m : Nat) (hf : f v = none) (n : Nat) (h : v < n) : cnt (upd f v m) n = cnt f n + 1 := by
  induction n with
  | zero => omega
  | succ n ih =>
    unfold cnt
    by_cases e : v = n
    · subst e
      rw [cnt_upd_ge f v m v (Nat.le_refl _), show upd f v m v = some m from if_pos rfl, hf]
      simp
    · rw [ih (by omega), show upd f v m n = f n from if_neg (by omega)]
      omega
theorem cnt_lt (f : St) (v : Nat) (hf : f v = none) (n : Nat) (h : v < n) : cnt f n < n := by
  have := cnt_upd f v 0 hf n h
  have := cnt_le (upd f v 0) n
  omega
theorem cnt_full (f : St) (n : Nat) (h : cnt f n = n) (v : Nat) (hv : v < n) : ∃ m, f v = some m := by
  cases e : f v with
  | some m => exact ⟨m, rfl⟩
  | none => have := cnt_lt f v e n hv; omega

/-- The lengths known so far are at most their number. -/
def Low (f : St) (c : Nat) : Prop := ∀ v m, f v = some m → m ≤ c
theorem Low.mono {f : St} {c c' : Nat} (h : Low f c) (hc : c ≤ c') : Low f c' := fun v m e => Nat.le_trans (h v m e) hc
theorem best_low {l : List Int} {f : St} {c v : Nat} (h : Low f c) : ∀ i m, best l f v i = some m → m ≤ c + 1 := by
  intro i
  induction i with
  | zero => intro m e; cases e; omega
  | succ i ih =>
    intro m e
    unfold best at e
    split at e
    · cases e1 : best l f v i with
      | none => rw [e1] at e; simp [jn] at e
      | some a =>
        cases e2 : f (v ^^^ 2 ^ i) with
        | none => rw [e1, e2] at e; simp [jn] at e
        | some b =>
          rw [e1, e2] at e
          simp only [jn, Option.some.injEq] at e
          have := ih a e1
          have := h _ _ e2
          omega
    · exact ih m e
theorem stepV_cases (d : Nat) (l : List Int) (f : St) (v : Nat) : stepV d l f v = f ∨ ∃ m, f v = none ∧ best l f v d = some m ∧ stepV d l f v = upd f v m := by
  unfold stepV
  cases e : f v with
  | some _ => exact .inl rfl
  | none =>
    cases e2 : best l f v d with
    | none => exact .inl rfl
    | some m => exact .inr ⟨m, rfl, rfl, rfl⟩
theorem stepV_low {d : Nat} {l : List Int} {f : St} {v n : Nat} (hv : v < n) (h : Low f (cnt f n)) : Low (stepV d l f v) (cnt (stepV d l f v) n) := by
  rcases stepV_cases d l f v with e | ⟨m, e1, e2, e⟩
  · rw [e]; exact h
  · rw [e, cnt_upd f v m e1 n hv]
    intro u m' hu
    unfold upd at hu
    split at hu
    · cases hu; exact best_low h _ _ e2
    · have := h u m' hu; omega
theorem passN_low {d : Nat} {l : List Int} {n : Nat} : ∀ m f v, v + m = n → Low f (cnt f n) → Low (passN d l m f v) (cnt (passN d l m f v) n) := by
  intro m
  induction m with
  | zero => intro f v _ h; exact h
  | succ m ih => intro f v hv h; exact ih _ _ (by omega) (stepV_low (by omega) h)
theorem passN_cnt {d : Nat} {l : List Int} {n : Nat} : ∀ m f v, v + m = n → cnt f n ≤ cnt (passN d l m f v) n ∧ (cnt (passN d l m f v) n = cnt f n → passN d l m f v = f) := by
  intro m
  induction m with
  | zero => intro f v _; exact ⟨Nat.le_refl _, fun _ => rfl⟩
  | succ m ih =>
    intro f v hv
    have h1 := ih (stepV d l f v) (v + 1) (by omega)
    rcases stepV_cases d l f v with e | ⟨b, e1, e2, e⟩
    · rw [e] at h1
      show cnt f n ≤ cnt (passN d l m (stepV d l f v) (v + 1)) n ∧ _
      rw [show passN d l (m + 1) f v = passN d l m (stepV d l f v) (v + 1) from rfl, e]
      exact h1
    · rw [show passN d l (m + 1) f v = passN d l m (stepV d l f v) (v + 1) from rfl]
      rw [e] at h1 ⊢
      rw [cnt_upd f v b e1 n (by omega)] at h1
      exact ⟨by omega, fun h => absurd h (by omega)⟩
/-- The passes till nothing more comes. -/
def fin (d : Nat) (l : List Int) (n : Nat) : Nat → St → St
  | 0, f => f
  | k + 1, f => if cnt (passN d l n f 0) n = cnt f n then f else fin d l n k (passN d l n f 0)

/-- The lists that hold a state. -/
def encV : Option Nat → Int
  | none => -1
  | some m => m
def lst {α : Type} (g : Option Nat → α) (f : St) (n : Nat) : List α := (List.range n).map fun v => g (f v)
theorem lst_len {α : Type} (g : Option Nat → α) (f : St) (n : Nat) : (lst g f n).length = n := by simp [lst]
theorem lst_get {α : Type} (z : α) (g : Option Nat → α) (f : St) (n v : Nat) (h : v < n) : (lst g f n).getD v z = g (f v) := by simp [lst, h]
theorem lst_set {α : Type} (g : Option Nat → α) (f : St) (n v m : Nat) : (lst g f n).set v (g (some m)) = lst g (upd f v m) n := by
  apply List.ext_getElem
  · simp [lst]
  · intro i h1 h2
    simp only [lst, List.getElem_set, List.getElem_map, List.getElem_range, upd]
    by_cases e : v = i
    · subst e; simp
    · rw [if_neg e, if_neg (fun k => e k.symm)]
theorem lst_rd (f : St) (n v : Nat) (g : Option Nat → Int) (h : v < n) : rd (lst g f n) (v : Int) = g (f v) := by rw [rd_nat, lst_get _ _ _ _ _ h]
theorem lst_rdb (f : St) (n v : Nat) (h : v < n) : rdOf false (lst Option.isSome f n) (v : Int) = (f v).isSome := by
  simp [rdOf, lst, h]
theorem mx_nat (a b : Nat) : mx (a : Int) b = ((max a b : Nat) : Int) := by unfold mx; split <;> omega

section
variable {d : Nat} {l : List Int} (hc : CubeOK d l)
include hc
theorem impl_dir (f : St) (b : Nat) (v : Nat) (hv : v < l.length) (hl : Low f (cnt f l.length)) (R : Int × Bool)
    (next : Ev (fun k => impl_Cube_longest.l1 k (lst encV (stepV d l f v) l.length) (cnt (stepV d l f v) l.length : Nat) b l (l.length : Int) ((v + 1 : Nat) : Int) d l) R) (hf : f v = none) :
    ∀ m i, i + m = d → Ev (fun k => impl_Cube_longest.l2 k (lst encV f l.length) (cnt f l.length : Nat) b v (at_ l v) (encV (best l f v i)) l (l.length : Int) v d i d l) R := by
  have h32 := ok32 hc
  have hcl := cnt_le f l.length
  intro m
  induction m with
  | zero =>
    intro i hi
    obtain rfl : i = d := by omega
    refine evstep (fun k => by rw [impl_Cube_longest.l2]) (evneg (by omega) ?_)
    rcases stepV_cases i l f v with e | ⟨m, e1, e2, e⟩
    · have hb : best l f v i = none := by
        cases e2 : best l f v i with
        | none => rfl
        | some m =>
          exfalso
          have : stepV i l f v = upd f v m := by unfold stepV; rw [hf, e2]
          rw [this] at e
          have := congrFun e v
          rw [hf] at this
          simp [upd] at this
      rw [hb]
      refine evneg (by simp [encV]) ?_
      rw [w64 (by omega) (by omega)]
      rw [e] at next
      exact next
    · have hm := best_low hl _ _ e2
      rw [e2]
      refine evpos (by simp [encV]) (evpos (by omega) (evpos (by rw [lst_len]; omega) ?_))
      rw [w64 (by omega) (by omega), w64 (by omega) (by omega), Int.toNat_natCast, lst_set]
      rw [e, cnt_upd f v m e1 _ hv] at next
      exact next
  | succ m ih =>
    intro i hi
    have hx := xor_lt hc.2.2.1 hv (show i < d by omega)
    have h5 := hc.2.1
    have hbs : best l f v (i + 1) = if bB (at_ l v) i = true then jn (best l f v i) (f (v ^^^ 2 ^ i)) else best l f v i := rfl
    have ih1 := ih (i + 1) (by omega)
    have e64 : wrap64 ((i : Int) + 1) = ((i + 1 : Nat) : Int) := by rw [w64 (by omega) (by omega)]; rfl
    refine evstep (fun k => by rw [impl_Cube_longest.l2]) (evpos (by omega) (evsome (has_eq _ (by omega)) ?_))
    by_cases hb : bB (at_ l v) i = true
    · rw [hbs, if_pos hb] at ih1
      refine evpos hb (evstep (fun k => by rw [impl_Cube_longest.j3]) ?_)
      rw [e64]
      cases e1 : best l f v i with
      | none =>
        rw [e1] at ih1
        refine evpos (by simp [encV]) ?_
        exact ih1
      | some a =>
        have ha := best_low hl _ _ e1
        refine evneg (by rw [decide_eq_true_eq]; simp only [encV]; omega) (evpos (by omega) ?_)
        rw [xor_pow (by omega) (by omega)]
        refine evpos (by omega) (evpos (by rw [lst_len]; omega) ?_)
        rw [lst_rd f _ _ _ hx]
        cases e2 : f (v ^^^ 2 ^ i) with
        | none =>
          rw [e1, e2] at ih1
          exact evpos (by simp [encV]) ih1
        | some h =>
          have hh := hl _ _ e2
          rw [e1, e2] at ih1
          refine evneg (by simp [encV]) ?_
          have : mx (encV (some a)) (wrap64 (encV (some h) + 1)) = encV (jn (some a) (some h)) := by
            simp only [encV, jn]
            rw [w64 (by omega) (by omega), show ((h : Int) + 1) = ((h + 1 : Nat) : Int) from by omega, mx_nat]
          rw [this]
          exact ih1
    · rw [hbs, if_neg hb] at ih1
      refine evneg hb (evstep (fun k => by rw [impl_Cube_longest.j3]) (evpos rfl ?_))
      rw [e64]
      exact ih1
theorem impl_vert (b : Nat) (R : Int × Bool) : ∀ m f v, v + m = l.length → Low f (cnt f l.length) →
    (Ev (fun k => if ((cnt (passN d l m f v) l.length : Nat) : Int) = (b : Nat) then (some ((0 : Int), false)) else (impl_Cube_longest.l0 k (lst encV (passN d l m f v) l.length) ((cnt (passN d l m f v) l.length : Nat) : Int) d l)) R) →
    Ev (fun k => impl_Cube_longest.l1 k (lst encV f l.length) (cnt f l.length : Nat) b l (l.length : Int) v d l) R := by
  have h32 := ok32 hc
  intro m
  induction m with
  | zero =>
    intro f v hv hl next
    refine evstep (fun k => by rw [impl_Cube_longest.l1]) (evneg (by omega) ?_)
    exact next
  | succ m ih =>
    intro f v hv hl next
    have hvl : v < l.length := by omega
    refine evstep (fun k => by rw [impl_Cube_longest.l1]) (evpos (by omega) (evpos (by omega) (evpos (by omega) (evpos (by rw [lst_len]; omega) ?_))))
    have nx := ih (stepV d l f v) (v + 1) (by omega) (stepV_low hvl hl) next
    rw [lst_rd f _ _ _ hvl]
    cases e : f v with
    | some a =>
      refine evpos (by simp [encV]) ?_
      rw [w64 (by omega) (by omega)]
      have : stepV d l f v = f := by unfold stepV; rw [e]
      rw [this] at nx
      exact nx
    | none =>
      refine evneg (by simp [encV]) ?_
      rw [rd_nat]
      exact impl_dir hc f b v hvl hl R nx e d 0 (by omega)
theorem impl_rounds (R : Int × Bool) : ∀ m f, l.length ≤ cnt f l.length + m → Low f (cnt f l.length) →
    (cnt (fin d l l.length m f) l.length = l.length → Ev (fun k => (slices_Max_int64_int64.f k (lst encV (fin d l l.length m f) l.length)).bind fun t => (some (t, true))) R) →
    (cnt (fin d l l.length m f) l.length ≠ l.length → R = (0, false)) →
    Ev (fun k => impl_Cube_longest.l0 k (lst encV f l.length) (cnt f l.length : Nat) d l) R := by
  intro m
  induction m with
  | zero =>
    intro f hm hl h1 h2
    have := cnt_le f l.length
    refine evstep (fun k => by rw [impl_Cube_longest.l0]) (evneg (by omega) ?_)
    exact h1 (by show cnt f l.length = _; omega)
  | succ m ih =>
    intro f hm hl h1 h2
    have hle := cnt_le f l.length
    have hp := passN_cnt (d := d) (l := l) (n := l.length) l.length f 0 (by omega)
    refine evstep (fun k => by rw [impl_Cube_longest.l0]) ?_
    by_cases e : cnt f l.length = l.length
    · refine evneg (by omega) ?_
      have hq : cnt (passN d l l.length f 0) l.length = cnt f l.length := by have := cnt_le (passN d l l.length f 0) l.length; have := hp.1; omega
      have hfin : fin d l l.length (m + 1) f = f := if_pos hq
      rw [hfin] at h1
      exact h1 e
    · refine evpos (by omega) ?_
      refine impl_vert hc (cnt f l.length) R l.length f 0 (by omega) hl ?_
      by_cases hq : cnt (passN d l l.length f 0) l.length = cnt f l.length
      · have hfin : fin d l l.length (m + 1) f = f := if_pos hq
        rw [hfin] at h2
        rw [h2 e]
        exact evpos (by rw [hq]) (evc rfl)
      · have hfin : fin d l l.length (m + 1) f = fin d l l.length m (passN d l l.length f 0) := if_neg hq
        rw [hfin] at h1 h2
        exact evneg (by omega) (ih _ (by have := hp.1; omega) (passN_low _ _ _ (by omega) hl) h1 h2)
end
/-- The end of all passes. -/
def last (d : Nat) (l : List Int) : St := fin d l l.length l.length (fun _ => none)
theorem cnt_none (n : Nat) : cnt (fun _ => none) n = 0 := by
  induction n with
  | zero => rfl
  | succ n ih => unfold cnt; rw [ih]; rfl
theorem low_none (c : Nat) : Low (fun _ => none) c := fun _ _ h => by cases h
theorem impl_longest {d : Nat} {l : List Int} (hc : CubeOK d l) (R : Int × Bool)
    (h1 : cnt (last d l) l.length = l.length → Ev (fun k => (slices_Max_int64_int64.f k (lst encV (last d l) l.length)).bind fun t => (some (t, true))) R) (h2 : cnt (last d l) l.length ≠ l.length → R = (0, false)) :
    Ev (fun k => impl_Cube_longest.f k d l) R := by
  have h32 := ok32 hc
  unfold impl_Cube_longest.f
  have e1 : slices_Repeat.f [(-1)] (l.length : Int) = some (lst encV (fun _ => none) l.length) := by
    unfold slices_Repeat.f
    rw [if_pos ⟨rfl, by omega, by omega⟩]
    congr 1
    apply List.ext_getElem
    · simp [lst]
    · intro i a b; simp [lst, encV, rd]
  refine evsome e1 ?_
  have := impl_rounds hc R l.length (fun _ => none) (by omega) (low_none _) h1 h2
  rw [cnt_none] at this
  exact this

/-! ### the reference -/
def val : Option Nat → Int
  | none => 0
  | some m => m
/-- The greatest length over the first directions, unknown ones taken for 0. -/
def most (l : List Int) (f : St) (v : Nat) : Nat → Nat
  | 0 => 0
  | i + 1 => if bB (at_ l v) i = true then max (most l f v i) ((f (v ^^^ 2 ^ i)).getD 0 + 1) else most l f v i
theorem most_low {l : List Int} {f : St} {c v : Nat} (h : Low f c) : ∀ i, most l f v i ≤ c + 1 := by
  intro i
  induction i with
  | zero => exact Nat.zero_le _
  | succ i ih =>
    unfold most
    split
    · cases e2 : f (v ^^^ 2 ^ i) with
      | none => simp; omega
      | some b => have := h _ _ e2; simp; omega
    · exact ih
theorem most_best {l : List Int} {f : St} {v : Nat} : ∀ i m, best l f v i = some m → most l f v i = m := by
  intro i
  induction i with
  | zero => intro m e; cases e; rfl
  | succ i ih =>
    intro m e
    unfold best at e
    unfold most
    split at e
    · rename_i hb
      rw [if_pos hb]
      cases e1 : best l f v i with
      | none => rw [e1] at e; simp [jn] at e
      | some a =>
        cases e2 : f (v ^^^ 2 ^ i) with
        | none => rw [e1, e2] at e; simp [jn] at e
        | some b =>
          rw [e1, e2] at e
          simp only [jn, Option.some.injEq] at e
          rw [ih a e1]
          simpa using e
    · rename_i hb
      rw [if_neg hb]
      exact ih m e
theorem jn_some (a b : Option Nat) : (jn a b).isSome = (a.isSome && b.isSome) := by cases a <;> cases b <;> rfl
section
variable {d : Nat} {l : List Int} (hc : CubeOK d l)
include hc
theorem spec_dir (f : St) (x8 : Bool) (v : Nat) (hv : v < l.length) (hl : Low f (cnt f l.length)) (R : List Int × Bool)
    (next : Ev (fun k => spec_l06Heights.l1 k (l.length : Int) (lst val (stepV d l f v) l.length) (lst Option.isSome (stepV d l f v) l.length) (cnt (stepV d l f v) l.length : Nat) (x8 || decide (cnt (stepV d l f v) l.length ≠ cnt f l.length)) ((v + 1 : Nat) : Int) d l) R) :
    ∀ m i, i + m = d → Ev (fun k => spec_l06Heights.l2 k (l.length : Int) (lst val f l.length) (lst Option.isSome f l.length) (cnt f l.length : Nat) x8 v (!(f v).isSome && (best l f v i).isSome) (most l f v i) i d l) R := by
  have h32 := ok32 hc
  have hcl := cnt_le f l.length
  intro m
  induction m with
  | zero =>
    intro i hi
    obtain rfl : i = d := by omega
    refine evstep (fun k => by rw [spec_l06Heights.l2]) (evneg (by omega) ?_)
    cases ef : f v with
    | some a =>
      refine evneg (by simp) ?_
      have : stepV i l f v = f := by unfold stepV; rw [ef]
      rw [this] at next
      rw [w64 (by omega) (by omega)]
      simpa using next
    | none =>
      cases e2 : best l f v i with
      | none =>
        refine evneg (by simp) ?_
        have : stepV i l f v = f := by unfold stepV; rw [ef, e2]
        rw [this] at next
        rw [w64 (by omega) (by omega)]
        simpa using next
      | some m =>
        have : stepV i l f v = upd f v m := by unfold stepV; rw [ef, e2]
        rw [this, cnt_upd f v m ef _ hv] at next
        refine evpos (by simp) (evpos (by omega) (evpos (by rw [lst_len]; omega) (evpos (by rw [lst_len]; omega) ?_)))
        rw [most_best _ _ e2, w64 (by omega) (by omega), w64 (by omega) (by omega), Int.toNat_natCast, show (m : Int) = val (some m) from rfl, lst_set, show true = Option.isSome (some m) from rfl, lst_set]
        simpa using next
  | succ m ih =>
    intro i hi
    have hx := xor_lt hc.2.2.1 hv (show i < d by omega)
    have h5 := hc.2.1
    have ih1 := ih (i + 1) (by omega)
    have e64 : wrap64 ((i : Int) + 1) = ((i + 1 : Nat) : Int) := by rw [w64 (by omega) (by omega)]; rfl
    refine evstep (fun k => by rw [spec_l06Heights.l2]) (evpos (by omega) ?_)
    rw [u64w (by omega) (by omega), xor_pow (by omega) (by omega), and_shl _ (by omega), rd_nat]
    refine evpos (by omega) (evpos (by omega) (evpos (by omega) ?_))
    have hp : (2 : Int) ^ i ≠ 0 := Int.ne_of_gt (Int.pow_pos (by decide))
    by_cases hb : bB (at_ l v) i = true
    · have hm1 : most l f v (i + 1) = max (most l f v i) ((f (v ^^^ 2 ^ i)).getD 0 + 1) := if_pos hb
      have hb1 : best l f v (i + 1) = jn (best l f v i) (f (v ^^^ 2 ^ i)) := if_pos hb
      rw [hm1, hb1, jn_some] at ih1
      have hmx : mx ((most l f v i : Nat) : Int) (wrap64 (rd (lst val f l.length) ((v ^^^ 2 ^ i : Nat) : Int) + 1)) = ((max (most l f v i) ((f (v ^^^ 2 ^ i)).getD 0 + 1) : Nat) : Int) := by
        rw [lst_rd f _ _ _ hx]
        cases e2 : f (v ^^^ 2 ^ i) with
        | none => rw [show val none + 1 = ((0 + 1 : Nat) : Int) from rfl, w64 (by omega) (by omega), mx_nat]; rfl
        | some h =>
          have hh := hl _ _ e2
          rw [show val (some h) + 1 = ((h + 1 : Nat) : Int) from rfl, w64 (by omega) (by omega), mx_nat]; rfl
      refine evneg (show ¬ (if bB (at_ l v) i = true then (2 : Int) ^ i else 0) = 0 by rw [if_pos hb]; exact hp) ?_
      by_cases hr : (!(f v).isSome && (best l f v i).isSome) = true
      · refine evpos hr (evpos (by omega) (evpos (by rw [lst_len]; omega) (evpos (by rw [lst_len]; omega) ?_)))
        rw [hmx, lst_rdb f _ _ hx, e64]
        rw [← Bool.and_assoc, hr, Bool.true_and] at ih1
        exact ih1
      · refine evneg hr (evpos (by omega) (evpos (by rw [lst_len]; omega) ?_))
        rw [hmx, e64]
        rw [← Bool.and_assoc, Bool.eq_false_iff.2 hr, Bool.false_and] at ih1
        exact ih1
    · have hm1 : most l f v (i + 1) = most l f v i := if_neg hb
      have hb1 : best l f v (i + 1) = best l f v i := if_neg hb
      rw [hm1, hb1] at ih1
      refine evpos (show (if bB (at_ l v) i = true then (2 : Int) ^ i else 0) = 0 by rw [if_neg hb]) ?_
      rw [e64]
      exact ih1
theorem spec_vert (c0 : Nat) (R : List Int × Bool) : ∀ m f v, v + m = l.length → c0 ≤ cnt f l.length → Low f (cnt f l.length) →
    (Ev (fun k => spec_l06Heights.l0 k (l.length : Int) (lst val (passN d l m f v) l.length) (lst Option.isSome (passN d l m f v) l.length) (cnt (passN d l m f v) l.length : Nat) (decide (cnt (passN d l m f v) l.length ≠ c0)) d l) R) →
    Ev (fun k => spec_l06Heights.l1 k (l.length : Int) (lst val f l.length) (lst Option.isSome f l.length) (cnt f l.length : Nat) (decide (cnt f l.length ≠ c0)) v d l) R := by
  have h32 := ok32 hc
  intro m
  induction m with
  | zero =>
    intro f v hv h0 hl next
    refine evstep (fun k => by rw [spec_l06Heights.l1]) (evneg (by omega) ?_)
    exact next
  | succ m ih =>
    intro f v hv h0 hl next
    have hvl : v < l.length := by omega
    refine evstep (fun k => by rw [spec_l06Heights.l1]) (evpos (by omega) (evpos (by omega) (evpos (by rw [lst_len]; omega) ?_)))
    rw [lst_rdb f _ _ hvl]
    have hge : cnt f l.length ≤ cnt (stepV d l f v) l.length := by
      rcases stepV_cases d l f v with e | ⟨b, e1, e2, e⟩
      · rw [e]; exact Nat.le_refl _
      · rw [e, cnt_upd f v b e1 _ hvl]; omega
    have nx := ih (stepV d l f v) (v + 1) (by omega) (by omega) (stepV_low hvl hl) next
    have hd : (decide (cnt f l.length ≠ c0) || decide (cnt (stepV d l f v) l.length ≠ cnt f l.length)) = decide (cnt (stepV d l f v) l.length ≠ c0) := by
      by_cases a : cnt f l.length = c0
      · simp [a]
      · simp [a]; omega
    have := spec_dir hc f (decide (cnt f l.length ≠ c0)) v hvl hl R (by rw [hd]; exact nx) d 0 (by omega)
    simpa [best, most] using this
theorem spec_rounds (R : List Int × Bool) : ∀ m f, l.length ≤ cnt f l.length + m → Low f (cnt f l.length) →
    R = (lst val (fin d l l.length m f) l.length, decide (cnt (fin d l l.length m f) l.length = l.length)) →
    Ev (fun k => spec_l06Heights.l0 k (l.length : Int) (lst val f l.length) (lst Option.isSome f l.length) (cnt f l.length : Nat) true d l) R := by
  have stop : ∀ f, Ev (fun k => spec_l06Heights.l0 k (l.length : Int) (lst val f l.length) (lst Option.isSome f l.length) (cnt f l.length : Nat) false d l) (lst val f l.length, decide (cnt f l.length = l.length)) := by
    intro f
    refine evstep (fun k => by rw [spec_l06Heights.l0]) (evneg (by simp) (evc ?_))
    congr 2
    by_cases e : cnt f l.length = l.length
    · simp [e]
    · simp [e]; omega
  have one : ∀ f, Low f (cnt f l.length) → ∀ R, Ev (fun k => spec_l06Heights.l0 k (l.length : Int) (lst val (passN d l l.length f 0) l.length) (lst Option.isSome (passN d l l.length f 0) l.length) (cnt (passN d l l.length f 0) l.length : Nat) (decide (cnt (passN d l l.length f 0) l.length ≠ cnt f l.length)) d l) R →
      Ev (fun k => spec_l06Heights.l0 k (l.length : Int) (lst val f l.length) (lst Option.isSome f l.length) (cnt f l.length : Nat) true d l) R := by
    intro f hl R h
    refine evstep (fun k => by rw [spec_l06Heights.l0]) (evpos rfl ?_)
    have := spec_vert hc (cnt f l.length) R l.length f 0 (by omega) (Nat.le_refl _) hl h
    simpa using this
  intro m
  induction m with
  | zero =>
    intro f hm hl hR
    have hle := cnt_le f l.length
    have hp := passN_cnt (d := d) (l := l) (n := l.length) l.length f 0 (by omega)
    have hq : cnt (passN d l l.length f 0) l.length = cnt f l.length := by have := cnt_le (passN d l l.length f 0) l.length; have := hp.1; omega
    refine one f hl R ?_
    rw [hq, hp.2 hq, hR, show decide (cnt f l.length ≠ cnt f l.length) = false from by simp]
    exact stop f
  | succ m ih =>
    intro f hm hl hR
    have hle := cnt_le f l.length
    have hp := passN_cnt (d := d) (l := l) (n := l.length) l.length f 0 (by omega)
    refine one f hl R ?_
    by_cases hq : cnt (passN d l l.length f 0) l.length = cnt f l.length
    · have hfin : fin d l l.length (m + 1) f = f := if_pos hq
      rw [hfin] at hR
      rw [hq, hp.2 hq, hR, show decide (cnt f l.length ≠ cnt f l.length) = false from by simp]
      exact stop f
    · have hfin : fin d l l.length (m + 1) f = fin d l l.length m (passN d l l.length f 0) := if_neg hq
      rw [hfin] at hR
      rw [show (decide (cnt (passN d l l.length f 0) l.length ≠ cnt f l.length)) = true from decide_eq_true hq]
      exact ih _ (by have := hp.1; omega) (passN_low _ _ _ (by omega) hl) hR
end
theorem spec_heights {d : Nat} {l : List Int} (hc : CubeOK d l) : Ev (fun k => spec_l06Heights.f k d l) (lst val (last d l) l.length, decide (cnt (last d l) l.length = l.length)) := by
  have h32 := ok32 hc
  unfold spec_l06Heights.f
  refine evpos (by omega) (evpos (by omega) (evpos (by omega) ?_))
  have := spec_rounds hc _ l.length (fun _ => none) (by omega) (low_none _) rfl
  rw [cnt_none] at this
  have e1 : lst val (fun _ => none) l.length = List.replicate ((l.length : Int)).toNat 0 := by
    apply List.ext_getElem
    · simp [lst]
    · intro i a b; simp [lst, val]
  have e2 : lst Option.isSome (fun _ => none) l.length = List.replicate ((l.length : Int)).toNat false := by
    apply List.ext_getElem
    · simp [lst]
    · intro i a b; simp [lst]
  rw [← e1, ← e2]
  exact this
/-- The greatest of a list, behind its first. -/
theorem max_loop (l : List Int) (hl : l.length ≤ 1048576) : ∀ m i (x : Int), i + m = l.length → ∃ t, Ev (fun k => slices_Max_int64_int64.l0 k l x (i : Nat)) t ∧ t = (l.drop i).foldl mx x := by
  intro m
  induction m with
  | zero =>
    intro i x hi
    refine ⟨x, evstep (fun k => by rw [slices_Max_int64_int64.l0]) (evneg (by omega) (evc rfl)), ?_⟩
    rw [List.drop_eq_nil_of_le (by omega)]; rfl
  | succ m ih =>
    intro i x hi
    obtain ⟨t, h1, h2⟩ := ih (i + 1) (mx x (l.getD i 0)) (by omega)
    refine ⟨t, evstep (fun k => by rw [slices_Max_int64_int64.l0]) (evpos (by omega) (evpos (by omega) ?_)), ?_⟩
    · rw [rd_nat, w64 (by omega) (by omega)]
      exact h1
    · have hlt : i < l.length := by omega
      have e : l.getD i 0 = l[i] := by simp [hlt]
      rw [h2, e, List.drop_eq_getElem_cons hlt, List.foldl_cons]
theorem max_of (l : List Int) (h0 : 0 < l.length) (hl : l.length ≤ 1048576) : Ev (fun k => slices_Max_int64_int64.f k l) ((l.drop 1).foldl mx (l.getD 0 0)) := by
  unfold slices_Max_int64_int64.f
  refine evneg (by omega) (evpos (by omega) ?_)
  obtain ⟨t, h1, h2⟩ := max_loop l hl (l.length - 1) 1 (rd l 0) (by omega)
  rw [h2, show rd l 0 = l.getD 0 0 from rd_nat l 0] at h1
  rw [show rd l 0 = l.getD 0 0 from rd_nat l 0]
  exact h1
end Go.Proofs.Ytjjbhdpjnjncbaa.CuA
