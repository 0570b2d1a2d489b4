/- Texts of one claim (the words of the kit's print that the claim uses, printed functions, and this session's own texts), joined in the order of their imports by this session's own program (merge.py). -/
import Derived.Test.YthdoilfjcgickaaRows
import Derived.WalkKit
import Derived.ProofKit
import Derived.OpenShut
import Derived.ShutString
import Derived.ChangeOld
import Derived.Below
import Derived.SizedLaws
import Derived.Test.YthdoilfjcgickaaJnFnExactPivotedProblem1
import Derived.Test.YthdoilfjcgickaaJnFnExactPivotedProblem2
import Derived.Test.YthdoilfjcgickaaJnFnExactPivotedProblem3
import Derived.Test.YthdoilfjcgickaaJnFnExactPivotedProblem4
set_option linter.unusedVariables false
set_option linter.unusedSimpArgs false
set_option maxHeartbeats 8000000
set_option maxRecDepth 100000
section
namespace Go.Proofs.Ythdoilfjcgickaa.La
open Go.RowKit Go.Proofs.YthdoilfjcgickaaW.PrintWords Go.Proofs.YthdoilfjcgickaaW.PrintMore Go.Proofs.Ythdoilfjcgickaa.Ma Go.Proofs.Ythdoilfjcgickaa.Pr Go.Proofs.Ythdoilfjcgickaa.Hm
theorem marks_at : ∀ (l : List (List Int)) (n : Int) (i : Nat) (h : i < l.length), (marks l n).getD i [] = count (n + lens (l.take i)) l[i].length
 | x :: l, n, 0, _ => by simp [marks, lens]
 | x :: l, n, i + 1, h => by
  have := marks_at l (n + x.length) i (by simpa using h)
  simp only [marks, List.getD_cons_succ, this, List.take_succ_cons, lens, List.getElem_cons_succ]
  congr 1
  push_cast
  omega
theorem heldSS (l : List (List Int)) (n : Int) (h0 : 0 ≤ n) (h1 : n + lens l ≤ 1099511627776) (hl : l.length ≤ 1099511627776) : Ev (fun k => laws_heldInt64SS.f k (marks l n) n) (n + lens l) := by
 have key : ∀ m i, i + m = l.length → Ev (fun k => laws_heldInt64SS.l0 k (marks l n) (n + lens (l.take i)) (i : Nat)) (n + lens l) := by
  intro m
  induction m with
  | zero =>
   intro i hi
   refine evstep (fun k => by rw [laws_heldInt64SS.l0]) (evneg (by rw [marks_length]; omega) (evc ?_))
   rw [List.take_of_length_le (by omega)]
  | succ m ih =>
   intro i hi
   have hlt : i < l.length := by omega
   have e1 := lens_take_succ l i hlt
   have e2 := lens_take_le l (i + 1)
   refine evstep (fun k => by rw [laws_heldInt64SS.l0]) (evpos (by rw [marks_length]; omega) (evpos (by omega) ?_))
   rw [rdL, marks_at l n i hlt, w64 (by omega) (by omega)]
   refine evbind (heldI (n + lens (l.take i)) l[i].length (by omega) (by omega) (by omega)) (evneg (by omega) ?_)
   have := ih (i + 1) (by omega)
   rw [show n + (lens (l.take (i + 1)) : Int) = n + lens (l.take i) + l[i].length from by rw [e1]; push_cast; omega] at this
   exact this
 have := key l.length 0 (by omega)
 unfold laws_heldInt64SS.f
 simpa [lens] using this
end Go.Proofs.Ythdoilfjcgickaa.La
end
section
namespace Go.Proofs.Ythdoilfjcgickaa.La
open Go.RowKit Go.Proofs.YthdoilfjcgickaaW.PrintWords Go.Proofs.YthdoilfjcgickaaW.PrintMore Go.Proofs.Ythdoilfjcgickaa.Ma Go.Proofs.Ythdoilfjcgickaa.Pr Go.Proofs.Ythdoilfjcgickaa.Hm Go.Proofs.Ythdoilfjcgickaa.Op
theorem szP2 {M : List (List Int)} {Q : List Int} (ga : GoodList (GoodList (GoodInt .i64)) M) (gb : GoodList (GoodInt .i64) Q) :
  ∃ t : Int, Ev (fun k => laws_szProblem.f k M Q 1048576) t ∧ t ≤ 1048576 ∧ (0 ≤ t → tot M ≤ 1048576 ∧ Q.length ≤ 1048576) := by
 have h1 := szSS M ga (n := 1048576) (by decide) (by decide)
 by_cases c : (1048576 : Int) < (tot M : Int)
 ·rw [if_pos c] at h1
  exact ⟨-1, by unfold laws_szProblem.f; exact evbind h1 (evpos (by decide) (evc rfl)), by decide, fun h => by omega⟩
 ·rw [if_neg c] at h1
  have h2 := sz_eq (l := Q) (n := 1048576 - (tot M : Int)) (by omega) (by omega) gb.1
  by_cases c2 : (1048576 : Int) - (tot M : Int) < (Q.length : Int)
  ·rw [if_pos c2] at h2
   exact ⟨-1, by unfold laws_szProblem.f; exact evbind h1 (evneg (by omega) (evsome h2 (evpos (by decide) (evc rfl)))), by decide, fun h => by omega⟩
  ·rw [if_neg c2] at h2
   exact ⟨_, by unfold laws_szProblem.f; exact evbind h1 (evneg (by omega) (evsome h2 (evneg (by omega) (evc rfl)))), by omega, fun _ => ⟨by omega, by omega⟩⟩
theorem fit_lensP {l : List (List Int)} (h : tot l ≤ 1048576) : lens l ≤ 1048576 := by unfold tot at h; omega
theorem toP {M : List (List Int)} {Q : List Int} (hM : Fit M) (hQ : Q.length ≤ 1048576) : Ev (fun k => laws_toProblem.f k M Q) (M, Q) := by
 unfold laws_toProblem.f
 exact evbind (fit_to hM) (evbind (toI Q hQ) (evc rfl))
theorem eqPr {M : List (List Int)} {Q : List Int} (hM : Fit M) (hQ : Q.length ≤ 1152921504606846976) : Ev (fun k => laws_eqProblem.f k M Q M Q) true := by
 unfold laws_eqProblem.f
 exact evbind (fit_eq hM) (evpos rfl (evbind (eqI_same Q hQ) (evpos rfl (evc rfl))))
end Go.Proofs.Ythdoilfjcgickaa.La
end
section
namespace Go.Proofs.Ythdoilfjcgickaa.Pp
open Go.RowKit Go.Proofs.YthdoilfjcgickaaW.PrintWords Go.Proofs.YthdoilfjcgickaaW.PrintMore Go.Proofs.Ythdoilfjcgickaa.Ma Go.Proofs.Ythdoilfjcgickaa.Pr Go.Proofs.Ythdoilfjcgickaa.Dt Go.Proofs.Ythdoilfjcgickaa.Bz Go.Proofs.Ythdoilfjcgickaa.Un Go.Proofs.Ythdoilfjcgickaa.Cz Go.Proofs.Ythdoilfjcgickaa.Pb Go.Proofs.Ythdoilfjcgickaa.Mn Go.Proofs.Ythdoilfjcgickaa.Sv Go.Proofs.Ythdoilfjcgickaa.Pv Go.Proofs.Ythdoilfjcgickaa.La Go.Proofs.Ythdoilfjcgickaa.Hm
structure Few (l : List (List Int)) : Prop where
 len : l.length ≤ 5
 row : ∀ x ∈ l, x.length ≤ 6
theorem few_lens : ∀ (x : List (List Int)), (∀ y ∈ x, y.length ≤ 6) → lens x ≤ 6 * x.length
 | [], _ => by simp [lens]
 | y :: x, h => by
  have h1 := h y (by simp)
  have h2 := few_lens x (fun z hz => h z (by simp [hz]))
  have h3 := lens_cons y x
  simp only [List.length_cons]
  omega
theorem Few.small {l : List (List Int)} (h : Few l) : lens l ≤ 30 := by have := few_lens l h.row; have := h.len; omega
theorem Few.fit {l : List (List Int)} (h : Few l) : Fit l := ⟨by have := h.len; omega, fun x hx => by have := h.row x hx; omega⟩
theorem Few.nil : Few [] := ⟨by simp, fun x hx => by simp at hx⟩
theorem pvR_len (n : Nat) (l : List (List Int)) (s : Int) : (pvR n l s).length = n := pR_len _ _ _ _ _
theorem pvR_row (n : Nat) (l : List (List Int)) (s : Int) : ∀ x ∈ pvR n l s, x.length = n := by
 intro x hx
 unfold pvR pR at hx
 obtain ⟨r, _, rfl⟩ := List.mem_map.1 hx
 simp
theorem pvS_len (n : Nat) (l : List (List Int)) (s : Int) (x : List Int) : (pvS n l s x).length = n := by simp [pvS]
theorem POK.small {M : List (List Int)} {Q : List Int} (p : POK M Q) (r : Nat) (hr : r < M.length) : (Q.getD r 0).natAbs ≤ 100 := by
 have := p.num r (Nat.zero_le _) (by have := p.len; omega)
 unfold N100 at this
 omega
theorem POK.rows {M : List (List Int)} {Q : List Int} (p : POK M Q) : ∀ x ∈ M, x.length = M.length := by
 intro x hx
 obtain ⟨i, hi, rfl⟩ := List.getElem_of_mem hx
 have := p.mat.sq.row i hi
 rw [show M.getD i [] = M[i] from by simp [hi]] at this
 exact this
def SetIn (n : Nat) (s : Int) : Prop := 0 ≤ s ∧ s ≤ ((2 ^ n : Nat) : Int) - 1
theorem pow_sub {n : Nat} (hn : n ≤ 5) : wrap64 (shl .i64 1 (n : Int) - 1) = ((2 ^ n : Nat) : Int) - 1 := by
 rw [shl_one (by omega) (by omega), Int.toNat_natCast]
 have key : ∀ m : Nat, 1 ≤ m → m ≤ 2 ^ 5 → wrap64 ((m : Int) - 1) = (m : Int) - 1 := fun m h1 h2 => w64 (by omega) (by omega)
 exact key _ Nat.one_le_two_pow (Nat.pow_le_pow_right (by decide) hn)
theorem iin_eq (x a b : Int) : impl_within.f x a b = some (decide (a ≤ x ∧ x ≤ b)) := by
 unfold impl_within.f
 by_cases h : x ≥ a
 ·rw [if_pos h]; congr 1; rw [Bool.eq_iff_iff]; simp; omega
 ·rw [if_neg h]; congr 1; rw [Bool.eq_iff_iff]; simp; omega
open Classical in
noncomputable def codeS (M : List (List Int)) (Q : List Int) (s : Int) : Int := if POK M Q then (if SetIn Q.length s then 0 else 2) else 1
open Classical in
theorem impl_code (M : List (List Int)) (Q : List Int) (s : Int) : impl_setCode.f M Q s = some (codeS M Q s) := by
 unfold impl_setCode.f codeS
 have is := Pb.impl_is M Q (decide (POK M Q)) (by simp)
 rw [is, Option.bind_some]
 by_cases p : POK M Q
 ·have hq := p.len; have h5 := p.mat.n5
  rw [if_pos (by simpa using p), if_pos p]
  unfold impl_isSet.f
  rw [if_pos (by omega), pow_sub (by omega), iin_eq, Option.bind_some, Option.bind_some]
  by_cases c : 0 ≤ s ∧ s ≤ ((2 ^ Q.length : Nat) : Int) - 1
  ·rw [if_pos (decide_eq_true c), if_pos (show SetIn Q.length s from c)]
  ·rw [if_neg (by simpa using c), if_neg (show ¬ SetIn Q.length s from c)]
 ·rw [if_neg (by simpa using p), if_neg p]
open Classical in
theorem spec_code (M : List (List Int)) (Q : List Int) (s : Int) (hQ : Q.length ≤ 1048576) : Ev (fun k => spec_l02Code.f k M Q s) (codeS M Q s) := by
 unfold spec_l02Code.f codeS
 refine evbind (Pb.spec_is M Q hQ (decide (POK M Q)) (by simp)) ?_
 by_cases p : POK M Q
 ·have hq := p.len; have h5 := p.mat.n5
  rw [if_pos p]
  refine evpos (by simpa using p) ?_
  rw [u64w (x := (Q.length : Int)) (by omega) (by omega), pow_sub (by omega)]
  refine evpos (by omega) (evsome (sin_eq _ _ _) ?_)
  by_cases c : 0 ≤ s ∧ s ≤ ((2 ^ Q.length : Nat) : Int) - 1
  ·rw [show (if SetIn Q.length s then (0 : Int) else 2) = 0 from if_pos c]; exact evpos (decide_eq_true c) (evc rfl)
  ·rw [show (if SetIn Q.length s then (0 : Int) else 2) = 2 from if_neg c]; exact evneg (by simpa using c) (evc rfl)
 ·rw [if_neg p]
  exact evneg (by simpa using p) (evc rfl)
theorem code_zero {M : List (List Int)} {Q : List Int} {s : Int} (c0 : codeS M Q s = 0) : POK M Q ∧ SetIn Q.length s := by
 classical
 unfold codeS at c0
 by_cases p : POK M Q
 ·rw [if_pos p] at c0
  by_cases z : SetIn Q.length s
  ·exact ⟨p, z⟩
  ·rw [if_neg z] at c0; omega
 ·rw [if_neg p] at c0; omega
noncomputable def pvO (M : List (List Int)) (Q : List Int) (s : Int) : Int × List (List Int) × List Int × Int := if codeS M Q s = 0 then (if det M.length (Cm s M) = 0 then (0, [], [], 5) else (ab (det M.length (Cm s M)), pvR M.length M s, pvS M.length M s Q, 0)) else (0, [], [], codeS M Q s)
theorem impl_pivotOf_eq (M : List (List Int)) (Q : List Int) (s : Int) : Ev (fun k => impl_pivotOf.f k M Q s) (pvO M Q s) := by
 unfold impl_pivotOf.f pvO
 refine evsome (impl_code M Q s) ?_
 by_cases c : codeS M Q s = 0
 ·rw [if_pos c]
  refine evpos c ?_
  obtain ⟨p, hs⟩ := code_zero c
  have e := impl_pivot p.mat.sq p.mat.n5 s Q p.len (POK.small p) p.mat.n1 (POK.rows p)
  unfold pvA at e
  by_cases d : det M.length (Cm s M) = 0
  ·rw [if_pos d] at e ⊢
   exact evbind e (evneg (by simp) (evc rfl))
  ·rw [if_neg d] at e ⊢
   exact evbind e (evpos rfl (evc rfl))
 ·rw [if_neg c]
  exact evneg c (evc rfl)
theorem spec_PivotOf_eq (M : List (List Int)) (Q : List Int) (s : Int) (hQ : Q.length ≤ 1048576) : Ev (fun k => spec_PivotOf.f k M Q s) (pvO M Q s) := by
 unfold spec_PivotOf.f pvO
 refine evbind (spec_code M Q s hQ) ?_
 by_cases c : codeS M Q s = 0
 ·rw [if_pos c]
  refine evpos c ?_
  obtain ⟨p, hs⟩ := code_zero c
  have e := spec_pivot p.mat.sq p.mat.n5 s Q p.len (POK.small p)
  unfold pvA at e
  by_cases d : det M.length (Cm s M) = 0
  ·rw [if_pos d] at e ⊢
   exact evbind e (evneg (by simp) (evc rfl))
  ·rw [if_neg d] at e ⊢
   exact evbind e (evpos rfl (evc rfl))
 ·rw [if_neg c]
  exact evneg c (evc rfl)
end Go.Proofs.Ythdoilfjcgickaa.Pp
end
section
namespace Go.Proofs.Ythdoilfjcgickaa.Pp
open Go.RowKit Go.Proofs.YthdoilfjcgickaaW.PrintWords Go.Proofs.YthdoilfjcgickaaW.PrintMore Go.Proofs.Ythdoilfjcgickaa.Ma Go.Proofs.Ythdoilfjcgickaa.Pr Go.Proofs.Ythdoilfjcgickaa.Dt Go.Proofs.Ythdoilfjcgickaa.Bz Go.Proofs.Ythdoilfjcgickaa.Un Go.Proofs.Ythdoilfjcgickaa.Cz Go.Proofs.Ythdoilfjcgickaa.Pb Go.Proofs.Ythdoilfjcgickaa.Mn Go.Proofs.Ythdoilfjcgickaa.Sv Go.Proofs.Ythdoilfjcgickaa.Pv Go.Proofs.Ythdoilfjcgickaa.La Go.Proofs.Ythdoilfjcgickaa.Hm
def Whole (n : Nat) (den : Int) (R : List (List Int)) (S : List Int) : Prop := ∀ r, r < n → Int.tmod (S.getD r 0) den = 0 ∧ ∀ c, c < n → Int.tmod (en R r c) den = 0
theorem bool_of {b : Bool} {p : Prop} (h : b = true ↔ p) (hp : ¬ p) : b = false := by cases b with
 | false => rfl
 | true => exact absurd (h.1 rfl) hp
section
variable {n : Nat} (hn : n ≤ 5) (R : List (List Int)) (S : List Int) (hR : R.length = n) (hr : ∀ i, i < n → (R.getD i []).length = n) (hS : S.length = n) {den : Int} (hd : den ≠ 0)
include hn hR hr hS hd
theorem spec_whole_loop : ∀ q i, i + q = n → ∀ b : Bool, (b = true ↔ ∀ r, i ≤ r → r < n → Int.tmod (S.getD r 0) den = 0 ∧ ∀ c, c < n → Int.tmod (en R r c) den = 0) → Ev (fun k => spec_l04Whole.l0 k (i : Int) den R S) b := by
 intro q
 induction q with
 | zero =>
  intro i hi b hb
  have : b = true := hb.2 (fun r h1 h2 => by omega)
  subst this
  exact evstep (fun k => by rw [spec_l04Whole.l0]) (evneg (by omega) (evc rfl))
 | succ q ih =>
  intro i hi b hb
  have hl := hr i (by omega)
  refine evstep (fun k => by rw [spec_l04Whole.l0]) (evpos (by omega) (evpos (by omega) (evneg hd ?_)))
  rw [rd_nat]
  have cols : ∀ p c, c + p = n → ∀ b : Bool, (b = true ↔ (∀ d, c ≤ d → d < n → Int.tmod (en R i d) den = 0) ∧ ∀ r, i + 1 ≤ r → r < n → Int.tmod (S.getD r 0) den = 0 ∧ ∀ c, c < n → Int.tmod (en R r c) den = 0) → Ev (fun k => spec_l04Whole.l1 k (i : Int) (c : Int) den R S) b := by
   intro p
   induction p with
   | zero =>
    intro c hc b hb
    refine evstep (fun k => by rw [spec_l04Whole.l1]) (evneg (by omega) ?_)
    rw [w64 (x := (i : Int) + 1) (by omega) (by omega)]
    exact ih (i + 1) (by omega) b (hb.trans ⟨fun h => h.2, fun h => ⟨fun d h1 h2 => by omega, h⟩⟩)
   | succ p ihp =>
    intro c hc b hb
    refine evstep (fun k => by rw [spec_l04Whole.l1]) (evpos (by omega) (evpos (by omega) (evpos (by omega) (evpos (by omega) ?_))))
    rw [rdL1]
    refine evpos (by omega) (evneg hd ?_)
    rw [rd_nat, show (R.getD i []).getD c 0 = en R i c from rfl, w64 (x := (c : Int) + 1) (by omega) (by omega)]
    by_cases z : Int.tmod (en R i c) den = 0
    ·refine evpos z (ihp (c + 1) (by omega) b (hb.trans ⟨fun h => ⟨fun d h1 h2 => h.1 d (by omega) h2, h.2⟩, fun h => ⟨fun d h1 h2 => ?_, h.2⟩⟩))
     by_cases e : d = c
     ·rw [e]; exact z
     ·exact h.1 d (by omega) h2
    ·refine evneg z ?_
     rw [bool_of hb (fun h => z (h.1 c (Nat.le_refl _) (by omega)))]
     exact evc rfl
  by_cases z : Int.tmod (S.getD i 0) den = 0
  ·refine evpos z (cols n 0 (by omega) b (hb.trans ⟨fun h => ⟨fun d _ h2 => (h i (Nat.le_refl _) (by omega)).2 d h2, fun r h1 h2 => h r (by omega) h2⟩, fun h r h1 h2 => ?_⟩))
   by_cases e : r = i
   ·rw [e]; exact ⟨z, fun c hc => h.1 c (Nat.zero_le _) hc⟩
   ·exact h.2 r (by omega) h2
  ·refine evneg z ?_
   rw [bool_of hb (fun h => z (h i (Nat.le_refl _) (by omega)).1)]
   exact evc rfl
theorem impl_whole (b : Bool) (hb : b = true ↔ Whole n den R S) : impl_Pivot_isWhole.f den R S = some b := by
 have hrow (i : Nat) (hi : i < n) : R.getD i [] ∈ R := by
  rw [List.getD_eq_getElem?_getD, List.getElem?_eq_getElem (by omega)]
  exact List.getElem_mem (by omega)
 have hmem (x : List Int) (hx : x ∈ R) : ∃ i, i < n ∧ x = R.getD i [] := by
  obtain ⟨i, hi, rfl⟩ := List.getElem_of_mem hx
  exact ⟨i, by omega, by simp [hi]⟩
 have hf : R.flatten.length ≤ 1000000 := by
  have key : ∀ l : List (List Int), (∀ x ∈ l, x.length ≤ 5) → l.flatten.length ≤ 5 * l.length := by
   intro l
   induction l with
   | nil => intro _; simp
   | cons x l ih =>
    intro h
    have h1 := h x (by simp)
    have h2 := ih (fun y hy => h y (by simp [hy]))
    rw [List.flatten_cons, List.length_append, List.length_cons]
    omega
  have := key R (fun x hx => by obtain ⟨i, hi, rfl⟩ := hmem x hx; rw [hr i hi]; exact hn)
  omega
 unfold impl_Pivot_isWhole.f
 rw [if_pos ⟨hd, by omega, hf, by omega⟩]
 congr 1
 have e : (R.flatten ++ S).any (restP den) = true ↔ ¬ Whole n den R S := by
  rw [List.any_eq_true]
  constructor
  ·rintro ⟨x, hx, hp⟩ hw
   have hp := of_decide_eq_true hp
   rcases List.mem_append.1 hx with hx | hx
   ·obtain ⟨y, hy, hxy⟩ := List.mem_flatten.1 hx
    obtain ⟨i, hi, rfl⟩ := hmem y hy
    obtain ⟨c, hc, rfl⟩ := List.getElem_of_mem hxy
    have := (hw i hi).2 c (by rw [hr i hi] at hc; exact hc)
    unfold en at this
    rw [List.getD_eq_getElem?_getD (l := R.getD i []), List.getElem?_eq_getElem hc] at this
    exact hp this
   ·obtain ⟨i, hi, rfl⟩ := List.getElem_of_mem hx
    have := (hw i (by omega)).1
    rw [List.getD_eq_getElem?_getD, List.getElem?_eq_getElem hi] at this
    exact hp this
  ·intro hw
   refine Classical.byContradiction fun hno => hw (fun r hr' => ⟨?_, fun c hc => ?_⟩)
   ·refine Classical.byContradiction fun z => hno ⟨S.getD r 0, List.mem_append.2 (.inr ?_), decide_eq_true z⟩
    rw [List.getD_eq_getElem?_getD, List.getElem?_eq_getElem (by omega)]
    exact List.getElem_mem (by omega)
   ·refine Classical.byContradiction fun z => hno ⟨en R r c, List.mem_append.2 (.inl (List.mem_flatten.2 ⟨R.getD r [], hrow r hr', ?_⟩)), decide_eq_true z⟩
    have hl := hr r hr'
    unfold en
    rw [List.getD_eq_getElem?_getD (l := R.getD r []), List.getElem?_eq_getElem (by omega)]
    exact List.getElem_mem (by omega)
 rw [Bool.eq_iff_iff, hb, Bool.not_eq_true', ← Bool.not_eq_true, e]
 exact ⟨fun h => Classical.byContradiction h, fun h q => q h⟩
end
theorem ab_pos {d : Int} (h : d ≠ 0) : 0 < ab d := by unfold ab; split <;> omega
theorem pvR_getD' {n i : Nat} (hi : i < n) (l : List (List Int)) (s : Int) : ((pvR n l s).getD i []).length = n := by
 have e := pvR_len n l s
 rw [List.getD_eq_getElem?_getD, List.getElem?_eq_getElem (by omega)]
 exact pvR_row n l s _ (List.getElem_mem (by omega))
open Classical in
theorem wholes {M : List (List Int)} (h5 : M.length ≤ 5) (s : Int) (Q : List Int) (d : det M.length (Cm s M) ≠ 0) : ∃ b : Bool, (b = true ↔ Whole M.length (ab (det M.length (Cm s M))) (pvR M.length M s) (pvS M.length M s Q)) ∧ Ev (fun k => spec_l04Whole.f k (ab (det M.length (Cm s M))) (pvR M.length M s) (pvS M.length M s Q)) b ∧ impl_Pivot_isWhole.f (ab (det M.length (Cm s M))) (pvR M.length M s) (pvS M.length M s Q) = some b := by
 have hb := ab_pos d
 refine ⟨decide (Whole M.length (ab (det M.length (Cm s M))) (pvR M.length M s) (pvS M.length M s Q)), by simp, ?_, impl_whole h5 _ _ (pvR_len _ _ _) (fun i hi => pvR_getD' hi M s) (pvS_len _ _ _ _) (by omega) _ (by simp)⟩
 unfold spec_l04Whole.f
 refine spec_whole_loop h5 (pvR M.length M s) (pvS M.length M s Q) (pvR_len _ _ _) (fun i hi => pvR_getD' hi M s) (pvS_len _ _ _ _) (by omega) M.length 0 (by omega) _ ?_
 rw [decide_eq_true_eq]
 exact ⟨fun h r _ hr => h r hr, fun h r hr => h r (Nat.zero_le _) hr⟩
theorem pvO_zero {M : List (List Int)} {Q : List Int} {s : Int} (c : (pvO M Q s).2.2.2 = 0) : codeS M Q s = 0 ∧ det M.length (Cm s M) ≠ 0 := by
 unfold pvO at c
 by_cases c1 : codeS M Q s = 0
 ·rw [if_pos c1] at c
  refine ⟨c1, fun d => ?_⟩
  rw [if_pos d] at c
  exact absurd c (by decide)
 ·rw [if_neg c1] at c; exact absurd c c1
theorem pvO_at {M : List (List Int)} {Q : List Int} {s : Int} (c : codeS M Q s = 0) (d : det M.length (Cm s M) ≠ 0) : pvO M Q s = (ab (det M.length (Cm s M)), pvR M.length M s, pvS M.length M s Q, 0) := by unfold pvO; rw [if_pos c, if_neg d]
end Go.Proofs.Ythdoilfjcgickaa.Pp
end
section
namespace Go.Proofs.Ythdoilfjcgickaa.Pp
open Go.RowKit Go.Proofs.YthdoilfjcgickaaW.PrintWords Go.Proofs.YthdoilfjcgickaaW.PrintMore Go.Proofs.Ythdoilfjcgickaa.Ma Go.Proofs.Ythdoilfjcgickaa.Pr Go.Proofs.Ythdoilfjcgickaa.Dt Go.Proofs.Ythdoilfjcgickaa.Bz Go.Proofs.Ythdoilfjcgickaa.Un Go.Proofs.Ythdoilfjcgickaa.Cz Go.Proofs.Ythdoilfjcgickaa.Pb Go.Proofs.Ythdoilfjcgickaa.Mn Go.Proofs.Ythdoilfjcgickaa.Sv Go.Proofs.Ythdoilfjcgickaa.Pv Go.Proofs.Ythdoilfjcgickaa.La Go.Proofs.Ythdoilfjcgickaa.Hm
def dR (d : Int) (R : List (List Int)) (i : Nat) : List (List Int) := (List.range i).map fun r => dvL d (R.getD r [])
def dS (d : Int) (S : List Int) (i : Nat) : List Int := (List.range i).map fun r => wrap64 (Int.tdiv (S.getD r 0) d)
theorem dR_len (d : Int) (R : List (List Int)) (i : Nat) : (dR d R i).length = i := by simp [dR]
theorem dS_len (d : Int) (S : List Int) (i : Nat) : (dS d S i).length = i := by simp [dS]
theorem dR_succ (d : Int) (R : List (List Int)) (i : Nat) : dR d R (i + 1) = dR d R i ++ [dvL d (R.getD i [])] := by simp [dR, List.range_succ]
theorem dS_succ (d : Int) (S : List Int) (i : Nat) : dS d S (i + 1) = dS d S i ++ [wrap64 (Int.tdiv (S.getD i 0) d)] := by simp [dS, List.range_succ]
theorem dS_all (d : Int) (S : List Int) : dS d S S.length = dvL d S := by
 apply List.ext_getElem
 ·simp [dS, dvL]
 ·intro r h1 h2
  have hr : r < S.length := by simpa [dS] using h1
  simp [dS, dvL, hr]
theorem dR_all (d : Int) (R : List (List Int)) : dR d R R.length = R.map (dvL d) := by
 apply List.ext_getElem
 ·simp [dR]
 ·intro r h1 h2
  have hr : r < R.length := by simpa [dR] using h1
  simp [dR, hr]
section
variable {n : Nat} (hn : n ≤ 5) (R : List (List Int)) (S : List Int) (hR : R.length = n) (hr : ∀ i, i < n → (R.getD i []).length = n) (hS : S.length = n) {den : Int} (hd : den ≠ 0)
include hn hR hr hS hd
theorem spec_divided (Z : List (List Int) × List Int × Int) (hZ : Ev (fun k => (spec_l01Is.f k (dR den R n) (dS den S n)).bind fun t => if t = true then some (dR den R n, dS den S n, 0) else some (([] : List (List Int)), ([] : List Int), 3)) Z) : ∀ q i, i + q = n → Ev (fun k => spec_PivotedProblem.l0 k (i : Int) den R S (dR den R i) (dS den S i)) Z := by
 intro q
 induction q with
 | zero =>
  intro i hi
  obtain rfl : i = n := by omega
  exact evstep (fun k => by rw [spec_PivotedProblem.l0]) (evneg (by omega) hZ)
 | succ q ih =>
  intro i hi
  have nx := ih (i + 1) (by omega)
  rw [dR_succ, dS_succ] at nx
  have hl := hr i (by omega)
  have cols : ∀ p c, c + p = n → Ev (fun k => spec_PivotedProblem.l1 k (i : Int) (dvL den ((R.getD i []).take c)) (c : Int) den R S (dR den R i) (dS den S i)) Z := by
   intro p
   induction p with
   | zero =>
    intro c hc
    obtain rfl : c = n := by omega
    refine evstep (fun k => by rw [spec_PivotedProblem.l1]) (evneg (by omega) (evpos (by rw [dR_len]; omega) (evpos (by omega) (evpos (by omega) (evneg hd (evpos (by rw [dS_len]; omega) ?_))))))
    rw [w64 (x := (i : Int) + 1) (by omega) (by omega), rd_nat, List.take_of_length_le (by omega)]
    exact nx
   | succ p ihp =>
    intro c hc
    have nx2 := ihp (c + 1) (by omega)
    refine evstep (fun k => by rw [spec_PivotedProblem.l1]) (evpos (by omega) (evpos (by omega) (evpos (by omega) (evpos (by omega) ?_))))
    rw [rdL1]
    refine evpos (by omega) (evneg hd (evpos (by unfold dvL; rw [List.length_map, List.length_take]; omega) ?_))
    rw [w64 (x := (c : Int) + 1) (by omega) (by omega), rd_nat]
    rw [List.take_succ_eq_append_getElem (by omega)] at nx2
    unfold dvL at nx2 ⊢
    rw [List.map_append] at nx2
    rw [show (R.getD i []).getD c 0 = (R.getD i [])[c]'(by omega) from by rw [List.getD_eq_getElem?_getD (l := R.getD i []), List.getElem?_eq_getElem (by omega)]; rfl]
    exact nx2
  refine evstep (fun k => by rw [spec_PivotedProblem.l0]) (evpos (by omega) ?_)
  exact cols n 0 (by omega)
end
open Classical in
theorem pivoted (M : List (List Int)) (Q : List Int) (s : Int) (hQ : Q.length ≤ 1048576) : ∃ R : List (List Int) × List Int × Int, Ev (fun k => spec_PivotedProblem.f k M Q s) R ∧ Ev (fun k => impl_PivotedProblem.f k M Q s) R ∧ Few R.1 ∧ R.2.1.length ≤ 5 := by
 have ip := impl_pivotOf_eq M Q s
 have sp := spec_PivotOf_eq M Q s hQ
 unfold impl_PivotedProblem.f spec_PivotedProblem.f
 by_cases c : (pvO M Q s).2.2.2 = 0
 ·obtain ⟨c1, d⟩ := pvO_zero c
  obtain ⟨p, _⟩ := code_zero c1
  have h5 := p.mat.n5; have h1 := p.mat.n1
  rw [pvO_at c1 d] at ip sp
  obtain ⟨b, _, sw, iw⟩ := wholes h5 s Q d
  have hden := ab_pos d
  have hL := pvR_len M.length M s
  have hS := pvS_len M.length M s Q
  have hrow := pvR_row M.length M s
  generalize ab (det M.length (Cm s M)) = den at *
  generalize hRR : pvR M.length M s = R at *
  generalize pvS M.length M s Q = S at *
  have hgd : ∀ i, i < M.length → (R.getD i []).length = M.length := fun i hi => by rw [← hRR]; exact pvR_getD' hi M s
  cases b with
  | false =>
   refine ⟨([], [], 5), evbind sp (evpos rfl (evbind sw ?_)), evbind ip (evpos rfl (evsome iw ?_)), Few.nil, by simp⟩
   ·refine evstep (fun k => by rw [spec_PivotedProblem.j0]) ?_
    refine evpos rfl ?_
    refine evstep (fun k => by rw [spec_PivotedProblem.j1]) ?_
    exact evneg (by decide) (evc rfl)
   ·exact evneg (by simp) (evc rfl)
  | true =>
   have is := Pb.impl_is (R.map (dvL den)) (dvL den S) (decide (POK (R.map (dvL den)) (dvL den S))) (by simp)
   have ss := Pb.spec_is (R.map (dvL den)) (dvL den S) (by unfold dvL; rw [List.length_map]; omega) (decide (POK (R.map (dvL den)) (dvL den S))) (by simp)
   refine ⟨if POK (R.map (dvL den)) (dvL den S) then (R.map (dvL den), dvL den S, 0) else ([], [], 3), evbind sp (evpos rfl (evbind sw ?_)), evbind ip (evpos rfl (evsome iw ?_)), ?_, ?_⟩
   ·refine evstep (fun k => by rw [spec_PivotedProblem.j0]) ?_
    refine evneg (by simp) ?_
    refine evstep (fun k => by rw [spec_PivotedProblem.j1]) ?_
    refine evpos rfl (spec_divided h5 R S hL hgd hS (by omega) _ ?_ M.length 0 (by omega))
    rw [show dR den R M.length = R.map (dvL den) from by rw [← hL]; exact dR_all den R, show dS den S M.length = dvL den S from by rw [← hS]; exact dS_all den S]
    refine evbind ss ?_
    by_cases z : POK (R.map (dvL den)) (dvL den S)
    ·rw [if_pos z]; exact evpos (by simpa using z) (evc rfl)
    ·rw [if_neg z]; exact evneg (by simpa using z) (evc rfl)
   ·refine evpos rfl ?_
    dsimp only
    refine (evpos ⟨by omega, by omega, by omega, by
     rw [List.all_eq_true]
     intro x hx
     rw [hL]
     simpa using hrow x hx⟩ (evsome is ?_))
    by_cases z : POK (R.map (dvL den)) (dvL den S)
    ·rw [if_pos z]; refine evc ?_; rw [if_pos (by simpa using z)]
    ·rw [if_neg z]; refine evc ?_; rw [if_neg (by simpa using z)]
   ·by_cases z : POK (R.map (dvL den)) (dvL den S)
    ·rw [if_pos z]
     refine ⟨by show (R.map (dvL den)).length ≤ 5; rw [List.length_map]; omega, fun x hx => ?_⟩
     obtain ⟨y, hy, rfl⟩ := List.mem_map.1 hx
     have := hrow y hy
     unfold dvL; rw [List.length_map]; omega
    ·rw [if_neg z]; exact Few.nil
   ·by_cases z : POK (R.map (dvL den)) (dvL den S)
    ·rw [if_pos z]; show (dvL den S).length ≤ 5; unfold dvL; rw [List.length_map]; omega
    ·rw [if_neg z]; simp
 ·refine ⟨([], [], (pvO M Q s).2.2.2), evbind sp (evneg c ?_), evbind ip (evneg c (evc rfl)), Few.nil, by simp⟩
  refine evstep (fun k => by rw [spec_PivotedProblem.j0]) ?_
  refine evneg (by simp) ?_
  refine evstep (fun k => by rw [spec_PivotedProblem.j1]) ?_
  exact evneg c (evc rfl)
end Go.Proofs.Ythdoilfjcgickaa.Pp
end
section
namespace Go.Proofs.Ythdoilfjcgickaa.La
open Go.RowKit Go.Proofs.YthdoilfjcgickaaW.PrintWords Go.Proofs.YthdoilfjcgickaaW.PrintMore Go.Proofs.Ythdoilfjcgickaa.Ma Go.Proofs.Ythdoilfjcgickaa.Pr Go.Proofs.Ythdoilfjcgickaa.Hm
theorem heldP (M : List (List Int)) (Q : List Int) (n : Int) (h0 : 0 ≤ n) (h1 : n + lens M + Q.length ≤ 1099511627776) (hl : M.length ≤ 1099511627776) : Ev (fun k => laws_heldProblem.f k (marks M n) (count (n + lens M) Q.length) n) (n + lens M + Q.length) := by
 unfold laws_heldProblem.f
 exact evbind (heldSS M n h0 (by omega) hl) (evneg (by omega) (evbind (heldI (n + lens M) Q.length (by omega) (by omega) (by omega)) (evneg (by omega) (evc rfl))))
end Go.Proofs.Ythdoilfjcgickaa.La
end
section
namespace Go.Proofs.Ythdoilfjcgickaa.Pure
open Go.RowKit Go.Proofs.YthdoilfjcgickaaW.PrintWords Go.Proofs.YthdoilfjcgickaaW.PrintMore Go.Proofs.Ythdoilfjcgickaa.Ma Go.Proofs.Ythdoilfjcgickaa.Pr Go.Proofs.Ythdoilfjcgickaa.La Go.Proofs.Ythdoilfjcgickaa.Op Go.Proofs.Ythdoilfjcgickaa.Hm
theorem FnExactPivotedProblem : Say.FnExactPivotedProblem := by
 intro M q s ga gb gs
 obtain ⟨t, ⟨k0, ht⟩, ht1, hf⟩ := szP2 ga gb
 by_cases c0 : t < 0
 ·refine ⟨k0, ?_⟩
  unfold laws_FnExactPivotedProblem.f
  rw [if_pos]
  exact .inr ⟨t, ht _ (Nat.le_refl _), c0⟩
 ·obtain ⟨ta, tb⟩ := hf (by omega)
  have fa := fit_of ta
  have fl := fit_lensP ta
  have al := fa.len
  obtain ⟨R, ⟨k1, e1⟩, ⟨k2, e2⟩, hR, hS⟩ := Pp.pivoted M q s tb
  have hl := hR.small
  have hn := hR.len
  obtain ⟨k3, e3⟩ := toP fa tb
  obtain ⟨k5, e5⟩ := eqPr (Q := R.2.1) hR.fit (by omega)
  obtain ⟨k6, e6⟩ := eqPr (Q := q) fa (by omega)
  obtain ⟨k8, e8⟩ := heldP R.1 R.2.1 1 (by omega) (by omega) (by omega)
  refine ⟨k0 + k1 + k2 + k3 + k5 + k6 + k8, ?_⟩
  unfold laws_FnExactPivotedProblem.f
  rw [if_pos]
  exact .inl ⟨t, R.1, R.2.1, R.2.2, _, _, ht _ (by omega), c0, e3 _ (by omega), e1 _ (by omega), e2 _ (by omega), e5 _ (by omega), e6 _ (by omega), rfl, by omega, by omega, by omega, rfl, by omega, by omega, by omega, e8 _ (by omega)⟩
end Go.Proofs.Ythdoilfjcgickaa.Pure
end
section
namespace Go.Proofs.Ythdoilfjcgickaa.fnExactPivotedProblem
open Go.ChangeShapes Go.WideShapes Go.ChangeAt Go.RowKit Go.Proofs.Ythdoilfjcgickaa.Op Go.Proofs.YthdoilfjcgickaaW.PrintWords
theorem own : ownKnob Try.prog.godebug = none := by kernel_rfl
theorem laidOut : laidOutB Try.prog = true := by kernel_rfl
theorem lifted (os : Os) (started : os.Started) (H : Type) (enc : TypeId × Value → H) :
  ReturnsInHanded {} Try.checked os 9 .any (Rows.fnExactPivotedProblemSpec.pre6 enc Try.prog Try.f9 Rows.fnExactPivotedProblemRow.domain false) (Rows.fnExactPivotedProblemSpec.post enc Try.prog Try.f9 false true false false) := by
 refine returnsInHanded_of_change_sized (C := Try.checked) own started (by kernel_rfl) Try.func9
  (ChangeSpec.witness6 (enc := enc) (C := Try.checked) false ⟨#[], #[.agg #[.slice none 0 0, .slice none 0 0], .int .i64 0], []⟩ 8 (by kernel_rfl) (by kernel_rfl) (by kernel_rfl) (by kernel_rfl)) ?_
 intro W base args ds gs before hval0 hW hcnd hsz0 _
 have hval : ∀ (j : Nat) t v, Try.f9.params[j]? = some t → args[j]? = some v → Value.okWide Try.prog W .any base t v := hval0
 have hW' := hW
 obtain ⟨p, q, hA0, hV, rfl, hfz, hnd⟩ := hW
 have hA : DataW.TrodAll enc Try.prog W 0 (fun _ => true) true Try.f9.params.toList args.toList ds p := hA0
 rw [Try.params9] at hA hval
 obtain ⟨v0, vs0, d0, ds0, p0, q0, hargs, rfl, rfl, h0, r0⟩ := trodAll_cons hA
 obtain ⟨v1, vs1, d1, ds1, p1, q1, rfl, rfl, rfl, h1, r1⟩ := trodAll_cons r0
 obtain ⟨rfl, rfl, rfl⟩ := trodAll_nil r1
 obtain rfl : args = #[v0, v1] := by cases args; simp_all
 obtain ⟨rfl, rfl⟩ := trodVars_none hV
 have k0 := h0
 have lt0 := trod_blocks k0
 obtain ⟨⟨x0_0, x0_1⟩, cs0, rfl, hk0, g0⟩ := arg_struct Try.underlying25 (opens_struct2 Try.underlying25 ⟨by kernel_rfl, by kernel_rfl⟩ ⟨by kernel_rfl, by kernel_rfl⟩ (by kernel_rfl) (opens_slice Try.underlying22 (by kernel_rfl) (opens_slice Try.underlying23 (by kernel_rfl) (opens_int Try.underlying2))) (opens_slice Try.underlying23 (by kernel_rfl) (opens_int Try.underlying2)) id (Kd.pair (Kd.slice 23 (Kd.slice 2 (Kd.int .i64))) (Kd.slice 2 (Kd.int .i64))) (fun _ _ _ h => h) (fun x => (GoodList (GoodList (GoodInt .i64))) x.1 ∧ (GoodList (GoodInt .i64)) x.2) (fun _ h0 h1 => ⟨h0, h1⟩)) (hval 0 25 v0 rfl rfl) h0
 obtain ⟨A0_0, c0_0, A0_1, c0_1, rfl, q0_0, r0_0, q0_1, r0_1⟩ := cells_slice_slice hk0
 have k1 := h1
 have lt1 := trod_blocks k1
 obtain ⟨a1, rfl, rfl, rfl, g1⟩ := open_int Try.underlying2 (hval 1 2 v1 rfl rfl) h1
 obtain ⟨k, h⟩ := Pure.FnExactPivotedProblem x0_0 x0_1 a1 g0.1 g0.2 g1
 clear hA0 hval0 hsz0
 refine (Pr.laws_FnExactPivotedProblem.calls k A0_0 c0_0 x0_0 A0_1 c0_1 x0_1 a1 true W r0_0 q0_0 r0_1 q0_1 h).mono ?_
 rintro e W' ⟨rfl, bel0⟩
 have bel : Below W.heap.size W W' := by first | exact bel0 | exact bel0.below
 exact ⟨_, rfl, _, _, _, [], _, [], hW', trodAll_mk1 (shut_bool Try.underlying4 _), (trodAll_cons_mk (Below.trod laidOut (by kernel_rfl) (of_decide_eq_true (by kernel_rfl)) k0 bel lt0) (trodAll_cons_mk (Below.trod laidOut (by kernel_rfl) (of_decide_eq_true (by kernel_rfl)) k1 bel lt1) trodAll_mk0)), rfl, bel.frame _, fun h => by cases h⟩
theorem over : Rows.fnExactPivotedProblemRow.holds Try.pinned (OpenSpec.ofChange Rows.fnExactPivotedProblemSpec) :=
 OpenClaim.holds_of_wide 9 Try.f9 rfl rfl rfl rfl rfl rfl rfl ⟨rfl, rfl, rfl, rfl, rfl⟩ rfl rfl rfl rfl rfl (by kernel_rfl) Try.func9 (by kernel_rfl)
  (of_decide_eq_true (by kernel_rfl)) (by unfold Func.isWrapper; first | (rw [if_pos (by decide +kernel)]; kernel_rfl) | (rw [if_neg (by decide +kernel)]; exact ⟨rfl, rfl⟩))
  (fun os started H enc _ => lifted os started H enc)
theorem proved : Rows.FnExactPivotedProblemSaid := over
#print axioms proved
end Go.Proofs.Ythdoilfjcgickaa.fnExactPivotedProblem
namespace Go.Proofs.Ythdoilfjcgickaa
theorem fnExactPivotedProblem_holds : Rows.FnExactPivotedProblemSaid := fnExactPivotedProblem.proved
end Go.Proofs.Ythdoilfjcgickaa
end
