/- Texts of one claim (the words of the kit's print that the claim uses, printed functions, and this session's own texts), joined in the order of their imports by this session's own program (merge.py). -/
import Derived.Test.YtjjbhdpjnjncbaaRows
import Derived.WalkKit
import Derived.ProofKit
import Derived.OpenShut
import Derived.ShutString
import Derived.ChangeOld
import Derived.Below
import Derived.SizedLaws
import Derived.Test.YtjjbhdpjnjncbaaJnFnExactIsEquilibrium0
import Derived.Test.YtjjbhdpjnjncbaaJnFnExactIsEquilibrium1
import Derived.Test.YtjjbhdpjnjncbaaJnFnExactIsEquilibrium2
import Derived.Test.YtjjbhdpjnjncbaaJnFnExactIsEquilibrium3
set_option linter.unusedVariables false
set_option linter.unusedSimpArgs false
set_option maxHeartbeats 8000000
set_option maxRecDepth 100000
section
namespace Go.Proofs.Ytjjbhdpjnjncbaa.Pr
open Go.RowKit Go.Proofs.YtjjbhdpjnjncbaaW.PrintWords Go.Proofs.YtjjbhdpjnjncbaaW.PrintLast Go.Proofs.YtjjbhdpjnjncbaaW.PrintMore
attribute [local go_sem] max2_int min2_int max_two min_two max_three min_three max_four min_four
def impl_total.l0 : Nat → Int → List Int → Int → Int → Option (Int)
 | 0, _, _, _, _ => none
 | k + 1, x3, x6, x7, x8 => if x8 < x7 then (if 0 ≤ x8 then (if x8 < (x6.length : Int) then (impl_total.l0 k (wrap64 (x3 + (rd x6 x8))) x6 x7 (wrap64 (x8 + 1))) else (none)) else (none)) else (some x3)
def impl_total.f (k : Nat) (l0 : List Int) : Option (Int) := impl_total.l0 k 0 l0 (l0.length : Int) 0
theorem impl_total.mono_l : ∀ k, (∀ y0 y1 y2 y3, LeO (impl_total.l0 k y0 y1 y2 y3) (impl_total.l0 (k + 1) y0 y1 y2 y3))
 | 0 => fun _ _ _ _ r h => by simp [impl_total.l0] at h
 | k + 1 => by
  have ih0 := impl_total.mono_l k
  ·intro y0 y1 y2 y3
   unfold impl_total.l0
   repeat' first
   | (with_reducible exact ih0 _ _ _ _)
   | (with_reducible exact LeO.refl _)
   | (with_reducible exact LeO.none _)
   | (with_reducible refine LeO.ite ?_ ?_)
   | (with_reducible refine LeO.bind ?_ (fun _ => ?_))
   | exact ih0 _ _ _ _
   | exact LeO.none _
   | refine LeO.ite ?_ ?_
   | refine LeO.bind ?_ (fun _ => ?_)
theorem impl_total.mono : ∀ a0 k, LeO (impl_total.f k a0) (impl_total.f (k + 1) a0) := by
 intro a0 k
 have ih0 := impl_total.mono_l k
 unfold impl_total.f
 repeat' first
   | (with_reducible exact ih0 _ _ _ _)
   | (with_reducible exact LeO.refl _)
   | (with_reducible exact LeO.none _)
   | (with_reducible refine LeO.ite ?_ ?_)
   | (with_reducible refine LeO.bind ?_ (fun _ => ?_))
   | exact ih0 _ _ _ _
   | exact LeO.none _
   | refine LeO.ite ?_ ?_
   | refine LeO.bind ?_ (fun _ => ?_)
theorem impl_total.calls (k : Nat) (A0 : Option Addr) (c0 : Nat) (l0 : List Int) (r : Int) (w : World) (hr0 : Kd.C (Kd.int .i64) w A0 l0.length l0) (hc0 : l0.length ≤ c0) (h : impl_total.f k l0 = some r) :
  Calls Try.prog 137 #[.slice A0 l0.length c0] w fun e w' => e = .returned (.int .i64 r) ∧ Drawn0 w w' := by
 have HR0 := Aside0.mk hr0
 have HC0 := Aside0.mk hc0
 clear hr0 hc0
 have H : (impl_total.l0 k 0 l0 (l0.length : Int) 0) = some r := h
 clear h
 have H' := Aside0.mk H
 clear H
 go_enter Try.func137, Try.ntmps137
 go_wp2
 go_loopg [3, 8] k (fun kq v3 v8 w' => ∃ (x3_1 : Int) (x8_1 : Int), v3 = .int .i64 x3_1 ∧ v8 = .int .i64 x8_1 ∧ Aside0 (impl_total.l0 kq x3_1 l0 (l0.length : Int) x8_1 = some r) ∧ Aside0 (kq ≤ k) ∧ Drawn0 w w')
 case atStart => exact ⟨(0), (0), (by first | rfl | (simp; done) | (simp [*]; done)), (by first | rfl | (simp; done) | (simp [*]; done)), H', ⟨Nat.le_refl _⟩, by repeat (first | exact Drawn0.refl _ | apply Drawn0.step)⟩
 case round =>
  clear H'
  try clear c1
  obtain ⟨x3_1, x8_1, rfl, rfl, HA, HK1, ⟨m1, rfl⟩⟩ := hrel
  cases gk with
  | zero => exact absurd HA.out (by simp [impl_total.l0])
  | succ k1 =>
   have H := HA.out
   clear HA
   simp only [impl_total.l0] at H
   by_cases c2 : x8_1 < (l0.length : Int)
   ·rw [if_pos c2] at H
    have c2b0 : decide (x8_1 < (l0.length : Int)) = true := decide_eq_true c2
    clear c2
    by_cases c3 : 0 ≤ x8_1
    ·rw [if_pos c3] at H
     have c3b0 : decide (0 ≤ x8_1) = true := decide_eq_true c3
     clear c3
     by_cases c4 : x8_1 < (l0.length : Int)
     ·rw [if_pos c4] at H
      have c4b0 : decide (x8_1 < (l0.length : Int)) = true := decide_eq_true c4
      clear c4
      have H' := Aside0.mk H
      clear H
      have p739 : 0 ≤ (x8_1 : Int) := of_decide_eq_true (by first | (with_reducible assumption) | assumption)
      have q739 : x8_1 < (l0.length : Int) := of_decide_eq_true (by first | (with_reducible assumption) | assumption)
      obtain ⟨ad739, e739, hx739_0⟩ := Kd.at_int HR0.out x8_1 p739 q739
      cases e739
      replace p739 := eq_true p739
      replace q739 := eq_true q739
      go_wp2
      go_roundg k1
      case measure => have := HK1.out; omega
      case rel => exact ⟨(wrap64 (x3_1 + (rd l0 x8_1))), (wrap64 (x8_1 + 1)), (by first | rfl | (simp; done) | (simp [*]; done)), (by first | rfl | (simp; done) | (simp [*]; done)), H', ⟨by have := HK1.out; omega⟩, by repeat (first | exact Drawn0.refl _ | apply Drawn0.step)⟩
     ·rw [if_neg c4] at H
      exact absurd H (by simp)
    ·rw [if_neg c3] at H
     exact absurd H (by simp)
   ·rw [if_neg c2] at H
    have c2b0 : decide (x8_1 < (l0.length : Int)) = false := decide_eq_false c2
    clear c2
    obtain rfl := Option.some.inj H
    go_wp2
    go_ret
    exact ⟨by first | rfl | (simp; done) | (simp [*]; done), by repeat (first | exact Drawn0.refl _ | apply Drawn0.step)⟩
def impl_mix.j0 : Nat → List (S65) → Bool → Option (List Int × Int × Bool)
 | 0, _, _ => none
 | k + 1, x0, x18 => if x18 = true then (some (([] : List Int), 0, false)) else ((impl_together.f k x0 1000000000 1000000000000).bind fun bt741 => (if bt741.2.2 = true then ((impl_isFeasible.f bt741.1).bind fun t746 => (if t746 = true then ((impl_total.f k bt741.1).bind fun t747 => (if t747 = bt741.2.1 then (some (bt741.1, bt741.2.1, true)) else (some (([] : List Int), 0, false)))) else (some (([] : List Int), 0, false)))) else (some (([] : List Int), 0, false))))
def impl_mix.f (k : Nat) (l0 : List (S65)) (a1 : Int) : Option (List Int × Int × Bool) := if (l0.length : Int) = a1 then ((impl_areFracs.f l0).bind fun t740 => (impl_mix.j0 k l0 (!t740))) else (impl_mix.j0 k l0 true)
theorem impl_mix.mono_l : ∀ k, (∀ y0 y1, LeO (impl_mix.j0 k y0 y1) (impl_mix.j0 (k + 1) y0 y1))
 | 0 => fun _ _ r h => by simp [impl_mix.j0] at h
 | k + 1 => by
  have ih0 := impl_mix.mono_l k
  ·intro y0 y1
   unfold impl_mix.j0
   repeat' first
   | (with_reducible exact ih0 _ _)
   | (with_reducible exact impl_together.mono _ _ _ _)
   | (with_reducible exact impl_total.mono _ _)
   | (with_reducible exact LeO.refl _)
   | (with_reducible exact LeO.none _)
   | (with_reducible refine LeO.ite ?_ ?_)
   | (with_reducible refine LeO.bind ?_ (fun _ => ?_))
   | exact ih0 _ _
   | exact impl_together.mono _ _ _ _
   | exact impl_total.mono _ _
   | exact LeO.none _
   | refine LeO.ite ?_ ?_
   | refine LeO.bind ?_ (fun _ => ?_)
theorem impl_mix.mono : ∀ a0 a1 k, LeO (impl_mix.f k a0 a1) (impl_mix.f (k + 1) a0 a1) := by
 intro a0 a1 k
 have ih0 := impl_mix.mono_l k
 unfold impl_mix.f
 repeat' first
   | (with_reducible exact ih0 _ _)
   | (with_reducible exact impl_together.mono _ _ _ _)
   | (with_reducible exact impl_total.mono _ _)
   | (with_reducible exact LeO.refl _)
   | (with_reducible exact LeO.none _)
   | (with_reducible refine LeO.ite ?_ ?_)
   | (with_reducible refine LeO.bind ?_ (fun _ => ?_))
   | exact ih0 _ _
   | exact impl_together.mono _ _ _ _
   | exact impl_total.mono _ _
   | exact LeO.none _
   | refine LeO.ite ?_ ?_
   | refine LeO.bind ?_ (fun _ => ?_)
theorem impl_mix.calls (k : Nat) (A0 : Option Addr) (c0 : Nat) (l0 : List (S65)) (a1 : Int) (r1 : List Int) (r2 : Int) (r3 : Bool) (w : World) (hr0 : Kd.C k65 w A0 l0.length l0) (hc0 : l0.length ≤ c0) (h : impl_mix.f k l0 a1 = some (r1, r2, r3)) :
  Calls Try.prog 99 #[.slice A0 l0.length c0, .int .i64 a1] w fun e w' => ∃ v0_ : Value, e = .returned (.tuple #[v0_, .int .i64 r2, .bool r3]) ∧ Kd.R (Kd.int .i64) 2 w' w.heap.size (fun _ => True) v0_ r1 ∧ Below w.heap.size w w' := by
 have HR0 := Aside0.mk hr0
 have HC0 := Aside0.mk hc0
 clear hr0 hc0
 have HB := Aside0.mk (Below.refl w.heap.size w)
 have H : (if (l0.length : Int) = a1 then ((impl_areFracs.f l0).bind fun t740 => (impl_mix.j0 k l0 (!t740))) else (impl_mix.j0 k l0 true)) = some (r1, r2, r3) := h
 clear h
 have HC3 := Aside0.mk H
 clear H
 go_enter Try.func99, Try.ntmps99
 go_upto_region 1 with (fail)
 go_cut [18] (fun v18 wc => ∃ (kq : Nat) (x18_2 : Bool), v18 = .bool x18_2 ∧ Aside0 (impl_mix.j0 kq l0 x18_2 = some (r1, r2, r3)) ∧ Aside0 (kq ≤ k) ∧ Aside0 (Below w.heap.size w wc))
 case first =>
  have H := HC3.out
  clear HC3
  by_cases c4 : (l0.length : Int) = a1
  ·rw [if_pos c4] at H
   have c4b0 : ((l0.length : Int) == a1) = true := beq_iff_eq.mpr c4
   have c4b1 : ((l0.length : Int) != a1) = false := bne_eq_false_iff_eq.mpr c4
   clear c4
   (first | rw [c4b0] | (simp only [i64_w, i32_w]; rw [c4b0]) | skip)
   replace H := Option.bind_eq_some_iff.mp H
   obtain ⟨t740, A50, H⟩ := H
   replace H : (impl_mix.j0 k l0 (!t740)) = some (r1, r2, r3) := H
   have A5 := Aside0.mk A50
   clear A50
   have H' := Aside0.mk H
   clear H
   go_wp2_with (first | (go_at_call 134; (with_reducible refine (impl_areFracs.calls _ _ l0 t740 _ ?side1 ?side2 A5.out).mono ?_); (case side1 => repeat (first | exact (Kd.C_below HR0.out HB.out) | (with_reducible refine Kd.C_alloc ?_ _) | (with_reducible refine Kd.C_drewN ?_ _) | (with_reducible refine Kd.C_drew ?_))); (case side2 => exact HC0.out); rintro e w6 ⟨rfl, hb⟩; have n0_ := Aside0.mk (below_step (by repeat (first | (with_reducible first | exact HB.out | apply below_alloc | apply pw_below_drewN | apply below_drew1) | exact HB.out)) hb); clear HB; have HB := n0_; clear n0_; (try clear hb); (try clear hb2); (try clear hk); (try clear hi)))
   go_meet
   case rel => exact ⟨_, (!t740), (by first | rfl | (simp; done) | (simp [*]; done)), H', ⟨by first | omega | exact Nat.le_refl _⟩, ⟨by repeat (first | (with_reducible first | exact HB.out | apply below_alloc | apply pw_below_drewN | apply below_drew1) | exact HB.out)⟩⟩
  ·rw [if_neg c4] at H
   have c4b0 : ((l0.length : Int) == a1) = false := beq_eq_false_iff_ne.mpr c4
   have c4b1 : ((l0.length : Int) != a1) = true := bne_iff_ne.mpr c4
   (first | rw [c4b0] | (simp only [i64_w, i32_w]; rw [c4b0]) | skip)
   have H' := Aside0.mk H
   clear H
   go_wp2
   go_meet
   case rel => exact ⟨_, (true), (by first | rfl | (simp; done) | (simp [*]; done)), H', ⟨by first | omega | exact Nat.le_refl _⟩, ⟨by repeat (first | (with_reducible first | exact HB.out | apply below_alloc | apply pw_below_drewN | apply below_drew1) | exact HB.out)⟩⟩
 case rest =>
  clear HC3
  try clear p2
  try clear c4
  try clear c4b0
  try clear c4b1
  obtain ⟨kq, x18_2, rfl, HA, HJ2, HB⟩ := hcut
  cases kq with
  | zero => exact absurd HA.out (by simp [impl_mix.j0])
  | succ kj2 =>
   have H := HA.out
   clear HA
   simp only [impl_mix.j0] at H
   by_cases c7 : x18_2 = true
   ·subst c7
    have H1 : (some (([] : List Int), 0, false)) = some (r1, r2, r3) := by rw [if_pos rfl] at H; exact H
    clear H
    have H := H1
    clear H1
    simp only [Option.some.injEq, Prod.mk.injEq] at H
    obtain ⟨rfl, rfl, rfl⟩ := H
    go_wp2
    go_ret3
    exact ⟨_, by first | rfl | (simp [errW_none, errW_some] <;> rfl) | (simp [*, errW_none, errW_some] <;> rfl), by first | exact Kd.R_nil _ _ _ _ _ | exact Kd.N_nil _ _ _ _ _ | exact Kd.V_nil _ _ _ _ _ | exact Kd.Q_nil _ _ _ _ _ | exact Kd.S_nil _ _ _ _ _, by repeat (first | (with_reducible first | exact HB.out | apply below_alloc | apply pw_below_drewN | apply below_drew1) | exact HB.out)⟩
   ·replace c7 := Bool.eq_false_iff.mpr c7
    subst c7
    have H1 : ((impl_together.f kj2 l0 1000000000 1000000000000).bind fun bt741 => (if bt741.2.2 = true then ((impl_isFeasible.f bt741.1).bind fun t746 => (if t746 = true then ((impl_total.f kj2 bt741.1).bind fun t747 => (if t747 = bt741.2.1 then (some (bt741.1, bt741.2.1, true)) else (some (([] : List Int), 0, false)))) else (some (([] : List Int), 0, false)))) else (some (([] : List Int), 0, false)))) = some (r1, r2, r3) := by rw [if_neg (show ¬ (false = true) by decide)] at H; exact H
    clear H
    have H := H1
    clear H1
    replace H := Option.bind_eq_some_iff.mp H
    obtain ⟨⟨t741, t742, t743⟩, A80, H⟩ := H
    replace H : (if t743 = true then ((impl_isFeasible.f t741).bind fun t746 => (if t746 = true then ((impl_total.f kj2 t741).bind fun t747 => (if t747 = t742 then (some (t741, t742, true)) else (some (([] : List Int), 0, false)))) else (some (([] : List Int), 0, false)))) else (some (([] : List Int), 0, false))) = some (r1, r2, r3) := H
    have A8 := Aside0.mk A80
    clear A80
    by_cases c9 : t743 = true
    ·subst c9
     have H1 : ((impl_isFeasible.f t741).bind fun t746 => (if t746 = true then ((impl_total.f kj2 t741).bind fun t747 => (if t747 = t742 then (some (t741, t742, true)) else (some (([] : List Int), 0, false)))) else (some (([] : List Int), 0, false)))) = some (r1, r2, r3) := by rw [if_pos rfl] at H; exact H
     clear H
     have H := H1
     clear H1
     replace H := Option.bind_eq_some_iff.mp H
     obtain ⟨t746, A100, H⟩ := H
     replace H : (if t746 = true then ((impl_total.f kj2 t741).bind fun t747 => (if t747 = t742 then (some (t741, t742, true)) else (some (([] : List Int), 0, false)))) else (some (([] : List Int), 0, false))) = some (r1, r2, r3) := H
     have A10 := Aside0.mk A100
     clear A100
     by_cases c11 : t746 = true
     ·subst c11
      have H1 : ((impl_total.f kj2 t741).bind fun t747 => (if t747 = t742 then (some (t741, t742, true)) else (some (([] : List Int), 0, false)))) = some (r1, r2, r3) := by rw [if_pos rfl] at H; exact H
      clear H
      have H := H1
      clear H1
      replace H := Option.bind_eq_some_iff.mp H
      obtain ⟨t747, A120, H⟩ := H
      replace H : (if t747 = t742 then (some (t741, t742, true)) else (some (([] : List Int), 0, false))) = some (r1, r2, r3) := H
      have A12 := Aside0.mk A120
      clear A120
      by_cases c13 : t747 = t742
      ·rw [if_pos c13] at H
       have c13b0 : (t747 == t742) = true := beq_iff_eq.mpr c13
       have c13b1 : (t747 != t742) = false := bne_eq_false_iff_eq.mpr c13
       clear c13
       simp only [Option.some.injEq, Prod.mk.injEq] at H
       obtain ⟨rfl, rfl, rfl⟩ := H
       go_wp2_with (first | ((with_reducible refine gate_callee (f := 135) rfl ?_); refine goesL_ (some 21) rfl rfl Try.func135 (by kernel_rfl) rfl #[.slice A0 l0.length c0, .int .i64 1000000000, .int .i64 1000000000000] rfl (by (try simp only [List.map_toArray, List.map_cons, List.map_nil]); first | done | rfl | (simp only [List.length_drop, List.length_take]; rfl)) ?_; (with_reducible refine (impl_together.calls kj2 _ _ l0 1000000000 1000000000000 t741 t742 true _ ?side1 ?side2 A8.out).mono ?_); (case side1 => repeat (first | exact (Kd.C_below HR0.out HB.out) | (with_reducible refine Kd.C_alloc ?_ _) | (with_reducible refine Kd.C_drewN ?_ _) | (with_reducible refine Kd.C_drew ?_))); (case side2 => exact HC0.out); rintro e w14 ⟨v744, rfl, ho0, hb⟩; refine ⟨_, rfl, ?_⟩; have n0_ := Aside0.mk (Kd.R_lower ho0 (below_size (by repeat (first | (with_reducible first | exact HB.out | apply below_alloc | apply pw_below_drewN | apply below_drew1) | exact HB.out)))); have n1_ := Aside0.mk (below_step (by repeat (first | (with_reducible first | exact HB.out | apply below_alloc | apply pw_below_drewN | apply below_drew1) | exact HB.out)) hb); clear HB; have HO745 := n0_; have HB := n1_; clear n0_ n1_; (try clear hb); (try clear hb2); (try clear hk); (try clear hi); (try clear ho0); obtain ⟨Ao15, co15, eo15⟩ := Kd.R_slice HO745.out; subst eo15) | (go_at_call 136; (with_reducible refine (impl_isFeasible.calls _ _ t741 true _ ?side1 ?side2 A10.out).mono ?_); (case side1 => repeat (first | exact (Kd.R_reads' HO745.out).2.2 | (with_reducible refine Kd.C_alloc ?_ _) | (with_reducible refine Kd.C_drewN ?_ _) | (with_reducible refine Kd.C_drew ?_))); (case side2 => exact (Kd.R_reads' HO745.out).2.1); rintro e w16 ⟨rfl, hb⟩; have n0_ := Aside0.mk (Kd.R_below (by (with_reducible repeat (first | apply Kd.R_alloc | apply Kd.R_drewN | apply Kd.R_drew)); exact HO745.out) hb); have n1_ := Aside0.mk (below_step (by repeat (first | (with_reducible first | exact HB.out | apply below_alloc | apply pw_below_drewN | apply below_drew1) | exact HB.out)) hb); clear HO745; clear HB; have HO745 := n0_; have HB := n1_; clear n0_ n1_; (try clear hb); (try clear hb2); (try clear hk); (try clear hi)) | (go_at_call 137; (with_reducible refine (impl_total.calls kj2 _ _ t741 t747 _ ?side1 ?side2 A12.out).mono ?_); (case side1 => repeat (first | exact (Kd.R_reads' HO745.out).2.2 | (with_reducible refine Kd.C_alloc ?_ _) | (with_reducible refine Kd.C_drewN ?_ _) | (with_reducible refine Kd.C_drew ?_))); (case side2 => exact (Kd.R_reads' HO745.out).2.1); rintro e w' ⟨rfl, ⟨nd, rfl⟩⟩))
       go_ret3
       exact ⟨_, by first | rfl | (simp [errW_none, errW_some] <;> rfl) | (simp [*, errW_none, errW_some] <;> rfl), by (with_reducible repeat (first | apply Kd.R_alloc | apply Kd.R_drewN | apply Kd.R_drew)); exact HO745.out, by repeat (first | (with_reducible first | exact HB.out | apply below_alloc | apply pw_below_drewN | apply below_drew1) | exact HB.out)⟩
      ·rw [if_neg c13] at H
       have c13b0 : (t747 == t742) = false := beq_eq_false_iff_ne.mpr c13
       have c13b1 : (t747 != t742) = true := bne_iff_ne.mpr c13
       simp only [Option.some.injEq, Prod.mk.injEq] at H
       obtain ⟨rfl, rfl, rfl⟩ := H
       go_wp2_with (first | ((with_reducible refine gate_callee (f := 135) rfl ?_); refine goesL_ (some 21) rfl rfl Try.func135 (by kernel_rfl) rfl #[.slice A0 l0.length c0, .int .i64 1000000000, .int .i64 1000000000000] rfl (by (try simp only [List.map_toArray, List.map_cons, List.map_nil]); first | done | rfl | (simp only [List.length_drop, List.length_take]; rfl)) ?_; (with_reducible refine (impl_together.calls kj2 _ _ l0 1000000000 1000000000000 t741 t742 true _ ?side1 ?side2 A8.out).mono ?_); (case side1 => repeat (first | exact (Kd.C_below HR0.out HB.out) | (with_reducible refine Kd.C_alloc ?_ _) | (with_reducible refine Kd.C_drewN ?_ _) | (with_reducible refine Kd.C_drew ?_))); (case side2 => exact HC0.out); rintro e w17 ⟨v744, rfl, ho0, hb⟩; refine ⟨_, rfl, ?_⟩; have n0_ := Aside0.mk (Kd.R_lower ho0 (below_size (by repeat (first | (with_reducible first | exact HB.out | apply below_alloc | apply pw_below_drewN | apply below_drew1) | exact HB.out)))); have n1_ := Aside0.mk (below_step (by repeat (first | (with_reducible first | exact HB.out | apply below_alloc | apply pw_below_drewN | apply below_drew1) | exact HB.out)) hb); clear HB; have HO745 := n0_; have HB := n1_; clear n0_ n1_; (try clear hb); (try clear hb2); (try clear hk); (try clear hi); (try clear ho0); obtain ⟨Ao18, co18, eo18⟩ := Kd.R_slice HO745.out; subst eo18) | (go_at_call 136; (with_reducible refine (impl_isFeasible.calls _ _ t741 true _ ?side1 ?side2 A10.out).mono ?_); (case side1 => repeat (first | exact (Kd.R_reads' HO745.out).2.2 | (with_reducible refine Kd.C_alloc ?_ _) | (with_reducible refine Kd.C_drewN ?_ _) | (with_reducible refine Kd.C_drew ?_))); (case side2 => exact (Kd.R_reads' HO745.out).2.1); rintro e w19 ⟨rfl, hb⟩; have n0_ := Aside0.mk (Kd.R_below (by (with_reducible repeat (first | apply Kd.R_alloc | apply Kd.R_drewN | apply Kd.R_drew)); exact HO745.out) hb); have n1_ := Aside0.mk (below_step (by repeat (first | (with_reducible first | exact HB.out | apply below_alloc | apply pw_below_drewN | apply below_drew1) | exact HB.out)) hb); clear HO745; clear HB; have HO745 := n0_; have HB := n1_; clear n0_ n1_; (try clear hb); (try clear hb2); (try clear hk); (try clear hi)) | (go_at_call 137; (with_reducible refine (impl_total.calls kj2 _ _ t741 t747 _ ?side1 ?side2 A12.out).mono ?_); (case side1 => repeat (first | exact (Kd.R_reads' HO745.out).2.2 | (with_reducible refine Kd.C_alloc ?_ _) | (with_reducible refine Kd.C_drewN ?_ _) | (with_reducible refine Kd.C_drew ?_))); (case side2 => exact (Kd.R_reads' HO745.out).2.1); rintro e w' ⟨rfl, ⟨nd, rfl⟩⟩))
       go_ret3
       exact ⟨_, by first | rfl | (simp [errW_none, errW_some] <;> rfl) | (simp [*, errW_none, errW_some] <;> rfl), by first | exact Kd.R_nil _ _ _ _ _ | exact Kd.N_nil _ _ _ _ _ | exact Kd.V_nil _ _ _ _ _ | exact Kd.Q_nil _ _ _ _ _ | exact Kd.S_nil _ _ _ _ _, by repeat (first | (with_reducible first | exact HB.out | apply below_alloc | apply pw_below_drewN | apply below_drew1) | exact HB.out)⟩
     ·replace c11 := Bool.eq_false_iff.mpr c11
      subst c11
      have H1 : (some (([] : List Int), 0, false)) = some (r1, r2, r3) := by rw [if_neg (show ¬ (false = true) by decide)] at H; exact H
      clear H
      have H := H1
      clear H1
      simp only [Option.some.injEq, Prod.mk.injEq] at H
      obtain ⟨rfl, rfl, rfl⟩ := H
      go_wp2_with (first | ((with_reducible refine gate_callee (f := 135) rfl ?_); refine goesL_ (some 21) rfl rfl Try.func135 (by kernel_rfl) rfl #[.slice A0 l0.length c0, .int .i64 1000000000, .int .i64 1000000000000] rfl (by (try simp only [List.map_toArray, List.map_cons, List.map_nil]); first | done | rfl | (simp only [List.length_drop, List.length_take]; rfl)) ?_; (with_reducible refine (impl_together.calls kj2 _ _ l0 1000000000 1000000000000 t741 t742 true _ ?side1 ?side2 A8.out).mono ?_); (case side1 => repeat (first | exact (Kd.C_below HR0.out HB.out) | (with_reducible refine Kd.C_alloc ?_ _) | (with_reducible refine Kd.C_drewN ?_ _) | (with_reducible refine Kd.C_drew ?_))); (case side2 => exact HC0.out); rintro e w20 ⟨v744, rfl, ho0, hb⟩; refine ⟨_, rfl, ?_⟩; have n0_ := Aside0.mk (Kd.R_lower ho0 (below_size (by repeat (first | (with_reducible first | exact HB.out | apply below_alloc | apply pw_below_drewN | apply below_drew1) | exact HB.out)))); have n1_ := Aside0.mk (below_step (by repeat (first | (with_reducible first | exact HB.out | apply below_alloc | apply pw_below_drewN | apply below_drew1) | exact HB.out)) hb); clear HB; have HO745 := n0_; have HB := n1_; clear n0_ n1_; (try clear hb); (try clear hb2); (try clear hk); (try clear hi); (try clear ho0); obtain ⟨Ao21, co21, eo21⟩ := Kd.R_slice HO745.out; subst eo21) | (go_at_call 136; (with_reducible refine (impl_isFeasible.calls _ _ t741 false _ ?side1 ?side2 A10.out).mono ?_); (case side1 => repeat (first | exact (Kd.R_reads' HO745.out).2.2 | (with_reducible refine Kd.C_alloc ?_ _) | (with_reducible refine Kd.C_drewN ?_ _) | (with_reducible refine Kd.C_drew ?_))); (case side2 => exact (Kd.R_reads' HO745.out).2.1); rintro e w22 ⟨rfl, hb⟩; have n0_ := Aside0.mk (Kd.R_below (by (with_reducible repeat (first | apply Kd.R_alloc | apply Kd.R_drewN | apply Kd.R_drew)); exact HO745.out) hb); have n1_ := Aside0.mk (below_step (by repeat (first | (with_reducible first | exact HB.out | apply below_alloc | apply pw_below_drewN | apply below_drew1) | exact HB.out)) hb); clear HO745; clear HB; have HO745 := n0_; have HB := n1_; clear n0_ n1_; (try clear hb); (try clear hb2); (try clear hk); (try clear hi)))
      go_ret3
      exact ⟨_, by first | rfl | (simp [errW_none, errW_some] <;> rfl) | (simp [*, errW_none, errW_some] <;> rfl), by first | exact Kd.R_nil _ _ _ _ _ | exact Kd.N_nil _ _ _ _ _ | exact Kd.V_nil _ _ _ _ _ | exact Kd.Q_nil _ _ _ _ _ | exact Kd.S_nil _ _ _ _ _, by repeat (first | (with_reducible first | exact HB.out | apply below_alloc | apply pw_below_drewN | apply below_drew1) | exact HB.out)⟩
    ·replace c9 := Bool.eq_false_iff.mpr c9
     subst c9
     have H1 : (some (([] : List Int), 0, false)) = some (r1, r2, r3) := by rw [if_neg (show ¬ (false = true) by decide)] at H; exact H
     clear H
     have H := H1
     clear H1
     simp only [Option.some.injEq, Prod.mk.injEq] at H
     obtain ⟨rfl, rfl, rfl⟩ := H
     go_wp2_with (first | ((with_reducible refine gate_callee (f := 135) rfl ?_); refine goesL_ (some 21) rfl rfl Try.func135 (by kernel_rfl) rfl #[.slice A0 l0.length c0, .int .i64 1000000000, .int .i64 1000000000000] rfl (by (try simp only [List.map_toArray, List.map_cons, List.map_nil]); first | done | rfl | (simp only [List.length_drop, List.length_take]; rfl)) ?_; (with_reducible refine (impl_together.calls kj2 _ _ l0 1000000000 1000000000000 t741 t742 false _ ?side1 ?side2 A8.out).mono ?_); (case side1 => repeat (first | exact (Kd.C_below HR0.out HB.out) | (with_reducible refine Kd.C_alloc ?_ _) | (with_reducible refine Kd.C_drewN ?_ _) | (with_reducible refine Kd.C_drew ?_))); (case side2 => exact HC0.out); rintro e w23 ⟨v744, rfl, ho0, hb⟩; refine ⟨_, rfl, ?_⟩; have n0_ := Aside0.mk (Kd.R_lower ho0 (below_size (by repeat (first | (with_reducible first | exact HB.out | apply below_alloc | apply pw_below_drewN | apply below_drew1) | exact HB.out)))); have n1_ := Aside0.mk (below_step (by repeat (first | (with_reducible first | exact HB.out | apply below_alloc | apply pw_below_drewN | apply below_drew1) | exact HB.out)) hb); clear HB; have HO745 := n0_; have HB := n1_; clear n0_ n1_; (try clear hb); (try clear hb2); (try clear hk); (try clear hi); (try clear ho0)))
     go_ret3
     exact ⟨_, by first | rfl | (simp [errW_none, errW_some] <;> rfl) | (simp [*, errW_none, errW_some] <;> rfl), by first | exact Kd.R_nil _ _ _ _ _ | exact Kd.N_nil _ _ _ _ _ | exact Kd.V_nil _ _ _ _ _ | exact Kd.Q_nil _ _ _ _ _ | exact Kd.S_nil _ _ _ _ _, by repeat (first | (with_reducible first | exact HB.out | apply below_alloc | apply pw_below_drewN | apply below_drew1) | exact HB.out)⟩
def impl_sum.l0 : Nat → List Int → Int → List Int → Int → Int → Option (Int)
 | 0, _, _, _, _, _ => none
 | k + 1, x1, x5, x8, x9, x10 => if x10 < x9 then (if 0 ≤ x10 then (if x10 < (x8.length : Int) then (if x10 < (x1.length : Int) then (impl_sum.l0 k x1 (wrap64 (x5 + (wrap64 ((rd x8 x10) * (rd x1 x10))))) x8 x9 (wrap64 (x10 + 1))) else (none)) else (none)) else (none)) else (some x5)
def impl_sum.f (k : Nat) (l0 : List Int) (l1 : List Int) : Option (Int) := impl_sum.l0 k l1 0 l0 (l0.length : Int) 0
theorem impl_sum.mono_l : ∀ k, (∀ y0 y1 y2 y3 y4, LeO (impl_sum.l0 k y0 y1 y2 y3 y4) (impl_sum.l0 (k + 1) y0 y1 y2 y3 y4))
 | 0 => fun _ _ _ _ _ r h => by simp [impl_sum.l0] at h
 | k + 1 => by
  have ih0 := impl_sum.mono_l k
  ·intro y0 y1 y2 y3 y4
   unfold impl_sum.l0
   repeat' first
   | (with_reducible exact ih0 _ _ _ _ _)
   | (with_reducible exact LeO.refl _)
   | (with_reducible exact LeO.none _)
   | (with_reducible refine LeO.ite ?_ ?_)
   | (with_reducible refine LeO.bind ?_ (fun _ => ?_))
   | exact ih0 _ _ _ _ _
   | exact LeO.none _
   | refine LeO.ite ?_ ?_
   | refine LeO.bind ?_ (fun _ => ?_)
theorem impl_sum.mono : ∀ a0 a1 k, LeO (impl_sum.f k a0 a1) (impl_sum.f (k + 1) a0 a1) := by
 intro a0 a1 k
 have ih0 := impl_sum.mono_l k
 unfold impl_sum.f
 repeat' first
   | (with_reducible exact ih0 _ _ _ _ _)
   | (with_reducible exact LeO.refl _)
   | (with_reducible exact LeO.none _)
   | (with_reducible refine LeO.ite ?_ ?_)
   | (with_reducible refine LeO.bind ?_ (fun _ => ?_))
   | exact ih0 _ _ _ _ _
   | exact LeO.none _
   | refine LeO.ite ?_ ?_
   | refine LeO.bind ?_ (fun _ => ?_)
theorem impl_sum.calls (k : Nat) (A0 : Option Addr) (c0 : Nat) (l0 : List Int) (A1 : Option Addr) (c1 : Nat) (l1 : List Int) (r : Int) (w : World) (hr0 : Kd.C (Kd.int .i64) w A0 l0.length l0) (hc0 : l0.length ≤ c0) (hr1 : Kd.C (Kd.int .i64) w A1 l1.length l1) (hc1 : l1.length ≤ c1) (h : impl_sum.f k l0 l1 = some r) :
  Calls Try.prog 140 #[.slice A0 l0.length c0, .slice A1 l1.length c1] w fun e w' => e = .returned (.int .i64 r) ∧ Drawn0 w w' := by
 have HR0 := Aside0.mk hr0
 have HC0 := Aside0.mk hc0
 clear hr0 hc0
 have HR1 := Aside0.mk hr1
 have HC1 := Aside0.mk hc1
 clear hr1 hc1
 have H : (impl_sum.l0 k l1 0 l0 (l0.length : Int) 0) = some r := h
 clear h
 have H' := Aside0.mk H
 clear H
 go_enter Try.func140, Try.ntmps140
 go_wp2
 go_loopg [5, 10] k (fun kq v5 v10 w' => ∃ (x5_1 : Int) (x10_1 : Int), v5 = .int .i64 x5_1 ∧ v10 = .int .i64 x10_1 ∧ Aside0 (impl_sum.l0 kq l1 x5_1 l0 (l0.length : Int) x10_1 = some r) ∧ Aside0 (kq ≤ k) ∧ Drawn0 w w')
 case atStart => exact ⟨(0), (0), (by first | rfl | (simp; done) | (simp [*]; done)), (by first | rfl | (simp; done) | (simp [*]; done)), H', ⟨Nat.le_refl _⟩, by repeat (first | exact Drawn0.refl _ | apply Drawn0.step)⟩
 case round =>
  clear H'
  try clear c1
  try clear p2
  obtain ⟨x5_1, x10_1, rfl, rfl, HA, HK1, ⟨m1, rfl⟩⟩ := hrel
  cases gk with
  | zero => exact absurd HA.out (by simp [impl_sum.l0])
  | succ k1 =>
   have H := HA.out
   clear HA
   simp only [impl_sum.l0] at H
   by_cases c3 : x10_1 < (l0.length : Int)
   ·rw [if_pos c3] at H
    have c3b0 : decide (x10_1 < (l0.length : Int)) = true := decide_eq_true c3
    clear c3
    by_cases c4 : 0 ≤ x10_1
    ·rw [if_pos c4] at H
     have c4b0 : decide (0 ≤ x10_1) = true := decide_eq_true c4
     clear c4
     by_cases c5 : x10_1 < (l0.length : Int)
     ·rw [if_pos c5] at H
      have c5b0 : decide (x10_1 < (l0.length : Int)) = true := decide_eq_true c5
      clear c5
      by_cases c6 : x10_1 < (l1.length : Int)
      ·rw [if_pos c6] at H
       have c6b0 : decide (x10_1 < (l1.length : Int)) = true := decide_eq_true c6
       clear c6
       have H' := Aside0.mk H
       clear H
       have p758 : 0 ≤ (x10_1 : Int) := of_decide_eq_true (by first | (with_reducible assumption) | assumption)
       have q758 : x10_1 < (l0.length : Int) := of_decide_eq_true (by first | (with_reducible assumption) | assumption)
       obtain ⟨ad758, e758, hx758_0⟩ := Kd.at_int HR0.out x10_1 p758 q758
       cases e758
       replace p758 := eq_true p758
       replace q758 := eq_true q758
       have p759 : 0 ≤ (x10_1 : Int) := of_decide_eq_true (by first | (with_reducible assumption) | assumption)
       have q759 : x10_1 < (l1.length : Int) := of_decide_eq_true (by first | (with_reducible assumption) | assumption)
       obtain ⟨ad759, e759, hx759_0⟩ := Kd.at_int HR1.out x10_1 p759 q759
       cases e759
       replace p759 := eq_true p759
       replace q759 := eq_true q759
       go_wp2
       go_roundg k1
       case measure => have := HK1.out; omega
       case rel => exact ⟨(wrap64 (x5_1 + (wrap64 ((rd l0 x10_1) * (rd l1 x10_1))))), (wrap64 (x10_1 + 1)), (by first | rfl | (simp; done) | (simp [*]; done)), (by first | rfl | (simp; done) | (simp [*]; done)), H', ⟨by have := HK1.out; omega⟩, by repeat (first | exact Drawn0.refl _ | apply Drawn0.step)⟩
      ·rw [if_neg c6] at H
       exact absurd H (by simp)
     ·rw [if_neg c5] at H
      exact absurd H (by simp)
    ·rw [if_neg c4] at H
     exact absurd H (by simp)
   ·rw [if_neg c3] at H
    have c3b0 : decide (x10_1 < (l0.length : Int)) = false := decide_eq_false c3
    clear c3
    obtain rfl := Option.some.inj H
    go_wp2
    go_ret
    exact ⟨by first | rfl | (simp; done) | (simp [*]; done), by repeat (first | exact Drawn0.refl _ | apply Drawn0.step)⟩
mutual
def impl_Game_gains.l0 : Nat → List Int → List Int → List (List Int) → Int → Int → Option (List Int)
 | 0, _, _, _, _, _ => none
 | k + 1, x2, x9, x27, x28, x29 => if x29 < x28 then (if 0 ≤ x29 then (if x29 < (x27.length : Int) then ((impl_sum.f k (rd_L1 x27 x29) x2).bind fun t904 => (if x29 < (x9.length : Int) then (impl_Game_gains.l0 k x2 (x9.set (x29 : Int).toNat t904) x27 x28 (wrap64 (x29 + 1))) else (none))) else (none)) else (none)) else (some x9)
def impl_Game_gains.l1 : Nat → List Int → List Int → List (List Int) → Int → Int → Option (List Int)
 | 0, _, _, _, _, _ => none
 | k + 1, x2, x12, x45, x46, x47 => if x47 < x46 then (if 0 ≤ x47 then (if x47 < (x45.length : Int) then (impl_Game_gains.l2 k x2 x12 x47 x45 x46 x47 (rd_L1 x45 x47) ((rd_L1 x45 x47).length : Int) 0) else (none)) else (none)) else (some x12)
def impl_Game_gains.l2 : Nat → List Int → List Int → Int → List (List Int) → Int → Int → List Int → Int → Int → Option (List Int)
 | 0, _, _, _, _, _, _, _, _, _ => none
 | k + 1, x2, x12, x13, x45, x46, x47, x52, x53, x54 => if x54 < x53 then (if 0 ≤ x54 then (if x54 < (x52.length : Int) then (if x54 < (x12.length : Int) then (if 0 ≤ x13 then (if x13 < (x2.length : Int) then (impl_Game_gains.l2 k x2 (x12.set (x54 : Int).toNat (wrap64 ((rd x12 x54) + (wrap64 ((rd x52 x54) * (rd x2 x13)))))) x13 x45 x46 x47 x52 x53 (wrap64 (x54 + 1))) else (none)) else (none)) else (none)) else (none)) else (none)) else (impl_Game_gains.l1 k x2 x12 x45 x46 (wrap64 (x47 + 1)))
end
def impl_Game_gains.f (k : Nat) (l0_0 : List (List Int)) (l0_1 : List (List Int)) (a1 : Int) (l2 : List Int) : Option (List Int) := (impl_Game_sizes.f l0_0 l0_1).bind fun bt898 => (if a1 = 0 then (if 0 ≤ bt898.1 then (if (bt898.1 : Int).toNat ≤ 35184372088832 then (impl_Game_gains.l0 k l2 (List.replicate (bt898.1 : Int).toNat 0) l0_0 (l0_0.length : Int) 0) else (none)) else (none)) else (if 0 ≤ bt898.2 then (if (bt898.2 : Int).toNat ≤ 35184372088832 then (impl_Game_gains.l1 k l2 (List.replicate (bt898.2 : Int).toNat 0) l0_1 (l0_1.length : Int) 0) else (none)) else (none)))
theorem impl_Game_gains.mono_l : ∀ k, (∀ y0 y1 y2 y3 y4, LeO (impl_Game_gains.l0 k y0 y1 y2 y3 y4) (impl_Game_gains.l0 (k + 1) y0 y1 y2 y3 y4)) ∧ (∀ y0 y1 y2 y3 y4, LeO (impl_Game_gains.l1 k y0 y1 y2 y3 y4) (impl_Game_gains.l1 (k + 1) y0 y1 y2 y3 y4)) ∧ (∀ y0 y1 y2 y3 y4 y5 y6 y7 y8, LeO (impl_Game_gains.l2 k y0 y1 y2 y3 y4 y5 y6 y7 y8) (impl_Game_gains.l2 (k + 1) y0 y1 y2 y3 y4 y5 y6 y7 y8))
 | 0 => ⟨fun _ _ _ _ _ r h => by simp [impl_Game_gains.l0] at h, fun _ _ _ _ _ r h => by simp [impl_Game_gains.l1] at h, fun _ _ _ _ _ _ _ _ _ r h => by simp [impl_Game_gains.l2] at h⟩
 | k + 1 => by
  obtain ⟨ih0, ih1, ih2⟩ := impl_Game_gains.mono_l k
  refine ⟨?_, ?_, ?_⟩
  ·intro y0 y1 y2 y3 y4
   unfold impl_Game_gains.l0
   repeat' first
   | (with_reducible exact ih0 _ _ _ _ _)
   | (with_reducible exact ih1 _ _ _ _ _)
   | (with_reducible exact ih2 _ _ _ _ _ _ _ _ _)
   | (with_reducible exact impl_sum.mono _ _ _)
   | (with_reducible exact LeO.refl _)
   | (with_reducible exact LeO.none _)
   | (with_reducible refine LeO.ite ?_ ?_)
   | (with_reducible refine LeO.bind ?_ (fun _ => ?_))
   | exact ih0 _ _ _ _ _
   | exact ih1 _ _ _ _ _
   | exact ih2 _ _ _ _ _ _ _ _ _
   | exact impl_sum.mono _ _ _
   | exact LeO.none _
   | refine LeO.ite ?_ ?_
   | refine LeO.bind ?_ (fun _ => ?_)
  ·intro y0 y1 y2 y3 y4
   unfold impl_Game_gains.l1
   repeat' first
   | (with_reducible exact ih0 _ _ _ _ _)
   | (with_reducible exact ih1 _ _ _ _ _)
   | (with_reducible exact ih2 _ _ _ _ _ _ _ _ _)
   | (with_reducible exact impl_sum.mono _ _ _)
   | (with_reducible exact LeO.refl _)
   | (with_reducible exact LeO.none _)
   | (with_reducible refine LeO.ite ?_ ?_)
   | (with_reducible refine LeO.bind ?_ (fun _ => ?_))
   | exact ih0 _ _ _ _ _
   | exact ih1 _ _ _ _ _
   | exact ih2 _ _ _ _ _ _ _ _ _
   | exact impl_sum.mono _ _ _
   | exact LeO.none _
   | refine LeO.ite ?_ ?_
   | refine LeO.bind ?_ (fun _ => ?_)
  ·intro y0 y1 y2 y3 y4 y5 y6 y7 y8
   unfold impl_Game_gains.l2
   repeat' first
   | (with_reducible exact ih0 _ _ _ _ _)
   | (with_reducible exact ih1 _ _ _ _ _)
   | (with_reducible exact ih2 _ _ _ _ _ _ _ _ _)
   | (with_reducible exact impl_sum.mono _ _ _)
   | (with_reducible exact LeO.refl _)
   | (with_reducible exact LeO.none _)
   | (with_reducible refine LeO.ite ?_ ?_)
   | (with_reducible refine LeO.bind ?_ (fun _ => ?_))
   | exact ih0 _ _ _ _ _
   | exact ih1 _ _ _ _ _
   | exact ih2 _ _ _ _ _ _ _ _ _
   | exact impl_sum.mono _ _ _
   | exact LeO.none _
   | refine LeO.ite ?_ ?_
   | refine LeO.bind ?_ (fun _ => ?_)
theorem impl_Game_gains.mono : ∀ a0 a1 a2 a3 k, LeO (impl_Game_gains.f k a0 a1 a2 a3) (impl_Game_gains.f (k + 1) a0 a1 a2 a3) := by
 intro a0 a1 a2 a3 k
 obtain ⟨ih0, ih1, ih2⟩ := impl_Game_gains.mono_l k
 unfold impl_Game_gains.f
 repeat' first
   | (with_reducible exact ih0 _ _ _ _ _)
   | (with_reducible exact ih1 _ _ _ _ _)
   | (with_reducible exact ih2 _ _ _ _ _ _ _ _ _)
   | (with_reducible exact impl_sum.mono _ _ _)
   | (with_reducible exact LeO.refl _)
   | (with_reducible exact LeO.none _)
   | (with_reducible refine LeO.ite ?_ ?_)
   | (with_reducible refine LeO.bind ?_ (fun _ => ?_))
   | exact ih0 _ _ _ _ _
   | exact ih1 _ _ _ _ _
   | exact ih2 _ _ _ _ _ _ _ _ _
   | exact impl_sum.mono _ _ _
   | exact LeO.none _
   | refine LeO.ite ?_ ?_
   | refine LeO.bind ?_ (fun _ => ?_)
def impl_Game_gains.T17 : Bool × List (List Nat × List Nat) := (true, [([], []), ([], []), ([0, 1], [0, 1]), ([2], [2]), ([], []), ([], []), ([], []), ([5, 6], [5, 6]), ([7], [7]), ([4, 8], [4, 8]), ([3, 9], [3, 9]), ([0, 1, 0, 1, 2, 3, 4, 5, 6, 7, 8, 9, 10], [0, 1]), ([11, 10, 0, 1, 2, 3, 4, 5, 6, 7, 8, 9, 10], [10, 11])])
def impl_Game_gains.B17 : List Nat := [0, 0, 3, 7, 0, 0, 0, 96, 224, 496, 1023, 2047, 4095]
theorem impl_Game_gains.tab17 : rtab .any (opsOf Try.f105 17) = impl_Game_gains.T17 := by kernel_rfl
theorem impl_Game_gains.bits17 : waitsOk impl_Game_gains.T17.2 impl_Game_gains.B17 = true := by kernel_rfl
theorem impl_Game_gains.calls (k : Nat) (A0_0 : Option Addr) (c0_0 : Nat) (l0_0 : List (List Int)) (A0_1 : Option Addr) (c0_1 : Nat) (l0_1 : List (List Int)) (a1 : Int) (A2 : Option Addr) (c2 : Nat) (l2 : List Int) (r : List Int) (w : World) (hr0_0 : Kd.C (Kd.slice 2 (Kd.int .i64)) w A0_0 l0_0.length l0_0) (hc0_0 : l0_0.length ≤ c0_0) (hr0_1 : Kd.C (Kd.slice 2 (Kd.int .i64)) w A0_1 l0_1.length l0_1) (hc0_1 : l0_1.length ≤ c0_1) (hr2 : Kd.C (Kd.int .i64) w A2 l2.length l2) (hc2 : l2.length ≤ c2) (h : impl_Game_gains.f k l0_0 l0_1 a1 l2 = some r) :
  Calls Try.prog 105 #[.agg #[.slice A0_0 l0_0.length c0_0, .slice A0_1 l0_1.length c0_1], .int .i64 a1, .slice A2 l2.length c2] w fun e w' => ∃ v0_ : Value, e = .returned (v0_) ∧ Kd.R (Kd.int .i64) 2 w' w.heap.size (fun _ => True) v0_ r ∧ Below w.heap.size w w' := by
 have hu26 := Try.underlying26
 have HR0_0 := Aside0.mk hr0_0
 have HC0_0 := Aside0.mk hc0_0
 clear hr0_0 hc0_0
 have HR0_1 := Aside0.mk hr0_1
 have HC0_1 := Aside0.mk hc0_1
 clear hr0_1 hc0_1
 have HR2 := Aside0.mk hr2
 have HC2 := Aside0.mk hc2
 clear hr2 hc2
 have HB := Aside0.mk (Below.refl w.heap.size w)
 have H : ((impl_Game_sizes.f l0_0 l0_1).bind fun bt898 => (if a1 = 0 then (if 0 ≤ bt898.1 then (if (bt898.1 : Int).toNat ≤ 35184372088832 then (impl_Game_gains.l0 k l2 (List.replicate (bt898.1 : Int).toNat 0) l0_0 (l0_0.length : Int) 0) else (none)) else (none)) else (if 0 ≤ bt898.2 then (if (bt898.2 : Int).toNat ≤ 35184372088832 then (impl_Game_gains.l1 k l2 (List.replicate (bt898.2 : Int).toNat 0) l0_1 (l0_1.length : Int) 0) else (none)) else (none)))) = some r := h
 clear h
 replace H := Option.bind_eq_some_iff.mp H
 obtain ⟨⟨t898, t899⟩, A40, H⟩ := H
 replace H : (if a1 = 0 then (if 0 ≤ t898 then (if (t898 : Int).toNat ≤ 35184372088832 then (impl_Game_gains.l0 k l2 (List.replicate (t898 : Int).toNat 0) l0_0 (l0_0.length : Int) 0) else (none)) else (none)) else (if 0 ≤ t899 then (if (t899 : Int).toNat ≤ 35184372088832 then (impl_Game_gains.l1 k l2 (List.replicate (t899 : Int).toNat 0) l0_1 (l0_1.length : Int) 0) else (none)) else (none))) = some r := H
 have A4 := Aside0.mk A40
 clear A40
 by_cases c5 : a1 = 0
 ·rw [if_pos c5] at H
  have c5b0 : (a1 == 0) = true := beq_iff_eq.mpr c5
  have c5b1 : (a1 != 0) = false := bne_eq_false_iff_eq.mpr c5
  clear c5
  by_cases c6 : 0 ≤ t898
  ·rw [if_pos c6] at H
   have c6b0 := eq_true c6
   have c6b1 : decide (0 ≤ t898) = true := decide_eq_true c6
   clear c6
   by_cases c7 : (t898 : Int).toNat ≤ 35184372088832
   ·rw [if_pos c7] at H
    have c7b0 := eq_true c7
    have c7b1 : decide ((t898 : Int).toNat ≤ 35184372088832) = true := decide_eq_true c7
    clear c7
    obtain ⟨y900, hy900⟩ : ∃ y_ : List Int, y_ = (List.replicate (t898 : Int).toNat 0) := ⟨_, rfl⟩
    replace H : (impl_Game_gains.l0 k l2 y900 l0_0 (l0_0.length : Int) 0) = some r := by first | (rw [hy900]; with_reducible exact H) | (have H2_ := (Option.bind_some _ _).symm.trans H; rw [hy900]; with_reducible exact H2_) | (have H2_ := (Option.bind_some _ _).symm.trans H; with_reducible exact H2_) | with_reducible exact H | (rw [hy900]; exact H) | exact H
    have Ny900 := Aside0.mk hy900
    clear hy900
    have H' := Aside0.mk H
    clear H
    go_enter Try.func105, Try.ntmps105
    go_wp2_with (first | ((with_reducible refine gate_dst (N := 3) rfl ?_); refine box_event ?hg (N := 3) ?hd (cs := #[.slice A0_0 l0_0.length c0_0, .slice A0_1 l0_1.length c0_1]) (t := 26) ?hr ?_; (case hd => rfl); (case hg => rfl); (case hr => first | (go_simp; done) | (go_simp; rfl)); intro gb897 hg w8 hbox hb; have n0_ := Aside0.mk (below_step (by repeat (first | (with_reducible first | exact HB.out | apply below_alloc | apply pw_below_drewN | apply below_drew1) | exact HB.out)) hb); have n1_ := Aside0.mk (hbox); have n2_ := Aside0.mk ((by rw [hg]; exact (below_size (by repeat (first | (with_reducible first | exact HB.out | apply below_alloc | apply pw_below_drewN | apply below_drew1) | exact HB.out))) : w.heap.size ≤ gb897)); have n3_ := Aside0.mk ((by rw [hg]; exact (below_size (by repeat (first | (with_reducible first | exact HB.out | apply below_alloc | apply pw_below_drewN | apply below_drew1) | exact HB.out))) : w.heap.size ≤ gb897)); clear HB; have HB := n0_; have BK897 := n1_; have GW897 := n2_; have GE897 := n3_; clear n0_ n1_ n2_ n3_; clear hb hbox hg; have hcz9_0 : w8.cell? ⟨gb897, 0, none⟩ = some (.slice A0_0 l0_0.length c0_0) := (blk_cell BK897.out 0).trans rfl; have hcz9_1 : w8.cell? ⟨gb897, 1, none⟩ = some (.slice A0_1 l0_1.length c0_1) := (blk_cell BK897.out 1).trans rfl; have hfz9_0 := blk_frozen BK897.out 0; have hfz9_1 := blk_frozen BK897.out 1) | ((with_reducible refine gate_callee (f := 80) rfl ?_); refine goesL_ (some 19) rfl rfl Try.func80 (by kernel_rfl) rfl #[.agg #[.slice A0_0 l0_0.length c0_0, .slice A0_1 l0_1.length c0_1]] rfl (by (try simp only [List.map_toArray, List.map_cons, List.map_nil]); first | done | rfl | (simp only [List.length_drop, List.length_take]; rfl)) ?_; (with_reducible refine (impl_Game_sizes.calls _ _ l0_0 _ _ l0_1 t898 t899 _ ?side1 ?side2 ?side3 ?side4 A4.out).mono ?_); (case side1 => repeat (first | exact (Kd.C_below HR0_0.out HB.out) | (with_reducible refine Kd.C_alloc ?_ _) | (with_reducible refine Kd.C_drewN ?_ _) | (with_reducible refine Kd.C_drew ?_))); (case side2 => exact HC0_0.out); (case side3 => repeat (first | exact (Kd.C_below HR0_1.out HB.out) | (with_reducible refine Kd.C_alloc ?_ _) | (with_reducible refine Kd.C_drewN ?_ _) | (with_reducible refine Kd.C_drew ?_))); (case side4 => exact HC0_1.out); rintro e w10 ⟨rfl, hb⟩; refine ⟨_, rfl, ?_⟩; have n0_ := Aside0.mk (blk_below (g := gb897) (o := .cells #[.slice A0_0 l0_0.length c0_0, .slice A0_1 l0_1.length c0_1] 26 (0, 0)) (by (with_reducible repeat (first | refine blk_drewN ?_ _ | refine blk_drew ?_ | refine blk_alloc ?_ _)); exact BK897.out) hb); have n1_ := Aside0.mk (below_step (by repeat (first | (with_reducible first | exact HB.out | apply below_alloc | apply pw_below_drewN | apply below_drew1 | refine below_set ?_ GE897.out) | exact HB.out)) hb); clear BK897; clear HB; have BK897 := n0_; have HB := n1_; clear n0_ n1_; (try clear hb); (try clear hb2); (try clear hk); (try clear hi)) | ((with_reducible refine gate_dst (N := 25) rfl ?_); refine Kd.R_make (Kd.int .i64) _ 2 rfl (N := 25) rfl 33 _ _ rfl t898 rfl rfl Try.underlying33 (.int .i64 0) 8 info2 rfl (by decide) (by omega) 0 (ok := fun _ => True) (okp := fun _ => True) rfl (fun _ hk => hk) trivial (of_decide_eq_true (by first | (with_reducible assumption) | assumption)) (Nat.le_trans (Nat.mul_le_mul_right _ (of_decide_eq_true (by first | (with_reducible assumption) | assumption) : t898.toNat ≤ 35184372088832)) (by omega)) (Below.refl _ _) (Nat.le_refl _) ?_; intro v901 w11 ho12 hb hg_ hnew_; clear hg_ hnew_; (first | rw [← Ny900.out] at ho12 | (simp only [Int.reduceToNat] at ho12; rw [← Ny900.out] at ho12)); have n0_ := Aside0.mk (Kd.R_lower ho12 (below_size (by repeat (first | (with_reducible first | exact HB.out | apply below_alloc | apply pw_below_drewN | apply below_drew1 | refine below_set ?_ GE897.out) | exact HB.out)))); have n1_ := Aside0.mk (blk_below (g := gb897) (o := .cells #[.slice A0_0 l0_0.length c0_0, .slice A0_1 l0_1.length c0_1] 26 (0, 0)) (by (with_reducible repeat (first | refine blk_drewN ?_ _ | refine blk_drew ?_ | refine blk_alloc ?_ _)); exact BK897.out) hb); have n2_ := Aside0.mk (below_step (by repeat (first | (with_reducible first | exact HB.out | apply below_alloc | apply pw_below_drewN | apply below_drew1 | refine below_set ?_ GE897.out) | exact HB.out)) hb); clear BK897; clear HB; have HO902 := n0_; have BK897 := n1_; have HB := n2_; clear n0_ n1_ n2_; clear hb ho12; have hcz13_0 : w11.cell? ⟨gb897, 0, none⟩ = some (.slice A0_0 l0_0.length c0_0) := (blk_cell BK897.out 0).trans rfl; have hcz13_1 : w11.cell? ⟨gb897, 1, none⟩ = some (.slice A0_1 l0_1.length c0_1) := (blk_cell BK897.out 1).trans rfl; have hfz13_0 := blk_frozen BK897.out 0; have hfz13_1 := blk_frozen BK897.out 1))
    go_loopg [29] k (fun kq v29 w' => ∃ (x9_1 : List Int) (x29_1 : Int), v29 = .int .i64 x29_1 ∧ Aside0 (impl_Game_gains.l0 kq l2 x9_1 l0_0 (l0_0.length : Int) x29_1 = some r) ∧ Aside0 (kq ≤ k) ∧ Aside0 (Kd.R (Kd.int .i64) 2 w' w.heap.size (fun _ => True) v901 x9_1) ∧ Aside0 (w'.heap[gb897]? = some (.cells #[(.slice A0_0 l0_0.length c0_0), (.slice A0_1 l0_1.length c0_1)] 26 (0, 0))) ∧ Aside0 (Below w.heap.size w w'))
    case atStart => exact ⟨(y900), (0), (by first | rfl | (simp; done) | (simp [*]; done)), H', ⟨Nat.le_refl _⟩, ⟨by (with_reducible repeat (first | apply Kd.R_alloc | apply Kd.R_drewN | apply Kd.R_drew)); exact HO902.out⟩, ⟨by (with_reducible repeat (first | refine blk_drewN ?_ _ | refine blk_drew ?_ | refine blk_alloc ?_ _)); exact BK897.out⟩, ⟨by repeat (first | (with_reducible first | exact HB.out | apply below_alloc | apply pw_below_drewN | apply below_drew1 | refine below_set ?_ GE897.out) | exact HB.out)⟩⟩
    case round =>
     clear H'
     try clear c1
     try clear c2
     try clear p2
     try clear c5
     try clear c5b0
     try clear c5b1
     try clear c6
     try clear c6b0
     try clear c6b1
     try clear c7
     try clear c7b0
     try clear c7b1
     try clear c8
     try clear c10
     try clear hcz13_0
     try clear hcz13_1
     try clear hcz9_0
     try clear hcz9_1
     try clear hfz13_0
     try clear hfz13_1
     try clear hfz9_0
     try clear hfz9_1
     obtain ⟨x9_1, x29_1, rfl, HA, HK1, HO_9, BK897, HB⟩ := hrel
     cases gk with
     | zero => exact absurd HA.out (by simp [impl_Game_gains.l0])
     | succ k1 =>
      have H := HA.out
      clear HA
      simp only [impl_Game_gains.l0] at H
      by_cases c14 : x29_1 < (l0_0.length : Int)
      ·rw [if_pos c14] at H
       have c14b0 : decide (x29_1 < (l0_0.length : Int)) = true := decide_eq_true c14
       clear c14
       by_cases c15 : 0 ≤ x29_1
       ·rw [if_pos c15] at H
        have c15b0 : decide (0 ≤ x29_1) = true := decide_eq_true c15
        clear c15
        by_cases c16 : x29_1 < (l0_0.length : Int)
        ·rw [if_pos c16] at H
         have c16b0 : decide (x29_1 < (l0_0.length : Int)) = true := decide_eq_true c16
         clear c16
         replace H := Option.bind_eq_some_iff.mp H
         obtain ⟨t904, A170, H⟩ := H
         replace H : (if x29_1 < (x9_1.length : Int) then (impl_Game_gains.l0 k1 l2 (x9_1.set (x29_1 : Int).toNat t904) l0_0 (l0_0.length : Int) (wrap64 (x29_1 + 1))) else (none)) = some r := H
         have A17 := Aside0.mk A170
         clear A170
         by_cases c18 : x29_1 < (x9_1.length : Int)
         ·rw [if_pos c18] at H
          have c18b0 : decide (x29_1 < (x9_1.length : Int)) = true := decide_eq_true c18
          clear c18
          obtain ⟨y905, hy905⟩ : ∃ y_ : List Int, y_ = (x9_1.set (x29_1 : Int).toNat t904) := ⟨_, rfl⟩
          replace H : (impl_Game_gains.l0 k1 l2 y905 l0_0 (l0_0.length : Int) (wrap64 (x29_1 + 1))) = some r := by first | (rw [hy905]; with_reducible exact H) | (have H2_ := (Option.bind_some _ _).symm.trans H; rw [hy905]; with_reducible exact H2_) | (have H2_ := (Option.bind_some _ _).symm.trans H; with_reducible exact H2_) | with_reducible exact H | (rw [hy905]; exact H) | exact H
          have Ny905 := Aside0.mk hy905
          clear hy905
          have H' := Aside0.mk H
          clear H
          have p903 : 0 ≤ (x29_1 : Int) := of_decide_eq_true (by first | (with_reducible assumption) | assumption)
          have q903 : x29_1 < (l0_0.length : Int) := of_decide_eq_true (by first | (with_reducible assumption) | assumption)
          obtain ⟨ad903, A903_0, c903_0, e903, hx903_0, hl903_0, hi903_0⟩ := at_L1 HR0_0.out x29_1 p903 q903
          cases e903
          replace hx903_0 := (HB.out.cell (World.block_lt_of_cell? w _ hx903_0)).trans hx903_0
          have HR903_0 := Aside0.mk hi903_0
          have HC903_0 := Aside0.mk hl903_0
          clear hi903_0 hl903_0
          replace p903 := eq_true p903
          replace q903 := eq_true q903
          go_wp2_with (first | ((with_reducible refine gate_callee (f := 140) rfl ?_); refine goesL_ (some 38) rfl rfl Try.func140 (by kernel_rfl) rfl #[.slice A903_0 (rd_L1 l0_0 x29_1).length c903_0, .slice A2 l2.length c2] rfl (by (try simp only [List.map_toArray, List.map_cons, List.map_nil]); first | done | rfl | (simp only [List.length_drop, List.length_take]; rfl)) ?_; (with_reducible refine (impl_sum.calls k1 _ _ (rd_L1 l0_0 x29_1) _ _ l2 t904 _ ?side1 ?side2 ?side3 ?side4 A17.out).mono ?_); (case side1 => repeat (first | exact (Kd.C_below HR903_0.out HB.out) | (with_reducible refine Kd.C_alloc ?_ _) | (with_reducible refine Kd.C_drewN ?_ _) | (with_reducible refine Kd.C_drew ?_))); (case side2 => exact HC903_0.out); (case side3 => repeat (first | exact (Kd.C_below HR2.out HB.out) | (with_reducible refine Kd.C_alloc ?_ _) | (with_reducible refine Kd.C_drewN ?_ _) | (with_reducible refine Kd.C_drew ?_))); (case side4 => exact HC2.out); rintro e w' ⟨rfl, ⟨nd, rfl⟩⟩; refine ⟨_, rfl, ?_⟩; (try (rw [drewN_self wr]; generalize hq_ : World.drewN wr _ = wr; have n0_ : Aside0 (Kd.R (Kd.int .i64) 2 wr w.heap.size (fun _ => True) v901 x9_1) := ⟨by rw [← hq_]; exact (by (with_reducible repeat (first | apply Kd.R_alloc | apply Kd.R_drewN | apply Kd.R_drew)); exact HO_9.out)⟩; have n1_ : Aside0 (wr.heap[gb897]? = some (.cells #[.slice (some ad903) l0_0.length c0_0, .slice A0_1 l0_1.length c0_1] 26 (0, 0))) := ⟨by rw [← hq_]; exact (by (with_reducible repeat (first | refine blk_drewN ?_ _ | refine blk_drew ?_ | refine blk_alloc ?_ _)); exact BK897.out)⟩; have n2_ : Aside0 (Below w.heap.size w wr) := ⟨by rw [← hq_]; exact (by repeat (first | (with_reducible first | exact HB.out | apply below_alloc | apply pw_below_drewN | apply below_drew1 | refine below_set ?_ GE897.out) | exact HB.out))⟩; clear HO_9 BK897 HB hq_; have HO_9 := n0_; have BK897 := n1_; have HB := n2_; clear n0_ n1_ n2_)); have p19 : 0 ≤ (x29_1 : Int) := of_decide_eq_true (by first | (with_reducible assumption) | assumption); have q19 : (x29_1 : Int) < ((x9_1.length : Int) : Int) := of_decide_eq_true (by first | (with_reducible assumption) | assumption); obtain ⟨go19, co19, eo19, gb19, gl19, cl19, HG19⟩ := Kd.R_form HO_9.out (by omega); (first | cases eo19 | (injection eo19 with ea_ en_ ec_; (first | subst ea_ | (injection ea_ with ea_; subst ea_)); subst ec_; clear en_)); have GB19 := Aside0.mk gb19; have GG19 := Aside0.mk HG19; clear gb19 gl19 HG19; obtain ⟨hx19_0, hf19_0⟩ := Kd.R_celln 0 HO_9.out (x29_1 : Int) p19 q19; replace p19 := eq_true p19; replace q19 := eq_true q19; obtain ⟨hy20_, hz20_⟩ := Kd.R_celln 0 HO_9.out (x29_1 : Int) (of_decide_eq_true (by first | (with_reducible assumption) | assumption)) (of_decide_eq_true (by first | (with_reducible assumption) | assumption)); have HP20 := Kd.R_putg HO_9.out (x29_1 : Int) t904) | ((with_reducible refine gate_store (t := 2) (p := 39) rfl ?_); refine store_event (t := 2) (p := 39) (v := ?vo_w21) (w1 := (wr.setCell ⟨go19, (x29_1 : Int).toNat, none⟩ (.int .i64 t904))) ?hg ?ho ?hn ?hr ?_; (case ho => rfl); (case hg => rfl); (case hn => rfl); (case hr => first | (go_simp; done) | (go_simp; rfl)); intro w21 hw; have hg : wr.grownBy w21 (some go19) := (by rw [hw]; exact HP20.2); have hp_ : Kd.R (Kd.int .i64) 2 w21 w.heap.size (fun _ => True) (.slice (some ⟨go19, 0, none⟩) x9_1.length co19) y905 := (by rw [hw, Ny905.out]; exact HP20.1); clear HP20; have n0_ := Aside0.mk (hp_); have n1_ := Aside0.mk (blk_grown (g := gb897) (o := .cells #[.slice (some ad903) l0_0.length c0_0, .slice A0_1 l0_1.length c0_1] 26 (0, 0)) (by (with_reducible repeat (first | refine blk_drewN ?_ _ | refine blk_drew ?_ | refine blk_alloc ?_ _)); exact BK897.out) hg (Kd.R_ne HO_9.out BK897.out (by decide))); have n2_ := Aside0.mk ((by rw [hw]; exact below_set (HB.out) GB19.out : Below w.heap.size w w21)); clear HO_9; clear BK897; clear HB; have HO_9 := n0_; have BK897 := n1_; have HB := n2_; clear n0_ n1_ n2_; clear hg hw hp_))
          go_roundg k1
          case measure => have := HK1.out; omega
          case rel => exact ⟨(y905), (wrap64 (x29_1 + 1)), (by first | rfl | (simp; done) | (simp [*]; done)), H', ⟨by have := HK1.out; omega⟩, ⟨by (with_reducible repeat (first | apply Kd.R_alloc | apply Kd.R_drewN | apply Kd.R_drew)); exact HO_9.out⟩, ⟨by (with_reducible repeat (first | refine blk_drewN ?_ _ | refine blk_drew ?_ | refine blk_alloc ?_ _)); exact BK897.out⟩, ⟨by repeat (first | (with_reducible first | exact HB.out | apply below_alloc | apply pw_below_drewN | apply below_drew1 | refine below_set ?_ GE897.out) | exact HB.out)⟩⟩
         ·rw [if_neg c18] at H
          exact absurd H (by simp)
        ·rw [if_neg c16] at H
         exact absurd H (by simp)
       ·rw [if_neg c15] at H
        exact absurd H (by simp)
      ·rw [if_neg c14] at H
       have c14b0 : decide (x29_1 < (l0_0.length : Int)) = false := decide_eq_false c14
       clear c14
       obtain rfl := Option.some.inj H
       go_wp2
       go_ret
       exact ⟨_, by first | rfl | (simp [errW_none, errW_some] <;> rfl) | (simp [*, errW_none, errW_some] <;> rfl), by (with_reducible repeat (first | apply Kd.R_alloc | apply Kd.R_drewN | apply Kd.R_drew)); exact HO_9.out, by repeat (first | (with_reducible first | exact HB.out | apply below_alloc | apply pw_below_drewN | apply below_drew1 | refine below_set ?_ GE897.out) | exact HB.out)⟩
   ·rw [if_neg c7] at H
    exact absurd H (by simp)
  ·rw [if_neg c6] at H
   exact absurd H (by simp)
 ·rw [if_neg c5] at H
  have c5b0 : (a1 == 0) = false := beq_eq_false_iff_ne.mpr c5
  have c5b1 : (a1 != 0) = true := bne_iff_ne.mpr c5
  by_cases c22 : 0 ≤ t899
  ·rw [if_pos c22] at H
   have c22b0 := eq_true c22
   have c22b1 : decide (0 ≤ t899) = true := decide_eq_true c22
   clear c22
   by_cases c23 : (t899 : Int).toNat ≤ 35184372088832
   ·rw [if_pos c23] at H
    have c23b0 := eq_true c23
    have c23b1 : decide ((t899 : Int).toNat ≤ 35184372088832) = true := decide_eq_true c23
    clear c23
    obtain ⟨y906, hy906⟩ : ∃ y_ : List Int, y_ = (List.replicate (t899 : Int).toNat 0) := ⟨_, rfl⟩
    replace H : (impl_Game_gains.l1 k l2 y906 l0_1 (l0_1.length : Int) 0) = some r := by first | (rw [hy906]; with_reducible exact H) | (have H2_ := (Option.bind_some _ _).symm.trans H; rw [hy906]; with_reducible exact H2_) | (have H2_ := (Option.bind_some _ _).symm.trans H; with_reducible exact H2_) | with_reducible exact H | (rw [hy906]; exact H) | exact H
    have Ny906 := Aside0.mk hy906
    clear hy906
    have H' := Aside0.mk H
    clear H
    go_enter Try.func105, Try.ntmps105
    go_wp2_with (first | ((with_reducible refine gate_dst (N := 3) rfl ?_); refine box_event ?hg (N := 3) ?hd (cs := #[.slice A0_0 l0_0.length c0_0, .slice A0_1 l0_1.length c0_1]) (t := 26) ?hr ?_; (case hd => rfl); (case hg => rfl); (case hr => first | (go_simp; done) | (go_simp; rfl)); intro gb897 hg w24 hbox hb; have n0_ := Aside0.mk (below_step (by repeat (first | (with_reducible first | exact HB.out | apply below_alloc | apply pw_below_drewN | apply below_drew1) | exact HB.out)) hb); have n1_ := Aside0.mk (hbox); have n2_ := Aside0.mk ((by rw [hg]; exact (below_size (by repeat (first | (with_reducible first | exact HB.out | apply below_alloc | apply pw_below_drewN | apply below_drew1) | exact HB.out))) : w.heap.size ≤ gb897)); have n3_ := Aside0.mk ((by rw [hg]; exact (below_size (by repeat (first | (with_reducible first | exact HB.out | apply below_alloc | apply pw_below_drewN | apply below_drew1) | exact HB.out))) : w.heap.size ≤ gb897)); clear HB; have HB := n0_; have BK897 := n1_; have GW897 := n2_; have GE897 := n3_; clear n0_ n1_ n2_ n3_; clear hb hbox hg; have hcz25_0 : w24.cell? ⟨gb897, 0, none⟩ = some (.slice A0_0 l0_0.length c0_0) := (blk_cell BK897.out 0).trans rfl; have hcz25_1 : w24.cell? ⟨gb897, 1, none⟩ = some (.slice A0_1 l0_1.length c0_1) := (blk_cell BK897.out 1).trans rfl; have hfz25_0 := blk_frozen BK897.out 0; have hfz25_1 := blk_frozen BK897.out 1) | ((with_reducible refine gate_callee (f := 80) rfl ?_); refine goesL_ (some 19) rfl rfl Try.func80 (by kernel_rfl) rfl #[.agg #[.slice A0_0 l0_0.length c0_0, .slice A0_1 l0_1.length c0_1]] rfl (by (try simp only [List.map_toArray, List.map_cons, List.map_nil]); first | done | rfl | (simp only [List.length_drop, List.length_take]; rfl)) ?_; (with_reducible refine (impl_Game_sizes.calls _ _ l0_0 _ _ l0_1 t898 t899 _ ?side1 ?side2 ?side3 ?side4 A4.out).mono ?_); (case side1 => repeat (first | exact (Kd.C_below HR0_0.out HB.out) | (with_reducible refine Kd.C_alloc ?_ _) | (with_reducible refine Kd.C_drewN ?_ _) | (with_reducible refine Kd.C_drew ?_))); (case side2 => exact HC0_0.out); (case side3 => repeat (first | exact (Kd.C_below HR0_1.out HB.out) | (with_reducible refine Kd.C_alloc ?_ _) | (with_reducible refine Kd.C_drewN ?_ _) | (with_reducible refine Kd.C_drew ?_))); (case side4 => exact HC0_1.out); rintro e w26 ⟨rfl, hb⟩; refine ⟨_, rfl, ?_⟩; have n0_ := Aside0.mk (blk_below (g := gb897) (o := .cells #[.slice A0_0 l0_0.length c0_0, .slice A0_1 l0_1.length c0_1] 26 (0, 0)) (by (with_reducible repeat (first | refine blk_drewN ?_ _ | refine blk_drew ?_ | refine blk_alloc ?_ _)); exact BK897.out) hb); have n1_ := Aside0.mk (below_step (by repeat (first | (with_reducible first | exact HB.out | apply below_alloc | apply pw_below_drewN | apply below_drew1 | refine below_set ?_ GE897.out) | exact HB.out)) hb); clear BK897; clear HB; have BK897 := n0_; have HB := n1_; clear n0_ n1_; (try clear hb); (try clear hb2); (try clear hk); (try clear hi)) | ((with_reducible refine gate_dst (N := 43) rfl ?_); refine Kd.R_make (Kd.int .i64) _ 2 rfl (N := 43) rfl 33 _ _ rfl t899 rfl rfl Try.underlying33 (.int .i64 0) 8 info2 rfl (by decide) (by omega) 0 (ok := fun _ => True) (okp := fun _ => True) rfl (fun _ hk => hk) trivial (of_decide_eq_true (by first | (with_reducible assumption) | assumption)) (Nat.le_trans (Nat.mul_le_mul_right _ (of_decide_eq_true (by first | (with_reducible assumption) | assumption) : t899.toNat ≤ 35184372088832)) (by omega)) (Below.refl _ _) (Nat.le_refl _) ?_; intro v907 w27 ho28 hb hg_ hnew_; clear hg_ hnew_; (first | rw [← Ny906.out] at ho28 | (simp only [Int.reduceToNat] at ho28; rw [← Ny906.out] at ho28)); have n0_ := Aside0.mk (Kd.R_lower ho28 (below_size (by repeat (first | (with_reducible first | exact HB.out | apply below_alloc | apply pw_below_drewN | apply below_drew1 | refine below_set ?_ GE897.out) | exact HB.out)))); have n1_ := Aside0.mk (blk_below (g := gb897) (o := .cells #[.slice A0_0 l0_0.length c0_0, .slice A0_1 l0_1.length c0_1] 26 (0, 0)) (by (with_reducible repeat (first | refine blk_drewN ?_ _ | refine blk_drew ?_ | refine blk_alloc ?_ _)); exact BK897.out) hb); have n2_ := Aside0.mk (below_step (by repeat (first | (with_reducible first | exact HB.out | apply below_alloc | apply pw_below_drewN | apply below_drew1 | refine below_set ?_ GE897.out) | exact HB.out)) hb); clear BK897; clear HB; have HO908 := n0_; have BK897 := n1_; have HB := n2_; clear n0_ n1_ n2_; clear hb ho28; have hcz29_0 : w27.cell? ⟨gb897, 0, none⟩ = some (.slice A0_0 l0_0.length c0_0) := (blk_cell BK897.out 0).trans rfl; have hcz29_1 : w27.cell? ⟨gb897, 1, none⟩ = some (.slice A0_1 l0_1.length c0_1) := (blk_cell BK897.out 1).trans rfl; have hfz29_0 := blk_frozen BK897.out 0; have hfz29_1 := blk_frozen BK897.out 1))
    go_loopg [47] k (fun kq v47 w' => ∃ (x12_1 : List Int) (x47_1 : Int), v47 = .int .i64 x47_1 ∧ Aside0 (impl_Game_gains.l1 kq l2 x12_1 l0_1 (l0_1.length : Int) x47_1 = some r) ∧ Aside0 (kq ≤ k) ∧ Aside0 (Kd.R (Kd.int .i64) 2 w' w.heap.size (fun _ => True) v907 x12_1) ∧ Aside0 (w'.heap[gb897]? = some (.cells #[(.slice A0_0 l0_0.length c0_0), (.slice A0_1 l0_1.length c0_1)] 26 (0, 0))) ∧ Aside0 (Below w.heap.size w w'))
    case atStart => exact ⟨(y906), (0), (by first | rfl | (simp; done) | (simp [*]; done)), H', ⟨Nat.le_refl _⟩, ⟨by (with_reducible repeat (first | apply Kd.R_alloc | apply Kd.R_drewN | apply Kd.R_drew)); exact HO908.out⟩, ⟨by (with_reducible repeat (first | refine blk_drewN ?_ _ | refine blk_drew ?_ | refine blk_alloc ?_ _)); exact BK897.out⟩, ⟨by repeat (first | (with_reducible first | exact HB.out | apply below_alloc | apply pw_below_drewN | apply below_drew1 | refine below_set ?_ GE897.out) | exact HB.out)⟩⟩
    case round =>
     clear H'
     try clear c1
     try clear p1
     try clear q1
     try clear hx1
     try clear c2
     try clear p2
     try clear c5
     try clear c5b0
     try clear c5b1
     try clear c6
     try clear c6b0
     try clear c6b1
     try clear p6
     try clear c7
     try clear c7b0
     try clear c7b1
     try clear c8
     try clear c9
     try clear p9
     try clear q9
     try clear hx9
     try clear c10
     try clear c14
     try clear c14b0
     try clear c15
     try clear c15b0
     try clear c16
     try clear c16b0
     try clear c18
     try clear c18b0
     try clear p19
     try clear q19
     try clear hx19
     try clear hf19
     try clear c22
     try clear c22b0
     try clear c22b1
     try clear c23
     try clear c23b0
     try clear c23b1
     try clear hcz13_0
     try clear hcz13_1
     try clear hcz25_0
     try clear hcz25_1
     try clear hcz29_0
     try clear hcz29_1
     try clear hcz9_0
     try clear hcz9_1
     try clear hfz13_0
     try clear hfz13_1
     try clear hfz25_0
     try clear hfz25_1
     try clear hfz29_0
     try clear hfz29_1
     try clear hfz9_0
     try clear hfz9_1
     try clear hx19_0
     try clear hx903_0
     try clear p19
     try clear p2
     try clear p903
     try clear q19
     try clear q903
     obtain ⟨x12_1, x47_1, rfl, HA, HK1, HO_12, BK897, HB⟩ := hrel
     cases gk with
     | zero => exact absurd HA.out (by simp [impl_Game_gains.l1])
     | succ k1 =>
      have H := HA.out
      clear HA
      simp only [impl_Game_gains.l1] at H
      by_cases c30 : x47_1 < (l0_1.length : Int)
      ·rw [if_pos c30] at H
       have c30b0 : decide (x47_1 < (l0_1.length : Int)) = true := decide_eq_true c30
       clear c30
       by_cases c31 : 0 ≤ x47_1
       ·rw [if_pos c31] at H
        have c31b0 : decide (0 ≤ x47_1) = true := decide_eq_true c31
        clear c31
        by_cases c32 : x47_1 < (l0_1.length : Int)
        ·rw [if_pos c32] at H
         have c32b0 : decide (x47_1 < (l0_1.length : Int)) = true := decide_eq_true c32
         clear c32
         have H' := Aside0.mk H
         clear H
         have p909 : 0 ≤ (x47_1 : Int) := of_decide_eq_true (by first | (with_reducible assumption) | assumption)
         have q909 : x47_1 < (l0_1.length : Int) := of_decide_eq_true (by first | (with_reducible assumption) | assumption)
         obtain ⟨ad909, A909_0, c909_0, e909, hx909_0, hl909_0, hi909_0⟩ := at_L1 HR0_1.out x47_1 p909 q909
         cases e909
         replace hx909_0 := (HB.out.cell (World.block_lt_of_cell? w _ hx909_0)).trans hx909_0
         have HR909_0 := Aside0.mk hi909_0
         have HC909_0 := Aside0.mk hl909_0
         clear hi909_0 hl909_0
         replace p909 := eq_true p909
         replace q909 := eq_true q909
         go_wp2
         go_loopg [54] k1 (fun kq v54 w' => ∃ (x12_2 : List Int) (x54_2 : Int), v54 = .int .i64 x54_2 ∧ Aside0 (impl_Game_gains.l2 kq l2 x12_2 x47_1 l0_1 (l0_1.length : Int) x47_1 (rd_L1 l0_1 x47_1) ((rd_L1 l0_1 x47_1).length : Int) x54_2 = some r) ∧ Aside0 (kq ≤ k1) ∧ Aside0 (Kd.R (Kd.int .i64) 2 w' w.heap.size (fun _ => True) v907 x12_2) ∧ Aside0 (w'.heap[gb897]? = some (.cells #[(.slice A0_0 l0_0.length c0_0), (.slice (some ad909) l0_1.length c0_1)] 26 (0, 0))) ∧ Aside0 (Below w.heap.size w w'))
         case atStart => exact ⟨(x12_1), (0), (by first | rfl | (simp; done) | (simp [*]; done)), H', ⟨Nat.le_refl _⟩, ⟨by (with_reducible repeat (first | apply Kd.R_alloc | apply Kd.R_drewN | apply Kd.R_drew)); exact HO_12.out⟩, ⟨by (with_reducible repeat (first | refine blk_drewN ?_ _ | refine blk_drew ?_ | refine blk_alloc ?_ _)); exact BK897.out⟩, ⟨by repeat (first | (with_reducible first | exact HB.out | apply below_alloc | apply pw_below_drewN | apply below_drew1 | refine below_set ?_ GE897.out) | exact HB.out)⟩⟩
         case round =>
          clear H'
          try clear c1
          try clear p1
          try clear q1
          try clear hx1
          try clear c2
          try clear p2
          try clear c3
          try clear c5
          try clear c5b0
          try clear c5b1
          try clear c6
          try clear c6b0
          try clear c6b1
          try clear p6
          try clear c7
          try clear c7b0
          try clear c7b1
          try clear c8
          try clear c9
          try clear p9
          try clear q9
          try clear hx9
          try clear c10
          try clear c14
          try clear c14b0
          try clear c15
          try clear c15b0
          try clear c16
          try clear c16b0
          try clear c18
          try clear c18b0
          try clear p19
          try clear q19
          try clear hx19
          try clear hf19
          try clear c22
          try clear c22b0
          try clear c22b1
          try clear c23
          try clear c23b0
          try clear c23b1
          try clear c30
          try clear c30b0
          try clear c31
          try clear c31b0
          try clear c32
          try clear c32b0
          try clear hcz13_0
          try clear hcz13_1
          try clear hcz25_0
          try clear hcz25_1
          try clear hcz29_0
          try clear hcz29_1
          try clear hcz9_0
          try clear hcz9_1
          try clear hfz13_0
          try clear hfz13_1
          try clear hfz25_0
          try clear hfz25_1
          try clear hfz29_0
          try clear hfz29_1
          try clear hfz9_0
          try clear hfz9_1
          try clear hx19_0
          try clear hx903_0
          try clear hx909_0
          try clear p1
          try clear p19
          try clear p2
          try clear p6
          try clear p9
          try clear p903
          try clear p909
          try clear q1
          try clear q19
          try clear q9
          try clear q903
          try clear q909
          obtain ⟨x12_2, x54_2, rfl, HA, HK2, HO_12, BK897, HB⟩ := hrel
          cases gk with
          | zero => exact absurd HA.out (by simp [impl_Game_gains.l2])
          | succ k2 =>
           have H := HA.out
           clear HA
           simp only [impl_Game_gains.l2] at H
           by_cases c33 : x54_2 < ((rd_L1 l0_1 x47_1).length : Int)
           ·rw [if_pos c33] at H
            have c33b0 : decide (x54_2 < ((rd_L1 l0_1 x47_1).length : Int)) = true := decide_eq_true c33
            clear c33
            by_cases c34 : 0 ≤ x54_2
            ·rw [if_pos c34] at H
             have c34b0 : decide (0 ≤ x54_2) = true := decide_eq_true c34
             clear c34
             by_cases c35 : x54_2 < ((rd_L1 l0_1 x47_1).length : Int)
             ·rw [if_pos c35] at H
              have c35b0 : decide (x54_2 < ((rd_L1 l0_1 x47_1).length : Int)) = true := decide_eq_true c35
              clear c35
              by_cases c36 : x54_2 < (x12_2.length : Int)
              ·rw [if_pos c36] at H
               have c36b0 : decide (x54_2 < (x12_2.length : Int)) = true := decide_eq_true c36
               clear c36
               by_cases c37 : 0 ≤ x47_1
               ·rw [if_pos c37] at H
                have c37b0 : decide (0 ≤ x47_1) = true := decide_eq_true c37
                clear c37
                by_cases c38 : x47_1 < (l2.length : Int)
                ·rw [if_pos c38] at H
                 have c38b0 : decide (x47_1 < (l2.length : Int)) = true := decide_eq_true c38
                 clear c38
                 obtain ⟨y913, hy913⟩ : ∃ y_ : List Int, y_ = (x12_2.set (x54_2 : Int).toNat (wrap64 ((rd x12_2 x54_2) + (wrap64 ((rd (rd_L1 l0_1 x47_1) x54_2) * (rd l2 x47_1)))))) := ⟨_, rfl⟩
                 replace H : (impl_Game_gains.l2 k2 l2 y913 x47_1 l0_1 (l0_1.length : Int) x47_1 (rd_L1 l0_1 x47_1) ((rd_L1 l0_1 x47_1).length : Int) (wrap64 (x54_2 + 1))) = some r := by first | (rw [hy913]; with_reducible exact H) | (have H2_ := (Option.bind_some _ _).symm.trans H; rw [hy913]; with_reducible exact H2_) | (have H2_ := (Option.bind_some _ _).symm.trans H; with_reducible exact H2_) | with_reducible exact H | (rw [hy913]; exact H) | exact H
                 have Ny913 := Aside0.mk hy913
                 clear hy913
                 have H' := Aside0.mk H
                 clear H
                 have p910 : 0 ≤ (x54_2 : Int) := of_decide_eq_true (by first | (with_reducible assumption) | assumption)
                 have q910 : x54_2 < ((rd_L1 l0_1 x47_1).length : Int) := of_decide_eq_true (by first | (with_reducible assumption) | assumption)
                 obtain ⟨ad910, e910, hx910_0⟩ := Kd.at_int HR909_0.out x54_2 p910 q910
                 cases e910
                 replace hx910_0 := (HB.out.cell (World.block_lt_of_cell? w _ hx910_0)).trans hx910_0
                 replace p910 := eq_true p910
                 replace q910 := eq_true q910
                 try go_wp2
                 have n0_ := Aside0.mk (Kd.R_drew HO_12.out)
                 have n1_ := Aside0.mk (blk_drew BK897.out)
                 have n2_ := Aside0.mk (below_drew1 HB.out)
                 clear HO_12
                 clear BK897
                 clear HB
                 have HO_12 := n0_
                 have BK897 := n1_
                 have HB := n2_
                 clear n0_ n1_ n2_
                 obtain ⟨Ao41, co41, eo41⟩ := Kd.R_slice HO_12.out
                 (first | subst eo41 | (injection eo41 with f1_ f2_ f3_; have f4_ := f1_.symm; have f5_ := f3_.symm; clear f1_ f2_ f3_; subst f4_; subst f5_))
                 have p911 : 0 ≤ (x54_2 : Int) := of_decide_eq_true (by first | (with_reducible assumption) | assumption)
                 have q911 : x54_2 < (x12_2.length : Int) := of_decide_eq_true (by first | (with_reducible assumption) | assumption)
                 obtain ⟨ad911, e911, hx911_0⟩ := Kd.at_int (Kd.R_reads' HO_12.out).2.2 x54_2 p911 q911
                 cases e911
                 replace p911 := eq_true p911
                 replace q911 := eq_true q911
                 have p912 : 0 ≤ (x47_1 : Int) := of_decide_eq_true (by first | (with_reducible assumption) | assumption)
                 have q912 : x47_1 < (l2.length : Int) := of_decide_eq_true (by first | (with_reducible assumption) | assumption)
                 obtain ⟨ad912, e912, hx912_0⟩ := Kd.at_int HR2.out x47_1 p912 q912
                 have hw912_0 := hx912_0
                 cases e912
                 replace hx912_0 := (HB.out.cell (World.block_lt_of_cell? w _ hx912_0)).trans hx912_0
                 replace p912 := eq_true p912
                 replace q912 := eq_true q912
                 have p39 : 0 ≤ (x54_2 : Int) := of_decide_eq_true (by first | (with_reducible assumption) | assumption)
                 have q39 : (x54_2 : Int) < ((x12_2.length : Int) : Int) := of_decide_eq_true (by first | (with_reducible assumption) | assumption)
                 obtain ⟨go39, co39, eo39, gb39, gl39, cl39, HG39⟩ := Kd.R_form HO_12.out (by omega)
                 (first | cases eo39 | (injection eo39 with ea_ en_ ec_; (first | subst ea_ | (injection ea_ with ea_; subst ea_)); subst ec_; clear en_))
                 have GB39 := Aside0.mk gb39
                 have GG39 := Aside0.mk HG39
                 clear gb39 gl39 HG39
                 (first | simp only [add_plain] at hx911_0 | skip)
                 obtain ⟨hx39_0, hf39_0⟩ := Kd.R_celln 0 HO_12.out (x54_2 : Int) p39 q39
                 replace p39 := eq_true p39
                 replace q39 := eq_true q39
                 have HP42 := Kd.R_putn HO_12.out (x54_2 : Int) (wrap64 ((rd x12_2 x54_2) + (wrap64 ((rd (rd_L1 l0_1 x47_1) x54_2) * (rd l2 x47_1)))))
                 rw [← Ny913.out] at HP42
                 have HQ42 := Aside0.mk HP42
                 clear HP42
                 refine start_ (n := 13) (S := fun w' => w'.cell? ⟨go39, (x54_2).toNat, none⟩ = some (.int .i64 (rd x12_2 x54_2)) ∧ w'.cell? (ad912.add (x47_1).toNat) = some (.int .i64 (rd l2 x47_1))) (ds := [12]) #[false, false, false, false, false, false, false, false, false, false, false, false, false] (by kernel_rfl) rfl rfl ⟨hx911_0, ((HB.out.cell (World.block_lt_of_cell? w _ hw912_0)).trans hw912_0)⟩ (fun hHeld => ?_); refine with_tabW impl_Game_gains.tab17 impl_Game_gains.bits17 (fun HT_ HW_ => ?_)
                 generalize wr.drew = w40 at HO_12 BK897 HB GG39 HQ42 hf39_0 hx39_0 hx911_0 hx912_0 hHeld ⊢
                 refine pure_ (i := 0) (N := some 59) (v := ?_) (a' := ?_) #[true, false, false, false, false, false, false, false, false, false, false, false, false] rfl rfl (any_of HT_.out (by kernel_rfl)) (fun _ _ _ h => h) (Or.inl ⟨by rfl, ?_⟩) ?_ ?_
                 rotate_left
                 ·intro w'
                  go_simp
                  with_reducible rfl
                 rotate_left
                 ·simp only [Act.put, List.setIfInBounds_toArray, List.set_cons_zero, List.set_cons_succ, i64_w, i32_w]
                  rfl
                 refine pure_ (i := 1) (N := some 60) (v := ?_) (a' := ?_) #[true, true, false, false, false, false, false, false, false, false, false, false, false] rfl rfl (any_of HT_.out (by kernel_rfl)) (fun _ _ _ h => h) (Or.inl ⟨by rfl, ?_⟩) ?_ ?_
                 rotate_left
                 ·intro w'
                  go_simp
                  with_reducible rfl
                 rotate_left
                 ·simp only [Act.put, List.setIfInBounds_toArray, List.set_cons_zero, List.set_cons_succ, i64_w, i32_w]
                  rfl
                 refine pure_ (i := 2) (N := some 61) (v := ?_) (a' := ?_) #[true, true, true, false, false, false, false, false, false, false, false, false, false] rfl rfl (any_of HT_.out (by kernel_rfl)) (fun _ _ _ h => h) (Or.inl ⟨by rfl, ?_⟩) ?_ ?_
                 rotate_left
                 ·intro w'
                  go_simp
                  with_reducible rfl
                 rotate_left
                 ·simp only [Act.put, List.setIfInBounds_toArray, List.set_cons_zero, List.set_cons_succ, i64_w, i32_w]
                  rfl
                 refine pure_ (i := 4) (N := some 63) (v := ?_) (a' := ?_) #[true, true, true, false, true, false, false, false, false, false, false, false, false] rfl rfl (any_of HT_.out (by kernel_rfl)) (fun _ _ _ h => h) (Or.inl ⟨by rfl, ?_⟩) ?_ ?_
                 rotate_left
                 ·intro w'
                  go_simp
                  with_reducible rfl
                 rotate_left
                 ·simp only [Act.put, List.setIfInBounds_toArray, List.set_cons_zero, List.set_cons_succ, i64_w, i32_w]
                  rfl
                 refine pure_ (i := 5) (N := some 64) (v := ?_) (a' := ?_) #[true, true, true, false, true, true, false, false, false, false, false, false, false] rfl rfl (any_of HT_.out (by kernel_rfl)) (fun _ _ _ h => h) (Or.inl ⟨by rfl, ?_⟩) ?_ ?_
                 rotate_left
                 ·intro w'
                  go_simp
                  with_reducible rfl
                 rotate_left
                 ·simp only [Act.put, List.setIfInBounds_toArray, List.set_cons_zero, List.set_cons_succ, i64_w, i32_w]
                  rfl
                 refine pure_ (i := 6) (N := some 65) (v := ?_) (a' := ?_) #[true, true, true, false, true, true, true, false, false, false, false, false, false] rfl rfl (any_of HT_.out (by kernel_rfl)) (fun _ _ _ h => h) (Or.inl ⟨by rfl, ?_⟩) ?_ ?_
                 rotate_left
                 ·intro w'
                  go_simp
                  with_reducible rfl
                 rotate_left
                 ·simp only [Act.put, List.setIfInBounds_toArray, List.set_cons_zero, List.set_cons_succ, i64_w, i32_w]
                  rfl
                 refine pure_ (i := 7) (N := some 66) (v := ?_) (a' := ?_) #[true, true, true, false, true, true, true, true, false, false, false, false, false] rfl rfl (any_of HT_.out (by kernel_rfl)) (fun _ _ _ h => h) (Or.inl ⟨by rfl, ?_⟩) ?_ ?_
                 rotate_left
                 ·intro w'
                  go_simp
                  with_reducible rfl
                 rotate_left
                 ·simp only [Act.put, List.setIfInBounds_toArray, List.set_cons_zero, List.set_cons_succ, i64_w, i32_w]
                  rfl
                 refine take_ (i := 3) (N := some 62) (v := ?_) (a' := ?_) #[true, true, true, true, true, true, true, true, false, false, false, false, false] rfl rfl (take_ofW HT_.out HW_.out (by kernel_rfl)) (fun _ _ _ h => h) (Or.inl ⟨by rfl, ?_⟩) hHeld ?_ ?_
                 rotate_left
                 ·rintro w' ⟨s0, s1⟩
                  go_simp
                  with_reducible rfl
                 rotate_left
                 ·simp only [Act.put, List.setIfInBounds_toArray, List.set_cons_zero, List.set_cons_succ, i64_w, i32_w]
                  rfl
                 refine take_ (i := 8) (N := some 67) (v := ?_) (a' := ?_) #[true, true, true, true, true, true, true, true, true, false, false, false, false] rfl rfl (take_ofW HT_.out HW_.out (by kernel_rfl)) (fun _ _ _ h => h) (Or.inl ⟨by rfl, ?_⟩) hHeld ?_ ?_
                 rotate_left
                 ·rintro w' ⟨s0, s1⟩
                  go_simp
                  with_reducible rfl
                 rotate_left
                 ·simp only [Act.put, List.setIfInBounds_toArray, List.set_cons_zero, List.set_cons_succ, i64_w, i32_w]
                  rfl
                 refine pure_ (i := 9) (N := some 68) (v := ?_) (a' := ?_) #[true, true, true, true, true, true, true, true, true, true, false, false, false] rfl rfl (any_of HT_.out (by kernel_rfl)) (fun _ _ _ h => h) (Or.inl ⟨by rfl, ?_⟩) ?_ ?_
                 rotate_left
                 ·intro w'
                  go_simp
                  with_reducible rfl
                 rotate_left
                 ·simp only [Act.put, List.setIfInBounds_toArray, List.set_cons_zero, List.set_cons_succ, i64_w, i32_w]
                  rfl
                 refine pure_ (i := 10) (N := some 69) (v := ?_) (a' := ?_) #[true, true, true, true, true, true, true, true, true, true, true, false, false] rfl rfl (any_of HT_.out (by kernel_rfl)) (fun _ _ _ h => h) (Or.inl ⟨by rfl, ?_⟩) ?_ ?_
                 rotate_left
                 ·intro w'
                  go_simp
                  with_reducible rfl
                 rotate_left
                 ·simp only [Act.put, List.setIfInBounds_toArray, List.set_cons_zero, List.set_cons_succ, i64_w, i32_w]
                  rfl
                 refine pure_ (i := 11) (N := some 70) (v := ?_) (a' := ?_) #[true, true, true, true, true, true, true, true, true, true, true, true, false] rfl rfl (any_of HT_.out (by kernel_rfl)) (fun _ _ _ h => h) (Or.inl ⟨by rfl, ?_⟩) ?_ ?_
                 rotate_left
                 ·intro w'
                  go_simp
                  with_reducible rfl
                 rotate_left
                 ·simp only [Act.put, List.setIfInBounds_toArray, List.set_cons_zero, List.set_cons_succ, i64_w, i32_w]
                  rfl
                 refine last_ (i := 12) (N := none) #[true, true, true, true, true, true, true, true, true, true, true, true, true] rfl rfl (one_of HT_.out (by kernel_rfl)) (by decide) (fun K hK => ?_)
                 refine skip_ (w1 := ?_) (by rfl) rfl ?_ ?_
                 rotate_left
                 ·go_simp
                  rfl
                 refine hK.out _ _ ?_
                 clear hK K
                 refine done_ (done_of HT_.out (by kernel_rfl)) ?_
                 try go_wp2
                 go_roundg k2
                 case measure => have := HK1.out; have := HK2.out; omega
                 case rel => exact ⟨(y913), (wrap64 (x54_2 + 1)), (by first | rfl | (simp; done) | (simp [*]; done)), H', ⟨by have := HK1.out; have := HK2.out; omega⟩, ⟨by (with_reducible repeat (first | apply Kd.R_alloc | apply Kd.R_drewN | apply Kd.R_drew)); exact HQ42.out⟩, ⟨by (with_reducible repeat (first | refine blk_drewN ?_ _ | refine blk_drew ?_ | refine blk_alloc ?_ _)); refine blk_far ?_ (by have h_ := Kd.R_ne HO_12.out BK897.out (by decide); intro e_; exact h_ (by rw [e_]; rfl)) _; (with_reducible repeat (first | refine blk_drewN ?_ _ | refine blk_drew ?_ | refine blk_alloc ?_ _)); exact BK897.out⟩, ⟨by repeat (first | (with_reducible first | exact HB.out | apply below_alloc | apply pw_below_drewN | apply below_drew1 | refine below_set ?_ GB39.out | refine below_set ?_ GE897.out) | exact HB.out)⟩⟩
                ·rw [if_neg c38] at H
                 exact absurd H (by simp)
               ·rw [if_neg c37] at H
                exact absurd H (by simp)
              ·rw [if_neg c36] at H
               exact absurd H (by simp)
             ·rw [if_neg c35] at H
              exact absurd H (by simp)
            ·rw [if_neg c34] at H
             exact absurd H (by simp)
           ·rw [if_neg c33] at H
            have c33b0 : decide (x54_2 < ((rd_L1 l0_1 x47_1).length : Int)) = false := decide_eq_false c33
            clear c33
            have H' := Aside0.mk H
            clear H
            go_wp2
            go_roundg k2
            case measure => have := HK1.out; have := HK2.out; omega
            case rel => exact ⟨(x12_2), (wrap64 (x47_1 + 1)), (by first | rfl | (simp; done) | (simp [*]; done)), H', ⟨by have := HK1.out; have := HK2.out; omega⟩, ⟨by (with_reducible repeat (first | apply Kd.R_alloc | apply Kd.R_drewN | apply Kd.R_drew)); exact HO_12.out⟩, ⟨by (with_reducible repeat (first | refine blk_drewN ?_ _ | refine blk_drew ?_ | refine blk_alloc ?_ _)); exact BK897.out⟩, ⟨by repeat (first | (with_reducible first | exact HB.out | apply below_alloc | apply pw_below_drewN | apply below_drew1 | refine below_set ?_ GE897.out) | exact HB.out)⟩⟩
        ·rw [if_neg c32] at H
         exact absurd H (by simp)
       ·rw [if_neg c31] at H
        exact absurd H (by simp)
      ·rw [if_neg c30] at H
       have c30b0 : decide (x47_1 < (l0_1.length : Int)) = false := decide_eq_false c30
       clear c30
       obtain rfl := Option.some.inj H
       go_wp2
       go_ret
       exact ⟨_, by first | rfl | (simp [errW_none, errW_some] <;> rfl) | (simp [*, errW_none, errW_some] <;> rfl), by (with_reducible repeat (first | apply Kd.R_alloc | apply Kd.R_drewN | apply Kd.R_drew)); exact HO_12.out, by repeat (first | (with_reducible first | exact HB.out | apply below_alloc | apply pw_below_drewN | apply below_drew1 | refine below_set ?_ GE897.out) | exact HB.out)⟩
   ·rw [if_neg c23] at H
    exact absurd H (by simp)
  ·rw [if_neg c22] at H
   exact absurd H (by simp)
def impl_IsEquilibrium.j0 : Nat → List Int → List Int → Bool → List (List Int) → List (List Int) → Option (Bool × Int)
 | 0, _, _, _, _, _ => none
 | k + 1, x10, x13, x43, x915000, x915001 => if x43 = true then (some (false, 2)) else ((impl_Game_gains.f k x915000 x915001 0 x13).bind fun t928 => ((impl_isReply.f k x10 t928).bind fun t931 => (if t931 = true then ((impl_Game_gains.f k x915000 x915001 1 x10).bind fun t932 => ((impl_isReply.f k x13 t932).bind fun t935 => (some (t935, 0)))) else (some (false, 0)))))
def impl_IsEquilibrium.f (k : Nat) (l0_0 : List (List Int)) (l0_1 : List (List Int)) (l1 : List (S65)) (l2 : List (S65)) : Option (Bool × Int) := (impl_IsGame.f l0_0 l0_1).bind fun t915 => (if t915 = true then ((impl_Game_sizes.f l0_0 l0_1).bind fun bt916 => ((impl_mix.f k l1 bt916.1).bind fun bt918 => ((impl_mix.f k l2 bt916.2).bind fun bt923 => (if bt918.2.2 = true then (impl_IsEquilibrium.j0 k bt918.1 bt923.1 (!bt923.2.2) l0_0 l0_1) else (impl_IsEquilibrium.j0 k bt918.1 bt923.1 true l0_0 l0_1))))) else (some (false, 1)))
theorem impl_IsEquilibrium.mono_l : ∀ k, (∀ y0 y1 y2 y3 y4, LeO (impl_IsEquilibrium.j0 k y0 y1 y2 y3 y4) (impl_IsEquilibrium.j0 (k + 1) y0 y1 y2 y3 y4))
 | 0 => fun _ _ _ _ _ r h => by simp [impl_IsEquilibrium.j0] at h
 | k + 1 => by
  have ih0 := impl_IsEquilibrium.mono_l k
  ·intro y0 y1 y2 y3 y4
   unfold impl_IsEquilibrium.j0
   repeat' first
   | (with_reducible exact ih0 _ _ _ _ _)
   | (with_reducible exact impl_Game_gains.mono _ _ _ _ _)
   | (with_reducible exact impl_isReply.mono _ _ _)
   | (with_reducible exact impl_mix.mono _ _ _)
   | (with_reducible exact LeO.refl _)
   | (with_reducible exact LeO.none _)
   | (with_reducible refine LeO.ite ?_ ?_)
   | (with_reducible refine LeO.bind ?_ (fun _ => ?_))
   | exact ih0 _ _ _ _ _
   | exact impl_Game_gains.mono _ _ _ _ _
   | exact impl_isReply.mono _ _ _
   | exact impl_mix.mono _ _ _
   | exact LeO.none _
   | refine LeO.ite ?_ ?_
   | refine LeO.bind ?_ (fun _ => ?_)
theorem impl_IsEquilibrium.mono : ∀ a0 a1 a2 a3 k, LeO (impl_IsEquilibrium.f k a0 a1 a2 a3) (impl_IsEquilibrium.f (k + 1) a0 a1 a2 a3) := by
 intro a0 a1 a2 a3 k
 have ih0 := impl_IsEquilibrium.mono_l k
 unfold impl_IsEquilibrium.f
 repeat' first
   | (with_reducible exact ih0 _ _ _ _ _)
   | (with_reducible exact impl_Game_gains.mono _ _ _ _ _)
   | (with_reducible exact impl_isReply.mono _ _ _)
   | (with_reducible exact impl_mix.mono _ _ _)
   | (with_reducible exact LeO.refl _)
   | (with_reducible exact LeO.none _)
   | (with_reducible refine LeO.ite ?_ ?_)
   | (with_reducible refine LeO.bind ?_ (fun _ => ?_))
   | exact ih0 _ _ _ _ _
   | exact impl_Game_gains.mono _ _ _ _ _
   | exact impl_isReply.mono _ _ _
   | exact impl_mix.mono _ _ _
   | exact LeO.none _
   | refine LeO.ite ?_ ?_
   | refine LeO.bind ?_ (fun _ => ?_)
theorem impl_IsEquilibrium.calls (k : Nat) (A0_0 : Option Addr) (c0_0 : Nat) (l0_0 : List (List Int)) (A0_1 : Option Addr) (c0_1 : Nat) (l0_1 : List (List Int)) (A1 : Option Addr) (c1 : Nat) (l1 : List (S65)) (A2 : Option Addr) (c2 : Nat) (l2 : List (S65)) (r1 : Bool) (r2 : Int) (w : World) (hr0_0 : Kd.C (Kd.slice 2 (Kd.int .i64)) w A0_0 l0_0.length l0_0) (hc0_0 : l0_0.length ≤ c0_0) (hr0_1 : Kd.C (Kd.slice 2 (Kd.int .i64)) w A0_1 l0_1.length l0_1) (hc0_1 : l0_1.length ≤ c0_1) (hr1 : Kd.C k65 w A1 l1.length l1) (hc1 : l1.length ≤ c1) (hr2 : Kd.C k65 w A2 l2.length l2) (hc2 : l2.length ≤ c2) (h : impl_IsEquilibrium.f k l0_0 l0_1 l1 l2 = some (r1, r2)) :
  Calls Try.prog 51 #[.agg #[.slice A0_0 l0_0.length c0_0, .slice A0_1 l0_1.length c0_1], .slice A1 l1.length c1, .slice A2 l2.length c2] w fun e w' => e = .returned (.tuple #[.bool r1, .int .i64 r2]) ∧ Below w.heap.size w w' := by
 have hu26 := Try.underlying26
 have HR0_0 := Aside0.mk hr0_0
 have HC0_0 := Aside0.mk hc0_0
 clear hr0_0 hc0_0
 have HR0_1 := Aside0.mk hr0_1
 have HC0_1 := Aside0.mk hc0_1
 clear hr0_1 hc0_1
 have HR1 := Aside0.mk hr1
 have HC1 := Aside0.mk hc1
 clear hr1 hc1
 have HR2 := Aside0.mk hr2
 have HC2 := Aside0.mk hc2
 clear hr2 hc2
 have HB := Aside0.mk (Below.refl w.heap.size w)
 have H : ((impl_IsGame.f l0_0 l0_1).bind fun t915 => (if t915 = true then ((impl_Game_sizes.f l0_0 l0_1).bind fun bt916 => ((impl_mix.f k l1 bt916.1).bind fun bt918 => ((impl_mix.f k l2 bt916.2).bind fun bt923 => (if bt918.2.2 = true then (impl_IsEquilibrium.j0 k bt918.1 bt923.1 (!bt923.2.2) l0_0 l0_1) else (impl_IsEquilibrium.j0 k bt918.1 bt923.1 true l0_0 l0_1))))) else (some (false, 1)))) = some (r1, r2) := h
 clear h
 replace H := Option.bind_eq_some_iff.mp H
 obtain ⟨t915, A40, H⟩ := H
 replace H : (if t915 = true then ((impl_Game_sizes.f l0_0 l0_1).bind fun bt916 => ((impl_mix.f k l1 bt916.1).bind fun bt918 => ((impl_mix.f k l2 bt916.2).bind fun bt923 => (if bt918.2.2 = true then (impl_IsEquilibrium.j0 k bt918.1 bt923.1 (!bt923.2.2) l0_0 l0_1) else (impl_IsEquilibrium.j0 k bt918.1 bt923.1 true l0_0 l0_1))))) else (some (false, 1))) = some (r1, r2) := H
 have A4 := Aside0.mk A40
 clear A40
 by_cases c5 : t915 = true
 ·subst c5
  have H1 : ((impl_Game_sizes.f l0_0 l0_1).bind fun bt916 => ((impl_mix.f k l1 bt916.1).bind fun bt918 => ((impl_mix.f k l2 bt916.2).bind fun bt923 => (if bt918.2.2 = true then (impl_IsEquilibrium.j0 k bt918.1 bt923.1 (!bt923.2.2) l0_0 l0_1) else (impl_IsEquilibrium.j0 k bt918.1 bt923.1 true l0_0 l0_1))))) = some (r1, r2) := by rw [if_pos rfl] at H; exact H
  clear H
  have H := H1
  clear H1
  replace H := Option.bind_eq_some_iff.mp H
  obtain ⟨⟨t916, t917⟩, A60, H⟩ := H
  replace H : ((impl_mix.f k l1 t916).bind fun bt918 => ((impl_mix.f k l2 t917).bind fun bt923 => (if bt918.2.2 = true then (impl_IsEquilibrium.j0 k bt918.1 bt923.1 (!bt923.2.2) l0_0 l0_1) else (impl_IsEquilibrium.j0 k bt918.1 bt923.1 true l0_0 l0_1)))) = some (r1, r2) := H
  have A6 := Aside0.mk A60
  clear A60
  replace H := Option.bind_eq_some_iff.mp H
  obtain ⟨⟨t918, t919, t920⟩, A70, H⟩ := H
  replace H : ((impl_mix.f k l2 t917).bind fun bt923 => (if t920 = true then (impl_IsEquilibrium.j0 k t918 bt923.1 (!bt923.2.2) l0_0 l0_1) else (impl_IsEquilibrium.j0 k t918 bt923.1 true l0_0 l0_1))) = some (r1, r2) := H
  have A7 := Aside0.mk A70
  clear A70
  replace H := Option.bind_eq_some_iff.mp H
  obtain ⟨⟨t923, t924, t925⟩, A80, H⟩ := H
  replace H : (if t920 = true then (impl_IsEquilibrium.j0 k t918 t923 (!t925) l0_0 l0_1) else (impl_IsEquilibrium.j0 k t918 t923 true l0_0 l0_1)) = some (r1, r2) := H
  have A8 := Aside0.mk A80
  clear A80
  have HC9 := Aside0.mk H
  clear H
  go_enter Try.func51, Try.ntmps51
  go_upto_region 6 with (first | ((with_reducible refine gate_dst (N := 3) rfl ?_); refine box_event ?hg (N := 3) ?hd (cs := #[.slice A0_0 l0_0.length c0_0, .slice A0_1 l0_1.length c0_1]) (t := 26) ?hr ?_; (case hd => rfl); (case hg => rfl); (case hr => first | (go_simp; done) | (go_simp; rfl)); intro gb914 hg w10 hbox hb; have n0_ := Aside0.mk (below_step (by repeat (first | (with_reducible first | exact HB.out | apply below_alloc | apply pw_below_drewN | apply below_drew1) | exact HB.out)) hb); have n1_ := Aside0.mk (hbox); have n2_ := Aside0.mk ((by rw [hg]; exact (below_size (by repeat (first | (with_reducible first | exact HB.out | apply below_alloc | apply pw_below_drewN | apply below_drew1) | exact HB.out))) : w.heap.size ≤ gb914)); have n3_ := Aside0.mk ((by rw [hg]; exact (below_size (by repeat (first | (with_reducible first | exact HB.out | apply below_alloc | apply pw_below_drewN | apply below_drew1) | exact HB.out))) : w.heap.size ≤ gb914)); clear HB; have HB := n0_; have BK914 := n1_; have GW914 := n2_; have GE914 := n3_; clear n0_ n1_ n2_ n3_; clear hb hbox hg; have hcz11_0 : w10.cell? ⟨gb914, 0, none⟩ = some (.slice A0_0 l0_0.length c0_0) := (blk_cell BK914.out 0).trans rfl; have hcz11_1 : w10.cell? ⟨gb914, 1, none⟩ = some (.slice A0_1 l0_1.length c0_1) := (blk_cell BK914.out 1).trans rfl; have hfz11_0 := blk_frozen BK914.out 0; have hfz11_1 := blk_frozen BK914.out 1) | ((with_reducible refine gate_callee (f := 70) rfl ?_); refine goesL_ (some 17) rfl rfl Try.func70 (by kernel_rfl) rfl #[.agg #[.slice A0_0 l0_0.length c0_0, .slice A0_1 l0_1.length c0_1]] rfl (by (try simp only [List.map_toArray, List.map_cons, List.map_nil]); first | done | rfl | (simp only [List.length_drop, List.length_take]; rfl)) ?_; (with_reducible refine (impl_IsGame.calls _ _ l0_0 _ _ l0_1 true _ ?side1 ?side2 ?side3 ?side4 A4.out).mono ?_); (case side1 => repeat (first | exact (Kd.C_below HR0_0.out HB.out) | (with_reducible refine Kd.C_alloc ?_ _) | (with_reducible refine Kd.C_drewN ?_ _) | (with_reducible refine Kd.C_drew ?_))); (case side2 => exact HC0_0.out); (case side3 => repeat (first | exact (Kd.C_below HR0_1.out HB.out) | (with_reducible refine Kd.C_alloc ?_ _) | (with_reducible refine Kd.C_drewN ?_ _) | (with_reducible refine Kd.C_drew ?_))); (case side4 => exact HC0_1.out); rintro e w12 ⟨rfl, hb⟩; refine ⟨_, rfl, ?_⟩; have n0_ := Aside0.mk (blk_below (g := gb914) (o := .cells #[.slice A0_0 l0_0.length c0_0, .slice A0_1 l0_1.length c0_1] 26 (0, 0)) (by (with_reducible repeat (first | refine blk_drewN ?_ _ | refine blk_drew ?_ | refine blk_alloc ?_ _)); exact BK914.out) hb); have n1_ := Aside0.mk (below_step (by repeat (first | (with_reducible first | exact HB.out | apply below_alloc | apply pw_below_drewN | apply below_drew1 | refine below_set ?_ GE914.out) | exact HB.out)) hb); clear BK914; clear HB; have BK914 := n0_; have HB := n1_; clear n0_ n1_; (try clear hb); (try clear hb2); (try clear hk); (try clear hi); have hcz13_0 : w12.cell? ⟨gb914, 0, none⟩ = some (.slice A0_0 l0_0.length c0_0) := (blk_cell BK914.out 0).trans rfl; have hcz13_1 : w12.cell? ⟨gb914, 1, none⟩ = some (.slice A0_1 l0_1.length c0_1) := (blk_cell BK914.out 1).trans rfl; have hfz13_0 := blk_frozen BK914.out 0; have hfz13_1 := blk_frozen BK914.out 1) | ((with_reducible refine gate_callee (f := 80) rfl ?_); refine goesL_ (some 21) rfl rfl Try.func80 (by kernel_rfl) rfl #[.agg #[.slice A0_0 l0_0.length c0_0, .slice A0_1 l0_1.length c0_1]] rfl (by (try simp only [List.map_toArray, List.map_cons, List.map_nil]); first | done | rfl | (simp only [List.length_drop, List.length_take]; rfl)) ?_; (with_reducible refine (impl_Game_sizes.calls _ _ l0_0 _ _ l0_1 t916 t917 _ ?side1 ?side2 ?side3 ?side4 A6.out).mono ?_); (case side1 => repeat (first | exact (Kd.C_below HR0_0.out HB.out) | (with_reducible refine Kd.C_alloc ?_ _) | (with_reducible refine Kd.C_drewN ?_ _) | (with_reducible refine Kd.C_drew ?_))); (case side2 => exact HC0_0.out); (case side3 => repeat (first | exact (Kd.C_below HR0_1.out HB.out) | (with_reducible refine Kd.C_alloc ?_ _) | (with_reducible refine Kd.C_drewN ?_ _) | (with_reducible refine Kd.C_drew ?_))); (case side4 => exact HC0_1.out); rintro e w14 ⟨rfl, hb⟩; refine ⟨_, rfl, ?_⟩; have n0_ := Aside0.mk (blk_below (g := gb914) (o := .cells #[.slice A0_0 l0_0.length c0_0, .slice A0_1 l0_1.length c0_1] 26 (0, 0)) (by (with_reducible repeat (first | refine blk_drewN ?_ _ | refine blk_drew ?_ | refine blk_alloc ?_ _)); exact BK914.out) hb); have n1_ := Aside0.mk (below_step (by repeat (first | (with_reducible first | exact HB.out | apply below_alloc | apply pw_below_drewN | apply below_drew1 | refine below_set ?_ GE914.out) | exact HB.out)) hb); clear BK914; clear HB; have BK914 := n0_; have HB := n1_; clear n0_ n1_; (try clear hb); (try clear hb2); (try clear hk); (try clear hi)) | ((with_reducible refine gate_callee (f := 99) rfl ?_); refine goesL_ (some 27) rfl rfl Try.func99 (by kernel_rfl) rfl #[.slice A1 l1.length c1, .int .i64 t916] rfl (by (try simp only [List.map_toArray, List.map_cons, List.map_nil]); first | done | rfl | (simp only [List.length_drop, List.length_take]; rfl)) ?_; (with_reducible refine (impl_mix.calls k _ _ l1 t916 t918 t919 t920 _ ?side1 ?side2 A7.out).mono ?_); (case side1 => repeat (first | exact (Kd.C_below HR1.out HB.out) | (with_reducible refine Kd.C_alloc ?_ _) | (with_reducible refine Kd.C_drewN ?_ _) | (with_reducible refine Kd.C_drew ?_))); (case side2 => exact HC1.out); rintro e w15 ⟨v921, rfl, ho0, hb⟩; refine ⟨_, rfl, ?_⟩; have n0_ := Aside0.mk (Kd.R_lower ho0 (below_size (by repeat (first | (with_reducible first | exact HB.out | apply below_alloc | apply pw_below_drewN | apply below_drew1 | refine below_set ?_ GE914.out) | exact HB.out)))); have n1_ := Aside0.mk (blk_below (g := gb914) (o := .cells #[.slice A0_0 l0_0.length c0_0, .slice A0_1 l0_1.length c0_1] 26 (0, 0)) (by (with_reducible repeat (first | refine blk_drewN ?_ _ | refine blk_drew ?_ | refine blk_alloc ?_ _)); exact BK914.out) hb); have n2_ := Aside0.mk (below_step (by repeat (first | (with_reducible first | exact HB.out | apply below_alloc | apply pw_below_drewN | apply below_drew1 | refine below_set ?_ GE914.out) | exact HB.out)) hb); clear BK914; clear HB; have HO922 := n0_; have BK914 := n1_; have HB := n2_; clear n0_ n1_ n2_; (try clear hb); (try clear hb2); (try clear hk); (try clear hi); (try clear ho0)) | ((with_reducible refine gate_callee (f := 99) rfl ?_); refine goesL_ (some 34) rfl rfl Try.func99 (by kernel_rfl) rfl #[.slice A2 l2.length c2, .int .i64 t917] rfl (by (try simp only [List.map_toArray, List.map_cons, List.map_nil]); first | done | rfl | (simp only [List.length_drop, List.length_take]; rfl)) ?_; (with_reducible refine (impl_mix.calls k _ _ l2 t917 t923 t924 t925 _ ?side1 ?side2 A8.out).mono ?_); (case side1 => repeat (first | exact (Kd.C_below HR2.out HB.out) | (with_reducible refine Kd.C_alloc ?_ _) | (with_reducible refine Kd.C_drewN ?_ _) | (with_reducible refine Kd.C_drew ?_))); (case side2 => exact HC2.out); rintro e w16 ⟨v926, rfl, ho0, hb⟩; refine ⟨_, rfl, ?_⟩; have n0_ := Aside0.mk (Kd.R_elder' (by (with_reducible repeat (first | apply Kd.R_alloc | apply Kd.R_drewN | apply Kd.R_drew)); exact HO922.out) (Kd.R_base ho0) hb); have n1_ := Aside0.mk (Kd.R_lower (Kd.R_new' ho0 (Kd.R_lt (by (with_reducible repeat (first | apply Kd.R_alloc | apply Kd.R_drewN | apply Kd.R_drew)); exact HO922.out))) (below_size (by repeat (first | (with_reducible first | exact HB.out | apply below_alloc | apply pw_below_drewN | apply below_drew1 | refine below_set ?_ GE914.out) | exact HB.out)))); have n2_ := Aside0.mk (blk_below (g := gb914) (o := .cells #[.slice A0_0 l0_0.length c0_0, .slice A0_1 l0_1.length c0_1] 26 (0, 0)) (by (with_reducible repeat (first | refine blk_drewN ?_ _ | refine blk_drew ?_ | refine blk_alloc ?_ _)); exact BK914.out) hb); have n3_ := Aside0.mk (below_step (by repeat (first | (with_reducible first | exact HB.out | apply below_alloc | apply pw_below_drewN | apply below_drew1 | refine below_set ?_ GE914.out) | exact HB.out)) hb); clear HO922; clear BK914; clear HB; have HO922 := n0_; have HO927 := n1_; have BK914 := n2_; have HB := n3_; clear n0_ n1_ n2_ n3_; (try clear hb); (try clear hb2); (try clear hk); (try clear hi); (try clear ho0)))
  (try simp only [Act.put, List.setIfInBounds_toArray, List.set_cons_zero, List.set_cons_succ])
  go_cut [43] (fun v43 wc => ∃ (kq : Nat) (x43_8 : Bool), v43 = .bool x43_8 ∧ Aside0 (impl_IsEquilibrium.j0 kq t918 t923 x43_8 l0_0 l0_1 = some (r1, r2)) ∧ Aside0 (kq ≤ k) ∧ Aside0 (Kd.R (Kd.int .i64) 2 wc w.heap.size (fun k_ => some k_ ≠ (v926 : Value).ownBlock) v921 t918) ∧ Aside0 (Kd.R (Kd.int .i64) 2 wc w.heap.size (fun k_ => some k_ ≠ (v921 : Value).ownBlock) v926 t923) ∧ Aside0 (wc.heap[gb914]? = some (.cells #[(.slice A0_0 l0_0.length c0_0), (.slice A0_1 l0_1.length c0_1)] 26 (0, 0))) ∧ Aside0 (Below w.heap.size w wc))
  case first =>
   have H := HC9.out
   clear HC9
   by_cases c17 : t920 = true
   ·subst c17
    have H1 : (impl_IsEquilibrium.j0 k t918 t923 (!t925) l0_0 l0_1) = some (r1, r2) := by rw [if_pos rfl] at H; exact H
    clear H
    have H := H1
    clear H1
    have H' := Aside0.mk H
    clear H
    go_wp2
    go_meet
    case rel => exact ⟨_, (!t925), (by first | rfl | (simp; done) | (simp [*]; done)), H', ⟨by first | omega | exact Nat.le_refl _⟩, ⟨by (with_reducible repeat (first | apply Kd.R_alloc | apply Kd.R_drewN | apply Kd.R_drew)); exact Kd.R_mono HO922.out (fun _ hk => hk.2)⟩, ⟨by (with_reducible repeat (first | apply Kd.R_alloc | apply Kd.R_drewN | apply Kd.R_drew)); exact Kd.R_mono HO927.out (fun _ hk => hk.2)⟩, ⟨by (with_reducible repeat (first | refine blk_drewN ?_ _ | refine blk_drew ?_ | refine blk_alloc ?_ _)); exact BK914.out⟩, ⟨by repeat (first | (with_reducible first | exact HB.out | apply below_alloc | apply pw_below_drewN | apply below_drew1 | refine below_set ?_ GE914.out) | exact HB.out)⟩⟩
   ·replace c17 := Bool.eq_false_iff.mpr c17
    subst c17
    have H1 : (impl_IsEquilibrium.j0 k t918 t923 true l0_0 l0_1) = some (r1, r2) := by rw [if_neg (show ¬ (false = true) by decide)] at H; exact H
    clear H
    have H := H1
    clear H1
    have H' := Aside0.mk H
    clear H
    go_wp2
    go_meet
    case rel => exact ⟨_, (true), (by first | rfl | (simp; done) | (simp [*]; done)), H', ⟨by first | omega | exact Nat.le_refl _⟩, ⟨by (with_reducible repeat (first | apply Kd.R_alloc | apply Kd.R_drewN | apply Kd.R_drew)); exact Kd.R_mono HO922.out (fun _ hk => hk.2)⟩, ⟨by (with_reducible repeat (first | apply Kd.R_alloc | apply Kd.R_drewN | apply Kd.R_drew)); exact Kd.R_mono HO927.out (fun _ hk => hk.2)⟩, ⟨by (with_reducible repeat (first | refine blk_drewN ?_ _ | refine blk_drew ?_ | refine blk_alloc ?_ _)); exact BK914.out⟩, ⟨by repeat (first | (with_reducible first | exact HB.out | apply below_alloc | apply pw_below_drewN | apply below_drew1 | refine below_set ?_ GE914.out) | exact HB.out)⟩⟩
  case rest =>
   clear HC9
   try clear c1
   try clear c2
   try clear p2
   try clear c5
   try clear c7
   try clear c8
   try clear c9
   try clear c17
   try clear hcz11_0
   try clear hcz11_1
   try clear hcz13_0
   try clear hcz13_1
   try clear hfz11_0
   try clear hfz11_1
   try clear hfz13_0
   try clear hfz13_1
   obtain ⟨kq, x43_8, rfl, HA, HJ8, HO_10, HO_13, BK914, HB⟩ := hcut
   cases kq with
   | zero => exact absurd HA.out (by simp [impl_IsEquilibrium.j0])
   | succ kj8 =>
    have H := HA.out
    clear HA
    simp only [impl_IsEquilibrium.j0] at H
    by_cases c18 : x43_8 = true
    ·subst c18
     have H1 : (some (false, 2)) = some (r1, r2) := by rw [if_pos rfl] at H; exact H
     clear H
     have H := H1
     clear H1
     simp only [Option.some.injEq, Prod.mk.injEq] at H
     obtain ⟨rfl, rfl⟩ := H
     go_wp2
     go_ret2
     exact ⟨by first | rfl | (simp [errW_none, errW_some] <;> rfl) | (simp [*, errW_none, errW_some] <;> rfl), by repeat (first | (with_reducible first | exact HB.out | apply below_alloc | apply pw_below_drewN | apply below_drew1 | refine below_set ?_ GE914.out) | exact HB.out)⟩
    ·replace c18 := Bool.eq_false_iff.mpr c18
     subst c18
     have H1 : ((impl_Game_gains.f kj8 l0_0 l0_1 0 t923).bind fun t928 => ((impl_isReply.f kj8 t918 t928).bind fun t931 => (if t931 = true then ((impl_Game_gains.f kj8 l0_0 l0_1 1 t918).bind fun t932 => ((impl_isReply.f kj8 t923 t932).bind fun t935 => (some (t935, 0)))) else (some (false, 0))))) = some (r1, r2) := by rw [if_neg (show ¬ (false = true) by decide)] at H; exact H
     clear H
     have H := H1
     clear H1
     replace H := Option.bind_eq_some_iff.mp H
     obtain ⟨t928, A190, H⟩ := H
     replace H : ((impl_isReply.f kj8 t918 t928).bind fun t931 => (if t931 = true then ((impl_Game_gains.f kj8 l0_0 l0_1 1 t918).bind fun t932 => ((impl_isReply.f kj8 t923 t932).bind fun t935 => (some (t935, 0)))) else (some (false, 0)))) = some (r1, r2) := H
     have A19 := Aside0.mk A190
     clear A190
     replace H := Option.bind_eq_some_iff.mp H
     obtain ⟨t931, A200, H⟩ := H
     replace H : (if t931 = true then ((impl_Game_gains.f kj8 l0_0 l0_1 1 t918).bind fun t932 => ((impl_isReply.f kj8 t923 t932).bind fun t935 => (some (t935, 0)))) else (some (false, 0))) = some (r1, r2) := H
     have A20 := Aside0.mk A200
     clear A200
     by_cases c21 : t931 = true
     ·subst c21
      have H1 : ((impl_Game_gains.f kj8 l0_0 l0_1 1 t918).bind fun t932 => ((impl_isReply.f kj8 t923 t932).bind fun t935 => (some (t935, 0)))) = some (r1, r2) := by rw [if_pos rfl] at H; exact H
      clear H
      have H := H1
      clear H1
      replace H := Option.bind_eq_some_iff.mp H
      obtain ⟨t932, A220, H⟩ := H
      replace H : ((impl_isReply.f kj8 t923 t932).bind fun t935 => (some (t935, 0))) = some (r1, r2) := H
      have A22 := Aside0.mk A220
      clear A220
      replace H := Option.bind_eq_some_iff.mp H
      obtain ⟨t935, A230, H⟩ := H
      replace H : (some (t935, 0)) = some (r1, r2) := H
      have A23 := Aside0.mk A230
      clear A230
      simp only [Option.some.injEq, Prod.mk.injEq] at H
      obtain ⟨rfl, rfl⟩ := H
      have hcz24_0 : wc.cell? ⟨gb914, 0, none⟩ = some (.slice A0_0 l0_0.length c0_0) := (blk_cell BK914.out 0).trans rfl
      have hcz24_1 : wc.cell? ⟨gb914, 1, none⟩ = some (.slice A0_1 l0_1.length c0_1) := (blk_cell BK914.out 1).trans rfl
      have hfz24_0 := blk_frozen BK914.out 0
      have hfz24_1 := blk_frozen BK914.out 1
      obtain ⟨Ao25, co25, eo25⟩ := Kd.R_slice HO_13.out
      subst eo25
      go_wp2_with (first | ((with_reducible refine gate_callee (f := 105) rfl ?_); refine goesL_ (some 47) rfl rfl Try.func105 (by kernel_rfl) rfl #[.agg #[.slice A0_0 l0_0.length c0_0, .slice A0_1 l0_1.length c0_1], .int .i64 0, .slice Ao25 t923.length co25] rfl (by (try simp only [List.map_toArray, List.map_cons, List.map_nil]); first | done | rfl | (simp only [List.length_drop, List.length_take]; rfl)) ?_; (with_reducible refine (impl_Game_gains.calls kj8 _ _ l0_0 _ _ l0_1 0 _ _ t923 t928 _ ?side1 ?side2 ?side3 ?side4 ?side5 ?side6 A19.out).mono ?_); (case side1 => repeat (first | exact (Kd.C_below HR0_0.out HB.out) | (with_reducible refine Kd.C_alloc ?_ _) | (with_reducible refine Kd.C_drewN ?_ _) | (with_reducible refine Kd.C_drew ?_))); (case side2 => exact HC0_0.out); (case side3 => repeat (first | exact (Kd.C_below HR0_1.out HB.out) | (with_reducible refine Kd.C_alloc ?_ _) | (with_reducible refine Kd.C_drewN ?_ _) | (with_reducible refine Kd.C_drew ?_))); (case side4 => exact HC0_1.out); (case side5 => repeat (first | exact (Kd.R_reads' HO_13.out).2.2 | (with_reducible refine Kd.C_alloc ?_ _) | (with_reducible refine Kd.C_drewN ?_ _) | (with_reducible refine Kd.C_drew ?_))); (case side6 => exact (Kd.R_reads' HO_13.out).2.1); rintro e w26 ⟨v929, rfl, ho0, hb⟩; refine ⟨_, rfl, ?_⟩; have n0_ := Aside0.mk (Kd.R_elder' (by (with_reducible repeat (first | apply Kd.R_alloc | apply Kd.R_drewN | apply Kd.R_drew)); exact HO_10.out) (Kd.R_base ho0) hb); have n1_ := Aside0.mk (Kd.R_elder' (by (with_reducible repeat (first | apply Kd.R_alloc | apply Kd.R_drewN | apply Kd.R_drew)); exact HO_13.out) (Kd.R_base ho0) hb); have n2_ := Aside0.mk (Kd.R_lower (Kd.R_new' (Kd.R_new' ho0 (Kd.R_lt (by (with_reducible repeat (first | apply Kd.R_alloc | apply Kd.R_drewN | apply Kd.R_drew)); exact HO_10.out))) (Kd.R_lt (by (with_reducible repeat (first | apply Kd.R_alloc | apply Kd.R_drewN | apply Kd.R_drew)); exact HO_13.out))) (below_size (by repeat (first | (with_reducible first | exact HB.out | apply below_alloc | apply pw_below_drewN | apply below_drew1 | refine below_set ?_ GE914.out) | exact HB.out)))); have n3_ := Aside0.mk (blk_below (g := gb914) (o := .cells #[.slice A0_0 l0_0.length c0_0, .slice A0_1 l0_1.length c0_1] 26 (0, 0)) (by (with_reducible repeat (first | refine blk_drewN ?_ _ | refine blk_drew ?_ | refine blk_alloc ?_ _)); exact BK914.out) hb); have n4_ := Aside0.mk (below_step (by repeat (first | (with_reducible first | exact HB.out | apply below_alloc | apply pw_below_drewN | apply below_drew1 | refine below_set ?_ GE914.out) | exact HB.out)) hb); clear HO_10; clear HO_13; clear BK914; clear HB; have HO_10 := n0_; have HO_13 := n1_; have HO930 := n2_; have BK914 := n3_; have HB := n4_; clear n0_ n1_ n2_ n3_ n4_; (try clear hb); (try clear hb2); (try clear hk); (try clear hi); (try clear ho0); obtain ⟨Ao27, co27, eo27⟩ := Kd.R_slice HO_10.out; subst eo27; obtain ⟨Ao28, co28, eo28⟩ := Kd.R_slice HO930.out; subst eo28) | ((with_reducible refine gate_callee (f := 104) rfl ?_); refine goesL_ (some 48) rfl rfl Try.func104 (by kernel_rfl) rfl #[.slice Ao27 t918.length co27, .slice Ao28 t928.length co28] rfl (by (try simp only [List.map_toArray, List.map_cons, List.map_nil]); first | done | rfl | (simp only [List.length_drop, List.length_take]; rfl)) ?_; (with_reducible refine (impl_isReply.calls kj8 _ _ t918 _ _ t928 true _ ?side1 ?side2 ?side3 ?side4 A20.out).mono ?_); (case side1 => repeat (first | exact (Kd.R_reads' HO_10.out).2.2 | (with_reducible refine Kd.C_alloc ?_ _) | (with_reducible refine Kd.C_drewN ?_ _) | (with_reducible refine Kd.C_drew ?_))); (case side2 => exact (Kd.R_reads' HO_10.out).2.1); (case side3 => repeat (first | exact (Kd.R_reads' HO930.out).2.2 | (with_reducible refine Kd.C_alloc ?_ _) | (with_reducible refine Kd.C_drewN ?_ _) | (with_reducible refine Kd.C_drew ?_))); (case side4 => exact (Kd.R_reads' HO930.out).2.1); rintro e w29 ⟨rfl, hb⟩; refine ⟨_, rfl, ?_⟩; have n0_ := Aside0.mk (Kd.R_below (by (with_reducible repeat (first | apply Kd.R_alloc | apply Kd.R_drewN | apply Kd.R_drew)); exact HO_10.out) hb); have n1_ := Aside0.mk (Kd.R_below (by (with_reducible repeat (first | apply Kd.R_alloc | apply Kd.R_drewN | apply Kd.R_drew)); exact HO_13.out) hb); have n2_ := Aside0.mk (Kd.R_below (by (with_reducible repeat (first | apply Kd.R_alloc | apply Kd.R_drewN | apply Kd.R_drew)); exact HO930.out) hb); have n3_ := Aside0.mk (blk_below (g := gb914) (o := .cells #[.slice A0_0 l0_0.length c0_0, .slice A0_1 l0_1.length c0_1] 26 (0, 0)) (by (with_reducible repeat (first | refine blk_drewN ?_ _ | refine blk_drew ?_ | refine blk_alloc ?_ _)); exact BK914.out) hb); have n4_ := Aside0.mk (below_step (by repeat (first | (with_reducible first | exact HB.out | apply below_alloc | apply pw_below_drewN | apply below_drew1 | refine below_set ?_ GE914.out) | exact HB.out)) hb); clear HO_10; clear HO_13; clear HO930; clear BK914; clear HB; have HO_10 := n0_; have HO_13 := n1_; have HO930 := n2_; have BK914 := n3_; have HB := n4_; clear n0_ n1_ n2_ n3_ n4_; (try clear hb); (try clear hb2); (try clear hk); (try clear hi); have hcz30_0 : w29.cell? ⟨gb914, 0, none⟩ = some (.slice A0_0 l0_0.length c0_0) := (blk_cell BK914.out 0).trans rfl; have hcz30_1 : w29.cell? ⟨gb914, 1, none⟩ = some (.slice A0_1 l0_1.length c0_1) := (blk_cell BK914.out 1).trans rfl; have hfz30_0 := blk_frozen BK914.out 0; have hfz30_1 := blk_frozen BK914.out 1) | (go_at_call 105; (with_reducible refine (impl_Game_gains.calls kj8 _ _ l0_0 _ _ l0_1 1 _ _ t918 t932 _ ?side1 ?side2 ?side3 ?side4 ?side5 ?side6 A22.out).mono ?_); (case side1 => repeat (first | exact (Kd.C_below HR0_0.out HB.out) | (with_reducible refine Kd.C_alloc ?_ _) | (with_reducible refine Kd.C_drewN ?_ _) | (with_reducible refine Kd.C_drew ?_))); (case side2 => exact HC0_0.out); (case side3 => repeat (first | exact (Kd.C_below HR0_1.out HB.out) | (with_reducible refine Kd.C_alloc ?_ _) | (with_reducible refine Kd.C_drewN ?_ _) | (with_reducible refine Kd.C_drew ?_))); (case side4 => exact HC0_1.out); (case side5 => repeat (first | exact (Kd.R_reads' HO_10.out).2.2 | (with_reducible refine Kd.C_alloc ?_ _) | (with_reducible refine Kd.C_drewN ?_ _) | (with_reducible refine Kd.C_drew ?_))); (case side6 => exact (Kd.R_reads' HO_10.out).2.1); rintro e w31 ⟨v933, rfl, ho0, hb⟩; have n0_ := Aside0.mk (Kd.R_elder' (by (with_reducible repeat (first | apply Kd.R_alloc | apply Kd.R_drewN | apply Kd.R_drew)); exact HO_10.out) (Kd.R_base ho0) hb); have n1_ := Aside0.mk (Kd.R_elder' (by (with_reducible repeat (first | apply Kd.R_alloc | apply Kd.R_drewN | apply Kd.R_drew)); exact HO_13.out) (Kd.R_base ho0) hb); have n2_ := Aside0.mk (Kd.R_elder' (by (with_reducible repeat (first | apply Kd.R_alloc | apply Kd.R_drewN | apply Kd.R_drew)); exact HO930.out) (Kd.R_base ho0) hb); have n3_ := Aside0.mk (Kd.R_lower (Kd.R_new' (Kd.R_new' (Kd.R_new' ho0 (Kd.R_lt (by (with_reducible repeat (first | apply Kd.R_alloc | apply Kd.R_drewN | apply Kd.R_drew)); exact HO_10.out))) (Kd.R_lt (by (with_reducible repeat (first | apply Kd.R_alloc | apply Kd.R_drewN | apply Kd.R_drew)); exact HO_13.out))) (Kd.R_lt (by (with_reducible repeat (first | apply Kd.R_alloc | apply Kd.R_drewN | apply Kd.R_drew)); exact HO930.out))) (below_size (by repeat (first | (with_reducible first | exact HB.out | apply below_alloc | apply pw_below_drewN | apply below_drew1 | refine below_set ?_ GE914.out) | exact HB.out)))); have n4_ := Aside0.mk (blk_below (g := gb914) (o := .cells #[.slice A0_0 l0_0.length c0_0, .slice A0_1 l0_1.length c0_1] 26 (0, 0)) (by (with_reducible repeat (first | refine blk_drewN ?_ _ | refine blk_drew ?_ | refine blk_alloc ?_ _)); exact BK914.out) hb); have n5_ := Aside0.mk (below_step (by repeat (first | (with_reducible first | exact HB.out | apply below_alloc | apply pw_below_drewN | apply below_drew1 | refine below_set ?_ GE914.out) | exact HB.out)) hb); clear HO_10; clear HO_13; clear HO930; clear BK914; clear HB; have HO_10 := n0_; have HO_13 := n1_; have HO930 := n2_; have HO934 := n3_; have BK914 := n4_; have HB := n5_; clear n0_ n1_ n2_ n3_ n4_ n5_; (try clear hb); (try clear hb2); (try clear hk); (try clear hi); (try clear ho0); obtain ⟨Ao32, co32, eo32⟩ := Kd.R_slice HO934.out; subst eo32) | (go_at_call 104; (with_reducible refine (impl_isReply.calls kj8 _ _ t923 _ _ t932 t935 _ ?side1 ?side2 ?side3 ?side4 A23.out).mono ?_); (case side1 => repeat (first | exact (Kd.R_reads' HO_13.out).2.2 | (with_reducible refine Kd.C_alloc ?_ _) | (with_reducible refine Kd.C_drewN ?_ _) | (with_reducible refine Kd.C_drew ?_))); (case side2 => exact (Kd.R_reads' HO_13.out).2.1); (case side3 => repeat (first | exact (Kd.R_reads' HO934.out).2.2 | (with_reducible refine Kd.C_alloc ?_ _) | (with_reducible refine Kd.C_drewN ?_ _) | (with_reducible refine Kd.C_drew ?_))); (case side4 => exact (Kd.R_reads' HO934.out).2.1); rintro e w33 ⟨rfl, hb⟩; have n0_ := Aside0.mk (Kd.R_below (by (with_reducible repeat (first | apply Kd.R_alloc | apply Kd.R_drewN | apply Kd.R_drew)); exact HO_10.out) hb); have n1_ := Aside0.mk (Kd.R_below (by (with_reducible repeat (first | apply Kd.R_alloc | apply Kd.R_drewN | apply Kd.R_drew)); exact HO_13.out) hb); have n2_ := Aside0.mk (Kd.R_below (by (with_reducible repeat (first | apply Kd.R_alloc | apply Kd.R_drewN | apply Kd.R_drew)); exact HO930.out) hb); have n3_ := Aside0.mk (Kd.R_below (by (with_reducible repeat (first | apply Kd.R_alloc | apply Kd.R_drewN | apply Kd.R_drew)); exact HO934.out) hb); have n4_ := Aside0.mk (blk_below (g := gb914) (o := .cells #[.slice A0_0 l0_0.length c0_0, .slice A0_1 l0_1.length c0_1] 26 (0, 0)) (by (with_reducible repeat (first | refine blk_drewN ?_ _ | refine blk_drew ?_ | refine blk_alloc ?_ _)); exact BK914.out) hb); have n5_ := Aside0.mk (below_step (by repeat (first | (with_reducible first | exact HB.out | apply below_alloc | apply pw_below_drewN | apply below_drew1 | refine below_set ?_ GE914.out) | exact HB.out)) hb); clear HO_10; clear HO_13; clear HO930; clear HO934; clear BK914; clear HB; have HO_10 := n0_; have HO_13 := n1_; have HO930 := n2_; have HO934 := n3_; have BK914 := n4_; have HB := n5_; clear n0_ n1_ n2_ n3_ n4_ n5_; (try clear hb); (try clear hb2); (try clear hk); (try clear hi)))
      go_ret2
      exact ⟨by first | rfl | (simp [errW_none, errW_some] <;> rfl) | (simp [*, errW_none, errW_some] <;> rfl), by repeat (first | (with_reducible first | exact HB.out | apply below_alloc | apply pw_below_drewN | apply below_drew1 | refine below_set ?_ GE914.out) | exact HB.out)⟩
     ·replace c21 := Bool.eq_false_iff.mpr c21
      subst c21
      have H1 : (some (false, 0)) = some (r1, r2) := by rw [if_neg (show ¬ (false = true) by decide)] at H; exact H
      clear H
      have H := H1
      clear H1
      simp only [Option.some.injEq, Prod.mk.injEq] at H
      obtain ⟨rfl, rfl⟩ := H
      have hcz34_0 : wc.cell? ⟨gb914, 0, none⟩ = some (.slice A0_0 l0_0.length c0_0) := (blk_cell BK914.out 0).trans rfl
      have hcz34_1 : wc.cell? ⟨gb914, 1, none⟩ = some (.slice A0_1 l0_1.length c0_1) := (blk_cell BK914.out 1).trans rfl
      have hfz34_0 := blk_frozen BK914.out 0
      have hfz34_1 := blk_frozen BK914.out 1
      obtain ⟨Ao35, co35, eo35⟩ := Kd.R_slice HO_13.out
      subst eo35
      go_wp2_with (first | ((with_reducible refine gate_callee (f := 105) rfl ?_); refine goesL_ (some 47) rfl rfl Try.func105 (by kernel_rfl) rfl #[.agg #[.slice A0_0 l0_0.length c0_0, .slice A0_1 l0_1.length c0_1], .int .i64 0, .slice Ao35 t923.length co35] rfl (by (try simp only [List.map_toArray, List.map_cons, List.map_nil]); first | done | rfl | (simp only [List.length_drop, List.length_take]; rfl)) ?_; (with_reducible refine (impl_Game_gains.calls kj8 _ _ l0_0 _ _ l0_1 0 _ _ t923 t928 _ ?side1 ?side2 ?side3 ?side4 ?side5 ?side6 A19.out).mono ?_); (case side1 => repeat (first | exact (Kd.C_below HR0_0.out HB.out) | (with_reducible refine Kd.C_alloc ?_ _) | (with_reducible refine Kd.C_drewN ?_ _) | (with_reducible refine Kd.C_drew ?_))); (case side2 => exact HC0_0.out); (case side3 => repeat (first | exact (Kd.C_below HR0_1.out HB.out) | (with_reducible refine Kd.C_alloc ?_ _) | (with_reducible refine Kd.C_drewN ?_ _) | (with_reducible refine Kd.C_drew ?_))); (case side4 => exact HC0_1.out); (case side5 => repeat (first | exact (Kd.R_reads' HO_13.out).2.2 | (with_reducible refine Kd.C_alloc ?_ _) | (with_reducible refine Kd.C_drewN ?_ _) | (with_reducible refine Kd.C_drew ?_))); (case side6 => exact (Kd.R_reads' HO_13.out).2.1); rintro e w36 ⟨v929, rfl, ho0, hb⟩; refine ⟨_, rfl, ?_⟩; have n0_ := Aside0.mk (Kd.R_elder' (by (with_reducible repeat (first | apply Kd.R_alloc | apply Kd.R_drewN | apply Kd.R_drew)); exact HO_10.out) (Kd.R_base ho0) hb); have n1_ := Aside0.mk (Kd.R_elder' (by (with_reducible repeat (first | apply Kd.R_alloc | apply Kd.R_drewN | apply Kd.R_drew)); exact HO_13.out) (Kd.R_base ho0) hb); have n2_ := Aside0.mk (Kd.R_lower (Kd.R_new' (Kd.R_new' ho0 (Kd.R_lt (by (with_reducible repeat (first | apply Kd.R_alloc | apply Kd.R_drewN | apply Kd.R_drew)); exact HO_10.out))) (Kd.R_lt (by (with_reducible repeat (first | apply Kd.R_alloc | apply Kd.R_drewN | apply Kd.R_drew)); exact HO_13.out))) (below_size (by repeat (first | (with_reducible first | exact HB.out | apply below_alloc | apply pw_below_drewN | apply below_drew1 | refine below_set ?_ GE914.out) | exact HB.out)))); have n3_ := Aside0.mk (blk_below (g := gb914) (o := .cells #[.slice A0_0 l0_0.length c0_0, .slice A0_1 l0_1.length c0_1] 26 (0, 0)) (by (with_reducible repeat (first | refine blk_drewN ?_ _ | refine blk_drew ?_ | refine blk_alloc ?_ _)); exact BK914.out) hb); have n4_ := Aside0.mk (below_step (by repeat (first | (with_reducible first | exact HB.out | apply below_alloc | apply pw_below_drewN | apply below_drew1 | refine below_set ?_ GE914.out) | exact HB.out)) hb); clear HO_10; clear HO_13; clear BK914; clear HB; have HO_10 := n0_; have HO_13 := n1_; have HO930 := n2_; have BK914 := n3_; have HB := n4_; clear n0_ n1_ n2_ n3_ n4_; (try clear hb); (try clear hb2); (try clear hk); (try clear hi); (try clear ho0); obtain ⟨Ao37, co37, eo37⟩ := Kd.R_slice HO_10.out; subst eo37; obtain ⟨Ao38, co38, eo38⟩ := Kd.R_slice HO930.out; subst eo38) | ((with_reducible refine gate_callee (f := 104) rfl ?_); refine goesL_ (some 48) rfl rfl Try.func104 (by kernel_rfl) rfl #[.slice Ao37 t918.length co37, .slice Ao38 t928.length co38] rfl (by (try simp only [List.map_toArray, List.map_cons, List.map_nil]); first | done | rfl | (simp only [List.length_drop, List.length_take]; rfl)) ?_; (with_reducible refine (impl_isReply.calls kj8 _ _ t918 _ _ t928 false _ ?side1 ?side2 ?side3 ?side4 A20.out).mono ?_); (case side1 => repeat (first | exact (Kd.R_reads' HO_10.out).2.2 | (with_reducible refine Kd.C_alloc ?_ _) | (with_reducible refine Kd.C_drewN ?_ _) | (with_reducible refine Kd.C_drew ?_))); (case side2 => exact (Kd.R_reads' HO_10.out).2.1); (case side3 => repeat (first | exact (Kd.R_reads' HO930.out).2.2 | (with_reducible refine Kd.C_alloc ?_ _) | (with_reducible refine Kd.C_drewN ?_ _) | (with_reducible refine Kd.C_drew ?_))); (case side4 => exact (Kd.R_reads' HO930.out).2.1); rintro e w39 ⟨rfl, hb⟩; refine ⟨_, rfl, ?_⟩; have n0_ := Aside0.mk (Kd.R_below (by (with_reducible repeat (first | apply Kd.R_alloc | apply Kd.R_drewN | apply Kd.R_drew)); exact HO_10.out) hb); have n1_ := Aside0.mk (Kd.R_below (by (with_reducible repeat (first | apply Kd.R_alloc | apply Kd.R_drewN | apply Kd.R_drew)); exact HO_13.out) hb); have n2_ := Aside0.mk (Kd.R_below (by (with_reducible repeat (first | apply Kd.R_alloc | apply Kd.R_drewN | apply Kd.R_drew)); exact HO930.out) hb); have n3_ := Aside0.mk (blk_below (g := gb914) (o := .cells #[.slice A0_0 l0_0.length c0_0, .slice A0_1 l0_1.length c0_1] 26 (0, 0)) (by (with_reducible repeat (first | refine blk_drewN ?_ _ | refine blk_drew ?_ | refine blk_alloc ?_ _)); exact BK914.out) hb); have n4_ := Aside0.mk (below_step (by repeat (first | (with_reducible first | exact HB.out | apply below_alloc | apply pw_below_drewN | apply below_drew1 | refine below_set ?_ GE914.out) | exact HB.out)) hb); clear HO_10; clear HO_13; clear HO930; clear BK914; clear HB; have HO_10 := n0_; have HO_13 := n1_; have HO930 := n2_; have BK914 := n3_; have HB := n4_; clear n0_ n1_ n2_ n3_ n4_; (try clear hb); (try clear hb2); (try clear hk); (try clear hi)))
      go_ret2
      exact ⟨by first | rfl | (simp [errW_none, errW_some] <;> rfl) | (simp [*, errW_none, errW_some] <;> rfl), by repeat (first | (with_reducible first | exact HB.out | apply below_alloc | apply pw_below_drewN | apply below_drew1 | refine below_set ?_ GE914.out) | exact HB.out)⟩
 ·replace c5 := Bool.eq_false_iff.mpr c5
  subst c5
  have H1 : (some (false, 1)) = some (r1, r2) := by rw [if_neg (show ¬ (false = true) by decide)] at H; exact H
  clear H
  have H := H1
  clear H1
  simp only [Option.some.injEq, Prod.mk.injEq] at H
  obtain ⟨rfl, rfl⟩ := H
  go_enter Try.func51, Try.ntmps51
  go_wp2_with (first | ((with_reducible refine gate_dst (N := 3) rfl ?_); refine box_event ?hg (N := 3) ?hd (cs := #[.slice A0_0 l0_0.length c0_0, .slice A0_1 l0_1.length c0_1]) (t := 26) ?hr ?_; (case hd => rfl); (case hg => rfl); (case hr => first | (go_simp; done) | (go_simp; rfl)); intro gb914 hg w40 hbox hb; have n0_ := Aside0.mk (below_step (by repeat (first | (with_reducible first | exact HB.out | apply below_alloc | apply pw_below_drewN | apply below_drew1) | exact HB.out)) hb); have n1_ := Aside0.mk (hbox); have n2_ := Aside0.mk ((by rw [hg]; exact (below_size (by repeat (first | (with_reducible first | exact HB.out | apply below_alloc | apply pw_below_drewN | apply below_drew1) | exact HB.out))) : w.heap.size ≤ gb914)); have n3_ := Aside0.mk ((by rw [hg]; exact (below_size (by repeat (first | (with_reducible first | exact HB.out | apply below_alloc | apply pw_below_drewN | apply below_drew1) | exact HB.out))) : w.heap.size ≤ gb914)); clear HB; have HB := n0_; have BK914 := n1_; have GW914 := n2_; have GE914 := n3_; clear n0_ n1_ n2_ n3_; clear hb hbox hg; have hcz41_0 : w40.cell? ⟨gb914, 0, none⟩ = some (.slice A0_0 l0_0.length c0_0) := (blk_cell BK914.out 0).trans rfl; have hcz41_1 : w40.cell? ⟨gb914, 1, none⟩ = some (.slice A0_1 l0_1.length c0_1) := (blk_cell BK914.out 1).trans rfl; have hfz41_0 := blk_frozen BK914.out 0; have hfz41_1 := blk_frozen BK914.out 1) | ((with_reducible refine gate_callee (f := 70) rfl ?_); refine goesL_ (some 17) rfl rfl Try.func70 (by kernel_rfl) rfl #[.agg #[.slice A0_0 l0_0.length c0_0, .slice A0_1 l0_1.length c0_1]] rfl (by (try simp only [List.map_toArray, List.map_cons, List.map_nil]); first | done | rfl | (simp only [List.length_drop, List.length_take]; rfl)) ?_; (with_reducible refine (impl_IsGame.calls _ _ l0_0 _ _ l0_1 false _ ?side1 ?side2 ?side3 ?side4 A4.out).mono ?_); (case side1 => repeat (first | exact (Kd.C_below HR0_0.out HB.out) | (with_reducible refine Kd.C_alloc ?_ _) | (with_reducible refine Kd.C_drewN ?_ _) | (with_reducible refine Kd.C_drew ?_))); (case side2 => exact HC0_0.out); (case side3 => repeat (first | exact (Kd.C_below HR0_1.out HB.out) | (with_reducible refine Kd.C_alloc ?_ _) | (with_reducible refine Kd.C_drewN ?_ _) | (with_reducible refine Kd.C_drew ?_))); (case side4 => exact HC0_1.out); rintro e w42 ⟨rfl, hb⟩; refine ⟨_, rfl, ?_⟩; have n0_ := Aside0.mk (blk_below (g := gb914) (o := .cells #[.slice A0_0 l0_0.length c0_0, .slice A0_1 l0_1.length c0_1] 26 (0, 0)) (by (with_reducible repeat (first | refine blk_drewN ?_ _ | refine blk_drew ?_ | refine blk_alloc ?_ _)); exact BK914.out) hb); have n1_ := Aside0.mk (below_step (by repeat (first | (with_reducible first | exact HB.out | apply below_alloc | apply pw_below_drewN | apply below_drew1 | refine below_set ?_ GE914.out) | exact HB.out)) hb); clear BK914; clear HB; have BK914 := n0_; have HB := n1_; clear n0_ n1_; (try clear hb); (try clear hb2); (try clear hk); (try clear hi)))
  go_ret2
  exact ⟨by first | rfl | (simp [errW_none, errW_some] <;> rfl) | (simp [*, errW_none, errW_some] <;> rfl), by repeat (first | (with_reducible first | exact HB.out | apply below_alloc | apply pw_below_drewN | apply below_drew1 | refine below_set ?_ GE914.out) | exact HB.out)⟩
end Go.Proofs.Ytjjbhdpjnjncbaa.Pr
end
section
namespace Go.Proofs.Ytjjbhdpjnjncbaa.Pr
open Go.RowKit Go.Proofs.YtjjbhdpjnjncbaaW.PrintWords Go.Proofs.YtjjbhdpjnjncbaaW.PrintLast Go.Proofs.YtjjbhdpjnjncbaaW.PrintMore Go.Proofs.Ytjjbhdpjnjncbaa.La Go.Proofs.Ytjjbhdpjnjncbaa.Hm Go.Proofs.Ytjjbhdpjnjncbaa.Lw
theorem laws_FnExactIsEquilibrium.walk (k : Nat) (A0_0 : Option Addr) (c0_0 : Nat) (l0_0 : List (List Int)) (A0_1 : Option Addr) (c0_1 : Nat) (l0_1 : List (List Int)) (A1 : Option Addr) (c1 : Nat) (l1 : List (S120)) (A2 : Option Addr) (c2 : Nat) (l2 : List (S120)) (t17 : Int) (t22 : Int) (t27 : Int) (y_l1 : List (S65)) (y_l2 : List (S65)) (s0 : Bool) (s1 : Int) (w : World) (hr0_0 : Kd.C (Kd.slice 2 (Kd.int .i64)) w A0_0 l0_0.length l0_0) (hc0_0 : l0_0.length ≤ c0_0) (hr0_1 : Kd.C (Kd.slice 2 (Kd.int .i64)) w A0_1 l0_1.length l0_1) (hc0_1 : l0_1.length ≤ c0_1) (hr1 : Kd.C k120 w A1 l1.length l1) (hc1 : l1.length ≤ c1) (hr2 : Kd.C k120 w A2 l2.length l2) (hc2 : l2.length ≤ c2) (h1 : laws_szGame.f k l0_0 l0_1 1048576 = some t17) (h2 : ¬ t17 < 0) (h3 : laws_szFracS.f l1 t17 = some t22) (h4 : ¬ t22 < 0) (h5 : laws_szFracS.f l2 t22 = some t27) (h6 : ¬ t27 < 0) (h7 : laws_toInt64SS.f k l0_0 = some l0_0 ∧ laws_toInt64SS.f k l0_1 = some l0_1) (h8 : laws_toFracS.f k l1 = some y_l1) (h9 : laws_toFracS.f k l2 = some y_l2) (h10 : spec_IsEquilibrium.f k l0_0 l0_1 y_l1 y_l2 = some (s0, s1)) (h11 : impl_IsEquilibrium.f k l0_0 l0_1 y_l1 y_l2 = some (s0, s1)) (h12 : laws_eqGame.f k l0_0 l0_1 l0_0 l0_1 = some true) (h13 : laws_eqFracS.f k y_l1 y_l1 = some true) (h14 : laws_eqFracS.f k y_l2 y_l2 = some true) :
  Calls Try.prog 9 #[.agg #[.slice A0_0 l0_0.length c0_0, .slice A0_1 l0_1.length c0_1], .slice A1 l1.length c1, .slice A2 l2.length c2] w fun e w' => e = .returned (.bool true) ∧ Below w.heap.size w w' := by
 have HR0_0 := Aside0.mk hr0_0
 have HC0_0 := Aside0.mk hc0_0
 clear hr0_0 hc0_0
 have HR0_1 := Aside0.mk hr0_1
 have HC0_1 := Aside0.mk hc0_1
 clear hr0_1 hc0_1
 have HR1 := Aside0.mk hr1
 have HC1 := Aside0.mk hc1
 clear hr1 hc1
 have HR2 := Aside0.mk hr2
 have HC2 := Aside0.mk hc2
 clear hr2 hc2
 have HB := Aside0.mk (Below.refl w.heap.size w)
 have H1' := Aside0.mk h1
 clear h1
 have H3' := Aside0.mk h3
 clear h3
 have H5' := Aside0.mk h5
 clear h5
 have H7' := Aside0.mk h7
 clear h7
 have H8' := Aside0.mk h8
 clear h8
 have H9' := Aside0.mk h9
 clear h9
 have H10' := Aside0.mk h10
 clear h10
 have H11' := Aside0.mk h11
 clear h11
 have H12' := Aside0.mk h12
 clear h12
 have H13' := Aside0.mk h13
 clear h13
 have H14' := Aside0.mk h14
 clear h14
 go_enter Try.func9, Try.ntmps9
 go_wp2_with (first | ((with_reducible refine gate_dst (N := 3) rfl ?_); refine box_event ?hg (N := 3) ?hd (cs := #[.slice A0_0 l0_0.length c0_0, .slice A0_1 l0_1.length c0_1]) (t := 24) ?hr ?_; (case hd => rfl); (case hg => rfl); (case hr => first | (go_simp; done) | (go_simp; rfl)); intro g3 hg w1 hbox hb; have Gg3 : Aside0 (g3 = w.heap.size) := ⟨hg⟩; have Kg3 := Aside0.mk (blk_lt hbox); clear hg; have n_HB := Aside0.mk (below_step HB.out hb); have NN1 : Aside0 (w.heap.size ≤ w1.heap.size) := ⟨hb.size⟩; clear HB; have HB := n_HB; clear n_HB; have Bg3 := Aside0.mk hbox; clear hb hbox; have hc3_0 : w1.cell? ⟨g3, 0, none⟩ = some (.slice A0_0 l0_0.length c0_0) := (blk_cell Bg3.out 0).trans rfl; have hf3_0 := blk_frozen Bg3.out 0; have hc3_1 : w1.cell? ⟨g3, 1, none⟩ = some (.slice A0_1 l0_1.length c0_1) := (blk_cell Bg3.out 1).trans rfl; have hf3_1 := blk_frozen Bg3.out 1) | ((with_reducible refine gate_callee (f := 15) rfl ?_); refine goesL_ (some 17) rfl rfl Try.func15 (by kernel_rfl) rfl #[.agg #[.slice A0_0 l0_0.length c0_0, .slice A0_1 l0_1.length c0_1], .int .i64 1048576] rfl (by (try simp only [List.map_toArray, List.map_cons, List.map_nil]); first | done | rfl) ?_; refine (laws_szGame.calls k _ _ l0_0 _ _ l0_1 1048576 t17 _ ?s1 ?s2 ?s3 ?s4 H1'.out).mono ?_; (case s1 => exact Kd.C_below HR0_0.out HB.out); (case s2 => exact HC0_0.out); (case s3 => exact Kd.C_below HR0_1.out HB.out); (case s4 => exact HC0_1.out); rintro e w2 ⟨rfl, hb⟩; refine ⟨_, rfl, ?_⟩; have n_Bg3 := Aside0.mk (blk_below Bg3.out hb); have n_HB := Aside0.mk (below_step HB.out hb); have NN2 : Aside0 (w1.heap.size ≤ w2.heap.size) := ⟨hb.size⟩; clear hc3_0 hf3_0; clear hc3_1 hf3_1; clear Bg3 HB; have Bg3 := n_Bg3; have HB := n_HB; clear n_Bg3 n_HB; clear hb) | ((with_reducible refine gate_callee (f := 44) rfl ?_); refine goesL_ (some 22) rfl rfl Try.func44 (by kernel_rfl) rfl #[.slice A1 l1.length c1, .int .i64 t17] rfl (by (try simp only [List.map_toArray, List.map_cons, List.map_nil]); first | done | rfl) ?_; refine (laws_szFracS.calls _ _ l1 t17 t22 _ ?s1 ?s2 H3'.out).mono ?_; (case s1 => exact Kd.C_below HR1.out HB.out); (case s2 => exact HC1.out); rintro e w3 ⟨rfl, hb⟩; refine ⟨_, rfl, ?_⟩; have hb := hb.below; have n_Bg3 := Aside0.mk (blk_below Bg3.out hb); have n_HB := Aside0.mk (below_step HB.out hb); have NN3 : Aside0 (w2.heap.size ≤ w3.heap.size) := ⟨hb.size⟩; clear Bg3 HB; have Bg3 := n_Bg3; have HB := n_HB; clear n_Bg3 n_HB; clear hb) | ((with_reducible refine gate_callee (f := 44) rfl ?_); refine goesL_ (some 27) rfl rfl Try.func44 (by kernel_rfl) rfl #[.slice A2 l2.length c2, .int .i64 t22] rfl (by (try simp only [List.map_toArray, List.map_cons, List.map_nil]); first | done | rfl) ?_; refine (laws_szFracS.calls _ _ l2 t22 t27 _ ?s1 ?s2 H5'.out).mono ?_; (case s1 => exact Kd.C_below HR2.out HB.out); (case s2 => exact HC2.out); rintro e w4 ⟨rfl, hb⟩; refine ⟨_, rfl, ?_⟩; have hb := hb.below; have n_Bg3 := Aside0.mk (blk_below Bg3.out hb); have n_HB := Aside0.mk (below_step HB.out hb); have NN4 : Aside0 (w3.heap.size ≤ w4.heap.size) := ⟨hb.size⟩; clear Bg3 HB; have Bg3 := n_Bg3; have HB := n_HB; clear n_Bg3 n_HB; clear hb; have hc3_0 : w4.cell? ⟨g3, 0, none⟩ = some (.slice A0_0 l0_0.length c0_0) := (blk_cell Bg3.out 0).trans rfl; have hf3_0 := blk_frozen Bg3.out 0; have hc3_1 : w4.cell? ⟨g3, 1, none⟩ = some (.slice A0_1 l0_1.length c0_1) := (blk_cell Bg3.out 1).trans rfl; have hf3_1 := blk_frozen Bg3.out 1) | ((with_reducible refine gate_callee (f := 17) rfl ?_); refine goesL_ (some 32) rfl rfl Try.func17 (by kernel_rfl) rfl #[.agg #[.slice A0_0 l0_0.length c0_0, .slice A0_1 l0_1.length c0_1]] rfl (by (try simp only [List.map_toArray, List.map_cons, List.map_nil]); first | done | rfl) ?_; refine (laws_toGame2.calls k _ _ l0_0 _ _ l0_1 _ ?s1 ?s2 ?s3 ?s4 H7'.out).mono ?_; (case s1 => exact Kd.C_below HR0_0.out HB.out); (case s2 => exact HC0_0.out); (case s3 => exact Kd.C_below HR0_1.out HB.out); (case s4 => exact HC0_1.out); rintro e w5 ⟨v32_0, v32_1, rfl, ho0, hb⟩; refine ⟨_, rfl, ?_⟩; have nu0 := Aside0.mk (UG.of ho0 HB.out.size); have n_Bg3 := Aside0.mk (blk_below Bg3.out hb); have n_HB := Aside0.mk (below_step HB.out hb); have NN5 : Aside0 (w4.heap.size ≤ w5.heap.size) := ⟨hb.size⟩; clear hc3_0 hf3_0; clear hc3_1 hf3_1; clear Bg3 HB; have Bg3 := n_Bg3; have HB := n_HB; clear n_Bg3 n_HB; clear hb ho0; have U32 := nu0; clear nu0; obtain ⟨A32_0, c32_0, A32_1, c32_1, e0, e1⟩ := U32.out.slices; subst e0; subst e1) | ((with_reducible refine gate_callee (f := 46) rfl ?_); refine goesL_ (some 34) rfl rfl Try.func46 (by kernel_rfl) rfl #[.slice A1 l1.length c1] rfl (by (try simp only [List.map_toArray, List.map_cons, List.map_nil]); first | done | rfl) ?_; refine (laws_toFracS.calls k _ _ l1 y_l1 _ ?s1 ?s2 H8'.out).mono ?_; (case s1 => exact Kd.C_below HR1.out HB.out); (case s2 => exact HC1.out); rintro e w6 ⟨v34_0, rfl, ho0, hb⟩; refine ⟨_, rfl, ?_⟩; have nu0 := Aside0.mk (UR.of ho0 HB.out.size); have n_U32 := Aside0.mk (U32.out.mvB (Frm.below hb)); have n_Bg3 := Aside0.mk (blk_below Bg3.out hb); have n_HB := Aside0.mk (below_step HB.out hb); have NN6 : Aside0 (w5.heap.size ≤ w6.heap.size) := ⟨hb.size⟩; clear U32 Bg3 HB; have U32 := n_U32; have Bg3 := n_Bg3; have HB := n_HB; clear n_U32 n_Bg3 n_HB; clear hb ho0; have U34_0 := nu0; clear nu0; obtain ⟨A34_0, c34_0, e0⟩ := Kd.R_slice U34_0.out; subst e0) | ((with_reducible refine gate_callee (f := 46) rfl ?_); refine goesL_ (some 36) rfl rfl Try.func46 (by kernel_rfl) rfl #[.slice A2 l2.length c2] rfl (by (try simp only [List.map_toArray, List.map_cons, List.map_nil]); first | done | rfl) ?_; refine (laws_toFracS.calls k _ _ l2 y_l2 _ ?s1 ?s2 H9'.out).mono ?_; (case s1 => exact Kd.C_below HR2.out HB.out); (case s2 => exact HC2.out); rintro e w7 ⟨v36_0, rfl, ho0, hb⟩; refine ⟨_, rfl, ?_⟩; have nu0 := Aside0.mk (UR.of ho0 HB.out.size); have n_U32 := Aside0.mk (U32.out.mvB (Frm.below hb)); have n_U34_0 := Aside0.mk (U34_0.out.mvB (Frm.below hb)); have n_Bg3 := Aside0.mk (blk_below Bg3.out hb); have n_HB := Aside0.mk (below_step HB.out hb); have NN7 : Aside0 (w6.heap.size ≤ w7.heap.size) := ⟨hb.size⟩; clear U32 U34_0 Bg3 HB; have U32 := n_U32; have U34_0 := n_U34_0; have Bg3 := n_Bg3; have HB := n_HB; clear n_U32 n_U34_0 n_Bg3 n_HB; clear hb ho0; have U36_0 := nu0; clear nu0; obtain ⟨A36_0, c36_0, e0⟩ := Kd.R_slice U36_0.out; subst e0) | ((with_reducible refine gate_callee (f := 50) rfl ?_); refine goesL_ (some 37) rfl rfl Try.func50 (by kernel_rfl) rfl #[.agg #[.slice A32_0 l0_0.length c32_0, .slice A32_1 l0_1.length c32_1], .slice A34_0 y_l1.length c34_0, .slice A36_0 y_l2.length c36_0] rfl (by (try simp only [List.map_toArray, List.map_cons, List.map_nil]); first | done | rfl) ?_; refine (spec_IsEquilibrium.calls k _ _ l0_0 _ _ l0_1 _ _ y_l1 _ _ y_l2 s0 s1 _ ?s1 ?s2 ?s3 ?s4 ?s5 ?s6 ?s7 ?s8 H10'.out).mono ?_; (case s1 => exact U32.out.C0); (case s2 => exact U32.out.cap0); (case s3 => exact U32.out.C1); (case s4 => exact U32.out.cap1); (case s5 => exact UR.C U34_0.out); (case s6 => exact UR.cap U34_0.out); (case s7 => exact UR.C U36_0.out); (case s8 => exact UR.cap U36_0.out); rintro e w8 ⟨rfl, hb⟩; refine ⟨_, rfl, ?_⟩; have n_U32 := Aside0.mk (U32.out.mvB (Frm.below hb)); have n_U34_0 := Aside0.mk (U34_0.out.mvB (Frm.below hb)); have n_U36_0 := Aside0.mk (U36_0.out.mvB (Frm.below hb)); have n_Bg3 := Aside0.mk (blk_below Bg3.out hb); have n_HB := Aside0.mk (below_step HB.out hb); have NN8 : Aside0 (w7.heap.size ≤ w8.heap.size) := ⟨hb.size⟩; clear U32 U34_0 U36_0 Bg3 HB; have U32 := n_U32; have U34_0 := n_U34_0; have U36_0 := n_U36_0; have Bg3 := n_Bg3; have HB := n_HB; clear n_U32 n_U34_0 n_U36_0 n_Bg3 n_HB; clear hb; have hc3_0 : w8.cell? ⟨g3, 0, none⟩ = some (.slice A0_0 l0_0.length c0_0) := (blk_cell Bg3.out 0).trans rfl; have hf3_0 := blk_frozen Bg3.out 0; have hc3_1 : w8.cell? ⟨g3, 1, none⟩ = some (.slice A0_1 l0_1.length c0_1) := (blk_cell Bg3.out 1).trans rfl; have hf3_1 := blk_frozen Bg3.out 1) | ((with_reducible refine gate_callee (f := 17) rfl ?_); refine goesL_ (some 41) rfl rfl Try.func17 (by kernel_rfl) rfl #[.agg #[.slice A0_0 l0_0.length c0_0, .slice A0_1 l0_1.length c0_1]] rfl (by (try simp only [List.map_toArray, List.map_cons, List.map_nil]); first | done | rfl) ?_; refine (laws_toGame2.calls k _ _ l0_0 _ _ l0_1 _ ?s1 ?s2 ?s3 ?s4 H7'.out).mono ?_; (case s1 => exact Kd.C_below HR0_0.out HB.out); (case s2 => exact HC0_0.out); (case s3 => exact Kd.C_below HR0_1.out HB.out); (case s4 => exact HC0_1.out); rintro e w9 ⟨v41_0, v41_1, rfl, ho0, hb⟩; refine ⟨_, rfl, ?_⟩; have nu0 := Aside0.mk (UG.of ho0 HB.out.size); have n_U32 := Aside0.mk (U32.out.mvB (Frm.below hb)); have n_U34_0 := Aside0.mk (U34_0.out.mvB (Frm.below hb)); have n_U36_0 := Aside0.mk (U36_0.out.mvB (Frm.below hb)); have n_Bg3 := Aside0.mk (blk_below Bg3.out hb); have n_HB := Aside0.mk (below_step HB.out hb); have NN9 : Aside0 (w8.heap.size ≤ w9.heap.size) := ⟨hb.size⟩; clear hc3_0 hf3_0; clear hc3_1 hf3_1; clear U32 U34_0 U36_0 Bg3 HB; have U32 := n_U32; have U34_0 := n_U34_0; have U36_0 := n_U36_0; have Bg3 := n_Bg3; have HB := n_HB; clear n_U32 n_U34_0 n_U36_0 n_Bg3 n_HB; clear hb ho0; have U41 := nu0; clear nu0; obtain ⟨A41_0, c41_0, A41_1, c41_1, e0, e1⟩ := U41.out.slices; subst e0; subst e1) | ((with_reducible refine gate_dst (N := 10) rfl ?_); refine box_event ?hg (N := 10) ?hd (cs := #[.slice none 0 0, .slice none 0 0]) (t := 26) ?hr ?_; (case hd => rfl); (case hg => rfl); (case hr => first | (go_simp; done) | (go_simp; rfl)); intro g10 hg w10 hbox hb; have Gg10 : Aside0 (g10 = w9.heap.size) := ⟨hg⟩; have Kg10 := Aside0.mk (blk_lt hbox); clear hg; have n_U32 := Aside0.mk (U32.out.mvB (Frm.below hb)); have n_U34_0 := Aside0.mk (U34_0.out.mvB (Frm.below hb)); have n_U36_0 := Aside0.mk (U36_0.out.mvB (Frm.below hb)); have n_U41 := Aside0.mk (U41.out.mvB (Frm.below hb)); have n_Bg3 := Aside0.mk (blk_below Bg3.out hb); have n_HB := Aside0.mk (below_step HB.out hb); have NN10 : Aside0 (w9.heap.size ≤ w10.heap.size) := ⟨hb.size⟩; clear U32 U34_0 U36_0 U41 Bg3 HB; have U32 := n_U32; have U34_0 := n_U34_0; have U36_0 := n_U36_0; have U41 := n_U41; have Bg3 := n_Bg3; have HB := n_HB; clear n_U32 n_U34_0 n_U36_0 n_U41 n_Bg3 n_HB; have Bg10 := Aside0.mk hbox; clear hb hbox; have hc10_0 : w10.cell? ⟨g10, 0, none⟩ = some (.slice none 0 0) := (blk_cell Bg10.out 0).trans rfl; have hf10_0 := blk_frozen Bg10.out 0; have hc10_1 : w10.cell? ⟨g10, 1, none⟩ = some (.slice none 0 0) := (blk_cell Bg10.out 1).trans rfl; have hf10_1 := blk_frozen Bg10.out 1) | ((with_reducible refine gate_store (t := 26) (p := 10) rfl ?_); refine store_event (t := 26) (p := 10) (v := ?vo_w11) (w1 := ((w10.setCell ⟨g10, 0, none⟩ (.slice A41_0 l0_0.length c41_0)).setCell ⟨g10, 1, none⟩ (.slice A41_1 l0_1.length c41_1))) ?hg ?ho ?hn ?hr ?_; (case ho => rfl); (case hg => rfl); (case hn => rfl); (case hr => first | (go_simp; done) | (go_simp; rfl)); intro w11 hw; have hge : w.heap.size ≤ g10 := (by have := NN1.out; have := Gg3.out; have := Kg3.out; have := NN2.out; have := NN3.out; have := NN4.out; have := NN5.out; have := NN6.out; have := NN7.out; have := NN8.out; have := NN9.out; have := NN10.out; have := Gg10.out; have := Kg10.out; have := HB.out.size; omega); have hF : Frm w10 w11 g10 (g10 + 1) := (by rw [hw]; exact (Frm.trans (Frm.set _ _ _ _) (Frm.set _ _ _ _))); have nb := Aside0.mk (show w11.heap[g10]? = some (.cells #[.slice A41_0 l0_0.length c41_0, .slice A41_1 l0_1.length c41_1] 26 (0, 0)) from (by rw [hw]; exact (blk_put (blk_put Bg10.out 0 _ rfl) 1 _ rfl))); have n_U32 := Aside0.mk (U32.out.mv hF (by have := NN1.out; have := Gg3.out; have := Kg3.out; have := NN2.out; have := NN3.out; have := NN4.out; have := NN5.out; have := NN6.out; have := NN7.out; have := NN8.out; have := NN9.out; have := NN10.out; have := Gg10.out; have := Kg10.out; omega)); have n_U34_0 := Aside0.mk (U34_0.out.mv hF (by have := NN1.out; have := Gg3.out; have := Kg3.out; have := NN2.out; have := NN3.out; have := NN4.out; have := NN5.out; have := NN6.out; have := NN7.out; have := NN8.out; have := NN9.out; have := NN10.out; have := Gg10.out; have := Kg10.out; omega)); have n_U36_0 := Aside0.mk (U36_0.out.mv hF (by have := NN1.out; have := Gg3.out; have := Kg3.out; have := NN2.out; have := NN3.out; have := NN4.out; have := NN5.out; have := NN6.out; have := NN7.out; have := NN8.out; have := NN9.out; have := NN10.out; have := Gg10.out; have := Kg10.out; omega)); have n_U41 := Aside0.mk (U41.out.mv hF (by have := NN1.out; have := Gg3.out; have := Kg3.out; have := NN2.out; have := NN3.out; have := NN4.out; have := NN5.out; have := NN6.out; have := NN7.out; have := NN8.out; have := NN9.out; have := NN10.out; have := Gg10.out; have := Kg10.out; omega)); have n_Bg3 := Aside0.mk ((hF.same g3 (blk_lt Bg3.out) (by have := NN1.out; have := Gg3.out; have := Kg3.out; have := NN2.out; have := NN3.out; have := NN4.out; have := NN5.out; have := NN6.out; have := NN7.out; have := NN8.out; have := NN9.out; have := NN10.out; have := Gg10.out; have := Kg10.out; omega)).trans Bg3.out); have n_HB := Aside0.mk ((by rw [hw]; exact (below_set (below_set HB.out hge) hge) : Below w.heap.size w w11)); have NN11 : Aside0 (w10.heap.size ≤ w11.heap.size) := ⟨hF.size⟩; clear hc10_0 hf10_0; clear hc10_1 hf10_1; clear U32 U34_0 U36_0 U41 Bg3 HB; have U32 := n_U32; have U34_0 := n_U34_0; have U36_0 := n_U36_0; have U41 := n_U41; have Bg3 := n_Bg3; have HB := n_HB; clear n_U32 n_U34_0 n_U36_0 n_U41 n_Bg3 n_HB; clear Bg10; have Bg10 := nb; clear nb hF hge hw) | ((with_reducible refine gate_callee (f := 46) rfl ?_); refine goesL_ (some 43) rfl rfl Try.func46 (by kernel_rfl) rfl #[.slice A1 l1.length c1] rfl (by (try simp only [List.map_toArray, List.map_cons, List.map_nil]); first | done | rfl) ?_; refine (laws_toFracS.calls k _ _ l1 y_l1 _ ?s1 ?s2 H8'.out).mono ?_; (case s1 => exact Kd.C_below HR1.out HB.out); (case s2 => exact HC1.out); rintro e w12 ⟨v43_0, rfl, ho0, hb⟩; refine ⟨_, rfl, ?_⟩; have nu0 := Aside0.mk (UR.of ho0 HB.out.size); have n_U32 := Aside0.mk (U32.out.mvB (Frm.below hb)); have n_U34_0 := Aside0.mk (U34_0.out.mvB (Frm.below hb)); have n_U36_0 := Aside0.mk (U36_0.out.mvB (Frm.below hb)); have n_U41 := Aside0.mk (U41.out.mvB (Frm.below hb)); have n_Bg3 := Aside0.mk (blk_below Bg3.out hb); have n_Bg10 := Aside0.mk (blk_below Bg10.out hb); have n_HB := Aside0.mk (below_step HB.out hb); have NN12 : Aside0 (w11.heap.size ≤ w12.heap.size) := ⟨hb.size⟩; clear U32 U34_0 U36_0 U41 Bg3 Bg10 HB; have U32 := n_U32; have U34_0 := n_U34_0; have U36_0 := n_U36_0; have U41 := n_U41; have Bg3 := n_Bg3; have Bg10 := n_Bg10; have HB := n_HB; clear n_U32 n_U34_0 n_U36_0 n_U41 n_Bg3 n_Bg10 n_HB; clear hb ho0; have U43_0 := nu0; clear nu0; obtain ⟨A43_0, c43_0, e0⟩ := Kd.R_slice U43_0.out; subst e0) | ((with_reducible refine gate_callee (f := 46) rfl ?_); refine goesL_ (some 45) rfl rfl Try.func46 (by kernel_rfl) rfl #[.slice A2 l2.length c2] rfl (by (try simp only [List.map_toArray, List.map_cons, List.map_nil]); first | done | rfl) ?_; refine (laws_toFracS.calls k _ _ l2 y_l2 _ ?s1 ?s2 H9'.out).mono ?_; (case s1 => exact Kd.C_below HR2.out HB.out); (case s2 => exact HC2.out); rintro e w13 ⟨v45_0, rfl, ho0, hb⟩; refine ⟨_, rfl, ?_⟩; have nu0 := Aside0.mk (UR.of ho0 HB.out.size); have n_U32 := Aside0.mk (U32.out.mvB (Frm.below hb)); have n_U34_0 := Aside0.mk (U34_0.out.mvB (Frm.below hb)); have n_U36_0 := Aside0.mk (U36_0.out.mvB (Frm.below hb)); have n_U41 := Aside0.mk (U41.out.mvB (Frm.below hb)); have n_U43_0 := Aside0.mk (U43_0.out.mvB (Frm.below hb)); have n_Bg3 := Aside0.mk (blk_below Bg3.out hb); have n_Bg10 := Aside0.mk (blk_below Bg10.out hb); have n_HB := Aside0.mk (below_step HB.out hb); have NN13 : Aside0 (w12.heap.size ≤ w13.heap.size) := ⟨hb.size⟩; clear U32 U34_0 U36_0 U41 U43_0 Bg3 Bg10 HB; have U32 := n_U32; have U34_0 := n_U34_0; have U36_0 := n_U36_0; have U41 := n_U41; have U43_0 := n_U43_0; have Bg3 := n_Bg3; have Bg10 := n_Bg10; have HB := n_HB; clear n_U32 n_U34_0 n_U36_0 n_U41 n_U43_0 n_Bg3 n_Bg10 n_HB; clear hb ho0; have U45_0 := nu0; clear nu0; obtain ⟨A45_0, c45_0, e0⟩ := Kd.R_slice U45_0.out; subst e0; have hc10_0 : w13.cell? ⟨g10, 0, none⟩ = some (.slice A41_0 l0_0.length c41_0) := (blk_cell Bg10.out 0).trans rfl; have hf10_0 := blk_frozen Bg10.out 0; have hc10_1 : w13.cell? ⟨g10, 1, none⟩ = some (.slice A41_1 l0_1.length c41_1) := (blk_cell Bg10.out 1).trans rfl; have hf10_1 := blk_frozen Bg10.out 1) | ((with_reducible refine gate_callee (f := 51) rfl ?_); refine goesL_ (some 50) rfl rfl Try.func51 (by kernel_rfl) rfl #[.agg #[.slice A41_0 l0_0.length c41_0, .slice A41_1 l0_1.length c41_1], .slice A43_0 y_l1.length c43_0, .slice A45_0 y_l2.length c45_0] rfl (by (try simp only [List.map_toArray, List.map_cons, List.map_nil]); first | done | rfl) ?_; refine (impl_IsEquilibrium.calls k _ _ l0_0 _ _ l0_1 _ _ y_l1 _ _ y_l2 s0 s1 _ ?s1 ?s2 ?s3 ?s4 ?s5 ?s6 ?s7 ?s8 H11'.out).mono ?_; (case s1 => exact U41.out.C0); (case s2 => exact U41.out.cap0); (case s3 => exact U41.out.C1); (case s4 => exact U41.out.cap1); (case s5 => exact UR.C U43_0.out); (case s6 => exact UR.cap U43_0.out); (case s7 => exact UR.C U45_0.out); (case s8 => exact UR.cap U45_0.out); rintro e w14 ⟨rfl, hb⟩; refine ⟨_, rfl, ?_⟩; have n_U32 := Aside0.mk (U32.out.mvB (Frm.below hb)); have n_U34_0 := Aside0.mk (U34_0.out.mvB (Frm.below hb)); have n_U36_0 := Aside0.mk (U36_0.out.mvB (Frm.below hb)); have n_U41 := Aside0.mk (U41.out.mvB (Frm.below hb)); have n_U43_0 := Aside0.mk (U43_0.out.mvB (Frm.below hb)); have n_U45_0 := Aside0.mk (U45_0.out.mvB (Frm.below hb)); have n_Bg3 := Aside0.mk (blk_below Bg3.out hb); have n_Bg10 := Aside0.mk (blk_below Bg10.out hb); have n_HB := Aside0.mk (below_step HB.out hb); have NN14 : Aside0 (w13.heap.size ≤ w14.heap.size) := ⟨hb.size⟩; clear hc10_0 hf10_0; clear hc10_1 hf10_1; clear U32 U34_0 U36_0 U41 U43_0 U45_0 Bg3 Bg10 HB; have U32 := n_U32; have U34_0 := n_U34_0; have U36_0 := n_U36_0; have U41 := n_U41; have U43_0 := n_U43_0; have U45_0 := n_U45_0; have Bg3 := n_Bg3; have Bg10 := n_Bg10; have HB := n_HB; clear n_U32 n_U34_0 n_U36_0 n_U41 n_U43_0 n_U45_0 n_Bg3 n_Bg10 n_HB; clear hb))
 try go_wp2
 have hb : Below w14.heap.size w14 w14.drew := (Below.refl _ _).drew
 have n_U32 := Aside0.mk (U32.out.mvB (Frm.below hb))
 have n_U34_0 := Aside0.mk (U34_0.out.mvB (Frm.below hb))
 have n_U36_0 := Aside0.mk (U36_0.out.mvB (Frm.below hb))
 have n_U41 := Aside0.mk (U41.out.mvB (Frm.below hb))
 have n_U43_0 := Aside0.mk (U43_0.out.mvB (Frm.below hb))
 have n_U45_0 := Aside0.mk (U45_0.out.mvB (Frm.below hb))
 have n_Bg3 := Aside0.mk (blk_below Bg3.out hb)
 have n_Bg10 := Aside0.mk (blk_below Bg10.out hb)
 have n_HB := Aside0.mk (below_step HB.out hb)
 have NN15 : Aside0 (w14.heap.size ≤ w14.drew.heap.size) := ⟨hb.size⟩
 clear U32 U34_0 U36_0 U41 U43_0 U45_0 Bg3 Bg10 HB
 have U32 := n_U32
 have U34_0 := n_U34_0
 have U36_0 := n_U36_0
 have U41 := n_U41
 have U43_0 := n_U43_0
 have U45_0 := n_U45_0
 have Bg3 := n_Bg3
 have Bg10 := n_Bg10
 have HB := n_HB
 clear n_U32 n_U34_0 n_U36_0 n_U41 n_U43_0 n_U45_0 n_Bg3 n_Bg10 n_HB
 clear hb
 refine start_ (n := 5) (S := fun w' => w'.cell? ⟨g10, 0, none⟩ = some (.slice A41_0 l0_0.length c41_0) ∧ w'.cell? ⟨g10, 1, none⟩ = some (.slice A41_1 l0_1.length c41_1) ∧ w'.cell? ⟨g3, 0, none⟩ = some (.slice A0_0 l0_0.length c0_0) ∧ w'.cell? ⟨g3, 1, none⟩ = some (.slice A0_1 l0_1.length c0_1)) (ds := []) #[false, false, false, false, false] (by kernel_rfl) rfl rfl ⟨(blk_cell Bg10.out 0).trans rfl, (blk_cell Bg10.out 1).trans rfl, (blk_cell Bg3.out 0).trans rfl, (blk_cell Bg3.out 1).trans rfl⟩ (fun hHeld => ?_)
 generalize w14.drew = w15 at U32 U34_0 U36_0 U41 U43_0 U45_0 Bg3 Bg10 HB NN15 hHeld ⊢
 have hc3_0 : w15.cell? ⟨g3, 0, none⟩ = some (.slice A0_0 l0_0.length c0_0) := (blk_cell Bg3.out 0).trans rfl
 have hf3_0 := blk_frozen Bg3.out 0
 have hc3_1 : w15.cell? ⟨g3, 1, none⟩ = some (.slice A0_1 l0_1.length c0_1) := (blk_cell Bg3.out 1).trans rfl
 have hf3_1 := blk_frozen Bg3.out 1
 have hc10_0 : w15.cell? ⟨g10, 0, none⟩ = some (.slice A41_0 l0_0.length c41_0) := (blk_cell Bg10.out 0).trans rfl
 have hf10_0 := blk_frozen Bg10.out 0
 have hc10_1 : w15.cell? ⟨g10, 1, none⟩ = some (.slice A41_1 l0_1.length c41_1) := (blk_cell Bg10.out 1).trans rfl
 have hf10_1 := blk_frozen Bg10.out 1
 refine take_ (i := 0) (N := some 61) (v := ?_) (a' := ?_) #[true, false, false, false, false] rfl rfl (by kernel_rfl) (fun _ _ _ h => h) (Or.inl ⟨by rfl, ?_⟩) hHeld ?_ ?_
 rotate_left
 ·rintro w' ⟨s0, s1, s2, s3⟩
  go_simp
  with_reducible rfl
 rotate_left
 ·simp only [Act.put, List.setIfInBounds_toArray, List.set_cons_zero, List.set_cons_succ, i64_w, i32_w]
  rfl
 refine take_ (i := 1) (N := some 62) (v := ?_) (a' := ?_) #[true, true, false, false, false] rfl rfl (by kernel_rfl) (fun _ _ _ h => h) (Or.inl ⟨by rfl, ?_⟩) hHeld ?_ ?_
 rotate_left
 ·rintro w' ⟨s0, s1, s2, s3⟩
  go_simp
  with_reducible rfl
 rotate_left
 ·simp only [Act.put, List.setIfInBounds_toArray, List.set_cons_zero, List.set_cons_succ, i64_w, i32_w]
  rfl
 refine one_ (i := 2) (N := some 63) #[true, true, true, false, false] rfl rfl (by kernel_rfl) (by decide) (fun K hK => ?_)
 refine goes_ Try.func17 (by kernel_rfl) rfl #[.agg #[.slice A0_0 l0_0.length c0_0, .slice A0_1 l0_1.length c0_1]] (by rfl) rfl rfl (by (try simp only [List.map_toArray, List.map_cons, List.map_nil]); first | done | rfl) ?_
 (refine (laws_toGame2.calls k _ _ l0_0 _ _ l0_1 _ ?s1 ?s2 ?s3 ?s4 H7'.out).mono ?_; (case s1 => exact Kd.C_below HR0_0.out HB.out); (case s2 => exact HC0_0.out); (case s3 => exact Kd.C_below HR0_1.out HB.out); (case s4 => exact HC0_1.out); rintro e w16 ⟨v63_0, v63_1, rfl, ho0, hb⟩; refine ⟨_, rfl, ?_⟩; have nu0 := Aside0.mk (UG.of ho0 HB.out.size); have n_U32 := Aside0.mk (U32.out.mvB (Frm.below hb)); have n_U34_0 := Aside0.mk (U34_0.out.mvB (Frm.below hb)); have n_U36_0 := Aside0.mk (U36_0.out.mvB (Frm.below hb)); have n_U41 := Aside0.mk (U41.out.mvB (Frm.below hb)); have n_U43_0 := Aside0.mk (U43_0.out.mvB (Frm.below hb)); have n_U45_0 := Aside0.mk (U45_0.out.mvB (Frm.below hb)); have n_Bg3 := Aside0.mk (blk_below Bg3.out hb); have n_Bg10 := Aside0.mk (blk_below Bg10.out hb); have n_HB := Aside0.mk (below_step HB.out hb); have NN16 : Aside0 (w15.heap.size ≤ w16.heap.size) := ⟨hb.size⟩; clear hc3_0 hf3_0; clear hc3_1 hf3_1; clear hc10_0 hf10_0; clear hc10_1 hf10_1; clear U32 U34_0 U36_0 U41 U43_0 U45_0 Bg3 Bg10 HB; have U32 := n_U32; have U34_0 := n_U34_0; have U36_0 := n_U36_0; have U41 := n_U41; have U43_0 := n_U43_0; have U45_0 := n_U45_0; have Bg3 := n_Bg3; have Bg10 := n_Bg10; have HB := n_HB; clear n_U32 n_U34_0 n_U36_0 n_U41 n_U43_0 n_U45_0 n_Bg3 n_Bg10 n_HB; clear hb ho0; have U63 := nu0; clear nu0; obtain ⟨A63_0, c63_0, A63_1, c63_1, e0, e1⟩ := U63.out.slices; subst e0; subst e1)
 refine hK.out _ _ ⟨(blk_cell Bg10.out 0).trans rfl, (blk_cell Bg10.out 1).trans rfl, (blk_cell Bg3.out 0).trans rfl, (blk_cell Bg3.out 1).trans rfl⟩ (fun hHeld => ?_)
 clear hK K
 refine norm_ (a' := ?_) ?_ ?_
 rotate_left
 ·show Act.put _ (some 63) _ = _
  simp only [Act.put, List.setIfInBounds_toArray, List.set_cons_zero, List.set_cons_succ, i64_w, i32_w]
  rfl
 refine one_ (i := 3) (N := some 64) #[true, true, true, true, false] rfl rfl (by kernel_rfl) (by decide) (fun K hK => ?_)
 refine goes_ Try.func19 (by kernel_rfl) rfl #[.agg #[.slice A41_0 l0_0.length c41_0, .slice A41_1 l0_1.length c41_1], .agg #[.slice A63_0 l0_0.length c63_0, .slice A63_1 l0_1.length c63_1]] (by rfl) rfl rfl (by (try simp only [List.map_toArray, List.map_cons, List.map_nil]); first | done | rfl) ?_
 (refine (laws_eqGame.calls k _ _ l0_0 _ _ l0_1 _ _ l0_0 _ _ l0_1 true _ ?s1 ?s2 ?s3 ?s4 ?s5 ?s6 ?s7 ?s8 H12'.out).mono ?_; (case s1 => exact U41.out.C0); (case s2 => exact U41.out.cap0); (case s3 => exact U41.out.C1); (case s4 => exact U41.out.cap1); (case s5 => exact U63.out.C0); (case s6 => exact U63.out.cap0); (case s7 => exact U63.out.C1); (case s8 => exact U63.out.cap1); rintro e w17 ⟨rfl, hb⟩; refine ⟨_, rfl, ?_⟩; have n_U32 := Aside0.mk (U32.out.mvB (Frm.below hb)); have n_U34_0 := Aside0.mk (U34_0.out.mvB (Frm.below hb)); have n_U36_0 := Aside0.mk (U36_0.out.mvB (Frm.below hb)); have n_U41 := Aside0.mk (U41.out.mvB (Frm.below hb)); have n_U43_0 := Aside0.mk (U43_0.out.mvB (Frm.below hb)); have n_U45_0 := Aside0.mk (U45_0.out.mvB (Frm.below hb)); have n_U63 := Aside0.mk (U63.out.mvB (Frm.below hb)); have n_Bg3 := Aside0.mk (blk_below Bg3.out hb); have n_Bg10 := Aside0.mk (blk_below Bg10.out hb); have n_HB := Aside0.mk (below_step HB.out hb); have NN17 : Aside0 (w16.heap.size ≤ w17.heap.size) := ⟨hb.size⟩; clear U32 U34_0 U36_0 U41 U43_0 U45_0 U63 Bg3 Bg10 HB; have U32 := n_U32; have U34_0 := n_U34_0; have U36_0 := n_U36_0; have U41 := n_U41; have U43_0 := n_U43_0; have U45_0 := n_U45_0; have U63 := n_U63; have Bg3 := n_Bg3; have Bg10 := n_Bg10; have HB := n_HB; clear n_U32 n_U34_0 n_U36_0 n_U41 n_U43_0 n_U45_0 n_U63 n_Bg3 n_Bg10 n_HB; clear hb)
 refine hK.out _ _ ⟨(blk_cell Bg10.out 0).trans rfl, (blk_cell Bg10.out 1).trans rfl, (blk_cell Bg3.out 0).trans rfl, (blk_cell Bg3.out 1).trans rfl⟩ (fun hHeld => ?_)
 clear hK K
 refine norm_ (a' := ?_) ?_ ?_
 rotate_left
 ·show Act.put _ (some 64) _ = _
  simp only [Act.put, List.setIfInBounds_toArray, List.set_cons_zero, List.set_cons_succ, i64_w, i32_w]
  rfl
 refine pure_ (i := 4) (N := some 65) (v := ?_) (a' := ?_) #[true, true, true, true, true] rfl rfl (by kernel_rfl) (fun _ _ _ h => h) (Or.inl ⟨by rfl, ?_⟩) ?_ ?_
 rotate_left
 ·intro w'
  go_simp
  with_reducible rfl
 rotate_left
 ·simp only [Act.put, List.setIfInBounds_toArray, List.set_cons_zero, List.set_cons_succ, i64_w, i32_w]
  rfl
 refine done_ (by kernel_rfl) ?_
 go_wp2_with (first | ((with_reducible refine gate_callee (f := 46) rfl ?_); refine goesL_ (some 68) rfl rfl Try.func46 (by kernel_rfl) rfl #[.slice A1 l1.length c1] rfl (by (try simp only [List.map_toArray, List.map_cons, List.map_nil]); first | done | rfl) ?_; refine (laws_toFracS.calls k _ _ l1 y_l1 _ ?s1 ?s2 H8'.out).mono ?_; (case s1 => exact Kd.C_below HR1.out HB.out); (case s2 => exact HC1.out); rintro e w18 ⟨v68_0, rfl, ho0, hb⟩; refine ⟨_, rfl, ?_⟩; have nu0 := Aside0.mk (UR.of ho0 HB.out.size); have n_U32 := Aside0.mk (U32.out.mvB (Frm.below hb)); have n_U34_0 := Aside0.mk (U34_0.out.mvB (Frm.below hb)); have n_U36_0 := Aside0.mk (U36_0.out.mvB (Frm.below hb)); have n_U41 := Aside0.mk (U41.out.mvB (Frm.below hb)); have n_U43_0 := Aside0.mk (U43_0.out.mvB (Frm.below hb)); have n_U45_0 := Aside0.mk (U45_0.out.mvB (Frm.below hb)); have n_U63 := Aside0.mk (U63.out.mvB (Frm.below hb)); have n_Bg3 := Aside0.mk (blk_below Bg3.out hb); have n_Bg10 := Aside0.mk (blk_below Bg10.out hb); have n_HB := Aside0.mk (below_step HB.out hb); have NN18 : Aside0 (w17.heap.size ≤ w18.heap.size) := ⟨hb.size⟩; clear U32 U34_0 U36_0 U41 U43_0 U45_0 U63 Bg3 Bg10 HB; have U32 := n_U32; have U34_0 := n_U34_0; have U36_0 := n_U36_0; have U41 := n_U41; have U43_0 := n_U43_0; have U45_0 := n_U45_0; have U63 := n_U63; have Bg3 := n_Bg3; have Bg10 := n_Bg10; have HB := n_HB; clear n_U32 n_U34_0 n_U36_0 n_U41 n_U43_0 n_U45_0 n_U63 n_Bg3 n_Bg10 n_HB; clear hb ho0; have U68_0 := nu0; clear nu0; obtain ⟨A68_0, c68_0, e0⟩ := Kd.R_slice U68_0.out; subst e0) | ((with_reducible refine gate_callee (f := 49) rfl ?_); refine goesL_ (some 69) rfl rfl Try.func49 (by kernel_rfl) rfl #[.slice A43_0 y_l1.length c43_0, .slice A68_0 y_l1.length c68_0] rfl (by (try simp only [List.map_toArray, List.map_cons, List.map_nil]); first | done | rfl) ?_; refine (laws_eqFracS.calls k _ _ y_l1 _ _ y_l1 true _ ?s1 ?s2 ?s3 ?s4 H13'.out).mono ?_; (case s1 => exact UR.C U43_0.out); (case s2 => exact UR.cap U43_0.out); (case s3 => exact UR.C U68_0.out); (case s4 => exact UR.cap U68_0.out); rintro e w19 ⟨rfl, hb⟩; refine ⟨_, rfl, ?_⟩; have n_U32 := Aside0.mk (U32.out.mvB (Frm.below hb)); have n_U34_0 := Aside0.mk (U34_0.out.mvB (Frm.below hb)); have n_U36_0 := Aside0.mk (U36_0.out.mvB (Frm.below hb)); have n_U41 := Aside0.mk (U41.out.mvB (Frm.below hb)); have n_U43_0 := Aside0.mk (U43_0.out.mvB (Frm.below hb)); have n_U45_0 := Aside0.mk (U45_0.out.mvB (Frm.below hb)); have n_U63 := Aside0.mk (U63.out.mvB (Frm.below hb)); have n_U68_0 := Aside0.mk (U68_0.out.mvB (Frm.below hb)); have n_Bg3 := Aside0.mk (blk_below Bg3.out hb); have n_Bg10 := Aside0.mk (blk_below Bg10.out hb); have n_HB := Aside0.mk (below_step HB.out hb); have NN19 : Aside0 (w18.heap.size ≤ w19.heap.size) := ⟨hb.size⟩; clear U32 U34_0 U36_0 U41 U43_0 U45_0 U63 U68_0 Bg3 Bg10 HB; have U32 := n_U32; have U34_0 := n_U34_0; have U36_0 := n_U36_0; have U41 := n_U41; have U43_0 := n_U43_0; have U45_0 := n_U45_0; have U63 := n_U63; have U68_0 := n_U68_0; have Bg3 := n_Bg3; have Bg10 := n_Bg10; have HB := n_HB; clear n_U32 n_U34_0 n_U36_0 n_U41 n_U43_0 n_U45_0 n_U63 n_U68_0 n_Bg3 n_Bg10 n_HB; clear hb) | ((with_reducible refine gate_callee (f := 46) rfl ?_); refine goesL_ (some 73) rfl rfl Try.func46 (by kernel_rfl) rfl #[.slice A2 l2.length c2] rfl (by (try simp only [List.map_toArray, List.map_cons, List.map_nil]); first | done | rfl) ?_; refine (laws_toFracS.calls k _ _ l2 y_l2 _ ?s1 ?s2 H9'.out).mono ?_; (case s1 => exact Kd.C_below HR2.out HB.out); (case s2 => exact HC2.out); rintro e w20 ⟨v73_0, rfl, ho0, hb⟩; refine ⟨_, rfl, ?_⟩; have nu0 := Aside0.mk (UR.of ho0 HB.out.size); have n_U32 := Aside0.mk (U32.out.mvB (Frm.below hb)); have n_U34_0 := Aside0.mk (U34_0.out.mvB (Frm.below hb)); have n_U36_0 := Aside0.mk (U36_0.out.mvB (Frm.below hb)); have n_U41 := Aside0.mk (U41.out.mvB (Frm.below hb)); have n_U43_0 := Aside0.mk (U43_0.out.mvB (Frm.below hb)); have n_U45_0 := Aside0.mk (U45_0.out.mvB (Frm.below hb)); have n_U63 := Aside0.mk (U63.out.mvB (Frm.below hb)); have n_U68_0 := Aside0.mk (U68_0.out.mvB (Frm.below hb)); have n_Bg3 := Aside0.mk (blk_below Bg3.out hb); have n_Bg10 := Aside0.mk (blk_below Bg10.out hb); have n_HB := Aside0.mk (below_step HB.out hb); have NN20 : Aside0 (w19.heap.size ≤ w20.heap.size) := ⟨hb.size⟩; clear U32 U34_0 U36_0 U41 U43_0 U45_0 U63 U68_0 Bg3 Bg10 HB; have U32 := n_U32; have U34_0 := n_U34_0; have U36_0 := n_U36_0; have U41 := n_U41; have U43_0 := n_U43_0; have U45_0 := n_U45_0; have U63 := n_U63; have U68_0 := n_U68_0; have Bg3 := n_Bg3; have Bg10 := n_Bg10; have HB := n_HB; clear n_U32 n_U34_0 n_U36_0 n_U41 n_U43_0 n_U45_0 n_U63 n_U68_0 n_Bg3 n_Bg10 n_HB; clear hb ho0; have U73_0 := nu0; clear nu0; obtain ⟨A73_0, c73_0, e0⟩ := Kd.R_slice U73_0.out; subst e0) | ((with_reducible refine gate_callee (f := 49) rfl ?_); refine goesL_ (some 74) rfl rfl Try.func49 (by kernel_rfl) rfl #[.slice A45_0 y_l2.length c45_0, .slice A73_0 y_l2.length c73_0] rfl (by (try simp only [List.map_toArray, List.map_cons, List.map_nil]); first | done | rfl) ?_; refine (laws_eqFracS.calls k _ _ y_l2 _ _ y_l2 true _ ?s1 ?s2 ?s3 ?s4 H14'.out).mono ?_; (case s1 => exact UR.C U45_0.out); (case s2 => exact UR.cap U45_0.out); (case s3 => exact UR.C U73_0.out); (case s4 => exact UR.cap U73_0.out); rintro e w21 ⟨rfl, hb⟩; refine ⟨_, rfl, ?_⟩; have n_U32 := Aside0.mk (U32.out.mvB (Frm.below hb)); have n_U34_0 := Aside0.mk (U34_0.out.mvB (Frm.below hb)); have n_U36_0 := Aside0.mk (U36_0.out.mvB (Frm.below hb)); have n_U41 := Aside0.mk (U41.out.mvB (Frm.below hb)); have n_U43_0 := Aside0.mk (U43_0.out.mvB (Frm.below hb)); have n_U45_0 := Aside0.mk (U45_0.out.mvB (Frm.below hb)); have n_U63 := Aside0.mk (U63.out.mvB (Frm.below hb)); have n_U68_0 := Aside0.mk (U68_0.out.mvB (Frm.below hb)); have n_U73_0 := Aside0.mk (U73_0.out.mvB (Frm.below hb)); have n_Bg3 := Aside0.mk (blk_below Bg3.out hb); have n_Bg10 := Aside0.mk (blk_below Bg10.out hb); have n_HB := Aside0.mk (below_step HB.out hb); have NN21 : Aside0 (w20.heap.size ≤ w21.heap.size) := ⟨hb.size⟩; clear U32 U34_0 U36_0 U41 U43_0 U45_0 U63 U68_0 U73_0 Bg3 Bg10 HB; have U32 := n_U32; have U34_0 := n_U34_0; have U36_0 := n_U36_0; have U41 := n_U41; have U43_0 := n_U43_0; have U45_0 := n_U45_0; have U63 := n_U63; have U68_0 := n_U68_0; have U73_0 := n_U73_0; have Bg3 := n_Bg3; have Bg10 := n_Bg10; have HB := n_HB; clear n_U32 n_U34_0 n_U36_0 n_U41 n_U43_0 n_U45_0 n_U63 n_U68_0 n_U73_0 n_Bg3 n_Bg10 n_HB; clear hb))
 go_ret
 exact ⟨rfl, HB.out⟩
theorem laws_FnExactIsEquilibrium.small0 (k : Nat) (A0_0 : Option Addr) (c0_0 : Nat) (l0_0 : List (List Int)) (A0_1 : Option Addr) (c0_1 : Nat) (l0_1 : List (List Int)) (A1 : Option Addr) (c1 : Nat) (l1 : List (S120)) (A2 : Option Addr) (c2 : Nat) (l2 : List (S120)) (t17 : Int) (w : World) (hr0_0 : Kd.C (Kd.slice 2 (Kd.int .i64)) w A0_0 l0_0.length l0_0) (hc0_0 : l0_0.length ≤ c0_0) (hr0_1 : Kd.C (Kd.slice 2 (Kd.int .i64)) w A0_1 l0_1.length l0_1) (hc0_1 : l0_1.length ≤ c0_1) (hr1 : Kd.C k120 w A1 l1.length l1) (hc1 : l1.length ≤ c1) (hr2 : Kd.C k120 w A2 l2.length l2) (hc2 : l2.length ≤ c2) (h1 : laws_szGame.f k l0_0 l0_1 1048576 = some t17) (h2 : t17 < 0) :
  Calls Try.prog 9 #[.agg #[.slice A0_0 l0_0.length c0_0, .slice A0_1 l0_1.length c0_1], .slice A1 l1.length c1, .slice A2 l2.length c2] w fun e w' => e = .returned (.bool true) ∧ Below w.heap.size w w' := by
 have HR0_0 := Aside0.mk hr0_0
 have HC0_0 := Aside0.mk hc0_0
 clear hr0_0 hc0_0
 have HR0_1 := Aside0.mk hr0_1
 have HC0_1 := Aside0.mk hc0_1
 clear hr0_1 hc0_1
 have HR1 := Aside0.mk hr1
 have HC1 := Aside0.mk hc1
 clear hr1 hc1
 have HR2 := Aside0.mk hr2
 have HC2 := Aside0.mk hc2
 clear hr2 hc2
 have HB := Aside0.mk (Below.refl w.heap.size w)
 have H1' := Aside0.mk h1
 clear h1
 go_enter Try.func9, Try.ntmps9
 go_wp2_with (first | ((with_reducible refine gate_dst (N := 3) rfl ?_); refine box_event ?hg (N := 3) ?hd (cs := #[.slice A0_0 l0_0.length c0_0, .slice A0_1 l0_1.length c0_1]) (t := 24) ?hr ?_; (case hd => rfl); (case hg => rfl); (case hr => first | (go_simp; done) | (go_simp; rfl)); intro g3 hg w1 hbox hb; have Gg3 : Aside0 (g3 = w.heap.size) := ⟨hg⟩; have Kg3 := Aside0.mk (blk_lt hbox); clear hg; have n_HB := Aside0.mk (below_step HB.out hb); have NN1 : Aside0 (w.heap.size ≤ w1.heap.size) := ⟨hb.size⟩; clear HB; have HB := n_HB; clear n_HB; have Bg3 := Aside0.mk hbox; clear hb hbox; have hc3_0 : w1.cell? ⟨g3, 0, none⟩ = some (.slice A0_0 l0_0.length c0_0) := (blk_cell Bg3.out 0).trans rfl; have hf3_0 := blk_frozen Bg3.out 0; have hc3_1 : w1.cell? ⟨g3, 1, none⟩ = some (.slice A0_1 l0_1.length c0_1) := (blk_cell Bg3.out 1).trans rfl; have hf3_1 := blk_frozen Bg3.out 1) | ((with_reducible refine gate_callee (f := 15) rfl ?_); refine goesL_ (some 17) rfl rfl Try.func15 (by kernel_rfl) rfl #[.agg #[.slice A0_0 l0_0.length c0_0, .slice A0_1 l0_1.length c0_1], .int .i64 1048576] rfl (by (try simp only [List.map_toArray, List.map_cons, List.map_nil]); first | done | rfl) ?_; refine (laws_szGame.calls k _ _ l0_0 _ _ l0_1 1048576 t17 _ ?s1 ?s2 ?s3 ?s4 H1'.out).mono ?_; (case s1 => exact Kd.C_below HR0_0.out HB.out); (case s2 => exact HC0_0.out); (case s3 => exact Kd.C_below HR0_1.out HB.out); (case s4 => exact HC0_1.out); rintro e w2 ⟨rfl, hb⟩; refine ⟨_, rfl, ?_⟩; have n_Bg3 := Aside0.mk (blk_below Bg3.out hb); have n_HB := Aside0.mk (below_step HB.out hb); have NN2 : Aside0 (w1.heap.size ≤ w2.heap.size) := ⟨hb.size⟩; clear hc3_0 hf3_0; clear hc3_1 hf3_1; clear Bg3 HB; have Bg3 := n_Bg3; have HB := n_HB; clear n_Bg3 n_HB; clear hb))
 go_ret
 exact ⟨rfl, HB.out⟩
theorem laws_FnExactIsEquilibrium.small1 (k : Nat) (A0_0 : Option Addr) (c0_0 : Nat) (l0_0 : List (List Int)) (A0_1 : Option Addr) (c0_1 : Nat) (l0_1 : List (List Int)) (A1 : Option Addr) (c1 : Nat) (l1 : List (S120)) (A2 : Option Addr) (c2 : Nat) (l2 : List (S120)) (t17 : Int) (t22 : Int) (w : World) (hr0_0 : Kd.C (Kd.slice 2 (Kd.int .i64)) w A0_0 l0_0.length l0_0) (hc0_0 : l0_0.length ≤ c0_0) (hr0_1 : Kd.C (Kd.slice 2 (Kd.int .i64)) w A0_1 l0_1.length l0_1) (hc0_1 : l0_1.length ≤ c0_1) (hr1 : Kd.C k120 w A1 l1.length l1) (hc1 : l1.length ≤ c1) (hr2 : Kd.C k120 w A2 l2.length l2) (hc2 : l2.length ≤ c2) (h1 : laws_szGame.f k l0_0 l0_1 1048576 = some t17) (h2 : ¬ t17 < 0) (h3 : laws_szFracS.f l1 t17 = some t22) (h4 : t22 < 0) :
  Calls Try.prog 9 #[.agg #[.slice A0_0 l0_0.length c0_0, .slice A0_1 l0_1.length c0_1], .slice A1 l1.length c1, .slice A2 l2.length c2] w fun e w' => e = .returned (.bool true) ∧ Below w.heap.size w w' := by
 have HR0_0 := Aside0.mk hr0_0
 have HC0_0 := Aside0.mk hc0_0
 clear hr0_0 hc0_0
 have HR0_1 := Aside0.mk hr0_1
 have HC0_1 := Aside0.mk hc0_1
 clear hr0_1 hc0_1
 have HR1 := Aside0.mk hr1
 have HC1 := Aside0.mk hc1
 clear hr1 hc1
 have HR2 := Aside0.mk hr2
 have HC2 := Aside0.mk hc2
 clear hr2 hc2
 have HB := Aside0.mk (Below.refl w.heap.size w)
 have H1' := Aside0.mk h1
 clear h1
 have H3' := Aside0.mk h3
 clear h3
 go_enter Try.func9, Try.ntmps9
 go_wp2_with (first | ((with_reducible refine gate_dst (N := 3) rfl ?_); refine box_event ?hg (N := 3) ?hd (cs := #[.slice A0_0 l0_0.length c0_0, .slice A0_1 l0_1.length c0_1]) (t := 24) ?hr ?_; (case hd => rfl); (case hg => rfl); (case hr => first | (go_simp; done) | (go_simp; rfl)); intro g3 hg w1 hbox hb; have Gg3 : Aside0 (g3 = w.heap.size) := ⟨hg⟩; have Kg3 := Aside0.mk (blk_lt hbox); clear hg; have n_HB := Aside0.mk (below_step HB.out hb); have NN1 : Aside0 (w.heap.size ≤ w1.heap.size) := ⟨hb.size⟩; clear HB; have HB := n_HB; clear n_HB; have Bg3 := Aside0.mk hbox; clear hb hbox; have hc3_0 : w1.cell? ⟨g3, 0, none⟩ = some (.slice A0_0 l0_0.length c0_0) := (blk_cell Bg3.out 0).trans rfl; have hf3_0 := blk_frozen Bg3.out 0; have hc3_1 : w1.cell? ⟨g3, 1, none⟩ = some (.slice A0_1 l0_1.length c0_1) := (blk_cell Bg3.out 1).trans rfl; have hf3_1 := blk_frozen Bg3.out 1) | ((with_reducible refine gate_callee (f := 15) rfl ?_); refine goesL_ (some 17) rfl rfl Try.func15 (by kernel_rfl) rfl #[.agg #[.slice A0_0 l0_0.length c0_0, .slice A0_1 l0_1.length c0_1], .int .i64 1048576] rfl (by (try simp only [List.map_toArray, List.map_cons, List.map_nil]); first | done | rfl) ?_; refine (laws_szGame.calls k _ _ l0_0 _ _ l0_1 1048576 t17 _ ?s1 ?s2 ?s3 ?s4 H1'.out).mono ?_; (case s1 => exact Kd.C_below HR0_0.out HB.out); (case s2 => exact HC0_0.out); (case s3 => exact Kd.C_below HR0_1.out HB.out); (case s4 => exact HC0_1.out); rintro e w2 ⟨rfl, hb⟩; refine ⟨_, rfl, ?_⟩; have n_Bg3 := Aside0.mk (blk_below Bg3.out hb); have n_HB := Aside0.mk (below_step HB.out hb); have NN2 : Aside0 (w1.heap.size ≤ w2.heap.size) := ⟨hb.size⟩; clear hc3_0 hf3_0; clear hc3_1 hf3_1; clear Bg3 HB; have Bg3 := n_Bg3; have HB := n_HB; clear n_Bg3 n_HB; clear hb) | ((with_reducible refine gate_callee (f := 44) rfl ?_); refine goesL_ (some 22) rfl rfl Try.func44 (by kernel_rfl) rfl #[.slice A1 l1.length c1, .int .i64 t17] rfl (by (try simp only [List.map_toArray, List.map_cons, List.map_nil]); first | done | rfl) ?_; refine (laws_szFracS.calls _ _ l1 t17 t22 _ ?s1 ?s2 H3'.out).mono ?_; (case s1 => exact Kd.C_below HR1.out HB.out); (case s2 => exact HC1.out); rintro e w3 ⟨rfl, hb⟩; refine ⟨_, rfl, ?_⟩; have hb := hb.below; have n_Bg3 := Aside0.mk (blk_below Bg3.out hb); have n_HB := Aside0.mk (below_step HB.out hb); have NN3 : Aside0 (w2.heap.size ≤ w3.heap.size) := ⟨hb.size⟩; clear Bg3 HB; have Bg3 := n_Bg3; have HB := n_HB; clear n_Bg3 n_HB; clear hb))
 go_ret
 exact ⟨rfl, HB.out⟩
theorem laws_FnExactIsEquilibrium.small2 (k : Nat) (A0_0 : Option Addr) (c0_0 : Nat) (l0_0 : List (List Int)) (A0_1 : Option Addr) (c0_1 : Nat) (l0_1 : List (List Int)) (A1 : Option Addr) (c1 : Nat) (l1 : List (S120)) (A2 : Option Addr) (c2 : Nat) (l2 : List (S120)) (t17 : Int) (t22 : Int) (t27 : Int) (w : World) (hr0_0 : Kd.C (Kd.slice 2 (Kd.int .i64)) w A0_0 l0_0.length l0_0) (hc0_0 : l0_0.length ≤ c0_0) (hr0_1 : Kd.C (Kd.slice 2 (Kd.int .i64)) w A0_1 l0_1.length l0_1) (hc0_1 : l0_1.length ≤ c0_1) (hr1 : Kd.C k120 w A1 l1.length l1) (hc1 : l1.length ≤ c1) (hr2 : Kd.C k120 w A2 l2.length l2) (hc2 : l2.length ≤ c2) (h1 : laws_szGame.f k l0_0 l0_1 1048576 = some t17) (h2 : ¬ t17 < 0) (h3 : laws_szFracS.f l1 t17 = some t22) (h4 : ¬ t22 < 0) (h5 : laws_szFracS.f l2 t22 = some t27) (h6 : t27 < 0) :
  Calls Try.prog 9 #[.agg #[.slice A0_0 l0_0.length c0_0, .slice A0_1 l0_1.length c0_1], .slice A1 l1.length c1, .slice A2 l2.length c2] w fun e w' => e = .returned (.bool true) ∧ Below w.heap.size w w' := by
 have HR0_0 := Aside0.mk hr0_0
 have HC0_0 := Aside0.mk hc0_0
 clear hr0_0 hc0_0
 have HR0_1 := Aside0.mk hr0_1
 have HC0_1 := Aside0.mk hc0_1
 clear hr0_1 hc0_1
 have HR1 := Aside0.mk hr1
 have HC1 := Aside0.mk hc1
 clear hr1 hc1
 have HR2 := Aside0.mk hr2
 have HC2 := Aside0.mk hc2
 clear hr2 hc2
 have HB := Aside0.mk (Below.refl w.heap.size w)
 have H1' := Aside0.mk h1
 clear h1
 have H3' := Aside0.mk h3
 clear h3
 have H5' := Aside0.mk h5
 clear h5
 go_enter Try.func9, Try.ntmps9
 go_wp2_with (first | ((with_reducible refine gate_dst (N := 3) rfl ?_); refine box_event ?hg (N := 3) ?hd (cs := #[.slice A0_0 l0_0.length c0_0, .slice A0_1 l0_1.length c0_1]) (t := 24) ?hr ?_; (case hd => rfl); (case hg => rfl); (case hr => first | (go_simp; done) | (go_simp; rfl)); intro g3 hg w1 hbox hb; have Gg3 : Aside0 (g3 = w.heap.size) := ⟨hg⟩; have Kg3 := Aside0.mk (blk_lt hbox); clear hg; have n_HB := Aside0.mk (below_step HB.out hb); have NN1 : Aside0 (w.heap.size ≤ w1.heap.size) := ⟨hb.size⟩; clear HB; have HB := n_HB; clear n_HB; have Bg3 := Aside0.mk hbox; clear hb hbox; have hc3_0 : w1.cell? ⟨g3, 0, none⟩ = some (.slice A0_0 l0_0.length c0_0) := (blk_cell Bg3.out 0).trans rfl; have hf3_0 := blk_frozen Bg3.out 0; have hc3_1 : w1.cell? ⟨g3, 1, none⟩ = some (.slice A0_1 l0_1.length c0_1) := (blk_cell Bg3.out 1).trans rfl; have hf3_1 := blk_frozen Bg3.out 1) | ((with_reducible refine gate_callee (f := 15) rfl ?_); refine goesL_ (some 17) rfl rfl Try.func15 (by kernel_rfl) rfl #[.agg #[.slice A0_0 l0_0.length c0_0, .slice A0_1 l0_1.length c0_1], .int .i64 1048576] rfl (by (try simp only [List.map_toArray, List.map_cons, List.map_nil]); first | done | rfl) ?_; refine (laws_szGame.calls k _ _ l0_0 _ _ l0_1 1048576 t17 _ ?s1 ?s2 ?s3 ?s4 H1'.out).mono ?_; (case s1 => exact Kd.C_below HR0_0.out HB.out); (case s2 => exact HC0_0.out); (case s3 => exact Kd.C_below HR0_1.out HB.out); (case s4 => exact HC0_1.out); rintro e w2 ⟨rfl, hb⟩; refine ⟨_, rfl, ?_⟩; have n_Bg3 := Aside0.mk (blk_below Bg3.out hb); have n_HB := Aside0.mk (below_step HB.out hb); have NN2 : Aside0 (w1.heap.size ≤ w2.heap.size) := ⟨hb.size⟩; clear hc3_0 hf3_0; clear hc3_1 hf3_1; clear Bg3 HB; have Bg3 := n_Bg3; have HB := n_HB; clear n_Bg3 n_HB; clear hb) | ((with_reducible refine gate_callee (f := 44) rfl ?_); refine goesL_ (some 22) rfl rfl Try.func44 (by kernel_rfl) rfl #[.slice A1 l1.length c1, .int .i64 t17] rfl (by (try simp only [List.map_toArray, List.map_cons, List.map_nil]); first | done | rfl) ?_; refine (laws_szFracS.calls _ _ l1 t17 t22 _ ?s1 ?s2 H3'.out).mono ?_; (case s1 => exact Kd.C_below HR1.out HB.out); (case s2 => exact HC1.out); rintro e w3 ⟨rfl, hb⟩; refine ⟨_, rfl, ?_⟩; have hb := hb.below; have n_Bg3 := Aside0.mk (blk_below Bg3.out hb); have n_HB := Aside0.mk (below_step HB.out hb); have NN3 : Aside0 (w2.heap.size ≤ w3.heap.size) := ⟨hb.size⟩; clear Bg3 HB; have Bg3 := n_Bg3; have HB := n_HB; clear n_Bg3 n_HB; clear hb) | ((with_reducible refine gate_callee (f := 44) rfl ?_); refine goesL_ (some 27) rfl rfl Try.func44 (by kernel_rfl) rfl #[.slice A2 l2.length c2, .int .i64 t22] rfl (by (try simp only [List.map_toArray, List.map_cons, List.map_nil]); first | done | rfl) ?_; refine (laws_szFracS.calls _ _ l2 t22 t27 _ ?s1 ?s2 H5'.out).mono ?_; (case s1 => exact Kd.C_below HR2.out HB.out); (case s2 => exact HC2.out); rintro e w4 ⟨rfl, hb⟩; refine ⟨_, rfl, ?_⟩; have hb := hb.below; have n_Bg3 := Aside0.mk (blk_below Bg3.out hb); have n_HB := Aside0.mk (below_step HB.out hb); have NN4 : Aside0 (w3.heap.size ≤ w4.heap.size) := ⟨hb.size⟩; clear Bg3 HB; have Bg3 := n_Bg3; have HB := n_HB; clear n_Bg3 n_HB; clear hb; have hc3_0 : w4.cell? ⟨g3, 0, none⟩ = some (.slice A0_0 l0_0.length c0_0) := (blk_cell Bg3.out 0).trans rfl; have hf3_0 := blk_frozen Bg3.out 0; have hc3_1 : w4.cell? ⟨g3, 1, none⟩ = some (.slice A0_1 l0_1.length c0_1) := (blk_cell Bg3.out 1).trans rfl; have hf3_1 := blk_frozen Bg3.out 1))
 go_ret
 exact ⟨rfl, HB.out⟩
def laws_FnExactIsEquilibrium.ok_walk (k : Nat) (l0_0 : List (List Int)) (l0_1 : List (List Int)) (l1 : List (S120)) (l2 : List (S120)) : Prop := ∃ (t17 : Int) (t22 : Int) (t27 : Int) (y_l1 : List (S65)) (y_l2 : List (S65)) (s0 : Bool) (s1 : Int), (laws_szGame.f k l0_0 l0_1 1048576 = some t17) ∧ (¬ t17 < 0) ∧ (laws_szFracS.f l1 t17 = some t22) ∧ (¬ t22 < 0) ∧ (laws_szFracS.f l2 t22 = some t27) ∧ (¬ t27 < 0) ∧ (laws_toInt64SS.f k l0_0 = some l0_0 ∧ laws_toInt64SS.f k l0_1 = some l0_1) ∧ (laws_toFracS.f k l1 = some y_l1) ∧ (laws_toFracS.f k l2 = some y_l2) ∧ (spec_IsEquilibrium.f k l0_0 l0_1 y_l1 y_l2 = some (s0, s1)) ∧ (impl_IsEquilibrium.f k l0_0 l0_1 y_l1 y_l2 = some (s0, s1)) ∧ (laws_eqGame.f k l0_0 l0_1 l0_0 l0_1 = some true) ∧ (laws_eqFracS.f k y_l1 y_l1 = some true) ∧ (laws_eqFracS.f k y_l2 y_l2 = some true)
def laws_FnExactIsEquilibrium.ok_small0 (k : Nat) (l0_0 : List (List Int)) (l0_1 : List (List Int)) (l1 : List (S120)) (l2 : List (S120)) : Prop := ∃ (t17 : Int), (laws_szGame.f k l0_0 l0_1 1048576 = some t17) ∧ (t17 < 0)
def laws_FnExactIsEquilibrium.ok_small1 (k : Nat) (l0_0 : List (List Int)) (l0_1 : List (List Int)) (l1 : List (S120)) (l2 : List (S120)) : Prop := ∃ (t17 : Int) (t22 : Int), (laws_szGame.f k l0_0 l0_1 1048576 = some t17) ∧ (¬ t17 < 0) ∧ (laws_szFracS.f l1 t17 = some t22) ∧ (t22 < 0)
def laws_FnExactIsEquilibrium.ok_small2 (k : Nat) (l0_0 : List (List Int)) (l0_1 : List (List Int)) (l1 : List (S120)) (l2 : List (S120)) : Prop := ∃ (t17 : Int) (t22 : Int) (t27 : Int), (laws_szGame.f k l0_0 l0_1 1048576 = some t17) ∧ (¬ t17 < 0) ∧ (laws_szFracS.f l1 t17 = some t22) ∧ (¬ t22 < 0) ∧ (laws_szFracS.f l2 t22 = some t27) ∧ (t27 < 0)
open Classical in
noncomputable def laws_FnExactIsEquilibrium.f (k : Nat) (l0_0 : List (List Int)) (l0_1 : List (List Int)) (l1 : List (S120)) (l2 : List (S120)) : Option Bool := if laws_FnExactIsEquilibrium.ok_walk k l0_0 l0_1 l1 l2 ∨ laws_FnExactIsEquilibrium.ok_small0 k l0_0 l0_1 l1 l2 ∨ laws_FnExactIsEquilibrium.ok_small1 k l0_0 l0_1 l1 l2 ∨ laws_FnExactIsEquilibrium.ok_small2 k l0_0 l0_1 l1 l2 then some true else none
theorem laws_FnExactIsEquilibrium.calls (k : Nat) (A0_0 : Option Addr) (c0_0 : Nat) (l0_0 : List (List Int)) (A0_1 : Option Addr) (c0_1 : Nat) (l0_1 : List (List Int)) (A1 : Option Addr) (c1 : Nat) (l1 : List (S120)) (A2 : Option Addr) (c2 : Nat) (l2 : List (S120)) (r : Bool) (w : World) (hr0_0 : Kd.C (Kd.slice 2 (Kd.int .i64)) w A0_0 l0_0.length l0_0) (hc0_0 : l0_0.length ≤ c0_0) (hr0_1 : Kd.C (Kd.slice 2 (Kd.int .i64)) w A0_1 l0_1.length l0_1) (hc0_1 : l0_1.length ≤ c0_1) (hr1 : Kd.C k120 w A1 l1.length l1) (hc1 : l1.length ≤ c1) (hr2 : Kd.C k120 w A2 l2.length l2) (hc2 : l2.length ≤ c2) (h : laws_FnExactIsEquilibrium.f k l0_0 l0_1 l1 l2 = some r) :
  Calls Try.prog 9 #[.agg #[.slice A0_0 l0_0.length c0_0, .slice A0_1 l0_1.length c0_1], .slice A1 l1.length c1, .slice A2 l2.length c2] w fun e w' => e = .returned (.bool r) ∧ Below w.heap.size w w' := by
 unfold laws_FnExactIsEquilibrium.f at h
 split at h
 case isFalse => cases h
 rename_i hok
 cases h
 rcases hok with ⟨t17, t22, t27, y_l1, y_l2, s0, s1, h1, h2, h3, h4, h5, h6, h7, h8, h9, h10, h11, h12, h13, h14⟩ | ⟨t17, h1, h2⟩ | ⟨t17, t22, h1, h2, h3, h4⟩ | ⟨t17, t22, t27, h1, h2, h3, h4, h5, h6⟩
 ·exact laws_FnExactIsEquilibrium.walk k A0_0 c0_0 l0_0 A0_1 c0_1 l0_1 A1 c1 l1 A2 c2 l2 t17 t22 t27 y_l1 y_l2 s0 s1 w hr0_0 hc0_0 hr0_1 hc0_1 hr1 hc1 hr2 hc2 h1 h2 h3 h4 h5 h6 h7 h8 h9 h10 h11 h12 h13 h14
 ·exact laws_FnExactIsEquilibrium.small0 k A0_0 c0_0 l0_0 A0_1 c0_1 l0_1 A1 c1 l1 A2 c2 l2 t17 w hr0_0 hc0_0 hr0_1 hc0_1 hr1 hc1 hr2 hc2 h1 h2
 ·exact laws_FnExactIsEquilibrium.small1 k A0_0 c0_0 l0_0 A0_1 c0_1 l0_1 A1 c1 l1 A2 c2 l2 t17 t22 w hr0_0 hc0_0 hr0_1 hc0_1 hr1 hc1 hr2 hc2 h1 h2 h3 h4
 ·exact laws_FnExactIsEquilibrium.small2 k A0_0 c0_0 l0_0 A0_1 c0_1 l0_1 A1 c1 l1 A2 c2 l2 t17 t22 t27 w hr0_0 hc0_0 hr0_1 hc0_1 hr1 hc1 hr2 hc2 h1 h2 h3 h4 h5 h6
end Go.Proofs.Ytjjbhdpjnjncbaa.Pr
end
section
namespace Go.Proofs.Ytjjbhdpjnjncbaa.Say
open Go.Proofs.Ytjjbhdpjnjncbaa.Op Go.Proofs.Ytjjbhdpjnjncbaa.Pr
def FnExactIsEquilibrium : Prop := ∀ (l0_0 : List (List Int)) (l0_1 : List (List Int)) (l1 : List (S120)) (l2 : List (S120)), GoodList (GoodList (GoodInt .i64)) l0_0 → GoodList (GoodList (GoodInt .i64)) l0_1 → GoodList (fun x : Pr.S120 => (GoodInt .i64) x.f0 ∧ (GoodInt .i64) x.f1) l1 → GoodList (fun x : Pr.S120 => (GoodInt .i64) x.f0 ∧ (GoodInt .i64) x.f1) l2 → ∃ k, laws_FnExactIsEquilibrium.f k l0_0 l0_1 l1 l2 = some true
end Go.Proofs.Ytjjbhdpjnjncbaa.Say
end
section
namespace Go.Proofs.Ytjjbhdpjnjncbaa.Gm
open Go.RowKit Go.Proofs.YtjjbhdpjnjncbaaW.PrintWords Go.Proofs.YtjjbhdpjnjncbaaW.PrintMore Go.Proofs.Ytjjbhdpjnjncbaa.Ma Go.Proofs.Ytjjbhdpjnjncbaa.Pr Go.Proofs.Ytjjbhdpjnjncbaa.La
theorem sin_eq (x a b : Int) : spec_l01In.f x a b = some (decide (a ≤ x ∧ x ≤ b)) := by
 unfold spec_l01In.f
 by_cases h : a ≤ x
 ·rw [if_pos (by omega)]; simp [h]
 ·rw [if_neg (by omega)]; simp [h]
theorem iin_eq (x a b : Int) : impl_within.f x a b = some (decide (a ≤ x ∧ x ≤ b)) := by
 unfold impl_within.f
 by_cases h : a ≤ x
 ·rw [if_pos (by omega)]; simp [h]
 ·rw [if_neg (by omega)]; simp [h]
theorem head_step {P : Nat → Prop} {i d : Nat} (h : i < d) : (∀ j, i ≤ j → j < d → P j) ↔ P i ∧ ∀ j, i + 1 ≤ j → j < d → P j :=
 ⟨fun f => ⟨f i (Nat.le_refl _) h, fun j h1 h2 => f j (by omega) h2⟩, fun ⟨a, f⟩ j h1 h2 => by
  by_cases e : i = j
  ·subst e; exact a
  ·exact f j (by omega) h2⟩
theorem no_iff {b : Bool} {p : Prop} (h : b = true ↔ p) (hp : ¬ p) : b = false := by
 cases b
 ·rfl
 ·exact absurd (h.1 rfl) hp
def rw_ (a : List (List Int)) (i : Nat) : List Int := a.getD i []
def ent (a : List (List Int)) (i j : Nat) : Int := (rw_ a i).getD j 0
theorem rw_eq (a : List (List Int)) (i : Nat) : rd_L1 a (i : Int) = rw_ a i := rdL a i
theorem rw_at {a : List (List Int)} {i : Nat} (h : i < a.length) : rw_ a i = a[i] := by simp [rw_, h]
def E20 (n : Int) : Prop := 1 ≤ n ∧ n ≤ 20
def RowOK (a b : List (List Int)) (l i : Nat) : Prop := (rw_ a i).length = l ∧ (rw_ b i).length = l ∧ ∀ j, 0 ≤ j → j < l → E20 (ent a i j) ∧ E20 (ent b i j)
structure GameOK (a b : List (List Int)) : Prop where
 k1 : 1 ≤ a.length
 k4 : a.length ≤ 4
 same : b.length = a.length
 l1 : 1 ≤ (rw_ a 0).length
 l4 : (rw_ a 0).length ≤ 4
 sum : a.length + (rw_ a 0).length ≤ 5
 rows : ∀ i, 0 ≤ i → i < a.length → RowOK a b (rw_ a 0).length i
section
variable {a b : List (List Int)} {l : Nat} (hk : a.length ≤ 4) (hl : l ≤ 4) (hs : b.length = a.length)
include hk hl hs
theorem spec_row (i : Nat) (hi : i < a.length) (e1 : (rw_ a i).length = l) (e2 : (rw_ b i).length = l)
  (next : ∀ t, (t = true ↔ ∀ u, i + 1 ≤ u → u < a.length → RowOK a b l u) → Ev (fun k => spec_l07Is.l0 k (a.length : Int) l ((i + 1 : Nat) : Int) a b) t) :
  ∀ m j, j + m = l → ∀ t, (t = true ↔ (∀ c, j ≤ c → c < l → E20 (ent a i c) ∧ E20 (ent b i c)) ∧ ∀ u, i + 1 ≤ u → u < a.length → RowOK a b l u) → Ev (fun k => spec_l07Is.l1 k (a.length : Int) l i j a b) t := by
 intro m
 induction m with
 | zero =>
  intro j hj t ht
  refine evstep (fun k => by rw [spec_l07Is.l1]) (evneg (by omega) ?_)
  rw [w64 (by omega) (by omega)]
  exact next t (ht.trans ⟨fun h => h.2, fun h => ⟨fun c h1 h2 => by omega, h⟩⟩)
 | succ m ih =>
  intro j hj t ht
  have hjl : j < l := by omega
  rw [head_step (P := fun c => E20 (ent a i c) ∧ E20 (ent b i c)) hjl, and_assoc, and_assoc] at ht
  refine evstep (fun k => by rw [spec_l07Is.l1]) (evpos (by omega) (evpos (by omega) (evpos (by omega) (evpos (by omega) ?_))))
  rw [rw_eq, rw_eq, rd_nat, rd_nat]
  refine evpos (by omega) (evsome (sin_eq _ _ _) ?_)
  by_cases c1 : E20 (ent a i j)
  ·refine evpos (decide_eq_true (show 1 ≤ ent a i j ∧ ent a i j ≤ 20 from c1)) (evpos (by omega) (evpos (by omega) (evsome (sin_eq _ _ _) ?_)))
   by_cases c2 : E20 (ent b i j)
   ·refine evpos (decide_eq_true (show 1 ≤ ent b i j ∧ ent b i j ≤ 20 from c2)) ?_
    rw [w64 (by omega) (by omega)]
    exact ih (j + 1) (by omega) t (ht.trans ⟨fun h => h.2.2, fun h => ⟨c1, c2, h⟩⟩)
   ·refine evneg (fun h => c2 (of_decide_eq_true (p := 1 ≤ ent b i j ∧ ent b i j ≤ 20) h)) ?_
    rw [no_iff ht (fun h => c2 h.2.1)]
    exact evc rfl
  ·refine evneg (fun h => c1 (of_decide_eq_true (p := 1 ≤ ent a i j ∧ ent a i j ≤ 20) h)) ?_
   rw [no_iff ht (fun h => c1 h.1)]
   exact evc rfl
theorem spec_rows : ∀ m i, i + m = a.length → ∀ t, (t = true ↔ ∀ u, i ≤ u → u < a.length → RowOK a b l u) → Ev (fun k => spec_l07Is.l0 k (a.length : Int) l i a b) t := by
 intro m
 induction m with
 | zero =>
  intro i hi t ht
  refine evstep (fun k => by rw [spec_l07Is.l0]) (evneg (by omega) ?_)
  rw [ht.2 (fun u h1 h2 => by omega)]
  exact evc rfl
 | succ m ih =>
  intro i hi t ht
  have hlt : i < a.length := by omega
  rw [head_step (P := fun u => RowOK a b l u) hlt] at ht
  refine evstep (fun k => by rw [spec_l07Is.l0]) (evpos (by omega) (evpos (by omega) (evpos (by omega) ?_)))
  rw [rw_eq, rw_eq]
  by_cases c1 : (rw_ a i).length = l
  ·refine evpos (by omega) (evpos (by omega) (evstep (fun k => by rw [spec_l07Is.j3]) ?_))
   by_cases c2 : (rw_ b i).length = l
   ·refine evneg (by simp [c2]) ?_
    exact spec_row hk hl hs i hlt c1 c2 (ih (i + 1) (by omega)) l 0 (by omega) t (ht.trans ⟨fun h => ⟨h.1.2.2, h.2⟩, fun h => ⟨⟨c1, c2, h.1⟩, h.2⟩⟩)
   ·refine evpos (by simp; omega) ?_
    rw [no_iff ht (fun h => c2 h.1.2.1)]
    exact evc rfl
  ·refine evneg (by omega) (evstep (fun k => by rw [spec_l07Is.j3]) (evpos rfl ?_))
   rw [no_iff ht (fun h => c1 h.1.1)]
   exact evc rfl
end
theorem spec_is (a b : List (List Int)) (ha : a.length ≤ 1048576) (hr : ∀ x ∈ a, x.length ≤ 1048576) (t : Bool) (ht : t = true ↔ GameOK a b) : Ev (fun k => spec_l07Is.f k a b) t := by
 unfold spec_l07Is.f
 by_cases c1 : (a.length : Int) < 1
 ·refine evpos c1 (evstep (fun k => by rw [spec_l07Is.j0]) (evpos rfl ?_))
  rw [no_iff ht (fun h => by have := h.k1; omega)]
  exact evc rfl
 ·refine evneg c1 ?_
  by_cases c2 : (a.length : Int) > 4
  ·refine evpos c2 (evstep (fun k => by rw [spec_l07Is.j0]) (evpos rfl ?_))
   rw [no_iff ht (fun h => by have := h.k4; omega)]
   exact evc rfl
  ·refine evneg c2 (evstep (fun k => by rw [spec_l07Is.j0]) ?_)
   by_cases c3 : b.length = a.length
   ·refine evneg (by simp [c3]) (evpos (by omega) ?_)
    have e0 : rd_L1 a 0 = rw_ a 0 := rw_eq a 0
    have h0 : (rw_ a 0).length ≤ 1048576 := by rw [rw_at (by omega)]; exact hr _ (List.getElem_mem (by omega))
    rw [e0]
    by_cases c4 : ((rw_ a 0).length : Int) < 1
    ·refine evpos c4 (evstep (fun k => by rw [spec_l07Is.j1]) (evpos rfl ?_))
     rw [no_iff ht (fun h => by have := h.l1; omega)]
     exact evc rfl
    ·refine evneg c4 ?_
     by_cases c5 : ((rw_ a 0).length : Int) > 4
     ·refine evpos c5 (evstep (fun k => by rw [spec_l07Is.j1]) (evpos rfl ?_))
      rw [no_iff ht (fun h => by have := h.l4; omega)]
      exact evc rfl
     ·refine evneg c5 (evstep (fun k => by rw [spec_l07Is.j1]) ?_)
      rw [w64 (by omega) (by omega)]
      by_cases c6 : (a.length : Int) + ((rw_ a 0).length : Int) > 5
      ·refine evpos (decide_eq_true c6) ?_
       rw [no_iff ht (fun h => by have := h.sum; omega)]
       exact evc rfl
      ·refine evneg (by simpa using c6) ?_
       exact spec_rows (l := (rw_ a 0).length) (by omega) (by omega) c3 a.length 0 (by omega) t (ht.trans ⟨fun h => h.rows, fun h => ⟨by omega, by omega, c3, by omega, by omega, by omega, h⟩⟩)
   ·refine evpos (by simp; omega) ?_
    rw [no_iff ht (fun h => c3 h.same)]
    exact evc rfl
theorem badE_iff (n : Int) : badE n = false ↔ E20 n := by unfold badE E20; simp
theorem any_false {α : Type} (p : α → Bool) (l : List α) : l.any p = false ↔ ∀ i (h : i < l.length), p l[i] = false := by
 rw [List.any_eq_false]
 constructor
 ·intro h i hi
  have := h l[i] (List.getElem_mem hi)
  simpa using this
 ·intro h x hx
  obtain ⟨i, hi, rfl⟩ := List.getElem_of_mem hx
  simp [h i hi]
theorem badR_iff (k : Nat) (row : List Int) : badR (k : Int) row = false ↔ row.length = k ∧ ∀ j, 0 ≤ j → j < k → E20 (row.getD j 0) := by
 unfold badR
 rw [Bool.or_eq_false_iff, any_false]
 constructor
 ·rintro ⟨h1, h2⟩
  have e : row.length = k := by simp at h1; omega
  exact ⟨e, fun j _ hj => by have := (badE_iff _).1 (h2 j (by omega)); simpa [show j < row.length from by omega] using this⟩
 ·rintro ⟨h1, h2⟩
  exact ⟨by simp [h1], fun i hi => (badE_iff _).2 (by have := h2 i (Nat.zero_le _) (by omega); simpa [hi] using this)⟩
theorem table_f (a : List (List Int)) (k l : Nat) : ∃ t, impl_isTable.f a k l = some t ∧ (t = true ↔ a.length = k ∧ ∀ i, 0 ≤ i → i < a.length → (rw_ a i).length = l ∧ ∀ j, 0 ≤ j → j < l → E20 (ent a i j)) := by
 refine ⟨_, rfl, ?_⟩
 rw [Bool.and_eq_true, Bool.not_eq_true', any_false]
 constructor
 ·rintro ⟨h1, h2⟩
  refine ⟨by simp at h1; omega, fun i _ hi => ?_⟩
  have := (badR_iff l a[i]).1 (h2 i hi)
  rw [← rw_at hi] at this
  exact this
 ·rintro ⟨h1, h2⟩
  refine ⟨by simp [h1], fun i hi => (badR_iff l a[i]).2 ?_⟩
  have := h2 i (Nat.zero_le _) hi
  rw [← rw_at hi]
  exact this
theorem impl_is (a b : List (List Int)) (ha : a.length ≤ 1048576) (hr : ∀ x ∈ a, x.length ≤ 1048576) (t : Bool) (ht : t = true ↔ GameOK a b) : impl_IsGame.f a b = some t := by
 unfold impl_IsGame.f
 rw [iin_eq, Option.bind_some]
 by_cases c1 : 1 ≤ (a.length : Int) ∧ (a.length : Int) ≤ 4
 ·have e0 : rd_L1 a 0 = rw_ a 0 := rw_eq a 0
  have h0 : (rw_ a 0).length ≤ 1048576 := by rw [rw_at (by omega)]; exact hr _ (List.getElem_mem (by omega))
  rw [if_pos (decide_eq_true c1), if_pos (by omega), e0, iin_eq, Option.bind_some, w64 (by omega) (by omega)]
  by_cases c2 : 1 ≤ ((rw_ a 0).length : Int) ∧ ((rw_ a 0).length : Int) ≤ 4
  ·rw [if_pos (decide_eq_true c2)]
   by_cases c3 : (a.length : Int) + ((rw_ a 0).length : Int) ≤ 5
   ·rw [if_pos c3]
    obtain ⟨t1, h1, i1⟩ := table_f a a.length (rw_ a 0).length
    obtain ⟨t2, h2, i2⟩ := table_f b a.length (rw_ a 0).length
    rw [h1, Option.bind_some, h2]
    have key : GameOK a b ↔ t1 = true ∧ t2 = true := by
     rw [i1, i2]
     constructor
     ·intro h
      exact ⟨⟨rfl, fun i z hi => ⟨(h.rows i z hi).1, fun j z2 hj => ((h.rows i z hi).2.2 j z2 hj).1⟩⟩, h.same, fun i z hi => ⟨(h.rows i z (by have := h.same; omega)).2.1, fun j z2 hj => ((h.rows i z (by have := h.same; omega)).2.2 j z2 hj).2⟩⟩
     ·rintro ⟨⟨_, ha'⟩, hs, hb'⟩
      exact ⟨by omega, by omega, hs, by omega, by omega, by omega, fun i z hi => ⟨(ha' i z hi).1, (hb' i z (by omega)).1, fun j z2 hj => ⟨(ha' i z hi).2 j z2 hj, (hb' i z (by omega)).2 j z2 hj⟩⟩⟩
    rw [key] at ht
    cases t1
    ·rw [no_iff ht (fun h => by cases h.1)]; rfl
    ·cases t2
     ·rw [no_iff ht (fun h => by cases h.2)]; rfl
     ·rw [ht.2 ⟨rfl, rfl⟩]; rfl
   ·rw [if_neg c3, no_iff ht (fun h => c3 (by have := h.sum; omega))]
  ·rw [if_neg (by simpa using c2), no_iff ht (fun h => c2 (by have := h.l1; have := h.l4; omega))]
 ·rw [if_neg (by simpa using c1), no_iff ht (fun h => c1 (by have := h.k1; have := h.k4; omega))]
end Go.Proofs.Ytjjbhdpjnjncbaa.Gm
end
section
namespace Go.Proofs.Ytjjbhdpjnjncbaa.Mx
open Go.RowKit Go.Proofs.YtjjbhdpjnjncbaaW.PrintWords Go.Proofs.YtjjbhdpjnjncbaaW.PrintMore Go.Proofs.Ytjjbhdpjnjncbaa.Ma Go.Proofs.Ytjjbhdpjnjncbaa.Pr
theorem max_loop (l : List Int) (hl : l.length ≤ 1048576) : ∀ m i (x : Int), i + m = l.length → Ev (fun k => slices_Max_int64_int64.l0 k l x (i : Nat)) ((l.drop i).foldl mx x) := by
 intro m
 induction m with
 | zero =>
  intro i x hi
  rw [List.drop_eq_nil_of_le (by omega)]
  show Ev (fun k => slices_Max_int64_int64.l0 k l x (i : Nat)) x
  exact evstep (fun k => by rw [slices_Max_int64_int64.l0]) (evneg (by omega) (evc rfl))
 | succ m ih =>
  intro i x hi
  have hlt : i < l.length := by omega
  have e : l.getD i 0 = l[i] := by simp [hlt]
  have h := ih (i + 1) (mx x l[i]) (by omega)
  rw [List.drop_eq_getElem_cons hlt, List.foldl_cons]
  refine evstep (fun k => by rw [slices_Max_int64_int64.l0]) (evpos (by omega) (evpos (by omega) ?_))
  rw [rd_nat, w64 (by omega) (by omega), e]
  exact h
def top (l : List Int) : Int := (l.drop 1).foldl mx (l.getD 0 0)
theorem max_of (l : List Int) (h0 : 0 < l.length) (hl : l.length ≤ 1048576) : Ev (fun k => slices_Max_int64_int64.f k l) (top l) := by
 unfold slices_Max_int64_int64.f
 refine evneg (by omega) (evpos (by omega) ?_)
 have h1 := max_loop l hl (l.length - 1) 1 (rd l 0) (by omega)
 rw [show rd l 0 = l.getD 0 0 from rd_nat l 0] at h1
 rw [show rd l 0 = l.getD 0 0 from rd_nat l 0]
 exact h1
theorem mx_ge (a b : Int) : a ≤ mx a b ∧ b ≤ mx a b := by unfold mx; split <;> omega
theorem fold_ge : ∀ (l : List Int) (x : Int), x ≤ l.foldl mx x ∧ ∀ y ∈ l, y ≤ l.foldl mx x
 | [], x => ⟨Int.le_refl _, fun _ h => by cases h⟩
 | a :: l, x => by
  have h := fold_ge l (mx x a)
  have g := mx_ge x a
  refine ⟨Int.le_trans g.1 h.1, fun y hy => ?_⟩
  rcases List.mem_cons.1 hy with rfl | hy
  ·exact Int.le_trans g.2 h.1
  ·exact h.2 y hy
end Go.Proofs.Ytjjbhdpjnjncbaa.Mx
end
section
namespace Go.Proofs.Ytjjbhdpjnjncbaa.Mg
open Go.RowKit Go.Proofs.YtjjbhdpjnjncbaaW.PrintWords Go.Proofs.YtjjbhdpjnjncbaaW.PrintMore Go.Proofs.Ytjjbhdpjnjncbaa.Ma Go.Proofs.Ytjjbhdpjnjncbaa.Pr Go.Proofs.Ytjjbhdpjnjncbaa.La Go.Proofs.Ytjjbhdpjnjncbaa.Gm Go.Proofs.Ytjjbhdpjnjncbaa.Mx
def dt (u v : Nat → Int) : Nat → Int
 | 0 => 0
 | n + 1 => dt u v n + u n * v n
def Nm (x : Int) : Prop := 0 ≤ x ∧ x ≤ 1000000000
theorem dt_b {u v : Nat → Int} {n : Nat} (hu : ∀ i, i < n → E20 (u i)) (hv : ∀ i, i < n → Nm (v i)) (hn : n ≤ 4) : ∀ m, m ≤ n → 0 ≤ dt u v m ∧ dt u v m ≤ 20000000000 * (m : Int) := by
 intro m
 induction m with
 | zero => intro _; simp [dt]
 | succ m ih =>
  intro hm
  have h1 := ih (by omega)
  have h2 := hu m (by omega)
  have h3 := hv m (by omega)
  unfold E20 at h2; unfold Nm at h3
  have p1 : u m * v m ≤ 20 * 1000000000 := Int.mul_le_mul h2.2 h3.2 h3.1 (by decide)
  have p0 : 0 ≤ u m * v m := Int.mul_nonneg (by omega) h3.1
  unfold dt
  push_cast
  omega
theorem term_b {u v : Int} (hu : E20 u) (hv : Nm v) : 0 ≤ u * v ∧ u * v ≤ 20000000000 := by
 unfold E20 at hu; unfold Nm at hv
 have p1 : u * v ≤ 20 * 1000000000 := Int.mul_le_mul hu.2 hv.2 hv.1 (by decide)
 exact ⟨Int.mul_nonneg (by omega) hv.1, by omega⟩
def gl (n : Nat) (f : Nat → Int) : List Int := (List.range n).map f
def upd (n : Nat) (f g : Nat → Int) (i : Nat) : List Int := (List.range n).map fun u => if u < i then f u else g u
theorem upd_len (n : Nat) (f g : Nat → Int) (i : Nat) : (upd n f g i).length = n := by simp [upd]
theorem upd_zero (n : Nat) (f g : Nat → Int) : upd n f g 0 = gl n g := by simp [upd, gl]
theorem upd_end (n : Nat) (f g : Nat → Int) : upd n f g n = gl n f := by
 refine List.map_congr_left (fun u hu => ?_)
 rw [if_pos (List.mem_range.1 hu)]
theorem upd_at (n : Nat) (f g : Nat → Int) (i : Nat) (h : i < n) : (upd n f g i).getD i 0 = g i := by simp [upd, h]
theorem upd_set (n : Nat) (f g : Nat → Int) (i : Nat) (h : i < n) : (upd n f g i).set i (f i) = upd n f g (i + 1) := by
 apply List.ext_getElem
 ·simp [upd]
 ·intro k h1 h2
  have hk : k < n := by simpa [upd] using h2
  rw [List.getElem_set]
  simp only [upd, List.getElem_map, List.getElem_range]
  by_cases e : i = k
  ·subst e; rw [if_pos rfl, if_pos (by omega)]
  ·rw [if_neg e]
   by_cases c : k < i
   ·rw [if_pos c, if_pos (by omega)]
   ·rw [if_neg c, if_neg (by omega)]
theorem gl_len (n : Nat) (f : Nat → Int) : (gl n f).length = n := by simp [gl]
theorem gl_at (n : Nat) (f : Nat → Int) (i : Nat) (h : i < n) : (gl n f).getD i 0 = f i := by simp [gl, h]
theorem gl_succ (n : Nat) (f : Nat → Int) : gl (n + 1) f = gl n f ++ [f n] := by simp [gl, List.range_succ]
theorem gl_zero (n : Nat) : List.replicate n (0 : Int) = gl n (fun _ => 0) := by
 apply List.ext_getElem
 ·simp [gl]
 ·intro k h1 h2; simp [gl]
section
variable {m : List (List Int)} {k l : Nat} (hm1 : m.length = k) (hm2 : ∀ i, i < k → (rw_ m i).length = l) (hm3 : ∀ i j, i < k → j < l → E20 (ent m i j)) (hk : k ≤ 4) (hl : l ≤ 4)
def gR (m : List (List Int)) (Y : Nat → Int) (l : Nat) (i : Nat) : Int := dt (fun j => ent m i j) Y l
def gC (m : List (List Int)) (X : Nat → Int) (k : Nat) (j : Nat) : Int := dt (fun i => ent m i j) X k
include hm2 hm3 hl in
theorem sum_loop {y : List Int} {Y : Nat → Int} (hy : y.length = l) (hya : ∀ j, j < l → y.getD j 0 = Y j) (hY : ∀ j, j < l → Nm (Y j)) (i : Nat) (hi : i < k) :
  ∀ q j, j + q = l → Ev (fun n => impl_sum.l0 n y (dt (fun j => ent m i j) Y j) (rw_ m i) ((rw_ m i).length : Int) j) (gR m Y l i) := by
 have hr := hm2 i hi
 unfold gR
 intro q
 induction q with
 | zero =>
  intro j hj
  obtain rfl : j = l := by omega
  exact evstep (fun k => by rw [impl_sum.l0]) (evneg (by omega) (evc rfl))
 | succ q ih =>
  intro j hj
  have hb := dt_b (u := fun j => ent m i j) (v := Y) (n := l) (fun c hc => hm3 i c hi hc) hY hl (j + 1) (by omega)
  have ht := term_b (hm3 i j hi (by omega)) (hY j (by omega))
  refine evstep (fun k => by rw [impl_sum.l0]) (evpos (by omega) (evpos (by omega) (evpos (by omega) (evpos (by omega) ?_))))
  rw [rd_nat, rd_nat, hya j (by omega), show (rw_ m i).getD j 0 = ent m i j from rfl, w64 (x := ent m i j * Y j) (by omega) (by omega), show dt (fun j => ent m i j) Y j + ent m i j * Y j = dt (fun j => ent m i j) Y (j + 1) from rfl, w64 (x := dt (fun j => ent m i j) Y (j + 1)) (by omega) (by omega), w64 (x := (j : Int) + 1) (by omega) (by omega)]
  exact ih (j + 1) (by omega)
include hm1 hm2 hm3 hk hl in
theorem gains0 {y : List Int} {Y : Nat → Int} (hy : y.length = l) (hya : ∀ j, j < l → y.getD j 0 = Y j) (hY : ∀ j, j < l → Nm (Y j)) :
  ∀ q i, i + q = k → Ev (fun n => impl_Game_gains.l0 n y (upd k (gR m Y l) (fun _ => 0) i) m (k : Int) i) (gl k (gR m Y l)) := by
 intro q
 induction q with
 | zero =>
  intro i hi
  obtain rfl : i = k := by omega
  rw [upd_end]
  exact evstep (fun k => by rw [impl_Game_gains.l0]) (evneg (by omega) (evc rfl))
 | succ q ih =>
  intro i hi
  have hs := sum_loop hm2 hm3 hl hy hya hY i (by omega) l 0 (by omega)
  refine evstep (fun k => by rw [impl_Game_gains.l0]) (evpos (by omega) (evpos (by omega) (evpos (by omega) ?_)))
  rw [rw_eq]
  refine evbind (a := gR m Y l i) ?_ (evpos (by rw [upd_len]; omega) ?_)
  ·unfold impl_sum.f; exact hs
  ·rw [Int.toNat_natCast, upd_set k _ _ i (by omega), w64 (x := (i : Int) + 1) (by omega) (by omega)]
   exact ih (i + 1) (by omega)
include hm1 hm2 hm3 hk hl in
theorem gains1 {x : List Int} {X : Nat → Int} (hx : x.length = k) (hxa : ∀ j, j < k → x.getD j 0 = X j) (hX : ∀ j, j < k → Nm (X j)) :
  ∀ q i, i + q = k → Ev (fun n => impl_Game_gains.l1 n x (gl l (gC m X i)) m (k : Int) i) (gl l (gC m X k)) := by
 intro q
 induction q with
 | zero =>
  intro i hi
  obtain rfl : i = k := by omega
  exact evstep (fun k => by rw [impl_Game_gains.l1]) (evneg (by omega) (evc rfl))
 | succ q ih =>
  intro i hi
  have nx := ih (i + 1) (by omega)
  have hr := hm2 i (by omega)
  refine evstep (fun k => by rw [impl_Game_gains.l1]) (evpos (by omega) (evpos (by omega) (evpos (by omega) ?_)))
  rw [rw_eq]
  have key : ∀ p j, j + p = l → Ev (fun n => impl_Game_gains.l2 n x (upd l (gC m X (i + 1)) (gC m X i) j) i m (k : Int) i (rw_ m i) ((rw_ m i).length : Int) j) (gl l (gC m X k)) := by
   intro p
   induction p with
   | zero =>
    intro j hj
    obtain rfl : j = l := by omega
    rw [upd_end]
    refine evstep (fun k => by rw [impl_Game_gains.l2]) (evneg (by omega) ?_)
    rw [w64 (x := (i : Int) + 1) (by omega) (by omega)]
    exact nx
   | succ p ihp =>
    intro j hj
    have hb := dt_b (u := fun i => ent m i j) (v := X) (n := k) (fun c hc => hm3 c j hc (by omega)) hX hk (i + 1) (by omega)
    have ht := term_b (hm3 i j (by omega) (by omega)) (hX i (by omega))
    have hat := upd_at l (gC m X (i + 1)) (gC m X i) j (by omega)
    refine evstep (fun k => by rw [impl_Game_gains.l2]) (evpos (by omega) (evpos (by omega) (evpos (by omega) (evpos (by rw [upd_len]; omega) (evpos (by omega) (evpos (by omega) ?_))))))
    rw [rd_nat, rd_nat, rd_nat, hat, hxa i (by omega), show (rw_ m i).getD j 0 = ent m i j from rfl, w64 (x := ent m i j * X i) (by omega) (by omega), show gC m X i j + ent m i j * X i = gC m X (i + 1) j from rfl, w64 (x := gC m X (i + 1) j) (by unfold gC; omega) (by unfold gC; omega), Int.toNat_natCast, upd_set l _ _ j (by omega), w64 (x := (j : Int) + 1) (by omega) (by omega)]
    exact ihp (j + 1) (by omega)
  have := key l 0 (by omega)
  rw [upd_zero] at this
  exact this
def reps (g : List Int) (x : Int) : Nat → List Int
 | 0 => []
 | n + 1 => if g.getD n 0 = x then reps g x n ++ [(n : Int)] else reps g x n
theorem reps_len (g : List Int) (x : Int) : ∀ n, (reps g x n).length ≤ n
 | 0 => Nat.le_refl _
 | n + 1 => by have := reps_len g x n; unfold reps; split <;> simp <;> omega
theorem mem_reps (g : List Int) (x : Int) (i : Nat) : ∀ n, (i : Int) ∈ reps g x n ↔ i < n ∧ g.getD i 0 = x
 | 0 => by simp [reps]
 | n + 1 => by
  have h := mem_reps g x i n
  unfold reps
  by_cases e : i = n
  ·subst e
   split
   ·next c => simp only [List.mem_append, List.mem_singleton]; exact ⟨fun _ => ⟨by omega, c⟩, fun _ => by simp⟩
   ·next c => rw [h]; exact ⟨fun q => by omega, fun q => absurd q.2 c⟩
  ·have e2 : ¬ (i : Int) = (n : Int) := by omega
   split
   ·simp only [List.mem_append, List.mem_singleton, e2, or_false]; rw [h]; exact ⟨fun q => ⟨by omega, q.2⟩, fun q => ⟨by omega, q.2⟩⟩
   ·rw [h]; exact ⟨fun q => ⟨by omega, q.2⟩, fun q => ⟨by omega, q.2⟩⟩
theorem best_loop (g : List Int) (hg : g.length ≤ 4) (R : List Int) (next : Ev (fun n => spec_l07Replies.l5 n g (g.foldl mx 0) [] 0) R) :
  ∀ q i, i + q = g.length → Ev (fun n => spec_l07Replies.l4 n g ((g.take i).foldl mx 0) [] i) R := by
 intro q
 induction q with
 | zero =>
  intro i hi
  rw [List.take_of_length_le (by omega)]
  exact evstep (fun k => by rw [spec_l07Replies.l4]) (evneg (by omega) next)
 | succ q ih =>
  intro i hi
  have hlt : i < g.length := by omega
  have e : g.getD i 0 = g[i] := by simp [hlt]
  have h := ih (i + 1) (by omega)
  rw [List.take_succ_eq_append_getElem hlt, List.foldl_append] at h
  refine evstep (fun k => by rw [spec_l07Replies.l4]) (evpos (by omega) (evpos (by omega) ?_))
  rw [rd_nat, e, w64 (by omega) (by omega)]
  exact h
theorem reps_loop (g : List Int) (hg : g.length ≤ 4) (x : Int) : ∀ q i, i + q = g.length → Ev (fun n => spec_l07Replies.l5 n g x (reps g x i) i) (reps g x g.length) := by
 intro q
 induction q with
 | zero =>
  intro i hi
  obtain rfl : i = g.length := by omega
  exact evstep (fun k => by rw [spec_l07Replies.l5]) (evneg (by omega) (evc rfl))
 | succ q ih =>
  intro i hi
  have h := ih (i + 1) (by omega)
  have hr := reps_len g x i
  refine evstep (fun k => by rw [spec_l07Replies.l5]) (evpos (by omega) (evpos (by omega) ?_))
  rw [rd_nat, w64 (x := (i : Int) + 1) (by omega) (by omega)]
  rw [show reps g x (i + 1) = if g.getD i 0 = x then reps g x i ++ [(i : Int)] else reps g x i from rfl] at h
  by_cases c : g.getD i 0 = x
  ·rw [if_pos c] at h
   exact evpos c (evpos (by omega) h)
  ·rw [if_neg c] at h
   exact evneg c h
theorem top_zero (g : List Int) (h0 : 0 < g.length) (hp : ∀ i, i < g.length → 0 ≤ g.getD i 0) : g.foldl mx 0 = top g := by
 unfold top
 cases g with
 | nil => simp at h0
 | cons a g =>
  have := hp 0 (by simp)
  simp only [List.getD_cons_zero] at this
  simp only [List.foldl_cons, List.drop_succ_cons, List.drop_zero, List.getD_cons_zero]
  rw [show mx 0 a = a from by unfold mx; split <;> omega]
theorem spec_j4 (g : List Int) (h0 : 0 < g.length) (hg : g.length ≤ 4) (hp : ∀ i, i < g.length → 0 ≤ g.getD i 0) : Ev (fun n => spec_l07Replies.j4 n g) (reps g (top g) g.length) := by
 have h1 := reps_loop g hg (g.foldl mx 0) g.length 0 (by omega)
 have h2 := best_loop g hg _ h1 g.length 0 (by omega)
 rw [top_zero g h0 hp] at h2
 rw [List.take_zero, List.foldl_nil] at h2
 exact evstep (fun k => by rw [spec_l07Replies.j4]; rfl) h2
include hm1 hm2 hm3 hk hl in
theorem spec_g0 (b : List (List Int)) {y : List Int} {Y : Nat → Int} (hy : y.length = l) (hya : ∀ j, j < l → y.getD j 0 = Y j) (hY : ∀ j, j < l → Nm (Y j)) (R : List Int) (next : Ev (fun n => spec_l07Replies.j4 n (gl k (gR m Y l))) R) :
  ∀ q i, i + q = k → Ev (fun n => spec_l07Replies.l0 n y (gl i (gR m Y l)) i m b) R := by
 intro q
 induction q with
 | zero =>
  intro i hi
  obtain rfl : i = k := by omega
  exact evstep (fun k => by rw [spec_l07Replies.l0]) (evneg (by omega) next)
 | succ q ih =>
  intro i hi
  have nx := ih (i + 1) (by omega)
  have hr := hm2 i (by omega)
  have key : ∀ p j, j + p = l → Ev (fun n => spec_l07Replies.l1 n y (gl i (gR m Y l)) i (dt (fun j => ent m i j) Y j) j m b) R := by
   intro p
   induction p with
   | zero =>
    intro j hj
    obtain rfl : j = l := by omega
    refine evstep (fun k => by rw [spec_l07Replies.l1]) (evneg (by omega) (evpos (by rw [gl_len]; omega) ?_))
    rw [w64 (x := (i : Int) + 1) (by omega) (by omega)]
    rw [gl_succ] at nx
    exact nx
   | succ p ihp =>
    intro j hj
    have hb := dt_b (u := fun j => ent m i j) (v := Y) (n := l) (fun c hc => hm3 i c (by omega) hc) hY hl (j + 1) (by omega)
    have ht := term_b (hm3 i j (by omega) (by omega)) (hY j (by omega))
    refine evstep (fun k => by rw [spec_l07Replies.l1]) ?_
    rw [rw_eq]
    refine evpos (by omega) (evpos (by omega) (evpos (by omega) (evpos (by omega) (evpos (by omega) ?_))))
    rw [rd_nat, rd_nat, hya j (by omega), show (rw_ m i).getD j 0 = ent m i j from rfl, w64 (x := ent m i j * Y j) (by omega) (by omega), show dt (fun j => ent m i j) Y j + ent m i j * Y j = dt (fun j => ent m i j) Y (j + 1) from rfl, w64 (x := dt (fun j => ent m i j) Y (j + 1)) (by omega) (by omega), w64 (x := (j : Int) + 1) (by omega) (by omega)]
    exact ihp (j + 1) (by omega)
  refine evstep (fun k => by rw [spec_l07Replies.l0]) (evpos (by omega) ?_)
  exact key l 0 (by omega)
include hm1 hm2 hm3 hk hl in
theorem spec_g1 (a : List (List Int)) (ha : 0 < a.length) (ha0 : (rw_ a 0).length = l) {x : List Int} {X : Nat → Int} (hx : x.length = k) (hxa : ∀ j, j < k → x.getD j 0 = X j) (hX : ∀ j, j < k → Nm (X j)) (R : List Int) (next : Ev (fun n => spec_l07Replies.j4 n (gl l (gC m X k))) R) :
  ∀ q j, j + q = l → Ev (fun n => spec_l07Replies.l2 n x (gl j (gC m X k)) j a m) R := by
 have e0 : rd_L1 a 0 = rw_ a 0 := rw_eq a 0
 intro q
 induction q with
 | zero =>
  intro j hj
  obtain rfl : j = l := by omega
  exact evstep (fun k => by rw [spec_l07Replies.l2]) (evpos (by omega) (evneg (by rw [e0]; omega) next))
 | succ q ih =>
  intro j hj
  have nx := ih (j + 1) (by omega)
  have key : ∀ p i, i + p = k → Ev (fun n => spec_l07Replies.l3 n x (gl j (gC m X k)) j (dt (fun i => ent m i j) X i) i a m) R := by
   intro p
   induction p with
   | zero =>
    intro i hi
    obtain rfl : i = k := by omega
    refine evstep (fun k => by rw [spec_l07Replies.l3]) (evneg (by omega) (evpos (by rw [gl_len]; omega) ?_))
    rw [w64 (x := (j : Int) + 1) (by omega) (by omega)]
    rw [gl_succ] at nx
    exact nx
   | succ p ihp =>
    intro i hi
    have hr := hm2 i (by omega)
    have hb := dt_b (u := fun i => ent m i j) (v := X) (n := k) (fun c hc => hm3 c j hc (by omega)) hX hk (i + 1) (by omega)
    have ht := term_b (hm3 i j (by omega) (by omega)) (hX i (by omega))
    refine evstep (fun k => by rw [spec_l07Replies.l3]) ?_
    rw [rw_eq]
    refine evpos (by omega) (evpos (by omega) (evpos (by omega) (evpos (by omega) (evpos (by omega) ?_))))
    rw [rd_nat, rd_nat, hxa i (by omega), show (rw_ m i).getD j 0 = ent m i j from rfl, w64 (x := ent m i j * X i) (by omega) (by omega), show dt (fun i => ent m i j) X i + ent m i j * X i = dt (fun i => ent m i j) X (i + 1) from rfl, w64 (x := dt (fun i => ent m i j) X (i + 1)) (by omega) (by omega), w64 (x := (i : Int) + 1) (by omega) (by omega)]
    exact ihp (i + 1) (by omega)
  refine evstep (fun k => by rw [spec_l07Replies.l2]) (evpos (by omega) (evpos (by rw [e0]; omega) ?_))
  exact key k 0 (by omega)
end
section
variable {a b : List (List Int)} (g : GameOK a b)
include g
theorem game_a : (∀ i, i < a.length → (rw_ a i).length = (rw_ a 0).length) ∧ ∀ i j, i < a.length → j < (rw_ a 0).length → E20 (ent a i j) :=
 ⟨fun i hi => (g.rows i (Nat.zero_le _) hi).1, fun i j hi hj => ((g.rows i (Nat.zero_le _) hi).2.2 j (Nat.zero_le _) hj).1⟩
theorem game_b : (∀ i, i < a.length → (rw_ b i).length = (rw_ a 0).length) ∧ ∀ i j, i < a.length → j < (rw_ a 0).length → E20 (ent b i j) :=
 ⟨fun i hi => (g.rows i (Nat.zero_le _) hi).2.1, fun i j hi hj => ((g.rows i (Nat.zero_le _) hi).2.2 j (Nat.zero_le _) hj).2⟩
theorem impl_gains0 {y : List Int} {Y : Nat → Int} (hy : y.length = (rw_ a 0).length) (hya : ∀ j, j < (rw_ a 0).length → y.getD j 0 = Y j) (hY : ∀ j, j < (rw_ a 0).length → Nm (Y j)) : Ev (fun n => impl_Game_gains.f n a b 0 y) (gl a.length (gR a Y (rw_ a 0).length)) := by
 have hk := g.k4; have hk1 := g.k1; have hl := g.l4; have hs := g.same
 have e0 : rd_L1 a 0 = rw_ a 0 := rw_eq a 0
 unfold impl_Game_gains.f impl_Game_sizes.f
 rw [if_pos (by omega), e0]
 refine evsome rfl (evpos rfl (evpos (by omega) (evpos (by omega) ?_)))
 have h := gains0 (m := a) rfl (game_a g).1 (game_a g).2 hk hl hy hya hY a.length 0 (by omega)
 rw [upd_zero, ← gl_zero] at h
 exact h
theorem impl_gains1 {x : List Int} {X : Nat → Int} (hx : x.length = a.length) (hxa : ∀ j, j < a.length → x.getD j 0 = X j) (hX : ∀ j, j < a.length → Nm (X j)) : Ev (fun n => impl_Game_gains.f n a b 1 x) (gl (rw_ a 0).length (gC b X a.length)) := by
 have hk := g.k4; have hk1 := g.k1; have hl := g.l4; have hs := g.same
 have e0 : rd_L1 a 0 = rw_ a 0 := rw_eq a 0
 unfold impl_Game_gains.f impl_Game_sizes.f
 rw [if_pos (by omega), e0]
 refine evsome rfl (evneg (by decide) (evpos (by omega) (evpos (by omega) ?_)))
 have h := gains1 (m := b) hs (game_b g).1 (game_b g).2 hk hl hx hxa hX a.length 0 (by omega)
 rw [show gl (rw_ a 0).length (gC b X 0) = gl (rw_ a 0).length (fun _ => 0) from rfl, ← gl_zero] at h
 rw [Int.toNat_natCast, hs]
 exact h
theorem gR_pos {Y : Nat → Int} (hY : ∀ j, j < (rw_ a 0).length → Nm (Y j)) (i : Nat) (hi : i < (gl a.length (gR a Y (rw_ a 0).length)).length) : 0 ≤ (gl a.length (gR a Y (rw_ a 0).length)).getD i 0 := by
 rw [gl_len] at hi
 rw [gl_at _ _ _ hi]
 exact (dt_b (fun j hj => (game_a g).2 i j hi hj) hY g.l4 _ (Nat.le_refl _)).1
theorem gC_pos {X : Nat → Int} (hX : ∀ j, j < a.length → Nm (X j)) (j : Nat) (hj : j < (gl (rw_ a 0).length (gC b X a.length)).length) : 0 ≤ (gl (rw_ a 0).length (gC b X a.length)).getD j 0 := by
 rw [gl_len] at hj
 rw [gl_at _ _ _ hj]
 exact (dt_b (fun i hi => (game_b g).2 i j hi hj) hX g.k4 _ (Nat.le_refl _)).1
theorem spec_rep0 {y : List Int} {Y : Nat → Int} (hy : y.length = (rw_ a 0).length) (hya : ∀ j, j < (rw_ a 0).length → y.getD j 0 = Y j) (hY : ∀ j, j < (rw_ a 0).length → Nm (Y j)) (G : List Int) (hG : G = gl a.length (gR a Y (rw_ a 0).length)) : Ev (fun n => spec_l07Replies.f n a b 0 y) (reps G (top G) G.length) := by
 have hk := g.k4; have hk1 := g.k1
 subst hG
 unfold spec_l07Replies.f
 refine evsome rfl (evpos rfl ?_)
 exact spec_g0 (m := a) rfl (game_a g).1 (game_a g).2 hk g.l4 b hy hya hY _ (spec_j4 _ (by rw [gl_len]; omega) (by rw [gl_len]; omega) (gR_pos g hY)) a.length 0 (by omega)
theorem spec_rep1 {x : List Int} {X : Nat → Int} (hx : x.length = a.length) (hxa : ∀ j, j < a.length → x.getD j 0 = X j) (hX : ∀ j, j < a.length → Nm (X j)) (G : List Int) (hG : G = gl (rw_ a 0).length (gC b X a.length)) : Ev (fun n => spec_l07Replies.f n a b 1 x) (reps G (top G) G.length) := by
 have hk := g.k4; have hk1 := g.k1; have hl := g.l4; have hl1 := g.l1
 subst hG
 unfold spec_l07Replies.f
 refine evsome rfl (evneg (by decide) ?_)
 exact spec_g1 (m := b) g.same (game_b g).1 (game_b g).2 hk g.l4 a (by omega) rfl hx hxa hX _ (spec_j4 _ (by rw [gl_len]; omega) (by rw [gl_len]; omega) (gC_pos g hX)) (rw_ a 0).length 0 (by omega)
end
end Go.Proofs.Ytjjbhdpjnjncbaa.Mg
end
section
namespace Go.Proofs.Ytjjbhdpjnjncbaa.Mi
open Go.RowKit Go.Proofs.YtjjbhdpjnjncbaaW.PrintWords Go.Proofs.YtjjbhdpjnjncbaaW.PrintMore Go.Proofs.Ytjjbhdpjnjncbaa.Ma Go.Proofs.Ytjjbhdpjnjncbaa.Pr Go.Proofs.Ytjjbhdpjnjncbaa.Fr
abbrev FS := List S65
def nu (l : FS) (i : Nat) : Int := (l.getD i z65).f0
def dn (l : FS) (i : Nat) : Int := (l.getD i z65).f1
theorem rd_f0 (l : FS) (i : Nat) : (rd_T65 l (i : Int)).f0 = nu l i := by simp [rd_T65, nu]
theorem rd_f1 (l : FS) (i : Nat) : (rd_T65 l (i : Int)).f1 = dn l i := by simp [rd_T65, dn]
def Ok (l : FS) : Prop := ∀ i, i < l.length → 1 ≤ dn l i ∧ dn l i ≤ 1000000000 ∧ -1000000000 ≤ nu l i ∧ nu l i ≤ 1000000000
def lc (d b : Int) : Int := Int.tdiv d (gc d b) * b
def denL (l : FS) : Nat → Nat → Int → Option Int
 | 0, _, d => some d
 | m + 1, i, d => if lc d (dn l i) > 1000000000 then none else denL l m (i + 1) (lc d (dn l i))
theorem gc_pos {d b : Int} (hd : 1 ≤ d) : 1 ≤ gc d b ∧ gc d b ≤ d := by
 unfold gc
 have h1 : 0 < Int.gcd d b := Int.gcd_pos_of_ne_zero_left b (by omega)
 have h2 : Int.gcd d b ∣ d.natAbs := Nat.gcd_dvd_left _ _
 have h3 := Nat.le_of_dvd (by omega) h2
 omega
theorem gc_dvd (d b : Int) : gc d b ∣ d ∧ gc d b ∣ b := ⟨Int.gcd_dvd_left d b, Int.gcd_dvd_right d b⟩
theorem lc_facts {d b : Int} (hd : 1 ≤ d) (hd2 : d ≤ 1000000000) (hb : 1 ≤ b) (hb2 : b ≤ 1000000000) : d ∣ lc d b ∧ b ∣ lc d b ∧ 1 ≤ lc d b ∧ lc d b ≤ 1000000000000000000 ∧ 0 ≤ Int.tdiv d (gc d b) ∧ Int.tdiv d (gc d b) ≤ 1000000000 := by
 obtain ⟨g1, g2⟩ := gc_pos (b := b) hd
 obtain ⟨⟨q, hq⟩, ⟨p, hp⟩⟩ := gc_dvd d b
 have hq0 : Int.tdiv d (gc d b) = q := by
  have h9 : Int.tdiv (gc d b * q) (gc d b) = q := Int.mul_tdiv_cancel_left q (by omega)
  rwa [← hq] at h9
 have hq1 : 1 ≤ q := by
  by_cases h : 1 ≤ q
  ·exact h
  ·exfalso
   have : gc d b * q ≤ 0 := Int.mul_nonpos_of_nonneg_of_nonpos (by omega) (by omega)
   omega
 have hq2 : q ≤ d := by
  have : 1 * q ≤ gc d b * q := Int.mul_le_mul_of_nonneg_right g1 (by omega)
  omega
 unfold lc
 rw [hq0]
 refine ⟨⟨p, ?_⟩, ⟨q, Int.mul_comm _ _⟩, ?_, ?_, by omega, by omega⟩
 ·have h9 : q * b = gc d b * q * p := by
   conv => lhs; rw [hp]
   rw [← Int.mul_assoc, Int.mul_comm q (gc d b)]
  rwa [← hq] at h9
 ·have : 1 * 1 ≤ q * b := Int.mul_le_mul hq1 hb (by decide) (by omega)
  omega
 ·have : q * b ≤ 1000000000 * 1000000000 := Int.mul_le_mul (by omega) hb2 (by omega) (by decide)
  omega
theorem denL_facts {l : FS} (h : Ok l) : ∀ m i d D, i + m = l.length → 1 ≤ d → d ≤ 1000000000 → denL l m i d = some D → 1 ≤ D ∧ D ≤ 1000000000 ∧ d ∣ D ∧ ∀ j, i ≤ j → j < l.length → dn l j ∣ D := by
 intro m
 induction m with
 | zero =>
  intro i d D hi h1 h2 e
  cases e
  exact ⟨h1, h2, Int.dvd_refl _, fun j a b => by omega⟩
 | succ m ih =>
  intro i d D hi h1 h2 e
  obtain ⟨b1, b2, _, _⟩ := h i (by omega)
  obtain ⟨f1, f2, f3, f4, _, _⟩ := lc_facts h1 h2 b1 b2
  unfold denL at e
  split at e
  ·cases e
  ·obtain ⟨g1, g2, g3, g4⟩ := ih (i + 1) _ D (by omega) f3 (by omega) e
   refine ⟨g1, g2, Int.dvd_trans f1 g3, fun j a b => ?_⟩
   by_cases q : i = j
   ·subst q; exact Int.dvd_trans f2 g3
   ·exact g4 j (by omega) b
def nm (l : FS) (D : Int) (i : Nat) : Int := nu l i * Int.tdiv D (dn l i)
def numL (l : FS) (D : Int) (n : Nat) : List Int := (List.range n).map (nm l D)
def Fits (l : FS) (D : Int) (i : Nat) : Prop := -1000000000000 ≤ nm l D i ∧ nm l D i ≤ 1000000000000
open Classical in
noncomputable def togR (l : FS) : List Int × Int × Bool := match denL l l.length 0 1 with
 | none => ([], 0, false)
 | some D => if ∀ i, 0 ≤ i → i < l.length → Fits l D i then (numL l D l.length, D, true) else ([], 0, false)
theorem numL_succ (l : FS) (D : Int) (n : Nat) : numL l D (n + 1) = numL l D n ++ [nm l D n] := by simp [numL, List.range_succ]
theorem numL_len (l : FS) (D : Int) (n : Nat) : (numL l D n).length = n := by simp [numL]
theorem nm_small {l : FS} (h : Ok l) {D : Int} (h1 : 1 ≤ D) (h2 : D ≤ 1000000000) (i : Nat) (hi : i < l.length) : 0 ≤ Int.tdiv D (dn l i) ∧ Int.tdiv D (dn l i) ≤ 1000000000 ∧ -1000000000000000000 ≤ nm l D i ∧ nm l D i ≤ 1000000000000000000 := by
 obtain ⟨b1, b2, b3, b4⟩ := h i hi
 have q0 : 0 ≤ Int.tdiv D (dn l i) := Int.tdiv_nonneg (by omega) (by omega)
 have q1 : Int.tdiv D (dn l i) ≤ 1000000000 := by
  rw [Int.tdiv_eq_ediv_of_nonneg (by omega)]
  exact Int.le_trans (Int.ediv_le_self _ (by omega)) h2
 have p1 : nu l i * Int.tdiv D (dn l i) ≤ 1000000000 * 1000000000 := by
  by_cases c : 0 ≤ nu l i
  ·exact Int.mul_le_mul b4 q1 q0 (by decide)
  ·have : nu l i * Int.tdiv D (dn l i) ≤ 0 := Int.mul_nonpos_of_nonpos_of_nonneg (by omega) q0
   omega
 have p2 : (-nu l i) * Int.tdiv D (dn l i) ≤ 1000000000 * 1000000000 := by
  by_cases c : 0 ≤ -nu l i
  ·exact Int.mul_le_mul (by omega) q1 q0 (by decide)
  ·have : (-nu l i) * Int.tdiv D (dn l i) ≤ 0 := Int.mul_nonpos_of_nonpos_of_nonneg (by omega) q0
   omega
 rw [Int.neg_mul] at p2
 unfold nm
 exact ⟨q0, q1, by omega, by omega⟩
theorem head_step {P : Nat → Prop} {i d : Nat} (h : i < d) : (∀ j, i ≤ j → j < d → P j) ↔ P i ∧ ∀ j, i + 1 ≤ j → j < d → P j :=
 ⟨fun f => ⟨f i (Nat.le_refl _) h, fun j h1 h2 => f j (by omega) h2⟩, fun ⟨a, f⟩ j h1 h2 => by
  by_cases e : i = j
  ·subst e; exact a
  ·exact f j (by omega) h2⟩
section
variable {l : FS} (h : Ok l) (hl : l.length ≤ 1048576)
include h hl
theorem impl_nums {D : Int} (h1 : 1 ≤ D) (h2 : D ≤ 1000000000) (R : List Int × Int × Bool) : ∀ m i, i + m = l.length → ((∀ j, i ≤ j → j < l.length → Fits l D j) → R = (numL l D l.length, D, true)) → (¬ (∀ j, i ≤ j → j < l.length → Fits l D j) → R = ([], 0, false)) →
  Ev (fun k => impl_together.l1 k 1000000000000 D (numL l D i) l (l.length : Int) i) R := by
 intro m
 induction m with
 | zero =>
  intro i hi r1 r2
  obtain rfl : i = l.length := by omega
  refine evstep (fun k => by rw [impl_together.l1]) (evneg (by omega) (evc ?_))
  rw [r1 (fun j a b => by omega)]
 | succ m ih =>
  intro i hi r1 r2
  obtain ⟨q0, q1, p1, p2⟩ := nm_small h h1 h2 i (by omega)
  obtain ⟨b1, b2, b3, b4⟩ := h i (by omega)
  rw [head_step (P := Fits l D) (by omega)] at r1 r2
  refine evstep (fun k => by rw [impl_together.l1]) ?_
  rw [rd_f0, rd_f1, w64 (x := Int.tdiv D (dn l i)) (by omega) (by omega), show nu l i * Int.tdiv D (dn l i) = nm l D i from rfl, w64 (x := nm l D i) (by omega) (by omega)]
  refine evpos (by omega) (evpos (by omega) (evpos (by omega) (evneg (by omega) ?_)))
  unfold impl_upTo.f
  rw [w64 (x := -1000000000000) (by decide) (by decide), iin_b]
  refine evsome rfl ?_
  by_cases c : Fits l D i
  ·refine evpos (by unfold Fits at c; simp; omega) (evpos (by rw [numL_len]; omega) ?_)
   rw [← numL_succ, w64 (by omega) (by omega)]
   exact ih (i + 1) (by omega) (fun q => r1 ⟨c, q⟩) (fun q => r2 (fun q' => q q'.2))
  ·refine evneg (by unfold Fits at c; simp; omega) (evc ?_)
   rw [r2 (fun q => c q.1)]
theorem impl_dens (R : List Int × Int × Bool) (next : ∀ D, denL l l.length 0 1 = some D → Ev (fun k => impl_together.l1 k 1000000000000 D [] l (l.length : Int) 0) R) (none_ : denL l l.length 0 1 = none → R = ([], 0, false)) :
  ∀ m i d, i + m = l.length → 1 ≤ d → d ≤ 1000000000 → denL l m i d = denL l l.length 0 1 → Ev (fun k => impl_together.l0 k l 1000000000 1000000000000 d l (l.length : Int) i) R := by
 intro m
 induction m with
 | zero =>
  intro i d hi h1 h2 e
  refine evstep (fun k => by rw [impl_together.l0]) (evneg (by omega) ?_)
  exact next d e.symm
 | succ m ih =>
  intro i d hi h1 h2 e
  obtain ⟨b1, b2, _, _⟩ := h i (by omega)
  obtain ⟨f1, f2, f3, f4, f5, f6⟩ := lc_facts h1 h2 b1 b2
  obtain ⟨g1, g2⟩ := gc_pos (b := dn l i) h1
  refine evstep (fun k => by rw [impl_together.l0]) ?_
  rw [rd_f1]
  refine evpos (by omega) (evpos (by omega) (evpos (by omega) (evbind (impl_gcd d (dn l i) (by unfold Big; omega) (by unfold Big; omega)) (evneg (by omega) ?_))))
  rw [w64 (x := Int.tdiv d (gc d (dn l i))) (by omega) (by omega), show Int.tdiv d (gc d (dn l i)) * dn l i = lc d (dn l i) from rfl, w64 (x := lc d (dn l i)) (by omega) (by omega), w64 (x := (i : Int) + 1) (by omega) (by omega)]
  rw [show denL l (m + 1) i d = if lc d (dn l i) > 1000000000 then none else denL l m (i + 1) (lc d (dn l i)) from rfl] at e
  by_cases c : lc d (dn l i) > 1000000000
  ·rw [if_pos c] at e
   rw [none_ e.symm]
   exact evpos c (evc rfl)
  ·rw [if_neg c] at e
   exact evneg c (ih (i + 1) _ (by omega) f3 (by omega) e)
theorem impl_tog : Ev (fun k => impl_together.f k l 1000000000 1000000000000) (togR l) := by
 unfold impl_together.f
 refine impl_dens h hl (togR l) (fun D e => ?_) (fun e => ?_) l.length 0 1 (by omega) (by decide) (by decide) rfl
 ·obtain ⟨d1, d2, _, _⟩ := denL_facts h l.length 0 1 D (by omega) (by decide) (by decide) e
  refine impl_nums h hl d1 d2 _ l.length 0 (by omega) (fun q => ?_) (fun q => ?_)
  ·unfold togR; rw [e]; exact if_pos q
  ·unfold togR; rw [e]; exact if_neg q
 ·unfold togR; rw [e]
theorem spec_nums {D : Int} (h1 : 1 ≤ D) (h2 : D ≤ 1000000000) (R : List Int × Int × Bool) : ∀ m i, i + m = l.length → ((∀ j, i ≤ j → j < l.length → Fits l D j) → R = (numL l D l.length, D, true)) → (¬ (∀ j, i ≤ j → j < l.length → Fits l D j) → R = ([], 0, false)) →
  Ev (fun k => spec_l01Common.l1 k l D (numL l D i) i) R := by
 intro m
 induction m with
 | zero =>
  intro i hi r1 r2
  obtain rfl : i = l.length := by omega
  refine evstep (fun k => by rw [spec_l01Common.l1]) (evneg (by omega) (evc ?_))
  rw [r1 (fun j a b => by omega)]
 | succ m ih =>
  intro i hi r1 r2
  obtain ⟨q0, q1, p1, p2⟩ := nm_small h h1 h2 i (by omega)
  obtain ⟨b1, b2, b3, b4⟩ := h i (by omega)
  rw [head_step (P := Fits l D) (by omega)] at r1 r2
  refine evstep (fun k => by rw [spec_l01Common.l1]) ?_
  rw [rd_f0, rd_f1, w64 (x := Int.tdiv D (dn l i)) (by omega) (by omega), show nu l i * Int.tdiv D (dn l i) = nm l D i from rfl, w64 (x := nm l D i) (by omega) (by omega), sin_b]
  refine evpos (by omega) (evpos (by omega) (evneg (by omega) (evsome rfl ?_)))
  by_cases c : Fits l D i
  ·refine evpos (by unfold Fits at c; simp; omega) (evpos (by rw [numL_len]; omega) ?_)
   rw [← numL_succ, w64 (by omega) (by omega)]
   exact ih (i + 1) (by omega) (fun q => r1 ⟨c, q⟩) (fun q => r2 (fun q' => q q'.2))
  ·refine evneg (by unfold Fits at c; simp; omega) (evc ?_)
   rw [r2 (fun q => c q.1)]
theorem spec_dens (R : List Int × Int × Bool) (next : ∀ D, denL l l.length 0 1 = some D → Ev (fun k => spec_l01Common.l1 k l D [] 0) R) (none_ : denL l l.length 0 1 = none → R = ([], 0, false)) :
  ∀ m i d, i + m = l.length → 1 ≤ d → d ≤ 1000000000 → denL l m i d = denL l l.length 0 1 → Ev (fun k => spec_l01Common.l0 k l d i) R := by
 intro m
 induction m with
 | zero =>
  intro i d hi h1 h2 e
  refine evstep (fun k => by rw [spec_l01Common.l0]) (evneg (by omega) ?_)
  exact next d e.symm
 | succ m ih =>
  intro i d hi h1 h2 e
  obtain ⟨b1, b2, _, _⟩ := h i (by omega)
  obtain ⟨f1, f2, f3, f4, f5, f6⟩ := lc_facts h1 h2 b1 b2
  obtain ⟨g1, g2⟩ := gc_pos (b := dn l i) h1
  refine evstep (fun k => by rw [spec_l01Common.l0]) ?_
  rw [rd_f1]
  refine evpos (by omega) (evpos (by omega) (evbind (spec_gcd d (dn l i) (by unfold Big; omega) (by unfold Big; omega)) (evneg (by omega) ?_)))
  rw [w64 (x := Int.tdiv d (gc d (dn l i))) (by omega) (by omega), show Int.tdiv d (gc d (dn l i)) * dn l i = lc d (dn l i) from rfl, w64 (x := lc d (dn l i)) (by omega) (by omega), w64 (x := (i : Int) + 1) (by omega) (by omega)]
  rw [show denL l (m + 1) i d = if lc d (dn l i) > 1000000000 then none else denL l m (i + 1) (lc d (dn l i)) from rfl] at e
  by_cases c : lc d (dn l i) > 1000000000
  ·rw [if_pos c] at e
   rw [none_ e.symm]
   exact evpos c (evc rfl)
  ·rw [if_neg c] at e
   exact evneg c (ih (i + 1) _ (by omega) f3 (by omega) e)
theorem spec_tog : Ev (fun k => spec_l01Common.f k l) (togR l) := by
 unfold spec_l01Common.f
 refine spec_dens h hl (togR l) (fun D e => ?_) (fun e => ?_) l.length 0 1 (by omega) (by decide) (by decide) rfl
 ·obtain ⟨d1, d2, _, _⟩ := denL_facts h l.length 0 1 D (by omega) (by decide) (by decide) e
  refine spec_nums h hl d1 d2 _ l.length 0 (by omega) (fun q => ?_) (fun q => ?_)
  ·unfold togR; rw [e]; exact if_pos q
  ·unfold togR; rw [e]; exact if_neg q
 ·unfold togR; rw [e]
end
end Go.Proofs.Ytjjbhdpjnjncbaa.Mi
end
section
namespace Go.Proofs.Ytjjbhdpjnjncbaa.Mj
open Go.RowKit Go.Proofs.YtjjbhdpjnjncbaaW.PrintWords Go.Proofs.YtjjbhdpjnjncbaaW.PrintMore Go.Proofs.Ytjjbhdpjnjncbaa.Ma Go.Proofs.Ytjjbhdpjnjncbaa.Pr Go.Proofs.Ytjjbhdpjnjncbaa.Fr Go.Proofs.Ytjjbhdpjnjncbaa.Mi
def IsFr (l : FS) (i : Nat) : Prop := isF 1000000000 (nu l i) (dn l i) = true
def su (l : FS) (D : Int) : Nat → Int
 | 0 => 0
 | n + 1 => su l D n + nm l D n
structure V (l : FS) (n : Int) (D : Int) : Prop where
 len : (l.length : Int) = n
 fr : ∀ i, 0 ≤ i → i < l.length → IsFr l i
 den : denL l l.length 0 1 = some D
 fits : ∀ i, 0 ≤ i → i < l.length → Fits l D i
 pos : ∀ i, i < l.length → 0 ≤ nm l D i
 sum : su l D l.length = D
theorem ok_of {l : FS} (h : ∀ i, 0 ≤ i → i < l.length → IsFr l i) : Ok l := by
 intro i hi
 have := h i (Nat.zero_le _) hi
 unfold IsFr isF at this
 simp only [Bool.and_eq_true, decide_eq_true_eq] at this
 omega
theorem any_badF (l : FS) : l.any badF = false ↔ ∀ i, 0 ≤ i → i < l.length → IsFr l i := by
 rw [List.any_eq_false]
 constructor
 ·intro h i _ hi
  have := h l[i] (List.getElem_mem hi)
  simpa [badF, IsFr, nu, dn, hi] using this
 ·intro h x hx
  obtain ⟨i, hi, rfl⟩ := List.getElem_of_mem hx
  have := h i (Nat.zero_le _) hi
  simpa [badF, IsFr, nu, dn, hi] using this
theorem any_neg (x : List Int) : x.any badN = false ↔ ∀ i, i < x.length → 0 ≤ x.getD i 0 := by
 rw [List.any_eq_false]
 constructor
 ·intro h i hi
  have := h x[i] (List.getElem_mem hi)
  simpa [badN, hi] using this
 ·intro h y hy
  obtain ⟨i, hi, rfl⟩ := List.getElem_of_mem hy
  have := h i hi
  simpa [badN, hi] using this
theorem numL_at (l : FS) (D : Int) (n i : Nat) (h : i < n) : (numL l D n).getD i 0 = nm l D i := by simp [numL, h]
section
variable {l : FS} {D : Int}
theorem su_bound (hf : ∀ i, 0 ≤ i → i < l.length → Fits l D i) : ∀ n, n ≤ l.length → -1000000000000 * (n : Int) ≤ su l D n ∧ su l D n ≤ 1000000000000 * (n : Int) := by
 intro n
 induction n with
 | zero => intro _; simp [su]
 | succ n ih =>
  intro hn
  have h1 := ih (by omega)
  have h2 := hf n (Nat.zero_le _) (by omega)
  unfold Fits at h2
  unfold su
  push_cast
  omega
theorem su_ge (hp : ∀ i, i < l.length → 0 ≤ nm l D i) : ∀ n, n ≤ l.length → 0 ≤ su l D n ∧ ∀ i, i < n → nm l D i ≤ su l D n := by
 intro n
 induction n with
 | zero => intro _; exact ⟨Int.le_refl _, fun i h => by omega⟩
 | succ n ih =>
  intro hn
  have h1 := ih (by omega)
  have h2 := hp n (by omega)
  unfold su
  refine ⟨by omega, fun i hi => ?_⟩
  by_cases e : i = n
  ·subst e; omega
  ·have := h1.2 i (by omega); omega
theorem nm_num (hO : Ok l) (hd : denL l l.length 0 1 = some D) (i : Nat) (hi : i < l.length) : (0 ≤ nm l D i ↔ 0 ≤ nu l i) ∧ (nm l D i ≤ D ↔ nu l i ≤ dn l i) := by
 obtain ⟨d1, d2, _, d4⟩ := denL_facts hO l.length 0 1 D (by omega) (by decide) (by decide) hd
 obtain ⟨q, hq⟩ := d4 i (Nat.zero_le _) hi
 obtain ⟨b1, b2, b3, b4⟩ := hO i hi
 have e : Int.tdiv D (dn l i) = q := by
  have h9 : Int.tdiv (dn l i * q) (dn l i) = q := Int.mul_tdiv_cancel_left q (by omega)
  rwa [← hq] at h9
 have q1 : 1 ≤ q := by
  by_cases h : 1 ≤ q
  ·exact h
  ·have : dn l i * q ≤ 0 := Int.mul_nonpos_of_nonneg_of_nonpos (by omega) (by omega)
   omega
 unfold nm
 rw [e]
 constructor
 ·constructor
  ·intro h
   by_cases c : 0 ≤ nu l i
   ·exact c
   ·exfalso
    have : nu l i * q < 0 := Int.mul_neg_of_neg_of_pos (by omega) (by omega)
    omega
  ·intro h
   exact Int.mul_nonneg h (by omega)
 ·rw [hq]
  constructor
  ·intro h
   exact Int.le_of_mul_le_mul_right h (by omega)
  ·intro h
   exact Int.mul_le_mul_of_nonneg_right h (by omega)
theorem total_loop (hf : ∀ i, 0 ≤ i → i < l.length → Fits l D i) (hl : l.length ≤ 1048576) : ∀ m i, i + m = l.length → Ev (fun k => impl_total.l0 k (su l D i) (numL l D l.length) (l.length : Int) i) (su l D l.length) := by
 intro m
 induction m with
 | zero =>
  intro i hi
  obtain rfl : i = l.length := by omega
  exact evstep (fun k => by rw [impl_total.l0]) (evneg (by omega) (evc rfl))
 | succ m ih =>
  intro i hi
  have h1 := su_bound hf (i + 1) (by omega)
  refine evstep (fun k => by rw [impl_total.l0]) (evpos (by omega) (evpos (by omega) (evpos (by rw [numL_len]; omega) ?_)))
  rw [rd_nat, numL_at l D _ i (by omega), show su l D i + nm l D i = su l D (i + 1) from rfl, w64 (x := su l D (i + 1)) (by omega) (by omega), w64 (x := (i : Int) + 1) (by omega) (by omega)]
  exact ih (i + 1) (by omega)
theorem spec_sum (hf : ∀ i, 0 ≤ i → i < l.length → Fits l D i) (hl : l.length ≤ 1048576) (M : Int) : ∀ m i, i + m = l.length → Ev (fun k => spec_l07Mix.l1 k (l.length : Int) M (numL l D l.length) D (su l D i) i) (if su l D l.length = D then (if D > M then ([], 0, 3) else (numL l D l.length, D, 0)) else ([], 0, 2)) := by
 intro m
 induction m with
 | zero =>
  intro i hi
  obtain rfl : i = l.length := by omega
  refine evstep (fun k => by rw [spec_l07Mix.l1]) (evneg (by omega) ?_)
  by_cases c : su l D l.length = D
  ·refine evpos c ?_
   rw [if_pos c]
   by_cases c2 : D > M
   ·refine evpos c2 ?_
    rw [if_pos c2]; exact evc rfl
   ·refine evneg c2 ?_
    rw [if_neg c2]; exact evc rfl
  ·refine evneg c ?_
   rw [if_neg c]
   exact evc rfl
 | succ m ih =>
  intro i hi
  have h1 := su_bound hf (i + 1) (by omega)
  refine evstep (fun k => by rw [spec_l07Mix.l1]) (evpos (by omega) (evpos (by omega) (evpos (by rw [numL_len]; omega) ?_)))
  rw [rd_nat, numL_at l D _ i (by omega), show su l D i + nm l D i = su l D (i + 1) from rfl, w64 (x := su l D (i + 1)) (by omega) (by omega), w64 (x := (i : Int) + 1) (by omega) (by omega)]
  exact ih (i + 1) (by omega)
end
theorem impl_mix_v {l : FS} {n D : Int} (hl : l.length ≤ 1048576) (v : V l n D) : Ev (fun k => impl_mix.f k l n) (numL l D l.length, D, true) := by
 have hO := ok_of v.fr
 have ht : togR l = (numL l D l.length, D, true) := by unfold togR; rw [v.den]; exact if_pos v.fits
 have hb := (any_badF l).2 v.fr
 unfold impl_mix.f
 refine evpos v.len (evsome (a := true) (by unfold impl_areFracs.f; rw [hb]; rfl) (evstep (fun k => by rw [impl_mix.j0]) (evneg (by simp) ?_)))
 refine evbind (impl_tog hO hl) ?_
 rw [ht]
 refine evpos rfl (evsome (a := true) ?_ (evpos rfl ?_))
 ·unfold impl_isFeasible.f
  rw [(any_neg (numL l D l.length)).2 (fun i hi => by rw [numL_len] at hi; rw [numL_at l D _ i hi]; exact v.pos i hi)]
  rfl
 ·have := total_loop v.fits hl l.length 0 (by omega)
  refine evbind (a := su l D l.length) ?_ (evpos v.sum (evc rfl))
  unfold impl_total.f
  rw [numL_len]
  exact this
theorem impl_mix_n {l : FS} {n : Int} (hl : l.length ≤ 1048576) (v : ¬ ∃ D, V l n D) : Ev (fun k => impl_mix.f k l n) ([], 0, false) := by
 classical
 unfold impl_mix.f
 by_cases c1 : (l.length : Int) = n
 ·refine evpos c1 ?_
  by_cases c2 : ∀ i, 0 ≤ i → i < l.length → IsFr l i
  ·have hO := ok_of c2
   refine evsome (a := true) (by unfold impl_areFracs.f; rw [(any_badF l).2 c2]; rfl) (evstep (fun k => by rw [impl_mix.j0]) (evneg (by simp) ?_))
   refine evbind (impl_tog hO hl) ?_
   unfold togR
   cases hd : denL l l.length 0 1 with
   | none => exact evneg (by simp) (evc rfl)
   | some D =>
    by_cases c3 : ∀ i, 0 ≤ i → i < l.length → Fits l D i
    ·simp only []
     rw [if_pos c3]
     refine evpos rfl ?_
     by_cases c4 : ∀ i, i < l.length → 0 ≤ nm l D i
     ·refine evsome (a := true) ?_ (evpos rfl ?_)
      ·unfold impl_isFeasible.f
       rw [(any_neg (numL l D l.length)).2 (fun i hi => by rw [numL_len] at hi; rw [numL_at l D _ i hi]; exact c4 i hi)]
       rfl
      ·have := total_loop c3 hl l.length 0 (by omega)
       refine evbind (a := su l D l.length) ?_ ?_
       ·unfold impl_total.f
        rw [numL_len]
        exact this
       ·exact evneg (fun e => v ⟨D, c1, c2, hd, c3, c4, e⟩) (evc rfl)
     ·refine evsome (a := false) ?_ (evneg (by simp) (evc rfl))
      unfold impl_isFeasible.f
      have : ((numL l D l.length).any badN) = true := by
       cases q : (numL l D l.length).any badN with
       | true => rfl
       | false =>
        exfalso
        have := (any_neg _).1 q
        exact c4 (fun i hi => by have := this i (by rw [numL_len]; exact hi); rwa [numL_at l D _ i hi] at this)
      rw [this]; rfl
    ·simp only []
     rw [if_neg c3]
     exact evneg (by simp) (evc rfl)
  ·have : l.any badF = true := by
    cases q : l.any badF with
    | true => rfl
    | false => exact absurd ((any_badF l).1 q) c2
   refine evsome (a := false) (by unfold impl_areFracs.f; rw [this]; rfl) (evstep (fun k => by rw [impl_mix.j0]) (evpos (by simp) (evc rfl)))
 ·exact evneg c1 (evstep (fun k => by rw [impl_mix.j0]) (evpos rfl (evc rfl)))
theorem spec_loop {l : FS} (hl : l.length ≤ 1048576) (M : Int) (R : List Int × Int × Int) (next : (∀ i, i < l.length → IsFr l i ∧ 0 ≤ nu l i ∧ nu l i ≤ dn l i) → Ev (fun k => (spec_l01Common.f k l).bind fun bt670 => (if bt670.2.2 = true then (spec_l07Mix.l1 k (l.length : Int) M bt670.1 bt670.2.1 0 0) else (some (([] : List Int), 0, 2)))) R)
  (no : ¬ (∀ i, i < l.length → IsFr l i ∧ 0 ≤ nu l i ∧ nu l i ≤ dn l i) → R = ([], 0, 2)) :
  ∀ m i, i + m = l.length → (∀ j, j < i → IsFr l j ∧ 0 ≤ nu l j ∧ nu l j ≤ dn l j) → Ev (fun k => spec_l07Mix.l0 k l (l.length : Int) M i) R := by
 intro m
 induction m with
 | zero =>
  intro i hi h
  obtain rfl : i = l.length := by omega
  exact evstep (fun k => by rw [spec_l07Mix.l0]) (evneg (by omega) (next h))
 | succ m ih =>
  intro i hi h
  refine evstep (fun k => by rw [spec_l07Mix.l0]) ?_
  rw [rd_f0, rd_f1]
  refine evpos (by omega) (evpos (by omega) (evpos (by omega) (evbind (spec_isF9 _ _) ?_)))
  rw [w64 (x := (i : Int) + 1) (by omega) (by omega)]
  by_cases c : isF 1000000000 (nu l i) (dn l i) = true
  ·refine evpos c ?_
   by_cases c2 : nu l i < 0
   ·rw [no (fun q => by have := (q i (by omega)).2.1; omega)]
    exact evpos c2 (evc rfl)
   ·refine evneg c2 ?_
    by_cases c3 : nu l i > dn l i
    ·rw [no (fun q => by have := (q i (by omega)).2.2; omega)]
     exact evpos c3 (evc rfl)
    ·refine evneg c3 (ih (i + 1) (by omega) (fun j hj => ?_))
     by_cases e : j = i
     ·subst e; exact ⟨c, by omega, by omega⟩
     ·exact h j (by omega)
  ·rw [no (fun q => c (q i (by omega)).1)]
   exact evneg c (evc rfl)
theorem spec_mix_v {l : FS} {n D : Int} (hl : l.length ≤ 1048576) (v : V l n D) (M : Int) : Ev (fun k => spec_l07Mix.f k l n M) (if D > M then ([], 0, 3) else (numL l D l.length, D, 0)) := by
 have hO := ok_of v.fr
 have ht : togR l = (numL l D l.length, D, true) := by unfold togR; rw [v.den]; exact if_pos v.fits
 have hg := su_ge v.pos l.length (Nat.le_refl _)
 have hall : ∀ i, i < l.length → IsFr l i ∧ 0 ≤ nu l i ∧ nu l i ≤ dn l i := fun i hi => by
  have h1 := nm_num hO v.den i hi
  exact ⟨v.fr i (Nat.zero_le _) hi, h1.1.1 (v.pos i hi), h1.2.1 (by have := hg.2 i hi; have := v.sum; omega)⟩
 unfold spec_l07Mix.f
 refine evpos v.len ?_
 rw [← v.len]
 refine spec_loop hl M _ (fun _ => ?_) (fun q => absurd hall q) l.length 0 (by omega) (fun j hj => by omega)
 refine evbind (spec_tog hO hl) ?_
 rw [ht]
 refine evpos rfl ?_
 have := spec_sum v.fits hl M l.length 0 (by omega)
 rw [if_pos v.sum] at this
 exact this
theorem spec_mix_n {l : FS} {n : Int} (hl : l.length ≤ 1048576) (v : ¬ ∃ D, V l n D) (M : Int) : Ev (fun k => spec_l07Mix.f k l n M) ([], 0, 2) := by
 classical
 unfold spec_l07Mix.f
 by_cases c1 : (l.length : Int) = n
 ·refine evpos c1 ?_
  subst c1
  refine spec_loop hl M _ (fun h => ?_) (fun _ => rfl) l.length 0 (by omega) (fun j hj => by omega)
  have c2 : ∀ i, 0 ≤ i → i < l.length → IsFr l i := fun i _ hi => (h i hi).1
  have hO := ok_of c2
  refine evbind (spec_tog hO hl) ?_
  unfold togR
  cases hd : denL l l.length 0 1 with
  | none => exact evneg (by simp) (evc rfl)
  | some D =>
   by_cases c3 : ∀ i, 0 ≤ i → i < l.length → Fits l D i
   ·simp only []
    rw [if_pos c3]
    refine evpos rfl ?_
    have h4 : ∀ i, i < l.length → 0 ≤ nm l D i := fun i hi => (nm_num hO hd i hi).1.2 (h i hi).2.1
    have h5 : ¬ su l D l.length = D := fun e => v ⟨D, rfl, c2, hd, c3, h4, e⟩
    have := spec_sum c3 hl M l.length 0 (by omega)
    rw [if_neg h5] at this
    exact this
   ·simp only []
    rw [if_neg c3]
    exact evneg (by simp) (evc rfl)
 ·exact evneg c1 (evc rfl)
end Go.Proofs.Ytjjbhdpjnjncbaa.Mj
end
section
namespace Go.Proofs.Ytjjbhdpjnjncbaa.MgE
open Go.RowKit Go.Proofs.YtjjbhdpjnjncbaaW.PrintWords Go.Proofs.YtjjbhdpjnjncbaaW.PrintMore Go.Proofs.Ytjjbhdpjnjncbaa.Ma Go.Proofs.Ytjjbhdpjnjncbaa.Pr Go.Proofs.Ytjjbhdpjnjncbaa.La Go.Proofs.Ytjjbhdpjnjncbaa.Gm Go.Proofs.Ytjjbhdpjnjncbaa.Mx Go.Proofs.Ytjjbhdpjnjncbaa.Mi Go.Proofs.Ytjjbhdpjnjncbaa.Mj Go.Proofs.Ytjjbhdpjnjncbaa.Mg
theorem top_ge (l : List Int) (j : Nat) (hj : j < l.length) : l.getD j 0 ≤ top l := by
 unfold top
 cases l with
 | nil => simp at hj
 | cons a l =>
  simp only [List.drop_succ_cons, List.drop_zero, List.getD_cons_zero]
  have h1 := fold_ge l a
  cases j with
  | zero => simpa using h1.1
  | succ j =>
   have hj' : j < l.length := by simpa using hj
   have := h1.2 l[j] (List.getElem_mem hj')
   simpa [hj'] using this
def Rp (x g : List Int) (i : Nat) : Prop := 0 < x.getD i 0 → g.getD i 0 = top g
theorem impl_rep_loop (x g : List Int) (hx : x.length ≤ g.length) (hl : x.length ≤ 4) : ∀ q i, i + q = x.length → ∀ t : Bool, (t = true ↔ ∀ j, i ≤ j → j < x.length → Rp x g j) → Ev (fun n => impl_isReply.l0 n g (top g) x (x.length : Int) i) t := by
 intro q
 induction q with
 | zero =>
  intro i hi t ht
  obtain rfl : t = true := ht.2 (fun j h1 h2 => by omega)
  exact evstep (fun k => by rw [impl_isReply.l0]) (evneg (by omega) (evc rfl))
 | succ q ih =>
  intro i hi t ht
  have hs := Gm.head_step (P := Rp x g) (i := i) (d := x.length) (by omega)
  have hg := top_ge g i (by omega)
  refine evstep (fun k => by rw [impl_isReply.l0]) (evpos (by omega) (evpos (by omega) (evpos (by omega) ?_)))
  rw [rd_nat, rd_nat, w64 (x := (i : Int) + 1) (by omega) (by omega)]
  by_cases c : x.getD i 0 > 0
  ·refine evpos c (evpos (by omega) ?_)
   by_cases d : g.getD i 0 < top g
   ·rw [no_iff (ht.trans hs) (fun h => by have := h.1 c; omega)]
    exact evpos d (evc rfl)
   ·exact evneg d (ih (i + 1) (by omega) t (ht.trans (hs.trans ⟨fun h => h.2, fun h => ⟨fun _ => by omega, h⟩⟩)))
  ·exact evneg c (ih (i + 1) (by omega) t (ht.trans (hs.trans ⟨fun h => h.2, fun h => ⟨fun q => absurd q c, h⟩⟩)))
theorem impl_rep (x g : List Int) (h0 : 0 < g.length) (hg : g.length ≤ 4) (hx : x.length ≤ g.length) (t : Bool) (ht : t = true ↔ ∀ j, 0 ≤ j → j < x.length → Rp x g j) : Ev (fun n => impl_isReply.f n x g) t := by
 unfold impl_isReply.f
 exact evbind (max_of g h0 (by omega)) (impl_rep_loop x g hx (by omega) x.length 0 (by omega) t ht)
theorem holds_in (x l : List Int) (i : Nat) (hl : l.length ≤ 4) (R : Bool) (next : (x.getD i 0 = 0 ∨ (i : Int) ∈ l) → Ev (fun n => spec_l07Holds.l0 n x l (wrap64 ((i : Int) + 1))) R) (no : ¬ (x.getD i 0 = 0 ∨ (i : Int) ∈ l) → R = false) :
  ∀ q k, k + q = l.length → ∀ fl : Bool, (fl = true → x.getD i 0 = 0 ∨ (i : Int) ∈ l) → (fl = false → ¬ x.getD i 0 = 0 ∧ ¬ (i : Int) ∈ l.take k) → Ev (fun n => spec_l07Holds.l1 n x l i fl k) R := by
 intro q
 induction q with
 | zero =>
  intro k hk fl h1 h2
  refine evstep (fun k => by rw [spec_l07Holds.l1]) (evneg (by omega) ?_)
  cases fl with
  | true => exact evpos rfl (next (h1 rfl))
  | false =>
   have h3 := h2 rfl
   rw [List.take_of_length_le (by omega)] at h3
   rw [no (fun h => h.elim h3.1 h3.2)]
   exact evneg (by simp) (evc rfl)
 | succ q ih =>
  intro k hk fl h1 h2
  refine evstep (fun k => by rw [spec_l07Holds.l1]) (evpos (by omega) ?_)
  rw [w64 (x := (k : Int) + 1) (by omega) (by omega)]
  cases fl with
  | true => exact evpos rfl (ih (k + 1) (by omega) true h1 (fun h => by cases h))
  | false =>
   have h3 := h2 rfl
   refine evneg (by simp) (evpos (by omega) ?_)
   have hlt : k < l.length := by omega
   have e : l.getD k 0 = l[k] := by simp [hlt]
   rw [rd_nat, e]
   refine ih (k + 1) (by omega) _ (fun h => ?_) (fun h => ⟨h3.1, ?_⟩)
   ·have h : l[k] = (i : Int) := by simpa using h
    exact .inr (h ▸ List.getElem_mem hlt)
   ·have h : ¬ l[k] = (i : Int) := by simpa using h
    rw [List.take_succ_eq_append_getElem hlt, List.mem_append, List.mem_singleton]
    exact fun q => q.elim h3.2 (fun q => h q.symm)
theorem holds_loop (x l : List Int) (hx : x.length ≤ 4) (hl : l.length ≤ 4) : ∀ q i, i + q = x.length → ∀ t : Bool, (t = true ↔ ∀ j, i ≤ j → j < x.length → (x.getD j 0 = 0 ∨ (j : Int) ∈ l)) → Ev (fun n => spec_l07Holds.l0 n x l i) t := by
 intro q
 induction q with
 | zero =>
  intro i hi t ht
  obtain rfl : t = true := ht.2 (fun j h1 h2 => by omega)
  exact evstep (fun k => by rw [spec_l07Holds.l0]) (evneg (by omega) (evc rfl))
 | succ q ih =>
  intro i hi t ht
  have hs := Gm.head_step (P := fun j => x.getD j 0 = 0 ∨ (j : Int) ∈ l) (i := i) (d := x.length) (by omega)
  refine evstep (fun k => by rw [spec_l07Holds.l0]) (evpos (by omega) (evpos (by omega) ?_))
  rw [rd_nat]
  refine holds_in x l i hl t (fun h => ?_) (fun h => no_iff (ht.trans hs) (fun q => h q.1)) l.length 0 (by omega) _ (fun h => ?_) (fun h => ⟨?_, by simp⟩)
  ·rw [w64 (x := (i : Int) + 1) (by omega) (by omega)]
   exact ih (i + 1) (by omega) t (ht.trans (hs.trans ⟨fun h => h.2, fun q => ⟨h, q⟩⟩))
  ·exact .inl (by simpa using h)
  ·simpa using h
theorem spec_holds (x g : List Int) (hx : x.length = g.length) (hg : g.length ≤ 4) (hp : ∀ j, j < x.length → 0 ≤ x.getD j 0) (t : Bool) (ht : t = true ↔ ∀ j, 0 ≤ j → j < x.length → Rp x g j) : Ev (fun n => spec_l07Holds.f n x (reps g (top g) g.length)) t := by
 unfold spec_l07Holds.f
 have hr := reps_len g (top g) g.length
 refine holds_loop x _ (by omega) (by omega) x.length 0 (by omega) t (ht.trans ⟨fun h j _ hj => ?_, fun h j _ hj c => ?_⟩)
 ·by_cases c : x.getD j 0 = 0
  ·exact .inl c
  ·exact .inr ((mem_reps g _ j _).2 ⟨by omega, h j (Nat.zero_le _) hj (by have := hp j hj; omega)⟩)
 ·rcases h j (Nat.zero_le _) hj with h | h
  ·omega
  ·exact ((mem_reps g _ j _).1 h).2
theorem v_len {l : FS} {n : Nat} {D : Int} (v : V l (n : Int) D) : l.length = n := by have := v.len; omega
theorem v_den {l : FS} {n D : Int} (v : V l n D) : 1 ≤ D ∧ D ≤ 1000000000 := by
 obtain ⟨d1, d2, _, _⟩ := denL_facts (ok_of v.fr) l.length 0 1 D (by omega) (by decide) (by decide) v.den
 exact ⟨d1, d2⟩
theorem v_nm {l : FS} {n D : Int} (v : V l n D) (i : Nat) (hi : i < l.length) : Nm (nm l D i) := by
 have hg := (su_ge v.pos l.length (Nat.le_refl _)).2 i hi
 have := v.sum
 have := v.pos i hi
 have := v_den v
 unfold Nm
 omega
open Classical in
theorem both (a b : List (List Int)) (l1 l2 : FS) (ha : a.length ≤ 1048576) (hr : ∀ x ∈ a, x.length ≤ 1048576) (h1 : l1.length ≤ 1048576) (h2 : l2.length ≤ 1048576) : ∃ R, Ev (fun k => spec_IsEquilibrium.f k a b l1 l2) R ∧ Ev (fun k => impl_IsEquilibrium.f k a b l1 l2) R := by
 have hb : decide (GameOK a b) = true ↔ GameOK a b := by simp
 have e0 : rd_L1 a 0 = rw_ a 0 := rw_eq a 0
 by_cases g : GameOK a b
 ·have hk := g.k4; have hk1 := g.k1; have hl := g.l4; have hs := g.same; have hl1 := g.l1
  have is := Gm.impl_is a b ha hr _ hb
  have ss := Gm.spec_is a b ha hr _ hb
  have gd : decide (GameOK a b) = true := by simpa using g
  by_cases v1 : ∃ D, V l1 (a.length : Int) D
  ·by_cases v2 : ∃ D, V l2 ((rw_ a 0).length : Int) D
   ·obtain ⟨D1, v1⟩ := v1
    obtain ⟨D2, v2⟩ := v2
    have p1 := v_den v1
    have q1 := v_den v2
    have n1 := v_len v1; have n2 := v_len v2
    have c1 : ¬ D1 > 1000000000 := by omega
    have c2 : ¬ D2 > 1000000000 := by omega
    have X1 : ∀ i, i < a.length → Nm (nm l1 D1 i) := fun i hi => v_nm v1 i (by omega)
    have Y1 : ∀ i, i < (rw_ a 0).length → Nm (nm l2 D2 i) := fun i hi => v_nm v2 i (by omega)
    have x1 : (numL l1 D1 l1.length).length = a.length := by rw [numL_len]; exact n1
    have y1 : (numL l2 D2 l2.length).length = (rw_ a 0).length := by rw [numL_len]; exact n2
    have x2 : ∀ j, j < a.length → (numL l1 D1 l1.length).getD j 0 = nm l1 D1 j := fun j hj => numL_at l1 D1 _ j (by omega)
    have y2 : ∀ j, j < (rw_ a 0).length → (numL l2 D2 l2.length).getD j 0 = nm l2 D2 j := fun j hj => numL_at l2 D2 _ j (by omega)
    generalize hG0 : gl a.length (gR a (nm l2 D2) (rw_ a 0).length) = G0
    generalize hG1 : gl (rw_ a 0).length (gC b (nm l1 D1) a.length) = G1
    have g0 : G0.length = a.length := by rw [← hG0, gl_len]
    have g1 : G1.length = (rw_ a 0).length := by rw [← hG1, gl_len]
    have ia := impl_gains0 g y1 y2 Y1
    have ib := impl_gains1 g x1 x2 X1
    rw [hG0] at ia
    rw [hG1] at ib
    have sa := spec_rep0 g y1 y2 Y1 G0 hG0.symm
    have sb := spec_rep1 g x1 x2 X1 G1 hG1.symm
    have px : ∀ j, j < (numL l1 D1 l1.length).length → 0 ≤ (numL l1 D1 l1.length).getD j 0 := fun j hj => by rw [x2 j (by omega)]; exact (X1 j (by omega)).1
    have py : ∀ j, j < (numL l2 D2 l2.length).length → 0 ≤ (numL l2 D2 l2.length).getD j 0 := fun j hj => by rw [y2 j (by omega)]; exact (Y1 j (by omega)).1
    generalize hX : numL l1 D1 l1.length = X at *
    generalize hY : numL l2 D2 l2.length = Y at *
    have t1 : decide (∀ j, 0 ≤ j → j < X.length → Rp X G0 j) = true ↔ ∀ j, 0 ≤ j → j < X.length → Rp X G0 j := by simp
    have t2 : decide (∀ j, 0 ≤ j → j < Y.length → Rp Y G1 j) = true ↔ ∀ j, 0 ≤ j → j < Y.length → Rp Y G1 j := by simp
    generalize decide (∀ j, 0 ≤ j → j < X.length → Rp X G0 j) = b1 at t1
    generalize decide (∀ j, 0 ≤ j → j < Y.length → Rp Y G1 j) = b2 at t2
    have m1 := impl_mix_v h1 v1; rw [hX] at m1
    have m2 := impl_mix_v h2 v2; rw [hY] at m2
    have r1 := spec_mix_v h1 v1 1000000000; rw [hX, if_neg c1] at r1
    have r2 := spec_mix_v h2 v2 1000000000; rw [hY, if_neg c2] at r2
    refine ⟨if b1 = true then (b2, 0) else (false, 0), ?_, ?_⟩
    ·unfold spec_IsEquilibrium.f spec_l07Both.f
     refine evbind (a := (X, Y, D1, D2, 0)) (evbind ss (evpos gd (evbind r1 (evpos (by omega) ?_)))) (evpos rfl ?_)
     ·rw [e0]
      refine evbind r2 ?_
      exact evneg (by simp) (evstep (fun k => by rw [spec_l07Both.j0]) (evneg (by simp) (evpos rfl (evpos rfl (evc rfl)))))
     ·refine evbind sa (evbind (spec_holds X G0 (by omega) (by omega) px b1 t1) ?_)
      cases b1 with
      | false => exact evneg (by simp) (evc rfl)
      | true => exact evpos rfl (evbind sb (evbind (spec_holds Y G1 (by omega) (by omega) py b2 t2) (evc rfl)))
    ·unfold impl_IsEquilibrium.f
     refine evsome is (evpos gd ?_)
     unfold impl_Game_sizes.f
     rw [if_pos (by omega), e0]
     refine evsome rfl (evbind m1 (evbind m2 (evpos rfl (evstep (fun k => by rw [impl_IsEquilibrium.j0]) (evneg (by simp) ?_)))))
     refine evbind ia (evbind (impl_rep X G0 (by omega) (by omega) (by omega) b1 t1) ?_)
     cases b1 with
     | false => exact evneg (by simp) (evc rfl)
     | true => exact evpos rfl (evbind ib (evbind (impl_rep Y G1 (by omega) (by omega) (by omega) b2 t2) (evc rfl)))
   ·obtain ⟨D1, v1⟩ := v1
    refine ⟨(false, 2), ?_, ?_⟩
    ·unfold spec_IsEquilibrium.f spec_l07Both.f
     refine evbind (a := ([], [], 0, 0, 2)) (evbind ss (evpos gd (evbind (spec_mix_v h1 v1 1000000000) (evpos (by omega) ?_)))) (evneg (by decide) (evc rfl))
     rw [e0]
     refine evbind (spec_mix_n h2 v2 1000000000) (evneg (by split <;> simp) (evstep (fun k => by rw [spec_l07Both.j0]) (evpos (by decide) (evc rfl))))
    ·unfold impl_IsEquilibrium.f
     refine evsome is (evpos gd ?_)
     unfold impl_Game_sizes.f
     rw [if_pos (by omega), e0]
     exact evsome rfl (evbind (impl_mix_v h1 v1) (evbind (impl_mix_n h2 v2) (evpos rfl (evstep (fun k => by rw [impl_IsEquilibrium.j0]) (evpos (by simp) (evc rfl))))))
  ·refine ⟨(false, 2), ?_, ?_⟩
   ·unfold spec_IsEquilibrium.f spec_l07Both.f
    refine evbind (a := ([], [], 0, 0, 2)) (evbind ss (evpos gd (evbind (spec_mix_n h1 v1 1000000000) (evpos (by omega) ?_)))) (evneg (by decide) (evc rfl))
    rw [e0]
    by_cases v2 : ∃ D, V l2 ((rw_ a 0).length : Int) D
    ·obtain ⟨D2, v2⟩ := v2
     exact evbind (spec_mix_v h2 v2 1000000000) (evpos rfl (evstep (fun k => by rw [spec_l07Both.j0]) (evpos rfl (evc rfl))))
    ·exact evbind (spec_mix_n h2 v2 1000000000) (evpos rfl (evstep (fun k => by rw [spec_l07Both.j0]) (evpos rfl (evc rfl))))
   ·unfold impl_IsEquilibrium.f
    refine evsome is (evpos gd ?_)
    unfold impl_Game_sizes.f
    rw [if_pos (by omega), e0]
    refine evsome rfl (evbind (impl_mix_n h1 v1) ?_)
    by_cases v2 : ∃ D, V l2 ((rw_ a 0).length : Int) D
    ·obtain ⟨D2, v2⟩ := v2
     exact evbind (impl_mix_v h2 v2) (evneg (by simp) (evstep (fun k => by rw [impl_IsEquilibrium.j0]) (evpos rfl (evc rfl))))
    ·exact evbind (impl_mix_n h2 v2) (evneg (by simp) (evstep (fun k => by rw [impl_IsEquilibrium.j0]) (evpos rfl (evc rfl))))
 ·refine ⟨(false, 1), ?_, ?_⟩
  ·unfold spec_IsEquilibrium.f spec_l07Both.f
   exact evbind (a := ([], [], 0, 0, 1)) (evbind (Gm.spec_is a b ha hr _ hb) (evneg (by simpa using g) (evc rfl))) (evneg (by decide) (evc rfl))
  ·unfold impl_IsEquilibrium.f
   exact evsome (Gm.impl_is a b ha hr _ hb) (evneg (by simpa using g) (evc rfl))
end Go.Proofs.Ytjjbhdpjnjncbaa.MgE
end
section
namespace Go.Proofs.Ytjjbhdpjnjncbaa.La
open Go.RowKit Go.Proofs.YtjjbhdpjnjncbaaW.PrintWords Go.Proofs.YtjjbhdpjnjncbaaW.PrintMore Go.Proofs.Ytjjbhdpjnjncbaa.Ma Go.Proofs.Ytjjbhdpjnjncbaa.Pr Go.Proofs.Ytjjbhdpjnjncbaa.Hm
end Go.Proofs.Ytjjbhdpjnjncbaa.La
end
section
namespace Go.Proofs.Ytjjbhdpjnjncbaa.La
open Go.RowKit Go.Proofs.YtjjbhdpjnjncbaaW.PrintWords Go.Proofs.YtjjbhdpjnjncbaaW.PrintMore Go.Proofs.Ytjjbhdpjnjncbaa.Ma Go.Proofs.Ytjjbhdpjnjncbaa.Pr Go.Proofs.Ytjjbhdpjnjncbaa.Op
theorem eqG {a b : List (List Int)} (ha : Fit a) (hb : Fit b) : Ev (fun k => laws_eqGame.f k a b a b) true := by
 unfold laws_eqGame.f
 exact evbind (fit_eq ha) (evpos rfl (evbind (fit_eq hb) (evpos rfl (evc rfl))))
end Go.Proofs.Ytjjbhdpjnjncbaa.La
end
section
namespace Go.Proofs.Ytjjbhdpjnjncbaa.La
open Go.RowKit Go.Proofs.YtjjbhdpjnjncbaaW.PrintWords Go.Proofs.YtjjbhdpjnjncbaaW.PrintMore Go.Proofs.Ytjjbhdpjnjncbaa.Ma Go.Proofs.Ytjjbhdpjnjncbaa.Pr Go.Proofs.Ytjjbhdpjnjncbaa.Hm Go.Proofs.Ytjjbhdpjnjncbaa.Op
theorem szG2 {a b : List (List Int)} (ga : GoodList (GoodList (GoodInt .i64)) a) (gb : GoodList (GoodList (GoodInt .i64)) b) :
  ∃ t : Int, Ev (fun k => laws_szGame.f k a b 1048576) t ∧ (0 ≤ t → tot a ≤ 1048576 ∧ tot b ≤ 1048576) := by
 have h1 := szSS a ga (n := 1048576) (by decide) (by decide)
 by_cases c : (1048576 : Int) < (tot a : Int)
 ·rw [if_pos c] at h1
  exact ⟨-1, by unfold laws_szGame.f; exact evbind h1 (evpos (by decide) (evc rfl)), fun h => by omega⟩
 ·rw [if_neg c] at h1
  have h2 := szSS b gb (n := 1048576 - (tot a : Int)) (by omega) (by omega)
  by_cases c2 : (1048576 : Int) - (tot a : Int) < (tot b : Int)
  ·rw [if_pos c2] at h2
   exact ⟨-1, by unfold laws_szGame.f; exact evbind h1 (evneg (by omega) (evbind h2 (evpos (by decide) (evc rfl)))), fun h => by omega⟩
  ·rw [if_neg c2] at h2
   exact ⟨_, by unfold laws_szGame.f; exact evbind h1 (evneg (by omega) (evbind h2 (evneg (by omega) (evc rfl)))), fun _ => ⟨by omega, by omega⟩⟩
theorem szG_le {a b : List (List Int)} (ga : GoodList (GoodList (GoodInt .i64)) a) (gb : GoodList (GoodList (GoodInt .i64)) b) {t : Int} (ht : Ev (fun k => laws_szGame.f k a b 1048576) t) : t ≤ 1048576 := by
 have uniq : ∀ u : Int, Ev (fun k => laws_szGame.f k a b 1048576) u → t = u := by
  intro u hu
  obtain ⟨k1, e1⟩ := ht
  obtain ⟨k2, e2⟩ := hu
  have h1 := e1 (k1 + k2) (by omega)
  have h2 := e2 (k1 + k2) (by omega)
  rw [h1] at h2
  exact Option.some.inj h2
 have h1 := szSS a ga (n := 1048576) (by decide) (by decide)
 by_cases c : (1048576 : Int) < (tot a : Int)
 ·rw [if_pos c] at h1
  have := uniq (-1) (by unfold laws_szGame.f; exact evbind h1 (evpos (by decide) (evc rfl)))
  omega
 ·rw [if_neg c] at h1
  have h2 := szSS b gb (n := 1048576 - (tot a : Int)) (by omega) (by omega)
  by_cases c2 : (1048576 : Int) - (tot a : Int) < (tot b : Int)
  ·rw [if_pos c2] at h2
   have := uniq (-1) (by unfold laws_szGame.f; exact evbind h1 (evneg (by omega) (evbind h2 (evpos (by decide) (evc rfl)))))
   omega
  ·rw [if_neg c2] at h2
   have := uniq _ (by unfold laws_szGame.f; exact evbind h1 (evneg (by omega) (evbind h2 (evneg (by omega) (evc rfl)))))
   omega
end Go.Proofs.Ytjjbhdpjnjncbaa.La
end
section
namespace Go.Proofs.Ytjjbhdpjnjncbaa.Pure
open Go.RowKit Go.Proofs.YtjjbhdpjnjncbaaW.PrintWords Go.Proofs.YtjjbhdpjnjncbaaW.PrintMore Go.Proofs.Ytjjbhdpjnjncbaa.Ma Go.Proofs.Ytjjbhdpjnjncbaa.Pr Go.Proofs.Ytjjbhdpjnjncbaa.La Go.Proofs.Ytjjbhdpjnjncbaa.Op
theorem FnExactIsEquilibrium : Say.FnExactIsEquilibrium := by
 intro a b l1 l2 ga gb g1 g2
 obtain ⟨t, hsz, hf⟩ := szG2 ga gb
 have ht1 : t ≤ 1048576 := szG_le ga gb hsz
 obtain ⟨k0, ht⟩ := hsz
 by_cases c : t < 0
 ·refine ⟨k0, ?_⟩
  unfold laws_FnExactIsEquilibrium.f
  rw [if_pos]
  exact .inr (.inl ⟨t, ht _ (Nat.le_refl _), c⟩)
 ·obtain ⟨ta, tb⟩ := hf (by omega)
  have s1 := szF (l := l1) (n := t) (by omega) ht1 g1.1
  by_cases c1 : t < (l1.length : Int)
  ·rw [if_pos c1] at s1
   refine ⟨k0, ?_⟩
   unfold laws_FnExactIsEquilibrium.f
   rw [if_pos]
   exact .inr (.inr (.inl ⟨t, -1, ht _ (Nat.le_refl _), c, s1, by decide⟩))
  ·rw [if_neg c1] at s1
   have s2 := szF (l := l2) (n := t - (l1.length : Int)) (by omega) (by omega) g2.1
   by_cases c2 : t - (l1.length : Int) < (l2.length : Int)
   ·rw [if_pos c2] at s2
    refine ⟨k0, ?_⟩
    unfold laws_FnExactIsEquilibrium.f
    rw [if_pos]
    exact .inr (.inr (.inr ⟨t, _, -1, ht _ (Nat.le_refl _), c, s1, by omega, s2, by decide⟩))
   ·rw [if_neg c2] at s2
    have fa := fit_of ta; have fb := fit_of tb
    have m1 : (l1.map cv).length ≤ 1048576 := by rw [List.length_map]; omega
    have m2 : (l2.map cv).length ≤ 1048576 := by rw [List.length_map]; omega
    obtain ⟨R, ⟨k1, e1⟩, ⟨k2, e2⟩⟩ := MgE.both a b (l1.map cv) (l2.map cv) fa.len fa.row m1 m2
    obtain ⟨k3, e3⟩ := fit_to fa
    obtain ⟨k4, e4⟩ := fit_to fb
    obtain ⟨k5, e5⟩ := toF l1 (by omega)
    obtain ⟨k6, e6⟩ := toF l2 (by omega)
    obtain ⟨k7, e7⟩ := eqG fa fb
    obtain ⟨k8, e8⟩ := eqF _ m1
    obtain ⟨k9, e9⟩ := eqF _ m2
    refine ⟨k0 + k1 + k2 + k3 + k4 + k5 + k6 + k7 + k8 + k9, ?_⟩
    unfold laws_FnExactIsEquilibrium.f
    rw [if_pos]
    exact .inl ⟨t, _, _, l1.map cv, l2.map cv, R.1, R.2, ht _ (by omega), c, s1, by omega, s2, by omega, ⟨e3 _ (by omega), e4 _ (by omega)⟩, e5 _ (by omega), e6 _ (by omega), e1 _ (by omega), e2 _ (by omega), e7 _ (by omega), e8 _ (by omega), e9 _ (by omega)⟩
end Go.Proofs.Ytjjbhdpjnjncbaa.Pure
end
section
namespace Go.Proofs.Ytjjbhdpjnjncbaa.fnExactIsEquilibrium
open Go.ChangeShapes Go.WideShapes Go.ChangeAt Go.RowKit Go.Proofs.Ytjjbhdpjnjncbaa.Op Go.Proofs.YtjjbhdpjnjncbaaW.PrintWords
theorem own : ownKnob Try.prog.godebug = none := by kernel_rfl
theorem laidOut : laidOutB Try.prog = true := by kernel_rfl
theorem lifted (os : Os) (started : os.Started) (H : Type) (enc : TypeId × Value → H) :
  ReturnsInHanded {} Try.checked os 9 .any (Rows.fnExactIsEquilibriumSpec.pre6 enc Try.prog Try.f9 Rows.fnExactIsEquilibriumRow.domain false) (Rows.fnExactIsEquilibriumSpec.post enc Try.prog Try.f9 false true false false) := by
 refine returnsInHanded_of_change_sized (C := Try.checked) own started (by kernel_rfl) Try.func9
  (ChangeSpec.witness6 (enc := enc) (C := Try.checked) false ⟨#[], #[.agg #[.slice none 0 0, .slice none 0 0], .slice none 0 0, .slice none 0 0], []⟩ 8 (by kernel_rfl) (by kernel_rfl) (by kernel_rfl) (by kernel_rfl)) ?_
 intro W base args ds gs before hval0 hW hcnd hsz0 _
 have hval : ∀ (j : Nat) t v, Try.f9.params[j]? = some t → args[j]? = some v → Value.okWide Try.prog W .any base t v := hval0
 have hW' := hW
 obtain ⟨p, q, hA0, hV, rfl, hfz, hnd⟩ := hW
 have hA : DataW.TrodAll enc Try.prog W 0 (fun _ => true) true Try.f9.params.toList args.toList ds p := hA0
 rw [Try.params9] at hA hval
 obtain ⟨v0, vs0, d0, ds0, p0, q0, hargs, rfl, rfl, h0, r0⟩ := trodAll_cons hA
 obtain ⟨v1, vs1, d1, ds1, p1, q1, rfl, rfl, rfl, h1, r1⟩ := trodAll_cons r0
 obtain ⟨v2, vs2, d2, ds2, p2, q2, rfl, rfl, rfl, h2, r2⟩ := trodAll_cons r1
 obtain ⟨rfl, rfl, rfl⟩ := trodAll_nil r2
 obtain rfl : args = #[v0, v1, v2] := by cases args; simp_all
 obtain ⟨rfl, rfl⟩ := trodVars_none hV
 have k0 := h0
 have lt0 := trod_blocks k0
 obtain ⟨⟨x0_0, x0_1⟩, cs0, rfl, hk0, g0⟩ := arg_struct Try.underlying24 (opens_struct2 Try.underlying24 ⟨by kernel_rfl, by kernel_rfl⟩ ⟨by kernel_rfl, by kernel_rfl⟩ (by kernel_rfl) (opens_slice Try.underlying22 (by kernel_rfl) (opens_slice Try.underlying33 (by kernel_rfl) (opens_int Try.underlying2))) (opens_slice Try.underlying22 (by kernel_rfl) (opens_slice Try.underlying33 (by kernel_rfl) (opens_int Try.underlying2))) id (Kd.pair (Kd.slice 33 (Kd.slice 2 (Kd.int .i64))) (Kd.slice 33 (Kd.slice 2 (Kd.int .i64)))) (fun _ _ _ h => h) (fun x => (GoodList (GoodList (GoodInt .i64))) x.1 ∧ (GoodList (GoodList (GoodInt .i64))) x.2) (fun _ h0 h1 => ⟨h0, h1⟩)) (hval 0 24 v0 rfl rfl) h0
 obtain ⟨A0_0, c0_0, A0_1, c0_1, rfl, q0_0, r0_0, q0_1, r0_1⟩ := cells_slice_slice hk0
 have k1 := h1
 have lt1 := trod_blocks k1
 letI inh1 : Inhabited Pr.S120 := ⟨Pr.z120⟩
 obtain ⟨A1, c1, l1, rfl, q1_0, r1_0, g1⟩ := arg_slice (d := Pr.k120) Try.underlying62 (by kernel_rfl) (opens_struct2 Try.underlying120 ⟨by kernel_rfl, by kernel_rfl⟩ ⟨by kernel_rfl, by kernel_rfl⟩ (by kernel_rfl) (opens_int Try.underlying2) (opens_int Try.underlying2) (fun x : Int × Int => (⟨x.1, x.2⟩ : Pr.S120)) Pr.k120 (fun _ _ _ h => h) (fun x : Pr.S120 => (GoodInt .i64) x.f0 ∧ (GoodInt .i64) x.f1) (fun _ h0 h1 => ⟨h0, h1⟩)) (hval 1 62 v1 rfl rfl) h1
 have k2 := h2
 have lt2 := trod_blocks k2
 letI inh2 : Inhabited Pr.S120 := ⟨Pr.z120⟩
 obtain ⟨A2, c2, l2, rfl, q2_0, r2_0, g2⟩ := arg_slice (d := Pr.k120) Try.underlying62 (by kernel_rfl) (opens_struct2 Try.underlying120 ⟨by kernel_rfl, by kernel_rfl⟩ ⟨by kernel_rfl, by kernel_rfl⟩ (by kernel_rfl) (opens_int Try.underlying2) (opens_int Try.underlying2) (fun x : Int × Int => (⟨x.1, x.2⟩ : Pr.S120)) Pr.k120 (fun _ _ _ h => h) (fun x : Pr.S120 => (GoodInt .i64) x.f0 ∧ (GoodInt .i64) x.f1) (fun _ h0 h1 => ⟨h0, h1⟩)) (hval 2 62 v2 rfl rfl) h2
 obtain ⟨k, h⟩ := Pure.FnExactIsEquilibrium x0_0 x0_1 l1 l2 g0.1 g0.2 g1 g2
 clear hA0 hval0 hsz0
 refine (Pr.laws_FnExactIsEquilibrium.calls k A0_0 c0_0 x0_0 A0_1 c0_1 x0_1 A1 c1 l1 A2 c2 l2 true W r0_0 q0_0 r0_1 q0_1 r1_0 q1_0 r2_0 q2_0 h).mono ?_
 rintro e W' ⟨rfl, bel0⟩
 have bel : Below W.heap.size W W' := by first | exact bel0 | exact bel0.below
 exact ⟨_, rfl, _, _, _, [], _, [], hW', trodAll_mk1 (shut_bool Try.underlying4 _), (trodAll_cons_mk (Below.trod laidOut (by kernel_rfl) (of_decide_eq_true (by kernel_rfl)) k0 bel lt0) (trodAll_cons_mk (Below.trod laidOut (by kernel_rfl) (of_decide_eq_true (by kernel_rfl)) k1 bel lt1) (trodAll_cons_mk (Below.trod laidOut (by kernel_rfl) (of_decide_eq_true (by kernel_rfl)) k2 bel lt2) trodAll_mk0))), rfl, bel.frame _, fun h => by cases h⟩
theorem over : Rows.fnExactIsEquilibriumRow.holds Try.pinned (OpenSpec.ofChange Rows.fnExactIsEquilibriumSpec) :=
 OpenClaim.holds_of_wide 9 Try.f9 rfl rfl rfl rfl rfl rfl rfl ⟨rfl, rfl, rfl, rfl, rfl⟩ rfl rfl rfl rfl rfl (by kernel_rfl) Try.func9 (by kernel_rfl)
  (of_decide_eq_true (by kernel_rfl)) (by unfold Func.isWrapper; first | (rw [if_pos (by decide +kernel)]; kernel_rfl) | (rw [if_neg (by decide +kernel)]; exact ⟨rfl, rfl⟩))
  (fun os started H enc _ => lifted os started H enc)
theorem proved : Rows.FnExactIsEquilibriumSaid := over
#print axioms proved
end Go.Proofs.Ytjjbhdpjnjncbaa.fnExactIsEquilibrium
namespace Go.Proofs.Ytjjbhdpjnjncbaa
theorem fnExactIsEquilibrium_holds : Rows.FnExactIsEquilibriumSaid := fnExactIsEquilibrium.proved
end Go.Proofs.Ytjjbhdpjnjncbaa
end
