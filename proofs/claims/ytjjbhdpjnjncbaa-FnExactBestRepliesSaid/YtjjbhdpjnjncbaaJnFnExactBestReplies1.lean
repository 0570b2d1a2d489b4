/- Texts of one claim (the words of the kit's print that the claim uses, printed functions, and this session's own texts), joined in the order of their imports by this session's own program (merge.py). -/
import Derived.Test.YtjjbhdpjnjncbaaJnFnExactBestReplies0
set_option linter.unusedVariables false
set_option linter.unusedSimpArgs false
set_option maxHeartbeats 8000000
set_option maxRecDepth 100000
section
namespace Go.Proofs.Ytjjbhdpjnjncbaa.Pr
open Go.RowKit Go.Proofs.YtjjbhdpjnjncbaaW.PrintWords Go.Proofs.YtjjbhdpjnjncbaaW.PrintLast Go.Proofs.YtjjbhdpjnjncbaaW.PrintMore
attribute [local go_sem] max2_int min2_int max_two min_two max_three min_three max_four min_four
def laws_eqInt64SS.l0 : Nat → List (List Int) → List (List Int) → Int → Option (Bool)
 | 0, _, _, _ => none
 | k + 1, x0, x1, x5 => if x5 < (x0.length : Int) then (if 0 ≤ x5 then (if x5 < (x1.length : Int) then ((laws_eqInt64S.f k (rd_L1 x0 x5) (rd_L1 x1 x5)).bind fun t145 => (if t145 = true then (laws_eqInt64SS.l0 k x0 x1 (wrap64 (x5 + 1))) else (some false))) else (none)) else (none)) else (some true)
def laws_eqInt64SS.f (k : Nat) (l0 : List (List Int)) (l1 : List (List Int)) : Option (Bool) := if (l0.length : Int) = (l1.length : Int) then (laws_eqInt64SS.l0 k l0 l1 0) else (some false)
theorem laws_eqInt64SS.mono_l : ∀ k, (∀ y0 y1 y2, LeO (laws_eqInt64SS.l0 k y0 y1 y2) (laws_eqInt64SS.l0 (k + 1) y0 y1 y2))
 | 0 => fun _ _ _ r h => by simp [laws_eqInt64SS.l0] at h
 | k + 1 => by
  have ih0 := laws_eqInt64SS.mono_l k
  ·intro y0 y1 y2
   unfold laws_eqInt64SS.l0
   repeat' first
   | (with_reducible exact ih0 _ _ _)
   | (with_reducible exact laws_eqInt64S.mono _ _ _)
   | (with_reducible exact LeO.refl _)
   | (with_reducible exact LeO.none _)
   | (with_reducible refine LeO.ite ?_ ?_)
   | (with_reducible refine LeO.bind ?_ (fun _ => ?_))
   | exact ih0 _ _ _
   | exact laws_eqInt64S.mono _ _ _
   | exact LeO.none _
   | refine LeO.ite ?_ ?_
   | refine LeO.bind ?_ (fun _ => ?_)
theorem laws_eqInt64SS.mono : ∀ a0 a1 k, LeO (laws_eqInt64SS.f k a0 a1) (laws_eqInt64SS.f (k + 1) a0 a1) := by
 intro a0 a1 k
 have ih0 := laws_eqInt64SS.mono_l k
 unfold laws_eqInt64SS.f
 repeat' first
   | (with_reducible exact ih0 _ _ _)
   | (with_reducible exact laws_eqInt64S.mono _ _ _)
   | (with_reducible exact LeO.refl _)
   | (with_reducible exact LeO.none _)
   | (with_reducible refine LeO.ite ?_ ?_)
   | (with_reducible refine LeO.bind ?_ (fun _ => ?_))
   | exact ih0 _ _ _
   | exact laws_eqInt64S.mono _ _ _
   | exact LeO.none _
   | refine LeO.ite ?_ ?_
   | refine LeO.bind ?_ (fun _ => ?_)
theorem laws_eqInt64SS.calls (k : Nat) (A0 : Option Addr) (c0 : Nat) (l0 : List (List Int)) (A1 : Option Addr) (c1 : Nat) (l1 : List (List Int)) (r : Bool) (w : World) (hr0 : Kd.C (Kd.slice 2 (Kd.int .i64)) w A0 l0.length l0) (hc0 : l0.length ≤ c0) (hr1 : Kd.C (Kd.slice 2 (Kd.int .i64)) w A1 l1.length l1) (hc1 : l1.length ≤ c1) (h : laws_eqInt64SS.f k l0 l1 = some r) :
  Calls Try.prog 29 #[.slice A0 l0.length c0, .slice A1 l1.length c1] w fun e w' => e = .returned (.bool r) ∧ Drawn0 w w' := by
 have HR0 := Aside0.mk hr0
 have HC0 := Aside0.mk hc0
 clear hr0 hc0
 have HR1 := Aside0.mk hr1
 have HC1 := Aside0.mk hc1
 clear hr1 hc1
 have H : (if (l0.length : Int) = (l1.length : Int) then (laws_eqInt64SS.l0 k l0 l1 0) else (some false)) = some r := h
 clear h
 by_cases c3 : (l0.length : Int) = (l1.length : Int)
 ·rw [if_pos c3] at H
  have c3b0 : ((l0.length : Int) == (l1.length : Int)) = true := beq_iff_eq.mpr c3
  have c3b1 : ((l0.length : Int) != (l1.length : Int)) = false := bne_eq_false_iff_eq.mpr c3
  have c3b2 : (l0.length == l1.length) = true := by first | simpa using c3 | (simp at c3 ⊢; omega)
  clear c3
  have H' := Aside0.mk H
  clear H
  go_enter Try.func29, Try.ntmps29
  go_wp2
  repeat (go_quiet (fail); try go_wp2)
  go_loopg [5] k (fun kq v5 w' => ∃ (x5_1 : Int), v5 = .int .i64 x5_1 ∧ Aside0 (laws_eqInt64SS.l0 kq l0 l1 x5_1 = some r) ∧ Aside0 (kq ≤ k) ∧ Drawn0 w w')
  case atStart => exact ⟨(0), (by first | rfl | (simp; done) | (simp [*]; done)), H', ⟨Nat.le_refl _⟩, by repeat (first | exact Drawn0.refl _ | apply Drawn0.step)⟩
  case round =>
   clear H'
   try clear c1
   try clear c2
   try clear p2
   try clear c3
   try clear c3b0
   try clear c3b1
   try clear c3b2
   obtain ⟨x5_1, rfl, HA, HK1, ⟨m1, rfl⟩⟩ := hrel
   cases gk with
   | zero => exact absurd HA.out (by simp [laws_eqInt64SS.l0])
   | succ k1 =>
    have H := HA.out
    clear HA
    simp only [laws_eqInt64SS.l0] at H
    by_cases c4 : x5_1 < (l0.length : Int)
    ·rw [if_pos c4] at H
     have c4b0 : decide (x5_1 < (l0.length : Int)) = true := decide_eq_true c4
     clear c4
     by_cases c5 : 0 ≤ x5_1
     ·rw [if_pos c5] at H
      have c5b0 : decide (0 ≤ x5_1) = true := decide_eq_true c5
      clear c5
      by_cases c6 : x5_1 < (l1.length : Int)
      ·rw [if_pos c6] at H
       have c6b0 : decide (x5_1 < (l1.length : Int)) = true := decide_eq_true c6
       clear c6
       replace H := Option.bind_eq_some_iff.mp H
       obtain ⟨t145, A70, H⟩ := H
       replace H : (if t145 = true then (laws_eqInt64SS.l0 k1 l0 l1 (wrap64 (x5_1 + 1))) else (some false)) = some r := H
       have A7 := Aside0.mk A70
       clear A70
       by_cases c8 : t145 = true
       ·subst c8
        have H1 : (laws_eqInt64SS.l0 k1 l0 l1 (wrap64 (x5_1 + 1))) = some r := by rw [if_pos rfl] at H; exact H
        clear H
        have H := H1
        clear H1
        have H' := Aside0.mk H
        clear H
        have p143 : 0 ≤ (x5_1 : Int) := of_decide_eq_true (by first | (with_reducible assumption) | assumption)
        have q143 : x5_1 < (l0.length : Int) := of_decide_eq_true (by first | (with_reducible assumption) | assumption)
        obtain ⟨ad143, A143_0, c143_0, e143, hx143_0, hl143_0, hi143_0⟩ := at_L1 HR0.out x5_1 p143 q143
        cases e143
        have HR143_0 := Aside0.mk hi143_0
        have HC143_0 := Aside0.mk hl143_0
        clear hi143_0 hl143_0
        replace p143 := eq_true p143
        replace q143 := eq_true q143
        have p144 : 0 ≤ (x5_1 : Int) := of_decide_eq_true (by first | (with_reducible assumption) | assumption)
        have q144 : x5_1 < (l1.length : Int) := of_decide_eq_true (by first | (with_reducible assumption) | assumption)
        obtain ⟨ad144, A144_0, c144_0, e144, hx144_0, hl144_0, hi144_0⟩ := at_L1 HR1.out x5_1 p144 q144
        cases e144
        have HR144_0 := Aside0.mk hi144_0
        have HC144_0 := Aside0.mk hl144_0
        clear hi144_0 hl144_0
        replace p144 := eq_true p144
        replace q144 := eq_true q144
        go_wp2_with (first | (go_at_call 34; (with_reducible refine (laws_eqInt64S.calls k1 _ _ (rd_L1 l0 x5_1) _ _ (rd_L1 l1 x5_1) true _ ?side1 ?side2 ?side3 ?side4 A7.out).mono ?_); (case side1 => repeat (first | exact HR143_0.out | (with_reducible refine Kd.C_alloc ?_ _) | (with_reducible refine Kd.C_drewN ?_ _) | (with_reducible refine Kd.C_drew ?_))); (case side2 => exact HC143_0.out); (case side3 => repeat (first | exact HR144_0.out | (with_reducible refine Kd.C_alloc ?_ _) | (with_reducible refine Kd.C_drewN ?_ _) | (with_reducible refine Kd.C_drew ?_))); (case side4 => exact HC144_0.out); rintro e w' ⟨rfl, ⟨nd, rfl⟩⟩; (try first | exact ⟨rfl, _, World.drewN_drewN _ _ _⟩ | exact ⟨rfl, _, Eq.trans (World.drewN_drewN _ _ _) (congrArg (World.drewN _) (Nat.add_assoc _ _ _))⟩)))
        repeat (go_quiet (first | (go_at_call 34; (with_reducible refine (laws_eqInt64S.calls k1 _ _ (rd_L1 l0 x5_1) _ _ (rd_L1 l1 x5_1) true _ ?side1 ?side2 ?side3 ?side4 A7.out).mono ?_); (case side1 => repeat (first | exact HR143_0.out | (with_reducible refine Kd.C_alloc ?_ _) | (with_reducible refine Kd.C_drewN ?_ _) | (with_reducible refine Kd.C_drew ?_))); (case side2 => exact HC143_0.out); (case side3 => repeat (first | exact HR144_0.out | (with_reducible refine Kd.C_alloc ?_ _) | (with_reducible refine Kd.C_drewN ?_ _) | (with_reducible refine Kd.C_drew ?_))); (case side4 => exact HC144_0.out); rintro e w' ⟨rfl, ⟨nd, rfl⟩⟩; (try first | exact ⟨rfl, _, World.drewN_drewN _ _ _⟩ | exact ⟨rfl, _, Eq.trans (World.drewN_drewN _ _ _) (congrArg (World.drewN _) (Nat.add_assoc _ _ _))⟩))); try go_wp2_with (first | (go_at_call 34; (with_reducible refine (laws_eqInt64S.calls k1 _ _ (rd_L1 l0 x5_1) _ _ (rd_L1 l1 x5_1) true _ ?side1 ?side2 ?side3 ?side4 A7.out).mono ?_); (case side1 => repeat (first | exact HR143_0.out | (with_reducible refine Kd.C_alloc ?_ _) | (with_reducible refine Kd.C_drewN ?_ _) | (with_reducible refine Kd.C_drew ?_))); (case side2 => exact HC143_0.out); (case side3 => repeat (first | exact HR144_0.out | (with_reducible refine Kd.C_alloc ?_ _) | (with_reducible refine Kd.C_drewN ?_ _) | (with_reducible refine Kd.C_drew ?_))); (case side4 => exact HC144_0.out); rintro e w' ⟨rfl, ⟨nd, rfl⟩⟩; (try first | exact ⟨rfl, _, World.drewN_drewN _ _ _⟩ | exact ⟨rfl, _, Eq.trans (World.drewN_drewN _ _ _) (congrArg (World.drewN _) (Nat.add_assoc _ _ _))⟩))))
        go_roundg k1
        case measure => have := HK1.out; omega
        case rel => exact ⟨(wrap64 (x5_1 + 1)), (by first | rfl | (simp; done) | (simp [*]; done)), H', ⟨by have := HK1.out; omega⟩, by repeat (first | exact Drawn0.refl _ | apply Drawn0.step)⟩
       ·replace c8 := Bool.eq_false_iff.mpr c8
        subst c8
        have H1 : (some false) = some r := by rw [if_neg (show ¬ (false = true) by decide)] at H; exact H
        clear H
        have H := H1
        clear H1
        obtain rfl := Option.some.inj H
        have p143 : 0 ≤ (x5_1 : Int) := of_decide_eq_true (by first | (with_reducible assumption) | assumption)
        have q143 : x5_1 < (l0.length : Int) := of_decide_eq_true (by first | (with_reducible assumption) | assumption)
        obtain ⟨ad143, A143_0, c143_0, e143, hx143_0, hl143_0, hi143_0⟩ := at_L1 HR0.out x5_1 p143 q143
        cases e143
        have HR143_0 := Aside0.mk hi143_0
        have HC143_0 := Aside0.mk hl143_0
        clear hi143_0 hl143_0
        replace p143 := eq_true p143
        replace q143 := eq_true q143
        have p144 : 0 ≤ (x5_1 : Int) := of_decide_eq_true (by first | (with_reducible assumption) | assumption)
        have q144 : x5_1 < (l1.length : Int) := of_decide_eq_true (by first | (with_reducible assumption) | assumption)
        obtain ⟨ad144, A144_0, c144_0, e144, hx144_0, hl144_0, hi144_0⟩ := at_L1 HR1.out x5_1 p144 q144
        cases e144
        have HR144_0 := Aside0.mk hi144_0
        have HC144_0 := Aside0.mk hl144_0
        clear hi144_0 hl144_0
        replace p144 := eq_true p144
        replace q144 := eq_true q144
        go_wp2_with (first | (go_at_call 34; (with_reducible refine (laws_eqInt64S.calls k1 _ _ (rd_L1 l0 x5_1) _ _ (rd_L1 l1 x5_1) false _ ?side1 ?side2 ?side3 ?side4 A7.out).mono ?_); (case side1 => repeat (first | exact HR143_0.out | (with_reducible refine Kd.C_alloc ?_ _) | (with_reducible refine Kd.C_drewN ?_ _) | (with_reducible refine Kd.C_drew ?_))); (case side2 => exact HC143_0.out); (case side3 => repeat (first | exact HR144_0.out | (with_reducible refine Kd.C_alloc ?_ _) | (with_reducible refine Kd.C_drewN ?_ _) | (with_reducible refine Kd.C_drew ?_))); (case side4 => exact HC144_0.out); rintro e w' ⟨rfl, ⟨nd, rfl⟩⟩; (try first | exact ⟨rfl, _, World.drewN_drewN _ _ _⟩ | exact ⟨rfl, _, Eq.trans (World.drewN_drewN _ _ _) (congrArg (World.drewN _) (Nat.add_assoc _ _ _))⟩)))
        repeat (go_quiet (first | (go_at_call 34; (with_reducible refine (laws_eqInt64S.calls k1 _ _ (rd_L1 l0 x5_1) _ _ (rd_L1 l1 x5_1) false _ ?side1 ?side2 ?side3 ?side4 A7.out).mono ?_); (case side1 => repeat (first | exact HR143_0.out | (with_reducible refine Kd.C_alloc ?_ _) | (with_reducible refine Kd.C_drewN ?_ _) | (with_reducible refine Kd.C_drew ?_))); (case side2 => exact HC143_0.out); (case side3 => repeat (first | exact HR144_0.out | (with_reducible refine Kd.C_alloc ?_ _) | (with_reducible refine Kd.C_drewN ?_ _) | (with_reducible refine Kd.C_drew ?_))); (case side4 => exact HC144_0.out); rintro e w' ⟨rfl, ⟨nd, rfl⟩⟩; (try first | exact ⟨rfl, _, World.drewN_drewN _ _ _⟩ | exact ⟨rfl, _, Eq.trans (World.drewN_drewN _ _ _) (congrArg (World.drewN _) (Nat.add_assoc _ _ _))⟩))); try go_wp2_with (first | (go_at_call 34; (with_reducible refine (laws_eqInt64S.calls k1 _ _ (rd_L1 l0 x5_1) _ _ (rd_L1 l1 x5_1) false _ ?side1 ?side2 ?side3 ?side4 A7.out).mono ?_); (case side1 => repeat (first | exact HR143_0.out | (with_reducible refine Kd.C_alloc ?_ _) | (with_reducible refine Kd.C_drewN ?_ _) | (with_reducible refine Kd.C_drew ?_))); (case side2 => exact HC143_0.out); (case side3 => repeat (first | exact HR144_0.out | (with_reducible refine Kd.C_alloc ?_ _) | (with_reducible refine Kd.C_drewN ?_ _) | (with_reducible refine Kd.C_drew ?_))); (case side4 => exact HC144_0.out); rintro e w' ⟨rfl, ⟨nd, rfl⟩⟩; (try first | exact ⟨rfl, _, World.drewN_drewN _ _ _⟩ | exact ⟨rfl, _, Eq.trans (World.drewN_drewN _ _ _) (congrArg (World.drewN _) (Nat.add_assoc _ _ _))⟩))))
        go_ret
        exact ⟨by first | rfl | (simp; done) | (simp [*]; done), by repeat (first | exact Drawn0.refl _ | apply Drawn0.step)⟩
      ·rw [if_neg c6] at H
       exact absurd H (by simp)
     ·rw [if_neg c5] at H
      exact absurd H (by simp)
    ·rw [if_neg c4] at H
     have c4b0 : decide (x5_1 < (l0.length : Int)) = false := decide_eq_false c4
     clear c4
     obtain rfl := Option.some.inj H
     go_wp2
     repeat (go_quiet (fail); try go_wp2)
     go_ret
     exact ⟨by first | rfl | (simp; done) | (simp [*]; done), by repeat (first | exact Drawn0.refl _ | apply Drawn0.step)⟩
 ·rw [if_neg c3] at H
  have c3b0 : ((l0.length : Int) == (l1.length : Int)) = false := beq_eq_false_iff_ne.mpr c3
  have c3b1 : ((l0.length : Int) != (l1.length : Int)) = true := bne_iff_ne.mpr c3
  have c3b2 : (l0.length == l1.length) = false := by first | simpa using c3 | (simp at c3 ⊢; omega)
  obtain rfl := Option.some.inj H
  go_enter Try.func29, Try.ntmps29
  go_wp2
  repeat (go_quiet (fail); try go_wp2)
  go_ret
  exact ⟨by first | rfl | (simp; done) | (simp [*]; done), by repeat (first | exact Drawn0.refl _ | apply Drawn0.step)⟩
def laws_eqGame.f (k : Nat) (l0_0 : List (List Int)) (l0_1 : List (List Int)) (l1_0 : List (List Int)) (l1_1 : List (List Int)) : Option (Bool) := (laws_eqInt64SS.f k l0_0 l1_0).bind fun t148 => (if t148 = true then ((laws_eqInt64SS.f k l0_1 l1_1).bind fun t149 => (if t149 = true then (some true) else (some false))) else (some false))
theorem laws_eqGame.mono : ∀ a0 a1 a2 a3 k, LeO (laws_eqGame.f k a0 a1 a2 a3) (laws_eqGame.f (k + 1) a0 a1 a2 a3) := by
 intro a0 a1 a2 a3 k
 unfold laws_eqGame.f
 repeat' first
   | (with_reducible exact laws_eqInt64SS.mono _ _ _)
   | (with_reducible exact LeO.refl _)
   | (with_reducible exact LeO.none _)
   | (with_reducible refine LeO.ite ?_ ?_)
   | (with_reducible refine LeO.bind ?_ (fun _ => ?_))
   | exact laws_eqInt64SS.mono _ _ _
   | exact LeO.none _
   | refine LeO.ite ?_ ?_
   | refine LeO.bind ?_ (fun _ => ?_)
theorem laws_eqGame.calls (k : Nat) (A0_0 : Option Addr) (c0_0 : Nat) (l0_0 : List (List Int)) (A0_1 : Option Addr) (c0_1 : Nat) (l0_1 : List (List Int)) (A1_0 : Option Addr) (c1_0 : Nat) (l1_0 : List (List Int)) (A1_1 : Option Addr) (c1_1 : Nat) (l1_1 : List (List Int)) (r : Bool) (w : World) (hr0_0 : Kd.C (Kd.slice 2 (Kd.int .i64)) w A0_0 l0_0.length l0_0) (hc0_0 : l0_0.length ≤ c0_0) (hr0_1 : Kd.C (Kd.slice 2 (Kd.int .i64)) w A0_1 l0_1.length l0_1) (hc0_1 : l0_1.length ≤ c0_1) (hr1_0 : Kd.C (Kd.slice 2 (Kd.int .i64)) w A1_0 l1_0.length l1_0) (hc1_0 : l1_0.length ≤ c1_0) (hr1_1 : Kd.C (Kd.slice 2 (Kd.int .i64)) w A1_1 l1_1.length l1_1) (hc1_1 : l1_1.length ≤ c1_1) (h : laws_eqGame.f k l0_0 l0_1 l1_0 l1_1 = some r) :
  Calls Try.prog 19 #[.agg #[.slice A0_0 l0_0.length c0_0, .slice A0_1 l0_1.length c0_1], .agg #[.slice A1_0 l1_0.length c1_0, .slice A1_1 l1_1.length c1_1]] w fun e w' => e = .returned (.bool r) ∧ Below w.heap.size w w' := by
 have hu26 := Try.underlying26
 have HR0_0 := Aside0.mk hr0_0
 have HC0_0 := Aside0.mk hc0_0
 clear hr0_0 hc0_0
 have HR0_1 := Aside0.mk hr0_1
 have HC0_1 := Aside0.mk hc0_1
 clear hr0_1 hc0_1
 have HR1_0 := Aside0.mk hr1_0
 have HC1_0 := Aside0.mk hc1_0
 clear hr1_0 hc1_0
 have HR1_1 := Aside0.mk hr1_1
 have HC1_1 := Aside0.mk hc1_1
 clear hr1_1 hc1_1
 have HB := Aside0.mk (Below.refl w.heap.size w)
 have H : ((laws_eqInt64SS.f k l0_0 l1_0).bind fun t148 => (if t148 = true then ((laws_eqInt64SS.f k l0_1 l1_1).bind fun t149 => (if t149 = true then (some true) else (some false))) else (some false))) = some r := h
 clear h
 replace H := Option.bind_eq_some_iff.mp H
 obtain ⟨t148, A30, H⟩ := H
 replace H : (if t148 = true then ((laws_eqInt64SS.f k l0_1 l1_1).bind fun t149 => (if t149 = true then (some true) else (some false))) else (some false)) = some r := H
 have A3 := Aside0.mk A30
 clear A30
 by_cases c4 : t148 = true
 ·subst c4
  have H1 : ((laws_eqInt64SS.f k l0_1 l1_1).bind fun t149 => (if t149 = true then (some true) else (some false))) = some r := by rw [if_pos rfl] at H; exact H
  clear H
  have H := H1
  clear H1
  replace H := Option.bind_eq_some_iff.mp H
  obtain ⟨t149, A50, H⟩ := H
  replace H : (if t149 = true then (some true) else (some false)) = some r := H
  have A5 := Aside0.mk A50
  clear A50
  by_cases c6 : t149 = true
  ·subst c6
   have H1 : (some true) = some r := by rw [if_pos rfl] at H; exact H
   clear H
   have H := H1
   clear H1
   obtain rfl := Option.some.inj H
   go_enter Try.func19, Try.ntmps19
   go_wp2_with (first | ((with_reducible refine gate_dst (N := 2) rfl ?_); refine box_event ?hg (N := 2) ?hd (cs := #[.slice A0_0 l0_0.length c0_0, .slice A0_1 l0_1.length c0_1]) (t := 26) ?hr ?_; (case hd => rfl); (case hg => rfl); (case hr => first | (go_simp; done) | (go_simp; rfl)); intro gb146 hg w7 hbox hb; have n0_ := Aside0.mk (below_step (by repeat (first | (with_reducible first | exact HB.out | apply below_alloc | apply pw_below_drewN | apply below_drew1) | exact HB.out)) hb); have n1_ := Aside0.mk (hbox); have n2_ := Aside0.mk ((by rw [hg]; exact (below_size (by repeat (first | (with_reducible first | exact HB.out | apply below_alloc | apply pw_below_drewN | apply below_drew1) | exact HB.out))) : w.heap.size ≤ gb146)); have n3_ := Aside0.mk ((by rw [hg]; exact (below_size (by repeat (first | (with_reducible first | exact HB.out | apply below_alloc | apply pw_below_drewN | apply below_drew1) | exact HB.out))) : w.heap.size ≤ gb146)); clear HB; have HB := n0_; have BK146 := n1_; have GW146 := n2_; have GE146 := n3_; clear n0_ n1_ n2_ n3_; clear hb hbox hg) | ((with_reducible refine gate_dst (N := 3) rfl ?_); refine box_event ?hg (N := 3) ?hd (cs := #[.slice A1_0 l1_0.length c1_0, .slice A1_1 l1_1.length c1_1]) (t := 26) ?hr ?_; (case hd => rfl); (case hg => rfl); (case hr => first | (go_simp; done) | (go_simp; rfl)); intro gb147 hg w8 hbox hb; have n0_ := Aside0.mk (blk_below (g := gb146) (o := .cells #[.slice A0_0 l0_0.length c0_0, .slice A0_1 l0_1.length c0_1] 26 (0, 0)) (by (with_reducible repeat (first | refine blk_drewN ?_ _ | refine blk_drew ?_ | refine blk_alloc ?_ _)); exact BK146.out) hb); have n1_ := Aside0.mk (below_step (by repeat (first | (with_reducible first | exact HB.out | apply below_alloc | apply pw_below_drewN | apply below_drew1 | refine below_set ?_ GE146.out) | exact HB.out)) hb); have n2_ := Aside0.mk (hbox); have n3_ := Aside0.mk ((by rw [hg]; exact (below_size (by repeat (first | (with_reducible first | exact HB.out | apply below_alloc | apply pw_below_drewN | apply below_drew1 | refine below_set ?_ GE146.out) | exact HB.out))) : w.heap.size ≤ gb147)); have n4_ := Aside0.mk ((by rw [hg]; exact (below_size (by repeat (first | (with_reducible first | exact HB.out | apply below_alloc | apply pw_below_drewN | apply below_drew1 | refine below_set ?_ GE146.out) | exact HB.out))) : w.heap.size ≤ gb147)); have n5_ := Aside0.mk ((by rw [hg]; exact Nat.ne_of_lt (blk_lt (g := gb146) (o := .cells #[.slice A0_0 l0_0.length c0_0, .slice A0_1 l0_1.length c0_1] 26 (0, 0)) (by (with_reducible repeat (first | refine blk_drewN ?_ _ | refine blk_drew ?_ | refine blk_alloc ?_ _)); exact BK146.out)) : gb146 ≠ gb147)); have n6_ := Aside0.mk ((by rw [hg]; exact Nat.ne_of_gt (blk_lt (g := gb146) (o := .cells #[.slice A0_0 l0_0.length c0_0, .slice A0_1 l0_1.length c0_1] 26 (0, 0)) (by (with_reducible repeat (first | refine blk_drewN ?_ _ | refine blk_drew ?_ | refine blk_alloc ?_ _)); exact BK146.out)) : gb147 ≠ gb146)); clear BK146; clear HB; have BK146 := n0_; have HB := n1_; have BK147 := n2_; have GW147 := n3_; have GE147 := n4_; have NB146_147 := n5_; have NB147_146 := n6_; clear n0_ n1_ n2_ n3_ n4_ n5_ n6_; clear hb hbox hg; have hnb9 := NB146_147.out; have hnc9 := NB147_146.out; have hcz10_0 : w8.cell? ⟨gb146, 0, none⟩ = some (.slice A0_0 l0_0.length c0_0) := (blk_cell BK146.out 0).trans rfl; have hcz10_1 : w8.cell? ⟨gb146, 1, none⟩ = some (.slice A0_1 l0_1.length c0_1) := (blk_cell BK146.out 1).trans rfl; have hfz10_0 := blk_frozen BK146.out 0; have hfz10_1 := blk_frozen BK146.out 1; have hcz11_0 : w8.cell? ⟨gb147, 0, none⟩ = some (.slice A1_0 l1_0.length c1_0) := (blk_cell BK147.out 0).trans rfl; have hcz11_1 : w8.cell? ⟨gb147, 1, none⟩ = some (.slice A1_1 l1_1.length c1_1) := (blk_cell BK147.out 1).trans rfl; have hfz11_0 := blk_frozen BK147.out 0; have hfz11_1 := blk_frozen BK147.out 1) | ((with_reducible refine gate_callee (f := 29) rfl ?_); refine goesL_ (some 9) rfl rfl Try.func29 (by kernel_rfl) rfl #[.slice A0_0 l0_0.length c0_0, .slice A1_0 l1_0.length c1_0] rfl (by (try simp only [List.map_toArray, List.map_cons, List.map_nil]); first | done | rfl | (simp only [List.length_drop, List.length_take]; rfl)) ?_; (with_reducible refine (laws_eqInt64SS.calls k _ _ l0_0 _ _ l1_0 true _ ?side1 ?side2 ?side3 ?side4 A3.out).mono ?_); (case side1 => repeat (first | exact (Kd.C_below HR0_0.out HB.out) | (with_reducible refine Kd.C_alloc ?_ _) | (with_reducible refine Kd.C_drewN ?_ _) | (with_reducible refine Kd.C_drew ?_))); (case side2 => exact HC0_0.out); (case side3 => repeat (first | exact (Kd.C_below HR1_0.out HB.out) | (with_reducible refine Kd.C_alloc ?_ _) | (with_reducible refine Kd.C_drewN ?_ _) | (with_reducible refine Kd.C_drew ?_))); (case side4 => exact HC1_0.out); rintro e w' ⟨rfl, ⟨nd, rfl⟩⟩; refine ⟨_, rfl, ?_⟩) | ((with_reducible refine gate_callee (f := 29) rfl ?_); refine goesL_ (some 15) rfl rfl Try.func29 (by kernel_rfl) rfl #[.slice A0_1 l0_1.length c0_1, .slice A1_1 l1_1.length c1_1] rfl (by (try simp only [List.map_toArray, List.map_cons, List.map_nil]); first | done | rfl | (simp only [List.length_drop, List.length_take]; rfl)) ?_; (with_reducible refine (laws_eqInt64SS.calls k _ _ l0_1 _ _ l1_1 true _ ?side1 ?side2 ?side3 ?side4 A5.out).mono ?_); (case side1 => repeat (first | exact (Kd.C_below HR0_1.out (by repeat (first | (with_reducible first | exact HB.out | apply below_alloc | apply pw_below_drewN | apply below_drew1 | refine below_set ?_ GE146.out | refine below_set ?_ GE147.out) | exact HB.out))) | (with_reducible refine Kd.C_alloc ?_ _) | (with_reducible refine Kd.C_drewN ?_ _) | (with_reducible refine Kd.C_drew ?_))); (case side2 => exact HC0_1.out); (case side3 => repeat (first | exact (Kd.C_below HR1_1.out (by repeat (first | (with_reducible first | exact HB.out | apply below_alloc | apply pw_below_drewN | apply below_drew1 | refine below_set ?_ GE146.out | refine below_set ?_ GE147.out) | exact HB.out))) | (with_reducible refine Kd.C_alloc ?_ _) | (with_reducible refine Kd.C_drewN ?_ _) | (with_reducible refine Kd.C_drew ?_))); (case side4 => exact HC1_1.out); rintro e w' ⟨rfl, ⟨nd, rfl⟩⟩; refine ⟨_, rfl, ?_⟩))
   go_ret
   exact ⟨by first | rfl | (simp [errW_none, errW_some] <;> rfl) | (simp [*, errW_none, errW_some] <;> rfl), by repeat (first | (with_reducible first | exact HB.out | apply below_alloc | apply pw_below_drewN | apply below_drew1 | refine below_set ?_ GE146.out | refine below_set ?_ GE147.out) | exact HB.out)⟩
  ·replace c6 := Bool.eq_false_iff.mpr c6
   subst c6
   have H1 : (some false) = some r := by rw [if_neg (show ¬ (false = true) by decide)] at H; exact H
   clear H
   have H := H1
   clear H1
   obtain rfl := Option.some.inj H
   go_enter Try.func19, Try.ntmps19
   go_wp2_with (first | ((with_reducible refine gate_dst (N := 2) rfl ?_); refine box_event ?hg (N := 2) ?hd (cs := #[.slice A0_0 l0_0.length c0_0, .slice A0_1 l0_1.length c0_1]) (t := 26) ?hr ?_; (case hd => rfl); (case hg => rfl); (case hr => first | (go_simp; done) | (go_simp; rfl)); intro gb146 hg w12 hbox hb; have n0_ := Aside0.mk (below_step (by repeat (first | (with_reducible first | exact HB.out | apply below_alloc | apply pw_below_drewN | apply below_drew1) | exact HB.out)) hb); have n1_ := Aside0.mk (hbox); have n2_ := Aside0.mk ((by rw [hg]; exact (below_size (by repeat (first | (with_reducible first | exact HB.out | apply below_alloc | apply pw_below_drewN | apply below_drew1) | exact HB.out))) : w.heap.size ≤ gb146)); have n3_ := Aside0.mk ((by rw [hg]; exact (below_size (by repeat (first | (with_reducible first | exact HB.out | apply below_alloc | apply pw_below_drewN | apply below_drew1) | exact HB.out))) : w.heap.size ≤ gb146)); clear HB; have HB := n0_; have BK146 := n1_; have GW146 := n2_; have GE146 := n3_; clear n0_ n1_ n2_ n3_; clear hb hbox hg) | ((with_reducible refine gate_dst (N := 3) rfl ?_); refine box_event ?hg (N := 3) ?hd (cs := #[.slice A1_0 l1_0.length c1_0, .slice A1_1 l1_1.length c1_1]) (t := 26) ?hr ?_; (case hd => rfl); (case hg => rfl); (case hr => first | (go_simp; done) | (go_simp; rfl)); intro gb147 hg w13 hbox hb; have n0_ := Aside0.mk (blk_below (g := gb146) (o := .cells #[.slice A0_0 l0_0.length c0_0, .slice A0_1 l0_1.length c0_1] 26 (0, 0)) (by (with_reducible repeat (first | refine blk_drewN ?_ _ | refine blk_drew ?_ | refine blk_alloc ?_ _)); exact BK146.out) hb); have n1_ := Aside0.mk (below_step (by repeat (first | (with_reducible first | exact HB.out | apply below_alloc | apply pw_below_drewN | apply below_drew1 | refine below_set ?_ GE146.out) | exact HB.out)) hb); have n2_ := Aside0.mk (hbox); have n3_ := Aside0.mk ((by rw [hg]; exact (below_size (by repeat (first | (with_reducible first | exact HB.out | apply below_alloc | apply pw_below_drewN | apply below_drew1 | refine below_set ?_ GE146.out) | exact HB.out))) : w.heap.size ≤ gb147)); have n4_ := Aside0.mk ((by rw [hg]; exact (below_size (by repeat (first | (with_reducible first | exact HB.out | apply below_alloc | apply pw_below_drewN | apply below_drew1 | refine below_set ?_ GE146.out) | exact HB.out))) : w.heap.size ≤ gb147)); have n5_ := Aside0.mk ((by rw [hg]; exact Nat.ne_of_lt (blk_lt (g := gb146) (o := .cells #[.slice A0_0 l0_0.length c0_0, .slice A0_1 l0_1.length c0_1] 26 (0, 0)) (by (with_reducible repeat (first | refine blk_drewN ?_ _ | refine blk_drew ?_ | refine blk_alloc ?_ _)); exact BK146.out)) : gb146 ≠ gb147)); have n6_ := Aside0.mk ((by rw [hg]; exact Nat.ne_of_gt (blk_lt (g := gb146) (o := .cells #[.slice A0_0 l0_0.length c0_0, .slice A0_1 l0_1.length c0_1] 26 (0, 0)) (by (with_reducible repeat (first | refine blk_drewN ?_ _ | refine blk_drew ?_ | refine blk_alloc ?_ _)); exact BK146.out)) : gb147 ≠ gb146)); clear BK146; clear HB; have BK146 := n0_; have HB := n1_; have BK147 := n2_; have GW147 := n3_; have GE147 := n4_; have NB146_147 := n5_; have NB147_146 := n6_; clear n0_ n1_ n2_ n3_ n4_ n5_ n6_; clear hb hbox hg; have hnb14 := NB146_147.out; have hnc14 := NB147_146.out; have hcz15_0 : w13.cell? ⟨gb146, 0, none⟩ = some (.slice A0_0 l0_0.length c0_0) := (blk_cell BK146.out 0).trans rfl; have hcz15_1 : w13.cell? ⟨gb146, 1, none⟩ = some (.slice A0_1 l0_1.length c0_1) := (blk_cell BK146.out 1).trans rfl; have hfz15_0 := blk_frozen BK146.out 0; have hfz15_1 := blk_frozen BK146.out 1; have hcz16_0 : w13.cell? ⟨gb147, 0, none⟩ = some (.slice A1_0 l1_0.length c1_0) := (blk_cell BK147.out 0).trans rfl; have hcz16_1 : w13.cell? ⟨gb147, 1, none⟩ = some (.slice A1_1 l1_1.length c1_1) := (blk_cell BK147.out 1).trans rfl; have hfz16_0 := blk_frozen BK147.out 0; have hfz16_1 := blk_frozen BK147.out 1) | ((with_reducible refine gate_callee (f := 29) rfl ?_); refine goesL_ (some 9) rfl rfl Try.func29 (by kernel_rfl) rfl #[.slice A0_0 l0_0.length c0_0, .slice A1_0 l1_0.length c1_0] rfl (by (try simp only [List.map_toArray, List.map_cons, List.map_nil]); first | done | rfl | (simp only [List.length_drop, List.length_take]; rfl)) ?_; (with_reducible refine (laws_eqInt64SS.calls k _ _ l0_0 _ _ l1_0 true _ ?side1 ?side2 ?side3 ?side4 A3.out).mono ?_); (case side1 => repeat (first | exact (Kd.C_below HR0_0.out HB.out) | (with_reducible refine Kd.C_alloc ?_ _) | (with_reducible refine Kd.C_drewN ?_ _) | (with_reducible refine Kd.C_drew ?_))); (case side2 => exact HC0_0.out); (case side3 => repeat (first | exact (Kd.C_below HR1_0.out HB.out) | (with_reducible refine Kd.C_alloc ?_ _) | (with_reducible refine Kd.C_drewN ?_ _) | (with_reducible refine Kd.C_drew ?_))); (case side4 => exact HC1_0.out); rintro e w' ⟨rfl, ⟨nd, rfl⟩⟩; refine ⟨_, rfl, ?_⟩) | ((with_reducible refine gate_callee (f := 29) rfl ?_); refine goesL_ (some 15) rfl rfl Try.func29 (by kernel_rfl) rfl #[.slice A0_1 l0_1.length c0_1, .slice A1_1 l1_1.length c1_1] rfl (by (try simp only [List.map_toArray, List.map_cons, List.map_nil]); first | done | rfl | (simp only [List.length_drop, List.length_take]; rfl)) ?_; (with_reducible refine (laws_eqInt64SS.calls k _ _ l0_1 _ _ l1_1 false _ ?side1 ?side2 ?side3 ?side4 A5.out).mono ?_); (case side1 => repeat (first | exact (Kd.C_below HR0_1.out (by repeat (first | (with_reducible first | exact HB.out | apply below_alloc | apply pw_below_drewN | apply below_drew1 | refine below_set ?_ GE146.out | refine below_set ?_ GE147.out) | exact HB.out))) | (with_reducible refine Kd.C_alloc ?_ _) | (with_reducible refine Kd.C_drewN ?_ _) | (with_reducible refine Kd.C_drew ?_))); (case side2 => exact HC0_1.out); (case side3 => repeat (first | exact (Kd.C_below HR1_1.out (by repeat (first | (with_reducible first | exact HB.out | apply below_alloc | apply pw_below_drewN | apply below_drew1 | refine below_set ?_ GE146.out | refine below_set ?_ GE147.out) | exact HB.out))) | (with_reducible refine Kd.C_alloc ?_ _) | (with_reducible refine Kd.C_drewN ?_ _) | (with_reducible refine Kd.C_drew ?_))); (case side4 => exact HC1_1.out); rintro e w' ⟨rfl, ⟨nd, rfl⟩⟩; refine ⟨_, rfl, ?_⟩))
   go_ret
   exact ⟨by first | rfl | (simp [errW_none, errW_some] <;> rfl) | (simp [*, errW_none, errW_some] <;> rfl), by repeat (first | (with_reducible first | exact HB.out | apply below_alloc | apply pw_below_drewN | apply below_drew1 | refine below_set ?_ GE146.out | refine below_set ?_ GE147.out) | exact HB.out)⟩
 ·replace c4 := Bool.eq_false_iff.mpr c4
  subst c4
  have H1 : (some false) = some r := by rw [if_neg (show ¬ (false = true) by decide)] at H; exact H
  clear H
  have H := H1
  clear H1
  obtain rfl := Option.some.inj H
  go_enter Try.func19, Try.ntmps19
  go_wp2_with (first | ((with_reducible refine gate_dst (N := 2) rfl ?_); refine box_event ?hg (N := 2) ?hd (cs := #[.slice A0_0 l0_0.length c0_0, .slice A0_1 l0_1.length c0_1]) (t := 26) ?hr ?_; (case hd => rfl); (case hg => rfl); (case hr => first | (go_simp; done) | (go_simp; rfl)); intro gb146 hg w17 hbox hb; have n0_ := Aside0.mk (below_step (by repeat (first | (with_reducible first | exact HB.out | apply below_alloc | apply pw_below_drewN | apply below_drew1) | exact HB.out)) hb); have n1_ := Aside0.mk (hbox); have n2_ := Aside0.mk ((by rw [hg]; exact (below_size (by repeat (first | (with_reducible first | exact HB.out | apply below_alloc | apply pw_below_drewN | apply below_drew1) | exact HB.out))) : w.heap.size ≤ gb146)); have n3_ := Aside0.mk ((by rw [hg]; exact (below_size (by repeat (first | (with_reducible first | exact HB.out | apply below_alloc | apply pw_below_drewN | apply below_drew1) | exact HB.out))) : w.heap.size ≤ gb146)); clear HB; have HB := n0_; have BK146 := n1_; have GW146 := n2_; have GE146 := n3_; clear n0_ n1_ n2_ n3_; clear hb hbox hg) | ((with_reducible refine gate_dst (N := 3) rfl ?_); refine box_event ?hg (N := 3) ?hd (cs := #[.slice A1_0 l1_0.length c1_0, .slice A1_1 l1_1.length c1_1]) (t := 26) ?hr ?_; (case hd => rfl); (case hg => rfl); (case hr => first | (go_simp; done) | (go_simp; rfl)); intro gb147 hg w18 hbox hb; have n0_ := Aside0.mk (blk_below (g := gb146) (o := .cells #[.slice A0_0 l0_0.length c0_0, .slice A0_1 l0_1.length c0_1] 26 (0, 0)) (by (with_reducible repeat (first | refine blk_drewN ?_ _ | refine blk_drew ?_ | refine blk_alloc ?_ _)); exact BK146.out) hb); have n1_ := Aside0.mk (below_step (by repeat (first | (with_reducible first | exact HB.out | apply below_alloc | apply pw_below_drewN | apply below_drew1 | refine below_set ?_ GE146.out) | exact HB.out)) hb); have n2_ := Aside0.mk (hbox); have n3_ := Aside0.mk ((by rw [hg]; exact (below_size (by repeat (first | (with_reducible first | exact HB.out | apply below_alloc | apply pw_below_drewN | apply below_drew1 | refine below_set ?_ GE146.out) | exact HB.out))) : w.heap.size ≤ gb147)); have n4_ := Aside0.mk ((by rw [hg]; exact (below_size (by repeat (first | (with_reducible first | exact HB.out | apply below_alloc | apply pw_below_drewN | apply below_drew1 | refine below_set ?_ GE146.out) | exact HB.out))) : w.heap.size ≤ gb147)); have n5_ := Aside0.mk ((by rw [hg]; exact Nat.ne_of_lt (blk_lt (g := gb146) (o := .cells #[.slice A0_0 l0_0.length c0_0, .slice A0_1 l0_1.length c0_1] 26 (0, 0)) (by (with_reducible repeat (first | refine blk_drewN ?_ _ | refine blk_drew ?_ | refine blk_alloc ?_ _)); exact BK146.out)) : gb146 ≠ gb147)); have n6_ := Aside0.mk ((by rw [hg]; exact Nat.ne_of_gt (blk_lt (g := gb146) (o := .cells #[.slice A0_0 l0_0.length c0_0, .slice A0_1 l0_1.length c0_1] 26 (0, 0)) (by (with_reducible repeat (first | refine blk_drewN ?_ _ | refine blk_drew ?_ | refine blk_alloc ?_ _)); exact BK146.out)) : gb147 ≠ gb146)); clear BK146; clear HB; have BK146 := n0_; have HB := n1_; have BK147 := n2_; have GW147 := n3_; have GE147 := n4_; have NB146_147 := n5_; have NB147_146 := n6_; clear n0_ n1_ n2_ n3_ n4_ n5_ n6_; clear hb hbox hg; have hnb19 := NB146_147.out; have hnc19 := NB147_146.out; have hcz20_0 : w18.cell? ⟨gb146, 0, none⟩ = some (.slice A0_0 l0_0.length c0_0) := (blk_cell BK146.out 0).trans rfl; have hcz20_1 : w18.cell? ⟨gb146, 1, none⟩ = some (.slice A0_1 l0_1.length c0_1) := (blk_cell BK146.out 1).trans rfl; have hfz20_0 := blk_frozen BK146.out 0; have hfz20_1 := blk_frozen BK146.out 1; have hcz21_0 : w18.cell? ⟨gb147, 0, none⟩ = some (.slice A1_0 l1_0.length c1_0) := (blk_cell BK147.out 0).trans rfl; have hcz21_1 : w18.cell? ⟨gb147, 1, none⟩ = some (.slice A1_1 l1_1.length c1_1) := (blk_cell BK147.out 1).trans rfl; have hfz21_0 := blk_frozen BK147.out 0; have hfz21_1 := blk_frozen BK147.out 1) | ((with_reducible refine gate_callee (f := 29) rfl ?_); refine goesL_ (some 9) rfl rfl Try.func29 (by kernel_rfl) rfl #[.slice A0_0 l0_0.length c0_0, .slice A1_0 l1_0.length c1_0] rfl (by (try simp only [List.map_toArray, List.map_cons, List.map_nil]); first | done | rfl | (simp only [List.length_drop, List.length_take]; rfl)) ?_; (with_reducible refine (laws_eqInt64SS.calls k _ _ l0_0 _ _ l1_0 false _ ?side1 ?side2 ?side3 ?side4 A3.out).mono ?_); (case side1 => repeat (first | exact (Kd.C_below HR0_0.out HB.out) | (with_reducible refine Kd.C_alloc ?_ _) | (with_reducible refine Kd.C_drewN ?_ _) | (with_reducible refine Kd.C_drew ?_))); (case side2 => exact HC0_0.out); (case side3 => repeat (first | exact (Kd.C_below HR1_0.out HB.out) | (with_reducible refine Kd.C_alloc ?_ _) | (with_reducible refine Kd.C_drewN ?_ _) | (with_reducible refine Kd.C_drew ?_))); (case side4 => exact HC1_0.out); rintro e w' ⟨rfl, ⟨nd, rfl⟩⟩; refine ⟨_, rfl, ?_⟩))
  go_ret
  exact ⟨by first | rfl | (simp [errW_none, errW_some] <;> rfl) | (simp [*, errW_none, errW_some] <;> rfl), by repeat (first | (with_reducible first | exact HB.out | apply below_alloc | apply pw_below_drewN | apply below_drew1 | refine below_set ?_ GE146.out | refine below_set ?_ GE147.out) | exact HB.out)⟩
end Go.Proofs.Ytjjbhdpjnjncbaa.Pr
end
section
namespace Go.Proofs.Ytjjbhdpjnjncbaa.La
open Go.RowKit Go.Proofs.YtjjbhdpjnjncbaaW.PrintWords Go.Proofs.YtjjbhdpjnjncbaaW.PrintMore Go.Proofs.Ytjjbhdpjnjncbaa.Ma Go.Proofs.Ytjjbhdpjnjncbaa.Pr Go.Proofs.Ytjjbhdpjnjncbaa.Op
theorem rdL (l : List (List Int)) (i : Nat) : rd_L1 l (i : Int) = l.getD i [] := by simp [rd_L1]
theorem rdL_at {l : List (List Int)} {i : Nat} (h : i < l.length) : rd_L1 l (i : Int) = l[i] := by simp [rd_L1, h]
def lens : List (List Int) → Nat
 | [] => 0
 | x :: l => x.length + lens l
theorem lens_cons (x : List Int) (l : List (List Int)) : (lens (x :: l) : Int) = (x.length : Int) + (lens l : Int) := by simp [lens]
def tot (l : List (List Int)) : Nat := l.length + lens l
theorem lens_mem {l : List (List Int)} {x : List Int} (h : x ∈ l) : x.length ≤ lens l := by
 induction l with
 | nil => cases h
 | cons y l ih =>
  rcases List.mem_cons.1 h with rfl | h
  ·exact Nat.le_add_right _ _
  ·exact Nat.le_trans (ih h) (Nat.le_add_left _ _)
theorem szSS_loop (l : List (List Int)) (hr : ∀ x ∈ l, x.length ≤ maxLen) (hlen : l.length ≤ 1048576) : ∀ m i (n : Int), i + m = l.length → 0 ≤ n → n ≤ 1048576 →
  Ev (fun k => laws_szInt64SS.l0 k l n i) (if n < (lens (l.drop i) : Int) then (-1 : Int) else n - (lens (l.drop i) : Int)) := by
 intro m
 induction m with
 | zero =>
  intro i n hi h0 h1
  refine evstep (fun k => by rw [laws_szInt64SS.l0]) (evneg (by omega) (evc ?_))
  rw [List.drop_of_length_le (by omega), if_neg (by simp [lens]; omega)]
  simp [lens]
 | succ m ih =>
  intro i n hi h0 h1
  have hlt : i < l.length := by omega
  have hx := hr l[i] (List.getElem_mem hlt)
  refine evstep (fun k => by rw [laws_szInt64SS.l0]) (evpos (by omega) (evpos (by omega) ?_))
  rw [rdL_at hlt]
  refine evsome (sz_eq h0 h1 hx) ?_
  rw [List.drop_eq_getElem_cons hlt]
  by_cases c : n < (l[i].length : Int)
  ·rw [if_pos c, if_pos (by rw [lens_cons]; omega)]
   exact evpos (by decide) (evc rfl)
  ·rw [if_neg c]
   refine evneg (by omega) ?_
   rw [w64 (by omega) (by omega)]
   have := ih (i + 1) (n - (l[i].length : Int)) (by omega) (by omega) (by omega)
   have e : (if n - (l[i].length : Int) < (lens (l.drop (i + 1)) : Int) then (-1 : Int) else n - (l[i].length : Int) - (lens (l.drop (i + 1)) : Int)) = (if n < (lens (l[i] :: l.drop (i + 1)) : Int) then (-1 : Int) else n - (lens (l[i] :: l.drop (i + 1)) : Int)) := by
    rw [lens_cons]
    by_cases c2 : n - (l[i].length : Int) < (lens (l.drop (i + 1)) : Int)
    ·rw [if_pos c2, if_pos (by omega)]
    ·rw [if_neg c2, if_neg (by omega)]; omega
   rw [← e]
   exact this
theorem szSS (l : List (List Int)) (hg : GoodList (GoodList (GoodInt .i64)) l) {n : Int} (h0 : 0 ≤ n) (h1 : n ≤ 1048576) : Ev (fun k => laws_szInt64SS.f k l n) (if n < (tot l : Int) then (-1 : Int) else n - (tot l : Int)) := by
 have hl := hg.1
 unfold maxLen at hl
 unfold laws_szInt64SS.f
 rw [w64 (by omega) (by omega)]
 by_cases c : n < (l.length : Int)
 ·rw [if_pos (by unfold tot; omega)]
  exact evpos (by omega) (evc rfl)
 ·refine evneg (by omega) ?_
  have := szSS_loop l (fun x hx => (hg.2 x hx).1) (by omega) l.length 0 (n - (l.length : Int)) (by omega) (by omega) (by omega)
  rw [List.drop_zero] at this
  have e : (if n - (l.length : Int) < (lens l : Int) then (-1 : Int) else n - (l.length : Int) - (lens l : Int)) = (if n < (tot l : Int) then (-1 : Int) else n - (tot l : Int)) := by
   unfold tot
   by_cases c2 : n - (l.length : Int) < (lens l : Int)
   ·rw [if_pos c2, if_pos (by omega)]
   ·rw [if_neg c2, if_neg (by omega)]; omega
  rw [← e]
  exact this
theorem set_append_at {α : Type} (a b : List α) (x y : α) : (a ++ y :: b).set a.length x = a ++ x :: b := by
 rw [List.set_append_right _ _ (Nat.le_refl _), Nat.sub_self, List.set_cons_zero]
theorem toSS (l : List (List Int)) (hl : l.length ≤ 1048576) (hr : ∀ x ∈ l, x.length ≤ 1048576) : Ev (fun k => laws_toInt64SS.f k l) l := by
 have key : ∀ (m i : Nat), i + m = l.length → Ev (fun k => laws_toInt64SS.l0 k l (l.take i ++ List.replicate m []) i) l := by
  intro m
  induction m with
  | zero =>
   intro i hi
   refine evstep (fun k => by rw [laws_toInt64SS.l0]) (evneg (by omega) (evc ?_))
   rw [List.replicate_zero, List.append_nil, List.take_of_length_le (by omega)]
  | succ m ih =>
   intro i hi
   have hlt : i < l.length := by omega
   refine evstep (fun k => by rw [laws_toInt64SS.l0]) (evpos (by omega) (evpos (by omega) ?_))
   rw [rdL_at hlt]
   refine evbind (toI l[i] (hr _ (List.getElem_mem hlt))) (evpos (by simp; omega) ?_)
   rw [w64 (by omega) (by omega), Int.toNat_natCast]
   have e : (l.take i ++ List.replicate (m + 1) []).set i l[i] = l.take (i + 1) ++ List.replicate m [] := by
    have h1 : (l.take i).length = i := by rw [List.length_take]; omega
    have h2 := set_append_at (l.take i) (List.replicate m []) l[i] []
    rw [h1] at h2
    rw [List.replicate_succ, h2, List.take_succ_eq_append_getElem hlt, List.append_assoc]
    rfl
   rw [e]
   exact ih (i + 1) (by omega)
 unfold laws_toInt64SS.f
 refine evpos (by omega) (evpos (by omega) ?_)
 have := key l.length 0 (by omega)
 simpa using this
theorem eqSS (l : List (List Int)) (hl : l.length ≤ 1152921504606846976) (hr : ∀ x ∈ l, x.length ≤ 1152921504606846976) : Ev (fun k => laws_eqInt64SS.f k l l) true := by
 have key : ∀ (m i : Nat), i + m = l.length → Ev (fun k => laws_eqInt64SS.l0 k l l i) true := by
  intro m
  induction m with
  | zero =>
   intro i hi
   refine evstep (fun k => by rw [laws_eqInt64SS.l0]) ?_
   exact evneg (by omega) (evc rfl)
  | succ m ih =>
   intro i hi
   have hlt : i < l.length := by omega
   refine evstep (fun k => by rw [laws_eqInt64SS.l0]) (evpos (by omega) (evpos (by omega) (evpos (by omega) ?_)))
   rw [rdL_at hlt]
   refine evbind (eqI_same _ (hr _ (List.getElem_mem hlt))) (evpos rfl ?_)
   rw [w64 (by omega) (by omega)]
   exact ih (i + 1) (by omega)
 unfold laws_eqInt64SS.f
 exact evpos rfl (key l.length 0 (by omega))
structure Fit (l : List (List Int)) : Prop where
 len : l.length ≤ 1048576
 row : ∀ x ∈ l, x.length ≤ 1048576
theorem fit_of {l : List (List Int)} (h : tot l ≤ 1048576) : Fit l := ⟨by unfold tot at h; omega, fun x hx => by have := lens_mem hx; unfold tot at h; omega⟩
theorem fit_eq {l : List (List Int)} (h : Fit l) : Ev (fun k => laws_eqInt64SS.f k l l) true := eqSS l (by have := h.len; omega) (fun x hx => by have := h.row x hx; omega)
theorem fit_to {l : List (List Int)} (h : Fit l) : Ev (fun k => laws_toInt64SS.f k l) l := toSS l h.len h.row
end Go.Proofs.Ytjjbhdpjnjncbaa.La
end
section
namespace Go.Proofs.Ytjjbhdpjnjncbaa.Hm
open Go.RowKit Go.Proofs.YtjjbhdpjnjncbaaW.PrintWords Go.Proofs.YtjjbhdpjnjncbaaW.PrintLast Go.Proofs.YtjjbhdpjnjncbaaW.PrintMore Go.Proofs.Ytjjbhdpjnjncbaa.Pr Go.Proofs.Ytjjbhdpjnjncbaa.La Go.Proofs.Ytjjbhdpjnjncbaa.Ma
def marks : List (List Int) → Int → List (List Int)
 | [], _ => []
 | x :: l, n => count n x.length :: marks l (n + x.length)
def part (l : List (List Int)) (n : Int) (i : Nat) : List (List Int) := marks (l.take i) n ++ l.drop i
theorem marks_length : ∀ (l : List (List Int)) (n : Int), (marks l n).length = l.length
 | [], _ => rfl
 | x :: l, n => by simp [marks, marks_length l]
theorem part_length (l : List (List Int)) (n : Int) (i : Nat) (h : i ≤ l.length) : (part l n i).length = l.length := by
 simp [part, marks_length]; omega
theorem lens_append (a b : List (List Int)) : lens (a ++ b) = lens a + lens b := by
 induction a with
 | nil => simp [lens]
 | cons x a ih => simp only [List.cons_append, lens, ih]; omega
theorem marks_append : ∀ (a b : List (List Int)) (n : Int), marks (a ++ b) n = marks a n ++ marks b (n + lens a)
 | [], b, n => by simp [marks, lens]
 | x :: a, b, n => by
  simp only [List.cons_append, marks, marks_append a b, lens]
  congr 3
  push_cast
  omega
theorem part_at (l : List (List Int)) (n : Int) (i : Nat) (h : i < l.length) : (part l n i).getD i [] = l[i] := by
 have hm : (marks (l.take i) n).length = i := by rw [marks_length, List.length_take]; omega
 unfold part
 rw [List.getD_eq_getElem?_getD, List.getElem?_append_right (by omega), hm, Nat.sub_self, List.getElem?_drop, Nat.add_zero, List.getElem?_eq_getElem h]
 rfl
theorem part_set (l : List (List Int)) (n : Int) (i : Nat) (h : i < l.length) : (part l n i).set i (count (n + lens (l.take i)) l[i].length) = part l n (i + 1) := by
 have hm : (marks (l.take i) n).length = i := by rw [marks_length, List.length_take]; omega
 unfold part
 rw [List.take_succ_eq_append_getElem h, marks_append, List.append_assoc, List.set_append_right _ _ (by omega), hm, Nat.sub_self, List.drop_eq_getElem_cons h, List.set_cons_zero]
 simp [marks]
theorem lens_take_succ (l : List (List Int)) (i : Nat) (h : i < l.length) : lens (l.take (i + 1)) = lens (l.take i) + l[i].length := by
 rw [List.take_succ_eq_append_getElem h, lens_append]; simp [lens]
theorem lens_take_le (l : List (List Int)) (i : Nat) : lens (l.take i) ≤ lens l := by
 have := lens_append (l.take i) (l.drop i)
 rw [List.take_append_drop] at this
 omega
theorem mark_k (l : List Int) (n : Int) (hl : l.length ≤ 1152921504606846976) (h0 : 0 ≤ n) (h1 : n ≤ 1152921504606846976) : ∃ k, laws_markInt64S.f k l n = some (n + l.length, count n l.length) := evk (markI l n hl h0 h1)
section
variable {w0 : World} {ok : Nat → Prop}
abbrev SS (w0 w : World) (ok : Nat → Prop) (v : Value) (l : List (List Int)) : Prop := Kd.S (Kd.slice 2 (Kd.int .i64)) 33 w w0.heap.size ok v l
theorem mark_row {g cap : Nat} {w : World} {l : List (List Int)} (hB : Below w0.heap.size w0 w) (h : SS w0 w ok (.slice (some ⟨g, 0, none⟩) l.length cap) l) (i : Nat) (hi : i < l.length) (n : Int) (hl : l[i].length ≤ 1152921504606846976) (h0 : 0 ≤ n) (h1 : n ≤ 1152921504606846976) :
  ∃ u : Value, w.cell? ⟨g, i, none⟩ = some u ∧ Calls Try.prog 35 #[u, .int .i64 n] w fun e w' => e = .returned (.int .i64 (n + l[i].length)) ∧ SS w0 w' ok (.slice (some ⟨g, 0, none⟩) l.length cap) (l.set i (count n l[i].length)) ∧ Below w0.heap.size w0 w' ∧ Kept w w' ok := by
 obtain ⟨oki, c, hcl, hM, hcc, hoki, hH⟩ := Kd.S_lend h [] (i : Int) (by omega) (by omega)
 rw [Int.toNat_natCast, List.getD_eq_getElem?_getD, List.getElem?_eq_getElem hi] at hM
 obtain ⟨u, rfl, hR⟩ := hM
 refine ⟨u, by have := hcc 0 u rfl; rw [show (Kd.slice 2 (Kd.int .i64)).sz = 1 from rfl] at this; simpa using this, ?_⟩
 obtain ⟨k, hk⟩ := mark_k l[i] n hl h0 h1
 refine (laws_markInt64S.calls k (fun b => some b = u.ownBlock) u l[i] n _ _ w0 w hB (Kd.R_tight rfl hR) hk).mono ?_
 rintro e w' ⟨rfl, hR', hB', hK⟩
 have hok : ∀ b, some b = u.ownBlock → oki b := fun b hb => hR.1 b hb.symm
 refine ⟨rfl, ?_, hB', hK.mono (fun b hb => (hoki b (hok b hb)).1)⟩
 have hH' := Kd.H_step (w1 := w') hH (fun b _ hn hlt => hK.2 b hlt (fun hb => hn (hok b hb)))
 have hT := Kd.R_tight (d := Kd.int .i64) rfl hR'
 have := Kd.H_back hH' (x' := count n l[i].length) (okp := fun b => some b = u.ownBlock) ⟨u, rfl, hT⟩ hok
 rw [Int.toNat_natCast] at this
 exact this
end
theorem markSS {w0 w : World} {ok : Nat → Prop} (v : Value) (l : List (List Int)) (n : Int) (hB : Below w0.heap.size w0 w) (h : SS w0 w ok v l) (h0 : 0 ≤ n) (h1 : n + lens l ≤ 1099511627776) (hl : l.length ≤ 1099511627776) :
  Calls Try.prog 30 #[v, .int .i64 n] w fun e w' => e = .returned (.int .i64 (n + lens l)) ∧ SS w0 w' ok v (marks l n) ∧ Below w0.heap.size w0 w' ∧ Kept w w' ok := by
 obtain ⟨A, c, rfl⟩ := Kd.S_slice h
 have HS := Aside0.mk h
 have HB := Aside0.mk hB
 have H1 := Aside0.mk h1
 have H0 := Aside0.mk h0
 have HL := Aside0.mk hl
 clear h hB h1 h0 hl
 go_enter Try.func30, Try.ntmps30
 go_wp2
 go_loopg [1, 5] l.length (fun gg v1 v5 wr => ∃ (i : Nat) (m : Int), i ≤ l.length ∧ l.length - i ≤ gg ∧ v1 = .int .i64 m ∧ v5 = .int .i64 (i : Int) ∧ Aside0 (m = n + lens (l.take i)) ∧ Aside0 (SS w0 wr ok (.slice A l.length c) (part l n i)) ∧ Aside0 (Below w0.heap.size w0 wr) ∧ Aside0 (Kept w wr ok))
 case atStart => exact ⟨0, n, Nat.zero_le _, by omega, rfl, rfl, ⟨by simp [lens]⟩, ⟨by simpa [part, marks] using HS.out⟩, HB, ⟨Kept.refl _ _⟩⟩
 case round =>
  obtain ⟨i, m, hi, hg, rfl, rfl, HM, RS, RB, RK⟩ := hrel
  by_cases hlt : i < l.length
  ·have hpl := part_length l n i hi
   obtain ⟨g, cap, hv, hb1, hb2, cells, hc1⟩ := Kd.S_form RS.out (by rw [hpl]; omega)
   rw [hpl] at hv
   injection hv with hA hn hc
   subst hA; subst hc
   have hm0 : 0 ≤ m := by have := HM.out; have := H0.out; omega
   have hm1 : m + l[i].length ≤ 1099511627776 := by
    have e1 := lens_take_succ l i hlt
    have e2 := lens_take_le l (i + 1)
    have := HM.out; have := H1.out; omega
   have e : (part l n i)[i]'(by omega) = l[i] := by
    have := part_at l n i hlt
    rwa [List.getD_eq_getElem?_getD, List.getElem?_eq_getElem (by omega)] at this
   have hrow := mark_row (g := g) (cap := c) RB.out (by rw [hpl]; exact RS.out) i (by omega) m (by rw [e]; omega) hm0 (by omega)
   rw [e, hpl] at hrow
   obtain ⟨u, hcell, hcall⟩ := hrow
   have HCALL := Aside0.mk hcall
   have hltz : (i : Int) < (l.length : Int) := by omega
   have h0z : (0 : Int) ≤ (i : Int) := by omega
   have hlen := HL.out
   have hw : IntKind.i64.wrap ((i : Int) + 1) = ((i + 1 : Nat) : Int) := by rw [IntWalk.i64_in _ (by omega)]; rfl
   have HLT := Aside0.mk hlt
   clear hcall hm0 hm1 e hc1 hb1 hb2 hpl hn hlen
   go_wp2_with fail
   refine HCALL.out.mono ?_
   rintro e w' ⟨rfl, hS, hB', hK⟩
   have HS' := Aside0.mk hS
   have HB' := Aside0.mk hB'
   have HK' := Aside0.mk hK
   clear hS hB' hK HCALL
   go_wp2
   go_roundg (l.length - (i + 1))
   case measure => omega
   case rel =>
    have hle := HLT.out
    refine ⟨i + 1, m + l[i].length, by omega, by omega, rfl, by first | rfl | (rw [hw]) | simp [hw], ⟨?_⟩, ⟨?_⟩, ⟨HB'.out⟩, ⟨?_⟩⟩
    ·rw [HM.out, lens_take_succ l i hle]; push_cast; omega
    ·have := HS'.out
     rw [HM.out, part_set l n i hle] at this
     exact this
    ·exact RK.out.then_ HK'.out (fun b hb => .inl hb)
  ·have hltz : ¬ (i : Int) < (l.length : Int) := by omega
   obtain rfl : i = l.length := by omega
   go_wp2
   go_ret
   have e1 : l.take l.length = l := List.take_length
   refine ⟨by rw [HM.out, e1]; rfl, ?_, RB.out, RK.out⟩
   have := RS.out
   simpa [part, e1] using this
end Go.Proofs.Ytjjbhdpjnjncbaa.Hm
end
section
namespace Go.Proofs.Ytjjbhdpjnjncbaa.Lw
open Go.RowKit Go.Proofs.YtjjbhdpjnjncbaaW.PrintWords Go.Proofs.YtjjbhdpjnjncbaaW.PrintLast Go.Proofs.YtjjbhdpjnjncbaaW.PrintMore Go.Proofs.Ytjjbhdpjnjncbaa.Pr Go.Proofs.Ytjjbhdpjnjncbaa.La Go.Proofs.Ytjjbhdpjnjncbaa.Ma Go.Proofs.Ytjjbhdpjnjncbaa.Hm
structure Frm (w w' : World) (a b : Nat) : Prop where
 size : w.heap.size ≤ w'.heap.size
 same : ∀ k, k < w.heap.size → k < a ∨ b ≤ k → w'.heap[k]? = w.heap[k]?
theorem Frm.below {w w' : World} (h : Below w.heap.size w w') : Frm w w' 0 0 := ⟨h.size, fun k hk _ => h.block k hk⟩
theorem Frm.set (w : World) (g i : Nat) (u : Value) : Frm w (w.setCell ⟨g, i, none⟩ u) g (g + 1) :=
 ⟨by simp, fun k _ hk => Below.heap_setCell w ⟨g, i, none⟩ u k (by simp; omega)⟩
theorem Frm.trans {w w1 w2 : World} {a b : Nat} (h : Frm w w1 a b) (k : Frm w1 w2 a b) : Frm w w2 a b :=
 ⟨Nat.le_trans h.size k.size, fun i hi hn => (k.same i (Nat.lt_of_lt_of_le hi h.size) hn).trans (h.same i hi hn)⟩
theorem Frm.kept {w w' : World} {ok : Nat → Prop} {a b : Nat} (h : Kept w w' ok) (hok : ∀ k, ok k → a ≤ k ∧ k < b) : Frm w w' a b :=
 ⟨h.1, fun k hk hn => h.2 k hk (fun ho => by have := hok k ho; omega)⟩
section
variable {α : Type} {d : Kd α} {e lo hi a b : Nat} {w0 w w' : World} {v v1 : Value} {xs : List α}
def UR (d : Kd α) (e : Nat) (w0 w : World) (lo hi : Nat) (v : Value) (xs : List α) : Prop := d.R e w w0.heap.size (fun k => lo ≤ k ∧ k < hi) v xs
def US (d : Kd α) (e : Nat) (w0 w : World) (lo hi : Nat) (v : Value) (xs : List α) : Prop := d.S e w w0.heap.size (fun k => lo ≤ k ∧ k < hi) v xs
theorem UR.mv (h : UR d e w0 w lo hi v xs) (F : Frm w w' a b) (hd : hi ≤ a ∨ b ≤ lo) : UR d e w0 w' lo hi v xs := Kd.R_step h (fun k hk hlt => F.same k hlt (by omega))
theorem US.mv (h : US d e w0 w lo hi v xs) (F : Frm w w' a b) (hd : hi ≤ a ∨ b ≤ lo) : US d e w0 w' lo hi v xs := Kd.S_step h (fun k hk hlt => F.same k hlt (by omega))
theorem UR.mvB (h : UR d e w0 w lo hi v xs) (F : Frm w w' 0 0) : UR d e w0 w' lo hi v xs := h.mv F (.inr (Nat.zero_le _))
theorem US.mvB (h : US d e w0 w lo hi v xs) (F : Frm w w' 0 0) : US d e w0 w' lo hi v xs := h.mv F (.inr (Nat.zero_le _))
theorem UR.of {ok : Nat → Prop} (h : d.R e w' w.heap.size ok v xs) (hb : w0.heap.size ≤ w.heap.size) : UR d e w0 w' w.heap.size w'.heap.size v xs :=
 Kd.R_lower (Kd.R_mono (Kd.R_bound h) (fun k hk => ⟨hk.2.1, hk.2.2.1⟩)) hb
theorem US.of {ok : Nat → Prop} (h : d.S e w' w.heap.size ok v xs) (hb : w0.heap.size ≤ w.heap.size) : US d e w0 w' w.heap.size w'.heap.size v xs :=
 Kd.S_lower (Kd.S_mono (Kd.S_bound h) (fun k hk => ⟨hk.2.1, hk.2.2.1⟩)) hb
theorem UR.C {A : Option Addr} {n c : Nat} (h : UR d e w0 w lo hi (.slice A n c) xs) : d.C w A xs.length xs := (Kd.R_reads' h).2.2
theorem UR.len {A : Option Addr} {n c : Nat} (h : UR d e w0 w lo hi (.slice A n c) xs) : n = xs.length := (Kd.R_reads' h).1
theorem UR.cap {A : Option Addr} {n c : Nat} (h : UR d e w0 w lo hi (.slice A n c) xs) : xs.length ≤ c := (Kd.R_reads' h).1 ▸ (Kd.R_reads' h).2.1
theorem US.C {A : Option Addr} {n c : Nat} (h : US d e w0 w lo hi (.slice A n c) xs) : d.C w A xs.length xs := (Kd.S_reads' h).2.2
theorem US.cap {A : Option Addr} {n c : Nat} (h : US d e w0 w lo hi (.slice A n c) xs) : xs.length ≤ c := (Kd.S_reads' h).1 ▸ (Kd.S_reads' h).2.1
end
structure UP (w0 w : World) (lo hi : Nat) (v0 v1 : Value) (M : List (List Int)) (Q : List Int) : Prop where
 m : Kd.S (Kd.slice 2 (Kd.int .i64)) 33 w w0.heap.size (fun k => (lo ≤ k ∧ k < hi) ∧ some k ≠ v1.ownBlock) v0 M
 q : Kd.R (Kd.int .i64) 2 w w0.heap.size (fun k => lo ≤ k ∧ k < hi) v1 Q
section
variable {lo hi a b : Nat} {w0 w w' : World} {v0 v1 : Value} {M : List (List Int)} {Q : List Int}
theorem UP.mv (h : UP w0 w lo hi v0 v1 M Q) (F : Frm w w' a b) (hd : hi ≤ a ∨ b ≤ lo) : UP w0 w' lo hi v0 v1 M Q :=
 ⟨Kd.S_step h.m (fun k hk hlt => F.same k hlt (by have := hk.1; omega)), Kd.R_step h.q (fun k hk hlt => F.same k hlt (by omega))⟩
theorem UP.mvB (h : UP w0 w lo hi v0 v1 M Q) (F : Frm w w' 0 0) : UP w0 w' lo hi v0 v1 M Q := h.mv F (.inr (Nat.zero_le _))
theorem UP.of {ok : Nat → Prop} (h : Kd.S (Kd.slice 2 (Kd.int .i64)) 33 w' w.heap.size (fun k => some k ≠ v1.ownBlock) v0 M) (h' : Kd.R (Kd.int .i64) 2 w' w.heap.size ok v1 Q) (hb : w0.heap.size ≤ w.heap.size) : UP w0 w' w.heap.size w'.heap.size v0 v1 M Q :=
 ⟨Kd.S_lower (Kd.S_mono (Kd.S_bound h) (fun k hk => ⟨⟨hk.2.1, hk.2.2.1⟩, hk.1⟩)) hb, UR.of h' hb⟩
theorem UP.slices (h : UP w0 w lo hi v0 v1 M Q) : ∃ A0 c0 A1 c1, v0 = .slice A0 M.length c0 ∧ v1 = .slice A1 Q.length c1 := by
 obtain ⟨A0, c0, e0⟩ := Kd.S_slice h.m
 obtain ⟨A1, c1, e1⟩ := Kd.R_slice h.q
 exact ⟨A0, c0, A1, c1, e0, e1⟩
variable {A0 A1 : Option Addr} {n0 c0 n1 c1 : Nat}
theorem UP.C0 (h : UP w0 w lo hi (.slice A0 n0 c0) v1 M Q) : Kd.C (Kd.slice 2 (Kd.int .i64)) w A0 M.length M := (Kd.S_reads' h.m).2.2
theorem UP.C1 (h : UP w0 w lo hi v0 (.slice A1 n1 c1) M Q) : Kd.C (Kd.int .i64) w A1 Q.length Q := (Kd.R_reads' h.q).2.2
theorem UP.cap0 (h : UP w0 w lo hi (.slice A0 n0 c0) v1 M Q) : M.length ≤ c0 := (Kd.S_reads' h.m).1 ▸ (Kd.S_reads' h.m).2.1
theorem UP.cap1 (h : UP w0 w lo hi v0 (.slice A1 n1 c1) M Q) : Q.length ≤ c1 := (Kd.R_reads' h.q).1 ▸ (Kd.R_reads' h.q).2.1
end
theorem mark_US {w0 w : World} {lo hi : Nat} (v : Value) (l : List (List Int)) (n m : Int) (hB : Below w0.heap.size w0 w) (h : US (Kd.slice 2 (Kd.int .i64)) 33 w0 w lo hi v l) (h0 : 0 ≤ n) (h1 : n + lens l ≤ 1099511627776) (hl : l.length ≤ 1099511627776) (hm : m = n + lens l) :
  Calls Try.prog 30 #[v, .int .i64 n] w fun e w' => e = .returned (.int .i64 m) ∧ US (Kd.slice 2 (Kd.int .i64)) 33 w0 w' lo hi v (marks l n) ∧ Below w0.heap.size w0 w' ∧ Frm w w' lo hi := by
 subst hm
 refine (markSS v l n hB h h0 h1 hl).mono ?_
 rintro e w' ⟨rfl, hS, hB', hK⟩
 exact ⟨rfl, hS, hB', Frm.kept hK (fun _ hk => hk)⟩
end Go.Proofs.Ytjjbhdpjnjncbaa.Lw
end
section
namespace Go.Proofs.Ytjjbhdpjnjncbaa.Lw
open Go.RowKit Go.Proofs.YtjjbhdpjnjncbaaW.PrintWords Go.Proofs.YtjjbhdpjnjncbaaW.PrintLast Go.Proofs.YtjjbhdpjnjncbaaW.PrintMore Go.Proofs.Ytjjbhdpjnjncbaa.Pr Go.Proofs.Ytjjbhdpjnjncbaa.La Go.Proofs.Ytjjbhdpjnjncbaa.Ma Go.Proofs.Ytjjbhdpjnjncbaa.Hm
abbrev U2 (w0 w : World) (lo hi : Nat) (v : Value) (l : List (List Int)) : Prop := US (Kd.slice 2 (Kd.int .i64)) 33 w0 w lo hi v l
structure UG (w0 w : World) (lo hi : Nat) (v0 v1 : Value) (a b : List (List Int)) : Prop where
 ex : ∃ mid, lo ≤ mid ∧ mid ≤ hi ∧ U2 w0 w lo mid v0 a ∧ U2 w0 w mid hi v1 b
section
variable {lo hi x y : Nat} {w0 w w' : World} {v0 v1 : Value} {a b : List (List Int)}
theorem UG.mv (h : UG w0 w lo hi v0 v1 a b) (F : Frm w w' x y) (hd : hi ≤ x ∨ y ≤ lo) : UG w0 w' lo hi v0 v1 a b := by
 obtain ⟨mid, h1, h2, h3, h4⟩ := h.ex
 exact ⟨mid, h1, h2, h3.mv F (by omega), h4.mv F (by omega)⟩
theorem UG.mvB (h : UG w0 w lo hi v0 v1 a b) (F : Frm w w' 0 0) : UG w0 w' lo hi v0 v1 a b := h.mv F (.inr (Nat.zero_le _))
theorem US.low {α : Type} {d : Kd α} {e : Nat} {v : Value} {xs : List α} (h : US d e w w' lo hi v xs) (hb : w0.heap.size ≤ w.heap.size) : US d e w0 w' lo hi v xs := Kd.S_lower h hb
theorem UG.of (h : UG w w' lo hi v0 v1 a b) (hb : w0.heap.size ≤ w.heap.size) : UG w0 w' lo hi v0 v1 a b := by
 obtain ⟨mid, h1, h2, h3, h4⟩ := h.ex
 exact ⟨mid, h1, h2, h3.low hb, h4.low hb⟩
theorem UG.nil (w0 w : World) (lo hi : Nat) (h : lo ≤ hi) : UG w0 w lo hi (.slice none 0 0) (.slice none 0 0) [] [] := ⟨lo, Nat.le_refl _, h, Kd.S_nil _ _ _ _ _, Kd.S_nil _ _ _ _ _⟩
theorem UG.slices (h : UG w0 w lo hi v0 v1 a b) : ∃ A0 c0 A1 c1, v0 = .slice A0 a.length c0 ∧ v1 = .slice A1 b.length c1 := by
 obtain ⟨mid, h1, h2, h3, h4⟩ := h.ex
 obtain ⟨A0, c0, e0⟩ := Kd.S_slice h3
 obtain ⟨A1, c1, e1⟩ := Kd.S_slice h4
 exact ⟨A0, c0, A1, c1, e0, e1⟩
variable {A0 A1 : Option Addr} {n0 c0 n1 c1 : Nat}
theorem UG.C0 (h : UG w0 w lo hi (.slice A0 n0 c0) v1 a b) : Kd.C (Kd.slice 2 (Kd.int .i64)) w A0 a.length a := by obtain ⟨_, _, _, h3, _⟩ := h.ex; exact US.C h3
theorem UG.C1 (h : UG w0 w lo hi v0 (.slice A1 n1 c1) a b) : Kd.C (Kd.slice 2 (Kd.int .i64)) w A1 b.length b := by obtain ⟨_, _, _, _, h4⟩ := h.ex; exact US.C h4
theorem UG.cap0 (h : UG w0 w lo hi (.slice A0 n0 c0) v1 a b) : a.length ≤ c0 := by obtain ⟨_, _, _, h3, _⟩ := h.ex; exact US.cap h3
theorem UG.cap1 (h : UG w0 w lo hi v0 (.slice A1 n1 c1) a b) : b.length ≤ c1 := by obtain ⟨_, _, _, _, h4⟩ := h.ex; exact US.cap h4
end
theorem mark_UG {w0 w : World} {lo hi : Nat} (A0 : Option Addr) (c0 : Nat) (A1 : Option Addr) (c1 : Nat) (a b : List (List Int)) (n m : Int) (hB : Below w0.heap.size w0 w) (h : UG w0 w lo hi (.slice A0 a.length c0) (.slice A1 b.length c1) a b) (h0 : 0 ≤ n)
  (h1 : n + lens a + lens b ≤ 1099511627776) (hl : a.length ≤ 1099511627776) (hl' : b.length ≤ 1099511627776) (hm : m = n + lens a + lens b) (hhi : hi ≤ w.heap.size) :
  Calls Try.prog 20 #[.agg #[.slice A0 a.length c0, .slice A1 b.length c1], .int .i64 n] w fun e w' => e = .returned (.int .i64 m) ∧ UG w0 w' lo hi (.slice A0 a.length c0) (.slice A1 b.length c1) (marks a n) (marks b (n + lens a)) ∧ Below w0.heap.size w0 w' ∧ Frm w w' lo hi := by
 obtain ⟨mid, hm1, hm2, hA, hB2⟩ := h.ex
 have HB := Aside0.mk hB
 have HU := Aside0.mk hA
 have HV := Aside0.mk hB2
 have H0 := Aside0.mk h0
 have H1 := Aside0.mk h1
 have HL := Aside0.mk hl
 have HL' := Aside0.mk hl'
 have HM := Aside0.mk hm
 have HF := Aside0.mk (show Kept w w (fun k => lo ≤ k ∧ k < hi) from Kept.refl _ _)
 obtain ⟨n1, hn1⟩ : ∃ x, x = n + lens a := ⟨_, rfl⟩
 have HN := Aside0.mk hn1
 have HHI := Aside0.mk hhi
 have HD := Aside0.mk (And.intro hm1 hm2)
 clear hB h h0 h1 hl hl' hm hn1 hhi hA hB2 hm1 hm2
 go_enter Try.func20, Try.ntmps20
 go_wp2_with (first | ((with_reducible refine gate_dst (N := 2) rfl ?_); refine box_event ?hg (N := 2) ?hd (cs := #[.slice A0 a.length c0, .slice A1 b.length c1]) (t := 26) ?hr ?_; (case hd => rfl); (case hg => rfl); (case hr => first | (go_simp; done) | (go_simp; rfl)); intro gb hg w1 hbox hb; have n0 := Aside0.mk (HU.out.mvB (Frm.below hb)); have n0v := Aside0.mk (HV.out.mvB (Frm.below hb)); have n1_ := Aside0.mk (below_then HB.out HB.out.size hb); have n2 := Aside0.mk (HF.out.below hb); have BK := Aside0.mk hbox; have HG := Aside0.mk (show hi ≤ gb by rw [hg]; exact HHI.out); clear HU HV HB HF hb hbox hg; have HU := n0; have HV := n0v; have HB := n1_; have HF := n2; clear n0 n0v n1_ n2; have hc0 : w1.cell? ⟨gb, 0, none⟩ = some (.slice A0 a.length c0) := (blk_cell BK.out 0).trans rfl; have hc1 : w1.cell? ⟨gb, 1, none⟩ = some (.slice A1 b.length c1) := (blk_cell BK.out 1).trans rfl) | ((with_reducible refine gate_callee (f := 30) rfl ?_); refine goesL_ (some 8) rfl rfl Try.func30 (by kernel_rfl) rfl #[.slice A0 a.length c0, .int .i64 n] rfl (by (try simp only [List.map_toArray, List.map_cons, List.map_nil]); first | done | rfl) ?_; refine (mark_US _ a n _ HB.out HU.out H0.out (by have := H1.out; omega) HL.out HN.out).mono ?_; rintro e w2 ⟨rfl, hS, hB', hF⟩; refine ⟨_, rfl, ?_⟩; have n0 := Aside0.mk hS; have n0v := Aside0.mk (HV.out.mv hF (.inr (Nat.le_refl _))); have n1_ := Aside0.mk hB'; have n2 := Aside0.mk (show Kept w w2 (fun k => lo ≤ k ∧ k < hi) from ⟨Nat.le_trans HF.out.1 hF.size, fun k hk hn => (hF.same k (Nat.lt_of_lt_of_le hk HF.out.1) (by have := HD.out; omega)).trans (HF.out.2 k hk hn)⟩); have n3 := Aside0.mk ((hF.same gb (blk_lt BK.out) (by have := HG.out; have := HD.out; omega)).trans BK.out); clear HU HV HB HF BK hS hB' hF hc0 hc1; have HU := n0; have HV := n0v; have HB := n1_; have HF := n2; have BK := n3; clear n0 n0v n1_ n2 n3; have hc0 : w2.cell? ⟨gb, 0, none⟩ = some (.slice A0 a.length c0) := (blk_cell BK.out 0).trans rfl; have hc1 : w2.cell? ⟨gb, 1, none⟩ = some (.slice A1 b.length c1) := (blk_cell BK.out 1).trans rfl) | ((with_reducible refine gate_callee (f := 30) rfl ?_); refine goesL_ (some 12) rfl rfl Try.func30 (by kernel_rfl) rfl #[.slice A1 b.length c1, .int .i64 n1] rfl (by (try simp only [List.map_toArray, List.map_cons, List.map_nil]); first | done | rfl) ?_; refine (mark_US _ b n1 m HB.out HV.out (by rw [HN.out]; have := H0.out; omega) (by rw [HN.out]; exact H1.out) HL'.out (by rw [HN.out]; exact HM.out)).mono ?_; rintro e w3 ⟨rfl, hS, hB', hF⟩; refine ⟨_, rfl, ?_⟩; have n0 := Aside0.mk hS; have n0v := Aside0.mk (HU.out.mv hF (.inl (Nat.le_refl _))); have n1_ := Aside0.mk hB'; have n2 := Aside0.mk (show Kept w w3 (fun k => lo ≤ k ∧ k < hi) from ⟨Nat.le_trans HF.out.1 hF.size, fun k hk hn => (hF.same k (Nat.lt_of_lt_of_le hk HF.out.1) (by have := HD.out; omega)).trans (HF.out.2 k hk hn)⟩); clear HU HV HB HF hS hB' hF hc0 hc1; have HV := n0; have HU := n0v; have HB := n1_; have HF := n2; clear n0 n0v n1_ n2))
 go_ret
 have hv := HV.out
 rw [HN.out] at hv
 exact ⟨rfl, ⟨mid, HD.out.1, HD.out.2, HU.out, hv⟩, HB.out, Frm.kept HF.out (fun _ hk => hk)⟩
end Go.Proofs.Ytjjbhdpjnjncbaa.Lw
end
section
namespace Go.Proofs.Ytjjbhdpjnjncbaa.Pr
open Go.RowKit Go.Proofs.YtjjbhdpjnjncbaaW.PrintWords Go.Proofs.YtjjbhdpjnjncbaaW.PrintLast Go.Proofs.YtjjbhdpjnjncbaaW.PrintMore
attribute [local go_sem] max2_int min2_int max_two min_two max_three min_three max_four min_four
def laws_heldInt64SS.l0 : Nat → List (List Int) → Int → Int → Option (Int)
 | 0, _, _, _ => none
 | k + 1, x0, x1, x5 => if x5 < (x0.length : Int) then (if 0 ≤ x5 then ((laws_heldInt64S.f k (rd_L1 x0 x5) x1).bind fun t153 => (if t153 < 0 then (some (-1)) else (laws_heldInt64SS.l0 k x0 t153 (wrap64 (x5 + 1))))) else (none)) else (some x1)
def laws_heldInt64SS.f (k : Nat) (l0 : List (List Int)) (a1 : Int) : Option (Int) := laws_heldInt64SS.l0 k l0 a1 0
theorem laws_heldInt64SS.mono_l : ∀ k, (∀ y0 y1 y2, LeO (laws_heldInt64SS.l0 k y0 y1 y2) (laws_heldInt64SS.l0 (k + 1) y0 y1 y2))
 | 0 => fun _ _ _ r h => by simp [laws_heldInt64SS.l0] at h
 | k + 1 => by
  have ih0 := laws_heldInt64SS.mono_l k
  ·intro y0 y1 y2
   unfold laws_heldInt64SS.l0
   repeat' first
   | (with_reducible exact ih0 _ _ _)
   | (with_reducible exact laws_heldInt64S.mono _ _ _)
   | (with_reducible exact LeO.refl _)
   | (with_reducible exact LeO.none _)
   | (with_reducible refine LeO.ite ?_ ?_)
   | (with_reducible refine LeO.bind ?_ (fun _ => ?_))
   | exact ih0 _ _ _
   | exact laws_heldInt64S.mono _ _ _
   | exact LeO.none _
   | refine LeO.ite ?_ ?_
   | refine LeO.bind ?_ (fun _ => ?_)
theorem laws_heldInt64SS.mono : ∀ a0 a1 k, LeO (laws_heldInt64SS.f k a0 a1) (laws_heldInt64SS.f (k + 1) a0 a1) := by
 intro a0 a1 k
 have ih0 := laws_heldInt64SS.mono_l k
 unfold laws_heldInt64SS.f
 repeat' first
   | (with_reducible exact ih0 _ _ _)
   | (with_reducible exact laws_heldInt64S.mono _ _ _)
   | (with_reducible exact LeO.refl _)
   | (with_reducible exact LeO.none _)
   | (with_reducible refine LeO.ite ?_ ?_)
   | (with_reducible refine LeO.bind ?_ (fun _ => ?_))
   | exact ih0 _ _ _
   | exact laws_heldInt64S.mono _ _ _
   | exact LeO.none _
   | refine LeO.ite ?_ ?_
   | refine LeO.bind ?_ (fun _ => ?_)
theorem laws_heldInt64SS.calls (k : Nat) (A0 : Option Addr) (c0 : Nat) (l0 : List (List Int)) (a1 : Int) (r : Int) (w : World) (hr0 : Kd.C (Kd.slice 2 (Kd.int .i64)) w A0 l0.length l0) (hc0 : l0.length ≤ c0) (h : laws_heldInt64SS.f k l0 a1 = some r) :
  Calls Try.prog 31 #[.slice A0 l0.length c0, .int .i64 a1] w fun e w' => e = .returned (.int .i64 r) ∧ Drawn0 w w' := by
 have HR0 := Aside0.mk hr0
 have HC0 := Aside0.mk hc0
 clear hr0 hc0
 have H : (laws_heldInt64SS.l0 k l0 a1 0) = some r := h
 clear h
 have H' := Aside0.mk H
 clear H
 go_enter Try.func31, Try.ntmps31
 go_wp2
 go_loopg [1, 5] k (fun kq v1 v5 w' => ∃ (x1_1 : Int) (x5_1 : Int), v1 = .int .i64 x1_1 ∧ v5 = .int .i64 x5_1 ∧ Aside0 (laws_heldInt64SS.l0 kq l0 x1_1 x5_1 = some r) ∧ Aside0 (kq ≤ k) ∧ Drawn0 w w')
 case atStart => exact ⟨(a1), (0), (by first | rfl | (simp; done) | (simp [*]; done)), (by first | rfl | (simp; done) | (simp [*]; done)), H', ⟨Nat.le_refl _⟩, by repeat (first | exact Drawn0.refl _ | apply Drawn0.step)⟩
 case round =>
  clear H'
  try clear p2
  obtain ⟨x1_1, x5_1, rfl, rfl, HA, HK1, ⟨m1, rfl⟩⟩ := hrel
  cases gk with
  | zero => exact absurd HA.out (by simp [laws_heldInt64SS.l0])
  | succ k1 =>
   have H := HA.out
   clear HA
   simp only [laws_heldInt64SS.l0] at H
   by_cases c3 : x5_1 < (l0.length : Int)
   ·rw [if_pos c3] at H
    have c3b0 : decide (x5_1 < (l0.length : Int)) = true := decide_eq_true c3
    clear c3
    by_cases c4 : 0 ≤ x5_1
    ·rw [if_pos c4] at H
     have c4b0 : decide (0 ≤ x5_1) = true := decide_eq_true c4
     clear c4
     replace H := Option.bind_eq_some_iff.mp H
     obtain ⟨t153, A50, H⟩ := H
     replace H : (if t153 < 0 then (some (-1)) else (laws_heldInt64SS.l0 k1 l0 t153 (wrap64 (x5_1 + 1)))) = some r := H
     have A5 := Aside0.mk A50
     clear A50
     by_cases c6 : t153 < 0
     ·rw [if_pos c6] at H
      have c6b0 : decide (t153 < 0) = true := decide_eq_true c6
      clear c6
      obtain rfl := Option.some.inj H
      have p152 : 0 ≤ (x5_1 : Int) := of_decide_eq_true (by first | (with_reducible assumption) | assumption)
      have q152 : x5_1 < (l0.length : Int) := of_decide_eq_true (by first | (with_reducible assumption) | assumption)
      obtain ⟨ad152, A152_0, c152_0, e152, hx152_0, hl152_0, hi152_0⟩ := at_L1 HR0.out x5_1 p152 q152
      cases e152
      have HR152_0 := Aside0.mk hi152_0
      have HC152_0 := Aside0.mk hl152_0
      clear hi152_0 hl152_0
      replace p152 := eq_true p152
      replace q152 := eq_true q152
      go_wp2_with (first | ((with_reducible refine gate_callee (f := 36) rfl ?_); refine goesL_ (some 17) rfl rfl Try.func36 (by kernel_rfl) rfl #[.slice A152_0 (rd_L1 l0 x5_1).length c152_0, .int .i64 x1_1] rfl (by (try simp only [List.map_toArray, List.map_cons, List.map_nil]); first | done | rfl | (simp only [List.length_drop, List.length_take]; rfl)) ?_; (with_reducible refine (laws_heldInt64S.calls k1 _ _ (rd_L1 l0 x5_1) x1_1 t153 _ ?side1 ?side2 A5.out).mono ?_); (case side1 => repeat (first | exact HR152_0.out | (with_reducible refine Kd.C_alloc ?_ _) | (with_reducible refine Kd.C_drewN ?_ _) | (with_reducible refine Kd.C_drew ?_))); (case side2 => exact HC152_0.out); rintro e w' ⟨rfl, ⟨nd, rfl⟩⟩; refine ⟨_, rfl, ?_⟩))
      go_ret
      exact ⟨by first | rfl | (simp; done) | (simp [*]; done), by repeat (first | exact Drawn0.refl _ | apply Drawn0.step)⟩
     ·rw [if_neg c6] at H
      have c6b0 : decide (t153 < 0) = false := decide_eq_false c6
      clear c6
      have H' := Aside0.mk H
      clear H
      have p152 : 0 ≤ (x5_1 : Int) := of_decide_eq_true (by first | (with_reducible assumption) | assumption)
      have q152 : x5_1 < (l0.length : Int) := of_decide_eq_true (by first | (with_reducible assumption) | assumption)
      obtain ⟨ad152, A152_0, c152_0, e152, hx152_0, hl152_0, hi152_0⟩ := at_L1 HR0.out x5_1 p152 q152
      cases e152
      have HR152_0 := Aside0.mk hi152_0
      have HC152_0 := Aside0.mk hl152_0
      clear hi152_0 hl152_0
      replace p152 := eq_true p152
      replace q152 := eq_true q152
      go_wp2_with (first | ((with_reducible refine gate_callee (f := 36) rfl ?_); refine goesL_ (some 17) rfl rfl Try.func36 (by kernel_rfl) rfl #[.slice A152_0 (rd_L1 l0 x5_1).length c152_0, .int .i64 x1_1] rfl (by (try simp only [List.map_toArray, List.map_cons, List.map_nil]); first | done | rfl | (simp only [List.length_drop, List.length_take]; rfl)) ?_; (with_reducible refine (laws_heldInt64S.calls k1 _ _ (rd_L1 l0 x5_1) x1_1 t153 _ ?side1 ?side2 A5.out).mono ?_); (case side1 => repeat (first | exact HR152_0.out | (with_reducible refine Kd.C_alloc ?_ _) | (with_reducible refine Kd.C_drewN ?_ _) | (with_reducible refine Kd.C_drew ?_))); (case side2 => exact HC152_0.out); rintro e w' ⟨rfl, ⟨nd, rfl⟩⟩; refine ⟨_, rfl, ?_⟩))
      go_roundg k1
      case measure => have := HK1.out; omega
      case rel => exact ⟨(t153), (wrap64 (x5_1 + 1)), (by first | rfl | (simp; done) | (simp [*]; done)), (by first | rfl | (simp; done) | (simp [*]; done)), H', ⟨by have := HK1.out; omega⟩, by repeat (first | exact Drawn0.refl _ | apply Drawn0.step)⟩
    ·rw [if_neg c4] at H
     exact absurd H (by simp)
   ·rw [if_neg c3] at H
    have c3b0 : decide (x5_1 < (l0.length : Int)) = false := decide_eq_false c3
    clear c3
    obtain rfl := Option.some.inj H
    go_wp2
    go_ret
    exact ⟨by first | rfl | (simp; done) | (simp [*]; done), by repeat (first | exact Drawn0.refl _ | apply Drawn0.step)⟩
def laws_heldGame.f (k : Nat) (l0_0 : List (List Int)) (l0_1 : List (List Int)) (a1 : Int) : Option (Int) := (laws_heldInt64SS.f k l0_0 a1).bind fun t155 => (if t155 < 0 then (some (-1)) else ((laws_heldInt64SS.f k l0_1 t155).bind fun t156 => (if t156 < 0 then (some (-1)) else (some t156))))
theorem laws_heldGame.mono : ∀ a0 a1 a2 k, LeO (laws_heldGame.f k a0 a1 a2) (laws_heldGame.f (k + 1) a0 a1 a2) := by
 intro a0 a1 a2 k
 unfold laws_heldGame.f
 repeat' first
   | (with_reducible exact laws_heldInt64SS.mono _ _ _)
   | (with_reducible exact LeO.refl _)
   | (with_reducible exact LeO.none _)
   | (with_reducible refine LeO.ite ?_ ?_)
   | (with_reducible refine LeO.bind ?_ (fun _ => ?_))
   | exact laws_heldInt64SS.mono _ _ _
   | exact LeO.none _
   | refine LeO.ite ?_ ?_
   | refine LeO.bind ?_ (fun _ => ?_)
theorem laws_heldGame.calls (k : Nat) (A0_0 : Option Addr) (c0_0 : Nat) (l0_0 : List (List Int)) (A0_1 : Option Addr) (c0_1 : Nat) (l0_1 : List (List Int)) (a1 : Int) (r : Int) (w : World) (hr0_0 : Kd.C (Kd.slice 2 (Kd.int .i64)) w A0_0 l0_0.length l0_0) (hc0_0 : l0_0.length ≤ c0_0) (hr0_1 : Kd.C (Kd.slice 2 (Kd.int .i64)) w A0_1 l0_1.length l0_1) (hc0_1 : l0_1.length ≤ c0_1) (h : laws_heldGame.f k l0_0 l0_1 a1 = some r) :
  Calls Try.prog 21 #[.agg #[.slice A0_0 l0_0.length c0_0, .slice A0_1 l0_1.length c0_1], .int .i64 a1] w fun e w' => e = .returned (.int .i64 r) ∧ Below w.heap.size w w' := by
 have hu26 := Try.underlying26
 have HR0_0 := Aside0.mk hr0_0
 have HC0_0 := Aside0.mk hc0_0
 clear hr0_0 hc0_0
 have HR0_1 := Aside0.mk hr0_1
 have HC0_1 := Aside0.mk hc0_1
 clear hr0_1 hc0_1
 have HB := Aside0.mk (Below.refl w.heap.size w)
 have H : ((laws_heldInt64SS.f k l0_0 a1).bind fun t155 => (if t155 < 0 then (some (-1)) else ((laws_heldInt64SS.f k l0_1 t155).bind fun t156 => (if t156 < 0 then (some (-1)) else (some t156))))) = some r := h
 clear h
 replace H := Option.bind_eq_some_iff.mp H
 obtain ⟨t155, A30, H⟩ := H
 replace H : (if t155 < 0 then (some (-1)) else ((laws_heldInt64SS.f k l0_1 t155).bind fun t156 => (if t156 < 0 then (some (-1)) else (some t156)))) = some r := H
 have A3 := Aside0.mk A30
 clear A30
 by_cases c4 : t155 < 0
 ·rw [if_pos c4] at H
  have c4b0 : decide (t155 < 0) = true := decide_eq_true c4
  clear c4
  obtain rfl := Option.some.inj H
  go_enter Try.func21, Try.ntmps21
  go_wp2_with (first | ((with_reducible refine gate_dst (N := 2) rfl ?_); refine box_event ?hg (N := 2) ?hd (cs := #[.slice A0_0 l0_0.length c0_0, .slice A0_1 l0_1.length c0_1]) (t := 26) ?hr ?_; (case hd => rfl); (case hg => rfl); (case hr => first | (go_simp; done) | (go_simp; rfl)); intro gb154 hg w5 hbox hb; have n0_ := Aside0.mk (below_step (by repeat (first | (with_reducible first | exact HB.out | apply below_alloc | apply pw_below_drewN | apply below_drew1) | exact HB.out)) hb); have n1_ := Aside0.mk (hbox); have n2_ := Aside0.mk ((by rw [hg]; exact (below_size (by repeat (first | (with_reducible first | exact HB.out | apply below_alloc | apply pw_below_drewN | apply below_drew1) | exact HB.out))) : w.heap.size ≤ gb154)); have n3_ := Aside0.mk ((by rw [hg]; exact (below_size (by repeat (first | (with_reducible first | exact HB.out | apply below_alloc | apply pw_below_drewN | apply below_drew1) | exact HB.out))) : w.heap.size ≤ gb154)); clear HB; have HB := n0_; have BK154 := n1_; have GW154 := n2_; have GE154 := n3_; clear n0_ n1_ n2_ n3_; clear hb hbox hg; have hcz6_0 : w5.cell? ⟨gb154, 0, none⟩ = some (.slice A0_0 l0_0.length c0_0) := (blk_cell BK154.out 0).trans rfl; have hcz6_1 : w5.cell? ⟨gb154, 1, none⟩ = some (.slice A0_1 l0_1.length c0_1) := (blk_cell BK154.out 1).trans rfl; have hfz6_0 := blk_frozen BK154.out 0; have hfz6_1 := blk_frozen BK154.out 1) | ((with_reducible refine gate_callee (f := 31) rfl ?_); refine goesL_ (some 8) rfl rfl Try.func31 (by kernel_rfl) rfl #[.slice A0_0 l0_0.length c0_0, .int .i64 a1] rfl (by (try simp only [List.map_toArray, List.map_cons, List.map_nil]); first | done | rfl | (simp only [List.length_drop, List.length_take]; rfl)) ?_; (with_reducible refine (laws_heldInt64SS.calls k _ _ l0_0 a1 t155 _ ?side1 ?side2 A3.out).mono ?_); (case side1 => repeat (first | exact (Kd.C_below HR0_0.out HB.out) | (with_reducible refine Kd.C_alloc ?_ _) | (with_reducible refine Kd.C_drewN ?_ _) | (with_reducible refine Kd.C_drew ?_))); (case side2 => exact HC0_0.out); rintro e w' ⟨rfl, ⟨nd, rfl⟩⟩; refine ⟨_, rfl, ?_⟩))
  go_ret
  exact ⟨by first | rfl | (simp [errW_none, errW_some] <;> rfl) | (simp [*, errW_none, errW_some] <;> rfl), by repeat (first | (with_reducible first | exact HB.out | apply below_alloc | apply pw_below_drewN | apply below_drew1 | refine below_set ?_ GE154.out) | exact HB.out)⟩
 ·rw [if_neg c4] at H
  have c4b0 : decide (t155 < 0) = false := decide_eq_false c4
  clear c4
  replace H := Option.bind_eq_some_iff.mp H
  obtain ⟨t156, A70, H⟩ := H
  replace H : (if t156 < 0 then (some (-1)) else (some t156)) = some r := H
  have A7 := Aside0.mk A70
  clear A70
  by_cases c8 : t156 < 0
  ·rw [if_pos c8] at H
   have c8b0 : decide (t156 < 0) = true := decide_eq_true c8
   clear c8
   obtain rfl := Option.some.inj H
   go_enter Try.func21, Try.ntmps21
   go_wp2_with (first | ((with_reducible refine gate_dst (N := 2) rfl ?_); refine box_event ?hg (N := 2) ?hd (cs := #[.slice A0_0 l0_0.length c0_0, .slice A0_1 l0_1.length c0_1]) (t := 26) ?hr ?_; (case hd => rfl); (case hg => rfl); (case hr => first | (go_simp; done) | (go_simp; rfl)); intro gb154 hg w9 hbox hb; have n0_ := Aside0.mk (below_step (by repeat (first | (with_reducible first | exact HB.out | apply below_alloc | apply pw_below_drewN | apply below_drew1) | exact HB.out)) hb); have n1_ := Aside0.mk (hbox); have n2_ := Aside0.mk ((by rw [hg]; exact (below_size (by repeat (first | (with_reducible first | exact HB.out | apply below_alloc | apply pw_below_drewN | apply below_drew1) | exact HB.out))) : w.heap.size ≤ gb154)); have n3_ := Aside0.mk ((by rw [hg]; exact (below_size (by repeat (first | (with_reducible first | exact HB.out | apply below_alloc | apply pw_below_drewN | apply below_drew1) | exact HB.out))) : w.heap.size ≤ gb154)); clear HB; have HB := n0_; have BK154 := n1_; have GW154 := n2_; have GE154 := n3_; clear n0_ n1_ n2_ n3_; clear hb hbox hg; have hcz10_0 : w9.cell? ⟨gb154, 0, none⟩ = some (.slice A0_0 l0_0.length c0_0) := (blk_cell BK154.out 0).trans rfl; have hcz10_1 : w9.cell? ⟨gb154, 1, none⟩ = some (.slice A0_1 l0_1.length c0_1) := (blk_cell BK154.out 1).trans rfl; have hfz10_0 := blk_frozen BK154.out 0; have hfz10_1 := blk_frozen BK154.out 1) | ((with_reducible refine gate_callee (f := 31) rfl ?_); refine goesL_ (some 8) rfl rfl Try.func31 (by kernel_rfl) rfl #[.slice A0_0 l0_0.length c0_0, .int .i64 a1] rfl (by (try simp only [List.map_toArray, List.map_cons, List.map_nil]); first | done | rfl | (simp only [List.length_drop, List.length_take]; rfl)) ?_; (with_reducible refine (laws_heldInt64SS.calls k _ _ l0_0 a1 t155 _ ?side1 ?side2 A3.out).mono ?_); (case side1 => repeat (first | exact (Kd.C_below HR0_0.out HB.out) | (with_reducible refine Kd.C_alloc ?_ _) | (with_reducible refine Kd.C_drewN ?_ _) | (with_reducible refine Kd.C_drew ?_))); (case side2 => exact HC0_0.out); rintro e w' ⟨rfl, ⟨nd, rfl⟩⟩; refine ⟨_, rfl, ?_⟩) | ((with_reducible refine gate_callee (f := 31) rfl ?_); refine goesL_ (some 14) rfl rfl Try.func31 (by kernel_rfl) rfl #[.slice A0_1 l0_1.length c0_1, .int .i64 t155] rfl (by (try simp only [List.map_toArray, List.map_cons, List.map_nil]); first | done | rfl | (simp only [List.length_drop, List.length_take]; rfl)) ?_; (with_reducible refine (laws_heldInt64SS.calls k _ _ l0_1 t155 t156 _ ?side1 ?side2 A7.out).mono ?_); (case side1 => repeat (first | exact (Kd.C_below HR0_1.out (by repeat (first | (with_reducible first | exact HB.out | apply below_alloc | apply pw_below_drewN | apply below_drew1 | refine below_set ?_ GE154.out) | exact HB.out))) | (with_reducible refine Kd.C_alloc ?_ _) | (with_reducible refine Kd.C_drewN ?_ _) | (with_reducible refine Kd.C_drew ?_))); (case side2 => exact HC0_1.out); rintro e w' ⟨rfl, ⟨nd, rfl⟩⟩; refine ⟨_, rfl, ?_⟩))
   go_ret
   exact ⟨by first | rfl | (simp [errW_none, errW_some] <;> rfl) | (simp [*, errW_none, errW_some] <;> rfl), by repeat (first | (with_reducible first | exact HB.out | apply below_alloc | apply pw_below_drewN | apply below_drew1 | refine below_set ?_ GE154.out) | exact HB.out)⟩
  ·rw [if_neg c8] at H
   have c8b0 : decide (t156 < 0) = false := decide_eq_false c8
   clear c8
   obtain rfl := Option.some.inj H
   go_enter Try.func21, Try.ntmps21
   go_wp2_with (first | ((with_reducible refine gate_dst (N := 2) rfl ?_); refine box_event ?hg (N := 2) ?hd (cs := #[.slice A0_0 l0_0.length c0_0, .slice A0_1 l0_1.length c0_1]) (t := 26) ?hr ?_; (case hd => rfl); (case hg => rfl); (case hr => first | (go_simp; done) | (go_simp; rfl)); intro gb154 hg w11 hbox hb; have n0_ := Aside0.mk (below_step (by repeat (first | (with_reducible first | exact HB.out | apply below_alloc | apply pw_below_drewN | apply below_drew1) | exact HB.out)) hb); have n1_ := Aside0.mk (hbox); have n2_ := Aside0.mk ((by rw [hg]; exact (below_size (by repeat (first | (with_reducible first | exact HB.out | apply below_alloc | apply pw_below_drewN | apply below_drew1) | exact HB.out))) : w.heap.size ≤ gb154)); have n3_ := Aside0.mk ((by rw [hg]; exact (below_size (by repeat (first | (with_reducible first | exact HB.out | apply below_alloc | apply pw_below_drewN | apply below_drew1) | exact HB.out))) : w.heap.size ≤ gb154)); clear HB; have HB := n0_; have BK154 := n1_; have GW154 := n2_; have GE154 := n3_; clear n0_ n1_ n2_ n3_; clear hb hbox hg; have hcz12_0 : w11.cell? ⟨gb154, 0, none⟩ = some (.slice A0_0 l0_0.length c0_0) := (blk_cell BK154.out 0).trans rfl; have hcz12_1 : w11.cell? ⟨gb154, 1, none⟩ = some (.slice A0_1 l0_1.length c0_1) := (blk_cell BK154.out 1).trans rfl; have hfz12_0 := blk_frozen BK154.out 0; have hfz12_1 := blk_frozen BK154.out 1) | ((with_reducible refine gate_callee (f := 31) rfl ?_); refine goesL_ (some 8) rfl rfl Try.func31 (by kernel_rfl) rfl #[.slice A0_0 l0_0.length c0_0, .int .i64 a1] rfl (by (try simp only [List.map_toArray, List.map_cons, List.map_nil]); first | done | rfl | (simp only [List.length_drop, List.length_take]; rfl)) ?_; (with_reducible refine (laws_heldInt64SS.calls k _ _ l0_0 a1 t155 _ ?side1 ?side2 A3.out).mono ?_); (case side1 => repeat (first | exact (Kd.C_below HR0_0.out HB.out) | (with_reducible refine Kd.C_alloc ?_ _) | (with_reducible refine Kd.C_drewN ?_ _) | (with_reducible refine Kd.C_drew ?_))); (case side2 => exact HC0_0.out); rintro e w' ⟨rfl, ⟨nd, rfl⟩⟩; refine ⟨_, rfl, ?_⟩) | ((with_reducible refine gate_callee (f := 31) rfl ?_); refine goesL_ (some 14) rfl rfl Try.func31 (by kernel_rfl) rfl #[.slice A0_1 l0_1.length c0_1, .int .i64 t155] rfl (by (try simp only [List.map_toArray, List.map_cons, List.map_nil]); first | done | rfl | (simp only [List.length_drop, List.length_take]; rfl)) ?_; (with_reducible refine (laws_heldInt64SS.calls k _ _ l0_1 t155 t156 _ ?side1 ?side2 A7.out).mono ?_); (case side1 => repeat (first | exact (Kd.C_below HR0_1.out (by repeat (first | (with_reducible first | exact HB.out | apply below_alloc | apply pw_below_drewN | apply below_drew1 | refine below_set ?_ GE154.out) | exact HB.out))) | (with_reducible refine Kd.C_alloc ?_ _) | (with_reducible refine Kd.C_drewN ?_ _) | (with_reducible refine Kd.C_drew ?_))); (case side2 => exact HC0_1.out); rintro e w' ⟨rfl, ⟨nd, rfl⟩⟩; refine ⟨_, rfl, ?_⟩))
   go_ret
   exact ⟨by first | rfl | (simp [errW_none, errW_some] <;> rfl) | (simp [*, errW_none, errW_some] <;> rfl), by repeat (first | (with_reducible first | exact HB.out | apply below_alloc | apply pw_below_drewN | apply below_drew1 | refine below_set ?_ GE154.out) | exact HB.out)⟩
def laws_markFracS.l0 : Nat → List (S65) → Int → Int → Option (Int × (List (S65)))
 | 0, _, _, _ => none
 | k + 1, x0, x1, x5 => if x5 < (x0.length : Int) then (if 0 ≤ x5 then ((some (x0.set (x5 : Int).toNat (⟨x1, (rd_T65 x0 x5).f1⟩ : S65) : List (S65))).bind fun y189 => (laws_markFracS.l0 k (y189.set (x5 : Int).toNat (⟨(rd_T65 y189 x5).f0, wrap64 (x1 + 1)⟩ : S65)) (wrap64 ((wrap64 (x1 + 1)) + 1)) (wrap64 (x5 + 1)))) else (none)) else (some (x1, x0))
def laws_markFracS.f (k : Nat) (l0 : List (S65)) (a1 : Int) : Option (Int × (List (S65))) := laws_markFracS.l0 k l0 a1 0
theorem laws_markFracS.mono_l : ∀ k, (∀ y0 y1 y2, LeO (laws_markFracS.l0 k y0 y1 y2) (laws_markFracS.l0 (k + 1) y0 y1 y2))
 | 0 => fun _ _ _ r h => by simp [laws_markFracS.l0] at h
 | k + 1 => by
  have ih0 := laws_markFracS.mono_l k
  ·intro y0 y1 y2
   unfold laws_markFracS.l0
   repeat' first
   | (with_reducible exact ih0 _ _ _)
   | (with_reducible exact LeO.refl _)
   | (with_reducible exact LeO.none _)
   | (with_reducible refine LeO.ite ?_ ?_)
   | (with_reducible refine LeO.bind ?_ (fun _ => ?_))
   | exact ih0 _ _ _
   | exact LeO.none _
   | refine LeO.ite ?_ ?_
   | refine LeO.bind ?_ (fun _ => ?_)
theorem laws_markFracS.mono : ∀ a0 a1 k, LeO (laws_markFracS.f k a0 a1) (laws_markFracS.f (k + 1) a0 a1) := by
 intro a0 a1 k
 have ih0 := laws_markFracS.mono_l k
 unfold laws_markFracS.f
 repeat' first
   | (with_reducible exact ih0 _ _ _)
   | (with_reducible exact LeO.refl _)
   | (with_reducible exact LeO.none _)
   | (with_reducible refine LeO.ite ?_ ?_)
   | (with_reducible refine LeO.bind ?_ (fun _ => ?_))
   | exact ih0 _ _ _
   | exact LeO.none _
   | refine LeO.ite ?_ ?_
   | refine LeO.bind ?_ (fun _ => ?_)
theorem laws_markFracS.calls (k : Nat) (P0_ : Nat → Prop) (u9000_ : Value) (l0 : List (S65)) (a1 : Int) (r1 : Int) (r2 : List (S65)) (w0 w : World) (hB : Below w0.heap.size w0 w) (ho0 : Kd.R k65 65 w w0.heap.size P0_ u9000_ l0) (h : laws_markFracS.f k l0 a1 = some (r1, r2)) :
  Calls Try.prog 54 #[u9000_, .int .i64 a1] w fun e w' => e = .returned (.int .i64 r1) ∧ Kd.R k65 65 w' w0.heap.size (fun k_ => (P0_ k_ ∨ w.heap.size ≤ k_)) u9000_ r2 ∧ Below w0.heap.size w0 w' ∧ Kept w w' (fun k_ => P0_ k_) := by
 have HO0 := Aside0.mk (show Kd.R k65 65 w w0.heap.size (fun k_ => (P0_ k_ ∨ w.heap.size ≤ k_)) u9000_ l0 from Kd.R_mono ho0 (fun k_ hk => (.inl hk)))
 have HK := Aside0.mk (Kept.refl w (fun k_ => P0_ k_))
 have HW0 := Aside0.mk hB.size
 have HB := Aside0.mk hB
 clear hB
 have H : (laws_markFracS.l0 k l0 a1 0) = some (r1, r2) := h
 clear h
 have H' := Aside0.mk H
 clear H
 go_enter Try.func54, Try.ntmps54
 go_wp2
 go_loopg [1, 5] k (fun kq v1 v5 w' => ∃ (x0_1 : List (S65)) (x1_1 : Int) (x5_1 : Int), v1 = .int .i64 x1_1 ∧ v5 = .int .i64 x5_1 ∧ Aside0 (laws_markFracS.l0 kq x0_1 x1_1 x5_1 = some (r1, r2)) ∧ Aside0 (kq ≤ k) ∧ Aside0 (Kd.R k65 65 w' w0.heap.size (fun k_ => (P0_ k_ ∨ w.heap.size ≤ k_)) u9000_ x0_1) ∧ Aside0 (Kept w w' (fun k_ => P0_ k_)) ∧ Aside0 (Below w0.heap.size w0 w'))
 case atStart => exact ⟨(l0), (a1), (0), (by first | rfl | (simp; done) | (simp [*]; done)), (by first | rfl | (simp; done) | (simp [*]; done)), H', ⟨Nat.le_refl _⟩, ⟨by (with_reducible repeat (first | apply Kd.R_alloc | apply Kd.R_drewN | apply Kd.R_drew)); exact HO0.out⟩, ⟨by repeat (first | (with_reducible first | exact HK.out | apply Kept.alloc | apply Kept.drewN | apply Kept.drew) | exact HK.out)⟩, ⟨by repeat (first | (with_reducible first | exact HB.out | apply below_alloc | apply pw_below_drewN | apply below_drew1) | exact HB.out)⟩⟩
 case round =>
  clear H'
  try clear p2
  obtain ⟨x0_1, x1_1, x5_1, rfl, rfl, HA, HK1, HO_0, HK, HB⟩ := hrel
  cases gk with
  | zero => exact absurd HA.out (by simp [laws_markFracS.l0])
  | succ k1 =>
   have H := HA.out
   clear HA
   simp only [laws_markFracS.l0] at H
   by_cases c3 : x5_1 < (x0_1.length : Int)
   ·rw [if_pos c3] at H
    have c3b0 : decide (x5_1 < (x0_1.length : Int)) = true := decide_eq_true c3
    clear c3
    by_cases c4 : 0 ≤ x5_1
    ·rw [if_pos c4] at H
     have c4b0 : decide (0 ≤ x5_1) = true := decide_eq_true c4
     clear c4
     obtain ⟨y189, hy189⟩ : ∃ y_ : List (S65), y_ = (x0_1.set (x5_1 : Int).toNat (⟨x1_1, (rd_T65 x0_1 x5_1).f1⟩ : S65)) := ⟨_, rfl⟩
     replace H : (laws_markFracS.l0 k1 (y189.set (x5_1 : Int).toNat (⟨(rd_T65 y189 x5_1).f0, wrap64 (x1_1 + 1)⟩ : S65)) (wrap64 ((wrap64 (x1_1 + 1)) + 1)) (wrap64 (x5_1 + 1))) = some (r1, r2) := by first | (rw [hy189]; with_reducible exact H) | (have H2_ := (Option.bind_some _ _).symm.trans H; rw [hy189]; with_reducible exact H2_) | (have H2_ := (Option.bind_some _ _).symm.trans H; with_reducible exact H2_) | with_reducible exact H | (rw [hy189]; exact H) | exact H
     have Ny189 := Aside0.mk hy189
     clear hy189
     obtain ⟨y190, hy190⟩ : ∃ y_ : List (S65), y_ = (y189.set (x5_1 : Int).toNat (⟨(rd_T65 y189 x5_1).f0, wrap64 (x1_1 + 1)⟩ : S65)) := ⟨_, rfl⟩
     replace H : (laws_markFracS.l0 k1 y190 (wrap64 ((wrap64 (x1_1 + 1)) + 1)) (wrap64 (x5_1 + 1))) = some (r1, r2) := by first | (rw [hy190]; with_reducible exact H) | (have H2_ := (Option.bind_some _ _).symm.trans H; rw [hy190]; with_reducible exact H2_) | (have H2_ := (Option.bind_some _ _).symm.trans H; with_reducible exact H2_) | with_reducible exact H | (rw [hy190]; exact H) | exact H
     have Ny190 := Aside0.mk hy190
     clear hy190
     have H' := Aside0.mk H
     clear H
     obtain ⟨Ao7, co7, eo7⟩ := Kd.R_slice HO_0.out
     subst eo7
     have p5 : 0 ≤ (x5_1 : Int) := of_decide_eq_true (by first | (with_reducible assumption) | assumption)
     have q5 : (x5_1 : Int) < ((x0_1.length : Int) : Int) := of_decide_eq_true (by first | (with_reducible assumption) | assumption)
     obtain ⟨go5, co5, eo5, gb5, gl5, cl5, HG5⟩ := Kd.R_form HO_0.out (by omega)
     (first | cases eo5 | (injection eo5 with ea_ en_ ec_; (first | subst ea_ | (injection ea_ with ea_; subst ea_)); subst ec_; clear en_))
     have GB5 := Aside0.mk gb5
     have GG5 := Aside0.mk HG5
     clear gb5 gl5 HG5
     have HMgo5 := Aside0.mk (show (P0_ go5 ∨ w.heap.size ≤ go5) from (HO_0.out.1 _ rfl))
     obtain ⟨ce5, hcl5, hM5, hcc5, hfr5⟩ := Kd.R_elem HO_0.out z65 (x5_1 : Int) p5 q5
     obtain rfl := k65_openM hM5
     have hx5_0 : wr.cell? ⟨go5, (x5_1 : Int).toNat * 2, none⟩ = some (.int .i64 ((rd_T65 x0_1 x5_1).f0)) := hcc5 0 _ rfl
     have hx5_1 : wr.cell? ⟨go5, (x5_1 : Int).toNat * 2 + 1, none⟩ = some (.int .i64 ((rd_T65 x0_1 x5_1).f1)) := hcc5 1 _ rfl
     have hf5_0 : wr.frozen? ⟨go5, (x5_1 : Int).toNat * 2, none⟩ = false := hfr5 0
     have hf5_1 : wr.frozen? ⟨go5, (x5_1 : Int).toNat * 2 + 1, none⟩ = false := hfr5 1
     (try clear hcl5); (try clear hcc5); (try clear hfr5); (try clear hM5)
     replace p5 := eq_true p5
     replace q5 := eq_true q5
     have HX8 := Aside0.mk (show Kd.R k65 65 wr w0.heap.size (fun k_ => (P0_ k_ ∨ w.heap.size ≤ k_)) (.slice (some ⟨go5, 0, none⟩) x0_1.length co7) x0_1 from (by (with_reducible repeat (first | apply Kd.R_alloc | apply Kd.R_drewN | apply Kd.R_drew)); exact HO_0.out))
     obtain ⟨ce8, hcl8, hM8, hcc8, hfr8⟩ := Kd.R_elem HX8.out z65 (x5_1 : Int) (of_decide_eq_true (by first | (with_reducible assumption) | assumption)) (by have h_ : (x5_1 : Int) < ((x0_1.length : Int) : Int) := of_decide_eq_true (by first | (with_reducible assumption) | assumption); first | exact h_ | (have e_ := (Kd.R_reads' HO_0.out).1; omega) | simpa using h_)
     obtain rfl := k65_openM hM8
     have HP8 := Kd.R_seg HX8.out (x5_1 : Int) (of_decide_eq_true (by first | (with_reducible assumption) | assumption)) (by have h_ : (x5_1 : Int) < ((x0_1.length : Int) : Int) := of_decide_eq_true (by first | (with_reducible assumption) | assumption); first | exact h_ | (have e_ := (Kd.R_reads' HO_0.out).1; omega) | simpa using h_) (seg := [.int .i64 x1_1]) (j := 0) hcl8 hcc8 (show 1 ≤ 2 from by decide) (x' := (⟨x1_1, (rd_T65 x0_1 x5_1).f1⟩ : S65)) (k65_mkM _ _ _ (⟨x1_1, (rd_T65 x0_1 x5_1).f1⟩ : S65) ) (fun _ hk => hk)
     have hx8_0 := hcc8 0 _ rfl
     (try simp only [show (k65).sz = 2 from rfl, Nat.mul_one, Nat.add_zero] at hx8_0)
     have hf8_0 := hfr8 0
     (try simp only [show (k65).sz = 2 from rfl, Nat.mul_one, Nat.add_zero] at hf8_0)
     (try clear hcl8); (try clear hcc8); (try clear hfr8); (try clear hM8)
     go_wp2_with (first | ((with_reducible refine gate_store (t := 2) (p := 16) rfl ?_); refine store_event (t := 2) (p := 16) (v := ?vo_w9) (w1 := (wr.setCell ⟨go5, (x5_1 : Int).toNat * 2, none⟩ (.int .i64 x1_1))) ?hg ?ho ?hn ?hr ?_; (case ho => rfl); (case hg => rfl); (case hn => rfl); (case hr => first | (go_simp; done) | (go_simp; rfl)); intro w9 hw; have hg : wr.grownBy w9 (some go5) := (by rw [hw]; exact HP8.2); have hp_ : Kd.R k65 65 w9 w0.heap.size (fun k_ => (P0_ k_ ∨ w.heap.size ≤ k_)) (.slice (some ⟨go5, 0, none⟩) x0_1.length co7) y189 := (by rw [hw, Ny189.out]; exact HP8.1); clear HP8; have n0_ := Aside0.mk (hp_); have n1_ := Aside0.mk ((by rw [hw]; exact below_set (HB.out) GB5.out : Below w0.heap.size w0 w9)); have n2_ := Aside0.mk (Kept.of_grown (S := (fun k_ => P0_ k_)) hg (by repeat (first | (with_reducible first | exact HK.out | apply Kept.alloc | apply Kept.drewN | apply Kept.drew) | exact HK.out)) (fun k_ e_ => (HO_0.out.1 k_ e_))); clear HO_0; clear HB; clear HK; have HO_0 := n0_; have HB := n1_; have HK := n2_; clear n0_ n1_ n2_; clear hg hw hp_; have p6 : 0 ≤ (x5_1 : Int) := of_decide_eq_true (by first | (with_reducible assumption) | assumption); have q6 : (x5_1 : Int) < ((x0_1.length : Int) : Int) := of_decide_eq_true (by first | (with_reducible assumption) | assumption); obtain ⟨ce6, hcl6, hM6, hcc6, hfr6⟩ := Kd.R_elem HO_0.out z65 (x5_1 : Int) p6 q6; obtain rfl := k65_openM hM6; have hx6_0 : w9.cell? ⟨go5, (x5_1 : Int).toNat * 2, none⟩ = some (.int .i64 ((rd_T65 y189 x5_1).f0)) := hcc6 0 _ rfl; have hx6_1 : w9.cell? ⟨go5, (x5_1 : Int).toNat * 2 + 1, none⟩ = some (.int .i64 ((rd_T65 y189 x5_1).f1)) := hcc6 1 _ rfl; have hf6_0 : w9.frozen? ⟨go5, (x5_1 : Int).toNat * 2, none⟩ = false := hfr6 0; have hf6_1 : w9.frozen? ⟨go5, (x5_1 : Int).toNat * 2 + 1, none⟩ = false := hfr6 1; (try clear hcl6); (try clear hcc6); (try clear hfr6); (try clear hM6); replace p6 := eq_true p6; replace q6 := eq_true q6; have HX10 := Aside0.mk (show Kd.R k65 65 w9 w0.heap.size (fun k_ => (P0_ k_ ∨ w.heap.size ≤ k_)) (.slice (some ⟨go5, 0, none⟩) x0_1.length co7) y189 from (by (with_reducible repeat (first | apply Kd.R_alloc | apply Kd.R_drewN | apply Kd.R_drew)); exact HO_0.out)); obtain ⟨ce10, hcl10, hM10, hcc10, hfr10⟩ := Kd.R_elem HX10.out z65 (x5_1 : Int) (of_decide_eq_true (by first | (with_reducible assumption) | assumption)) (by have h_ : (x5_1 : Int) < ((x0_1.length : Int) : Int) := of_decide_eq_true (by first | (with_reducible assumption) | assumption); first | exact h_ | (have e_ := (Kd.R_reads' HO_0.out).1; omega) | simpa using h_); obtain rfl := k65_openM hM10; have HP10 := Kd.R_seg HX10.out (x5_1 : Int) (of_decide_eq_true (by first | (with_reducible assumption) | assumption)) (by have h_ : (x5_1 : Int) < ((x0_1.length : Int) : Int) := of_decide_eq_true (by first | (with_reducible assumption) | assumption); first | exact h_ | (have e_ := (Kd.R_reads' HO_0.out).1; omega) | simpa using h_) (seg := [.int .i64 (wrap64 (x1_1 + 1))]) (j := 1) hcl10 hcc10 (show 2 ≤ 2 from by decide) (x' := (⟨(rd_T65 y189 x5_1).f0, wrap64 (x1_1 + 1)⟩ : S65)) (k65_mkM _ _ _ (⟨(rd_T65 y189 x5_1).f0, wrap64 (x1_1 + 1)⟩ : S65) ) (fun _ hk => hk); have hx10_1 := hcc10 1 _ rfl; (try simp only [show (k65).sz = 2 from rfl, Nat.mul_one, Nat.add_zero] at hx10_1); have hf10_1 := hfr10 1; (try simp only [show (k65).sz = 2 from rfl, Nat.mul_one, Nat.add_zero] at hf10_1); (try clear hcl10); (try clear hcc10); (try clear hfr10); (try clear hM10)) | ((with_reducible refine gate_store (t := 2) (p := 23) rfl ?_); refine store_event (t := 2) (p := 23) (v := ?vo_w11) (w1 := (w9.setCell ⟨go5, (x5_1 : Int).toNat * 2 + 1, none⟩ (.int .i64 (wrap64 (x1_1 + 1))))) ?hg ?ho ?hn ?hr ?_; (case ho => rfl); (case hg => rfl); (case hn => rfl); (case hr => first | (go_simp; done) | (go_simp; rfl)); intro w11 hw; have hg : w9.grownBy w11 (some go5) := (by rw [hw]; exact HP10.2); have hp_ : Kd.R k65 65 w11 w0.heap.size (fun k_ => (P0_ k_ ∨ w.heap.size ≤ k_)) (.slice (some ⟨go5, 0, none⟩) x0_1.length co7) y190 := (by rw [hw, Ny190.out]; exact HP10.1); clear HP10; have n0_ := Aside0.mk (hp_); have n1_ := Aside0.mk ((by rw [hw]; exact below_set (HB.out) GB5.out : Below w0.heap.size w0 w11)); have n2_ := Aside0.mk (Kept.of_grown (S := (fun k_ => P0_ k_)) hg (by repeat (first | (with_reducible first | exact HK.out | apply Kept.alloc | apply Kept.drewN | apply Kept.drew) | exact HK.out)) (fun k_ e_ => (HO_0.out.1 k_ e_))); clear HO_0; clear HB; clear HK; have HO_0 := n0_; have HB := n1_; have HK := n2_; clear n0_ n1_ n2_; clear hg hw hp_))
     go_roundg k1
     case measure => have := HK1.out; omega
     case rel => exact ⟨(y190), (wrap64 ((wrap64 (x1_1 + 1)) + 1)), (wrap64 (x5_1 + 1)), (by first | rfl | (simp; done) | (simp [*]; done)), (by first | rfl | (simp; done) | (simp [*]; done)), H', ⟨by have := HK1.out; omega⟩, ⟨by (with_reducible repeat (first | apply Kd.R_alloc | apply Kd.R_drewN | apply Kd.R_drew)); exact HO_0.out⟩, ⟨by repeat (first | (with_reducible first | exact HK.out | apply Kept.alloc | apply Kept.drewN | apply Kept.drew) | exact HK.out)⟩, ⟨by repeat (first | (with_reducible first | exact HB.out | apply below_alloc | apply pw_below_drewN | apply below_drew1) | exact HB.out)⟩⟩
    ·rw [if_neg c4] at H
     exact absurd H (by simp)
   ·rw [if_neg c3] at H
    have c3b0 : decide (x5_1 < (x0_1.length : Int)) = false := decide_eq_false c3
    clear c3
    simp only [Option.some.injEq, Prod.mk.injEq] at H
    obtain ⟨rfl, rfl⟩ := H
    obtain ⟨Ao12, co12, eo12⟩ := Kd.R_slice HO_0.out
    subst eo12
    go_wp2
    go_ret
    exact ⟨by first | rfl | (simp [errW_none, errW_some] <;> rfl) | (simp [*, errW_none, errW_some] <;> rfl), by (with_reducible repeat (first | apply Kd.R_alloc | apply Kd.R_drewN | apply Kd.R_drew)); exact HO_0.out, by repeat (first | (with_reducible first | exact HB.out | apply below_alloc | apply pw_below_drewN | apply below_drew1) | exact HB.out), by repeat (first | (with_reducible first | exact HK.out | apply Kept.alloc | apply Kept.drewN | apply Kept.drew) | exact HK.out)⟩
def spec_l01In.f (a0 : Int) (a1 : Int) (a2 : Int) : Option (Bool) := if a0 ≥ a1 then (some (decide (a0 ≤ a2))) else (some false)
theorem spec_l01In.calls (a0 : Int) (a1 : Int) (a2 : Int) (r : Bool) (w : World) (h : spec_l01In.f a0 a1 a2 = some r) :
  Calls Try.prog 87 #[.int .i64 a0, .int .i64 a1, .int .i64 a2] w fun e w' => e = .returned (.bool r) ∧ Drawn0 w w' := by
 have H : (if a0 ≥ a1 then (some (decide (a0 ≤ a2))) else (some false)) = some r := h
 clear h
 by_cases c4 : a0 ≥ a1
 ·rw [if_pos c4] at H
  have c4b0 : decide (a1 ≤ a0) = true := decide_eq_true c4
  clear c4
  obtain rfl := Option.some.inj H
  go_enter Try.func87, Try.ntmps87
  go_wp2
  go_ret
  exact ⟨by first | rfl | (simp; done) | (simp [*]; done), by repeat (first | exact Drawn0.refl _ | apply Drawn0.step)⟩
 ·rw [if_neg c4] at H
  have c4b0 : decide (a1 ≤ a0) = false := decide_eq_false c4
  clear c4
  obtain rfl := Option.some.inj H
  go_enter Try.func87, Try.ntmps87
  go_wp2
  go_ret
  exact ⟨by first | rfl | (simp; done) | (simp [*]; done), by repeat (first | exact Drawn0.refl _ | apply Drawn0.step)⟩
end Go.Proofs.Ytjjbhdpjnjncbaa.Pr
end
section
namespace Go.Proofs.Ytjjbhdpjnjncbaa.Lw
open Go.RowKit Go.Proofs.YtjjbhdpjnjncbaaW.PrintWords Go.Proofs.YtjjbhdpjnjncbaaW.PrintLast Go.Proofs.YtjjbhdpjnjncbaaW.PrintMore Go.Proofs.Ytjjbhdpjnjncbaa.Pr Go.Proofs.Ytjjbhdpjnjncbaa.La Go.Proofs.Ytjjbhdpjnjncbaa.Ma Go.Proofs.Ytjjbhdpjnjncbaa.Hm
theorem mark_UR (A : Option Addr) (c : Nat) (l : List Int) {w0 w : World} {lo : Nat} (hi : Nat) (n m : Int) (hB : Below w0.heap.size w0 w) (h : UR (Kd.int .i64) 2 w0 w lo hi (.slice A l.length c) l) (h0 : 0 ≤ n) (h1 : n + l.length ≤ 1099511627776) (hm : m = n + l.length) :
  Calls Try.prog 35 #[.slice A l.length c, .int .i64 n] w fun e w' => e = .returned (.int .i64 m) ∧ UR (Kd.int .i64) 2 w0 w' lo hi (.slice A l.length c) (count n l.length) ∧ Below w0.heap.size w0 w' ∧ Frm w w' lo hi := by
 subst hm
 obtain ⟨k, hk⟩ := evk (markI l n (by omega) h0 (by omega))
 refine (laws_markInt64S.calls k _ _ l n _ _ w0 w hB h hk).mono ?_
 rintro e w' ⟨rfl, hS, hB', hK⟩
 exact ⟨rfl, ⟨h.1, hS.2⟩, hB', Frm.kept hK (fun _ hk => hk)⟩
def cntF (n : Int) (m : Nat) : List S65 := (List.range m).map fun (i : Nat) => ⟨n + 2 * (i : Int), n + 2 * (i : Int) + 1⟩
theorem cntF_length (n : Int) (m : Nat) : (cntF n m).length = m := by simp [cntF]
theorem markF (l : List S65) (n : Int) (hl : l.length ≤ 1099511627776) (h0 : 0 ≤ n) (h1 : n ≤ 1099511627776) : Ev (fun k => laws_markFracS.f k l n) (n + 2 * l.length, cntF n l.length) := by
 have key : ∀ (m i : Nat), i + m = l.length → Ev (fun k => laws_markFracS.l0 k (cntF n i ++ l.drop i) (n + 2 * i) i) (n + 2 * l.length, cntF n l.length) := by
  intro m
  induction m with
  | zero =>
   intro i hi
   refine evstep (fun k => by rw [laws_markFracS.l0]) (evneg (by simp [cntF_length]; omega) (evc ?_))
   have e : i = l.length := by omega
   subst e
   rw [List.drop_of_length_le (Nat.le_refl _), List.append_nil]
  | succ m ih =>
   intro i hi
   refine evstep (fun k => by rw [laws_markFracS.l0]) (evpos (by simp [cntF_length]; omega) (evpos (by omega) ?_))
   refine evsome rfl ?_
   have hlt : i < l.length := by omega
   have s (x y : S65) : (cntF n i ++ x :: l.drop (i + 1)).set i y = cntF n i ++ y :: l.drop (i + 1) := by
    have := set_append_nat (cntF n i) (l.drop (i + 1)) y x
    rwa [cntF_length] at this
   rw [Int.toNat_natCast, List.drop_eq_getElem_cons hlt, s, s]
   have e : (rd_T65 (cntF n i ++ (⟨n + 2 * i, (rd_T65 (cntF n i ++ l[i] :: l.drop (i + 1)) (i : Int)).f1⟩ : S65) :: l.drop (i + 1)) (i : Int)).f0 = n + 2 * i := by
    simp [rd_T65, cntF_length, List.getElem?_append_right]
   rw [e, w64 (x := n + 2 * (i : Int) + 1) (by omega) (by omega), w64 (x := n + 2 * (i : Int) + 1 + 1) (by omega) (by omega), w64 (x := (i : Int) + 1) (by omega) (by omega)]
   have h2 := ih (i + 1) (by omega)
   rw [show n + 2 * ((i + 1 : Nat) : Int) = n + 2 * i + 1 + 1 from by omega, show cntF n (i + 1) = cntF n i ++ [⟨n + 2 * i, n + 2 * i + 1⟩] from by simp [cntF, List.range_succ], List.append_assoc] at h2
   exact h2
 have := key l.length 0 (by omega)
 simpa [laws_markFracS.f, cntF] using this
theorem mark_UF (A : Option Addr) (c : Nat) (l : List S65) {w0 w : World} {lo : Nat} (hi : Nat) (n m : Int) (hB : Below w0.heap.size w0 w) (h : UR k65 65 w0 w lo hi (.slice A l.length c) l) (h0 : 0 ≤ n) (h1 : n + 2 * l.length ≤ 1099511627776) (hm : m = n + 2 * l.length) :
  Calls Try.prog 54 #[.slice A l.length c, .int .i64 n] w fun e w' => e = .returned (.int .i64 m) ∧ UR k65 65 w0 w' lo hi (.slice A l.length c) (cntF n l.length) ∧ Below w0.heap.size w0 w' ∧ Frm w w' lo hi := by
 subst hm
 obtain ⟨k, hk⟩ := evk (markF l n (by omega) h0 (by omega))
 refine (laws_markFracS.calls k _ _ l n _ _ w0 w hB h hk).mono ?_
 rintro e w' ⟨rfl, hS, hB', hK⟩
 exact ⟨rfl, ⟨h.1, hS.2⟩, hB', Frm.kept hK (fun _ hk => hk)⟩
end Go.Proofs.Ytjjbhdpjnjncbaa.Lw
end
section
namespace Go.Proofs.Ytjjbhdpjnjncbaa.Pr
open Go.RowKit Go.Proofs.YtjjbhdpjnjncbaaW.PrintWords Go.Proofs.YtjjbhdpjnjncbaaW.PrintLast Go.Proofs.YtjjbhdpjnjncbaaW.PrintMore
attribute [local go_sem] max2_int min2_int max_two min_two max_three min_three max_four min_four
def laws_szFracS.f (l0 : List (S120)) (a1 : Int) : Option (Int) := if (wrap64 (a1 - (l0.length : Int))) < 0 then (some (-1)) else (some (wrap64 (a1 - (l0.length : Int))))
theorem laws_szFracS.calls (A0 : Option Addr) (c0 : Nat) (l0 : List (S120)) (a1 : Int) (r : Int) (w : World) (hr0 : Kd.C k120 w A0 l0.length l0) (hc0 : l0.length ≤ c0) (h : laws_szFracS.f l0 a1 = some r) :
  Calls Try.prog 44 #[.slice A0 l0.length c0, .int .i64 a1] w fun e w' => e = .returned (.int .i64 r) ∧ Drawn0 w w' := by
 have HR0 := Aside0.mk hr0
 have HC0 := Aside0.mk hc0
 clear hr0 hc0
 have H : (if (wrap64 (a1 - (l0.length : Int))) < 0 then (some (-1)) else (some (wrap64 (a1 - (l0.length : Int))))) = some r := h
 clear h
 by_cases c3 : (wrap64 (a1 - (l0.length : Int))) < 0
 ·rw [if_pos c3] at H
  have c3b0 : decide ((wrap64 (a1 - (l0.length : Int))) < 0) = true := decide_eq_true c3
  clear c3
  obtain rfl := Option.some.inj H
  go_enter Try.func44, Try.ntmps44
  go_wp2
  go_ret
  exact ⟨by first | rfl | (simp; done) | (simp [*]; done), by repeat (first | exact Drawn0.refl _ | apply Drawn0.step)⟩
 ·rw [if_neg c3] at H
  have c3b0 : decide ((wrap64 (a1 - (l0.length : Int))) < 0) = false := decide_eq_false c3
  clear c3
  obtain rfl := Option.some.inj H
  go_enter Try.func44, Try.ntmps44
  go_wp2
  go_ret
  exact ⟨by first | rfl | (simp; done) | (simp [*]; done), by repeat (first | exact Drawn0.refl _ | apply Drawn0.step)⟩
def laws_toFrac.f (a0_0 : Int) (a0_1 : Int) : Option (Int × Int) := some (a0_0, a0_1)
theorem laws_toFrac.calls (a0_0 : Int) (a0_1 : Int) (r1 : Int) (r2 : Int) (w : World) (h : laws_toFrac.f a0_0 a0_1 = some (r1, r2)) :
  Calls Try.prog 98 #[.agg #[.int .i64 a0_0, .int .i64 a0_1]] w fun e w' => e = .returned (.agg #[.int .i64 r1, .int .i64 r2]) ∧ Below w.heap.size w w' := by
 have hu120 := Try.underlying120
 have hu65 := Try.underlying65
 have HB := Aside0.mk (Below.refl w.heap.size w)
 have H : (some (a0_0, a0_1)) = some (r1, r2) := h
 clear h
 simp only [Option.some.injEq, Prod.mk.injEq] at H
 obtain ⟨rfl, rfl⟩ := H
 go_enter Try.func98, Try.ntmps98
 go_wp2_with (first | ((with_reducible refine gate_dst (N := 1) rfl ?_); refine box_event ?hg (N := 1) ?hd (cs := #[.int .i64 a0_0, .int .i64 a0_1]) (t := 120) ?hr ?_; (case hd => rfl); (case hg => rfl); (case hr => first | (go_simp; done) | (go_simp; rfl)); intro gb174 hg w2 hbox hb; have n0_ := Aside0.mk (below_step (by repeat (first | (with_reducible first | exact HB.out | apply below_alloc | apply pw_below_drewN | apply below_drew1) | exact HB.out)) hb); have n1_ := Aside0.mk (hbox); have n2_ := Aside0.mk ((by rw [hg]; exact (below_size (by repeat (first | (with_reducible first | exact HB.out | apply below_alloc | apply pw_below_drewN | apply below_drew1) | exact HB.out))) : w.heap.size ≤ gb174)); have n3_ := Aside0.mk ((by rw [hg]; exact (below_size (by repeat (first | (with_reducible first | exact HB.out | apply below_alloc | apply pw_below_drewN | apply below_drew1) | exact HB.out))) : w.heap.size ≤ gb174)); clear HB; have HB := n0_; have BK174 := n1_; have GW174 := n2_; have GE174 := n3_; clear n0_ n1_ n2_ n3_; clear hb hbox hg) | ((with_reducible refine gate_dst (N := 2) rfl ?_); refine box_event ?hg (N := 2) ?hd (cs := #[.int .i64 0, .int .i64 0]) (t := 65) ?hr ?_; (case hd => rfl); (case hg => rfl); (case hr => first | (go_simp; done) | (go_simp; rfl)); intro gb175 hg w3 hbox hb; have n0_ := Aside0.mk (blk_below (g := gb174) (o := .cells #[.int .i64 a0_0, .int .i64 a0_1] 120 (0, 0)) (by (with_reducible repeat (first | refine blk_drewN ?_ _ | refine blk_drew ?_ | refine blk_alloc ?_ _)); exact BK174.out) hb); have n1_ := Aside0.mk (below_step (by repeat (first | (with_reducible first | exact HB.out | apply below_alloc | apply pw_below_drewN | apply below_drew1 | refine below_set ?_ GE174.out) | exact HB.out)) hb); have n2_ := Aside0.mk (hbox); have n3_ := Aside0.mk ((by rw [hg]; exact (below_size (by repeat (first | (with_reducible first | exact HB.out | apply below_alloc | apply pw_below_drewN | apply below_drew1 | refine below_set ?_ GE174.out) | exact HB.out))) : w.heap.size ≤ gb175)); have n4_ := Aside0.mk ((by rw [hg]; exact (below_size (by repeat (first | (with_reducible first | exact HB.out | apply below_alloc | apply pw_below_drewN | apply below_drew1 | refine below_set ?_ GE174.out) | exact HB.out))) : w.heap.size ≤ gb175)); have n5_ := Aside0.mk ((by rw [hg]; exact Nat.ne_of_lt (blk_lt (g := gb174) (o := .cells #[.int .i64 a0_0, .int .i64 a0_1] 120 (0, 0)) (by (with_reducible repeat (first | refine blk_drewN ?_ _ | refine blk_drew ?_ | refine blk_alloc ?_ _)); exact BK174.out)) : gb174 ≠ gb175)); have n6_ := Aside0.mk ((by rw [hg]; exact Nat.ne_of_gt (blk_lt (g := gb174) (o := .cells #[.int .i64 a0_0, .int .i64 a0_1] 120 (0, 0)) (by (with_reducible repeat (first | refine blk_drewN ?_ _ | refine blk_drew ?_ | refine blk_alloc ?_ _)); exact BK174.out)) : gb175 ≠ gb174)); clear BK174; clear HB; have BK174 := n0_; have HB := n1_; have BK175 := n2_; have GW175 := n3_; have GE175 := n4_; have NB174_175 := n5_; have NB175_174 := n6_; clear n0_ n1_ n2_ n3_ n4_ n5_ n6_; clear hb hbox hg) | ((with_reducible refine gate_dst (N := 3) rfl ?_); refine box_event ?hg (N := 3) ?hd (cs := #[.int .i64 0, .int .i64 0]) (t := 65) ?hr ?_; (case hd => rfl); (case hg => rfl); (case hr => first | (go_simp; done) | (go_simp; rfl)); intro gb176 hg w4 hbox hb; have n0_ := Aside0.mk (blk_below (g := gb174) (o := .cells #[.int .i64 a0_0, .int .i64 a0_1] 120 (0, 0)) (by (with_reducible repeat (first | refine blk_drewN ?_ _ | refine blk_drew ?_ | refine blk_alloc ?_ _)); exact BK174.out) hb); have n1_ := Aside0.mk (blk_below (g := gb175) (o := .cells #[.int .i64 0, .int .i64 0] 65 (0, 0)) (by (with_reducible repeat (first | refine blk_drewN ?_ _ | refine blk_drew ?_ | refine blk_alloc ?_ _)); exact BK175.out) hb); have n2_ := Aside0.mk (below_step (by repeat (first | (with_reducible first | exact HB.out | apply below_alloc | apply pw_below_drewN | apply below_drew1 | refine below_set ?_ GE174.out | refine below_set ?_ GE175.out) | exact HB.out)) hb); have n3_ := Aside0.mk (hbox); have n4_ := Aside0.mk ((by rw [hg]; exact (below_size (by repeat (first | (with_reducible first | exact HB.out | apply below_alloc | apply pw_below_drewN | apply below_drew1 | refine below_set ?_ GE174.out | refine below_set ?_ GE175.out) | exact HB.out))) : w.heap.size ≤ gb176)); have n5_ := Aside0.mk ((by rw [hg]; exact (below_size (by repeat (first | (with_reducible first | exact HB.out | apply below_alloc | apply pw_below_drewN | apply below_drew1 | refine below_set ?_ GE174.out | refine below_set ?_ GE175.out) | exact HB.out))) : w.heap.size ≤ gb176)); have n6_ := Aside0.mk ((by rw [hg]; exact Nat.ne_of_lt (blk_lt (g := gb174) (o := .cells #[.int .i64 a0_0, .int .i64 a0_1] 120 (0, 0)) (by (with_reducible repeat (first | refine blk_drewN ?_ _ | refine blk_drew ?_ | refine blk_alloc ?_ _)); exact BK174.out)) : gb174 ≠ gb176)); have n7_ := Aside0.mk ((by rw [hg]; exact Nat.ne_of_gt (blk_lt (g := gb174) (o := .cells #[.int .i64 a0_0, .int .i64 a0_1] 120 (0, 0)) (by (with_reducible repeat (first | refine blk_drewN ?_ _ | refine blk_drew ?_ | refine blk_alloc ?_ _)); exact BK174.out)) : gb176 ≠ gb174)); have n8_ := Aside0.mk ((by rw [hg]; exact Nat.ne_of_lt (blk_lt (g := gb175) (o := .cells #[.int .i64 0, .int .i64 0] 65 (0, 0)) (by (with_reducible repeat (first | refine blk_drewN ?_ _ | refine blk_drew ?_ | refine blk_alloc ?_ _)); exact BK175.out)) : gb175 ≠ gb176)); have n9_ := Aside0.mk ((by rw [hg]; exact Nat.ne_of_gt (blk_lt (g := gb175) (o := .cells #[.int .i64 0, .int .i64 0] 65 (0, 0)) (by (with_reducible repeat (first | refine blk_drewN ?_ _ | refine blk_drew ?_ | refine blk_alloc ?_ _)); exact BK175.out)) : gb176 ≠ gb175)); clear BK174; clear BK175; clear HB; have BK174 := n0_; have BK175 := n1_; have HB := n2_; have BK176 := n3_; have GW176 := n4_; have GE176 := n5_; have NB174_176 := n6_; have NB176_174 := n7_; have NB175_176 := n8_; have NB176_175 := n9_; clear n0_ n1_ n2_ n3_ n4_ n5_ n6_ n7_ n8_ n9_; clear hb hbox hg; have hnb5 := NB174_175.out; have hnc5 := NB175_174.out; have hnb6 := NB174_176.out; have hnc6 := NB176_174.out; have hcz7_0 : w4.cell? ⟨gb174, 0, none⟩ = some (.int .i64 a0_0) := (blk_cell BK174.out 0).trans rfl; have hcz7_1 : w4.cell? ⟨gb174, 1, none⟩ = some (.int .i64 a0_1) := (blk_cell BK174.out 1).trans rfl; have hfz7_0 := blk_frozen BK174.out 0; have hfz7_1 := blk_frozen BK174.out 1; have hnb8 := NB176_175.out; have hnc8 := NB175_176.out; have hcz9_0 : w4.cell? ⟨gb176, 0, none⟩ = some (.int .i64 0) := (blk_cell BK176.out 0).trans rfl; have hcz9_1 : w4.cell? ⟨gb176, 1, none⟩ = some (.int .i64 0) := (blk_cell BK176.out 1).trans rfl; have hfz9_0 := blk_frozen BK176.out 0; have hfz9_1 := blk_frozen BK176.out 1; have hcz10_0 : w4.cell? ⟨gb175, 0, none⟩ = some (.int .i64 0) := (blk_cell BK175.out 0).trans rfl; have hcz10_1 : w4.cell? ⟨gb175, 1, none⟩ = some (.int .i64 0) := (blk_cell BK175.out 1).trans rfl; have hfz10_0 := blk_frozen BK175.out 0; have hfz10_1 := blk_frozen BK175.out 1))
 refine bodyPost_ret (results_cell_row rfl _ _ gb175 65 #[.int .i64 a0_0, .int .i64 a0_1] (0, 0) _ rfl (by (with_reducible repeat (first | refine blk_drewN ?_ _ | refine blk_drew ?_ | refine blk_alloc ?_ _)); refine blk_put (cs := #[.int .i64 a0_0, .int .i64 0]) ?_ 1 _ rfl; (with_reducible repeat (first | refine blk_drewN ?_ _ | refine blk_drew ?_ | refine blk_alloc ?_ _)); refine blk_put (cs := #[.int .i64 0, .int .i64 0]) ?_ 0 _ rfl; (with_reducible repeat (first | refine blk_drewN ?_ _ | refine blk_drew ?_ | refine blk_alloc ?_ _)); refine blk_far ?_ NB175_176.out _; (with_reducible repeat (first | refine blk_drewN ?_ _ | refine blk_drew ?_ | refine blk_alloc ?_ _)); refine blk_far ?_ NB175_176.out _; (with_reducible repeat (first | refine blk_drewN ?_ _ | refine blk_drew ?_ | refine blk_alloc ?_ _)); exact BK175.out) Try.underlying65 rfl (by kernel_rfl)) rfl ?_
 exact ⟨by first | rfl | (simp [errW_none, errW_some] <;> rfl) | (simp [*, errW_none, errW_some] <;> rfl), by repeat (first | (with_reducible first | exact HB.out | apply below_alloc | apply pw_below_drewN | apply below_drew1 | refine below_set ?_ GE174.out | refine below_set ?_ GE175.out | refine below_set ?_ GE176.out) | exact HB.out)⟩
def laws_toFracS.l0 : Nat → List (S120) → List (S65) → Int → Option ((List (S65)))
 | 0, _, _, _ => none
 | k + 1, x0, x3, x4 => if x4 < (x0.length : Int) then (if 0 ≤ x4 then ((laws_toFrac.f ((rd_T120 x0 x4).f0) ((rd_T120 x0 x4).f1)).bind fun bt181 => (if x4 < (x3.length : Int) then (laws_toFracS.l0 k x0 (x3.set (x4 : Int).toNat (⟨bt181.1, bt181.2⟩ : S65)) (wrap64 (x4 + 1))) else (none))) else (none)) else (some x3)
def laws_toFracS.f (k : Nat) (l0 : List (S120)) : Option ((List (S65))) := if 0 ≤ (l0.length : Int) then (if ((l0.length : Int) : Int).toNat ≤ 17592186044416 then (laws_toFracS.l0 k l0 (List.replicate ((l0.length : Int) : Int).toNat z65) 0) else (none)) else (none)
theorem laws_toFracS.mono_l : ∀ k, (∀ y0 y1 y2, LeO (laws_toFracS.l0 k y0 y1 y2) (laws_toFracS.l0 (k + 1) y0 y1 y2))
 | 0 => fun _ _ _ r h => by simp [laws_toFracS.l0] at h
 | k + 1 => by
  have ih0 := laws_toFracS.mono_l k
  ·intro y0 y1 y2
   unfold laws_toFracS.l0
   repeat' first
   | (with_reducible exact ih0 _ _ _)
   | (with_reducible exact LeO.refl _)
   | (with_reducible exact LeO.none _)
   | (with_reducible refine LeO.ite ?_ ?_)
   | (with_reducible refine LeO.bind ?_ (fun _ => ?_))
   | exact ih0 _ _ _
   | exact LeO.none _
   | refine LeO.ite ?_ ?_
   | refine LeO.bind ?_ (fun _ => ?_)
theorem laws_toFracS.mono : ∀ a0 k, LeO (laws_toFracS.f k a0) (laws_toFracS.f (k + 1) a0) := by
 intro a0 k
 have ih0 := laws_toFracS.mono_l k
 unfold laws_toFracS.f
 repeat' first
   | (with_reducible exact ih0 _ _ _)
   | (with_reducible exact LeO.refl _)
   | (with_reducible exact LeO.none _)
   | (with_reducible refine LeO.ite ?_ ?_)
   | (with_reducible refine LeO.bind ?_ (fun _ => ?_))
   | exact ih0 _ _ _
   | exact LeO.none _
   | refine LeO.ite ?_ ?_
   | refine LeO.bind ?_ (fun _ => ?_)
theorem laws_toFracS.calls (k : Nat) (A0 : Option Addr) (c0 : Nat) (l0 : List (S120)) (r : List (S65)) (w : World) (hr0 : Kd.C k120 w A0 l0.length l0) (hc0 : l0.length ≤ c0) (h : laws_toFracS.f k l0 = some r) :
  Calls Try.prog 46 #[.slice A0 l0.length c0] w fun e w' => ∃ v0_ : Value, e = .returned (v0_) ∧ Kd.R k65 65 w' w.heap.size (fun _ => True) v0_ r ∧ Below w.heap.size w w' := by
 have hu120 := Try.underlying120
 have hu65 := Try.underlying65
 have HR0 := Aside0.mk hr0
 have HC0 := Aside0.mk hc0
 clear hr0 hc0
 have HB := Aside0.mk (Below.refl w.heap.size w)
 have H : (if 0 ≤ (l0.length : Int) then (if ((l0.length : Int) : Int).toNat ≤ 17592186044416 then (laws_toFracS.l0 k l0 (List.replicate ((l0.length : Int) : Int).toNat z65) 0) else (none)) else (none)) = some r := h
 clear h
 by_cases c2 : 0 ≤ (l0.length : Int)
 ·rw [if_pos c2] at H
  have c2b0 := eq_true c2
  have c2b1 : decide (0 ≤ (l0.length : Int)) = true := decide_eq_true c2
  clear c2
  by_cases c3 : ((l0.length : Int) : Int).toNat ≤ 17592186044416
  ·rw [if_pos c3] at H
   have c3b0 := eq_true c3
   have c3b1 : decide (((l0.length : Int) : Int).toNat ≤ 17592186044416) = true := decide_eq_true c3
   clear c3
   obtain ⟨y177, hy177⟩ : ∃ y_ : List (S65), y_ = (List.replicate ((l0.length : Int) : Int).toNat z65) := ⟨_, rfl⟩
   replace H : (laws_toFracS.l0 k l0 y177 0) = some r := by first | (rw [hy177]; with_reducible exact H) | (have H2_ := (Option.bind_some _ _).symm.trans H; rw [hy177]; with_reducible exact H2_) | (have H2_ := (Option.bind_some _ _).symm.trans H; with_reducible exact H2_) | with_reducible exact H | (rw [hy177]; exact H) | exact H
   have Ny177 := Aside0.mk hy177
   clear hy177
   have H' := Aside0.mk H
   clear H
   go_enter Try.func46, Try.ntmps46
   go_wp2_with (first | ((with_reducible refine gate_dst (N := 7) rfl ?_); refine Kd.R_make k65 _ 65 rfl (N := 7) rfl 68 _ _ rfl (l0.length : Int) rfl rfl Try.underlying68 (.agg #[(.int .i64 0), (.int .i64 0)]) 16 info65 rfl (by decide) (by omega) z65 (ok := fun _ => True) (okp := fun _ => True) (k65_mkM _ _ _ z65 ) (fun _ hk => hk) trivial (of_decide_eq_true (by first | (with_reducible assumption) | assumption)) (Nat.le_trans (Nat.mul_le_mul_right _ (of_decide_eq_true (by first | (with_reducible assumption) | assumption) : (l0.length : Int).toNat ≤ 17592186044416)) (by omega)) (Below.refl _ _) (Nat.le_refl _) ?_; intro v178 w4 ho5 hb hg_ hnew_; clear hg_ hnew_; (first | rw [← Ny177.out] at ho5 | (simp only [Int.reduceToNat] at ho5; rw [← Ny177.out] at ho5)); have n0_ := Aside0.mk (Kd.R_lower ho5 (below_size (by repeat (first | (with_reducible first | exact HB.out | apply below_alloc | apply pw_below_drewN | apply below_drew1) | exact HB.out)))); have n1_ := Aside0.mk (below_step (by repeat (first | (with_reducible first | exact HB.out | apply below_alloc | apply pw_below_drewN | apply below_drew1) | exact HB.out)) hb); clear HB; have HO179 := n0_; have HB := n1_; clear n0_ n1_; clear hb ho5))
   go_loopg [4] k (fun kq v4 w' => ∃ (x3_1 : List (S65)) (x4_1 : Int), v4 = .int .i64 x4_1 ∧ Aside0 (laws_toFracS.l0 kq l0 x3_1 x4_1 = some r) ∧ Aside0 (kq ≤ k) ∧ Aside0 (Kd.R k65 65 w' w.heap.size (fun _ => True) v178 x3_1) ∧ Aside0 (Below w.heap.size w w'))
   case atStart => exact ⟨(y177), (0), (by first | rfl | (simp; done) | (simp [*]; done)), H', ⟨Nat.le_refl _⟩, ⟨by (with_reducible repeat (first | apply Kd.R_alloc | apply Kd.R_drewN | apply Kd.R_drew)); exact HO179.out⟩, ⟨by repeat (first | (with_reducible first | exact HB.out | apply below_alloc | apply pw_below_drewN | apply below_drew1) | exact HB.out)⟩⟩
   case round =>
    clear H'
    try clear c2
    try clear c2b0
    try clear c2b1
    try clear p2
    try clear c3
    try clear c3b0
    try clear c3b1
    try clear c4
    obtain ⟨x3_1, x4_1, rfl, HA, HK1, HO_3, HB⟩ := hrel
    cases gk with
    | zero => exact absurd HA.out (by simp [laws_toFracS.l0])
    | succ k1 =>
     have H := HA.out
     clear HA
     simp only [laws_toFracS.l0] at H
     by_cases c6 : x4_1 < (l0.length : Int)
     ·rw [if_pos c6] at H
      have c6b0 : decide (x4_1 < (l0.length : Int)) = true := decide_eq_true c6
      clear c6
      by_cases c7 : 0 ≤ x4_1
      ·rw [if_pos c7] at H
       have c7b0 : decide (0 ≤ x4_1) = true := decide_eq_true c7
       clear c7
       replace H := Option.bind_eq_some_iff.mp H
       obtain ⟨⟨t181, t182⟩, A80, H⟩ := H
       replace H : (if x4_1 < (x3_1.length : Int) then (laws_toFracS.l0 k1 l0 (x3_1.set (x4_1 : Int).toNat (⟨t181, t182⟩ : S65)) (wrap64 (x4_1 + 1))) else (none)) = some r := H
       have A8 := Aside0.mk A80
       clear A80
       by_cases c9 : x4_1 < (x3_1.length : Int)
       ·rw [if_pos c9] at H
        have c9b0 : decide (x4_1 < (x3_1.length : Int)) = true := decide_eq_true c9
        clear c9
        obtain ⟨y183, hy183⟩ : ∃ y_ : List (S65), y_ = (x3_1.set (x4_1 : Int).toNat (⟨t181, t182⟩ : S65)) := ⟨_, rfl⟩
        replace H : (laws_toFracS.l0 k1 l0 y183 (wrap64 (x4_1 + 1))) = some r := by first | (rw [hy183]; with_reducible exact H) | (have H2_ := (Option.bind_some _ _).symm.trans H; rw [hy183]; with_reducible exact H2_) | (have H2_ := (Option.bind_some _ _).symm.trans H; with_reducible exact H2_) | with_reducible exact H | (rw [hy183]; exact H) | exact H
        have Ny183 := Aside0.mk hy183
        clear hy183
        have H' := Aside0.mk H
        clear H
        have p180 : 0 ≤ (x4_1 : Int) := of_decide_eq_true (by first | (with_reducible assumption) | assumption)
        have q180 : x4_1 < (l0.length : Int) := of_decide_eq_true (by first | (with_reducible assumption) | assumption)
        obtain ⟨ad180, e180, hx180_0, hx180_1⟩ := at_T120 HR0.out x4_1 p180 q180
        cases e180
        replace hx180_0 := (HB.out.cell (World.block_lt_of_cell? w _ hx180_0)).trans hx180_0
        replace hx180_1 := (HB.out.cell (World.block_lt_of_cell? w _ hx180_1)).trans hx180_1
        replace p180 := eq_true p180
        replace q180 := eq_true q180
        go_wp2_with (first | ((with_reducible refine gate_callee (f := 98) rfl ?_); refine goesL_ (some 20) rfl rfl Try.func98 (by kernel_rfl) rfl #[.agg #[.int .i64 ((rd_T120 l0 x4_1).f0), .int .i64 ((rd_T120 l0 x4_1).f1)]] rfl (by (try simp only [List.map_toArray, List.map_cons, List.map_nil]); first | done | rfl | (simp only [List.length_drop, List.length_take]; rfl)) ?_; (with_reducible refine (laws_toFrac.calls ((rd_T120 l0 x4_1).f0) ((rd_T120 l0 x4_1).f1) t181 t182 _ A8.out).mono ?_); rintro e w11 ⟨rfl, hb⟩; refine ⟨_, rfl, ?_⟩; have n0_ := Aside0.mk (Kd.R_below (by (with_reducible repeat (first | apply Kd.R_alloc | apply Kd.R_drewN | apply Kd.R_drew)); exact HO_3.out) hb); have n1_ := Aside0.mk (below_step (by repeat (first | (with_reducible first | exact HB.out | apply below_alloc | apply pw_below_drewN | apply below_drew1) | exact HB.out)) hb); clear HO_3; clear HB; have HO_3 := n0_; have HB := n1_; clear n0_ n1_; (try clear hb); (try clear hb2); (try clear hk); (try clear hi); have p10 : 0 ≤ (x4_1 : Int) := of_decide_eq_true (by first | (with_reducible assumption) | assumption); have q10 : (x4_1 : Int) < ((x3_1.length : Int) : Int) := of_decide_eq_true (by first | (with_reducible assumption) | assumption); obtain ⟨go10, co10, eo10, gb10, gl10, cl10, HG10⟩ := Kd.R_form HO_3.out (by omega); (first | cases eo10 | (injection eo10 with ea_ en_ ec_; (first | subst ea_ | (injection ea_ with ea_; subst ea_)); subst ec_; clear en_)); have GB10 := Aside0.mk gb10; have GG10 := Aside0.mk HG10; clear gb10 gl10 HG10; obtain ⟨ce10, hcl10, hM10, hcc10, hfr10⟩ := Kd.R_elem HO_3.out z65 (x4_1 : Int) p10 q10; obtain rfl := k65_openM hM10; have hx10_0 : w11.cell? ⟨go10, (x4_1 : Int).toNat * 2, none⟩ = some (.int .i64 ((rd_T65 x3_1 x4_1).f0)) := hcc10 0 _ rfl; have hx10_1 : w11.cell? ⟨go10, (x4_1 : Int).toNat * 2 + 1, none⟩ = some (.int .i64 ((rd_T65 x3_1 x4_1).f1)) := hcc10 1 _ rfl; have hf10_0 : w11.frozen? ⟨go10, (x4_1 : Int).toNat * 2, none⟩ = false := hfr10 0; have hf10_1 : w11.frozen? ⟨go10, (x4_1 : Int).toNat * 2 + 1, none⟩ = false := hfr10 1; (try clear hcl10); (try clear hcc10); (try clear hfr10); (try clear hM10); replace p10 := eq_true p10; replace q10 := eq_true q10; have HX12 := Aside0.mk (show Kd.R k65 65 w11 w.heap.size (fun _ => True) (.slice (some ⟨go10, 0, none⟩) x3_1.length co10) x3_1 from (by (with_reducible repeat (first | apply Kd.R_alloc | apply Kd.R_drewN | apply Kd.R_drew)); exact HO_3.out)); obtain ⟨ce12, hcl12, hM12, hcc12, hfr12⟩ := Kd.R_elem HX12.out z65 (x4_1 : Int) (of_decide_eq_true (by first | (with_reducible assumption) | assumption)) (by have h_ : (x4_1 : Int) < ((x3_1.length : Int) : Int) := of_decide_eq_true (by first | (with_reducible assumption) | assumption); first | exact h_ | (have e_ := (Kd.R_reads' HO_3.out).1; omega) | simpa using h_); obtain rfl := k65_openM hM12; have HP12 := Kd.R_seg HX12.out (x4_1 : Int) (of_decide_eq_true (by first | (with_reducible assumption) | assumption)) (by have h_ : (x4_1 : Int) < ((x3_1.length : Int) : Int) := of_decide_eq_true (by first | (with_reducible assumption) | assumption); first | exact h_ | (have e_ := (Kd.R_reads' HO_3.out).1; omega) | simpa using h_) (seg := [.int .i64 t181, .int .i64 t182]) (j := 0) hcl12 hcc12 (show 2 ≤ 2 from by decide) (x' := (⟨t181, t182⟩ : S65)) (k65_mkM _ _ _ (⟨t181, t182⟩ : S65) ) (fun _ hk => hk); have hx12_0 := hcc12 0 _ rfl; (try simp only [show (k65).sz = 2 from rfl, Nat.mul_one, Nat.add_zero] at hx12_0); have hf12_0 := hfr12 0; (try simp only [show (k65).sz = 2 from rfl, Nat.mul_one, Nat.add_zero] at hf12_0); have hx12_1 := hcc12 1 _ rfl; (try simp only [show (k65).sz = 2 from rfl, Nat.mul_one, Nat.add_zero] at hx12_1); have hf12_1 := hfr12 1; (try simp only [show (k65).sz = 2 from rfl, Nat.mul_one, Nat.add_zero] at hf12_1); (try clear hcl12); (try clear hcc12); (try clear hfr12); (try clear hM12)) | ((with_reducible refine gate_store (t := 65) (p := 21) rfl ?_); refine store_event (t := 65) (p := 21) (v := ?vo_w13) (w1 := ((w11.setCell ⟨go10, (x4_1 : Int).toNat * 2, none⟩ (.int .i64 t181)).setCell ⟨go10, (x4_1 : Int).toNat * 2 + 1, none⟩ (.int .i64 t182))) ?hg ?ho ?hn ?hr ?_; (case ho => rfl); (case hg => rfl); (case hn => rfl); (case hr => first | (go_simp; done) | (go_simp; rfl)); intro w13 hw; have hg : w11.grownBy w13 (some go10) := (by rw [hw]; exact HP12.2); have hp_ : Kd.R k65 65 w13 w.heap.size (fun _ => True) (.slice (some ⟨go10, 0, none⟩) x3_1.length co10) y183 := (by rw [hw, Ny183.out]; exact HP12.1); clear HP12; have n0_ := Aside0.mk (hp_); have n1_ := Aside0.mk ((by rw [hw]; exact below_set (below_set (HB.out) GB10.out) GB10.out : Below w.heap.size w w13)); clear HO_3; clear HB; have HO_3 := n0_; have HB := n1_; clear n0_ n1_; clear hg hw hp_))
        go_roundg k1
        case measure => have := HK1.out; omega
        case rel => exact ⟨(y183), (wrap64 (x4_1 + 1)), (by first | rfl | (simp; done) | (simp [*]; done)), H', ⟨by have := HK1.out; omega⟩, ⟨by (with_reducible repeat (first | apply Kd.R_alloc | apply Kd.R_drewN | apply Kd.R_drew)); exact HO_3.out⟩, ⟨by repeat (first | (with_reducible first | exact HB.out | apply below_alloc | apply pw_below_drewN | apply below_drew1) | exact HB.out)⟩⟩
       ·rw [if_neg c9] at H
        exact absurd H (by simp)
      ·rw [if_neg c7] at H
       exact absurd H (by simp)
     ·rw [if_neg c6] at H
      have c6b0 : decide (x4_1 < (l0.length : Int)) = false := decide_eq_false c6
      clear c6
      obtain rfl := Option.some.inj H
      go_wp2
      go_ret
      exact ⟨_, by first | rfl | (simp [errW_none, errW_some] <;> rfl) | (simp [*, errW_none, errW_some] <;> rfl), by (with_reducible repeat (first | apply Kd.R_alloc | apply Kd.R_drewN | apply Kd.R_drew)); exact HO_3.out, by repeat (first | (with_reducible first | exact HB.out | apply below_alloc | apply pw_below_drewN | apply below_drew1) | exact HB.out)⟩
  ·rw [if_neg c3] at H
   exact absurd H (by simp)
 ·rw [if_neg c2] at H
  exact absurd H (by simp)
def laws_eqFrac.f (a0_0 : Int) (a0_1 : Int) (a1_0 : Int) (a1_1 : Int) : Option (Bool) := if a0_0 = a1_0 then (if a0_1 = a1_1 then (some true) else (some false)) else (some false)
theorem laws_eqFrac.calls (a0_0 : Int) (a0_1 : Int) (a1_0 : Int) (a1_1 : Int) (r : Bool) (w : World) (h : laws_eqFrac.f a0_0 a0_1 a1_0 a1_1 = some r) :
  Calls Try.prog 48 #[.agg #[.int .i64 a0_0, .int .i64 a0_1], .agg #[.int .i64 a1_0, .int .i64 a1_1]] w fun e w' => e = .returned (.bool r) ∧ Below w.heap.size w w' := by
 have hu65 := Try.underlying65
 have HB := Aside0.mk (Below.refl w.heap.size w)
 have H : (if a0_0 = a1_0 then (if a0_1 = a1_1 then (some true) else (some false)) else (some false)) = some r := h
 clear h
 by_cases c3 : a0_0 = a1_0
 ·rw [if_pos c3] at H
  have c3b0 : (a0_0 == a1_0) = true := beq_iff_eq.mpr c3
  have c3b1 : (a0_0 != a1_0) = false := bne_eq_false_iff_eq.mpr c3
  clear c3
  by_cases c4 : a0_1 = a1_1
  ·rw [if_pos c4] at H
   have c4b0 : (a0_1 == a1_1) = true := beq_iff_eq.mpr c4
   have c4b1 : (a0_1 != a1_1) = false := bne_eq_false_iff_eq.mpr c4
   clear c4
   obtain rfl := Option.some.inj H
   go_enter Try.func48, Try.ntmps48
   go_wp2_with (first | ((with_reducible refine gate_dst (N := 2) rfl ?_); refine box_event ?hg (N := 2) ?hd (cs := #[.int .i64 a0_0, .int .i64 a0_1]) (t := 65) ?hr ?_; (case hd => rfl); (case hg => rfl); (case hr => first | (go_simp; done) | (go_simp; rfl)); intro gb184 hg w5 hbox hb; have n0_ := Aside0.mk (below_step (by repeat (first | (with_reducible first | exact HB.out | apply below_alloc | apply pw_below_drewN | apply below_drew1) | exact HB.out)) hb); have n1_ := Aside0.mk (hbox); have n2_ := Aside0.mk ((by rw [hg]; exact (below_size (by repeat (first | (with_reducible first | exact HB.out | apply below_alloc | apply pw_below_drewN | apply below_drew1) | exact HB.out))) : w.heap.size ≤ gb184)); have n3_ := Aside0.mk ((by rw [hg]; exact (below_size (by repeat (first | (with_reducible first | exact HB.out | apply below_alloc | apply pw_below_drewN | apply below_drew1) | exact HB.out))) : w.heap.size ≤ gb184)); clear HB; have HB := n0_; have BK184 := n1_; have GW184 := n2_; have GE184 := n3_; clear n0_ n1_ n2_ n3_; clear hb hbox hg) | ((with_reducible refine gate_dst (N := 3) rfl ?_); refine box_event ?hg (N := 3) ?hd (cs := #[.int .i64 a1_0, .int .i64 a1_1]) (t := 65) ?hr ?_; (case hd => rfl); (case hg => rfl); (case hr => first | (go_simp; done) | (go_simp; rfl)); intro gb185 hg w6 hbox hb; have n0_ := Aside0.mk (blk_below (g := gb184) (o := .cells #[.int .i64 a0_0, .int .i64 a0_1] 65 (0, 0)) (by (with_reducible repeat (first | refine blk_drewN ?_ _ | refine blk_drew ?_ | refine blk_alloc ?_ _)); exact BK184.out) hb); have n1_ := Aside0.mk (below_step (by repeat (first | (with_reducible first | exact HB.out | apply below_alloc | apply pw_below_drewN | apply below_drew1 | refine below_set ?_ GE184.out) | exact HB.out)) hb); have n2_ := Aside0.mk (hbox); have n3_ := Aside0.mk ((by rw [hg]; exact (below_size (by repeat (first | (with_reducible first | exact HB.out | apply below_alloc | apply pw_below_drewN | apply below_drew1 | refine below_set ?_ GE184.out) | exact HB.out))) : w.heap.size ≤ gb185)); have n4_ := Aside0.mk ((by rw [hg]; exact (below_size (by repeat (first | (with_reducible first | exact HB.out | apply below_alloc | apply pw_below_drewN | apply below_drew1 | refine below_set ?_ GE184.out) | exact HB.out))) : w.heap.size ≤ gb185)); have n5_ := Aside0.mk ((by rw [hg]; exact Nat.ne_of_lt (blk_lt (g := gb184) (o := .cells #[.int .i64 a0_0, .int .i64 a0_1] 65 (0, 0)) (by (with_reducible repeat (first | refine blk_drewN ?_ _ | refine blk_drew ?_ | refine blk_alloc ?_ _)); exact BK184.out)) : gb184 ≠ gb185)); have n6_ := Aside0.mk ((by rw [hg]; exact Nat.ne_of_gt (blk_lt (g := gb184) (o := .cells #[.int .i64 a0_0, .int .i64 a0_1] 65 (0, 0)) (by (with_reducible repeat (first | refine blk_drewN ?_ _ | refine blk_drew ?_ | refine blk_alloc ?_ _)); exact BK184.out)) : gb185 ≠ gb184)); clear BK184; clear HB; have BK184 := n0_; have HB := n1_; have BK185 := n2_; have GW185 := n3_; have GE185 := n4_; have NB184_185 := n5_; have NB185_184 := n6_; clear n0_ n1_ n2_ n3_ n4_ n5_ n6_; clear hb hbox hg; have hnb7 := NB184_185.out; have hnc7 := NB185_184.out; have hcz8_0 : w6.cell? ⟨gb184, 0, none⟩ = some (.int .i64 a0_0) := (blk_cell BK184.out 0).trans rfl; have hcz8_1 : w6.cell? ⟨gb184, 1, none⟩ = some (.int .i64 a0_1) := (blk_cell BK184.out 1).trans rfl; have hfz8_0 := blk_frozen BK184.out 0; have hfz8_1 := blk_frozen BK184.out 1; have hcz9_0 : w6.cell? ⟨gb185, 0, none⟩ = some (.int .i64 a1_0) := (blk_cell BK185.out 0).trans rfl; have hcz9_1 : w6.cell? ⟨gb185, 1, none⟩ = some (.int .i64 a1_1) := (blk_cell BK185.out 1).trans rfl; have hfz9_0 := blk_frozen BK185.out 0; have hfz9_1 := blk_frozen BK185.out 1))
   go_ret
   exact ⟨by first | rfl | (simp [errW_none, errW_some] <;> rfl) | (simp [*, errW_none, errW_some] <;> rfl), by repeat (first | (with_reducible first | exact HB.out | apply below_alloc | apply pw_below_drewN | apply below_drew1 | refine below_set ?_ GE184.out | refine below_set ?_ GE185.out) | exact HB.out)⟩
  ·rw [if_neg c4] at H
   have c4b0 : (a0_1 == a1_1) = false := beq_eq_false_iff_ne.mpr c4
   have c4b1 : (a0_1 != a1_1) = true := bne_iff_ne.mpr c4
   obtain rfl := Option.some.inj H
   go_enter Try.func48, Try.ntmps48
   go_wp2_with (first | ((with_reducible refine gate_dst (N := 2) rfl ?_); refine box_event ?hg (N := 2) ?hd (cs := #[.int .i64 a0_0, .int .i64 a0_1]) (t := 65) ?hr ?_; (case hd => rfl); (case hg => rfl); (case hr => first | (go_simp; done) | (go_simp; rfl)); intro gb184 hg w10 hbox hb; have n0_ := Aside0.mk (below_step (by repeat (first | (with_reducible first | exact HB.out | apply below_alloc | apply pw_below_drewN | apply below_drew1) | exact HB.out)) hb); have n1_ := Aside0.mk (hbox); have n2_ := Aside0.mk ((by rw [hg]; exact (below_size (by repeat (first | (with_reducible first | exact HB.out | apply below_alloc | apply pw_below_drewN | apply below_drew1) | exact HB.out))) : w.heap.size ≤ gb184)); have n3_ := Aside0.mk ((by rw [hg]; exact (below_size (by repeat (first | (with_reducible first | exact HB.out | apply below_alloc | apply pw_below_drewN | apply below_drew1) | exact HB.out))) : w.heap.size ≤ gb184)); clear HB; have HB := n0_; have BK184 := n1_; have GW184 := n2_; have GE184 := n3_; clear n0_ n1_ n2_ n3_; clear hb hbox hg) | ((with_reducible refine gate_dst (N := 3) rfl ?_); refine box_event ?hg (N := 3) ?hd (cs := #[.int .i64 a1_0, .int .i64 a1_1]) (t := 65) ?hr ?_; (case hd => rfl); (case hg => rfl); (case hr => first | (go_simp; done) | (go_simp; rfl)); intro gb185 hg w11 hbox hb; have n0_ := Aside0.mk (blk_below (g := gb184) (o := .cells #[.int .i64 a0_0, .int .i64 a0_1] 65 (0, 0)) (by (with_reducible repeat (first | refine blk_drewN ?_ _ | refine blk_drew ?_ | refine blk_alloc ?_ _)); exact BK184.out) hb); have n1_ := Aside0.mk (below_step (by repeat (first | (with_reducible first | exact HB.out | apply below_alloc | apply pw_below_drewN | apply below_drew1 | refine below_set ?_ GE184.out) | exact HB.out)) hb); have n2_ := Aside0.mk (hbox); have n3_ := Aside0.mk ((by rw [hg]; exact (below_size (by repeat (first | (with_reducible first | exact HB.out | apply below_alloc | apply pw_below_drewN | apply below_drew1 | refine below_set ?_ GE184.out) | exact HB.out))) : w.heap.size ≤ gb185)); have n4_ := Aside0.mk ((by rw [hg]; exact (below_size (by repeat (first | (with_reducible first | exact HB.out | apply below_alloc | apply pw_below_drewN | apply below_drew1 | refine below_set ?_ GE184.out) | exact HB.out))) : w.heap.size ≤ gb185)); have n5_ := Aside0.mk ((by rw [hg]; exact Nat.ne_of_lt (blk_lt (g := gb184) (o := .cells #[.int .i64 a0_0, .int .i64 a0_1] 65 (0, 0)) (by (with_reducible repeat (first | refine blk_drewN ?_ _ | refine blk_drew ?_ | refine blk_alloc ?_ _)); exact BK184.out)) : gb184 ≠ gb185)); have n6_ := Aside0.mk ((by rw [hg]; exact Nat.ne_of_gt (blk_lt (g := gb184) (o := .cells #[.int .i64 a0_0, .int .i64 a0_1] 65 (0, 0)) (by (with_reducible repeat (first | refine blk_drewN ?_ _ | refine blk_drew ?_ | refine blk_alloc ?_ _)); exact BK184.out)) : gb185 ≠ gb184)); clear BK184; clear HB; have BK184 := n0_; have HB := n1_; have BK185 := n2_; have GW185 := n3_; have GE185 := n4_; have NB184_185 := n5_; have NB185_184 := n6_; clear n0_ n1_ n2_ n3_ n4_ n5_ n6_; clear hb hbox hg; have hnb12 := NB184_185.out; have hnc12 := NB185_184.out; have hcz13_0 : w11.cell? ⟨gb184, 0, none⟩ = some (.int .i64 a0_0) := (blk_cell BK184.out 0).trans rfl; have hcz13_1 : w11.cell? ⟨gb184, 1, none⟩ = some (.int .i64 a0_1) := (blk_cell BK184.out 1).trans rfl; have hfz13_0 := blk_frozen BK184.out 0; have hfz13_1 := blk_frozen BK184.out 1; have hcz14_0 : w11.cell? ⟨gb185, 0, none⟩ = some (.int .i64 a1_0) := (blk_cell BK185.out 0).trans rfl; have hcz14_1 : w11.cell? ⟨gb185, 1, none⟩ = some (.int .i64 a1_1) := (blk_cell BK185.out 1).trans rfl; have hfz14_0 := blk_frozen BK185.out 0; have hfz14_1 := blk_frozen BK185.out 1))
   go_ret
   exact ⟨by first | rfl | (simp [errW_none, errW_some] <;> rfl) | (simp [*, errW_none, errW_some] <;> rfl), by repeat (first | (with_reducible first | exact HB.out | apply below_alloc | apply pw_below_drewN | apply below_drew1 | refine below_set ?_ GE184.out | refine below_set ?_ GE185.out) | exact HB.out)⟩
 ·rw [if_neg c3] at H
  have c3b0 : (a0_0 == a1_0) = false := beq_eq_false_iff_ne.mpr c3
  have c3b1 : (a0_0 != a1_0) = true := bne_iff_ne.mpr c3
  obtain rfl := Option.some.inj H
  go_enter Try.func48, Try.ntmps48
  go_wp2_with (first | ((with_reducible refine gate_dst (N := 2) rfl ?_); refine box_event ?hg (N := 2) ?hd (cs := #[.int .i64 a0_0, .int .i64 a0_1]) (t := 65) ?hr ?_; (case hd => rfl); (case hg => rfl); (case hr => first | (go_simp; done) | (go_simp; rfl)); intro gb184 hg w15 hbox hb; have n0_ := Aside0.mk (below_step (by repeat (first | (with_reducible first | exact HB.out | apply below_alloc | apply pw_below_drewN | apply below_drew1) | exact HB.out)) hb); have n1_ := Aside0.mk (hbox); have n2_ := Aside0.mk ((by rw [hg]; exact (below_size (by repeat (first | (with_reducible first | exact HB.out | apply below_alloc | apply pw_below_drewN | apply below_drew1) | exact HB.out))) : w.heap.size ≤ gb184)); have n3_ := Aside0.mk ((by rw [hg]; exact (below_size (by repeat (first | (with_reducible first | exact HB.out | apply below_alloc | apply pw_below_drewN | apply below_drew1) | exact HB.out))) : w.heap.size ≤ gb184)); clear HB; have HB := n0_; have BK184 := n1_; have GW184 := n2_; have GE184 := n3_; clear n0_ n1_ n2_ n3_; clear hb hbox hg) | ((with_reducible refine gate_dst (N := 3) rfl ?_); refine box_event ?hg (N := 3) ?hd (cs := #[.int .i64 a1_0, .int .i64 a1_1]) (t := 65) ?hr ?_; (case hd => rfl); (case hg => rfl); (case hr => first | (go_simp; done) | (go_simp; rfl)); intro gb185 hg w16 hbox hb; have n0_ := Aside0.mk (blk_below (g := gb184) (o := .cells #[.int .i64 a0_0, .int .i64 a0_1] 65 (0, 0)) (by (with_reducible repeat (first | refine blk_drewN ?_ _ | refine blk_drew ?_ | refine blk_alloc ?_ _)); exact BK184.out) hb); have n1_ := Aside0.mk (below_step (by repeat (first | (with_reducible first | exact HB.out | apply below_alloc | apply pw_below_drewN | apply below_drew1 | refine below_set ?_ GE184.out) | exact HB.out)) hb); have n2_ := Aside0.mk (hbox); have n3_ := Aside0.mk ((by rw [hg]; exact (below_size (by repeat (first | (with_reducible first | exact HB.out | apply below_alloc | apply pw_below_drewN | apply below_drew1 | refine below_set ?_ GE184.out) | exact HB.out))) : w.heap.size ≤ gb185)); have n4_ := Aside0.mk ((by rw [hg]; exact (below_size (by repeat (first | (with_reducible first | exact HB.out | apply below_alloc | apply pw_below_drewN | apply below_drew1 | refine below_set ?_ GE184.out) | exact HB.out))) : w.heap.size ≤ gb185)); have n5_ := Aside0.mk ((by rw [hg]; exact Nat.ne_of_lt (blk_lt (g := gb184) (o := .cells #[.int .i64 a0_0, .int .i64 a0_1] 65 (0, 0)) (by (with_reducible repeat (first | refine blk_drewN ?_ _ | refine blk_drew ?_ | refine blk_alloc ?_ _)); exact BK184.out)) : gb184 ≠ gb185)); have n6_ := Aside0.mk ((by rw [hg]; exact Nat.ne_of_gt (blk_lt (g := gb184) (o := .cells #[.int .i64 a0_0, .int .i64 a0_1] 65 (0, 0)) (by (with_reducible repeat (first | refine blk_drewN ?_ _ | refine blk_drew ?_ | refine blk_alloc ?_ _)); exact BK184.out)) : gb185 ≠ gb184)); clear BK184; clear HB; have BK184 := n0_; have HB := n1_; have BK185 := n2_; have GW185 := n3_; have GE185 := n4_; have NB184_185 := n5_; have NB185_184 := n6_; clear n0_ n1_ n2_ n3_ n4_ n5_ n6_; clear hb hbox hg; have hnb17 := NB184_185.out; have hnc17 := NB185_184.out; have hcz18_0 : w16.cell? ⟨gb184, 0, none⟩ = some (.int .i64 a0_0) := (blk_cell BK184.out 0).trans rfl; have hcz18_1 : w16.cell? ⟨gb184, 1, none⟩ = some (.int .i64 a0_1) := (blk_cell BK184.out 1).trans rfl; have hfz18_0 := blk_frozen BK184.out 0; have hfz18_1 := blk_frozen BK184.out 1; have hcz19_0 : w16.cell? ⟨gb185, 0, none⟩ = some (.int .i64 a1_0) := (blk_cell BK185.out 0).trans rfl; have hcz19_1 : w16.cell? ⟨gb185, 1, none⟩ = some (.int .i64 a1_1) := (blk_cell BK185.out 1).trans rfl; have hfz19_0 := blk_frozen BK185.out 0; have hfz19_1 := blk_frozen BK185.out 1))
  go_ret
  exact ⟨by first | rfl | (simp [errW_none, errW_some] <;> rfl) | (simp [*, errW_none, errW_some] <;> rfl), by repeat (first | (with_reducible first | exact HB.out | apply below_alloc | apply pw_below_drewN | apply below_drew1 | refine below_set ?_ GE184.out | refine below_set ?_ GE185.out) | exact HB.out)⟩
def laws_eqFracS.l0 : Nat → List (S65) → List (S65) → Int → Option (Bool)
 | 0, _, _, _ => none
 | k + 1, x0, x1, x5 => if x5 < (x0.length : Int) then (if 0 ≤ x5 then (if x5 < (x1.length : Int) then ((laws_eqFrac.f ((rd_T65 x0 x5).f0) ((rd_T65 x0 x5).f1) ((rd_T65 x1 x5).f0) ((rd_T65 x1 x5).f1)).bind fun t188 => (if t188 = true then (laws_eqFracS.l0 k x0 x1 (wrap64 (x5 + 1))) else (some false))) else (none)) else (none)) else (some true)
def laws_eqFracS.f (k : Nat) (l0 : List (S65)) (l1 : List (S65)) : Option (Bool) := if (l0.length : Int) = (l1.length : Int) then (laws_eqFracS.l0 k l0 l1 0) else (some false)
theorem laws_eqFracS.mono_l : ∀ k, (∀ y0 y1 y2, LeO (laws_eqFracS.l0 k y0 y1 y2) (laws_eqFracS.l0 (k + 1) y0 y1 y2))
 | 0 => fun _ _ _ r h => by simp [laws_eqFracS.l0] at h
 | k + 1 => by
  have ih0 := laws_eqFracS.mono_l k
  ·intro y0 y1 y2
   unfold laws_eqFracS.l0
   repeat' first
   | (with_reducible exact ih0 _ _ _)
   | (with_reducible exact LeO.refl _)
   | (with_reducible exact LeO.none _)
   | (with_reducible refine LeO.ite ?_ ?_)
   | (with_reducible refine LeO.bind ?_ (fun _ => ?_))
   | exact ih0 _ _ _
   | exact LeO.none _
   | refine LeO.ite ?_ ?_
   | refine LeO.bind ?_ (fun _ => ?_)
theorem laws_eqFracS.mono : ∀ a0 a1 k, LeO (laws_eqFracS.f k a0 a1) (laws_eqFracS.f (k + 1) a0 a1) := by
 intro a0 a1 k
 have ih0 := laws_eqFracS.mono_l k
 unfold laws_eqFracS.f
 repeat' first
   | (with_reducible exact ih0 _ _ _)
   | (with_reducible exact LeO.refl _)
   | (with_reducible exact LeO.none _)
   | (with_reducible refine LeO.ite ?_ ?_)
   | (with_reducible refine LeO.bind ?_ (fun _ => ?_))
   | exact ih0 _ _ _
   | exact LeO.none _
   | refine LeO.ite ?_ ?_
   | refine LeO.bind ?_ (fun _ => ?_)
def laws_eqFracS.T6 : Bool × List (List Nat × List Nat) := (true, [([], []), ([], []), ([0, 1], [0, 1]), ([2], [2]), ([], []), ([], []), ([4, 5], [4, 5]), ([6], [6]), ([3, 7], [3, 7]), ([8], [8])])
def laws_eqFracS.B6 : List Nat := [0, 0, 3, 7, 0, 0, 48, 112, 255, 511]
theorem laws_eqFracS.tab6 : rtab .any (opsOf Try.f49 6) = laws_eqFracS.T6 := by kernel_rfl
theorem laws_eqFracS.bits6 : waitsOk laws_eqFracS.T6.2 laws_eqFracS.B6 = true := by kernel_rfl
theorem laws_eqFracS.calls (k : Nat) (A0 : Option Addr) (c0 : Nat) (l0 : List (S65)) (A1 : Option Addr) (c1 : Nat) (l1 : List (S65)) (r : Bool) (w : World) (hr0 : Kd.C k65 w A0 l0.length l0) (hc0 : l0.length ≤ c0) (hr1 : Kd.C k65 w A1 l1.length l1) (hc1 : l1.length ≤ c1) (h : laws_eqFracS.f k l0 l1 = some r) :
  Calls Try.prog 49 #[.slice A0 l0.length c0, .slice A1 l1.length c1] w fun e w' => e = .returned (.bool r) ∧ Below w.heap.size w w' := by
 have hu65 := Try.underlying65
 have HR0 := Aside0.mk hr0
 have HC0 := Aside0.mk hc0
 clear hr0 hc0
 have HR1 := Aside0.mk hr1
 have HC1 := Aside0.mk hc1
 clear hr1 hc1
 have HB := Aside0.mk (Below.refl w.heap.size w)
 have H : (if (l0.length : Int) = (l1.length : Int) then (laws_eqFracS.l0 k l0 l1 0) else (some false)) = some r := h
 clear h
 by_cases c3 : (l0.length : Int) = (l1.length : Int)
 ·rw [if_pos c3] at H
  have c3b0 : ((l0.length : Int) == (l1.length : Int)) = true := beq_iff_eq.mpr c3
  have c3b1 : ((l0.length : Int) != (l1.length : Int)) = false := bne_eq_false_iff_eq.mpr c3
  have c3b2 : (l0.length == l1.length) = true := by first | simpa using c3 | (simp at c3 ⊢; omega)
  clear c3
  have H' := Aside0.mk H
  clear H
  go_enter Try.func49, Try.ntmps49
  go_wp2
  go_loopg [5] k (fun kq v5 w' => ∃ (x5_1 : Int), v5 = .int .i64 x5_1 ∧ Aside0 (laws_eqFracS.l0 kq l0 l1 x5_1 = some r) ∧ Aside0 (kq ≤ k) ∧ Aside0 (Below w.heap.size w w'))
  case atStart => exact ⟨(0), (by first | rfl | (simp; done) | (simp [*]; done)), H', ⟨Nat.le_refl _⟩, ⟨by repeat (first | (with_reducible first | exact HB.out | apply below_alloc | apply pw_below_drewN | apply below_drew1) | exact HB.out)⟩⟩
  case round =>
   clear H'
   try clear c1
   try clear p2
   try clear c3
   try clear c3b0
   try clear c3b1
   try clear c3b2
   obtain ⟨x5_1, rfl, HA, HK1, HB⟩ := hrel
   cases gk with
   | zero => exact absurd HA.out (by simp [laws_eqFracS.l0])
   | succ k1 =>
    have H := HA.out
    clear HA
    simp only [laws_eqFracS.l0] at H
    by_cases c4 : x5_1 < (l0.length : Int)
    ·rw [if_pos c4] at H
     have c4b0 : decide (x5_1 < (l0.length : Int)) = true := decide_eq_true c4
     clear c4
     by_cases c5 : 0 ≤ x5_1
     ·rw [if_pos c5] at H
      have c5b0 : decide (0 ≤ x5_1) = true := decide_eq_true c5
      clear c5
      by_cases c6 : x5_1 < (l1.length : Int)
      ·rw [if_pos c6] at H
       have c6b0 : decide (x5_1 < (l1.length : Int)) = true := decide_eq_true c6
       clear c6
       replace H := Option.bind_eq_some_iff.mp H
       obtain ⟨t188, A70, H⟩ := H
       replace H : (if t188 = true then (laws_eqFracS.l0 k1 l0 l1 (wrap64 (x5_1 + 1))) else (some false)) = some r := H
       have A7 := Aside0.mk A70
       clear A70
       by_cases c8 : t188 = true
       ·subst c8
        have H1 : (laws_eqFracS.l0 k1 l0 l1 (wrap64 (x5_1 + 1))) = some r := by rw [if_pos rfl] at H; exact H
        clear H
        have H := H1
        clear H1
        have H' := Aside0.mk H
        clear H
        try go_wp2
        have n0_ := Aside0.mk (below_drew1 HB.out)
        clear HB
        have HB := n0_
        clear n0_
        have p186 : 0 ≤ (x5_1 : Int) := of_decide_eq_true (by first | (with_reducible assumption) | assumption)
        have q186 : x5_1 < (l0.length : Int) := of_decide_eq_true (by first | (with_reducible assumption) | assumption)
        obtain ⟨ad186, e186, hx186_0, hx186_1⟩ := at_T65 HR0.out x5_1 p186 q186
        have hw186_1 := hx186_1
        have hw186_0 := hx186_0
        cases e186
        replace hx186_0 := (HB.out.cell (World.block_lt_of_cell? w _ hx186_0)).trans hx186_0
        replace hx186_1 := (HB.out.cell (World.block_lt_of_cell? w _ hx186_1)).trans hx186_1
        replace p186 := eq_true p186
        replace q186 := eq_true q186
        have p187 : 0 ≤ (x5_1 : Int) := of_decide_eq_true (by first | (with_reducible assumption) | assumption)
        have q187 : x5_1 < (l1.length : Int) := of_decide_eq_true (by first | (with_reducible assumption) | assumption)
        obtain ⟨ad187, e187, hx187_0, hx187_1⟩ := at_T65 HR1.out x5_1 p187 q187
        have hw187_1 := hx187_1
        have hw187_0 := hx187_0
        cases e187
        replace hx187_0 := (HB.out.cell (World.block_lt_of_cell? w _ hx187_0)).trans hx187_0
        replace hx187_1 := (HB.out.cell (World.block_lt_of_cell? w _ hx187_1)).trans hx187_1
        replace p187 := eq_true p187
        replace q187 := eq_true q187
        refine start_ (n := 10) (S := fun w' => w'.cell? (ad186.add ((x5_1).toNat * 2)) = some (.int .i64 ((rd_T65 l0 x5_1).f0)) ∧ w'.cell? ⟨(ad186.add ((x5_1).toNat * 2)).block, (ad186.add ((x5_1).toNat * 2)).off + 1, none⟩ = some (.int .i64 ((rd_T65 l0 x5_1).f1)) ∧ w'.cell? (ad187.add ((x5_1).toNat * 2)) = some (.int .i64 ((rd_T65 l1 x5_1).f0)) ∧ w'.cell? ⟨(ad187.add ((x5_1).toNat * 2)).block, (ad187.add ((x5_1).toNat * 2)).off + 1, none⟩ = some (.int .i64 ((rd_T65 l1 x5_1).f1))) (ds := []) #[false, false, false, false, false, false, false, false, false, false] (by kernel_rfl) rfl rfl ⟨((HB.out.cell (World.block_lt_of_cell? w _ hw186_0)).trans hw186_0), ((HB.out.cell (World.block_lt_of_cell? w _ hw186_1)).trans hw186_1), ((HB.out.cell (World.block_lt_of_cell? w _ hw187_0)).trans hw187_0), ((HB.out.cell (World.block_lt_of_cell? w _ hw187_1)).trans hw187_1)⟩ (fun hHeld => ?_); refine with_tabW laws_eqFracS.tab6 laws_eqFracS.bits6 (fun HT_ HW_ => ?_)
        generalize wr.drew = w9 at HB hx186_0 hx186_1 hx187_0 hx187_1 hHeld ⊢
        refine pure_ (i := 0) (N := some 17) (v := ?_) (a' := ?_) #[true, false, false, false, false, false, false, false, false, false] rfl rfl (any_of HT_.out (by kernel_rfl)) (fun _ _ _ h => h) (Or.inl ⟨by rfl, ?_⟩) ?_ ?_
        rotate_left
        ·intro w'
         go_simp
         with_reducible rfl
        rotate_left
        ·simp only [Act.put, List.setIfInBounds_toArray, List.set_cons_zero, List.set_cons_succ, i64_w, i32_w]
         rfl
        refine pure_ (i := 1) (N := some 18) (v := ?_) (a' := ?_) #[true, true, false, false, false, false, false, false, false, false] rfl rfl (any_of HT_.out (by kernel_rfl)) (fun _ _ _ h => h) (Or.inl ⟨by rfl, ?_⟩) ?_ ?_
        rotate_left
        ·intro w'
         go_simp
         with_reducible rfl
        rotate_left
        ·simp only [Act.put, List.setIfInBounds_toArray, List.set_cons_zero, List.set_cons_succ, i64_w, i32_w]
         rfl
        refine pure_ (i := 2) (N := some 19) (v := ?_) (a' := ?_) #[true, true, true, false, false, false, false, false, false, false] rfl rfl (any_of HT_.out (by kernel_rfl)) (fun _ _ _ h => h) (Or.inl ⟨by rfl, ?_⟩) ?_ ?_
        rotate_left
        ·intro w'
         go_simp
         with_reducible rfl
        rotate_left
        ·simp only [Act.put, List.setIfInBounds_toArray, List.set_cons_zero, List.set_cons_succ, i64_w, i32_w]
         rfl
        refine pure_ (i := 4) (N := some 21) (v := ?_) (a' := ?_) #[true, true, true, false, true, false, false, false, false, false] rfl rfl (any_of HT_.out (by kernel_rfl)) (fun _ _ _ h => h) (Or.inl ⟨by rfl, ?_⟩) ?_ ?_
        rotate_left
        ·intro w'
         go_simp
         with_reducible rfl
        rotate_left
        ·simp only [Act.put, List.setIfInBounds_toArray, List.set_cons_zero, List.set_cons_succ, i64_w, i32_w]
         rfl
        refine pure_ (i := 5) (N := some 22) (v := ?_) (a' := ?_) #[true, true, true, false, true, true, false, false, false, false] rfl rfl (any_of HT_.out (by kernel_rfl)) (fun _ _ _ h => h) (Or.inl ⟨by rfl, ?_⟩) ?_ ?_
        rotate_left
        ·intro w'
         go_simp
         with_reducible rfl
        rotate_left
        ·simp only [Act.put, List.setIfInBounds_toArray, List.set_cons_zero, List.set_cons_succ, i64_w, i32_w]
         rfl
        refine pure_ (i := 6) (N := some 23) (v := ?_) (a' := ?_) #[true, true, true, false, true, true, true, false, false, false] rfl rfl (any_of HT_.out (by kernel_rfl)) (fun _ _ _ h => h) (Or.inl ⟨by rfl, ?_⟩) ?_ ?_
        rotate_left
        ·intro w'
         go_simp
         with_reducible rfl
        rotate_left
        ·simp only [Act.put, List.setIfInBounds_toArray, List.set_cons_zero, List.set_cons_succ, i64_w, i32_w]
         rfl
        refine take_ (i := 3) (N := some 20) (v := ?_) (a' := ?_) #[true, true, true, true, true, true, true, false, false, false] rfl rfl (take_ofW HT_.out HW_.out (by kernel_rfl)) (fun _ _ _ h => h) (Or.inl ⟨by rfl, ?_⟩) hHeld ?_ ?_
        rotate_left
        ·rintro w' ⟨s0, s1, s2, s3⟩
         go_simp
         with_reducible rfl
        rotate_left
        ·simp only [Act.put, List.setIfInBounds_toArray, List.set_cons_zero, List.set_cons_succ, i64_w, i32_w]
         rfl
        refine take_ (i := 7) (N := some 24) (v := ?_) (a' := ?_) #[true, true, true, true, true, true, true, true, false, false] rfl rfl (take_ofW HT_.out HW_.out (by kernel_rfl)) (fun _ _ _ h => h) (Or.inl ⟨by rfl, ?_⟩) hHeld ?_ ?_
        rotate_left
        ·rintro w' ⟨s0, s1, s2, s3⟩
         go_simp
         with_reducible rfl
        rotate_left
        ·simp only [Act.put, List.setIfInBounds_toArray, List.set_cons_zero, List.set_cons_succ, i64_w, i32_w]
         rfl
        refine one_ (i := 8) (N := some 25) #[true, true, true, true, true, true, true, true, true, false] rfl rfl (one_of HT_.out (by kernel_rfl)) (by decide) (fun K hK => ?_)
        refine goes_ Try.func48 (by kernel_rfl) rfl #[.agg #[.int .i64 ((rd_T65 l0 x5_1).f0), .int .i64 ((rd_T65 l0 x5_1).f1)], .agg #[.int .i64 ((rd_T65 l1 x5_1).f0), .int .i64 ((rd_T65 l1 x5_1).f1)]] (by rfl) rfl rfl (by (try simp only [List.map_toArray, List.map_cons, List.map_nil]); first | done | rfl | (simp only [List.length_drop, List.length_take]; rfl)) ?_
        with_reducible refine (laws_eqFrac.calls ((rd_T65 l0 x5_1).f0) ((rd_T65 l0 x5_1).f1) ((rd_T65 l1 x5_1).f0) ((rd_T65 l1 x5_1).f1) true _ A7.out).mono ?_
        rintro e w10 ⟨rfl, hb⟩
        refine ⟨_, rfl, ?_⟩
        have n0_ := Aside0.mk (below_step (by repeat (first | (with_reducible first | exact HB.out | apply below_alloc | apply pw_below_drewN | apply below_drew1) | exact HB.out)) hb)
        clear HB
        have HB := n0_
        clear n0_
        (try clear hb)
        (try clear hb2)
        (try clear hk)
        (try clear hi)
        refine hK.out _ _ ⟨((HB.out.cell (World.block_lt_of_cell? w _ hw186_0)).trans hw186_0), ((HB.out.cell (World.block_lt_of_cell? w _ hw186_1)).trans hw186_1), ((HB.out.cell (World.block_lt_of_cell? w _ hw187_0)).trans hw187_0), ((HB.out.cell (World.block_lt_of_cell? w _ hw187_1)).trans hw187_1)⟩ (fun hHeld => ?_)
        clear hK K
        refine norm_ (a' := ?_) ?_ ?_
        rotate_left
        ·show Act.put _ (some 25) _ = _
         simp only [Act.put, List.setIfInBounds_toArray, List.set_cons_zero, List.set_cons_succ, i64_w, i32_w]
         rfl
        refine pure_ (i := 9) (N := some 26) (v := ?_) (a' := ?_) #[true, true, true, true, true, true, true, true, true, true] rfl rfl (any_of HT_.out (by kernel_rfl)) (fun _ _ _ h => h) (Or.inl ⟨by rfl, ?_⟩) ?_ ?_
        rotate_left
        ·intro w'
         go_simp
         with_reducible rfl
        rotate_left
        ·simp only [Act.put, List.setIfInBounds_toArray, List.set_cons_zero, List.set_cons_succ, i64_w, i32_w]
         rfl
        refine done_ (done_of HT_.out (by kernel_rfl)) ?_
        try go_wp2
        go_roundg k1
        case measure => have := HK1.out; omega
        case rel => exact ⟨(wrap64 (x5_1 + 1)), (by first | rfl | (simp; done) | (simp [*]; done)), H', ⟨by have := HK1.out; omega⟩, ⟨by repeat (first | (with_reducible first | exact HB.out | apply below_alloc | apply pw_below_drewN | apply below_drew1) | exact HB.out)⟩⟩
       ·replace c8 := Bool.eq_false_iff.mpr c8
        subst c8
        have H1 : (some false) = some r := by rw [if_neg (show ¬ (false = true) by decide)] at H; exact H
        clear H
        have H := H1
        clear H1
        obtain rfl := Option.some.inj H
        try go_wp2
        have n0_ := Aside0.mk (below_drew1 HB.out)
        clear HB
        have HB := n0_
        clear n0_
        have p186 : 0 ≤ (x5_1 : Int) := of_decide_eq_true (by first | (with_reducible assumption) | assumption)
        have q186 : x5_1 < (l0.length : Int) := of_decide_eq_true (by first | (with_reducible assumption) | assumption)
        obtain ⟨ad186, e186, hx186_0, hx186_1⟩ := at_T65 HR0.out x5_1 p186 q186
        have hw186_1 := hx186_1
        have hw186_0 := hx186_0
        cases e186
        replace hx186_0 := (HB.out.cell (World.block_lt_of_cell? w _ hx186_0)).trans hx186_0
        replace hx186_1 := (HB.out.cell (World.block_lt_of_cell? w _ hx186_1)).trans hx186_1
        replace p186 := eq_true p186
        replace q186 := eq_true q186
        have p187 : 0 ≤ (x5_1 : Int) := of_decide_eq_true (by first | (with_reducible assumption) | assumption)
        have q187 : x5_1 < (l1.length : Int) := of_decide_eq_true (by first | (with_reducible assumption) | assumption)
        obtain ⟨ad187, e187, hx187_0, hx187_1⟩ := at_T65 HR1.out x5_1 p187 q187
        have hw187_1 := hx187_1
        have hw187_0 := hx187_0
        cases e187
        replace hx187_0 := (HB.out.cell (World.block_lt_of_cell? w _ hx187_0)).trans hx187_0
        replace hx187_1 := (HB.out.cell (World.block_lt_of_cell? w _ hx187_1)).trans hx187_1
        replace p187 := eq_true p187
        replace q187 := eq_true q187
        refine start_ (n := 10) (S := fun w' => w'.cell? (ad186.add ((x5_1).toNat * 2)) = some (.int .i64 ((rd_T65 l0 x5_1).f0)) ∧ w'.cell? ⟨(ad186.add ((x5_1).toNat * 2)).block, (ad186.add ((x5_1).toNat * 2)).off + 1, none⟩ = some (.int .i64 ((rd_T65 l0 x5_1).f1)) ∧ w'.cell? (ad187.add ((x5_1).toNat * 2)) = some (.int .i64 ((rd_T65 l1 x5_1).f0)) ∧ w'.cell? ⟨(ad187.add ((x5_1).toNat * 2)).block, (ad187.add ((x5_1).toNat * 2)).off + 1, none⟩ = some (.int .i64 ((rd_T65 l1 x5_1).f1))) (ds := []) #[false, false, false, false, false, false, false, false, false, false] (by kernel_rfl) rfl rfl ⟨((HB.out.cell (World.block_lt_of_cell? w _ hw186_0)).trans hw186_0), ((HB.out.cell (World.block_lt_of_cell? w _ hw186_1)).trans hw186_1), ((HB.out.cell (World.block_lt_of_cell? w _ hw187_0)).trans hw187_0), ((HB.out.cell (World.block_lt_of_cell? w _ hw187_1)).trans hw187_1)⟩ (fun hHeld => ?_); refine with_tabW laws_eqFracS.tab6 laws_eqFracS.bits6 (fun HT_ HW_ => ?_)
        generalize wr.drew = w11 at HB hx186_0 hx186_1 hx187_0 hx187_1 hHeld ⊢
        refine pure_ (i := 0) (N := some 17) (v := ?_) (a' := ?_) #[true, false, false, false, false, false, false, false, false, false] rfl rfl (any_of HT_.out (by kernel_rfl)) (fun _ _ _ h => h) (Or.inl ⟨by rfl, ?_⟩) ?_ ?_
        rotate_left
        ·intro w'
         go_simp
         with_reducible rfl
        rotate_left
        ·simp only [Act.put, List.setIfInBounds_toArray, List.set_cons_zero, List.set_cons_succ, i64_w, i32_w]
         rfl
        refine pure_ (i := 1) (N := some 18) (v := ?_) (a' := ?_) #[true, true, false, false, false, false, false, false, false, false] rfl rfl (any_of HT_.out (by kernel_rfl)) (fun _ _ _ h => h) (Or.inl ⟨by rfl, ?_⟩) ?_ ?_
        rotate_left
        ·intro w'
         go_simp
         with_reducible rfl
        rotate_left
        ·simp only [Act.put, List.setIfInBounds_toArray, List.set_cons_zero, List.set_cons_succ, i64_w, i32_w]
         rfl
        refine pure_ (i := 2) (N := some 19) (v := ?_) (a' := ?_) #[true, true, true, false, false, false, false, false, false, false] rfl rfl (any_of HT_.out (by kernel_rfl)) (fun _ _ _ h => h) (Or.inl ⟨by rfl, ?_⟩) ?_ ?_
        rotate_left
        ·intro w'
         go_simp
         with_reducible rfl
        rotate_left
        ·simp only [Act.put, List.setIfInBounds_toArray, List.set_cons_zero, List.set_cons_succ, i64_w, i32_w]
         rfl
        refine pure_ (i := 4) (N := some 21) (v := ?_) (a' := ?_) #[true, true, true, false, true, false, false, false, false, false] rfl rfl (any_of HT_.out (by kernel_rfl)) (fun _ _ _ h => h) (Or.inl ⟨by rfl, ?_⟩) ?_ ?_
        rotate_left
        ·intro w'
         go_simp
         with_reducible rfl
        rotate_left
        ·simp only [Act.put, List.setIfInBounds_toArray, List.set_cons_zero, List.set_cons_succ, i64_w, i32_w]
         rfl
        refine pure_ (i := 5) (N := some 22) (v := ?_) (a' := ?_) #[true, true, true, false, true, true, false, false, false, false] rfl rfl (any_of HT_.out (by kernel_rfl)) (fun _ _ _ h => h) (Or.inl ⟨by rfl, ?_⟩) ?_ ?_
        rotate_left
        ·intro w'
         go_simp
         with_reducible rfl
        rotate_left
        ·simp only [Act.put, List.setIfInBounds_toArray, List.set_cons_zero, List.set_cons_succ, i64_w, i32_w]
         rfl
        refine pure_ (i := 6) (N := some 23) (v := ?_) (a' := ?_) #[true, true, true, false, true, true, true, false, false, false] rfl rfl (any_of HT_.out (by kernel_rfl)) (fun _ _ _ h => h) (Or.inl ⟨by rfl, ?_⟩) ?_ ?_
        rotate_left
        ·intro w'
         go_simp
         with_reducible rfl
        rotate_left
        ·simp only [Act.put, List.setIfInBounds_toArray, List.set_cons_zero, List.set_cons_succ, i64_w, i32_w]
         rfl
        refine take_ (i := 3) (N := some 20) (v := ?_) (a' := ?_) #[true, true, true, true, true, true, true, false, false, false] rfl rfl (take_ofW HT_.out HW_.out (by kernel_rfl)) (fun _ _ _ h => h) (Or.inl ⟨by rfl, ?_⟩) hHeld ?_ ?_
        rotate_left
        ·rintro w' ⟨s0, s1, s2, s3⟩
         go_simp
         with_reducible rfl
        rotate_left
        ·simp only [Act.put, List.setIfInBounds_toArray, List.set_cons_zero, List.set_cons_succ, i64_w, i32_w]
         rfl
        refine take_ (i := 7) (N := some 24) (v := ?_) (a' := ?_) #[true, true, true, true, true, true, true, true, false, false] rfl rfl (take_ofW HT_.out HW_.out (by kernel_rfl)) (fun _ _ _ h => h) (Or.inl ⟨by rfl, ?_⟩) hHeld ?_ ?_
        rotate_left
        ·rintro w' ⟨s0, s1, s2, s3⟩
         go_simp
         with_reducible rfl
        rotate_left
        ·simp only [Act.put, List.setIfInBounds_toArray, List.set_cons_zero, List.set_cons_succ, i64_w, i32_w]
         rfl
        refine one_ (i := 8) (N := some 25) #[true, true, true, true, true, true, true, true, true, false] rfl rfl (one_of HT_.out (by kernel_rfl)) (by decide) (fun K hK => ?_)
        refine goes_ Try.func48 (by kernel_rfl) rfl #[.agg #[.int .i64 ((rd_T65 l0 x5_1).f0), .int .i64 ((rd_T65 l0 x5_1).f1)], .agg #[.int .i64 ((rd_T65 l1 x5_1).f0), .int .i64 ((rd_T65 l1 x5_1).f1)]] (by rfl) rfl rfl (by (try simp only [List.map_toArray, List.map_cons, List.map_nil]); first | done | rfl | (simp only [List.length_drop, List.length_take]; rfl)) ?_
        with_reducible refine (laws_eqFrac.calls ((rd_T65 l0 x5_1).f0) ((rd_T65 l0 x5_1).f1) ((rd_T65 l1 x5_1).f0) ((rd_T65 l1 x5_1).f1) false _ A7.out).mono ?_
        rintro e w12 ⟨rfl, hb⟩
        refine ⟨_, rfl, ?_⟩
        have n0_ := Aside0.mk (below_step (by repeat (first | (with_reducible first | exact HB.out | apply below_alloc | apply pw_below_drewN | apply below_drew1) | exact HB.out)) hb)
        clear HB
        have HB := n0_
        clear n0_
        (try clear hb)
        (try clear hb2)
        (try clear hk)
        (try clear hi)
        refine hK.out _ _ ⟨((HB.out.cell (World.block_lt_of_cell? w _ hw186_0)).trans hw186_0), ((HB.out.cell (World.block_lt_of_cell? w _ hw186_1)).trans hw186_1), ((HB.out.cell (World.block_lt_of_cell? w _ hw187_0)).trans hw187_0), ((HB.out.cell (World.block_lt_of_cell? w _ hw187_1)).trans hw187_1)⟩ (fun hHeld => ?_)
        clear hK K
        refine norm_ (a' := ?_) ?_ ?_
        rotate_left
        ·show Act.put _ (some 25) _ = _
         simp only [Act.put, List.setIfInBounds_toArray, List.set_cons_zero, List.set_cons_succ, i64_w, i32_w]
         rfl
        refine pure_ (i := 9) (N := some 26) (v := ?_) (a' := ?_) #[true, true, true, true, true, true, true, true, true, true] rfl rfl (any_of HT_.out (by kernel_rfl)) (fun _ _ _ h => h) (Or.inl ⟨by rfl, ?_⟩) ?_ ?_
        rotate_left
        ·intro w'
         go_simp
         with_reducible rfl
        rotate_left
        ·simp only [Act.put, List.setIfInBounds_toArray, List.set_cons_zero, List.set_cons_succ, i64_w, i32_w]
         rfl
        refine done_ (done_of HT_.out (by kernel_rfl)) ?_
        try go_wp2
        go_ret
        exact ⟨by first | rfl | (simp [errW_none, errW_some] <;> rfl) | (simp [*, errW_none, errW_some] <;> rfl), by repeat (first | (with_reducible first | exact HB.out | apply below_alloc | apply pw_below_drewN | apply below_drew1) | exact HB.out)⟩
      ·rw [if_neg c6] at H
       exact absurd H (by simp)
     ·rw [if_neg c5] at H
      exact absurd H (by simp)
    ·rw [if_neg c4] at H
     have c4b0 : decide (x5_1 < (l0.length : Int)) = false := decide_eq_false c4
     clear c4
     obtain rfl := Option.some.inj H
     go_wp2
     go_ret
     exact ⟨by first | rfl | (simp [errW_none, errW_some] <;> rfl) | (simp [*, errW_none, errW_some] <;> rfl), by repeat (first | (with_reducible first | exact HB.out | apply below_alloc | apply pw_below_drewN | apply below_drew1) | exact HB.out)⟩
 ·rw [if_neg c3] at H
  have c3b0 : ((l0.length : Int) == (l1.length : Int)) = false := beq_eq_false_iff_ne.mpr c3
  have c3b1 : ((l0.length : Int) != (l1.length : Int)) = true := bne_iff_ne.mpr c3
  have c3b2 : (l0.length == l1.length) = false := by first | simpa using c3 | (simp at c3 ⊢; omega)
  obtain rfl := Option.some.inj H
  go_enter Try.func49, Try.ntmps49
  go_wp2
  go_ret
  exact ⟨by first | rfl | (simp [errW_none, errW_some] <;> rfl) | (simp [*, errW_none, errW_some] <;> rfl), by repeat (first | (with_reducible first | exact HB.out | apply below_alloc | apply pw_below_drewN | apply below_drew1) | exact HB.out)⟩
end Go.Proofs.Ytjjbhdpjnjncbaa.Pr
end
section
namespace Go.Proofs.Ytjjbhdpjnjncbaa.La
open Go.RowKit Go.Proofs.YtjjbhdpjnjncbaaW.PrintWords Go.Proofs.YtjjbhdpjnjncbaaW.PrintMore Go.Proofs.Ytjjbhdpjnjncbaa.Ma Go.Proofs.Ytjjbhdpjnjncbaa.Pr Go.Proofs.Ytjjbhdpjnjncbaa.Op
def cv (x : S120) : S65 := ⟨x.f0, x.f1⟩
theorem szF {l : List S120} {n : Int} (h0 : 0 ≤ n) (h1 : n ≤ 1048576) (hl : l.length ≤ maxLen) : laws_szFracS.f l n = some (if n < l.length then (-1 : Int) else n - (l.length : Int)) := by
 unfold maxLen at hl
 unfold laws_szFracS.f
 rw [w64 (by omega) (by omega)]
 by_cases c : n < (l.length : Int)
 ·rw [if_pos c, if_pos (by omega)]
 ·rw [if_neg c, if_neg (by omega)]
theorem toF (l : List S120) (hl : l.length ≤ 1048576) : Ev (fun k => laws_toFracS.f k l) (l.map cv) := by
 have key : ∀ (m i : Nat), i + m = l.length → Ev (fun k => laws_toFracS.l0 k l ((l.take i).map cv ++ List.replicate m z65) i) (l.map cv) := by
  intro m
  induction m with
  | zero =>
   intro i hi
   refine evstep (fun k => by rw [laws_toFracS.l0]) (evneg (by omega) (evc ?_))
   rw [List.take_of_length_le (by omega)]; simp
  | succ m ih =>
   intro i hi
   have hlt : i < l.length := by omega
   refine evstep (fun k => by rw [laws_toFracS.l0]) (evpos (by omega) (evpos (by omega) ?_))
   unfold laws_toFrac.f
   refine evsome rfl (evpos (by simp; omega) ?_)
   rw [w64 (by omega) (by omega), Int.toNat_natCast]
   have e0 : rd_T120 l (i : Int) = l[i] := by simp [rd_T120, hlt]
   rw [e0]
   have hlen : ((l.take i).map cv).length = i := by simp; omega
   have e : ((l.take i).map cv ++ List.replicate (m + 1) z65).set i (⟨l[i].f0, l[i].f1⟩ : S65) = (l.take (i + 1)).map cv ++ List.replicate m z65 := by
    have h2 := set_append_nat ((l.take i).map cv) (List.replicate m z65) (cv l[i]) z65
    rw [hlen] at h2
    rw [List.replicate_succ, show (⟨l[i].f0, l[i].f1⟩ : S65) = cv l[i] from rfl, h2, List.take_succ_eq_append_getElem hlt, List.map_append, List.append_assoc]
    rfl
   rw [e]
   exact ih (i + 1) (by omega)
 unfold laws_toFracS.f
 refine evpos (by omega) (evpos (by omega) ?_)
 have := key l.length 0 (by omega)
 simpa using this
theorem eqF (l : List S65) (hl : l.length ≤ 1048576) : Ev (fun k => laws_eqFracS.f k l l) true := by
 have key : ∀ (m i : Nat), i + m = l.length → Ev (fun k => laws_eqFracS.l0 k l l i) true := by
  intro m
  induction m with
  | zero =>
   intro i hi
   exact evstep (fun k => by rw [laws_eqFracS.l0]) (evneg (by omega) (evc rfl))
  | succ m ih =>
   intro i hi
   refine evstep (fun k => by rw [laws_eqFracS.l0]) (evpos (by omega) (evpos (by omega) (evpos (by omega) ?_)))
   unfold laws_eqFrac.f
   refine evsome (a := true) (by simp) (evpos rfl ?_)
   rw [w64 (by omega) (by omega)]
   exact ih (i + 1) (by omega)
 unfold laws_eqFracS.f
 exact evpos rfl (key l.length 0 (by omega))
end Go.Proofs.Ytjjbhdpjnjncbaa.La
end
section
namespace Go.Proofs.Ytjjbhdpjnjncbaa.Pr
open Go.RowKit Go.Proofs.YtjjbhdpjnjncbaaW.PrintWords Go.Proofs.YtjjbhdpjnjncbaaW.PrintLast Go.Proofs.YtjjbhdpjnjncbaaW.PrintMore Go.Proofs.Ytjjbhdpjnjncbaa.La Go.Proofs.Ytjjbhdpjnjncbaa.Hm Go.Proofs.Ytjjbhdpjnjncbaa.Lw
theorem laws_toGame.walk2 (k : Nat) (A0_0 : Option Addr) (c0_0 : Nat) (l0_0 : List (List Int)) (A0_1 : Option Addr) (c0_1 : Nat) (l0_1 : List (List Int))  (w : World) (hr0_0 : Kd.C (Kd.slice 2 (Kd.int .i64)) w A0_0 l0_0.length l0_0) (hc0_0 : l0_0.length ≤ c0_0) (hr0_1 : Kd.C (Kd.slice 2 (Kd.int .i64)) w A0_1 l0_1.length l0_1) (hc0_1 : l0_1.length ≤ c0_1) (h1 : laws_toInt64SS.f k l0_0 = some l0_0) (h2 : laws_toInt64SS.f k l0_1 = some l0_1) :
  Calls Try.prog 17 #[.agg #[.slice A0_0 l0_0.length c0_0, .slice A0_1 l0_1.length c0_1]] w fun e w' => ∃ v0_ v1_ : Value, e = .returned (.agg #[v0_, v1_]) ∧ UG w w' w.heap.size w'.heap.size v0_ v1_ l0_0 l0_1 ∧ Below w.heap.size w w' := by
 have HR0_0 := Aside0.mk hr0_0
 have HC0_0 := Aside0.mk hc0_0
 clear hr0_0 hc0_0
 have HR0_1 := Aside0.mk hr0_1
 have HC0_1 := Aside0.mk hc0_1
 clear hr0_1 hc0_1
 have HB := Aside0.mk (Below.refl w.heap.size w)
 have H1' := Aside0.mk h1
 clear h1
 have H2' := Aside0.mk h2
 clear h2
 go_enter Try.func17, Try.ntmps17
 go_wp2_with (first | ((with_reducible refine gate_dst (N := 1) rfl ?_); refine box_event ?hg (N := 1) ?hd (cs := #[.slice A0_0 l0_0.length c0_0, .slice A0_1 l0_1.length c0_1]) (t := 24) ?hr ?_; (case hd => rfl); (case hg => rfl); (case hr => first | (go_simp; done) | (go_simp; rfl)); intro g1 hg w1 hbox hb; have Gg1 : Aside0 (g1 = w.heap.size) := ⟨hg⟩; have Kg1 := Aside0.mk (blk_lt hbox); clear hg; have n_HB := Aside0.mk (below_step HB.out hb); have NN1 : Aside0 (w.heap.size ≤ w1.heap.size) := ⟨hb.size⟩; clear HB; have HB := n_HB; clear n_HB; have Bg1 := Aside0.mk hbox; clear hb hbox) | ((with_reducible refine gate_dst (N := 2) rfl ?_); refine box_event ?hg (N := 2) ?hd (cs := #[.slice none 0 0, .slice none 0 0]) (t := 26) ?hr ?_; (case hd => rfl); (case hg => rfl); (case hr => first | (go_simp; done) | (go_simp; rfl)); intro g2 hg w2 hbox hb; have Gg2 : Aside0 (g2 = w1.heap.size) := ⟨hg⟩; have Kg2 := Aside0.mk (blk_lt hbox); clear hg; have n_Bg1 := Aside0.mk (blk_below Bg1.out hb); have n_HB := Aside0.mk (below_step HB.out hb); have NN2 : Aside0 (w1.heap.size ≤ w2.heap.size) := ⟨hb.size⟩; clear Bg1 HB; have Bg1 := n_Bg1; have HB := n_HB; clear n_Bg1 n_HB; have Bg2 := Aside0.mk hbox; clear hb hbox) | ((with_reducible refine gate_dst (N := 3) rfl ?_); refine box_event ?hg (N := 3) ?hd (cs := #[.slice none 0 0, .slice none 0 0]) (t := 26) ?hr ?_; (case hd => rfl); (case hg => rfl); (case hr => first | (go_simp; done) | (go_simp; rfl)); intro g3 hg w3 hbox hb; have Gg3 : Aside0 (g3 = w2.heap.size) := ⟨hg⟩; have Kg3 := Aside0.mk (blk_lt hbox); clear hg; have n_Bg1 := Aside0.mk (blk_below Bg1.out hb); have n_Bg2 := Aside0.mk (blk_below Bg2.out hb); have n_HB := Aside0.mk (below_step HB.out hb); have NN3 : Aside0 (w2.heap.size ≤ w3.heap.size) := ⟨hb.size⟩; clear Bg1 Bg2 HB; have Bg1 := n_Bg1; have Bg2 := n_Bg2; have HB := n_HB; clear n_Bg1 n_Bg2 n_HB; have Bg3 := Aside0.mk hbox; clear hb hbox; have hc1_0 : w3.cell? ⟨g1, 0, none⟩ = some (.slice A0_0 l0_0.length c0_0) := (blk_cell Bg1.out 0).trans rfl; have hf1_0 := blk_frozen Bg1.out 0; have hc1_1 : w3.cell? ⟨g1, 1, none⟩ = some (.slice A0_1 l0_1.length c0_1) := (blk_cell Bg1.out 1).trans rfl; have hf1_1 := blk_frozen Bg1.out 1) | ((with_reducible refine gate_callee (f := 69) rfl ?_); refine goesL_ (some 6) rfl rfl Try.func69 (by kernel_rfl) rfl #[.slice A0_0 l0_0.length c0_0] rfl (by (try simp only [List.map_toArray, List.map_cons, List.map_nil]); first | done | rfl) ?_; refine (laws_toInt64SS.calls k _ _ l0_0 l0_0 _ ?s1 ?s2 H1'.out).mono ?_; (case s1 => exact Kd.C_below HR0_0.out HB.out); (case s2 => exact HC0_0.out); rintro e w4 ⟨v6_0, rfl, ho0, hb⟩; refine ⟨_, rfl, ?_⟩; have nu0 := Aside0.mk (US.of ho0 HB.out.size); have n_Bg1 := Aside0.mk (blk_below Bg1.out hb); have n_Bg2 := Aside0.mk (blk_below Bg2.out hb); have n_Bg3 := Aside0.mk (blk_below Bg3.out hb); have n_HB := Aside0.mk (below_step HB.out hb); have NN4 : Aside0 (w3.heap.size ≤ w4.heap.size) := ⟨hb.size⟩; clear hc1_0 hf1_0; clear hc1_1 hf1_1; clear Bg1 Bg2 Bg3 HB; have Bg1 := n_Bg1; have Bg2 := n_Bg2; have Bg3 := n_Bg3; have HB := n_HB; clear n_Bg1 n_Bg2 n_Bg3 n_HB; clear hb ho0; have U6_0 := nu0; clear nu0; obtain ⟨A6_0, c6_0, e0⟩ := Kd.S_slice U6_0.out; subst e0; have hc3_0 : w4.cell? ⟨g3, 0, none⟩ = some (.slice none 0 0) := (blk_cell Bg3.out 0).trans rfl; have hf3_0 := blk_frozen Bg3.out 0; have hc3_1 : w4.cell? ⟨g3, 1, none⟩ = some (.slice none 0 0) := (blk_cell Bg3.out 1).trans rfl; have hf3_1 := blk_frozen Bg3.out 1) | ((with_reducible refine gate_store (t := 22) (p := 7) rfl ?_); refine store_event (t := 22) (p := 7) (v := ?vo_w5) (w1 := (w4.setCell ⟨g3, 0, none⟩ (.slice A6_0 l0_0.length c6_0))) ?hg ?ho ?hn ?hr ?_; (case ho => rfl); (case hg => rfl); (case hn => rfl); (case hr => first | (go_simp; done) | (go_simp; rfl)); intro w5 hw; have hge : w.heap.size ≤ g3 := (by have := NN1.out; have := Gg1.out; have := Kg1.out; have := NN2.out; have := Gg2.out; have := Kg2.out; have := NN3.out; have := Gg3.out; have := Kg3.out; have := NN4.out; have := HB.out.size; omega); have hF : Frm w4 w5 g3 (g3 + 1) := (by rw [hw]; exact Frm.set _ _ _ _); have nb := Aside0.mk (show w5.heap[g3]? = some (.cells #[.slice A6_0 l0_0.length c6_0, .slice none 0 0] 26 (0, 0)) from (by rw [hw]; exact blk_put Bg3.out 0 _ rfl)); have n_U6_0 := Aside0.mk (U6_0.out.mv hF (by have := NN1.out; have := Gg1.out; have := Kg1.out; have := NN2.out; have := Gg2.out; have := Kg2.out; have := NN3.out; have := Gg3.out; have := Kg3.out; have := NN4.out; omega)); have n_Bg1 := Aside0.mk ((hF.same g1 (blk_lt Bg1.out) (by have := NN1.out; have := Gg1.out; have := Kg1.out; have := NN2.out; have := Gg2.out; have := Kg2.out; have := NN3.out; have := Gg3.out; have := Kg3.out; have := NN4.out; omega)).trans Bg1.out); have n_Bg2 := Aside0.mk ((hF.same g2 (blk_lt Bg2.out) (by have := NN1.out; have := Gg1.out; have := Kg1.out; have := NN2.out; have := Gg2.out; have := Kg2.out; have := NN3.out; have := Gg3.out; have := Kg3.out; have := NN4.out; omega)).trans Bg2.out); have n_HB := Aside0.mk ((by rw [hw]; exact below_set HB.out hge : Below w.heap.size w w5)); have NN5 : Aside0 (w4.heap.size ≤ w5.heap.size) := ⟨hF.size⟩; clear hc3_0 hf3_0; clear hc3_1 hf3_1; clear U6_0 Bg1 Bg2 HB; have U6_0 := n_U6_0; have Bg1 := n_Bg1; have Bg2 := n_Bg2; have HB := n_HB; clear n_U6_0 n_Bg1 n_Bg2 n_HB; clear Bg3; have Bg3 := nb; clear nb hF hge hw; have hc1_0 : w5.cell? ⟨g1, 0, none⟩ = some (.slice A0_0 l0_0.length c0_0) := (blk_cell Bg1.out 0).trans rfl; have hf1_0 := blk_frozen Bg1.out 0; have hc1_1 : w5.cell? ⟨g1, 1, none⟩ = some (.slice A0_1 l0_1.length c0_1) := (blk_cell Bg1.out 1).trans rfl; have hf1_1 := blk_frozen Bg1.out 1) | ((with_reducible refine gate_callee (f := 69) rfl ?_); refine goesL_ (some 10) rfl rfl Try.func69 (by kernel_rfl) rfl #[.slice A0_1 l0_1.length c0_1] rfl (by (try simp only [List.map_toArray, List.map_cons, List.map_nil]); first | done | rfl) ?_; refine (laws_toInt64SS.calls k _ _ l0_1 l0_1 _ ?s1 ?s2 H2'.out).mono ?_; (case s1 => exact Kd.C_below HR0_1.out HB.out); (case s2 => exact HC0_1.out); rintro e w6 ⟨v10_0, rfl, ho0, hb⟩; refine ⟨_, rfl, ?_⟩; have nu0 := Aside0.mk (US.of ho0 HB.out.size); have n_U6_0 := Aside0.mk (U6_0.out.mvB (Frm.below hb)); have n_Bg1 := Aside0.mk (blk_below Bg1.out hb); have n_Bg2 := Aside0.mk (blk_below Bg2.out hb); have n_Bg3 := Aside0.mk (blk_below Bg3.out hb); have n_HB := Aside0.mk (below_step HB.out hb); have NN6 : Aside0 (w5.heap.size ≤ w6.heap.size) := ⟨hb.size⟩; clear hc1_0 hf1_0; clear hc1_1 hf1_1; clear U6_0 Bg1 Bg2 Bg3 HB; have U6_0 := n_U6_0; have Bg1 := n_Bg1; have Bg2 := n_Bg2; have Bg3 := n_Bg3; have HB := n_HB; clear n_U6_0 n_Bg1 n_Bg2 n_Bg3 n_HB; clear hb ho0; have U10_0 := nu0; clear nu0; obtain ⟨A10_0, c10_0, e0⟩ := Kd.S_slice U10_0.out; subst e0; have hc3_0 : w6.cell? ⟨g3, 0, none⟩ = some (.slice A6_0 l0_0.length c6_0) := (blk_cell Bg3.out 0).trans rfl; have hf3_0 := blk_frozen Bg3.out 0; have hc3_1 : w6.cell? ⟨g3, 1, none⟩ = some (.slice none 0 0) := (blk_cell Bg3.out 1).trans rfl; have hf3_1 := blk_frozen Bg3.out 1) | ((with_reducible refine gate_store (t := 22) (p := 11) rfl ?_); refine store_event (t := 22) (p := 11) (v := ?vo_w7) (w1 := (w6.setCell ⟨g3, 1, none⟩ (.slice A10_0 l0_1.length c10_0))) ?hg ?ho ?hn ?hr ?_; (case ho => rfl); (case hg => rfl); (case hn => rfl); (case hr => first | (go_simp; done) | (go_simp; rfl)); intro w7 hw; have hge : w.heap.size ≤ g3 := (by have := NN1.out; have := Gg1.out; have := Kg1.out; have := NN2.out; have := Gg2.out; have := Kg2.out; have := NN3.out; have := Gg3.out; have := Kg3.out; have := NN4.out; have := NN5.out; have := NN6.out; have := HB.out.size; omega); have hF : Frm w6 w7 g3 (g3 + 1) := (by rw [hw]; exact Frm.set _ _ _ _); have nb := Aside0.mk (show w7.heap[g3]? = some (.cells #[.slice A6_0 l0_0.length c6_0, .slice A10_0 l0_1.length c10_0] 26 (0, 0)) from (by rw [hw]; exact blk_put Bg3.out 1 _ rfl)); have n_U6_0 := Aside0.mk (U6_0.out.mv hF (by have := NN1.out; have := Gg1.out; have := Kg1.out; have := NN2.out; have := Gg2.out; have := Kg2.out; have := NN3.out; have := Gg3.out; have := Kg3.out; have := NN4.out; have := NN5.out; have := NN6.out; omega)); have n_U10_0 := Aside0.mk (U10_0.out.mv hF (by have := NN1.out; have := Gg1.out; have := Kg1.out; have := NN2.out; have := Gg2.out; have := Kg2.out; have := NN3.out; have := Gg3.out; have := Kg3.out; have := NN4.out; have := NN5.out; have := NN6.out; omega)); have n_Bg1 := Aside0.mk ((hF.same g1 (blk_lt Bg1.out) (by have := NN1.out; have := Gg1.out; have := Kg1.out; have := NN2.out; have := Gg2.out; have := Kg2.out; have := NN3.out; have := Gg3.out; have := Kg3.out; have := NN4.out; have := NN5.out; have := NN6.out; omega)).trans Bg1.out); have n_Bg2 := Aside0.mk ((hF.same g2 (blk_lt Bg2.out) (by have := NN1.out; have := Gg1.out; have := Kg1.out; have := NN2.out; have := Gg2.out; have := Kg2.out; have := NN3.out; have := Gg3.out; have := Kg3.out; have := NN4.out; have := NN5.out; have := NN6.out; omega)).trans Bg2.out); have n_HB := Aside0.mk ((by rw [hw]; exact below_set HB.out hge : Below w.heap.size w w7)); have NN7 : Aside0 (w6.heap.size ≤ w7.heap.size) := ⟨hF.size⟩; clear hc3_0 hf3_0; clear hc3_1 hf3_1; clear U6_0 U10_0 Bg1 Bg2 HB; have U6_0 := n_U6_0; have U10_0 := n_U10_0; have Bg1 := n_Bg1; have Bg2 := n_Bg2; have HB := n_HB; clear n_U6_0 n_U10_0 n_Bg1 n_Bg2 n_HB; clear Bg3; have Bg3 := nb; clear nb hF hge hw; have hc2_0 : w7.cell? ⟨g2, 0, none⟩ = some (.slice none 0 0) := (blk_cell Bg2.out 0).trans rfl; have hf2_0 := blk_frozen Bg2.out 0; have hc2_1 : w7.cell? ⟨g2, 1, none⟩ = some (.slice none 0 0) := (blk_cell Bg2.out 1).trans rfl; have hf2_1 := blk_frozen Bg2.out 1; have hc3_0 : w7.cell? ⟨g3, 0, none⟩ = some (.slice A6_0 l0_0.length c6_0) := (blk_cell Bg3.out 0).trans rfl; have hf3_0 := blk_frozen Bg3.out 0; have hc3_1 : w7.cell? ⟨g3, 1, none⟩ = some (.slice A10_0 l0_1.length c10_0) := (blk_cell Bg3.out 1).trans rfl; have hf3_1 := blk_frozen Bg3.out 1) | ((with_reducible refine gate_store (t := 26) (p := 2) rfl ?_); refine store_event (t := 26) (p := 2) (v := ?vo_w8) (w1 := ((w7.setCell ⟨g2, 0, none⟩ (.slice A6_0 l0_0.length c6_0)).setCell ⟨g2, 1, none⟩ (.slice A10_0 l0_1.length c10_0))) ?hg ?ho ?hn ?hr ?_; (case ho => rfl); (case hg => rfl); (case hn => rfl); (case hr => first | (go_simp; done) | (go_simp; rfl)); intro w8 hw; have hge : w.heap.size ≤ g2 := (by have := NN1.out; have := Gg1.out; have := Kg1.out; have := NN2.out; have := Gg2.out; have := Kg2.out; have := NN3.out; have := Gg3.out; have := Kg3.out; have := NN4.out; have := NN5.out; have := NN6.out; have := NN7.out; have := HB.out.size; omega); have hF : Frm w7 w8 g2 (g2 + 1) := (by rw [hw]; exact (Frm.trans (Frm.set _ _ _ _) (Frm.set _ _ _ _))); have nb := Aside0.mk (show w8.heap[g2]? = some (.cells #[.slice A6_0 l0_0.length c6_0, .slice A10_0 l0_1.length c10_0] 26 (0, 0)) from (by rw [hw]; exact (blk_put (blk_put Bg2.out 0 _ rfl) 1 _ rfl))); have n_U6_0 := Aside0.mk (U6_0.out.mv hF (by have := NN1.out; have := Gg1.out; have := Kg1.out; have := NN2.out; have := Gg2.out; have := Kg2.out; have := NN3.out; have := Gg3.out; have := Kg3.out; have := NN4.out; have := NN5.out; have := NN6.out; have := NN7.out; omega)); have n_U10_0 := Aside0.mk (U10_0.out.mv hF (by have := NN1.out; have := Gg1.out; have := Kg1.out; have := NN2.out; have := Gg2.out; have := Kg2.out; have := NN3.out; have := Gg3.out; have := Kg3.out; have := NN4.out; have := NN5.out; have := NN6.out; have := NN7.out; omega)); have n_Bg1 := Aside0.mk ((hF.same g1 (blk_lt Bg1.out) (by have := NN1.out; have := Gg1.out; have := Kg1.out; have := NN2.out; have := Gg2.out; have := Kg2.out; have := NN3.out; have := Gg3.out; have := Kg3.out; have := NN4.out; have := NN5.out; have := NN6.out; have := NN7.out; omega)).trans Bg1.out); have n_Bg3 := Aside0.mk ((hF.same g3 (blk_lt Bg3.out) (by have := NN1.out; have := Gg1.out; have := Kg1.out; have := NN2.out; have := Gg2.out; have := Kg2.out; have := NN3.out; have := Gg3.out; have := Kg3.out; have := NN4.out; have := NN5.out; have := NN6.out; have := NN7.out; omega)).trans Bg3.out); have n_HB := Aside0.mk ((by rw [hw]; exact (below_set (below_set HB.out hge) hge) : Below w.heap.size w w8)); have NN8 : Aside0 (w7.heap.size ≤ w8.heap.size) := ⟨hF.size⟩; clear hc2_0 hf2_0; clear hc2_1 hf2_1; clear hc3_0 hf3_0; clear hc3_1 hf3_1; clear U6_0 U10_0 Bg1 Bg3 HB; have U6_0 := n_U6_0; have U10_0 := n_U10_0; have Bg1 := n_Bg1; have Bg3 := n_Bg3; have HB := n_HB; clear n_U6_0 n_U10_0 n_Bg1 n_Bg3 n_HB; clear Bg2; have Bg2 := nb; clear nb hF hge hw))
 refine bodyPost_ret (results_cell_row rfl _ _ g2 26 #[.slice A6_0 l0_0.length c6_0, .slice A10_0 l0_1.length c10_0] (0, 0) _ rfl Bg2.out Try.underlying26 rfl (by kernel_rfl)) rfl ?_
 refine ⟨_, _, rfl, ⟨w4.heap.size, (by have := NN1.out; have := Gg1.out; have := Kg1.out; have := NN2.out; have := Gg2.out; have := Kg2.out; have := NN3.out; have := Gg3.out; have := Kg3.out; have := NN4.out; have := NN5.out; have := NN6.out; have := NN7.out; have := NN8.out; omega), (by have := NN1.out; have := Gg1.out; have := Kg1.out; have := NN2.out; have := Gg2.out; have := Kg2.out; have := NN3.out; have := Gg3.out; have := Kg3.out; have := NN4.out; have := NN5.out; have := NN6.out; have := NN7.out; have := NN8.out; omega), Kd.S_mono U6_0.out (fun k hk => ⟨(by have := NN1.out; have := Gg1.out; have := Kg1.out; have := NN2.out; have := Gg2.out; have := Kg2.out; have := NN3.out; have := Gg3.out; have := Kg3.out; have := NN4.out; have := NN5.out; have := NN6.out; have := NN7.out; have := NN8.out; have := hk.1; omega), hk.2⟩), Kd.S_mono U10_0.out (fun k hk => ⟨(by have := NN1.out; have := Gg1.out; have := Kg1.out; have := NN2.out; have := Gg2.out; have := Kg2.out; have := NN3.out; have := Gg3.out; have := Kg3.out; have := NN4.out; have := NN5.out; have := NN6.out; have := NN7.out; have := NN8.out; have := hk.1; omega), (by have := NN1.out; have := Gg1.out; have := Kg1.out; have := NN2.out; have := Gg2.out; have := Kg2.out; have := NN3.out; have := Gg3.out; have := Kg3.out; have := NN4.out; have := NN5.out; have := NN6.out; have := NN7.out; have := NN8.out; have := hk.2; omega)⟩)⟩, HB.out⟩
end Go.Proofs.Ytjjbhdpjnjncbaa.Pr
end
section
namespace Go.Proofs.Ytjjbhdpjnjncbaa.Pr
open Go.RowKit Go.Proofs.YtjjbhdpjnjncbaaW.PrintWords Go.Proofs.YtjjbhdpjnjncbaaW.PrintLast Go.Proofs.YtjjbhdpjnjncbaaW.PrintMore Go.Proofs.Ytjjbhdpjnjncbaa.La Go.Proofs.Ytjjbhdpjnjncbaa.Hm Go.Proofs.Ytjjbhdpjnjncbaa.Lw
theorem laws_toGame2.calls (k : Nat) (A0_0 : Option Addr) (c0_0 : Nat) (l0_0 : List (List Int)) (A0_1 : Option Addr) (c0_1 : Nat) (l0_1 : List (List Int)) (w : World) (hr0_0 : Kd.C (Kd.slice 2 (Kd.int .i64)) w A0_0 l0_0.length l0_0) (hc0_0 : l0_0.length ≤ c0_0) (hr0_1 : Kd.C (Kd.slice 2 (Kd.int .i64)) w A0_1 l0_1.length l0_1) (hc0_1 : l0_1.length ≤ c0_1) (h : laws_toInt64SS.f k l0_0 = some l0_0 ∧ laws_toInt64SS.f k l0_1 = some l0_1) :
  Calls Try.prog 17 #[.agg #[.slice A0_0 l0_0.length c0_0, .slice A0_1 l0_1.length c0_1]] w fun e w' => ∃ v0_ v1_ : Value, e = .returned (.agg #[v0_, v1_]) ∧ UG w w' w.heap.size w'.heap.size v0_ v1_ l0_0 l0_1 ∧ Below w.heap.size w w' := by
 exact laws_toGame.walk2 k A0_0 c0_0 l0_0 A0_1 c0_1 l0_1 w hr0_0 hc0_0 hr0_1 hc0_1 h.1 h.2
end Go.Proofs.Ytjjbhdpjnjncbaa.Pr
end
section
namespace Go.Proofs.Ytjjbhdpjnjncbaa.Pr
open Go.RowKit Go.Proofs.YtjjbhdpjnjncbaaW.PrintWords Go.Proofs.YtjjbhdpjnjncbaaW.PrintLast Go.Proofs.YtjjbhdpjnjncbaaW.PrintMore
attribute [local go_sem] max2_int min2_int max_two min_two max_three min_three max_four min_four
mutual
def spec_l07Is.j0 : Nat → Int → Bool → List (List Int) → List (List Int) → Option (Bool)
 | 0, _, _, _, _ => none
 | k + 1, x3, x22, x200000, x200001 => if x22 = true then (some false) else (if 0 < (x200000.length : Int) then (if ((rd_L1 x200000 0).length : Int) < 1 then (spec_l07Is.j1 k x3 ((rd_L1 x200000 0).length : Int) true x200000 x200001) else (if ((rd_L1 x200000 0).length : Int) > 4 then (spec_l07Is.j1 k x3 ((rd_L1 x200000 0).length : Int) true x200000 x200001) else (spec_l07Is.j1 k x3 ((rd_L1 x200000 0).length : Int) (decide ((wrap64 (x3 + ((rd_L1 x200000 0).length : Int))) > 5)) x200000 x200001))) else (none))
def spec_l07Is.j1 : Nat → Int → Int → Bool → List (List Int) → List (List Int) → Option (Bool)
 | 0, _, _, _, _, _ => none
 | k + 1, x3, x4, x39, x200000, x200001 => if x39 = true then (some false) else (spec_l07Is.l0 k x3 x4 0 x200000 x200001)
def spec_l07Is.l0 : Nat → Int → Int → Int → List (List Int) → List (List Int) → Option (Bool)
 | 0, _, _, _, _, _ => none
 | k + 1, x3, x4, x5, x200000, x200001 => if x5 < x3 then (if 0 ≤ x5 then (if x5 < (x200000.length : Int) then (if ((rd_L1 x200000 x5).length : Int) = x4 then (if x5 < (x200001.length : Int) then (spec_l07Is.j3 k x3 x4 x5 (((rd_L1 x200001 x5).length : Int) != x4) x200000 x200001) else (none)) else (spec_l07Is.j3 k x3 x4 x5 true x200000 x200001)) else (none)) else (none)) else (some true)
def spec_l07Is.j3 : Nat → Int → Int → Int → Bool → List (List Int) → List (List Int) → Option (Bool)
 | 0, _, _, _, _, _, _ => none
 | k + 1, x3, x4, x5, x62, x200000, x200001 => if x62 = true then (some false) else (spec_l07Is.l1 k x3 x4 x5 0 x200000 x200001)
def spec_l07Is.l1 : Nat → Int → Int → Int → Int → List (List Int) → List (List Int) → Option (Bool)
 | 0, _, _, _, _, _, _ => none
 | k + 1, x3, x4, x5, x6, x200000, x200001 => if x6 < x4 then (if 0 ≤ x5 then (if x5 < (x200000.length : Int) then (if 0 ≤ x6 then (if x6 < ((rd_L1 x200000 x5).length : Int) then ((spec_l01In.f (rd (rd_L1 x200000 x5) x6) 1 20).bind fun t205 => (if t205 = true then (if x5 < (x200001.length : Int) then (if x6 < ((rd_L1 x200001 x5).length : Int) then ((spec_l01In.f (rd (rd_L1 x200001 x5) x6) 1 20).bind fun t208 => (if t208 = true then (spec_l07Is.l1 k x3 x4 x5 (wrap64 (x6 + 1)) x200000 x200001) else (some false))) else (none)) else (none)) else (some false))) else (none)) else (none)) else (none)) else (none)) else (spec_l07Is.l0 k x3 x4 (wrap64 (x5 + 1)) x200000 x200001)
end
def spec_l07Is.f (k : Nat) (l0_0 : List (List Int)) (l0_1 : List (List Int)) : Option (Bool) := if (l0_0.length : Int) < 1 then (spec_l07Is.j0 k (l0_0.length : Int) true l0_0 l0_1) else (if (l0_0.length : Int) > 4 then (spec_l07Is.j0 k (l0_0.length : Int) true l0_0 l0_1) else (spec_l07Is.j0 k (l0_0.length : Int) ((l0_1.length : Int) != (l0_0.length : Int)) l0_0 l0_1))
theorem spec_l07Is.mono_l : ∀ k, (∀ y0 y1 y2 y3, LeO (spec_l07Is.j0 k y0 y1 y2 y3) (spec_l07Is.j0 (k + 1) y0 y1 y2 y3)) ∧ (∀ y0 y1 y2 y3 y4, LeO (spec_l07Is.j1 k y0 y1 y2 y3 y4) (spec_l07Is.j1 (k + 1) y0 y1 y2 y3 y4)) ∧ (∀ y0 y1 y2 y3 y4, LeO (spec_l07Is.l0 k y0 y1 y2 y3 y4) (spec_l07Is.l0 (k + 1) y0 y1 y2 y3 y4)) ∧ (∀ y0 y1 y2 y3 y4 y5, LeO (spec_l07Is.j3 k y0 y1 y2 y3 y4 y5) (spec_l07Is.j3 (k + 1) y0 y1 y2 y3 y4 y5)) ∧ (∀ y0 y1 y2 y3 y4 y5, LeO (spec_l07Is.l1 k y0 y1 y2 y3 y4 y5) (spec_l07Is.l1 (k + 1) y0 y1 y2 y3 y4 y5))
 | 0 => ⟨fun _ _ _ _ r h => by simp [spec_l07Is.j0] at h, fun _ _ _ _ _ r h => by simp [spec_l07Is.j1] at h, fun _ _ _ _ _ r h => by simp [spec_l07Is.l0] at h, fun _ _ _ _ _ _ r h => by simp [spec_l07Is.j3] at h, fun _ _ _ _ _ _ r h => by simp [spec_l07Is.l1] at h⟩
 | k + 1 => by
  obtain ⟨ih0, ih1, ih2, ih3, ih4⟩ := spec_l07Is.mono_l k
  refine ⟨?_, ?_, ?_, ?_, ?_⟩
  ·intro y0 y1 y2 y3
   unfold spec_l07Is.j0
   repeat' first
   | (with_reducible exact ih0 _ _ _ _)
   | (with_reducible exact ih1 _ _ _ _ _)
   | (with_reducible exact ih2 _ _ _ _ _)
   | (with_reducible exact ih3 _ _ _ _ _ _)
   | (with_reducible exact ih4 _ _ _ _ _ _)
   | (with_reducible exact LeO.refl _)
   | (with_reducible exact LeO.none _)
   | (with_reducible refine LeO.ite ?_ ?_)
   | (with_reducible refine LeO.bind ?_ (fun _ => ?_))
   | exact ih0 _ _ _ _
   | exact ih1 _ _ _ _ _
   | exact ih2 _ _ _ _ _
   | exact ih3 _ _ _ _ _ _
   | exact ih4 _ _ _ _ _ _
   | exact LeO.none _
   | refine LeO.ite ?_ ?_
   | refine LeO.bind ?_ (fun _ => ?_)
  ·intro y0 y1 y2 y3 y4
   unfold spec_l07Is.j1
   repeat' first
   | (with_reducible exact ih0 _ _ _ _)
   | (with_reducible exact ih1 _ _ _ _ _)
   | (with_reducible exact ih2 _ _ _ _ _)
   | (with_reducible exact ih3 _ _ _ _ _ _)
   | (with_reducible exact ih4 _ _ _ _ _ _)
   | (with_reducible exact LeO.refl _)
   | (with_reducible exact LeO.none _)
   | (with_reducible refine LeO.ite ?_ ?_)
   | (with_reducible refine LeO.bind ?_ (fun _ => ?_))
   | exact ih0 _ _ _ _
   | exact ih1 _ _ _ _ _
   | exact ih2 _ _ _ _ _
   | exact ih3 _ _ _ _ _ _
   | exact ih4 _ _ _ _ _ _
   | exact LeO.none _
   | refine LeO.ite ?_ ?_
   | refine LeO.bind ?_ (fun _ => ?_)
  ·intro y0 y1 y2 y3 y4
   unfold spec_l07Is.l0
   repeat' first
   | (with_reducible exact ih0 _ _ _ _)
   | (with_reducible exact ih1 _ _ _ _ _)
   | (with_reducible exact ih2 _ _ _ _ _)
   | (with_reducible exact ih3 _ _ _ _ _ _)
   | (with_reducible exact ih4 _ _ _ _ _ _)
   | (with_reducible exact LeO.refl _)
   | (with_reducible exact LeO.none _)
   | (with_reducible refine LeO.ite ?_ ?_)
   | (with_reducible refine LeO.bind ?_ (fun _ => ?_))
   | exact ih0 _ _ _ _
   | exact ih1 _ _ _ _ _
   | exact ih2 _ _ _ _ _
   | exact ih3 _ _ _ _ _ _
   | exact ih4 _ _ _ _ _ _
   | exact LeO.none _
   | refine LeO.ite ?_ ?_
   | refine LeO.bind ?_ (fun _ => ?_)
  ·intro y0 y1 y2 y3 y4 y5
   unfold spec_l07Is.j3
   repeat' first
   | (with_reducible exact ih0 _ _ _ _)
   | (with_reducible exact ih1 _ _ _ _ _)
   | (with_reducible exact ih2 _ _ _ _ _)
   | (with_reducible exact ih3 _ _ _ _ _ _)
   | (with_reducible exact ih4 _ _ _ _ _ _)
   | (with_reducible exact LeO.refl _)
   | (with_reducible exact LeO.none _)
   | (with_reducible refine LeO.ite ?_ ?_)
   | (with_reducible refine LeO.bind ?_ (fun _ => ?_))
   | exact ih0 _ _ _ _
   | exact ih1 _ _ _ _ _
   | exact ih2 _ _ _ _ _
   | exact ih3 _ _ _ _ _ _
   | exact ih4 _ _ _ _ _ _
   | exact LeO.none _
   | refine LeO.ite ?_ ?_
   | refine LeO.bind ?_ (fun _ => ?_)
  ·intro y0 y1 y2 y3 y4 y5
   unfold spec_l07Is.l1
   repeat' first
   | (with_reducible exact ih0 _ _ _ _)
   | (with_reducible exact ih1 _ _ _ _ _)
   | (with_reducible exact ih2 _ _ _ _ _)
   | (with_reducible exact ih3 _ _ _ _ _ _)
   | (with_reducible exact ih4 _ _ _ _ _ _)
   | (with_reducible exact LeO.refl _)
   | (with_reducible exact LeO.none _)
   | (with_reducible refine LeO.ite ?_ ?_)
   | (with_reducible refine LeO.bind ?_ (fun _ => ?_))
   | exact ih0 _ _ _ _
   | exact ih1 _ _ _ _ _
   | exact ih2 _ _ _ _ _
   | exact ih3 _ _ _ _ _ _
   | exact ih4 _ _ _ _ _ _
   | exact LeO.none _
   | refine LeO.ite ?_ ?_
   | refine LeO.bind ?_ (fun _ => ?_)
theorem spec_l07Is.mono : ∀ a0 a1 k, LeO (spec_l07Is.f k a0 a1) (spec_l07Is.f (k + 1) a0 a1) := by
 intro a0 a1 k
 obtain ⟨ih0, ih1, ih2, ih3, ih4⟩ := spec_l07Is.mono_l k
 unfold spec_l07Is.f
 repeat' first
   | (with_reducible exact ih0 _ _ _ _)
   | (with_reducible exact ih1 _ _ _ _ _)
   | (with_reducible exact ih2 _ _ _ _ _)
   | (with_reducible exact ih3 _ _ _ _ _ _)
   | (with_reducible exact ih4 _ _ _ _ _ _)
   | (with_reducible exact LeO.refl _)
   | (with_reducible exact LeO.none _)
   | (with_reducible refine LeO.ite ?_ ?_)
   | (with_reducible refine LeO.bind ?_ (fun _ => ?_))
   | exact ih0 _ _ _ _
   | exact ih1 _ _ _ _ _
   | exact ih2 _ _ _ _ _
   | exact ih3 _ _ _ _ _ _
   | exact ih4 _ _ _ _ _ _
   | exact LeO.none _
   | refine LeO.ite ?_ ?_
   | refine LeO.bind ?_ (fun _ => ?_)
theorem spec_l07Is.calls (k : Nat) (A0_0 : Option Addr) (c0_0 : Nat) (l0_0 : List (List Int)) (A0_1 : Option Addr) (c0_1 : Nat) (l0_1 : List (List Int)) (r : Bool) (w : World) (hr0_0 : Kd.C (Kd.slice 2 (Kd.int .i64)) w A0_0 l0_0.length l0_0) (hc0_0 : l0_0.length ≤ c0_0) (hr0_1 : Kd.C (Kd.slice 2 (Kd.int .i64)) w A0_1 l0_1.length l0_1) (hc0_1 : l0_1.length ≤ c0_1) (h : spec_l07Is.f k l0_0 l0_1 = some r) :
  Calls Try.prog 67 #[.agg #[.slice A0_0 l0_0.length c0_0, .slice A0_1 l0_1.length c0_1]] w fun e w' => e = .returned (.bool r) ∧ Below w.heap.size w w' := by
 have hu26 := Try.underlying26
 have HR0_0 := Aside0.mk hr0_0
 have HC0_0 := Aside0.mk hc0_0
 clear hr0_0 hc0_0
 have HR0_1 := Aside0.mk hr0_1
 have HC0_1 := Aside0.mk hc0_1
 clear hr0_1 hc0_1
 have HB := Aside0.mk (Below.refl w.heap.size w)
 have H : (if (l0_0.length : Int) < 1 then (spec_l07Is.j0 k (l0_0.length : Int) true l0_0 l0_1) else (if (l0_0.length : Int) > 4 then (spec_l07Is.j0 k (l0_0.length : Int) true l0_0 l0_1) else (spec_l07Is.j0 k (l0_0.length : Int) ((l0_1.length : Int) != (l0_0.length : Int)) l0_0 l0_1))) = some r := h
 clear h
 have HC2 := Aside0.mk H
 clear H
 go_enter Try.func67, Try.ntmps67
 go_upto_region 2 with (first | ((with_reducible refine gate_dst (N := 1) rfl ?_); (try (refine gate_guard (by rfl) ?_; dsimp only)); refine box_event ?hg (N := 1) ?hd (cs := #[.slice A0_0 l0_0.length c0_0, .slice A0_1 l0_1.length c0_1]) (t := 26) ?hr ?_; (case hd => rfl); (case hg => rfl); (case hr => first | (go_simp; done) | (go_simp; rfl)); intro gb199 hg w3 hbox hb; have n0_ := Aside0.mk (below_step (by repeat (first | (with_reducible first | exact HB.out | apply below_alloc | apply pw_below_drewN | apply below_drew1) | exact HB.out)) hb); have n1_ := Aside0.mk (hbox); have n2_ := Aside0.mk ((by rw [hg]; exact (below_size (by repeat (first | (with_reducible first | exact HB.out | apply below_alloc | apply pw_below_drewN | apply below_drew1) | exact HB.out))) : w.heap.size ≤ gb199)); have n3_ := Aside0.mk ((by rw [hg]; exact (below_size (by repeat (first | (with_reducible first | exact HB.out | apply below_alloc | apply pw_below_drewN | apply below_drew1) | exact HB.out))) : w.heap.size ≤ gb199)); clear HB; have HB := n0_; have BK199 := n1_; have GW199 := n2_; have GE199 := n3_; clear n0_ n1_ n2_ n3_; clear hb hbox hg; have hcz4_0 : w3.cell? ⟨gb199, 0, none⟩ = some (.slice A0_0 l0_0.length c0_0) := (blk_cell BK199.out 0).trans rfl; have hcz4_1 : w3.cell? ⟨gb199, 1, none⟩ = some (.slice A0_1 l0_1.length c0_1) := (blk_cell BK199.out 1).trans rfl; have hfz4_0 := blk_frozen BK199.out 0; have hfz4_1 := blk_frozen BK199.out 1))
 (try simp only [Act.put, List.setIfInBounds_toArray, List.set_cons_zero, List.set_cons_succ])
 go_cut [22] (fun v22 wc => ∃ (kq : Nat) (x22_1 : Bool), v22 = .bool x22_1 ∧ Aside0 (spec_l07Is.j0 kq (l0_0.length : Int) x22_1 l0_0 l0_1 = some r) ∧ Aside0 (kq ≤ k) ∧ Aside0 (wc.heap[gb199]? = some (.cells #[(.slice A0_0 l0_0.length c0_0), (.slice A0_1 l0_1.length c0_1)] 26 (0, 0))) ∧ Aside0 (Below w.heap.size w wc))
 case first =>
  have H := HC2.out
  clear HC2
  by_cases c5 : (l0_0.length : Int) < 1
  ·rw [if_pos c5] at H
   have c5b0 : decide ((l0_0.length : Int) < 1) = true := decide_eq_true c5
   have c5b1 : decide (l0_0.length < 1) = true := decide_eq_true (by omega)
   clear c5
   (first | rw [c5b0] | (simp only [i64_w, i32_w]; rw [c5b0]) | skip)
   have H' := Aside0.mk H
   clear H
   go_wp2
   go_meet
   case rel => exact ⟨_, (true), (by first | rfl | (simp; done) | (simp [*]; done)), H', ⟨by first | omega | exact Nat.le_refl _⟩, ⟨by (with_reducible repeat (first | refine blk_drewN ?_ _ | refine blk_drew ?_ | refine blk_alloc ?_ _)); exact BK199.out⟩, ⟨by repeat (first | (with_reducible first | exact HB.out | apply below_alloc | apply pw_below_drewN | apply below_drew1 | refine below_set ?_ GE199.out) | exact HB.out)⟩⟩
  ·rw [if_neg c5] at H
   have c5b0 : decide ((l0_0.length : Int) < 1) = false := decide_eq_false c5
   have c5b1 : decide (l0_0.length < 1) = false := decide_eq_false (by omega)
   clear c5
   (first | rw [c5b0] | (simp only [i64_w, i32_w]; rw [c5b0]) | skip)
   by_cases c6 : (l0_0.length : Int) > 4
   ·rw [if_pos c6] at H
    have c6b0 : decide (4 < (l0_0.length : Int)) = true := decide_eq_true c6
    have c6b1 : decide (4 < l0_0.length) = true := decide_eq_true (by omega)
    clear c6
    have H' := Aside0.mk H
    clear H
    go_wp2
    go_meet
    case rel => exact ⟨_, (true), (by first | rfl | (simp; done) | (simp [*]; done)), H', ⟨by first | omega | exact Nat.le_refl _⟩, ⟨by (with_reducible repeat (first | refine blk_drewN ?_ _ | refine blk_drew ?_ | refine blk_alloc ?_ _)); exact BK199.out⟩, ⟨by repeat (first | (with_reducible first | exact HB.out | apply below_alloc | apply pw_below_drewN | apply below_drew1 | refine below_set ?_ GE199.out) | exact HB.out)⟩⟩
   ·rw [if_neg c6] at H
    have c6b0 : decide (4 < (l0_0.length : Int)) = false := decide_eq_false c6
    have c6b1 : decide (4 < l0_0.length) = false := decide_eq_false (by omega)
    clear c6
    have H' := Aside0.mk H
    clear H
    have hcz7_0 : w3.cell? ⟨gb199, 0, none⟩ = some (.slice A0_0 l0_0.length c0_0) := (blk_cell BK199.out 0).trans rfl
    have hcz7_1 : w3.cell? ⟨gb199, 1, none⟩ = some (.slice A0_1 l0_1.length c0_1) := (blk_cell BK199.out 1).trans rfl
    have hfz7_0 := blk_frozen BK199.out 0
    have hfz7_1 := blk_frozen BK199.out 1
    go_wp2
    go_meet
    case rel => exact ⟨_, (((l0_1.length : Int) != (l0_0.length : Int))), (by first | rfl | (simp; done) | (simp [*]; done)), H', ⟨by first | omega | exact Nat.le_refl _⟩, ⟨by (with_reducible repeat (first | refine blk_drewN ?_ _ | refine blk_drew ?_ | refine blk_alloc ?_ _)); exact BK199.out⟩, ⟨by repeat (first | (with_reducible first | exact HB.out | apply below_alloc | apply pw_below_drewN | apply below_drew1 | refine below_set ?_ GE199.out) | exact HB.out)⟩⟩
 case rest =>
  clear HC2
  try clear p2
  try clear c5
  try clear c5b0
  try clear c5b1
  try clear c6
  try clear c6b0
  try clear c6b1
  try clear hcz4_0
  try clear hcz4_1
  try clear hcz7_0
  try clear hcz7_1
  try clear hfz4_0
  try clear hfz4_1
  try clear hfz7_0
  try clear hfz7_1
  obtain ⟨kq, x22_1, rfl, HA, HJ1, BK199, HB⟩ := hcut
  cases kq with
  | zero => exact absurd HA.out (by simp [spec_l07Is.j0])
  | succ kj1 =>
   have H := HA.out
   clear HA
   simp only [spec_l07Is.j0] at H
   by_cases c8 : x22_1 = true
   ·subst c8
    have H1 : (some false) = some r := by rw [if_pos rfl] at H; exact H
    clear H
    have H := H1
    clear H1
    obtain rfl := Option.some.inj H
    go_wp2
    go_ret
    exact ⟨by first | rfl | (simp [errW_none, errW_some] <;> rfl) | (simp [*, errW_none, errW_some] <;> rfl), by repeat (first | (with_reducible first | exact HB.out | apply below_alloc | apply pw_below_drewN | apply below_drew1 | refine below_set ?_ GE199.out) | exact HB.out)⟩
   ·replace c8 := Bool.eq_false_iff.mpr c8
    subst c8
    have H1 : (if 0 < (l0_0.length : Int) then (if ((rd_L1 l0_0 0).length : Int) < 1 then (spec_l07Is.j1 kj1 (l0_0.length : Int) ((rd_L1 l0_0 0).length : Int) true l0_0 l0_1) else (if ((rd_L1 l0_0 0).length : Int) > 4 then (spec_l07Is.j1 kj1 (l0_0.length : Int) ((rd_L1 l0_0 0).length : Int) true l0_0 l0_1) else (spec_l07Is.j1 kj1 (l0_0.length : Int) ((rd_L1 l0_0 0).length : Int) (decide ((wrap64 ((l0_0.length : Int) + ((rd_L1 l0_0 0).length : Int))) > 5)) l0_0 l0_1))) else (none)) = some r := by rw [if_neg (show ¬ (false = true) by decide)] at H; exact H
    clear H
    have H := H1
    clear H1
    by_cases c9 : 0 < (l0_0.length : Int)
    ·rw [if_pos c9] at H
     have c9b0 : decide (0 < (l0_0.length : Int)) = true := decide_eq_true c9
     have c9b1 : decide (0 < l0_0.length) = true := decide_eq_true (by omega)
     clear c9
     have HC10 := Aside0.mk H
     clear H
     have hcz11_0 : wc.cell? ⟨gb199, 0, none⟩ = some (.slice A0_0 l0_0.length c0_0) := (blk_cell BK199.out 0).trans rfl
     have hcz11_1 : wc.cell? ⟨gb199, 1, none⟩ = some (.slice A0_1 l0_1.length c0_1) := (blk_cell BK199.out 1).trans rfl
     have hfz11_0 := blk_frozen BK199.out 0
     have hfz11_1 := blk_frozen BK199.out 1
     have p200 : 0 ≤ (0 : Int) := (by omega)
     have q200 : 0 < (l0_0.length : Int) := of_decide_eq_true (by first | (with_reducible assumption) | assumption)
     obtain ⟨ad200, A200_0, c200_0, e200, hx200_0, hl200_0, hi200_0⟩ := at_L1 HR0_0.out 0 p200 q200
     cases e200
     have qi200 : (0 < l0_0.length) = True := eq_true (by omega)
     (try rw [show ((0 : Int)).toNat = 0 from rfl] at hx200_0)
     (try rw [Addr.add_zero'] at hx200_0)
     replace hx200_0 := (HB.out.cell (World.block_lt_of_cell? w _ hx200_0)).trans hx200_0
     have HR200_0 := Aside0.mk hi200_0
     have HC200_0 := Aside0.mk hl200_0
     clear hi200_0 hl200_0
     replace p200 := eq_true p200
     replace q200 := eq_true q200
     go_upto_region 5 with (fail)
     go_cut [39] (fun v39 wc => ∃ (kq : Nat) (x39_9 : Bool), v39 = .bool x39_9 ∧ Aside0 (spec_l07Is.j1 kq (l0_0.length : Int) ((rd_L1 l0_0 0).length : Int) x39_9 l0_0 l0_1 = some r) ∧ Aside0 (kq ≤ kj1) ∧ Aside0 (wc.heap[gb199]? = some (.cells #[(.slice (some ad200) l0_0.length c0_0), (.slice A0_1 l0_1.length c0_1)] 26 (0, 0))) ∧ Aside0 (Below w.heap.size w wc))
     case first =>
      have H := HC10.out
      clear HC10
      by_cases c12 : ((rd_L1 l0_0 0).length : Int) < 1
      ·rw [if_pos c12] at H
       have c12b0 : decide (((rd_L1 l0_0 0).length : Int) < 1) = true := decide_eq_true c12
       have c12b1 : decide ((rd_L1 l0_0 0).length < 1) = true := decide_eq_true (by omega)
       clear c12
       (first | rw [c12b0] | (simp only [i64_w, i32_w]; rw [c12b0]) | skip)
       have H' := Aside0.mk H
       clear H
       go_wp2
       go_meet
       case rel => exact ⟨_, (true), (by first | rfl | (simp; done) | (simp [*]; done)), H', ⟨by have := HJ1.out; first | omega | exact Nat.le_refl _⟩, ⟨by (with_reducible repeat (first | refine blk_drewN ?_ _ | refine blk_drew ?_ | refine blk_alloc ?_ _)); exact BK199.out⟩, ⟨by repeat (first | (with_reducible first | exact HB.out | apply below_alloc | apply pw_below_drewN | apply below_drew1 | refine below_set ?_ GE199.out) | exact HB.out)⟩⟩
      ·rw [if_neg c12] at H
       have c12b0 : decide (((rd_L1 l0_0 0).length : Int) < 1) = false := decide_eq_false c12
       have c12b1 : decide ((rd_L1 l0_0 0).length < 1) = false := decide_eq_false (by omega)
       clear c12
       (first | rw [c12b0] | (simp only [i64_w, i32_w]; rw [c12b0]) | skip)
       by_cases c13 : ((rd_L1 l0_0 0).length : Int) > 4
       ·rw [if_pos c13] at H
        have c13b0 : decide (4 < ((rd_L1 l0_0 0).length : Int)) = true := decide_eq_true c13
        have c13b1 : decide (4 < (rd_L1 l0_0 0).length) = true := decide_eq_true (by omega)
        clear c13
        have H' := Aside0.mk H
        clear H
        go_wp2
        go_meet
        case rel => exact ⟨_, (true), (by first | rfl | (simp; done) | (simp [*]; done)), H', ⟨by have := HJ1.out; first | omega | exact Nat.le_refl _⟩, ⟨by (with_reducible repeat (first | refine blk_drewN ?_ _ | refine blk_drew ?_ | refine blk_alloc ?_ _)); exact BK199.out⟩, ⟨by repeat (first | (with_reducible first | exact HB.out | apply below_alloc | apply pw_below_drewN | apply below_drew1 | refine below_set ?_ GE199.out) | exact HB.out)⟩⟩
       ·rw [if_neg c13] at H
        have c13b0 : decide (4 < ((rd_L1 l0_0 0).length : Int)) = false := decide_eq_false c13
        have c13b1 : decide (4 < (rd_L1 l0_0 0).length) = false := decide_eq_false (by omega)
        clear c13
        have H' := Aside0.mk H
        clear H
        go_wp2
        go_meet
        case rel => exact ⟨_, (decide ((wrap64 ((l0_0.length : Int) + ((rd_L1 l0_0 0).length : Int))) > 5)), (by first | rfl | (simp; done) | (simp [*]; done)), H', ⟨by have := HJ1.out; first | omega | exact Nat.le_refl _⟩, ⟨by (with_reducible repeat (first | refine blk_drewN ?_ _ | refine blk_drew ?_ | refine blk_alloc ?_ _)); exact BK199.out⟩, ⟨by repeat (first | (with_reducible first | exact HB.out | apply below_alloc | apply pw_below_drewN | apply below_drew1 | refine below_set ?_ GE199.out) | exact HB.out)⟩⟩
     case rest =>
      clear HC10
      try clear c1
      try clear c2
      try clear p2
      try clear q2
      try clear hx2
      try clear qi2
      try clear c5
      try clear c5b0
      try clear c5b1
      try clear c6
      try clear c6b0
      try clear c6b1
      try clear p6
      try clear c8
      try clear c9
      try clear c9b0
      try clear c9b1
      try clear c12
      try clear c12b0
      try clear c12b1
      try clear c13
      try clear c13b0
      try clear c13b1
      try clear hcz11_0
      try clear hcz11_1
      try clear hcz4_0
      try clear hcz4_1
      try clear hcz7_0
      try clear hcz7_1
      try clear hfz11_0
      try clear hfz11_1
      try clear hfz4_0
      try clear hfz4_1
      try clear hfz7_0
      try clear hfz7_1
      try clear hx200_0
      try clear p2
      try clear p200
      try clear q200
      obtain ⟨kq, x39_9, rfl, HA, HJ9, BK199, HB⟩ := hcut
      cases kq with
      | zero => exact absurd HA.out (by simp [spec_l07Is.j1])
      | succ kj9 =>
       have H := HA.out
       clear HA
       simp only [spec_l07Is.j1] at H
       by_cases c14 : x39_9 = true
       ·subst c14
        have H1 : (some false) = some r := by rw [if_pos rfl] at H; exact H
        clear H
        have H := H1
        clear H1
        obtain rfl := Option.some.inj H
        go_wp2
        go_ret
        exact ⟨by first | rfl | (simp [errW_none, errW_some] <;> rfl) | (simp [*, errW_none, errW_some] <;> rfl), by repeat (first | (with_reducible first | exact HB.out | apply below_alloc | apply pw_below_drewN | apply below_drew1 | refine below_set ?_ GE199.out) | exact HB.out)⟩
       ·replace c14 := Bool.eq_false_iff.mpr c14
        subst c14
        have H1 : (spec_l07Is.l0 kj9 (l0_0.length : Int) ((rd_L1 l0_0 0).length : Int) 0 l0_0 l0_1) = some r := by rw [if_neg (show ¬ (false = true) by decide)] at H; exact H
        clear H
        have H := H1
        clear H1
        have H' := Aside0.mk H
        clear H
        go_wp2
        go_loopg [5] kj9 (fun kq v5 w' => ∃ (x5_3 : Int), v5 = .int .i64 x5_3 ∧ Aside0 (spec_l07Is.l0 kq (l0_0.length : Int) ((rd_L1 l0_0 0).length : Int) x5_3 l0_0 l0_1 = some r) ∧ Aside0 (kq ≤ kj9) ∧ Aside0 (w'.heap[gb199]? = some (.cells #[(.slice (some ad200) l0_0.length c0_0), (.slice A0_1 l0_1.length c0_1)] 26 (0, 0))) ∧ Aside0 (Below w.heap.size w w'))
        case atStart => exact ⟨(0), (by first | rfl | (simp; done) | (simp [*]; done)), H', ⟨Nat.le_refl _⟩, ⟨by (with_reducible repeat (first | refine blk_drewN ?_ _ | refine blk_drew ?_ | refine blk_alloc ?_ _)); exact BK199.out⟩, ⟨by repeat (first | (with_reducible first | exact HB.out | apply below_alloc | apply pw_below_drewN | apply below_drew1 | refine below_set ?_ GE199.out) | exact HB.out)⟩⟩
        case round =>
         clear H'
         try clear c1
         try clear c2
         try clear p2
         try clear q2
         try clear hx2
         try clear qi2
         try clear c5
         try clear c5b0
         try clear c5b1
         try clear c6
         try clear c6b0
         try clear c6b1
         try clear p6
         try clear c8
         try clear c9
         try clear c9b0
         try clear c9b1
         try clear c12
         try clear c12b0
         try clear c12b1
         try clear c13
         try clear c13b0
         try clear c13b1
         try clear c14
         try clear hcz11_0
         try clear hcz11_1
         try clear hcz4_0
         try clear hcz4_1
         try clear hcz7_0
         try clear hcz7_1
         try clear hfz11_0
         try clear hfz11_1
         try clear hfz4_0
         try clear hfz4_1
         try clear hfz7_0
         try clear hfz7_1
         try clear hx200_0
         try clear p2
         try clear p200
         try clear p6
         try clear q2
         try clear q200
         obtain ⟨x5_3, rfl, HA, HK3, BK199, HB⟩ := hrel
         cases gk with
         | zero => exact absurd HA.out (by simp [spec_l07Is.l0])
         | succ k3 =>
          have H := HA.out
          clear HA
          simp only [spec_l07Is.l0] at H
          by_cases c15 : x5_3 < (l0_0.length : Int)
          ·rw [if_pos c15] at H
           have c15b0 : decide (x5_3 < (l0_0.length : Int)) = true := decide_eq_true c15
           clear c15
           have HC16 := Aside0.mk H
           clear H
           go_upto_region 10 with (fail)
           go_cut [62] (fun v62 wc => ∃ (kq : Nat) (x62_15 : Bool), v62 = .bool x62_15 ∧ Aside0 (spec_l07Is.j3 kq (l0_0.length : Int) ((rd_L1 l0_0 0).length : Int) x5_3 x62_15 l0_0 l0_1 = some r) ∧ Aside0 (kq ≤ k3) ∧ Aside0 (wc.heap[gb199]? = some (.cells #[(.slice (some ad200) l0_0.length c0_0), (.slice A0_1 l0_1.length c0_1)] 26 (0, 0))) ∧ Aside0 (Below w.heap.size w wc))
           case first =>
            have H := HC16.out
            clear HC16
            by_cases c17 : 0 ≤ x5_3
            ·rw [if_pos c17] at H
             have c17b0 : decide (0 ≤ x5_3) = true := decide_eq_true c17
             clear c17
             (first | rw [c17b0] | (simp only [i64_w, i32_w]; rw [c17b0]) | skip)
             by_cases c18 : x5_3 < (l0_0.length : Int)
             ·rw [if_pos c18] at H
              have c18b0 : decide (x5_3 < (l0_0.length : Int)) = true := decide_eq_true c18
              clear c18
              by_cases c19 : ((rd_L1 l0_0 x5_3).length : Int) = ((rd_L1 l0_0 0).length : Int)
              ·rw [if_pos c19] at H
               have c19b0 : (((rd_L1 l0_0 x5_3).length : Int) == ((rd_L1 l0_0 0).length : Int)) = true := beq_iff_eq.mpr c19
               have c19b1 : (((rd_L1 l0_0 x5_3).length : Int) != ((rd_L1 l0_0 0).length : Int)) = false := bne_eq_false_iff_eq.mpr c19
               have c19b2 : ((rd_L1 l0_0 x5_3).length == (rd_L1 l0_0 0).length) = true := by first | simpa using c19 | (simp at c19 ⊢; omega)
               clear c19
               by_cases c20 : x5_3 < (l0_1.length : Int)
               ·rw [if_pos c20] at H
                have c20b0 : decide (x5_3 < (l0_1.length : Int)) = true := decide_eq_true c20
                clear c20
                have H' := Aside0.mk H
                clear H
                have hcz21_0 : wr.cell? ⟨gb199, 0, none⟩ = some (.slice (some ad200) l0_0.length c0_0) := (blk_cell BK199.out 0).trans rfl
                have hcz21_1 : wr.cell? ⟨gb199, 1, none⟩ = some (.slice A0_1 l0_1.length c0_1) := (blk_cell BK199.out 1).trans rfl
                have hfz21_0 := blk_frozen BK199.out 0
                have hfz21_1 := blk_frozen BK199.out 1
                have p201 : 0 ≤ (x5_3 : Int) := of_decide_eq_true (by first | (with_reducible assumption) | assumption)
                have q201 : x5_3 < (l0_0.length : Int) := of_decide_eq_true (by first | (with_reducible assumption) | assumption)
                obtain ⟨ad201, A201_0, c201_0, e201, hx201_0, hl201_0, hi201_0⟩ := at_L1 HR0_0.out x5_3 p201 q201
                obtain rfl : ad200 = ad201 := (by injection e201)
                replace hx201_0 := (HB.out.cell (World.block_lt_of_cell? w _ hx201_0)).trans hx201_0
                have HR201_0 := Aside0.mk hi201_0
                have HC201_0 := Aside0.mk hl201_0
                clear hi201_0 hl201_0
                replace p201 := eq_true p201
                replace q201 := eq_true q201
                have p202 : 0 ≤ (x5_3 : Int) := of_decide_eq_true (by first | (with_reducible assumption) | assumption)
                have q202 : x5_3 < (l0_1.length : Int) := of_decide_eq_true (by first | (with_reducible assumption) | assumption)
                obtain ⟨ad202, A202_0, c202_0, e202, hx202_0, hl202_0, hi202_0⟩ := at_L1 HR0_1.out x5_3 p202 q202
                cases e202
                replace hx202_0 := (HB.out.cell (World.block_lt_of_cell? w _ hx202_0)).trans hx202_0
                have HR202_0 := Aside0.mk hi202_0
                have HC202_0 := Aside0.mk hl202_0
                clear hi202_0 hl202_0
                replace p202 := eq_true p202
                replace q202 := eq_true q202
                go_wp2
                go_meet
                case rel => exact ⟨_, ((((rd_L1 l0_1 x5_3).length : Int) != ((rd_L1 l0_0 0).length : Int))), (by first | rfl | (simp; done) | (simp [*]; done)), H', ⟨by have := HJ1.out; have := HJ9.out; have := HK3.out; first | omega | exact Nat.le_refl _⟩, ⟨by (with_reducible repeat (first | refine blk_drewN ?_ _ | refine blk_drew ?_ | refine blk_alloc ?_ _)); exact BK199.out⟩, ⟨by repeat (first | (with_reducible first | exact HB.out | apply below_alloc | apply pw_below_drewN | apply below_drew1 | refine below_set ?_ GE199.out) | exact HB.out)⟩⟩
               ·rw [if_neg c20] at H
                exact absurd H (by simp)
              ·rw [if_neg c19] at H
               have c19b0 : (((rd_L1 l0_0 x5_3).length : Int) == ((rd_L1 l0_0 0).length : Int)) = false := beq_eq_false_iff_ne.mpr c19
               have c19b1 : (((rd_L1 l0_0 x5_3).length : Int) != ((rd_L1 l0_0 0).length : Int)) = true := bne_iff_ne.mpr c19
               have c19b2 : ((rd_L1 l0_0 x5_3).length == (rd_L1 l0_0 0).length) = false := by first | simpa using c19 | (simp at c19 ⊢; omega)
               have H' := Aside0.mk H
               clear H
               have hcz22_0 : wr.cell? ⟨gb199, 0, none⟩ = some (.slice (some ad200) l0_0.length c0_0) := (blk_cell BK199.out 0).trans rfl
               have hcz22_1 : wr.cell? ⟨gb199, 1, none⟩ = some (.slice A0_1 l0_1.length c0_1) := (blk_cell BK199.out 1).trans rfl
               have hfz22_0 := blk_frozen BK199.out 0
               have hfz22_1 := blk_frozen BK199.out 1
               have p201 : 0 ≤ (x5_3 : Int) := of_decide_eq_true (by first | (with_reducible assumption) | assumption)
               have q201 : x5_3 < (l0_0.length : Int) := of_decide_eq_true (by first | (with_reducible assumption) | assumption)
               obtain ⟨ad201, A201_0, c201_0, e201, hx201_0, hl201_0, hi201_0⟩ := at_L1 HR0_0.out x5_3 p201 q201
               obtain rfl : ad200 = ad201 := (by injection e201)
               replace hx201_0 := (HB.out.cell (World.block_lt_of_cell? w _ hx201_0)).trans hx201_0
               have HR201_0 := Aside0.mk hi201_0
               have HC201_0 := Aside0.mk hl201_0
               clear hi201_0 hl201_0
               replace p201 := eq_true p201
               replace q201 := eq_true q201
               go_wp2
               go_meet
               case rel => exact ⟨_, (true), (by first | rfl | (simp; done) | (simp [*]; done)), H', ⟨by have := HJ1.out; have := HJ9.out; have := HK3.out; first | omega | exact Nat.le_refl _⟩, ⟨by (with_reducible repeat (first | refine blk_drewN ?_ _ | refine blk_drew ?_ | refine blk_alloc ?_ _)); exact BK199.out⟩, ⟨by repeat (first | (with_reducible first | exact HB.out | apply below_alloc | apply pw_below_drewN | apply below_drew1 | refine below_set ?_ GE199.out) | exact HB.out)⟩⟩
             ·rw [if_neg c18] at H
              exact absurd H (by simp)
            ·rw [if_neg c17] at H
             exact absurd H (by simp)
           case rest =>
            clear HC16
            try clear c1
            try clear c2
            try clear p2
            try clear q2
            try clear hx2
            try clear qi2
            try clear c5
            try clear c5b0
            try clear c5b1
            try clear c6
            try clear c6b0
            try clear c6b1
            try clear p6
            try clear c8
            try clear c9
            try clear c9b0
            try clear c9b1
            try clear c12
            try clear c12b0
            try clear c12b1
            try clear c13
            try clear c13b0
            try clear c13b1
            try clear c14
            try clear c15
            try clear c15b0
            try clear c17
            try clear c17b0
            try clear c18
            try clear c18b0
            try clear c19
            try clear c19b0
            try clear c19b1
            try clear c19b2
            try clear c20
            try clear c20b0
            try clear p20
            try clear q20
            try clear hx20
            try clear qi20
            try clear hcz11_0
            try clear hcz11_1
            try clear hcz21_0
            try clear hcz21_1
            try clear hcz22_0
            try clear hcz22_1
            try clear hcz4_0
            try clear hcz4_1
            try clear hcz7_0
            try clear hcz7_1
            try clear hfz11_0
            try clear hfz11_1
            try clear hfz21_0
            try clear hfz21_1
            try clear hfz22_0
            try clear hfz22_1
            try clear hfz4_0
            try clear hfz4_1
            try clear hfz7_0
            try clear hfz7_1
            try clear hx200_0
            try clear hx201_0
            try clear hx202_0
            try clear p2
            try clear p200
            try clear p201
            try clear p202
            try clear p6
            try clear q2
            try clear q200
            try clear q201
            try clear q202
            obtain ⟨kq, x62_15, rfl, HA, HJ15, BK199, HB⟩ := hcut
            cases kq with
            | zero => exact absurd HA.out (by simp [spec_l07Is.j3])
            | succ kj15 =>
             have H := HA.out
             clear HA
             simp only [spec_l07Is.j3] at H
             by_cases c23 : x62_15 = true
             ·subst c23
              have H1 : (some false) = some r := by rw [if_pos rfl] at H; exact H
              clear H
              have H := H1
              clear H1
              obtain rfl := Option.some.inj H
              go_wp2
              go_ret
              exact ⟨by first | rfl | (simp [errW_none, errW_some] <;> rfl) | (simp [*, errW_none, errW_some] <;> rfl), by repeat (first | (with_reducible first | exact HB.out | apply below_alloc | apply pw_below_drewN | apply below_drew1 | refine below_set ?_ GE199.out) | exact HB.out)⟩
             ·replace c23 := Bool.eq_false_iff.mpr c23
              subst c23
              have H1 : (spec_l07Is.l1 kj15 (l0_0.length : Int) ((rd_L1 l0_0 0).length : Int) x5_3 0 l0_0 l0_1) = some r := by rw [if_neg (show ¬ (false = true) by decide)] at H; exact H
              clear H
              have H := H1
              clear H1
              have H' := Aside0.mk H
              clear H
              go_wp2
              go_loopg [6] kj15 (fun kq v6 w' => ∃ (x6_5 : Int), v6 = .int .i64 x6_5 ∧ Aside0 (spec_l07Is.l1 kq (l0_0.length : Int) ((rd_L1 l0_0 0).length : Int) x5_3 x6_5 l0_0 l0_1 = some r) ∧ Aside0 (kq ≤ kj15) ∧ Aside0 (w'.heap[gb199]? = some (.cells #[(.slice (some ad200) l0_0.length c0_0), (.slice A0_1 l0_1.length c0_1)] 26 (0, 0))) ∧ Aside0 (Below w.heap.size w w'))
              case atStart => exact ⟨(0), (by first | rfl | (simp; done) | (simp [*]; done)), H', ⟨Nat.le_refl _⟩, ⟨by (with_reducible repeat (first | refine blk_drewN ?_ _ | refine blk_drew ?_ | refine blk_alloc ?_ _)); exact BK199.out⟩, ⟨by repeat (first | (with_reducible first | exact HB.out | apply below_alloc | apply pw_below_drewN | apply below_drew1 | refine below_set ?_ GE199.out) | exact HB.out)⟩⟩
              case round =>
               clear H'
               try clear c1
               try clear c2
               try clear p2
               try clear q2
               try clear hx2
               try clear qi2
               try clear c5
               try clear c5b0
               try clear c5b1
               try clear c6
               try clear c6b0
               try clear c6b1
               try clear p6
               try clear c8
               try clear c9
               try clear c9b0
               try clear c9b1
               try clear c12
               try clear c12b0
               try clear c12b1
               try clear c13
               try clear c13b0
               try clear c13b1
               try clear c14
               try clear c15
               try clear c15b0
               try clear c17
               try clear c17b0
               try clear c18
               try clear c18b0
               try clear c19
               try clear c19b0
               try clear c19b1
               try clear c19b2
               try clear c20
               try clear c20b0
               try clear p20
               try clear q20
               try clear hx20
               try clear qi20
               try clear c23
               try clear hcz11_0
               try clear hcz11_1
               try clear hcz21_0
               try clear hcz21_1
               try clear hcz22_0
               try clear hcz22_1
               try clear hcz4_0
               try clear hcz4_1
               try clear hcz7_0
               try clear hcz7_1
               try clear hfz11_0
               try clear hfz11_1
               try clear hfz21_0
               try clear hfz21_1
               try clear hfz22_0
               try clear hfz22_1
               try clear hfz4_0
               try clear hfz4_1
               try clear hfz7_0
               try clear hfz7_1
               try clear hx200_0
               try clear hx201_0
               try clear hx202_0
               try clear p2
               try clear p20
               try clear p200
               try clear p201
               try clear p202
               try clear p6
               try clear q2
               try clear q20
               try clear q200
               try clear q201
               try clear q202
               obtain ⟨x6_5, rfl, HA, HK5, BK199, HB⟩ := hrel
               cases gk with
               | zero => exact absurd HA.out (by simp [spec_l07Is.l1])
               | succ k5 =>
                have H := HA.out
                clear HA
                simp only [spec_l07Is.l1] at H
                by_cases c24 : x6_5 < ((rd_L1 l0_0 0).length : Int)
                ·rw [if_pos c24] at H
                 have c24b0 : decide (x6_5 < ((rd_L1 l0_0 0).length : Int)) = true := decide_eq_true c24
                 clear c24
                 by_cases c25 : 0 ≤ x5_3
                 ·rw [if_pos c25] at H
                  have c25b0 : decide (0 ≤ x5_3) = true := decide_eq_true c25
                  clear c25
                  by_cases c26 : x5_3 < (l0_0.length : Int)
                  ·rw [if_pos c26] at H
                   have c26b0 : decide (x5_3 < (l0_0.length : Int)) = true := decide_eq_true c26
                   clear c26
                   by_cases c27 : 0 ≤ x6_5
                   ·rw [if_pos c27] at H
                    have c27b0 : decide (0 ≤ x6_5) = true := decide_eq_true c27
                    clear c27
                    by_cases c28 : x6_5 < ((rd_L1 l0_0 x5_3).length : Int)
                    ·rw [if_pos c28] at H
                     have c28b0 : decide (x6_5 < ((rd_L1 l0_0 x5_3).length : Int)) = true := decide_eq_true c28
                     clear c28
                     replace H := Option.bind_eq_some_iff.mp H
                     obtain ⟨t205, A290, H⟩ := H
                     replace H : (if t205 = true then (if x5_3 < (l0_1.length : Int) then (if x6_5 < ((rd_L1 l0_1 x5_3).length : Int) then ((spec_l01In.f (rd (rd_L1 l0_1 x5_3) x6_5) 1 20).bind fun t208 => (if t208 = true then (spec_l07Is.l1 k5 (l0_0.length : Int) ((rd_L1 l0_0 0).length : Int) x5_3 (wrap64 (x6_5 + 1)) l0_0 l0_1) else (some false))) else (none)) else (none)) else (some false)) = some r := H
                     have A29 := Aside0.mk A290
                     clear A290
                     by_cases c30 : t205 = true
                     ·subst c30
                      have H1 : (if x5_3 < (l0_1.length : Int) then (if x6_5 < ((rd_L1 l0_1 x5_3).length : Int) then ((spec_l01In.f (rd (rd_L1 l0_1 x5_3) x6_5) 1 20).bind fun t208 => (if t208 = true then (spec_l07Is.l1 k5 (l0_0.length : Int) ((rd_L1 l0_0 0).length : Int) x5_3 (wrap64 (x6_5 + 1)) l0_0 l0_1) else (some false))) else (none)) else (none)) = some r := by rw [if_pos rfl] at H; exact H
                      clear H
                      have H := H1
                      clear H1
                      by_cases c31 : x5_3 < (l0_1.length : Int)
                      ·rw [if_pos c31] at H
                       have c31b0 : decide (x5_3 < (l0_1.length : Int)) = true := decide_eq_true c31
                       clear c31
                       by_cases c32 : x6_5 < ((rd_L1 l0_1 x5_3).length : Int)
                       ·rw [if_pos c32] at H
                        have c32b0 : decide (x6_5 < ((rd_L1 l0_1 x5_3).length : Int)) = true := decide_eq_true c32
                        clear c32
                        replace H := Option.bind_eq_some_iff.mp H
                        obtain ⟨t208, A330, H⟩ := H
                        replace H : (if t208 = true then (spec_l07Is.l1 k5 (l0_0.length : Int) ((rd_L1 l0_0 0).length : Int) x5_3 (wrap64 (x6_5 + 1)) l0_0 l0_1) else (some false)) = some r := H
                        have A33 := Aside0.mk A330
                        clear A330
                        by_cases c34 : t208 = true
                        ·subst c34
                         have H1 : (spec_l07Is.l1 k5 (l0_0.length : Int) ((rd_L1 l0_0 0).length : Int) x5_3 (wrap64 (x6_5 + 1)) l0_0 l0_1) = some r := by rw [if_pos rfl] at H; exact H
                         clear H
                         have H := H1
                         clear H1
                         have H' := Aside0.mk H
                         clear H
                         have hcz35_0 : wr.cell? ⟨gb199, 0, none⟩ = some (.slice (some ad200) l0_0.length c0_0) := (blk_cell BK199.out 0).trans rfl
                         have hcz35_1 : wr.cell? ⟨gb199, 1, none⟩ = some (.slice A0_1 l0_1.length c0_1) := (blk_cell BK199.out 1).trans rfl
                         have hfz35_0 := blk_frozen BK199.out 0
                         have hfz35_1 := blk_frozen BK199.out 1
                         have p203 : 0 ≤ (x5_3 : Int) := of_decide_eq_true (by first | (with_reducible assumption) | assumption)
                         have q203 : x5_3 < (l0_0.length : Int) := of_decide_eq_true (by first | (with_reducible assumption) | assumption)
                         obtain ⟨ad203, A203_0, c203_0, e203, hx203_0, hl203_0, hi203_0⟩ := at_L1 HR0_0.out x5_3 p203 q203
                         obtain rfl : ad200 = ad203 := (by injection e203)
                         replace hx203_0 := (HB.out.cell (World.block_lt_of_cell? w _ hx203_0)).trans hx203_0
                         have HR203_0 := Aside0.mk hi203_0
                         have HC203_0 := Aside0.mk hl203_0
                         clear hi203_0 hl203_0
                         replace p203 := eq_true p203
                         replace q203 := eq_true q203
                         have p204 : 0 ≤ (x6_5 : Int) := of_decide_eq_true (by first | (with_reducible assumption) | assumption)
                         have q204 : x6_5 < ((rd_L1 l0_0 x5_3).length : Int) := of_decide_eq_true (by first | (with_reducible assumption) | assumption)
                         obtain ⟨ad204, e204, hx204_0⟩ := Kd.at_int HR203_0.out x6_5 p204 q204
                         cases e204
                         replace hx204_0 := (HB.out.cell (World.block_lt_of_cell? w _ hx204_0)).trans hx204_0
                         replace p204 := eq_true p204
                         replace q204 := eq_true q204
                         go_wp2_with (first | ((with_reducible refine gate_callee (f := 87) rfl ?_); refine goesL_ (some 76) rfl rfl Try.func87 (by kernel_rfl) rfl #[.int .i64 (rd (rd_L1 l0_0 x5_3) x6_5), .int .i64 1, .int .i64 20] rfl (by (try simp only [List.map_toArray, List.map_cons, List.map_nil]); first | done | rfl | (simp only [List.length_drop, List.length_take]; rfl)) ?_; (with_reducible refine (spec_l01In.calls (rd (rd_L1 l0_0 x5_3) x6_5) 1 20 true _ A29.out).mono ?_); rintro e w' ⟨rfl, ⟨nd, rfl⟩⟩; refine ⟨_, rfl, ?_⟩; have p206 : 0 ≤ (x5_3 : Int) := of_decide_eq_true (by first | (with_reducible assumption) | assumption); have q206 : x5_3 < (l0_1.length : Int) := of_decide_eq_true (by first | (with_reducible assumption) | assumption); obtain ⟨ad206, A206_0, c206_0, e206, hx206_0, hl206_0, hi206_0⟩ := at_L1 HR0_1.out x5_3 p206 q206; cases e206; replace hx206_0 := (HB.out.cell (World.block_lt_of_cell? w _ hx206_0)).trans hx206_0; have HR206_0 := Aside0.mk hi206_0; have HC206_0 := Aside0.mk hl206_0; clear hi206_0 hl206_0; replace p206 := eq_true p206; replace q206 := eq_true q206; have p207 : 0 ≤ (x6_5 : Int) := of_decide_eq_true (by first | (with_reducible assumption) | assumption); have q207 : x6_5 < ((rd_L1 l0_1 x5_3).length : Int) := of_decide_eq_true (by first | (with_reducible assumption) | assumption); obtain ⟨ad207, e207, hx207_0⟩ := Kd.at_int HR206_0.out x6_5 p207 q207; cases e207; replace hx207_0 := (HB.out.cell (World.block_lt_of_cell? w _ hx207_0)).trans hx207_0; replace p207 := eq_true p207; replace q207 := eq_true q207) | (go_at_call 87; (with_reducible refine (spec_l01In.calls (rd (rd_L1 l0_1 x5_3) x6_5) 1 20 true _ A33.out).mono ?_); rintro e w' ⟨rfl, ⟨nd, rfl⟩⟩))
                         go_roundg k5
                         case measure => have := HJ1.out; have := HJ9.out; have := HK3.out; have := HJ15.out; have := HK5.out; omega
                         case rel => exact ⟨(wrap64 (x6_5 + 1)), (by first | rfl | (simp; done) | (simp [*]; done)), H', ⟨by have := HJ1.out; have := HJ9.out; have := HK3.out; have := HJ15.out; have := HK5.out; omega⟩, ⟨by (with_reducible repeat (first | refine blk_drewN ?_ _ | refine blk_drew ?_ | refine blk_alloc ?_ _)); exact BK199.out⟩, ⟨by repeat (first | (with_reducible first | exact HB.out | apply below_alloc | apply pw_below_drewN | apply below_drew1 | refine below_set ?_ GE199.out) | exact HB.out)⟩⟩
                        ·replace c34 := Bool.eq_false_iff.mpr c34
                         subst c34
                         have H1 : (some false) = some r := by rw [if_neg (show ¬ (false = true) by decide)] at H; exact H
                         clear H
                         have H := H1
                         clear H1
                         obtain rfl := Option.some.inj H
                         have hcz36_0 : wr.cell? ⟨gb199, 0, none⟩ = some (.slice (some ad200) l0_0.length c0_0) := (blk_cell BK199.out 0).trans rfl
                         have hcz36_1 : wr.cell? ⟨gb199, 1, none⟩ = some (.slice A0_1 l0_1.length c0_1) := (blk_cell BK199.out 1).trans rfl
                         have hfz36_0 := blk_frozen BK199.out 0
                         have hfz36_1 := blk_frozen BK199.out 1
                         have p203 : 0 ≤ (x5_3 : Int) := of_decide_eq_true (by first | (with_reducible assumption) | assumption)
                         have q203 : x5_3 < (l0_0.length : Int) := of_decide_eq_true (by first | (with_reducible assumption) | assumption)
                         obtain ⟨ad203, A203_0, c203_0, e203, hx203_0, hl203_0, hi203_0⟩ := at_L1 HR0_0.out x5_3 p203 q203
                         obtain rfl : ad200 = ad203 := (by injection e203)
                         replace hx203_0 := (HB.out.cell (World.block_lt_of_cell? w _ hx203_0)).trans hx203_0
                         have HR203_0 := Aside0.mk hi203_0
                         have HC203_0 := Aside0.mk hl203_0
                         clear hi203_0 hl203_0
                         replace p203 := eq_true p203
                         replace q203 := eq_true q203
                         have p204 : 0 ≤ (x6_5 : Int) := of_decide_eq_true (by first | (with_reducible assumption) | assumption)
                         have q204 : x6_5 < ((rd_L1 l0_0 x5_3).length : Int) := of_decide_eq_true (by first | (with_reducible assumption) | assumption)
                         obtain ⟨ad204, e204, hx204_0⟩ := Kd.at_int HR203_0.out x6_5 p204 q204
                         cases e204
                         replace hx204_0 := (HB.out.cell (World.block_lt_of_cell? w _ hx204_0)).trans hx204_0
                         replace p204 := eq_true p204
                         replace q204 := eq_true q204
                         go_wp2_with (first | ((with_reducible refine gate_callee (f := 87) rfl ?_); refine goesL_ (some 76) rfl rfl Try.func87 (by kernel_rfl) rfl #[.int .i64 (rd (rd_L1 l0_0 x5_3) x6_5), .int .i64 1, .int .i64 20] rfl (by (try simp only [List.map_toArray, List.map_cons, List.map_nil]); first | done | rfl | (simp only [List.length_drop, List.length_take]; rfl)) ?_; (with_reducible refine (spec_l01In.calls (rd (rd_L1 l0_0 x5_3) x6_5) 1 20 true _ A29.out).mono ?_); rintro e w' ⟨rfl, ⟨nd, rfl⟩⟩; refine ⟨_, rfl, ?_⟩; have p206 : 0 ≤ (x5_3 : Int) := of_decide_eq_true (by first | (with_reducible assumption) | assumption); have q206 : x5_3 < (l0_1.length : Int) := of_decide_eq_true (by first | (with_reducible assumption) | assumption); obtain ⟨ad206, A206_0, c206_0, e206, hx206_0, hl206_0, hi206_0⟩ := at_L1 HR0_1.out x5_3 p206 q206; cases e206; replace hx206_0 := (HB.out.cell (World.block_lt_of_cell? w _ hx206_0)).trans hx206_0; have HR206_0 := Aside0.mk hi206_0; have HC206_0 := Aside0.mk hl206_0; clear hi206_0 hl206_0; replace p206 := eq_true p206; replace q206 := eq_true q206; have p207 : 0 ≤ (x6_5 : Int) := of_decide_eq_true (by first | (with_reducible assumption) | assumption); have q207 : x6_5 < ((rd_L1 l0_1 x5_3).length : Int) := of_decide_eq_true (by first | (with_reducible assumption) | assumption); obtain ⟨ad207, e207, hx207_0⟩ := Kd.at_int HR206_0.out x6_5 p207 q207; cases e207; replace hx207_0 := (HB.out.cell (World.block_lt_of_cell? w _ hx207_0)).trans hx207_0; replace p207 := eq_true p207; replace q207 := eq_true q207) | (go_at_call 87; (with_reducible refine (spec_l01In.calls (rd (rd_L1 l0_1 x5_3) x6_5) 1 20 false _ A33.out).mono ?_); rintro e w' ⟨rfl, ⟨nd, rfl⟩⟩))
                         go_ret
                         exact ⟨by first | rfl | (simp [errW_none, errW_some] <;> rfl) | (simp [*, errW_none, errW_some] <;> rfl), by repeat (first | (with_reducible first | exact HB.out | apply below_alloc | apply pw_below_drewN | apply below_drew1 | refine below_set ?_ GE199.out) | exact HB.out)⟩
                       ·rw [if_neg c32] at H
                        exact absurd H (by simp)
                      ·rw [if_neg c31] at H
                       exact absurd H (by simp)
                     ·replace c30 := Bool.eq_false_iff.mpr c30
                      subst c30
                      have H1 : (some false) = some r := by rw [if_neg (show ¬ (false = true) by decide)] at H; exact H
                      clear H
                      have H := H1
                      clear H1
                      obtain rfl := Option.some.inj H
                      have hcz37_0 : wr.cell? ⟨gb199, 0, none⟩ = some (.slice (some ad200) l0_0.length c0_0) := (blk_cell BK199.out 0).trans rfl
                      have hcz37_1 : wr.cell? ⟨gb199, 1, none⟩ = some (.slice A0_1 l0_1.length c0_1) := (blk_cell BK199.out 1).trans rfl
                      have hfz37_0 := blk_frozen BK199.out 0
                      have hfz37_1 := blk_frozen BK199.out 1
                      have p203 : 0 ≤ (x5_3 : Int) := of_decide_eq_true (by first | (with_reducible assumption) | assumption)
                      have q203 : x5_3 < (l0_0.length : Int) := of_decide_eq_true (by first | (with_reducible assumption) | assumption)
                      obtain ⟨ad203, A203_0, c203_0, e203, hx203_0, hl203_0, hi203_0⟩ := at_L1 HR0_0.out x5_3 p203 q203
                      obtain rfl : ad200 = ad203 := (by injection e203)
                      replace hx203_0 := (HB.out.cell (World.block_lt_of_cell? w _ hx203_0)).trans hx203_0
                      have HR203_0 := Aside0.mk hi203_0
                      have HC203_0 := Aside0.mk hl203_0
                      clear hi203_0 hl203_0
                      replace p203 := eq_true p203
                      replace q203 := eq_true q203
                      have p204 : 0 ≤ (x6_5 : Int) := of_decide_eq_true (by first | (with_reducible assumption) | assumption)
                      have q204 : x6_5 < ((rd_L1 l0_0 x5_3).length : Int) := of_decide_eq_true (by first | (with_reducible assumption) | assumption)
                      obtain ⟨ad204, e204, hx204_0⟩ := Kd.at_int HR203_0.out x6_5 p204 q204
                      cases e204
                      replace hx204_0 := (HB.out.cell (World.block_lt_of_cell? w _ hx204_0)).trans hx204_0
                      replace p204 := eq_true p204
                      replace q204 := eq_true q204
                      go_wp2_with (first | ((with_reducible refine gate_callee (f := 87) rfl ?_); refine goesL_ (some 76) rfl rfl Try.func87 (by kernel_rfl) rfl #[.int .i64 (rd (rd_L1 l0_0 x5_3) x6_5), .int .i64 1, .int .i64 20] rfl (by (try simp only [List.map_toArray, List.map_cons, List.map_nil]); first | done | rfl | (simp only [List.length_drop, List.length_take]; rfl)) ?_; (with_reducible refine (spec_l01In.calls (rd (rd_L1 l0_0 x5_3) x6_5) 1 20 false _ A29.out).mono ?_); rintro e w' ⟨rfl, ⟨nd, rfl⟩⟩; refine ⟨_, rfl, ?_⟩))
                      go_ret
                      exact ⟨by first | rfl | (simp [errW_none, errW_some] <;> rfl) | (simp [*, errW_none, errW_some] <;> rfl), by repeat (first | (with_reducible first | exact HB.out | apply below_alloc | apply pw_below_drewN | apply below_drew1 | refine below_set ?_ GE199.out) | exact HB.out)⟩
                    ·rw [if_neg c28] at H
                     exact absurd H (by simp)
                   ·rw [if_neg c27] at H
                    exact absurd H (by simp)
                  ·rw [if_neg c26] at H
                   exact absurd H (by simp)
                 ·rw [if_neg c25] at H
                  exact absurd H (by simp)
                ·rw [if_neg c24] at H
                 have c24b0 : decide (x6_5 < ((rd_L1 l0_0 0).length : Int)) = false := decide_eq_false c24
                 clear c24
                 have H' := Aside0.mk H
                 clear H
                 go_wp2
                 go_roundg k5
                 case measure => have := HJ1.out; have := HJ9.out; have := HK3.out; have := HJ15.out; have := HK5.out; omega
                 case rel => exact ⟨(wrap64 (x5_3 + 1)), (by first | rfl | (simp; done) | (simp [*]; done)), H', ⟨by have := HJ1.out; have := HJ9.out; have := HK3.out; have := HJ15.out; have := HK5.out; omega⟩, ⟨by (with_reducible repeat (first | refine blk_drewN ?_ _ | refine blk_drew ?_ | refine blk_alloc ?_ _)); exact BK199.out⟩, ⟨by repeat (first | (with_reducible first | exact HB.out | apply below_alloc | apply pw_below_drewN | apply below_drew1 | refine below_set ?_ GE199.out) | exact HB.out)⟩⟩
          ·rw [if_neg c15] at H
           have c15b0 : decide (x5_3 < (l0_0.length : Int)) = false := decide_eq_false c15
           clear c15
           obtain rfl := Option.some.inj H
           go_wp2
           go_ret
           exact ⟨by first | rfl | (simp [errW_none, errW_some] <;> rfl) | (simp [*, errW_none, errW_some] <;> rfl), by repeat (first | (with_reducible first | exact HB.out | apply below_alloc | apply pw_below_drewN | apply below_drew1 | refine below_set ?_ GE199.out) | exact HB.out)⟩
    ·rw [if_neg c9] at H
     exact absurd H (by simp)
def spec_l01Gcd.l0 : Nat → Int → Int → Option (Int)
 | 0, _, _ => none
 | k + 1, x0, x1 => if x1 = 0 then (some (mx x0 (wrap64 (-x0)))) else (spec_l01Gcd.l0 k x1 (Int.tmod x0 x1))
def spec_l01Gcd.f (k : Nat) (a0 : Int) (a1 : Int) : Option (Int) := spec_l01Gcd.l0 k a0 a1
theorem spec_l01Gcd.mono_l : ∀ k, (∀ y0 y1, LeO (spec_l01Gcd.l0 k y0 y1) (spec_l01Gcd.l0 (k + 1) y0 y1))
 | 0 => fun _ _ r h => by simp [spec_l01Gcd.l0] at h
 | k + 1 => by
  have ih0 := spec_l01Gcd.mono_l k
  ·intro y0 y1
   unfold spec_l01Gcd.l0
   repeat' first
   | (with_reducible exact ih0 _ _)
   | (with_reducible exact LeO.refl _)
   | (with_reducible exact LeO.none _)
   | (with_reducible refine LeO.ite ?_ ?_)
   | (with_reducible refine LeO.bind ?_ (fun _ => ?_))
   | exact ih0 _ _
   | exact LeO.none _
   | refine LeO.ite ?_ ?_
   | refine LeO.bind ?_ (fun _ => ?_)
theorem spec_l01Gcd.mono : ∀ a0 a1 k, LeO (spec_l01Gcd.f k a0 a1) (spec_l01Gcd.f (k + 1) a0 a1) := by
 intro a0 a1 k
 have ih0 := spec_l01Gcd.mono_l k
 unfold spec_l01Gcd.f
 repeat' first
   | (with_reducible exact ih0 _ _)
   | (with_reducible exact LeO.refl _)
   | (with_reducible exact LeO.none _)
   | (with_reducible refine LeO.ite ?_ ?_)
   | (with_reducible refine LeO.bind ?_ (fun _ => ?_))
   | exact ih0 _ _
   | exact LeO.none _
   | refine LeO.ite ?_ ?_
   | refine LeO.bind ?_ (fun _ => ?_)
theorem spec_l01Gcd.calls (k : Nat) (a0 : Int) (a1 : Int) (r : Int) (w : World) (h : spec_l01Gcd.f k a0 a1 = some r) :
  Calls Try.prog 133 #[.int .i64 a0, .int .i64 a1] w fun e w' => e = .returned (.int .i64 r) ∧ Below w.heap.size w w' := by
 have HB := Aside0.mk (Below.refl w.heap.size w)
 have H : (spec_l01Gcd.l0 k a0 a1) = some r := h
 clear h
 have H' := Aside0.mk H
 clear H
 go_enter Try.func133, Try.ntmps133
 go_wp2
 go_loopg [0, 1] k (fun kq v0 v1 w' => ∃ (x0_1 : Int) (x1_1 : Int), v0 = .int .i64 x0_1 ∧ v1 = .int .i64 x1_1 ∧ Aside0 (spec_l01Gcd.l0 kq x0_1 x1_1 = some r) ∧ Aside0 (kq ≤ k) ∧ Aside0 (Below w.heap.size w w'))
 case atStart => exact ⟨(a0), (a1), (by first | rfl | (simp; done) | (simp [*]; done)), (by first | rfl | (simp; done) | (simp [*]; done)), H', ⟨Nat.le_refl _⟩, ⟨by repeat (first | (with_reducible first | exact HB.out | apply below_alloc | apply pw_below_drewN | apply below_drew1) | exact HB.out)⟩⟩
 case round =>
  clear H'
  try clear c1
  try clear p2
  obtain ⟨x0_1, x1_1, rfl, rfl, HA, HK1, HB⟩ := hrel
  cases gk with
  | zero => exact absurd HA.out (by simp [spec_l01Gcd.l0])
  | succ k1 =>
   have H := HA.out
   clear HA
   simp only [spec_l01Gcd.l0] at H
   by_cases c3 : x1_1 = 0
   ·rw [if_pos c3] at H
    have c3b0 : (x1_1 == 0) = true := beq_iff_eq.mpr c3
    have c3b1 : (x1_1 != 0) = false := bne_eq_false_iff_eq.mpr c3
    clear c3
    obtain ⟨ji4, hji4⟩ : ∃ j_ : Int, (mx x0_1 (wrap64 (-x0_1))) = j_ := ⟨_, rfl⟩
    replace H : (some ji4) = some r := by first | (rw [hji4] at H; exact H) | (simp only [hji4] at H ⊢; exact H)
    have hji4_ : (if x0_1 < (wrap64 (-x0_1)) then (wrap64 (-x0_1)) else x0_1) = ji4 := hji4
    obtain rfl := Option.some.inj H
    go_wp2
    go_ret
    exact ⟨by first | rfl | (simp [errW_none, errW_some] <;> rfl) | (simp only [← hji4]; first | rfl | (simp [errW_none, errW_some] <;> rfl)) | (simp [*, errW_none, errW_some] <;> rfl), by repeat (first | (with_reducible first | exact HB.out | apply below_alloc | apply pw_below_drewN | apply below_drew1) | exact HB.out)⟩
   ·rw [if_neg c3] at H
    have c3b0 : (x1_1 == 0) = false := beq_eq_false_iff_ne.mpr c3
    have c3b1 : (x1_1 != 0) = true := bne_iff_ne.mpr c3
    have H' := Aside0.mk H
    clear H
    go_wp2
    go_roundg k1
    case measure => have := HK1.out; omega
    case rel => exact ⟨(x1_1), (Int.tmod x0_1 x1_1), (by first | rfl | (simp; done) | (simp [*]; done)), (by first | rfl | (simp; done) | (simp [*]; done)), H', ⟨by have := HK1.out; omega⟩, ⟨by repeat (first | (with_reducible first | exact HB.out | apply below_alloc | apply pw_below_drewN | apply below_drew1) | exact HB.out)⟩⟩
def spec_l01IsFrac.f (k : Nat) (a0_0 : Int) (a0_1 : Int) (a1 : Int) : Option (Bool) := (spec_l01In.f a0_1 1 a1).bind fun t648 => (if t648 = true then ((spec_l01In.f a0_0 (wrap64 (-a1)) a1).bind fun t649 => (if t649 = true then ((spec_l01Gcd.f k a0_0 a0_1).bind fun t650 => (some (t650 == 1))) else (some false))) else (some false))
theorem spec_l01IsFrac.mono : ∀ a0 a1 a2 k, LeO (spec_l01IsFrac.f k a0 a1 a2) (spec_l01IsFrac.f (k + 1) a0 a1 a2) := by
 intro a0 a1 a2 k
 unfold spec_l01IsFrac.f
 repeat' first
   | (with_reducible exact spec_l01Gcd.mono _ _ _)
   | (with_reducible exact LeO.refl _)
   | (with_reducible exact LeO.none _)
   | (with_reducible refine LeO.ite ?_ ?_)
   | (with_reducible refine LeO.bind ?_ (fun _ => ?_))
   | exact spec_l01Gcd.mono _ _ _
   | exact LeO.none _
   | refine LeO.ite ?_ ?_
   | refine LeO.bind ?_ (fun _ => ?_)
theorem spec_l01IsFrac.calls (k : Nat) (a0_0 : Int) (a0_1 : Int) (a1 : Int) (r : Bool) (w : World) (h : spec_l01IsFrac.f k a0_0 a0_1 a1 = some r) :
  Calls Try.prog 132 #[.agg #[.int .i64 a0_0, .int .i64 a0_1], .int .i64 a1] w fun e w' => e = .returned (.bool r) ∧ Below w.heap.size w w' := by
 have hu65 := Try.underlying65
 have HB := Aside0.mk (Below.refl w.heap.size w)
 have H : ((spec_l01In.f a0_1 1 a1).bind fun t648 => (if t648 = true then ((spec_l01In.f a0_0 (wrap64 (-a1)) a1).bind fun t649 => (if t649 = true then ((spec_l01Gcd.f k a0_0 a0_1).bind fun t650 => (some (t650 == 1))) else (some false))) else (some false))) = some r := h
 clear h
 replace H := Option.bind_eq_some_iff.mp H
 obtain ⟨t648, A30, H⟩ := H
 replace H : (if t648 = true then ((spec_l01In.f a0_0 (wrap64 (-a1)) a1).bind fun t649 => (if t649 = true then ((spec_l01Gcd.f k a0_0 a0_1).bind fun t650 => (some (t650 == 1))) else (some false))) else (some false)) = some r := H
 have A3 := Aside0.mk A30
 clear A30
 by_cases c4 : t648 = true
 ·subst c4
  have H1 : ((spec_l01In.f a0_0 (wrap64 (-a1)) a1).bind fun t649 => (if t649 = true then ((spec_l01Gcd.f k a0_0 a0_1).bind fun t650 => (some (t650 == 1))) else (some false))) = some r := by rw [if_pos rfl] at H; exact H
  clear H
  have H := H1
  clear H1
  replace H := Option.bind_eq_some_iff.mp H
  obtain ⟨t649, A50, H⟩ := H
  replace H : (if t649 = true then ((spec_l01Gcd.f k a0_0 a0_1).bind fun t650 => (some (t650 == 1))) else (some false)) = some r := H
  have A5 := Aside0.mk A50
  clear A50
  by_cases c6 : t649 = true
  ·subst c6
   have H1 : ((spec_l01Gcd.f k a0_0 a0_1).bind fun t650 => (some (t650 == 1))) = some r := by rw [if_pos rfl] at H; exact H
   clear H
   have H := H1
   clear H1
   replace H := Option.bind_eq_some_iff.mp H
   obtain ⟨t650, A70, H⟩ := H
   replace H : (some (t650 == 1)) = some r := H
   have A7 := Aside0.mk A70
   clear A70
   obtain rfl := Option.some.inj H
   go_enter Try.func132, Try.ntmps132
   go_wp2_with (first | ((with_reducible refine gate_dst (N := 2) rfl ?_); refine box_event ?hg (N := 2) ?hd (cs := #[.int .i64 a0_0, .int .i64 a0_1]) (t := 65) ?hr ?_; (case hd => rfl); (case hg => rfl); (case hr => first | (go_simp; done) | (go_simp; rfl)); intro gb647 hg w8 hbox hb; have n0_ := Aside0.mk (below_step (by repeat (first | (with_reducible first | exact HB.out | apply below_alloc | apply pw_below_drewN | apply below_drew1) | exact HB.out)) hb); have n1_ := Aside0.mk (hbox); have n2_ := Aside0.mk ((by rw [hg]; exact (below_size (by repeat (first | (with_reducible first | exact HB.out | apply below_alloc | apply pw_below_drewN | apply below_drew1) | exact HB.out))) : w.heap.size ≤ gb647)); have n3_ := Aside0.mk ((by rw [hg]; exact (below_size (by repeat (first | (with_reducible first | exact HB.out | apply below_alloc | apply pw_below_drewN | apply below_drew1) | exact HB.out))) : w.heap.size ≤ gb647)); clear HB; have HB := n0_; have BK647 := n1_; have GW647 := n2_; have GE647 := n3_; clear n0_ n1_ n2_ n3_; clear hb hbox hg; have hcz9_0 : w8.cell? ⟨gb647, 0, none⟩ = some (.int .i64 a0_0) := (blk_cell BK647.out 0).trans rfl; have hcz9_1 : w8.cell? ⟨gb647, 1, none⟩ = some (.int .i64 a0_1) := (blk_cell BK647.out 1).trans rfl; have hfz9_0 := blk_frozen BK647.out 0; have hfz9_1 := blk_frozen BK647.out 1) | ((with_reducible refine gate_callee (f := 87) rfl ?_); refine goesL_ (some 8) rfl rfl Try.func87 (by kernel_rfl) rfl #[.int .i64 a0_1, .int .i64 1, .int .i64 a1] rfl (by (try simp only [List.map_toArray, List.map_cons, List.map_nil]); first | done | rfl | (simp only [List.length_drop, List.length_take]; rfl)) ?_; (with_reducible refine (spec_l01In.calls a0_1 1 a1 true _ A3.out).mono ?_); rintro e w' ⟨rfl, ⟨nd, rfl⟩⟩; refine ⟨_, rfl, ?_⟩) | (go_at_call 87; (with_reducible refine (spec_l01In.calls a0_0 (wrap64 (-a1)) a1 true _ A5.out).mono ?_); rintro e w' ⟨rfl, ⟨nd, rfl⟩⟩) | (go_at_call 133; (with_reducible refine (spec_l01Gcd.calls k a0_0 a0_1 t650 _ A7.out).mono ?_); rintro e w10 ⟨rfl, hb⟩; have n0_ := Aside0.mk (blk_below (g := gb647) (o := .cells #[.int .i64 a0_0, .int .i64 a0_1] 65 (0, 0)) (by (with_reducible repeat (first | refine blk_drewN ?_ _ | refine blk_drew ?_ | refine blk_alloc ?_ _)); exact BK647.out) hb); have n1_ := Aside0.mk (below_step (by repeat (first | (with_reducible first | exact HB.out | apply below_alloc | apply pw_below_drewN | apply below_drew1 | refine below_set ?_ GE647.out) | exact HB.out)) hb); clear BK647; clear HB; have BK647 := n0_; have HB := n1_; clear n0_ n1_; (try clear hb); (try clear hb2); (try clear hk); (try clear hi)))
   go_ret
   exact ⟨by first | rfl | (simp [errW_none, errW_some] <;> rfl) | (simp [*, errW_none, errW_some] <;> rfl), by repeat (first | (with_reducible first | exact HB.out | apply below_alloc | apply pw_below_drewN | apply below_drew1 | refine below_set ?_ GE647.out) | exact HB.out)⟩
  ·replace c6 := Bool.eq_false_iff.mpr c6
   subst c6
   have H1 : (some false) = some r := by rw [if_neg (show ¬ (false = true) by decide)] at H; exact H
   clear H
   have H := H1
   clear H1
   obtain rfl := Option.some.inj H
   go_enter Try.func132, Try.ntmps132
   go_wp2_with (first | ((with_reducible refine gate_dst (N := 2) rfl ?_); refine box_event ?hg (N := 2) ?hd (cs := #[.int .i64 a0_0, .int .i64 a0_1]) (t := 65) ?hr ?_; (case hd => rfl); (case hg => rfl); (case hr => first | (go_simp; done) | (go_simp; rfl)); intro gb647 hg w11 hbox hb; have n0_ := Aside0.mk (below_step (by repeat (first | (with_reducible first | exact HB.out | apply below_alloc | apply pw_below_drewN | apply below_drew1) | exact HB.out)) hb); have n1_ := Aside0.mk (hbox); have n2_ := Aside0.mk ((by rw [hg]; exact (below_size (by repeat (first | (with_reducible first | exact HB.out | apply below_alloc | apply pw_below_drewN | apply below_drew1) | exact HB.out))) : w.heap.size ≤ gb647)); have n3_ := Aside0.mk ((by rw [hg]; exact (below_size (by repeat (first | (with_reducible first | exact HB.out | apply below_alloc | apply pw_below_drewN | apply below_drew1) | exact HB.out))) : w.heap.size ≤ gb647)); clear HB; have HB := n0_; have BK647 := n1_; have GW647 := n2_; have GE647 := n3_; clear n0_ n1_ n2_ n3_; clear hb hbox hg; have hcz12_0 : w11.cell? ⟨gb647, 0, none⟩ = some (.int .i64 a0_0) := (blk_cell BK647.out 0).trans rfl; have hcz12_1 : w11.cell? ⟨gb647, 1, none⟩ = some (.int .i64 a0_1) := (blk_cell BK647.out 1).trans rfl; have hfz12_0 := blk_frozen BK647.out 0; have hfz12_1 := blk_frozen BK647.out 1) | ((with_reducible refine gate_callee (f := 87) rfl ?_); refine goesL_ (some 8) rfl rfl Try.func87 (by kernel_rfl) rfl #[.int .i64 a0_1, .int .i64 1, .int .i64 a1] rfl (by (try simp only [List.map_toArray, List.map_cons, List.map_nil]); first | done | rfl | (simp only [List.length_drop, List.length_take]; rfl)) ?_; (with_reducible refine (spec_l01In.calls a0_1 1 a1 true _ A3.out).mono ?_); rintro e w' ⟨rfl, ⟨nd, rfl⟩⟩; refine ⟨_, rfl, ?_⟩) | (go_at_call 87; (with_reducible refine (spec_l01In.calls a0_0 (wrap64 (-a1)) a1 false _ A5.out).mono ?_); rintro e w' ⟨rfl, ⟨nd, rfl⟩⟩))
   go_ret
   exact ⟨by first | rfl | (simp [errW_none, errW_some] <;> rfl) | (simp [*, errW_none, errW_some] <;> rfl), by repeat (first | (with_reducible first | exact HB.out | apply below_alloc | apply pw_below_drewN | apply below_drew1 | refine below_set ?_ GE647.out) | exact HB.out)⟩
 ·replace c4 := Bool.eq_false_iff.mpr c4
  subst c4
  have H1 : (some false) = some r := by rw [if_neg (show ¬ (false = true) by decide)] at H; exact H
  clear H
  have H := H1
  clear H1
  obtain rfl := Option.some.inj H
  go_enter Try.func132, Try.ntmps132
  go_wp2_with (first | ((with_reducible refine gate_dst (N := 2) rfl ?_); refine box_event ?hg (N := 2) ?hd (cs := #[.int .i64 a0_0, .int .i64 a0_1]) (t := 65) ?hr ?_; (case hd => rfl); (case hg => rfl); (case hr => first | (go_simp; done) | (go_simp; rfl)); intro gb647 hg w13 hbox hb; have n0_ := Aside0.mk (below_step (by repeat (first | (with_reducible first | exact HB.out | apply below_alloc | apply pw_below_drewN | apply below_drew1) | exact HB.out)) hb); have n1_ := Aside0.mk (hbox); have n2_ := Aside0.mk ((by rw [hg]; exact (below_size (by repeat (first | (with_reducible first | exact HB.out | apply below_alloc | apply pw_below_drewN | apply below_drew1) | exact HB.out))) : w.heap.size ≤ gb647)); have n3_ := Aside0.mk ((by rw [hg]; exact (below_size (by repeat (first | (with_reducible first | exact HB.out | apply below_alloc | apply pw_below_drewN | apply below_drew1) | exact HB.out))) : w.heap.size ≤ gb647)); clear HB; have HB := n0_; have BK647 := n1_; have GW647 := n2_; have GE647 := n3_; clear n0_ n1_ n2_ n3_; clear hb hbox hg; have hcz14_0 : w13.cell? ⟨gb647, 0, none⟩ = some (.int .i64 a0_0) := (blk_cell BK647.out 0).trans rfl; have hcz14_1 : w13.cell? ⟨gb647, 1, none⟩ = some (.int .i64 a0_1) := (blk_cell BK647.out 1).trans rfl; have hfz14_0 := blk_frozen BK647.out 0; have hfz14_1 := blk_frozen BK647.out 1) | ((with_reducible refine gate_callee (f := 87) rfl ?_); refine goesL_ (some 8) rfl rfl Try.func87 (by kernel_rfl) rfl #[.int .i64 a0_1, .int .i64 1, .int .i64 a1] rfl (by (try simp only [List.map_toArray, List.map_cons, List.map_nil]); first | done | rfl | (simp only [List.length_drop, List.length_take]; rfl)) ?_; (with_reducible refine (spec_l01In.calls a0_1 1 a1 false _ A3.out).mono ?_); rintro e w' ⟨rfl, ⟨nd, rfl⟩⟩; refine ⟨_, rfl, ?_⟩))
  go_ret
  exact ⟨by first | rfl | (simp [errW_none, errW_some] <;> rfl) | (simp [*, errW_none, errW_some] <;> rfl), by repeat (first | (with_reducible first | exact HB.out | apply below_alloc | apply pw_below_drewN | apply below_drew1 | refine below_set ?_ GE647.out) | exact HB.out)⟩
def spec_IsFrac.f (k : Nat) (a0_0 : Int) (a0_1 : Int) : Option (Bool) := (spec_l01IsFrac.f k a0_0 a0_1 1000000000).bind fun t652 => (some t652)
theorem spec_IsFrac.mono : ∀ a0 a1 k, LeO (spec_IsFrac.f k a0 a1) (spec_IsFrac.f (k + 1) a0 a1) := by
 intro a0 a1 k
 unfold spec_IsFrac.f
 repeat' first
   | (with_reducible exact spec_l01IsFrac.mono _ _ _ _)
   | (with_reducible exact LeO.refl _)
   | (with_reducible exact LeO.none _)
   | (with_reducible refine LeO.ite ?_ ?_)
   | (with_reducible refine LeO.bind ?_ (fun _ => ?_))
   | exact spec_l01IsFrac.mono _ _ _ _
   | exact LeO.none _
   | refine LeO.ite ?_ ?_
   | refine LeO.bind ?_ (fun _ => ?_)
theorem spec_IsFrac.calls (k : Nat) (a0_0 : Int) (a0_1 : Int) (r : Bool) (w : World) (h : spec_IsFrac.f k a0_0 a0_1 = some r) :
  Calls Try.prog 141 #[.agg #[.int .i64 a0_0, .int .i64 a0_1]] w fun e w' => e = .returned (.bool r) ∧ Below w.heap.size w w' := by
 have hu65 := Try.underlying65
 have HB := Aside0.mk (Below.refl w.heap.size w)
 have H : ((spec_l01IsFrac.f k a0_0 a0_1 1000000000).bind fun t652 => (some t652)) = some r := h
 clear h
 replace H := Option.bind_eq_some_iff.mp H
 obtain ⟨t652, A20, H⟩ := H
 replace H : (some t652) = some r := H
 have A2 := Aside0.mk A20
 clear A20
 obtain rfl := Option.some.inj H
 go_enter Try.func141, Try.ntmps141
 go_wp2_with (first | ((with_reducible refine gate_dst (N := 1) rfl ?_); refine box_event ?hg (N := 1) ?hd (cs := #[.int .i64 a0_0, .int .i64 a0_1]) (t := 65) ?hr ?_; (case hd => rfl); (case hg => rfl); (case hr => first | (go_simp; done) | (go_simp; rfl)); intro gb651 hg w3 hbox hb; have n0_ := Aside0.mk (below_step (by repeat (first | (with_reducible first | exact HB.out | apply below_alloc | apply pw_below_drewN | apply below_drew1) | exact HB.out)) hb); have n1_ := Aside0.mk (hbox); have n2_ := Aside0.mk ((by rw [hg]; exact (below_size (by repeat (first | (with_reducible first | exact HB.out | apply below_alloc | apply pw_below_drewN | apply below_drew1) | exact HB.out))) : w.heap.size ≤ gb651)); have n3_ := Aside0.mk ((by rw [hg]; exact (below_size (by repeat (first | (with_reducible first | exact HB.out | apply below_alloc | apply pw_below_drewN | apply below_drew1) | exact HB.out))) : w.heap.size ≤ gb651)); clear HB; have HB := n0_; have BK651 := n1_; have GW651 := n2_; have GE651 := n3_; clear n0_ n1_ n2_ n3_; clear hb hbox hg; have hcz4_0 : w3.cell? ⟨gb651, 0, none⟩ = some (.int .i64 a0_0) := (blk_cell BK651.out 0).trans rfl; have hcz4_1 : w3.cell? ⟨gb651, 1, none⟩ = some (.int .i64 a0_1) := (blk_cell BK651.out 1).trans rfl; have hfz4_0 := blk_frozen BK651.out 0; have hfz4_1 := blk_frozen BK651.out 1) | ((with_reducible refine gate_callee (f := 132) rfl ?_); refine goesL_ (some 4) rfl rfl Try.func132 (by kernel_rfl) rfl #[.agg #[.int .i64 a0_0, .int .i64 a0_1], .int .i64 1000000000] rfl (by (try simp only [List.map_toArray, List.map_cons, List.map_nil]); first | done | rfl | (simp only [List.length_drop, List.length_take]; rfl)) ?_; (with_reducible refine (spec_l01IsFrac.calls k a0_0 a0_1 1000000000 t652 _ A2.out).mono ?_); rintro e w5 ⟨rfl, hb⟩; refine ⟨_, rfl, ?_⟩; have n0_ := Aside0.mk (blk_below (g := gb651) (o := .cells #[.int .i64 a0_0, .int .i64 a0_1] 65 (0, 0)) (by (with_reducible repeat (first | refine blk_drewN ?_ _ | refine blk_drew ?_ | refine blk_alloc ?_ _)); exact BK651.out) hb); have n1_ := Aside0.mk (below_step (by repeat (first | (with_reducible first | exact HB.out | apply below_alloc | apply pw_below_drewN | apply below_drew1 | refine below_set ?_ GE651.out) | exact HB.out)) hb); clear BK651; clear HB; have BK651 := n0_; have HB := n1_; clear n0_ n1_; (try clear hb); (try clear hb2); (try clear hk); (try clear hi)))
 go_ret
 exact ⟨by first | rfl | (simp [errW_none, errW_some] <;> rfl) | (simp [*, errW_none, errW_some] <;> rfl), by repeat (first | (with_reducible first | exact HB.out | apply below_alloc | apply pw_below_drewN | apply below_drew1 | refine below_set ?_ GE651.out) | exact HB.out)⟩
end Go.Proofs.Ytjjbhdpjnjncbaa.Pr
end
