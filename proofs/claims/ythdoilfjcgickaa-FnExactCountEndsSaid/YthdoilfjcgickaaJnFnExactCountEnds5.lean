/- Texts of one claim (the words of the kit's print that the claim uses, printed functions, and this session's own texts), joined in the order of their imports by this session's own program (merge.py). -/
import Derived.Test.YthdoilfjcgickaaRows
import Derived.WalkKit
import Derived.ProofKit
import Derived.OpenShut
import Derived.ShutString
import Derived.ChangeOld
import Derived.Below
import Derived.SizedLaws
import Derived.Test.YthdoilfjcgickaaJnFnExactCountEnds0
import Derived.Test.YthdoilfjcgickaaJnFnExactCountEnds1
import Derived.Test.YthdoilfjcgickaaJnFnExactCountEnds2
import Derived.Test.YthdoilfjcgickaaJnFnExactCountEnds3
import Derived.Test.YthdoilfjcgickaaJnFnExactCountEnds4
set_option linter.unusedVariables false
set_option linter.unusedSimpArgs false
set_option maxHeartbeats 8000000
set_option maxRecDepth 100000
section
namespace Go.Proofs.Ythdoilfjcgickaa.Pr
open Go.RowKit Go.Proofs.YthdoilfjcgickaaW.PrintWords Go.Proofs.YthdoilfjcgickaaW.PrintLast Go.Proofs.YthdoilfjcgickaaW.PrintMore
attribute [local go_sem] max2_int min2_int max_two min_two max_three min_three max_four min_four
def impl_CountEnds.l0 : Nat → Int → List Int → Int → Int → List (List Int) → List Int → Option (List Int × Int)
 | 0, _, _, _, _, _, _ => none
 | k + 1, x1, x7, x19, x20, x771000, x771001 => if x20 < x19 then ((impl_Problem_walk.f k x771000 x771001 x20 x1).bind fun bt776 => (if 0 ≤ bt776.2 then (if bt776.2 < (x7.length : Int) then (impl_CountEnds.l0 k x1 (x7.set (bt776.2 : Int).toNat (wrap64 ((rd x7 bt776.2) + 1))) x19 (wrap64 (x20 + 1)) x771000 x771001) else (none)) else (none))) else (some (x7, 0))
def impl_CountEnds.f (k : Nat) (l0_0 : List (List Int)) (l0_1 : List Int) (a1 : Int) : Option (List Int × Int) := (impl_ruleCode.f l0_0 l0_1 0 a1).bind fun t771 => (if t771 = 0 then (if 3 ≤ 35184372088832 then ((impl_Problem_all.f l0_0 l0_1).bind fun t775 => (impl_CountEnds.l0 k a1 (List.replicate 3 0) t775 0 l0_0 l0_1)) else (none)) else (some (([] : List Int), t771)))
theorem impl_CountEnds.mono_l : ∀ k, (∀ y0 y1 y2 y3 y4 y5, LeO (impl_CountEnds.l0 k y0 y1 y2 y3 y4 y5) (impl_CountEnds.l0 (k + 1) y0 y1 y2 y3 y4 y5))
 | 0 => fun _ _ _ _ _ _ r h => by simp [impl_CountEnds.l0] at h
 | k + 1 => by
  have ih0 := impl_CountEnds.mono_l k
  ·intro y0 y1 y2 y3 y4 y5
   unfold impl_CountEnds.l0
   repeat' first
   | (with_reducible exact ih0 _ _ _ _ _ _)
   | (with_reducible exact impl_Problem_walk.mono _ _ _ _ _)
   | (with_reducible exact LeO.refl _)
   | (with_reducible exact LeO.none _)
   | (with_reducible refine LeO.ite ?_ ?_)
   | (with_reducible refine LeO.bind ?_ (fun _ => ?_))
   | exact ih0 _ _ _ _ _ _
   | exact impl_Problem_walk.mono _ _ _ _ _
   | exact LeO.none _
   | refine LeO.ite ?_ ?_
   | refine LeO.bind ?_ (fun _ => ?_)
theorem impl_CountEnds.mono : ∀ a0 a1 a2 k, LeO (impl_CountEnds.f k a0 a1 a2) (impl_CountEnds.f (k + 1) a0 a1 a2) := by
 intro a0 a1 a2 k
 have ih0 := impl_CountEnds.mono_l k
 unfold impl_CountEnds.f
 repeat' first
   | (with_reducible exact ih0 _ _ _ _ _ _)
   | (with_reducible exact impl_Problem_walk.mono _ _ _ _ _)
   | (with_reducible exact LeO.refl _)
   | (with_reducible exact LeO.none _)
   | (with_reducible refine LeO.ite ?_ ?_)
   | (with_reducible refine LeO.bind ?_ (fun _ => ?_))
   | exact ih0 _ _ _ _ _ _
   | exact impl_Problem_walk.mono _ _ _ _ _
   | exact LeO.none _
   | refine LeO.ite ?_ ?_
   | refine LeO.bind ?_ (fun _ => ?_)
theorem impl_CountEnds.calls (k : Nat) (A0_0 : Option Addr) (c0_0 : Nat) (l0_0 : List (List Int)) (A0_1 : Option Addr) (c0_1 : Nat) (l0_1 : List Int) (a1 : Int) (r1 : List Int) (r2 : Int) (w : World) (hr0_0 : Kd.C (Kd.slice 2 (Kd.int .i64)) w A0_0 l0_0.length l0_0) (hc0_0 : l0_0.length ≤ c0_0) (hr0_1 : Kd.C (Kd.int .i64) w A0_1 l0_1.length l0_1) (hc0_1 : l0_1.length ≤ c0_1) (h : impl_CountEnds.f k l0_0 l0_1 a1 = some (r1, r2)) :
  Calls Try.prog 39 #[.agg #[.slice A0_0 l0_0.length c0_0, .slice A0_1 l0_1.length c0_1], .int .i64 a1] w fun e w' => ∃ v0_ : Value, e = .returned (.tuple #[v0_, .int .i64 r2]) ∧ Kd.R (Kd.int .i64) 2 w' w.heap.size (fun _ => True) v0_ r1 ∧ Below w.heap.size w w' := by
 have hu29 := Try.underlying29
 have HR0_0 := Aside0.mk hr0_0
 have HC0_0 := Aside0.mk hc0_0
 clear hr0_0 hc0_0
 have HR0_1 := Aside0.mk hr0_1
 have HC0_1 := Aside0.mk hc0_1
 clear hr0_1 hc0_1
 have HB := Aside0.mk (Below.refl w.heap.size w)
 have H : ((impl_ruleCode.f l0_0 l0_1 0 a1).bind fun t771 => (if t771 = 0 then (if 3 ≤ 35184372088832 then ((impl_Problem_all.f l0_0 l0_1).bind fun t775 => (impl_CountEnds.l0 k a1 (List.replicate 3 0) t775 0 l0_0 l0_1)) else (none)) else (some (([] : List Int), t771)))) = some (r1, r2) := h
 clear h
 replace H := Option.bind_eq_some_iff.mp H
 obtain ⟨t771, A30, H⟩ := H
 replace H : (if t771 = 0 then (if 3 ≤ 35184372088832 then ((impl_Problem_all.f l0_0 l0_1).bind fun t775 => (impl_CountEnds.l0 k a1 (List.replicate 3 0) t775 0 l0_0 l0_1)) else (none)) else (some (([] : List Int), t771))) = some (r1, r2) := H
 have A3 := Aside0.mk A30
 clear A30
 by_cases c4 : t771 = 0
 ·rw [if_pos c4] at H
  have c4b0 : (t771 == 0) = true := beq_iff_eq.mpr c4
  have c4b1 : (t771 != 0) = false := bne_eq_false_iff_eq.mpr c4
  clear c4
  by_cases c5 : 3 ≤ 35184372088832
  ·rw [if_pos c5] at H
   have c5b0 := eq_true c5
   have c5b1 : decide (3 ≤ 35184372088832) = true := decide_eq_true c5
   clear c5
   obtain ⟨y772, hy772⟩ : ∃ y_ : List Int, y_ = (List.replicate 3 0) := ⟨_, rfl⟩
   replace H : ((impl_Problem_all.f l0_0 l0_1).bind fun t775 => (impl_CountEnds.l0 k a1 y772 t775 0 l0_0 l0_1)) = some (r1, r2) := by first | (rw [hy772]; with_reducible exact H) | (have H2_ := (Option.bind_some _ _).symm.trans H; rw [hy772]; with_reducible exact H2_) | (have H2_ := (Option.bind_some _ _).symm.trans H; with_reducible exact H2_) | with_reducible exact H | (rw [hy772]; exact H) | exact H
   have Ny772 := Aside0.mk hy772
   clear hy772
   replace H := Option.bind_eq_some_iff.mp H
   obtain ⟨t775, A60, H⟩ := H
   replace H : (impl_CountEnds.l0 k a1 y772 t775 0 l0_0 l0_1) = some (r1, r2) := H
   have A6 := Aside0.mk A60
   clear A60
   have H' := Aside0.mk H
   clear H
   go_enter Try.func39, Try.ntmps39
   go_wp2_with (first | ((with_reducible refine gate_dst (N := 2) rfl ?_); refine box_event ?hg (N := 2) ?hd (cs := #[.slice A0_0 l0_0.length c0_0, .slice A0_1 l0_1.length c0_1]) (t := 29) ?hr ?_; (case hd => rfl); (case hg => rfl); (case hr => first | (go_simp; done) | (go_simp; rfl)); intro gb770 hg w7 hbox hb; have n0_ := Aside0.mk (below_step (by repeat (first | (with_reducible first | exact HB.out | apply below_alloc | apply pw_below_drewN | apply below_drew1) | exact HB.out)) hb); have n1_ := Aside0.mk (hbox); have n2_ := Aside0.mk ((by rw [hg]; exact (below_size (by repeat (first | (with_reducible first | exact HB.out | apply below_alloc | apply pw_below_drewN | apply below_drew1) | exact HB.out))) : w.heap.size ≤ gb770)); have n3_ := Aside0.mk ((by rw [hg]; exact (below_size (by repeat (first | (with_reducible first | exact HB.out | apply below_alloc | apply pw_below_drewN | apply below_drew1) | exact HB.out))) : w.heap.size ≤ gb770)); clear HB; have HB := n0_; have BK770 := n1_; have GW770 := n2_; have GE770 := n3_; clear n0_ n1_ n2_ n3_; clear hb hbox hg; have hcz8_0 : w7.cell? ⟨gb770, 0, none⟩ = some (.slice A0_0 l0_0.length c0_0) := (blk_cell BK770.out 0).trans rfl; have hcz8_1 : w7.cell? ⟨gb770, 1, none⟩ = some (.slice A0_1 l0_1.length c0_1) := (blk_cell BK770.out 1).trans rfl; have hfz8_0 := blk_frozen BK770.out 0; have hfz8_1 := blk_frozen BK770.out 1) | ((with_reducible refine gate_callee (f := 80) rfl ?_); refine goesL_ (some 13) rfl rfl Try.func80 (by kernel_rfl) rfl #[.agg #[.slice A0_0 l0_0.length c0_0, .slice A0_1 l0_1.length c0_1], .int .i64 0, .int .i64 a1] rfl (by (try simp only [List.map_toArray, List.map_cons, List.map_nil]); first | done | rfl | (simp only [List.length_drop, List.length_take]; rfl)) ?_; (with_reducible refine (impl_ruleCode.calls _ _ l0_0 _ _ l0_1 0 a1 t771 _ ?side1 ?side2 ?side3 ?side4 A3.out).mono ?_); (case side1 => repeat (first | exact (Kd.C_below HR0_0.out HB.out) | (with_reducible refine Kd.C_alloc ?_ _) | (with_reducible refine Kd.C_drewN ?_ _) | (with_reducible refine Kd.C_drew ?_))); (case side2 => exact HC0_0.out); (case side3 => repeat (first | exact (Kd.C_below HR0_1.out HB.out) | (with_reducible refine Kd.C_alloc ?_ _) | (with_reducible refine Kd.C_drewN ?_ _) | (with_reducible refine Kd.C_drew ?_))); (case side4 => exact HC0_1.out); rintro e w9 ⟨rfl, hb⟩; refine ⟨_, rfl, ?_⟩; have n0_ := Aside0.mk (blk_below (g := gb770) (o := .cells #[.slice A0_0 l0_0.length c0_0, .slice A0_1 l0_1.length c0_1] 29 (0, 0)) (by (with_reducible repeat (first | refine blk_drewN ?_ _ | refine blk_drew ?_ | refine blk_alloc ?_ _)); exact BK770.out) hb); have n1_ := Aside0.mk (below_step (by repeat (first | (with_reducible first | exact HB.out | apply below_alloc | apply pw_below_drewN | apply below_drew1 | refine below_set ?_ GE770.out) | exact HB.out)) hb); clear BK770; clear HB; have BK770 := n0_; have HB := n1_; clear n0_ n1_; (try clear hb); (try clear hb2); (try clear hk); (try clear hi)) | ((with_reducible refine gate_dst (N := 17) rfl ?_); refine Kd.R_make (Kd.int .i64) _ 2 rfl (N := 17) rfl 23 _ _ rfl 3 rfl rfl Try.underlying23 (.int .i64 0) 8 info2 rfl (by decide) (by omega) 0 (ok := fun _ => True) (okp := fun _ => True) rfl (fun _ hk => hk) trivial (by omega) (by omega) (Below.refl _ _) (Nat.le_refl _) ?_; intro v773 w10 ho11 hb hg_ hnew_; clear hg_ hnew_; (first | rw [← Ny772.out] at ho11 | (simp only [Int.reduceToNat] at ho11; rw [← Ny772.out] at ho11)); have n0_ := Aside0.mk (Kd.R_lower ho11 (below_size (by repeat (first | (with_reducible first | exact HB.out | apply below_alloc | apply pw_below_drewN | apply below_drew1 | refine below_set ?_ GE770.out) | exact HB.out)))); have n1_ := Aside0.mk (blk_below (g := gb770) (o := .cells #[.slice A0_0 l0_0.length c0_0, .slice A0_1 l0_1.length c0_1] 29 (0, 0)) (by (with_reducible repeat (first | refine blk_drewN ?_ _ | refine blk_drew ?_ | refine blk_alloc ?_ _)); exact BK770.out) hb); have n2_ := Aside0.mk (below_step (by repeat (first | (with_reducible first | exact HB.out | apply below_alloc | apply pw_below_drewN | apply below_drew1 | refine below_set ?_ GE770.out) | exact HB.out)) hb); clear BK770; clear HB; have HO774 := n0_; have BK770 := n1_; have HB := n2_; clear n0_ n1_ n2_; clear hb ho11; have hcz12_0 : w10.cell? ⟨gb770, 0, none⟩ = some (.slice A0_0 l0_0.length c0_0) := (blk_cell BK770.out 0).trans rfl; have hcz12_1 : w10.cell? ⟨gb770, 1, none⟩ = some (.slice A0_1 l0_1.length c0_1) := (blk_cell BK770.out 1).trans rfl; have hfz12_0 := blk_frozen BK770.out 0; have hfz12_1 := blk_frozen BK770.out 1) | ((with_reducible refine gate_callee (f := 70) rfl ?_); refine goesL_ (some 19) rfl rfl Try.func70 (by kernel_rfl) rfl #[.agg #[.slice A0_0 l0_0.length c0_0, .slice A0_1 l0_1.length c0_1]] rfl (by (try simp only [List.map_toArray, List.map_cons, List.map_nil]); first | done | rfl | (simp only [List.length_drop, List.length_take]; rfl)) ?_; (with_reducible refine (impl_Problem_all.calls _ _ l0_0 _ _ l0_1 t775 _ ?side1 ?side2 ?side3 ?side4 A6.out).mono ?_); (case side1 => repeat (first | exact (Kd.C_below HR0_0.out HB.out) | (with_reducible refine Kd.C_alloc ?_ _) | (with_reducible refine Kd.C_drewN ?_ _) | (with_reducible refine Kd.C_drew ?_))); (case side2 => exact HC0_0.out); (case side3 => repeat (first | exact (Kd.C_below HR0_1.out HB.out) | (with_reducible refine Kd.C_alloc ?_ _) | (with_reducible refine Kd.C_drewN ?_ _) | (with_reducible refine Kd.C_drew ?_))); (case side4 => exact HC0_1.out); rintro e w13 ⟨rfl, hb⟩; refine ⟨_, rfl, ?_⟩; have n0_ := Aside0.mk (Kd.R_below (by (with_reducible repeat (first | apply Kd.R_alloc | apply Kd.R_drewN | apply Kd.R_drew)); exact HO774.out) hb); have n1_ := Aside0.mk (blk_below (g := gb770) (o := .cells #[.slice A0_0 l0_0.length c0_0, .slice A0_1 l0_1.length c0_1] 29 (0, 0)) (by (with_reducible repeat (first | refine blk_drewN ?_ _ | refine blk_drew ?_ | refine blk_alloc ?_ _)); exact BK770.out) hb); have n2_ := Aside0.mk (below_step (by repeat (first | (with_reducible first | exact HB.out | apply below_alloc | apply pw_below_drewN | apply below_drew1 | refine below_set ?_ GE770.out) | exact HB.out)) hb); clear HO774; clear BK770; clear HB; have HO774 := n0_; have BK770 := n1_; have HB := n2_; clear n0_ n1_ n2_; (try clear hb); (try clear hb2); (try clear hk); (try clear hi)))
   go_loopg [20] k (fun kq v20 w' => ∃ (x7_1 : List Int) (x20_1 : Int), v20 = .int .i64 x20_1 ∧ Aside0 (impl_CountEnds.l0 kq a1 x7_1 t775 x20_1 l0_0 l0_1 = some (r1, r2)) ∧ Aside0 (kq ≤ k) ∧ Aside0 (Kd.R (Kd.int .i64) 2 w' w.heap.size (fun _ => True) v773 x7_1) ∧ Aside0 (w'.heap[gb770]? = some (.cells #[(.slice A0_0 l0_0.length c0_0), (.slice A0_1 l0_1.length c0_1)] 29 (0, 0))) ∧ Aside0 (Below w.heap.size w w'))
   case atStart => exact ⟨(y772), (0), (by first | rfl | (simp; done) | (simp [*]; done)), H', ⟨Nat.le_refl _⟩, ⟨by (with_reducible repeat (first | apply Kd.R_alloc | apply Kd.R_drewN | apply Kd.R_drew)); exact HO774.out⟩, ⟨by (with_reducible repeat (first | refine blk_drewN ?_ _ | refine blk_drew ?_ | refine blk_alloc ?_ _)); exact BK770.out⟩, ⟨by repeat (first | (with_reducible first | exact HB.out | apply below_alloc | apply pw_below_drewN | apply below_drew1 | refine below_set ?_ GE770.out) | exact HB.out)⟩⟩
   case round =>
    clear H'
    try clear p2
    try clear c3
    try clear c4
    try clear c4b0
    try clear c4b1
    try clear c5
    try clear c5b0
    try clear c5b1
    try clear c7
    try clear c8
    try clear hcz12_0
    try clear hcz12_1
    try clear hcz8_0
    try clear hcz8_1
    try clear hfz12_0
    try clear hfz12_1
    try clear hfz8_0
    try clear hfz8_1
    obtain ⟨x7_1, x20_1, rfl, HA, HK1, HO_7, BK770, HB⟩ := hrel
    cases gk with
    | zero => exact absurd HA.out (by simp [impl_CountEnds.l0])
    | succ k1 =>
     have H := HA.out
     clear HA
     simp only [impl_CountEnds.l0] at H
     by_cases c14 : x20_1 < t775
     ·rw [if_pos c14] at H
      have c14b0 : decide (x20_1 < t775) = true := decide_eq_true c14
      clear c14
      replace H := Option.bind_eq_some_iff.mp H
      obtain ⟨⟨t776, t779⟩, A150, H⟩ := H
      replace H : (if 0 ≤ t779 then (if t779 < (x7_1.length : Int) then (impl_CountEnds.l0 k1 a1 (x7_1.set (t779 : Int).toNat (wrap64 ((rd x7_1 t779) + 1))) t775 (wrap64 (x20_1 + 1)) l0_0 l0_1) else (none)) else (none)) = some (r1, r2) := H
      have A15 := Aside0.mk A150
      clear A150
      by_cases c16 : 0 ≤ t779
      ·rw [if_pos c16] at H
       have c16b0 : decide (0 ≤ t779) = true := decide_eq_true c16
       clear c16
       by_cases c17 : t779 < (x7_1.length : Int)
       ·rw [if_pos c17] at H
        have c17b0 : decide (t779 < (x7_1.length : Int)) = true := decide_eq_true c17
        clear c17
        obtain ⟨y781, hy781⟩ : ∃ y_ : List Int, y_ = (x7_1.set (t779 : Int).toNat (wrap64 ((rd x7_1 t779) + 1))) := ⟨_, rfl⟩
        replace H : (impl_CountEnds.l0 k1 a1 y781 t775 (wrap64 (x20_1 + 1)) l0_0 l0_1) = some (r1, r2) := by first | (rw [hy781]; with_reducible exact H) | (have H2_ := (Option.bind_some _ _).symm.trans H; rw [hy781]; with_reducible exact H2_) | (have H2_ := (Option.bind_some _ _).symm.trans H; with_reducible exact H2_) | with_reducible exact H | (rw [hy781]; exact H) | exact H
        have Ny781 := Aside0.mk hy781
        clear hy781
        have H' := Aside0.mk H
        clear H
        have hcz19_0 : wr.cell? ⟨gb770, 0, none⟩ = some (.slice A0_0 l0_0.length c0_0) := (blk_cell BK770.out 0).trans rfl
        have hcz19_1 : wr.cell? ⟨gb770, 1, none⟩ = some (.slice A0_1 l0_1.length c0_1) := (blk_cell BK770.out 1).trans rfl
        have hfz19_0 := blk_frozen BK770.out 0
        have hfz19_1 := blk_frozen BK770.out 1
        go_wp2_with (first | ((with_reducible refine gate_callee (f := 81) rfl ?_); refine goesL_ (some 27) rfl rfl Try.func81 (by kernel_rfl) rfl #[.agg #[.slice A0_0 l0_0.length c0_0, .slice A0_1 l0_1.length c0_1], .int .i64 x20_1, .int .i64 a1] rfl (by (try simp only [List.map_toArray, List.map_cons, List.map_nil]); first | done | rfl | (simp only [List.length_drop, List.length_take]; rfl)) ?_; (with_reducible refine (impl_Problem_walk.calls k1 _ _ l0_0 _ _ l0_1 x20_1 a1 t776 t779 _ ?side1 ?side2 ?side3 ?side4 A15.out).mono ?_); (case side1 => repeat (first | exact (Kd.C_below HR0_0.out HB.out) | (with_reducible refine Kd.C_alloc ?_ _) | (with_reducible refine Kd.C_drewN ?_ _) | (with_reducible refine Kd.C_drew ?_))); (case side2 => exact HC0_0.out); (case side3 => repeat (first | exact (Kd.C_below HR0_1.out HB.out) | (with_reducible refine Kd.C_alloc ?_ _) | (with_reducible refine Kd.C_drewN ?_ _) | (with_reducible refine Kd.C_drew ?_))); (case side4 => exact HC0_1.out); rintro e w20 ⟨v777, rfl, ho0, hb⟩; refine ⟨_, rfl, ?_⟩; have n0_ := Aside0.mk (Kd.R_elder' (by (with_reducible repeat (first | apply Kd.R_alloc | apply Kd.R_drewN | apply Kd.R_drew)); exact HO_7.out) (Kd.R_base ho0) hb); have n1_ := Aside0.mk (Kd.R_lower (Kd.R_new' ho0 (Kd.R_lt (by (with_reducible repeat (first | apply Kd.R_alloc | apply Kd.R_drewN | apply Kd.R_drew)); exact HO_7.out))) (below_size (by repeat (first | (with_reducible first | exact HB.out | apply below_alloc | apply pw_below_drewN | apply below_drew1 | refine below_set ?_ GE770.out) | exact HB.out)))); have n2_ := Aside0.mk (blk_below (g := gb770) (o := .cells #[.slice A0_0 l0_0.length c0_0, .slice A0_1 l0_1.length c0_1] 29 (0, 0)) (by (with_reducible repeat (first | refine blk_drewN ?_ _ | refine blk_drew ?_ | refine blk_alloc ?_ _)); exact BK770.out) hb); have n3_ := Aside0.mk (below_step (by repeat (first | (with_reducible first | exact HB.out | apply below_alloc | apply pw_below_drewN | apply below_drew1 | refine below_set ?_ GE770.out) | exact HB.out)) hb); clear HO_7; clear BK770; clear HB; have HO_7 := n0_; have HO778 := n1_; have BK770 := n2_; have HB := n3_; clear n0_ n1_ n2_ n3_; (try clear hb); (try clear hb2); (try clear hk); (try clear hi); (try clear ho0); obtain ⟨Ao21, co21, eo21⟩ := Kd.R_slice HO_7.out; subst eo21; have p780 : 0 ≤ (t779 : Int) := of_decide_eq_true (by first | (with_reducible assumption) | assumption); have q780 : t779 < (x7_1.length : Int) := of_decide_eq_true (by first | (with_reducible assumption) | assumption); obtain ⟨ad780, e780, hx780_0⟩ := Kd.at_int (Kd.R_reads' HO_7.out).2.2 t779 p780 q780; cases e780; replace p780 := eq_true p780; replace q780 := eq_true q780; have p18 : 0 ≤ (t779 : Int) := of_decide_eq_true (by first | (with_reducible assumption) | assumption); have q18 : (t779 : Int) < ((x7_1.length : Int) : Int) := of_decide_eq_true (by first | (with_reducible assumption) | assumption); obtain ⟨go18, co18, eo18, gb18, gl18, cl18, HG18⟩ := Kd.R_form HO_7.out (by omega); (first | cases eo18 | (injection eo18 with ea_ en_ ec_; (first | subst ea_ | (injection ea_ with ea_; subst ea_)); subst ec_; clear en_)); have GB18 := Aside0.mk gb18; have GG18 := Aside0.mk HG18; clear gb18 gl18 HG18; (first | simp only [add_plain] at hx780_0 | skip); obtain ⟨hx18_0, hf18_0⟩ := Kd.R_celln 0 HO_7.out (t779 : Int) p18 q18; replace p18 := eq_true p18; replace q18 := eq_true q18; have n_ := Aside0.mk (Kd.R_mono (ok' := (fun k_ => some k_ ≠ (v777 : Value).ownBlock)) HO_7.out (fun k_ hk => hk.2)); clear HO_7; have HO_7 := n_; clear n_; obtain ⟨hy22_, hz22_⟩ := Kd.R_celln 0 HO_7.out (t779 : Int) (of_decide_eq_true (by first | (with_reducible assumption) | assumption)) (of_decide_eq_true (by first | (with_reducible assumption) | assumption)); have HP22 := Kd.R_putg HO_7.out (t779 : Int) (wrap64 ((rd x7_1 t779) + 1))) | ((with_reducible refine gate_store (t := 2) (p := 35) rfl ?_); refine store_event (t := 2) (p := 35) (v := ?vo_w23) (w1 := (w20.setCell ⟨go18, (t779 : Int).toNat, none⟩ (.int .i64 (wrap64 ((rd x7_1 t779) + 1))))) ?hg ?ho ?hn ?hr ?_; (case ho => rfl); (case hg => rfl); (case hn => rfl); (case hr => first | (go_simp; done) | (go_simp; rfl)); intro w23 hw; have hg : w20.grownBy w23 (some go18) := (by rw [hw]; exact HP22.2); have hp_ : Kd.R (Kd.int .i64) 2 w23 w.heap.size (fun k_ => some k_ ≠ (v777 : Value).ownBlock) (.slice (some ⟨go18, 0, none⟩) x7_1.length co21) y781 := (by rw [hw, Ny781.out]; exact HP22.1); clear HP22; have n0_ := Aside0.mk (hp_); have n1_ := Aside0.mk (blk_grown (g := gb770) (o := .cells #[.slice A0_0 l0_0.length c0_0, .slice A0_1 l0_1.length c0_1] 29 (0, 0)) (by (with_reducible repeat (first | refine blk_drewN ?_ _ | refine blk_drew ?_ | refine blk_alloc ?_ _)); exact BK770.out) hg (Kd.R_ne HO_7.out BK770.out (by decide))); have n2_ := Aside0.mk (Kd.R_after (v := (.slice (some ⟨go18, 0, none⟩) x7_1.length co21)) (v1 := (.slice (some ⟨go18, 0, none⟩) x7_1.length co21)) (ok := (fun _ => True)) (by (with_reducible repeat (first | apply Kd.R_alloc | apply Kd.R_drewN | apply Kd.R_drew)); exact HO778.out) hg (.inl rfl)); have n3_ := Aside0.mk ((by rw [hw]; exact below_set (HB.out) GB18.out : Below w.heap.size w w23)); clear HO_7; clear BK770; clear HO778; clear HB; have HO_7 := n0_; have BK770 := n1_; have HO778 := n2_; have HB := n3_; clear n0_ n1_ n2_ n3_; clear hg hw hp_))
        go_roundg k1
        case measure => have := HK1.out; omega
        case rel => exact ⟨(y781), (wrap64 (x20_1 + 1)), (by first | rfl | (simp; done) | (simp [*]; done)), H', ⟨by have := HK1.out; omega⟩, ⟨by (with_reducible repeat (first | apply Kd.R_alloc | apply Kd.R_drewN | apply Kd.R_drew)); exact Kd.R_mono HO_7.out (fun _ hk => trivial)⟩, ⟨by (with_reducible repeat (first | refine blk_drewN ?_ _ | refine blk_drew ?_ | refine blk_alloc ?_ _)); exact BK770.out⟩, ⟨by repeat (first | (with_reducible first | exact HB.out | apply below_alloc | apply pw_below_drewN | apply below_drew1 | refine below_set ?_ GE770.out) | exact HB.out)⟩⟩
       ·rw [if_neg c17] at H
        exact absurd H (by simp)
      ·rw [if_neg c16] at H
       exact absurd H (by simp)
     ·rw [if_neg c14] at H
      have c14b0 : decide (x20_1 < t775) = false := decide_eq_false c14
      clear c14
      simp only [Option.some.injEq, Prod.mk.injEq] at H
      obtain ⟨rfl, rfl⟩ := H
      go_wp2
      go_ret2
      exact ⟨_, by first | rfl | (simp [errW_none, errW_some] <;> rfl) | (simp [*, errW_none, errW_some] <;> rfl), by (with_reducible repeat (first | apply Kd.R_alloc | apply Kd.R_drewN | apply Kd.R_drew)); exact HO_7.out, by repeat (first | (with_reducible first | exact HB.out | apply below_alloc | apply pw_below_drewN | apply below_drew1 | refine below_set ?_ GE770.out) | exact HB.out)⟩
  ·rw [if_neg c5] at H
   exact absurd H (by simp)
 ·rw [if_neg c4] at H
  have c4b0 : (t771 == 0) = false := beq_eq_false_iff_ne.mpr c4
  have c4b1 : (t771 != 0) = true := bne_iff_ne.mpr c4
  simp only [Option.some.injEq, Prod.mk.injEq] at H
  obtain ⟨rfl, rfl⟩ := H
  go_enter Try.func39, Try.ntmps39
  go_wp2_with (first | ((with_reducible refine gate_dst (N := 2) rfl ?_); refine box_event ?hg (N := 2) ?hd (cs := #[.slice A0_0 l0_0.length c0_0, .slice A0_1 l0_1.length c0_1]) (t := 29) ?hr ?_; (case hd => rfl); (case hg => rfl); (case hr => first | (go_simp; done) | (go_simp; rfl)); intro gb770 hg w24 hbox hb; have n0_ := Aside0.mk (below_step (by repeat (first | (with_reducible first | exact HB.out | apply below_alloc | apply pw_below_drewN | apply below_drew1) | exact HB.out)) hb); have n1_ := Aside0.mk (hbox); have n2_ := Aside0.mk ((by rw [hg]; exact (below_size (by repeat (first | (with_reducible first | exact HB.out | apply below_alloc | apply pw_below_drewN | apply below_drew1) | exact HB.out))) : w.heap.size ≤ gb770)); have n3_ := Aside0.mk ((by rw [hg]; exact (below_size (by repeat (first | (with_reducible first | exact HB.out | apply below_alloc | apply pw_below_drewN | apply below_drew1) | exact HB.out))) : w.heap.size ≤ gb770)); clear HB; have HB := n0_; have BK770 := n1_; have GW770 := n2_; have GE770 := n3_; clear n0_ n1_ n2_ n3_; clear hb hbox hg; have hcz25_0 : w24.cell? ⟨gb770, 0, none⟩ = some (.slice A0_0 l0_0.length c0_0) := (blk_cell BK770.out 0).trans rfl; have hcz25_1 : w24.cell? ⟨gb770, 1, none⟩ = some (.slice A0_1 l0_1.length c0_1) := (blk_cell BK770.out 1).trans rfl; have hfz25_0 := blk_frozen BK770.out 0; have hfz25_1 := blk_frozen BK770.out 1) | ((with_reducible refine gate_callee (f := 80) rfl ?_); refine goesL_ (some 13) rfl rfl Try.func80 (by kernel_rfl) rfl #[.agg #[.slice A0_0 l0_0.length c0_0, .slice A0_1 l0_1.length c0_1], .int .i64 0, .int .i64 a1] rfl (by (try simp only [List.map_toArray, List.map_cons, List.map_nil]); first | done | rfl | (simp only [List.length_drop, List.length_take]; rfl)) ?_; (with_reducible refine (impl_ruleCode.calls _ _ l0_0 _ _ l0_1 0 a1 t771 _ ?side1 ?side2 ?side3 ?side4 A3.out).mono ?_); (case side1 => repeat (first | exact (Kd.C_below HR0_0.out HB.out) | (with_reducible refine Kd.C_alloc ?_ _) | (with_reducible refine Kd.C_drewN ?_ _) | (with_reducible refine Kd.C_drew ?_))); (case side2 => exact HC0_0.out); (case side3 => repeat (first | exact (Kd.C_below HR0_1.out HB.out) | (with_reducible refine Kd.C_alloc ?_ _) | (with_reducible refine Kd.C_drewN ?_ _) | (with_reducible refine Kd.C_drew ?_))); (case side4 => exact HC0_1.out); rintro e w26 ⟨rfl, hb⟩; refine ⟨_, rfl, ?_⟩; have n0_ := Aside0.mk (blk_below (g := gb770) (o := .cells #[.slice A0_0 l0_0.length c0_0, .slice A0_1 l0_1.length c0_1] 29 (0, 0)) (by (with_reducible repeat (first | refine blk_drewN ?_ _ | refine blk_drew ?_ | refine blk_alloc ?_ _)); exact BK770.out) hb); have n1_ := Aside0.mk (below_step (by repeat (first | (with_reducible first | exact HB.out | apply below_alloc | apply pw_below_drewN | apply below_drew1 | refine below_set ?_ GE770.out) | exact HB.out)) hb); clear BK770; clear HB; have BK770 := n0_; have HB := n1_; clear n0_ n1_; (try clear hb); (try clear hb2); (try clear hk); (try clear hi)))
  go_ret2
  exact ⟨_, by first | rfl | (simp [errW_none, errW_some] <;> rfl) | (simp [*, errW_none, errW_some] <;> rfl), by first | exact Kd.R_nil _ _ _ _ _ | exact Kd.N_nil _ _ _ _ _ | exact Kd.V_nil _ _ _ _ _ | exact Kd.Q_nil _ _ _ _ _ | exact Kd.S_nil _ _ _ _ _, by repeat (first | (with_reducible first | exact HB.out | apply below_alloc | apply pw_below_drewN | apply below_drew1 | refine below_set ?_ GE770.out) | exact HB.out)⟩
end Go.Proofs.Ythdoilfjcgickaa.Pr
end
section
namespace Go.Proofs.Ythdoilfjcgickaa.Pr
open Go.RowKit Go.Proofs.YthdoilfjcgickaaW.PrintWords Go.Proofs.YthdoilfjcgickaaW.PrintLast Go.Proofs.YthdoilfjcgickaaW.PrintMore Go.Proofs.Ythdoilfjcgickaa.La Go.Proofs.Ythdoilfjcgickaa.Hm Go.Proofs.Ythdoilfjcgickaa.Lw
theorem laws_FnExactCountEnds.walk (k : Nat) (A0_0 : Option Addr) (c0_0 : Nat) (l0_0 : List (List Int)) (A0_1 : Option Addr) (c0_1 : Nat) (l0_1 : List Int) (a1 : Int) (t18 : Int) (s0 : List Int) (s1 : Int) (m1 : Int) (m2 : Int) (w : World) (hr0_0 : Kd.C (Kd.slice 2 (Kd.int .i64)) w A0_0 l0_0.length l0_0) (hc0_0 : l0_0.length ≤ c0_0) (hr0_1 : Kd.C (Kd.int .i64) w A0_1 l0_1.length l0_1) (hc0_1 : l0_1.length ≤ c0_1) (h1 : laws_szProblem.f k l0_0 l0_1 1048576 = some t18) (h2 : ¬ t18 < 0) (h3 : laws_toProblem.f k l0_0 l0_1 = some (l0_0, l0_1)) (h4 : spec_CountEnds.f k l0_0 l0_1 a1 = some (s0, s1)) (h5 : impl_CountEnds.f k l0_0 l0_1 a1 = some (s0, s1)) (h6 : laws_eqInt64S.f k s0 s0 = some true) (h7 : laws_eqProblem.f k l0_0 l0_1 l0_0 l0_1 = some true) (h8 : m1 = 1 + (lens l0_0 : Int) + (l0_1.length : Int)) (h9 : 1 + (lens l0_0 : Int) + (l0_1.length : Int) ≤ 1099511627776) (h10 : l0_0.length ≤ 1099511627776) (h11 : ¬ m1 < 0) (h12 : m2 = 1 + (s0.length : Int)) (h13 : 1 + (s0.length : Int) ≤ 1099511627776) (h14 : ¬ m2 < 0) (h15 : laws_heldInt64S.f k ((count 1 s0.length)) 1 = some m2) :
  Calls Try.prog 8 #[.agg #[.slice A0_0 l0_0.length c0_0, .slice A0_1 l0_1.length c0_1], .int .i64 a1] w fun e w' => e = .returned (.bool true) ∧ Below w.heap.size w w' := by
 have HR0_0 := Aside0.mk hr0_0
 have HC0_0 := Aside0.mk hc0_0
 clear hr0_0 hc0_0
 have HR0_1 := Aside0.mk hr0_1
 have HC0_1 := Aside0.mk hc0_1
 clear hr0_1 hc0_1
 have HB := Aside0.mk (Below.refl w.heap.size w)
 have H1' := Aside0.mk h1
 clear h1
 have H3' := Aside0.mk h3
 clear h3
 have H4' := Aside0.mk h4
 clear h4
 have H5' := Aside0.mk h5
 clear h5
 have H6' := Aside0.mk h6
 clear h6
 have H7' := Aside0.mk h7
 clear h7
 have H8' := Aside0.mk h8
 clear h8
 have H9' := Aside0.mk h9
 clear h9
 have H10' := Aside0.mk h10
 clear h10
 have H12' := Aside0.mk h12
 clear h12
 have H13' := Aside0.mk h13
 clear h13
 have H15' := Aside0.mk h15
 clear h15
 go_enter Try.func8, Try.ntmps8
 go_wp2_with (first | ((with_reducible refine gate_dst (N := 2) rfl ?_); refine box_event ?hg (N := 2) ?hd (cs := #[.slice A0_0 l0_0.length c0_0, .slice A0_1 l0_1.length c0_1]) (t := 25) ?hr ?_; (case hd => rfl); (case hg => rfl); (case hr => first | (go_simp; done) | (go_simp; rfl)); intro g2 hg w1 hbox hb; have Gg2 : Aside0 (g2 = w.heap.size) := ⟨hg⟩; have Kg2 := Aside0.mk (blk_lt hbox); clear hg; have n_HB := Aside0.mk (below_step HB.out hb); have NN1 : Aside0 (w.heap.size ≤ w1.heap.size) := ⟨hb.size⟩; clear HB; have HB := n_HB; clear n_HB; have Bg2 := Aside0.mk hbox; clear hb hbox; have hc2_0 : w1.cell? ⟨g2, 0, none⟩ = some (.slice A0_0 l0_0.length c0_0) := (blk_cell Bg2.out 0).trans rfl; have hf2_0 := blk_frozen Bg2.out 0; have hc2_1 : w1.cell? ⟨g2, 1, none⟩ = some (.slice A0_1 l0_1.length c0_1) := (blk_cell Bg2.out 1).trans rfl; have hf2_1 := blk_frozen Bg2.out 1) | ((with_reducible refine gate_callee (f := 15) rfl ?_); refine goesL_ (some 18) rfl rfl Try.func15 (by kernel_rfl) rfl #[.agg #[.slice A0_0 l0_0.length c0_0, .slice A0_1 l0_1.length c0_1], .int .i64 1048576] rfl (by (try simp only [List.map_toArray, List.map_cons, List.map_nil]); first | done | rfl) ?_; refine (laws_szProblem.calls k _ _ l0_0 _ _ l0_1 1048576 t18 _ ?s1 ?s2 ?s3 ?s4 H1'.out).mono ?_; (case s1 => exact Kd.C_below HR0_0.out HB.out); (case s2 => exact HC0_0.out); (case s3 => exact Kd.C_below HR0_1.out HB.out); (case s4 => exact HC0_1.out); rintro e w2 ⟨rfl, hb⟩; refine ⟨_, rfl, ?_⟩; have n_Bg2 := Aside0.mk (blk_below Bg2.out hb); have n_HB := Aside0.mk (below_step HB.out hb); have NN2 : Aside0 (w1.heap.size ≤ w2.heap.size) := ⟨hb.size⟩; clear hc2_0 hf2_0; clear hc2_1 hf2_1; clear Bg2 HB; have Bg2 := n_Bg2; have HB := n_HB; clear n_Bg2 n_HB; clear hb; have hc2_0 : w2.cell? ⟨g2, 0, none⟩ = some (.slice A0_0 l0_0.length c0_0) := (blk_cell Bg2.out 0).trans rfl; have hf2_0 := blk_frozen Bg2.out 0; have hc2_1 : w2.cell? ⟨g2, 1, none⟩ = some (.slice A0_1 l0_1.length c0_1) := (blk_cell Bg2.out 1).trans rfl; have hf2_1 := blk_frozen Bg2.out 1) | ((with_reducible refine gate_callee (f := 17) rfl ?_); refine goesL_ (some 23) rfl rfl Try.func17 (by kernel_rfl) rfl #[.agg #[.slice A0_0 l0_0.length c0_0, .slice A0_1 l0_1.length c0_1]] rfl (by (try simp only [List.map_toArray, List.map_cons, List.map_nil]); first | done | rfl) ?_; refine (laws_toProblem.calls k _ _ l0_0 _ _ l0_1 l0_0 l0_1 _ ?s1 ?s2 ?s3 ?s4 H3'.out).mono ?_; (case s1 => exact Kd.C_below HR0_0.out HB.out); (case s2 => exact HC0_0.out); (case s3 => exact Kd.C_below HR0_1.out HB.out); (case s4 => exact HC0_1.out); rintro e w3 ⟨v23_0, v23_1, rfl, ho0, ho1, hb⟩; refine ⟨_, rfl, ?_⟩; have nu0 := Aside0.mk (UP.of ho0 ho1 HB.out.size); have n_Bg2 := Aside0.mk (blk_below Bg2.out hb); have n_HB := Aside0.mk (below_step HB.out hb); have NN3 : Aside0 (w2.heap.size ≤ w3.heap.size) := ⟨hb.size⟩; clear hc2_0 hf2_0; clear hc2_1 hf2_1; clear Bg2 HB; have Bg2 := n_Bg2; have HB := n_HB; clear n_Bg2 n_HB; clear hb ho0 ho1; have U23 := nu0; clear nu0; obtain ⟨A23_0, c23_0, A23_1, c23_1, e0, e1⟩ := U23.out.slices; subst e0; subst e1) | ((with_reducible refine gate_callee (f := 38) rfl ?_); refine goesL_ (some 25) rfl rfl Try.func38 (by kernel_rfl) rfl #[.agg #[.slice A23_0 l0_0.length c23_0, .slice A23_1 l0_1.length c23_1], .int .i64 a1] rfl (by (try simp only [List.map_toArray, List.map_cons, List.map_nil]); first | done | rfl) ?_; refine (spec_CountEnds.calls k _ _ l0_0 _ _ l0_1 a1 s0 s1 _ ?s1 ?s2 ?s3 ?s4 H4'.out).mono ?_; (case s1 => exact U23.out.C0); (case s2 => exact U23.out.cap0); (case s3 => exact U23.out.C1); (case s4 => exact U23.out.cap1); rintro e w4 ⟨v25_0, rfl, ho0, hb⟩; refine ⟨_, rfl, ?_⟩; have nu0 := Aside0.mk (UR.of ho0 HB.out.size); have n_U23 := Aside0.mk (U23.out.mvB (Frm.below hb)); have n_Bg2 := Aside0.mk (blk_below Bg2.out hb); have n_HB := Aside0.mk (below_step HB.out hb); have NN4 : Aside0 (w3.heap.size ≤ w4.heap.size) := ⟨hb.size⟩; clear U23 Bg2 HB; have U23 := n_U23; have Bg2 := n_Bg2; have HB := n_HB; clear n_U23 n_Bg2 n_HB; clear hb ho0; have U25_0 := nu0; clear nu0; obtain ⟨A25_0, c25_0, e0⟩ := Kd.R_slice U25_0.out; subst e0; have hc2_0 : w4.cell? ⟨g2, 0, none⟩ = some (.slice A0_0 l0_0.length c0_0) := (blk_cell Bg2.out 0).trans rfl; have hf2_0 := blk_frozen Bg2.out 0; have hc2_1 : w4.cell? ⟨g2, 1, none⟩ = some (.slice A0_1 l0_1.length c0_1) := (blk_cell Bg2.out 1).trans rfl; have hf2_1 := blk_frozen Bg2.out 1) | ((with_reducible refine gate_callee (f := 17) rfl ?_); refine goesL_ (some 29) rfl rfl Try.func17 (by kernel_rfl) rfl #[.agg #[.slice A0_0 l0_0.length c0_0, .slice A0_1 l0_1.length c0_1]] rfl (by (try simp only [List.map_toArray, List.map_cons, List.map_nil]); first | done | rfl) ?_; refine (laws_toProblem.calls k _ _ l0_0 _ _ l0_1 l0_0 l0_1 _ ?s1 ?s2 ?s3 ?s4 H3'.out).mono ?_; (case s1 => exact Kd.C_below HR0_0.out HB.out); (case s2 => exact HC0_0.out); (case s3 => exact Kd.C_below HR0_1.out HB.out); (case s4 => exact HC0_1.out); rintro e w5 ⟨v29_0, v29_1, rfl, ho0, ho1, hb⟩; refine ⟨_, rfl, ?_⟩; have nu0 := Aside0.mk (UP.of ho0 ho1 HB.out.size); have n_U23 := Aside0.mk (U23.out.mvB (Frm.below hb)); have n_U25_0 := Aside0.mk (U25_0.out.mvB (Frm.below hb)); have n_Bg2 := Aside0.mk (blk_below Bg2.out hb); have n_HB := Aside0.mk (below_step HB.out hb); have NN5 : Aside0 (w4.heap.size ≤ w5.heap.size) := ⟨hb.size⟩; clear hc2_0 hf2_0; clear hc2_1 hf2_1; clear U23 U25_0 Bg2 HB; have U23 := n_U23; have U25_0 := n_U25_0; have Bg2 := n_Bg2; have HB := n_HB; clear n_U23 n_U25_0 n_Bg2 n_HB; clear hb ho0 ho1; have U29 := nu0; clear nu0; obtain ⟨A29_0, c29_0, A29_1, c29_1, e0, e1⟩ := U29.out.slices; subst e0; subst e1) | ((with_reducible refine gate_dst (N := 8) rfl ?_); refine box_event ?hg (N := 8) ?hd (cs := #[.slice none 0 0, .slice none 0 0]) (t := 29) ?hr ?_; (case hd => rfl); (case hg => rfl); (case hr => first | (go_simp; done) | (go_simp; rfl)); intro g8 hg w6 hbox hb; have Gg8 : Aside0 (g8 = w5.heap.size) := ⟨hg⟩; have Kg8 := Aside0.mk (blk_lt hbox); clear hg; have n_U23 := Aside0.mk (U23.out.mvB (Frm.below hb)); have n_U25_0 := Aside0.mk (U25_0.out.mvB (Frm.below hb)); have n_U29 := Aside0.mk (U29.out.mvB (Frm.below hb)); have n_Bg2 := Aside0.mk (blk_below Bg2.out hb); have n_HB := Aside0.mk (below_step HB.out hb); have NN6 : Aside0 (w5.heap.size ≤ w6.heap.size) := ⟨hb.size⟩; clear U23 U25_0 U29 Bg2 HB; have U23 := n_U23; have U25_0 := n_U25_0; have U29 := n_U29; have Bg2 := n_Bg2; have HB := n_HB; clear n_U23 n_U25_0 n_U29 n_Bg2 n_HB; have Bg8 := Aside0.mk hbox; clear hb hbox; have hc8_0 : w6.cell? ⟨g8, 0, none⟩ = some (.slice none 0 0) := (blk_cell Bg8.out 0).trans rfl; have hf8_0 := blk_frozen Bg8.out 0; have hc8_1 : w6.cell? ⟨g8, 1, none⟩ = some (.slice none 0 0) := (blk_cell Bg8.out 1).trans rfl; have hf8_1 := blk_frozen Bg8.out 1) | ((with_reducible refine gate_store (t := 29) (p := 8) rfl ?_); refine store_event (t := 29) (p := 8) (v := ?vo_w7) (w1 := ((w6.setCell ⟨g8, 0, none⟩ (.slice A29_0 l0_0.length c29_0)).setCell ⟨g8, 1, none⟩ (.slice A29_1 l0_1.length c29_1))) ?hg ?ho ?hn ?hr ?_; (case ho => rfl); (case hg => rfl); (case hn => rfl); (case hr => first | (go_simp; done) | (go_simp; rfl)); intro w7 hw; have hge : w.heap.size ≤ g8 := (by have := NN1.out; have := Gg2.out; have := Kg2.out; have := NN2.out; have := NN3.out; have := NN4.out; have := NN5.out; have := NN6.out; have := Gg8.out; have := Kg8.out; have := HB.out.size; omega); have hF : Frm w6 w7 g8 (g8 + 1) := (by rw [hw]; exact (Frm.trans (Frm.set _ _ _ _) (Frm.set _ _ _ _))); have nb := Aside0.mk (show w7.heap[g8]? = some (.cells #[.slice A29_0 l0_0.length c29_0, .slice A29_1 l0_1.length c29_1] 29 (0, 0)) from (by rw [hw]; exact (blk_put (blk_put Bg8.out 0 _ rfl) 1 _ rfl))); have n_U23 := Aside0.mk (U23.out.mv hF (by have := NN1.out; have := Gg2.out; have := Kg2.out; have := NN2.out; have := NN3.out; have := NN4.out; have := NN5.out; have := NN6.out; have := Gg8.out; have := Kg8.out; omega)); have n_U25_0 := Aside0.mk (U25_0.out.mv hF (by have := NN1.out; have := Gg2.out; have := Kg2.out; have := NN2.out; have := NN3.out; have := NN4.out; have := NN5.out; have := NN6.out; have := Gg8.out; have := Kg8.out; omega)); have n_U29 := Aside0.mk (U29.out.mv hF (by have := NN1.out; have := Gg2.out; have := Kg2.out; have := NN2.out; have := NN3.out; have := NN4.out; have := NN5.out; have := NN6.out; have := Gg8.out; have := Kg8.out; omega)); have n_Bg2 := Aside0.mk ((hF.same g2 (blk_lt Bg2.out) (by have := NN1.out; have := Gg2.out; have := Kg2.out; have := NN2.out; have := NN3.out; have := NN4.out; have := NN5.out; have := NN6.out; have := Gg8.out; have := Kg8.out; omega)).trans Bg2.out); have n_HB := Aside0.mk ((by rw [hw]; exact (below_set (below_set HB.out hge) hge) : Below w.heap.size w w7)); have NN7 : Aside0 (w6.heap.size ≤ w7.heap.size) := ⟨hF.size⟩; clear hc8_0 hf8_0; clear hc8_1 hf8_1; clear U23 U25_0 U29 Bg2 HB; have U23 := n_U23; have U25_0 := n_U25_0; have U29 := n_U29; have Bg2 := n_Bg2; have HB := n_HB; clear n_U23 n_U25_0 n_U29 n_Bg2 n_HB; clear Bg8; have Bg8 := nb; clear nb hF hge hw; have hc8_0 : w7.cell? ⟨g8, 0, none⟩ = some (.slice A29_0 l0_0.length c29_0) := (blk_cell Bg8.out 0).trans rfl; have hf8_0 := blk_frozen Bg8.out 0; have hc8_1 : w7.cell? ⟨g8, 1, none⟩ = some (.slice A29_1 l0_1.length c29_1) := (blk_cell Bg8.out 1).trans rfl; have hf8_1 := blk_frozen Bg8.out 1) | ((with_reducible refine gate_callee (f := 39) rfl ?_); refine goesL_ (some 33) rfl rfl Try.func39 (by kernel_rfl) rfl #[.agg #[.slice A29_0 l0_0.length c29_0, .slice A29_1 l0_1.length c29_1], .int .i64 a1] rfl (by (try simp only [List.map_toArray, List.map_cons, List.map_nil]); first | done | rfl) ?_; refine (impl_CountEnds.calls k _ _ l0_0 _ _ l0_1 a1 s0 s1 _ ?s1 ?s2 ?s3 ?s4 H5'.out).mono ?_; (case s1 => exact U29.out.C0); (case s2 => exact U29.out.cap0); (case s3 => exact U29.out.C1); (case s4 => exact U29.out.cap1); rintro e w8 ⟨v33_0, rfl, ho0, hb⟩; refine ⟨_, rfl, ?_⟩; have nu0 := Aside0.mk (UR.of ho0 HB.out.size); have n_U23 := Aside0.mk (U23.out.mvB (Frm.below hb)); have n_U25_0 := Aside0.mk (U25_0.out.mvB (Frm.below hb)); have n_U29 := Aside0.mk (U29.out.mvB (Frm.below hb)); have n_Bg2 := Aside0.mk (blk_below Bg2.out hb); have n_Bg8 := Aside0.mk (blk_below Bg8.out hb); have n_HB := Aside0.mk (below_step HB.out hb); have NN8 : Aside0 (w7.heap.size ≤ w8.heap.size) := ⟨hb.size⟩; clear hc8_0 hf8_0; clear hc8_1 hf8_1; clear U23 U25_0 U29 Bg2 Bg8 HB; have U23 := n_U23; have U25_0 := n_U25_0; have U29 := n_U29; have Bg2 := n_Bg2; have Bg8 := n_Bg8; have HB := n_HB; clear n_U23 n_U25_0 n_U29 n_Bg2 n_Bg8 n_HB; clear hb ho0; have U33_0 := nu0; clear nu0; obtain ⟨A33_0, c33_0, e0⟩ := Kd.R_slice U33_0.out; subst e0) | ((with_reducible refine gate_callee (f := 35) rfl ?_); refine goesL_ (some 38) rfl rfl Try.func35 (by kernel_rfl) rfl #[.slice A33_0 s0.length c33_0, .slice A25_0 s0.length c25_0] rfl (by (try simp only [List.map_toArray, List.map_cons, List.map_nil]); first | done | rfl) ?_; refine (laws_eqInt64S.calls k _ _ s0 _ _ s0 true _ ?s1 ?s2 ?s3 ?s4 H6'.out).mono ?_; (case s1 => exact UR.C U33_0.out); (case s2 => exact UR.cap U33_0.out); (case s3 => exact UR.C U25_0.out); (case s4 => exact UR.cap U25_0.out); rintro e w9 ⟨rfl, hb⟩; refine ⟨_, rfl, ?_⟩; have hb := hb.below; have n_U23 := Aside0.mk (U23.out.mvB (Frm.below hb)); have n_U25_0 := Aside0.mk (U25_0.out.mvB (Frm.below hb)); have n_U29 := Aside0.mk (U29.out.mvB (Frm.below hb)); have n_U33_0 := Aside0.mk (U33_0.out.mvB (Frm.below hb)); have n_Bg2 := Aside0.mk (blk_below Bg2.out hb); have n_Bg8 := Aside0.mk (blk_below Bg8.out hb); have n_HB := Aside0.mk (below_step HB.out hb); have NN9 : Aside0 (w8.heap.size ≤ w9.heap.size) := ⟨hb.size⟩; clear U23 U25_0 U29 U33_0 Bg2 Bg8 HB; have U23 := n_U23; have U25_0 := n_U25_0; have U29 := n_U29; have U33_0 := n_U33_0; have Bg2 := n_Bg2; have Bg8 := n_Bg8; have HB := n_HB; clear n_U23 n_U25_0 n_U29 n_U33_0 n_Bg2 n_Bg8 n_HB; clear hb))
 try go_wp2
 have hb : Below w9.heap.size w9 w9.drew := (Below.refl _ _).drew
 have n_U23 := Aside0.mk (U23.out.mvB (Frm.below hb))
 have n_U25_0 := Aside0.mk (U25_0.out.mvB (Frm.below hb))
 have n_U29 := Aside0.mk (U29.out.mvB (Frm.below hb))
 have n_U33_0 := Aside0.mk (U33_0.out.mvB (Frm.below hb))
 have n_Bg2 := Aside0.mk (blk_below Bg2.out hb)
 have n_Bg8 := Aside0.mk (blk_below Bg8.out hb)
 have n_HB := Aside0.mk (below_step HB.out hb)
 have NN10 : Aside0 (w9.heap.size ≤ w9.drew.heap.size) := ⟨hb.size⟩
 clear U23 U25_0 U29 U33_0 Bg2 Bg8 HB
 have U23 := n_U23
 have U25_0 := n_U25_0
 have U29 := n_U29
 have U33_0 := n_U33_0
 have Bg2 := n_Bg2
 have Bg8 := n_Bg8
 have HB := n_HB
 clear n_U23 n_U25_0 n_U29 n_U33_0 n_Bg2 n_Bg8 n_HB
 clear hb
 refine start_ (n := 5) (S := fun w' => w'.cell? ⟨g8, 0, none⟩ = some (.slice A29_0 l0_0.length c29_0) ∧ w'.cell? ⟨g8, 1, none⟩ = some (.slice A29_1 l0_1.length c29_1) ∧ w'.cell? ⟨g2, 0, none⟩ = some (.slice A0_0 l0_0.length c0_0) ∧ w'.cell? ⟨g2, 1, none⟩ = some (.slice A0_1 l0_1.length c0_1)) (ds := []) #[false, false, false, false, false] (by kernel_rfl) rfl rfl ⟨(blk_cell Bg8.out 0).trans rfl, (blk_cell Bg8.out 1).trans rfl, (blk_cell Bg2.out 0).trans rfl, (blk_cell Bg2.out 1).trans rfl⟩ (fun hHeld => ?_)
 generalize w9.drew = w10 at U23 U25_0 U29 U33_0 Bg2 Bg8 HB NN10 hHeld ⊢
 have hc2_0 : w10.cell? ⟨g2, 0, none⟩ = some (.slice A0_0 l0_0.length c0_0) := (blk_cell Bg2.out 0).trans rfl
 have hf2_0 := blk_frozen Bg2.out 0
 have hc2_1 : w10.cell? ⟨g2, 1, none⟩ = some (.slice A0_1 l0_1.length c0_1) := (blk_cell Bg2.out 1).trans rfl
 have hf2_1 := blk_frozen Bg2.out 1
 have hc8_0 : w10.cell? ⟨g8, 0, none⟩ = some (.slice A29_0 l0_0.length c29_0) := (blk_cell Bg8.out 0).trans rfl
 have hf8_0 := blk_frozen Bg8.out 0
 have hc8_1 : w10.cell? ⟨g8, 1, none⟩ = some (.slice A29_1 l0_1.length c29_1) := (blk_cell Bg8.out 1).trans rfl
 have hf8_1 := blk_frozen Bg8.out 1
 refine take_ (i := 0) (N := some 45) (v := ?_) (a' := ?_) #[true, false, false, false, false] rfl rfl (by kernel_rfl) (fun _ _ _ h => h) (Or.inl ⟨by rfl, ?_⟩) hHeld ?_ ?_
 rotate_left
 ·rintro w' ⟨s0, s1, s2, s3⟩
  go_simp
  with_reducible rfl
 rotate_left
 ·simp only [Act.put, List.setIfInBounds_toArray, List.set_cons_zero, List.set_cons_succ, i64_w, i32_w]
  rfl
 refine take_ (i := 1) (N := some 46) (v := ?_) (a' := ?_) #[true, true, false, false, false] rfl rfl (by kernel_rfl) (fun _ _ _ h => h) (Or.inl ⟨by rfl, ?_⟩) hHeld ?_ ?_
 rotate_left
 ·rintro w' ⟨s0, s1, s2, s3⟩
  go_simp
  with_reducible rfl
 rotate_left
 ·simp only [Act.put, List.setIfInBounds_toArray, List.set_cons_zero, List.set_cons_succ, i64_w, i32_w]
  rfl
 refine one_ (i := 2) (N := some 47) #[true, true, true, false, false] rfl rfl (by kernel_rfl) (by decide) (fun K hK => ?_)
 refine goes_ Try.func17 (by kernel_rfl) rfl #[.agg #[.slice A0_0 l0_0.length c0_0, .slice A0_1 l0_1.length c0_1]] (by rfl) rfl rfl (by (try simp only [List.map_toArray, List.map_cons, List.map_nil]); first | done | rfl) ?_
 (refine (laws_toProblem.calls k _ _ l0_0 _ _ l0_1 l0_0 l0_1 _ ?s1 ?s2 ?s3 ?s4 H3'.out).mono ?_; (case s1 => exact Kd.C_below HR0_0.out HB.out); (case s2 => exact HC0_0.out); (case s3 => exact Kd.C_below HR0_1.out HB.out); (case s4 => exact HC0_1.out); rintro e w11 ⟨v47_0, v47_1, rfl, ho0, ho1, hb⟩; refine ⟨_, rfl, ?_⟩; have nu0 := Aside0.mk (UP.of ho0 ho1 HB.out.size); have n_U23 := Aside0.mk (U23.out.mvB (Frm.below hb)); have n_U25_0 := Aside0.mk (U25_0.out.mvB (Frm.below hb)); have n_U29 := Aside0.mk (U29.out.mvB (Frm.below hb)); have n_U33_0 := Aside0.mk (U33_0.out.mvB (Frm.below hb)); have n_Bg2 := Aside0.mk (blk_below Bg2.out hb); have n_Bg8 := Aside0.mk (blk_below Bg8.out hb); have n_HB := Aside0.mk (below_step HB.out hb); have NN11 : Aside0 (w10.heap.size ≤ w11.heap.size) := ⟨hb.size⟩; clear hc2_0 hf2_0; clear hc2_1 hf2_1; clear hc8_0 hf8_0; clear hc8_1 hf8_1; clear U23 U25_0 U29 U33_0 Bg2 Bg8 HB; have U23 := n_U23; have U25_0 := n_U25_0; have U29 := n_U29; have U33_0 := n_U33_0; have Bg2 := n_Bg2; have Bg8 := n_Bg8; have HB := n_HB; clear n_U23 n_U25_0 n_U29 n_U33_0 n_Bg2 n_Bg8 n_HB; clear hb ho0 ho1; have U47 := nu0; clear nu0; obtain ⟨A47_0, c47_0, A47_1, c47_1, e0, e1⟩ := U47.out.slices; subst e0; subst e1)
 refine hK.out _ _ ⟨(blk_cell Bg8.out 0).trans rfl, (blk_cell Bg8.out 1).trans rfl, (blk_cell Bg2.out 0).trans rfl, (blk_cell Bg2.out 1).trans rfl⟩ (fun hHeld => ?_)
 clear hK K
 refine norm_ (a' := ?_) ?_ ?_
 rotate_left
 ·show Act.put _ (some 47) _ = _
  simp only [Act.put, List.setIfInBounds_toArray, List.set_cons_zero, List.set_cons_succ, i64_w, i32_w]
  rfl
 refine one_ (i := 3) (N := some 48) #[true, true, true, true, false] rfl rfl (by kernel_rfl) (by decide) (fun K hK => ?_)
 refine goes_ Try.func20 (by kernel_rfl) rfl #[.agg #[.slice A29_0 l0_0.length c29_0, .slice A29_1 l0_1.length c29_1], .agg #[.slice A47_0 l0_0.length c47_0, .slice A47_1 l0_1.length c47_1]] (by rfl) rfl rfl (by (try simp only [List.map_toArray, List.map_cons, List.map_nil]); first | done | rfl) ?_
 (refine (laws_eqProblem.calls k _ _ l0_0 _ _ l0_1 _ _ l0_0 _ _ l0_1 true _ ?s1 ?s2 ?s3 ?s4 ?s5 ?s6 ?s7 ?s8 H7'.out).mono ?_; (case s1 => exact U29.out.C0); (case s2 => exact U29.out.cap0); (case s3 => exact U29.out.C1); (case s4 => exact U29.out.cap1); (case s5 => exact U47.out.C0); (case s6 => exact U47.out.cap0); (case s7 => exact U47.out.C1); (case s8 => exact U47.out.cap1); rintro e w12 ⟨rfl, hb⟩; refine ⟨_, rfl, ?_⟩; have n_U23 := Aside0.mk (U23.out.mvB (Frm.below hb)); have n_U25_0 := Aside0.mk (U25_0.out.mvB (Frm.below hb)); have n_U29 := Aside0.mk (U29.out.mvB (Frm.below hb)); have n_U33_0 := Aside0.mk (U33_0.out.mvB (Frm.below hb)); have n_U47 := Aside0.mk (U47.out.mvB (Frm.below hb)); have n_Bg2 := Aside0.mk (blk_below Bg2.out hb); have n_Bg8 := Aside0.mk (blk_below Bg8.out hb); have n_HB := Aside0.mk (below_step HB.out hb); have NN12 : Aside0 (w11.heap.size ≤ w12.heap.size) := ⟨hb.size⟩; clear U23 U25_0 U29 U33_0 U47 Bg2 Bg8 HB; have U23 := n_U23; have U25_0 := n_U25_0; have U29 := n_U29; have U33_0 := n_U33_0; have U47 := n_U47; have Bg2 := n_Bg2; have Bg8 := n_Bg8; have HB := n_HB; clear n_U23 n_U25_0 n_U29 n_U33_0 n_U47 n_Bg2 n_Bg8 n_HB; clear hb; have hc8_0 : w12.cell? ⟨g8, 0, none⟩ = some (.slice A29_0 l0_0.length c29_0) := (blk_cell Bg8.out 0).trans rfl; have hf8_0 := blk_frozen Bg8.out 0; have hc8_1 : w12.cell? ⟨g8, 1, none⟩ = some (.slice A29_1 l0_1.length c29_1) := (blk_cell Bg8.out 1).trans rfl; have hf8_1 := blk_frozen Bg8.out 1)
 refine hK.out _ _ ⟨(blk_cell Bg8.out 0).trans rfl, (blk_cell Bg8.out 1).trans rfl, (blk_cell Bg2.out 0).trans rfl, (blk_cell Bg2.out 1).trans rfl⟩ (fun hHeld => ?_)
 clear hK K
 refine norm_ (a' := ?_) ?_ ?_
 rotate_left
 ·show Act.put _ (some 48) _ = _
  simp only [Act.put, List.setIfInBounds_toArray, List.set_cons_zero, List.set_cons_succ, i64_w, i32_w]
  rfl
 refine pure_ (i := 4) (N := some 49) (v := ?_) (a' := ?_) #[true, true, true, true, true] rfl rfl (by kernel_rfl) (fun _ _ _ h => h) (Or.inl ⟨by rfl, ?_⟩) ?_ ?_
 rotate_left
 ·intro w'
  go_simp
  with_reducible rfl
 rotate_left
 ·simp only [Act.put, List.setIfInBounds_toArray, List.set_cons_zero, List.set_cons_succ, i64_w, i32_w]
  rfl
 refine done_ (by kernel_rfl) ?_
 go_wp2_with (first | ((with_reducible refine gate_callee (f := 21) rfl ?_); refine goesL_ (some 52) rfl rfl Try.func21 (by kernel_rfl) rfl #[.agg #[.slice A29_0 l0_0.length c29_0, .slice A29_1 l0_1.length c29_1], .int .i64 1] rfl (by (try simp only [List.map_toArray, List.map_cons, List.map_nil]); first | done | rfl) ?_; refine (mark_UP A29_0 c29_0 A29_1 c29_1 l0_0 l0_1 1 m1 HB.out U29.out (by decide) H9'.out H10'.out H8'.out (by have := NN1.out; have := Gg2.out; have := Kg2.out; have := NN2.out; have := NN3.out; have := NN4.out; have := NN5.out; have := NN6.out; have := Gg8.out; have := Kg8.out; have := NN7.out; have := NN8.out; have := NN9.out; have := NN10.out; have := NN11.out; have := NN12.out; omega)).mono ?_; rintro e w13 ⟨rfl, hU, hB', hF⟩; refine ⟨_, rfl, ?_⟩; have nu := Aside0.mk hU; have n_U23 := Aside0.mk (U23.out.mv hF (by have := NN1.out; have := Gg2.out; have := Kg2.out; have := NN2.out; have := NN3.out; have := NN4.out; have := NN5.out; have := NN6.out; have := Gg8.out; have := Kg8.out; have := NN7.out; have := NN8.out; have := NN9.out; have := NN10.out; have := NN11.out; have := NN12.out; omega)); have n_U25_0 := Aside0.mk (U25_0.out.mv hF (by have := NN1.out; have := Gg2.out; have := Kg2.out; have := NN2.out; have := NN3.out; have := NN4.out; have := NN5.out; have := NN6.out; have := Gg8.out; have := Kg8.out; have := NN7.out; have := NN8.out; have := NN9.out; have := NN10.out; have := NN11.out; have := NN12.out; omega)); have n_U33_0 := Aside0.mk (U33_0.out.mv hF (by have := NN1.out; have := Gg2.out; have := Kg2.out; have := NN2.out; have := NN3.out; have := NN4.out; have := NN5.out; have := NN6.out; have := Gg8.out; have := Kg8.out; have := NN7.out; have := NN8.out; have := NN9.out; have := NN10.out; have := NN11.out; have := NN12.out; omega)); have n_U47 := Aside0.mk (U47.out.mv hF (by have := NN1.out; have := Gg2.out; have := Kg2.out; have := NN2.out; have := NN3.out; have := NN4.out; have := NN5.out; have := NN6.out; have := Gg8.out; have := Kg8.out; have := NN7.out; have := NN8.out; have := NN9.out; have := NN10.out; have := NN11.out; have := NN12.out; omega)); have n_Bg2 := Aside0.mk ((hF.same g2 (blk_lt Bg2.out) (by have := NN1.out; have := Gg2.out; have := Kg2.out; have := NN2.out; have := NN3.out; have := NN4.out; have := NN5.out; have := NN6.out; have := Gg8.out; have := Kg8.out; have := NN7.out; have := NN8.out; have := NN9.out; have := NN10.out; have := NN11.out; have := NN12.out; omega)).trans Bg2.out); have n_Bg8 := Aside0.mk ((hF.same g8 (blk_lt Bg8.out) (by have := NN1.out; have := Gg2.out; have := Kg2.out; have := NN2.out; have := NN3.out; have := NN4.out; have := NN5.out; have := NN6.out; have := Gg8.out; have := Kg8.out; have := NN7.out; have := NN8.out; have := NN9.out; have := NN10.out; have := NN11.out; have := NN12.out; omega)).trans Bg8.out); have n_HB := Aside0.mk (hB'); have NN13 : Aside0 (w12.heap.size ≤ w13.heap.size) := ⟨hF.size⟩; clear hc8_0 hf8_0; clear hc8_1 hf8_1; clear U23 U25_0 U33_0 U47 Bg2 Bg8 HB; have U23 := n_U23; have U25_0 := n_U25_0; have U33_0 := n_U33_0; have U47 := n_U47; have Bg2 := n_Bg2; have Bg8 := n_Bg8; have HB := n_HB; clear n_U23 n_U25_0 n_U33_0 n_U47 n_Bg2 n_Bg8 n_HB; clear U29; have U29 := nu; clear nu hU hB' hF) | (go_at_call 35; refine (laws_eqInt64S.calls k _ _ s0 _ _ s0 true _ ?s1 ?s2 ?s3 ?s4 H6'.out).mono ?_; (case s1 => exact UR.C U33_0.out); (case s2 => exact UR.cap U33_0.out); (case s3 => exact UR.C U25_0.out); (case s4 => exact UR.cap U25_0.out); rintro e w14 ⟨rfl, hb⟩; have hb := hb.below; have n_U23 := Aside0.mk (U23.out.mvB (Frm.below hb)); have n_U25_0 := Aside0.mk (U25_0.out.mvB (Frm.below hb)); have n_U29 := Aside0.mk (U29.out.mvB (Frm.below hb)); have n_U33_0 := Aside0.mk (U33_0.out.mvB (Frm.below hb)); have n_U47 := Aside0.mk (U47.out.mvB (Frm.below hb)); have n_Bg2 := Aside0.mk (blk_below Bg2.out hb); have n_Bg8 := Aside0.mk (blk_below Bg8.out hb); have n_HB := Aside0.mk (below_step HB.out hb); have NN14 : Aside0 (w13.heap.size ≤ w14.heap.size) := ⟨hb.size⟩; clear U23 U25_0 U29 U33_0 U47 Bg2 Bg8 HB; have U23 := n_U23; have U25_0 := n_U25_0; have U29 := n_U29; have U33_0 := n_U33_0; have U47 := n_U47; have Bg2 := n_Bg2; have Bg8 := n_Bg8; have HB := n_HB; clear n_U23 n_U25_0 n_U29 n_U33_0 n_U47 n_Bg2 n_Bg8 n_HB; clear hb) | ((with_reducible refine gate_callee (f := 36) rfl ?_); refine goesL_ (some 68) rfl rfl Try.func36 (by kernel_rfl) rfl #[.slice A33_0 s0.length c33_0, .int .i64 1] rfl (by (try simp only [List.map_toArray, List.map_cons, List.map_nil]); first | done | rfl) ?_; refine (mark_UR A33_0 c33_0 s0 _ 1 m2 HB.out U33_0.out (by decide) H13'.out H12'.out).mono ?_; rintro e w15 ⟨rfl, hU, hB', hF⟩; refine ⟨_, rfl, ?_⟩; have nu := Aside0.mk hU; have n_U23 := Aside0.mk (U23.out.mv hF (by have := NN1.out; have := Gg2.out; have := Kg2.out; have := NN2.out; have := NN3.out; have := NN4.out; have := NN5.out; have := NN6.out; have := Gg8.out; have := Kg8.out; have := NN7.out; have := NN8.out; have := NN9.out; have := NN10.out; have := NN11.out; have := NN12.out; have := NN13.out; have := NN14.out; omega)); have n_U25_0 := Aside0.mk (U25_0.out.mv hF (by have := NN1.out; have := Gg2.out; have := Kg2.out; have := NN2.out; have := NN3.out; have := NN4.out; have := NN5.out; have := NN6.out; have := Gg8.out; have := Kg8.out; have := NN7.out; have := NN8.out; have := NN9.out; have := NN10.out; have := NN11.out; have := NN12.out; have := NN13.out; have := NN14.out; omega)); have n_U29 := Aside0.mk (U29.out.mv hF (by have := NN1.out; have := Gg2.out; have := Kg2.out; have := NN2.out; have := NN3.out; have := NN4.out; have := NN5.out; have := NN6.out; have := Gg8.out; have := Kg8.out; have := NN7.out; have := NN8.out; have := NN9.out; have := NN10.out; have := NN11.out; have := NN12.out; have := NN13.out; have := NN14.out; omega)); have n_U47 := Aside0.mk (U47.out.mv hF (by have := NN1.out; have := Gg2.out; have := Kg2.out; have := NN2.out; have := NN3.out; have := NN4.out; have := NN5.out; have := NN6.out; have := Gg8.out; have := Kg8.out; have := NN7.out; have := NN8.out; have := NN9.out; have := NN10.out; have := NN11.out; have := NN12.out; have := NN13.out; have := NN14.out; omega)); have n_Bg2 := Aside0.mk ((hF.same g2 (blk_lt Bg2.out) (by have := NN1.out; have := Gg2.out; have := Kg2.out; have := NN2.out; have := NN3.out; have := NN4.out; have := NN5.out; have := NN6.out; have := Gg8.out; have := Kg8.out; have := NN7.out; have := NN8.out; have := NN9.out; have := NN10.out; have := NN11.out; have := NN12.out; have := NN13.out; have := NN14.out; omega)).trans Bg2.out); have n_Bg8 := Aside0.mk ((hF.same g8 (blk_lt Bg8.out) (by have := NN1.out; have := Gg2.out; have := Kg2.out; have := NN2.out; have := NN3.out; have := NN4.out; have := NN5.out; have := NN6.out; have := Gg8.out; have := Kg8.out; have := NN7.out; have := NN8.out; have := NN9.out; have := NN10.out; have := NN11.out; have := NN12.out; have := NN13.out; have := NN14.out; omega)).trans Bg8.out); have n_HB := Aside0.mk (hB'); have NN15 : Aside0 (w14.heap.size ≤ w15.heap.size) := ⟨hF.size⟩; clear U23 U25_0 U29 U47 Bg2 Bg8 HB; have U23 := n_U23; have U25_0 := n_U25_0; have U29 := n_U29; have U47 := n_U47; have Bg2 := n_Bg2; have Bg8 := n_Bg8; have HB := n_HB; clear n_U23 n_U25_0 n_U29 n_U47 n_Bg2 n_Bg8 n_HB; clear U33_0; have U33_0 := nu; clear nu hU hB' hF) | ((with_reducible refine gate_callee (f := 37) rfl ?_); refine goesL_ (some 71) rfl rfl Try.func37 (by kernel_rfl) rfl #[.slice A33_0 s0.length c33_0, .int .i64 1] rfl (by (try simp only [List.map_toArray, List.map_cons, List.map_nil]); first | done | rfl) ?_; have hcall := laws_heldInt64S.calls k _ _ ((count 1 s0.length)) 1 m2 _ (UR.C U33_0.out) (UR.cap U33_0.out) H15'.out; simp only [marks_length, count_length] at hcall; refine hcall.mono ?_; clear hcall; rintro e w16 ⟨rfl, hb⟩; refine ⟨_, rfl, ?_⟩; have hb := hb.below; have n_U23 := Aside0.mk (U23.out.mvB (Frm.below hb)); have n_U25_0 := Aside0.mk (U25_0.out.mvB (Frm.below hb)); have n_U29 := Aside0.mk (U29.out.mvB (Frm.below hb)); have n_U33_0 := Aside0.mk (U33_0.out.mvB (Frm.below hb)); have n_U47 := Aside0.mk (U47.out.mvB (Frm.below hb)); have n_Bg2 := Aside0.mk (blk_below Bg2.out hb); have n_Bg8 := Aside0.mk (blk_below Bg8.out hb); have n_HB := Aside0.mk (below_step HB.out hb); have NN16 : Aside0 (w15.heap.size ≤ w16.heap.size) := ⟨hb.size⟩; clear U23 U25_0 U29 U33_0 U47 Bg2 Bg8 HB; have U23 := n_U23; have U25_0 := n_U25_0; have U29 := n_U29; have U33_0 := n_U33_0; have U47 := n_U47; have Bg2 := n_Bg2; have Bg8 := n_Bg8; have HB := n_HB; clear n_U23 n_U25_0 n_U29 n_U33_0 n_U47 n_Bg2 n_Bg8 n_HB; clear hb; have hc2_0 : w16.cell? ⟨g2, 0, none⟩ = some (.slice A0_0 l0_0.length c0_0) := (blk_cell Bg2.out 0).trans rfl; have hf2_0 := blk_frozen Bg2.out 0; have hc2_1 : w16.cell? ⟨g2, 1, none⟩ = some (.slice A0_1 l0_1.length c0_1) := (blk_cell Bg2.out 1).trans rfl; have hf2_1 := blk_frozen Bg2.out 1) | ((with_reducible refine gate_callee (f := 17) rfl ?_); refine goesL_ (some 79) rfl rfl Try.func17 (by kernel_rfl) rfl #[.agg #[.slice A0_0 l0_0.length c0_0, .slice A0_1 l0_1.length c0_1]] rfl (by (try simp only [List.map_toArray, List.map_cons, List.map_nil]); first | done | rfl) ?_; refine (laws_toProblem.calls k _ _ l0_0 _ _ l0_1 l0_0 l0_1 _ ?s1 ?s2 ?s3 ?s4 H3'.out).mono ?_; (case s1 => exact Kd.C_below HR0_0.out HB.out); (case s2 => exact HC0_0.out); (case s3 => exact Kd.C_below HR0_1.out HB.out); (case s4 => exact HC0_1.out); rintro e w17 ⟨v79_0, v79_1, rfl, ho0, ho1, hb⟩; refine ⟨_, rfl, ?_⟩; have nu0 := Aside0.mk (UP.of ho0 ho1 HB.out.size); have n_U23 := Aside0.mk (U23.out.mvB (Frm.below hb)); have n_U25_0 := Aside0.mk (U25_0.out.mvB (Frm.below hb)); have n_U29 := Aside0.mk (U29.out.mvB (Frm.below hb)); have n_U33_0 := Aside0.mk (U33_0.out.mvB (Frm.below hb)); have n_U47 := Aside0.mk (U47.out.mvB (Frm.below hb)); have n_Bg2 := Aside0.mk (blk_below Bg2.out hb); have n_Bg8 := Aside0.mk (blk_below Bg8.out hb); have n_HB := Aside0.mk (below_step HB.out hb); have NN17 : Aside0 (w16.heap.size ≤ w17.heap.size) := ⟨hb.size⟩; clear hc2_0 hf2_0; clear hc2_1 hf2_1; clear U23 U25_0 U29 U33_0 U47 Bg2 Bg8 HB; have U23 := n_U23; have U25_0 := n_U25_0; have U29 := n_U29; have U33_0 := n_U33_0; have U47 := n_U47; have Bg2 := n_Bg2; have Bg8 := n_Bg8; have HB := n_HB; clear n_U23 n_U25_0 n_U29 n_U33_0 n_U47 n_Bg2 n_Bg8 n_HB; clear hb ho0 ho1; have U79 := nu0; clear nu0; obtain ⟨A79_0, c79_0, A79_1, c79_1, e0, e1⟩ := U79.out.slices; subst e0; subst e1) | ((with_reducible refine gate_callee (f := 39) rfl ?_); refine goesL_ (some 81) rfl rfl Try.func39 (by kernel_rfl) rfl #[.agg #[.slice A79_0 l0_0.length c79_0, .slice A79_1 l0_1.length c79_1], .int .i64 a1] rfl (by (try simp only [List.map_toArray, List.map_cons, List.map_nil]); first | done | rfl) ?_; refine (impl_CountEnds.calls k _ _ l0_0 _ _ l0_1 a1 s0 s1 _ ?s1 ?s2 ?s3 ?s4 H5'.out).mono ?_; (case s1 => exact U79.out.C0); (case s2 => exact U79.out.cap0); (case s3 => exact U79.out.C1); (case s4 => exact U79.out.cap1); rintro e w18 ⟨v81_0, rfl, ho0, hb⟩; refine ⟨_, rfl, ?_⟩; have nu0 := Aside0.mk (UR.of ho0 HB.out.size); have n_U23 := Aside0.mk (U23.out.mvB (Frm.below hb)); have n_U25_0 := Aside0.mk (U25_0.out.mvB (Frm.below hb)); have n_U29 := Aside0.mk (U29.out.mvB (Frm.below hb)); have n_U33_0 := Aside0.mk (U33_0.out.mvB (Frm.below hb)); have n_U47 := Aside0.mk (U47.out.mvB (Frm.below hb)); have n_U79 := Aside0.mk (U79.out.mvB (Frm.below hb)); have n_Bg2 := Aside0.mk (blk_below Bg2.out hb); have n_Bg8 := Aside0.mk (blk_below Bg8.out hb); have n_HB := Aside0.mk (below_step HB.out hb); have NN18 : Aside0 (w17.heap.size ≤ w18.heap.size) := ⟨hb.size⟩; clear U23 U25_0 U29 U33_0 U47 U79 Bg2 Bg8 HB; have U23 := n_U23; have U25_0 := n_U25_0; have U29 := n_U29; have U33_0 := n_U33_0; have U47 := n_U47; have U79 := n_U79; have Bg2 := n_Bg2; have Bg8 := n_Bg8; have HB := n_HB; clear n_U23 n_U25_0 n_U29 n_U33_0 n_U47 n_U79 n_Bg2 n_Bg8 n_HB; clear hb ho0; have U81_0 := nu0; clear nu0; obtain ⟨A81_0, c81_0, e0⟩ := Kd.R_slice U81_0.out; subst e0) | ((with_reducible refine gate_callee (f := 35) rfl ?_); refine goesL_ (some 86) rfl rfl Try.func35 (by kernel_rfl) rfl #[.slice A81_0 s0.length c81_0, .slice A25_0 s0.length c25_0] rfl (by (try simp only [List.map_toArray, List.map_cons, List.map_nil]); first | done | rfl) ?_; refine (laws_eqInt64S.calls k _ _ s0 _ _ s0 true _ ?s1 ?s2 ?s3 ?s4 H6'.out).mono ?_; (case s1 => exact UR.C U81_0.out); (case s2 => exact UR.cap U81_0.out); (case s3 => exact UR.C U25_0.out); (case s4 => exact UR.cap U25_0.out); rintro e w19 ⟨rfl, hb⟩; refine ⟨_, rfl, ?_⟩; have hb := hb.below; have n_U23 := Aside0.mk (U23.out.mvB (Frm.below hb)); have n_U25_0 := Aside0.mk (U25_0.out.mvB (Frm.below hb)); have n_U29 := Aside0.mk (U29.out.mvB (Frm.below hb)); have n_U33_0 := Aside0.mk (U33_0.out.mvB (Frm.below hb)); have n_U47 := Aside0.mk (U47.out.mvB (Frm.below hb)); have n_U79 := Aside0.mk (U79.out.mvB (Frm.below hb)); have n_U81_0 := Aside0.mk (U81_0.out.mvB (Frm.below hb)); have n_Bg2 := Aside0.mk (blk_below Bg2.out hb); have n_Bg8 := Aside0.mk (blk_below Bg8.out hb); have n_HB := Aside0.mk (below_step HB.out hb); have NN19 : Aside0 (w18.heap.size ≤ w19.heap.size) := ⟨hb.size⟩; clear U23 U25_0 U29 U33_0 U47 U79 U81_0 Bg2 Bg8 HB; have U23 := n_U23; have U25_0 := n_U25_0; have U29 := n_U29; have U33_0 := n_U33_0; have U47 := n_U47; have U79 := n_U79; have U81_0 := n_U81_0; have Bg2 := n_Bg2; have Bg8 := n_Bg8; have HB := n_HB; clear n_U23 n_U25_0 n_U29 n_U33_0 n_U47 n_U79 n_U81_0 n_Bg2 n_Bg8 n_HB; clear hb) | ((with_reducible refine gate_callee (f := 37) rfl ?_); refine goesL_ (some 95) rfl rfl Try.func37 (by kernel_rfl) rfl #[.slice A33_0 s0.length c33_0, .int .i64 1] rfl (by (try simp only [List.map_toArray, List.map_cons, List.map_nil]); first | done | rfl) ?_; have hcall := laws_heldInt64S.calls k _ _ ((count 1 s0.length)) 1 m2 _ (UR.C U33_0.out) (UR.cap U33_0.out) H15'.out; simp only [marks_length, count_length] at hcall; refine hcall.mono ?_; clear hcall; rintro e w20 ⟨rfl, hb⟩; refine ⟨_, rfl, ?_⟩; have hb := hb.below; have n_U23 := Aside0.mk (U23.out.mvB (Frm.below hb)); have n_U25_0 := Aside0.mk (U25_0.out.mvB (Frm.below hb)); have n_U29 := Aside0.mk (U29.out.mvB (Frm.below hb)); have n_U33_0 := Aside0.mk (U33_0.out.mvB (Frm.below hb)); have n_U47 := Aside0.mk (U47.out.mvB (Frm.below hb)); have n_U79 := Aside0.mk (U79.out.mvB (Frm.below hb)); have n_U81_0 := Aside0.mk (U81_0.out.mvB (Frm.below hb)); have n_Bg2 := Aside0.mk (blk_below Bg2.out hb); have n_Bg8 := Aside0.mk (blk_below Bg8.out hb); have n_HB := Aside0.mk (below_step HB.out hb); have NN20 : Aside0 (w19.heap.size ≤ w20.heap.size) := ⟨hb.size⟩; clear U23 U25_0 U29 U33_0 U47 U79 U81_0 Bg2 Bg8 HB; have U23 := n_U23; have U25_0 := n_U25_0; have U29 := n_U29; have U33_0 := n_U33_0; have U47 := n_U47; have U79 := n_U79; have U81_0 := n_U81_0; have Bg2 := n_Bg2; have Bg8 := n_Bg8; have HB := n_HB; clear n_U23 n_U25_0 n_U29 n_U33_0 n_U47 n_U79 n_U81_0 n_Bg2 n_Bg8 n_HB; clear hb))
 go_ret
 exact ⟨rfl, HB.out⟩
theorem laws_FnExactCountEnds.small0 (k : Nat) (A0_0 : Option Addr) (c0_0 : Nat) (l0_0 : List (List Int)) (A0_1 : Option Addr) (c0_1 : Nat) (l0_1 : List Int) (a1 : Int) (t18 : Int) (w : World) (hr0_0 : Kd.C (Kd.slice 2 (Kd.int .i64)) w A0_0 l0_0.length l0_0) (hc0_0 : l0_0.length ≤ c0_0) (hr0_1 : Kd.C (Kd.int .i64) w A0_1 l0_1.length l0_1) (hc0_1 : l0_1.length ≤ c0_1) (h1 : laws_szProblem.f k l0_0 l0_1 1048576 = some t18) (h2 : t18 < 0) :
  Calls Try.prog 8 #[.agg #[.slice A0_0 l0_0.length c0_0, .slice A0_1 l0_1.length c0_1], .int .i64 a1] w fun e w' => e = .returned (.bool true) ∧ Below w.heap.size w w' := by
 have HR0_0 := Aside0.mk hr0_0
 have HC0_0 := Aside0.mk hc0_0
 clear hr0_0 hc0_0
 have HR0_1 := Aside0.mk hr0_1
 have HC0_1 := Aside0.mk hc0_1
 clear hr0_1 hc0_1
 have HB := Aside0.mk (Below.refl w.heap.size w)
 have H1' := Aside0.mk h1
 clear h1
 go_enter Try.func8, Try.ntmps8
 go_wp2_with (first | ((with_reducible refine gate_dst (N := 2) rfl ?_); refine box_event ?hg (N := 2) ?hd (cs := #[.slice A0_0 l0_0.length c0_0, .slice A0_1 l0_1.length c0_1]) (t := 25) ?hr ?_; (case hd => rfl); (case hg => rfl); (case hr => first | (go_simp; done) | (go_simp; rfl)); intro g2 hg w1 hbox hb; have Gg2 : Aside0 (g2 = w.heap.size) := ⟨hg⟩; have Kg2 := Aside0.mk (blk_lt hbox); clear hg; have n_HB := Aside0.mk (below_step HB.out hb); have NN1 : Aside0 (w.heap.size ≤ w1.heap.size) := ⟨hb.size⟩; clear HB; have HB := n_HB; clear n_HB; have Bg2 := Aside0.mk hbox; clear hb hbox; have hc2_0 : w1.cell? ⟨g2, 0, none⟩ = some (.slice A0_0 l0_0.length c0_0) := (blk_cell Bg2.out 0).trans rfl; have hf2_0 := blk_frozen Bg2.out 0; have hc2_1 : w1.cell? ⟨g2, 1, none⟩ = some (.slice A0_1 l0_1.length c0_1) := (blk_cell Bg2.out 1).trans rfl; have hf2_1 := blk_frozen Bg2.out 1) | ((with_reducible refine gate_callee (f := 15) rfl ?_); refine goesL_ (some 18) rfl rfl Try.func15 (by kernel_rfl) rfl #[.agg #[.slice A0_0 l0_0.length c0_0, .slice A0_1 l0_1.length c0_1], .int .i64 1048576] rfl (by (try simp only [List.map_toArray, List.map_cons, List.map_nil]); first | done | rfl) ?_; refine (laws_szProblem.calls k _ _ l0_0 _ _ l0_1 1048576 t18 _ ?s1 ?s2 ?s3 ?s4 H1'.out).mono ?_; (case s1 => exact Kd.C_below HR0_0.out HB.out); (case s2 => exact HC0_0.out); (case s3 => exact Kd.C_below HR0_1.out HB.out); (case s4 => exact HC0_1.out); rintro e w2 ⟨rfl, hb⟩; refine ⟨_, rfl, ?_⟩; have n_Bg2 := Aside0.mk (blk_below Bg2.out hb); have n_HB := Aside0.mk (below_step HB.out hb); have NN2 : Aside0 (w1.heap.size ≤ w2.heap.size) := ⟨hb.size⟩; clear hc2_0 hf2_0; clear hc2_1 hf2_1; clear Bg2 HB; have Bg2 := n_Bg2; have HB := n_HB; clear n_Bg2 n_HB; clear hb; have hc2_0 : w2.cell? ⟨g2, 0, none⟩ = some (.slice A0_0 l0_0.length c0_0) := (blk_cell Bg2.out 0).trans rfl; have hf2_0 := blk_frozen Bg2.out 0; have hc2_1 : w2.cell? ⟨g2, 1, none⟩ = some (.slice A0_1 l0_1.length c0_1) := (blk_cell Bg2.out 1).trans rfl; have hf2_1 := blk_frozen Bg2.out 1))
 go_ret
 exact ⟨rfl, HB.out⟩
def laws_FnExactCountEnds.ok_walk (k : Nat) (l0_0 : List (List Int)) (l0_1 : List Int) (a1 : Int) : Prop := ∃ (t18 : Int) (s0 : List Int) (s1 : Int) (m1 : Int) (m2 : Int), (laws_szProblem.f k l0_0 l0_1 1048576 = some t18) ∧ (¬ t18 < 0) ∧ (laws_toProblem.f k l0_0 l0_1 = some (l0_0, l0_1)) ∧ (spec_CountEnds.f k l0_0 l0_1 a1 = some (s0, s1)) ∧ (impl_CountEnds.f k l0_0 l0_1 a1 = some (s0, s1)) ∧ (laws_eqInt64S.f k s0 s0 = some true) ∧ (laws_eqProblem.f k l0_0 l0_1 l0_0 l0_1 = some true) ∧ (m1 = 1 + (lens l0_0 : Int) + (l0_1.length : Int)) ∧ (1 + (lens l0_0 : Int) + (l0_1.length : Int) ≤ 1099511627776) ∧ (l0_0.length ≤ 1099511627776) ∧ (¬ m1 < 0) ∧ (m2 = 1 + (s0.length : Int)) ∧ (1 + (s0.length : Int) ≤ 1099511627776) ∧ (¬ m2 < 0) ∧ (laws_heldInt64S.f k ((count 1 s0.length)) 1 = some m2)
def laws_FnExactCountEnds.ok_small0 (k : Nat) (l0_0 : List (List Int)) (l0_1 : List Int) (a1 : Int) : Prop := ∃ (t18 : Int), (laws_szProblem.f k l0_0 l0_1 1048576 = some t18) ∧ (t18 < 0)
open Classical in
noncomputable def laws_FnExactCountEnds.f (k : Nat) (l0_0 : List (List Int)) (l0_1 : List Int) (a1 : Int) : Option Bool := if laws_FnExactCountEnds.ok_walk k l0_0 l0_1 a1 ∨ laws_FnExactCountEnds.ok_small0 k l0_0 l0_1 a1 then some true else none
theorem laws_FnExactCountEnds.calls (k : Nat) (A0_0 : Option Addr) (c0_0 : Nat) (l0_0 : List (List Int)) (A0_1 : Option Addr) (c0_1 : Nat) (l0_1 : List Int) (a1 : Int) (r : Bool) (w : World) (hr0_0 : Kd.C (Kd.slice 2 (Kd.int .i64)) w A0_0 l0_0.length l0_0) (hc0_0 : l0_0.length ≤ c0_0) (hr0_1 : Kd.C (Kd.int .i64) w A0_1 l0_1.length l0_1) (hc0_1 : l0_1.length ≤ c0_1) (h : laws_FnExactCountEnds.f k l0_0 l0_1 a1 = some r) :
  Calls Try.prog 8 #[.agg #[.slice A0_0 l0_0.length c0_0, .slice A0_1 l0_1.length c0_1], .int .i64 a1] w fun e w' => e = .returned (.bool r) ∧ Below w.heap.size w w' := by
 unfold laws_FnExactCountEnds.f at h
 split at h
 case isFalse => cases h
 rename_i hok
 cases h
 rcases hok with ⟨t18, s0, s1, m1, m2, h1, h2, h3, h4, h5, h6, h7, h8, h9, h10, h11, h12, h13, h14, h15⟩ | ⟨t18, h1, h2⟩
 ·exact laws_FnExactCountEnds.walk k A0_0 c0_0 l0_0 A0_1 c0_1 l0_1 a1 t18 s0 s1 m1 m2 w hr0_0 hc0_0 hr0_1 hc0_1 h1 h2 h3 h4 h5 h6 h7 h8 h9 h10 h11 h12 h13 h14 h15
 ·exact laws_FnExactCountEnds.small0 k A0_0 c0_0 l0_0 A0_1 c0_1 l0_1 a1 t18 w hr0_0 hc0_0 hr0_1 hc0_1 h1 h2
end Go.Proofs.Ythdoilfjcgickaa.Pr
end
section
namespace Go.Proofs.Ythdoilfjcgickaa.Say
open Go.Proofs.Ythdoilfjcgickaa.Op Go.Proofs.Ythdoilfjcgickaa.Pr
def FnExactCountEnds : Prop := ∀ (l0_0 : List (List Int)) (l0_1 : List Int) (a1 : Int), GoodList (GoodList (GoodInt .i64)) l0_0 → GoodList (GoodInt .i64) l0_1 → GoodInt .i64 a1 → ∃ k, laws_FnExactCountEnds.f k l0_0 l0_1 a1 = some true
end Go.Proofs.Ythdoilfjcgickaa.Say
end
section
namespace Go.Proofs.Ythdoilfjcgickaa.Bz
open Go.RowKit Go.Proofs.YthdoilfjcgickaaW.PrintWords Go.Proofs.YthdoilfjcgickaaW.PrintMore Go.Proofs.Ythdoilfjcgickaa.Ma Go.Proofs.Ythdoilfjcgickaa.Dt Go.Proofs.Ythdoilfjcgickaa.Bd
theorem det_scal (L : Int) : ∀ n, det n (fun a b => if a = b then L else 0) = L ^ n := by
 intro n
 induction n with
 | zero => simp [det]
 | succ n ih =>
  rw [det_succ, sm_one (k := 0) (by omega) (fun i _ h => by rw [if_neg (by omega)]; simp)]
  rw [det_congr (A := mnr 0 (fun a b => if a = b then L else 0)) (B := fun a b => if a = b then L else 0) (fun i j _ _ => by simp [mnr, up]), ih]
  rw [if_pos rfl, Int.pow_succ, show sg 0 = 1 from rfl]
  grind
theorem det_zero_col {n c : Nat} (hc : c < n) {A : Mat} (h : ∀ i, i < n → A i c = 0) : det n A = 0 := by
 have := det_col_lin (A := A) (B := A) (C := A) (s := 0) (t := 0) hc (fun i hi => by rw [h i hi]; simp) (fun i j _ _ _ => ⟨rfl, rfl⟩)
 simpa using this
theorem det_1 (A : Mat) : det 1 A = A 0 0 := by simp [det, sm, sg]
theorem det_2 (A : Mat) : det 2 A = A 0 0 * A 1 1 - A 0 1 * A 1 0 := by
 simp [det, sm, sg, mnr, up]
 omega
def rs (i : Nat) (A : Mat) (r c : Nat) : Int := det i A * A r c - sm i (fun t => det i (rset t (A r) A) * A t c)
theorem rs_zero (i : Nat) (A : Mat) (r : Nat) {j : Nat} (hj : j < i) : rs i A r j = 0 := by
 unfold rs
 rw [adj_row A (A r) hj]; omega
theorem block_elim (i d : Nat) (A : Mat) : det i A ^ d * det (i + d) A = det i A * det d (fun a b => rs i A (i + a) (i + b)) := by
 let E : Mat := fun a b => if a < i then one a b else if b < i then - det i (rset b (A a) A) else if a = b then det i A else 0
 have hE : det (i + d) E = det i A ^ d := by
  rw [det_block d i E (fun a b ha hb _ => by simp only [E, if_pos ha, one]; rw [if_neg (by omega)])]
  rw [det_congr (A := E) (B := one) (fun a b ha _ => by simp only [E, if_pos ha]), det_one, Int.one_mul, ← det_scal]
  exact det_congr (fun a b _ _ => by simp only [sh, E]; rw [if_neg (by omega), if_neg (by omega)]; simp)
 have hlow (a b : Nat) (ha : i ≤ a) (ha2 : a < i + d) : mul (i + d) E A a b = rs i A a b := by
  unfold mul
  rw [sm_split, sm_congr (f := fun k => E a k * A k b) (g := fun k => (-1) * (det i (rset k (A a) A) * A k b)) (fun k hk => by simp only [E]; rw [if_neg (by omega), if_pos hk]; grind), sm_mul]
  rw [sm_one (n := d) (k := a - i) (by omega) (fun k hk hne => by simp only [E]; rw [if_neg (by omega), if_neg (by omega), if_neg (by omega)]; simp)]
  simp only [E]
  rw [if_neg (by omega), if_neg (by omega), if_pos (by omega), show i + (a - i) = a from by omega]
  unfold rs
  omega
 have hup (a b : Nat) (ha : a < i) : mul (i + d) E A a b = A a b := by
  unfold mul
  rw [sm_one (k := a) (by omega) (fun k hk hne => by simp only [E, if_pos ha, one]; rw [if_neg (by omega)]; simp)]
  simp [E, ha, one]
 rw [← hE, ← det_mul, det_block' d i (mul (i + d) E A) (fun a b h1 h2 h3 => by rw [hlow a b h1 h2, rs_zero i A a h3])]
 rw [det_congr (A := mul (i + d) E A) (B := A) (fun a b ha _ => hup a b ha)]
 congr 1
 exact det_congr (fun a b ha _ => by simp only [sh]; exact hlow _ _ (by omega) (by omega))
def bord (i r c : Nat) (A : Mat) : Mat := fun a b => A (if a < i then a else r) (if b < i then b else c)
def bm (i r c : Nat) (A : Mat) : Int := det (i + 1) (bord i r c A)
theorem rs_re (i : Nat) (A B : Mat) (r c r' c' : Nat) (h1 : ∀ a b, a < i → b < i → B a b = A a b) (h2 : ∀ b, b < i → B r' b = A r b) (h3 : ∀ a, a < i → B a c' = A a c) (h4 : B r' c' = A r c) : rs i B r' c' = rs i A r c := by
 unfold rs
 rw [det_congr (A := B) (B := A) h1, h4]
 congr 1
 refine sm_congr (fun t ht => ?_)
 rw [h3 t ht, det_congr (A := rset t (B r') B) (B := rset t (A r) A) (fun a b ha hb => by
  unfold rset
  split
  ·exact h2 b hb
  ·exact h1 a b ha hb)]
theorem bm_rs {i : Nat} {A : Mat} (hL : det i A ≠ 0) (r c : Nat) : bm i r c A = rs i A r c := by
 have h := block_elim i 1 (bord i r c A)
 rw [det_1, det_congr (A := bord i r c A) (B := A) (n := i) (fun a b ha hb => by simp [bord, ha, hb]), Int.pow_succ, Int.pow_zero, Int.one_mul] at h
 rw [rs_re i A (bord i r c A) r c (i + 0) (i + 0) (fun a b ha hb => by simp [bord, ha, hb]) (fun b hb => by simp [bord, hb]) (fun a ha => by simp [bord, ha]) (by simp [bord])] at h
 exact Int.eq_of_mul_eq_mul_left hL h
theorem sylv {i : Nat} {A : Mat} (hL : det i A ≠ 0) (r c : Nat) : det i A * bm (i + 1) r c A = bm i i i A * bm i r c A - bm i i c A * bm i r i A := by
 have h := block_elim i 2 (bord (i + 1) r c A)
 rw [det_2, det_congr (A := bord (i + 1) r c A) (B := A) (n := i) (fun a b ha hb => by unfold bord; rw [if_pos (by omega), if_pos (by omega)])] at h
 have q (a b r' c' : Nat) (ha : (if a < i + 1 then a else r) = r') (hb : (if b < i + 1 then b else c) = c') : rs i (bord (i + 1) r c A) a b = rs i A r' c' :=
  rs_re i A (bord (i + 1) r c A) r' c' a b (fun x y hx hy => by unfold bord; rw [if_pos (by omega), if_pos (by omega)]) (fun y hy => by unfold bord; rw [ha, if_pos (by omega)]) (fun x hx => by unfold bord; rw [hb, if_pos (by omega)]) (by unfold bord; rw [ha, hb])
 rw [q (i + 0) (i + 0) i i (by simp) (by simp), q (i + 1) (i + 1) r c (by simp) (by simp), q (i + 0) (i + 1) i c (by simp) (by simp), q (i + 1) (i + 0) r i (by simp) (by simp)] at h
 rw [← bm_rs hL, ← bm_rs hL, ← bm_rs hL, ← bm_rs hL] at h
 have e : det i A ^ 2 * det (i + 2) (bord (i + 1) r c A) = det i A * (det i A * bm (i + 1) r c A) := by unfold bm; grind
 rw [e] at h
 exact Int.eq_of_mul_eq_mul_left hL h
def fact : Nat → Nat
 | 0 => 1
 | n + 1 => (n + 1) * fact n
def b20 (n : Nat) : Nat := fact n * 20 ^ n
theorem sm_abs {n B : Nat} {f : Nat → Int} (h : ∀ i, i < n → (f i).natAbs ≤ B) : (sm n f).natAbs ≤ n * B := by
 induction n with
 | zero => simp [sm]
 | succ n ih =>
  have h1 := ih (fun i hi => h i (by omega))
  have h2 := h n (by omega)
  have h3 := Int.natAbs_add_le (sm n f) (f n)
  simp only [sm]
  rw [Nat.add_mul, Nat.one_mul]
  omega
theorem sg_abs (k : Nat) : (sg k).natAbs = 1 := by unfold sg; split <;> rfl
theorem det_abs20 : ∀ (n : Nat) (A : Mat), (∀ i j, i < n → j < n → (A i j).natAbs ≤ 20) → (det n A).natAbs ≤ b20 n := by
 intro n
 induction n with
 | zero => intro A _; show (1 : Int).natAbs ≤ 1; decide
 | succ n ih =>
  intro A h
  rw [det_succ]
  refine Nat.le_trans (sm_abs (B := 20 * b20 n) (fun k hk => ?_)) ?_
  ·rw [Int.natAbs_mul, Int.natAbs_mul, sg_abs, Nat.one_mul]
   exact Nat.mul_le_mul (h 0 k (by omega) hk) (ih (mnr k A) (fun i j hi hj => h _ _ (by omega) (up_lt hj)))
  ·unfold b20; rw [fact, Nat.pow_succ]
   exact Nat.le_of_eq (by grind)
def Bk (n k : Nat) (A : Mat) : Prop := ∀ i j, i < n → j < n → (A i j).natAbs ≤ if j = k then 100 else 20
theorem det_absk : ∀ (n k : Nat) (A : Mat), Bk n k A → (det n A).natAbs ≤ 5 * b20 n := by
 intro n
 induction n with
 | zero => intro k A _; show (1 : Int).natAbs ≤ 5 * 1; decide
 | succ n ih =>
  intro k A h
  rw [det_succ]
  refine Nat.le_trans (sm_abs (B := 100 * b20 n) (fun c hc => ?_)) ?_
  ·rw [Int.natAbs_mul, Int.natAbs_mul, sg_abs, Nat.one_mul]
   have h0 := h 0 c (by omega) hc
   by_cases e : c = k
   ·subst e
    rw [if_pos rfl] at h0
    exact Nat.mul_le_mul h0 (det_abs20 n (mnr c A) (fun i j hi hj => by have := h (i + 1) (up c j) (by omega) (up_lt hj); rwa [if_neg (up_ne c j)] at this))
   ·rw [if_neg e] at h0
    have := ih (dn c k) (mnr c A) (fun i j hi hj => by
     have := h (i + 1) (up c j) (by omega) (up_lt hj)
     unfold mnr
     by_cases q : up c j = k
     ·rw [if_pos q] at this
      rw [if_pos (by rw [← q, dn_up])]; exact this
     ·rw [if_neg q] at this
      split <;> omega)
    calc (A 0 c).natAbs * (det n (mnr c A)).natAbs ≤ 20 * (5 * b20 n) := Nat.mul_le_mul h0 this
     _ = 100 * b20 n := by omega
  ·unfold b20; rw [fact, Nat.pow_succ]
   exact Nat.le_of_eq (by grind)
theorem b20_le : ∀ n, n ≤ 5 → 5 * b20 n ≤ 1920000000 := by
 intro n h
 match n, h with
 | 0, _ => decide
 | 1, _ => decide
 | 2, _ => decide
 | 3, _ => decide
 | 4, _ => decide
 | 5, _ => decide
 | n + 6, h => omega
theorem bm_abs {n k : Nat} (hn : n ≤ 5) {A : Mat} (h : Bk n k A) {i r c : Nat} (hi : i < n) (hr : r < n) (hic : i ≤ c) (hc : c < n) : -1920000000 ≤ bm i r c A ∧ bm i r c A ≤ 1920000000 := by
 have h1 : (bm i r c A).natAbs ≤ 5 * b20 (i + 1) := det_absk (i + 1) (if k < i then k else i) _ (fun a b ha hb => by
  unfold bord
  have := h (if a < i then a else r) (if b < i then b else c) (by split <;> omega) (by split <;> omega)
  refine Nat.le_trans this ?_
  grind)
 have h2 := b20_le (i + 1) (by omega)
 omega
theorem prod_b {x y : Int} (hx : -1920000000 ≤ x ∧ x ≤ 1920000000) (hy : -1920000000 ≤ y ∧ y ≤ 1920000000) : -3686400000000000000 ≤ x * y ∧ x * y ≤ 3686400000000000000 := by
 have h : (x * y).natAbs ≤ 1920000000 * 1920000000 := by rw [Int.natAbs_mul]; exact Nat.mul_le_mul (by omega) (by omega)
 omega
structure Inv (n k i : Nat) (M : Mat) (last turn : Int) (A A0 : Mat) : Prop where
 le : i ≤ n
 small : Bk n k A
 num : ∀ r c, i ≤ r → r < n → i ≤ c → c < n → M r c = bm i r c A
 last_ : last = det i A
 nz : last ≠ 0
 turn_ : turn = 1 ∨ turn = -1
 det_ : turn * det n A = det n A0
section
variable {n k : Nat} (hn : n ≤ 5) {A0 : Mat}
include hn
theorem Inv.step {i : Nat} {M A : Mat} {last turn : Int} (h : Inv n k i M last turn A A0) (hi : i < n) (hp : M i i ≠ 0) : Inv n k (i + 1) (el M i last) (M i i) turn A A0 := by
 have hL : det i A ≠ 0 := by rw [← h.last_]; exact h.nz
 have hpi := h.num i i (Nat.le_refl _) hi (Nat.le_refl _) hi
 refine ⟨by omega, h.small, fun r c hr hrn hc hcn => ?_, ?_, hp, h.turn_, h.det_⟩
 ·unfold el ev
  rw [if_pos (by omega), h.num r c (by omega) hrn (by omega) hcn, hpi, h.num r i (by omega) hrn (Nat.le_refl _) hi, h.num i c (Nat.le_refl _) hi (by omega) hcn]
  have p1 := prod_b (bm_abs hn h.small hi hrn (by omega) hcn) (bm_abs hn h.small hi hi (Nat.le_refl _) hi)
  have p2 := prod_b (bm_abs hn h.small hi hrn (Nat.le_refl _) hi) (bm_abs hn h.small hi hi (by omega) hcn)
  have s := sylv hL r c
  have e : bm i r c A * bm i i i A - bm i r i A * bm i i c A = det i A * bm (i + 1) r c A := by rw [s]; grind
  have b := bm_abs hn h.small (i := i + 1) (r := r) (c := c) (by omega) hrn hc hcn
  rw [w64 (x := bm i r c A * bm i i i A) (by omega) (by omega), w64 (x := bm i r i A * bm i i c A) (by omega) (by omega), w64 (x := bm i r c A * bm i i i A - bm i r i A * bm i i c A) (by omega) (by omega), e, h.last_, Int.mul_tdiv_cancel_left _ hL]
  exact w64 (by omega) (by omega)
 ·rw [hpi]; unfold bm
  exact det_congr (fun a b ha hb => by
   unfold bord
   have e1 : (if a < i then a else i) = a := by split <;> omega
   have e2 : (if b < i then b else i) = b := by split <;> omega
   rw [e1, e2])
theorem Inv.none_ {i : Nat} {M A : Mat} {last turn : Int} (h : Inv n k i M last turn A A0) (hi : i < n) (hz : ∀ r, i ≤ r → r < n → M r i = 0) : det n A0 = 0 := by
 have _h := hn
 have hL : det i A ≠ 0 := by rw [← h.last_]; exact h.nz
 have b := block_elim i (n - i) A
 rw [show i + (n - i) = n from by omega, det_zero_col (c := 0) (A := fun a b => rs i A (i + a) (i + b)) (by omega) (fun a ha => by
  rw [← bm_rs hL, Nat.add_zero, ← h.num (i + a) i (by omega) (by omega) (Nat.le_refl _) hi]; exact hz _ (by omega) (by omega)), Int.mul_zero] at b
 have : det n A = 0 := by
  rcases Int.mul_eq_zero.1 b with b | b
  ·exact absurd b (Int.pow_ne_zero hL)
  ·exact b
 rw [← h.det_, this, Int.mul_zero]
theorem Inv.swap {i s : Nat} {M A : Mat} {last turn : Int} (h : Inv n k i M last turn A A0) (his : i < s) (hs : s < n) : Inv n k i (swp M i s) last (wrap64 (-turn)) (swp A i s) A0 := by
 have _h := hn
 have hsr (r : Nat) (hr : r < n) : (if r = i then s else if r = s then i else r) < n := by grind
 have hlow (a : Nat) (ha : a < i) : (if a = i then s else if a = s then i else a) = a := by rw [if_neg (by omega), if_neg (by omega)]
 have w : wrap64 (-turn) = -turn := w64 (by have := h.turn_; omega) (by have := h.turn_; omega)
 refine ⟨h.le, fun a b ha hb => h.small _ _ (hsr a ha) hb, fun r c hr hrn hc hcn => ?_, ?_, h.nz, by rw [w]; have := h.turn_; omega, ?_⟩
 ·unfold swp
  rw [h.num _ c (by grind) (hsr r hrn) hc hcn]
  unfold bm
  refine det_congr (fun a b _ _ => ?_)
  unfold bord
  by_cases ha : a < i
  ·simp only [if_pos ha]; rw [hlow a ha]
  ·simp only [if_neg ha]
 ·rw [h.last_]
  exact det_congr (fun a b ha _ => by unfold swp; rw [hlow a ha])
 ·have e := (det_form n).swap (r := i) (q := s) (A := A) (B := swp A i s) (by omega) hs (by omega) (fun j _ => ⟨by unfold swp; rw [if_pos rfl], by unfold swp; rw [if_neg (by omega), if_pos rfl]⟩) (fun a b _ _ h1 h2 => by unfold swp; rw [if_neg h1, if_neg h2])
  rw [e, w, ← h.det_]
  grind
theorem dgo_inv : ∀ (q i : Nat), i + q = n → ∀ (M A : Mat) (last turn : Int), Inv n k i M last turn A A0 → dgo n q i M last turn = det n A0 := by
 intro q
 induction q with
 | zero =>
  intro i hi M A last turn h
  obtain rfl : i = n := by omega
  show wrap64 (turn * last) = _
  rw [h.last_, h.det_]
  have b := det_absk i k A h.small
  have b2 := b20_le i hn
  have t := h.turn_
  have e := h.det_
  have : (det i A0).natAbs = (det i A).natAbs := by
   rw [← e, Int.natAbs_mul]
   rcases t with t | t <;> rw [t] <;> simp
  exact w64 (by omega) (by omega)
 | succ q ih =>
  intro i hi M A last turn h
  unfold dgo
  cases hf : fnd M i (n - i) 0 with
  | none =>
   have hz := fnd_none hf
   exact (h.none_ hn (by omega) (fun r h1 h2 => by have := hz (r - i) (Nat.zero_le _) (by omega); rwa [show i + (r - i) = r from by omega] at this)).symm
  | some kk =>
   obtain ⟨_, h2, h3, _⟩ := fnd_some hf
   cases kk with
   | zero => exact ih (i + 1) (by omega) _ A _ _ (h.step hn (by omega) h3)
   | succ kk =>
    have hs := h.swap hn (s := i + (kk + 1)) (by omega) (by omega)
    exact ih (i + 1) (by omega) _ _ _ _ (hs.step hn (by omega) (by unfold swp; rw [if_pos rfl]; exact h3))
end
theorem dgo_det {n k : Nat} (hn : n ≤ 5) (A : Mat) (h : Bk n k A) : dgo n n 0 A 1 1 = det n A := by
 refine dgo_inv hn (k := k) n 0 (by omega) A A 1 1 ⟨Nat.zero_le _, h, fun r c _ _ _ _ => ?_, rfl, by decide, .inl rfl, Int.one_mul _⟩
 unfold bm
 rw [det_1]; simp [bord]
end Go.Proofs.Ythdoilfjcgickaa.Bz
end
section
namespace Go.Proofs.Ythdoilfjcgickaa.Un
open Go.RowKit Go.Proofs.YthdoilfjcgickaaW.PrintWords Go.Proofs.YthdoilfjcgickaaW.PrintMore Go.Proofs.Ythdoilfjcgickaa.Ma Go.Proofs.Ythdoilfjcgickaa.Dt Go.Proofs.Ythdoilfjcgickaa.Bz
def colM (P : Nat → Bool) (M : Mat) : Mat := fun i k => if P k = true then - M i k else if i = k then 1 else 0
end Go.Proofs.Ythdoilfjcgickaa.Un
end
section
namespace Go.Proofs.Ythdoilfjcgickaa.Pr
open Go.RowKit Go.Proofs.YthdoilfjcgickaaW.PrintWords Go.Proofs.YthdoilfjcgickaaW.PrintLast Go.Proofs.YthdoilfjcgickaaW.PrintMore
attribute [local go_sem] max2_int min2_int max_two min_two max_three min_three max_four min_four
mutual
def impl_part.l0 : Nat → Int → Int → List (List Int) → List (List Int) → Int → Int → Option ((List (List Int)))
 | 0, _, _, _, _, _, _ => none
 | k + 1, x1, x2, x7, x13, x14, x15 => if x15 < x14 then (if 0 ≤ x15 then (if x15 < (x13.length : Int) then ((impl_has.f x1 x15).bind fun t566 => (if t566 = true then (impl_part.l1 k x1 x2 x7 ([] : List Int) x13 x14 x15 (rd_L1 x13 x15) ((rd_L1 x13 x15).length : Int) 0) else (impl_part.l0 k x1 x2 x7 x13 x14 (wrap64 (x15 + 1))))) else (none)) else (none)) else (some x7)
def impl_part.l1 : Nat → Int → Int → List (List Int) → List Int → List (List Int) → Int → Int → List Int → Int → Int → Option ((List (List Int)))
 | 0, _, _, _, _, _, _, _, _, _, _ => none
 | k + 1, x1, x2, x7, x10, x13, x14, x15, x24, x25, x26 => if x26 < x25 then (if 0 ≤ x26 then (if x26 < (x24.length : Int) then ((impl_has.f x2 x26).bind fun t568 => (if t568 = true then (if x10.length < 17592186044416 then (impl_part.l1 k x1 x2 x7 (x10 ++ [rd x24 x26]) x13 x14 x15 x24 x25 (wrap64 (x26 + 1))) else (none)) else (impl_part.l1 k x1 x2 x7 x10 x13 x14 x15 x24 x25 (wrap64 (x26 + 1))))) else (none)) else (none)) else (if x7.length < 5864062014805 then (impl_part.l0 k x1 x2 (x7 ++ [x10]) x13 x14 (wrap64 (x15 + 1))) else (none))
end
def impl_part.f (k : Nat) (l0 : List (List Int)) (a1 : Int) (a2 : Int) : Option ((List (List Int))) := impl_part.l0 k a1 a2 ([] : List (List Int)) l0 (l0.length : Int) 0
theorem impl_part.mono_l : ∀ k, (∀ y0 y1 y2 y3 y4 y5, LeO (impl_part.l0 k y0 y1 y2 y3 y4 y5) (impl_part.l0 (k + 1) y0 y1 y2 y3 y4 y5)) ∧ (∀ y0 y1 y2 y3 y4 y5 y6 y7 y8 y9, LeO (impl_part.l1 k y0 y1 y2 y3 y4 y5 y6 y7 y8 y9) (impl_part.l1 (k + 1) y0 y1 y2 y3 y4 y5 y6 y7 y8 y9))
 | 0 => ⟨fun _ _ _ _ _ _ r h => by simp [impl_part.l0] at h, fun _ _ _ _ _ _ _ _ _ _ r h => by simp [impl_part.l1] at h⟩
 | k + 1 => by
  obtain ⟨ih0, ih1⟩ := impl_part.mono_l k
  refine ⟨?_, ?_⟩
  ·intro y0 y1 y2 y3 y4 y5
   unfold impl_part.l0
   repeat' first
   | (with_reducible exact ih0 _ _ _ _ _ _)
   | (with_reducible exact ih1 _ _ _ _ _ _ _ _ _ _)
   | (with_reducible exact LeO.refl _)
   | (with_reducible exact LeO.none _)
   | (with_reducible refine LeO.ite ?_ ?_)
   | (with_reducible refine LeO.bind ?_ (fun _ => ?_))
   | exact ih0 _ _ _ _ _ _
   | exact ih1 _ _ _ _ _ _ _ _ _ _
   | exact LeO.none _
   | refine LeO.ite ?_ ?_
   | refine LeO.bind ?_ (fun _ => ?_)
  ·intro y0 y1 y2 y3 y4 y5 y6 y7 y8 y9
   unfold impl_part.l1
   repeat' first
   | (with_reducible exact ih0 _ _ _ _ _ _)
   | (with_reducible exact ih1 _ _ _ _ _ _ _ _ _ _)
   | (with_reducible exact LeO.refl _)
   | (with_reducible exact LeO.none _)
   | (with_reducible refine LeO.ite ?_ ?_)
   | (with_reducible refine LeO.bind ?_ (fun _ => ?_))
   | exact ih0 _ _ _ _ _ _
   | exact ih1 _ _ _ _ _ _ _ _ _ _
   | exact LeO.none _
   | refine LeO.ite ?_ ?_
   | refine LeO.bind ?_ (fun _ => ?_)
theorem impl_part.mono : ∀ a0 a1 a2 k, LeO (impl_part.f k a0 a1 a2) (impl_part.f (k + 1) a0 a1 a2) := by
 intro a0 a1 a2 k
 obtain ⟨ih0, ih1⟩ := impl_part.mono_l k
 unfold impl_part.f
 repeat' first
   | (with_reducible exact ih0 _ _ _ _ _ _)
   | (with_reducible exact ih1 _ _ _ _ _ _ _ _ _ _)
   | (with_reducible exact LeO.refl _)
   | (with_reducible exact LeO.none _)
   | (with_reducible refine LeO.ite ?_ ?_)
   | (with_reducible refine LeO.bind ?_ (fun _ => ?_))
   | exact ih0 _ _ _ _ _ _
   | exact ih1 _ _ _ _ _ _ _ _ _ _
   | exact LeO.none _
   | refine LeO.ite ?_ ?_
   | refine LeO.bind ?_ (fun _ => ?_)
theorem impl_part.calls (k : Nat) (A0 : Option Addr) (c0 : Nat) (l0 : List (List Int)) (a1 : Int) (a2 : Int) (r : List (List Int)) (w : World) (hr0 : Kd.C (Kd.slice 2 (Kd.int .i64)) w A0 l0.length l0) (hc0 : l0.length ≤ c0) (h : impl_part.f k l0 a1 a2 = some r) :
  Calls Try.prog 77 #[.slice A0 l0.length c0, .int .i64 a1, .int .i64 a2] w fun e w' => ∃ v0_ : Value, e = .returned (v0_) ∧ Kd.S (Kd.slice 2 (Kd.int .i64)) 23 w' w.heap.size (fun _ => True) v0_ r ∧ Below w.heap.size w w' := by
 have HR0 := Aside0.mk hr0
 have HC0 := Aside0.mk hc0
 clear hr0 hc0
 have HB := Aside0.mk (Below.refl w.heap.size w)
 have H : (impl_part.l0 k a1 a2 ([] : List (List Int)) l0 (l0.length : Int) 0) = some r := h
 clear h
 have H' := Aside0.mk H
 clear H
 go_enter Try.func77, Try.ntmps77
 go_wp2
 go_loopg [7, 15] k (fun kq v7 v15 w' => ∃ (x7_1 : List (List Int)) (x15_1 : Int), v15 = .int .i64 x15_1 ∧ Aside0 (impl_part.l0 kq a1 a2 x7_1 l0 (l0.length : Int) x15_1 = some r) ∧ Aside0 (kq ≤ k) ∧ Aside0 (Kd.S (Kd.slice 2 (Kd.int .i64)) 23 w' w.heap.size (fun _ => True) v7 x7_1) ∧ Aside0 (Below w.heap.size w w'))
 case atStart => exact ⟨(([] : List (List Int))), (0), (by first | rfl | (simp; done) | (simp [*]; done)), H', ⟨Nat.le_refl _⟩, ⟨by first | exact Kd.S_nil _ _ _ _ _ | exact Kd.N_nil _ _ _ _ _ | exact Kd.V_nil _ _ _ _ _ | exact Kd.Q_nil _ _ _ _ _ | exact Kd.R_nil _ _ _ _ _⟩, ⟨by repeat (first | (with_reducible first | exact HB.out | apply below_alloc | apply pw_below_drewN | apply below_drew1) | exact HB.out)⟩⟩
 case round =>
  clear H'
  try clear p2
  obtain ⟨x7_1, x15_1, rfl, HA, HK1, HO_7, HB⟩ := hrel
  cases gk with
  | zero => exact absurd HA.out (by simp [impl_part.l0])
  | succ k1 =>
   have H := HA.out
   clear HA
   simp only [impl_part.l0] at H
   by_cases c4 : x15_1 < (l0.length : Int)
   ·rw [if_pos c4] at H
    have c4b0 : decide (x15_1 < (l0.length : Int)) = true := decide_eq_true c4
    clear c4
    by_cases c5 : 0 ≤ x15_1
    ·rw [if_pos c5] at H
     have c5b0 : decide (0 ≤ x15_1) = true := decide_eq_true c5
     clear c5
     by_cases c6 : x15_1 < (l0.length : Int)
     ·rw [if_pos c6] at H
      have c6b0 : decide (x15_1 < (l0.length : Int)) = true := decide_eq_true c6
      clear c6
      replace H := Option.bind_eq_some_iff.mp H
      obtain ⟨t566, A70, H⟩ := H
      replace H : (if t566 = true then (impl_part.l1 k1 a1 a2 x7_1 ([] : List Int) l0 (l0.length : Int) x15_1 (rd_L1 l0 x15_1) ((rd_L1 l0 x15_1).length : Int) 0) else (impl_part.l0 k1 a1 a2 x7_1 l0 (l0.length : Int) (wrap64 (x15_1 + 1)))) = some r := H
      have A7 := Aside0.mk A70
      clear A70
      by_cases c8 : t566 = true
      ·subst c8
       have H1 : (impl_part.l1 k1 a1 a2 x7_1 ([] : List Int) l0 (l0.length : Int) x15_1 (rd_L1 l0 x15_1) ((rd_L1 l0 x15_1).length : Int) 0) = some r := by rw [if_pos rfl] at H; exact H
       clear H
       have H := H1
       clear H1
       have H' := Aside0.mk H
       clear H
       have p565 : 0 ≤ (x15_1 : Int) := of_decide_eq_true (by first | (with_reducible assumption) | assumption)
       have q565 : x15_1 < (l0.length : Int) := of_decide_eq_true (by first | (with_reducible assumption) | assumption)
       obtain ⟨ad565, A565_0, c565_0, e565, hx565_0, hl565_0, hi565_0⟩ := at_L1 HR0.out x15_1 p565 q565
       cases e565
       replace hx565_0 := (HB.out.cell (World.block_lt_of_cell? w _ hx565_0)).trans hx565_0
       have HR565_0 := Aside0.mk hi565_0
       have HC565_0 := Aside0.mk hl565_0
       clear hi565_0 hl565_0
       replace p565 := eq_true p565
       replace q565 := eq_true q565
       go_wp2_with (first | ((with_reducible refine gate_callee (f := 109) rfl ?_); refine goesL_ (some 22) rfl rfl Try.func109 (by kernel_rfl) rfl #[.int .i64 a1, .int .i64 x15_1] rfl (by (try simp only [List.map_toArray, List.map_cons, List.map_nil]); first | done | rfl | (simp only [List.length_drop, List.length_take]; rfl)) ?_; (with_reducible refine (impl_has.calls a1 x15_1 true _ A7.out).mono ?_); rintro e w' ⟨rfl, ⟨nd, rfl⟩⟩; refine ⟨_, rfl, ?_⟩))
       go_loopg [10, 26] k1 (fun kq v10 v26 w' => ∃ (x10_2 : List Int) (x26_2 : Int), v26 = .int .i64 x26_2 ∧ Aside0 (impl_part.l1 kq a1 a2 x7_1 x10_2 l0 (l0.length : Int) x15_1 (rd_L1 l0 x15_1) ((rd_L1 l0 x15_1).length : Int) x26_2 = some r) ∧ Aside0 (kq ≤ k1) ∧ Aside0 (Kd.S (Kd.slice 2 (Kd.int .i64)) 23 w' w.heap.size (fun k_ => some k_ ≠ (v10 : Value).ownBlock) u7 x7_1) ∧ Aside0 (Kd.R (Kd.int .i64) 2 w' w.heap.size (fun _ => True) v10 x10_2) ∧ Aside0 (Below w.heap.size w w'))
       case atStart => exact ⟨(([] : List Int)), (0), (by first | rfl | (simp; done) | (simp [*]; done)), H', ⟨Nat.le_refl _⟩, ⟨by (with_reducible repeat (first | apply Kd.S_alloc | apply Kd.S_drewN | apply Kd.S_drew)); exact Kd.S_mono HO_7.out (fun _ hk => (by simp [Value.ownBlock]))⟩, ⟨by first | exact Kd.R_nil _ _ _ _ _ | exact Kd.N_nil _ _ _ _ _ | exact Kd.V_nil _ _ _ _ _ | exact Kd.Q_nil _ _ _ _ _ | exact Kd.S_nil _ _ _ _ _⟩, ⟨by repeat (first | (with_reducible first | exact HB.out | apply below_alloc | apply pw_below_drewN | apply below_drew1) | exact HB.out)⟩⟩
       case round =>
        clear H'
        try clear c1
        try clear p2
        try clear c4
        try clear c4b0
        try clear c5
        try clear c5b0
        try clear p5
        try clear q5
        try clear hx5
        try clear c6
        try clear c6b0
        try clear p6
        try clear c7
        try clear c8
        try clear hx565_0
        try clear p2
        try clear p565
        try clear q565
        obtain ⟨x10_2, x26_2, rfl, HA, HK2, HO_7, HO_10, HB⟩ := hrel
        cases gk with
        | zero => exact absurd HA.out (by simp [impl_part.l1])
        | succ k2 =>
         have H := HA.out
         clear HA
         simp only [impl_part.l1] at H
         by_cases c9 : x26_2 < ((rd_L1 l0 x15_1).length : Int)
         ·rw [if_pos c9] at H
          have c9b0 : decide (x26_2 < ((rd_L1 l0 x15_1).length : Int)) = true := decide_eq_true c9
          clear c9
          by_cases c10 : 0 ≤ x26_2
          ·rw [if_pos c10] at H
           have c10b0 : decide (0 ≤ x26_2) = true := decide_eq_true c10
           clear c10
           by_cases c11 : x26_2 < ((rd_L1 l0 x15_1).length : Int)
           ·rw [if_pos c11] at H
            have c11b0 : decide (x26_2 < ((rd_L1 l0 x15_1).length : Int)) = true := decide_eq_true c11
            clear c11
            replace H := Option.bind_eq_some_iff.mp H
            obtain ⟨t568, A120, H⟩ := H
            replace H : (if t568 = true then (if x10_2.length < 17592186044416 then (impl_part.l1 k2 a1 a2 x7_1 (x10_2 ++ [rd (rd_L1 l0 x15_1) x26_2]) l0 (l0.length : Int) x15_1 (rd_L1 l0 x15_1) ((rd_L1 l0 x15_1).length : Int) (wrap64 (x26_2 + 1))) else (none)) else (impl_part.l1 k2 a1 a2 x7_1 x10_2 l0 (l0.length : Int) x15_1 (rd_L1 l0 x15_1) ((rd_L1 l0 x15_1).length : Int) (wrap64 (x26_2 + 1)))) = some r := H
            have A12 := Aside0.mk A120
            clear A120
            by_cases c13 : t568 = true
            ·subst c13
             have H1 : (if x10_2.length < 17592186044416 then (impl_part.l1 k2 a1 a2 x7_1 (x10_2 ++ [rd (rd_L1 l0 x15_1) x26_2]) l0 (l0.length : Int) x15_1 (rd_L1 l0 x15_1) ((rd_L1 l0 x15_1).length : Int) (wrap64 (x26_2 + 1))) else (none)) = some r := by rw [if_pos rfl] at H; exact H
             clear H
             have H := H1
             clear H1
             by_cases c14 : x10_2.length < 17592186044416
             ·rw [if_pos c14] at H
              have LMc14 := Aside0.mk c14
              clear c14
              obtain ⟨y569, hy569⟩ : ∃ y_ : List Int, y_ = (x10_2 ++ [rd (rd_L1 l0 x15_1) x26_2]) := ⟨_, rfl⟩
              replace H : (impl_part.l1 k2 a1 a2 x7_1 y569 l0 (l0.length : Int) x15_1 (rd_L1 l0 x15_1) ((rd_L1 l0 x15_1).length : Int) (wrap64 (x26_2 + 1))) = some r := by first | (rw [hy569]; with_reducible exact H) | (have H2_ := (Option.bind_some _ _).symm.trans H; rw [hy569]; with_reducible exact H2_) | (have H2_ := (Option.bind_some _ _).symm.trans H; with_reducible exact H2_) | with_reducible exact H | (rw [hy569]; exact H) | exact H
              have Ny569 := Aside0.mk hy569
              clear hy569
              have H' := Aside0.mk H
              clear H
              have p567 : 0 ≤ (x26_2 : Int) := of_decide_eq_true (by first | (with_reducible assumption) | assumption)
              have q567 : x26_2 < ((rd_L1 l0 x15_1).length : Int) := of_decide_eq_true (by first | (with_reducible assumption) | assumption)
              obtain ⟨ad567, e567, hx567_0⟩ := Kd.at_int HR565_0.out x26_2 p567 q567
              cases e567
              replace hx567_0 := (HB.out.cell (World.block_lt_of_cell? w _ hx567_0)).trans hx567_0
              replace p567 := eq_true p567
              replace q567 := eq_true q567
              go_wp2_with (first | ((with_reducible refine gate_callee (f := 109) rfl ?_); refine goesL_ (some 33) rfl rfl Try.func109 (by kernel_rfl) rfl #[.int .i64 a2, .int .i64 x26_2] rfl (by (try simp only [List.map_toArray, List.map_cons, List.map_nil]); first | done | rfl | (simp only [List.length_drop, List.length_take]; rfl)) ?_; (with_reducible refine (impl_has.calls a2 x26_2 true _ A12.out).mono ?_); rintro e w' ⟨rfl, ⟨nd, rfl⟩⟩; refine ⟨_, rfl, ?_⟩) | ((with_reducible refine gate_builtin (b := .append) (xs := #[.tmp 34, .tmp 36]) rfl ?_); at_builtin; refine Kd.R_append (Kd.int .i64) (w0 := w) w.heap.size rfl (.tmp 34) (.tmp 36) 23 2 (.int .i64 0) 8 rfl Try.underlying23 info2 rfl (by decide) (by omega) u10 x10_2 (rd (rd_L1 l0 x15_1) x26_2) [.int .i64 (rd (rd_L1 l0 x15_1) x26_2)] (fun _ => True) (fun _ => False) rfl rfl ?aP (fun _ hk => hk.elim) ?aF ?aO ?aB ?aS ?aL ?_; (case aP => exact rfl); (case aB => exact (by repeat (first | (with_reducible first | exact HB.out | apply below_alloc | apply pw_below_drewN | apply below_drew1) | exact HB.out))); (case aF => exact (fun _ _ => trivial)); (case aO => exact (by (with_reducible repeat (first | apply Kd.R_alloc | apply Kd.R_drewN | apply Kd.R_drew)); exact HO_10.out)); (case aS => exact (below_size (by repeat (first | (with_reducible first | exact HB.out | apply below_alloc | apply pw_below_drewN | apply below_drew1) | exact HB.out)))); (case aL => have := LMc14.out; omega); intro v570 w15 ho hb hg hat; rw [← Ny569.out] at ho; have n0_ := Aside0.mk (Kd.S_after (ok := (fun _ => True)) (by (with_reducible repeat (first | apply Kd.S_alloc | apply Kd.S_drewN | apply Kd.S_drew)); exact Kd.S_mono HO_7.out (fun _ hk => ⟨trivial, hk⟩)) hg hat); have n1_ := Aside0.mk (hb); have n2_ := Aside0.mk (ho); clear HO_7; clear HB; clear HO_10; have HO_7 := n0_; have HB := n1_; have HO571 := n2_; clear n0_ n1_ n2_; clear ho hb hg hat))
              go_roundg k2
              case measure => have := HK1.out; have := HK2.out; omega
              case rel => exact ⟨(y569), (wrap64 (x26_2 + 1)), (by first | rfl | (simp; done) | (simp [*]; done)), H', ⟨by have := HK1.out; have := HK2.out; omega⟩, ⟨by (with_reducible repeat (first | apply Kd.S_alloc | apply Kd.S_drewN | apply Kd.S_drew)); exact Kd.S_mono HO_7.out (fun _ hk => hk.2)⟩, ⟨by (with_reducible repeat (first | apply Kd.R_alloc | apply Kd.R_drewN | apply Kd.R_drew)); exact HO571.out⟩, ⟨by repeat (first | (with_reducible first | exact HB.out | apply below_alloc | apply pw_below_drewN | apply below_drew1) | exact HB.out)⟩⟩
             ·rw [if_neg c14] at H
              exact absurd H (by simp)
            ·replace c13 := Bool.eq_false_iff.mpr c13
             subst c13
             have H1 : (impl_part.l1 k2 a1 a2 x7_1 x10_2 l0 (l0.length : Int) x15_1 (rd_L1 l0 x15_1) ((rd_L1 l0 x15_1).length : Int) (wrap64 (x26_2 + 1))) = some r := by rw [if_neg (show ¬ (false = true) by decide)] at H; exact H
             clear H
             have H := H1
             clear H1
             have H' := Aside0.mk H
             clear H
             have p567 : 0 ≤ (x26_2 : Int) := of_decide_eq_true (by first | (with_reducible assumption) | assumption)
             have q567 : x26_2 < ((rd_L1 l0 x15_1).length : Int) := of_decide_eq_true (by first | (with_reducible assumption) | assumption)
             obtain ⟨ad567, e567, hx567_0⟩ := Kd.at_int HR565_0.out x26_2 p567 q567
             cases e567
             replace hx567_0 := (HB.out.cell (World.block_lt_of_cell? w _ hx567_0)).trans hx567_0
             replace p567 := eq_true p567
             replace q567 := eq_true q567
             go_wp2_with (first | ((with_reducible refine gate_callee (f := 109) rfl ?_); refine goesL_ (some 33) rfl rfl Try.func109 (by kernel_rfl) rfl #[.int .i64 a2, .int .i64 x26_2] rfl (by (try simp only [List.map_toArray, List.map_cons, List.map_nil]); first | done | rfl | (simp only [List.length_drop, List.length_take]; rfl)) ?_; (with_reducible refine (impl_has.calls a2 x26_2 false _ A12.out).mono ?_); rintro e w' ⟨rfl, ⟨nd, rfl⟩⟩; refine ⟨_, rfl, ?_⟩))
             go_roundg k2
             case measure => have := HK1.out; have := HK2.out; omega
             case rel => exact ⟨(x10_2), (wrap64 (x26_2 + 1)), (by first | rfl | (simp; done) | (simp [*]; done)), H', ⟨by have := HK1.out; have := HK2.out; omega⟩, ⟨by (with_reducible repeat (first | apply Kd.S_alloc | apply Kd.S_drewN | apply Kd.S_drew)); exact HO_7.out⟩, ⟨by (with_reducible repeat (first | apply Kd.R_alloc | apply Kd.R_drewN | apply Kd.R_drew)); exact HO_10.out⟩, ⟨by repeat (first | (with_reducible first | exact HB.out | apply below_alloc | apply pw_below_drewN | apply below_drew1) | exact HB.out)⟩⟩
           ·rw [if_neg c11] at H
            exact absurd H (by simp)
          ·rw [if_neg c10] at H
           exact absurd H (by simp)
         ·rw [if_neg c9] at H
          have c9b0 : decide (x26_2 < ((rd_L1 l0 x15_1).length : Int)) = false := decide_eq_false c9
          clear c9
          by_cases c16 : x7_1.length < 5864062014805
          ·rw [if_pos c16] at H
           have LMc16 := Aside0.mk c16
           clear c16
           obtain ⟨y572, hy572⟩ : ∃ y_ : List (List Int), y_ = (x7_1 ++ [x10_2]) := ⟨_, rfl⟩
           replace H : (impl_part.l0 k2 a1 a2 y572 l0 (l0.length : Int) (wrap64 (x15_1 + 1))) = some r := by first | (rw [hy572]; with_reducible exact H) | (have H2_ := (Option.bind_some _ _).symm.trans H; rw [hy572]; with_reducible exact H2_) | (have H2_ := (Option.bind_some _ _).symm.trans H; with_reducible exact H2_) | with_reducible exact H | (rw [hy572]; exact H) | exact H
           have Ny572 := Aside0.mk hy572
           clear hy572
           have H' := Aside0.mk H
           clear H
           obtain ⟨Ao18, co18, eo18⟩ := Kd.R_slice HO_10.out
           subst eo18
           go_wp2_with (first | ((with_reducible refine gate_builtin (b := .append) (xs := #[.tmp 39, .tmp 41]) rfl ?_); at_builtin; refine Kd.S_append (Kd.slice 2 (Kd.int .i64)) (w0 := w) w.heap.size rfl (.tmp 39) (.tmp 41) 22 23 (.slice none 0 0) 24 rfl Try.underlying22 info23 rfl (by decide) (by omega) u7 x7_1 x10_2 [.slice Ao18 x10_2.length co18] (fun _ => True) (fun k_ => some k_ = (.slice Ao18 x10_2.length co18 : Value).ownBlock) rfl rfl ?aP (fun k_ hk_ => ((Kd.R_mono (ok' := fun k_ => ((fun _ => True)) k_ ∧ some k_ ≠ (u7 : Value).ownBlock) (Kd.R_apart' (HO_10.out) (Kd.S_typed HO_7.out) (by decide)) (fun k_ hk => ⟨trivial, hk.2⟩))).1 k_ hk_.symm) ?aF ?aO ?aB ?aS ?aL ?_; (case aP => exact Kd.M_row (Kd.R_mono (Kd.R_tight rfl (Kd.R_mono (ok' := fun k_ => ((fun _ => True)) k_ ∧ some k_ ≠ (u7 : Value).ownBlock) (Kd.R_apart' (HO_10.out) (Kd.S_typed HO_7.out) (by decide)) (fun k_ hk => ⟨trivial, hk.2⟩))) (fun _ h_ => h_))); (case aB => exact (by repeat (first | (with_reducible first | exact HB.out | apply below_alloc | apply pw_below_drewN | apply below_drew1) | exact HB.out))); (case aF => exact (fun _ _ => trivial)); (case aO => exact (by (with_reducible repeat (first | apply Kd.S_alloc | apply Kd.S_drewN | apply Kd.S_drew)); exact Kd.S_mono HO_7.out (fun k_ hk => ⟨trivial, fun e_ => hk e_⟩))); (case aS => exact (below_size (by repeat (first | (with_reducible first | exact HB.out | apply below_alloc | apply pw_below_drewN | apply below_drew1) | exact HB.out)))); (case aL => have := LMc16.out; omega); intro v573 w17 ho hb hg hat; rw [← Ny572.out] at ho; have n0_ := Aside0.mk (hb); have n1_ := Aside0.mk (ho); clear HB; clear HO_7; clear HO_10; have HB := n0_; have HO574 := n1_; clear n0_ n1_; clear ho hb hg hat))
           go_roundg k2
           case measure => have := HK1.out; have := HK2.out; omega
           case rel => exact ⟨(y572), (wrap64 (x15_1 + 1)), (by first | rfl | (simp; done) | (simp [*]; done)), H', ⟨by have := HK1.out; have := HK2.out; omega⟩, ⟨by (with_reducible repeat (first | apply Kd.S_alloc | apply Kd.S_drewN | apply Kd.S_drew)); exact HO574.out⟩, ⟨by repeat (first | (with_reducible first | exact HB.out | apply below_alloc | apply pw_below_drewN | apply below_drew1) | exact HB.out)⟩⟩
          ·rw [if_neg c16] at H
           exact absurd H (by simp)
      ·replace c8 := Bool.eq_false_iff.mpr c8
       subst c8
       have H1 : (impl_part.l0 k1 a1 a2 x7_1 l0 (l0.length : Int) (wrap64 (x15_1 + 1))) = some r := by rw [if_neg (show ¬ (false = true) by decide)] at H; exact H
       clear H
       have H := H1
       clear H1
       have H' := Aside0.mk H
       clear H
       have p565 : 0 ≤ (x15_1 : Int) := of_decide_eq_true (by first | (with_reducible assumption) | assumption)
       have q565 : x15_1 < (l0.length : Int) := of_decide_eq_true (by first | (with_reducible assumption) | assumption)
       obtain ⟨ad565, A565_0, c565_0, e565, hx565_0, hl565_0, hi565_0⟩ := at_L1 HR0.out x15_1 p565 q565
       cases e565
       replace hx565_0 := (HB.out.cell (World.block_lt_of_cell? w _ hx565_0)).trans hx565_0
       have HR565_0 := Aside0.mk hi565_0
       have HC565_0 := Aside0.mk hl565_0
       clear hi565_0 hl565_0
       replace p565 := eq_true p565
       replace q565 := eq_true q565
       go_wp2_with (first | ((with_reducible refine gate_callee (f := 109) rfl ?_); refine goesL_ (some 22) rfl rfl Try.func109 (by kernel_rfl) rfl #[.int .i64 a1, .int .i64 x15_1] rfl (by (try simp only [List.map_toArray, List.map_cons, List.map_nil]); first | done | rfl | (simp only [List.length_drop, List.length_take]; rfl)) ?_; (with_reducible refine (impl_has.calls a1 x15_1 false _ A7.out).mono ?_); rintro e w' ⟨rfl, ⟨nd, rfl⟩⟩; refine ⟨_, rfl, ?_⟩))
       go_roundg k1
       case measure => have := HK1.out; omega
       case rel => exact ⟨(x7_1), (wrap64 (x15_1 + 1)), (by first | rfl | (simp; done) | (simp [*]; done)), H', ⟨by have := HK1.out; omega⟩, ⟨by (with_reducible repeat (first | apply Kd.S_alloc | apply Kd.S_drewN | apply Kd.S_drew)); exact HO_7.out⟩, ⟨by repeat (first | (with_reducible first | exact HB.out | apply below_alloc | apply pw_below_drewN | apply below_drew1) | exact HB.out)⟩⟩
     ·rw [if_neg c6] at H
      exact absurd H (by simp)
    ·rw [if_neg c5] at H
     exact absurd H (by simp)
   ·rw [if_neg c4] at H
    have c4b0 : decide (x15_1 < (l0.length : Int)) = false := decide_eq_false c4
    clear c4
    obtain rfl := Option.some.inj H
    go_wp2
    go_ret
    exact ⟨_, by first | rfl | (simp [errW_none, errW_some] <;> rfl) | (simp [*, errW_none, errW_some] <;> rfl), by (with_reducible repeat (first | apply Kd.S_alloc | apply Kd.S_drewN | apply Kd.S_drew)); exact HO_7.out, by repeat (first | (with_reducible first | exact HB.out | apply below_alloc | apply pw_below_drewN | apply below_drew1) | exact HB.out)⟩
end Go.Proofs.Ythdoilfjcgickaa.Pr
end
section
namespace Go.Proofs.Ythdoilfjcgickaa.Cz
open Go.RowKit Go.Proofs.YthdoilfjcgickaaW.PrintWords Go.Proofs.YthdoilfjcgickaaW.PrintMore Go.Proofs.Ythdoilfjcgickaa.Ma Go.Proofs.Ythdoilfjcgickaa.Pr Go.Proofs.Ythdoilfjcgickaa.Dt Go.Proofs.Ythdoilfjcgickaa.Bz Go.Proofs.Ythdoilfjcgickaa.Un
def en (l : List (List Int)) : Mat := fun i j => (l.getD i []).getD j 0
structure Sq (n : Nat) (l : List (List Int)) : Prop where
 len : l.length = n
 row : ∀ i, i < n → (l.getD i []).length = n
 num : ∀ i j, i < n → j < n → (en l i j).natAbs ≤ 20
theorem rdL1 (l : List (List Int)) (i : Nat) : rd_L1 l (i : Int) = l.getD i [] := by simp [rd_L1]
def rw1 (m : Nat) (f : Nat → Int) : List Int := (List.range m).map f
theorem rw1_len (m : Nat) (f : Nat → Int) : (rw1 m f).length = m := by simp [rw1]
theorem rw1_succ (m : Nat) (f : Nat → Int) : rw1 (m + 1) f = rw1 m f ++ [f m] := by simp [rw1, List.range_succ]
def mk (r m : Nat) (f : Nat → Nat → Int) : List (List Int) := (List.range r).map fun i => rw1 m (f i)
theorem mk_len (r m : Nat) (f : Nat → Nat → Int) : (mk r m f).length = r := by simp [mk]
theorem mk_succ (r m : Nat) (f : Nat → Nat → Int) : mk (r + 1) m f = mk r m f ++ [rw1 m (f r)] := by simp [mk, List.range_succ]
theorem mk_row (r m : Nat) (f : Nat → Nat → Int) (i : Nat) (hi : i < r) : (mk r m f).getD i [] = rw1 m (f i) := by simp [mk, hi]
theorem mk_en (r m : Nat) (f : Nat → Nat → Int) (i j : Nat) (hi : i < r) (hj : j < m) : en (mk r m f) i j = f i j := by
 unfold en; rw [mk_row r m f i hi]; simp [rw1, hj]
theorem mk_rows (r m : Nat) (f : Nat → Nat → Int) : ∀ x ∈ mk r m f, x.length = m := by
 intro x hx
 obtain ⟨i, _, rfl⟩ := List.mem_map.1 hx
 exact rw1_len _ _
section
variable {n : Nat} {l : List (List Int)} (h : Sq n l) (hn : n ≤ 5) (s : Int)
include h hn
theorem spec_cols : Ev (fun k => spec_l01Columns.f k l s) (mk n n (colM (bB s) (en l))) := by
 have hl := h.len
 have rows : ∀ q i, i + q = n → Ev (fun k => spec_l01Columns.l0 k l s (mk i n (colM (bB s) (en l))) i) (mk n n (colM (bB s) (en l))) := by
  intro q
  induction q with
  | zero =>
   intro i hi
   obtain rfl : i = n := by omega
   exact evstep (fun k => by rw [spec_l01Columns.l0]) (evneg (by omega) (evc rfl))
  | succ q ih =>
   intro i hi
   have nx := ih (i + 1) (by omega)
   have hr := h.row i (by omega)
   have cols : ∀ p c, c + p = n → Ev (fun k => spec_l01Columns.l1 k l s (mk i n (colM (bB s) (en l))) i (rw1 c (colM (bB s) (en l) i)) c) (mk n n (colM (bB s) (en l))) := by
    intro p
    induction p with
    | zero =>
     intro c hc
     obtain rfl : c = n := by omega
     refine evstep (fun k => by rw [spec_l01Columns.l1]) (evneg (by omega) (evpos (by rw [mk_len]; omega) ?_))
     rw [w64 (x := (i : Int) + 1) (by omega) (by omega), ← mk_succ]
     exact nx
    | succ p ihp =>
     intro c hc
     have nx2 := ihp (c + 1) (by omega)
     rw [rw1_succ] at nx2
     have hnum := h.num i c (by omega) (by omega)
     refine evstep (fun k => by rw [spec_l01Columns.l1]) (evpos (by omega) ?_)
     rw [u64w (x := (c : Int)) (by omega) (by omega), shr_and_one s (by omega)]
     refine evpos (by omega) ?_
     have ce : colM (bB s) (en l) i c = if bB s c = true then - en l i c else if i = c then 1 else 0 := rfl
     by_cases b : bB s c = true
     ·rw [if_pos b] at ce
      rw [ce] at nx2
      rw [rdL1]
      refine evpos (by rw [if_pos b]) (evpos (by omega) (evpos (by omega) (evpos (by omega) (evpos (by omega) (evpos (by rw [rw1_len]; omega) ?_)))))
      rw [rd_nat, show (l.getD i []).getD c 0 = en l i c from rfl, w64 (x := - en l i c) (by omega) (by omega), w64 (x := (c : Int) + 1) (by omega) (by omega)]
      exact nx2
     ·rw [if_neg b] at ce
      refine evneg (by rw [if_neg b]; decide) ?_
      rw [w64 (x := (c : Int) + 1) (by omega) (by omega)]
      by_cases e : i = c
      ·rw [if_pos e] at ce
       rw [ce] at nx2
       exact evpos (by omega) (evpos (by rw [rw1_len]; omega) nx2)
      ·rw [if_neg e] at ce
       rw [ce] at nx2
       exact evneg (by omega) (evpos (by rw [rw1_len]; omega) nx2)
   refine evstep (fun k => by rw [spec_l01Columns.l0]) (evpos (by omega) ?_)
   exact cols n 0 (by omega)
 exact rows n 0 (by omega)
theorem has_eq (c : Nat) (hc : c < 64) : impl_has.f s (c : Int) = some (bB s c) := by
 have _h := h
 have _h2 := hn
 unfold impl_has.f
 rw [if_pos (by omega), shr_and_one s hc]
 congr 1
 cases hb : bB s c <;> simp
end
end Go.Proofs.Ythdoilfjcgickaa.Cz
end
section
namespace Go.Proofs.Ythdoilfjcgickaa.Pb
open Go.RowKit Go.Proofs.YthdoilfjcgickaaW.PrintWords Go.Proofs.YthdoilfjcgickaaW.PrintMore Go.Proofs.Ythdoilfjcgickaa.Ma Go.Proofs.Ythdoilfjcgickaa.Pr Go.Proofs.Ythdoilfjcgickaa.Dt Go.Proofs.Ythdoilfjcgickaa.Bz Go.Proofs.Ythdoilfjcgickaa.Cz
theorem sin_eq (x a b : Int) : spec_l01In.f x a b = some (decide (a ≤ x ∧ x ≤ b)) := by
 unfold spec_l01In.f
 by_cases h : x ≥ a
 ·rw [if_pos h]; congr 1; rw [Bool.eq_iff_iff]; simp; omega
 ·rw [if_neg h]; congr 1; rw [Bool.eq_iff_iff]; simp; omega
theorem head_step {P : Nat → Prop} {i d : Nat} (h : i < d) : (∀ j, i ≤ j → j < d → P j) ↔ P i ∧ ∀ j, i + 1 ≤ j → j < d → P j :=
 ⟨fun q => ⟨q i (Nat.le_refl _) h, fun j h1 h2 => q j (by omega) h2⟩, fun q j h1 h2 => by
  by_cases e : j = i
  ·subst e; exact q.1
  ·exact q.2 j (by omega) h2⟩
theorem no_iff {b : Bool} {p : Prop} (h : b = true ↔ p) (hp : ¬ p) : b = false := by
 cases b with
 | false => rfl
 | true => exact absurd (h.1 rfl) hp
def N20 (x : Int) : Prop := -20 ≤ x ∧ x ≤ 20
def N100 (x : Int) : Prop := -100 ≤ x ∧ x ≤ 100
def RowM (M : List (List Int)) (i : Nat) : Prop := (M.getD i []).length = M.length ∧ ∀ j, 0 ≤ j → j < M.length → N20 (en M i j)
structure MatOK (M : List (List Int)) : Prop where
 n1 : 1 ≤ M.length
 n5 : M.length ≤ 5
 rows : ∀ i, 0 ≤ i → i < M.length → RowM M i
structure POK (M : List (List Int)) (q : List Int) : Prop where
 mat : MatOK M
 len : q.length = M.length
 num : ∀ i, 0 ≤ i → i < q.length → N100 (q.getD i 0)
theorem MatOK.sq {M : List (List Int)} (h : MatOK M) : Sq M.length M := ⟨rfl, fun i hi => (h.rows i (Nat.zero_le _) hi).1, fun i j hi hj => by have := (h.rows i (Nat.zero_le _) hi).2 j (Nat.zero_le _) hj; unfold N20 at this; omega⟩
section
variable {M : List (List Int)} (hM : M.length ≤ 5)
include hM
theorem spec_mrows : ∀ m i, i + m = M.length → ∀ t : Bool, (t = true ↔ ∀ u, i ≤ u → u < M.length → RowM M u) → Ev (fun k => spec_l01Matrix.l0 k M (M.length : Int) i) t := by
 intro m
 induction m with
 | zero =>
  intro i hi t ht
  obtain rfl : t = true := ht.2 (fun u h1 h2 => by omega)
  exact evstep (fun k => by rw [spec_l01Matrix.l0]) (evneg (by omega) (evc rfl))
 | succ m ih =>
  intro i hi t ht
  have hs := head_step (P := RowM M) (i := i) (d := M.length) (by omega)
  have ht2 := ht.trans hs
  refine evstep (fun k => by rw [spec_l01Matrix.l0]) (evpos (by omega) (evpos (by omega) (evpos (by omega) ?_)))
  rw [rdL1]
  by_cases c : (M.getD i []).length = M.length
  ·refine evpos (by omega) ?_
   have cols : ∀ p j, j + p = M.length → ∀ t : Bool, (t = true ↔ (∀ v, j ≤ v → v < M.length → N20 (en M i v)) ∧ ∀ u, i + 1 ≤ u → u < M.length → RowM M u) → Ev (fun k => spec_l01Matrix.l1 k M (M.length : Int) i j) t := by
    intro p
    induction p with
    | zero =>
     intro j hj t ht
     refine evstep (fun k => by rw [spec_l01Matrix.l1]) (evneg (by omega) ?_)
     rw [w64 (x := (i : Int) + 1) (by omega) (by omega)]
     exact ih (i + 1) (by omega) t (ht.trans ⟨fun h => h.2, fun h => ⟨fun v h1 h2 => by omega, h⟩⟩)
    | succ p ihp =>
     intro j hj t ht
     have hs2 := head_step (P := fun v => N20 (en M i v)) (i := j) (d := M.length) (by omega)
     refine evstep (fun k => by rw [spec_l01Matrix.l1]) ?_
     rw [rdL1]
     refine evpos (by omega) (evpos (by omega) (evpos (by omega) (evpos (by omega) (evpos (by omega) (evsome (sin_eq _ _ _) ?_)))))
     rw [rd_nat, show (M.getD i []).getD j 0 = en M i j from rfl, w64 (x := (j : Int) + 1) (by omega) (by omega)]
     by_cases d : -20 ≤ en M i j ∧ en M i j ≤ 20
     ·exact evpos (decide_eq_true d) (ihp (j + 1) (by omega) t (ht.trans ⟨fun h => ⟨(hs2.1 h.1).2, h.2⟩, fun h => ⟨hs2.2 ⟨d, h.1⟩, h.2⟩⟩))
     ·rw [no_iff ht (fun h => d ((hs2.1 h.1).1))]
      exact evneg (by simpa using d) (evc rfl)
   exact cols M.length 0 (by omega) t (ht2.trans ⟨fun h => ⟨fun v h1 h2 => h.1.2 v h1 h2, h.2⟩, fun h => ⟨⟨c, fun v h1 h2 => h.1 v h1 h2⟩, h.2⟩⟩)
  ·rw [no_iff ht2 (fun h => c h.1.1)]
   exact evneg (by omega) (evc rfl)
end
theorem spec_mat (M : List (List Int)) (t : Bool) (ht : t = true ↔ MatOK M) : Ev (fun k => spec_l01Matrix.f k M) t := by
 unfold spec_l01Matrix.f
 by_cases c1 : (M.length : Int) < 1
 ·rw [no_iff ht (fun h => by have := h.n1; omega)]
  exact evpos c1 (evstep (fun k => by rw [spec_l01Matrix.j0]) (evpos rfl (evc rfl)))
 ·refine evneg c1 (evstep (fun k => by rw [spec_l01Matrix.j0]) ?_)
  by_cases c2 : (M.length : Int) > 5
  ·rw [no_iff ht (fun h => by have := h.n5; omega)]
   exact evpos (decide_eq_true c2) (evc rfl)
  ·refine evneg (by simpa using c2) ?_
   exact spec_mrows (by omega) M.length 0 (by omega) t (ht.trans ⟨fun h => h.rows, fun h => ⟨by omega, by omega, h⟩⟩)
open Classical in
theorem spec_is (M : List (List Int)) (q : List Int) (hq : q.length ≤ 1048576) (t : Bool) (ht : t = true ↔ POK M q) : Ev (fun k => spec_l01Is.f k M q) t := by
 unfold spec_l01Is.f
 refine evbind (spec_mat M (decide (MatOK M)) (by simp)) ?_
 by_cases m : MatOK M
 ·refine evpos (by simpa using m) (evstep (fun k => by rw [spec_l01Is.j0]) ?_)
  by_cases c : q.length = M.length
  ·refine evneg (by simp [c]) ?_
   have loop : ∀ p i, i + p = q.length → ∀ t : Bool, (t = true ↔ ∀ u, i ≤ u → u < q.length → N100 (q.getD u 0)) → Ev (fun k => spec_l01Is.l0 k i M q) t := by
    intro p
    induction p with
    | zero =>
     intro i hi t ht
     obtain rfl : t = true := ht.2 (fun u h1 h2 => by omega)
     exact evstep (fun k => by rw [spec_l01Is.l0]) (evneg (by omega) (evc rfl))
    | succ p ih =>
     intro i hi t ht
     have hs := head_step (P := fun u => N100 (q.getD u 0)) (i := i) (d := q.length) (by omega)
     refine evstep (fun k => by rw [spec_l01Is.l0]) (evpos (by omega) (evpos (by omega) (evsome (sin_eq _ _ _) ?_)))
     rw [rd_nat, w64 (x := (i : Int) + 1) (by omega) (by omega)]
     by_cases d : -100 ≤ q.getD i 0 ∧ q.getD i 0 ≤ 100
     ·exact evpos (decide_eq_true d) (ih (i + 1) (by omega) t (ht.trans (hs.trans ⟨fun h => h.2, fun h => ⟨d, h⟩⟩)))
     ·rw [no_iff (ht.trans hs) (fun h => d h.1)]
      exact evneg (by simpa using d) (evc rfl)
   exact loop q.length 0 (by omega) t (ht.trans ⟨fun h => h.num, fun h => ⟨m, c, h⟩⟩)
  ·rw [no_iff ht (fun h => c h.len)]
   exact evpos (by simp; omega) (evc rfl)
 ·rw [no_iff ht (fun h => m h.mat)]
  exact evneg (by simpa using m) (evstep (fun k => by rw [spec_l01Is.j0]) (evpos rfl (evc rfl)))
theorem any_false {α : Type} (p : α → Bool) (l : List α) : l.any p = false ↔ ∀ i (h : i < l.length), p l[i] = false := by
 rw [List.any_eq_false]
 constructor
 ·intro h i hi
  have := h l[i] (List.getElem_mem hi)
  simpa using this
 ·intro h x hx
  obtain ⟨i, hi, rfl⟩ := List.getElem_of_mem hx
  simp [h i hi]
theorem badU_iff (a n : Int) : badU a n = false ↔ -a ≤ n ∧ n ≤ a := by unfold badU; simp
theorem any_badU (a : Int) (l : List Int) : l.any (badU a) = false ↔ ∀ i, 0 ≤ i → i < l.length → -a ≤ l.getD i 0 ∧ l.getD i 0 ≤ a := by
 rw [any_false]
 constructor
 ·intro h i _ hi
  have := (badU_iff a _).1 (h i hi)
  simpa [hi] using this
 ·intro h i hi
  have := h i (Nat.zero_le _) hi
  exact (badU_iff a _).2 (by simpa [hi] using this)
theorem gD {M : List (List Int)} {i : Nat} (h : i < M.length) : M.getD i [] = M[i] := by simp [h]
open Classical in
theorem impl_mat (M : List (List Int)) : impl_IsMatrix.f M = some (decide (MatOK M)) := by
 unfold impl_IsMatrix.f
 congr 1
 rw [Bool.eq_iff_iff]
 simp only [Bool.and_eq_true, decide_eq_true_eq, Bool.not_eq_true']
 rw [any_false, any_false]
 constructor
 ·rintro ⟨⟨h1, h2⟩, h3⟩
  refine ⟨by omega, by omega, fun i _ hi => ?_⟩
  have r1 := h2 i hi
  have r2 := h3 i hi
  unfold badL at r1
  unfold badM at r2
  have e : M[i].length = M.length := by simp at r1; omega
  refine ⟨by rw [gD hi]; exact e, fun j _ hj => ?_⟩
  have := (any_badU 20 M[i]).1 r2 j (Nat.zero_le _) (by omega)
  rw [← gD hi] at this
  exact this
 ·intro h
  refine ⟨⟨⟨by have := h.n1; omega, by have := h.n5; omega⟩, fun i hi => ?_⟩, fun i hi => ?_⟩
  ·have := (h.rows i (Nat.zero_le _) hi).1
   rw [gD hi] at this
   unfold badL; simp [this]
  ·have := h.rows i (Nat.zero_le _) hi
   unfold badM
   refine (any_badU 20 M[i]).2 (fun j h0 hj => ?_)
   have e := this.1
   rw [gD hi] at e
   have := this.2 j h0 (by omega)
   unfold N20 en at this
   rwa [gD hi] at this
open Classical in
theorem impl_is (M : List (List Int)) (q : List Int) (t : Bool) (ht : t = true ↔ POK M q) : impl_IsProblem.f M q = some t := by
 unfold impl_IsProblem.f
 rw [impl_mat, Option.bind_some]
 by_cases m : MatOK M
 ·rw [if_pos (by simpa using m)]
  by_cases c : q.length = M.length
  ·rw [if_pos (by omega)]
   unfold impl_allUpTo.f
   rw [if_pos (by decide), Option.bind_some]
   congr 1
   rw [Bool.eq_iff_iff, ht, Bool.not_eq_true', any_badU]
   exact ⟨fun h => ⟨m, c, h⟩, fun h => h.num⟩
  ·rw [if_neg (by omega), no_iff ht (fun h => c h.len)]
 ·rw [if_neg (by simpa using m), no_iff ht (fun h => m h.mat)]
end Go.Proofs.Ythdoilfjcgickaa.Pb
end
section
namespace Go.Proofs.Ythdoilfjcgickaa.Sd
open Go.RowKit Go.Proofs.YthdoilfjcgickaaW.PrintWords Go.Proofs.YthdoilfjcgickaaW.PrintMore Go.Proofs.Ythdoilfjcgickaa.Ma Go.Proofs.Ythdoilfjcgickaa.Pr Go.Proofs.Ythdoilfjcgickaa.Dt Go.Proofs.Ythdoilfjcgickaa.Bz
def en (l : List (List Int)) : Mat := fun i j => (l.getD i []).getD j 0
def SB (n : Nat) (A : Mat) : Prop := ∃ k, Bk n k A
theorem SB.mnr {n c : Nat} {A : Mat} (h : SB (n + 1) A) (hc : c < n + 1) : SB n (mnr c A) := by
 obtain ⟨k, h⟩ := h
 by_cases e : c = k
 ·subst e
  refine ⟨n, fun i j hi hj => ?_⟩
  have := h (i + 1) (up c j) (by omega) (up_lt hj)
  rw [if_neg (up_ne c j)] at this
  unfold Dt.mnr
  split <;> omega
 ·refine ⟨dn c k, fun i j hi hj => ?_⟩
  have := h (i + 1) (up c j) (by omega) (up_lt hj)
  unfold Dt.mnr
  by_cases q : up c j = k
  ·rw [if_pos q] at this
   rw [if_pos (by rw [← q, dn_up])]; exact this
  ·rw [if_neg q] at this
   split <;> omega
theorem SB.det {n : Nat} {A : Mat} (h : SB n A) (hn : n ≤ 5) : -1920000000 ≤ det n A ∧ det n A ≤ 1920000000 := by
 obtain ⟨k, h⟩ := h
 have h1 := det_absk n k A h
 have h2 := b20_le n hn
 omega
theorem SB.num {n : Nat} {A : Mat} (h : SB n A) {i j : Nat} (hi : i < n) (hj : j < n) : -100 ≤ A i j ∧ A i j ≤ 100 := by
 obtain ⟨k, h⟩ := h
 have := h i j hi hj
 split at this <;> omega
def mrow (l : List (List Int)) (c r : Nat) : List (List Int) := (List.range r).map fun i => ((l.getD (i + 1) []).take c) ++ ((l.getD (i + 1) []).drop (c + 1))
theorem mrow_len (l : List (List Int)) (c r : Nat) : (mrow l c r).length = r := by simp [mrow]
theorem mrow_succ (l : List (List Int)) (c r : Nat) : mrow l c (r + 1) = mrow l c r ++ [((l.getD (r + 1) []).take c) ++ ((l.getD (r + 1) []).drop (c + 1))] := by simp [mrow, List.range_succ]
theorem mrow_en (l : List (List Int)) (c r n : Nat) (hl : ∀ x ∈ l, x.length = n + 1) (hn : l.length = n + 1) (hc : c < n + 1) (i j : Nat) (hi : i < r) (hr : r ≤ n) (hj : j < n) : en (mrow l c r) i j = Dt.mnr c (en l) i j := by
 have hx : (l.getD (i + 1) []).length = n + 1 := by
  rw [List.getD_eq_getElem?_getD, List.getElem?_eq_getElem (show i + 1 < l.length by omega)]; exact hl _ (List.getElem_mem _)
 unfold en Dt.mnr mrow
 rw [List.getD_eq_getElem?_getD (l := List.map _ _), List.getElem?_map, List.getElem?_range hi]
 simp only [Option.map_some, Option.getD_some]
 show _ = (l.getD (i + 1) []).getD (up c j) 0
 generalize l.getD (i + 1) [] = x at hx ⊢
 rw [List.getD_eq_getElem?_getD, List.getD_eq_getElem?_getD]
 congr 1
 unfold up
 by_cases q : j < c
 ·rw [if_pos q, List.getElem?_append_left (by rw [List.length_take]; omega), List.getElem?_take_of_lt q]
 ·rw [if_neg q, List.getElem?_append_right (by rw [List.length_take]; omega), List.length_take, Nat.min_eq_left (by omega), List.getElem?_drop, show c + 1 + (j - c) = j + 1 from by omega]
theorem own_eq (x : List Int) (h : x.length < 17592186044416) : spec_l01Own.f x = some x := by
 unfold spec_l01Own.f
 simp only [Option.bind_some, List.length_nil, Nat.zero_add, List.nil_append]
 rw [if_pos h]
theorem rdL1 (l : List (List Int)) (i : Nat) : rd_L1 l (i : Int) = l.getD i [] := by simp [rd_L1]
theorem odd_sg (c : Nat) (x : Int) : (if Int.tmod (c : Int) 2 = 1 then -x else x) = sg c * x := by
 have e : Int.tmod (c : Int) 2 = ((c % 2 : Nat) : Int) := by rw [Int.tmod_eq_emod_of_nonneg (by omega)]; omega
 unfold sg
 by_cases q : c % 2 = 1
 ·rw [if_pos (by rw [e, q]; rfl), if_pos q]; omega
 ·rw [if_neg (by rw [e]; omega), if_neg q]; omega
theorem spec_det : ∀ (n : Nat) (l : List (List Int)), n ≤ 5 → l.length = n → (∀ x ∈ l, x.length = n) → SB n (en l) → Ev (fun k => spec_l01Det.f k l) (det n (en l)) := by
 intro n
 induction n with
 | zero =>
  intro l _ hn _ _
  show Ev _ (1 : Int)
  exact evstep (fun k => by rw [spec_l01Det.f]) (evpos (by omega) (evc rfl))
 | succ n ih =>
  intro l h5 hn hl hs
  have hrow (i : Nat) (hi : i < n + 1) : (l.getD i []).length = n + 1 := by
   rw [List.getD_eq_getElem?_getD, List.getElem?_eq_getElem (show i < l.length by omega)]; exact hl _ (List.getElem_mem _)
  let F : Nat → Int := fun k => sg k * (en l 0 k * det n (Dt.mnr k (en l)))
  have hF (k : Nat) (hk : k < n + 1) : -192000000000 ≤ F k ∧ F k ≤ 192000000000 := by
   have h1 := (hs.mnr hk).det (by omega)
   have h2 := hs.num (i := 0) (j := k) (by omega) hk
   have : (F k).natAbs ≤ 100 * 1920000000 := by
    show (sg k * (en l 0 k * det n (Dt.mnr k (en l)))).natAbs ≤ _
    rw [Int.natAbs_mul, Int.natAbs_mul, sg_abs, Nat.one_mul]
    exact Nat.mul_le_mul (by omega) (by omega)
   omega
  have hS : ∀ c, c ≤ n + 1 → -192000000000 * (c : Int) ≤ sm c F ∧ sm c F ≤ 192000000000 * (c : Int) := by
   intro c
   induction c with
   | zero => intro _; simp [sm]
   | succ c ihc =>
    intro hc
    have h1 := ihc (by omega)
    have h2 := hF c (by omega)
    simp only [sm]
    push_cast
    omega
  have key : ∀ q c, c + q = n + 1 → Ev (fun k => spec_l01Det.l0 k l (sm c F) c) (sm (n + 1) F) := by
   intro q
   induction q with
   | zero =>
    intro c hc
    obtain rfl : c = n + 1 := by omega
    exact evstep (fun k => by rw [spec_l01Det.l0]) (evneg (by omega) (evc rfl))
   | succ q ihq =>
    intro c hc
    have nx := ihq (c + 1) (by omega)
    have hr0 := hrow 0 (by omega)
    have e0 : rd (rd_L1 l 0) (c : Int) = en l 0 c := by
     rw [show rd_L1 l 0 = l.getD 0 [] from rdL1 l 0, rd_nat]; rfl
    have hr0' : (rd_L1 l 0).length = n + 1 := by rw [show rd_L1 l 0 = l.getD 0 [] from rdL1 l 0]; exact hr0
    have f1 := hF c (by omega)
    have s1 := hS c (by omega)
    have s2 := hS (c + 1) (by omega)
    refine evstep (fun k => by rw [spec_l01Det.l0]) (evpos (by omega) (evpos (by omega) (evpos (by omega) (evpos (by omega) ?_))))
    rw [e0]
    by_cases z : en l 0 c = 0
    ·refine evpos z ?_
     rw [w64 (x := (c : Int) + 1) (by omega) (by omega)]
     have e : sm (c + 1) F = sm c F := by
      show sm c F + sg c * (en l 0 c * det n (Dt.mnr c (en l))) = _
      rw [z]; simp
     rw [e] at nx
     exact nx
    ·refine evneg z ?_
     have build : ∀ p r, r + p = n → Ev (fun k => spec_l01Det.l1 k l (sm c F) c (mrow l c r) ((r + 1 : Nat) : Int)) (sm (n + 1) F) := by
      intro p
      induction p with
      | zero =>
       intro r hr
       obtain rfl : r = n := by omega
       refine evstep (fun k => by rw [spec_l01Det.l1]) (evneg (by omega) (evpos (by omega) (evpos (by omega) (evpos (by omega) ?_))))
       have hm := ih (mrow l c r) (by omega) (mrow_len l c r) (fun x hx => by
        obtain ⟨i, hi, rfl⟩ := List.mem_map.1 hx
        have := hrow (i + 1) (by have := List.mem_range.1 hi; omega)
        rw [List.length_append, List.length_take, List.length_drop]; omega) (by
        obtain ⟨k', hk'⟩ := hs.mnr (c := c) (by omega)
        exact ⟨k', fun i j hi hj => by rw [mrow_en l c r r hl hn (by omega) i j hi (Nat.le_refl _) hj]; exact hk' i j hi hj⟩)
       rw [det_congr (A := en (mrow l c r)) (B := Dt.mnr c (en l)) (fun i j hi hj => mrow_en l c r r hl hn (by omega) i j hi (Nat.le_refl _) hj)] at hm
       have hd := (hs.mnr (c := c) (by omega)).det (by omega)
       have ha := hs.num (i := 0) (j := c) (by omega) (by omega)
       refine evbind hm ?_
       rw [e0]
       have hp : -192000000000 ≤ en l 0 c * det r (Dt.mnr c (en l)) ∧ en l 0 c * det r (Dt.mnr c (en l)) ≤ 192000000000 := by
        have : (en l 0 c * det r (Dt.mnr c (en l))).natAbs ≤ 100 * 1920000000 := by
         rw [Int.natAbs_mul]; exact Nat.mul_le_mul (by omega) (by omega)
        omega
       have o := odd_sg c (en l 0 c * det r (Dt.mnr c (en l)))
       have fe : F c = sg c * (en l 0 c * det r (Dt.mnr c (en l))) := rfl
       have se : sm (c + 1) F = sm c F + F c := rfl
       rw [w64 (x := en l 0 c * det r (Dt.mnr c (en l))) (by omega) (by omega)]
       by_cases od : Int.tmod (c : Int) 2 = 1
       ·refine evpos od ?_
        rw [if_pos od] at o
        rw [w64 (x := -(en l 0 c * det r (Dt.mnr c (en l)))) (by omega) (by omega), o, ← fe, ← se, w64 (x := sm (c + 1) F) (by omega) (by omega), w64 (x := (c : Int) + 1) (by omega) (by omega)]
        exact nx
       ·refine evneg od ?_
        rw [if_neg od] at o
        rw [o, ← fe, ← se, w64 (x := sm (c + 1) F) (by omega) (by omega), w64 (x := (c : Int) + 1) (by omega) (by omega)]
        exact nx
      | succ p ihp =>
       intro r hr
       have hx := hrow (r + 1) (by omega)
       have nx2 := ihp (r + 1) (by omega)
       rw [mrow_succ] at nx2
       refine evstep (fun k => by rw [spec_l01Det.l1]) ?_
       rw [rdL1]
       refine evpos (by omega) (evpos (by omega) (evpos (by omega) (evpos (by omega) ?_)))
       rw [Int.toNat_natCast, w64 (x := (c : Int) + 1) (by omega) (by omega)]
       refine evsome (a := (l.getD (r + 1) []).take c) (own_eq _ (by rw [List.length_take]; omega)) (evpos (by omega) (evpos (by omega) (evpos ?_ (evpos (by rw [mrow_len]; omega) ?_))))
       ·rw [List.length_take, List.length_drop]; omega
       ·rw [show ((c : Int) + 1).toNat = c + 1 from by omega, w64 (x := ((r + 1 : Nat) : Int) + 1) (by omega) (by omega)]
        exact nx2
     have := build n 0 (by omega)
     exact this
  refine evstep (fun k => by rw [spec_l01Det.f]) (evneg (by omega) ?_)
  exact key (n + 1) 0 (by omega)
end Go.Proofs.Ythdoilfjcgickaa.Sd
end
section
namespace Go.Proofs.Ythdoilfjcgickaa.Mn
open Go.RowKit Go.Proofs.YthdoilfjcgickaaW.PrintWords Go.Proofs.YthdoilfjcgickaaW.PrintMore Go.Proofs.Ythdoilfjcgickaa.Ma Go.Proofs.Ythdoilfjcgickaa.Pr Go.Proofs.Ythdoilfjcgickaa.Dt Go.Proofs.Ythdoilfjcgickaa.Bz Go.Proofs.Ythdoilfjcgickaa.Bd Go.Proofs.Ythdoilfjcgickaa.Un Go.Proofs.Ythdoilfjcgickaa.Cz
section
variable {n : Nat} {l : List (List Int)} (h : Sq n l) (hn : n ≤ 5) (s : Int)
include h hn
theorem colM_small (i j : Nat) (hi : i < n) (hj : j < n) : (colM (bB s) (en l) i j).natAbs ≤ 20 := by
 have _h := hn
 have := h.num i j hi hj
 unfold colM
 split
 ·omega
 ·split <;> decide
theorem cols_det : Ev (fun k => spec_l01Det.f k (mk n n (colM (bB s) (en l)))) (det n (colM (bB s) (en l))) := by
 have he (i j : Nat) (hi : i < n) (hj : j < n) : en (mk n n (colM (bB s) (en l))) i j = colM (bB s) (en l) i j := mk_en n n _ i j hi hj
 have := Sd.spec_det n (mk n n (colM (bB s) (en l))) hn (mk_len _ _ _) (mk_rows _ _ _) ⟨0, fun i j hi hj => by
  show (en (mk n n (colM (bB s) (en l))) i j).natAbs ≤ _
  rw [he i j hi hj]
  have := colM_small h hn s i j hi hj
  split <;> omega⟩
 have e : det n (Sd.en (mk n n (colM (bB s) (en l)))) = det n (colM (bB s) (en l)) := det_congr he
 rw [e] at this
 exact this
end
end Go.Proofs.Ythdoilfjcgickaa.Mn
end
section
namespace Go.Proofs.Ythdoilfjcgickaa.Sv
open Go.RowKit Go.Proofs.YthdoilfjcgickaaW.PrintWords Go.Proofs.YthdoilfjcgickaaW.PrintMore Go.Proofs.Ythdoilfjcgickaa.Ma Go.Proofs.Ythdoilfjcgickaa.Pr Go.Proofs.Ythdoilfjcgickaa.Dt Go.Proofs.Ythdoilfjcgickaa.Bz Go.Proofs.Ythdoilfjcgickaa.Bd Go.Proofs.Ythdoilfjcgickaa.Un Go.Proofs.Ythdoilfjcgickaa.Cz Go.Proofs.Ythdoilfjcgickaa.Mn
open Go.Proofs.Ythdoilfjcgickaa.Hd (dO cM pcol rowsFrom rowsFrom_len sl slL)
def dc (n : Nat) (C : Mat) (x : List Int) (i : Nat) : Int := det n (cset i (fun r => x.getD r 0) C)
def sgn (d : Int) : Int := if d < 0 then -1 else if d > 0 then 1 else 0
section
variable {n : Nat} {l : List (List Int)} (h : Sq n l) (hn : n ≤ 5) (s : Int)
include h hn
theorem col_t (Q : List Int) (hQ : Q.length = n) (i : Nat) (hi : i < n) : Ev (fun k => impl_Problem_column.f k l Q (i : Int) true) (rw1 n (fun r => - en l r i)) := by
 have hl := h.len
 have at_ (r : Nat) (hr : r < n) : ((List.range n).map fun u => if u < r then - en l u i else 0).set r (- en l r i) = (List.range n).map fun u => if u < r + 1 then - en l u i else 0 := by
  apply List.ext_getElem
  ·simp
  ·intro k h1 h2
   have hk : k < n := by simpa using h2
   rw [List.getElem_set]
   simp only [List.getElem_map, List.getElem_range]
   by_cases e : r = k
   ·subst e; rw [if_pos rfl, if_pos (by omega)]
   ·rw [if_neg e]
    by_cases c : k < r
    ·rw [if_pos c, if_pos (by omega)]
    ·rw [if_neg c, if_neg (by omega)]
 have loop : ∀ q r, r + q = n → Ev (fun k => impl_Problem_column.l0 k (i : Int) true ((List.range n).map fun u => if u < r then - en l u i else 0) l (n : Int) r) (rw1 n (fun r => - en l r i)) := by
  intro q
  induction q with
  | zero =>
   intro r hr
   obtain rfl : r = n := by omega
   refine evstep (fun k => by rw [impl_Problem_column.l0]) (evneg (by omega) (evpos rfl (evc ?_)))
   congr 1
   exact List.map_congr_left (fun u hu => by rw [if_pos (List.mem_range.1 hu)])
  | succ q ih =>
   intro r hr
   have nx := ih (r + 1) (by omega)
   have hrow := h.row r (by omega)
   have hnum := h.num r i (by omega) hi
   refine evstep (fun k => by rw [impl_Problem_column.l0]) ?_
   rw [rdL1]
   refine evpos (by omega) (evpos (by omega) (evpos (by omega) (evpos rfl (evpos (by omega) (evpos (by omega) (evpos (by simp; omega) ?_))))))
   rw [rd_nat, show (l.getD r []).getD i 0 = en l r i from rfl, w64 (x := - en l r i) (by omega) (by omega), Int.toNat_natCast, at_ r (by omega), w64 (x := (r : Int) + 1) (by omega) (by omega)]
   exact nx
 unfold impl_Problem_column.f
 rw [hQ, hl]
 refine evpos (by omega) (evpos (by omega) ?_)
 have := loop n 0 (by omega)
 rw [show ((List.range n).map fun u => if u < 0 then - en l u i else 0) = List.replicate ((n : Int)).toNat 0 from by
  apply List.ext_getElem
  ·simp
  ·intro k h1 h2; simp] at this
 exact this
theorem col_f (Q : List Int) (hQ : Q.length = n) (i : Nat) (hi : i < n) : Ev (fun k => impl_Problem_column.f k l Q (i : Int) false) (rw1 n (fun r => if r = i then 1 else 0)) := by
 have hl := h.len
 have loop : ∀ q r, r + q = n → Ev (fun k => impl_Problem_column.l0 k (i : Int) false (List.replicate n 0) l (n : Int) r) (rw1 n (fun r => if r = i then 1 else 0)) := by
  intro q
  induction q with
  | zero =>
   intro r hr
   obtain rfl : r = n := by omega
   refine evstep (fun k => by rw [impl_Problem_column.l0]) (evneg (by omega) (evneg (by simp) (evpos (by omega) (evpos (by simp; omega) (evc ?_)))))
   congr 1
   rw [Int.toNat_natCast]
   apply List.ext_getElem
   ·simp [rw1]
   ·intro k h1 h2
    rw [List.getElem_set]
    simp only [rw1, List.getElem_map, List.getElem_range, List.getElem_replicate]
    by_cases e : i = k
    ·subst e; simp
    ·rw [if_neg e, if_neg (Ne.symm e)]
  | succ q ih =>
   intro r hr
   have nx := ih (r + 1) (by omega)
   refine evstep (fun k => by rw [impl_Problem_column.l0]) (evpos (by omega) (evpos (by omega) (evpos (by omega) (evneg (by simp) ?_))))
   rw [w64 (x := (r : Int) + 1) (by omega) (by omega)]
   exact nx
 unfold impl_Problem_column.f
 rw [hQ, hl]
 refine evpos (by omega) (evpos (by omega) ?_)
 have := loop n 0 (by omega)
 rw [Int.toNat_natCast]
 exact this
theorem colF_eq (Q : List Int) (hQ : Q.length = n) (i : Nat) (hi : i < n) : Ev (fun k => colF k l Q s i) (rw1 n (fun r => colM (bB s) (en l) r i)) := by
 unfold colF
 refine evsome (has_eq h hn s i (by omega)) ?_
 cases hb : bB s i with
 | true =>
  have := col_t h hn Q hQ i hi
  have e : (fun r => colM (bB s) (en l) r i) = fun r => - en l r i := by funext r; unfold colM; rw [if_pos hb]
  rw [e]; exact this
 | false =>
  have := col_f h hn Q hQ i hi
  have e : (fun r => colM (bB s) (en l) r i) = fun r => if r = i then 1 else 0 := by funext r; unfold colM; rw [if_neg (by simp [hb])]
  rw [e]; exact this
theorem cols_all (Q : List Int) (hQ : Q.length = n) : ∃ K, ∀ k, K ≤ k → ∀ i, i < n → colF k l Q s i = some (rw1 n (fun r => colM (bB s) (en l) r i)) := by
 have key : ∀ m, m ≤ n → ∃ K, ∀ k, K ≤ k → ∀ i, i < m → colF k l Q s i = some (rw1 n (fun r => colM (bB s) (en l) r i)) := by
  intro m
  induction m with
  | zero => intro _; exact ⟨0, fun k _ i hi => by omega⟩
  | succ m ih =>
   intro hm
   obtain ⟨K1, h1⟩ := ih (by omega)
   obtain ⟨K2, h2⟩ := colF_eq h hn s Q hQ m (by omega)
   refine ⟨K1 + K2, fun k hk i hi => ?_⟩
   by_cases e : i = m
   ·subst e; exact h2 k (by omega)
   ·exact h1 k (by omega) i (by omega)
 exact key n (Nat.le_refl _)
end
theorem en_rows (M : Mat) (n a d : Nat) (ha : a < n) (hd : d < n) : Hd.en (rowsFrom M n 0) a d = M a d := by
 unfold Hd.en rowsFrom
 simp [ha, hd]
theorem dO_det {n k : Nat} (hn : n ≤ 5) (M : Mat) (hb : Bk n k M) : dO n M = det n M := by
 unfold dO
 rw [dgo_det hn (k := k) (Hd.en (rowsFrom M n 0)) (fun i j hi hj => by rw [en_rows M n i j hi hj]; exact hb i j hi hj)]
 exact det_congr (fun i j hi hj => en_rows M n i j hi hj)
theorem sgn_mul (d x : Int) (hx : -1920000000 ≤ x ∧ x ≤ 1920000000) : wrap64 (sgn d * x) = sgn d * x := by
 unfold sgn
 split
 ·exact w64 (by omega) (by omega)
 ·split
  ·exact w64 (by omega) (by omega)
  ·exact w64 (by omega) (by omega)
section
variable {n : Nat} {l : List (List Int)} (h : Sq n l) (hn : n ≤ 5) (s : Int)
include h hn
theorem D_b : -1920000000 ≤ det n (colM (bB s) (en l)) ∧ det n (colM (bB s) (en l)) ≤ 1920000000 := by
 have h1 := det_abs20 n (colM (bB s) (en l)) (fun i j hi hj => colM_small h hn s i j hi hj)
 have h2 := b20_le n hn
 omega
end
section
variable {n : Nat} {l : List (List Int)} (h : Sq n l) (hn : n ≤ 5) (s : Int) (x : List Int) (hx : ∀ r, r < n → (x.getD r 0).natAbs ≤ 100)
include h hn hx
theorem cset_small (i : Nat) : Bk n i (cset i (fun r => x.getD r 0) (colM (bB s) (en l))) := by
 intro a d ha hd
 unfold cset
 by_cases e : d = i
 ·rw [if_pos e, if_pos e]; exact hx a ha
 ·rw [if_neg e, if_neg e]; exact colM_small h hn s a d ha hd
theorem dc_b (i : Nat) : -1920000000 ≤ dc n (colM (bB s) (en l)) x i ∧ dc n (colM (bB s) (en l)) x i ≤ 1920000000 := by
 have h1 := det_absk n i _ (cset_small h hn s x hx i)
 have h2 := b20_le n hn
 unfold dc
 omega
def solR (n : Nat) (C : Mat) (x : List Int) : List Int × Int × Bool := if det n C = 0 then ([], 0, false) else ((List.range n).map fun i => sgn (det n C) * dc n C x i, (if det n C < 0 then - det n C else det n C), true)
theorem impl_solve (Q : List Int) (hQ : Q.length = n) (hxl : x.length = n) (hp : 0 < n) : Ev (fun k => impl_Problem_solve.f k l Q s x) (solR n (colM (bB s) (en l)) x) := by
 obtain ⟨K, hK⟩ := cols_all h hn s Q hQ
 refine ⟨K, fun k hk => ?_⟩
 have hc := hK k hk
 have hL (i : Nat) (hi : i < n) : colL k l Q s i = rw1 n (fun r => colM (bB s) (en l) r i) := by unfold colL; rw [hc i hi]; rfl
 have hcM (a d : Nat) (ha : a < n) (hd : d < n) : cM (colL k l Q s) n a d = colM (bB s) (en l) a d := by
  unfold cM
  rw [if_pos hd, hL d hd]
  simp [rw1, ha]
 have hD : dO n (cM (colL k l Q s) n) = det n (colM (bB s) (en l)) := by
  rw [dO_det hn (k := 0) _ (fun i j hi hj => by rw [hcM i j hi hj]; have := colM_small h hn s i j hi hj; split <;> omega)]
  exact det_congr hcM
 have db := D_b h hn s
 show impl_Problem_solve.f k l Q s x = _
 unfold impl_Problem_solve.f
 rw [hQ]
 rw [if_pos ⟨hp, by omega, hxl, by
  unfold colOK
  rw [List.all_eq_true]
  intro i hi
  rw [hc i (List.mem_range.1 hi)]
  simp [rw1]⟩]
 rw [hD]
 have e1 : impl_sign.f (det n (colM (bB s) (en l))) = some (sgn (det n (colM (bB s) (en l)))) := by
  unfold impl_sign.f sgn
  split
  ·rfl
  ·split <;> rfl
 have e2 : impl_size.f (det n (colM (bB s) (en l))) = some (if det n (colM (bB s) (en l)) < 0 then - det n (colM (bB s) (en l)) else det n (colM (bB s) (en l))) := by
  unfold impl_size.f mx
  rw [w64 (x := - det n (colM (bB s) (en l))) (by omega) (by omega)]
  congr 1
  split <;> split <;> omega
 rw [e1, e2, Option.bind_some, Option.bind_some]
 congr 1
 unfold solR
 by_cases d : det n (colM (bB s) (en l)) = 0
 ·rw [if_pos d, if_pos d]
 ·rw [if_neg d, if_neg d]
  congr 1
  unfold slL
  refine List.map_congr_left (fun i hi => ?_)
  have hi := List.mem_range.1 hi
  rw [if_pos hi]
  unfold sl
  have hY (a d : Nat) (ha : a < n) (hd : d < n) : pcol (Hd.en (rowsFrom (cM (colL k l Q s) n) n 0)) i x n a d = cset i (fun r => x.getD r 0) (colM (bB s) (en l)) a d := by
   unfold pcol cset
   by_cases e : d = i
   ·rw [if_pos ⟨e, ha⟩, if_pos e]
   ·rw [if_neg (fun q => e q.1), if_neg e, en_rows _ n a d ha hd, hcM a d ha hd]
  rw [dO_det hn (k := i) _ (fun a d ha hd => by rw [hY a d ha hd]; exact cset_small h hn s x hx i a d ha hd), det_congr hY]
  exact sgn_mul _ _ (dc_b h hn s x hx i)
theorem spec_solve (hxl : x.length = n) : Ev (fun k => spec_l01Solve.f k (mk n n (colM (bB s) (en l))) x) ((List.range n).map (dc n (colM (bB s) (en l)) x), det n (colM (bB s) (en l))) := by
 have hml := mk_len n n (colM (bB s) (en l))
 have rows : ∀ q c, c + q = n → Ev (fun k => spec_l01Solve.l0 k (mk n n (colM (bB s) (en l))) x ((List.range c).map (dc n (colM (bB s) (en l)) x)) c) ((List.range n).map (dc n (colM (bB s) (en l)) x), det n (colM (bB s) (en l))) := by
  intro q
  induction q with
  | zero =>
   intro c hc
   obtain rfl : c = n := by omega
   exact evstep (fun k => by rw [spec_l01Solve.l0]) (evneg (by omega) (evbind (cols_det h hn s) (evc rfl)))
  | succ q ih =>
   intro c hc
   have nx := ih (c + 1) (by omega)
   rw [List.range_succ, List.map_append] at nx
   have build : ∀ p r, r + p = n → Ev (fun k => spec_l01Solve.l1 k (mk n n (colM (bB s) (en l))) x ((List.range c).map (dc n (colM (bB s) (en l)) x)) c (mk r n (cset c (fun r => x.getD r 0) (colM (bB s) (en l)))) r) ((List.range n).map (dc n (colM (bB s) (en l)) x), det n (colM (bB s) (en l))) := by
    intro p
    induction p with
    | zero =>
     intro r hr
     obtain rfl : r = n := by omega
     have he (i j : Nat) (hi : i < r) (hj : j < r) : en (mk r r (cset c (fun r => x.getD r 0) (colM (bB s) (en l)))) i j = cset c (fun r => x.getD r 0) (colM (bB s) (en l)) i j := mk_en r r _ i j hi hj
     have hd := Sd.spec_det r (mk r r (cset c (fun r => x.getD r 0) (colM (bB s) (en l)))) hn (mk_len _ _ _) (mk_rows _ _ _) ⟨c, fun i j hi hj => by
      show (en (mk r r (cset c (fun r => x.getD r 0) (colM (bB s) (en l)))) i j).natAbs ≤ _
      rw [he i j hi hj]; exact cset_small h hn s x hx c i j hi hj⟩
     have e : det r (Sd.en (mk r r (cset c (fun r => x.getD r 0) (colM (bB s) (en l))))) = dc r (colM (bB s) (en l)) x c := det_congr he
     rw [e] at hd
     refine evstep (fun k => by rw [spec_l01Solve.l1]) (evneg (by omega) (evbind hd ?_))
     refine evpos (by rw [List.length_map, List.length_range]; omega) ?_
     rw [w64 (x := (c : Int) + 1) (by omega) (by omega)]
     exact nx
    | succ p ihp =>
     intro r hr
     have nx2 := ihp (r + 1) (by omega)
     rw [mk_succ] at nx2
     refine evstep (fun k => by rw [spec_l01Solve.l1]) ?_
     rw [rdL1, mk_row n n _ r (by omega)]
     refine evpos (by omega) (evpos (by omega) (evsome (Sd.own_eq _ (by rw [rw1_len]; omega)) (evpos (by omega) (evpos (by omega) (evpos (by rw [rw1_len]; omega) (evpos (by rw [mk_len]; omega) ?_))))))
     rw [rd_nat, Int.toNat_natCast, w64 (x := (r : Int) + 1) (by omega) (by omega), show (rw1 n (colM (bB s) (en l) r)).set c (x.getD r 0) = rw1 n (cset c (fun r => x.getD r 0) (colM (bB s) (en l)) r) from by
      apply List.ext_getElem
      ·simp [rw1]
      ·intro k h1 h2
       rw [List.getElem_set]
       simp only [rw1, List.getElem_map, List.getElem_range, cset]
       by_cases e : c = k
       ·subst e; simp
       ·rw [if_neg e, if_neg (Ne.symm e)]]
     exact nx2
   refine evstep (fun k => by rw [spec_l01Solve.l0]) (evpos (by omega) ?_)
   exact build n 0 (by omega)
 exact rows n 0 (by omega)
end
end Go.Proofs.Ythdoilfjcgickaa.Sv
end
section
namespace Go.Proofs.Ythdoilfjcgickaa.Fr
open Go.RowKit Go.Proofs.YthdoilfjcgickaaW.PrintWords Go.Proofs.YthdoilfjcgickaaW.PrintMore Go.Proofs.Ythdoilfjcgickaa.Ma Go.Proofs.Ythdoilfjcgickaa.Pr
def gc (a b : Int) : Int := (Int.gcd a b : Int)
def Big (x : Int) : Prop := -4611686018427387904 ≤ x ∧ x ≤ 4611686018427387904
theorem gc_zero (a : Int) : gc a 0 = if 0 ≤ a then a else -a := by
 unfold gc
 rw [Int.gcd_zero_right]
 split <;> omega
theorem gc_step (a b : Int) : gc a b = gc b (Int.tmod a b) := by
 unfold gc Int.gcd
 rw [Int.natAbs_tmod, Nat.gcd_comm, Nat.gcd_rec, Nat.gcd_comm]
theorem tmod_lt {a b : Int} (h : b ≠ 0) : (Int.tmod a b).natAbs < b.natAbs := by
 rw [Int.natAbs_tmod]
 exact Nat.mod_lt _ (by omega)
theorem abs_eq {a : Int} (h : Big a) : mx a (wrap64 (-a)) = if 0 ≤ a then a else -a := by
 unfold Big at h
 rw [w64 (by omega) (by omega)]
 unfold mx
 split <;> split <;> omega
theorem spec_loop : ∀ (n : Nat) (a b : Int), b.natAbs ≤ n → Big a → Big b → Ev (fun k => spec_l01Gcd.l0 k a b) (gc a b) := by
 intro n
 induction n with
 | zero =>
  intro a b hn ha hb
  obtain rfl : b = 0 := by omega
  refine evstep (fun k => by rw [spec_l01Gcd.l0]) (evpos rfl (evc ?_))
  rw [abs_eq ha, gc_zero]
 | succ n ih =>
  intro a b hn ha hb
  by_cases e : b = 0
  ·subst e
   refine evstep (fun k => by rw [spec_l01Gcd.l0]) (evpos rfl (evc ?_))
   rw [abs_eq ha, gc_zero]
  ·refine evstep (fun k => by rw [spec_l01Gcd.l0]) (evneg e ?_)
   have h := tmod_lt (a := a) e
   rw [gc_step]
   exact ih b (Int.tmod a b) (by omega) hb (by unfold Big at *; omega)
theorem spec_gcd (a b : Int) (ha : Big a) (hb : Big b) : Ev (fun k => spec_l01Gcd.f k a b) (gc a b) := spec_loop b.natAbs a b (Nat.le_refl _) ha hb
end Go.Proofs.Ythdoilfjcgickaa.Fr
end
section
namespace Go.Proofs.Ythdoilfjcgickaa.Er
open Go.RowKit Go.Proofs.YthdoilfjcgickaaW.PrintWords Go.Proofs.YthdoilfjcgickaaW.PrintMore Go.Proofs.Ythdoilfjcgickaa.Ma Go.Proofs.Ythdoilfjcgickaa.Pr Go.Proofs.Ythdoilfjcgickaa.Dt Go.Proofs.Ythdoilfjcgickaa.Bz Go.Proofs.Ythdoilfjcgickaa.Un Go.Proofs.Ythdoilfjcgickaa.Cz Go.Proofs.Ythdoilfjcgickaa.Pb Go.Proofs.Ythdoilfjcgickaa.Mn Go.Proofs.Ythdoilfjcgickaa.Sv
open Go.Proofs.Ythdoilfjcgickaa.Fr (gc spec_gcd Big)
abbrev T := S65
def fr (p d : Int) : T := ⟨Int.tdiv p (gc p d), Int.tdiv d (gc p d)⟩
def Sm (x : Int) : Prop := -1920000000 ≤ x ∧ x ≤ 1920000000
theorem fr_facts {p d : Int} (hp : Sm p) (h1 : 1 ≤ d) (hd : Sm d) : ∃ g : Int, 1 ≤ g ∧ gc p d = g ∧ p = g * (fr p d).f0 ∧ d = g * (fr p d).f1 ∧ 1 ≤ (fr p d).f1 ∧ (fr p d).f1 ≤ 1920000000 ∧ Sm (fr p d).f0 := by
 unfold Sm at *
 have h0 : 0 < Int.gcd p d := Int.gcd_pos_of_ne_zero_right p (by omega)
 have hg : 1 ≤ gc p d := by unfold gc; omega
 have d1 : gc p d ∣ p := Int.gcd_dvd_left p d
 have d2 : gc p d ∣ d := Int.gcd_dvd_right p d
 generalize hgg : gc p d = g at *
 obtain ⟨a, ha⟩ := d1
 obtain ⟨b, hb⟩ := d2
 have e1 : Int.tdiv p g = a := by rw [ha]; exact Int.mul_tdiv_cancel_left a (by omega)
 have e2 : Int.tdiv d g = b := by rw [hb]; exact Int.mul_tdiv_cancel_left b (by omega)
 have fb : (fr p d).f0 = a ∧ (fr p d).f1 = b := by unfold fr; rw [hgg]; exact ⟨e1, e2⟩
 rw [fb.1, fb.2]
 have b1 : 1 ≤ b := by
  by_cases q : 1 ≤ b
  ·exact q
  ·have : g * b ≤ 0 := Int.mul_nonpos_of_nonneg_of_nonpos (by omega) (by omega)
   omega
 have b2 : b ≤ d := by
  have : 1 * b ≤ g * b := Int.mul_le_mul_of_nonneg_right hg (by omega)
  omega
 have a1 : a.natAbs ≤ p.natAbs := by
  rw [ha, Int.natAbs_mul]
  have : 1 * a.natAbs ≤ g.natAbs * a.natAbs := Nat.mul_le_mul_right _ (by omega)
  omega
 exact ⟨g, hg, rfl, ha, hb, b1, by omega, by omega⟩
theorem fr_neg {p d : Int} (hp : Sm p) (h1 : 1 ≤ d) (hd : Sm d) : (fr p d).f0 < 0 ↔ p < 0 := by
 obtain ⟨g, hg, _, e1, _⟩ := fr_facts hp h1 hd
 generalize (fr p d).f0 = a at e1
 subst e1
 constructor
 ·intro h; exact Int.mul_neg_of_pos_of_neg (by omega) h
 ·intro h
  by_cases q : a < 0
  ·exact q
  ·have : 0 ≤ g * a := Int.mul_nonneg (by omega) (by omega)
   omega
theorem fr_less {p q d : Int} (hp : Sm p) (hq : Sm q) (h1 : 1 ≤ d) (hd : Sm d) : (fr p d).f0 * (fr q d).f1 < (fr q d).f0 * (fr p d).f1 ↔ p < q := by
 obtain ⟨g1, hg1, _, e1, e2, e3, _⟩ := fr_facts hp h1 hd
 obtain ⟨g2, hg2, _, e4, e5, e6, _⟩ := fr_facts hq h1 hd
 generalize (fr p d).f0 = a1 at *
 generalize (fr p d).f1 = b1 at *
 generalize (fr q d).f0 = a2 at *
 generalize (fr q d).f1 = b2 at *
 have hgg : 0 < g1 * g2 := Int.mul_pos (by omega) (by omega)
 have k1 : (a1 * b2) * (g1 * g2) = p * d := by rw [e1]; rw [e5]; grind
 have k2 : (a2 * b1) * (g1 * g2) = q * d := by rw [e4]; rw [e2]; grind
 constructor
 ·intro h
  have : (a1 * b2) * (g1 * g2) < (a2 * b1) * (g1 * g2) := Int.mul_lt_mul_of_pos_right h hgg
  rw [k1, k2] at this
  exact Int.lt_of_mul_lt_mul_right this (by omega)
 ·intro h
  have : p * d < q * d := Int.mul_lt_mul_of_pos_right h (by omega)
  rw [← k1, ← k2] at this
  exact Int.lt_of_mul_lt_mul_right this (by omega)
theorem spec_frac {x D : Int} (hx : Sm x) (hD : Sm D) (h0 : D ≠ 0) : Ev (fun k => spec_l01Frac.f k x D) ((fr (sgn D * x) (if D < 0 then - D else D)).f0, (fr (sgn D * x) (if D < 0 then - D else D)).f1) := by
 unfold spec_l01Frac.f
 have hh := hx; have hDD := hD
 unfold Sm at hh hDD
 by_cases c : D < 0
 ·have e : sgn D * x = -x := by unfold sgn; rw [if_pos c]; omega
  rw [e, if_pos c]
  obtain ⟨g, hg, hgc, e1, e2, e3, e4, e5⟩ := fr_facts (p := -x) (d := -D) (by unfold Sm; omega) (by omega) (by unfold Sm; omega)
  unfold Sm at e5
  refine evpos c ?_
  rw [w64 (x := -x) (by omega) (by omega), w64 (x := -D) (by omega) (by omega)]
  refine evbind (spec_gcd (-x) (-D) (by unfold Big; omega) (by unfold Big; omega)) ?_
  rw [hgc]
  refine evneg (by omega) ?_
  have f0 : Int.tdiv (-x) g = (fr (-x) (-D)).f0 := by unfold fr; rw [hgc]
  have f1 : Int.tdiv (-D) g = (fr (-x) (-D)).f1 := by unfold fr; rw [hgc]
  rw [f0, f1, w64 (x := (fr (-x) (-D)).f0) (by omega) (by omega), w64 (x := (fr (-x) (-D)).f1) (by omega) (by omega)]
  exact evc rfl
 ·have e : sgn D * x = x := by unfold sgn; rw [if_neg c, if_pos (by omega)]; omega
  rw [e, if_neg c]
  obtain ⟨g, hg, hgc, e1, e2, e3, e4, e5⟩ := fr_facts (p := x) (d := D) hx (by omega) hD
  unfold Sm at e5
  refine evneg c ?_
  refine evbind (spec_gcd x D (by unfold Big; omega) (by unfold Big; omega)) ?_
  rw [hgc]
  refine evneg (by omega) ?_
  have f0 : Int.tdiv x g = (fr x D).f0 := by unfold fr; rw [hgc]
  have f1 : Int.tdiv D g = (fr x D).f1 := by unfold fr; rw [hgc]
  rw [f0, f1, w64 (x := (fr x D).f0) (by omega) (by omega), w64 (x := (fr x D).f1) (by omega) (by omega)]
  exact evc rfl
structure St where
 f : Int
 la : Int
 le : Int
 al : Nat
def nx (P : Nat → Int) (i : Nat) (σ : St) : St := if P i < 0 then ⟨if σ.f < 0 then (i : Int) else σ.f, i, if σ.le < 0 then (i : Int) else if P i < P σ.le.toNat then (i : Int) else σ.le, σ.al ||| 2 ^ i⟩ else σ
def st (P : Nat → Int) : Nat → St
 | 0 => ⟨-1, -1, -1, 0⟩
 | i + 1 => nx P i (st P i)
structure Inv (P : Nat → Int) (i : Nat) (σ : St) : Prop where
 none_ : σ.f < 0 → σ.f = -1 ∧ σ.la = -1 ∧ σ.le = -1 ∧ σ.al = 0 ∧ ∀ j, j < i → ¬ P j < 0
 some_ : ¬ σ.f < 0 → σ.f < i ∧ 0 ≤ σ.la ∧ σ.la < i ∧ 0 ≤ σ.le ∧ σ.le < i ∧ σ.al ≠ 0
 lt : σ.al < 2 ^ i
theorem st_inv (P : Nat → Int) : ∀ i, Inv P i (st P i)
 | 0 => ⟨fun _ => ⟨rfl, rfl, rfl, rfl, fun j hj => by omega⟩, fun h => absurd (show (-1 : Int) < 0 by decide) h, show 0 < 2 ^ 0 by decide⟩
 | i + 1 => by
  have h := st_inv P i
  show Inv P (i + 1) (nx P i (st P i))
  generalize st P i = σ at h ⊢
  have hp : (2 : Nat) ^ (i + 1) = 2 ^ i + 2 ^ i := by rw [Nat.pow_succ]; omega
  have hpos : 0 < (2 : Nat) ^ i := Nat.pow_pos (by decide)
  have hlt := h.lt
  unfold nx
  by_cases c : P i < 0
  ·rw [if_pos c]
   refine ⟨fun q => ?_, fun q => ?_, ?_⟩
   ·simp only at q
    split at q <;> omega
   ·refine ⟨?_, by simp, by simp; omega, ?_, ?_, ?_⟩
    ·simp only
     split
     ·omega
     ·next d => have := (h.some_ d).1; omega
    ·simp only
     split
     ·omega
     ·split <;> omega
    ·simp only
     split
     ·omega
     ·next d =>
      have hf : ¬ σ.f < 0 := fun z => d (by have := (h.none_ z).2.2.1; omega)
      have := (h.some_ hf).2.2.2.2.1
      split <;> omega
    ·simp only
     have : 2 ^ i ≤ σ.al ||| 2 ^ i := Nat.right_le_or
     omega
   ·simp only
    exact Nat.or_lt_two_pow (by omega) (by omega)
  ·rw [if_neg c]
   refine ⟨fun q => ?_, fun q => ?_, by omega⟩
   ·obtain ⟨a, b, d, e, f⟩ := h.none_ q
    refine ⟨a, b, d, e, fun j hj => ?_⟩
    by_cases z : j = i
    ·subst z; exact c
    ·exact f j (by omega)
   ·obtain ⟨a, b, d, e, f, g⟩ := h.some_ q
    exact ⟨by omega, b, by omega, e, by omega, g⟩
def byR (r : Int) (σ : St) : Int := if σ.f < 0 then 0 else if r = 0 then shl .i64 1 σ.f else if r = 1 then shl .i64 1 σ.la else if r = 2 then shl .i64 1 σ.le else (σ.al : Int)
theorem byR_none {r : Int} {σ : St} (c : σ.f < 0) : byR r σ = 0 := if_pos c
theorem byR_0 {r : Int} {σ : St} (c : ¬ σ.f < 0) (h : r = 0) : byR r σ = shl .i64 1 σ.f := by unfold byR; rw [if_neg c, if_pos h]
theorem byR_1 {r : Int} {σ : St} (c : ¬ σ.f < 0) (h : r = 1) : byR r σ = shl .i64 1 σ.la := by unfold byR; rw [if_neg c, if_neg (by omega), if_pos h]
theorem byR_2 {r : Int} {σ : St} (c : ¬ σ.f < 0) (h : r = 2) : byR r σ = shl .i64 1 σ.le := by unfold byR; rw [if_neg c, if_neg (by omega), if_neg (by omega), if_pos h]
theorem byR_3 {r : Int} {σ : St} (c : ¬ σ.f < 0) (h0 : ¬ r = 0) (h1 : ¬ r = 1) (h2 : ¬ r = 2) : byR r σ = (σ.al : Int) := by unfold byR; rw [if_neg c, if_neg h0, if_neg h1, if_neg h2]
theorem or_pow {A i : Nat} (hA : A < 2 ^ i) (hi : i ≤ 5) : Go.bits .or .i64 (A : Int) (shl .i64 1 (i : Int)) = ((A ||| 2 ^ i : Nat) : Int) := by
 rw [shl_one (by omega) (by omega), Int.toNat_natCast]
 have h1 : (2 : Nat) ^ i < 2 ^ 63 := Nat.pow_lt_pow_right (by decide) (by omega)
 exact or_nat (by omega) h1
section
variable {n : Nat} (hn : n ≤ 5) (P : Nat → Int)
include hn
theorem impl_ex (r : Int) (hr : 0 ≤ r ∧ r ≤ 3) (x : List Int) (hx : x.length = n) (hxa : ∀ i, i < n → x.getD i 0 = P i) : ∀ q i, i + q = n → Ev (fun k => impl_exchanged.l0 k x r ((st P i).al : Int) (st P i).f (st P i).la (if (st P i).le < 0 then 0 else (st P i).le) x (n : Int) i) (byR r (st P n)) := by
 intro q
 induction q with
 | zero =>
  intro i hi
  obtain rfl : i = n := by omega
  have v := st_inv P i
  generalize st P i = σ at v ⊢
  refine evstep (fun k => by rw [impl_exchanged.l0]) (evneg (by omega) ?_)
  by_cases c : σ.f < 0
  ·rw [byR_none c]
   have e := (v.none_ c).2.2.2.1
   rw [e]
   refine evpos (by decide) (evstep (fun k => by rw [impl_exchanged.j1]) ?_)
   exact evpos rfl (evc rfl)
  ·obtain ⟨a, b, d, e, f, g⟩ := v.some_ c
   refine evneg (by omega) ?_
   refine evstep (fun k => by rw [impl_exchanged.j1]) ?_
   by_cases r3 : r = 3
   ·rw [byR_3 c (by omega) (by omega) (by omega)]
    exact evpos (by simp [r3]) (evc rfl)
   ·refine evneg (by simpa using r3) ?_
    by_cases r0 : r = 0
    ·rw [byR_0 c r0]; exact evpos r0 (evpos (by omega) (evc rfl))
    ·refine evneg r0 ?_
     by_cases r1 : r = 1
     ·rw [byR_1 c r1]; exact evpos r1 (evpos b (evc rfl))
     ·rw [byR_2 c (by omega)]
      refine evneg r1 ?_
      rw [if_neg (show ¬ σ.le < 0 by omega)]
      exact evpos e (evc rfl)
 | succ q ih =>
  intro i hi
  have nx_ := ih (i + 1) (by omega)
  have v := st_inv P i
  rw [show st P (i + 1) = nx P i (st P i) from rfl] at nx_
  generalize st P i = σ at v nx_ ⊢
  have hor := or_pow (A := σ.al) (i := i) v.lt (by omega)
  refine evstep (fun k => by rw [impl_exchanged.l0]) (evpos (by omega) (evpos (by omega) (evpos (by omega) ?_)))
  rw [rd_nat, hxa i (by omega), w64 (x := (i : Int) + 1) (by omega) (by omega)]
  by_cases c : P i < 0
  ·unfold nx at nx_
   rw [if_pos c] at nx_
   refine evneg (by omega) ?_
   rw [hor]
   by_cases cf : σ.f < 0
   ·obtain ⟨e1, e2, e3, e4, e5⟩ := v.none_ cf
    simp only [if_pos cf, if_pos (show σ.le < 0 by omega), if_neg (show ¬ (i : Int) < 0 by omega)] at nx_
    rw [if_pos (show σ.le < 0 by omega)]
    refine evpos cf (evpos (by decide) (evpos (by omega) ?_))
    rw [show rd x 0 = P 0 from by rw [show (0 : Int) = ((0 : Nat) : Int) from rfl, rd_nat, hxa 0 (by omega)]]
    by_cases c0 : P i < P 0
    ·exact evpos c0 nx_
    ·have hi0 : i = 0 := by
      by_cases z : i = 0
      ·exact z
      ·have := e5 0 (by omega); omega
     subst hi0
     exact evneg c0 nx_
   ·obtain ⟨e1, e2, e3, e4, e5, e6⟩ := v.some_ cf
    simp only [if_neg cf, if_neg (show ¬ σ.le < 0 by omega)] at nx_
    rw [if_neg (show ¬ σ.le < 0 by omega)]
    refine evneg cf (evpos e4 (evpos (by omega) ?_))
    obtain ⟨m, hm⟩ := Int.eq_ofNat_of_zero_le e4
    rw [hm, Int.toNat_natCast] at nx_
    rw [hm, rd_nat, hxa m (by omega)]
    by_cases c0 : P i < P m
    ·simp only [if_pos c0, if_neg (show ¬ (i : Int) < 0 by omega)] at nx_
     exact evpos c0 nx_
    ·simp only [if_neg c0, if_neg (show ¬ (m : Int) < 0 by omega)] at nx_
     exact evneg c0 nx_
  ·unfold nx at nx_
   rw [if_neg c] at nx_
   exact evpos (by omega) nx_
theorem spec_ex (s r : Int) (hr : 0 ≤ r ∧ r ≤ 3) (F : List T) (hF : F.length = n) (hneg : ∀ i, i < n → ((F.getD i z65).f0 < 0 ↔ P i < 0)) (hless : ∀ i j, i < n → j < n → (wrap64 ((F.getD i z65).f0 * (F.getD j z65).f1) < wrap64 ((F.getD j z65).f0 * (F.getD i z65).f1) ↔ P i < P j)) :
  ∀ q i, i + q = n → Ev (fun k => spec_l08Step.l0 k s r F (st P i).f (st P i).la (st P i).le ((st P i).al : Int) i) (if (st P n).f < 0 then (s, false, true) else (Go.bits .xor .i64 s (byR r (st P n)), true, true)) := by
 intro q
 induction q with
 | zero =>
  intro i hi
  obtain rfl : i = n := by omega
  have v := st_inv P i
  generalize st P i = σ at v ⊢
  refine evstep (fun k => by rw [spec_l08Step.l0]) (evneg (by omega) ?_)
  by_cases c : σ.f < 0
  ·rw [show (if σ.f < 0 then (s, false, true) else (Go.bits .xor .i64 s (byR r σ), true, true)) = (s, false, true) from if_pos c]
   exact evpos c (evc rfl)
  ·rw [show (if σ.f < 0 then (s, false, true) else (Go.bits .xor .i64 s (byR r σ), true, true)) = (Go.bits .xor .i64 s (byR r σ), true, true) from if_neg c]
   obtain ⟨a, b, d, e, f, g⟩ := v.some_ c
   refine evneg c ?_
   rw [u64w (x := σ.f) (by omega) (by omega), u64w (x := σ.la) (by omega) (by omega), u64w (x := σ.le) (by omega) (by omega)]
   by_cases r0 : r = 0
   ·rw [byR_0 c r0]; exact evpos r0 (evpos (by omega) (evc rfl))
   ·refine evneg r0 ?_
    by_cases r1 : r = 1
    ·rw [byR_1 c r1]; exact evpos r1 (evpos b (evc rfl))
    ·refine evneg r1 ?_
     by_cases r2 : r = 2
     ·rw [byR_2 c r2]; exact evpos r2 (evpos e (evc rfl))
     ·rw [byR_3 c r0 r1 r2]; exact evneg r2 (evc rfl)
 | succ q ih =>
  intro i hi
  have nx_ := ih (i + 1) (by omega)
  have v := st_inv P i
  rw [show st P (i + 1) = nx P i (st P i) from rfl] at nx_
  generalize st P i = σ at v nx_ ⊢
  have hor := or_pow (A := σ.al) (i := i) v.lt (by omega)
  have rdn (j : Nat) : rd_T65 F (j : Int) = F.getD j z65 := by simp [rd_T65]
  have hn_ := hneg i (by omega)
  refine evstep (fun k => by rw [spec_l08Step.l0]) (evpos (by omega) (evpos (by omega) (evsome (a := decide (P i < 0)) ?_ ?_)))
  ·unfold spec_l08Less.f
   rw [rdn]; congr 1; rw [Bool.eq_iff_iff]; simp only [decide_eq_true_eq]; exact hn_
  rw [u64w (x := (i : Int)) (by omega) (by omega), hor, w64 (x := (i : Int) + 1) (by omega) (by omega)]
  by_cases c : P i < 0
  ·unfold nx at nx_
   rw [if_pos c] at nx_
   refine evpos (by simpa using c) ?_
   have less (m : Nat) (hm : m < n) : spec_l01Less.f (rd_T65 F (i : Int)).f0 (rd_T65 F (i : Int)).f1 (rd_T65 F (m : Int)).f0 (rd_T65 F (m : Int)).f1 = some (decide (P i < P m)) := by
    unfold spec_l01Less.f
    rw [rdn, rdn]; congr 1; rw [Bool.eq_iff_iff]; simp only [decide_eq_true_eq]; exact hless i m (by omega) hm
   by_cases cf : σ.f < 0
   ·obtain ⟨e1, e2, e3, e4, e5⟩ := v.none_ cf
    simp only [if_pos cf, if_pos (show σ.le < 0 by omega)] at nx_
    exact evpos cf (evpos (by omega) (evpos (by omega) nx_))
   ·obtain ⟨e1, e2, e3, e4, e5, e6⟩ := v.some_ cf
    simp only [if_neg cf, if_neg (show ¬ σ.le < 0 by omega)] at nx_
    obtain ⟨m, hm⟩ := Int.eq_ofNat_of_zero_le e4
    rw [hm, Int.toNat_natCast] at nx_
    rw [hm]
    refine evneg cf (evneg (by omega) (evpos (by omega) (evpos (by omega) (evsome (less m (by omega)) ?_))))
    by_cases c0 : P i < P m
    ·simp only [if_pos c0] at nx_
     exact evpos (by simpa using c0) (evpos (by omega) nx_)
    ·simp only [if_neg c0] at nx_
     exact evneg (by simpa using c0) (evpos (by omega) nx_)
  ·unfold nx at nx_
   rw [if_neg c] at nx_
   exact evneg (by simpa using c) nx_
end
theorem by_zero {P : Nat → Int} {n : Nat} (hn : n ≤ 5) (r : Int) : byR r (st P n) = 0 ↔ (st P n).f < 0 := by
 have v := st_inv P n
 generalize st P n = σ at v
 unfold byR
 by_cases c : σ.f < 0
 ·rw [if_pos c]; exact ⟨fun _ => c, fun _ => rfl⟩
 ·rw [if_neg c]
  obtain ⟨a, b, d, e, f, g⟩ := v.some_ c
  have p (x : Int) (h0 : 0 ≤ x) (h1 : x < n) : shl .i64 1 x ≠ 0 := by
   rw [shl_one h0 (by omega)]
   have : 0 < 2 ^ x.toNat := Nat.pow_pos (by decide)
   omega
  refine ⟨fun h => ?_, fun h => absurd h c⟩
  split at h
  ·exact absurd h (p _ (by omega) a)
  ·split at h
   ·exact absurd h (p _ b d)
   ·split at h
    ·exact absurd h (p _ e f)
    ·omega
end Go.Proofs.Ythdoilfjcgickaa.Er
end
section
namespace Go.Proofs.Ythdoilfjcgickaa.Er
open Go.RowKit Go.Proofs.YthdoilfjcgickaaW.PrintWords Go.Proofs.YthdoilfjcgickaaW.PrintMore Go.Proofs.Ythdoilfjcgickaa.Ma Go.Proofs.Ythdoilfjcgickaa.Pr Go.Proofs.Ythdoilfjcgickaa.Dt Go.Proofs.Ythdoilfjcgickaa.Bz Go.Proofs.Ythdoilfjcgickaa.Un Go.Proofs.Ythdoilfjcgickaa.Cz Go.Proofs.Ythdoilfjcgickaa.Pb Go.Proofs.Ythdoilfjcgickaa.Mn Go.Proofs.Ythdoilfjcgickaa.Sv
def ab (d : Int) : Int := if d < 0 then - d else d
section
variable {n : Nat} {l : List (List Int)} (h : Sq n l) (hn : n ≤ 5) (s : Int) (x : List Int) (hx : ∀ r, r < n → (x.getD r 0).natAbs ≤ 100) (hxl : x.length = n)
include h hn hx hxl
theorem P_sm (i : Nat) : Sm (sgn (det n (colM (bB s) (en l))) * dc n (colM (bB s) (en l)) x i) := by
 have b := dc_b h hn s x hx i
 have _h := hxl
 unfold Sm sgn
 split
 ·omega
 ·split <;> omega
theorem spec_point : Ev (fun k => spec_l01Point.f k l x s) (if det n (colM (bB s) (en l)) = 0 then ([], false) else ((List.range n).map fun i => fr (sgn (det n (colM (bB s) (en l))) * dc n (colM (bB s) (en l)) x i) (ab (det n (colM (bB s) (en l)))), true)) := by
 unfold spec_l01Point.f
 refine evbind (spec_cols h hn s) (evbind (spec_solve h hn s x hx hxl) ?_)
 have db := D_b h hn s
 by_cases d : det n (colM (bB s) (en l)) = 0
 ·rw [if_pos d]; exact evpos d (evc rfl)
 ·rw [if_neg d]
  refine evneg d ?_
  have loop : ∀ q i, i + q = n → Ev (fun k => spec_l01Point.l0 k ((List.range n).map (dc n (colM (bB s) (en l)) x)) (det n (colM (bB s) (en l))) ((List.range i).map fun i => fr (sgn (det n (colM (bB s) (en l))) * dc n (colM (bB s) (en l)) x i) (ab (det n (colM (bB s) (en l))))) i) ((List.range n).map fun i => fr (sgn (det n (colM (bB s) (en l))) * dc n (colM (bB s) (en l)) x i) (ab (det n (colM (bB s) (en l)))), true) := by
   intro q
   induction q with
   | zero =>
    intro i hi
    obtain rfl : i = n := by omega
    exact evstep (fun k => by rw [spec_l01Point.l0]) (evneg (by simp) (evc rfl))
   | succ q ih =>
    intro i hi
    have nx := ih (i + 1) (by omega)
    rw [List.range_succ, List.map_append] at nx
    refine evstep (fun k => by rw [spec_l01Point.l0]) (evpos (by simp; omega) (evpos (by omega) ?_))
    rw [rd_nat, show ((List.range n).map (dc n (colM (bB s) (en l)) x)).getD i 0 = dc n (colM (bB s) (en l)) x i from by simp [show i < n by omega], w64 (x := (i : Int) + 1) (by omega) (by omega)]
    refine evbind (spec_frac (x := dc n (colM (bB s) (en l)) x i) (D := det n (colM (bB s) (en l))) (by unfold Sm; exact dc_b h hn s x hx i) (by unfold Sm; exact db) d) ?_
    refine evpos (by rw [List.length_map, List.length_range]; omega) ?_
    exact nx
  exact loop n 0 (by omega)
theorem spec_step (r : Int) (hr : 0 ≤ r ∧ r ≤ 3) : Ev (fun k => spec_l08Step.f k l x s r) (if det n (colM (bB s) (en l)) = 0 then (s, false, false) else if (st (fun i => sgn (det n (colM (bB s) (en l))) * dc n (colM (bB s) (en l)) x i) n).f < 0 then (s, false, true) else (Go.bits .xor .i64 s (byR r (st (fun i => sgn (det n (colM (bB s) (en l))) * dc n (colM (bB s) (en l)) x i) n)), true, true)) := by
 unfold spec_l08Step.f
 refine evbind (spec_point h hn s x hx hxl) ?_
 have db := D_b h hn s
 by_cases d : det n (colM (bB s) (en l)) = 0
 ·rw [if_pos d, if_pos d]; exact evneg (by simp) (evc rfl)
 ·rw [if_neg d, if_neg d]
  refine evpos rfl ?_
  have da : 1 ≤ ab (det n (colM (bB s) (en l))) ∧ Sm (ab (det n (colM (bB s) (en l)))) := by
   unfold ab Sm
   split <;> omega
  have pm := P_sm h hn s x hx hxl
  have gd (i : Nat) (hi : i < n) : ((List.range n).map fun i => fr (sgn (det n (colM (bB s) (en l))) * dc n (colM (bB s) (en l)) x i) (ab (det n (colM (bB s) (en l))))).getD i z65 = fr (sgn (det n (colM (bB s) (en l))) * dc n (colM (bB s) (en l)) x i) (ab (det n (colM (bB s) (en l)))) := by simp [hi]
  refine spec_ex hn _ s r hr _ (by simp) (fun i hi => ?_) (fun i j hi hj => ?_) n 0 (by omega)
  ·rw [gd i hi]; exact fr_neg (pm i) da.1 da.2
  ·rw [gd i hi, gd j hj]
   obtain ⟨_, _, _, _, _, b1, b2, b3⟩ := fr_facts (pm i) da.1 da.2
   obtain ⟨_, _, _, _, _, b4, b5, b6⟩ := fr_facts (pm j) da.1 da.2
   have p1 := prod_b (x := (fr (sgn (det n (colM (bB s) (en l))) * dc n (colM (bB s) (en l)) x i) (ab (det n (colM (bB s) (en l))))).f0) (y := (fr (sgn (det n (colM (bB s) (en l))) * dc n (colM (bB s) (en l)) x j) (ab (det n (colM (bB s) (en l))))).f1) b3 ⟨by omega, b5⟩
   have p2 := prod_b (x := (fr (sgn (det n (colM (bB s) (en l))) * dc n (colM (bB s) (en l)) x j) (ab (det n (colM (bB s) (en l))))).f0) (y := (fr (sgn (det n (colM (bB s) (en l))) * dc n (colM (bB s) (en l)) x i) (ab (det n (colM (bB s) (en l))))).f1) b6 ⟨by omega, b2⟩
   rw [w64 (by omega) (by omega), w64 (by omega) (by omega)]
   exact fr_less (pm i) (pm j) da.1 da.2
end
theorem iin_eq (x a b : Int) : impl_within.f x a b = some (decide (a ≤ x ∧ x ≤ b)) := by
 unfold impl_within.f
 by_cases h : x ≥ a
 ·rw [if_pos h]; congr 1; rw [Bool.eq_iff_iff]; simp; omega
 ·rw [if_neg h]; congr 1; rw [Bool.eq_iff_iff]; simp; omega
def SetIn (n : Nat) (s : Int) : Prop := 0 ≤ s ∧ s ≤ ((2 ^ n : Nat) : Int) - 1
theorem pow_sub {n : Nat} (hn : n ≤ 5) : wrap64 (shl .i64 1 (n : Int) - 1) = ((2 ^ n : Nat) : Int) - 1 := by
 rw [shl_one (by omega) (by omega), Int.toNat_natCast]
 have key : ∀ m : Nat, 1 ≤ m → m ≤ 2 ^ 5 → wrap64 ((m : Int) - 1) = (m : Int) - 1 := fun m h1 h2 => w64 (by omega) (by omega)
 exact key _ Nat.one_le_two_pow (Nat.pow_le_pow_right (by decide) hn)
open Classical in
noncomputable def codeR (M : List (List Int)) (Q : List Int) (s r : Int) : Int := if POK M Q then (if SetIn Q.length s ∧ 0 ≤ r ∧ r ≤ 3 then 0 else 2) else 1
open Classical in
theorem impl_code (M : List (List Int)) (Q : List Int) (s r : Int) : impl_ruleCode.f M Q s r = some (codeR M Q s r) := by
 unfold impl_ruleCode.f impl_setCode.f codeR
 have is := Pb.impl_is M Q (decide (POK M Q)) (by simp)
 rw [is, Option.bind_some]
 by_cases p : POK M Q
 ·have hq := p.len; have h5 := p.mat.n5
  rw [if_pos (by simpa using p), if_pos p]
  unfold impl_isSet.f
  rw [if_pos (by omega), pow_sub (by omega), iin_eq, Option.bind_some, Option.bind_some]
  by_cases c : 0 ≤ s ∧ s ≤ ((2 ^ Q.length : Nat) : Int) - 1
  ·rw [if_pos (decide_eq_true c), Option.bind_some, if_pos rfl, iin_eq, Option.bind_some]
   by_cases d : 0 ≤ r ∧ r ≤ 3
   ·rw [if_pos (decide_eq_true d), if_pos ⟨c, d⟩]
   ·rw [if_neg (by simpa using d), if_neg (fun z => d z.2)]
  ·rw [if_neg (by simpa using c), Option.bind_some, if_neg (by decide), if_neg (fun z => c z.1)]
 ·rw [if_neg (by simpa using p), if_neg p, Option.bind_some, if_neg (by decide)]
open Classical in
theorem spec_code (M : List (List Int)) (Q : List Int) (s r : Int) (hQ : Q.length ≤ 1048576) : Ev (fun k => spec_l08Code.f k M Q s r) (codeR M Q s r) := by
 unfold spec_l08Code.f codeR
 refine evbind (Pb.spec_is M Q hQ (decide (POK M Q)) (by simp)) ?_
 by_cases p : POK M Q
 ·have hq := p.len; have h5 := p.mat.n5
  rw [if_pos p]
  refine evpos (by simpa using p) ?_
  rw [u64w (x := (Q.length : Int)) (by omega) (by omega), pow_sub (by omega)]
  refine evpos (by omega) (evsome (sin_eq _ _ _) ?_)
  by_cases c : 0 ≤ s ∧ s ≤ ((2 ^ Q.length : Nat) : Int) - 1
  ·refine evpos (decide_eq_true c) (evsome (sin_eq _ _ _) ?_)
   by_cases d : 0 ≤ r ∧ r ≤ 3
   ·rw [show (if SetIn Q.length s ∧ 0 ≤ r ∧ r ≤ 3 then (0 : Int) else 2) = 0 from if_pos ⟨c, d⟩]; exact evpos (decide_eq_true d) (evc rfl)
   ·rw [show (if SetIn Q.length s ∧ 0 ≤ r ∧ r ≤ 3 then (0 : Int) else 2) = 2 from if_neg (fun z => d z.2)]; exact evneg (by simpa using d) (evc rfl)
  ·rw [show (if SetIn Q.length s ∧ 0 ≤ r ∧ r ≤ 3 then (0 : Int) else 2) = 2 from if_neg (fun z => c z.1)]; exact evneg (by simpa using c) (evc rfl)
 ·rw [if_neg p]
  exact evneg (by simpa using p) (evc rfl)
theorem POK.small {M : List (List Int)} {Q : List Int} (p : POK M Q) (r : Nat) (hr : r < M.length) : (Q.getD r 0).natAbs ≤ 100 := by
 have := p.num r (Nat.zero_le _) (by have := p.len; omega)
 unfold N100 at this
 omega
end Go.Proofs.Ythdoilfjcgickaa.Er
end
section
namespace Go.Proofs.Ythdoilfjcgickaa.Sl
open Go.RowKit Go.Proofs.YthdoilfjcgickaaW.PrintWords Go.Proofs.YthdoilfjcgickaaW.PrintMore Go.Proofs.Ythdoilfjcgickaa.Ma Go.Proofs.Ythdoilfjcgickaa.Pr
theorem index_loop (xs : List Int) (a : Int) (hx : xs.length ≤ 1048576) : ∀ m i, i + m = xs.length → ∃ r : Int, Ev (fun k => slices_Index_int64_int64.l0 k xs a (xs.length : Int) (i : Nat)) r ∧ (0 ≤ r ↔ a ∈ xs.drop i) := by
 intro m
 induction m with
 | zero =>
  intro i hi
  refine ⟨-1, ?_, by rw [List.drop_of_length_le (by omega)]; simp⟩
  refine evstep (fun k => by rw [slices_Index_int64_int64.l0]) ?_
  exact evneg (by omega) (evc rfl)
 | succ m ih =>
  intro i hi
  have hlt : i < xs.length := by omega
  have e1 : xs.getD i 0 = xs[i] := by simp [hlt]
  by_cases c : a = xs[i]
  ·refine ⟨i, ?_, by rw [List.drop_eq_getElem_cons hlt, List.mem_cons]; exact ⟨fun _ => .inl c, fun _ => by omega⟩⟩
   refine evstep (fun k => by rw [slices_Index_int64_int64.l0]) (evpos (by omega) (evpos (by omega) (evpos (by omega) ?_)))
   rw [rd_nat, e1]
   exact evpos c (evc rfl)
  ·obtain ⟨r, hr, hi'⟩ := ih (i + 1) (by omega)
   refine ⟨r, ?_, by rw [hi', List.drop_eq_getElem_cons hlt, List.mem_cons]; exact ⟨.inr, fun h => h.elim (fun e => absurd e c) id⟩⟩
   refine evstep (fun k => by rw [slices_Index_int64_int64.l0]) (evpos (by omega) (evpos (by omega) (evpos (by omega) ?_)))
   rw [rd_nat, e1, w64 (by omega) (by omega)]
   exact evneg c hr
theorem contains_eq (xs : List Int) (a : Int) (hx : xs.length ≤ 1048576) : Ev (fun k => slices_Contains_int64_int64.f k xs a) (decide (a ∈ xs)) := by
 obtain ⟨r, hr, hi⟩ := index_loop xs a hx xs.length 0 (by omega)
 rw [List.drop_zero] at hi
 unfold slices_Contains_int64_int64.f slices_Index_int64_int64.f
 refine evbind hr (evc ?_)
 have : decide (r ≥ 0) = decide (a ∈ xs) := by rw [decide_eq_decide]; exact hi
 rw [this]
end Go.Proofs.Ythdoilfjcgickaa.Sl
end
section
namespace Go.Proofs.Ythdoilfjcgickaa.Er
open Go.RowKit Go.Proofs.YthdoilfjcgickaaW.PrintWords Go.Proofs.YthdoilfjcgickaaW.PrintMore Go.Proofs.Ythdoilfjcgickaa.Ma Go.Proofs.Ythdoilfjcgickaa.Pr Go.Proofs.Ythdoilfjcgickaa.Dt Go.Proofs.Ythdoilfjcgickaa.Bz Go.Proofs.Ythdoilfjcgickaa.Un Go.Proofs.Ythdoilfjcgickaa.Cz Go.Proofs.Ythdoilfjcgickaa.Pb Go.Proofs.Ythdoilfjcgickaa.Mn Go.Proofs.Ythdoilfjcgickaa.Sv Go.Proofs.Ythdoilfjcgickaa.Sl
def left_ : List Bool → Nat
 | [] => 0
 | b :: l => (if b then 0 else 1) + left_ l
theorem left_set : ∀ (m : List Bool) (i : Nat), i < m.length → m.getD i false = false → left_ (m.set i true) + 1 = left_ m
 | [], i, h, _ => by simp at h
 | b :: m, 0, _, h => by
  have : b = false := by simpa using h
  subst this
  simp [left_]
  omega
 | b :: m, i + 1, h, hb => by
  have := left_set m i (by simpa using h) (by simpa using hb)
  simp only [List.set_cons_succ, left_]
  omega
theorem left_rep (n : Nat) : left_ (List.replicate n false) = n := by
 induction n with
 | zero => rfl
 | succ n ih => rw [List.replicate_succ, left_, ih]; simp; omega
theorem rdOf_nat (m : List Bool) (i : Nat) : rdOf false m (i : Int) = m.getD i false := by simp [rdOf]
theorem by_nat {P : Nat → Int} {n : Nat} (hn : n ≤ 5) (r : Int) (c : ¬ (st P n).f < 0) : ∃ b : Nat, byR r (st P n) = (b : Int) ∧ b < 2 ^ n := by
 have v := st_inv P n
 generalize st P n = σ at v c
 obtain ⟨a, b, d, e, f, g⟩ := v.some_ c
 have p (x : Int) (h0 : 0 ≤ x) (h1 : x < n) : ∃ b : Nat, shl .i64 1 x = (b : Int) ∧ b < 2 ^ n := ⟨2 ^ x.toNat, shl_one h0 (by omega), Nat.pow_lt_pow_right (by decide) (by omega)⟩
 unfold byR
 rw [if_neg c]
 split
 ·exact p _ (by omega) a
 ·split
  ·exact p _ b d
  ·split
   ·exact p _ e f
   ·exact ⟨_, rfl, v.lt⟩
theorem pow32 {n : Nat} (hn : n ≤ 5) : 2 ^ n ≤ 32 := Nat.pow_le_pow_right (n := 2) (by decide) hn
theorem impl_pt {M : List (List Int)} {Q : List Int} (p : POK M Q) (s : Int) : Ev (fun k => impl_Problem_point.f k M Q s) (solR M.length (colM (bB s) (en M)) Q) := by
 have si := impl_solve p.mat.sq p.mat.n5 s Q (POK.small p) Q p.len p.len p.mat.n1
 unfold impl_Problem_point.f
 refine evbind si (evc ?_)
 rfl
theorem impl_by {M : List (List Int)} {Q : List Int} (p : POK M Q) (s r : Int) (hr : 0 ≤ r ∧ r ≤ 3) : Ev (fun k => impl_exchanged.f k ((List.range M.length).map fun i => sgn (det M.length (colM (bB s) (en M))) * dc M.length (colM (bB s) (en M)) Q i) r) (byR r (st (fun i => sgn (det M.length (colM (bB s) (en M))) * dc M.length (colM (bB s) (en M)) Q i) M.length)) := by
 have ie := impl_ex p.mat.n5 (fun i => sgn (det M.length (colM (bB s) (en M))) * dc M.length (colM (bB s) (en M)) Q i) r hr ((List.range M.length).map fun i => sgn (det M.length (colM (bB s) (en M))) * dc M.length (colM (bB s) (en M)) Q i) (by simp) (fun i hi => by simp [hi]) M.length 0 (by omega)
 unfold impl_exchanged.f
 rw [show (((List.range M.length).map fun i => sgn (det M.length (colM (bB s) (en M))) * dc M.length (colM (bB s) (en M)) Q i).length : Int) = (M.length : Int) from by simp]
 exact ie
theorem run_same {M : List (List Int)} {Q : List Int} (p : POK M Q) (r : Int) (hr : 0 ≤ r ∧ r ≤ 3) : ∀ c (met : List Bool) (v : Nat) (out : List Int), met.length = 2 ^ M.length → left_ met ≤ c → v < 2 ^ M.length → (∀ u : Nat, u < 2 ^ M.length → (met.getD u false = true ↔ (u : Int) ∈ out)) → out.length + c ≤ 64 →
  ∃ R : List Int × Int, (R.1.length ≤ 65 ∧ 0 ≤ R.2 ∧ R.2 ≤ 2) ∧ Ev (fun k => spec_l08Run.l0 k v r met out M Q) R ∧ Ev (fun k => impl_Problem_walk.l0 k v r out M Q) R := by
 have h32 := pow32 p.mat.n5
 intro c
 induction c with
 | zero =>
  intro met v out hm hc hv hin ho
  have ss := spec_step p.mat.sq p.mat.n5 (v : Int) Q (POK.small p) p.len r hr
  have si := impl_pt p (v : Int)
  unfold solR at si
  have hmet : met.getD v false = true := by
   cases hq : met.getD v false
   ·have := left_set met v (by omega) hq; omega
   ·rfl
  by_cases d : det M.length (colM (bB (v : Int)) (en M)) = 0
  ·rw [if_pos d] at ss si
   refine ⟨(out ++ [(v : Int)], 1), ⟨by simp; omega, by simp, by simp⟩, ?_, ?_⟩
   ·refine evstep (fun k => by rw [spec_l08Run.l0]) ?_
    refine evpos (by omega) ?_
    refine evsome rfl ?_
    refine evbind ss ?_
    exact evneg (by simp) (evc rfl)
   ·refine evstep (fun k => by rw [impl_Problem_walk.l0]) ?_
    refine evbind (contains_eq out v (by omega)) ?_
    refine evpos (by omega) ?_
    refine evsome rfl ?_
    refine evbind si ?_
    exact evneg (by simp) (evc rfl)
  ·rw [if_neg d] at ss si
   refine ⟨(out ++ [(v : Int)], 2), ⟨by simp; omega, by simp, by simp⟩, ?_, ?_⟩
   ·refine evstep (fun k => by rw [spec_l08Run.l0]) ?_
    refine evpos (by omega) ?_
    refine evsome rfl ?_
    refine evbind ss ?_
    rw [rdOf_nat]
    refine evpos (by split <;> rfl) (evpos (by omega) (evpos (by omega) (evpos hmet (evc rfl))))
   ·refine evstep (fun k => by rw [impl_Problem_walk.l0]) ?_
    refine evbind (contains_eq out v (by omega)) ?_
    refine evpos (by omega) ?_
    refine evsome rfl ?_
    refine evbind si ?_
    exact evpos rfl (evpos (by simpa using (hin v hv).1 hmet) (evc rfl))
 | succ c ih =>
  intro met v out hm hc hv hin ho
  have ss := spec_step p.mat.sq p.mat.n5 (v : Int) Q (POK.small p) p.len r hr
  have si := impl_pt p (v : Int)
  have sb := impl_by p (v : Int) r hr
  have bz := by_zero (P := fun i => sgn (det M.length (colM (bB (v : Int)) (en M))) * dc M.length (colM (bB (v : Int)) (en M)) Q i) p.mat.n5 r
  have bn := by_nat (P := fun i => sgn (det M.length (colM (bB (v : Int)) (en M))) * dc M.length (colM (bB (v : Int)) (en M)) Q i) p.mat.n5 r
  unfold solR at si
  by_cases d : det M.length (colM (bB (v : Int)) (en M)) = 0
  ·rw [if_pos d] at ss si
   refine ⟨(out ++ [(v : Int)], 1), ⟨by simp; omega, by simp, by simp⟩, ?_, ?_⟩
   ·refine evstep (fun k => by rw [spec_l08Run.l0]) ?_
    refine evpos (by omega) ?_
    refine evsome rfl ?_
    refine evbind ss ?_
    exact evneg (by simp) (evc rfl)
   ·refine evstep (fun k => by rw [impl_Problem_walk.l0]) ?_
    refine evbind (contains_eq out v (by omega)) ?_
    refine evpos (by omega) ?_
    refine evsome rfl ?_
    refine evbind si ?_
    exact evneg (by simp) (evc rfl)
  ·rw [if_neg d] at ss si
   cases hmet : met.getD v false with
   | true =>
    refine ⟨(out ++ [(v : Int)], 2), ⟨by simp; omega, by simp, by simp⟩, ?_, ?_⟩
    ·refine evstep (fun k => by rw [spec_l08Run.l0]) ?_
     refine evpos (by omega) ?_
     refine evsome rfl ?_
     refine evbind ss ?_
     rw [rdOf_nat]
     refine evpos (by split <;> rfl) (evpos (by omega) (evpos (by omega) (evpos hmet (evc rfl))))
    ·refine evstep (fun k => by rw [impl_Problem_walk.l0]) ?_
     refine evbind (contains_eq out v (by omega)) ?_
     refine evpos (by omega) ?_
     refine evsome rfl ?_
     refine evbind si ?_
     exact evpos rfl (evpos (by simpa using (hin v hv).1 hmet) (evc rfl))
   | false =>
    have hno : ¬ (v : Int) ∈ out := fun h => by rw [(hin v hv).2 h] at hmet; cases hmet
    by_cases z : (st (fun i => sgn (det M.length (colM (bB (v : Int)) (en M))) * dc M.length (colM (bB (v : Int)) (en M)) Q i) M.length).f < 0
    ·rw [if_pos z] at ss
     refine ⟨(out ++ [(v : Int)], 0), ⟨by simp; omega, by simp, by simp⟩, ?_, ?_⟩
     ·refine evstep (fun k => by rw [spec_l08Run.l0]) ?_
      refine evpos (by omega) ?_
      refine evsome rfl ?_
      refine evbind ss ?_
      rw [rdOf_nat]
      exact evpos rfl (evpos (by omega) (evpos (by omega) (evneg (by rw [hmet]; decide) (evneg (by simp) (evc rfl)))))
     ·refine evstep (fun k => by rw [impl_Problem_walk.l0]) ?_
      refine evbind (contains_eq out v (by omega)) ?_
      refine evpos (by omega) ?_
      refine evsome rfl ?_
      refine evbind si ?_
      exact evpos rfl (evneg (by simpa using hno) (evbind sb (evpos (bz.2 z) (evc rfl))))
    ·rw [if_neg z] at ss
     obtain ⟨b, hb, hb2⟩ := bn z
     rw [hb] at ss sb bz
     have hx : Go.bits .xor .i64 (v : Int) (b : Int) = ((v ^^^ b : Nat) : Int) := xor_nat (by omega) (by omega)
     rw [hx] at ss
     have hleft := left_set met v (by omega) hmet
     have hnew : ∀ x : Nat, x < 2 ^ M.length → ((met.set v true).getD x false = true ↔ (x : Int) ∈ out ++ [(v : Int)]) := by
      intro x hx
      by_cases e : x = v
      ·subst e
       simp [show x < met.length from by omega]
      ·have : (met.set v true).getD x false = met.getD x false := by simp [Ne.symm e]
       rw [this, hin x hx]
       simp
       omega
     obtain ⟨R, hR, r1, r2⟩ := ih (met.set v true) (v ^^^ b) (out ++ [(v : Int)]) (by simp; omega) (by omega) (Nat.xor_lt_two_pow hv hb2) hnew (by simp; omega)
     refine ⟨R, hR, ?_, ?_⟩
     ·refine evstep (fun k => by rw [spec_l08Run.l0]) ?_
      refine evpos (by omega) ?_
      refine evsome rfl ?_
      refine evbind ss ?_
      rw [rdOf_nat, Int.toNat_natCast]
      exact evpos rfl (evpos (by omega) (evpos (by omega) (evneg (by rw [hmet]; decide) (evpos rfl r1))))
     ·refine evstep (fun k => by rw [impl_Problem_walk.l0]) ?_
      refine evbind (contains_eq out v (by omega)) ?_
      refine evpos (by omega) ?_
      refine evsome rfl ?_
      refine evbind si ?_
      refine evpos rfl (evneg (by simpa using hno) (evbind sb (evneg (fun q => z (bz.1 q)) ?_)))
      rw [hx]
      exact r2
theorem runs {M : List (List Int)} {Q : List Int} (p : POK M Q) (r : Int) (hr : 0 ≤ r ∧ r ≤ 3) (s : Int) (hs : SetIn Q.length s) : ∃ R : List Int × Int, (R.1.length ≤ 65 ∧ 0 ≤ R.2 ∧ R.2 ≤ 2) ∧ Ev (fun k => spec_l08Run.f k M Q s r) R ∧ Ev (fun k => impl_Problem_walk.f k M Q s r) R := by
 have h32 := pow32 p.mat.n5
 have h5 := p.mat.n5
 have hl := p.len
 rw [hl] at hs
 obtain ⟨v, rfl⟩ := Int.eq_ofNat_of_zero_le hs.1
 have hv : v < 2 ^ M.length := by have := hs.2; omega
 obtain ⟨R, hR, r1, r2⟩ := run_same p r hr (2 ^ M.length) (List.replicate (2 ^ M.length) false) v [] (by simp) (by rw [left_rep]; exact Nat.le_refl _) hv (fun u hu => by simp [hu]) (by simp; omega)
 refine ⟨R, hR, ?_, ?_⟩
 ·unfold spec_l08Run.f
  rw [u64w (x := (Q.length : Int)) (by omega) (by omega), shl_one (by omega) (by omega), hl, Int.toNat_natCast, Int.toNat_natCast]
  exact evpos (by omega) (evpos (by omega) (evpos (by omega) r1))
 ·unfold impl_Problem_walk.f
  exact r2
end Go.Proofs.Ythdoilfjcgickaa.Er
end
section
namespace Go.Proofs.Ythdoilfjcgickaa.Er
open Go.RowKit Go.Proofs.YthdoilfjcgickaaW.PrintWords Go.Proofs.YthdoilfjcgickaaW.PrintMore Go.Proofs.Ythdoilfjcgickaa.Ma Go.Proofs.Ythdoilfjcgickaa.Pr Go.Proofs.Ythdoilfjcgickaa.Dt Go.Proofs.Ythdoilfjcgickaa.Bz Go.Proofs.Ythdoilfjcgickaa.Un Go.Proofs.Ythdoilfjcgickaa.Cz Go.Proofs.Ythdoilfjcgickaa.Pb Go.Proofs.Ythdoilfjcgickaa.Mn Go.Proofs.Ythdoilfjcgickaa.Sv
theorem code_zero {M : List (List Int)} {Q : List Int} {s r : Int} (c0 : codeR M Q s r = 0) : POK M Q ∧ SetIn Q.length s ∧ 0 ≤ r ∧ r ≤ 3 := by
 classical
 unfold codeR at c0
 by_cases p : POK M Q
 ·rw [if_pos p] at c0
  by_cases z : SetIn Q.length s ∧ 0 ≤ r ∧ r ≤ 3
  ·exact ⟨p, z⟩
  ·rw [if_neg z] at c0; omega
 ·rw [if_neg p] at c0; omega
theorem steps (M : List (List Int)) (Q : List Int) (r : Int) (hQ : Q.length ≤ 1048576) : ∃ R : Int × Int, Ev (fun k => spec_StepsByRule.f k M Q r) R ∧ Ev (fun k => impl_StepsByRule.f k M Q r) R := by
 have sc := spec_code M Q 0 r hQ
 have ic := impl_code M Q 0 r
 by_cases c0 : codeR M Q 0 r = 0
 ·obtain ⟨p, hs, hr⟩ := code_zero c0
  obtain ⟨R, hR, r1, r2⟩ := runs p r hr 0 hs
  by_cases z : R.2 = 0
  ·refine ⟨(wrap64 ((R.1.length : Int) - 1), 0), ?_, ?_⟩
   ·unfold spec_StepsByRule.f; exact evbind sc (evpos c0 (evbind r1 (evpos z (evc rfl))))
   ·unfold impl_StepsByRule.f; exact evsome ic (evpos c0 (evbind r2 (evpos z (evc rfl))))
  ·refine ⟨(0, 4), ?_, ?_⟩
   ·unfold spec_StepsByRule.f; exact evbind sc (evpos c0 (evbind r1 (evneg z (evc rfl))))
   ·unfold impl_StepsByRule.f; exact evsome ic (evpos c0 (evbind r2 (evneg z (evc rfl))))
 ·refine ⟨(0, codeR M Q 0 r), ?_, ?_⟩
  ·unfold spec_StepsByRule.f; exact evbind sc (evneg c0 (evc rfl))
  ·unfold impl_StepsByRule.f; exact evsome ic (evneg c0 (evc rfl))
theorem ends_loop {M : List (List Int)} {Q : List Int} (p : POK M Q) (r : Int) (hr : 0 ≤ r ∧ r ≤ 3) : ∀ q (i : Nat) (l : List Int), l.length = 3 → i + q = 2 ^ M.length →
  ∃ R : List Int × Int, R.1.length = 3 ∧ Ev (fun k => spec_CountEnds.l0 k r l i M Q) R ∧ Ev (fun k => impl_CountEnds.l0 k r l ((2 ^ M.length : Nat) : Int) i M Q) R := by
 have h32 := pow32 p.mat.n5
 have h5 := p.mat.n5
 have hl := p.len
 have sh : shl .i64 1 (IntKind.u64.wrap (Q.length : Int)) = ((2 ^ M.length : Nat) : Int) := by
  rw [u64w (x := (Q.length : Int)) (by omega) (by omega), shl_one (by omega) (by omega), hl, Int.toNat_natCast]
 have hu : IntKind.u64.wrap (Q.length : Int) = (Q.length : Int) := u64w (by omega) (by omega)
 intro q
 induction q with
 | zero =>
  intro i l hl3 hi
  refine ⟨(l, 0), hl3, ?_, ?_⟩
  ·refine evstep (fun k => by rw [spec_CountEnds.l0]) (evpos (by omega) (evneg (by rw [sh]; omega) (evc rfl)))
  ·exact evstep (fun k => by rw [impl_CountEnds.l0]) (evneg (by omega) (evc rfl))
 | succ q ih =>
  intro i l hl3 hi
  obtain ⟨R, hR, r1, r2⟩ := runs p r hr (i : Int) ⟨by omega, by rw [hl]; omega⟩
  obtain ⟨S, hS, s1, s2⟩ := ih (i + 1) (l.set R.2.toNat (wrap64 ((rd l R.2) + 1))) (by simpa using hl3) (by omega)
  refine ⟨S, hS, ?_, ?_⟩
  ·refine evstep (fun k => by rw [spec_CountEnds.l0]) ?_
   refine evpos (by omega) (evpos (by rw [sh]; omega) ?_)
   refine evbind r1 ?_
   refine evpos hR.2.1 ?_
   refine evpos (by have := hR.2.2; omega) ?_
   rw [w64 (x := (i : Int) + 1) (by omega) (by omega)]
   exact s1
  ·refine evstep (fun k => by rw [impl_CountEnds.l0]) ?_
   refine evpos (by omega) ?_
   refine evbind r2 ?_
   refine evpos hR.2.1 ?_
   refine evpos (by have := hR.2.2; omega) ?_
   rw [w64 (x := (i : Int) + 1) (by omega) (by omega)]
   exact s2
theorem ends (M : List (List Int)) (Q : List Int) (r : Int) (hQ : Q.length ≤ 1048576) : ∃ R : List Int × Int, Ev (fun k => spec_CountEnds.f k M Q r) R ∧ Ev (fun k => impl_CountEnds.f k M Q r) R ∧ R.1.length ≤ 65 := by
 have sc := spec_code M Q 0 r hQ
 have ic := impl_code M Q 0 r
 by_cases c0 : codeR M Q 0 r = 0
 ·obtain ⟨p, hs, hr⟩ := code_zero c0
  have h5 := p.mat.n5
  have hl := p.len
  obtain ⟨R, hR, r1, r2⟩ := ends_loop p r hr (2 ^ M.length) 0 (List.replicate 3 0) (by simp) (by omega)
  refine ⟨R, ?_, ?_, by omega⟩
  ·unfold spec_CountEnds.f; exact evbind sc (evpos c0 (evpos (by decide) r1))
  ·unfold impl_CountEnds.f impl_Problem_all.f
   refine evsome ic (evpos c0 (evpos (by decide) (evsome rfl ?_)))
   rw [shl_one (by omega) (by omega), hl, Int.toNat_natCast]
   exact r2
 ·refine ⟨([], codeR M Q 0 r), ?_, ?_, by simp⟩
  ·unfold spec_CountEnds.f; exact evbind sc (evneg c0 (evc rfl))
  ·unfold impl_CountEnds.f; exact evsome ic (evneg c0 (evc rfl))
end Go.Proofs.Ythdoilfjcgickaa.Er
end
section
namespace Go.Proofs.Ythdoilfjcgickaa.Pr
open Go.RowKit Go.Proofs.YthdoilfjcgickaaW.PrintWords Go.Proofs.YthdoilfjcgickaaW.PrintLast Go.Proofs.YthdoilfjcgickaaW.PrintMore
attribute [local go_sem] max2_int min2_int max_two min_two max_three min_three max_four min_four
def laws_heldInt64SS.l0 : Nat → List (List Int) → Int → Int → Option (Int)
 | 0, _, _, _ => none
 | k + 1, x0, x1, x5 => if x5 < (x0.length : Int) then (if 0 ≤ x5 then ((laws_heldInt64S.f k (rd_L1 x0 x5) x1).bind fun t150 => (if t150 < 0 then (some (-1)) else (laws_heldInt64SS.l0 k x0 t150 (wrap64 (x5 + 1))))) else (none)) else (some x1)
def laws_heldInt64SS.f (k : Nat) (l0 : List (List Int)) (a1 : Int) : Option (Int) := laws_heldInt64SS.l0 k l0 a1 0
theorem laws_heldInt64SS.mono_l : ∀ k, (∀ y0 y1 y2, LeO (laws_heldInt64SS.l0 k y0 y1 y2) (laws_heldInt64SS.l0 (k + 1) y0 y1 y2))
 | 0 => fun _ _ _ r h => by simp [laws_heldInt64SS.l0] at h
 | k + 1 => by
  have ih0 := laws_heldInt64SS.mono_l k
  ·intro y0 y1 y2
   unfold laws_heldInt64SS.l0
   repeat' first
   | (with_reducible exact ih0 _ _ _)
   | (with_reducible exact laws_heldInt64S.mono _ _ _)
   | (with_reducible exact LeO.refl _)
   | (with_reducible exact LeO.none _)
   | (with_reducible refine LeO.ite ?_ ?_)
   | (with_reducible refine LeO.bind ?_ (fun _ => ?_))
   | exact ih0 _ _ _
   | exact laws_heldInt64S.mono _ _ _
   | exact LeO.none _
   | refine LeO.ite ?_ ?_
   | refine LeO.bind ?_ (fun _ => ?_)
theorem laws_heldInt64SS.mono : ∀ a0 a1 k, LeO (laws_heldInt64SS.f k a0 a1) (laws_heldInt64SS.f (k + 1) a0 a1) := by
 intro a0 a1 k
 have ih0 := laws_heldInt64SS.mono_l k
 unfold laws_heldInt64SS.f
 repeat' first
   | (with_reducible exact ih0 _ _ _)
   | (with_reducible exact laws_heldInt64S.mono _ _ _)
   | (with_reducible exact LeO.refl _)
   | (with_reducible exact LeO.none _)
   | (with_reducible refine LeO.ite ?_ ?_)
   | (with_reducible refine LeO.bind ?_ (fun _ => ?_))
   | exact ih0 _ _ _
   | exact laws_heldInt64S.mono _ _ _
   | exact LeO.none _
   | refine LeO.ite ?_ ?_
   | refine LeO.bind ?_ (fun _ => ?_)
theorem laws_heldInt64SS.calls (k : Nat) (A0 : Option Addr) (c0 : Nat) (l0 : List (List Int)) (a1 : Int) (r : Int) (w : World) (hr0 : Kd.C (Kd.slice 2 (Kd.int .i64)) w A0 l0.length l0) (hc0 : l0.length ≤ c0) (h : laws_heldInt64SS.f k l0 a1 = some r) :
  Calls Try.prog 23 #[.slice A0 l0.length c0, .int .i64 a1] w fun e w' => e = .returned (.int .i64 r) ∧ Drawn0 w w' := by
 have HR0 := Aside0.mk hr0
 have HC0 := Aside0.mk hc0
 clear hr0 hc0
 have H : (laws_heldInt64SS.l0 k l0 a1 0) = some r := h
 clear h
 have H' := Aside0.mk H
 clear H
 go_enter Try.func23, Try.ntmps23
 go_wp2
 go_loopg [1, 5] k (fun kq v1 v5 w' => ∃ (x1_1 : Int) (x5_1 : Int), v1 = .int .i64 x1_1 ∧ v5 = .int .i64 x5_1 ∧ Aside0 (laws_heldInt64SS.l0 kq l0 x1_1 x5_1 = some r) ∧ Aside0 (kq ≤ k) ∧ Drawn0 w w')
 case atStart => exact ⟨(a1), (0), (by first | rfl | (simp; done) | (simp [*]; done)), (by first | rfl | (simp; done) | (simp [*]; done)), H', ⟨Nat.le_refl _⟩, by repeat (first | exact Drawn0.refl _ | apply Drawn0.step)⟩
 case round =>
  clear H'
  try clear c2
  try clear p2
  obtain ⟨x1_1, x5_1, rfl, rfl, HA, HK1, ⟨m1, rfl⟩⟩ := hrel
  cases gk with
  | zero => exact absurd HA.out (by simp [laws_heldInt64SS.l0])
  | succ k1 =>
   have H := HA.out
   clear HA
   simp only [laws_heldInt64SS.l0] at H
   by_cases c3 : x5_1 < (l0.length : Int)
   ·rw [if_pos c3] at H
    have c3b0 : decide (x5_1 < (l0.length : Int)) = true := decide_eq_true c3
    clear c3
    by_cases c4 : 0 ≤ x5_1
    ·rw [if_pos c4] at H
     have c4b0 : decide (0 ≤ x5_1) = true := decide_eq_true c4
     clear c4
     replace H := Option.bind_eq_some_iff.mp H
     obtain ⟨t150, A50, H⟩ := H
     replace H : (if t150 < 0 then (some (-1)) else (laws_heldInt64SS.l0 k1 l0 t150 (wrap64 (x5_1 + 1)))) = some r := H
     have A5 := Aside0.mk A50
     clear A50
     by_cases c6 : t150 < 0
     ·rw [if_pos c6] at H
      have c6b0 : decide (t150 < 0) = true := decide_eq_true c6
      clear c6
      obtain rfl := Option.some.inj H
      have p149 : 0 ≤ (x5_1 : Int) := of_decide_eq_true (by first | (with_reducible assumption) | assumption)
      have q149 : x5_1 < (l0.length : Int) := of_decide_eq_true (by first | (with_reducible assumption) | assumption)
      obtain ⟨ad149, A149_0, c149_0, e149, hx149_0, hl149_0, hi149_0⟩ := at_L1 HR0.out x5_1 p149 q149
      cases e149
      have HR149_0 := Aside0.mk hi149_0
      have HC149_0 := Aside0.mk hl149_0
      clear hi149_0 hl149_0
      replace p149 := eq_true p149
      replace q149 := eq_true q149
      go_wp2_with (first | ((with_reducible refine gate_callee (f := 37) rfl ?_); refine goesL_ (some 17) rfl rfl Try.func37 (by kernel_rfl) rfl #[.slice A149_0 (rd_L1 l0 x5_1).length c149_0, .int .i64 x1_1] rfl (by (try simp only [List.map_toArray, List.map_cons, List.map_nil]); first | done | rfl | (simp only [List.length_drop, List.length_take]; rfl)) ?_; (with_reducible refine (laws_heldInt64S.calls k1 _ _ (rd_L1 l0 x5_1) x1_1 t150 _ ?side1 ?side2 A5.out).mono ?_); (case side1 => repeat (first | exact HR149_0.out | (with_reducible refine Kd.C_alloc ?_ _) | (with_reducible refine Kd.C_drewN ?_ _) | (with_reducible refine Kd.C_drew ?_))); (case side2 => exact HC149_0.out); rintro e w' ⟨rfl, ⟨nd, rfl⟩⟩; refine ⟨_, rfl, ?_⟩))
      go_ret
      exact ⟨by first | rfl | (simp; done) | (simp [*]; done), by repeat (first | exact Drawn0.refl _ | apply Drawn0.step)⟩
     ·rw [if_neg c6] at H
      have c6b0 : decide (t150 < 0) = false := decide_eq_false c6
      clear c6
      have H' := Aside0.mk H
      clear H
      have p149 : 0 ≤ (x5_1 : Int) := of_decide_eq_true (by first | (with_reducible assumption) | assumption)
      have q149 : x5_1 < (l0.length : Int) := of_decide_eq_true (by first | (with_reducible assumption) | assumption)
      obtain ⟨ad149, A149_0, c149_0, e149, hx149_0, hl149_0, hi149_0⟩ := at_L1 HR0.out x5_1 p149 q149
      cases e149
      have HR149_0 := Aside0.mk hi149_0
      have HC149_0 := Aside0.mk hl149_0
      clear hi149_0 hl149_0
      replace p149 := eq_true p149
      replace q149 := eq_true q149
      go_wp2_with (first | ((with_reducible refine gate_callee (f := 37) rfl ?_); refine goesL_ (some 17) rfl rfl Try.func37 (by kernel_rfl) rfl #[.slice A149_0 (rd_L1 l0 x5_1).length c149_0, .int .i64 x1_1] rfl (by (try simp only [List.map_toArray, List.map_cons, List.map_nil]); first | done | rfl | (simp only [List.length_drop, List.length_take]; rfl)) ?_; (with_reducible refine (laws_heldInt64S.calls k1 _ _ (rd_L1 l0 x5_1) x1_1 t150 _ ?side1 ?side2 A5.out).mono ?_); (case side1 => repeat (first | exact HR149_0.out | (with_reducible refine Kd.C_alloc ?_ _) | (with_reducible refine Kd.C_drewN ?_ _) | (with_reducible refine Kd.C_drew ?_))); (case side2 => exact HC149_0.out); rintro e w' ⟨rfl, ⟨nd, rfl⟩⟩; refine ⟨_, rfl, ?_⟩))
      go_roundg k1
      case measure => have := HK1.out; omega
      case rel => exact ⟨(t150), (wrap64 (x5_1 + 1)), (by first | rfl | (simp; done) | (simp [*]; done)), (by first | rfl | (simp; done) | (simp [*]; done)), H', ⟨by have := HK1.out; omega⟩, by repeat (first | exact Drawn0.refl _ | apply Drawn0.step)⟩
    ·rw [if_neg c4] at H
     exact absurd H (by simp)
   ·rw [if_neg c3] at H
    have c3b0 : decide (x5_1 < (l0.length : Int)) = false := decide_eq_false c3
    clear c3
    obtain rfl := Option.some.inj H
    go_wp2
    go_ret
    exact ⟨by first | rfl | (simp; done) | (simp [*]; done), by repeat (first | exact Drawn0.refl _ | apply Drawn0.step)⟩
end Go.Proofs.Ythdoilfjcgickaa.Pr
end
section
namespace Go.Proofs.Ythdoilfjcgickaa.La
open Go.RowKit Go.Proofs.YthdoilfjcgickaaW.PrintWords Go.Proofs.YthdoilfjcgickaaW.PrintMore Go.Proofs.Ythdoilfjcgickaa.Ma Go.Proofs.Ythdoilfjcgickaa.Pr Go.Proofs.Ythdoilfjcgickaa.Hm
end Go.Proofs.Ythdoilfjcgickaa.La
end
section
namespace Go.Proofs.Ythdoilfjcgickaa.La
open Go.RowKit Go.Proofs.YthdoilfjcgickaaW.PrintWords Go.Proofs.YthdoilfjcgickaaW.PrintMore Go.Proofs.Ythdoilfjcgickaa.Ma Go.Proofs.Ythdoilfjcgickaa.Pr Go.Proofs.Ythdoilfjcgickaa.Hm Go.Proofs.Ythdoilfjcgickaa.Op
theorem szP2 {M : List (List Int)} {Q : List Int} (ga : GoodList (GoodList (GoodInt .i64)) M) (gb : GoodList (GoodInt .i64) Q) :
  ∃ t : Int, Ev (fun k => laws_szProblem.f k M Q 1048576) t ∧ t ≤ 1048576 ∧ (0 ≤ t → tot M ≤ 1048576 ∧ Q.length ≤ 1048576) := by
 have h1 := szSS M ga (n := 1048576) (by decide) (by decide)
 by_cases c : (1048576 : Int) < (tot M : Int)
 ·rw [if_pos c] at h1
  exact ⟨-1, by unfold laws_szProblem.f; exact evbind h1 (evpos (by decide) (evc rfl)), by decide, fun h => by omega⟩
 ·rw [if_neg c] at h1
  have h2 := sz_eq (l := Q) (n := 1048576 - (tot M : Int)) (by omega) (by omega) gb.1
  by_cases c2 : (1048576 : Int) - (tot M : Int) < (Q.length : Int)
  ·rw [if_pos c2] at h2
   exact ⟨-1, by unfold laws_szProblem.f; exact evbind h1 (evneg (by omega) (evsome h2 (evpos (by decide) (evc rfl)))), by decide, fun h => by omega⟩
  ·rw [if_neg c2] at h2
   exact ⟨_, by unfold laws_szProblem.f; exact evbind h1 (evneg (by omega) (evsome h2 (evneg (by omega) (evc rfl)))), by omega, fun _ => ⟨by omega, by omega⟩⟩
theorem fit_lensP {l : List (List Int)} (h : tot l ≤ 1048576) : lens l ≤ 1048576 := by unfold tot at h; omega
theorem toP {M : List (List Int)} {Q : List Int} (hM : Fit M) (hQ : Q.length ≤ 1048576) : Ev (fun k => laws_toProblem.f k M Q) (M, Q) := by
 unfold laws_toProblem.f
 exact evbind (fit_to hM) (evbind (toI Q hQ) (evc rfl))
theorem eqPr {M : List (List Int)} {Q : List Int} (hM : Fit M) (hQ : Q.length ≤ 1152921504606846976) : Ev (fun k => laws_eqProblem.f k M Q M Q) true := by
 unfold laws_eqProblem.f
 exact evbind (fit_eq hM) (evpos rfl (evbind (eqI_same Q hQ) (evpos rfl (evc rfl))))
end Go.Proofs.Ythdoilfjcgickaa.La
end
section
namespace Go.Proofs.Ythdoilfjcgickaa.Pure
open Go.RowKit Go.Proofs.YthdoilfjcgickaaW.PrintWords Go.Proofs.YthdoilfjcgickaaW.PrintMore Go.Proofs.Ythdoilfjcgickaa.Ma Go.Proofs.Ythdoilfjcgickaa.Pr Go.Proofs.Ythdoilfjcgickaa.La Go.Proofs.Ythdoilfjcgickaa.Op
theorem FnExactCountEnds : Say.FnExactCountEnds := by
 intro M q r ga gb gr
 obtain ⟨t, ⟨k0, ht⟩, ht1, hf⟩ := szP2 ga gb
 by_cases c0 : t < 0
 ·refine ⟨k0, ?_⟩
  unfold laws_FnExactCountEnds.f
  rw [if_pos]
  exact .inr ⟨t, ht _ (Nat.le_refl _), c0⟩
 ·obtain ⟨ta, tb⟩ := hf (by omega)
  have fa := fit_of ta
  have fl := fit_lensP ta
  have al := fa.len
  obtain ⟨R, ⟨k1, e1⟩, ⟨k2, e2⟩, hR⟩ := Er.ends M q r tb
  obtain ⟨k3, e3⟩ := toP fa tb
  obtain ⟨k5, e5⟩ := eqI_same R.1 (by omega)
  obtain ⟨k6, e6⟩ := eqPr (Q := q) fa (by omega)
  obtain ⟨k8, e8⟩ := heldI 1 R.1.length (by omega) (by decide) (by decide)
  refine ⟨k0 + k1 + k2 + k3 + k5 + k6 + k8, ?_⟩
  unfold laws_FnExactCountEnds.f
  rw [if_pos]
  exact .inl ⟨t, R.1, R.2, _, _, ht _ (by omega), c0, e3 _ (by omega), e1 _ (by omega), e2 _ (by omega), e5 _ (by omega), e6 _ (by omega), rfl, by omega, by omega, by omega, rfl, by omega, by omega, e8 _ (by omega)⟩
end Go.Proofs.Ythdoilfjcgickaa.Pure
end
section
namespace Go.Proofs.Ythdoilfjcgickaa.fnExactCountEnds
open Go.ChangeShapes Go.WideShapes Go.ChangeAt Go.RowKit Go.Proofs.Ythdoilfjcgickaa.Op Go.Proofs.YthdoilfjcgickaaW.PrintWords
theorem own : ownKnob Try.prog.godebug = none := by kernel_rfl
theorem laidOut : laidOutB Try.prog = true := by kernel_rfl
theorem lifted (os : Os) (started : os.Started) (H : Type) (enc : TypeId × Value → H) :
  ReturnsInHanded {} Try.checked os 8 .any (Rows.fnExactCountEndsSpec.pre6 enc Try.prog Try.f8 Rows.fnExactCountEndsRow.domain false) (Rows.fnExactCountEndsSpec.post enc Try.prog Try.f8 false true false false) := by
 refine returnsInHanded_of_change_sized (C := Try.checked) own started (by kernel_rfl) Try.func8
  (ChangeSpec.witness6 (enc := enc) (C := Try.checked) false ⟨#[], #[.agg #[.slice none 0 0, .slice none 0 0], .int .i64 0], []⟩ 8 (by kernel_rfl) (by kernel_rfl) (by kernel_rfl) (by kernel_rfl)) ?_
 intro W base args ds gs before hval0 hW hcnd hsz0 _
 have hval : ∀ (j : Nat) t v, Try.f8.params[j]? = some t → args[j]? = some v → Value.okWide Try.prog W .any base t v := hval0
 have hW' := hW
 obtain ⟨p, q, hA0, hV, rfl, hfz, hnd⟩ := hW
 have hA : DataW.TrodAll enc Try.prog W 0 (fun _ => true) true Try.f8.params.toList args.toList ds p := hA0
 rw [Try.params8] at hA hval
 obtain ⟨v0, vs0, d0, ds0, p0, q0, hargs, rfl, rfl, h0, r0⟩ := trodAll_cons hA
 obtain ⟨v1, vs1, d1, ds1, p1, q1, rfl, rfl, rfl, h1, r1⟩ := trodAll_cons r0
 obtain ⟨rfl, rfl, rfl⟩ := trodAll_nil r1
 obtain rfl : args = #[v0, v1] := by cases args; simp_all
 obtain ⟨rfl, rfl⟩ := trodVars_none hV
 have k0 := h0
 have lt0 := trod_blocks k0
 obtain ⟨⟨x0_0, x0_1⟩, cs0, rfl, hk0, g0⟩ := arg_struct Try.underlying25 (opens_struct2 Try.underlying25 ⟨by kernel_rfl, by kernel_rfl⟩ ⟨by kernel_rfl, by kernel_rfl⟩ (by kernel_rfl) (opens_slice Try.underlying22 (by kernel_rfl) (opens_slice Try.underlying23 (by kernel_rfl) (opens_int Try.underlying2))) (opens_slice Try.underlying23 (by kernel_rfl) (opens_int Try.underlying2)) id (Kd.pair (Kd.slice 23 (Kd.slice 2 (Kd.int .i64))) (Kd.slice 2 (Kd.int .i64))) (fun _ _ _ h => h) (fun x => (GoodList (GoodList (GoodInt .i64))) x.1 ∧ (GoodList (GoodInt .i64)) x.2) (fun _ h0 h1 => ⟨h0, h1⟩)) (hval 0 25 v0 rfl rfl) h0
 obtain ⟨A0_0, c0_0, A0_1, c0_1, rfl, q0_0, r0_0, q0_1, r0_1⟩ := cells_slice_slice hk0
 have k1 := h1
 have lt1 := trod_blocks k1
 obtain ⟨a1, rfl, rfl, rfl, g1⟩ := open_int Try.underlying2 (hval 1 2 v1 rfl rfl) h1
 obtain ⟨k, h⟩ := Pure.FnExactCountEnds x0_0 x0_1 a1 g0.1 g0.2 g1
 clear hA0 hval0 hsz0
 refine (Pr.laws_FnExactCountEnds.calls k A0_0 c0_0 x0_0 A0_1 c0_1 x0_1 a1 true W r0_0 q0_0 r0_1 q0_1 h).mono ?_
 rintro e W' ⟨rfl, bel0⟩
 have bel : Below W.heap.size W W' := by first | exact bel0 | exact bel0.below
 exact ⟨_, rfl, _, _, _, [], _, [], hW', trodAll_mk1 (shut_bool Try.underlying4 _), (trodAll_cons_mk (Below.trod laidOut (by kernel_rfl) (of_decide_eq_true (by kernel_rfl)) k0 bel lt0) (trodAll_cons_mk (Below.trod laidOut (by kernel_rfl) (of_decide_eq_true (by kernel_rfl)) k1 bel lt1) trodAll_mk0)), rfl, bel.frame _, fun h => by cases h⟩
theorem over : Rows.fnExactCountEndsRow.holds Try.pinned (OpenSpec.ofChange Rows.fnExactCountEndsSpec) :=
 OpenClaim.holds_of_wide 8 Try.f8 rfl rfl rfl rfl rfl rfl rfl ⟨rfl, rfl, rfl, rfl, rfl⟩ rfl rfl rfl rfl rfl (by kernel_rfl) Try.func8 (by kernel_rfl)
  (of_decide_eq_true (by kernel_rfl)) (by unfold Func.isWrapper; first | (rw [if_pos (by decide +kernel)]; kernel_rfl) | (rw [if_neg (by decide +kernel)]; exact ⟨rfl, rfl⟩))
  (fun os started H enc _ => lifted os started H enc)
theorem proved : Rows.FnExactCountEndsSaid := over
#print axioms proved
end Go.Proofs.Ythdoilfjcgickaa.fnExactCountEnds
namespace Go.Proofs.Ythdoilfjcgickaa
theorem fnExactCountEnds_holds : Rows.FnExactCountEndsSaid := fnExactCountEnds.proved
end Go.Proofs.Ythdoilfjcgickaa
end
