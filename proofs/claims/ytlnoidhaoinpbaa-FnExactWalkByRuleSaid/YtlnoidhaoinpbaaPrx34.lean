/- The plain functions of this seat, each with the proof that the call of the Go function comes to just its answer. Conditions: as each theorem says. Written by this session's own program over the print of the kit. -/
import Derived.Test.YtlnoidhaoinpbaaPrx0
import Derived.Test.YtlnoidhaoinpbaaPrx6
import Derived.Test.YtlnoidhaoinpbaaPrx22
import Derived.Test.YtlnoidhaoinpbaaPrx33
namespace Go.Proofs.Ytlnoidhaoinpbaa.Pr
open Go.RowKit Go.Proofs.YtlnoidhaoinpbaaW.PrintWords Go.Proofs.YtlnoidhaoinpbaaW.PrintLast Go.Proofs.YtlnoidhaoinpbaaW.PrintMore
attribute [local go_sem] max2_int min2_int max_two min_two max_three min_three max_four min_four   -- for this text's walks alone
set_option linter.unusedVariables false
set_option linter.unusedSimpArgs false

/-! ### spec_WalkByRule: function 47 -/
mutual
def spec_WalkByRule.j0 : Nat → Int → Int → Int → Bool → Int → List Int → Option (List Int × Int)
  | 0, _, _, _, _, _, _ => none
  | k + 1, x1, x2, x8, x21, x606000, x606001 => if x21 = true then (spec_WalkByRule.j1 k x1 x2 2 x606000 x606001) else (spec_WalkByRule.j1 k x1 x2 x8 x606000 x606001)
def spec_WalkByRule.j1 : Nat → Int → Int → Int → Int → List Int → Option (List Int × Int)
  | 0, _, _, _, _, _ => none
  | k + 1, x1, x2, x8, x606000, x606001 => if x8 = 0 then (if 0 ≤ (x606001.length : Int) then (if ((x606001.length : Int) : Int).toNat ≤ 281474976710656 then ((some (List.replicate ((x606001.length : Int) : Int).toNat false : List Bool)).bind fun y611 => (if 0 ≤ x1 then (if x1 < (y611.length : Int) then (spec_WalkByRule.l0 k x1 x2 (y611.set (x1 : Int).toNat true) (([x1] : List Int)) x606000 x606001) else (none)) else (none))) else (none)) else (none)) else (some (([] : List Int), x8))
def spec_WalkByRule.l0 : Nat → Int → Int → List Bool → List Int → Int → List Int → Option (List Int × Int)
  | 0, _, _, _, _, _, _ => none
  | k + 1, x1, x2, x9, x10, x606000, x606001 => if 0 ≤ x1 then (if x1 < (x606001.length : Int) then (if (rd x606001 x1) = 0 then (some (x10, 0)) else ((spec_l06Next.f k x606000 x606001 x1 x2).bind fun t619 => (if x10.length < 17592186044416 then ((some (x10 ++ [t619] : List Int)).bind fun y620 => (if 0 ≤ t619 then (if t619 < (x9.length : Int) then (if rdOf false x9 t619 = true then (some (y620, 0)) else (spec_WalkByRule.l0 k t619 x2 (x9.set (t619 : Int).toNat true) y620 x606000 x606001)) else (none)) else (none))) else (none)))) else (none)) else (none)
end
def spec_WalkByRule.f (k : Nat) (a0_0 : Int) (l0_1 : List Int) (a1 : Int) (a2 : Int) : Option (List Int × Int) := (spec_l06Code.f k a0_0 l0_1 (([a1] : List Int))).bind fun t609 => (if t609 = 0 then ((spec_l01In.f a2 0 2).bind fun t610 => (spec_WalkByRule.j0 k a1 a2 t609 (!t610) a0_0 l0_1)) else (spec_WalkByRule.j0 k a1 a2 t609 false a0_0 l0_1))
theorem spec_WalkByRule.mono_l : ∀ k, (∀ y0 y1 y2 y3 y4 y5, LeO (spec_WalkByRule.j0 k y0 y1 y2 y3 y4 y5) (spec_WalkByRule.j0 (k + 1) y0 y1 y2 y3 y4 y5)) ∧ (∀ y0 y1 y2 y3 y4, LeO (spec_WalkByRule.j1 k y0 y1 y2 y3 y4) (spec_WalkByRule.j1 (k + 1) y0 y1 y2 y3 y4)) ∧ (∀ y0 y1 y2 y3 y4 y5, LeO (spec_WalkByRule.l0 k y0 y1 y2 y3 y4 y5) (spec_WalkByRule.l0 (k + 1) y0 y1 y2 y3 y4 y5))
  | 0 => ⟨fun _ _ _ _ _ _ r h => by simp [spec_WalkByRule.j0] at h, fun _ _ _ _ _ r h => by simp [spec_WalkByRule.j1] at h, fun _ _ _ _ _ _ r h => by simp [spec_WalkByRule.l0] at h⟩
  | k + 1 => by
    obtain ⟨ih0, ih1, ih2⟩ := spec_WalkByRule.mono_l k
    refine ⟨?_, ?_, ?_⟩
    · intro y0 y1 y2 y3 y4 y5
      unfold spec_WalkByRule.j0
      repeat' first
      | (with_reducible exact ih0 _ _ _ _ _ _)
      | (with_reducible exact ih1 _ _ _ _ _)
      | (with_reducible exact ih2 _ _ _ _ _ _)
      | (with_reducible exact spec_l06Code.mono _ _ _ _)
      | (with_reducible exact spec_l06Next.mono _ _ _ _ _)
      | (with_reducible exact LeO.refl _)
      | (with_reducible exact LeO.none _)
      | (with_reducible refine LeO.ite ?_ ?_)
      | (with_reducible refine LeO.bind ?_ (fun _ => ?_))
      | exact ih0 _ _ _ _ _ _
      | exact ih1 _ _ _ _ _
      | exact ih2 _ _ _ _ _ _
      | exact spec_l06Code.mono _ _ _ _
      | exact spec_l06Next.mono _ _ _ _ _
      | exact LeO.none _
      | refine LeO.ite ?_ ?_
      | refine LeO.bind ?_ (fun _ => ?_)
    · intro y0 y1 y2 y3 y4
      unfold spec_WalkByRule.j1
      repeat' first
      | (with_reducible exact ih0 _ _ _ _ _ _)
      | (with_reducible exact ih1 _ _ _ _ _)
      | (with_reducible exact ih2 _ _ _ _ _ _)
      | (with_reducible exact spec_l06Code.mono _ _ _ _)
      | (with_reducible exact spec_l06Next.mono _ _ _ _ _)
      | (with_reducible exact LeO.refl _)
      | (with_reducible exact LeO.none _)
      | (with_reducible refine LeO.ite ?_ ?_)
      | (with_reducible refine LeO.bind ?_ (fun _ => ?_))
      | exact ih0 _ _ _ _ _ _
      | exact ih1 _ _ _ _ _
      | exact ih2 _ _ _ _ _ _
      | exact spec_l06Code.mono _ _ _ _
      | exact spec_l06Next.mono _ _ _ _ _
      | exact LeO.none _
      | refine LeO.ite ?_ ?_
      | refine LeO.bind ?_ (fun _ => ?_)
    · intro y0 y1 y2 y3 y4 y5
      unfold spec_WalkByRule.l0
      repeat' first
      | (with_reducible exact ih0 _ _ _ _ _ _)
      | (with_reducible exact ih1 _ _ _ _ _)
      | (with_reducible exact ih2 _ _ _ _ _ _)
      | (with_reducible exact spec_l06Code.mono _ _ _ _)
      | (with_reducible exact spec_l06Next.mono _ _ _ _ _)
      | (with_reducible exact LeO.refl _)
      | (with_reducible exact LeO.none _)
      | (with_reducible refine LeO.ite ?_ ?_)
      | (with_reducible refine LeO.bind ?_ (fun _ => ?_))
      | exact ih0 _ _ _ _ _ _
      | exact ih1 _ _ _ _ _
      | exact ih2 _ _ _ _ _ _
      | exact spec_l06Code.mono _ _ _ _
      | exact spec_l06Next.mono _ _ _ _ _
      | exact LeO.none _
      | refine LeO.ite ?_ ?_
      | refine LeO.bind ?_ (fun _ => ?_)
theorem spec_WalkByRule.mono : ∀ a0 a1 a2 a3 k, LeO (spec_WalkByRule.f k a0 a1 a2 a3) (spec_WalkByRule.f (k + 1) a0 a1 a2 a3) := by
  intro a0 a1 a2 a3 k
  obtain ⟨ih0, ih1, ih2⟩ := spec_WalkByRule.mono_l k
  unfold spec_WalkByRule.f
  repeat' first
      | (with_reducible exact ih0 _ _ _ _ _ _)
      | (with_reducible exact ih1 _ _ _ _ _)
      | (with_reducible exact ih2 _ _ _ _ _ _)
      | (with_reducible exact spec_l06Code.mono _ _ _ _)
      | (with_reducible exact spec_l06Next.mono _ _ _ _ _)
      | (with_reducible exact LeO.refl _)
      | (with_reducible exact LeO.none _)
      | (with_reducible refine LeO.ite ?_ ?_)
      | (with_reducible refine LeO.bind ?_ (fun _ => ?_))
      | exact ih0 _ _ _ _ _ _
      | exact ih1 _ _ _ _ _
      | exact ih2 _ _ _ _ _ _
      | exact spec_l06Code.mono _ _ _ _
      | exact spec_l06Next.mono _ _ _ _ _
      | exact LeO.none _
      | refine LeO.ite ?_ ?_
      | refine LeO.bind ?_ (fun _ => ?_)
set_option maxHeartbeats 8000000 in
set_option maxRecDepth 100000 in
theorem spec_WalkByRule.calls (k : Nat) (a0_0 : Int) (A0_1 : Option Addr) (c0_1 : Nat) (l0_1 : List Int) (a1 : Int) (a2 : Int) (r1 : List Int) (r2 : Int) (w : World) (hr0_1 : Kd.C (Kd.int .i64) w A0_1 l0_1.length l0_1) (hc0_1 : l0_1.length ≤ c0_1) (h : spec_WalkByRule.f k a0_0 l0_1 a1 a2 = some (r1, r2)) :
    Calls Try.prog 47 #[.agg #[.int .i64 a0_0, .slice A0_1 l0_1.length c0_1], .int .i64 a1, .int .i64 a2] w fun e w' => ∃ v0_ : Value, e = .returned (.tuple #[v0_, .int .i64 r2]) ∧ Kd.R (Kd.int .i64) 2 w' w.heap.size (fun _ => True) v0_ r1 ∧ Below w.heap.size w w' := by
  have hu27 := Try.underlying27
  have HR0_1 := Aside0.mk hr0_1
  have HC0_1 := Aside0.mk hc0_1
  clear hr0_1 hc0_1
  have HB := Aside0.mk (Below.refl w.heap.size w)
  have H : ((spec_l06Code.f k a0_0 l0_1 (([a1] : List Int))).bind fun t609 => (if t609 = 0 then ((spec_l01In.f a2 0 2).bind fun t610 => (spec_WalkByRule.j0 k a1 a2 t609 (!t610) a0_0 l0_1)) else (spec_WalkByRule.j0 k a1 a2 t609 false a0_0 l0_1))) = some (r1, r2) := h
  clear h
  obtain ⟨y606, hy606⟩ : ∃ y_ : List Int, y_ = (([a1] : List Int)) := ⟨_, rfl⟩
  replace H : ((spec_l06Code.f k a0_0 l0_1 y606).bind fun t609 => (if t609 = 0 then ((spec_l01In.f a2 0 2).bind fun t610 => (spec_WalkByRule.j0 k a1 a2 t609 (!t610) a0_0 l0_1)) else (spec_WalkByRule.j0 k a1 a2 t609 false a0_0 l0_1))) = some (r1, r2) := by first | (rw [hy606]; with_reducible exact H) | (have H2_ := (Option.bind_some _ _).symm.trans H; rw [hy606]; with_reducible exact H2_) | (have H2_ := (Option.bind_some _ _).symm.trans H; with_reducible exact H2_) | with_reducible exact H | (rw [hy606]; exact H) | exact H
  have Ny606 := Aside0.mk hy606
  clear hy606
  replace H := Option.bind_eq_some_iff.mp H
  obtain ⟨t609, A40, H⟩ := H
  replace H : (if t609 = 0 then ((spec_l01In.f a2 0 2).bind fun t610 => (spec_WalkByRule.j0 k a1 a2 t609 (!t610) a0_0 l0_1)) else (spec_WalkByRule.j0 k a1 a2 t609 false a0_0 l0_1)) = some (r1, r2) := H
  have A4 := Aside0.mk A40
  clear A40
  have HC5 := Aside0.mk H
  clear H
  go_enter Try.func47, Try.ntmps47
  go_upto_region 2 with (first | ((with_reducible refine gate_dst (N := 3) rfl ?_); refine box_event ?hg (N := 3) ?hd (cs := #[.int .i64 a0_0, .slice A0_1 l0_1.length c0_1]) (t := 27) ?hr ?_; (case hd => rfl); (case hg => rfl); (case hr => first | (go_simp; done) | (go_simp; rfl)); intro gb605 hg w6 hbox hb; have n0_ := Aside0.mk (below_step (by repeat (first | (with_reducible first | exact HB.out | apply below_alloc | apply pw_below_drewN | apply below_drew1) | exact HB.out)) hb); have n1_ := Aside0.mk (hbox); have n2_ := Aside0.mk ((by rw [hg]; exact (below_size (by repeat (first | (with_reducible first | exact HB.out | apply below_alloc | apply pw_below_drewN | apply below_drew1) | exact HB.out))) : w.heap.size ≤ gb605)); have n3_ := Aside0.mk ((by rw [hg]; exact (below_size (by repeat (first | (with_reducible first | exact HB.out | apply below_alloc | apply pw_below_drewN | apply below_drew1) | exact HB.out))) : w.heap.size ≤ gb605)); clear HB; have HB := n0_; have BK605 := n1_; have GW605 := n2_; have GE605 := n3_; clear n0_ n1_ n2_ n3_; clear hb hbox hg; have hcz7_0 : w6.cell? ⟨gb605, 0, none⟩ = some (.int .i64 a0_0) := (blk_cell BK605.out 0).trans rfl; have hcz7_1 : w6.cell? ⟨gb605, 1, none⟩ = some (.slice A0_1 l0_1.length c0_1) := (blk_cell BK605.out 1).trans rfl; have hfz7_0 := blk_frozen BK605.out 0; have hfz7_1 := blk_frozen BK605.out 1) | ((with_reducible refine gate_dst (N := 13) rfl ?_); refine Kd.R_lit (Kd.int .i64) _ 2 ?hg (N := 13) ?hd (xs := ([a1] : List Int)) (inner := [.int .i64 a1]) (ok := fun _ => True) (okp := fun _ => True) ?hr ?hp (fun _ hk => hk) trivial (Below.refl _ _) (Nat.le_refl _) (by simp) ?_; (case hd => rfl); (case hg => rfl); (case hr => first | (go_simp; done) | (go_simp; rfl)); (case hp => exact (Reps.one (show Kd.M (Kd.int .i64) _ _ _ a1 [.int .i64 a1] from rfl) (Reps.none _ _))); intro v607 w8 ho9 hb hg_ hnew_; clear hg_ hnew_; (first | rw [← Ny606.out] at ho9 | (simp only [Int.reduceToNat] at ho9; rw [← Ny606.out] at ho9)); have n0_ := Aside0.mk (Kd.R_lower ho9 (below_size (by repeat (first | (with_reducible first | exact HB.out | apply below_alloc | apply pw_below_drewN | apply below_drew1 | refine below_set ?_ GE605.out) | exact HB.out)))); have n1_ := Aside0.mk (blk_below (g := gb605) (o := .cells #[.int .i64 a0_0, .slice A0_1 l0_1.length c0_1] 27 (0, 0)) (by (with_reducible repeat (first | refine blk_drewN ?_ _ | refine blk_drew ?_ | refine blk_alloc ?_ _)); exact BK605.out) hb); have n2_ := Aside0.mk (below_step (by repeat (first | (with_reducible first | exact HB.out | apply below_alloc | apply pw_below_drewN | apply below_drew1 | refine below_set ?_ GE605.out) | exact HB.out)) hb); clear BK605; clear HB; have HO608 := n0_; have BK605 := n1_; have HB := n2_; clear n0_ n1_ n2_; clear hb ho9; obtain ⟨Ao10, co10, eo10⟩ := Kd.R_slice HO608.out; subst eo10) | ((with_reducible refine gate_callee (f := 66) rfl ?_); refine goesL_ (some 14) rfl rfl Try.func66 (by kernel_rfl) rfl #[.agg #[.int .i64 a0_0, .slice A0_1 l0_1.length c0_1], .slice Ao10 y606.length co10] rfl (by (try simp only [List.map_toArray, List.map_cons, List.map_nil]); first | done | rfl | (simp only [List.length_drop, List.length_take]; rfl)) ?_; (with_reducible refine (spec_l06Code.calls k a0_0 _ _ l0_1 _ _ y606 t609 _ ?side1 ?side2 ?side3 ?side4 A4.out).mono ?_); (case side1 => repeat (first | exact (Kd.C_below HR0_1.out HB.out) | (with_reducible refine Kd.C_alloc ?_ _) | (with_reducible refine Kd.C_drewN ?_ _) | (with_reducible refine Kd.C_drew ?_))); (case side2 => exact HC0_1.out); (case side3 => repeat (first | exact (Kd.R_reads' HO608.out).2.2 | (with_reducible refine Kd.C_alloc ?_ _) | (with_reducible refine Kd.C_drewN ?_ _) | (with_reducible refine Kd.C_drew ?_))); (case side4 => exact (Kd.R_reads' HO608.out).2.1); rintro e w11 ⟨rfl, hb⟩; refine ⟨_, rfl, ?_⟩; have n0_ := Aside0.mk (Kd.R_below (by (with_reducible repeat (first | apply Kd.R_alloc | apply Kd.R_drewN | apply Kd.R_drew)); exact HO608.out) hb); have n1_ := Aside0.mk (blk_below (g := gb605) (o := .cells #[.int .i64 a0_0, .slice A0_1 l0_1.length c0_1] 27 (0, 0)) (by (with_reducible repeat (first | refine blk_drewN ?_ _ | refine blk_drew ?_ | refine blk_alloc ?_ _)); exact BK605.out) hb); have n2_ := Aside0.mk (below_step (by repeat (first | (with_reducible first | exact HB.out | apply below_alloc | apply pw_below_drewN | apply below_drew1 | refine below_set ?_ GE605.out) | exact HB.out)) hb); clear HO608; clear BK605; clear HB; have HO608 := n0_; have BK605 := n1_; have HB := n2_; clear n0_ n1_ n2_; (try clear hb); (try clear hb2); (try clear hk); (try clear hi)))
  (try simp only [Act.put, List.setIfInBounds_toArray, List.set_cons_zero, List.set_cons_succ])
  go_cut [21] (fun v21 wc => ∃ (kq : Nat) (x21_4 : Bool), v21 = .bool x21_4 ∧ Aside0 (spec_WalkByRule.j0 kq a1 a2 t609 x21_4 a0_0 l0_1 = some (r1, r2)) ∧ Aside0 (kq ≤ k) ∧ Aside0 (wc.heap[gb605]? = some (.cells #[.int .i64 a0_0, (.slice A0_1 l0_1.length c0_1)] 27 (0, 0))) ∧ Aside0 (Below w.heap.size w wc))
  case first =>
    have H := HC5.out
    clear HC5
    by_cases c12 : t609 = 0
    · rw [if_pos c12] at H
      have c12b0 : (t609 == 0) = true := beq_iff_eq.mpr c12
      have c12b1 : (t609 != 0) = false := bne_eq_false_iff_eq.mpr c12
      clear c12
      (first | rw [c12b0] | (simp only [i64_w, i32_w]; rw [c12b0]) | skip)
      replace H := Option.bind_eq_some_iff.mp H
      obtain ⟨t610, A130, H⟩ := H
      replace H : (spec_WalkByRule.j0 k a1 a2 t609 (!t610) a0_0 l0_1) = some (r1, r2) := H
      have A13 := Aside0.mk A130
      clear A130
      have H' := Aside0.mk H
      clear H
      go_wp2_with (first | (go_at_call 58; (with_reducible refine (spec_l01In.calls a2 0 2 t610 _ A13.out).mono ?_); rintro e w' ⟨rfl, ⟨nd, rfl⟩⟩))
      go_meet
      case rel => exact ⟨_, (!t610), (by first | rfl | (simp; done) | (simp [*]; done)), H', ⟨by first | omega | exact Nat.le_refl _⟩, ⟨by (with_reducible repeat (first | refine blk_drewN ?_ _ | refine blk_drew ?_ | refine blk_alloc ?_ _)); exact BK605.out⟩, ⟨by repeat (first | (with_reducible first | exact HB.out | apply below_alloc | apply pw_below_drewN | apply below_drew1 | refine below_set ?_ GE605.out) | exact HB.out)⟩⟩
    · rw [if_neg c12] at H
      have c12b0 : (t609 == 0) = false := beq_eq_false_iff_ne.mpr c12
      have c12b1 : (t609 != 0) = true := bne_iff_ne.mpr c12
      (first | rw [c12b0] | (simp only [i64_w, i32_w]; rw [c12b0]) | skip)
      have H' := Aside0.mk H
      clear H
      go_wp2
      go_meet
      case rel => exact ⟨_, (false), (by first | rfl | (simp; done) | (simp [*]; done)), H', ⟨by first | omega | exact Nat.le_refl _⟩, ⟨by (with_reducible repeat (first | refine blk_drewN ?_ _ | refine blk_drew ?_ | refine blk_alloc ?_ _)); exact BK605.out⟩, ⟨by repeat (first | (with_reducible first | exact HB.out | apply below_alloc | apply pw_below_drewN | apply below_drew1 | refine below_set ?_ GE605.out) | exact HB.out)⟩⟩
  case rest =>
    clear HC5
    try clear c1
    try clear p2
    try clear c4
    try clear c6
    try clear c12
    try clear c12b0
    try clear c12b1
    try clear hcz7_0
    try clear hcz7_1
    try clear hfz7_0
    try clear hfz7_1
    obtain ⟨kq, x21_4, rfl, HA, HJ4, BK605, HB⟩ := hcut
    cases kq with
    | zero => exact absurd HA.out (by simp [spec_WalkByRule.j0])
    | succ kj4 =>
      have H := HA.out
      clear HA
      simp only [spec_WalkByRule.j0] at H
      have HC14 := Aside0.mk H
      clear H
      go_upto_if 21 with (fail)
      go_cut [8] (fun v8 wc => ∃ (kq : Nat) (x8_13 : Int), v8 = .int .i64 x8_13 ∧ Aside0 (spec_WalkByRule.j1 kq a1 a2 x8_13 a0_0 l0_1 = some (r1, r2)) ∧ Aside0 (kq ≤ kj4) ∧ Aside0 (wc.heap[gb605]? = some (.cells #[.int .i64 a0_0, (.slice A0_1 l0_1.length c0_1)] 27 (0, 0))) ∧ Aside0 (Below w.heap.size w wc))
      case first =>
        have H := HC14.out
        clear HC14
        by_cases c15 : x21_4 = true
        · subst c15
          have H1 : (spec_WalkByRule.j1 kj4 a1 a2 2 a0_0 l0_1) = some (r1, r2) := by rw [if_pos rfl] at H; exact H
          clear H
          have H := H1
          clear H1
          have H' := Aside0.mk H
          clear H
          go_wp2
          go_meet
          case rel => exact ⟨_, (2), (by first | rfl | (simp; done) | (simp [*]; done)), H', ⟨by have := HJ4.out; first | omega | exact Nat.le_refl _⟩, ⟨by (with_reducible repeat (first | refine blk_drewN ?_ _ | refine blk_drew ?_ | refine blk_alloc ?_ _)); exact BK605.out⟩, ⟨by repeat (first | (with_reducible first | exact HB.out | apply below_alloc | apply pw_below_drewN | apply below_drew1 | refine below_set ?_ GE605.out) | exact HB.out)⟩⟩
        · replace c15 := Bool.eq_false_iff.mpr c15
          subst c15
          have H1 : (spec_WalkByRule.j1 kj4 a1 a2 t609 a0_0 l0_1) = some (r1, r2) := by rw [if_neg (show ¬ (false = true) by decide)] at H; exact H
          clear H
          have H := H1
          clear H1
          have H' := Aside0.mk H
          clear H
          go_wp2
          go_meet
          case rel => exact ⟨_, (t609), (by first | rfl | (simp; done) | (simp [*]; done)), H', ⟨by have := HJ4.out; first | omega | exact Nat.le_refl _⟩, ⟨by (with_reducible repeat (first | refine blk_drewN ?_ _ | refine blk_drew ?_ | refine blk_alloc ?_ _)); exact BK605.out⟩, ⟨by repeat (first | (with_reducible first | exact HB.out | apply below_alloc | apply pw_below_drewN | apply below_drew1 | refine below_set ?_ GE605.out) | exact HB.out)⟩⟩
      case rest =>
        clear HC14
        try clear c1
        try clear p2
        try clear c4
        try clear c6
        try clear c12
        try clear c12b0
        try clear c12b1
        try clear c15
        try clear hcz7_0
        try clear hcz7_1
        try clear hfz7_0
        try clear hfz7_1
        try clear p2
        obtain ⟨kq, x8_13, rfl, HA, HJ13, BK605, HB⟩ := hcut
        cases kq with
        | zero => exact absurd HA.out (by simp [spec_WalkByRule.j1])
        | succ kj13 =>
          have H := HA.out
          clear HA
          simp only [spec_WalkByRule.j1] at H
          by_cases c16 : x8_13 = 0
          · rw [if_pos c16] at H
            have c16b0 : (x8_13 == 0) = true := beq_iff_eq.mpr c16
            have c16b1 : (x8_13 != 0) = false := bne_eq_false_iff_eq.mpr c16
            clear c16
            by_cases c17 : 0 ≤ (l0_1.length : Int)
            · rw [if_pos c17] at H
              have c17b0 := eq_true c17
              have c17b1 : decide (0 ≤ (l0_1.length : Int)) = true := decide_eq_true c17
              clear c17
              by_cases c18 : ((l0_1.length : Int) : Int).toNat ≤ 281474976710656
              · rw [if_pos c18] at H
                have c18b0 := eq_true c18
                have c18b1 : decide (((l0_1.length : Int) : Int).toNat ≤ 281474976710656) = true := decide_eq_true c18
                clear c18
                obtain ⟨y611, hy611⟩ : ∃ y_ : List Bool, y_ = (List.replicate ((l0_1.length : Int) : Int).toNat false) := ⟨_, rfl⟩
                replace H : (if 0 ≤ a1 then (if a1 < (y611.length : Int) then (spec_WalkByRule.l0 kj13 a1 a2 (y611.set (a1 : Int).toNat true) (([a1] : List Int)) a0_0 l0_1) else (none)) else (none)) = some (r1, r2) := by first | (rw [hy611]; with_reducible exact H) | (have H2_ := (Option.bind_some _ _).symm.trans H; rw [hy611]; with_reducible exact H2_) | (have H2_ := (Option.bind_some _ _).symm.trans H; with_reducible exact H2_) | with_reducible exact H | (rw [hy611]; exact H) | exact H
                have Ny611 := Aside0.mk hy611
                clear hy611
                obtain ⟨y614, hy614⟩ : ∃ y_ : List Int, y_ = (([a1] : List Int)) := ⟨_, rfl⟩
                replace H : (if 0 ≤ a1 then (if a1 < (y611.length : Int) then (spec_WalkByRule.l0 kj13 a1 a2 (y611.set (a1 : Int).toNat true) y614 a0_0 l0_1) else (none)) else (none)) = some (r1, r2) := by first | (rw [hy614]; with_reducible exact H) | (have H2_ := (Option.bind_some _ _).symm.trans H; rw [hy614]; with_reducible exact H2_) | (have H2_ := (Option.bind_some _ _).symm.trans H; with_reducible exact H2_) | with_reducible exact H | (rw [hy614]; exact H) | exact H
                have Ny614 := Aside0.mk hy614
                clear hy614
                by_cases c19 : 0 ≤ a1
                · rw [if_pos c19] at H
                  have c19b0 : decide (0 ≤ a1) = true := decide_eq_true c19
                  clear c19
                  by_cases c20 : a1 < (y611.length : Int)
                  · rw [if_pos c20] at H
                    have c20b0 : decide (a1 < (y611.length : Int)) = true := decide_eq_true c20
                    clear c20
                    obtain ⟨y617, hy617⟩ : ∃ y_ : List Bool, y_ = (y611.set (a1 : Int).toNat true) := ⟨_, rfl⟩
                    replace H : (spec_WalkByRule.l0 kj13 a1 a2 y617 y614 a0_0 l0_1) = some (r1, r2) := by first | (rw [hy617]; with_reducible exact H) | (have H2_ := (Option.bind_some _ _).symm.trans H; rw [hy617]; with_reducible exact H2_) | (have H2_ := (Option.bind_some _ _).symm.trans H; with_reducible exact H2_) | with_reducible exact H | (rw [hy617]; exact H) | exact H
                    have Ny617 := Aside0.mk hy617
                    clear hy617
                    have H' := Aside0.mk H
                    clear H
                    have hcz22_0 : wc.cell? ⟨gb605, 0, none⟩ = some (.int .i64 a0_0) := (blk_cell BK605.out 0).trans rfl
                    have hcz22_1 : wc.cell? ⟨gb605, 1, none⟩ = some (.slice A0_1 l0_1.length c0_1) := (blk_cell BK605.out 1).trans rfl
                    have hfz22_0 := blk_frozen BK605.out 0
                    have hfz22_1 := blk_frozen BK605.out 1
                    go_wp2_with (first | ((with_reducible refine gate_dst (N := 28) rfl ?_); refine Kd.R_make Kd.bool _ 4 rfl (N := 28) rfl 77 _ _ rfl (l0_1.length : Int) rfl rfl Try.underlying77 (.bool false) 1 info4 rfl (by decide) (by omega) false (ok := fun _ => True) (okp := fun _ => True) rfl (fun _ hk => hk) trivial (of_decide_eq_true (by first | (with_reducible assumption) | assumption)) (Nat.le_trans (Nat.mul_le_mul_right _ (of_decide_eq_true (by first | (with_reducible assumption) | assumption) : (l0_1.length : Int).toNat ≤ 281474976710656)) (by omega)) (Below.refl _ _) (Nat.le_refl _) ?_; intro v612 w23 ho24 hb hg_ hnew_; clear hg_ hnew_; (first | rw [← Ny611.out] at ho24 | (simp only [Int.reduceToNat] at ho24; rw [← Ny611.out] at ho24)); have n0_ := Aside0.mk (Kd.R_lower ho24 (below_size (by repeat (first | (with_reducible first | exact HB.out | apply below_alloc | apply pw_below_drewN | apply below_drew1 | refine below_set ?_ GE605.out) | exact HB.out)))); have n1_ := Aside0.mk (blk_below (g := gb605) (o := .cells #[.int .i64 a0_0, .slice A0_1 l0_1.length c0_1] 27 (0, 0)) (by (with_reducible repeat (first | refine blk_drewN ?_ _ | refine blk_drew ?_ | refine blk_alloc ?_ _)); exact BK605.out) hb); have n2_ := Aside0.mk (below_step (by repeat (first | (with_reducible first | exact HB.out | apply below_alloc | apply pw_below_drewN | apply below_drew1 | refine below_set ?_ GE605.out) | exact HB.out)) hb); clear BK605; clear HB; have HO613 := n0_; have BK605 := n1_; have HB := n2_; clear n0_ n1_ n2_; clear hb ho24) | ((with_reducible refine gate_dst (N := 30) rfl ?_); refine Kd.R_lit (Kd.int .i64) _ 2 ?hg (N := 30) ?hd (xs := ([a1] : List Int)) (inner := [.int .i64 a1]) (ok := fun _ => True) (okp := fun _ => True) ?hr ?hp (fun _ hk => hk) trivial (Below.refl _ _) (Nat.le_refl _) (by simp) ?_; (case hd => rfl); (case hg => rfl); (case hr => first | (go_simp; done) | (go_simp; rfl)); (case hp => exact (Reps.one (show Kd.M (Kd.int .i64) _ _ _ a1 [.int .i64 a1] from rfl) (Reps.none _ _))); intro v615 w25 ho26 hb hg_ hnew_; clear hg_ hnew_; (first | rw [← Ny614.out] at ho26 | (simp only [Int.reduceToNat] at ho26; rw [← Ny614.out] at ho26)); have n0_ := Aside0.mk (Kd.R_below (by (with_reducible repeat (first | apply Kd.R_alloc | apply Kd.R_drewN | apply Kd.R_drew)); exact HO613.out) hb); have n1_ := Aside0.mk (Kd.R_lower ho26 (below_size (by repeat (first | (with_reducible first | exact HB.out | apply below_alloc | apply pw_below_drewN | apply below_drew1 | refine below_set ?_ GE605.out) | exact HB.out)))); have n2_ := Aside0.mk (blk_below (g := gb605) (o := .cells #[.int .i64 a0_0, .slice A0_1 l0_1.length c0_1] 27 (0, 0)) (by (with_reducible repeat (first | refine blk_drewN ?_ _ | refine blk_drew ?_ | refine blk_alloc ?_ _)); exact BK605.out) hb); have n3_ := Aside0.mk (below_step (by repeat (first | (with_reducible first | exact HB.out | apply below_alloc | apply pw_below_drewN | apply below_drew1 | refine below_set ?_ GE605.out) | exact HB.out)) hb); clear HO613; clear BK605; clear HB; have HO613 := n0_; have HO616 := n1_; have BK605 := n2_; have HB := n3_; clear n0_ n1_ n2_ n3_; clear hb ho26; have p21 : 0 ≤ (a1 : Int) := of_decide_eq_true (by first | (with_reducible assumption) | assumption); have q21 : (a1 : Int) < ((y611.length : Int) : Int) := of_decide_eq_true (by first | (with_reducible assumption) | assumption); obtain ⟨go21, co21, eo21, gb21, gl21, cl21, HG21⟩ := Kd.R_form HO613.out (by omega); (first | cases eo21 | (injection eo21 with ea_ en_ ec_; (first | subst ea_ | (injection ea_ with ea_; subst ea_)); subst ec_; clear en_)); have GB21 := Aside0.mk gb21; have GG21 := Aside0.mk HG21; clear gb21 gl21 HG21; obtain ⟨hx21_0, hf21_0⟩ := Kd.R_celln false HO613.out (a1 : Int) p21 q21; replace p21 := eq_true p21; replace q21 := eq_true q21; obtain ⟨hy27_, hz27_⟩ := Kd.R_celln false HO613.out (a1 : Int) (of_decide_eq_true (by first | (with_reducible assumption) | assumption)) (of_decide_eq_true (by first | (with_reducible assumption) | assumption)); have HP27 := Kd.R_putg HO613.out (a1 : Int) true) | ((with_reducible refine gate_store (t := 4) (p := 33) rfl ?_); refine store_event (t := 4) (p := 33) (v := ?vo_w28) (w1 := (w25.setCell ⟨go21, (a1 : Int).toNat, none⟩ (.bool true))) ?hg ?ho ?hn ?hr ?_; (case ho => rfl); (case hg => rfl); (case hn => rfl); (case hr => first | (go_simp; done) | (go_simp; rfl)); intro w28 hw; have hg : w25.grownBy w28 (some go21) := (by rw [hw]; exact HP27.2); have hp_ : Kd.R Kd.bool 4 w28 w.heap.size (fun _ => True) (.slice (some ⟨go21, 0, none⟩) y611.length co21) y617 := (by rw [hw, Ny617.out]; exact HP27.1); clear HP27; have n0_ := Aside0.mk (blk_grown (g := gb605) (o := .cells #[.int .i64 a0_0, .slice A0_1 l0_1.length c0_1] 27 (0, 0)) (by (with_reducible repeat (first | refine blk_drewN ?_ _ | refine blk_drew ?_ | refine blk_alloc ?_ _)); exact BK605.out) hg (Kd.R_ne HO613.out BK605.out (by decide))); have n1_ := Aside0.mk (hp_); have n2_ := Aside0.mk (Kd.R_over' (v := (.slice (some ⟨go21, 0, none⟩) y611.length co21)) (by (with_reducible repeat (first | apply Kd.R_alloc | apply Kd.R_drewN | apply Kd.R_drew)); exact HO616.out) (Kd.R_typed HO613.out) (by decide) hg); have n3_ := Aside0.mk ((by rw [hw]; exact below_set (HB.out) GB21.out : Below w.heap.size w w28)); clear BK605; clear HO613; clear HO616; clear HB; have BK605 := n0_; have HO613 := n1_; have HO616 := n2_; have HB := n3_; clear n0_ n1_ n2_ n3_; clear hg hw hp_))
                    go_loopg [1, 10] kj13 (fun kq v1 v10 w' => ∃ (x1_3 : Int) (x9_3 : List Bool) (x10_3 : List Int), v1 = .int .i64 x1_3 ∧ Aside0 (spec_WalkByRule.l0 kq x1_3 a2 x9_3 x10_3 a0_0 l0_1 = some (r1, r2)) ∧ Aside0 (kq ≤ kj13) ∧ Aside0 (Kd.R Kd.bool 4 w' w.heap.size (fun _ => True) (.slice (some ⟨go21, 0, none⟩) y611.length co21) x9_3) ∧ Aside0 (Kd.R (Kd.int .i64) 2 w' w.heap.size (fun _ => True) v10 x10_3) ∧ Aside0 (w'.heap[gb605]? = some (.cells #[.int .i64 a0_0, (.slice A0_1 l0_1.length c0_1)] 27 (0, 0))) ∧ Aside0 (Below w.heap.size w w'))
                    case atStart => exact ⟨(a1), (y617), (y614), (by first | rfl | (simp; done) | (simp [*]; done)), H', ⟨Nat.le_refl _⟩, ⟨by (with_reducible repeat (first | apply Kd.R_alloc | apply Kd.R_drewN | apply Kd.R_drew)); exact HO613.out⟩, ⟨by (with_reducible repeat (first | apply Kd.R_alloc | apply Kd.R_drewN | apply Kd.R_drew)); exact HO616.out⟩, ⟨by (with_reducible repeat (first | refine blk_drewN ?_ _ | refine blk_drew ?_ | refine blk_alloc ?_ _)); exact BK605.out⟩, ⟨by repeat (first | (with_reducible first | exact HB.out | apply below_alloc | apply pw_below_drewN | apply below_drew1 | refine below_set ?_ GE605.out) | exact HB.out)⟩⟩
                    case round =>
                      clear H'
                      try clear c1
                      try clear c2
                      try clear p2
                      try clear q2
                      try clear hx2
                      try clear c4
                      try clear c6
                      try clear c12
                      try clear c12b0
                      try clear c12b1
                      try clear c15
                      try clear c16
                      try clear c16b0
                      try clear c16b1
                      try clear c17
                      try clear c17b0
                      try clear c17b1
                      try clear c18
                      try clear c18b0
                      try clear c18b1
                      try clear c19
                      try clear c19b0
                      try clear c20
                      try clear c20b0
                      try clear p21
                      try clear q21
                      try clear hx21
                      try clear hf21
                      try clear hcz22_0
                      try clear hcz22_1
                      try clear hcz7_0
                      try clear hcz7_1
                      try clear hfz22_0
                      try clear hfz22_1
                      try clear hfz7_0
                      try clear hfz7_1
                      try clear hx21_0
                      try clear p2
                      try clear p21
                      try clear q21
                      obtain ⟨x1_3, x9_3, x10_3, rfl, HA, HK3, HO_9, HO_10, BK605, HB⟩ := hrel
                      have hl9_3 := (Kd.R_reads' HO_9.out).1
                      rw [hl9_3] at HO_9
                      (try simp only [hl9_3])
                      (try simp only [hl9_3] at BK605)
                      (try simp only [hl9_3] at HO_10)
                      cases gk with
                      | zero => exact absurd HA.out (by simp [spec_WalkByRule.l0])
                      | succ k3 =>
                        have H := HA.out
                        clear HA
                        simp only [spec_WalkByRule.l0] at H
                        by_cases c29 : 0 ≤ x1_3
                        · rw [if_pos c29] at H
                          have c29b0 : decide (0 ≤ x1_3) = true := decide_eq_true c29
                          clear c29
                          by_cases c30 : x1_3 < (l0_1.length : Int)
                          · rw [if_pos c30] at H
                            have c30b0 : decide (x1_3 < (l0_1.length : Int)) = true := decide_eq_true c30
                            clear c30
                            by_cases c31 : (rd l0_1 x1_3) = 0
                            · rw [if_pos c31] at H
                              have c31b0 : ((rd l0_1 x1_3) == 0) = true := beq_iff_eq.mpr c31
                              have c31b1 : ((rd l0_1 x1_3) != 0) = false := bne_eq_false_iff_eq.mpr c31
                              clear c31
                              simp only [Option.some.injEq, Prod.mk.injEq] at H
                              obtain ⟨rfl, rfl⟩ := H
                              have hcz32_0 : wr.cell? ⟨gb605, 0, none⟩ = some (.int .i64 a0_0) := (blk_cell BK605.out 0).trans rfl
                              have hcz32_1 : wr.cell? ⟨gb605, 1, none⟩ = some (.slice A0_1 l0_1.length c0_1) := (blk_cell BK605.out 1).trans rfl
                              have hfz32_0 := blk_frozen BK605.out 0
                              have hfz32_1 := blk_frozen BK605.out 1
                              have p618 : 0 ≤ (x1_3 : Int) := of_decide_eq_true (by first | (with_reducible assumption) | assumption)
                              have q618 : x1_3 < (l0_1.length : Int) := of_decide_eq_true (by first | (with_reducible assumption) | assumption)
                              obtain ⟨ad618, e618, hx618_0⟩ := Kd.at_int HR0_1.out x1_3 p618 q618
                              cases e618
                              replace hx618_0 := (HB.out.cell (World.block_lt_of_cell? w _ hx618_0)).trans hx618_0
                              replace p618 := eq_true p618
                              replace q618 := eq_true q618
                              go_wp2
                              go_ret2
                              exact ⟨_, by first | rfl | (simp [errW_none, errW_some] <;> rfl) | (simp [*, errW_none, errW_some] <;> rfl), by (with_reducible repeat (first | apply Kd.R_alloc | apply Kd.R_drewN | apply Kd.R_drew)); exact HO_10.out, by repeat (first | (with_reducible first | exact HB.out | apply below_alloc | apply pw_below_drewN | apply below_drew1 | refine below_set ?_ GE605.out) | exact HB.out)⟩
                            · rw [if_neg c31] at H
                              have c31b0 : ((rd l0_1 x1_3) == 0) = false := beq_eq_false_iff_ne.mpr c31
                              have c31b1 : ((rd l0_1 x1_3) != 0) = true := bne_iff_ne.mpr c31
                              replace H := Option.bind_eq_some_iff.mp H
                              obtain ⟨t619, A330, H⟩ := H
                              replace H : (if x10_3.length < 17592186044416 then ((some (x10_3 ++ [t619] : List Int)).bind fun y620 => (if 0 ≤ t619 then (if t619 < (x9_3.length : Int) then (if rdOf false x9_3 t619 = true then (some (y620, 0)) else (spec_WalkByRule.l0 k3 t619 a2 (x9_3.set (t619 : Int).toNat true) y620 a0_0 l0_1)) else (none)) else (none))) else (none)) = some (r1, r2) := H
                              have A33 := Aside0.mk A330
                              clear A330
                              by_cases c34 : x10_3.length < 17592186044416
                              · rw [if_pos c34] at H
                                have LMc34 := Aside0.mk c34
                                clear c34
                                obtain ⟨y620, hy620⟩ : ∃ y_ : List Int, y_ = (x10_3 ++ [t619]) := ⟨_, rfl⟩
                                replace H : (if 0 ≤ t619 then (if t619 < (x9_3.length : Int) then (if rdOf false x9_3 t619 = true then (some (y620, 0)) else (spec_WalkByRule.l0 k3 t619 a2 (x9_3.set (t619 : Int).toNat true) y620 a0_0 l0_1)) else (none)) else (none)) = some (r1, r2) := by first | (rw [hy620]; with_reducible exact H) | (have H2_ := (Option.bind_some _ _).symm.trans H; rw [hy620]; with_reducible exact H2_) | (have H2_ := (Option.bind_some _ _).symm.trans H; with_reducible exact H2_) | with_reducible exact H | (rw [hy620]; exact H) | exact H
                                have Ny620 := Aside0.mk hy620
                                clear hy620
                                by_cases c35 : 0 ≤ t619
                                · rw [if_pos c35] at H
                                  have c35b0 : decide (0 ≤ t619) = true := decide_eq_true c35
                                  clear c35
                                  by_cases c36 : t619 < (x9_3.length : Int)
                                  · rw [if_pos c36] at H
                                    have c36b0 : decide (t619 < (x9_3.length : Int)) = true := decide_eq_true c36
                                    clear c36
                                    obtain ⟨bq37, hbq37⟩ : ∃ b_ : Bool, b_ = (rdOf false x9_3 t619) := ⟨_, rfl⟩
                                    replace H : (if bq37 = true then (some (y620, 0)) else (spec_WalkByRule.l0 k3 t619 a2 (x9_3.set (t619 : Int).toNat true) y620 a0_0 l0_1)) = some (r1, r2) := by rw [← hbq37] at H; exact H
                                    have Nbq37 := Aside0.mk hbq37
                                    clear hbq37
                                    by_cases c38 : bq37 = true
                                    · subst c38
                                      have H1 : (some (y620, 0)) = some (r1, r2) := by rw [if_pos rfl] at H; exact H
                                      clear H
                                      have H := H1
                                      clear H1
                                      simp only [Option.some.injEq, Prod.mk.injEq] at H
                                      obtain ⟨rfl, rfl⟩ := H
                                      have hcz39_0 : wr.cell? ⟨gb605, 0, none⟩ = some (.int .i64 a0_0) := (blk_cell BK605.out 0).trans rfl
                                      have hcz39_1 : wr.cell? ⟨gb605, 1, none⟩ = some (.slice A0_1 l0_1.length c0_1) := (blk_cell BK605.out 1).trans rfl
                                      have hfz39_0 := blk_frozen BK605.out 0
                                      have hfz39_1 := blk_frozen BK605.out 1
                                      have p618 : 0 ≤ (x1_3 : Int) := of_decide_eq_true (by first | (with_reducible assumption) | assumption)
                                      have q618 : x1_3 < (l0_1.length : Int) := of_decide_eq_true (by first | (with_reducible assumption) | assumption)
                                      obtain ⟨ad618, e618, hx618_0⟩ := Kd.at_int HR0_1.out x1_3 p618 q618
                                      cases e618
                                      replace hx618_0 := (HB.out.cell (World.block_lt_of_cell? w _ hx618_0)).trans hx618_0
                                      replace p618 := eq_true p618
                                      replace q618 := eq_true q618
                                      go_wp2_with (first | ((with_reducible refine gate_callee (f := 71) rfl ?_); refine goesL_ (some 43) rfl rfl Try.func71 (by kernel_rfl) rfl #[.agg #[.int .i64 a0_0, .slice (some ad618) l0_1.length c0_1], .int .i64 x1_3, .int .i64 a2] rfl (by (try simp only [List.map_toArray, List.map_cons, List.map_nil]); first | done | rfl | (simp only [List.length_drop, List.length_take]; rfl)) ?_; (with_reducible refine (spec_l06Next.calls k3 a0_0 _ _ l0_1 x1_3 a2 t619 _ ?side1 ?side2 A33.out).mono ?_); (case side1 => repeat (first | exact (Kd.C_below HR0_1.out HB.out) | (with_reducible refine Kd.C_alloc ?_ _) | (with_reducible refine Kd.C_drewN ?_ _) | (with_reducible refine Kd.C_drew ?_))); (case side2 => exact HC0_1.out); rintro e w40 ⟨rfl, hb⟩; refine ⟨_, rfl, ?_⟩; have n0_ := Aside0.mk (Kd.R_below (by (with_reducible repeat (first | apply Kd.R_alloc | apply Kd.R_drewN | apply Kd.R_drew)); exact HO_9.out) hb); have n1_ := Aside0.mk (Kd.R_below (by (with_reducible repeat (first | apply Kd.R_alloc | apply Kd.R_drewN | apply Kd.R_drew)); exact HO_10.out) hb); have n2_ := Aside0.mk (blk_below (g := gb605) (o := .cells #[.int .i64 a0_0, .slice (some ad618) l0_1.length c0_1] 27 (0, 0)) (by (with_reducible repeat (first | refine blk_drewN ?_ _ | refine blk_drew ?_ | refine blk_alloc ?_ _)); exact BK605.out) hb); have n3_ := Aside0.mk (below_step (by repeat (first | (with_reducible first | exact HB.out | apply below_alloc | apply pw_below_drewN | apply below_drew1 | refine below_set ?_ GE605.out) | exact HB.out)) hb); clear HO_9; clear HO_10; clear BK605; clear HB; have HO_9 := n0_; have HO_10 := n1_; have BK605 := n2_; have HB := n3_; clear n0_ n1_ n2_ n3_; (try clear hb); (try clear hb2); (try clear hk); (try clear hi)) | ((with_reducible refine gate_builtin (b := .append) (xs := #[.tmp 44, .tmp 46]) rfl ?_); at_builtin; refine Kd.R_append (Kd.int .i64) (w0 := w) w.heap.size rfl (.tmp 44) (.tmp 46) 22 2 (.int .i64 0) 8 rfl Try.underlying22 info2 rfl (by decide) (by omega) u10 x10_3 t619 [.int .i64 t619] (fun _ => True) (fun _ => False) rfl rfl ?aP (fun _ hk => hk.elim) ?aF ?aO ?aB ?aS ?aL ?_; (case aP => exact rfl); (case aB => exact (by repeat (first | (with_reducible first | exact HB.out | apply below_alloc | apply pw_below_drewN | apply below_drew1 | refine below_set ?_ GE605.out) | exact HB.out))); (case aF => exact (fun _ _ => trivial)); (case aO => exact (by (with_reducible repeat (first | apply Kd.R_alloc | apply Kd.R_drewN | apply Kd.R_drew)); exact HO_10.out)); (case aS => exact (below_size (by repeat (first | (with_reducible first | exact HB.out | apply below_alloc | apply pw_below_drewN | apply below_drew1 | refine below_set ?_ GE605.out) | exact HB.out)))); (case aL => have := LMc34.out; omega); intro v621 w41 ho hb hg hat; rw [← Ny620.out] at ho; have n0_ := Aside0.mk (Kd.R_over' (by (with_reducible repeat (first | apply Kd.R_alloc | apply Kd.R_drewN | apply Kd.R_drew)); exact HO_9.out) (Kd.R_typed (by (with_reducible repeat (first | apply Kd.R_alloc | apply Kd.R_drewN | apply Kd.R_drew)); exact HO_10.out)) (by decide) hg); have n1_ := Aside0.mk (blk_grown (g := gb605) (o := .cells #[.int .i64 a0_0, .slice (some ad618) l0_1.length c0_1] 27 (0, 0)) (by (with_reducible repeat (first | refine blk_drewN ?_ _ | refine blk_drew ?_ | refine blk_alloc ?_ _)); exact BK605.out) hg (Kd.R_ne HO_10.out BK605.out (by decide))); have n2_ := Aside0.mk (hb); have n3_ := Aside0.mk (ho); clear HO_9; clear BK605; clear HB; clear HO_10; have HO_9 := n0_; have BK605 := n1_; have HB := n2_; have HO622 := n3_; clear n0_ n1_ n2_ n3_; clear ho hb hg hat; have p623 : 0 ≤ (t619 : Int) := of_decide_eq_true (by first | (with_reducible assumption) | assumption); have q623 : t619 < (x9_3.length : Int) := of_decide_eq_true (by first | (with_reducible assumption) | assumption); obtain ⟨ad623, e623, hx623_0⟩ := Kd.at_bool (Kd.R_reads' HO_9.out).2.2 t619 p623 q623; (try rw [← Nbq37.out] at hx623_0); obtain rfl : (⟨go21, 0, none⟩ : Addr) = ad623 := (by injection e623); (first | simp only [add_plain] at hx623_0 | simp only [add_at] at hx623_0 | simp only [Addr.add, Nat.zero_add] at hx623_0 | skip); replace p623 := eq_true p623; replace q623 := eq_true q623))
                                      go_ret2
                                      exact ⟨_, by first | rfl | (simp [errW_none, errW_some] <;> rfl) | (simp [*, errW_none, errW_some] <;> rfl), by (with_reducible repeat (first | apply Kd.R_alloc | apply Kd.R_drewN | apply Kd.R_drew)); exact HO622.out, by repeat (first | (with_reducible first | exact HB.out | apply below_alloc | apply pw_below_drewN | apply below_drew1 | refine below_set ?_ GE605.out) | exact HB.out)⟩
                                    · replace c38 := Bool.eq_false_iff.mpr c38
                                      subst c38
                                      have H1 : (spec_WalkByRule.l0 k3 t619 a2 (x9_3.set (t619 : Int).toNat true) y620 a0_0 l0_1) = some (r1, r2) := by rw [if_neg (show ¬ (false = true) by decide)] at H; exact H
                                      clear H
                                      have H := H1
                                      clear H1
                                      obtain ⟨y624, hy624⟩ : ∃ y_ : List Bool, y_ = (x9_3.set (t619 : Int).toNat true) := ⟨_, rfl⟩
                                      replace H : (spec_WalkByRule.l0 k3 t619 a2 y624 y620 a0_0 l0_1) = some (r1, r2) := by first | (rw [hy624]; with_reducible exact H) | (have H2_ := (Option.bind_some _ _).symm.trans H; rw [hy624]; with_reducible exact H2_) | (have H2_ := (Option.bind_some _ _).symm.trans H; with_reducible exact H2_) | with_reducible exact H | (rw [hy624]; exact H) | exact H
                                      have Ny624 := Aside0.mk hy624
                                      clear hy624
                                      have H' := Aside0.mk H
                                      clear H
                                      have hcz43_0 : wr.cell? ⟨gb605, 0, none⟩ = some (.int .i64 a0_0) := (blk_cell BK605.out 0).trans rfl
                                      have hcz43_1 : wr.cell? ⟨gb605, 1, none⟩ = some (.slice A0_1 l0_1.length c0_1) := (blk_cell BK605.out 1).trans rfl
                                      have hfz43_0 := blk_frozen BK605.out 0
                                      have hfz43_1 := blk_frozen BK605.out 1
                                      have p618 : 0 ≤ (x1_3 : Int) := of_decide_eq_true (by first | (with_reducible assumption) | assumption)
                                      have q618 : x1_3 < (l0_1.length : Int) := of_decide_eq_true (by first | (with_reducible assumption) | assumption)
                                      obtain ⟨ad618, e618, hx618_0⟩ := Kd.at_int HR0_1.out x1_3 p618 q618
                                      cases e618
                                      replace hx618_0 := (HB.out.cell (World.block_lt_of_cell? w _ hx618_0)).trans hx618_0
                                      replace p618 := eq_true p618
                                      replace q618 := eq_true q618
                                      go_wp2_with (first | ((with_reducible refine gate_callee (f := 71) rfl ?_); refine goesL_ (some 43) rfl rfl Try.func71 (by kernel_rfl) rfl #[.agg #[.int .i64 a0_0, .slice (some ad618) l0_1.length c0_1], .int .i64 x1_3, .int .i64 a2] rfl (by (try simp only [List.map_toArray, List.map_cons, List.map_nil]); first | done | rfl | (simp only [List.length_drop, List.length_take]; rfl)) ?_; (with_reducible refine (spec_l06Next.calls k3 a0_0 _ _ l0_1 x1_3 a2 t619 _ ?side1 ?side2 A33.out).mono ?_); (case side1 => repeat (first | exact (Kd.C_below HR0_1.out HB.out) | (with_reducible refine Kd.C_alloc ?_ _) | (with_reducible refine Kd.C_drewN ?_ _) | (with_reducible refine Kd.C_drew ?_))); (case side2 => exact HC0_1.out); rintro e w44 ⟨rfl, hb⟩; refine ⟨_, rfl, ?_⟩; have n0_ := Aside0.mk (Kd.R_below (by (with_reducible repeat (first | apply Kd.R_alloc | apply Kd.R_drewN | apply Kd.R_drew)); exact HO_9.out) hb); have n1_ := Aside0.mk (Kd.R_below (by (with_reducible repeat (first | apply Kd.R_alloc | apply Kd.R_drewN | apply Kd.R_drew)); exact HO_10.out) hb); have n2_ := Aside0.mk (blk_below (g := gb605) (o := .cells #[.int .i64 a0_0, .slice (some ad618) l0_1.length c0_1] 27 (0, 0)) (by (with_reducible repeat (first | refine blk_drewN ?_ _ | refine blk_drew ?_ | refine blk_alloc ?_ _)); exact BK605.out) hb); have n3_ := Aside0.mk (below_step (by repeat (first | (with_reducible first | exact HB.out | apply below_alloc | apply pw_below_drewN | apply below_drew1 | refine below_set ?_ GE605.out) | exact HB.out)) hb); clear HO_9; clear HO_10; clear BK605; clear HB; have HO_9 := n0_; have HO_10 := n1_; have BK605 := n2_; have HB := n3_; clear n0_ n1_ n2_ n3_; (try clear hb); (try clear hb2); (try clear hk); (try clear hi)) | ((with_reducible refine gate_builtin (b := .append) (xs := #[.tmp 44, .tmp 46]) rfl ?_); at_builtin; refine Kd.R_append (Kd.int .i64) (w0 := w) w.heap.size rfl (.tmp 44) (.tmp 46) 22 2 (.int .i64 0) 8 rfl Try.underlying22 info2 rfl (by decide) (by omega) u10 x10_3 t619 [.int .i64 t619] (fun _ => True) (fun _ => False) rfl rfl ?aP (fun _ hk => hk.elim) ?aF ?aO ?aB ?aS ?aL ?_; (case aP => exact rfl); (case aB => exact (by repeat (first | (with_reducible first | exact HB.out | apply below_alloc | apply pw_below_drewN | apply below_drew1 | refine below_set ?_ GE605.out) | exact HB.out))); (case aF => exact (fun _ _ => trivial)); (case aO => exact (by (with_reducible repeat (first | apply Kd.R_alloc | apply Kd.R_drewN | apply Kd.R_drew)); exact HO_10.out)); (case aS => exact (below_size (by repeat (first | (with_reducible first | exact HB.out | apply below_alloc | apply pw_below_drewN | apply below_drew1 | refine below_set ?_ GE605.out) | exact HB.out)))); (case aL => have := LMc34.out; omega); intro v621 w45 ho hb hg hat; rw [← Ny620.out] at ho; have n0_ := Aside0.mk (Kd.R_over' (by (with_reducible repeat (first | apply Kd.R_alloc | apply Kd.R_drewN | apply Kd.R_drew)); exact HO_9.out) (Kd.R_typed (by (with_reducible repeat (first | apply Kd.R_alloc | apply Kd.R_drewN | apply Kd.R_drew)); exact HO_10.out)) (by decide) hg); have n1_ := Aside0.mk (blk_grown (g := gb605) (o := .cells #[.int .i64 a0_0, .slice (some ad618) l0_1.length c0_1] 27 (0, 0)) (by (with_reducible repeat (first | refine blk_drewN ?_ _ | refine blk_drew ?_ | refine blk_alloc ?_ _)); exact BK605.out) hg (Kd.R_ne HO_10.out BK605.out (by decide))); have n2_ := Aside0.mk (hb); have n3_ := Aside0.mk (ho); clear HO_9; clear BK605; clear HB; clear HO_10; have HO_9 := n0_; have BK605 := n1_; have HB := n2_; have HO622 := n3_; clear n0_ n1_ n2_ n3_; clear ho hb hg hat; have p623 : 0 ≤ (t619 : Int) := of_decide_eq_true (by first | (with_reducible assumption) | assumption); have q623 : t619 < (x9_3.length : Int) := of_decide_eq_true (by first | (with_reducible assumption) | assumption); obtain ⟨ad623, e623, hx623_0⟩ := Kd.at_bool (Kd.R_reads' HO_9.out).2.2 t619 p623 q623; (try rw [← Nbq37.out] at hx623_0); obtain rfl : (⟨go21, 0, none⟩ : Addr) = ad623 := (by injection e623); (first | simp only [add_plain] at hx623_0 | simp only [add_at] at hx623_0 | simp only [Addr.add, Nat.zero_add] at hx623_0 | skip); replace p623 := eq_true p623; replace q623 := eq_true q623; have p42 : 0 ≤ (t619 : Int) := of_decide_eq_true (by first | (with_reducible assumption) | assumption); have q42 : (t619 : Int) < ((x9_3.length : Int) : Int) := of_decide_eq_true (by first | (with_reducible assumption) | assumption); obtain ⟨hx42_0, hf42_0⟩ := Kd.R_celln false HO_9.out (t619 : Int) p42 q42; replace p42 := eq_true p42; replace q42 := eq_true q42; obtain ⟨hy46_, hz46_⟩ := Kd.R_celln false HO_9.out (t619 : Int) (of_decide_eq_true (by first | (with_reducible assumption) | assumption)) (of_decide_eq_true (by first | (with_reducible assumption) | assumption)); have HP46 := Kd.R_putg HO_9.out (t619 : Int) true) | ((with_reducible refine gate_store (t := 4) (p := 54) rfl ?_); refine store_event (t := 4) (p := 54) (v := ?vo_w47) (w1 := (w45.setCell ⟨go21, (t619 : Int).toNat, none⟩ (.bool true))) ?hg ?ho ?hn ?hr ?_; (case ho => rfl); (case hg => rfl); (case hn => rfl); (case hr => first | (go_simp; done) | (go_simp; rfl)); intro w47 hw; have hg : w45.grownBy w47 (some go21) := (by rw [hw]; exact HP46.2); have hp_ : Kd.R Kd.bool 4 w47 w.heap.size (fun _ => True) (.slice (some ⟨go21, 0, none⟩) x9_3.length co21) y624 := (by rw [hw, Ny624.out]; exact HP46.1); clear HP46; have n0_ := Aside0.mk (hp_); have n1_ := Aside0.mk (blk_grown (g := gb605) (o := .cells #[.int .i64 a0_0, .slice (some ad618) l0_1.length c0_1] 27 (0, 0)) (by (with_reducible repeat (first | refine blk_drewN ?_ _ | refine blk_drew ?_ | refine blk_alloc ?_ _)); exact BK605.out) hg (Kd.R_ne HO_9.out BK605.out (by decide))); have n2_ := Aside0.mk (Kd.R_over' (v := (.slice (some ⟨go21, 0, none⟩) x9_3.length co21)) (by (with_reducible repeat (first | apply Kd.R_alloc | apply Kd.R_drewN | apply Kd.R_drew)); exact HO622.out) (Kd.R_typed HO_9.out) (by decide) hg); have n3_ := Aside0.mk ((by rw [hw]; exact below_set (HB.out) GB21.out : Below w.heap.size w w47)); clear HO_9; clear BK605; clear HO622; clear HB; have HO_9 := n0_; have BK605 := n1_; have HO622 := n2_; have HB := n3_; clear n0_ n1_ n2_ n3_; clear hg hw hp_))
                                      (try simp only [← hl9_3])
                                      go_roundg k3
                                      case measure => have := HJ4.out; have := HJ13.out; have := HK3.out; omega
                                      case rel => exact ⟨(t619), (y624), (y620), (by first | rfl | (simp; done) | (simp [*]; done)), H', ⟨by have := HJ4.out; have := HJ13.out; have := HK3.out; omega⟩, ⟨by (try simp only [hl9_3]); (with_reducible repeat (first | apply Kd.R_alloc | apply Kd.R_drewN | apply Kd.R_drew)); exact HO_9.out⟩, ⟨by (try simp only [hl9_3]); (with_reducible repeat (first | apply Kd.R_alloc | apply Kd.R_drewN | apply Kd.R_drew)); exact HO622.out⟩, ⟨by (try simp only [hl9_3]); (with_reducible repeat (first | refine blk_drewN ?_ _ | refine blk_drew ?_ | refine blk_alloc ?_ _)); exact BK605.out⟩, ⟨by repeat (first | (with_reducible first | exact HB.out | apply below_alloc | apply pw_below_drewN | apply below_drew1 | refine below_set ?_ GE605.out) | exact HB.out)⟩⟩
                                  · rw [if_neg c36] at H
                                    exact absurd H (by simp)
                                · rw [if_neg c35] at H
                                  exact absurd H (by simp)
                              · rw [if_neg c34] at H
                                exact absurd H (by simp)
                          · rw [if_neg c30] at H
                            exact absurd H (by simp)
                        · rw [if_neg c29] at H
                          exact absurd H (by simp)
                  · rw [if_neg c20] at H
                    exact absurd H (by simp)
                · rw [if_neg c19] at H
                  exact absurd H (by simp)
              · rw [if_neg c18] at H
                exact absurd H (by simp)
            · rw [if_neg c17] at H
              exact absurd H (by simp)
          · rw [if_neg c16] at H
            have c16b0 : (x8_13 == 0) = false := beq_eq_false_iff_ne.mpr c16
            have c16b1 : (x8_13 != 0) = true := bne_iff_ne.mpr c16
            simp only [Option.some.injEq, Prod.mk.injEq] at H
            obtain ⟨rfl, rfl⟩ := H
            go_wp2
            go_ret2
            exact ⟨_, by first | rfl | (simp [errW_none, errW_some] <;> rfl) | (simp [*, errW_none, errW_some] <;> rfl), by first | exact Kd.R_nil _ _ _ _ _ | exact Kd.N_nil _ _ _ _ _ | exact Kd.V_nil _ _ _ _ _ | exact Kd.Q_nil _ _ _ _ _ | exact Kd.S_nil _ _ _ _ _, by repeat (first | (with_reducible first | exact HB.out | apply below_alloc | apply pw_below_drewN | apply below_drew1 | refine below_set ?_ GE605.out) | exact HB.out)⟩

end Go.Proofs.Ytlnoidhaoinpbaa.Pr
