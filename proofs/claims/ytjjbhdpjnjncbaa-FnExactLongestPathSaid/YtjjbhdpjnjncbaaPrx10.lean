/- The plain functions of this seat, each with the proof that the call of the Go function comes to just its answer. Conditions: as each theorem says. Written by this session's own program over the print of the kit. -/
import Derived.Test.YtjjbhdpjnjncbaaPrx0
import Derived.Test.YtjjbhdpjnjncbaaPrx9
namespace Go.Proofs.Ytjjbhdpjnjncbaa.Pr
open Go.RowKit Go.Proofs.YtjjbhdpjnjncbaaW.PrintWords Go.Proofs.YtjjbhdpjnjncbaaW.PrintLast Go.Proofs.YtjjbhdpjnjncbaaW.PrintMore
attribute [local go_sem] max2_int min2_int max_two min_two max_three min_three max_four min_four   -- for this text's walks alone
set_option linter.unusedVariables false
set_option linter.unusedSimpArgs false

/-! ### spec_l07Is: function 67 -/
mutual
def spec_l07Is.j0 : Nat → Int → Bool → List (List Int) → List (List Int) → Option (Bool)
  | 0, _, _, _, _ => none
  | k + 1, x3, x22, x200000, x200001 => if x22 = true then (some false) else (if 0 < (x200000.length : Int) then (if ((rd_L1 x200000 0).length : Int) < 1 then (spec_l07Is.j1 k x3 ((rd_L1 x200000 0).length : Int) true x200000 x200001) else (if ((rd_L1 x200000 0).length : Int) > 4 then (spec_l07Is.j1 k x3 ((rd_L1 x200000 0).length : Int) true x200000 x200001) else (spec_l07Is.j1 k x3 ((rd_L1 x200000 0).length : Int) (decide ((wrap64 (x3 + ((rd_L1 x200000 0).length : Int))) > 5)) x200000 x200001))) else (none))
def spec_l07Is.j1 : Nat → Int → Int → Bool → List (List Int) → List (List Int) → Option (Bool)
  | 0, _, _, _, _, _ => none
  | k + 1, x3, x4, x39, x200000, x200001 => if x39 = true then (some false) else (spec_l07Is.l0 k x3 x4 0 x200000 x200001)
def spec_l07Is.l0 : Nat → Int → Int → Int → List (List Int) → List (List Int) → Option (Bool)
  | 0, _, _, _, _, _ => none
  | k + 1, x3, x4, x5, x200000, x200001 => if x5 < x3 then (if 0 ≤ x5 then (if x5 < (x200000.length : Int) then (if ((rd_L1 x200000 x5).length : Int) = x4 then (if x5 < (x200001.length : Int) then (spec_l07Is.j3 k x3 x4 x5 (((rd_L1 x200001 x5).length : Int) != x4) x200000 x200001) else (none)) else (spec_l07Is.j3 k x3 x4 x5 true x200000 x200001)) else (none)) else (none)) else (some true)
def spec_l07Is.j3 : Nat → Int → Int → Int → Bool → List (List Int) → List (List Int) → Option (Bool)
  | 0, _, _, _, _, _, _ => none
  | k + 1, x3, x4, x5, x62, x200000, x200001 => if x62 = true then (some false) else (spec_l07Is.l1 k x3 x4 x5 0 x200000 x200001)
def spec_l07Is.l1 : Nat → Int → Int → Int → Int → List (List Int) → List (List Int) → Option (Bool)
  | 0, _, _, _, _, _, _ => none
  | k + 1, x3, x4, x5, x6, x200000, x200001 => if x6 < x4 then (if 0 ≤ x5 then (if x5 < (x200000.length : Int) then (if 0 ≤ x6 then (if x6 < ((rd_L1 x200000 x5).length : Int) then ((spec_l01In.f (rd (rd_L1 x200000 x5) x6) 1 20).bind fun t205 => (if t205 = true then (if x5 < (x200001.length : Int) then (if x6 < ((rd_L1 x200001 x5).length : Int) then ((spec_l01In.f (rd (rd_L1 x200001 x5) x6) 1 20).bind fun t208 => (if t208 = true then (spec_l07Is.l1 k x3 x4 x5 (wrap64 (x6 + 1)) x200000 x200001) else (some false))) else (none)) else (none)) else (some false))) else (none)) else (none)) else (none)) else (none)) else (spec_l07Is.l0 k x3 x4 (wrap64 (x5 + 1)) x200000 x200001)
end
def spec_l07Is.f (k : Nat) (l0_0 : List (List Int)) (l0_1 : List (List Int)) : Option (Bool) := if (l0_0.length : Int) < 1 then (spec_l07Is.j0 k (l0_0.length : Int) true l0_0 l0_1) else (if (l0_0.length : Int) > 4 then (spec_l07Is.j0 k (l0_0.length : Int) true l0_0 l0_1) else (spec_l07Is.j0 k (l0_0.length : Int) ((l0_1.length : Int) != (l0_0.length : Int)) l0_0 l0_1))
theorem spec_l07Is.mono_l : ∀ k, (∀ y0 y1 y2 y3, LeO (spec_l07Is.j0 k y0 y1 y2 y3) (spec_l07Is.j0 (k + 1) y0 y1 y2 y3)) ∧ (∀ y0 y1 y2 y3 y4, LeO (spec_l07Is.j1 k y0 y1 y2 y3 y4) (spec_l07Is.j1 (k + 1) y0 y1 y2 y3 y4)) ∧ (∀ y0 y1 y2 y3 y4, LeO (spec_l07Is.l0 k y0 y1 y2 y3 y4) (spec_l07Is.l0 (k + 1) y0 y1 y2 y3 y4)) ∧ (∀ y0 y1 y2 y3 y4 y5, LeO (spec_l07Is.j3 k y0 y1 y2 y3 y4 y5) (spec_l07Is.j3 (k + 1) y0 y1 y2 y3 y4 y5)) ∧ (∀ y0 y1 y2 y3 y4 y5, LeO (spec_l07Is.l1 k y0 y1 y2 y3 y4 y5) (spec_l07Is.l1 (k + 1) y0 y1 y2 y3 y4 y5))
  | 0 => ⟨fun _ _ _ _ r h => by simp [spec_l07Is.j0] at h, fun _ _ _ _ _ r h => by simp [spec_l07Is.j1] at h, fun _ _ _ _ _ r h => by simp [spec_l07Is.l0] at h, fun _ _ _ _ _ _ r h => by simp [spec_l07Is.j3] at h, fun _ _ _ _ _ _ r h => by simp [spec_l07Is.l1] at h⟩
  | k + 1 => by
    obtain ⟨ih0, ih1, ih2, ih3, ih4⟩ := spec_l07Is.mono_l k
    refine ⟨?_, ?_, ?_, ?_, ?_⟩
    · intro y0 y1 y2 y3
      unfold spec_l07Is.j0
      repeat' first
      | (with_reducible exact ih0 _ _ _ _)
      | (with_reducible exact ih1 _ _ _ _ _)
      | (with_reducible exact ih2 _ _ _ _ _)
      | (with_reducible exact ih3 _ _ _ _ _ _)
      | (with_reducible exact ih4 _ _ _ _ _ _)
      | (with_reducible exact LeO.refl _)
      | (with_reducible exact LeO.none _)
      | (with_reducible refine LeO.ite ?_ ?_)
      | (with_reducible refine LeO.bind ?_ (fun _ => ?_))
      | exact ih0 _ _ _ _
      | exact ih1 _ _ _ _ _
      | exact ih2 _ _ _ _ _
      | exact ih3 _ _ _ _ _ _
      | exact ih4 _ _ _ _ _ _
      | exact LeO.none _
      | refine LeO.ite ?_ ?_
      | refine LeO.bind ?_ (fun _ => ?_)
    · intro y0 y1 y2 y3 y4
      unfold spec_l07Is.j1
      repeat' first
      | (with_reducible exact ih0 _ _ _ _)
      | (with_reducible exact ih1 _ _ _ _ _)
      | (with_reducible exact ih2 _ _ _ _ _)
      | (with_reducible exact ih3 _ _ _ _ _ _)
      | (with_reducible exact ih4 _ _ _ _ _ _)
      | (with_reducible exact LeO.refl _)
      | (with_reducible exact LeO.none _)
      | (with_reducible refine LeO.ite ?_ ?_)
      | (with_reducible refine LeO.bind ?_ (fun _ => ?_))
      | exact ih0 _ _ _ _
      | exact ih1 _ _ _ _ _
      | exact ih2 _ _ _ _ _
      | exact ih3 _ _ _ _ _ _
      | exact ih4 _ _ _ _ _ _
      | exact LeO.none _
      | refine LeO.ite ?_ ?_
      | refine LeO.bind ?_ (fun _ => ?_)
    · intro y0 y1 y2 y3 y4
      unfold spec_l07Is.l0
      repeat' first
      | (with_reducible exact ih0 _ _ _ _)
      | (with_reducible exact ih1 _ _ _ _ _)
      | (with_reducible exact ih2 _ _ _ _ _)
      | (with_reducible exact ih3 _ _ _ _ _ _)
      | (with_reducible exact ih4 _ _ _ _ _ _)
      | (with_reducible exact LeO.refl _)
      | (with_reducible exact LeO.none _)
      | (with_reducible refine LeO.ite ?_ ?_)
      | (with_reducible refine LeO.bind ?_ (fun _ => ?_))
      | exact ih0 _ _ _ _
      | exact ih1 _ _ _ _ _
      | exact ih2 _ _ _ _ _
      | exact ih3 _ _ _ _ _ _
      | exact ih4 _ _ _ _ _ _
      | exact LeO.none _
      | refine LeO.ite ?_ ?_
      | refine LeO.bind ?_ (fun _ => ?_)
    · intro y0 y1 y2 y3 y4 y5
      unfold spec_l07Is.j3
      repeat' first
      | (with_reducible exact ih0 _ _ _ _)
      | (with_reducible exact ih1 _ _ _ _ _)
      | (with_reducible exact ih2 _ _ _ _ _)
      | (with_reducible exact ih3 _ _ _ _ _ _)
      | (with_reducible exact ih4 _ _ _ _ _ _)
      | (with_reducible exact LeO.refl _)
      | (with_reducible exact LeO.none _)
      | (with_reducible refine LeO.ite ?_ ?_)
      | (with_reducible refine LeO.bind ?_ (fun _ => ?_))
      | exact ih0 _ _ _ _
      | exact ih1 _ _ _ _ _
      | exact ih2 _ _ _ _ _
      | exact ih3 _ _ _ _ _ _
      | exact ih4 _ _ _ _ _ _
      | exact LeO.none _
      | refine LeO.ite ?_ ?_
      | refine LeO.bind ?_ (fun _ => ?_)
    · intro y0 y1 y2 y3 y4 y5
      unfold spec_l07Is.l1
      repeat' first
      | (with_reducible exact ih0 _ _ _ _)
      | (with_reducible exact ih1 _ _ _ _ _)
      | (with_reducible exact ih2 _ _ _ _ _)
      | (with_reducible exact ih3 _ _ _ _ _ _)
      | (with_reducible exact ih4 _ _ _ _ _ _)
      | (with_reducible exact LeO.refl _)
      | (with_reducible exact LeO.none _)
      | (with_reducible refine LeO.ite ?_ ?_)
      | (with_reducible refine LeO.bind ?_ (fun _ => ?_))
      | exact ih0 _ _ _ _
      | exact ih1 _ _ _ _ _
      | exact ih2 _ _ _ _ _
      | exact ih3 _ _ _ _ _ _
      | exact ih4 _ _ _ _ _ _
      | exact LeO.none _
      | refine LeO.ite ?_ ?_
      | refine LeO.bind ?_ (fun _ => ?_)
theorem spec_l07Is.mono : ∀ a0 a1 k, LeO (spec_l07Is.f k a0 a1) (spec_l07Is.f (k + 1) a0 a1) := by
  intro a0 a1 k
  obtain ⟨ih0, ih1, ih2, ih3, ih4⟩ := spec_l07Is.mono_l k
  unfold spec_l07Is.f
  repeat' first
      | (with_reducible exact ih0 _ _ _ _)
      | (with_reducible exact ih1 _ _ _ _ _)
      | (with_reducible exact ih2 _ _ _ _ _)
      | (with_reducible exact ih3 _ _ _ _ _ _)
      | (with_reducible exact ih4 _ _ _ _ _ _)
      | (with_reducible exact LeO.refl _)
      | (with_reducible exact LeO.none _)
      | (with_reducible refine LeO.ite ?_ ?_)
      | (with_reducible refine LeO.bind ?_ (fun _ => ?_))
      | exact ih0 _ _ _ _
      | exact ih1 _ _ _ _ _
      | exact ih2 _ _ _ _ _
      | exact ih3 _ _ _ _ _ _
      | exact ih4 _ _ _ _ _ _
      | exact LeO.none _
      | refine LeO.ite ?_ ?_
      | refine LeO.bind ?_ (fun _ => ?_)
set_option maxHeartbeats 8000000 in
set_option maxRecDepth 100000 in
theorem spec_l07Is.calls (k : Nat) (A0_0 : Option Addr) (c0_0 : Nat) (l0_0 : List (List Int)) (A0_1 : Option Addr) (c0_1 : Nat) (l0_1 : List (List Int)) (r : Bool) (w : World) (hr0_0 : Kd.C (Kd.slice 2 (Kd.int .i64)) w A0_0 l0_0.length l0_0) (hc0_0 : l0_0.length ≤ c0_0) (hr0_1 : Kd.C (Kd.slice 2 (Kd.int .i64)) w A0_1 l0_1.length l0_1) (hc0_1 : l0_1.length ≤ c0_1) (h : spec_l07Is.f k l0_0 l0_1 = some r) :
    Calls Try.prog 67 #[.agg #[.slice A0_0 l0_0.length c0_0, .slice A0_1 l0_1.length c0_1]] w fun e w' => e = .returned (.bool r) ∧ Below w.heap.size w w' := by
  have hu26 := Try.underlying26
  have HR0_0 := Aside0.mk hr0_0
  have HC0_0 := Aside0.mk hc0_0
  clear hr0_0 hc0_0
  have HR0_1 := Aside0.mk hr0_1
  have HC0_1 := Aside0.mk hc0_1
  clear hr0_1 hc0_1
  have HB := Aside0.mk (Below.refl w.heap.size w)
  have H : (if (l0_0.length : Int) < 1 then (spec_l07Is.j0 k (l0_0.length : Int) true l0_0 l0_1) else (if (l0_0.length : Int) > 4 then (spec_l07Is.j0 k (l0_0.length : Int) true l0_0 l0_1) else (spec_l07Is.j0 k (l0_0.length : Int) ((l0_1.length : Int) != (l0_0.length : Int)) l0_0 l0_1))) = some r := h
  clear h
  have HC2 := Aside0.mk H
  clear H
  go_enter Try.func67, Try.ntmps67
  go_upto_region 2 with (first | ((with_reducible refine gate_dst (N := 1) rfl ?_); (try (refine gate_guard (by rfl) ?_; dsimp only)); refine box_event ?hg (N := 1) ?hd (cs := #[.slice A0_0 l0_0.length c0_0, .slice A0_1 l0_1.length c0_1]) (t := 26) ?hr ?_; (case hd => rfl); (case hg => rfl); (case hr => first | (go_simp; done) | (go_simp; rfl)); intro gb199 hg w3 hbox hb; have n0_ := Aside0.mk (below_step (by repeat (first | (with_reducible first | exact HB.out | apply below_alloc | apply pw_below_drewN | apply below_drew1) | exact HB.out)) hb); have n1_ := Aside0.mk (hbox); have n2_ := Aside0.mk ((by rw [hg]; exact (below_size (by repeat (first | (with_reducible first | exact HB.out | apply below_alloc | apply pw_below_drewN | apply below_drew1) | exact HB.out))) : w.heap.size ≤ gb199)); have n3_ := Aside0.mk ((by rw [hg]; exact (below_size (by repeat (first | (with_reducible first | exact HB.out | apply below_alloc | apply pw_below_drewN | apply below_drew1) | exact HB.out))) : w.heap.size ≤ gb199)); clear HB; have HB := n0_; have BK199 := n1_; have GW199 := n2_; have GE199 := n3_; clear n0_ n1_ n2_ n3_; clear hb hbox hg; have hcz4_0 : w3.cell? ⟨gb199, 0, none⟩ = some (.slice A0_0 l0_0.length c0_0) := (blk_cell BK199.out 0).trans rfl; have hcz4_1 : w3.cell? ⟨gb199, 1, none⟩ = some (.slice A0_1 l0_1.length c0_1) := (blk_cell BK199.out 1).trans rfl; have hfz4_0 := blk_frozen BK199.out 0; have hfz4_1 := blk_frozen BK199.out 1))
  (try simp only [Act.put, List.setIfInBounds_toArray, List.set_cons_zero, List.set_cons_succ])
  go_cut [22] (fun v22 wc => ∃ (kq : Nat) (x22_1 : Bool), v22 = .bool x22_1 ∧ Aside0 (spec_l07Is.j0 kq (l0_0.length : Int) x22_1 l0_0 l0_1 = some r) ∧ Aside0 (kq ≤ k) ∧ Aside0 (wc.heap[gb199]? = some (.cells #[(.slice A0_0 l0_0.length c0_0), (.slice A0_1 l0_1.length c0_1)] 26 (0, 0))) ∧ Aside0 (Below w.heap.size w wc))
  case first =>
    have H := HC2.out
    clear HC2
    by_cases c5 : (l0_0.length : Int) < 1
    · rw [if_pos c5] at H
      have c5b0 : decide ((l0_0.length : Int) < 1) = true := decide_eq_true c5
      have c5b1 : decide (l0_0.length < 1) = true := decide_eq_true (by omega)
      clear c5
      (first | rw [c5b0] | (simp only [i64_w, i32_w]; rw [c5b0]) | skip)
      have H' := Aside0.mk H
      clear H
      go_wp2
      go_meet
      case rel => exact ⟨_, (true), (by first | rfl | (simp; done) | (simp [*]; done)), H', ⟨by first | omega | exact Nat.le_refl _⟩, ⟨by (with_reducible repeat (first | refine blk_drewN ?_ _ | refine blk_drew ?_ | refine blk_alloc ?_ _)); exact BK199.out⟩, ⟨by repeat (first | (with_reducible first | exact HB.out | apply below_alloc | apply pw_below_drewN | apply below_drew1 | refine below_set ?_ GE199.out) | exact HB.out)⟩⟩
    · rw [if_neg c5] at H
      have c5b0 : decide ((l0_0.length : Int) < 1) = false := decide_eq_false c5
      have c5b1 : decide (l0_0.length < 1) = false := decide_eq_false (by omega)
      clear c5
      (first | rw [c5b0] | (simp only [i64_w, i32_w]; rw [c5b0]) | skip)
      by_cases c6 : (l0_0.length : Int) > 4
      · rw [if_pos c6] at H
        have c6b0 : decide (4 < (l0_0.length : Int)) = true := decide_eq_true c6
        have c6b1 : decide (4 < l0_0.length) = true := decide_eq_true (by omega)
        clear c6
        have H' := Aside0.mk H
        clear H
        go_wp2
        go_meet
        case rel => exact ⟨_, (true), (by first | rfl | (simp; done) | (simp [*]; done)), H', ⟨by first | omega | exact Nat.le_refl _⟩, ⟨by (with_reducible repeat (first | refine blk_drewN ?_ _ | refine blk_drew ?_ | refine blk_alloc ?_ _)); exact BK199.out⟩, ⟨by repeat (first | (with_reducible first | exact HB.out | apply below_alloc | apply pw_below_drewN | apply below_drew1 | refine below_set ?_ GE199.out) | exact HB.out)⟩⟩
      · rw [if_neg c6] at H
        have c6b0 : decide (4 < (l0_0.length : Int)) = false := decide_eq_false c6
        have c6b1 : decide (4 < l0_0.length) = false := decide_eq_false (by omega)
        clear c6
        have H' := Aside0.mk H
        clear H
        have hcz7_0 : w3.cell? ⟨gb199, 0, none⟩ = some (.slice A0_0 l0_0.length c0_0) := (blk_cell BK199.out 0).trans rfl
        have hcz7_1 : w3.cell? ⟨gb199, 1, none⟩ = some (.slice A0_1 l0_1.length c0_1) := (blk_cell BK199.out 1).trans rfl
        have hfz7_0 := blk_frozen BK199.out 0
        have hfz7_1 := blk_frozen BK199.out 1
        go_wp2
        go_meet
        case rel => exact ⟨_, (((l0_1.length : Int) != (l0_0.length : Int))), (by first | rfl | (simp; done) | (simp [*]; done)), H', ⟨by first | omega | exact Nat.le_refl _⟩, ⟨by (with_reducible repeat (first | refine blk_drewN ?_ _ | refine blk_drew ?_ | refine blk_alloc ?_ _)); exact BK199.out⟩, ⟨by repeat (first | (with_reducible first | exact HB.out | apply below_alloc | apply pw_below_drewN | apply below_drew1 | refine below_set ?_ GE199.out) | exact HB.out)⟩⟩
  case rest =>
    clear HC2
    try clear p2
    try clear c5
    try clear c5b0
    try clear c5b1
    try clear c6
    try clear c6b0
    try clear c6b1
    try clear hcz4_0
    try clear hcz4_1
    try clear hcz7_0
    try clear hcz7_1
    try clear hfz4_0
    try clear hfz4_1
    try clear hfz7_0
    try clear hfz7_1
    obtain ⟨kq, x22_1, rfl, HA, HJ1, BK199, HB⟩ := hcut
    cases kq with
    | zero => exact absurd HA.out (by simp [spec_l07Is.j0])
    | succ kj1 =>
      have H := HA.out
      clear HA
      simp only [spec_l07Is.j0] at H
      by_cases c8 : x22_1 = true
      · subst c8
        have H1 : (some false) = some r := by rw [if_pos rfl] at H; exact H
        clear H
        have H := H1
        clear H1
        obtain rfl := Option.some.inj H
        go_wp2
        go_ret
        exact ⟨by first | rfl | (simp [errW_none, errW_some] <;> rfl) | (simp [*, errW_none, errW_some] <;> rfl), by repeat (first | (with_reducible first | exact HB.out | apply below_alloc | apply pw_below_drewN | apply below_drew1 | refine below_set ?_ GE199.out) | exact HB.out)⟩
      · replace c8 := Bool.eq_false_iff.mpr c8
        subst c8
        have H1 : (if 0 < (l0_0.length : Int) then (if ((rd_L1 l0_0 0).length : Int) < 1 then (spec_l07Is.j1 kj1 (l0_0.length : Int) ((rd_L1 l0_0 0).length : Int) true l0_0 l0_1) else (if ((rd_L1 l0_0 0).length : Int) > 4 then (spec_l07Is.j1 kj1 (l0_0.length : Int) ((rd_L1 l0_0 0).length : Int) true l0_0 l0_1) else (spec_l07Is.j1 kj1 (l0_0.length : Int) ((rd_L1 l0_0 0).length : Int) (decide ((wrap64 ((l0_0.length : Int) + ((rd_L1 l0_0 0).length : Int))) > 5)) l0_0 l0_1))) else (none)) = some r := by rw [if_neg (show ¬ (false = true) by decide)] at H; exact H
        clear H
        have H := H1
        clear H1
        by_cases c9 : 0 < (l0_0.length : Int)
        · rw [if_pos c9] at H
          have c9b0 : decide (0 < (l0_0.length : Int)) = true := decide_eq_true c9
          have c9b1 : decide (0 < l0_0.length) = true := decide_eq_true (by omega)
          clear c9
          have HC10 := Aside0.mk H
          clear H
          have hcz11_0 : wc.cell? ⟨gb199, 0, none⟩ = some (.slice A0_0 l0_0.length c0_0) := (blk_cell BK199.out 0).trans rfl
          have hcz11_1 : wc.cell? ⟨gb199, 1, none⟩ = some (.slice A0_1 l0_1.length c0_1) := (blk_cell BK199.out 1).trans rfl
          have hfz11_0 := blk_frozen BK199.out 0
          have hfz11_1 := blk_frozen BK199.out 1
          have p200 : 0 ≤ (0 : Int) := (by omega)
          have q200 : 0 < (l0_0.length : Int) := of_decide_eq_true (by first | (with_reducible assumption) | assumption)
          obtain ⟨ad200, A200_0, c200_0, e200, hx200_0, hl200_0, hi200_0⟩ := at_L1 HR0_0.out 0 p200 q200
          cases e200
          have qi200 : (0 < l0_0.length) = True := eq_true (by omega)
          (try rw [show ((0 : Int)).toNat = 0 from rfl] at hx200_0)
          (try rw [Addr.add_zero'] at hx200_0)
          replace hx200_0 := (HB.out.cell (World.block_lt_of_cell? w _ hx200_0)).trans hx200_0
          have HR200_0 := Aside0.mk hi200_0
          have HC200_0 := Aside0.mk hl200_0
          clear hi200_0 hl200_0
          replace p200 := eq_true p200
          replace q200 := eq_true q200
          go_upto_region 5 with (fail)
          go_cut [39] (fun v39 wc => ∃ (kq : Nat) (x39_9 : Bool), v39 = .bool x39_9 ∧ Aside0 (spec_l07Is.j1 kq (l0_0.length : Int) ((rd_L1 l0_0 0).length : Int) x39_9 l0_0 l0_1 = some r) ∧ Aside0 (kq ≤ kj1) ∧ Aside0 (wc.heap[gb199]? = some (.cells #[(.slice (some ad200) l0_0.length c0_0), (.slice A0_1 l0_1.length c0_1)] 26 (0, 0))) ∧ Aside0 (Below w.heap.size w wc))
          case first =>
            have H := HC10.out
            clear HC10
            by_cases c12 : ((rd_L1 l0_0 0).length : Int) < 1
            · rw [if_pos c12] at H
              have c12b0 : decide (((rd_L1 l0_0 0).length : Int) < 1) = true := decide_eq_true c12
              have c12b1 : decide ((rd_L1 l0_0 0).length < 1) = true := decide_eq_true (by omega)
              clear c12
              (first | rw [c12b0] | (simp only [i64_w, i32_w]; rw [c12b0]) | skip)
              have H' := Aside0.mk H
              clear H
              go_wp2
              go_meet
              case rel => exact ⟨_, (true), (by first | rfl | (simp; done) | (simp [*]; done)), H', ⟨by have := HJ1.out; first | omega | exact Nat.le_refl _⟩, ⟨by (with_reducible repeat (first | refine blk_drewN ?_ _ | refine blk_drew ?_ | refine blk_alloc ?_ _)); exact BK199.out⟩, ⟨by repeat (first | (with_reducible first | exact HB.out | apply below_alloc | apply pw_below_drewN | apply below_drew1 | refine below_set ?_ GE199.out) | exact HB.out)⟩⟩
            · rw [if_neg c12] at H
              have c12b0 : decide (((rd_L1 l0_0 0).length : Int) < 1) = false := decide_eq_false c12
              have c12b1 : decide ((rd_L1 l0_0 0).length < 1) = false := decide_eq_false (by omega)
              clear c12
              (first | rw [c12b0] | (simp only [i64_w, i32_w]; rw [c12b0]) | skip)
              by_cases c13 : ((rd_L1 l0_0 0).length : Int) > 4
              · rw [if_pos c13] at H
                have c13b0 : decide (4 < ((rd_L1 l0_0 0).length : Int)) = true := decide_eq_true c13
                have c13b1 : decide (4 < (rd_L1 l0_0 0).length) = true := decide_eq_true (by omega)
                clear c13
                have H' := Aside0.mk H
                clear H
                go_wp2
                go_meet
                case rel => exact ⟨_, (true), (by first | rfl | (simp; done) | (simp [*]; done)), H', ⟨by have := HJ1.out; first | omega | exact Nat.le_refl _⟩, ⟨by (with_reducible repeat (first | refine blk_drewN ?_ _ | refine blk_drew ?_ | refine blk_alloc ?_ _)); exact BK199.out⟩, ⟨by repeat (first | (with_reducible first | exact HB.out | apply below_alloc | apply pw_below_drewN | apply below_drew1 | refine below_set ?_ GE199.out) | exact HB.out)⟩⟩
              · rw [if_neg c13] at H
                have c13b0 : decide (4 < ((rd_L1 l0_0 0).length : Int)) = false := decide_eq_false c13
                have c13b1 : decide (4 < (rd_L1 l0_0 0).length) = false := decide_eq_false (by omega)
                clear c13
                have H' := Aside0.mk H
                clear H
                go_wp2
                go_meet
                case rel => exact ⟨_, (decide ((wrap64 ((l0_0.length : Int) + ((rd_L1 l0_0 0).length : Int))) > 5)), (by first | rfl | (simp; done) | (simp [*]; done)), H', ⟨by have := HJ1.out; first | omega | exact Nat.le_refl _⟩, ⟨by (with_reducible repeat (first | refine blk_drewN ?_ _ | refine blk_drew ?_ | refine blk_alloc ?_ _)); exact BK199.out⟩, ⟨by repeat (first | (with_reducible first | exact HB.out | apply below_alloc | apply pw_below_drewN | apply below_drew1 | refine below_set ?_ GE199.out) | exact HB.out)⟩⟩
          case rest =>
            clear HC10
            try clear c1
            try clear c2
            try clear p2
            try clear q2
            try clear hx2
            try clear qi2
            try clear c5
            try clear c5b0
            try clear c5b1
            try clear c6
            try clear c6b0
            try clear c6b1
            try clear p6
            try clear c8
            try clear c9
            try clear c9b0
            try clear c9b1
            try clear c12
            try clear c12b0
            try clear c12b1
            try clear c13
            try clear c13b0
            try clear c13b1
            try clear hcz11_0
            try clear hcz11_1
            try clear hcz4_0
            try clear hcz4_1
            try clear hcz7_0
            try clear hcz7_1
            try clear hfz11_0
            try clear hfz11_1
            try clear hfz4_0
            try clear hfz4_1
            try clear hfz7_0
            try clear hfz7_1
            try clear hx200_0
            try clear p2
            try clear p200
            try clear q200
            obtain ⟨kq, x39_9, rfl, HA, HJ9, BK199, HB⟩ := hcut
            cases kq with
            | zero => exact absurd HA.out (by simp [spec_l07Is.j1])
            | succ kj9 =>
              have H := HA.out
              clear HA
              simp only [spec_l07Is.j1] at H
              by_cases c14 : x39_9 = true
              · subst c14
                have H1 : (some false) = some r := by rw [if_pos rfl] at H; exact H
                clear H
                have H := H1
                clear H1
                obtain rfl := Option.some.inj H
                go_wp2
                go_ret
                exact ⟨by first | rfl | (simp [errW_none, errW_some] <;> rfl) | (simp [*, errW_none, errW_some] <;> rfl), by repeat (first | (with_reducible first | exact HB.out | apply below_alloc | apply pw_below_drewN | apply below_drew1 | refine below_set ?_ GE199.out) | exact HB.out)⟩
              · replace c14 := Bool.eq_false_iff.mpr c14
                subst c14
                have H1 : (spec_l07Is.l0 kj9 (l0_0.length : Int) ((rd_L1 l0_0 0).length : Int) 0 l0_0 l0_1) = some r := by rw [if_neg (show ¬ (false = true) by decide)] at H; exact H
                clear H
                have H := H1
                clear H1
                have H' := Aside0.mk H
                clear H
                go_wp2
                go_loopg [5] kj9 (fun kq v5 w' => ∃ (x5_3 : Int), v5 = .int .i64 x5_3 ∧ Aside0 (spec_l07Is.l0 kq (l0_0.length : Int) ((rd_L1 l0_0 0).length : Int) x5_3 l0_0 l0_1 = some r) ∧ Aside0 (kq ≤ kj9) ∧ Aside0 (w'.heap[gb199]? = some (.cells #[(.slice (some ad200) l0_0.length c0_0), (.slice A0_1 l0_1.length c0_1)] 26 (0, 0))) ∧ Aside0 (Below w.heap.size w w'))
                case atStart => exact ⟨(0), (by first | rfl | (simp; done) | (simp [*]; done)), H', ⟨Nat.le_refl _⟩, ⟨by (with_reducible repeat (first | refine blk_drewN ?_ _ | refine blk_drew ?_ | refine blk_alloc ?_ _)); exact BK199.out⟩, ⟨by repeat (first | (with_reducible first | exact HB.out | apply below_alloc | apply pw_below_drewN | apply below_drew1 | refine below_set ?_ GE199.out) | exact HB.out)⟩⟩
                case round =>
                  clear H'
                  try clear c1
                  try clear c2
                  try clear p2
                  try clear q2
                  try clear hx2
                  try clear qi2
                  try clear c5
                  try clear c5b0
                  try clear c5b1
                  try clear c6
                  try clear c6b0
                  try clear c6b1
                  try clear p6
                  try clear c8
                  try clear c9
                  try clear c9b0
                  try clear c9b1
                  try clear c12
                  try clear c12b0
                  try clear c12b1
                  try clear c13
                  try clear c13b0
                  try clear c13b1
                  try clear c14
                  try clear hcz11_0
                  try clear hcz11_1
                  try clear hcz4_0
                  try clear hcz4_1
                  try clear hcz7_0
                  try clear hcz7_1
                  try clear hfz11_0
                  try clear hfz11_1
                  try clear hfz4_0
                  try clear hfz4_1
                  try clear hfz7_0
                  try clear hfz7_1
                  try clear hx200_0
                  try clear p2
                  try clear p200
                  try clear p6
                  try clear q2
                  try clear q200
                  obtain ⟨x5_3, rfl, HA, HK3, BK199, HB⟩ := hrel
                  cases gk with
                  | zero => exact absurd HA.out (by simp [spec_l07Is.l0])
                  | succ k3 =>
                    have H := HA.out
                    clear HA
                    simp only [spec_l07Is.l0] at H
                    by_cases c15 : x5_3 < (l0_0.length : Int)
                    · rw [if_pos c15] at H
                      have c15b0 : decide (x5_3 < (l0_0.length : Int)) = true := decide_eq_true c15
                      clear c15
                      have HC16 := Aside0.mk H
                      clear H
                      go_upto_region 10 with (fail)
                      go_cut [62] (fun v62 wc => ∃ (kq : Nat) (x62_15 : Bool), v62 = .bool x62_15 ∧ Aside0 (spec_l07Is.j3 kq (l0_0.length : Int) ((rd_L1 l0_0 0).length : Int) x5_3 x62_15 l0_0 l0_1 = some r) ∧ Aside0 (kq ≤ k3) ∧ Aside0 (wc.heap[gb199]? = some (.cells #[(.slice (some ad200) l0_0.length c0_0), (.slice A0_1 l0_1.length c0_1)] 26 (0, 0))) ∧ Aside0 (Below w.heap.size w wc))
                      case first =>
                        have H := HC16.out
                        clear HC16
                        by_cases c17 : 0 ≤ x5_3
                        · rw [if_pos c17] at H
                          have c17b0 : decide (0 ≤ x5_3) = true := decide_eq_true c17
                          clear c17
                          (first | rw [c17b0] | (simp only [i64_w, i32_w]; rw [c17b0]) | skip)
                          by_cases c18 : x5_3 < (l0_0.length : Int)
                          · rw [if_pos c18] at H
                            have c18b0 : decide (x5_3 < (l0_0.length : Int)) = true := decide_eq_true c18
                            clear c18
                            by_cases c19 : ((rd_L1 l0_0 x5_3).length : Int) = ((rd_L1 l0_0 0).length : Int)
                            · rw [if_pos c19] at H
                              have c19b0 : (((rd_L1 l0_0 x5_3).length : Int) == ((rd_L1 l0_0 0).length : Int)) = true := beq_iff_eq.mpr c19
                              have c19b1 : (((rd_L1 l0_0 x5_3).length : Int) != ((rd_L1 l0_0 0).length : Int)) = false := bne_eq_false_iff_eq.mpr c19
                              have c19b2 : ((rd_L1 l0_0 x5_3).length == (rd_L1 l0_0 0).length) = true := by first | simpa using c19 | (simp at c19 ⊢; omega)
                              clear c19
                              by_cases c20 : x5_3 < (l0_1.length : Int)
                              · rw [if_pos c20] at H
                                have c20b0 : decide (x5_3 < (l0_1.length : Int)) = true := decide_eq_true c20
                                clear c20
                                have H' := Aside0.mk H
                                clear H
                                have hcz21_0 : wr.cell? ⟨gb199, 0, none⟩ = some (.slice (some ad200) l0_0.length c0_0) := (blk_cell BK199.out 0).trans rfl
                                have hcz21_1 : wr.cell? ⟨gb199, 1, none⟩ = some (.slice A0_1 l0_1.length c0_1) := (blk_cell BK199.out 1).trans rfl
                                have hfz21_0 := blk_frozen BK199.out 0
                                have hfz21_1 := blk_frozen BK199.out 1
                                have p201 : 0 ≤ (x5_3 : Int) := of_decide_eq_true (by first | (with_reducible assumption) | assumption)
                                have q201 : x5_3 < (l0_0.length : Int) := of_decide_eq_true (by first | (with_reducible assumption) | assumption)
                                obtain ⟨ad201, A201_0, c201_0, e201, hx201_0, hl201_0, hi201_0⟩ := at_L1 HR0_0.out x5_3 p201 q201
                                obtain rfl : ad200 = ad201 := (by injection e201)
                                replace hx201_0 := (HB.out.cell (World.block_lt_of_cell? w _ hx201_0)).trans hx201_0
                                have HR201_0 := Aside0.mk hi201_0
                                have HC201_0 := Aside0.mk hl201_0
                                clear hi201_0 hl201_0
                                replace p201 := eq_true p201
                                replace q201 := eq_true q201
                                have p202 : 0 ≤ (x5_3 : Int) := of_decide_eq_true (by first | (with_reducible assumption) | assumption)
                                have q202 : x5_3 < (l0_1.length : Int) := of_decide_eq_true (by first | (with_reducible assumption) | assumption)
                                obtain ⟨ad202, A202_0, c202_0, e202, hx202_0, hl202_0, hi202_0⟩ := at_L1 HR0_1.out x5_3 p202 q202
                                cases e202
                                replace hx202_0 := (HB.out.cell (World.block_lt_of_cell? w _ hx202_0)).trans hx202_0
                                have HR202_0 := Aside0.mk hi202_0
                                have HC202_0 := Aside0.mk hl202_0
                                clear hi202_0 hl202_0
                                replace p202 := eq_true p202
                                replace q202 := eq_true q202
                                go_wp2
                                go_meet
                                case rel => exact ⟨_, ((((rd_L1 l0_1 x5_3).length : Int) != ((rd_L1 l0_0 0).length : Int))), (by first | rfl | (simp; done) | (simp [*]; done)), H', ⟨by have := HJ1.out; have := HJ9.out; have := HK3.out; first | omega | exact Nat.le_refl _⟩, ⟨by (with_reducible repeat (first | refine blk_drewN ?_ _ | refine blk_drew ?_ | refine blk_alloc ?_ _)); exact BK199.out⟩, ⟨by repeat (first | (with_reducible first | exact HB.out | apply below_alloc | apply pw_below_drewN | apply below_drew1 | refine below_set ?_ GE199.out) | exact HB.out)⟩⟩
                              · rw [if_neg c20] at H
                                exact absurd H (by simp)
                            · rw [if_neg c19] at H
                              have c19b0 : (((rd_L1 l0_0 x5_3).length : Int) == ((rd_L1 l0_0 0).length : Int)) = false := beq_eq_false_iff_ne.mpr c19
                              have c19b1 : (((rd_L1 l0_0 x5_3).length : Int) != ((rd_L1 l0_0 0).length : Int)) = true := bne_iff_ne.mpr c19
                              have c19b2 : ((rd_L1 l0_0 x5_3).length == (rd_L1 l0_0 0).length) = false := by first | simpa using c19 | (simp at c19 ⊢; omega)
                              have H' := Aside0.mk H
                              clear H
                              have hcz22_0 : wr.cell? ⟨gb199, 0, none⟩ = some (.slice (some ad200) l0_0.length c0_0) := (blk_cell BK199.out 0).trans rfl
                              have hcz22_1 : wr.cell? ⟨gb199, 1, none⟩ = some (.slice A0_1 l0_1.length c0_1) := (blk_cell BK199.out 1).trans rfl
                              have hfz22_0 := blk_frozen BK199.out 0
                              have hfz22_1 := blk_frozen BK199.out 1
                              have p201 : 0 ≤ (x5_3 : Int) := of_decide_eq_true (by first | (with_reducible assumption) | assumption)
                              have q201 : x5_3 < (l0_0.length : Int) := of_decide_eq_true (by first | (with_reducible assumption) | assumption)
                              obtain ⟨ad201, A201_0, c201_0, e201, hx201_0, hl201_0, hi201_0⟩ := at_L1 HR0_0.out x5_3 p201 q201
                              obtain rfl : ad200 = ad201 := (by injection e201)
                              replace hx201_0 := (HB.out.cell (World.block_lt_of_cell? w _ hx201_0)).trans hx201_0
                              have HR201_0 := Aside0.mk hi201_0
                              have HC201_0 := Aside0.mk hl201_0
                              clear hi201_0 hl201_0
                              replace p201 := eq_true p201
                              replace q201 := eq_true q201
                              go_wp2
                              go_meet
                              case rel => exact ⟨_, (true), (by first | rfl | (simp; done) | (simp [*]; done)), H', ⟨by have := HJ1.out; have := HJ9.out; have := HK3.out; first | omega | exact Nat.le_refl _⟩, ⟨by (with_reducible repeat (first | refine blk_drewN ?_ _ | refine blk_drew ?_ | refine blk_alloc ?_ _)); exact BK199.out⟩, ⟨by repeat (first | (with_reducible first | exact HB.out | apply below_alloc | apply pw_below_drewN | apply below_drew1 | refine below_set ?_ GE199.out) | exact HB.out)⟩⟩
                          · rw [if_neg c18] at H
                            exact absurd H (by simp)
                        · rw [if_neg c17] at H
                          exact absurd H (by simp)
                      case rest =>
                        clear HC16
                        try clear c1
                        try clear c2
                        try clear p2
                        try clear q2
                        try clear hx2
                        try clear qi2
                        try clear c5
                        try clear c5b0
                        try clear c5b1
                        try clear c6
                        try clear c6b0
                        try clear c6b1
                        try clear p6
                        try clear c8
                        try clear c9
                        try clear c9b0
                        try clear c9b1
                        try clear c12
                        try clear c12b0
                        try clear c12b1
                        try clear c13
                        try clear c13b0
                        try clear c13b1
                        try clear c14
                        try clear c15
                        try clear c15b0
                        try clear c17
                        try clear c17b0
                        try clear c18
                        try clear c18b0
                        try clear c19
                        try clear c19b0
                        try clear c19b1
                        try clear c19b2
                        try clear c20
                        try clear c20b0
                        try clear p20
                        try clear q20
                        try clear hx20
                        try clear qi20
                        try clear hcz11_0
                        try clear hcz11_1
                        try clear hcz21_0
                        try clear hcz21_1
                        try clear hcz22_0
                        try clear hcz22_1
                        try clear hcz4_0
                        try clear hcz4_1
                        try clear hcz7_0
                        try clear hcz7_1
                        try clear hfz11_0
                        try clear hfz11_1
                        try clear hfz21_0
                        try clear hfz21_1
                        try clear hfz22_0
                        try clear hfz22_1
                        try clear hfz4_0
                        try clear hfz4_1
                        try clear hfz7_0
                        try clear hfz7_1
                        try clear hx200_0
                        try clear hx201_0
                        try clear hx202_0
                        try clear p2
                        try clear p200
                        try clear p201
                        try clear p202
                        try clear p6
                        try clear q2
                        try clear q200
                        try clear q201
                        try clear q202
                        obtain ⟨kq, x62_15, rfl, HA, HJ15, BK199, HB⟩ := hcut
                        cases kq with
                        | zero => exact absurd HA.out (by simp [spec_l07Is.j3])
                        | succ kj15 =>
                          have H := HA.out
                          clear HA
                          simp only [spec_l07Is.j3] at H
                          by_cases c23 : x62_15 = true
                          · subst c23
                            have H1 : (some false) = some r := by rw [if_pos rfl] at H; exact H
                            clear H
                            have H := H1
                            clear H1
                            obtain rfl := Option.some.inj H
                            go_wp2
                            go_ret
                            exact ⟨by first | rfl | (simp [errW_none, errW_some] <;> rfl) | (simp [*, errW_none, errW_some] <;> rfl), by repeat (first | (with_reducible first | exact HB.out | apply below_alloc | apply pw_below_drewN | apply below_drew1 | refine below_set ?_ GE199.out) | exact HB.out)⟩
                          · replace c23 := Bool.eq_false_iff.mpr c23
                            subst c23
                            have H1 : (spec_l07Is.l1 kj15 (l0_0.length : Int) ((rd_L1 l0_0 0).length : Int) x5_3 0 l0_0 l0_1) = some r := by rw [if_neg (show ¬ (false = true) by decide)] at H; exact H
                            clear H
                            have H := H1
                            clear H1
                            have H' := Aside0.mk H
                            clear H
                            go_wp2
                            go_loopg [6] kj15 (fun kq v6 w' => ∃ (x6_5 : Int), v6 = .int .i64 x6_5 ∧ Aside0 (spec_l07Is.l1 kq (l0_0.length : Int) ((rd_L1 l0_0 0).length : Int) x5_3 x6_5 l0_0 l0_1 = some r) ∧ Aside0 (kq ≤ kj15) ∧ Aside0 (w'.heap[gb199]? = some (.cells #[(.slice (some ad200) l0_0.length c0_0), (.slice A0_1 l0_1.length c0_1)] 26 (0, 0))) ∧ Aside0 (Below w.heap.size w w'))
                            case atStart => exact ⟨(0), (by first | rfl | (simp; done) | (simp [*]; done)), H', ⟨Nat.le_refl _⟩, ⟨by (with_reducible repeat (first | refine blk_drewN ?_ _ | refine blk_drew ?_ | refine blk_alloc ?_ _)); exact BK199.out⟩, ⟨by repeat (first | (with_reducible first | exact HB.out | apply below_alloc | apply pw_below_drewN | apply below_drew1 | refine below_set ?_ GE199.out) | exact HB.out)⟩⟩
                            case round =>
                              clear H'
                              try clear c1
                              try clear c2
                              try clear p2
                              try clear q2
                              try clear hx2
                              try clear qi2
                              try clear c5
                              try clear c5b0
                              try clear c5b1
                              try clear c6
                              try clear c6b0
                              try clear c6b1
                              try clear p6
                              try clear c8
                              try clear c9
                              try clear c9b0
                              try clear c9b1
                              try clear c12
                              try clear c12b0
                              try clear c12b1
                              try clear c13
                              try clear c13b0
                              try clear c13b1
                              try clear c14
                              try clear c15
                              try clear c15b0
                              try clear c17
                              try clear c17b0
                              try clear c18
                              try clear c18b0
                              try clear c19
                              try clear c19b0
                              try clear c19b1
                              try clear c19b2
                              try clear c20
                              try clear c20b0
                              try clear p20
                              try clear q20
                              try clear hx20
                              try clear qi20
                              try clear c23
                              try clear hcz11_0
                              try clear hcz11_1
                              try clear hcz21_0
                              try clear hcz21_1
                              try clear hcz22_0
                              try clear hcz22_1
                              try clear hcz4_0
                              try clear hcz4_1
                              try clear hcz7_0
                              try clear hcz7_1
                              try clear hfz11_0
                              try clear hfz11_1
                              try clear hfz21_0
                              try clear hfz21_1
                              try clear hfz22_0
                              try clear hfz22_1
                              try clear hfz4_0
                              try clear hfz4_1
                              try clear hfz7_0
                              try clear hfz7_1
                              try clear hx200_0
                              try clear hx201_0
                              try clear hx202_0
                              try clear p2
                              try clear p20
                              try clear p200
                              try clear p201
                              try clear p202
                              try clear p6
                              try clear q2
                              try clear q20
                              try clear q200
                              try clear q201
                              try clear q202
                              obtain ⟨x6_5, rfl, HA, HK5, BK199, HB⟩ := hrel
                              cases gk with
                              | zero => exact absurd HA.out (by simp [spec_l07Is.l1])
                              | succ k5 =>
                                have H := HA.out
                                clear HA
                                simp only [spec_l07Is.l1] at H
                                by_cases c24 : x6_5 < ((rd_L1 l0_0 0).length : Int)
                                · rw [if_pos c24] at H
                                  have c24b0 : decide (x6_5 < ((rd_L1 l0_0 0).length : Int)) = true := decide_eq_true c24
                                  clear c24
                                  by_cases c25 : 0 ≤ x5_3
                                  · rw [if_pos c25] at H
                                    have c25b0 : decide (0 ≤ x5_3) = true := decide_eq_true c25
                                    clear c25
                                    by_cases c26 : x5_3 < (l0_0.length : Int)
                                    · rw [if_pos c26] at H
                                      have c26b0 : decide (x5_3 < (l0_0.length : Int)) = true := decide_eq_true c26
                                      clear c26
                                      by_cases c27 : 0 ≤ x6_5
                                      · rw [if_pos c27] at H
                                        have c27b0 : decide (0 ≤ x6_5) = true := decide_eq_true c27
                                        clear c27
                                        by_cases c28 : x6_5 < ((rd_L1 l0_0 x5_3).length : Int)
                                        · rw [if_pos c28] at H
                                          have c28b0 : decide (x6_5 < ((rd_L1 l0_0 x5_3).length : Int)) = true := decide_eq_true c28
                                          clear c28
                                          replace H := Option.bind_eq_some_iff.mp H
                                          obtain ⟨t205, A290, H⟩ := H
                                          replace H : (if t205 = true then (if x5_3 < (l0_1.length : Int) then (if x6_5 < ((rd_L1 l0_1 x5_3).length : Int) then ((spec_l01In.f (rd (rd_L1 l0_1 x5_3) x6_5) 1 20).bind fun t208 => (if t208 = true then (spec_l07Is.l1 k5 (l0_0.length : Int) ((rd_L1 l0_0 0).length : Int) x5_3 (wrap64 (x6_5 + 1)) l0_0 l0_1) else (some false))) else (none)) else (none)) else (some false)) = some r := H
                                          have A29 := Aside0.mk A290
                                          clear A290
                                          by_cases c30 : t205 = true
                                          · subst c30
                                            have H1 : (if x5_3 < (l0_1.length : Int) then (if x6_5 < ((rd_L1 l0_1 x5_3).length : Int) then ((spec_l01In.f (rd (rd_L1 l0_1 x5_3) x6_5) 1 20).bind fun t208 => (if t208 = true then (spec_l07Is.l1 k5 (l0_0.length : Int) ((rd_L1 l0_0 0).length : Int) x5_3 (wrap64 (x6_5 + 1)) l0_0 l0_1) else (some false))) else (none)) else (none)) = some r := by rw [if_pos rfl] at H; exact H
                                            clear H
                                            have H := H1
                                            clear H1
                                            by_cases c31 : x5_3 < (l0_1.length : Int)
                                            · rw [if_pos c31] at H
                                              have c31b0 : decide (x5_3 < (l0_1.length : Int)) = true := decide_eq_true c31
                                              clear c31
                                              by_cases c32 : x6_5 < ((rd_L1 l0_1 x5_3).length : Int)
                                              · rw [if_pos c32] at H
                                                have c32b0 : decide (x6_5 < ((rd_L1 l0_1 x5_3).length : Int)) = true := decide_eq_true c32
                                                clear c32
                                                replace H := Option.bind_eq_some_iff.mp H
                                                obtain ⟨t208, A330, H⟩ := H
                                                replace H : (if t208 = true then (spec_l07Is.l1 k5 (l0_0.length : Int) ((rd_L1 l0_0 0).length : Int) x5_3 (wrap64 (x6_5 + 1)) l0_0 l0_1) else (some false)) = some r := H
                                                have A33 := Aside0.mk A330
                                                clear A330
                                                by_cases c34 : t208 = true
                                                · subst c34
                                                  have H1 : (spec_l07Is.l1 k5 (l0_0.length : Int) ((rd_L1 l0_0 0).length : Int) x5_3 (wrap64 (x6_5 + 1)) l0_0 l0_1) = some r := by rw [if_pos rfl] at H; exact H
                                                  clear H
                                                  have H := H1
                                                  clear H1
                                                  have H' := Aside0.mk H
                                                  clear H
                                                  have hcz35_0 : wr.cell? ⟨gb199, 0, none⟩ = some (.slice (some ad200) l0_0.length c0_0) := (blk_cell BK199.out 0).trans rfl
                                                  have hcz35_1 : wr.cell? ⟨gb199, 1, none⟩ = some (.slice A0_1 l0_1.length c0_1) := (blk_cell BK199.out 1).trans rfl
                                                  have hfz35_0 := blk_frozen BK199.out 0
                                                  have hfz35_1 := blk_frozen BK199.out 1
                                                  have p203 : 0 ≤ (x5_3 : Int) := of_decide_eq_true (by first | (with_reducible assumption) | assumption)
                                                  have q203 : x5_3 < (l0_0.length : Int) := of_decide_eq_true (by first | (with_reducible assumption) | assumption)
                                                  obtain ⟨ad203, A203_0, c203_0, e203, hx203_0, hl203_0, hi203_0⟩ := at_L1 HR0_0.out x5_3 p203 q203
                                                  obtain rfl : ad200 = ad203 := (by injection e203)
                                                  replace hx203_0 := (HB.out.cell (World.block_lt_of_cell? w _ hx203_0)).trans hx203_0
                                                  have HR203_0 := Aside0.mk hi203_0
                                                  have HC203_0 := Aside0.mk hl203_0
                                                  clear hi203_0 hl203_0
                                                  replace p203 := eq_true p203
                                                  replace q203 := eq_true q203
                                                  have p204 : 0 ≤ (x6_5 : Int) := of_decide_eq_true (by first | (with_reducible assumption) | assumption)
                                                  have q204 : x6_5 < ((rd_L1 l0_0 x5_3).length : Int) := of_decide_eq_true (by first | (with_reducible assumption) | assumption)
                                                  obtain ⟨ad204, e204, hx204_0⟩ := Kd.at_int HR203_0.out x6_5 p204 q204
                                                  cases e204
                                                  replace hx204_0 := (HB.out.cell (World.block_lt_of_cell? w _ hx204_0)).trans hx204_0
                                                  replace p204 := eq_true p204
                                                  replace q204 := eq_true q204
                                                  go_wp2_with (first | ((with_reducible refine gate_callee (f := 87) rfl ?_); refine goesL_ (some 76) rfl rfl Try.func87 (by kernel_rfl) rfl #[.int .i64 (rd (rd_L1 l0_0 x5_3) x6_5), .int .i64 1, .int .i64 20] rfl (by (try simp only [List.map_toArray, List.map_cons, List.map_nil]); first | done | rfl | (simp only [List.length_drop, List.length_take]; rfl)) ?_; (with_reducible refine (spec_l01In.calls (rd (rd_L1 l0_0 x5_3) x6_5) 1 20 true _ A29.out).mono ?_); rintro e w' ⟨rfl, ⟨nd, rfl⟩⟩; refine ⟨_, rfl, ?_⟩; have p206 : 0 ≤ (x5_3 : Int) := of_decide_eq_true (by first | (with_reducible assumption) | assumption); have q206 : x5_3 < (l0_1.length : Int) := of_decide_eq_true (by first | (with_reducible assumption) | assumption); obtain ⟨ad206, A206_0, c206_0, e206, hx206_0, hl206_0, hi206_0⟩ := at_L1 HR0_1.out x5_3 p206 q206; cases e206; replace hx206_0 := (HB.out.cell (World.block_lt_of_cell? w _ hx206_0)).trans hx206_0; have HR206_0 := Aside0.mk hi206_0; have HC206_0 := Aside0.mk hl206_0; clear hi206_0 hl206_0; replace p206 := eq_true p206; replace q206 := eq_true q206; have p207 : 0 ≤ (x6_5 : Int) := of_decide_eq_true (by first | (with_reducible assumption) | assumption); have q207 : x6_5 < ((rd_L1 l0_1 x5_3).length : Int) := of_decide_eq_true (by first | (with_reducible assumption) | assumption); obtain ⟨ad207, e207, hx207_0⟩ := Kd.at_int HR206_0.out x6_5 p207 q207; cases e207; replace hx207_0 := (HB.out.cell (World.block_lt_of_cell? w _ hx207_0)).trans hx207_0; replace p207 := eq_true p207; replace q207 := eq_true q207) | (go_at_call 87; (with_reducible refine (spec_l01In.calls (rd (rd_L1 l0_1 x5_3) x6_5) 1 20 true _ A33.out).mono ?_); rintro e w' ⟨rfl, ⟨nd, rfl⟩⟩))
                                                  go_roundg k5
                                                  case measure => have := HJ1.out; have := HJ9.out; have := HK3.out; have := HJ15.out; have := HK5.out; omega
                                                  case rel => exact ⟨(wrap64 (x6_5 + 1)), (by first | rfl | (simp; done) | (simp [*]; done)), H', ⟨by have := HJ1.out; have := HJ9.out; have := HK3.out; have := HJ15.out; have := HK5.out; omega⟩, ⟨by (with_reducible repeat (first | refine blk_drewN ?_ _ | refine blk_drew ?_ | refine blk_alloc ?_ _)); exact BK199.out⟩, ⟨by repeat (first | (with_reducible first | exact HB.out | apply below_alloc | apply pw_below_drewN | apply below_drew1 | refine below_set ?_ GE199.out) | exact HB.out)⟩⟩
                                                · replace c34 := Bool.eq_false_iff.mpr c34
                                                  subst c34
                                                  have H1 : (some false) = some r := by rw [if_neg (show ¬ (false = true) by decide)] at H; exact H
                                                  clear H
                                                  have H := H1
                                                  clear H1
                                                  obtain rfl := Option.some.inj H
                                                  have hcz36_0 : wr.cell? ⟨gb199, 0, none⟩ = some (.slice (some ad200) l0_0.length c0_0) := (blk_cell BK199.out 0).trans rfl
                                                  have hcz36_1 : wr.cell? ⟨gb199, 1, none⟩ = some (.slice A0_1 l0_1.length c0_1) := (blk_cell BK199.out 1).trans rfl
                                                  have hfz36_0 := blk_frozen BK199.out 0
                                                  have hfz36_1 := blk_frozen BK199.out 1
                                                  have p203 : 0 ≤ (x5_3 : Int) := of_decide_eq_true (by first | (with_reducible assumption) | assumption)
                                                  have q203 : x5_3 < (l0_0.length : Int) := of_decide_eq_true (by first | (with_reducible assumption) | assumption)
                                                  obtain ⟨ad203, A203_0, c203_0, e203, hx203_0, hl203_0, hi203_0⟩ := at_L1 HR0_0.out x5_3 p203 q203
                                                  obtain rfl : ad200 = ad203 := (by injection e203)
                                                  replace hx203_0 := (HB.out.cell (World.block_lt_of_cell? w _ hx203_0)).trans hx203_0
                                                  have HR203_0 := Aside0.mk hi203_0
                                                  have HC203_0 := Aside0.mk hl203_0
                                                  clear hi203_0 hl203_0
                                                  replace p203 := eq_true p203
                                                  replace q203 := eq_true q203
                                                  have p204 : 0 ≤ (x6_5 : Int) := of_decide_eq_true (by first | (with_reducible assumption) | assumption)
                                                  have q204 : x6_5 < ((rd_L1 l0_0 x5_3).length : Int) := of_decide_eq_true (by first | (with_reducible assumption) | assumption)
                                                  obtain ⟨ad204, e204, hx204_0⟩ := Kd.at_int HR203_0.out x6_5 p204 q204
                                                  cases e204
                                                  replace hx204_0 := (HB.out.cell (World.block_lt_of_cell? w _ hx204_0)).trans hx204_0
                                                  replace p204 := eq_true p204
                                                  replace q204 := eq_true q204
                                                  go_wp2_with (first | ((with_reducible refine gate_callee (f := 87) rfl ?_); refine goesL_ (some 76) rfl rfl Try.func87 (by kernel_rfl) rfl #[.int .i64 (rd (rd_L1 l0_0 x5_3) x6_5), .int .i64 1, .int .i64 20] rfl (by (try simp only [List.map_toArray, List.map_cons, List.map_nil]); first | done | rfl | (simp only [List.length_drop, List.length_take]; rfl)) ?_; (with_reducible refine (spec_l01In.calls (rd (rd_L1 l0_0 x5_3) x6_5) 1 20 true _ A29.out).mono ?_); rintro e w' ⟨rfl, ⟨nd, rfl⟩⟩; refine ⟨_, rfl, ?_⟩; have p206 : 0 ≤ (x5_3 : Int) := of_decide_eq_true (by first | (with_reducible assumption) | assumption); have q206 : x5_3 < (l0_1.length : Int) := of_decide_eq_true (by first | (with_reducible assumption) | assumption); obtain ⟨ad206, A206_0, c206_0, e206, hx206_0, hl206_0, hi206_0⟩ := at_L1 HR0_1.out x5_3 p206 q206; cases e206; replace hx206_0 := (HB.out.cell (World.block_lt_of_cell? w _ hx206_0)).trans hx206_0; have HR206_0 := Aside0.mk hi206_0; have HC206_0 := Aside0.mk hl206_0; clear hi206_0 hl206_0; replace p206 := eq_true p206; replace q206 := eq_true q206; have p207 : 0 ≤ (x6_5 : Int) := of_decide_eq_true (by first | (with_reducible assumption) | assumption); have q207 : x6_5 < ((rd_L1 l0_1 x5_3).length : Int) := of_decide_eq_true (by first | (with_reducible assumption) | assumption); obtain ⟨ad207, e207, hx207_0⟩ := Kd.at_int HR206_0.out x6_5 p207 q207; cases e207; replace hx207_0 := (HB.out.cell (World.block_lt_of_cell? w _ hx207_0)).trans hx207_0; replace p207 := eq_true p207; replace q207 := eq_true q207) | (go_at_call 87; (with_reducible refine (spec_l01In.calls (rd (rd_L1 l0_1 x5_3) x6_5) 1 20 false _ A33.out).mono ?_); rintro e w' ⟨rfl, ⟨nd, rfl⟩⟩))
                                                  go_ret
                                                  exact ⟨by first | rfl | (simp [errW_none, errW_some] <;> rfl) | (simp [*, errW_none, errW_some] <;> rfl), by repeat (first | (with_reducible first | exact HB.out | apply below_alloc | apply pw_below_drewN | apply below_drew1 | refine below_set ?_ GE199.out) | exact HB.out)⟩
                                              · rw [if_neg c32] at H
                                                exact absurd H (by simp)
                                            · rw [if_neg c31] at H
                                              exact absurd H (by simp)
                                          · replace c30 := Bool.eq_false_iff.mpr c30
                                            subst c30
                                            have H1 : (some false) = some r := by rw [if_neg (show ¬ (false = true) by decide)] at H; exact H
                                            clear H
                                            have H := H1
                                            clear H1
                                            obtain rfl := Option.some.inj H
                                            have hcz37_0 : wr.cell? ⟨gb199, 0, none⟩ = some (.slice (some ad200) l0_0.length c0_0) := (blk_cell BK199.out 0).trans rfl
                                            have hcz37_1 : wr.cell? ⟨gb199, 1, none⟩ = some (.slice A0_1 l0_1.length c0_1) := (blk_cell BK199.out 1).trans rfl
                                            have hfz37_0 := blk_frozen BK199.out 0
                                            have hfz37_1 := blk_frozen BK199.out 1
                                            have p203 : 0 ≤ (x5_3 : Int) := of_decide_eq_true (by first | (with_reducible assumption) | assumption)
                                            have q203 : x5_3 < (l0_0.length : Int) := of_decide_eq_true (by first | (with_reducible assumption) | assumption)
                                            obtain ⟨ad203, A203_0, c203_0, e203, hx203_0, hl203_0, hi203_0⟩ := at_L1 HR0_0.out x5_3 p203 q203
                                            obtain rfl : ad200 = ad203 := (by injection e203)
                                            replace hx203_0 := (HB.out.cell (World.block_lt_of_cell? w _ hx203_0)).trans hx203_0
                                            have HR203_0 := Aside0.mk hi203_0
                                            have HC203_0 := Aside0.mk hl203_0
                                            clear hi203_0 hl203_0
                                            replace p203 := eq_true p203
                                            replace q203 := eq_true q203
                                            have p204 : 0 ≤ (x6_5 : Int) := of_decide_eq_true (by first | (with_reducible assumption) | assumption)
                                            have q204 : x6_5 < ((rd_L1 l0_0 x5_3).length : Int) := of_decide_eq_true (by first | (with_reducible assumption) | assumption)
                                            obtain ⟨ad204, e204, hx204_0⟩ := Kd.at_int HR203_0.out x6_5 p204 q204
                                            cases e204
                                            replace hx204_0 := (HB.out.cell (World.block_lt_of_cell? w _ hx204_0)).trans hx204_0
                                            replace p204 := eq_true p204
                                            replace q204 := eq_true q204
                                            go_wp2_with (first | ((with_reducible refine gate_callee (f := 87) rfl ?_); refine goesL_ (some 76) rfl rfl Try.func87 (by kernel_rfl) rfl #[.int .i64 (rd (rd_L1 l0_0 x5_3) x6_5), .int .i64 1, .int .i64 20] rfl (by (try simp only [List.map_toArray, List.map_cons, List.map_nil]); first | done | rfl | (simp only [List.length_drop, List.length_take]; rfl)) ?_; (with_reducible refine (spec_l01In.calls (rd (rd_L1 l0_0 x5_3) x6_5) 1 20 false _ A29.out).mono ?_); rintro e w' ⟨rfl, ⟨nd, rfl⟩⟩; refine ⟨_, rfl, ?_⟩))
                                            go_ret
                                            exact ⟨by first | rfl | (simp [errW_none, errW_some] <;> rfl) | (simp [*, errW_none, errW_some] <;> rfl), by repeat (first | (with_reducible first | exact HB.out | apply below_alloc | apply pw_below_drewN | apply below_drew1 | refine below_set ?_ GE199.out) | exact HB.out)⟩
                                        · rw [if_neg c28] at H
                                          exact absurd H (by simp)
                                      · rw [if_neg c27] at H
                                        exact absurd H (by simp)
                                    · rw [if_neg c26] at H
                                      exact absurd H (by simp)
                                  · rw [if_neg c25] at H
                                    exact absurd H (by simp)
                                · rw [if_neg c24] at H
                                  have c24b0 : decide (x6_5 < ((rd_L1 l0_0 0).length : Int)) = false := decide_eq_false c24
                                  clear c24
                                  have H' := Aside0.mk H
                                  clear H
                                  go_wp2
                                  go_roundg k5
                                  case measure => have := HJ1.out; have := HJ9.out; have := HK3.out; have := HJ15.out; have := HK5.out; omega
                                  case rel => exact ⟨(wrap64 (x5_3 + 1)), (by first | rfl | (simp; done) | (simp [*]; done)), H', ⟨by have := HJ1.out; have := HJ9.out; have := HK3.out; have := HJ15.out; have := HK5.out; omega⟩, ⟨by (with_reducible repeat (first | refine blk_drewN ?_ _ | refine blk_drew ?_ | refine blk_alloc ?_ _)); exact BK199.out⟩, ⟨by repeat (first | (with_reducible first | exact HB.out | apply below_alloc | apply pw_below_drewN | apply below_drew1 | refine below_set ?_ GE199.out) | exact HB.out)⟩⟩
                    · rw [if_neg c15] at H
                      have c15b0 : decide (x5_3 < (l0_0.length : Int)) = false := decide_eq_false c15
                      clear c15
                      obtain rfl := Option.some.inj H
                      go_wp2
                      go_ret
                      exact ⟨by first | rfl | (simp [errW_none, errW_some] <;> rfl) | (simp [*, errW_none, errW_some] <;> rfl), by repeat (first | (with_reducible first | exact HB.out | apply below_alloc | apply pw_below_drewN | apply below_drew1 | refine below_set ?_ GE199.out) | exact HB.out)⟩
        · rw [if_neg c9] at H
          exact absurd H (by simp)

end Go.Proofs.Ytjjbhdpjnjncbaa.Pr
