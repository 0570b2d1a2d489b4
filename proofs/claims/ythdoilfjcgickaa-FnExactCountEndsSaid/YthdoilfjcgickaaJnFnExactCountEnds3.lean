/- Texts of one claim (the words of the kit's print that the claim uses, printed functions, and this session's own texts), joined in the order of their imports by this session's own program (merge.py). -/
import Derived.WalkLawsBesides
import Derived.Test.YthdoilfjcgickaaJnFnExactCountEnds0
import Derived.Test.YthdoilfjcgickaaJnFnExactCountEnds1
import Derived.Test.YthdoilfjcgickaaJnFnExactCountEnds2
set_option linter.unusedVariables false
set_option linter.unusedSimpArgs false
set_option maxHeartbeats 8000000
set_option maxRecDepth 100000
section
namespace Go.Proofs.Ythdoilfjcgickaa.Pr
open Go.RowKit Go.Proofs.YthdoilfjcgickaaW.PrintWords Go.Proofs.YthdoilfjcgickaaW.PrintLast Go.Proofs.YthdoilfjcgickaaW.PrintMore
attribute [local go_sem] max2_int min2_int max_two min_two max_three min_three max_four min_four
def spec_l08Step.l0 : Nat → Int → Int → List (S65) → Int → Int → Int → Int → Int → Option (Int × Bool × Bool)
 | 0, _, _, _, _, _, _, _, _ => none
 | k + 1, x1, x2, x9, x11, x12, x13, x14, x15 => if x15 < (x9.length : Int) then (if 0 ≤ x15 then ((spec_l08Less.f ((rd_T65 x9 x15).f0) ((rd_T65 x9 x15).f1)).bind fun t637 => (if t637 = true then (if x11 < 0 then (if x13 < 0 then (if 0 ≤ (IntKind.u64.wrap (x15)) then (spec_l08Step.l0 k x1 x2 x9 x15 x15 x15 (Go.bits .or .i64 x14 (shl .i64 1 (IntKind.u64.wrap (x15)))) (wrap64 (x15 + 1))) else (none)) else (if 0 ≤ x13 then (if x13 < (x9.length : Int) then ((spec_l01Less.f ((rd_T65 x9 x15).f0) ((rd_T65 x9 x15).f1) ((rd_T65 x9 x13).f0) ((rd_T65 x9 x13).f1)).bind fun t640 => (if t640 = true then (if 0 ≤ (IntKind.u64.wrap (x15)) then (spec_l08Step.l0 k x1 x2 x9 x15 x15 x15 (Go.bits .or .i64 x14 (shl .i64 1 (IntKind.u64.wrap (x15)))) (wrap64 (x15 + 1))) else (none)) else (if 0 ≤ (IntKind.u64.wrap (x15)) then (spec_l08Step.l0 k x1 x2 x9 x15 x15 x13 (Go.bits .or .i64 x14 (shl .i64 1 (IntKind.u64.wrap (x15)))) (wrap64 (x15 + 1))) else (none)))) else (none)) else (none))) else (if x13 < 0 then (if 0 ≤ (IntKind.u64.wrap (x15)) then (spec_l08Step.l0 k x1 x2 x9 x11 x15 x15 (Go.bits .or .i64 x14 (shl .i64 1 (IntKind.u64.wrap (x15)))) (wrap64 (x15 + 1))) else (none)) else (if 0 ≤ x13 then (if x13 < (x9.length : Int) then ((spec_l01Less.f ((rd_T65 x9 x15).f0) ((rd_T65 x9 x15).f1) ((rd_T65 x9 x13).f0) ((rd_T65 x9 x13).f1)).bind fun t643 => (if t643 = true then (if 0 ≤ (IntKind.u64.wrap (x15)) then (spec_l08Step.l0 k x1 x2 x9 x11 x15 x15 (Go.bits .or .i64 x14 (shl .i64 1 (IntKind.u64.wrap (x15)))) (wrap64 (x15 + 1))) else (none)) else (if 0 ≤ (IntKind.u64.wrap (x15)) then (spec_l08Step.l0 k x1 x2 x9 x11 x15 x13 (Go.bits .or .i64 x14 (shl .i64 1 (IntKind.u64.wrap (x15)))) (wrap64 (x15 + 1))) else (none)))) else (none)) else (none)))) else (spec_l08Step.l0 k x1 x2 x9 x11 x12 x13 x14 (wrap64 (x15 + 1))))) else (none)) else (if x11 < 0 then (some (x1, false, true)) else (if x2 = 0 then (if 0 ≤ (IntKind.u64.wrap (x11)) then (some (Go.bits .xor .i64 x1 (shl .i64 1 (IntKind.u64.wrap (x11))), true, true)) else (none)) else (if x2 = 1 then (if 0 ≤ (IntKind.u64.wrap (x12)) then (some (Go.bits .xor .i64 x1 (shl .i64 1 (IntKind.u64.wrap (x12))), true, true)) else (none)) else (if x2 = 2 then (if 0 ≤ (IntKind.u64.wrap (x13)) then (some (Go.bits .xor .i64 x1 (shl .i64 1 (IntKind.u64.wrap (x13))), true, true)) else (none)) else (some (Go.bits .xor .i64 x1 x14, true, true))))))
def spec_l08Step.f (k : Nat) (l0_0 : List (List Int)) (l0_1 : List Int) (a1 : Int) (a2 : Int) : Option (Int × Bool × Bool) := (spec_l01Point.f k l0_0 l0_1 a1).bind fun bt632 => (if bt632.2 = true then (spec_l08Step.l0 k a1 a2 bt632.1 (-1) (-1) (-1) 0 0) else (some (a1, false, false)))
theorem spec_l08Step.mono_l : ∀ k, (∀ y0 y1 y2 y3 y4 y5 y6 y7, LeO (spec_l08Step.l0 k y0 y1 y2 y3 y4 y5 y6 y7) (spec_l08Step.l0 (k + 1) y0 y1 y2 y3 y4 y5 y6 y7))
 | 0 => fun _ _ _ _ _ _ _ _ r h => by simp [spec_l08Step.l0] at h
 | k + 1 => by
  have ih0 := spec_l08Step.mono_l k
  ·intro y0 y1 y2 y3 y4 y5 y6 y7
   unfold spec_l08Step.l0
   repeat' first
   | (with_reducible exact ih0 _ _ _ _ _ _ _ _)
   | (with_reducible exact spec_l01Point.mono _ _ _ _)
   | (with_reducible exact LeO.refl _)
   | (with_reducible exact LeO.none _)
   | (with_reducible refine LeO.ite ?_ ?_)
   | (with_reducible refine LeO.bind ?_ (fun _ => ?_))
   | exact ih0 _ _ _ _ _ _ _ _
   | exact spec_l01Point.mono _ _ _ _
   | exact LeO.none _
   | refine LeO.ite ?_ ?_
   | refine LeO.bind ?_ (fun _ => ?_)
theorem spec_l08Step.mono : ∀ a0 a1 a2 a3 k, LeO (spec_l08Step.f k a0 a1 a2 a3) (spec_l08Step.f (k + 1) a0 a1 a2 a3) := by
 intro a0 a1 a2 a3 k
 have ih0 := spec_l08Step.mono_l k
 unfold spec_l08Step.f
 repeat' first
   | (with_reducible exact ih0 _ _ _ _ _ _ _ _)
   | (with_reducible exact spec_l01Point.mono _ _ _ _)
   | (with_reducible exact LeO.refl _)
   | (with_reducible exact LeO.none _)
   | (with_reducible refine LeO.ite ?_ ?_)
   | (with_reducible refine LeO.bind ?_ (fun _ => ?_))
   | exact ih0 _ _ _ _ _ _ _ _
   | exact spec_l01Point.mono _ _ _ _
   | exact LeO.none _
   | refine LeO.ite ?_ ?_
   | refine LeO.bind ?_ (fun _ => ?_)
def spec_l08Step.T12 : Bool × List (List Nat × List Nat) := (true, [([], []), ([0], [0]), ([1], [1]), ([2], [2]), ([2], [2]), ([3, 4, 2], [2, 3, 4]), ([5, 2], [2, 5]), ([2], [2]), ([2], [2]), ([7, 8, 2], [2, 7, 8]), ([9, 2], [2, 9]), ([6, 10, 2, 2], [2, 6, 10]), ([2, 11], [2, 11])])
def spec_l08Step.B12 : List Nat := [0, 1, 3, 7, 7, 31, 63, 7, 7, 391, 903, 2047, 4095]
theorem spec_l08Step.tab12 : rtab .any (opsOf Try.f111 12) = spec_l08Step.T12 := by kernel_rfl
theorem spec_l08Step.bits12 : waitsOk spec_l08Step.T12.2 spec_l08Step.B12 = true := by kernel_rfl
theorem spec_l08Step.calls (k : Nat) (A0_0 : Option Addr) (c0_0 : Nat) (l0_0 : List (List Int)) (A0_1 : Option Addr) (c0_1 : Nat) (l0_1 : List Int) (a1 : Int) (a2 : Int) (r1 : Int) (r2 : Bool) (r3 : Bool) (w : World) (hr0_0 : Kd.C (Kd.slice 2 (Kd.int .i64)) w A0_0 l0_0.length l0_0) (hc0_0 : l0_0.length ≤ c0_0) (hr0_1 : Kd.C (Kd.int .i64) w A0_1 l0_1.length l0_1) (hc0_1 : l0_1.length ≤ c0_1) (h : spec_l08Step.f k l0_0 l0_1 a1 a2 = some (r1, r2, r3)) :
  Calls Try.prog 111 #[.agg #[.slice A0_0 l0_0.length c0_0, .slice A0_1 l0_1.length c0_1], .int .i64 a1, .int .i64 a2] w fun e w' => e = .returned (.tuple #[.int .i64 r1, .bool r2, .bool r3]) ∧ Below w.heap.size w w' := by
 have hu29 := Try.underlying29
 have hu65 := Try.underlying65
 have HR0_0 := Aside0.mk hr0_0
 have HC0_0 := Aside0.mk hc0_0
 clear hr0_0 hc0_0
 have HR0_1 := Aside0.mk hr0_1
 have HC0_1 := Aside0.mk hc0_1
 clear hr0_1 hc0_1
 have HB := Aside0.mk (Below.refl w.heap.size w)
 have H : ((spec_l01Point.f k l0_0 l0_1 a1).bind fun bt632 => (if bt632.2 = true then (spec_l08Step.l0 k a1 a2 bt632.1 (-1) (-1) (-1) 0 0) else (some (a1, false, false)))) = some (r1, r2, r3) := h
 clear h
 replace H := Option.bind_eq_some_iff.mp H
 obtain ⟨⟨t632, t635⟩, A40, H⟩ := H
 replace H : (if t635 = true then (spec_l08Step.l0 k a1 a2 t632 (-1) (-1) (-1) 0 0) else (some (a1, false, false))) = some (r1, r2, r3) := H
 have A4 := Aside0.mk A40
 clear A40
 by_cases c5 : t635 = true
 ·subst c5
  have H1 : (spec_l08Step.l0 k a1 a2 t632 (-1) (-1) (-1) 0 0) = some (r1, r2, r3) := by rw [if_pos rfl] at H; exact H
  clear H
  have H := H1
  clear H1
  have H' := Aside0.mk H
  clear H
  go_enter Try.func111, Try.ntmps111
  go_wp2_with (first | ((with_reducible refine gate_dst (N := 3) rfl ?_); refine box_event ?hg (N := 3) ?hd (cs := #[.slice A0_0 l0_0.length c0_0, .slice A0_1 l0_1.length c0_1]) (t := 29) ?hr ?_; (case hd => rfl); (case hg => rfl); (case hr => first | (go_simp; done) | (go_simp; rfl)); intro gb631 hg w6 hbox hb; have n0_ := Aside0.mk (below_step (by repeat (first | (with_reducible first | exact HB.out | apply below_alloc | apply pw_below_drewN | apply below_drew1) | exact HB.out)) hb); have n1_ := Aside0.mk (hbox); have n2_ := Aside0.mk ((by rw [hg]; exact (below_size (by repeat (first | (with_reducible first | exact HB.out | apply below_alloc | apply pw_below_drewN | apply below_drew1) | exact HB.out))) : w.heap.size ≤ gb631)); have n3_ := Aside0.mk ((by rw [hg]; exact (below_size (by repeat (first | (with_reducible first | exact HB.out | apply below_alloc | apply pw_below_drewN | apply below_drew1) | exact HB.out))) : w.heap.size ≤ gb631)); clear HB; have HB := n0_; have BK631 := n1_; have GW631 := n2_; have GE631 := n3_; clear n0_ n1_ n2_ n3_; clear hb hbox hg; have hcz7_0 : w6.cell? ⟨gb631, 0, none⟩ = some (.slice A0_0 l0_0.length c0_0) := (blk_cell BK631.out 0).trans rfl; have hcz7_1 : w6.cell? ⟨gb631, 1, none⟩ = some (.slice A0_1 l0_1.length c0_1) := (blk_cell BK631.out 1).trans rfl; have hfz7_0 := blk_frozen BK631.out 0; have hfz7_1 := blk_frozen BK631.out 1) | ((with_reducible refine gate_callee (f := 67) rfl ?_); refine goesL_ (some 19) rfl rfl Try.func67 (by kernel_rfl) rfl #[.agg #[.slice A0_0 l0_0.length c0_0, .slice A0_1 l0_1.length c0_1], .int .i64 a1] rfl (by (try simp only [List.map_toArray, List.map_cons, List.map_nil]); first | done | rfl | (simp only [List.length_drop, List.length_take]; rfl)) ?_; (with_reducible refine (spec_l01Point.calls k _ _ l0_0 _ _ l0_1 a1 t632 true _ ?side1 ?side2 ?side3 ?side4 A4.out).mono ?_); (case side1 => repeat (first | exact (Kd.C_below HR0_0.out HB.out) | (with_reducible refine Kd.C_alloc ?_ _) | (with_reducible refine Kd.C_drewN ?_ _) | (with_reducible refine Kd.C_drew ?_))); (case side2 => exact HC0_0.out); (case side3 => repeat (first | exact (Kd.C_below HR0_1.out HB.out) | (with_reducible refine Kd.C_alloc ?_ _) | (with_reducible refine Kd.C_drewN ?_ _) | (with_reducible refine Kd.C_drew ?_))); (case side4 => exact HC0_1.out); rintro e w8 ⟨v633, rfl, ho0, hb⟩; refine ⟨_, rfl, ?_⟩; have n0_ := Aside0.mk (Kd.R_lower ho0 (below_size (by repeat (first | (with_reducible first | exact HB.out | apply below_alloc | apply pw_below_drewN | apply below_drew1 | refine below_set ?_ GE631.out) | exact HB.out)))); have n1_ := Aside0.mk (blk_below (g := gb631) (o := .cells #[.slice A0_0 l0_0.length c0_0, .slice A0_1 l0_1.length c0_1] 29 (0, 0)) (by (with_reducible repeat (first | refine blk_drewN ?_ _ | refine blk_drew ?_ | refine blk_alloc ?_ _)); exact BK631.out) hb); have n2_ := Aside0.mk (below_step (by repeat (first | (with_reducible first | exact HB.out | apply below_alloc | apply pw_below_drewN | apply below_drew1 | refine below_set ?_ GE631.out) | exact HB.out)) hb); clear BK631; clear HB; have HO634 := n0_; have BK631 := n1_; have HB := n2_; clear n0_ n1_ n2_; (try clear hb); (try clear hb2); (try clear hk); (try clear hi); (try clear ho0)))
  go_loopg [11, 12, 13, 14, 15] k (fun kq v11 v12 v13 v14 v15 w' => ∃ (x11_1 : Int) (x12_1 : Int) (x13_1 : Int) (x14_1 : Int) (x15_1 : Int), v11 = .int .i64 x11_1 ∧ v12 = .int .i64 x12_1 ∧ v13 = .int .i64 x13_1 ∧ v14 = .int .i64 x14_1 ∧ v15 = .int .i64 x15_1 ∧ Aside0 (spec_l08Step.l0 kq a1 a2 t632 x11_1 x12_1 x13_1 x14_1 x15_1 = some (r1, r2, r3)) ∧ Aside0 (kq ≤ k) ∧ Aside0 (Kd.R k65 65 w' w.heap.size (fun _ => True) v633 t632) ∧ Aside0 (w'.heap[gb631]? = some (.cells #[(.slice A0_0 l0_0.length c0_0), (.slice A0_1 l0_1.length c0_1)] 29 (0, 0))) ∧ Aside0 (Below w.heap.size w w'))
  case atStart => exact ⟨((-1)), ((-1)), ((-1)), (0), (0), (by first | rfl | (simp; done) | (simp [*]; done)), (by first | rfl | (simp; done) | (simp [*]; done)), (by first | rfl | (simp; done) | (simp [*]; done)), (by first | rfl | (simp; done) | (simp [*]; done)), (by first | rfl | (simp; done) | (simp [*]; done)), H', ⟨Nat.le_refl _⟩, ⟨by (with_reducible repeat (first | apply Kd.R_alloc | apply Kd.R_drewN | apply Kd.R_drew)); exact HO634.out⟩, ⟨by (with_reducible repeat (first | refine blk_drewN ?_ _ | refine blk_drew ?_ | refine blk_alloc ?_ _)); exact BK631.out⟩, ⟨by repeat (first | (with_reducible first | exact HB.out | apply below_alloc | apply pw_below_drewN | apply below_drew1 | refine below_set ?_ GE631.out) | exact HB.out)⟩⟩
  case round =>
   clear H'
   try clear c1
   try clear p2
   try clear c5
   try clear c6
   try clear hcz7_0
   try clear hcz7_1
   try clear hfz7_0
   try clear hfz7_1
   obtain ⟨x11_1, x12_1, x13_1, x14_1, x15_1, rfl, rfl, rfl, rfl, rfl, HA, HK1, HO_9, BK631, HB⟩ := hrel
   cases gk with
   | zero => exact absurd HA.out (by simp [spec_l08Step.l0])
   | succ k1 =>
    have H := HA.out
    clear HA
    simp only [spec_l08Step.l0] at H
    by_cases c9 : x15_1 < (t632.length : Int)
    ·rw [if_pos c9] at H
     have c9b0 : decide (x15_1 < (t632.length : Int)) = true := decide_eq_true c9
     clear c9
     by_cases c10 : 0 ≤ x15_1
     ·rw [if_pos c10] at H
      have c10b0 : decide (0 ≤ x15_1) = true := decide_eq_true c10
      clear c10
      replace H := Option.bind_eq_some_iff.mp H
      obtain ⟨t637, A110, H⟩ := H
      replace H : (if t637 = true then (if x11_1 < 0 then (if x13_1 < 0 then (if 0 ≤ (IntKind.u64.wrap (x15_1)) then (spec_l08Step.l0 k1 a1 a2 t632 x15_1 x15_1 x15_1 (Go.bits .or .i64 x14_1 (shl .i64 1 (IntKind.u64.wrap (x15_1)))) (wrap64 (x15_1 + 1))) else (none)) else (if 0 ≤ x13_1 then (if x13_1 < (t632.length : Int) then ((spec_l01Less.f ((rd_T65 t632 x15_1).f0) ((rd_T65 t632 x15_1).f1) ((rd_T65 t632 x13_1).f0) ((rd_T65 t632 x13_1).f1)).bind fun t640 => (if t640 = true then (if 0 ≤ (IntKind.u64.wrap (x15_1)) then (spec_l08Step.l0 k1 a1 a2 t632 x15_1 x15_1 x15_1 (Go.bits .or .i64 x14_1 (shl .i64 1 (IntKind.u64.wrap (x15_1)))) (wrap64 (x15_1 + 1))) else (none)) else (if 0 ≤ (IntKind.u64.wrap (x15_1)) then (spec_l08Step.l0 k1 a1 a2 t632 x15_1 x15_1 x13_1 (Go.bits .or .i64 x14_1 (shl .i64 1 (IntKind.u64.wrap (x15_1)))) (wrap64 (x15_1 + 1))) else (none)))) else (none)) else (none))) else (if x13_1 < 0 then (if 0 ≤ (IntKind.u64.wrap (x15_1)) then (spec_l08Step.l0 k1 a1 a2 t632 x11_1 x15_1 x15_1 (Go.bits .or .i64 x14_1 (shl .i64 1 (IntKind.u64.wrap (x15_1)))) (wrap64 (x15_1 + 1))) else (none)) else (if 0 ≤ x13_1 then (if x13_1 < (t632.length : Int) then ((spec_l01Less.f ((rd_T65 t632 x15_1).f0) ((rd_T65 t632 x15_1).f1) ((rd_T65 t632 x13_1).f0) ((rd_T65 t632 x13_1).f1)).bind fun t643 => (if t643 = true then (if 0 ≤ (IntKind.u64.wrap (x15_1)) then (spec_l08Step.l0 k1 a1 a2 t632 x11_1 x15_1 x15_1 (Go.bits .or .i64 x14_1 (shl .i64 1 (IntKind.u64.wrap (x15_1)))) (wrap64 (x15_1 + 1))) else (none)) else (if 0 ≤ (IntKind.u64.wrap (x15_1)) then (spec_l08Step.l0 k1 a1 a2 t632 x11_1 x15_1 x13_1 (Go.bits .or .i64 x14_1 (shl .i64 1 (IntKind.u64.wrap (x15_1)))) (wrap64 (x15_1 + 1))) else (none)))) else (none)) else (none)))) else (spec_l08Step.l0 k1 a1 a2 t632 x11_1 x12_1 x13_1 x14_1 (wrap64 (x15_1 + 1)))) = some (r1, r2, r3) := H
      have A11 := Aside0.mk A110
      clear A110
      by_cases c12 : t637 = true
      ·subst c12
       have H1 : (if x11_1 < 0 then (if x13_1 < 0 then (if 0 ≤ (IntKind.u64.wrap (x15_1)) then (spec_l08Step.l0 k1 a1 a2 t632 x15_1 x15_1 x15_1 (Go.bits .or .i64 x14_1 (shl .i64 1 (IntKind.u64.wrap (x15_1)))) (wrap64 (x15_1 + 1))) else (none)) else (if 0 ≤ x13_1 then (if x13_1 < (t632.length : Int) then ((spec_l01Less.f ((rd_T65 t632 x15_1).f0) ((rd_T65 t632 x15_1).f1) ((rd_T65 t632 x13_1).f0) ((rd_T65 t632 x13_1).f1)).bind fun t640 => (if t640 = true then (if 0 ≤ (IntKind.u64.wrap (x15_1)) then (spec_l08Step.l0 k1 a1 a2 t632 x15_1 x15_1 x15_1 (Go.bits .or .i64 x14_1 (shl .i64 1 (IntKind.u64.wrap (x15_1)))) (wrap64 (x15_1 + 1))) else (none)) else (if 0 ≤ (IntKind.u64.wrap (x15_1)) then (spec_l08Step.l0 k1 a1 a2 t632 x15_1 x15_1 x13_1 (Go.bits .or .i64 x14_1 (shl .i64 1 (IntKind.u64.wrap (x15_1)))) (wrap64 (x15_1 + 1))) else (none)))) else (none)) else (none))) else (if x13_1 < 0 then (if 0 ≤ (IntKind.u64.wrap (x15_1)) then (spec_l08Step.l0 k1 a1 a2 t632 x11_1 x15_1 x15_1 (Go.bits .or .i64 x14_1 (shl .i64 1 (IntKind.u64.wrap (x15_1)))) (wrap64 (x15_1 + 1))) else (none)) else (if 0 ≤ x13_1 then (if x13_1 < (t632.length : Int) then ((spec_l01Less.f ((rd_T65 t632 x15_1).f0) ((rd_T65 t632 x15_1).f1) ((rd_T65 t632 x13_1).f0) ((rd_T65 t632 x13_1).f1)).bind fun t643 => (if t643 = true then (if 0 ≤ (IntKind.u64.wrap (x15_1)) then (spec_l08Step.l0 k1 a1 a2 t632 x11_1 x15_1 x15_1 (Go.bits .or .i64 x14_1 (shl .i64 1 (IntKind.u64.wrap (x15_1)))) (wrap64 (x15_1 + 1))) else (none)) else (if 0 ≤ (IntKind.u64.wrap (x15_1)) then (spec_l08Step.l0 k1 a1 a2 t632 x11_1 x15_1 x13_1 (Go.bits .or .i64 x14_1 (shl .i64 1 (IntKind.u64.wrap (x15_1)))) (wrap64 (x15_1 + 1))) else (none)))) else (none)) else (none)))) = some (r1, r2, r3) := by rw [if_pos rfl] at H; exact H
       clear H
       have H := H1
       clear H1
       by_cases c13 : x11_1 < 0
       ·rw [if_pos c13] at H
        have c13b0 : decide (x11_1 < 0) = true := decide_eq_true c13
        clear c13
        by_cases c14 : x13_1 < 0
        ·rw [if_pos c14] at H
         have c14b0 : decide (x13_1 < 0) = true := decide_eq_true c14
         clear c14
         obtain ⟨ji15, hji15⟩ : ∃ j_ : Int, (IntKind.u64.wrap (x15_1)) = j_ := ⟨_, rfl⟩
         replace H : (if 0 ≤ (ji15) then (spec_l08Step.l0 k1 a1 a2 t632 x15_1 x15_1 x15_1 (Go.bits .or .i64 x14_1 (shl .i64 1 (ji15))) (wrap64 (x15_1 + 1))) else (none)) = some (r1, r2, r3) := by first | (rw [hji15] at H; exact H) | (simp only [hji15] at H ⊢; exact H)
         (try rw [hji15] at A11)
         by_cases c16 : 0 ≤ (ji15)
         ·rw [if_pos c16] at H
          have c16b0 := eq_true c16
          have c16b1 : decide (0 ≤ (ji15)) = true := decide_eq_true c16
          clear c16
          obtain ⟨ji17, hji17⟩ : ∃ j_ : Int, (shl .i64 1 (ji15)) = j_ := ⟨_, rfl⟩
          replace H : (spec_l08Step.l0 k1 a1 a2 t632 x15_1 x15_1 x15_1 (Go.bits .or .i64 x14_1 (ji17)) (wrap64 (x15_1 + 1))) = some (r1, r2, r3) := by first | (rw [hji17] at H; exact H) | (simp only [hji17] at H ⊢; exact H)
          (try rw [hji17] at A11)
          have hji17_ : (IntKind.i64.wrap (1 * 2 ^ min (ji15).toNat 64)) = ji17 := hji17
          have hji17z : (ji15) ≤ 64 → (IntKind.i64.wrap (1 * 2 ^ (ji15).toNat)) = ji17 := shl_small hji17
          have hji17u : (IntKind.i64.wrap (2 ^ min (ji15).toNat 64)) = ji17 := by have h_ := hji17_; rw [Int.one_mul] at h_; exact h_
          have hji17v : (ji15) ≤ 64 → (IntKind.i64.wrap (2 ^ (ji15).toNat)) = ji17 := fun hle_ => by have h_ := hji17z hle_; rw [Int.one_mul] at h_; exact h_
          have hji17y : (wrap64 (1 * 2 ^ min (ji15).toNat 64)) = ji17 := (i64_w _).symm.trans hji17_
          have hji17x : (ji15) ≤ 64 → (wrap64 (1 * 2 ^ (ji15).toNat)) = ji17 := fun h_ => (i64_w _).symm.trans (hji17z h_)
          have H' := Aside0.mk H
          clear H
          obtain ⟨Ao18, co18, eo18⟩ := Kd.R_slice HO_9.out
          subst eo18
          have p636 : 0 ≤ (x15_1 : Int) := of_decide_eq_true (by first | (with_reducible assumption) | assumption)
          have q636 : x15_1 < (t632.length : Int) := of_decide_eq_true (by first | (with_reducible assumption) | assumption)
          obtain ⟨ad636, e636, hx636_0, hx636_1⟩ := at_T65 (Kd.R_reads' HO_9.out).2.2 x15_1 p636 q636
          cases e636
          replace p636 := eq_true p636
          replace q636 := eq_true q636
          try go_wp2_with (first | ((with_reducible refine gate_callee (f := 146) rfl ?_); refine goesL_ (some 35) rfl rfl Try.func146 (by kernel_rfl) rfl #[.agg #[.int .i64 ((rd_T65 t632 x15_1).f0), .int .i64 ((rd_T65 t632 x15_1).f1)]] rfl (by (try simp only [List.map_toArray, List.map_cons, List.map_nil]); first | done | rfl | (simp only [List.length_drop, List.length_take]; rfl)) ?_; (with_reducible refine (spec_l08Less.calls ((rd_T65 t632 x15_1).f0) ((rd_T65 t632 x15_1).f1) true _ A11.out).mono ?_); rintro e w19 ⟨rfl, hb⟩; refine ⟨_, rfl, ?_⟩; have n0_ := Aside0.mk (Kd.R_below (by (with_reducible repeat (first | apply Kd.R_alloc | apply Kd.R_drewN | apply Kd.R_drew)); exact HO_9.out) hb); have n1_ := Aside0.mk (blk_below (g := gb631) (o := .cells #[.slice A0_0 l0_0.length c0_0, .slice A0_1 l0_1.length c0_1] 29 (0, 0)) (by (with_reducible repeat (first | refine blk_drewN ?_ _ | refine blk_drew ?_ | refine blk_alloc ?_ _)); exact BK631.out) hb); have n2_ := Aside0.mk (below_step (by repeat (first | (with_reducible first | exact HB.out | apply below_alloc | apply pw_below_drewN | apply below_drew1 | refine below_set ?_ GE631.out) | exact HB.out)) hb); clear HO_9; clear BK631; clear HB; have HO_9 := n0_; have BK631 := n1_; have HB := n2_; clear n0_ n1_ n2_; (try clear hb); (try clear hb2); (try clear hk); (try clear hi)))
          have n0_ := Aside0.mk (Kd.R_drew HO_9.out)
          have n1_ := Aside0.mk (blk_drew BK631.out)
          have n2_ := Aside0.mk (below_drew1 HB.out)
          clear HO_9
          clear BK631
          clear HB
          have HO_9 := n0_
          have BK631 := n1_
          have HB := n2_
          clear n0_ n1_ n2_
          refine start_ (n := 13) (S := fun w' => True) (ds := []) #[false, false, false, false, false, false, false, false, false, false, false, false, false] (by kernel_rfl) rfl rfl trivial (fun hHeld => ?_); refine with_tabW spec_l08Step.tab12 spec_l08Step.bits12 (fun HT_ HW_ => ?_)
          generalize w19.drew = w20 at HO_9 BK631 HB hHeld ⊢
          refine pure_ (i := 0) (N := some 41) (v := ?_) (a' := ?_) #[true, false, false, false, false, false, false, false, false, false, false, false, false] rfl rfl (any_of HT_.out (by kernel_rfl)) (fun _ _ _ h => h) (Or.inl ⟨by rfl, ?_⟩) ?_ ?_
          rotate_left
          ·intro w'
           go_simp
           with_reducible rfl
          rotate_left
          ·simp only [Act.put, List.setIfInBounds_toArray, List.set_cons_zero, List.set_cons_succ, i64_w, i32_w]
           rfl
          refine pure_ (i := 1) (N := some 42) (v := ?_) (a' := ?_) #[true, true, false, false, false, false, false, false, false, false, false, false, false] rfl rfl (any_of HT_.out (by kernel_rfl)) (fun _ _ _ h => h) (Or.inl ⟨by rfl, ?_⟩) ?_ ?_
          rotate_left
          ·intro w'
           go_simp
           with_reducible rfl
          rotate_left
          ·simp only [Act.put, List.setIfInBounds_toArray, List.set_cons_zero, List.set_cons_succ, i64_w, i32_w]
           rfl
          refine pure_ (i := 2) (N := some 43) (v := ?_) (a' := ?_) #[true, true, true, false, false, false, false, false, false, false, false, false, false] rfl rfl (any_of HT_.out (by kernel_rfl)) (fun _ _ _ h => h) (Or.inl ⟨by rfl, ?_⟩) ?_ ?_
          rotate_left
          ·intro w'
           go_simp
           with_reducible rfl
          rotate_left
          ·simp only [Act.put, List.setIfInBounds_toArray, List.set_cons_zero, List.set_cons_succ, i64_w, i32_w]
           rfl
          refine pure_ (i := 3) (N := some 44) (v := undef) (a' := ?_) #[true, true, true, true, false, false, false, false, false, false, false, false, false] rfl rfl (any_of HT_.out (by kernel_rfl)) (fun _ _ _ h => h) (Or.inr ⟨by rfl, rfl⟩) ?_ ?_
          rotate_left
          ·simp only [Act.put, List.setIfInBounds_toArray, List.set_cons_zero, List.set_cons_succ, i64_w, i32_w]
           rfl
          refine pure_ (i := 4) (N := some 45) (v := undef) (a' := ?_) #[true, true, true, true, true, false, false, false, false, false, false, false, false] rfl rfl (any_of HT_.out (by kernel_rfl)) (fun _ _ _ h => h) (Or.inr ⟨by rfl, rfl⟩) ?_ ?_
          rotate_left
          ·simp only [Act.put, List.setIfInBounds_toArray, List.set_cons_zero, List.set_cons_succ, i64_w, i32_w]
           rfl
          refine pure_ (i := 5) (N := some 46) (v := undef) (a' := ?_) #[true, true, true, true, true, true, false, false, false, false, false, false, false] rfl rfl (any_of HT_.out (by kernel_rfl)) (fun _ _ _ h => h) (Or.inr ⟨by rfl, rfl⟩) ?_ ?_
          rotate_left
          ·simp only [Act.put, List.setIfInBounds_toArray, List.set_cons_zero, List.set_cons_succ, i64_w, i32_w]
           rfl
          refine pure_ (i := 6) (N := some 47) (v := undef) (a' := ?_) #[true, true, true, true, true, true, true, false, false, false, false, false, false] rfl rfl (any_of HT_.out (by kernel_rfl)) (fun _ _ _ h => h) (Or.inr ⟨by rfl, rfl⟩) ?_ ?_
          rotate_left
          ·simp only [Act.put, List.setIfInBounds_toArray, List.set_cons_zero, List.set_cons_succ, i64_w, i32_w]
           rfl
          refine pure_ (i := 7) (N := some 48) (v := undef) (a' := ?_) #[true, true, true, true, true, true, true, true, false, false, false, false, false] rfl rfl (any_of HT_.out (by kernel_rfl)) (fun _ _ _ h => h) (Or.inr ⟨by rfl, rfl⟩) ?_ ?_
          rotate_left
          ·simp only [Act.put, List.setIfInBounds_toArray, List.set_cons_zero, List.set_cons_succ, i64_w, i32_w]
           rfl
          refine pure_ (i := 8) (N := some 49) (v := undef) (a' := ?_) #[true, true, true, true, true, true, true, true, true, false, false, false, false] rfl rfl (any_of HT_.out (by kernel_rfl)) (fun _ _ _ h => h) (Or.inr ⟨by rfl, rfl⟩) ?_ ?_
          rotate_left
          ·simp only [Act.put, List.setIfInBounds_toArray, List.set_cons_zero, List.set_cons_succ, i64_w, i32_w]
           rfl
          refine pure_ (i := 9) (N := some 50) (v := undef) (a' := ?_) #[true, true, true, true, true, true, true, true, true, true, false, false, false] rfl rfl (any_of HT_.out (by kernel_rfl)) (fun _ _ _ h => h) (Or.inr ⟨by rfl, rfl⟩) ?_ ?_
          rotate_left
          ·simp only [Act.put, List.setIfInBounds_toArray, List.set_cons_zero, List.set_cons_succ, i64_w, i32_w]
           rfl
          refine pure_ (i := 10) (N := some 51) (v := undef) (a' := ?_) #[true, true, true, true, true, true, true, true, true, true, true, false, false] rfl rfl (any_of HT_.out (by kernel_rfl)) (fun _ _ _ h => h) (Or.inr ⟨by rfl, rfl⟩) ?_ ?_
          rotate_left
          ·simp only [Act.put, List.setIfInBounds_toArray, List.set_cons_zero, List.set_cons_succ, i64_w, i32_w]
           rfl
          refine pure_ (i := 11) (N := some 52) (v := undef) (a' := ?_) #[true, true, true, true, true, true, true, true, true, true, true, true, false] rfl rfl (any_of HT_.out (by kernel_rfl)) (fun _ _ _ h => h) (Or.inr ⟨by rfl, rfl⟩) ?_ ?_
          rotate_left
          ·simp only [Act.put, List.setIfInBounds_toArray, List.set_cons_zero, List.set_cons_succ, i64_w, i32_w]
           rfl
          refine pure_ (i := 12) (N := some 53) (v := ?_) (a' := ?_) #[true, true, true, true, true, true, true, true, true, true, true, true, true] rfl rfl (any_of HT_.out (by kernel_rfl)) (fun _ _ _ h => h) (Or.inl ⟨by rfl, ?_⟩) ?_ ?_
          rotate_left
          ·intro w'
           go_simp
           with_reducible rfl
          rotate_left
          ·simp only [Act.put, List.setIfInBounds_toArray, List.set_cons_zero, List.set_cons_succ, i64_w, i32_w]
           rfl
          refine done_ (done_of HT_.out (by kernel_rfl)) ?_
          try go_wp2
          go_roundg k1
          case measure => have := HK1.out; omega
          case rel => exact ⟨(x15_1), (x15_1), (x15_1), (Go.bits .or .i64 x14_1 (ji17)), (wrap64 (x15_1 + 1)), (by first | rfl | (simp; done) | (simp [*]; done)), (by first | rfl | (simp; done) | (simp [*]; done)), (by first | rfl | (simp; done) | (simp [*]; done)), (by first | rfl | (simp; done) | (simp only [← hji17] <;> (first | rfl | simp)) | (simp [*]; done)), (by first | rfl | (simp; done) | (simp [*]; done)), H', ⟨by have := HK1.out; omega⟩, ⟨by (with_reducible repeat (first | apply Kd.R_alloc | apply Kd.R_drewN | apply Kd.R_drew)); exact HO_9.out⟩, ⟨by (with_reducible repeat (first | refine blk_drewN ?_ _ | refine blk_drew ?_ | refine blk_alloc ?_ _)); exact BK631.out⟩, ⟨by repeat (first | (with_reducible first | exact HB.out | apply below_alloc | apply pw_below_drewN | apply below_drew1 | refine below_set ?_ GE631.out) | exact HB.out)⟩⟩
         ·rw [if_neg c16] at H
          exact absurd H (by simp)
        ·rw [if_neg c14] at H
         have c14b0 : decide (x13_1 < 0) = false := decide_eq_false c14
         clear c14
         by_cases c21 : 0 ≤ x13_1
         ·rw [if_pos c21] at H
          have c21b0 : decide (0 ≤ x13_1) = true := decide_eq_true c21
          clear c21
          by_cases c22 : x13_1 < (t632.length : Int)
          ·rw [if_pos c22] at H
           have c22b0 : decide (x13_1 < (t632.length : Int)) = true := decide_eq_true c22
           clear c22
           replace H := Option.bind_eq_some_iff.mp H
           obtain ⟨t640, A230, H⟩ := H
           replace H : (if t640 = true then (if 0 ≤ (IntKind.u64.wrap (x15_1)) then (spec_l08Step.l0 k1 a1 a2 t632 x15_1 x15_1 x15_1 (Go.bits .or .i64 x14_1 (shl .i64 1 (IntKind.u64.wrap (x15_1)))) (wrap64 (x15_1 + 1))) else (none)) else (if 0 ≤ (IntKind.u64.wrap (x15_1)) then (spec_l08Step.l0 k1 a1 a2 t632 x15_1 x15_1 x13_1 (Go.bits .or .i64 x14_1 (shl .i64 1 (IntKind.u64.wrap (x15_1)))) (wrap64 (x15_1 + 1))) else (none))) = some (r1, r2, r3) := H
           have A23 := Aside0.mk A230
           clear A230
           by_cases c24 : t640 = true
           ·subst c24
            have H1 : (if 0 ≤ (IntKind.u64.wrap (x15_1)) then (spec_l08Step.l0 k1 a1 a2 t632 x15_1 x15_1 x15_1 (Go.bits .or .i64 x14_1 (shl .i64 1 (IntKind.u64.wrap (x15_1)))) (wrap64 (x15_1 + 1))) else (none)) = some (r1, r2, r3) := by rw [if_pos rfl] at H; exact H
            clear H
            have H := H1
            clear H1
            try clear hji15
            try clear hji15_
            try clear hji15z
            try clear hji15u
            try clear hji15v
            try clear hji15y
            try clear hji15x
            try clear hji15w
            obtain ⟨ji25, hji25⟩ : ∃ j_ : Int, (IntKind.u64.wrap (x15_1)) = j_ := ⟨_, rfl⟩
            replace H : (if 0 ≤ (ji25) then (spec_l08Step.l0 k1 a1 a2 t632 x15_1 x15_1 x15_1 (Go.bits .or .i64 x14_1 (shl .i64 1 (ji25))) (wrap64 (x15_1 + 1))) else (none)) = some (r1, r2, r3) := by first | (rw [hji25] at H; exact H) | (simp only [hji25] at H ⊢; exact H)
            (try rw [hji25] at A11)
            (try rw [hji25] at A23)
            by_cases c26 : 0 ≤ (ji25)
            ·rw [if_pos c26] at H
             have c26b0 := eq_true c26
             have c26b1 : decide (0 ≤ (ji25)) = true := decide_eq_true c26
             clear c26
             obtain ⟨ji27, hji27⟩ : ∃ j_ : Int, (shl .i64 1 (ji25)) = j_ := ⟨_, rfl⟩
             replace H : (spec_l08Step.l0 k1 a1 a2 t632 x15_1 x15_1 x15_1 (Go.bits .or .i64 x14_1 (ji27)) (wrap64 (x15_1 + 1))) = some (r1, r2, r3) := by first | (rw [hji27] at H; exact H) | (simp only [hji27] at H ⊢; exact H)
             (try rw [hji27] at A11)
             (try rw [hji27] at A23)
             have hji27_ : (IntKind.i64.wrap (1 * 2 ^ min (ji25).toNat 64)) = ji27 := hji27
             have hji27z : (ji25) ≤ 64 → (IntKind.i64.wrap (1 * 2 ^ (ji25).toNat)) = ji27 := shl_small hji27
             have hji27u : (IntKind.i64.wrap (2 ^ min (ji25).toNat 64)) = ji27 := by have h_ := hji27_; rw [Int.one_mul] at h_; exact h_
             have hji27v : (ji25) ≤ 64 → (IntKind.i64.wrap (2 ^ (ji25).toNat)) = ji27 := fun hle_ => by have h_ := hji27z hle_; rw [Int.one_mul] at h_; exact h_
             have hji27y : (wrap64 (1 * 2 ^ min (ji25).toNat 64)) = ji27 := (i64_w _).symm.trans hji27_
             have hji27x : (ji25) ≤ 64 → (wrap64 (1 * 2 ^ (ji25).toNat)) = ji27 := fun h_ => (i64_w _).symm.trans (hji27z h_)
             have H' := Aside0.mk H
             clear H
             obtain ⟨Ao28, co28, eo28⟩ := Kd.R_slice HO_9.out
             subst eo28
             have p636 : 0 ≤ (x15_1 : Int) := of_decide_eq_true (by first | (with_reducible assumption) | assumption)
             have q636 : x15_1 < (t632.length : Int) := of_decide_eq_true (by first | (with_reducible assumption) | assumption)
             obtain ⟨ad636, e636, hx636_0, hx636_1⟩ := at_T65 (Kd.R_reads' HO_9.out).2.2 x15_1 p636 q636
             cases e636
             replace p636 := eq_true p636
             replace q636 := eq_true q636
             try go_wp2_with (first | ((with_reducible refine gate_callee (f := 146) rfl ?_); refine goesL_ (some 35) rfl rfl Try.func146 (by kernel_rfl) rfl #[.agg #[.int .i64 ((rd_T65 t632 x15_1).f0), .int .i64 ((rd_T65 t632 x15_1).f1)]] rfl (by (try simp only [List.map_toArray, List.map_cons, List.map_nil]); first | done | rfl | (simp only [List.length_drop, List.length_take]; rfl)) ?_; (with_reducible refine (spec_l08Less.calls ((rd_T65 t632 x15_1).f0) ((rd_T65 t632 x15_1).f1) true _ A11.out).mono ?_); rintro e w29 ⟨rfl, hb⟩; refine ⟨_, rfl, ?_⟩; have n0_ := Aside0.mk (Kd.R_below (by (with_reducible repeat (first | apply Kd.R_alloc | apply Kd.R_drewN | apply Kd.R_drew)); exact HO_9.out) hb); have n1_ := Aside0.mk (blk_below (g := gb631) (o := .cells #[.slice A0_0 l0_0.length c0_0, .slice A0_1 l0_1.length c0_1] 29 (0, 0)) (by (with_reducible repeat (first | refine blk_drewN ?_ _ | refine blk_drew ?_ | refine blk_alloc ?_ _)); exact BK631.out) hb); have n2_ := Aside0.mk (below_step (by repeat (first | (with_reducible first | exact HB.out | apply below_alloc | apply pw_below_drewN | apply below_drew1 | refine below_set ?_ GE631.out) | exact HB.out)) hb); clear HO_9; clear BK631; clear HB; have HO_9 := n0_; have BK631 := n1_; have HB := n2_; clear n0_ n1_ n2_; (try clear hb); (try clear hb2); (try clear hk); (try clear hi)))
             have n0_ := Aside0.mk (Kd.R_drew HO_9.out)
             have n1_ := Aside0.mk (blk_drew BK631.out)
             have n2_ := Aside0.mk (below_drew1 HB.out)
             clear HO_9
             clear BK631
             clear HB
             have HO_9 := n0_
             have BK631 := n1_
             have HB := n2_
             clear n0_ n1_ n2_
             have p638 : 0 ≤ (x15_1 : Int) := of_decide_eq_true (by first | (with_reducible assumption) | assumption)
             have q638 : x15_1 < (t632.length : Int) := of_decide_eq_true (by first | (with_reducible assumption) | assumption)
             obtain ⟨ad638, e638, hx638_0, hx638_1⟩ := at_T65 (Kd.R_reads' HO_9.out).2.2 x15_1 p638 q638
             obtain rfl : ad636 = ad638 := (by injection e638)
             replace p638 := eq_true p638
             replace q638 := eq_true q638
             have p639 : 0 ≤ (x13_1 : Int) := of_decide_eq_true (by first | (with_reducible assumption) | assumption)
             have q639 : x13_1 < (t632.length : Int) := of_decide_eq_true (by first | (with_reducible assumption) | assumption)
             obtain ⟨ad639, e639, hx639_0, hx639_1⟩ := at_T65 (Kd.R_reads' HO_9.out).2.2 x13_1 p639 q639
             obtain rfl : ad636 = ad639 := (by injection e639)
             replace p639 := eq_true p639
             replace q639 := eq_true q639
             refine start_ (n := 13) (S := fun w' => w'.cell? (ad636.add ((x15_1).toNat * 2)) = some (.int .i64 ((rd_T65 t632 x15_1).f0)) ∧ w'.cell? ⟨(ad636.add ((x15_1).toNat * 2)).block, (ad636.add ((x15_1).toNat * 2)).off + 1, none⟩ = some (.int .i64 ((rd_T65 t632 x15_1).f1)) ∧ w'.cell? (ad636.add ((x13_1).toNat * 2)) = some (.int .i64 ((rd_T65 t632 x13_1).f0)) ∧ w'.cell? ⟨(ad636.add ((x13_1).toNat * 2)).block, (ad636.add ((x13_1).toNat * 2)).off + 1, none⟩ = some (.int .i64 ((rd_T65 t632 x13_1).f1))) (ds := []) #[false, false, false, false, false, false, false, false, false, false, false, false, false] (by kernel_rfl) rfl rfl ⟨hx638_0, hx638_1, hx639_0, hx639_1⟩ (fun hHeld => ?_); refine with_tabW spec_l08Step.tab12 spec_l08Step.bits12 (fun HT_ HW_ => ?_)
             generalize w29.drew = w30 at HO_9 BK631 HB hx638_0 hx638_1 hx639_0 hx639_1 hHeld ⊢
             refine pure_ (i := 0) (N := some 41) (v := ?_) (a' := ?_) #[true, false, false, false, false, false, false, false, false, false, false, false, false] rfl rfl (any_of HT_.out (by kernel_rfl)) (fun _ _ _ h => h) (Or.inl ⟨by rfl, ?_⟩) ?_ ?_
             rotate_left
             ·intro w'
              go_simp
              with_reducible rfl
             rotate_left
             ·simp only [Act.put, List.setIfInBounds_toArray, List.set_cons_zero, List.set_cons_succ, i64_w, i32_w]
              rfl
             refine pure_ (i := 1) (N := some 42) (v := ?_) (a' := ?_) #[true, true, false, false, false, false, false, false, false, false, false, false, false] rfl rfl (any_of HT_.out (by kernel_rfl)) (fun _ _ _ h => h) (Or.inl ⟨by rfl, ?_⟩) ?_ ?_
             rotate_left
             ·intro w'
              go_simp
              with_reducible rfl
             rotate_left
             ·simp only [Act.put, List.setIfInBounds_toArray, List.set_cons_zero, List.set_cons_succ, i64_w, i32_w]
              rfl
             refine pure_ (i := 2) (N := some 43) (v := ?_) (a' := ?_) #[true, true, true, false, false, false, false, false, false, false, false, false, false] rfl rfl (any_of HT_.out (by kernel_rfl)) (fun _ _ _ h => h) (Or.inl ⟨by rfl, ?_⟩) ?_ ?_
             rotate_left
             ·intro w'
              go_simp
              with_reducible rfl
             rotate_left
             ·simp only [Act.put, List.setIfInBounds_toArray, List.set_cons_zero, List.set_cons_succ, i64_w, i32_w]
              rfl
             refine pure_ (i := 3) (N := some 44) (v := ?_) (a' := ?_) #[true, true, true, true, false, false, false, false, false, false, false, false, false] rfl rfl (any_of HT_.out (by kernel_rfl)) (fun _ _ _ h => h) (Or.inl ⟨by rfl, ?_⟩) ?_ ?_
             rotate_left
             ·intro w'
              go_simp
              with_reducible rfl
             rotate_left
             ·simp only [Act.put, List.setIfInBounds_toArray, List.set_cons_zero, List.set_cons_succ, i64_w, i32_w]
              rfl
             refine pure_ (i := 4) (N := some 45) (v := ?_) (a' := ?_) #[true, true, true, true, true, false, false, false, false, false, false, false, false] rfl rfl (any_of HT_.out (by kernel_rfl)) (fun _ _ _ h => h) (Or.inl ⟨by rfl, ?_⟩) ?_ ?_
             rotate_left
             ·intro w'
              go_simp
              with_reducible rfl
             rotate_left
             ·simp only [Act.put, List.setIfInBounds_toArray, List.set_cons_zero, List.set_cons_succ, i64_w, i32_w]
              rfl
             refine pure_ (i := 5) (N := some 46) (v := ?_) (a' := ?_) #[true, true, true, true, true, true, false, false, false, false, false, false, false] rfl rfl (any_of HT_.out (by kernel_rfl)) (fun _ _ _ h => h) (Or.inl ⟨by rfl, ?_⟩) ?_ ?_
             rotate_left
             ·intro w'
              go_simp
              with_reducible rfl
             rotate_left
             ·simp only [Act.put, List.setIfInBounds_toArray, List.set_cons_zero, List.set_cons_succ, i64_w, i32_w]
              rfl
             refine pure_ (i := 7) (N := some 48) (v := ?_) (a' := ?_) #[true, true, true, true, true, true, false, true, false, false, false, false, false] rfl rfl (any_of HT_.out (by kernel_rfl)) (fun _ _ _ h => h) (Or.inl ⟨by rfl, ?_⟩) ?_ ?_
             rotate_left
             ·intro w'
              go_simp
              with_reducible rfl
             rotate_left
             ·simp only [Act.put, List.setIfInBounds_toArray, List.set_cons_zero, List.set_cons_succ, i64_w, i32_w]
              rfl
             refine pure_ (i := 8) (N := some 49) (v := ?_) (a' := ?_) #[true, true, true, true, true, true, false, true, true, false, false, false, false] rfl rfl (any_of HT_.out (by kernel_rfl)) (fun _ _ _ h => h) (Or.inl ⟨by rfl, ?_⟩) ?_ ?_
             rotate_left
             ·intro w'
              go_simp
              with_reducible rfl
             rotate_left
             ·simp only [Act.put, List.setIfInBounds_toArray, List.set_cons_zero, List.set_cons_succ, i64_w, i32_w]
              rfl
             refine pure_ (i := 9) (N := some 50) (v := ?_) (a' := ?_) #[true, true, true, true, true, true, false, true, true, true, false, false, false] rfl rfl (any_of HT_.out (by kernel_rfl)) (fun _ _ _ h => h) (Or.inl ⟨by rfl, ?_⟩) ?_ ?_
             rotate_left
             ·intro w'
              go_simp
              with_reducible rfl
             rotate_left
             ·simp only [Act.put, List.setIfInBounds_toArray, List.set_cons_zero, List.set_cons_succ, i64_w, i32_w]
              rfl
             refine take_ (i := 6) (N := some 47) (v := ?_) (a' := ?_) #[true, true, true, true, true, true, true, true, true, true, false, false, false] rfl rfl (take_ofW HT_.out HW_.out (by kernel_rfl)) (fun _ _ _ h => h) (Or.inl ⟨by rfl, ?_⟩) hHeld ?_ ?_
             rotate_left
             ·rintro w' ⟨s0, s1, s2, s3⟩
              go_simp
              with_reducible rfl
             rotate_left
             ·simp only [Act.put, List.setIfInBounds_toArray, List.set_cons_zero, List.set_cons_succ, i64_w, i32_w]
              rfl
             refine take_ (i := 10) (N := some 51) (v := ?_) (a' := ?_) #[true, true, true, true, true, true, true, true, true, true, true, false, false] rfl rfl (take_ofW HT_.out HW_.out (by kernel_rfl)) (fun _ _ _ h => h) (Or.inl ⟨by rfl, ?_⟩) hHeld ?_ ?_
             rotate_left
             ·rintro w' ⟨s0, s1, s2, s3⟩
              go_simp
              with_reducible rfl
             rotate_left
             ·simp only [Act.put, List.setIfInBounds_toArray, List.set_cons_zero, List.set_cons_succ, i64_w, i32_w]
              rfl
             refine one_ (i := 11) (N := some 52) #[true, true, true, true, true, true, true, true, true, true, true, true, false] rfl rfl (one_of HT_.out (by kernel_rfl)) (by decide) (fun K hK => ?_)
             refine goes_ Try.func147 (by kernel_rfl) rfl #[.agg #[.int .i64 ((rd_T65 t632 x15_1).f0), .int .i64 ((rd_T65 t632 x15_1).f1)], .agg #[.int .i64 ((rd_T65 t632 x13_1).f0), .int .i64 ((rd_T65 t632 x13_1).f1)]] (by rfl) rfl rfl (by (try simp only [List.map_toArray, List.map_cons, List.map_nil]); first | done | rfl | (simp only [List.length_drop, List.length_take]; rfl)) ?_
             with_reducible refine (spec_l01Less.calls ((rd_T65 t632 x15_1).f0) ((rd_T65 t632 x15_1).f1) ((rd_T65 t632 x13_1).f0) ((rd_T65 t632 x13_1).f1) true _ A23.out).mono ?_
             rintro e w31 ⟨rfl, hb⟩
             have HS0_ := (hb.cell (World.block_lt_of_cell? _ _ (hHeld.1))).trans (hHeld.1)
             have HS1_ := (hb.cell (World.block_lt_of_cell? _ _ (hHeld.2.1))).trans (hHeld.2.1)
             have HS2_ := (hb.cell (World.block_lt_of_cell? _ _ (hHeld.2.2.1))).trans (hHeld.2.2.1)
             have HS3_ := (hb.cell (World.block_lt_of_cell? _ _ (hHeld.2.2.2))).trans (hHeld.2.2.2)
             refine ⟨_, rfl, ?_⟩
             have n0_ := Aside0.mk (Kd.R_below (by (with_reducible repeat (first | apply Kd.R_alloc | apply Kd.R_drewN | apply Kd.R_drew)); exact HO_9.out) hb)
             have n1_ := Aside0.mk (blk_below (g := gb631) (o := .cells #[.slice A0_0 l0_0.length c0_0, .slice A0_1 l0_1.length c0_1] 29 (0, 0)) (by (with_reducible repeat (first | refine blk_drewN ?_ _ | refine blk_drew ?_ | refine blk_alloc ?_ _)); exact BK631.out) hb)
             have n2_ := Aside0.mk (below_step (by repeat (first | (with_reducible first | exact HB.out | apply below_alloc | apply pw_below_drewN | apply below_drew1 | refine below_set ?_ GE631.out) | exact HB.out)) hb)
             clear HO_9
             clear BK631
             clear HB
             have HO_9 := n0_
             have BK631 := n1_
             have HB := n2_
             clear n0_ n1_ n2_
             (try clear hb)
             (try clear hb2)
             (try clear hk)
             (try clear hi)
             refine hK.out _ _ ⟨HS0_, HS1_, HS2_, HS3_⟩ (fun hHeld => ?_)
             clear hK K
             refine norm_ (a' := ?_) ?_ ?_
             rotate_left
             ·show Act.put _ (some 52) _ = _
              simp only [Act.put, List.setIfInBounds_toArray, List.set_cons_zero, List.set_cons_succ, i64_w, i32_w]
              rfl
             refine pure_ (i := 12) (N := some 53) (v := ?_) (a' := ?_) #[true, true, true, true, true, true, true, true, true, true, true, true, true] rfl rfl (any_of HT_.out (by kernel_rfl)) (fun _ _ _ h => h) (Or.inl ⟨by rfl, ?_⟩) ?_ ?_
             rotate_left
             ·intro w'
              go_simp
              with_reducible rfl
             rotate_left
             ·simp only [Act.put, List.setIfInBounds_toArray, List.set_cons_zero, List.set_cons_succ, i64_w, i32_w]
              rfl
             refine done_ (done_of HT_.out (by kernel_rfl)) ?_
             try go_wp2
             go_roundg k1
             case measure => have := HK1.out; omega
             case rel => exact ⟨(x15_1), (x15_1), (x15_1), (Go.bits .or .i64 x14_1 (ji27)), (wrap64 (x15_1 + 1)), (by first | rfl | (simp; done) | (simp [*]; done)), (by first | rfl | (simp; done) | (simp [*]; done)), (by first | rfl | (simp; done) | (simp [*]; done)), (by first | rfl | (simp; done) | (simp only [← hji27] <;> (first | rfl | simp)) | (simp [*]; done)), (by first | rfl | (simp; done) | (simp [*]; done)), H', ⟨by have := HK1.out; omega⟩, ⟨by (with_reducible repeat (first | apply Kd.R_alloc | apply Kd.R_drewN | apply Kd.R_drew)); exact HO_9.out⟩, ⟨by (with_reducible repeat (first | refine blk_drewN ?_ _ | refine blk_drew ?_ | refine blk_alloc ?_ _)); exact BK631.out⟩, ⟨by repeat (first | (with_reducible first | exact HB.out | apply below_alloc | apply pw_below_drewN | apply below_drew1 | refine below_set ?_ GE631.out) | exact HB.out)⟩⟩
            ·rw [if_neg c26] at H
             exact absurd H (by simp)
           ·replace c24 := Bool.eq_false_iff.mpr c24
            subst c24
            have H1 : (if 0 ≤ (IntKind.u64.wrap (x15_1)) then (spec_l08Step.l0 k1 a1 a2 t632 x15_1 x15_1 x13_1 (Go.bits .or .i64 x14_1 (shl .i64 1 (IntKind.u64.wrap (x15_1)))) (wrap64 (x15_1 + 1))) else (none)) = some (r1, r2, r3) := by rw [if_neg (show ¬ (false = true) by decide)] at H; exact H
            clear H
            have H := H1
            clear H1
            try clear hji15
            try clear hji15_
            try clear hji15z
            try clear hji15u
            try clear hji15v
            try clear hji15y
            try clear hji15x
            try clear hji15w
            try clear hji25
            try clear hji25_
            try clear hji25z
            try clear hji25u
            try clear hji25v
            try clear hji25y
            try clear hji25x
            try clear hji25w
            obtain ⟨ji32, hji32⟩ : ∃ j_ : Int, (IntKind.u64.wrap (x15_1)) = j_ := ⟨_, rfl⟩
            replace H : (if 0 ≤ (ji32) then (spec_l08Step.l0 k1 a1 a2 t632 x15_1 x15_1 x13_1 (Go.bits .or .i64 x14_1 (shl .i64 1 (ji32))) (wrap64 (x15_1 + 1))) else (none)) = some (r1, r2, r3) := by first | (rw [hji32] at H; exact H) | (simp only [hji32] at H ⊢; exact H)
            (try rw [hji32] at A11)
            (try rw [hji32] at A23)
            by_cases c33 : 0 ≤ (ji32)
            ·rw [if_pos c33] at H
             have c33b0 := eq_true c33
             have c33b1 : decide (0 ≤ (ji32)) = true := decide_eq_true c33
             clear c33
             obtain ⟨ji34, hji34⟩ : ∃ j_ : Int, (shl .i64 1 (ji32)) = j_ := ⟨_, rfl⟩
             replace H : (spec_l08Step.l0 k1 a1 a2 t632 x15_1 x15_1 x13_1 (Go.bits .or .i64 x14_1 (ji34)) (wrap64 (x15_1 + 1))) = some (r1, r2, r3) := by first | (rw [hji34] at H; exact H) | (simp only [hji34] at H ⊢; exact H)
             (try rw [hji34] at A11)
             (try rw [hji34] at A23)
             have hji34_ : (IntKind.i64.wrap (1 * 2 ^ min (ji32).toNat 64)) = ji34 := hji34
             have hji34z : (ji32) ≤ 64 → (IntKind.i64.wrap (1 * 2 ^ (ji32).toNat)) = ji34 := shl_small hji34
             have hji34u : (IntKind.i64.wrap (2 ^ min (ji32).toNat 64)) = ji34 := by have h_ := hji34_; rw [Int.one_mul] at h_; exact h_
             have hji34v : (ji32) ≤ 64 → (IntKind.i64.wrap (2 ^ (ji32).toNat)) = ji34 := fun hle_ => by have h_ := hji34z hle_; rw [Int.one_mul] at h_; exact h_
             have hji34y : (wrap64 (1 * 2 ^ min (ji32).toNat 64)) = ji34 := (i64_w _).symm.trans hji34_
             have hji34x : (ji32) ≤ 64 → (wrap64 (1 * 2 ^ (ji32).toNat)) = ji34 := fun h_ => (i64_w _).symm.trans (hji34z h_)
             have H' := Aside0.mk H
             clear H
             obtain ⟨Ao35, co35, eo35⟩ := Kd.R_slice HO_9.out
             subst eo35
             have p636 : 0 ≤ (x15_1 : Int) := of_decide_eq_true (by first | (with_reducible assumption) | assumption)
             have q636 : x15_1 < (t632.length : Int) := of_decide_eq_true (by first | (with_reducible assumption) | assumption)
             obtain ⟨ad636, e636, hx636_0, hx636_1⟩ := at_T65 (Kd.R_reads' HO_9.out).2.2 x15_1 p636 q636
             cases e636
             replace p636 := eq_true p636
             replace q636 := eq_true q636
             try go_wp2_with (first | ((with_reducible refine gate_callee (f := 146) rfl ?_); refine goesL_ (some 35) rfl rfl Try.func146 (by kernel_rfl) rfl #[.agg #[.int .i64 ((rd_T65 t632 x15_1).f0), .int .i64 ((rd_T65 t632 x15_1).f1)]] rfl (by (try simp only [List.map_toArray, List.map_cons, List.map_nil]); first | done | rfl | (simp only [List.length_drop, List.length_take]; rfl)) ?_; (with_reducible refine (spec_l08Less.calls ((rd_T65 t632 x15_1).f0) ((rd_T65 t632 x15_1).f1) true _ A11.out).mono ?_); rintro e w36 ⟨rfl, hb⟩; refine ⟨_, rfl, ?_⟩; have n0_ := Aside0.mk (Kd.R_below (by (with_reducible repeat (first | apply Kd.R_alloc | apply Kd.R_drewN | apply Kd.R_drew)); exact HO_9.out) hb); have n1_ := Aside0.mk (blk_below (g := gb631) (o := .cells #[.slice A0_0 l0_0.length c0_0, .slice A0_1 l0_1.length c0_1] 29 (0, 0)) (by (with_reducible repeat (first | refine blk_drewN ?_ _ | refine blk_drew ?_ | refine blk_alloc ?_ _)); exact BK631.out) hb); have n2_ := Aside0.mk (below_step (by repeat (first | (with_reducible first | exact HB.out | apply below_alloc | apply pw_below_drewN | apply below_drew1 | refine below_set ?_ GE631.out) | exact HB.out)) hb); clear HO_9; clear BK631; clear HB; have HO_9 := n0_; have BK631 := n1_; have HB := n2_; clear n0_ n1_ n2_; (try clear hb); (try clear hb2); (try clear hk); (try clear hi)))
             have n0_ := Aside0.mk (Kd.R_drew HO_9.out)
             have n1_ := Aside0.mk (blk_drew BK631.out)
             have n2_ := Aside0.mk (below_drew1 HB.out)
             clear HO_9
             clear BK631
             clear HB
             have HO_9 := n0_
             have BK631 := n1_
             have HB := n2_
             clear n0_ n1_ n2_
             have p638 : 0 ≤ (x15_1 : Int) := of_decide_eq_true (by first | (with_reducible assumption) | assumption)
             have q638 : x15_1 < (t632.length : Int) := of_decide_eq_true (by first | (with_reducible assumption) | assumption)
             obtain ⟨ad638, e638, hx638_0, hx638_1⟩ := at_T65 (Kd.R_reads' HO_9.out).2.2 x15_1 p638 q638
             obtain rfl : ad636 = ad638 := (by injection e638)
             replace p638 := eq_true p638
             replace q638 := eq_true q638
             have p639 : 0 ≤ (x13_1 : Int) := of_decide_eq_true (by first | (with_reducible assumption) | assumption)
             have q639 : x13_1 < (t632.length : Int) := of_decide_eq_true (by first | (with_reducible assumption) | assumption)
             obtain ⟨ad639, e639, hx639_0, hx639_1⟩ := at_T65 (Kd.R_reads' HO_9.out).2.2 x13_1 p639 q639
             obtain rfl : ad636 = ad639 := (by injection e639)
             replace p639 := eq_true p639
             replace q639 := eq_true q639
             refine start_ (n := 13) (S := fun w' => w'.cell? (ad636.add ((x15_1).toNat * 2)) = some (.int .i64 ((rd_T65 t632 x15_1).f0)) ∧ w'.cell? ⟨(ad636.add ((x15_1).toNat * 2)).block, (ad636.add ((x15_1).toNat * 2)).off + 1, none⟩ = some (.int .i64 ((rd_T65 t632 x15_1).f1)) ∧ w'.cell? (ad636.add ((x13_1).toNat * 2)) = some (.int .i64 ((rd_T65 t632 x13_1).f0)) ∧ w'.cell? ⟨(ad636.add ((x13_1).toNat * 2)).block, (ad636.add ((x13_1).toNat * 2)).off + 1, none⟩ = some (.int .i64 ((rd_T65 t632 x13_1).f1))) (ds := []) #[false, false, false, false, false, false, false, false, false, false, false, false, false] (by kernel_rfl) rfl rfl ⟨hx638_0, hx638_1, hx639_0, hx639_1⟩ (fun hHeld => ?_); refine with_tabW spec_l08Step.tab12 spec_l08Step.bits12 (fun HT_ HW_ => ?_)
             generalize w36.drew = w37 at HO_9 BK631 HB hx638_0 hx638_1 hx639_0 hx639_1 hHeld ⊢
             refine pure_ (i := 0) (N := some 41) (v := ?_) (a' := ?_) #[true, false, false, false, false, false, false, false, false, false, false, false, false] rfl rfl (any_of HT_.out (by kernel_rfl)) (fun _ _ _ h => h) (Or.inl ⟨by rfl, ?_⟩) ?_ ?_
             rotate_left
             ·intro w'
              go_simp
              with_reducible rfl
             rotate_left
             ·simp only [Act.put, List.setIfInBounds_toArray, List.set_cons_zero, List.set_cons_succ, i64_w, i32_w]
              rfl
             refine pure_ (i := 1) (N := some 42) (v := ?_) (a' := ?_) #[true, true, false, false, false, false, false, false, false, false, false, false, false] rfl rfl (any_of HT_.out (by kernel_rfl)) (fun _ _ _ h => h) (Or.inl ⟨by rfl, ?_⟩) ?_ ?_
             rotate_left
             ·intro w'
              go_simp
              with_reducible rfl
             rotate_left
             ·simp only [Act.put, List.setIfInBounds_toArray, List.set_cons_zero, List.set_cons_succ, i64_w, i32_w]
              rfl
             refine pure_ (i := 2) (N := some 43) (v := ?_) (a' := ?_) #[true, true, true, false, false, false, false, false, false, false, false, false, false] rfl rfl (any_of HT_.out (by kernel_rfl)) (fun _ _ _ h => h) (Or.inl ⟨by rfl, ?_⟩) ?_ ?_
             rotate_left
             ·intro w'
              go_simp
              with_reducible rfl
             rotate_left
             ·simp only [Act.put, List.setIfInBounds_toArray, List.set_cons_zero, List.set_cons_succ, i64_w, i32_w]
              rfl
             refine pure_ (i := 3) (N := some 44) (v := ?_) (a' := ?_) #[true, true, true, true, false, false, false, false, false, false, false, false, false] rfl rfl (any_of HT_.out (by kernel_rfl)) (fun _ _ _ h => h) (Or.inl ⟨by rfl, ?_⟩) ?_ ?_
             rotate_left
             ·intro w'
              go_simp
              with_reducible rfl
             rotate_left
             ·simp only [Act.put, List.setIfInBounds_toArray, List.set_cons_zero, List.set_cons_succ, i64_w, i32_w]
              rfl
             refine pure_ (i := 4) (N := some 45) (v := ?_) (a' := ?_) #[true, true, true, true, true, false, false, false, false, false, false, false, false] rfl rfl (any_of HT_.out (by kernel_rfl)) (fun _ _ _ h => h) (Or.inl ⟨by rfl, ?_⟩) ?_ ?_
             rotate_left
             ·intro w'
              go_simp
              with_reducible rfl
             rotate_left
             ·simp only [Act.put, List.setIfInBounds_toArray, List.set_cons_zero, List.set_cons_succ, i64_w, i32_w]
              rfl
             refine pure_ (i := 5) (N := some 46) (v := ?_) (a' := ?_) #[true, true, true, true, true, true, false, false, false, false, false, false, false] rfl rfl (any_of HT_.out (by kernel_rfl)) (fun _ _ _ h => h) (Or.inl ⟨by rfl, ?_⟩) ?_ ?_
             rotate_left
             ·intro w'
              go_simp
              with_reducible rfl
             rotate_left
             ·simp only [Act.put, List.setIfInBounds_toArray, List.set_cons_zero, List.set_cons_succ, i64_w, i32_w]
              rfl
             refine pure_ (i := 7) (N := some 48) (v := ?_) (a' := ?_) #[true, true, true, true, true, true, false, true, false, false, false, false, false] rfl rfl (any_of HT_.out (by kernel_rfl)) (fun _ _ _ h => h) (Or.inl ⟨by rfl, ?_⟩) ?_ ?_
             rotate_left
             ·intro w'
              go_simp
              with_reducible rfl
             rotate_left
             ·simp only [Act.put, List.setIfInBounds_toArray, List.set_cons_zero, List.set_cons_succ, i64_w, i32_w]
              rfl
             refine pure_ (i := 8) (N := some 49) (v := ?_) (a' := ?_) #[true, true, true, true, true, true, false, true, true, false, false, false, false] rfl rfl (any_of HT_.out (by kernel_rfl)) (fun _ _ _ h => h) (Or.inl ⟨by rfl, ?_⟩) ?_ ?_
             rotate_left
             ·intro w'
              go_simp
              with_reducible rfl
             rotate_left
             ·simp only [Act.put, List.setIfInBounds_toArray, List.set_cons_zero, List.set_cons_succ, i64_w, i32_w]
              rfl
             refine pure_ (i := 9) (N := some 50) (v := ?_) (a' := ?_) #[true, true, true, true, true, true, false, true, true, true, false, false, false] rfl rfl (any_of HT_.out (by kernel_rfl)) (fun _ _ _ h => h) (Or.inl ⟨by rfl, ?_⟩) ?_ ?_
             rotate_left
             ·intro w'
              go_simp
              with_reducible rfl
             rotate_left
             ·simp only [Act.put, List.setIfInBounds_toArray, List.set_cons_zero, List.set_cons_succ, i64_w, i32_w]
              rfl
             refine take_ (i := 6) (N := some 47) (v := ?_) (a' := ?_) #[true, true, true, true, true, true, true, true, true, true, false, false, false] rfl rfl (take_ofW HT_.out HW_.out (by kernel_rfl)) (fun _ _ _ h => h) (Or.inl ⟨by rfl, ?_⟩) hHeld ?_ ?_
             rotate_left
             ·rintro w' ⟨s0, s1, s2, s3⟩
              go_simp
              with_reducible rfl
             rotate_left
             ·simp only [Act.put, List.setIfInBounds_toArray, List.set_cons_zero, List.set_cons_succ, i64_w, i32_w]
              rfl
             refine take_ (i := 10) (N := some 51) (v := ?_) (a' := ?_) #[true, true, true, true, true, true, true, true, true, true, true, false, false] rfl rfl (take_ofW HT_.out HW_.out (by kernel_rfl)) (fun _ _ _ h => h) (Or.inl ⟨by rfl, ?_⟩) hHeld ?_ ?_
             rotate_left
             ·rintro w' ⟨s0, s1, s2, s3⟩
              go_simp
              with_reducible rfl
             rotate_left
             ·simp only [Act.put, List.setIfInBounds_toArray, List.set_cons_zero, List.set_cons_succ, i64_w, i32_w]
              rfl
             refine one_ (i := 11) (N := some 52) #[true, true, true, true, true, true, true, true, true, true, true, true, false] rfl rfl (one_of HT_.out (by kernel_rfl)) (by decide) (fun K hK => ?_)
             refine goes_ Try.func147 (by kernel_rfl) rfl #[.agg #[.int .i64 ((rd_T65 t632 x15_1).f0), .int .i64 ((rd_T65 t632 x15_1).f1)], .agg #[.int .i64 ((rd_T65 t632 x13_1).f0), .int .i64 ((rd_T65 t632 x13_1).f1)]] (by rfl) rfl rfl (by (try simp only [List.map_toArray, List.map_cons, List.map_nil]); first | done | rfl | (simp only [List.length_drop, List.length_take]; rfl)) ?_
             with_reducible refine (spec_l01Less.calls ((rd_T65 t632 x15_1).f0) ((rd_T65 t632 x15_1).f1) ((rd_T65 t632 x13_1).f0) ((rd_T65 t632 x13_1).f1) false _ A23.out).mono ?_
             rintro e w38 ⟨rfl, hb⟩
             have HS0_ := (hb.cell (World.block_lt_of_cell? _ _ (hHeld.1))).trans (hHeld.1)
             have HS1_ := (hb.cell (World.block_lt_of_cell? _ _ (hHeld.2.1))).trans (hHeld.2.1)
             have HS2_ := (hb.cell (World.block_lt_of_cell? _ _ (hHeld.2.2.1))).trans (hHeld.2.2.1)
             have HS3_ := (hb.cell (World.block_lt_of_cell? _ _ (hHeld.2.2.2))).trans (hHeld.2.2.2)
             refine ⟨_, rfl, ?_⟩
             have n0_ := Aside0.mk (Kd.R_below (by (with_reducible repeat (first | apply Kd.R_alloc | apply Kd.R_drewN | apply Kd.R_drew)); exact HO_9.out) hb)
             have n1_ := Aside0.mk (blk_below (g := gb631) (o := .cells #[.slice A0_0 l0_0.length c0_0, .slice A0_1 l0_1.length c0_1] 29 (0, 0)) (by (with_reducible repeat (first | refine blk_drewN ?_ _ | refine blk_drew ?_ | refine blk_alloc ?_ _)); exact BK631.out) hb)
             have n2_ := Aside0.mk (below_step (by repeat (first | (with_reducible first | exact HB.out | apply below_alloc | apply pw_below_drewN | apply below_drew1 | refine below_set ?_ GE631.out) | exact HB.out)) hb)
             clear HO_9
             clear BK631
             clear HB
             have HO_9 := n0_
             have BK631 := n1_
             have HB := n2_
             clear n0_ n1_ n2_
             (try clear hb)
             (try clear hb2)
             (try clear hk)
             (try clear hi)
             refine hK.out _ _ ⟨HS0_, HS1_, HS2_, HS3_⟩ (fun hHeld => ?_)
             clear hK K
             refine norm_ (a' := ?_) ?_ ?_
             rotate_left
             ·show Act.put _ (some 52) _ = _
              simp only [Act.put, List.setIfInBounds_toArray, List.set_cons_zero, List.set_cons_succ, i64_w, i32_w]
              rfl
             refine pure_ (i := 12) (N := some 53) (v := ?_) (a' := ?_) #[true, true, true, true, true, true, true, true, true, true, true, true, true] rfl rfl (any_of HT_.out (by kernel_rfl)) (fun _ _ _ h => h) (Or.inl ⟨by rfl, ?_⟩) ?_ ?_
             rotate_left
             ·intro w'
              go_simp
              with_reducible rfl
             rotate_left
             ·simp only [Act.put, List.setIfInBounds_toArray, List.set_cons_zero, List.set_cons_succ, i64_w, i32_w]
              rfl
             refine done_ (done_of HT_.out (by kernel_rfl)) ?_
             try go_wp2
             go_roundg k1
             case measure => have := HK1.out; omega
             case rel => exact ⟨(x15_1), (x15_1), (x13_1), (Go.bits .or .i64 x14_1 (ji34)), (wrap64 (x15_1 + 1)), (by first | rfl | (simp; done) | (simp [*]; done)), (by first | rfl | (simp; done) | (simp [*]; done)), (by first | rfl | (simp; done) | (simp [*]; done)), (by first | rfl | (simp; done) | (simp only [← hji34] <;> (first | rfl | simp)) | (simp [*]; done)), (by first | rfl | (simp; done) | (simp [*]; done)), H', ⟨by have := HK1.out; omega⟩, ⟨by (with_reducible repeat (first | apply Kd.R_alloc | apply Kd.R_drewN | apply Kd.R_drew)); exact HO_9.out⟩, ⟨by (with_reducible repeat (first | refine blk_drewN ?_ _ | refine blk_drew ?_ | refine blk_alloc ?_ _)); exact BK631.out⟩, ⟨by repeat (first | (with_reducible first | exact HB.out | apply below_alloc | apply pw_below_drewN | apply below_drew1 | refine below_set ?_ GE631.out) | exact HB.out)⟩⟩
            ·rw [if_neg c33] at H
             exact absurd H (by simp)
          ·rw [if_neg c22] at H
           exact absurd H (by simp)
         ·rw [if_neg c21] at H
          exact absurd H (by simp)
       ·rw [if_neg c13] at H
        have c13b0 : decide (x11_1 < 0) = false := decide_eq_false c13
        clear c13
        by_cases c39 : x13_1 < 0
        ·rw [if_pos c39] at H
         have c39b0 : decide (x13_1 < 0) = true := decide_eq_true c39
         clear c39
         try clear hji15
         try clear hji15_
         try clear hji15z
         try clear hji15u
         try clear hji15v
         try clear hji15y
         try clear hji15x
         try clear hji15w
         try clear hji25
         try clear hji25_
         try clear hji25z
         try clear hji25u
         try clear hji25v
         try clear hji25y
         try clear hji25x
         try clear hji25w
         try clear hji32
         try clear hji32_
         try clear hji32z
         try clear hji32u
         try clear hji32v
         try clear hji32y
         try clear hji32x
         try clear hji32w
         obtain ⟨ji40, hji40⟩ : ∃ j_ : Int, (IntKind.u64.wrap (x15_1)) = j_ := ⟨_, rfl⟩
         replace H : (if 0 ≤ (ji40) then (spec_l08Step.l0 k1 a1 a2 t632 x11_1 x15_1 x15_1 (Go.bits .or .i64 x14_1 (shl .i64 1 (ji40))) (wrap64 (x15_1 + 1))) else (none)) = some (r1, r2, r3) := by first | (rw [hji40] at H; exact H) | (simp only [hji40] at H ⊢; exact H)
         (try rw [hji40] at A11)
         by_cases c41 : 0 ≤ (ji40)
         ·rw [if_pos c41] at H
          have c41b0 := eq_true c41
          have c41b1 : decide (0 ≤ (ji40)) = true := decide_eq_true c41
          clear c41
          obtain ⟨ji42, hji42⟩ : ∃ j_ : Int, (shl .i64 1 (ji40)) = j_ := ⟨_, rfl⟩
          replace H : (spec_l08Step.l0 k1 a1 a2 t632 x11_1 x15_1 x15_1 (Go.bits .or .i64 x14_1 (ji42)) (wrap64 (x15_1 + 1))) = some (r1, r2, r3) := by first | (rw [hji42] at H; exact H) | (simp only [hji42] at H ⊢; exact H)
          (try rw [hji42] at A11)
          have hji42_ : (IntKind.i64.wrap (1 * 2 ^ min (ji40).toNat 64)) = ji42 := hji42
          have hji42z : (ji40) ≤ 64 → (IntKind.i64.wrap (1 * 2 ^ (ji40).toNat)) = ji42 := shl_small hji42
          have hji42u : (IntKind.i64.wrap (2 ^ min (ji40).toNat 64)) = ji42 := by have h_ := hji42_; rw [Int.one_mul] at h_; exact h_
          have hji42v : (ji40) ≤ 64 → (IntKind.i64.wrap (2 ^ (ji40).toNat)) = ji42 := fun hle_ => by have h_ := hji42z hle_; rw [Int.one_mul] at h_; exact h_
          have hji42y : (wrap64 (1 * 2 ^ min (ji40).toNat 64)) = ji42 := (i64_w _).symm.trans hji42_
          have hji42x : (ji40) ≤ 64 → (wrap64 (1 * 2 ^ (ji40).toNat)) = ji42 := fun h_ => (i64_w _).symm.trans (hji42z h_)
          have H' := Aside0.mk H
          clear H
          obtain ⟨Ao43, co43, eo43⟩ := Kd.R_slice HO_9.out
          subst eo43
          have p636 : 0 ≤ (x15_1 : Int) := of_decide_eq_true (by first | (with_reducible assumption) | assumption)
          have q636 : x15_1 < (t632.length : Int) := of_decide_eq_true (by first | (with_reducible assumption) | assumption)
          obtain ⟨ad636, e636, hx636_0, hx636_1⟩ := at_T65 (Kd.R_reads' HO_9.out).2.2 x15_1 p636 q636
          cases e636
          replace p636 := eq_true p636
          replace q636 := eq_true q636
          try go_wp2_with (first | ((with_reducible refine gate_callee (f := 146) rfl ?_); refine goesL_ (some 35) rfl rfl Try.func146 (by kernel_rfl) rfl #[.agg #[.int .i64 ((rd_T65 t632 x15_1).f0), .int .i64 ((rd_T65 t632 x15_1).f1)]] rfl (by (try simp only [List.map_toArray, List.map_cons, List.map_nil]); first | done | rfl | (simp only [List.length_drop, List.length_take]; rfl)) ?_; (with_reducible refine (spec_l08Less.calls ((rd_T65 t632 x15_1).f0) ((rd_T65 t632 x15_1).f1) true _ A11.out).mono ?_); rintro e w44 ⟨rfl, hb⟩; refine ⟨_, rfl, ?_⟩; have n0_ := Aside0.mk (Kd.R_below (by (with_reducible repeat (first | apply Kd.R_alloc | apply Kd.R_drewN | apply Kd.R_drew)); exact HO_9.out) hb); have n1_ := Aside0.mk (blk_below (g := gb631) (o := .cells #[.slice A0_0 l0_0.length c0_0, .slice A0_1 l0_1.length c0_1] 29 (0, 0)) (by (with_reducible repeat (first | refine blk_drewN ?_ _ | refine blk_drew ?_ | refine blk_alloc ?_ _)); exact BK631.out) hb); have n2_ := Aside0.mk (below_step (by repeat (first | (with_reducible first | exact HB.out | apply below_alloc | apply pw_below_drewN | apply below_drew1 | refine below_set ?_ GE631.out) | exact HB.out)) hb); clear HO_9; clear BK631; clear HB; have HO_9 := n0_; have BK631 := n1_; have HB := n2_; clear n0_ n1_ n2_; (try clear hb); (try clear hb2); (try clear hk); (try clear hi)))
          have n0_ := Aside0.mk (Kd.R_drew HO_9.out)
          have n1_ := Aside0.mk (blk_drew BK631.out)
          have n2_ := Aside0.mk (below_drew1 HB.out)
          clear HO_9
          clear BK631
          clear HB
          have HO_9 := n0_
          have BK631 := n1_
          have HB := n2_
          clear n0_ n1_ n2_
          refine start_ (n := 13) (S := fun w' => True) (ds := []) #[false, false, false, false, false, false, false, false, false, false, false, false, false] (by kernel_rfl) rfl rfl trivial (fun hHeld => ?_); refine with_tabW spec_l08Step.tab12 spec_l08Step.bits12 (fun HT_ HW_ => ?_)
          generalize w44.drew = w45 at HO_9 BK631 HB hHeld ⊢
          refine pure_ (i := 0) (N := some 41) (v := ?_) (a' := ?_) #[true, false, false, false, false, false, false, false, false, false, false, false, false] rfl rfl (any_of HT_.out (by kernel_rfl)) (fun _ _ _ h => h) (Or.inl ⟨by rfl, ?_⟩) ?_ ?_
          rotate_left
          ·intro w'
           go_simp
           with_reducible rfl
          rotate_left
          ·simp only [Act.put, List.setIfInBounds_toArray, List.set_cons_zero, List.set_cons_succ, i64_w, i32_w]
           rfl
          refine pure_ (i := 1) (N := some 42) (v := ?_) (a' := ?_) #[true, true, false, false, false, false, false, false, false, false, false, false, false] rfl rfl (any_of HT_.out (by kernel_rfl)) (fun _ _ _ h => h) (Or.inl ⟨by rfl, ?_⟩) ?_ ?_
          rotate_left
          ·intro w'
           go_simp
           with_reducible rfl
          rotate_left
          ·simp only [Act.put, List.setIfInBounds_toArray, List.set_cons_zero, List.set_cons_succ, i64_w, i32_w]
           rfl
          refine pure_ (i := 2) (N := some 43) (v := ?_) (a' := ?_) #[true, true, true, false, false, false, false, false, false, false, false, false, false] rfl rfl (any_of HT_.out (by kernel_rfl)) (fun _ _ _ h => h) (Or.inl ⟨by rfl, ?_⟩) ?_ ?_
          rotate_left
          ·intro w'
           go_simp
           with_reducible rfl
          rotate_left
          ·simp only [Act.put, List.setIfInBounds_toArray, List.set_cons_zero, List.set_cons_succ, i64_w, i32_w]
           rfl
          refine pure_ (i := 3) (N := some 44) (v := undef) (a' := ?_) #[true, true, true, true, false, false, false, false, false, false, false, false, false] rfl rfl (any_of HT_.out (by kernel_rfl)) (fun _ _ _ h => h) (Or.inr ⟨by rfl, rfl⟩) ?_ ?_
          rotate_left
          ·simp only [Act.put, List.setIfInBounds_toArray, List.set_cons_zero, List.set_cons_succ, i64_w, i32_w]
           rfl
          refine pure_ (i := 4) (N := some 45) (v := undef) (a' := ?_) #[true, true, true, true, true, false, false, false, false, false, false, false, false] rfl rfl (any_of HT_.out (by kernel_rfl)) (fun _ _ _ h => h) (Or.inr ⟨by rfl, rfl⟩) ?_ ?_
          rotate_left
          ·simp only [Act.put, List.setIfInBounds_toArray, List.set_cons_zero, List.set_cons_succ, i64_w, i32_w]
           rfl
          refine pure_ (i := 5) (N := some 46) (v := undef) (a' := ?_) #[true, true, true, true, true, true, false, false, false, false, false, false, false] rfl rfl (any_of HT_.out (by kernel_rfl)) (fun _ _ _ h => h) (Or.inr ⟨by rfl, rfl⟩) ?_ ?_
          rotate_left
          ·simp only [Act.put, List.setIfInBounds_toArray, List.set_cons_zero, List.set_cons_succ, i64_w, i32_w]
           rfl
          refine pure_ (i := 6) (N := some 47) (v := undef) (a' := ?_) #[true, true, true, true, true, true, true, false, false, false, false, false, false] rfl rfl (any_of HT_.out (by kernel_rfl)) (fun _ _ _ h => h) (Or.inr ⟨by rfl, rfl⟩) ?_ ?_
          rotate_left
          ·simp only [Act.put, List.setIfInBounds_toArray, List.set_cons_zero, List.set_cons_succ, i64_w, i32_w]
           rfl
          refine pure_ (i := 7) (N := some 48) (v := undef) (a' := ?_) #[true, true, true, true, true, true, true, true, false, false, false, false, false] rfl rfl (any_of HT_.out (by kernel_rfl)) (fun _ _ _ h => h) (Or.inr ⟨by rfl, rfl⟩) ?_ ?_
          rotate_left
          ·simp only [Act.put, List.setIfInBounds_toArray, List.set_cons_zero, List.set_cons_succ, i64_w, i32_w]
           rfl
          refine pure_ (i := 8) (N := some 49) (v := undef) (a' := ?_) #[true, true, true, true, true, true, true, true, true, false, false, false, false] rfl rfl (any_of HT_.out (by kernel_rfl)) (fun _ _ _ h => h) (Or.inr ⟨by rfl, rfl⟩) ?_ ?_
          rotate_left
          ·simp only [Act.put, List.setIfInBounds_toArray, List.set_cons_zero, List.set_cons_succ, i64_w, i32_w]
           rfl
          refine pure_ (i := 9) (N := some 50) (v := undef) (a' := ?_) #[true, true, true, true, true, true, true, true, true, true, false, false, false] rfl rfl (any_of HT_.out (by kernel_rfl)) (fun _ _ _ h => h) (Or.inr ⟨by rfl, rfl⟩) ?_ ?_
          rotate_left
          ·simp only [Act.put, List.setIfInBounds_toArray, List.set_cons_zero, List.set_cons_succ, i64_w, i32_w]
           rfl
          refine pure_ (i := 10) (N := some 51) (v := undef) (a' := ?_) #[true, true, true, true, true, true, true, true, true, true, true, false, false] rfl rfl (any_of HT_.out (by kernel_rfl)) (fun _ _ _ h => h) (Or.inr ⟨by rfl, rfl⟩) ?_ ?_
          rotate_left
          ·simp only [Act.put, List.setIfInBounds_toArray, List.set_cons_zero, List.set_cons_succ, i64_w, i32_w]
           rfl
          refine pure_ (i := 11) (N := some 52) (v := undef) (a' := ?_) #[true, true, true, true, true, true, true, true, true, true, true, true, false] rfl rfl (any_of HT_.out (by kernel_rfl)) (fun _ _ _ h => h) (Or.inr ⟨by rfl, rfl⟩) ?_ ?_
          rotate_left
          ·simp only [Act.put, List.setIfInBounds_toArray, List.set_cons_zero, List.set_cons_succ, i64_w, i32_w]
           rfl
          refine pure_ (i := 12) (N := some 53) (v := ?_) (a' := ?_) #[true, true, true, true, true, true, true, true, true, true, true, true, true] rfl rfl (any_of HT_.out (by kernel_rfl)) (fun _ _ _ h => h) (Or.inl ⟨by rfl, ?_⟩) ?_ ?_
          rotate_left
          ·intro w'
           go_simp
           with_reducible rfl
          rotate_left
          ·simp only [Act.put, List.setIfInBounds_toArray, List.set_cons_zero, List.set_cons_succ, i64_w, i32_w]
           rfl
          refine done_ (done_of HT_.out (by kernel_rfl)) ?_
          try go_wp2
          go_roundg k1
          case measure => have := HK1.out; omega
          case rel => exact ⟨(x11_1), (x15_1), (x15_1), (Go.bits .or .i64 x14_1 (ji42)), (wrap64 (x15_1 + 1)), (by first | rfl | (simp; done) | (simp [*]; done)), (by first | rfl | (simp; done) | (simp [*]; done)), (by first | rfl | (simp; done) | (simp [*]; done)), (by first | rfl | (simp; done) | (simp only [← hji42] <;> (first | rfl | simp)) | (simp [*]; done)), (by first | rfl | (simp; done) | (simp [*]; done)), H', ⟨by have := HK1.out; omega⟩, ⟨by (with_reducible repeat (first | apply Kd.R_alloc | apply Kd.R_drewN | apply Kd.R_drew)); exact HO_9.out⟩, ⟨by (with_reducible repeat (first | refine blk_drewN ?_ _ | refine blk_drew ?_ | refine blk_alloc ?_ _)); exact BK631.out⟩, ⟨by repeat (first | (with_reducible first | exact HB.out | apply below_alloc | apply pw_below_drewN | apply below_drew1 | refine below_set ?_ GE631.out) | exact HB.out)⟩⟩
         ·rw [if_neg c41] at H
          exact absurd H (by simp)
        ·rw [if_neg c39] at H
         have c39b0 : decide (x13_1 < 0) = false := decide_eq_false c39
         clear c39
         by_cases c46 : 0 ≤ x13_1
         ·rw [if_pos c46] at H
          have c46b0 : decide (0 ≤ x13_1) = true := decide_eq_true c46
          clear c46
          by_cases c47 : x13_1 < (t632.length : Int)
          ·rw [if_pos c47] at H
           have c47b0 : decide (x13_1 < (t632.length : Int)) = true := decide_eq_true c47
           clear c47
           replace H := Option.bind_eq_some_iff.mp H
           obtain ⟨t643, A480, H⟩ := H
           replace H : (if t643 = true then (if 0 ≤ (IntKind.u64.wrap (x15_1)) then (spec_l08Step.l0 k1 a1 a2 t632 x11_1 x15_1 x15_1 (Go.bits .or .i64 x14_1 (shl .i64 1 (IntKind.u64.wrap (x15_1)))) (wrap64 (x15_1 + 1))) else (none)) else (if 0 ≤ (IntKind.u64.wrap (x15_1)) then (spec_l08Step.l0 k1 a1 a2 t632 x11_1 x15_1 x13_1 (Go.bits .or .i64 x14_1 (shl .i64 1 (IntKind.u64.wrap (x15_1)))) (wrap64 (x15_1 + 1))) else (none))) = some (r1, r2, r3) := H
           have A48 := Aside0.mk A480
           clear A480
           by_cases c49 : t643 = true
           ·subst c49
            have H1 : (if 0 ≤ (IntKind.u64.wrap (x15_1)) then (spec_l08Step.l0 k1 a1 a2 t632 x11_1 x15_1 x15_1 (Go.bits .or .i64 x14_1 (shl .i64 1 (IntKind.u64.wrap (x15_1)))) (wrap64 (x15_1 + 1))) else (none)) = some (r1, r2, r3) := by rw [if_pos rfl] at H; exact H
            clear H
            have H := H1
            clear H1
            try clear hji15
            try clear hji15_
            try clear hji15z
            try clear hji15u
            try clear hji15v
            try clear hji15y
            try clear hji15x
            try clear hji15w
            try clear hji25
            try clear hji25_
            try clear hji25z
            try clear hji25u
            try clear hji25v
            try clear hji25y
            try clear hji25x
            try clear hji25w
            try clear hji32
            try clear hji32_
            try clear hji32z
            try clear hji32u
            try clear hji32v
            try clear hji32y
            try clear hji32x
            try clear hji32w
            try clear hji40
            try clear hji40_
            try clear hji40z
            try clear hji40u
            try clear hji40v
            try clear hji40y
            try clear hji40x
            try clear hji40w
            obtain ⟨ji50, hji50⟩ : ∃ j_ : Int, (IntKind.u64.wrap (x15_1)) = j_ := ⟨_, rfl⟩
            replace H : (if 0 ≤ (ji50) then (spec_l08Step.l0 k1 a1 a2 t632 x11_1 x15_1 x15_1 (Go.bits .or .i64 x14_1 (shl .i64 1 (ji50))) (wrap64 (x15_1 + 1))) else (none)) = some (r1, r2, r3) := by first | (rw [hji50] at H; exact H) | (simp only [hji50] at H ⊢; exact H)
            (try rw [hji50] at A11)
            (try rw [hji50] at A48)
            by_cases c51 : 0 ≤ (ji50)
            ·rw [if_pos c51] at H
             have c51b0 := eq_true c51
             have c51b1 : decide (0 ≤ (ji50)) = true := decide_eq_true c51
             clear c51
             obtain ⟨ji52, hji52⟩ : ∃ j_ : Int, (shl .i64 1 (ji50)) = j_ := ⟨_, rfl⟩
             replace H : (spec_l08Step.l0 k1 a1 a2 t632 x11_1 x15_1 x15_1 (Go.bits .or .i64 x14_1 (ji52)) (wrap64 (x15_1 + 1))) = some (r1, r2, r3) := by first | (rw [hji52] at H; exact H) | (simp only [hji52] at H ⊢; exact H)
             (try rw [hji52] at A11)
             (try rw [hji52] at A48)
             have hji52_ : (IntKind.i64.wrap (1 * 2 ^ min (ji50).toNat 64)) = ji52 := hji52
             have hji52z : (ji50) ≤ 64 → (IntKind.i64.wrap (1 * 2 ^ (ji50).toNat)) = ji52 := shl_small hji52
             have hji52u : (IntKind.i64.wrap (2 ^ min (ji50).toNat 64)) = ji52 := by have h_ := hji52_; rw [Int.one_mul] at h_; exact h_
             have hji52v : (ji50) ≤ 64 → (IntKind.i64.wrap (2 ^ (ji50).toNat)) = ji52 := fun hle_ => by have h_ := hji52z hle_; rw [Int.one_mul] at h_; exact h_
             have hji52y : (wrap64 (1 * 2 ^ min (ji50).toNat 64)) = ji52 := (i64_w _).symm.trans hji52_
             have hji52x : (ji50) ≤ 64 → (wrap64 (1 * 2 ^ (ji50).toNat)) = ji52 := fun h_ => (i64_w _).symm.trans (hji52z h_)
             have H' := Aside0.mk H
             clear H
             obtain ⟨Ao53, co53, eo53⟩ := Kd.R_slice HO_9.out
             subst eo53
             have p636 : 0 ≤ (x15_1 : Int) := of_decide_eq_true (by first | (with_reducible assumption) | assumption)
             have q636 : x15_1 < (t632.length : Int) := of_decide_eq_true (by first | (with_reducible assumption) | assumption)
             obtain ⟨ad636, e636, hx636_0, hx636_1⟩ := at_T65 (Kd.R_reads' HO_9.out).2.2 x15_1 p636 q636
             cases e636
             replace p636 := eq_true p636
             replace q636 := eq_true q636
             try go_wp2_with (first | ((with_reducible refine gate_callee (f := 146) rfl ?_); refine goesL_ (some 35) rfl rfl Try.func146 (by kernel_rfl) rfl #[.agg #[.int .i64 ((rd_T65 t632 x15_1).f0), .int .i64 ((rd_T65 t632 x15_1).f1)]] rfl (by (try simp only [List.map_toArray, List.map_cons, List.map_nil]); first | done | rfl | (simp only [List.length_drop, List.length_take]; rfl)) ?_; (with_reducible refine (spec_l08Less.calls ((rd_T65 t632 x15_1).f0) ((rd_T65 t632 x15_1).f1) true _ A11.out).mono ?_); rintro e w54 ⟨rfl, hb⟩; refine ⟨_, rfl, ?_⟩; have n0_ := Aside0.mk (Kd.R_below (by (with_reducible repeat (first | apply Kd.R_alloc | apply Kd.R_drewN | apply Kd.R_drew)); exact HO_9.out) hb); have n1_ := Aside0.mk (blk_below (g := gb631) (o := .cells #[.slice A0_0 l0_0.length c0_0, .slice A0_1 l0_1.length c0_1] 29 (0, 0)) (by (with_reducible repeat (first | refine blk_drewN ?_ _ | refine blk_drew ?_ | refine blk_alloc ?_ _)); exact BK631.out) hb); have n2_ := Aside0.mk (below_step (by repeat (first | (with_reducible first | exact HB.out | apply below_alloc | apply pw_below_drewN | apply below_drew1 | refine below_set ?_ GE631.out) | exact HB.out)) hb); clear HO_9; clear BK631; clear HB; have HO_9 := n0_; have BK631 := n1_; have HB := n2_; clear n0_ n1_ n2_; (try clear hb); (try clear hb2); (try clear hk); (try clear hi)))
             have n0_ := Aside0.mk (Kd.R_drew HO_9.out)
             have n1_ := Aside0.mk (blk_drew BK631.out)
             have n2_ := Aside0.mk (below_drew1 HB.out)
             clear HO_9
             clear BK631
             clear HB
             have HO_9 := n0_
             have BK631 := n1_
             have HB := n2_
             clear n0_ n1_ n2_
             have p641 : 0 ≤ (x15_1 : Int) := of_decide_eq_true (by first | (with_reducible assumption) | assumption)
             have q641 : x15_1 < (t632.length : Int) := of_decide_eq_true (by first | (with_reducible assumption) | assumption)
             obtain ⟨ad641, e641, hx641_0, hx641_1⟩ := at_T65 (Kd.R_reads' HO_9.out).2.2 x15_1 p641 q641
             obtain rfl : ad636 = ad641 := (by injection e641)
             replace p641 := eq_true p641
             replace q641 := eq_true q641
             have p642 : 0 ≤ (x13_1 : Int) := of_decide_eq_true (by first | (with_reducible assumption) | assumption)
             have q642 : x13_1 < (t632.length : Int) := of_decide_eq_true (by first | (with_reducible assumption) | assumption)
             obtain ⟨ad642, e642, hx642_0, hx642_1⟩ := at_T65 (Kd.R_reads' HO_9.out).2.2 x13_1 p642 q642
             obtain rfl : ad636 = ad642 := (by injection e642)
             replace p642 := eq_true p642
             replace q642 := eq_true q642
             refine start_ (n := 13) (S := fun w' => w'.cell? (ad636.add ((x15_1).toNat * 2)) = some (.int .i64 ((rd_T65 t632 x15_1).f0)) ∧ w'.cell? ⟨(ad636.add ((x15_1).toNat * 2)).block, (ad636.add ((x15_1).toNat * 2)).off + 1, none⟩ = some (.int .i64 ((rd_T65 t632 x15_1).f1)) ∧ w'.cell? (ad636.add ((x13_1).toNat * 2)) = some (.int .i64 ((rd_T65 t632 x13_1).f0)) ∧ w'.cell? ⟨(ad636.add ((x13_1).toNat * 2)).block, (ad636.add ((x13_1).toNat * 2)).off + 1, none⟩ = some (.int .i64 ((rd_T65 t632 x13_1).f1))) (ds := []) #[false, false, false, false, false, false, false, false, false, false, false, false, false] (by kernel_rfl) rfl rfl ⟨hx641_0, hx641_1, hx642_0, hx642_1⟩ (fun hHeld => ?_); refine with_tabW spec_l08Step.tab12 spec_l08Step.bits12 (fun HT_ HW_ => ?_)
             generalize w54.drew = w55 at HO_9 BK631 HB hx641_0 hx641_1 hx642_0 hx642_1 hHeld ⊢
             refine pure_ (i := 0) (N := some 41) (v := ?_) (a' := ?_) #[true, false, false, false, false, false, false, false, false, false, false, false, false] rfl rfl (any_of HT_.out (by kernel_rfl)) (fun _ _ _ h => h) (Or.inl ⟨by rfl, ?_⟩) ?_ ?_
             rotate_left
             ·intro w'
              go_simp
              with_reducible rfl
             rotate_left
             ·simp only [Act.put, List.setIfInBounds_toArray, List.set_cons_zero, List.set_cons_succ, i64_w, i32_w]
              rfl
             refine pure_ (i := 1) (N := some 42) (v := ?_) (a' := ?_) #[true, true, false, false, false, false, false, false, false, false, false, false, false] rfl rfl (any_of HT_.out (by kernel_rfl)) (fun _ _ _ h => h) (Or.inl ⟨by rfl, ?_⟩) ?_ ?_
             rotate_left
             ·intro w'
              go_simp
              with_reducible rfl
             rotate_left
             ·simp only [Act.put, List.setIfInBounds_toArray, List.set_cons_zero, List.set_cons_succ, i64_w, i32_w]
              rfl
             refine pure_ (i := 2) (N := some 43) (v := ?_) (a' := ?_) #[true, true, true, false, false, false, false, false, false, false, false, false, false] rfl rfl (any_of HT_.out (by kernel_rfl)) (fun _ _ _ h => h) (Or.inl ⟨by rfl, ?_⟩) ?_ ?_
             rotate_left
             ·intro w'
              go_simp
              with_reducible rfl
             rotate_left
             ·simp only [Act.put, List.setIfInBounds_toArray, List.set_cons_zero, List.set_cons_succ, i64_w, i32_w]
              rfl
             refine pure_ (i := 3) (N := some 44) (v := ?_) (a' := ?_) #[true, true, true, true, false, false, false, false, false, false, false, false, false] rfl rfl (any_of HT_.out (by kernel_rfl)) (fun _ _ _ h => h) (Or.inl ⟨by rfl, ?_⟩) ?_ ?_
             rotate_left
             ·intro w'
              go_simp
              with_reducible rfl
             rotate_left
             ·simp only [Act.put, List.setIfInBounds_toArray, List.set_cons_zero, List.set_cons_succ, i64_w, i32_w]
              rfl
             refine pure_ (i := 4) (N := some 45) (v := ?_) (a' := ?_) #[true, true, true, true, true, false, false, false, false, false, false, false, false] rfl rfl (any_of HT_.out (by kernel_rfl)) (fun _ _ _ h => h) (Or.inl ⟨by rfl, ?_⟩) ?_ ?_
             rotate_left
             ·intro w'
              go_simp
              with_reducible rfl
             rotate_left
             ·simp only [Act.put, List.setIfInBounds_toArray, List.set_cons_zero, List.set_cons_succ, i64_w, i32_w]
              rfl
             refine pure_ (i := 5) (N := some 46) (v := ?_) (a' := ?_) #[true, true, true, true, true, true, false, false, false, false, false, false, false] rfl rfl (any_of HT_.out (by kernel_rfl)) (fun _ _ _ h => h) (Or.inl ⟨by rfl, ?_⟩) ?_ ?_
             rotate_left
             ·intro w'
              go_simp
              with_reducible rfl
             rotate_left
             ·simp only [Act.put, List.setIfInBounds_toArray, List.set_cons_zero, List.set_cons_succ, i64_w, i32_w]
              rfl
             refine pure_ (i := 7) (N := some 48) (v := ?_) (a' := ?_) #[true, true, true, true, true, true, false, true, false, false, false, false, false] rfl rfl (any_of HT_.out (by kernel_rfl)) (fun _ _ _ h => h) (Or.inl ⟨by rfl, ?_⟩) ?_ ?_
             rotate_left
             ·intro w'
              go_simp
              with_reducible rfl
             rotate_left
             ·simp only [Act.put, List.setIfInBounds_toArray, List.set_cons_zero, List.set_cons_succ, i64_w, i32_w]
              rfl
             refine pure_ (i := 8) (N := some 49) (v := ?_) (a' := ?_) #[true, true, true, true, true, true, false, true, true, false, false, false, false] rfl rfl (any_of HT_.out (by kernel_rfl)) (fun _ _ _ h => h) (Or.inl ⟨by rfl, ?_⟩) ?_ ?_
             rotate_left
             ·intro w'
              go_simp
              with_reducible rfl
             rotate_left
             ·simp only [Act.put, List.setIfInBounds_toArray, List.set_cons_zero, List.set_cons_succ, i64_w, i32_w]
              rfl
             refine pure_ (i := 9) (N := some 50) (v := ?_) (a' := ?_) #[true, true, true, true, true, true, false, true, true, true, false, false, false] rfl rfl (any_of HT_.out (by kernel_rfl)) (fun _ _ _ h => h) (Or.inl ⟨by rfl, ?_⟩) ?_ ?_
             rotate_left
             ·intro w'
              go_simp
              with_reducible rfl
             rotate_left
             ·simp only [Act.put, List.setIfInBounds_toArray, List.set_cons_zero, List.set_cons_succ, i64_w, i32_w]
              rfl
             refine take_ (i := 6) (N := some 47) (v := ?_) (a' := ?_) #[true, true, true, true, true, true, true, true, true, true, false, false, false] rfl rfl (take_ofW HT_.out HW_.out (by kernel_rfl)) (fun _ _ _ h => h) (Or.inl ⟨by rfl, ?_⟩) hHeld ?_ ?_
             rotate_left
             ·rintro w' ⟨s0, s1, s2, s3⟩
              go_simp
              with_reducible rfl
             rotate_left
             ·simp only [Act.put, List.setIfInBounds_toArray, List.set_cons_zero, List.set_cons_succ, i64_w, i32_w]
              rfl
             refine take_ (i := 10) (N := some 51) (v := ?_) (a' := ?_) #[true, true, true, true, true, true, true, true, true, true, true, false, false] rfl rfl (take_ofW HT_.out HW_.out (by kernel_rfl)) (fun _ _ _ h => h) (Or.inl ⟨by rfl, ?_⟩) hHeld ?_ ?_
             rotate_left
             ·rintro w' ⟨s0, s1, s2, s3⟩
              go_simp
              with_reducible rfl
             rotate_left
             ·simp only [Act.put, List.setIfInBounds_toArray, List.set_cons_zero, List.set_cons_succ, i64_w, i32_w]
              rfl
             refine one_ (i := 11) (N := some 52) #[true, true, true, true, true, true, true, true, true, true, true, true, false] rfl rfl (one_of HT_.out (by kernel_rfl)) (by decide) (fun K hK => ?_)
             refine goes_ Try.func147 (by kernel_rfl) rfl #[.agg #[.int .i64 ((rd_T65 t632 x15_1).f0), .int .i64 ((rd_T65 t632 x15_1).f1)], .agg #[.int .i64 ((rd_T65 t632 x13_1).f0), .int .i64 ((rd_T65 t632 x13_1).f1)]] (by rfl) rfl rfl (by (try simp only [List.map_toArray, List.map_cons, List.map_nil]); first | done | rfl | (simp only [List.length_drop, List.length_take]; rfl)) ?_
             with_reducible refine (spec_l01Less.calls ((rd_T65 t632 x15_1).f0) ((rd_T65 t632 x15_1).f1) ((rd_T65 t632 x13_1).f0) ((rd_T65 t632 x13_1).f1) true _ A48.out).mono ?_
             rintro e w56 ⟨rfl, hb⟩
             have HS0_ := (hb.cell (World.block_lt_of_cell? _ _ (hHeld.1))).trans (hHeld.1)
             have HS1_ := (hb.cell (World.block_lt_of_cell? _ _ (hHeld.2.1))).trans (hHeld.2.1)
             have HS2_ := (hb.cell (World.block_lt_of_cell? _ _ (hHeld.2.2.1))).trans (hHeld.2.2.1)
             have HS3_ := (hb.cell (World.block_lt_of_cell? _ _ (hHeld.2.2.2))).trans (hHeld.2.2.2)
             refine ⟨_, rfl, ?_⟩
             have n0_ := Aside0.mk (Kd.R_below (by (with_reducible repeat (first | apply Kd.R_alloc | apply Kd.R_drewN | apply Kd.R_drew)); exact HO_9.out) hb)
             have n1_ := Aside0.mk (blk_below (g := gb631) (o := .cells #[.slice A0_0 l0_0.length c0_0, .slice A0_1 l0_1.length c0_1] 29 (0, 0)) (by (with_reducible repeat (first | refine blk_drewN ?_ _ | refine blk_drew ?_ | refine blk_alloc ?_ _)); exact BK631.out) hb)
             have n2_ := Aside0.mk (below_step (by repeat (first | (with_reducible first | exact HB.out | apply below_alloc | apply pw_below_drewN | apply below_drew1 | refine below_set ?_ GE631.out) | exact HB.out)) hb)
             clear HO_9
             clear BK631
             clear HB
             have HO_9 := n0_
             have BK631 := n1_
             have HB := n2_
             clear n0_ n1_ n2_
             (try clear hb)
             (try clear hb2)
             (try clear hk)
             (try clear hi)
             refine hK.out _ _ ⟨HS0_, HS1_, HS2_, HS3_⟩ (fun hHeld => ?_)
             clear hK K
             refine norm_ (a' := ?_) ?_ ?_
             rotate_left
             ·show Act.put _ (some 52) _ = _
              simp only [Act.put, List.setIfInBounds_toArray, List.set_cons_zero, List.set_cons_succ, i64_w, i32_w]
              rfl
             refine pure_ (i := 12) (N := some 53) (v := ?_) (a' := ?_) #[true, true, true, true, true, true, true, true, true, true, true, true, true] rfl rfl (any_of HT_.out (by kernel_rfl)) (fun _ _ _ h => h) (Or.inl ⟨by rfl, ?_⟩) ?_ ?_
             rotate_left
             ·intro w'
              go_simp
              with_reducible rfl
             rotate_left
             ·simp only [Act.put, List.setIfInBounds_toArray, List.set_cons_zero, List.set_cons_succ, i64_w, i32_w]
              rfl
             refine done_ (done_of HT_.out (by kernel_rfl)) ?_
             try go_wp2
             go_roundg k1
             case measure => have := HK1.out; omega
             case rel => exact ⟨(x11_1), (x15_1), (x15_1), (Go.bits .or .i64 x14_1 (ji52)), (wrap64 (x15_1 + 1)), (by first | rfl | (simp; done) | (simp [*]; done)), (by first | rfl | (simp; done) | (simp [*]; done)), (by first | rfl | (simp; done) | (simp [*]; done)), (by first | rfl | (simp; done) | (simp only [← hji52] <;> (first | rfl | simp)) | (simp [*]; done)), (by first | rfl | (simp; done) | (simp [*]; done)), H', ⟨by have := HK1.out; omega⟩, ⟨by (with_reducible repeat (first | apply Kd.R_alloc | apply Kd.R_drewN | apply Kd.R_drew)); exact HO_9.out⟩, ⟨by (with_reducible repeat (first | refine blk_drewN ?_ _ | refine blk_drew ?_ | refine blk_alloc ?_ _)); exact BK631.out⟩, ⟨by repeat (first | (with_reducible first | exact HB.out | apply below_alloc | apply pw_below_drewN | apply below_drew1 | refine below_set ?_ GE631.out) | exact HB.out)⟩⟩
            ·rw [if_neg c51] at H
             exact absurd H (by simp)
           ·replace c49 := Bool.eq_false_iff.mpr c49
            subst c49
            have H1 : (if 0 ≤ (IntKind.u64.wrap (x15_1)) then (spec_l08Step.l0 k1 a1 a2 t632 x11_1 x15_1 x13_1 (Go.bits .or .i64 x14_1 (shl .i64 1 (IntKind.u64.wrap (x15_1)))) (wrap64 (x15_1 + 1))) else (none)) = some (r1, r2, r3) := by rw [if_neg (show ¬ (false = true) by decide)] at H; exact H
            clear H
            have H := H1
            clear H1
            try clear hji15
            try clear hji15_
            try clear hji15z
            try clear hji15u
            try clear hji15v
            try clear hji15y
            try clear hji15x
            try clear hji15w
            try clear hji25
            try clear hji25_
            try clear hji25z
            try clear hji25u
            try clear hji25v
            try clear hji25y
            try clear hji25x
            try clear hji25w
            try clear hji32
            try clear hji32_
            try clear hji32z
            try clear hji32u
            try clear hji32v
            try clear hji32y
            try clear hji32x
            try clear hji32w
            try clear hji40
            try clear hji40_
            try clear hji40z
            try clear hji40u
            try clear hji40v
            try clear hji40y
            try clear hji40x
            try clear hji40w
            try clear hji50
            try clear hji50_
            try clear hji50z
            try clear hji50u
            try clear hji50v
            try clear hji50y
            try clear hji50x
            try clear hji50w
            obtain ⟨ji57, hji57⟩ : ∃ j_ : Int, (IntKind.u64.wrap (x15_1)) = j_ := ⟨_, rfl⟩
            replace H : (if 0 ≤ (ji57) then (spec_l08Step.l0 k1 a1 a2 t632 x11_1 x15_1 x13_1 (Go.bits .or .i64 x14_1 (shl .i64 1 (ji57))) (wrap64 (x15_1 + 1))) else (none)) = some (r1, r2, r3) := by first | (rw [hji57] at H; exact H) | (simp only [hji57] at H ⊢; exact H)
            (try rw [hji57] at A11)
            (try rw [hji57] at A48)
            by_cases c58 : 0 ≤ (ji57)
            ·rw [if_pos c58] at H
             have c58b0 := eq_true c58
             have c58b1 : decide (0 ≤ (ji57)) = true := decide_eq_true c58
             clear c58
             obtain ⟨ji59, hji59⟩ : ∃ j_ : Int, (shl .i64 1 (ji57)) = j_ := ⟨_, rfl⟩
             replace H : (spec_l08Step.l0 k1 a1 a2 t632 x11_1 x15_1 x13_1 (Go.bits .or .i64 x14_1 (ji59)) (wrap64 (x15_1 + 1))) = some (r1, r2, r3) := by first | (rw [hji59] at H; exact H) | (simp only [hji59] at H ⊢; exact H)
             (try rw [hji59] at A11)
             (try rw [hji59] at A48)
             have hji59_ : (IntKind.i64.wrap (1 * 2 ^ min (ji57).toNat 64)) = ji59 := hji59
             have hji59z : (ji57) ≤ 64 → (IntKind.i64.wrap (1 * 2 ^ (ji57).toNat)) = ji59 := shl_small hji59
             have hji59u : (IntKind.i64.wrap (2 ^ min (ji57).toNat 64)) = ji59 := by have h_ := hji59_; rw [Int.one_mul] at h_; exact h_
             have hji59v : (ji57) ≤ 64 → (IntKind.i64.wrap (2 ^ (ji57).toNat)) = ji59 := fun hle_ => by have h_ := hji59z hle_; rw [Int.one_mul] at h_; exact h_
             have hji59y : (wrap64 (1 * 2 ^ min (ji57).toNat 64)) = ji59 := (i64_w _).symm.trans hji59_
             have hji59x : (ji57) ≤ 64 → (wrap64 (1 * 2 ^ (ji57).toNat)) = ji59 := fun h_ => (i64_w _).symm.trans (hji59z h_)
             have H' := Aside0.mk H
             clear H
             obtain ⟨Ao60, co60, eo60⟩ := Kd.R_slice HO_9.out
             subst eo60
             have p636 : 0 ≤ (x15_1 : Int) := of_decide_eq_true (by first | (with_reducible assumption) | assumption)
             have q636 : x15_1 < (t632.length : Int) := of_decide_eq_true (by first | (with_reducible assumption) | assumption)
             obtain ⟨ad636, e636, hx636_0, hx636_1⟩ := at_T65 (Kd.R_reads' HO_9.out).2.2 x15_1 p636 q636
             cases e636
             replace p636 := eq_true p636
             replace q636 := eq_true q636
             try go_wp2_with (first | ((with_reducible refine gate_callee (f := 146) rfl ?_); refine goesL_ (some 35) rfl rfl Try.func146 (by kernel_rfl) rfl #[.agg #[.int .i64 ((rd_T65 t632 x15_1).f0), .int .i64 ((rd_T65 t632 x15_1).f1)]] rfl (by (try simp only [List.map_toArray, List.map_cons, List.map_nil]); first | done | rfl | (simp only [List.length_drop, List.length_take]; rfl)) ?_; (with_reducible refine (spec_l08Less.calls ((rd_T65 t632 x15_1).f0) ((rd_T65 t632 x15_1).f1) true _ A11.out).mono ?_); rintro e w61 ⟨rfl, hb⟩; refine ⟨_, rfl, ?_⟩; have n0_ := Aside0.mk (Kd.R_below (by (with_reducible repeat (first | apply Kd.R_alloc | apply Kd.R_drewN | apply Kd.R_drew)); exact HO_9.out) hb); have n1_ := Aside0.mk (blk_below (g := gb631) (o := .cells #[.slice A0_0 l0_0.length c0_0, .slice A0_1 l0_1.length c0_1] 29 (0, 0)) (by (with_reducible repeat (first | refine blk_drewN ?_ _ | refine blk_drew ?_ | refine blk_alloc ?_ _)); exact BK631.out) hb); have n2_ := Aside0.mk (below_step (by repeat (first | (with_reducible first | exact HB.out | apply below_alloc | apply pw_below_drewN | apply below_drew1 | refine below_set ?_ GE631.out) | exact HB.out)) hb); clear HO_9; clear BK631; clear HB; have HO_9 := n0_; have BK631 := n1_; have HB := n2_; clear n0_ n1_ n2_; (try clear hb); (try clear hb2); (try clear hk); (try clear hi)))
             have n0_ := Aside0.mk (Kd.R_drew HO_9.out)
             have n1_ := Aside0.mk (blk_drew BK631.out)
             have n2_ := Aside0.mk (below_drew1 HB.out)
             clear HO_9
             clear BK631
             clear HB
             have HO_9 := n0_
             have BK631 := n1_
             have HB := n2_
             clear n0_ n1_ n2_
             have p641 : 0 ≤ (x15_1 : Int) := of_decide_eq_true (by first | (with_reducible assumption) | assumption)
             have q641 : x15_1 < (t632.length : Int) := of_decide_eq_true (by first | (with_reducible assumption) | assumption)
             obtain ⟨ad641, e641, hx641_0, hx641_1⟩ := at_T65 (Kd.R_reads' HO_9.out).2.2 x15_1 p641 q641
             obtain rfl : ad636 = ad641 := (by injection e641)
             replace p641 := eq_true p641
             replace q641 := eq_true q641
             have p642 : 0 ≤ (x13_1 : Int) := of_decide_eq_true (by first | (with_reducible assumption) | assumption)
             have q642 : x13_1 < (t632.length : Int) := of_decide_eq_true (by first | (with_reducible assumption) | assumption)
             obtain ⟨ad642, e642, hx642_0, hx642_1⟩ := at_T65 (Kd.R_reads' HO_9.out).2.2 x13_1 p642 q642
             obtain rfl : ad636 = ad642 := (by injection e642)
             replace p642 := eq_true p642
             replace q642 := eq_true q642
             refine start_ (n := 13) (S := fun w' => w'.cell? (ad636.add ((x15_1).toNat * 2)) = some (.int .i64 ((rd_T65 t632 x15_1).f0)) ∧ w'.cell? ⟨(ad636.add ((x15_1).toNat * 2)).block, (ad636.add ((x15_1).toNat * 2)).off + 1, none⟩ = some (.int .i64 ((rd_T65 t632 x15_1).f1)) ∧ w'.cell? (ad636.add ((x13_1).toNat * 2)) = some (.int .i64 ((rd_T65 t632 x13_1).f0)) ∧ w'.cell? ⟨(ad636.add ((x13_1).toNat * 2)).block, (ad636.add ((x13_1).toNat * 2)).off + 1, none⟩ = some (.int .i64 ((rd_T65 t632 x13_1).f1))) (ds := []) #[false, false, false, false, false, false, false, false, false, false, false, false, false] (by kernel_rfl) rfl rfl ⟨hx641_0, hx641_1, hx642_0, hx642_1⟩ (fun hHeld => ?_); refine with_tabW spec_l08Step.tab12 spec_l08Step.bits12 (fun HT_ HW_ => ?_)
             generalize w61.drew = w62 at HO_9 BK631 HB hx641_0 hx641_1 hx642_0 hx642_1 hHeld ⊢
             refine pure_ (i := 0) (N := some 41) (v := ?_) (a' := ?_) #[true, false, false, false, false, false, false, false, false, false, false, false, false] rfl rfl (any_of HT_.out (by kernel_rfl)) (fun _ _ _ h => h) (Or.inl ⟨by rfl, ?_⟩) ?_ ?_
             rotate_left
             ·intro w'
              go_simp
              with_reducible rfl
             rotate_left
             ·simp only [Act.put, List.setIfInBounds_toArray, List.set_cons_zero, List.set_cons_succ, i64_w, i32_w]
              rfl
             refine pure_ (i := 1) (N := some 42) (v := ?_) (a' := ?_) #[true, true, false, false, false, false, false, false, false, false, false, false, false] rfl rfl (any_of HT_.out (by kernel_rfl)) (fun _ _ _ h => h) (Or.inl ⟨by rfl, ?_⟩) ?_ ?_
             rotate_left
             ·intro w'
              go_simp
              with_reducible rfl
             rotate_left
             ·simp only [Act.put, List.setIfInBounds_toArray, List.set_cons_zero, List.set_cons_succ, i64_w, i32_w]
              rfl
             refine pure_ (i := 2) (N := some 43) (v := ?_) (a' := ?_) #[true, true, true, false, false, false, false, false, false, false, false, false, false] rfl rfl (any_of HT_.out (by kernel_rfl)) (fun _ _ _ h => h) (Or.inl ⟨by rfl, ?_⟩) ?_ ?_
             rotate_left
             ·intro w'
              go_simp
              with_reducible rfl
             rotate_left
             ·simp only [Act.put, List.setIfInBounds_toArray, List.set_cons_zero, List.set_cons_succ, i64_w, i32_w]
              rfl
             refine pure_ (i := 3) (N := some 44) (v := ?_) (a' := ?_) #[true, true, true, true, false, false, false, false, false, false, false, false, false] rfl rfl (any_of HT_.out (by kernel_rfl)) (fun _ _ _ h => h) (Or.inl ⟨by rfl, ?_⟩) ?_ ?_
             rotate_left
             ·intro w'
              go_simp
              with_reducible rfl
             rotate_left
             ·simp only [Act.put, List.setIfInBounds_toArray, List.set_cons_zero, List.set_cons_succ, i64_w, i32_w]
              rfl
             refine pure_ (i := 4) (N := some 45) (v := ?_) (a' := ?_) #[true, true, true, true, true, false, false, false, false, false, false, false, false] rfl rfl (any_of HT_.out (by kernel_rfl)) (fun _ _ _ h => h) (Or.inl ⟨by rfl, ?_⟩) ?_ ?_
             rotate_left
             ·intro w'
              go_simp
              with_reducible rfl
             rotate_left
             ·simp only [Act.put, List.setIfInBounds_toArray, List.set_cons_zero, List.set_cons_succ, i64_w, i32_w]
              rfl
             refine pure_ (i := 5) (N := some 46) (v := ?_) (a' := ?_) #[true, true, true, true, true, true, false, false, false, false, false, false, false] rfl rfl (any_of HT_.out (by kernel_rfl)) (fun _ _ _ h => h) (Or.inl ⟨by rfl, ?_⟩) ?_ ?_
             rotate_left
             ·intro w'
              go_simp
              with_reducible rfl
             rotate_left
             ·simp only [Act.put, List.setIfInBounds_toArray, List.set_cons_zero, List.set_cons_succ, i64_w, i32_w]
              rfl
             refine pure_ (i := 7) (N := some 48) (v := ?_) (a' := ?_) #[true, true, true, true, true, true, false, true, false, false, false, false, false] rfl rfl (any_of HT_.out (by kernel_rfl)) (fun _ _ _ h => h) (Or.inl ⟨by rfl, ?_⟩) ?_ ?_
             rotate_left
             ·intro w'
              go_simp
              with_reducible rfl
             rotate_left
             ·simp only [Act.put, List.setIfInBounds_toArray, List.set_cons_zero, List.set_cons_succ, i64_w, i32_w]
              rfl
             refine pure_ (i := 8) (N := some 49) (v := ?_) (a' := ?_) #[true, true, true, true, true, true, false, true, true, false, false, false, false] rfl rfl (any_of HT_.out (by kernel_rfl)) (fun _ _ _ h => h) (Or.inl ⟨by rfl, ?_⟩) ?_ ?_
             rotate_left
             ·intro w'
              go_simp
              with_reducible rfl
             rotate_left
             ·simp only [Act.put, List.setIfInBounds_toArray, List.set_cons_zero, List.set_cons_succ, i64_w, i32_w]
              rfl
             refine pure_ (i := 9) (N := some 50) (v := ?_) (a' := ?_) #[true, true, true, true, true, true, false, true, true, true, false, false, false] rfl rfl (any_of HT_.out (by kernel_rfl)) (fun _ _ _ h => h) (Or.inl ⟨by rfl, ?_⟩) ?_ ?_
             rotate_left
             ·intro w'
              go_simp
              with_reducible rfl
             rotate_left
             ·simp only [Act.put, List.setIfInBounds_toArray, List.set_cons_zero, List.set_cons_succ, i64_w, i32_w]
              rfl
             refine take_ (i := 6) (N := some 47) (v := ?_) (a' := ?_) #[true, true, true, true, true, true, true, true, true, true, false, false, false] rfl rfl (take_ofW HT_.out HW_.out (by kernel_rfl)) (fun _ _ _ h => h) (Or.inl ⟨by rfl, ?_⟩) hHeld ?_ ?_
             rotate_left
             ·rintro w' ⟨s0, s1, s2, s3⟩
              go_simp
              with_reducible rfl
             rotate_left
             ·simp only [Act.put, List.setIfInBounds_toArray, List.set_cons_zero, List.set_cons_succ, i64_w, i32_w]
              rfl
             refine take_ (i := 10) (N := some 51) (v := ?_) (a' := ?_) #[true, true, true, true, true, true, true, true, true, true, true, false, false] rfl rfl (take_ofW HT_.out HW_.out (by kernel_rfl)) (fun _ _ _ h => h) (Or.inl ⟨by rfl, ?_⟩) hHeld ?_ ?_
             rotate_left
             ·rintro w' ⟨s0, s1, s2, s3⟩
              go_simp
              with_reducible rfl
             rotate_left
             ·simp only [Act.put, List.setIfInBounds_toArray, List.set_cons_zero, List.set_cons_succ, i64_w, i32_w]
              rfl
             refine one_ (i := 11) (N := some 52) #[true, true, true, true, true, true, true, true, true, true, true, true, false] rfl rfl (one_of HT_.out (by kernel_rfl)) (by decide) (fun K hK => ?_)
             refine goes_ Try.func147 (by kernel_rfl) rfl #[.agg #[.int .i64 ((rd_T65 t632 x15_1).f0), .int .i64 ((rd_T65 t632 x15_1).f1)], .agg #[.int .i64 ((rd_T65 t632 x13_1).f0), .int .i64 ((rd_T65 t632 x13_1).f1)]] (by rfl) rfl rfl (by (try simp only [List.map_toArray, List.map_cons, List.map_nil]); first | done | rfl | (simp only [List.length_drop, List.length_take]; rfl)) ?_
             with_reducible refine (spec_l01Less.calls ((rd_T65 t632 x15_1).f0) ((rd_T65 t632 x15_1).f1) ((rd_T65 t632 x13_1).f0) ((rd_T65 t632 x13_1).f1) false _ A48.out).mono ?_
             rintro e w63 ⟨rfl, hb⟩
             have HS0_ := (hb.cell (World.block_lt_of_cell? _ _ (hHeld.1))).trans (hHeld.1)
             have HS1_ := (hb.cell (World.block_lt_of_cell? _ _ (hHeld.2.1))).trans (hHeld.2.1)
             have HS2_ := (hb.cell (World.block_lt_of_cell? _ _ (hHeld.2.2.1))).trans (hHeld.2.2.1)
             have HS3_ := (hb.cell (World.block_lt_of_cell? _ _ (hHeld.2.2.2))).trans (hHeld.2.2.2)
             refine ⟨_, rfl, ?_⟩
             have n0_ := Aside0.mk (Kd.R_below (by (with_reducible repeat (first | apply Kd.R_alloc | apply Kd.R_drewN | apply Kd.R_drew)); exact HO_9.out) hb)
             have n1_ := Aside0.mk (blk_below (g := gb631) (o := .cells #[.slice A0_0 l0_0.length c0_0, .slice A0_1 l0_1.length c0_1] 29 (0, 0)) (by (with_reducible repeat (first | refine blk_drewN ?_ _ | refine blk_drew ?_ | refine blk_alloc ?_ _)); exact BK631.out) hb)
             have n2_ := Aside0.mk (below_step (by repeat (first | (with_reducible first | exact HB.out | apply below_alloc | apply pw_below_drewN | apply below_drew1 | refine below_set ?_ GE631.out) | exact HB.out)) hb)
             clear HO_9
             clear BK631
             clear HB
             have HO_9 := n0_
             have BK631 := n1_
             have HB := n2_
             clear n0_ n1_ n2_
             (try clear hb)
             (try clear hb2)
             (try clear hk)
             (try clear hi)
             refine hK.out _ _ ⟨HS0_, HS1_, HS2_, HS3_⟩ (fun hHeld => ?_)
             clear hK K
             refine norm_ (a' := ?_) ?_ ?_
             rotate_left
             ·show Act.put _ (some 52) _ = _
              simp only [Act.put, List.setIfInBounds_toArray, List.set_cons_zero, List.set_cons_succ, i64_w, i32_w]
              rfl
             refine pure_ (i := 12) (N := some 53) (v := ?_) (a' := ?_) #[true, true, true, true, true, true, true, true, true, true, true, true, true] rfl rfl (any_of HT_.out (by kernel_rfl)) (fun _ _ _ h => h) (Or.inl ⟨by rfl, ?_⟩) ?_ ?_
             rotate_left
             ·intro w'
              go_simp
              with_reducible rfl
             rotate_left
             ·simp only [Act.put, List.setIfInBounds_toArray, List.set_cons_zero, List.set_cons_succ, i64_w, i32_w]
              rfl
             refine done_ (done_of HT_.out (by kernel_rfl)) ?_
             try go_wp2
             go_roundg k1
             case measure => have := HK1.out; omega
             case rel => exact ⟨(x11_1), (x15_1), (x13_1), (Go.bits .or .i64 x14_1 (ji59)), (wrap64 (x15_1 + 1)), (by first | rfl | (simp; done) | (simp [*]; done)), (by first | rfl | (simp; done) | (simp [*]; done)), (by first | rfl | (simp; done) | (simp [*]; done)), (by first | rfl | (simp; done) | (simp only [← hji59] <;> (first | rfl | simp)) | (simp [*]; done)), (by first | rfl | (simp; done) | (simp [*]; done)), H', ⟨by have := HK1.out; omega⟩, ⟨by (with_reducible repeat (first | apply Kd.R_alloc | apply Kd.R_drewN | apply Kd.R_drew)); exact HO_9.out⟩, ⟨by (with_reducible repeat (first | refine blk_drewN ?_ _ | refine blk_drew ?_ | refine blk_alloc ?_ _)); exact BK631.out⟩, ⟨by repeat (first | (with_reducible first | exact HB.out | apply below_alloc | apply pw_below_drewN | apply below_drew1 | refine below_set ?_ GE631.out) | exact HB.out)⟩⟩
            ·rw [if_neg c58] at H
             exact absurd H (by simp)
          ·rw [if_neg c47] at H
           exact absurd H (by simp)
         ·rw [if_neg c46] at H
          exact absurd H (by simp)
      ·replace c12 := Bool.eq_false_iff.mpr c12
       subst c12
       have H1 : (spec_l08Step.l0 k1 a1 a2 t632 x11_1 x12_1 x13_1 x14_1 (wrap64 (x15_1 + 1))) = some (r1, r2, r3) := by rw [if_neg (show ¬ (false = true) by decide)] at H; exact H
       clear H
       have H := H1
       clear H1
       have H' := Aside0.mk H
       clear H
       obtain ⟨Ao64, co64, eo64⟩ := Kd.R_slice HO_9.out
       subst eo64
       have p636 : 0 ≤ (x15_1 : Int) := of_decide_eq_true (by first | (with_reducible assumption) | assumption)
       have q636 : x15_1 < (t632.length : Int) := of_decide_eq_true (by first | (with_reducible assumption) | assumption)
       obtain ⟨ad636, e636, hx636_0, hx636_1⟩ := at_T65 (Kd.R_reads' HO_9.out).2.2 x15_1 p636 q636
       cases e636
       replace p636 := eq_true p636
       replace q636 := eq_true q636
       go_wp2_with (first | ((with_reducible refine gate_callee (f := 146) rfl ?_); refine goesL_ (some 35) rfl rfl Try.func146 (by kernel_rfl) rfl #[.agg #[.int .i64 ((rd_T65 t632 x15_1).f0), .int .i64 ((rd_T65 t632 x15_1).f1)]] rfl (by (try simp only [List.map_toArray, List.map_cons, List.map_nil]); first | done | rfl | (simp only [List.length_drop, List.length_take]; rfl)) ?_; (with_reducible refine (spec_l08Less.calls ((rd_T65 t632 x15_1).f0) ((rd_T65 t632 x15_1).f1) false _ A11.out).mono ?_); rintro e w65 ⟨rfl, hb⟩; refine ⟨_, rfl, ?_⟩; have n0_ := Aside0.mk (Kd.R_below (by (with_reducible repeat (first | apply Kd.R_alloc | apply Kd.R_drewN | apply Kd.R_drew)); exact HO_9.out) hb); have n1_ := Aside0.mk (blk_below (g := gb631) (o := .cells #[.slice A0_0 l0_0.length c0_0, .slice A0_1 l0_1.length c0_1] 29 (0, 0)) (by (with_reducible repeat (first | refine blk_drewN ?_ _ | refine blk_drew ?_ | refine blk_alloc ?_ _)); exact BK631.out) hb); have n2_ := Aside0.mk (below_step (by repeat (first | (with_reducible first | exact HB.out | apply below_alloc | apply pw_below_drewN | apply below_drew1 | refine below_set ?_ GE631.out) | exact HB.out)) hb); clear HO_9; clear BK631; clear HB; have HO_9 := n0_; have BK631 := n1_; have HB := n2_; clear n0_ n1_ n2_; (try clear hb); (try clear hb2); (try clear hk); (try clear hi)))
       go_roundg k1
       case measure => have := HK1.out; omega
       case rel => exact ⟨(x11_1), (x12_1), (x13_1), (x14_1), (wrap64 (x15_1 + 1)), (by first | rfl | (simp; done) | (simp [*]; done)), (by first | rfl | (simp; done) | (simp [*]; done)), (by first | rfl | (simp; done) | (simp [*]; done)), (by first | rfl | (simp; done) | (simp [*]; done)), (by first | rfl | (simp; done) | (simp [*]; done)), H', ⟨by have := HK1.out; omega⟩, ⟨by (with_reducible repeat (first | apply Kd.R_alloc | apply Kd.R_drewN | apply Kd.R_drew)); exact HO_9.out⟩, ⟨by (with_reducible repeat (first | refine blk_drewN ?_ _ | refine blk_drew ?_ | refine blk_alloc ?_ _)); exact BK631.out⟩, ⟨by repeat (first | (with_reducible first | exact HB.out | apply below_alloc | apply pw_below_drewN | apply below_drew1 | refine below_set ?_ GE631.out) | exact HB.out)⟩⟩
     ·rw [if_neg c10] at H
      exact absurd H (by simp)
    ·rw [if_neg c9] at H
     have c9b0 : decide (x15_1 < (t632.length : Int)) = false := decide_eq_false c9
     clear c9
     by_cases c66 : x11_1 < 0
     ·rw [if_pos c66] at H
      have c66b0 : decide (x11_1 < 0) = true := decide_eq_true c66
      clear c66
      simp only [Option.some.injEq, Prod.mk.injEq] at H
      obtain ⟨rfl, rfl, rfl⟩ := H
      obtain ⟨Ao67, co67, eo67⟩ := Kd.R_slice HO_9.out
      subst eo67
      go_wp2
      go_ret3
      exact ⟨by first | rfl | (simp [errW_none, errW_some] <;> rfl) | (simp [*, errW_none, errW_some] <;> rfl), by repeat (first | (with_reducible first | exact HB.out | apply below_alloc | apply pw_below_drewN | apply below_drew1 | refine below_set ?_ GE631.out) | exact HB.out)⟩
     ·rw [if_neg c66] at H
      have c66b0 : decide (x11_1 < 0) = false := decide_eq_false c66
      clear c66
      by_cases c68 : a2 = 0
      ·rw [if_pos c68] at H
       have c68b0 : (a2 == 0) = true := beq_iff_eq.mpr c68
       have c68b1 : (a2 != 0) = false := bne_eq_false_iff_eq.mpr c68
       clear c68
       obtain ⟨ji69, hji69⟩ : ∃ j_ : Int, (IntKind.u64.wrap (x11_1)) = j_ := ⟨_, rfl⟩
       replace H : (if 0 ≤ (ji69) then (some (Go.bits .xor .i64 a1 (shl .i64 1 (ji69)), true, true)) else (none)) = some (r1, r2, r3) := by first | (rw [hji69] at H; exact H) | (simp only [hji69] at H ⊢; exact H)
       by_cases c70 : 0 ≤ (ji69)
       ·rw [if_pos c70] at H
        have c70b0 := eq_true c70
        have c70b1 : decide (0 ≤ (ji69)) = true := decide_eq_true c70
        clear c70
        obtain ⟨ji71, hji71⟩ : ∃ j_ : Int, (shl .i64 1 (ji69)) = j_ := ⟨_, rfl⟩
        replace H : (some (Go.bits .xor .i64 a1 (ji71), true, true)) = some (r1, r2, r3) := by first | (rw [hji71] at H; exact H) | (simp only [hji71] at H ⊢; exact H)
        have hji71_ : (IntKind.i64.wrap (1 * 2 ^ min (ji69).toNat 64)) = ji71 := hji71
        have hji71z : (ji69) ≤ 64 → (IntKind.i64.wrap (1 * 2 ^ (ji69).toNat)) = ji71 := shl_small hji71
        have hji71u : (IntKind.i64.wrap (2 ^ min (ji69).toNat 64)) = ji71 := by have h_ := hji71_; rw [Int.one_mul] at h_; exact h_
        have hji71v : (ji69) ≤ 64 → (IntKind.i64.wrap (2 ^ (ji69).toNat)) = ji71 := fun hle_ => by have h_ := hji71z hle_; rw [Int.one_mul] at h_; exact h_
        have hji71y : (wrap64 (1 * 2 ^ min (ji69).toNat 64)) = ji71 := (i64_w _).symm.trans hji71_
        have hji71x : (ji69) ≤ 64 → (wrap64 (1 * 2 ^ (ji69).toNat)) = ji71 := fun h_ => (i64_w _).symm.trans (hji71z h_)
        simp only [Option.some.injEq, Prod.mk.injEq] at H
        obtain ⟨rfl, rfl, rfl⟩ := H
        obtain ⟨Ao72, co72, eo72⟩ := Kd.R_slice HO_9.out
        subst eo72
        go_wp2
        go_ret3
        exact ⟨by first | rfl | (simp [errW_none, errW_some] <;> rfl) | (simp only [← hji69, ← hji71]; first | rfl | (simp [errW_none, errW_some] <;> rfl)) | (simp [*, errW_none, errW_some] <;> rfl), by repeat (first | (with_reducible first | exact HB.out | apply below_alloc | apply pw_below_drewN | apply below_drew1 | refine below_set ?_ GE631.out) | exact HB.out)⟩
       ·rw [if_neg c70] at H
        exact absurd H (by simp)
      ·rw [if_neg c68] at H
       have c68b0 : (a2 == 0) = false := beq_eq_false_iff_ne.mpr c68
       have c68b1 : (a2 != 0) = true := bne_iff_ne.mpr c68
       by_cases c73 : a2 = 1
       ·rw [if_pos c73] at H
        have c73b0 : (a2 == 1) = true := beq_iff_eq.mpr c73
        have c73b1 : (a2 != 1) = false := bne_eq_false_iff_eq.mpr c73
        clear c73
        obtain ⟨ji74, hji74⟩ : ∃ j_ : Int, (IntKind.u64.wrap (x12_1)) = j_ := ⟨_, rfl⟩
        replace H : (if 0 ≤ (ji74) then (some (Go.bits .xor .i64 a1 (shl .i64 1 (ji74)), true, true)) else (none)) = some (r1, r2, r3) := by first | (rw [hji74] at H; exact H) | (simp only [hji74] at H ⊢; exact H)
        by_cases c75 : 0 ≤ (ji74)
        ·rw [if_pos c75] at H
         have c75b0 := eq_true c75
         have c75b1 : decide (0 ≤ (ji74)) = true := decide_eq_true c75
         clear c75
         obtain ⟨ji76, hji76⟩ : ∃ j_ : Int, (shl .i64 1 (ji74)) = j_ := ⟨_, rfl⟩
         replace H : (some (Go.bits .xor .i64 a1 (ji76), true, true)) = some (r1, r2, r3) := by first | (rw [hji76] at H; exact H) | (simp only [hji76] at H ⊢; exact H)
         have hji76_ : (IntKind.i64.wrap (1 * 2 ^ min (ji74).toNat 64)) = ji76 := hji76
         have hji76z : (ji74) ≤ 64 → (IntKind.i64.wrap (1 * 2 ^ (ji74).toNat)) = ji76 := shl_small hji76
         have hji76u : (IntKind.i64.wrap (2 ^ min (ji74).toNat 64)) = ji76 := by have h_ := hji76_; rw [Int.one_mul] at h_; exact h_
         have hji76v : (ji74) ≤ 64 → (IntKind.i64.wrap (2 ^ (ji74).toNat)) = ji76 := fun hle_ => by have h_ := hji76z hle_; rw [Int.one_mul] at h_; exact h_
         have hji76y : (wrap64 (1 * 2 ^ min (ji74).toNat 64)) = ji76 := (i64_w _).symm.trans hji76_
         have hji76x : (ji74) ≤ 64 → (wrap64 (1 * 2 ^ (ji74).toNat)) = ji76 := fun h_ => (i64_w _).symm.trans (hji76z h_)
         simp only [Option.some.injEq, Prod.mk.injEq] at H
         obtain ⟨rfl, rfl, rfl⟩ := H
         obtain ⟨Ao77, co77, eo77⟩ := Kd.R_slice HO_9.out
         subst eo77
         go_wp2
         go_ret3
         exact ⟨by first | rfl | (simp [errW_none, errW_some] <;> rfl) | (simp only [← hji74, ← hji76]; first | rfl | (simp [errW_none, errW_some] <;> rfl)) | (simp [*, errW_none, errW_some] <;> rfl), by repeat (first | (with_reducible first | exact HB.out | apply below_alloc | apply pw_below_drewN | apply below_drew1 | refine below_set ?_ GE631.out) | exact HB.out)⟩
        ·rw [if_neg c75] at H
         exact absurd H (by simp)
       ·rw [if_neg c73] at H
        have c73b0 : (a2 == 1) = false := beq_eq_false_iff_ne.mpr c73
        have c73b1 : (a2 != 1) = true := bne_iff_ne.mpr c73
        by_cases c78 : a2 = 2
        ·rw [if_pos c78] at H
         have c78b0 : (a2 == 2) = true := beq_iff_eq.mpr c78
         have c78b1 : (a2 != 2) = false := bne_eq_false_iff_eq.mpr c78
         clear c78
         obtain ⟨ji79, hji79⟩ : ∃ j_ : Int, (IntKind.u64.wrap (x13_1)) = j_ := ⟨_, rfl⟩
         replace H : (if 0 ≤ (ji79) then (some (Go.bits .xor .i64 a1 (shl .i64 1 (ji79)), true, true)) else (none)) = some (r1, r2, r3) := by first | (rw [hji79] at H; exact H) | (simp only [hji79] at H ⊢; exact H)
         by_cases c80 : 0 ≤ (ji79)
         ·rw [if_pos c80] at H
          have c80b0 := eq_true c80
          have c80b1 : decide (0 ≤ (ji79)) = true := decide_eq_true c80
          clear c80
          obtain ⟨ji81, hji81⟩ : ∃ j_ : Int, (shl .i64 1 (ji79)) = j_ := ⟨_, rfl⟩
          replace H : (some (Go.bits .xor .i64 a1 (ji81), true, true)) = some (r1, r2, r3) := by first | (rw [hji81] at H; exact H) | (simp only [hji81] at H ⊢; exact H)
          have hji81_ : (IntKind.i64.wrap (1 * 2 ^ min (ji79).toNat 64)) = ji81 := hji81
          have hji81z : (ji79) ≤ 64 → (IntKind.i64.wrap (1 * 2 ^ (ji79).toNat)) = ji81 := shl_small hji81
          have hji81u : (IntKind.i64.wrap (2 ^ min (ji79).toNat 64)) = ji81 := by have h_ := hji81_; rw [Int.one_mul] at h_; exact h_
          have hji81v : (ji79) ≤ 64 → (IntKind.i64.wrap (2 ^ (ji79).toNat)) = ji81 := fun hle_ => by have h_ := hji81z hle_; rw [Int.one_mul] at h_; exact h_
          have hji81y : (wrap64 (1 * 2 ^ min (ji79).toNat 64)) = ji81 := (i64_w _).symm.trans hji81_
          have hji81x : (ji79) ≤ 64 → (wrap64 (1 * 2 ^ (ji79).toNat)) = ji81 := fun h_ => (i64_w _).symm.trans (hji81z h_)
          simp only [Option.some.injEq, Prod.mk.injEq] at H
          obtain ⟨rfl, rfl, rfl⟩ := H
          obtain ⟨Ao82, co82, eo82⟩ := Kd.R_slice HO_9.out
          subst eo82
          go_wp2
          go_ret3
          exact ⟨by first | rfl | (simp [errW_none, errW_some] <;> rfl) | (simp only [← hji79, ← hji81]; first | rfl | (simp [errW_none, errW_some] <;> rfl)) | (simp [*, errW_none, errW_some] <;> rfl), by repeat (first | (with_reducible first | exact HB.out | apply below_alloc | apply pw_below_drewN | apply below_drew1 | refine below_set ?_ GE631.out) | exact HB.out)⟩
         ·rw [if_neg c80] at H
          exact absurd H (by simp)
        ·rw [if_neg c78] at H
         have c78b0 : (a2 == 2) = false := beq_eq_false_iff_ne.mpr c78
         have c78b1 : (a2 != 2) = true := bne_iff_ne.mpr c78
         simp only [Option.some.injEq, Prod.mk.injEq] at H
         obtain ⟨rfl, rfl, rfl⟩ := H
         obtain ⟨Ao83, co83, eo83⟩ := Kd.R_slice HO_9.out
         subst eo83
         go_wp2
         go_ret3
         exact ⟨by first | rfl | (simp [errW_none, errW_some] <;> rfl) | (simp [*, errW_none, errW_some] <;> rfl), by repeat (first | (with_reducible first | exact HB.out | apply below_alloc | apply pw_below_drewN | apply below_drew1 | refine below_set ?_ GE631.out) | exact HB.out)⟩
 ·replace c5 := Bool.eq_false_iff.mpr c5
  subst c5
  have H1 : (some (a1, false, false)) = some (r1, r2, r3) := by rw [if_neg (show ¬ (false = true) by decide)] at H; exact H
  clear H
  have H := H1
  clear H1
  simp only [Option.some.injEq, Prod.mk.injEq] at H
  obtain ⟨rfl, rfl, rfl⟩ := H
  go_enter Try.func111, Try.ntmps111
  go_wp2_with (first | ((with_reducible refine gate_dst (N := 3) rfl ?_); refine box_event ?hg (N := 3) ?hd (cs := #[.slice A0_0 l0_0.length c0_0, .slice A0_1 l0_1.length c0_1]) (t := 29) ?hr ?_; (case hd => rfl); (case hg => rfl); (case hr => first | (go_simp; done) | (go_simp; rfl)); intro gb631 hg w84 hbox hb; have n0_ := Aside0.mk (below_step (by repeat (first | (with_reducible first | exact HB.out | apply below_alloc | apply pw_below_drewN | apply below_drew1) | exact HB.out)) hb); have n1_ := Aside0.mk (hbox); have n2_ := Aside0.mk ((by rw [hg]; exact (below_size (by repeat (first | (with_reducible first | exact HB.out | apply below_alloc | apply pw_below_drewN | apply below_drew1) | exact HB.out))) : w.heap.size ≤ gb631)); have n3_ := Aside0.mk ((by rw [hg]; exact (below_size (by repeat (first | (with_reducible first | exact HB.out | apply below_alloc | apply pw_below_drewN | apply below_drew1) | exact HB.out))) : w.heap.size ≤ gb631)); clear HB; have HB := n0_; have BK631 := n1_; have GW631 := n2_; have GE631 := n3_; clear n0_ n1_ n2_ n3_; clear hb hbox hg; have hcz85_0 : w84.cell? ⟨gb631, 0, none⟩ = some (.slice A0_0 l0_0.length c0_0) := (blk_cell BK631.out 0).trans rfl; have hcz85_1 : w84.cell? ⟨gb631, 1, none⟩ = some (.slice A0_1 l0_1.length c0_1) := (blk_cell BK631.out 1).trans rfl; have hfz85_0 := blk_frozen BK631.out 0; have hfz85_1 := blk_frozen BK631.out 1) | ((with_reducible refine gate_callee (f := 67) rfl ?_); refine goesL_ (some 19) rfl rfl Try.func67 (by kernel_rfl) rfl #[.agg #[.slice A0_0 l0_0.length c0_0, .slice A0_1 l0_1.length c0_1], .int .i64 a1] rfl (by (try simp only [List.map_toArray, List.map_cons, List.map_nil]); first | done | rfl | (simp only [List.length_drop, List.length_take]; rfl)) ?_; (with_reducible refine (spec_l01Point.calls k _ _ l0_0 _ _ l0_1 a1 t632 false _ ?side1 ?side2 ?side3 ?side4 A4.out).mono ?_); (case side1 => repeat (first | exact (Kd.C_below HR0_0.out HB.out) | (with_reducible refine Kd.C_alloc ?_ _) | (with_reducible refine Kd.C_drewN ?_ _) | (with_reducible refine Kd.C_drew ?_))); (case side2 => exact HC0_0.out); (case side3 => repeat (first | exact (Kd.C_below HR0_1.out HB.out) | (with_reducible refine Kd.C_alloc ?_ _) | (with_reducible refine Kd.C_drewN ?_ _) | (with_reducible refine Kd.C_drew ?_))); (case side4 => exact HC0_1.out); rintro e w86 ⟨v633, rfl, ho0, hb⟩; refine ⟨_, rfl, ?_⟩; have n0_ := Aside0.mk (Kd.R_lower ho0 (below_size (by repeat (first | (with_reducible first | exact HB.out | apply below_alloc | apply pw_below_drewN | apply below_drew1 | refine below_set ?_ GE631.out) | exact HB.out)))); have n1_ := Aside0.mk (blk_below (g := gb631) (o := .cells #[.slice A0_0 l0_0.length c0_0, .slice A0_1 l0_1.length c0_1] 29 (0, 0)) (by (with_reducible repeat (first | refine blk_drewN ?_ _ | refine blk_drew ?_ | refine blk_alloc ?_ _)); exact BK631.out) hb); have n2_ := Aside0.mk (below_step (by repeat (first | (with_reducible first | exact HB.out | apply below_alloc | apply pw_below_drewN | apply below_drew1 | refine below_set ?_ GE631.out) | exact HB.out)) hb); clear BK631; clear HB; have HO634 := n0_; have BK631 := n1_; have HB := n2_; clear n0_ n1_ n2_; (try clear hb); (try clear hb2); (try clear hk); (try clear hi); (try clear ho0)))
  go_ret3
  exact ⟨by first | rfl | (simp [errW_none, errW_some] <;> rfl) | (simp [*, errW_none, errW_some] <;> rfl), by repeat (first | (with_reducible first | exact HB.out | apply below_alloc | apply pw_below_drewN | apply below_drew1 | refine below_set ?_ GE631.out) | exact HB.out)⟩
def spec_l08Run.l0 : Nat → Int → Int → List Bool → List Int → List (List Int) → List Int → Option (List Int × Int)
 | 0, _, _, _, _, _, _ => none
 | k + 1, x1, x2, x8, x9, x645000, x645001 => if x9.length < 17592186044416 then ((some (x9 ++ [x1] : List Int)).bind fun y651 => ((spec_l08Step.f k x645000 x645001 x1 x2).bind fun bt654 => (if bt654.2.2 = true then (if 0 ≤ x1 then (if x1 < (x8.length : Int) then (if rdOf false x8 x1 = true then (some (y651, 2)) else (if bt654.2.1 = true then (spec_l08Run.l0 k bt654.1 x2 (x8.set (x1 : Int).toNat true) y651 x645000 x645001) else (some (y651, 0)))) else (none)) else (none)) else (some (y651, 1))))) else (none)
def spec_l08Run.f (k : Nat) (l0_0 : List (List Int)) (l0_1 : List Int) (a1 : Int) (a2 : Int) : Option (List Int × Int) := if 0 ≤ (IntKind.u64.wrap ((l0_1.length : Int))) then (if 0 ≤ (shl .i64 1 (IntKind.u64.wrap ((l0_1.length : Int)))) then (if (shl .i64 1 (IntKind.u64.wrap ((l0_1.length : Int))) : Int).toNat ≤ 281474976710656 then (spec_l08Run.l0 k a1 a2 (List.replicate (shl .i64 1 (IntKind.u64.wrap ((l0_1.length : Int))) : Int).toNat false) (([] : List Int)) l0_0 l0_1) else (none)) else (none)) else (none)
theorem spec_l08Run.mono_l : ∀ k, (∀ y0 y1 y2 y3 y4 y5, LeO (spec_l08Run.l0 k y0 y1 y2 y3 y4 y5) (spec_l08Run.l0 (k + 1) y0 y1 y2 y3 y4 y5))
 | 0 => fun _ _ _ _ _ _ r h => by simp [spec_l08Run.l0] at h
 | k + 1 => by
  have ih0 := spec_l08Run.mono_l k
  ·intro y0 y1 y2 y3 y4 y5
   unfold spec_l08Run.l0
   repeat' first
   | (with_reducible exact ih0 _ _ _ _ _ _)
   | (with_reducible exact spec_l08Step.mono _ _ _ _ _)
   | (with_reducible exact LeO.refl _)
   | (with_reducible exact LeO.none _)
   | (with_reducible refine LeO.ite ?_ ?_)
   | (with_reducible refine LeO.bind ?_ (fun _ => ?_))
   | exact ih0 _ _ _ _ _ _
   | exact spec_l08Step.mono _ _ _ _ _
   | exact LeO.none _
   | refine LeO.ite ?_ ?_
   | refine LeO.bind ?_ (fun _ => ?_)
theorem spec_l08Run.mono : ∀ a0 a1 a2 a3 k, LeO (spec_l08Run.f k a0 a1 a2 a3) (spec_l08Run.f (k + 1) a0 a1 a2 a3) := by
 intro a0 a1 a2 a3 k
 have ih0 := spec_l08Run.mono_l k
 unfold spec_l08Run.f
 repeat' first
   | (with_reducible exact ih0 _ _ _ _ _ _)
   | (with_reducible exact spec_l08Step.mono _ _ _ _ _)
   | (with_reducible exact LeO.refl _)
   | (with_reducible exact LeO.none _)
   | (with_reducible refine LeO.ite ?_ ?_)
   | (with_reducible refine LeO.bind ?_ (fun _ => ?_))
   | exact ih0 _ _ _ _ _ _
   | exact spec_l08Step.mono _ _ _ _ _
   | exact LeO.none _
   | refine LeO.ite ?_ ?_
   | refine LeO.bind ?_ (fun _ => ?_)
theorem spec_l08Run.calls (k : Nat) (A0_0 : Option Addr) (c0_0 : Nat) (l0_0 : List (List Int)) (A0_1 : Option Addr) (c0_1 : Nat) (l0_1 : List Int) (a1 : Int) (a2 : Int) (r1 : List Int) (r2 : Int) (w : World) (hr0_0 : Kd.C (Kd.slice 2 (Kd.int .i64)) w A0_0 l0_0.length l0_0) (hc0_0 : l0_0.length ≤ c0_0) (hr0_1 : Kd.C (Kd.int .i64) w A0_1 l0_1.length l0_1) (hc0_1 : l0_1.length ≤ c0_1) (h : spec_l08Run.f k l0_0 l0_1 a1 a2 = some (r1, r2)) :
  Calls Try.prog 79 #[.agg #[.slice A0_0 l0_0.length c0_0, .slice A0_1 l0_1.length c0_1], .int .i64 a1, .int .i64 a2] w fun e w' => ∃ v0_ : Value, e = .returned (.tuple #[v0_, .int .i64 r2]) ∧ Kd.R (Kd.int .i64) 2 w' w.heap.size (fun _ => True) v0_ r1 ∧ Below w.heap.size w w' := by
 have hu29 := Try.underlying29
 have HR0_0 := Aside0.mk hr0_0
 have HC0_0 := Aside0.mk hc0_0
 clear hr0_0 hc0_0
 have HR0_1 := Aside0.mk hr0_1
 have HC0_1 := Aside0.mk hc0_1
 clear hr0_1 hc0_1
 have HB := Aside0.mk (Below.refl w.heap.size w)
 have H : (if 0 ≤ (IntKind.u64.wrap ((l0_1.length : Int))) then (if 0 ≤ (shl .i64 1 (IntKind.u64.wrap ((l0_1.length : Int)))) then (if (shl .i64 1 (IntKind.u64.wrap ((l0_1.length : Int))) : Int).toNat ≤ 281474976710656 then (spec_l08Run.l0 k a1 a2 (List.replicate (shl .i64 1 (IntKind.u64.wrap ((l0_1.length : Int))) : Int).toNat false) (([] : List Int)) l0_0 l0_1) else (none)) else (none)) else (none)) = some (r1, r2) := h
 clear h
 obtain ⟨ji4, hji4⟩ : ∃ j_ : Int, (IntKind.u64.wrap ((l0_1.length : Int))) = j_ := ⟨_, rfl⟩
 replace H : (if 0 ≤ (ji4) then (if 0 ≤ (shl .i64 1 (ji4)) then (if (shl .i64 1 (ji4) : Int).toNat ≤ 281474976710656 then (spec_l08Run.l0 k a1 a2 (List.replicate (shl .i64 1 (ji4) : Int).toNat false) (([] : List Int)) l0_0 l0_1) else (none)) else (none)) else (none)) = some (r1, r2) := by first | (rw [hji4] at H; exact H) | (simp only [hji4] at H ⊢; exact H)
 by_cases c5 : 0 ≤ (ji4)
 ·rw [if_pos c5] at H
  have c5b0 := eq_true c5
  have c5b1 : decide (0 ≤ (ji4)) = true := decide_eq_true c5
  clear c5
  obtain ⟨ji6, hji6⟩ : ∃ j_ : Int, (shl .i64 1 (ji4)) = j_ := ⟨_, rfl⟩
  replace H : (if 0 ≤ (ji6) then (if (ji6 : Int).toNat ≤ 281474976710656 then (spec_l08Run.l0 k a1 a2 (List.replicate (ji6 : Int).toNat false) (([] : List Int)) l0_0 l0_1) else (none)) else (none)) = some (r1, r2) := by first | (rw [hji6] at H; exact H) | (simp only [hji6] at H ⊢; exact H)
  have hji6_ : (IntKind.i64.wrap (1 * 2 ^ min (ji4).toNat 64)) = ji6 := hji6
  have hji6z : (ji4) ≤ 64 → (IntKind.i64.wrap (1 * 2 ^ (ji4).toNat)) = ji6 := shl_small hji6
  have hji6u : (IntKind.i64.wrap (2 ^ min (ji4).toNat 64)) = ji6 := by have h_ := hji6_; rw [Int.one_mul] at h_; exact h_
  have hji6v : (ji4) ≤ 64 → (IntKind.i64.wrap (2 ^ (ji4).toNat)) = ji6 := fun hle_ => by have h_ := hji6z hle_; rw [Int.one_mul] at h_; exact h_
  have hji6y : (wrap64 (1 * 2 ^ min (ji4).toNat 64)) = ji6 := (i64_w _).symm.trans hji6_
  have hji6x : (ji4) ≤ 64 → (wrap64 (1 * 2 ^ (ji4).toNat)) = ji6 := fun h_ => (i64_w _).symm.trans (hji6z h_)
  by_cases c7 : 0 ≤ (ji6)
  ·rw [if_pos c7] at H
   have c7b0 := eq_true c7
   have c7b1 : decide (0 ≤ (ji6)) = true := decide_eq_true c7
   clear c7
   by_cases c8 : (ji6 : Int).toNat ≤ 281474976710656
   ·rw [if_pos c8] at H
    have c8b0 := eq_true c8
    have c8b1 : decide ((ji6 : Int).toNat ≤ 281474976710656) = true := decide_eq_true c8
    clear c8
    obtain ⟨y645, hy645⟩ : ∃ y_ : List Bool, y_ = (List.replicate (ji6 : Int).toNat false) := ⟨_, rfl⟩
    replace H : (spec_l08Run.l0 k a1 a2 y645 (([] : List Int)) l0_0 l0_1) = some (r1, r2) := by first | (rw [hy645]; with_reducible exact H) | (have H2_ := (Option.bind_some _ _).symm.trans H; rw [hy645]; with_reducible exact H2_) | (have H2_ := (Option.bind_some _ _).symm.trans H; with_reducible exact H2_) | with_reducible exact H | (rw [hy645]; exact H) | exact H
    have Ny645 := Aside0.mk hy645
    clear hy645
    obtain ⟨y648, hy648⟩ : ∃ y_ : List Int, y_ = (([] : List Int)) := ⟨_, rfl⟩
    replace H : (spec_l08Run.l0 k a1 a2 y645 y648 l0_0 l0_1) = some (r1, r2) := by first | (rw [hy648]; with_reducible exact H) | (have H2_ := (Option.bind_some _ _).symm.trans H; rw [hy648]; with_reducible exact H2_) | (have H2_ := (Option.bind_some _ _).symm.trans H; with_reducible exact H2_) | with_reducible exact H | (rw [hy648]; exact H) | exact H
    have Ny648 := Aside0.mk hy648
    clear hy648
    have H' := Aside0.mk H
    clear H
    go_enter Try.func79, Try.ntmps79
    go_wp2_with (first | ((with_reducible refine gate_dst (N := 3) rfl ?_); refine box_event ?hg (N := 3) ?hd (cs := #[.slice A0_0 l0_0.length c0_0, .slice A0_1 l0_1.length c0_1]) (t := 29) ?hr ?_; (case hd => rfl); (case hg => rfl); (case hr => first | (go_simp; done) | (go_simp; rfl)); intro gb644 hg w9 hbox hb; have n0_ := Aside0.mk (below_step (by repeat (first | (with_reducible first | exact HB.out | apply below_alloc | apply pw_below_drewN | apply below_drew1) | exact HB.out)) hb); have n1_ := Aside0.mk (hbox); have n2_ := Aside0.mk ((by rw [hg]; exact (below_size (by repeat (first | (with_reducible first | exact HB.out | apply below_alloc | apply pw_below_drewN | apply below_drew1) | exact HB.out))) : w.heap.size ≤ gb644)); have n3_ := Aside0.mk ((by rw [hg]; exact (below_size (by repeat (first | (with_reducible first | exact HB.out | apply below_alloc | apply pw_below_drewN | apply below_drew1) | exact HB.out))) : w.heap.size ≤ gb644)); clear HB; have HB := n0_; have BK644 := n1_; have GW644 := n2_; have GE644 := n3_; clear n0_ n1_ n2_ n3_; clear hb hbox hg; have hcz10_0 : w9.cell? ⟨gb644, 0, none⟩ = some (.slice A0_0 l0_0.length c0_0) := (blk_cell BK644.out 0).trans rfl; have hcz10_1 : w9.cell? ⟨gb644, 1, none⟩ = some (.slice A0_1 l0_1.length c0_1) := (blk_cell BK644.out 1).trans rfl; have hfz10_0 := blk_frozen BK644.out 0; have hfz10_1 := blk_frozen BK644.out 1) | ((with_reducible refine gate_dst (N := 18) rfl ?_); refine Kd.R_make Kd.bool _ 4 rfl (N := 18) rfl 133 _ _ rfl ji6 rfl rfl Try.underlying133 (.bool false) 1 info4 rfl (by decide) (by omega) false (ok := fun _ => True) (okp := fun _ => True) rfl (fun _ hk => hk) trivial (of_decide_eq_true (by first | (with_reducible assumption) | assumption)) (Nat.le_trans (Nat.mul_le_mul_right _ (of_decide_eq_true (by first | (with_reducible assumption) | assumption) : ji6.toNat ≤ 281474976710656)) (by omega)) (Below.refl _ _) (Nat.le_refl _) ?_; intro v646 w11 ho12 hb hg_ hnew_; clear hg_ hnew_; (first | rw [← Ny645.out] at ho12 | (simp only [Int.reduceToNat] at ho12; rw [← Ny645.out] at ho12)); have n0_ := Aside0.mk (Kd.R_lower ho12 (below_size (by repeat (first | (with_reducible first | exact HB.out | apply below_alloc | apply pw_below_drewN | apply below_drew1 | refine below_set ?_ GE644.out) | exact HB.out)))); have n1_ := Aside0.mk (blk_below (g := gb644) (o := .cells #[.slice A0_0 l0_0.length c0_0, .slice A0_1 l0_1.length c0_1] 29 (0, 0)) (by (with_reducible repeat (first | refine blk_drewN ?_ _ | refine blk_drew ?_ | refine blk_alloc ?_ _)); exact BK644.out) hb); have n2_ := Aside0.mk (below_step (by repeat (first | (with_reducible first | exact HB.out | apply below_alloc | apply pw_below_drewN | apply below_drew1 | refine below_set ?_ GE644.out) | exact HB.out)) hb); clear BK644; clear HB; have HO647 := n0_; have BK644 := n1_; have HB := n2_; clear n0_ n1_ n2_; clear hb ho12) | ((with_reducible refine gate_dst (N := 19) rfl ?_); refine Kd.R_lit (Kd.int .i64) _ 2 ?hg (N := 19) ?hd (xs := ([] : List Int)) (inner := []) (ok := fun _ => True) (okp := fun _ => True) ?hr ?hp (fun _ hk => hk) trivial (Below.refl _ _) (Nat.le_refl _) (by simp) ?_; (case hd => rfl); (case hg => rfl); (case hr => first | (go_simp; done) | (go_simp; rfl)); (case hp => exact (Reps.none _ _)); intro v649 w13 ho14 hb hg_ hnew_; clear hg_ hnew_; (first | rw [← Ny648.out] at ho14 | (simp only [Int.reduceToNat] at ho14; rw [← Ny648.out] at ho14)); have n0_ := Aside0.mk (Kd.R_below (by (with_reducible repeat (first | apply Kd.R_alloc | apply Kd.R_drewN | apply Kd.R_drew)); exact HO647.out) hb); have n1_ := Aside0.mk (Kd.R_lower ho14 (below_size (by repeat (first | (with_reducible first | exact HB.out | apply below_alloc | apply pw_below_drewN | apply below_drew1 | refine below_set ?_ GE644.out) | exact HB.out)))); have n2_ := Aside0.mk (blk_below (g := gb644) (o := .cells #[.slice A0_0 l0_0.length c0_0, .slice A0_1 l0_1.length c0_1] 29 (0, 0)) (by (with_reducible repeat (first | refine blk_drewN ?_ _ | refine blk_drew ?_ | refine blk_alloc ?_ _)); exact BK644.out) hb); have n3_ := Aside0.mk (below_step (by repeat (first | (with_reducible first | exact HB.out | apply below_alloc | apply pw_below_drewN | apply below_drew1 | refine below_set ?_ GE644.out) | exact HB.out)) hb); clear HO647; clear BK644; clear HB; have HO647 := n0_; have HO650 := n1_; have BK644 := n2_; have HB := n3_; clear n0_ n1_ n2_ n3_; clear hb ho14))
    go_loopg [1, 9] k (fun kq v1 v9 w' => ∃ (x1_1 : Int) (x8_1 : List Bool) (x9_1 : List Int), v1 = .int .i64 x1_1 ∧ Aside0 (spec_l08Run.l0 kq x1_1 a2 x8_1 x9_1 l0_0 l0_1 = some (r1, r2)) ∧ Aside0 (kq ≤ k) ∧ Aside0 (Kd.R Kd.bool 4 w' w.heap.size (fun _ => True) v646 x8_1) ∧ Aside0 (Kd.R (Kd.int .i64) 2 w' w.heap.size (fun _ => True) v9 x9_1) ∧ Aside0 (w'.heap[gb644]? = some (.cells #[(.slice A0_0 l0_0.length c0_0), (.slice A0_1 l0_1.length c0_1)] 29 (0, 0))) ∧ Aside0 (Below w.heap.size w w'))
    case atStart => exact ⟨(a1), (y645), (y648), (by first | rfl | (simp; done) | (simp [*]; done)), H', ⟨Nat.le_refl _⟩, ⟨by (with_reducible repeat (first | apply Kd.R_alloc | apply Kd.R_drewN | apply Kd.R_drew)); exact HO647.out⟩, ⟨by (with_reducible repeat (first | apply Kd.R_alloc | apply Kd.R_drewN | apply Kd.R_drew)); exact HO650.out⟩, ⟨by (with_reducible repeat (first | refine blk_drewN ?_ _ | refine blk_drew ?_ | refine blk_alloc ?_ _)); exact BK644.out⟩, ⟨by repeat (first | (with_reducible first | exact HB.out | apply below_alloc | apply pw_below_drewN | apply below_drew1 | refine below_set ?_ GE644.out) | exact HB.out)⟩⟩
    case round =>
     clear H'
     try clear p2
     try clear c5
     try clear c5b0
     try clear c5b1
     try clear p6
     try clear c7
     try clear c7b0
     try clear c7b1
     try clear c8
     try clear c8b0
     try clear c8b1
     try clear hcz10_0
     try clear hcz10_1
     try clear hfz10_0
     try clear hfz10_1
     obtain ⟨x1_1, x8_1, x9_1, rfl, HA, HK1, HO_8, HO_9, BK644, HB⟩ := hrel
     cases gk with
     | zero => exact absurd HA.out (by simp [spec_l08Run.l0])
     | succ k1 =>
      have H := HA.out
      clear HA
      simp only [spec_l08Run.l0] at H
      by_cases c15 : x9_1.length < 17592186044416
      ·rw [if_pos c15] at H
       have LMc15 := Aside0.mk c15
       clear c15
       obtain ⟨y651, hy651⟩ : ∃ y_ : List Int, y_ = (x9_1 ++ [x1_1]) := ⟨_, rfl⟩
       replace H : ((spec_l08Step.f k1 l0_0 l0_1 x1_1 a2).bind fun bt654 => (if bt654.2.2 = true then (if 0 ≤ x1_1 then (if x1_1 < (x8_1.length : Int) then (if rdOf false x8_1 x1_1 = true then (some (y651, 2)) else (if bt654.2.1 = true then (spec_l08Run.l0 k1 bt654.1 a2 (x8_1.set (x1_1 : Int).toNat true) y651 l0_0 l0_1) else (some (y651, 0)))) else (none)) else (none)) else (some (y651, 1)))) = some (r1, r2) := by first | (rw [hy651]; with_reducible exact H) | (have H2_ := (Option.bind_some _ _).symm.trans H; rw [hy651]; with_reducible exact H2_) | (have H2_ := (Option.bind_some _ _).symm.trans H; with_reducible exact H2_) | with_reducible exact H | (rw [hy651]; exact H) | exact H
       have Ny651 := Aside0.mk hy651
       clear hy651
       replace H := Option.bind_eq_some_iff.mp H
       obtain ⟨⟨t654, t655, t656⟩, A160, H⟩ := H
       replace H : (if t656 = true then (if 0 ≤ x1_1 then (if x1_1 < (x8_1.length : Int) then (if rdOf false x8_1 x1_1 = true then (some (y651, 2)) else (if t655 = true then (spec_l08Run.l0 k1 t654 a2 (x8_1.set (x1_1 : Int).toNat true) y651 l0_0 l0_1) else (some (y651, 0)))) else (none)) else (none)) else (some (y651, 1))) = some (r1, r2) := H
       have A16 := Aside0.mk A160
       clear A160
       by_cases c17 : t656 = true
       ·subst c17
        have H1 : (if 0 ≤ x1_1 then (if x1_1 < (x8_1.length : Int) then (if rdOf false x8_1 x1_1 = true then (some (y651, 2)) else (if t655 = true then (spec_l08Run.l0 k1 t654 a2 (x8_1.set (x1_1 : Int).toNat true) y651 l0_0 l0_1) else (some (y651, 0)))) else (none)) else (none)) = some (r1, r2) := by rw [if_pos rfl] at H; exact H
        clear H
        have H := H1
        clear H1
        by_cases c18 : 0 ≤ x1_1
        ·rw [if_pos c18] at H
         have c18b0 : decide (0 ≤ x1_1) = true := decide_eq_true c18
         clear c18
         by_cases c19 : x1_1 < (x8_1.length : Int)
         ·rw [if_pos c19] at H
          have c19b0 : decide (x1_1 < (x8_1.length : Int)) = true := decide_eq_true c19
          clear c19
          obtain ⟨bq20, hbq20⟩ : ∃ b_ : Bool, b_ = (rdOf false x8_1 x1_1) := ⟨_, rfl⟩
          replace H : (if bq20 = true then (some (y651, 2)) else (if t655 = true then (spec_l08Run.l0 k1 t654 a2 (x8_1.set (x1_1 : Int).toNat true) y651 l0_0 l0_1) else (some (y651, 0)))) = some (r1, r2) := by rw [← hbq20] at H; exact H
          have Nbq20 := Aside0.mk hbq20
          clear hbq20
          by_cases c21 : bq20 = true
          ·subst c21
           have H1 : (some (y651, 2)) = some (r1, r2) := by rw [if_pos rfl] at H; exact H
           clear H
           have H := H1
           clear H1
           simp only [Option.some.injEq, Prod.mk.injEq] at H
           obtain ⟨rfl, rfl⟩ := H
           go_wp2_with (first | ((with_reducible refine gate_builtin (b := .append) (xs := #[.tmp 20, .tmp 22]) rfl ?_); at_builtin; refine Kd.R_append (Kd.int .i64) (w0 := w) w.heap.size rfl (.tmp 20) (.tmp 22) 23 2 (.int .i64 0) 8 rfl Try.underlying23 info2 rfl (by decide) (by omega) u9 x9_1 x1_1 [.int .i64 x1_1] (fun _ => True) (fun _ => False) rfl rfl ?aP (fun _ hk => hk.elim) ?aF ?aO ?aB ?aS ?aL ?_; (case aP => exact rfl); (case aB => exact (by repeat (first | (with_reducible first | exact HB.out | apply below_alloc | apply pw_below_drewN | apply below_drew1 | refine below_set ?_ GE644.out) | exact HB.out))); (case aF => exact (fun _ _ => trivial)); (case aO => exact (by (with_reducible repeat (first | apply Kd.R_alloc | apply Kd.R_drewN | apply Kd.R_drew)); exact HO_9.out)); (case aS => exact (below_size (by repeat (first | (with_reducible first | exact HB.out | apply below_alloc | apply pw_below_drewN | apply below_drew1 | refine below_set ?_ GE644.out) | exact HB.out)))); (case aL => have := LMc15.out; omega); intro v652 w22 ho hb hg hat; rw [← Ny651.out] at ho; have n0_ := Aside0.mk (Kd.R_over' (by (with_reducible repeat (first | apply Kd.R_alloc | apply Kd.R_drewN | apply Kd.R_drew)); exact HO_8.out) (Kd.R_typed (by (with_reducible repeat (first | apply Kd.R_alloc | apply Kd.R_drewN | apply Kd.R_drew)); exact HO_9.out)) (by decide) hg); have n1_ := Aside0.mk (blk_grown (g := gb644) (o := .cells #[.slice A0_0 l0_0.length c0_0, .slice A0_1 l0_1.length c0_1] 29 (0, 0)) (by (with_reducible repeat (first | refine blk_drewN ?_ _ | refine blk_drew ?_ | refine blk_alloc ?_ _)); exact BK644.out) hg (Kd.R_ne HO_9.out BK644.out (by decide))); have n2_ := Aside0.mk (hb); have n3_ := Aside0.mk (ho); clear HO_8; clear BK644; clear HB; clear HO_9; have HO_8 := n0_; have BK644 := n1_; have HB := n2_; have HO653 := n3_; clear n0_ n1_ n2_ n3_; clear ho hb hg hat; have hcz23_0 : w22.cell? ⟨gb644, 0, none⟩ = some (.slice A0_0 l0_0.length c0_0) := (blk_cell BK644.out 0).trans rfl; have hcz23_1 : w22.cell? ⟨gb644, 1, none⟩ = some (.slice A0_1 l0_1.length c0_1) := (blk_cell BK644.out 1).trans rfl; have hfz23_0 := blk_frozen BK644.out 0; have hfz23_1 := blk_frozen BK644.out 1) | ((with_reducible refine gate_callee (f := 111) rfl ?_); refine goesL_ (some 28) rfl rfl Try.func111 (by kernel_rfl) rfl #[.agg #[.slice A0_0 l0_0.length c0_0, .slice A0_1 l0_1.length c0_1], .int .i64 x1_1, .int .i64 a2] rfl (by (try simp only [List.map_toArray, List.map_cons, List.map_nil]); first | done | rfl | (simp only [List.length_drop, List.length_take]; rfl)) ?_; (with_reducible refine (spec_l08Step.calls k1 _ _ l0_0 _ _ l0_1 x1_1 a2 t654 t655 true _ ?side1 ?side2 ?side3 ?side4 A16.out).mono ?_); (case side1 => repeat (first | exact (Kd.C_below HR0_0.out HB.out) | (with_reducible refine Kd.C_alloc ?_ _) | (with_reducible refine Kd.C_drewN ?_ _) | (with_reducible refine Kd.C_drew ?_))); (case side2 => exact HC0_0.out); (case side3 => repeat (first | exact (Kd.C_below HR0_1.out HB.out) | (with_reducible refine Kd.C_alloc ?_ _) | (with_reducible refine Kd.C_drewN ?_ _) | (with_reducible refine Kd.C_drew ?_))); (case side4 => exact HC0_1.out); rintro e w24 ⟨rfl, hb⟩; refine ⟨_, rfl, ?_⟩; have n0_ := Aside0.mk (Kd.R_below (by (with_reducible repeat (first | apply Kd.R_alloc | apply Kd.R_drewN | apply Kd.R_drew)); exact HO_8.out) hb); have n1_ := Aside0.mk (Kd.R_below (by (with_reducible repeat (first | apply Kd.R_alloc | apply Kd.R_drewN | apply Kd.R_drew)); exact HO653.out) hb); have n2_ := Aside0.mk (blk_below (g := gb644) (o := .cells #[.slice A0_0 l0_0.length c0_0, .slice A0_1 l0_1.length c0_1] 29 (0, 0)) (by (with_reducible repeat (first | refine blk_drewN ?_ _ | refine blk_drew ?_ | refine blk_alloc ?_ _)); exact BK644.out) hb); have n3_ := Aside0.mk (below_step (by repeat (first | (with_reducible first | exact HB.out | apply below_alloc | apply pw_below_drewN | apply below_drew1 | refine below_set ?_ GE644.out) | exact HB.out)) hb); clear HO_8; clear HO653; clear BK644; clear HB; have HO_8 := n0_; have HO653 := n1_; have BK644 := n2_; have HB := n3_; clear n0_ n1_ n2_ n3_; (try clear hb); (try clear hb2); (try clear hk); (try clear hi); obtain ⟨Ao25, co25, eo25⟩ := Kd.R_slice HO_8.out; subst eo25; have p657 : 0 ≤ (x1_1 : Int) := of_decide_eq_true (by first | (with_reducible assumption) | assumption); have q657 : x1_1 < (x8_1.length : Int) := of_decide_eq_true (by first | (with_reducible assumption) | assumption); obtain ⟨ad657, e657, hx657_0⟩ := Kd.at_bool (Kd.R_reads' HO_8.out).2.2 x1_1 p657 q657; (try rw [← Nbq20.out] at hx657_0); cases e657; replace p657 := eq_true p657; replace q657 := eq_true q657))
           go_ret2
           exact ⟨_, by first | rfl | (simp [errW_none, errW_some] <;> rfl) | (simp only [← hji4, ← hji6]; first | rfl | (simp [errW_none, errW_some] <;> rfl)) | (simp [*, errW_none, errW_some] <;> rfl), by (with_reducible repeat (first | apply Kd.R_alloc | apply Kd.R_drewN | apply Kd.R_drew)); exact HO653.out, by repeat (first | (with_reducible first | exact HB.out | apply below_alloc | apply pw_below_drewN | apply below_drew1 | refine below_set ?_ GE644.out) | exact HB.out)⟩
          ·replace c21 := Bool.eq_false_iff.mpr c21
           subst c21
           have H1 : (if t655 = true then (spec_l08Run.l0 k1 t654 a2 (x8_1.set (x1_1 : Int).toNat true) y651 l0_0 l0_1) else (some (y651, 0))) = some (r1, r2) := by rw [if_neg (show ¬ (false = true) by decide)] at H; exact H
           clear H
           have H := H1
           clear H1
           by_cases c26 : t655 = true
           ·subst c26
            have H1 : (spec_l08Run.l0 k1 t654 a2 (x8_1.set (x1_1 : Int).toNat true) y651 l0_0 l0_1) = some (r1, r2) := by rw [if_pos rfl] at H; exact H
            clear H
            have H := H1
            clear H1
            obtain ⟨y658, hy658⟩ : ∃ y_ : List Bool, y_ = (x8_1.set (x1_1 : Int).toNat true) := ⟨_, rfl⟩
            replace H : (spec_l08Run.l0 k1 t654 a2 y658 y651 l0_0 l0_1) = some (r1, r2) := by first | (rw [hy658]; with_reducible exact H) | (have H2_ := (Option.bind_some _ _).symm.trans H; rw [hy658]; with_reducible exact H2_) | (have H2_ := (Option.bind_some _ _).symm.trans H; with_reducible exact H2_) | with_reducible exact H | (rw [hy658]; exact H) | exact H
            have Ny658 := Aside0.mk hy658
            clear hy658
            have H' := Aside0.mk H
            clear H
            go_wp2_with (first | ((with_reducible refine gate_builtin (b := .append) (xs := #[.tmp 20, .tmp 22]) rfl ?_); at_builtin; refine Kd.R_append (Kd.int .i64) (w0 := w) w.heap.size rfl (.tmp 20) (.tmp 22) 23 2 (.int .i64 0) 8 rfl Try.underlying23 info2 rfl (by decide) (by omega) u9 x9_1 x1_1 [.int .i64 x1_1] (fun _ => True) (fun _ => False) rfl rfl ?aP (fun _ hk => hk.elim) ?aF ?aO ?aB ?aS ?aL ?_; (case aP => exact rfl); (case aB => exact (by repeat (first | (with_reducible first | exact HB.out | apply below_alloc | apply pw_below_drewN | apply below_drew1 | refine below_set ?_ GE644.out) | exact HB.out))); (case aF => exact (fun _ _ => trivial)); (case aO => exact (by (with_reducible repeat (first | apply Kd.R_alloc | apply Kd.R_drewN | apply Kd.R_drew)); exact HO_9.out)); (case aS => exact (below_size (by repeat (first | (with_reducible first | exact HB.out | apply below_alloc | apply pw_below_drewN | apply below_drew1 | refine below_set ?_ GE644.out) | exact HB.out)))); (case aL => have := LMc15.out; omega); intro v652 w28 ho hb hg hat; rw [← Ny651.out] at ho; have n0_ := Aside0.mk (Kd.R_over' (by (with_reducible repeat (first | apply Kd.R_alloc | apply Kd.R_drewN | apply Kd.R_drew)); exact HO_8.out) (Kd.R_typed (by (with_reducible repeat (first | apply Kd.R_alloc | apply Kd.R_drewN | apply Kd.R_drew)); exact HO_9.out)) (by decide) hg); have n1_ := Aside0.mk (blk_grown (g := gb644) (o := .cells #[.slice A0_0 l0_0.length c0_0, .slice A0_1 l0_1.length c0_1] 29 (0, 0)) (by (with_reducible repeat (first | refine blk_drewN ?_ _ | refine blk_drew ?_ | refine blk_alloc ?_ _)); exact BK644.out) hg (Kd.R_ne HO_9.out BK644.out (by decide))); have n2_ := Aside0.mk (hb); have n3_ := Aside0.mk (ho); clear HO_8; clear BK644; clear HB; clear HO_9; have HO_8 := n0_; have BK644 := n1_; have HB := n2_; have HO653 := n3_; clear n0_ n1_ n2_ n3_; clear ho hb hg hat; have hcz29_0 : w28.cell? ⟨gb644, 0, none⟩ = some (.slice A0_0 l0_0.length c0_0) := (blk_cell BK644.out 0).trans rfl; have hcz29_1 : w28.cell? ⟨gb644, 1, none⟩ = some (.slice A0_1 l0_1.length c0_1) := (blk_cell BK644.out 1).trans rfl; have hfz29_0 := blk_frozen BK644.out 0; have hfz29_1 := blk_frozen BK644.out 1) | ((with_reducible refine gate_callee (f := 111) rfl ?_); refine goesL_ (some 28) rfl rfl Try.func111 (by kernel_rfl) rfl #[.agg #[.slice A0_0 l0_0.length c0_0, .slice A0_1 l0_1.length c0_1], .int .i64 x1_1, .int .i64 a2] rfl (by (try simp only [List.map_toArray, List.map_cons, List.map_nil]); first | done | rfl | (simp only [List.length_drop, List.length_take]; rfl)) ?_; (with_reducible refine (spec_l08Step.calls k1 _ _ l0_0 _ _ l0_1 x1_1 a2 t654 true true _ ?side1 ?side2 ?side3 ?side4 A16.out).mono ?_); (case side1 => repeat (first | exact (Kd.C_below HR0_0.out HB.out) | (with_reducible refine Kd.C_alloc ?_ _) | (with_reducible refine Kd.C_drewN ?_ _) | (with_reducible refine Kd.C_drew ?_))); (case side2 => exact HC0_0.out); (case side3 => repeat (first | exact (Kd.C_below HR0_1.out HB.out) | (with_reducible refine Kd.C_alloc ?_ _) | (with_reducible refine Kd.C_drewN ?_ _) | (with_reducible refine Kd.C_drew ?_))); (case side4 => exact HC0_1.out); rintro e w30 ⟨rfl, hb⟩; refine ⟨_, rfl, ?_⟩; have n0_ := Aside0.mk (Kd.R_below (by (with_reducible repeat (first | apply Kd.R_alloc | apply Kd.R_drewN | apply Kd.R_drew)); exact HO_8.out) hb); have n1_ := Aside0.mk (Kd.R_below (by (with_reducible repeat (first | apply Kd.R_alloc | apply Kd.R_drewN | apply Kd.R_drew)); exact HO653.out) hb); have n2_ := Aside0.mk (blk_below (g := gb644) (o := .cells #[.slice A0_0 l0_0.length c0_0, .slice A0_1 l0_1.length c0_1] 29 (0, 0)) (by (with_reducible repeat (first | refine blk_drewN ?_ _ | refine blk_drew ?_ | refine blk_alloc ?_ _)); exact BK644.out) hb); have n3_ := Aside0.mk (below_step (by repeat (first | (with_reducible first | exact HB.out | apply below_alloc | apply pw_below_drewN | apply below_drew1 | refine below_set ?_ GE644.out) | exact HB.out)) hb); clear HO_8; clear HO653; clear BK644; clear HB; have HO_8 := n0_; have HO653 := n1_; have BK644 := n2_; have HB := n3_; clear n0_ n1_ n2_ n3_; (try clear hb); (try clear hb2); (try clear hk); (try clear hi); obtain ⟨Ao31, co31, eo31⟩ := Kd.R_slice HO_8.out; subst eo31; have p657 : 0 ≤ (x1_1 : Int) := of_decide_eq_true (by first | (with_reducible assumption) | assumption); have q657 : x1_1 < (x8_1.length : Int) := of_decide_eq_true (by first | (with_reducible assumption) | assumption); obtain ⟨ad657, e657, hx657_0⟩ := Kd.at_bool (Kd.R_reads' HO_8.out).2.2 x1_1 p657 q657; (try rw [← Nbq20.out] at hx657_0); cases e657; replace p657 := eq_true p657; replace q657 := eq_true q657; have p27 : 0 ≤ (x1_1 : Int) := of_decide_eq_true (by first | (with_reducible assumption) | assumption); have q27 : (x1_1 : Int) < ((x8_1.length : Int) : Int) := of_decide_eq_true (by first | (with_reducible assumption) | assumption); obtain ⟨go27, co27, eo27, gb27, gl27, cl27, HG27⟩ := Kd.R_form HO_8.out (by omega); (first | cases eo27 | (injection eo27 with ea_ en_ ec_; (first | subst ea_ | (injection ea_ with ea_; subst ea_)); subst ec_; clear en_)); have GB27 := Aside0.mk gb27; have GG27 := Aside0.mk HG27; clear gb27 gl27 HG27; (first | simp only [add_plain] at hx657_0 | skip); obtain ⟨hx27_0, hf27_0⟩ := Kd.R_celln false HO_8.out (x1_1 : Int) p27 q27; replace p27 := eq_true p27; replace q27 := eq_true q27; obtain ⟨hy32_, hz32_⟩ := Kd.R_celln false HO_8.out (x1_1 : Int) (of_decide_eq_true (by first | (with_reducible assumption) | assumption)) (of_decide_eq_true (by first | (with_reducible assumption) | assumption)); have HP32 := Kd.R_putg HO_8.out (x1_1 : Int) true) | ((with_reducible refine gate_store (t := 4) (p := 48) rfl ?_); refine store_event (t := 4) (p := 48) (v := ?vo_w33) (w1 := (w30.setCell ⟨go27, (x1_1 : Int).toNat, none⟩ (.bool true))) ?hg ?ho ?hn ?hr ?_; (case ho => rfl); (case hg => rfl); (case hn => rfl); (case hr => first | (go_simp; done) | (go_simp; rfl)); intro w33 hw; have hg : w30.grownBy w33 (some go27) := (by rw [hw]; exact HP32.2); have hp_ : Kd.R Kd.bool 4 w33 w.heap.size (fun _ => True) (.slice (some ⟨go27, 0, none⟩) x8_1.length co31) y658 := (by rw [hw, Ny658.out]; exact HP32.1); clear HP32; have n0_ := Aside0.mk (hp_); have n1_ := Aside0.mk (blk_grown (g := gb644) (o := .cells #[.slice A0_0 l0_0.length c0_0, .slice A0_1 l0_1.length c0_1] 29 (0, 0)) (by (with_reducible repeat (first | refine blk_drewN ?_ _ | refine blk_drew ?_ | refine blk_alloc ?_ _)); exact BK644.out) hg (Kd.R_ne HO_8.out BK644.out (by decide))); have n2_ := Aside0.mk (Kd.R_over' (v := (.slice (some ⟨go27, 0, none⟩) x8_1.length co31)) (by (with_reducible repeat (first | apply Kd.R_alloc | apply Kd.R_drewN | apply Kd.R_drew)); exact HO653.out) (Kd.R_typed HO_8.out) (by decide) hg); have n3_ := Aside0.mk ((by rw [hw]; exact below_set (HB.out) GB27.out : Below w.heap.size w w33)); clear HO_8; clear BK644; clear HO653; clear HB; have HO_8 := n0_; have BK644 := n1_; have HO653 := n2_; have HB := n3_; clear n0_ n1_ n2_ n3_; clear hg hw hp_))
            go_roundg k1
            case measure => have := HK1.out; omega
            case rel => exact ⟨(t654), (y658), (y651), (by first | rfl | (simp; done) | (simp [*]; done)), H', ⟨by have := HK1.out; omega⟩, ⟨by (with_reducible repeat (first | apply Kd.R_alloc | apply Kd.R_drewN | apply Kd.R_drew)); exact HO_8.out⟩, ⟨by (with_reducible repeat (first | apply Kd.R_alloc | apply Kd.R_drewN | apply Kd.R_drew)); exact HO653.out⟩, ⟨by (with_reducible repeat (first | refine blk_drewN ?_ _ | refine blk_drew ?_ | refine blk_alloc ?_ _)); exact BK644.out⟩, ⟨by repeat (first | (with_reducible first | exact HB.out | apply below_alloc | apply pw_below_drewN | apply below_drew1 | refine below_set ?_ GE644.out) | exact HB.out)⟩⟩
           ·replace c26 := Bool.eq_false_iff.mpr c26
            subst c26
            have H1 : (some (y651, 0)) = some (r1, r2) := by rw [if_neg (show ¬ (false = true) by decide)] at H; exact H
            clear H
            have H := H1
            clear H1
            simp only [Option.some.injEq, Prod.mk.injEq] at H
            obtain ⟨rfl, rfl⟩ := H
            go_wp2_with (first | ((with_reducible refine gate_builtin (b := .append) (xs := #[.tmp 20, .tmp 22]) rfl ?_); at_builtin; refine Kd.R_append (Kd.int .i64) (w0 := w) w.heap.size rfl (.tmp 20) (.tmp 22) 23 2 (.int .i64 0) 8 rfl Try.underlying23 info2 rfl (by decide) (by omega) u9 x9_1 x1_1 [.int .i64 x1_1] (fun _ => True) (fun _ => False) rfl rfl ?aP (fun _ hk => hk.elim) ?aF ?aO ?aB ?aS ?aL ?_; (case aP => exact rfl); (case aB => exact (by repeat (first | (with_reducible first | exact HB.out | apply below_alloc | apply pw_below_drewN | apply below_drew1 | refine below_set ?_ GE644.out) | exact HB.out))); (case aF => exact (fun _ _ => trivial)); (case aO => exact (by (with_reducible repeat (first | apply Kd.R_alloc | apply Kd.R_drewN | apply Kd.R_drew)); exact HO_9.out)); (case aS => exact (below_size (by repeat (first | (with_reducible first | exact HB.out | apply below_alloc | apply pw_below_drewN | apply below_drew1 | refine below_set ?_ GE644.out) | exact HB.out)))); (case aL => have := LMc15.out; omega); intro v652 w34 ho hb hg hat; rw [← Ny651.out] at ho; have n0_ := Aside0.mk (Kd.R_over' (by (with_reducible repeat (first | apply Kd.R_alloc | apply Kd.R_drewN | apply Kd.R_drew)); exact HO_8.out) (Kd.R_typed (by (with_reducible repeat (first | apply Kd.R_alloc | apply Kd.R_drewN | apply Kd.R_drew)); exact HO_9.out)) (by decide) hg); have n1_ := Aside0.mk (blk_grown (g := gb644) (o := .cells #[.slice A0_0 l0_0.length c0_0, .slice A0_1 l0_1.length c0_1] 29 (0, 0)) (by (with_reducible repeat (first | refine blk_drewN ?_ _ | refine blk_drew ?_ | refine blk_alloc ?_ _)); exact BK644.out) hg (Kd.R_ne HO_9.out BK644.out (by decide))); have n2_ := Aside0.mk (hb); have n3_ := Aside0.mk (ho); clear HO_8; clear BK644; clear HB; clear HO_9; have HO_8 := n0_; have BK644 := n1_; have HB := n2_; have HO653 := n3_; clear n0_ n1_ n2_ n3_; clear ho hb hg hat; have hcz35_0 : w34.cell? ⟨gb644, 0, none⟩ = some (.slice A0_0 l0_0.length c0_0) := (blk_cell BK644.out 0).trans rfl; have hcz35_1 : w34.cell? ⟨gb644, 1, none⟩ = some (.slice A0_1 l0_1.length c0_1) := (blk_cell BK644.out 1).trans rfl; have hfz35_0 := blk_frozen BK644.out 0; have hfz35_1 := blk_frozen BK644.out 1) | ((with_reducible refine gate_callee (f := 111) rfl ?_); refine goesL_ (some 28) rfl rfl Try.func111 (by kernel_rfl) rfl #[.agg #[.slice A0_0 l0_0.length c0_0, .slice A0_1 l0_1.length c0_1], .int .i64 x1_1, .int .i64 a2] rfl (by (try simp only [List.map_toArray, List.map_cons, List.map_nil]); first | done | rfl | (simp only [List.length_drop, List.length_take]; rfl)) ?_; (with_reducible refine (spec_l08Step.calls k1 _ _ l0_0 _ _ l0_1 x1_1 a2 t654 false true _ ?side1 ?side2 ?side3 ?side4 A16.out).mono ?_); (case side1 => repeat (first | exact (Kd.C_below HR0_0.out HB.out) | (with_reducible refine Kd.C_alloc ?_ _) | (with_reducible refine Kd.C_drewN ?_ _) | (with_reducible refine Kd.C_drew ?_))); (case side2 => exact HC0_0.out); (case side3 => repeat (first | exact (Kd.C_below HR0_1.out HB.out) | (with_reducible refine Kd.C_alloc ?_ _) | (with_reducible refine Kd.C_drewN ?_ _) | (with_reducible refine Kd.C_drew ?_))); (case side4 => exact HC0_1.out); rintro e w36 ⟨rfl, hb⟩; refine ⟨_, rfl, ?_⟩; have n0_ := Aside0.mk (Kd.R_below (by (with_reducible repeat (first | apply Kd.R_alloc | apply Kd.R_drewN | apply Kd.R_drew)); exact HO_8.out) hb); have n1_ := Aside0.mk (Kd.R_below (by (with_reducible repeat (first | apply Kd.R_alloc | apply Kd.R_drewN | apply Kd.R_drew)); exact HO653.out) hb); have n2_ := Aside0.mk (blk_below (g := gb644) (o := .cells #[.slice A0_0 l0_0.length c0_0, .slice A0_1 l0_1.length c0_1] 29 (0, 0)) (by (with_reducible repeat (first | refine blk_drewN ?_ _ | refine blk_drew ?_ | refine blk_alloc ?_ _)); exact BK644.out) hb); have n3_ := Aside0.mk (below_step (by repeat (first | (with_reducible first | exact HB.out | apply below_alloc | apply pw_below_drewN | apply below_drew1 | refine below_set ?_ GE644.out) | exact HB.out)) hb); clear HO_8; clear HO653; clear BK644; clear HB; have HO_8 := n0_; have HO653 := n1_; have BK644 := n2_; have HB := n3_; clear n0_ n1_ n2_ n3_; (try clear hb); (try clear hb2); (try clear hk); (try clear hi); obtain ⟨Ao37, co37, eo37⟩ := Kd.R_slice HO_8.out; subst eo37; have p657 : 0 ≤ (x1_1 : Int) := of_decide_eq_true (by first | (with_reducible assumption) | assumption); have q657 : x1_1 < (x8_1.length : Int) := of_decide_eq_true (by first | (with_reducible assumption) | assumption); obtain ⟨ad657, e657, hx657_0⟩ := Kd.at_bool (Kd.R_reads' HO_8.out).2.2 x1_1 p657 q657; (try rw [← Nbq20.out] at hx657_0); cases e657; replace p657 := eq_true p657; replace q657 := eq_true q657))
            go_ret2
            exact ⟨_, by first | rfl | (simp [errW_none, errW_some] <;> rfl) | (simp only [← hji4, ← hji6]; first | rfl | (simp [errW_none, errW_some] <;> rfl)) | (simp [*, errW_none, errW_some] <;> rfl), by (with_reducible repeat (first | apply Kd.R_alloc | apply Kd.R_drewN | apply Kd.R_drew)); exact HO653.out, by repeat (first | (with_reducible first | exact HB.out | apply below_alloc | apply pw_below_drewN | apply below_drew1 | refine below_set ?_ GE644.out) | exact HB.out)⟩
         ·rw [if_neg c19] at H
          exact absurd H (by simp)
        ·rw [if_neg c18] at H
         exact absurd H (by simp)
       ·replace c17 := Bool.eq_false_iff.mpr c17
        subst c17
        have H1 : (some (y651, 1)) = some (r1, r2) := by rw [if_neg (show ¬ (false = true) by decide)] at H; exact H
        clear H
        have H := H1
        clear H1
        simp only [Option.some.injEq, Prod.mk.injEq] at H
        obtain ⟨rfl, rfl⟩ := H
        go_wp2_with (first | ((with_reducible refine gate_builtin (b := .append) (xs := #[.tmp 20, .tmp 22]) rfl ?_); at_builtin; refine Kd.R_append (Kd.int .i64) (w0 := w) w.heap.size rfl (.tmp 20) (.tmp 22) 23 2 (.int .i64 0) 8 rfl Try.underlying23 info2 rfl (by decide) (by omega) u9 x9_1 x1_1 [.int .i64 x1_1] (fun _ => True) (fun _ => False) rfl rfl ?aP (fun _ hk => hk.elim) ?aF ?aO ?aB ?aS ?aL ?_; (case aP => exact rfl); (case aB => exact (by repeat (first | (with_reducible first | exact HB.out | apply below_alloc | apply pw_below_drewN | apply below_drew1 | refine below_set ?_ GE644.out) | exact HB.out))); (case aF => exact (fun _ _ => trivial)); (case aO => exact (by (with_reducible repeat (first | apply Kd.R_alloc | apply Kd.R_drewN | apply Kd.R_drew)); exact HO_9.out)); (case aS => exact (below_size (by repeat (first | (with_reducible first | exact HB.out | apply below_alloc | apply pw_below_drewN | apply below_drew1 | refine below_set ?_ GE644.out) | exact HB.out)))); (case aL => have := LMc15.out; omega); intro v652 w38 ho hb hg hat; rw [← Ny651.out] at ho; have n0_ := Aside0.mk (Kd.R_over' (by (with_reducible repeat (first | apply Kd.R_alloc | apply Kd.R_drewN | apply Kd.R_drew)); exact HO_8.out) (Kd.R_typed (by (with_reducible repeat (first | apply Kd.R_alloc | apply Kd.R_drewN | apply Kd.R_drew)); exact HO_9.out)) (by decide) hg); have n1_ := Aside0.mk (blk_grown (g := gb644) (o := .cells #[.slice A0_0 l0_0.length c0_0, .slice A0_1 l0_1.length c0_1] 29 (0, 0)) (by (with_reducible repeat (first | refine blk_drewN ?_ _ | refine blk_drew ?_ | refine blk_alloc ?_ _)); exact BK644.out) hg (Kd.R_ne HO_9.out BK644.out (by decide))); have n2_ := Aside0.mk (hb); have n3_ := Aside0.mk (ho); clear HO_8; clear BK644; clear HB; clear HO_9; have HO_8 := n0_; have BK644 := n1_; have HB := n2_; have HO653 := n3_; clear n0_ n1_ n2_ n3_; clear ho hb hg hat; have hcz39_0 : w38.cell? ⟨gb644, 0, none⟩ = some (.slice A0_0 l0_0.length c0_0) := (blk_cell BK644.out 0).trans rfl; have hcz39_1 : w38.cell? ⟨gb644, 1, none⟩ = some (.slice A0_1 l0_1.length c0_1) := (blk_cell BK644.out 1).trans rfl; have hfz39_0 := blk_frozen BK644.out 0; have hfz39_1 := blk_frozen BK644.out 1) | ((with_reducible refine gate_callee (f := 111) rfl ?_); refine goesL_ (some 28) rfl rfl Try.func111 (by kernel_rfl) rfl #[.agg #[.slice A0_0 l0_0.length c0_0, .slice A0_1 l0_1.length c0_1], .int .i64 x1_1, .int .i64 a2] rfl (by (try simp only [List.map_toArray, List.map_cons, List.map_nil]); first | done | rfl | (simp only [List.length_drop, List.length_take]; rfl)) ?_; (with_reducible refine (spec_l08Step.calls k1 _ _ l0_0 _ _ l0_1 x1_1 a2 t654 t655 false _ ?side1 ?side2 ?side3 ?side4 A16.out).mono ?_); (case side1 => repeat (first | exact (Kd.C_below HR0_0.out HB.out) | (with_reducible refine Kd.C_alloc ?_ _) | (with_reducible refine Kd.C_drewN ?_ _) | (with_reducible refine Kd.C_drew ?_))); (case side2 => exact HC0_0.out); (case side3 => repeat (first | exact (Kd.C_below HR0_1.out HB.out) | (with_reducible refine Kd.C_alloc ?_ _) | (with_reducible refine Kd.C_drewN ?_ _) | (with_reducible refine Kd.C_drew ?_))); (case side4 => exact HC0_1.out); rintro e w40 ⟨rfl, hb⟩; refine ⟨_, rfl, ?_⟩; have n0_ := Aside0.mk (Kd.R_below (by (with_reducible repeat (first | apply Kd.R_alloc | apply Kd.R_drewN | apply Kd.R_drew)); exact HO_8.out) hb); have n1_ := Aside0.mk (Kd.R_below (by (with_reducible repeat (first | apply Kd.R_alloc | apply Kd.R_drewN | apply Kd.R_drew)); exact HO653.out) hb); have n2_ := Aside0.mk (blk_below (g := gb644) (o := .cells #[.slice A0_0 l0_0.length c0_0, .slice A0_1 l0_1.length c0_1] 29 (0, 0)) (by (with_reducible repeat (first | refine blk_drewN ?_ _ | refine blk_drew ?_ | refine blk_alloc ?_ _)); exact BK644.out) hb); have n3_ := Aside0.mk (below_step (by repeat (first | (with_reducible first | exact HB.out | apply below_alloc | apply pw_below_drewN | apply below_drew1 | refine below_set ?_ GE644.out) | exact HB.out)) hb); clear HO_8; clear HO653; clear BK644; clear HB; have HO_8 := n0_; have HO653 := n1_; have BK644 := n2_; have HB := n3_; clear n0_ n1_ n2_ n3_; (try clear hb); (try clear hb2); (try clear hk); (try clear hi)))
        go_ret2
        exact ⟨_, by first | rfl | (simp [errW_none, errW_some] <;> rfl) | (simp only [← hji4, ← hji6]; first | rfl | (simp [errW_none, errW_some] <;> rfl)) | (simp [*, errW_none, errW_some] <;> rfl), by (with_reducible repeat (first | apply Kd.R_alloc | apply Kd.R_drewN | apply Kd.R_drew)); exact HO653.out, by repeat (first | (with_reducible first | exact HB.out | apply below_alloc | apply pw_below_drewN | apply below_drew1 | refine below_set ?_ GE644.out) | exact HB.out)⟩
      ·rw [if_neg c15] at H
       exact absurd H (by simp)
   ·rw [if_neg c8] at H
    exact absurd H (by simp)
  ·rw [if_neg c7] at H
   exact absurd H (by simp)
 ·rw [if_neg c5] at H
  exact absurd H (by simp)
def spec_StepsByRule.f (k : Nat) (l0_0 : List (List Int)) (l0_1 : List Int) (a1 : Int) : Option (Int × Int) := (spec_l08Code.f k l0_0 l0_1 0 a1).bind fun t660 => (if t660 = 0 then ((spec_l08Run.f k l0_0 l0_1 0 a1).bind fun bt661 => (if bt661.2 = 0 then (some (wrap64 ((bt661.1.length : Int) - 1), 0)) else (some (0, 4)))) else (some (0, t660)))
theorem spec_StepsByRule.mono : ∀ a0 a1 a2 k, LeO (spec_StepsByRule.f k a0 a1 a2) (spec_StepsByRule.f (k + 1) a0 a1 a2) := by
 intro a0 a1 a2 k
 unfold spec_StepsByRule.f
 repeat' first
   | (with_reducible exact spec_l08Code.mono _ _ _ _ _)
   | (with_reducible exact spec_l08Run.mono _ _ _ _ _)
   | (with_reducible exact LeO.refl _)
   | (with_reducible exact LeO.none _)
   | (with_reducible refine LeO.ite ?_ ?_)
   | (with_reducible refine LeO.bind ?_ (fun _ => ?_))
   | exact spec_l08Code.mono _ _ _ _ _
   | exact spec_l08Run.mono _ _ _ _ _
   | exact LeO.none _
   | refine LeO.ite ?_ ?_
   | refine LeO.bind ?_ (fun _ => ?_)
theorem spec_StepsByRule.calls (k : Nat) (A0_0 : Option Addr) (c0_0 : Nat) (l0_0 : List (List Int)) (A0_1 : Option Addr) (c0_1 : Nat) (l0_1 : List Int) (a1 : Int) (r1 : Int) (r2 : Int) (w : World) (hr0_0 : Kd.C (Kd.slice 2 (Kd.int .i64)) w A0_0 l0_0.length l0_0) (hc0_0 : l0_0.length ≤ c0_0) (hr0_1 : Kd.C (Kd.int .i64) w A0_1 l0_1.length l0_1) (hc0_1 : l0_1.length ≤ c0_1) (h : spec_StepsByRule.f k l0_0 l0_1 a1 = some (r1, r2)) :
  Calls Try.prog 31 #[.agg #[.slice A0_0 l0_0.length c0_0, .slice A0_1 l0_1.length c0_1], .int .i64 a1] w fun e w' => e = .returned (.tuple #[.int .i64 r1, .int .i64 r2]) ∧ Below w.heap.size w w' := by
 have hu29 := Try.underlying29
 have HR0_0 := Aside0.mk hr0_0
 have HC0_0 := Aside0.mk hc0_0
 clear hr0_0 hc0_0
 have HR0_1 := Aside0.mk hr0_1
 have HC0_1 := Aside0.mk hc0_1
 clear hr0_1 hc0_1
 have HB := Aside0.mk (Below.refl w.heap.size w)
 have H : ((spec_l08Code.f k l0_0 l0_1 0 a1).bind fun t660 => (if t660 = 0 then ((spec_l08Run.f k l0_0 l0_1 0 a1).bind fun bt661 => (if bt661.2 = 0 then (some (wrap64 ((bt661.1.length : Int) - 1), 0)) else (some (0, 4)))) else (some (0, t660)))) = some (r1, r2) := h
 clear h
 replace H := Option.bind_eq_some_iff.mp H
 obtain ⟨t660, A30, H⟩ := H
 replace H : (if t660 = 0 then ((spec_l08Run.f k l0_0 l0_1 0 a1).bind fun bt661 => (if bt661.2 = 0 then (some (wrap64 ((bt661.1.length : Int) - 1), 0)) else (some (0, 4)))) else (some (0, t660))) = some (r1, r2) := H
 have A3 := Aside0.mk A30
 clear A30
 by_cases c4 : t660 = 0
 ·rw [if_pos c4] at H
  have c4b0 : (t660 == 0) = true := beq_iff_eq.mpr c4
  have c4b1 : (t660 != 0) = false := bne_eq_false_iff_eq.mpr c4
  clear c4
  replace H := Option.bind_eq_some_iff.mp H
  obtain ⟨⟨t661, t664⟩, A50, H⟩ := H
  replace H : (if t664 = 0 then (some (wrap64 ((t661.length : Int) - 1), 0)) else (some (0, 4))) = some (r1, r2) := H
  have A5 := Aside0.mk A50
  clear A50
  by_cases c6 : t664 = 0
  ·rw [if_pos c6] at H
   have c6b0 : (t664 == 0) = true := beq_iff_eq.mpr c6
   have c6b1 : (t664 != 0) = false := bne_eq_false_iff_eq.mpr c6
   clear c6
   simp only [Option.some.injEq, Prod.mk.injEq] at H
   obtain ⟨rfl, rfl⟩ := H
   go_enter Try.func31, Try.ntmps31
   go_wp2_with (first | ((with_reducible refine gate_dst (N := 2) rfl ?_); refine box_event ?hg (N := 2) ?hd (cs := #[.slice A0_0 l0_0.length c0_0, .slice A0_1 l0_1.length c0_1]) (t := 29) ?hr ?_; (case hd => rfl); (case hg => rfl); (case hr => first | (go_simp; done) | (go_simp; rfl)); intro gb659 hg w7 hbox hb; have n0_ := Aside0.mk (below_step (by repeat (first | (with_reducible first | exact HB.out | apply below_alloc | apply pw_below_drewN | apply below_drew1) | exact HB.out)) hb); have n1_ := Aside0.mk (hbox); have n2_ := Aside0.mk ((by rw [hg]; exact (below_size (by repeat (first | (with_reducible first | exact HB.out | apply below_alloc | apply pw_below_drewN | apply below_drew1) | exact HB.out))) : w.heap.size ≤ gb659)); have n3_ := Aside0.mk ((by rw [hg]; exact (below_size (by repeat (first | (with_reducible first | exact HB.out | apply below_alloc | apply pw_below_drewN | apply below_drew1) | exact HB.out))) : w.heap.size ≤ gb659)); clear HB; have HB := n0_; have BK659 := n1_; have GW659 := n2_; have GE659 := n3_; clear n0_ n1_ n2_ n3_; clear hb hbox hg; have hcz8_0 : w7.cell? ⟨gb659, 0, none⟩ = some (.slice A0_0 l0_0.length c0_0) := (blk_cell BK659.out 0).trans rfl; have hcz8_1 : w7.cell? ⟨gb659, 1, none⟩ = some (.slice A0_1 l0_1.length c0_1) := (blk_cell BK659.out 1).trans rfl; have hfz8_0 := blk_frozen BK659.out 0; have hfz8_1 := blk_frozen BK659.out 1) | ((with_reducible refine gate_callee (f := 78) rfl ?_); refine goesL_ (some 11) rfl rfl Try.func78 (by kernel_rfl) rfl #[.agg #[.slice A0_0 l0_0.length c0_0, .slice A0_1 l0_1.length c0_1], .int .i64 0, .int .i64 a1] rfl (by (try simp only [List.map_toArray, List.map_cons, List.map_nil]); first | done | rfl | (simp only [List.length_drop, List.length_take]; rfl)) ?_; (with_reducible refine (spec_l08Code.calls k _ _ l0_0 _ _ l0_1 0 a1 t660 _ ?side1 ?side2 ?side3 ?side4 A3.out).mono ?_); (case side1 => repeat (first | exact (Kd.C_below HR0_0.out HB.out) | (with_reducible refine Kd.C_alloc ?_ _) | (with_reducible refine Kd.C_drewN ?_ _) | (with_reducible refine Kd.C_drew ?_))); (case side2 => exact HC0_0.out); (case side3 => repeat (first | exact (Kd.C_below HR0_1.out HB.out) | (with_reducible refine Kd.C_alloc ?_ _) | (with_reducible refine Kd.C_drewN ?_ _) | (with_reducible refine Kd.C_drew ?_))); (case side4 => exact HC0_1.out); rintro e w9 ⟨rfl, hb⟩; refine ⟨_, rfl, ?_⟩; have n0_ := Aside0.mk (blk_below (g := gb659) (o := .cells #[.slice A0_0 l0_0.length c0_0, .slice A0_1 l0_1.length c0_1] 29 (0, 0)) (by (with_reducible repeat (first | refine blk_drewN ?_ _ | refine blk_drew ?_ | refine blk_alloc ?_ _)); exact BK659.out) hb); have n1_ := Aside0.mk (below_step (by repeat (first | (with_reducible first | exact HB.out | apply below_alloc | apply pw_below_drewN | apply below_drew1 | refine below_set ?_ GE659.out) | exact HB.out)) hb); clear BK659; clear HB; have BK659 := n0_; have HB := n1_; clear n0_ n1_; (try clear hb); (try clear hb2); (try clear hk); (try clear hi); have hcz10_0 : w9.cell? ⟨gb659, 0, none⟩ = some (.slice A0_0 l0_0.length c0_0) := (blk_cell BK659.out 0).trans rfl; have hcz10_1 : w9.cell? ⟨gb659, 1, none⟩ = some (.slice A0_1 l0_1.length c0_1) := (blk_cell BK659.out 1).trans rfl; have hfz10_0 := blk_frozen BK659.out 0; have hfz10_1 := blk_frozen BK659.out 1) | ((with_reducible refine gate_callee (f := 79) rfl ?_); refine goesL_ (some 18) rfl rfl Try.func79 (by kernel_rfl) rfl #[.agg #[.slice A0_0 l0_0.length c0_0, .slice A0_1 l0_1.length c0_1], .int .i64 0, .int .i64 a1] rfl (by (try simp only [List.map_toArray, List.map_cons, List.map_nil]); first | done | rfl | (simp only [List.length_drop, List.length_take]; rfl)) ?_; (with_reducible refine (spec_l08Run.calls k _ _ l0_0 _ _ l0_1 0 a1 t661 t664 _ ?side1 ?side2 ?side3 ?side4 A5.out).mono ?_); (case side1 => repeat (first | exact (Kd.C_below HR0_0.out HB.out) | (with_reducible refine Kd.C_alloc ?_ _) | (with_reducible refine Kd.C_drewN ?_ _) | (with_reducible refine Kd.C_drew ?_))); (case side2 => exact HC0_0.out); (case side3 => repeat (first | exact (Kd.C_below HR0_1.out HB.out) | (with_reducible refine Kd.C_alloc ?_ _) | (with_reducible refine Kd.C_drewN ?_ _) | (with_reducible refine Kd.C_drew ?_))); (case side4 => exact HC0_1.out); rintro e w11 ⟨v662, rfl, ho0, hb⟩; refine ⟨_, rfl, ?_⟩; have n0_ := Aside0.mk (Kd.R_lower ho0 (below_size (by repeat (first | (with_reducible first | exact HB.out | apply below_alloc | apply pw_below_drewN | apply below_drew1 | refine below_set ?_ GE659.out) | exact HB.out)))); have n1_ := Aside0.mk (blk_below (g := gb659) (o := .cells #[.slice A0_0 l0_0.length c0_0, .slice A0_1 l0_1.length c0_1] 29 (0, 0)) (by (with_reducible repeat (first | refine blk_drewN ?_ _ | refine blk_drew ?_ | refine blk_alloc ?_ _)); exact BK659.out) hb); have n2_ := Aside0.mk (below_step (by repeat (first | (with_reducible first | exact HB.out | apply below_alloc | apply pw_below_drewN | apply below_drew1 | refine below_set ?_ GE659.out) | exact HB.out)) hb); clear BK659; clear HB; have HO663 := n0_; have BK659 := n1_; have HB := n2_; clear n0_ n1_ n2_; (try clear hb); (try clear hb2); (try clear hk); (try clear hi); (try clear ho0); obtain ⟨Ao12, co12, eo12⟩ := Kd.R_slice HO663.out; subst eo12))
   go_ret2
   exact ⟨by first | rfl | (simp [errW_none, errW_some] <;> rfl) | (simp [*, errW_none, errW_some] <;> rfl), by repeat (first | (with_reducible first | exact HB.out | apply below_alloc | apply pw_below_drewN | apply below_drew1 | refine below_set ?_ GE659.out) | exact HB.out)⟩
  ·rw [if_neg c6] at H
   have c6b0 : (t664 == 0) = false := beq_eq_false_iff_ne.mpr c6
   have c6b1 : (t664 != 0) = true := bne_iff_ne.mpr c6
   simp only [Option.some.injEq, Prod.mk.injEq] at H
   obtain ⟨rfl, rfl⟩ := H
   go_enter Try.func31, Try.ntmps31
   go_wp2_with (first | ((with_reducible refine gate_dst (N := 2) rfl ?_); refine box_event ?hg (N := 2) ?hd (cs := #[.slice A0_0 l0_0.length c0_0, .slice A0_1 l0_1.length c0_1]) (t := 29) ?hr ?_; (case hd => rfl); (case hg => rfl); (case hr => first | (go_simp; done) | (go_simp; rfl)); intro gb659 hg w13 hbox hb; have n0_ := Aside0.mk (below_step (by repeat (first | (with_reducible first | exact HB.out | apply below_alloc | apply pw_below_drewN | apply below_drew1) | exact HB.out)) hb); have n1_ := Aside0.mk (hbox); have n2_ := Aside0.mk ((by rw [hg]; exact (below_size (by repeat (first | (with_reducible first | exact HB.out | apply below_alloc | apply pw_below_drewN | apply below_drew1) | exact HB.out))) : w.heap.size ≤ gb659)); have n3_ := Aside0.mk ((by rw [hg]; exact (below_size (by repeat (first | (with_reducible first | exact HB.out | apply below_alloc | apply pw_below_drewN | apply below_drew1) | exact HB.out))) : w.heap.size ≤ gb659)); clear HB; have HB := n0_; have BK659 := n1_; have GW659 := n2_; have GE659 := n3_; clear n0_ n1_ n2_ n3_; clear hb hbox hg; have hcz14_0 : w13.cell? ⟨gb659, 0, none⟩ = some (.slice A0_0 l0_0.length c0_0) := (blk_cell BK659.out 0).trans rfl; have hcz14_1 : w13.cell? ⟨gb659, 1, none⟩ = some (.slice A0_1 l0_1.length c0_1) := (blk_cell BK659.out 1).trans rfl; have hfz14_0 := blk_frozen BK659.out 0; have hfz14_1 := blk_frozen BK659.out 1) | ((with_reducible refine gate_callee (f := 78) rfl ?_); refine goesL_ (some 11) rfl rfl Try.func78 (by kernel_rfl) rfl #[.agg #[.slice A0_0 l0_0.length c0_0, .slice A0_1 l0_1.length c0_1], .int .i64 0, .int .i64 a1] rfl (by (try simp only [List.map_toArray, List.map_cons, List.map_nil]); first | done | rfl | (simp only [List.length_drop, List.length_take]; rfl)) ?_; (with_reducible refine (spec_l08Code.calls k _ _ l0_0 _ _ l0_1 0 a1 t660 _ ?side1 ?side2 ?side3 ?side4 A3.out).mono ?_); (case side1 => repeat (first | exact (Kd.C_below HR0_0.out HB.out) | (with_reducible refine Kd.C_alloc ?_ _) | (with_reducible refine Kd.C_drewN ?_ _) | (with_reducible refine Kd.C_drew ?_))); (case side2 => exact HC0_0.out); (case side3 => repeat (first | exact (Kd.C_below HR0_1.out HB.out) | (with_reducible refine Kd.C_alloc ?_ _) | (with_reducible refine Kd.C_drewN ?_ _) | (with_reducible refine Kd.C_drew ?_))); (case side4 => exact HC0_1.out); rintro e w15 ⟨rfl, hb⟩; refine ⟨_, rfl, ?_⟩; have n0_ := Aside0.mk (blk_below (g := gb659) (o := .cells #[.slice A0_0 l0_0.length c0_0, .slice A0_1 l0_1.length c0_1] 29 (0, 0)) (by (with_reducible repeat (first | refine blk_drewN ?_ _ | refine blk_drew ?_ | refine blk_alloc ?_ _)); exact BK659.out) hb); have n1_ := Aside0.mk (below_step (by repeat (first | (with_reducible first | exact HB.out | apply below_alloc | apply pw_below_drewN | apply below_drew1 | refine below_set ?_ GE659.out) | exact HB.out)) hb); clear BK659; clear HB; have BK659 := n0_; have HB := n1_; clear n0_ n1_; (try clear hb); (try clear hb2); (try clear hk); (try clear hi); have hcz16_0 : w15.cell? ⟨gb659, 0, none⟩ = some (.slice A0_0 l0_0.length c0_0) := (blk_cell BK659.out 0).trans rfl; have hcz16_1 : w15.cell? ⟨gb659, 1, none⟩ = some (.slice A0_1 l0_1.length c0_1) := (blk_cell BK659.out 1).trans rfl; have hfz16_0 := blk_frozen BK659.out 0; have hfz16_1 := blk_frozen BK659.out 1) | ((with_reducible refine gate_callee (f := 79) rfl ?_); refine goesL_ (some 18) rfl rfl Try.func79 (by kernel_rfl) rfl #[.agg #[.slice A0_0 l0_0.length c0_0, .slice A0_1 l0_1.length c0_1], .int .i64 0, .int .i64 a1] rfl (by (try simp only [List.map_toArray, List.map_cons, List.map_nil]); first | done | rfl | (simp only [List.length_drop, List.length_take]; rfl)) ?_; (with_reducible refine (spec_l08Run.calls k _ _ l0_0 _ _ l0_1 0 a1 t661 t664 _ ?side1 ?side2 ?side3 ?side4 A5.out).mono ?_); (case side1 => repeat (first | exact (Kd.C_below HR0_0.out HB.out) | (with_reducible refine Kd.C_alloc ?_ _) | (with_reducible refine Kd.C_drewN ?_ _) | (with_reducible refine Kd.C_drew ?_))); (case side2 => exact HC0_0.out); (case side3 => repeat (first | exact (Kd.C_below HR0_1.out HB.out) | (with_reducible refine Kd.C_alloc ?_ _) | (with_reducible refine Kd.C_drewN ?_ _) | (with_reducible refine Kd.C_drew ?_))); (case side4 => exact HC0_1.out); rintro e w17 ⟨v662, rfl, ho0, hb⟩; refine ⟨_, rfl, ?_⟩; have n0_ := Aside0.mk (Kd.R_lower ho0 (below_size (by repeat (first | (with_reducible first | exact HB.out | apply below_alloc | apply pw_below_drewN | apply below_drew1 | refine below_set ?_ GE659.out) | exact HB.out)))); have n1_ := Aside0.mk (blk_below (g := gb659) (o := .cells #[.slice A0_0 l0_0.length c0_0, .slice A0_1 l0_1.length c0_1] 29 (0, 0)) (by (with_reducible repeat (first | refine blk_drewN ?_ _ | refine blk_drew ?_ | refine blk_alloc ?_ _)); exact BK659.out) hb); have n2_ := Aside0.mk (below_step (by repeat (first | (with_reducible first | exact HB.out | apply below_alloc | apply pw_below_drewN | apply below_drew1 | refine below_set ?_ GE659.out) | exact HB.out)) hb); clear BK659; clear HB; have HO663 := n0_; have BK659 := n1_; have HB := n2_; clear n0_ n1_ n2_; (try clear hb); (try clear hb2); (try clear hk); (try clear hi); (try clear ho0)))
   go_ret2
   exact ⟨by first | rfl | (simp [errW_none, errW_some] <;> rfl) | (simp [*, errW_none, errW_some] <;> rfl), by repeat (first | (with_reducible first | exact HB.out | apply below_alloc | apply pw_below_drewN | apply below_drew1 | refine below_set ?_ GE659.out) | exact HB.out)⟩
 ·rw [if_neg c4] at H
  have c4b0 : (t660 == 0) = false := beq_eq_false_iff_ne.mpr c4
  have c4b1 : (t660 != 0) = true := bne_iff_ne.mpr c4
  simp only [Option.some.injEq, Prod.mk.injEq] at H
  obtain ⟨rfl, rfl⟩ := H
  go_enter Try.func31, Try.ntmps31
  go_wp2_with (first | ((with_reducible refine gate_dst (N := 2) rfl ?_); refine box_event ?hg (N := 2) ?hd (cs := #[.slice A0_0 l0_0.length c0_0, .slice A0_1 l0_1.length c0_1]) (t := 29) ?hr ?_; (case hd => rfl); (case hg => rfl); (case hr => first | (go_simp; done) | (go_simp; rfl)); intro gb659 hg w18 hbox hb; have n0_ := Aside0.mk (below_step (by repeat (first | (with_reducible first | exact HB.out | apply below_alloc | apply pw_below_drewN | apply below_drew1) | exact HB.out)) hb); have n1_ := Aside0.mk (hbox); have n2_ := Aside0.mk ((by rw [hg]; exact (below_size (by repeat (first | (with_reducible first | exact HB.out | apply below_alloc | apply pw_below_drewN | apply below_drew1) | exact HB.out))) : w.heap.size ≤ gb659)); have n3_ := Aside0.mk ((by rw [hg]; exact (below_size (by repeat (first | (with_reducible first | exact HB.out | apply below_alloc | apply pw_below_drewN | apply below_drew1) | exact HB.out))) : w.heap.size ≤ gb659)); clear HB; have HB := n0_; have BK659 := n1_; have GW659 := n2_; have GE659 := n3_; clear n0_ n1_ n2_ n3_; clear hb hbox hg; have hcz19_0 : w18.cell? ⟨gb659, 0, none⟩ = some (.slice A0_0 l0_0.length c0_0) := (blk_cell BK659.out 0).trans rfl; have hcz19_1 : w18.cell? ⟨gb659, 1, none⟩ = some (.slice A0_1 l0_1.length c0_1) := (blk_cell BK659.out 1).trans rfl; have hfz19_0 := blk_frozen BK659.out 0; have hfz19_1 := blk_frozen BK659.out 1) | ((with_reducible refine gate_callee (f := 78) rfl ?_); refine goesL_ (some 11) rfl rfl Try.func78 (by kernel_rfl) rfl #[.agg #[.slice A0_0 l0_0.length c0_0, .slice A0_1 l0_1.length c0_1], .int .i64 0, .int .i64 a1] rfl (by (try simp only [List.map_toArray, List.map_cons, List.map_nil]); first | done | rfl | (simp only [List.length_drop, List.length_take]; rfl)) ?_; (with_reducible refine (spec_l08Code.calls k _ _ l0_0 _ _ l0_1 0 a1 t660 _ ?side1 ?side2 ?side3 ?side4 A3.out).mono ?_); (case side1 => repeat (first | exact (Kd.C_below HR0_0.out HB.out) | (with_reducible refine Kd.C_alloc ?_ _) | (with_reducible refine Kd.C_drewN ?_ _) | (with_reducible refine Kd.C_drew ?_))); (case side2 => exact HC0_0.out); (case side3 => repeat (first | exact (Kd.C_below HR0_1.out HB.out) | (with_reducible refine Kd.C_alloc ?_ _) | (with_reducible refine Kd.C_drewN ?_ _) | (with_reducible refine Kd.C_drew ?_))); (case side4 => exact HC0_1.out); rintro e w20 ⟨rfl, hb⟩; refine ⟨_, rfl, ?_⟩; have n0_ := Aside0.mk (blk_below (g := gb659) (o := .cells #[.slice A0_0 l0_0.length c0_0, .slice A0_1 l0_1.length c0_1] 29 (0, 0)) (by (with_reducible repeat (first | refine blk_drewN ?_ _ | refine blk_drew ?_ | refine blk_alloc ?_ _)); exact BK659.out) hb); have n1_ := Aside0.mk (below_step (by repeat (first | (with_reducible first | exact HB.out | apply below_alloc | apply pw_below_drewN | apply below_drew1 | refine below_set ?_ GE659.out) | exact HB.out)) hb); clear BK659; clear HB; have BK659 := n0_; have HB := n1_; clear n0_ n1_; (try clear hb); (try clear hb2); (try clear hk); (try clear hi)))
  go_ret2
  exact ⟨by first | rfl | (simp [errW_none, errW_some] <;> rfl) | (simp [*, errW_none, errW_some] <;> rfl), by repeat (first | (with_reducible first | exact HB.out | apply below_alloc | apply pw_below_drewN | apply below_drew1 | refine below_set ?_ GE659.out) | exact HB.out)⟩
def impl_ruleCode.f (l0_0 : List (List Int)) (l0_1 : List Int) (a1 : Int) (a2 : Int) : Option (Int) := (impl_setCode.f l0_0 l0_1 a1).bind fun t666 => (if t666 = 0 then ((impl_within.f a2 0 3).bind fun t667 => (if t667 = true then (some 0) else (some 2))) else (some t666))
theorem impl_ruleCode.calls (A0_0 : Option Addr) (c0_0 : Nat) (l0_0 : List (List Int)) (A0_1 : Option Addr) (c0_1 : Nat) (l0_1 : List Int) (a1 : Int) (a2 : Int) (r : Int) (w : World) (hr0_0 : Kd.C (Kd.slice 2 (Kd.int .i64)) w A0_0 l0_0.length l0_0) (hc0_0 : l0_0.length ≤ c0_0) (hr0_1 : Kd.C (Kd.int .i64) w A0_1 l0_1.length l0_1) (hc0_1 : l0_1.length ≤ c0_1) (h : impl_ruleCode.f l0_0 l0_1 a1 a2 = some r) :
  Calls Try.prog 80 #[.agg #[.slice A0_0 l0_0.length c0_0, .slice A0_1 l0_1.length c0_1], .int .i64 a1, .int .i64 a2] w fun e w' => e = .returned (.int .i64 r) ∧ Below w.heap.size w w' := by
 have hu29 := Try.underlying29
 have HR0_0 := Aside0.mk hr0_0
 have HC0_0 := Aside0.mk hc0_0
 clear hr0_0 hc0_0
 have HR0_1 := Aside0.mk hr0_1
 have HC0_1 := Aside0.mk hc0_1
 clear hr0_1 hc0_1
 have HB := Aside0.mk (Below.refl w.heap.size w)
 have H : ((impl_setCode.f l0_0 l0_1 a1).bind fun t666 => (if t666 = 0 then ((impl_within.f a2 0 3).bind fun t667 => (if t667 = true then (some 0) else (some 2))) else (some t666))) = some r := h
 clear h
 replace H := Option.bind_eq_some_iff.mp H
 obtain ⟨t666, A40, H⟩ := H
 replace H : (if t666 = 0 then ((impl_within.f a2 0 3).bind fun t667 => (if t667 = true then (some 0) else (some 2))) else (some t666)) = some r := H
 have A4 := Aside0.mk A40
 clear A40
 by_cases c5 : t666 = 0
 ·rw [if_pos c5] at H
  have c5b0 : (t666 == 0) = true := beq_iff_eq.mpr c5
  have c5b1 : (t666 != 0) = false := bne_eq_false_iff_eq.mpr c5
  clear c5
  replace H := Option.bind_eq_some_iff.mp H
  obtain ⟨t667, A60, H⟩ := H
  replace H : (if t667 = true then (some 0) else (some 2)) = some r := H
  have A6 := Aside0.mk A60
  clear A60
  by_cases c7 : t667 = true
  ·subst c7
   have H1 : (some 0) = some r := by rw [if_pos rfl] at H; exact H
   clear H
   have H := H1
   clear H1
   obtain rfl := Option.some.inj H
   go_enter Try.func80, Try.ntmps80
   go_wp2_with (first | ((with_reducible refine gate_dst (N := 3) rfl ?_); refine box_event ?hg (N := 3) ?hd (cs := #[.slice A0_0 l0_0.length c0_0, .slice A0_1 l0_1.length c0_1]) (t := 29) ?hr ?_; (case hd => rfl); (case hg => rfl); (case hr => first | (go_simp; done) | (go_simp; rfl)); intro gb665 hg w8 hbox hb; have n0_ := Aside0.mk (below_step (by repeat (first | (with_reducible first | exact HB.out | apply below_alloc | apply pw_below_drewN | apply below_drew1) | exact HB.out)) hb); have n1_ := Aside0.mk (hbox); have n2_ := Aside0.mk ((by rw [hg]; exact (below_size (by repeat (first | (with_reducible first | exact HB.out | apply below_alloc | apply pw_below_drewN | apply below_drew1) | exact HB.out))) : w.heap.size ≤ gb665)); have n3_ := Aside0.mk ((by rw [hg]; exact (below_size (by repeat (first | (with_reducible first | exact HB.out | apply below_alloc | apply pw_below_drewN | apply below_drew1) | exact HB.out))) : w.heap.size ≤ gb665)); clear HB; have HB := n0_; have BK665 := n1_; have GW665 := n2_; have GE665 := n3_; clear n0_ n1_ n2_ n3_; clear hb hbox hg; have hcz9_0 : w8.cell? ⟨gb665, 0, none⟩ = some (.slice A0_0 l0_0.length c0_0) := (blk_cell BK665.out 0).trans rfl; have hcz9_1 : w8.cell? ⟨gb665, 1, none⟩ = some (.slice A0_1 l0_1.length c0_1) := (blk_cell BK665.out 1).trans rfl; have hfz9_0 := blk_frozen BK665.out 0; have hfz9_1 := blk_frozen BK665.out 1) | ((with_reducible refine gate_callee (f := 76) rfl ?_); refine goesL_ (some 10) rfl rfl Try.func76 (by kernel_rfl) rfl #[.agg #[.slice A0_0 l0_0.length c0_0, .slice A0_1 l0_1.length c0_1], .int .i64 a1] rfl (by (try simp only [List.map_toArray, List.map_cons, List.map_nil]); first | done | rfl | (simp only [List.length_drop, List.length_take]; rfl)) ?_; (with_reducible refine (impl_setCode.calls _ _ l0_0 _ _ l0_1 a1 t666 _ ?side1 ?side2 ?side3 ?side4 A4.out).mono ?_); (case side1 => repeat (first | exact (Kd.C_below HR0_0.out HB.out) | (with_reducible refine Kd.C_alloc ?_ _) | (with_reducible refine Kd.C_drewN ?_ _) | (with_reducible refine Kd.C_drew ?_))); (case side2 => exact HC0_0.out); (case side3 => repeat (first | exact (Kd.C_below HR0_1.out HB.out) | (with_reducible refine Kd.C_alloc ?_ _) | (with_reducible refine Kd.C_drewN ?_ _) | (with_reducible refine Kd.C_drew ?_))); (case side4 => exact HC0_1.out); rintro e w10 ⟨rfl, hb⟩; refine ⟨_, rfl, ?_⟩; have n0_ := Aside0.mk (blk_below (g := gb665) (o := .cells #[.slice A0_0 l0_0.length c0_0, .slice A0_1 l0_1.length c0_1] 29 (0, 0)) (by (with_reducible repeat (first | refine blk_drewN ?_ _ | refine blk_drew ?_ | refine blk_alloc ?_ _)); exact BK665.out) hb); have n1_ := Aside0.mk (below_step (by repeat (first | (with_reducible first | exact HB.out | apply below_alloc | apply pw_below_drewN | apply below_drew1 | refine below_set ?_ GE665.out) | exact HB.out)) hb); clear BK665; clear HB; have BK665 := n0_; have HB := n1_; clear n0_ n1_; (try clear hb); (try clear hb2); (try clear hk); (try clear hi)) | ((with_reducible refine gate_callee (f := 92) rfl ?_); refine goesL_ (some 15) rfl rfl Try.func92 (by kernel_rfl) rfl #[.int .i64 a2, .int .i64 0, .int .i64 3] rfl (by (try simp only [List.map_toArray, List.map_cons, List.map_nil]); first | done | rfl | (simp only [List.length_drop, List.length_take]; rfl)) ?_; (with_reducible refine (impl_within.calls a2 0 3 true _ A6.out).mono ?_); rintro e w' ⟨rfl, ⟨nd, rfl⟩⟩; refine ⟨_, rfl, ?_⟩))
   go_ret
   exact ⟨by first | rfl | (simp [errW_none, errW_some] <;> rfl) | (simp [*, errW_none, errW_some] <;> rfl), by repeat (first | (with_reducible first | exact HB.out | apply below_alloc | apply pw_below_drewN | apply below_drew1 | refine below_set ?_ GE665.out) | exact HB.out)⟩
  ·replace c7 := Bool.eq_false_iff.mpr c7
   subst c7
   have H1 : (some 2) = some r := by rw [if_neg (show ¬ (false = true) by decide)] at H; exact H
   clear H
   have H := H1
   clear H1
   obtain rfl := Option.some.inj H
   go_enter Try.func80, Try.ntmps80
   go_wp2_with (first | ((with_reducible refine gate_dst (N := 3) rfl ?_); refine box_event ?hg (N := 3) ?hd (cs := #[.slice A0_0 l0_0.length c0_0, .slice A0_1 l0_1.length c0_1]) (t := 29) ?hr ?_; (case hd => rfl); (case hg => rfl); (case hr => first | (go_simp; done) | (go_simp; rfl)); intro gb665 hg w11 hbox hb; have n0_ := Aside0.mk (below_step (by repeat (first | (with_reducible first | exact HB.out | apply below_alloc | apply pw_below_drewN | apply below_drew1) | exact HB.out)) hb); have n1_ := Aside0.mk (hbox); have n2_ := Aside0.mk ((by rw [hg]; exact (below_size (by repeat (first | (with_reducible first | exact HB.out | apply below_alloc | apply pw_below_drewN | apply below_drew1) | exact HB.out))) : w.heap.size ≤ gb665)); have n3_ := Aside0.mk ((by rw [hg]; exact (below_size (by repeat (first | (with_reducible first | exact HB.out | apply below_alloc | apply pw_below_drewN | apply below_drew1) | exact HB.out))) : w.heap.size ≤ gb665)); clear HB; have HB := n0_; have BK665 := n1_; have GW665 := n2_; have GE665 := n3_; clear n0_ n1_ n2_ n3_; clear hb hbox hg; have hcz12_0 : w11.cell? ⟨gb665, 0, none⟩ = some (.slice A0_0 l0_0.length c0_0) := (blk_cell BK665.out 0).trans rfl; have hcz12_1 : w11.cell? ⟨gb665, 1, none⟩ = some (.slice A0_1 l0_1.length c0_1) := (blk_cell BK665.out 1).trans rfl; have hfz12_0 := blk_frozen BK665.out 0; have hfz12_1 := blk_frozen BK665.out 1) | ((with_reducible refine gate_callee (f := 76) rfl ?_); refine goesL_ (some 10) rfl rfl Try.func76 (by kernel_rfl) rfl #[.agg #[.slice A0_0 l0_0.length c0_0, .slice A0_1 l0_1.length c0_1], .int .i64 a1] rfl (by (try simp only [List.map_toArray, List.map_cons, List.map_nil]); first | done | rfl | (simp only [List.length_drop, List.length_take]; rfl)) ?_; (with_reducible refine (impl_setCode.calls _ _ l0_0 _ _ l0_1 a1 t666 _ ?side1 ?side2 ?side3 ?side4 A4.out).mono ?_); (case side1 => repeat (first | exact (Kd.C_below HR0_0.out HB.out) | (with_reducible refine Kd.C_alloc ?_ _) | (with_reducible refine Kd.C_drewN ?_ _) | (with_reducible refine Kd.C_drew ?_))); (case side2 => exact HC0_0.out); (case side3 => repeat (first | exact (Kd.C_below HR0_1.out HB.out) | (with_reducible refine Kd.C_alloc ?_ _) | (with_reducible refine Kd.C_drewN ?_ _) | (with_reducible refine Kd.C_drew ?_))); (case side4 => exact HC0_1.out); rintro e w13 ⟨rfl, hb⟩; refine ⟨_, rfl, ?_⟩; have n0_ := Aside0.mk (blk_below (g := gb665) (o := .cells #[.slice A0_0 l0_0.length c0_0, .slice A0_1 l0_1.length c0_1] 29 (0, 0)) (by (with_reducible repeat (first | refine blk_drewN ?_ _ | refine blk_drew ?_ | refine blk_alloc ?_ _)); exact BK665.out) hb); have n1_ := Aside0.mk (below_step (by repeat (first | (with_reducible first | exact HB.out | apply below_alloc | apply pw_below_drewN | apply below_drew1 | refine below_set ?_ GE665.out) | exact HB.out)) hb); clear BK665; clear HB; have BK665 := n0_; have HB := n1_; clear n0_ n1_; (try clear hb); (try clear hb2); (try clear hk); (try clear hi)) | ((with_reducible refine gate_callee (f := 92) rfl ?_); refine goesL_ (some 15) rfl rfl Try.func92 (by kernel_rfl) rfl #[.int .i64 a2, .int .i64 0, .int .i64 3] rfl (by (try simp only [List.map_toArray, List.map_cons, List.map_nil]); first | done | rfl | (simp only [List.length_drop, List.length_take]; rfl)) ?_; (with_reducible refine (impl_within.calls a2 0 3 false _ A6.out).mono ?_); rintro e w' ⟨rfl, ⟨nd, rfl⟩⟩; refine ⟨_, rfl, ?_⟩))
   go_ret
   exact ⟨by first | rfl | (simp [errW_none, errW_some] <;> rfl) | (simp [*, errW_none, errW_some] <;> rfl), by repeat (first | (with_reducible first | exact HB.out | apply below_alloc | apply pw_below_drewN | apply below_drew1 | refine below_set ?_ GE665.out) | exact HB.out)⟩
 ·rw [if_neg c5] at H
  have c5b0 : (t666 == 0) = false := beq_eq_false_iff_ne.mpr c5
  have c5b1 : (t666 != 0) = true := bne_iff_ne.mpr c5
  obtain rfl := Option.some.inj H
  go_enter Try.func80, Try.ntmps80
  go_wp2_with (first | ((with_reducible refine gate_dst (N := 3) rfl ?_); refine box_event ?hg (N := 3) ?hd (cs := #[.slice A0_0 l0_0.length c0_0, .slice A0_1 l0_1.length c0_1]) (t := 29) ?hr ?_; (case hd => rfl); (case hg => rfl); (case hr => first | (go_simp; done) | (go_simp; rfl)); intro gb665 hg w14 hbox hb; have n0_ := Aside0.mk (below_step (by repeat (first | (with_reducible first | exact HB.out | apply below_alloc | apply pw_below_drewN | apply below_drew1) | exact HB.out)) hb); have n1_ := Aside0.mk (hbox); have n2_ := Aside0.mk ((by rw [hg]; exact (below_size (by repeat (first | (with_reducible first | exact HB.out | apply below_alloc | apply pw_below_drewN | apply below_drew1) | exact HB.out))) : w.heap.size ≤ gb665)); have n3_ := Aside0.mk ((by rw [hg]; exact (below_size (by repeat (first | (with_reducible first | exact HB.out | apply below_alloc | apply pw_below_drewN | apply below_drew1) | exact HB.out))) : w.heap.size ≤ gb665)); clear HB; have HB := n0_; have BK665 := n1_; have GW665 := n2_; have GE665 := n3_; clear n0_ n1_ n2_ n3_; clear hb hbox hg; have hcz15_0 : w14.cell? ⟨gb665, 0, none⟩ = some (.slice A0_0 l0_0.length c0_0) := (blk_cell BK665.out 0).trans rfl; have hcz15_1 : w14.cell? ⟨gb665, 1, none⟩ = some (.slice A0_1 l0_1.length c0_1) := (blk_cell BK665.out 1).trans rfl; have hfz15_0 := blk_frozen BK665.out 0; have hfz15_1 := blk_frozen BK665.out 1) | ((with_reducible refine gate_callee (f := 76) rfl ?_); refine goesL_ (some 10) rfl rfl Try.func76 (by kernel_rfl) rfl #[.agg #[.slice A0_0 l0_0.length c0_0, .slice A0_1 l0_1.length c0_1], .int .i64 a1] rfl (by (try simp only [List.map_toArray, List.map_cons, List.map_nil]); first | done | rfl | (simp only [List.length_drop, List.length_take]; rfl)) ?_; (with_reducible refine (impl_setCode.calls _ _ l0_0 _ _ l0_1 a1 t666 _ ?side1 ?side2 ?side3 ?side4 A4.out).mono ?_); (case side1 => repeat (first | exact (Kd.C_below HR0_0.out HB.out) | (with_reducible refine Kd.C_alloc ?_ _) | (with_reducible refine Kd.C_drewN ?_ _) | (with_reducible refine Kd.C_drew ?_))); (case side2 => exact HC0_0.out); (case side3 => repeat (first | exact (Kd.C_below HR0_1.out HB.out) | (with_reducible refine Kd.C_alloc ?_ _) | (with_reducible refine Kd.C_drewN ?_ _) | (with_reducible refine Kd.C_drew ?_))); (case side4 => exact HC0_1.out); rintro e w16 ⟨rfl, hb⟩; refine ⟨_, rfl, ?_⟩; have n0_ := Aside0.mk (blk_below (g := gb665) (o := .cells #[.slice A0_0 l0_0.length c0_0, .slice A0_1 l0_1.length c0_1] 29 (0, 0)) (by (with_reducible repeat (first | refine blk_drewN ?_ _ | refine blk_drew ?_ | refine blk_alloc ?_ _)); exact BK665.out) hb); have n1_ := Aside0.mk (below_step (by repeat (first | (with_reducible first | exact HB.out | apply below_alloc | apply pw_below_drewN | apply below_drew1 | refine below_set ?_ GE665.out) | exact HB.out)) hb); clear BK665; clear HB; have BK665 := n0_; have HB := n1_; clear n0_ n1_; (try clear hb); (try clear hb2); (try clear hk); (try clear hi)))
  go_ret
  exact ⟨by first | rfl | (simp [errW_none, errW_some] <;> rfl) | (simp [*, errW_none, errW_some] <;> rfl), by repeat (first | (with_reducible first | exact HB.out | apply below_alloc | apply pw_below_drewN | apply below_drew1 | refine below_set ?_ GE665.out) | exact HB.out)⟩
end Go.Proofs.Ythdoilfjcgickaa.Pr
end
section
namespace Go.Proofs.Ythdoilfjcgickaa.Dt
abbrev Mat := Nat → Nat → Int
def sm : Nat → (Nat → Int) → Int
 | 0, _ => 0
 | n + 1, f => sm n f + f n
theorem sm_congr {n : Nat} {f g : Nat → Int} (h : ∀ i, i < n → f i = g i) : sm n f = sm n g := by
 induction n with
 | zero => rfl
 | succ n ih => simp only [sm]; rw [ih (fun i hi => h i (by omega)), h n (by omega)]
theorem sm_add (n : Nat) (f g : Nat → Int) : sm n (fun i => f i + g i) = sm n f + sm n g := by
 induction n with
 | zero => rfl
 | succ n ih => simp only [sm]; rw [ih]; omega
theorem sm_mul (n : Nat) (c : Int) (f : Nat → Int) : sm n (fun i => c * f i) = c * sm n f := by
 induction n with
 | zero => simp [sm]
 | succ n ih => simp only [sm]; rw [ih, Int.mul_add]
theorem sm_mulr (n : Nat) (c : Int) (f : Nat → Int) : sm n (fun i => f i * c) = sm n f * c := by
 rw [Int.mul_comm, ← sm_mul]; exact sm_congr (fun i _ => Int.mul_comm _ _)
theorem sm_zero (n : Nat) : sm n (fun _ => 0) = 0 := by
 induction n with
 | zero => rfl
 | succ n ih => simp only [sm]; rw [ih]; rfl
theorem sm_none {n : Nat} {f : Nat → Int} (h : ∀ i, i < n → f i = 0) : sm n f = 0 := by rw [sm_congr h, sm_zero]
theorem sm_one {n : Nat} {f : Nat → Int} {k : Nat} (hk : k < n) (h : ∀ i, i < n → i ≠ k → f i = 0) : sm n f = f k := by
 induction n with
 | zero => omega
 | succ n ih =>
  simp only [sm]
  by_cases c : k = n
  ·subst c
   rw [sm_none (fun i hi => h i (by omega) (by omega))]; omega
  ·rw [ih (by omega) (fun i hi => h i (by omega)), h n (by omega) (by omega)]; omega
theorem sm_two {n : Nat} {f : Nat → Int} {k l : Nat} (hk : k < n) (hl : l < n) (hkl : k ≠ l) (h : ∀ i, i < n → i ≠ k → i ≠ l → f i = 0) : sm n f = f k + f l := by
 have e : sm n f = sm n (fun i => (if i = k then f i else 0) + (if i = k then 0 else f i)) := sm_congr (fun i _ => by split <;> omega)
 rw [e, sm_add, sm_one hk (fun i _ hi => by simp [hi]), sm_one hl]
 ·simp [Ne.symm hkl]
 ·intro i hi hil
  by_cases c : i = k
  ·simp [c]
  ·simp [c, h i hi c hil]
theorem sm_cut {n m : Nat} {f : Nat → Int} (h : ∀ i, n ≤ i → i < n + m → f i = 0) : sm (n + m) f = sm n f := by
 induction m with
 | zero => rfl
 | succ m ih =>
  rw [← Nat.add_assoc]; simp only [sm]
  rw [ih (fun i h1 h2 => h i h1 (by omega)), h (n + m) (by omega) (by omega)]; omega
theorem sm_split (n m : Nat) (f : Nat → Int) : sm (n + m) f = sm n f + sm m (fun i => f (n + i)) := by
 induction m with
 | zero => simp [sm]
 | succ m ih => rw [← Nat.add_assoc]; simp only [sm]; rw [ih]; omega
theorem sm_first (n : Nat) (f : Nat → Int) : sm (n + 1) f = f 0 + sm n (fun i => f (i + 1)) := by
 rw [Nat.add_comm, sm_split]
 simp only [sm]
 rw [sm_congr (f := fun i => f (1 + i)) (g := fun i => f (i + 1)) (fun i _ => by rw [Nat.add_comm])]
 omega
def up (k j : Nat) : Nat := if j < k then j else j + 1
def dn (k j : Nat) : Nat := if j < k then j else j - 1
theorem up_ne (k j : Nat) : up k j ≠ k := by unfold up; split <;> omega
theorem up_dn {k j : Nat} (h : j ≠ k) : up k (dn k j) = j := by unfold up dn; grind
theorem dn_up (k j : Nat) : dn k (up k j) = j := by unfold up dn; grind
theorem up_lt {k j n : Nat} (h : j < n) : up k j < n + 1 := by unfold up; split <;> omega
theorem dn_lt {k j n : Nat} (h : j < n + 1) (hk : k < n + 1) (hj : j ≠ k) : dn k j < n := by unfold dn; split <;> omega
def mnr (k : Nat) (A : Mat) : Mat := fun i j => A (i + 1) (up k j)
def sg (k : Nat) : Int := if k % 2 = 1 then -1 else 1
theorem sg_succ (k : Nat) : sg (k + 1) = - sg k := by unfold sg; split <;> split <;> omega
theorem sg_sq (k : Nat) : sg k * sg k = 1 := by unfold sg; split <;> rfl
def det : Nat → Mat → Int
 | 0, _ => 1
 | n + 1, A => sm (n + 1) (fun k => sg k * (A 0 k * det n (mnr k A)))
theorem det_succ (n : Nat) (A : Mat) : det (n + 1) A = sm (n + 1) (fun k => sg k * (A 0 k * det n (mnr k A))) := rfl
theorem det_congr {n : Nat} : ∀ {A B : Mat}, (∀ i j, i < n → j < n → A i j = B i j) → det n A = det n B := by
 induction n with
 | zero => intro A B _; rfl
 | succ n ih =>
  intro A B h
  unfold det
  refine sm_congr (fun k hk => ?_)
  rw [h 0 k (by omega) hk, ih (A := mnr k A) (B := mnr k B) (fun i j hi hj => h _ _ (by omega) (up_lt hj))]
theorem det_col_lin {n : Nat} : ∀ {A B C : Mat} {c : Nat} {s t : Int}, c < n → (∀ i, i < n → A i c = s * B i c + t * C i c) → (∀ i j, i < n → j < n → j ≠ c → A i j = B i j ∧ A i j = C i j) → det n A = s * det n B + t * det n C := by
 induction n with
 | zero => intro A B C c s t hc; omega
 | succ n ih =>
  intro A B C c s t hc h ho
  unfold det
  rw [← sm_mul, ← sm_mul, ← sm_add]
  refine sm_congr (fun k hk => ?_)
  by_cases e : k = c
  ·subst e
   have e1 : det n (mnr k A) = det n (mnr k B) := det_congr (fun i j hi hj => (ho _ _ (by omega) (up_lt hj) (up_ne k j)).1)
   have e2 : det n (mnr k A) = det n (mnr k C) := det_congr (fun i j hi hj => (ho _ _ (by omega) (up_lt hj) (up_ne k j)).2)
   rw [h 0 (by omega), ← e1, ← e2]
   grind
  ·have key := ih (A := mnr k A) (B := mnr k B) (C := mnr k C) (c := dn k c) (s := s) (t := t) (dn_lt hc hk (Ne.symm e)) (fun i hi => by unfold mnr; rw [up_dn (Ne.symm e)]; exact h _ (by omega)) (fun i j hi hj hjc => ho _ _ (by omega) (up_lt hj) (fun hh => hjc (by rw [← hh, dn_up])))
   have o := ho 0 k (by omega) hk e
   rw [key, ← o.1, ← o.2]
   grind
def cset (c : Nat) (v : Nat → Int) (A : Mat) : Mat := fun i j => if j = c then v i else A i j
def rset (r : Nat) (v : Nat → Int) (A : Mat) : Mat := fun i j => if i = r then v j else A i j
def tr (A : Mat) : Mat := fun i j => A j i
def one : Mat := fun i j => if i = j then 1 else 0
def mul (n : Nat) (A B : Mat) : Mat := fun i j => sm n (fun k => A i k * B k j)
theorem det_adj_eq {n : Nat} : ∀ {A : Mat} {c : Nat}, c + 1 < n → (∀ i, i < n → A i c = A i (c + 1)) → det n A = 0 := by
 induction n with
 | zero => intro A c hc; omega
 | succ n ih =>
  intro A c hc h
  unfold det
  rw [sm_two (k := c) (l := c + 1) (by omega) (by omega) (by omega)]
  ·have e : det n (mnr c A) = det n (mnr (c + 1) A) := det_congr (fun i j hi hj => by
    unfold mnr up
    by_cases e : j = c
    ·subst e
     simp only [Nat.lt_irrefl, if_false, Nat.lt_succ_self, if_true]
     exact (h _ (by omega)).symm
    ·by_cases e2 : j < c
     ·rw [if_pos e2, if_pos (by omega)]
     ·rw [if_neg e2, if_neg (by omega)])
   rw [sg_succ, ← e, ← h 0 (by omega)]
   grind
  ·intro k hk h1 h2
   rw [ih (A := mnr k A) (c := dn k c) (by unfold dn; split <;> omega) (fun i hi => ?_)]
   ·simp
   ·unfold mnr
    rw [up_dn (Ne.symm h1), show dn k c + 1 = dn k (c + 1) from by unfold dn; split <;> split <;> omega, up_dn (Ne.symm h2)]
    exact h _ (by omega)
theorem det_cadd {n c : Nat} (hc : c < n) (u v : Nat → Int) (A : Mat) (s t : Int) : det n (cset c (fun i => s * u i + t * v i) A) = s * det n (cset c u A) + t * det n (cset c v A) :=
 det_col_lin hc (fun i _ => by simp [cset]) (fun i j _ _ h => by simp [cset, h])
theorem det_adj_swap {n c : Nat} (hc : c + 1 < n) {A B : Mat} (h : ∀ i, i < n → B i c = A i (c + 1) ∧ B i (c + 1) = A i c) (ho : ∀ i j, i < n → j < n → j ≠ c → j ≠ c + 1 → B i j = A i j) : det n B = - det n A := by
 let W (u v : Nat → Int) : Mat := cset c u (cset (c + 1) v A)
 let x : Nat → Int := fun i => A i c
 let y : Nat → Int := fun i => A i (c + 1)
 have z (u v : Nat → Int) (e : ∀ i, u i = v i) : det n (W u v) = 0 := det_adj_eq hc (fun i hi => by simp [W, cset, e])
 have l1 (u v w : Nat → Int) : det n (W (fun i => 1 * u i + 1 * v i) w) = 1 * det n (W u w) + 1 * det n (W v w) := det_cadd (by omega) u v _ 1 1
 have l2 (u v w : Nat → Int) : det n (W w (fun i => 1 * u i + 1 * v i)) = 1 * det n (W w u) + 1 * det n (W w v) :=
  det_col_lin (c := c + 1) hc (fun i _ => by simp [W, cset]) (fun i j _ _ h => by by_cases e : j = c <;> simp [W, cset, h, e])
 have a := z (fun i => 1 * x i + 1 * y i) (fun i => 1 * x i + 1 * y i) (fun _ => rfl)
 rw [l1, l2, l2, z x x (fun _ => rfl), z y y (fun _ => rfl)] at a
 have ea : det n (W x y) = det n A := det_congr (fun i j _ _ => by by_cases e : j = c <;> by_cases e2 : j = c + 1 <;> simp [W, cset, x, y, e, e2])
 have eb : det n (W y x) = det n B := det_congr (fun i j hi hj => by
  by_cases e : j = c
  ·subst e; simp [W, cset, y, (h i hi).1]
  ·by_cases e2 : j = c + 1
   ·subst e2; simp [W, cset, x, (h i hi).2]
   ·simp [W, cset, e, e2, ho i j hi hj e e2])
 rw [ea, eb] at a
 omega
theorem det_col_eq {n : Nat} : ∀ (q : Nat) {A : Mat} {c d : Nat}, d = c + 1 + q → d < n → (∀ i, i < n → A i c = A i d) → det n A = 0 := by
 intro q
 induction q with
 | zero => intro A c d e hd h; subst e; exact det_adj_eq hd h
 | succ q ih =>
  intro A c d e hd h
  have k := ih (A := fun i j => if j = c + 1 + q then A i (c + 1 + q + 1) else if j = c + 1 + q + 1 then A i (c + 1 + q) else A i j) (c := c) (d := c + 1 + q) rfl (by omega) (fun i hi => by
   simp only [if_neg (show ¬ c = c + 1 + q by omega), if_neg (show ¬ c = c + 1 + q + 1 by omega), if_true]
   rw [h i hi, e]; rfl)
  have s := det_adj_swap (n := n) (c := c + 1 + q) (by omega) (A := A) (B := fun i j => if j = c + 1 + q then A i (c + 1 + q + 1) else if j = c + 1 + q + 1 then A i (c + 1 + q) else A i j) (fun i hi => ⟨by simp, by simp⟩) (fun i j _ _ h1 h2 => by simp [h1, h2])
  omega
theorem det_col_alt {n c d : Nat} {A : Mat} (hc : c < n) (hd : d < n) (hcd : c ≠ d) (h : ∀ i, i < n → A i c = A i d) : det n A = 0 := by
 by_cases e : c < d
 ·exact det_col_eq (d - c - 1) (by omega) hd h
 ·exact det_col_eq (c - d - 1) (by omega) hc (fun i hi => (h i hi).symm)
structure Form (n : Nat) (f : Mat → Int) : Prop where
 cong : ∀ A B : Mat, (∀ i j, i < n → j < n → A i j = B i j) → f A = f B
 lin : ∀ (A : Mat) (r : Nat) (u v : Nat → Int) (s t : Int), r < n → f (rset r (fun j => s * u j + t * v j) A) = s * f (rset r u A) + t * f (rset r v A)
 alt : ∀ (A : Mat) (r q : Nat), r < n → q < n → r ≠ q → (∀ j, j < n → A r j = A q j) → f A = 0
theorem rset_self (r : Nat) (A : Mat) : rset r (A r) A = A := by funext i j; unfold rset; split <;> simp_all
theorem Form.sums {n : Nat} {f : Mat → Int} (F : Form n f) {r : Nat} (hr : r < n) (A : Mat) (m : Nat) (c : Nat → Int) (v : Nat → Nat → Int) : f (rset r (fun j => sm m (fun k => c k * v k j)) A) = sm m (fun k => c k * f (rset r (v k) A)) := by
 induction m with
 | zero =>
  have := F.lin A r (fun _ => 0) (fun _ => 0) 0 0 hr
  simp only [sm] at *
  simpa using this
 | succ m ih =>
  simp only [sm]
  have := F.lin A r (fun j => sm m (fun k => c k * v k j)) (v m) 1 (c m) hr
  simp only [Int.one_mul] at this
  rw [this, ih]
theorem Form.swap {n : Nat} {f : Mat → Int} (F : Form n f) {r q : Nat} (hr : r < n) (hq : q < n) (hrq : r ≠ q) {A B : Mat} (h : ∀ j, j < n → B r j = A q j ∧ B q j = A r j) (ho : ∀ i j, i < n → j < n → i ≠ r → i ≠ q → B i j = A i j) : f B = - f A := by
 let W (u v : Nat → Int) : Mat := rset r u (rset q v A)
 have z (u v : Nat → Int) (e : ∀ i, u i = v i) : f (W u v) = 0 := F.alt _ r q hr hq hrq (fun j _ => by simp [W, rset, e, Ne.symm hrq])
 have l1 (u v w : Nat → Int) : f (W (fun i => 1 * u i + 1 * v i) w) = 1 * f (W u w) + 1 * f (W v w) := F.lin _ r u v 1 1 hr
 have c (u v : Nat → Int) : W u v = rset q v (rset r u A) := by
  funext i j; simp only [W, rset]
  by_cases e : i = r
  ·subst e; simp [hrq]
  ·simp [e]
 have l2 (u v w : Nat → Int) : f (W w (fun i => 1 * u i + 1 * v i)) = 1 * f (W w u) + 1 * f (W w v) := by
  rw [c, c, c]; exact F.lin _ q u v 1 1 hq
 have a := z (fun i => 1 * A r i + 1 * A q i) (fun i => 1 * A r i + 1 * A q i) (fun _ => rfl)
 rw [l1, l2, l2, z (A r) (A r) (fun _ => rfl), z (A q) (A q) (fun _ => rfl)] at a
 have ea : f (W (A r) (A q)) = f A := F.cong _ _ (fun i j _ _ => by simp only [W, rset]; grind)
 have eb : f (W (A q) (A r)) = f B := F.cong _ _ (fun i j hi hj => by
  by_cases e : i = r
  ·subst e; simp [W, rset, (h j hj).1]
  ·by_cases e2 : i = q
   ·subst e2; simp [W, rset, (h j hj).2, e]
   ·simp [W, rset, e, e2, ho i j hi hj e e2])
 rw [ea, eb] at a
 omega
theorem Form.addrow {n : Nat} {f : Mat → Int} (F : Form n f) {r q : Nat} (hr : r < n) (hq : q < n) (hrq : r ≠ q) (A : Mat) (t : Int) : f (rset r (fun j => A r j + t * A q j) A) = f A := by
 have l := F.lin A r (A r) (A q) 1 t hr
 simp only [Int.one_mul] at l
 rw [l, rset_self, F.alt (rset r (A q) A) r q hr hq hrq (fun j _ => by simp [rset, Ne.symm hrq])]
 omega
def emb (k : Nat) (B : Mat) : Mat
 | 0, j => if j = k then 1 else 0
 | i + 1, j => if j = k then 0 else B i (dn k j)
theorem Form.clean {n : Nat} {f : Mat → Int} (F : Form (n + 1) f) {k : Nat} (hk : k < n + 1) (A : Mat) : ∀ m, m ≤ n → f (rset 0 (fun j => if j = k then 1 else 0) A) = f (fun i j => if i = 0 then (if j = k then 1 else 0) else if i ≤ m ∧ j = k then 0 else A i j) := by
 intro m
 induction m with
 | zero => intro _; exact F.cong _ _ (fun i j _ _ => by by_cases e : i = 0 <;> simp [rset, e])
 | succ m ih =>
  intro hm
  rw [ih (by omega)]
  rw [← F.addrow (r := m + 1) (q := 0) (by omega) (by omega) (by omega) _ (- A (m + 1) k)]
  refine F.cong _ _ (fun i j hi hj => ?_)
  by_cases e : i = m + 1
  ·subst e
   by_cases e2 : j = k
   ·subst e2; simp [rset]; omega
   ·simp [rset, e2]
  ·by_cases e0 : i = 0
   ·simp [rset, e0]
   ·have : (i ≤ m ∧ j = k) ↔ (i ≤ m + 1 ∧ j = k) := by constructor <;> intro h <;> omega
    simp [rset, e, e0, this]
theorem Form.emb_sg {n : Nat} {f : Mat → Int} (F : Form (n + 1) f) : ∀ k, k < n + 1 → f (emb k one) = sg k * f one := by
 intro k
 induction k with
 | zero =>
  intro _
  rw [show sg 0 = 1 from rfl, Int.one_mul]
  refine F.cong _ _ (fun i j _ _ => ?_)
  cases i with
  | zero => unfold emb one; by_cases e : j = 0 <;> simp [e, eq_comm]
  | succ i => unfold emb one dn; cases j with
   | zero => simp
   | succ j => simp
 | succ k ih =>
  intro hk
  rw [F.swap (r := 0) (q := k + 1) (A := emb k one) (by omega) (by omega) (by omega), ih (by omega), sg_succ]
  ·grind
  ·intro j hj
   refine ⟨?_, ?_⟩
   ·simp only [emb, one, dn]; grind
   ·simp only [emb, one, dn]; grind
  ·intro i j hi hj h0 h1
   cases i with
   | zero => exact absurd rfl h0
   | succ i => simp only [emb, one, dn]; grind
theorem Form.uniq {n : Nat} : ∀ {f : Mat → Int}, Form n f → ∀ A, f A = det n A * f one := by
 induction n with
 | zero => intro f F A; rw [show det 0 A = 1 from rfl, Int.one_mul]; exact F.cong _ _ (fun i j hi _ => absurd hi (Nat.not_lt_zero _))
 | succ n ih =>
  intro f F A
  have e0 : f A = f (rset 0 (fun j => sm (n + 1) (fun k => A 0 k * (if j = k then 1 else 0))) A) := F.cong _ _ (fun i j hi hj => by
   by_cases e : i = 0
   ·subst e
    simp only [rset, if_true]
    rw [sm_one hj (fun i _ h => by simp [Ne.symm h])]; simp
   ·simp [rset, e])
  rw [e0, F.sums (by omega) A (n + 1) (A 0) (fun k j => if j = k then 1 else 0)]
  unfold det
  rw [← sm_mulr]
  refine sm_congr (fun k hk => ?_)
  have G : Form n (fun B => f (emb k B)) := by
   have er (B : Mat) (r : Nat) (v : Nat → Int) : emb k (rset r v B) = rset (r + 1) (fun j => if j = k then 0 else v (dn k j)) (emb k B) := by
    funext i j
    cases i with
    | zero => simp [emb, rset]
    | succ i => by_cases e : i = r <;> simp [emb, rset, e]
   refine ⟨fun B C h => F.cong _ _ (fun i j hi hj => ?_), fun B r u v s t hr => ?_, fun B r q hr hq hrq h => ?_⟩
   ·cases i with
    | zero => rfl
    | succ i =>
     unfold emb
     by_cases e : j = k
     ·simp [e]
     ·simp only [if_neg e]; exact h _ _ (by omega) (dn_lt hj hk e)
   ·simp only [er]
    rw [← F.lin _ _ _ _ s t (by omega)]
    congr 2
    funext j
    by_cases e : j = k <;> simp [e]
   ·refine F.alt _ (r + 1) (q + 1) (by omega) (by omega) (by omega) (fun j hj => ?_)
    unfold emb
    by_cases e : j = k
    ·simp [e]
    ·simp only [if_neg e]; exact h _ (dn_lt hj hk e)
  have e1 : f (rset 0 (fun j => if j = k then 1 else 0) A) = f (emb k (mnr k A)) := by
   rw [F.clean hk A n (Nat.le_refl _)]
   refine F.cong _ _ (fun i j hi hj => ?_)
   cases i with
   | zero => simp [emb]
   | succ i =>
    unfold emb mnr
    by_cases e : j = k
    ·simp [e]; omega
    ·simp [e, up_dn e]
  have e2 := ih G (mnr k A)
  rw [e1, e2, F.emb_sg k hk]
  grind
theorem det_one (n : Nat) : det n one = 1 := by
 induction n with
 | zero => rfl
 | succ n ih =>
  unfold det
  rw [sm_one (k := 0) (by omega) (fun i _ h => by simp [one, Ne.symm h])]
  rw [det_congr (A := mnr 0 one) (B := one) (fun i j _ _ => by simp [mnr, one, up]), ih]
  rfl
theorem tr_form (n : Nat) : Form n (fun A => det n (tr A)) := by
 refine ⟨fun A B h => det_congr (fun i j hi hj => h j i hj hi), fun A r u v s t hr => ?_, fun A r q hr hq hrq h => det_col_alt hr hq hrq h⟩
 exact det_col_lin (c := r) hr (fun i _ => by simp [tr, rset]) (fun i j _ _ h => by simp [tr, rset, h])
theorem det_tr (n : Nat) (A : Mat) : det n (tr A) = det n A := by
 have h : det n (tr A) = det n A * det n (tr one) := (tr_form n).uniq A
 rw [h, det_congr (A := tr one) (B := one) (fun i j _ _ => by simp [tr, one, eq_comm]), det_one, Int.mul_one]
theorem det_form (n : Nat) : Form n (det n) := by
 have e : det n = fun A => det n (tr A) := by funext A; exact (det_tr n A).symm
 rw [e]; exact tr_form n
theorem mul_form (n : Nat) (B : Mat) : Form n (fun A => det n (mul n A B)) := by
 have er (A : Mat) (r : Nat) (v : Nat → Int) : mul n (rset r v A) B = rset r (fun j => sm n (fun k => v k * B k j)) (mul n A B) := by
  funext i j; by_cases e : i = r <;> simp [mul, rset, e]
 refine ⟨fun A C h => det_congr (fun i j hi hj => sm_congr (fun k hk => by rw [h i k hi hk])), fun A r u v s t hr => ?_, fun A r q hr hq hrq h => ?_⟩
 ·simp only [er]
  rw [← (det_form n).lin _ _ _ _ s t hr]
  congr 2
  funext j
  rw [← sm_mul, ← sm_mul, ← sm_add]
  exact sm_congr (fun k _ => by grind)
 ·exact (det_form n).alt _ r q hr hq hrq (fun j hj => sm_congr (fun k hk => by rw [h k hk]))
theorem det_mul (n : Nat) (A B : Mat) : det n (mul n A B) = det n A * det n B := by
 have h : det n (mul n A B) = det n A * det n (mul n one B) := (mul_form n B).uniq A
 rw [h, det_congr (A := mul n one B) (B := B) (fun i j hi _ => ?_)]
 unfold mul
 rw [sm_one (k := i) hi (fun k _ h => by simp [one, Ne.symm h])]
 simp [one]
def sh (l : Nat) (A : Mat) : Mat := fun i j => A (l + i) (l + j)
theorem det_block (d : Nat) : ∀ (l : Nat) (A : Mat), (∀ i j, i < l → l ≤ j → j < l + d → A i j = 0) → det (l + d) A = det l A * det d (sh l A) := by
 intro l
 induction l with
 | zero => intro A _; rw [Nat.zero_add, show det 0 A = 1 from rfl, Int.one_mul]; exact det_congr (fun i j _ _ => by simp [sh])
 | succ l ih =>
  intro A h
  rw [show l + 1 + d = (l + d) + 1 from by omega, det_succ, det_succ]
  rw [show l + d + 1 = (l + 1) + d from by omega, sm_cut (fun i h1 h2 => by rw [h 0 i (by omega) h1 h2]; simp), ← sm_mulr]
  refine sm_congr (fun k hk => ?_)
  rw [ih (mnr k A) (fun i j hi h1 h2 => by
   unfold mnr up
   rw [if_neg (by omega)]
   exact h _ _ (by omega) (by omega) (by omega))]
  rw [det_congr (A := sh l (mnr k A)) (B := sh (l + 1) A) (fun i j _ _ => by
   unfold sh mnr up
   rw [if_neg (by omega), show l + i + 1 = l + 1 + i from by omega, show l + j + 1 = l + 1 + j from by omega])]
  grind
theorem det_block' (d l : Nat) (A : Mat) (h : ∀ i j, l ≤ i → i < l + d → j < l → A i j = 0) : det (l + d) A = det l A * det d (sh l A) := by
 rw [← det_tr (l + d) A, det_block d l (tr A) (fun i j h1 h2 h3 => h j i h2 h3 h1), det_tr l A, ← det_tr d (sh l A)]
 rfl
def mv (s t : Nat) (b : Nat → Int) (A : Mat) : Mat := fun i j => if i < s then A (up t i) j else if i = s then b j else A (up t (i - 1)) j
theorem mv_sg {n : Nat} (t : Nat) (b : Nat → Int) (A : Mat) : ∀ s, s < n → det n (mv s t b A) = sg s * det n (mv 0 t b A) := by
 intro s
 induction s with
 | zero => intro _; simp [sg]
 | succ s ih =>
  intro hs
  rw [(det_form n).swap (r := s) (q := s + 1) (A := mv s t b A) (by omega) (by omega) (by omega), ih (by omega), sg_succ]
  ·grind
  ·intro j _; refine ⟨?_, ?_⟩
   ·simp [mv]; intro h; omega
   ·simp [mv]
  ·intro i j _ _ h1 h2
   unfold mv
   by_cases e : i < s
   ·rw [if_pos e, if_pos (by omega)]
   ·rw [if_neg e, if_neg (by omega), if_neg h1, if_neg h2]
theorem adj_row {n : Nat} (B : Mat) (b : Nat → Int) {j : Nat} (hj : j < n) : sm n (fun t => det n (rset t b B) * B t j) = det n B * b j := by
 let X : Mat := fun i c => if i = 0 then (if c = 0 then b j else b (c - 1)) else (if c = 0 then B (i - 1) j else B (i - 1) (c - 1))
 have z : det (n + 1) X = 0 := det_col_alt (c := 0) (d := j + 1) (by omega) (by omega) (by omega) (fun i _ => by simp [X])
 have e := det_tr (n + 1) X
 rw [z] at e
 unfold det at e
 rw [sm_first] at e
 have m0 : det n (mnr 0 (tr X)) = det n B := by
  rw [← det_tr n B]; exact det_congr (fun p q _ _ => by simp [mnr, tr, X, up])
 have mt (t : Nat) (ht : t < n) : det n (mnr (t + 1) (tr X)) = sg t * det n (rset t b B) := by
  rw [← det_tr n (mnr (t + 1) (tr X))]
  have e1 : det n (tr (mnr (t + 1) (tr X))) = det n (mv 0 t b B) := det_congr (fun p q _ _ => by
   cases p with
   | zero => simp [mnr, tr, X, up, mv]
   | succ p =>
    simp only [mnr, tr, X, up, mv, Nat.not_lt_zero, if_false]
    by_cases c : p < t
    ·simp [c, Nat.succ_lt_succ c]
    ·simp [c, show ¬ p + 1 < t + 1 from by omega])
  have e2 : det n (mv t t b B) = det n (rset t b B) := det_congr (fun p q _ _ => by
   unfold mv rset up
   by_cases c : p < t
   ·simp [c, show p ≠ t from by omega]
   ·by_cases c2 : p = t
    ·simp [c2]
    ·rw [if_neg c, if_neg c2, if_neg c2, if_neg (by omega), show p - 1 + 1 = p from by omega])
  rw [e1, ← e2, mv_sg t b B t ht]
  have := sg_sq t
  grind
 have e3 : sm n (fun i => sg (i + 1) * (tr X 0 (i + 1) * det n (mnr (i + 1) (tr X)))) = - sm n (fun t => det n (rset t b B) * B t j) := by
  rw [← Int.neg_one_mul, ← sm_mul]
  refine sm_congr (fun t ht => ?_)
  rw [mt t ht, sg_succ]
  have := sg_sq t
  simp only [tr, X]
  simp
  grind
 rw [e3, m0] at e
 simp [tr, X, sg] at e
 grind
end Go.Proofs.Ythdoilfjcgickaa.Dt
end
section
namespace Go.Proofs.Ythdoilfjcgickaa.Hd
open Go.RowKit Go.Proofs.YthdoilfjcgickaaW.PrintWords Go.Proofs.YthdoilfjcgickaaW.PrintLast Go.Proofs.YthdoilfjcgickaaW.PrintMore Go.Proofs.Ythdoilfjcgickaa.Pr Go.Proofs.Ythdoilfjcgickaa.La Go.Proofs.Ythdoilfjcgickaa.Ma Go.Proofs.Ythdoilfjcgickaa.Hm Go.Proofs.Ythdoilfjcgickaa.Dt
structure Own (w0 w : World) (g n : Nat) (b cp : Nat → Nat) (M : Mat) : Prop where
 below : Below w0.heap.size w0 w
 gb : w0.heap.size ≤ g
 bb : ∀ j, j < n → w0.heap.size ≤ b j
 inj : ∀ i j, i < n → j < n → b i = b j → i = j
 ne : ∀ j, j < n → b j ≠ g
 cap : ∀ j, j < n → n ≤ cp j
 og : ∀ j, j < n → w.cell? ⟨g, j, none⟩ = some (.slice (some ⟨b j, 0, none⟩) n (cp j)) ∧ w.frozen? ⟨g, j, none⟩ = false
 ob : ∀ j c, j < n → c < n → w.cell? ⟨b j, c, none⟩ = some (.int .i64 (M j c)) ∧ w.frozen? ⟨b j, c, none⟩ = false
theorem frozen_below {w w' : World} (h : Below w.heap.size w w') {p : Addr} (hp : p.block < w.heap.size) : w'.frozen? p = w.frozen? p := by
 unfold World.frozen?
 rw [h.block _ hp]
theorem lt_of_cell {w : World} {p : Addr} {v : Value} (h : w.cell? p = some v) : p.block < w.heap.size := World.block_lt_of_cell? w _ h
theorem cset_same {w : World} {p : Addr} {u v : Value} (h : w.cell? p = some u) : (w.setCell p v).cell? p = some v := World.cell?_setCell_same w p v h
theorem cset_other {w : World} {p q : Addr} {v : Value} (h : p ≠ q) : (w.setCell p v).cell? q = w.cell? q := World.cell?_setCell_other w p q v h
theorem fset {w : World} {p q : Addr} {v : Value} : (w.setCell p v).frozen? q = w.frozen? q := World.frozen?_setCell w p q v
theorem add_off (g i j : Nat) : (⟨g, i, none⟩ : Addr).add j = ⟨g, i + j, none⟩ := by unfold Addr.add; split <;> simp_all
section
variable {w0 w w' : World} {g n : Nat} {b cp : Nat → Nat} {M : Mat}
theorem Own.step (h : Own w0 w g n b cp M) (hb : Below w.heap.size w w') : Own w0 w' g n b cp M :=
  ⟨Below.trans h.below (hb.mono h.below.size), h.gb, h.bb, h.inj, h.ne, h.cap,
   fun j hj => by have := lt_of_cell (h.og j hj).1; exact ⟨(hb.cell (p := ⟨g, j, none⟩) this).trans (h.og j hj).1, (frozen_below hb this).trans (h.og j hj).2⟩,
   fun j c hj hc => by have := lt_of_cell (h.ob j c hj hc).1; exact ⟨(hb.cell (p := ⟨b j, c, none⟩) this).trans (h.ob j c hj hc).1, (frozen_below hb this).trans (h.ob j c hj hc).2⟩⟩
theorem Own.congr {M' : Mat} (h : Own w0 w g n b cp M) (e : ∀ i j, i < n → j < n → M i j = M' i j) : Own w0 w g n b cp M' :=
 ⟨h.below, h.gb, h.bb, h.inj, h.ne, h.cap, h.og, fun j c hj hc => by rw [← e j c hj hc]; exact h.ob j c hj hc⟩
def mset (M : Mat) (r c : Nat) (x : Int) : Mat := fun i j => if i = r ∧ j = c then x else M i j
theorem Own.put (h : Own w0 w g n b cp M) {r c : Nat} (hr : r < n) (hc : c < n) (x : Int) : Own w0 (w.setCell ⟨b r, c, none⟩ (.int .i64 x)) g n b cp (mset M r c x) := by
 refine ⟨h.below.setCell (h.bb r hr) _, h.gb, h.bb, h.inj, h.ne, h.cap, fun j hj => ⟨?_, ?_⟩, fun j d hj hd => ⟨?_, ?_⟩⟩
 ·rw [cset_other (by intro e; have := congrArg Addr.block e; exact h.ne r hr this)]
  exact (h.og j hj).1
 ·rw [fset]; exact (h.og j hj).2
 ·unfold mset
  by_cases e : j = r ∧ d = c
  ·obtain ⟨rfl, rfl⟩ := e
   rw [if_pos ⟨rfl, rfl⟩]
   exact cset_same (h.ob j d hj hd).1
  ·rw [if_neg e, cset_other (by
    intro q
    have q1 := congrArg Addr.block q
    have q2 := congrArg Addr.off q
    exact e ⟨(h.inj r j hr hj q1).symm, q2.symm⟩)]
   exact (h.ob j d hj hd).1
 ·rw [fset]; exact (h.ob j d hj hd).2
def sw (r q j : Nat) : Nat := if j = r then q else if j = q then r else j
theorem sw_lt {r q j : Nat} (hr : r < n) (hq : q < n) (hj : j < n) : sw r q j < n := by unfold sw; grind
theorem sw_sw (r q j : Nat) : sw r q (sw r q j) = j := by unfold sw; grind
theorem sw_inj {r q i j : Nat} (h : sw r q i = sw r q j) : i = j := by rw [← sw_sw r q i, h, sw_sw]
theorem Own.swap (h : Own w0 w g n b cp M) {r q : Nat} (hr : r < n) (hq : q < n) :
  Own w0 ((w.setCell ⟨g, r, none⟩ (.slice (some ⟨b q, 0, none⟩) n (cp q))).setCell ⟨g, q, none⟩ (.slice (some ⟨b r, 0, none⟩) n (cp r))) g n (fun j => b (sw r q j)) (fun j => cp (sw r q j)) (fun j => M (sw r q j)) := by
 refine ⟨(h.below.setCell h.gb _).setCell h.gb _, h.gb, fun j hj => h.bb _ (sw_lt hr hq hj), fun i j hi hj e => sw_inj (h.inj _ _ (sw_lt hr hq hi) (sw_lt hr hq hj) e), fun j hj => h.ne _ (sw_lt hr hq hj), fun j hj => h.cap _ (sw_lt hr hq hj), fun j hj => ⟨?_, ?_⟩, fun j d hj hd => ⟨?_, ?_⟩⟩
 ·by_cases e : j = q
  ·subst e
   have : sw r j j = r := by unfold sw; split <;> simp_all
   rw [this]
   by_cases e2 : r = j
   ·subst e2; exact cset_same (cset_same (h.og r hr).1)
   ·exact cset_same (u := .slice (some ⟨b j, 0, none⟩) n (cp j)) (by rw [cset_other (by intro q1; exact e2 (congrArg Addr.off q1))]; exact (h.og j hj).1)
  ·rw [cset_other (by intro q1; exact e (congrArg Addr.off q1).symm)]
   by_cases e2 : j = r
   ·subst e2
    rw [show sw j q j = q from by simp [sw]]
    exact cset_same (h.og j hj).1
   ·rw [cset_other (by intro q1; exact e2 (congrArg Addr.off q1).symm), show sw r q j = j from by simp [sw, e, e2]]
    exact (h.og j hj).1
 ·rw [fset, fset]; exact (h.og j hj).2
 ·have hl := sw_lt hr hq hj
  rw [cset_other (by intro q1; exact h.ne _ hl (congrArg Addr.block q1).symm), cset_other (by intro q1; exact h.ne _ hl (congrArg Addr.block q1).symm)]
  exact (h.ob _ d hl hd).1
 ·rw [fset, fset]; exact (h.ob _ d (sw_lt hr hq hj) hd).2
def rowsFrom (M : Mat) (n i : Nat) : List (List Int) := (List.range (n - i)).map fun r => (List.range n).map fun c => M (i + r) c
theorem rowsFrom_len (M : Mat) (n i : Nat) : (rowsFrom M n i).length = n - i := by simp [rowsFrom]
theorem Own.C (h : Own w0 w g n b cp M) (i : Nat) (hn : n ≤ 1099511627776) : Kd.C (Kd.slice 2 (Kd.int .i64)) w (some ⟨g, i, none⟩) (rowsFrom M n i).length (rowsFrom M n i) := by
 have hl := rowsFrom_len M n i
 refine ⟨rfl, by omega, fun _ => ⟨_, rfl, fun j p hp => ?_⟩⟩
 have hj : j < n - i := by have := (List.getElem?_eq_some_iff.1 hp).1; omega
 have hpe : p = (List.range n).map fun c => M (i + j) c := by
  rw [rowsFrom, List.getElem?_map, List.getElem?_range hj] at hp
  exact (Option.some.inj hp).symm
 subst hpe
 have hc := (h.og (i + j) (by omega)).1
 refine ⟨[.slice (some ⟨b (i + j), 0, none⟩) n (cp (i + j))], rfl, ⟨some ⟨b (i + j), 0, none⟩, cp (i + j), by simp, by simp; exact h.cap _ (by omega), ?_⟩, fun u v hv => ?_⟩
 ·refine ⟨rfl, by simp; omega, fun _ => ⟨_, rfl, fun c p hp => ?_⟩⟩
  have hcn : c < n := by have := (List.getElem?_eq_some_iff.1 hp).1; simpa using this
  rw [List.getElem?_map, List.getElem?_range hcn] at hp
  have hp := Option.some.inj hp
  refine ⟨[.int .i64 p], rfl, rfl, fun u v hv => ?_⟩
  have hu : u = 0 := by cases u with
   | zero => rfl
   | succ u => simp at hv
  subst hu
  have hv : Value.int .i64 p = v := by simpa using hv
  rw [← hv, ← hp]
  have := (h.ob (i + j) c (by omega) hcn).1
  have e : (⟨b (i + j), 0, none⟩ : Addr).add (c * (Kd.int .i64).sz + 0) = ⟨b (i + j), c, none⟩ := by
   show (⟨b (i + j), 0, none⟩ : Addr).add (c * 1 + 0) = _
   rw [Nat.mul_one, Nat.add_zero, add_off]; try rw [Nat.zero_add]
  rw [e]; exact this
 ·have hu : u = 0 := by cases u with
   | zero => rfl
   | succ u => simp at hv
  subst hu
  have hv : Value.slice (some ⟨b (i + j), 0, none⟩) n (cp (i + j)) = v := by simpa using hv
  rw [← hv]
  have e : (⟨g, i, none⟩ : Addr).add (j * (Kd.slice 2 (Kd.int .i64)).sz + 0) = ⟨g, i + j, none⟩ := by
   show (⟨g, i, none⟩ : Addr).add (j * 1 + 0) = _
   rw [Nat.mul_one, Nat.add_zero, add_off]; try rw [Nat.zero_add]
  rw [e]; exact hc
end
def en (l : List (List Int)) : Mat := fun i j => (l.getD i []).getD j 0
theorem own_of_S {w0 W : World} {ok : Nat → Prop} {v : Value} {l : List (List Int)} (h : SS w0 W ok v l) (hB : Below w0.heap.size w0 W) (hp : 0 < l.length) (hr : ∀ x ∈ l, x.length = l.length) : ∃ (g cap : Nat) (b cp : Nat → Nat), v = .slice (some ⟨g, 0, none⟩) l.length cap ∧ l.length ≤ cap ∧ Own w0 W g l.length b cp (en l) := by
 obtain ⟨g, cap, rfl, hg0, hg1, cells, hgc⟩ := Kd.S_form h hp
 have hrd := Kd.S_reads' h
 obtain ⟨f, h0, hO⟩ := h
 obtain ⟨A, c, hv, hc, _, _, hread⟩ := hO.reads
 injection hv with hA _ _
 subst hA
 rw [List.length_zipIdx] at hread
 obtain ⟨ad, had, hj⟩ := hread hp
 injection had with had
 subst had
 have key : ∀ j, ∃ p : Nat × Nat, j < l.length → W.cell? ⟨g, j, none⟩ = some (.slice (some ⟨p.1, 0, none⟩) l.length p.2) ∧ l.length ≤ p.2 ∧ w0.heap.size ≤ p.1 ∧ f p.1 = j ∧ p.1 ≠ g ∧ ∀ d, d < l.length → W.cell? ⟨p.1, d, none⟩ = some (.int .i64 (en l j d)) ∧ W.frozen? ⟨p.1, d, none⟩ = false := by
  intro j
  by_cases hjl : j < l.length
  ·obtain ⟨cs, hcs, hM, hcell⟩ := hj j (l[j], j) (Kd.zip_at (List.getElem?_eq_getElem hjl))
   obtain ⟨u, rfl, hR⟩ := (show ∃ u, cs = [u] ∧ Kd.R (Kd.int .i64) 2 W w0.heap.size (fun k => (ok k ∧ some k ≠ (Value.slice (some ⟨g, 0, none⟩) l.length cap).ownBlock) ∧ f k = j) u l[j] from hM)
   have hlen := hr l[j] (List.getElem_mem hjl)
   obtain ⟨bj, cj, rfl, hb1, hb2, cells2, hbc⟩ := Kd.R_form hR (by omega)
   have hcj := (Kd.R_reads' hR).2.1
   have hown := hR.1 bj (by simp [Value.ownBlock])
   refine ⟨(bj, cj), fun _ => ⟨?_, by simpa [hlen] using hcj, hb1, hown.2, ?_, fun d hd => ?_⟩⟩
   ·have := hcell 0 _ rfl
    have e : (⟨g, 0, none⟩ : Addr).add (j * (Kd.tag f (Kd.slice 2 (Kd.int .i64))).sz + 0) = ⟨g, j, none⟩ := by
     show (⟨g, 0, none⟩ : Addr).add (j * 1 + 0) = _
     rw [Nat.mul_one, Nat.add_zero, add_off]; try rw [Nat.zero_add]
    rw [e, hlen] at this
    exact this
   ·intro e
    have e : bj = g := e
    subst e
    exact hown.1.2 (by simp [Value.ownBlock])
   ·have hat := Kd.R_celln 0 hR (d : Int) (by omega) (by omega)
    rw [Int.toNat_natCast] at hat
    have e2 : en l j d = l[j].getD d 0 := by unfold en; rw [List.getD_eq_getElem?_getD (l := l), List.getElem?_eq_getElem hjl]; rfl
    rw [e2]
    exact ⟨by simpa [rdOf] using hat.1, hat.2⟩
  ·exact ⟨(0, 0), fun hh => absurd hh hjl⟩
 obtain ⟨p, hp2⟩ := Classical.skolem.1 key
 refine ⟨g, cap, fun j => (p j).1, fun j => (p j).2, rfl, hrd.2.1, ⟨hB, hg0, fun j hj => (hp2 j hj).2.2.1, fun i j hi hj e => ?_, fun j hj => (hp2 j hj).2.2.2.2.1, fun j hj => (hp2 j hj).2.1, fun j hj => ⟨(hp2 j hj).1, blk_frozen hgc j⟩, fun j d hj hd => (hp2 j hj).2.2.2.2.2 d hd⟩⟩
 have h1 := (hp2 i hi).2.2.2.1
 have h2 := (hp2 j hj).2.2.2.1
 rw [← h1, ← h2]
 exact congrArg f e
end Go.Proofs.Ythdoilfjcgickaa.Hd
end
section
namespace Go.Proofs.Ythdoilfjcgickaa.Hd
open Go.RowKit Go.Proofs.YthdoilfjcgickaaW.PrintWords Go.Proofs.YthdoilfjcgickaaW.PrintLast Go.Proofs.YthdoilfjcgickaaW.PrintMore Go.Proofs.Ythdoilfjcgickaa.Pr Go.Proofs.Ythdoilfjcgickaa.La Go.Proofs.Ythdoilfjcgickaa.Ma Go.Proofs.Ythdoilfjcgickaa.Hm Go.Proofs.Ythdoilfjcgickaa.Dt
def pcol (M : Mat) (i : Nat) (col : List Int) (r : Nat) : Mat := fun a d => if d = i ∧ a < r then col.getD a 0 else M a d
theorem pcol_zero (M : Mat) (i : Nat) (col : List Int) (a d : Nat) : pcol M i col 0 a d = M a d := by unfold pcol; rw [if_neg (by omega)]
theorem pcol_next (M : Mat) (i : Nat) (col : List Int) (r a d : Nat) : mset (pcol M i col r) r i (col.getD r 0) a d = pcol M i col (r + 1) a d := by
 unfold mset pcol
 by_cases e : a = r ∧ d = i
 ·obtain ⟨rfl, rfl⟩ := e
  rw [if_pos ⟨rfl, rfl⟩, if_pos ⟨rfl, by omega⟩]
 ·rw [if_neg e]
  by_cases q : d = i ∧ a < r
  ·rw [if_pos q, if_pos (by omega)]
  ·rw [if_neg q, if_neg (by omega)]
def okB (n : Nat) (b : Nat → Nat) (k : Nat) : Prop := ∃ j, j < n ∧ k = b j
theorem putO {w0 w : World} {g n : Nat} {b cp : Nat → Nat} {M : Mat} (i : Nat) (hi : i < n) (cap : Nat) (A : Option Addr) (c : Nat) (col : List Int) (hO : Own w0 w g n b cp M) (hn : n ≤ 1000) (hc : n ≤ col.length)
  (hcol : ∀ W, Kept w W (okB n b) → Below w0.heap.size w0 W → Kd.C (Kd.int .i64) W A col.length col) :
  Calls Try.prog 144 #[.slice (some ⟨g, 0, none⟩) n cap, .int .i64 (i : Int), .slice A col.length c] w fun e w' => e = .returned (.tuple #[]) ∧ Own w0 w' g n b cp (pcol M i col n) ∧ Kept w w' (okB n b) := by
 have HO := Aside0.mk hO
 have HI := Aside0.mk hi
 have HN := Aside0.mk hn
 have HC := Aside0.mk hc
 have HCOL := Aside0.mk hcol
 clear hO hi hn hc hcol
 go_enter Try.func144, Try.ntmps144
 go_wp2
 go_loopg [6, 7, 10] n (fun gg v6 v7 v10 wr => ∃ r : Nat, r ≤ n ∧ n - r ≤ gg ∧ v10 = .int .i64 (r : Int) ∧ Aside0 (Own w0 wr g n b cp (pcol M i col r)) ∧ Aside0 (Kept w wr (okB n b)))
 case atStart => exact ⟨0, Nat.zero_le _, by omega, rfl, ⟨HO.out.congr (fun a d _ _ => (pcol_zero M i col a d).symm)⟩, ⟨Kept.refl _ _⟩⟩
 case round =>
  clear HO
  obtain ⟨r, hr, hg, rfl, RO, RK⟩ := hrel
  by_cases hlt : r < n
  ·have hltz : (r : Int) < (n : Int) := by omega
   have h0z : (0 : Int) ≤ (r : Int) := by omega
   have hiz : (i : Int) < (n : Int) := by have := HI.out; omega
   have h0i : (0 : Int) ≤ (i : Int) := by omega
   have hcell := (RO.out.og r hlt).1
   have hold := (RO.out.ob r i hlt HI.out).1
   have hfr := (RO.out.ob r i hlt HI.out).2
   have hcz : (r : Int) < (col.length : Int) := by have := HC.out; omega
   obtain ⟨adc, eA, hcc⟩ := Kd.at_int (HCOL.out wr RK.out RO.out.below) (r : Int) (by omega) (by omega)
   subst eA
   rw [Int.toNat_natCast, rd_nat] at hcc
   have hw : IntKind.i64.wrap ((r : Int) + 1) = ((r + 1 : Nat) : Int) := by rw [IntWalk.i64_in _ (by have := HN.out; omega)]; rfl
   have HW := Aside0.mk hw
   have HLT := Aside0.mk hlt
   have HG := Aside0.mk hg
   clear hlt hr hg
   go_wp2
   go_roundg (n - (r + 1))
   case measure => have := HG.out; have := HLT.out; omega
   case rel =>
    have hput := (RO.out.put HLT.out HI.out (col.getD r 0)).congr (M' := pcol M i col (r + 1)) (fun a d _ _ => pcol_next M i col r a d)
    exact ⟨r + 1, by have := HLT.out; omega, by omega, by first | rfl | (rw [HW.out]) | (simp [HW.out]), ⟨hput⟩, ⟨RK.out.then_ ((Kept.refl _ _).setCell (.inl ⟨r, HLT.out, rfl⟩) _) (fun k hk => .inl hk)⟩⟩
  ·have hltz : ¬ (r : Int) < (n : Int) := by omega
   obtain rfl : r = n := by omega
   go_wp2
   go_end0
   exact ⟨rfl, RO.out, RK.out⟩
end Go.Proofs.Ythdoilfjcgickaa.Hd
end
section
namespace Go.Proofs.Ythdoilfjcgickaa.Pr
open Go.RowKit Go.Proofs.YthdoilfjcgickaaW.PrintWords Go.Proofs.YthdoilfjcgickaaW.PrintLast Go.Proofs.YthdoilfjcgickaaW.PrintMore
attribute [local go_sem] max2_int min2_int max_two min_two max_three min_three max_four min_four
def impl_Problem_column.l0 : Nat → Int → Bool → List Int → List (List Int) → Int → Int → Option (List Int)
 | 0, _, _, _, _, _, _ => none
 | k + 1, x1, x2, x7, x15, x16, x17 => if x17 < x16 then (if 0 ≤ x17 then (if x17 < (x15.length : Int) then (if x2 = true then (if 0 ≤ x1 then (if x1 < ((rd_L1 x15 x17).length : Int) then (if x17 < (x7.length : Int) then (impl_Problem_column.l0 k x1 x2 (x7.set (x17 : Int).toNat (wrap64 (-(rd (rd_L1 x15 x17) x1)))) x15 x16 (wrap64 (x17 + 1))) else (none)) else (none)) else (none)) else (impl_Problem_column.l0 k x1 x2 x7 x15 x16 (wrap64 (x17 + 1)))) else (none)) else (none)) else (if x2 = true then (some x7) else (if 0 ≤ x1 then (if x1 < (x7.length : Int) then (some (x7.set (x1 : Int).toNat 1)) else (none)) else (none)))
def impl_Problem_column.f (k : Nat) (l0_0 : List (List Int)) (l0_1 : List Int) (a1 : Int) (a2 : Bool) : Option (List Int) := if 0 ≤ (l0_1.length : Int) then (if ((l0_1.length : Int) : Int).toNat ≤ 35184372088832 then (impl_Problem_column.l0 k a1 a2 (List.replicate ((l0_1.length : Int) : Int).toNat 0) l0_0 (l0_0.length : Int) 0) else (none)) else (none)
theorem impl_Problem_column.mono_l : ∀ k, (∀ y0 y1 y2 y3 y4 y5, LeO (impl_Problem_column.l0 k y0 y1 y2 y3 y4 y5) (impl_Problem_column.l0 (k + 1) y0 y1 y2 y3 y4 y5))
 | 0 => fun _ _ _ _ _ _ r h => by simp [impl_Problem_column.l0] at h
 | k + 1 => by
  have ih0 := impl_Problem_column.mono_l k
  ·intro y0 y1 y2 y3 y4 y5
   unfold impl_Problem_column.l0
   repeat' first
   | (with_reducible exact ih0 _ _ _ _ _ _)
   | (with_reducible exact LeO.refl _)
   | (with_reducible exact LeO.none _)
   | (with_reducible refine LeO.ite ?_ ?_)
   | (with_reducible refine LeO.bind ?_ (fun _ => ?_))
   | exact ih0 _ _ _ _ _ _
   | exact LeO.none _
   | refine LeO.ite ?_ ?_
   | refine LeO.bind ?_ (fun _ => ?_)
theorem impl_Problem_column.mono : ∀ a0 a1 a2 a3 k, LeO (impl_Problem_column.f k a0 a1 a2 a3) (impl_Problem_column.f (k + 1) a0 a1 a2 a3) := by
 intro a0 a1 a2 a3 k
 have ih0 := impl_Problem_column.mono_l k
 unfold impl_Problem_column.f
 repeat' first
   | (with_reducible exact ih0 _ _ _ _ _ _)
   | (with_reducible exact LeO.refl _)
   | (with_reducible exact LeO.none _)
   | (with_reducible refine LeO.ite ?_ ?_)
   | (with_reducible refine LeO.bind ?_ (fun _ => ?_))
   | exact ih0 _ _ _ _ _ _
   | exact LeO.none _
   | refine LeO.ite ?_ ?_
   | refine LeO.bind ?_ (fun _ => ?_)
theorem impl_Problem_column.calls (k : Nat) (A0_0 : Option Addr) (c0_0 : Nat) (l0_0 : List (List Int)) (A0_1 : Option Addr) (c0_1 : Nat) (l0_1 : List Int) (a1 : Int) (a2 : Bool) (r : List Int) (w : World) (hr0_0 : Kd.C (Kd.slice 2 (Kd.int .i64)) w A0_0 l0_0.length l0_0) (hc0_0 : l0_0.length ≤ c0_0) (hr0_1 : Kd.C (Kd.int .i64) w A0_1 l0_1.length l0_1) (hc0_1 : l0_1.length ≤ c0_1) (h : impl_Problem_column.f k l0_0 l0_1 a1 a2 = some r) :
  Calls Try.prog 135 #[.agg #[.slice A0_0 l0_0.length c0_0, .slice A0_1 l0_1.length c0_1], .int .i64 a1, .bool a2] w fun e w' => ∃ v0_ : Value, e = .returned (v0_) ∧ Kd.R (Kd.int .i64) 2 w' w.heap.size (fun _ => True) v0_ r ∧ Below w.heap.size w w' := by
 have hu29 := Try.underlying29
 have HR0_0 := Aside0.mk hr0_0
 have HC0_0 := Aside0.mk hc0_0
 clear hr0_0 hc0_0
 have HR0_1 := Aside0.mk hr0_1
 have HC0_1 := Aside0.mk hc0_1
 clear hr0_1 hc0_1
 have HB := Aside0.mk (Below.refl w.heap.size w)
 have H : (if 0 ≤ (l0_1.length : Int) then (if ((l0_1.length : Int) : Int).toNat ≤ 35184372088832 then (impl_Problem_column.l0 k a1 a2 (List.replicate ((l0_1.length : Int) : Int).toNat 0) l0_0 (l0_0.length : Int) 0) else (none)) else (none)) = some r := h
 clear h
 by_cases c4 : 0 ≤ (l0_1.length : Int)
 ·rw [if_pos c4] at H
  have c4b0 := eq_true c4
  have c4b1 : decide (0 ≤ (l0_1.length : Int)) = true := decide_eq_true c4
  clear c4
  by_cases c5 : ((l0_1.length : Int) : Int).toNat ≤ 35184372088832
  ·rw [if_pos c5] at H
   have c5b0 := eq_true c5
   have c5b1 : decide (((l0_1.length : Int) : Int).toNat ≤ 35184372088832) = true := decide_eq_true c5
   clear c5
   obtain ⟨y338, hy338⟩ : ∃ y_ : List Int, y_ = (List.replicate ((l0_1.length : Int) : Int).toNat 0) := ⟨_, rfl⟩
   replace H : (impl_Problem_column.l0 k a1 a2 y338 l0_0 (l0_0.length : Int) 0) = some r := by first | (rw [hy338]; with_reducible exact H) | (have H2_ := (Option.bind_some _ _).symm.trans H; rw [hy338]; with_reducible exact H2_) | (have H2_ := (Option.bind_some _ _).symm.trans H; with_reducible exact H2_) | with_reducible exact H | (rw [hy338]; exact H) | exact H
   have Ny338 := Aside0.mk hy338
   clear hy338
   have H' := Aside0.mk H
   clear H
   go_enter Try.func135, Try.ntmps135
   go_wp2_with (first | ((with_reducible refine gate_dst (N := 3) rfl ?_); refine box_event ?hg (N := 3) ?hd (cs := #[.slice A0_0 l0_0.length c0_0, .slice A0_1 l0_1.length c0_1]) (t := 29) ?hr ?_; (case hd => rfl); (case hg => rfl); (case hr => first | (go_simp; done) | (go_simp; rfl)); intro gb337 hg w6 hbox hb; have n0_ := Aside0.mk (below_step (by repeat (first | (with_reducible first | exact HB.out | apply below_alloc | apply pw_below_drewN | apply below_drew1) | exact HB.out)) hb); have n1_ := Aside0.mk (hbox); have n2_ := Aside0.mk ((by rw [hg]; exact (below_size (by repeat (first | (with_reducible first | exact HB.out | apply below_alloc | apply pw_below_drewN | apply below_drew1) | exact HB.out))) : w.heap.size ≤ gb337)); have n3_ := Aside0.mk ((by rw [hg]; exact (below_size (by repeat (first | (with_reducible first | exact HB.out | apply below_alloc | apply pw_below_drewN | apply below_drew1) | exact HB.out))) : w.heap.size ≤ gb337)); clear HB; have HB := n0_; have BK337 := n1_; have GW337 := n2_; have GE337 := n3_; clear n0_ n1_ n2_ n3_; clear hb hbox hg; have hcz7_0 : w6.cell? ⟨gb337, 0, none⟩ = some (.slice A0_0 l0_0.length c0_0) := (blk_cell BK337.out 0).trans rfl; have hcz7_1 : w6.cell? ⟨gb337, 1, none⟩ = some (.slice A0_1 l0_1.length c0_1) := (blk_cell BK337.out 1).trans rfl; have hfz7_0 := blk_frozen BK337.out 0; have hfz7_1 := blk_frozen BK337.out 1) | ((with_reducible refine gate_dst (N := 13) rfl ?_); refine Kd.R_make (Kd.int .i64) _ 2 rfl (N := 13) rfl 23 _ _ rfl (l0_1.length : Int) rfl rfl Try.underlying23 (.int .i64 0) 8 info2 rfl (by decide) (by omega) 0 (ok := fun _ => True) (okp := fun _ => True) rfl (fun _ hk => hk) trivial (of_decide_eq_true (by first | (with_reducible assumption) | assumption)) (Nat.le_trans (Nat.mul_le_mul_right _ (of_decide_eq_true (by first | (with_reducible assumption) | assumption) : (l0_1.length : Int).toNat ≤ 35184372088832)) (by omega)) (Below.refl _ _) (Nat.le_refl _) ?_; intro v339 w8 ho9 hb hg_ hnew_; clear hg_ hnew_; (first | rw [← Ny338.out] at ho9 | (simp only [Int.reduceToNat] at ho9; rw [← Ny338.out] at ho9)); have n0_ := Aside0.mk (Kd.R_lower ho9 (below_size (by repeat (first | (with_reducible first | exact HB.out | apply below_alloc | apply pw_below_drewN | apply below_drew1 | refine below_set ?_ GE337.out) | exact HB.out)))); have n1_ := Aside0.mk (blk_below (g := gb337) (o := .cells #[.slice A0_0 l0_0.length c0_0, .slice A0_1 l0_1.length c0_1] 29 (0, 0)) (by (with_reducible repeat (first | refine blk_drewN ?_ _ | refine blk_drew ?_ | refine blk_alloc ?_ _)); exact BK337.out) hb); have n2_ := Aside0.mk (below_step (by repeat (first | (with_reducible first | exact HB.out | apply below_alloc | apply pw_below_drewN | apply below_drew1 | refine below_set ?_ GE337.out) | exact HB.out)) hb); clear BK337; clear HB; have HO340 := n0_; have BK337 := n1_; have HB := n2_; clear n0_ n1_ n2_; clear hb ho9; have hcz10_0 : w8.cell? ⟨gb337, 0, none⟩ = some (.slice A0_0 l0_0.length c0_0) := (blk_cell BK337.out 0).trans rfl; have hcz10_1 : w8.cell? ⟨gb337, 1, none⟩ = some (.slice A0_1 l0_1.length c0_1) := (blk_cell BK337.out 1).trans rfl; have hfz10_0 := blk_frozen BK337.out 0; have hfz10_1 := blk_frozen BK337.out 1))
   go_loopg [17] k (fun kq v17 w' => ∃ (x7_1 : List Int) (x17_1 : Int), v17 = .int .i64 x17_1 ∧ Aside0 (impl_Problem_column.l0 kq a1 a2 x7_1 l0_0 (l0_0.length : Int) x17_1 = some r) ∧ Aside0 (kq ≤ k) ∧ Aside0 (Kd.R (Kd.int .i64) 2 w' w.heap.size (fun _ => True) v339 x7_1) ∧ Aside0 (w'.heap[gb337]? = some (.cells #[(.slice A0_0 l0_0.length c0_0), (.slice A0_1 l0_1.length c0_1)] 29 (0, 0))) ∧ Aside0 (Below w.heap.size w w'))
   case atStart => exact ⟨(y338), (0), (by first | rfl | (simp; done) | (simp [*]; done)), H', ⟨Nat.le_refl _⟩, ⟨by (with_reducible repeat (first | apply Kd.R_alloc | apply Kd.R_drewN | apply Kd.R_drew)); exact HO340.out⟩, ⟨by (with_reducible repeat (first | refine blk_drewN ?_ _ | refine blk_drew ?_ | refine blk_alloc ?_ _)); exact BK337.out⟩, ⟨by repeat (first | (with_reducible first | exact HB.out | apply below_alloc | apply pw_below_drewN | apply below_drew1 | refine below_set ?_ GE337.out) | exact HB.out)⟩⟩
   case round =>
    clear H'
    try clear c1
    try clear p2
    try clear c4
    try clear c4b0
    try clear c4b1
    try clear c5
    try clear c5b0
    try clear c5b1
    try clear hcz10_0
    try clear hcz10_1
    try clear hcz7_0
    try clear hcz7_1
    try clear hfz10_0
    try clear hfz10_1
    try clear hfz7_0
    try clear hfz7_1
    obtain ⟨x7_1, x17_1, rfl, HA, HK1, HO_7, BK337, HB⟩ := hrel
    cases gk with
    | zero => exact absurd HA.out (by simp [impl_Problem_column.l0])
    | succ k1 =>
     have H := HA.out
     clear HA
     simp only [impl_Problem_column.l0] at H
     by_cases c11 : x17_1 < (l0_0.length : Int)
     ·rw [if_pos c11] at H
      have c11b0 : decide (x17_1 < (l0_0.length : Int)) = true := decide_eq_true c11
      clear c11
      by_cases c12 : 0 ≤ x17_1
      ·rw [if_pos c12] at H
       have c12b0 : decide (0 ≤ x17_1) = true := decide_eq_true c12
       clear c12
       by_cases c13 : x17_1 < (l0_0.length : Int)
       ·rw [if_pos c13] at H
        have c13b0 : decide (x17_1 < (l0_0.length : Int)) = true := decide_eq_true c13
        clear c13
        by_cases c14 : a2 = true
        ·subst c14
         have H1 : (if 0 ≤ a1 then (if a1 < ((rd_L1 l0_0 x17_1).length : Int) then (if x17_1 < (x7_1.length : Int) then (impl_Problem_column.l0 k1 a1 true (x7_1.set (x17_1 : Int).toNat (wrap64 (-(rd (rd_L1 l0_0 x17_1) a1)))) l0_0 (l0_0.length : Int) (wrap64 (x17_1 + 1))) else (none)) else (none)) else (none)) = some r := by rw [if_pos rfl] at H; exact H
         clear H
         have H := H1
         clear H1
         by_cases c15 : 0 ≤ a1
         ·rw [if_pos c15] at H
          have c15b0 : decide (0 ≤ a1) = true := decide_eq_true c15
          clear c15
          by_cases c16 : a1 < ((rd_L1 l0_0 x17_1).length : Int)
          ·rw [if_pos c16] at H
           have c16b0 : decide (a1 < ((rd_L1 l0_0 x17_1).length : Int)) = true := decide_eq_true c16
           clear c16
           by_cases c17 : x17_1 < (x7_1.length : Int)
           ·rw [if_pos c17] at H
            have c17b0 : decide (x17_1 < (x7_1.length : Int)) = true := decide_eq_true c17
            clear c17
            obtain ⟨y343, hy343⟩ : ∃ y_ : List Int, y_ = (x7_1.set (x17_1 : Int).toNat (wrap64 (-(rd (rd_L1 l0_0 x17_1) a1)))) := ⟨_, rfl⟩
            replace H : (impl_Problem_column.l0 k1 a1 true y343 l0_0 (l0_0.length : Int) (wrap64 (x17_1 + 1))) = some r := by first | (rw [hy343]; with_reducible exact H) | (have H2_ := (Option.bind_some _ _).symm.trans H; rw [hy343]; with_reducible exact H2_) | (have H2_ := (Option.bind_some _ _).symm.trans H; with_reducible exact H2_) | with_reducible exact H | (rw [hy343]; exact H) | exact H
            have Ny343 := Aside0.mk hy343
            clear hy343
            have H' := Aside0.mk H
            clear H
            have p341 : 0 ≤ (x17_1 : Int) := of_decide_eq_true (by first | (with_reducible assumption) | assumption)
            have q341 : x17_1 < (l0_0.length : Int) := of_decide_eq_true (by first | (with_reducible assumption) | assumption)
            obtain ⟨ad341, A341_0, c341_0, e341, hx341_0, hl341_0, hi341_0⟩ := at_L1 HR0_0.out x17_1 p341 q341
            cases e341
            replace hx341_0 := (HB.out.cell (World.block_lt_of_cell? w _ hx341_0)).trans hx341_0
            have HR341_0 := Aside0.mk hi341_0
            have HC341_0 := Aside0.mk hl341_0
            clear hi341_0 hl341_0
            replace p341 := eq_true p341
            replace q341 := eq_true q341
            have p342 : 0 ≤ (a1 : Int) := of_decide_eq_true (by first | (with_reducible assumption) | assumption)
            have q342 : a1 < ((rd_L1 l0_0 x17_1).length : Int) := of_decide_eq_true (by first | (with_reducible assumption) | assumption)
            obtain ⟨ad342, e342, hx342_0⟩ := Kd.at_int HR341_0.out a1 p342 q342
            cases e342
            replace hx342_0 := (HB.out.cell (World.block_lt_of_cell? w _ hx342_0)).trans hx342_0
            replace p342 := eq_true p342
            replace q342 := eq_true q342
            have p18 : 0 ≤ (x17_1 : Int) := of_decide_eq_true (by first | (with_reducible assumption) | assumption)
            have q18 : (x17_1 : Int) < ((x7_1.length : Int) : Int) := of_decide_eq_true (by first | (with_reducible assumption) | assumption)
            obtain ⟨go18, co18, eo18, gb18, gl18, cl18, HG18⟩ := Kd.R_form HO_7.out (by omega)
            (first | cases eo18 | (injection eo18 with ea_ en_ ec_; (first | subst ea_ | (injection ea_ with ea_; subst ea_)); subst ec_; clear en_))
            have GB18 := Aside0.mk gb18
            have GG18 := Aside0.mk HG18
            clear gb18 gl18 HG18
            obtain ⟨hx18_0, hf18_0⟩ := Kd.R_celln 0 HO_7.out (x17_1 : Int) p18 q18
            replace p18 := eq_true p18
            replace q18 := eq_true q18
            have HP19 := Kd.R_putg HO_7.out (x17_1 : Int) (wrap64 (-(rd (rd_L1 l0_0 x17_1) a1)))
            go_wp2_with (first | ((with_reducible refine gate_store (t := 2) (p := 30) rfl ?_); refine store_event (t := 2) (p := 30) (v := ?vo_w20) (w1 := (wr.setCell ⟨go18, (x17_1 : Int).toNat, none⟩ (.int .i64 (wrap64 (-(rd (rd_L1 l0_0 x17_1) a1)))))) ?hg ?ho ?hn ?hr ?_; (case ho => rfl); (case hg => rfl); (case hn => rfl); (case hr => first | (go_simp; done) | (go_simp; rfl)); intro w20 hw; have hg : wr.grownBy w20 (some go18) := (by rw [hw]; exact HP19.2); have hp_ : Kd.R (Kd.int .i64) 2 w20 w.heap.size (fun _ => True) (.slice (some ⟨go18, 0, none⟩) x7_1.length co18) y343 := (by rw [hw, Ny343.out]; exact HP19.1); clear HP19; have n0_ := Aside0.mk (hp_); have n1_ := Aside0.mk (blk_grown (g := gb337) (o := .cells #[.slice (some ad341) l0_0.length c0_0, .slice A0_1 l0_1.length c0_1] 29 (0, 0)) (by (with_reducible repeat (first | refine blk_drewN ?_ _ | refine blk_drew ?_ | refine blk_alloc ?_ _)); exact BK337.out) hg (Kd.R_ne HO_7.out BK337.out (by decide))); have n2_ := Aside0.mk ((by rw [hw]; exact below_set (HB.out) GB18.out : Below w.heap.size w w20)); clear HO_7; clear BK337; clear HB; have HO_7 := n0_; have BK337 := n1_; have HB := n2_; clear n0_ n1_ n2_; clear hg hw hp_))
            go_roundg k1
            case measure => have := HK1.out; omega
            case rel => exact ⟨(y343), (wrap64 (x17_1 + 1)), (by first | rfl | (simp; done) | (simp [*]; done)), H', ⟨by have := HK1.out; omega⟩, ⟨by (with_reducible repeat (first | apply Kd.R_alloc | apply Kd.R_drewN | apply Kd.R_drew)); exact HO_7.out⟩, ⟨by (with_reducible repeat (first | refine blk_drewN ?_ _ | refine blk_drew ?_ | refine blk_alloc ?_ _)); exact BK337.out⟩, ⟨by repeat (first | (with_reducible first | exact HB.out | apply below_alloc | apply pw_below_drewN | apply below_drew1 | refine below_set ?_ GE337.out) | exact HB.out)⟩⟩
           ·rw [if_neg c17] at H
            exact absurd H (by simp)
          ·rw [if_neg c16] at H
           exact absurd H (by simp)
         ·rw [if_neg c15] at H
          exact absurd H (by simp)
        ·replace c14 := Bool.eq_false_iff.mpr c14
         subst c14
         have H1 : (impl_Problem_column.l0 k1 a1 false x7_1 l0_0 (l0_0.length : Int) (wrap64 (x17_1 + 1))) = some r := by rw [if_neg (show ¬ (false = true) by decide)] at H; exact H
         clear H
         have H := H1
         clear H1
         have H' := Aside0.mk H
         clear H
         have p341 : 0 ≤ (x17_1 : Int) := of_decide_eq_true (by first | (with_reducible assumption) | assumption)
         have q341 : x17_1 < (l0_0.length : Int) := of_decide_eq_true (by first | (with_reducible assumption) | assumption)
         obtain ⟨ad341, A341_0, c341_0, e341, hx341_0, hl341_0, hi341_0⟩ := at_L1 HR0_0.out x17_1 p341 q341
         cases e341
         replace hx341_0 := (HB.out.cell (World.block_lt_of_cell? w _ hx341_0)).trans hx341_0
         have HR341_0 := Aside0.mk hi341_0
         have HC341_0 := Aside0.mk hl341_0
         clear hi341_0 hl341_0
         replace p341 := eq_true p341
         replace q341 := eq_true q341
         go_wp2
         go_roundg k1
         case measure => have := HK1.out; omega
         case rel => exact ⟨(x7_1), (wrap64 (x17_1 + 1)), (by first | rfl | (simp; done) | (simp [*]; done)), H', ⟨by have := HK1.out; omega⟩, ⟨by (with_reducible repeat (first | apply Kd.R_alloc | apply Kd.R_drewN | apply Kd.R_drew)); exact HO_7.out⟩, ⟨by (with_reducible repeat (first | refine blk_drewN ?_ _ | refine blk_drew ?_ | refine blk_alloc ?_ _)); exact BK337.out⟩, ⟨by repeat (first | (with_reducible first | exact HB.out | apply below_alloc | apply pw_below_drewN | apply below_drew1 | refine below_set ?_ GE337.out) | exact HB.out)⟩⟩
       ·rw [if_neg c13] at H
        exact absurd H (by simp)
      ·rw [if_neg c12] at H
       exact absurd H (by simp)
     ·rw [if_neg c11] at H
      have c11b0 : decide (x17_1 < (l0_0.length : Int)) = false := decide_eq_false c11
      clear c11
      by_cases c21 : a2 = true
      ·subst c21
       have H1 : (some x7_1) = some r := by rw [if_pos rfl] at H; exact H
       clear H
       have H := H1
       clear H1
       obtain rfl := Option.some.inj H
       go_wp2
       go_ret
       exact ⟨_, by first | rfl | (simp [errW_none, errW_some] <;> rfl) | (simp [*, errW_none, errW_some] <;> rfl), by (with_reducible repeat (first | apply Kd.R_alloc | apply Kd.R_drewN | apply Kd.R_drew)); exact HO_7.out, by repeat (first | (with_reducible first | exact HB.out | apply below_alloc | apply pw_below_drewN | apply below_drew1 | refine below_set ?_ GE337.out) | exact HB.out)⟩
      ·replace c21 := Bool.eq_false_iff.mpr c21
       subst c21
       have H1 : (if 0 ≤ a1 then (if a1 < (x7_1.length : Int) then (some (x7_1.set (a1 : Int).toNat 1)) else (none)) else (none)) = some r := by rw [if_neg (show ¬ (false = true) by decide)] at H; exact H
       clear H
       have H := H1
       clear H1
       by_cases c22 : 0 ≤ a1
       ·rw [if_pos c22] at H
        have c22b0 : decide (0 ≤ a1) = true := decide_eq_true c22
        clear c22
        by_cases c23 : a1 < (x7_1.length : Int)
        ·rw [if_pos c23] at H
         have c23b0 : decide (a1 < (x7_1.length : Int)) = true := decide_eq_true c23
         clear c23
         obtain ⟨y344, hy344⟩ : ∃ y_ : List Int, y_ = (x7_1.set (a1 : Int).toNat 1) := ⟨_, rfl⟩
         replace H : (some y344) = some r := by first | (rw [hy344]; with_reducible exact H) | (have H2_ := (Option.bind_some _ _).symm.trans H; rw [hy344]; with_reducible exact H2_) | (have H2_ := (Option.bind_some _ _).symm.trans H; with_reducible exact H2_) | with_reducible exact H | (rw [hy344]; exact H) | exact H
         have Ny344 := Aside0.mk hy344
         clear hy344
         obtain rfl := Option.some.inj H
         have p24 : 0 ≤ (a1 : Int) := of_decide_eq_true (by first | (with_reducible assumption) | assumption)
         have q24 : (a1 : Int) < ((x7_1.length : Int) : Int) := of_decide_eq_true (by first | (with_reducible assumption) | assumption)
         obtain ⟨go24, co24, eo24, gb24, gl24, cl24, HG24⟩ := Kd.R_form HO_7.out (by omega)
         (first | cases eo24 | (injection eo24 with ea_ en_ ec_; (first | subst ea_ | (injection ea_ with ea_; subst ea_)); subst ec_; clear en_))
         have GB24 := Aside0.mk gb24
         have GG24 := Aside0.mk HG24
         clear gb24 gl24 HG24
         obtain ⟨hx24_0, hf24_0⟩ := Kd.R_celln 0 HO_7.out (a1 : Int) p24 q24
         replace p24 := eq_true p24
         replace q24 := eq_true q24
         have HP25 := Kd.R_putg HO_7.out (a1 : Int) 1
         go_wp2_with (first | ((with_reducible refine gate_store (t := 2) (p := 36) rfl ?_); refine store_event (t := 2) (p := 36) (v := ?vo_w26) (w1 := (wr.setCell ⟨go24, (a1 : Int).toNat, none⟩ (.int .i64 1))) ?hg ?ho ?hn ?hr ?_; (case ho => rfl); (case hg => rfl); (case hn => rfl); (case hr => first | (go_simp; done) | (go_simp; rfl)); intro w26 hw; have hg : wr.grownBy w26 (some go24) := (by rw [hw]; exact HP25.2); have hp_ : Kd.R (Kd.int .i64) 2 w26 w.heap.size (fun _ => True) (.slice (some ⟨go24, 0, none⟩) x7_1.length co24) y344 := (by rw [hw, Ny344.out]; exact HP25.1); clear HP25; have n0_ := Aside0.mk (hp_); have n1_ := Aside0.mk (blk_grown (g := gb337) (o := .cells #[.slice A0_0 l0_0.length c0_0, .slice A0_1 l0_1.length c0_1] 29 (0, 0)) (by (with_reducible repeat (first | refine blk_drewN ?_ _ | refine blk_drew ?_ | refine blk_alloc ?_ _)); exact BK337.out) hg (Kd.R_ne HO_7.out BK337.out (by decide))); have n2_ := Aside0.mk ((by rw [hw]; exact below_set (HB.out) GB24.out : Below w.heap.size w w26)); clear HO_7; clear BK337; clear HB; have HO_7 := n0_; have BK337 := n1_; have HB := n2_; clear n0_ n1_ n2_; clear hg hw hp_))
         go_ret
         exact ⟨_, by first | rfl | (simp [errW_none, errW_some] <;> rfl) | (simp [*, errW_none, errW_some] <;> rfl), by (with_reducible repeat (first | apply Kd.R_alloc | apply Kd.R_drewN | apply Kd.R_drew)); exact HO_7.out, by repeat (first | (with_reducible first | exact HB.out | apply below_alloc | apply pw_below_drewN | apply below_drew1 | refine below_set ?_ GE337.out) | exact HB.out)⟩
        ·rw [if_neg c23] at H
         exact absurd H (by simp)
       ·rw [if_neg c22] at H
        exact absurd H (by simp)
  ·rw [if_neg c5] at H
   exact absurd H (by simp)
 ·rw [if_neg c4] at H
  exact absurd H (by simp)
end Go.Proofs.Ythdoilfjcgickaa.Pr
end
section
namespace Go.Proofs.Ythdoilfjcgickaa.Pr
open Go Go.RowKit Go.Proofs.YthdoilfjcgickaaW.PrintWords Go.Proofs.YthdoilfjcgickaaW.PrintLast Go.Proofs.YthdoilfjcgickaaW.PrintMore
theorem run_eql_slice_nil {P : Program} (w : World) (t e : TypeId) (a : Option Addr) (l c : Nat) (h : P.underlying t = some (.slice e)) : (binOp .eql t (.slice a l c) (.slice none 0 0)).run P w = .ok (.bool a.isNone) w := by
 simp only [binOp]
 simp [run_equal_slice_nil w t e a l c h]
def slices_Clone.f (l0 : List Int) : Option (List Int) := if l0.length ≤ 1099511627776 then some l0 else none
theorem slices_Clone.calls (A0 : Option Addr) (c0 : Nat) (l0 : List Int) (r : List Int) (w : World) (hr0 : Kd.C (Kd.int .i64) w A0 l0.length l0) (hc0 : l0.length ≤ c0) (h : slices_Clone.f l0 = some r) :
  Calls Try.prog 156 #[.slice A0 l0.length c0] w fun e w' => ∃ v0_ : Value, e = .returned (v0_) ∧ Kd.R (Kd.int .i64) 2 w' w.heap.size (fun _ => True) v0_ r ∧ Below w.heap.size w w' := by
 unfold slices_Clone.f at h
 split at h
 case isFalse => cases h
 rename_i hl
 cases h
 have hu := Try.underlying23
 have HR := Aside0.mk hr0
 have HL := Aside0.mk hl
 clear hc0 hl
 cases A0 with
 | none =>
  have h0 : l0 = [] := by
   cases l0 with
   | nil => rfl
   | cons a t => obtain ⟨ad, e, _⟩ := Kd.at_int hr0 0 (by simp) (by simp); cases e
  subst h0
  clear hr0 HR
  have he := run_eql_slice_nil (P := Try.prog) w 23 2 none 0 c0 hu
  go_enter Try.func156, Try.ntmps156
  go_wp2
  go_ret
  exact ⟨_, rfl, Kd.R_nil _ _ _ _ _, Below.refl _ _⟩
 | some ad =>
  clear hr0
  have he := run_eql_slice_nil (P := Try.prog) w 23 2 (some ad) l0.length c0 hu
  go_enter Try.func156, Try.ntmps156
  go_wp2_with (first | ((with_reducible refine gate_dst (N := 5) rfl ?_); refine Kd.R_lit (Kd.int .i64) _ 2 ?hg (N := 5) ?hd (xs := ([] : List Int)) (inner := []) (ok := fun _ => True) (okp := fun _ => True) ?hr ?hp (fun _ hk => hk) trivial (Below.refl _ _) (Nat.le_refl _) (by simp) ?_; (case hd => rfl); (case hg => rfl); (case hr => first | (go_simp; done) | (go_simp; rfl)); (case hp => exact (Reps.none _ _)); intro v1 w1 ho hb hg_ hat_; clear hg_ hat_; have HO := Aside0.mk ho; have HB := Aside0.mk hb; clear ho hb) | ((with_reducible refine gate_dst (N := 7) rfl ?_); (refine Kd.R_append_row (Value.int .i64) 0 (w0 := w) w.heap.size rfl (.tmp 5) (.tmp 6) 23 2 (.int .i64 0) 8 rfl Try.underlying23 info2 rfl (by decide) v1 [] l0 (some ad) l0.length c0 (fun _ => True) (by rfl) (by rfl) (fun _ _ => trivial) HO.out (Kd.C_below HR.out HB.out) HB.out HB.out.size (by have := HL.out; simp; omega) ?_; intro v2 w2 ho hb hg_ hat_; clear hg_ hat_; have HO2 := Aside0.mk ho; have HB2 := Aside0.mk hb; clear ho hb)))
  go_ret
  exact ⟨_, rfl, HO2.out, HB2.out⟩
end Go.Proofs.Ythdoilfjcgickaa.Pr
end
section
namespace Go.Proofs.Ythdoilfjcgickaa.Pr
open Go.RowKit Go.Proofs.YthdoilfjcgickaaW.PrintWords Go.Proofs.YthdoilfjcgickaaW.PrintLast Go.Proofs.YthdoilfjcgickaaW.PrintMore
attribute [local go_sem] max2_int min2_int max_two min_two max_three min_three max_four min_four
def impl_copyRows.l0 : Nat → List (List Int) → List (List Int) → Int → Int → Option ((List (List Int)))
 | 0, _, _, _, _ => none
 | k + 1, x3, x6, x7, x8 => if x8 < x7 then (if 0 ≤ x8 then (if x8 < (x6.length : Int) then ((slices_Clone.f (rd_L1 x6 x8)).bind fun t331 => (if x3.length < 5864062014805 then (impl_copyRows.l0 k (x3 ++ [t331]) x6 x7 (wrap64 (x8 + 1))) else (none))) else (none)) else (none)) else (some x3)
def impl_copyRows.f (k : Nat) (l0 : List (List Int)) : Option ((List (List Int))) := impl_copyRows.l0 k ([] : List (List Int)) l0 (l0.length : Int) 0
theorem impl_copyRows.mono_l : ∀ k, (∀ y0 y1 y2 y3, LeO (impl_copyRows.l0 k y0 y1 y2 y3) (impl_copyRows.l0 (k + 1) y0 y1 y2 y3))
 | 0 => fun _ _ _ _ r h => by simp [impl_copyRows.l0] at h
 | k + 1 => by
  have ih0 := impl_copyRows.mono_l k
  ·intro y0 y1 y2 y3
   unfold impl_copyRows.l0
   repeat' first
   | (with_reducible exact ih0 _ _ _ _)
   | (with_reducible exact LeO.refl _)
   | (with_reducible exact LeO.none _)
   | (with_reducible refine LeO.ite ?_ ?_)
   | (with_reducible refine LeO.bind ?_ (fun _ => ?_))
   | exact ih0 _ _ _ _
   | exact LeO.none _
   | refine LeO.ite ?_ ?_
   | refine LeO.bind ?_ (fun _ => ?_)
theorem impl_copyRows.mono : ∀ a0 k, LeO (impl_copyRows.f k a0) (impl_copyRows.f (k + 1) a0) := by
 intro a0 k
 have ih0 := impl_copyRows.mono_l k
 unfold impl_copyRows.f
 repeat' first
   | (with_reducible exact ih0 _ _ _ _)
   | (with_reducible exact LeO.refl _)
   | (with_reducible exact LeO.none _)
   | (with_reducible refine LeO.ite ?_ ?_)
   | (with_reducible refine LeO.bind ?_ (fun _ => ?_))
   | exact ih0 _ _ _ _
   | exact LeO.none _
   | refine LeO.ite ?_ ?_
   | refine LeO.bind ?_ (fun _ => ?_)
theorem impl_copyRows.calls (k : Nat) (A0 : Option Addr) (c0 : Nat) (l0 : List (List Int)) (r : List (List Int)) (w : World) (hr0 : Kd.C (Kd.slice 2 (Kd.int .i64)) w A0 l0.length l0) (hc0 : l0.length ≤ c0) (h : impl_copyRows.f k l0 = some r) :
  Calls Try.prog 134 #[.slice A0 l0.length c0] w fun e w' => ∃ v0_ : Value, e = .returned (v0_) ∧ Kd.S (Kd.slice 2 (Kd.int .i64)) 23 w' w.heap.size (fun _ => True) v0_ r ∧ Below w.heap.size w w' := by
 have HR0 := Aside0.mk hr0
 have HC0 := Aside0.mk hc0
 clear hr0 hc0
 have HB := Aside0.mk (Below.refl w.heap.size w)
 have H : (impl_copyRows.l0 k ([] : List (List Int)) l0 (l0.length : Int) 0) = some r := h
 clear h
 have H' := Aside0.mk H
 clear H
 go_enter Try.func134, Try.ntmps134
 go_wp2
 go_loopg [3, 8] k (fun kq v3 v8 w' => ∃ (x3_1 : List (List Int)) (x8_1 : Int), v8 = .int .i64 x8_1 ∧ Aside0 (impl_copyRows.l0 kq x3_1 l0 (l0.length : Int) x8_1 = some r) ∧ Aside0 (kq ≤ k) ∧ Aside0 (Kd.S (Kd.slice 2 (Kd.int .i64)) 23 w' w.heap.size (fun _ => True) v3 x3_1) ∧ Aside0 (Below w.heap.size w w'))
 case atStart => exact ⟨(([] : List (List Int))), (0), (by first | rfl | (simp; done) | (simp [*]; done)), H', ⟨Nat.le_refl _⟩, ⟨by first | exact Kd.S_nil _ _ _ _ _ | exact Kd.N_nil _ _ _ _ _ | exact Kd.V_nil _ _ _ _ _ | exact Kd.Q_nil _ _ _ _ _ | exact Kd.R_nil _ _ _ _ _⟩, ⟨by repeat (first | (with_reducible first | exact HB.out | apply below_alloc | apply pw_below_drewN | apply below_drew1) | exact HB.out)⟩⟩
 case round =>
  clear H'
  try clear c1
  obtain ⟨x3_1, x8_1, rfl, HA, HK1, HO_3, HB⟩ := hrel
  cases gk with
  | zero => exact absurd HA.out (by simp [impl_copyRows.l0])
  | succ k1 =>
   have H := HA.out
   clear HA
   simp only [impl_copyRows.l0] at H
   by_cases c2 : x8_1 < (l0.length : Int)
   ·rw [if_pos c2] at H
    have c2b0 : decide (x8_1 < (l0.length : Int)) = true := decide_eq_true c2
    clear c2
    by_cases c3 : 0 ≤ x8_1
    ·rw [if_pos c3] at H
     have c3b0 : decide (0 ≤ x8_1) = true := decide_eq_true c3
     clear c3
     by_cases c4 : x8_1 < (l0.length : Int)
     ·rw [if_pos c4] at H
      have c4b0 : decide (x8_1 < (l0.length : Int)) = true := decide_eq_true c4
      clear c4
      replace H := Option.bind_eq_some_iff.mp H
      obtain ⟨t331, A50, H⟩ := H
      replace H : (if x3_1.length < 5864062014805 then (impl_copyRows.l0 k1 (x3_1 ++ [t331]) l0 (l0.length : Int) (wrap64 (x8_1 + 1))) else (none)) = some r := H
      have A5 := Aside0.mk A50
      clear A50
      by_cases c6 : x3_1.length < 5864062014805
      ·rw [if_pos c6] at H
       have LMc6 := Aside0.mk c6
       clear c6
       obtain ⟨y334, hy334⟩ : ∃ y_ : List (List Int), y_ = (x3_1 ++ [t331]) := ⟨_, rfl⟩
       replace H : (impl_copyRows.l0 k1 y334 l0 (l0.length : Int) (wrap64 (x8_1 + 1))) = some r := by first | (rw [hy334]; with_reducible exact H) | (have H2_ := (Option.bind_some _ _).symm.trans H; rw [hy334]; with_reducible exact H2_) | (have H2_ := (Option.bind_some _ _).symm.trans H; with_reducible exact H2_) | with_reducible exact H | (rw [hy334]; exact H) | exact H
       have Ny334 := Aside0.mk hy334
       clear hy334
       have H' := Aside0.mk H
       clear H
       have p330 : 0 ≤ (x8_1 : Int) := of_decide_eq_true (by first | (with_reducible assumption) | assumption)
       have q330 : x8_1 < (l0.length : Int) := of_decide_eq_true (by first | (with_reducible assumption) | assumption)
       obtain ⟨ad330, A330_0, c330_0, e330, hx330_0, hl330_0, hi330_0⟩ := at_L1 HR0.out x8_1 p330 q330
       cases e330
       replace hx330_0 := (HB.out.cell (World.block_lt_of_cell? w _ hx330_0)).trans hx330_0
       have HR330_0 := Aside0.mk hi330_0
       have HC330_0 := Aside0.mk hl330_0
       clear hi330_0 hl330_0
       replace p330 := eq_true p330
       replace q330 := eq_true q330
       go_wp2_with (first | ((with_reducible refine gate_callee (f := 156) rfl ?_); refine goesL_ (some 14) rfl rfl Try.func156 (by kernel_rfl) rfl #[.slice A330_0 (rd_L1 l0 x8_1).length c330_0] rfl (by (try simp only [List.map_toArray, List.map_cons, List.map_nil]); first | done | rfl | (simp only [List.length_drop, List.length_take]; rfl)) ?_; (with_reducible refine (slices_Clone.calls _ _ (rd_L1 l0 x8_1) t331 _ ?side1 ?side2 A5.out).mono ?_); (case side1 => repeat (first | exact (Kd.C_below HR330_0.out HB.out) | (with_reducible refine Kd.C_alloc ?_ _) | (with_reducible refine Kd.C_drewN ?_ _) | (with_reducible refine Kd.C_drew ?_))); (case side2 => exact HC330_0.out); rintro e w7 ⟨v332, rfl, ho0, hb⟩; refine ⟨_, rfl, ?_⟩; have n0_ := Aside0.mk (Kd.S_elder' (by (with_reducible repeat (first | apply Kd.S_alloc | apply Kd.S_drewN | apply Kd.S_drew)); exact HO_3.out) (Kd.R_base ho0) hb); have n1_ := Aside0.mk (Kd.R_lower ho0 (below_size (by repeat (first | (with_reducible first | exact HB.out | apply below_alloc | apply pw_below_drewN | apply below_drew1) | exact HB.out)))); have n2_ := Aside0.mk (below_step (by repeat (first | (with_reducible first | exact HB.out | apply below_alloc | apply pw_below_drewN | apply below_drew1) | exact HB.out)) hb); clear HO_3; clear HB; have HO_3 := n0_; have HO333 := n1_; have HB := n2_; clear n0_ n1_ n2_; (try clear hb); (try clear hb2); (try clear hk); (try clear hi); (try clear ho0); obtain ⟨Ao9, co9, eo9⟩ := Kd.R_slice HO333.out; subst eo9) | ((with_reducible refine gate_builtin (b := .append) (xs := #[.tmp 12, .tmp 15]) rfl ?_); at_builtin; refine Kd.S_append (Kd.slice 2 (Kd.int .i64)) (w0 := w) w.heap.size rfl (.tmp 12) (.tmp 15) 22 23 (.slice none 0 0) 24 rfl Try.underlying22 info23 rfl (by decide) (by omega) u3 x3_1 t331 [.slice Ao9 t331.length co9] (fun _ => True) (fun k_ => some k_ = (.slice Ao9 t331.length co9 : Value).ownBlock) rfl rfl ?aP (fun k_ hk_ => ((Kd.R_mono (ok' := fun k_ => ((fun _ => True)) k_ ∧ some k_ ≠ (u3 : Value).ownBlock) (Kd.R_apart' (HO333.out) (Kd.S_typed HO_3.out) (by decide)) (fun k_ hk => ⟨trivial, hk.2⟩))).1 k_ hk_.symm) ?aF ?aO ?aB ?aS ?aL ?_; (case aP => exact Kd.M_row (Kd.R_mono (Kd.R_tight rfl (Kd.R_mono (ok' := fun k_ => ((fun _ => True)) k_ ∧ some k_ ≠ (u3 : Value).ownBlock) (Kd.R_apart' (HO333.out) (Kd.S_typed HO_3.out) (by decide)) (fun k_ hk => ⟨trivial, hk.2⟩))) (fun _ h_ => h_))); (case aB => exact (by repeat (first | (with_reducible first | exact HB.out | apply below_alloc | apply pw_below_drewN | apply below_drew1) | exact HB.out))); (case aF => exact (fun _ _ => trivial)); (case aO => exact (by (with_reducible repeat (first | apply Kd.S_alloc | apply Kd.S_drewN | apply Kd.S_drew)); exact Kd.S_mono HO_3.out (fun k_ hk => ⟨trivial, fun e_ => hk.2 e_⟩))); (case aS => exact (below_size (by repeat (first | (with_reducible first | exact HB.out | apply below_alloc | apply pw_below_drewN | apply below_drew1) | exact HB.out)))); (case aL => have := LMc6.out; omega); intro v335 w8 ho hb hg hat; rw [← Ny334.out] at ho; have n0_ := Aside0.mk (hb); have n1_ := Aside0.mk (ho); clear HB; clear HO_3; clear HO333; have HB := n0_; have HO336 := n1_; clear n0_ n1_; clear ho hb hg hat))
       go_roundg k1
       case measure => have := HK1.out; omega
       case rel => exact ⟨(y334), (wrap64 (x8_1 + 1)), (by first | rfl | (simp; done) | (simp [*]; done)), H', ⟨by have := HK1.out; omega⟩, ⟨by (with_reducible repeat (first | apply Kd.S_alloc | apply Kd.S_drewN | apply Kd.S_drew)); exact HO336.out⟩, ⟨by repeat (first | (with_reducible first | exact HB.out | apply below_alloc | apply pw_below_drewN | apply below_drew1) | exact HB.out)⟩⟩
      ·rw [if_neg c6] at H
       exact absurd H (by simp)
     ·rw [if_neg c4] at H
      exact absurd H (by simp)
    ·rw [if_neg c3] at H
     exact absurd H (by simp)
   ·rw [if_neg c2] at H
    have c2b0 : decide (x8_1 < (l0.length : Int)) = false := decide_eq_false c2
    clear c2
    obtain rfl := Option.some.inj H
    go_wp2
    go_ret
    exact ⟨_, by first | rfl | (simp [errW_none, errW_some] <;> rfl) | (simp [*, errW_none, errW_some] <;> rfl), by (with_reducible repeat (first | apply Kd.S_alloc | apply Kd.S_drewN | apply Kd.S_drew)); exact HO_3.out, by repeat (first | (with_reducible first | exact HB.out | apply below_alloc | apply pw_below_drewN | apply below_drew1) | exact HB.out)⟩
def impl_has.f (a0 : Int) (a1 : Int) : Option (Bool) := if 0 ≤ a1 then (some ((Go.bits .and .i64 (shr .i64 a0 a1) 1) == 1)) else (none)
theorem impl_has.calls (a0 : Int) (a1 : Int) (r : Bool) (w : World) (h : impl_has.f a0 a1 = some r) :
  Calls Try.prog 109 #[.int .i64 a0, .int .i64 a1] w fun e w' => e = .returned (.bool r) ∧ Drawn0 w w' := by
 have H : (if 0 ≤ a1 then (some ((Go.bits .and .i64 (shr .i64 a0 a1) 1) == 1)) else (none)) = some r := h
 clear h
 by_cases c3 : 0 ≤ a1
 ·rw [if_pos c3] at H
  have c3b0 := eq_true c3
  have c3b1 : decide (0 ≤ a1) = true := decide_eq_true c3
  clear c3
  obtain ⟨ji4, hji4⟩ : ∃ j_ : Int, (shr .i64 a0 a1) = j_ := ⟨_, rfl⟩
  replace H : (some ((Go.bits .and .i64 (ji4) 1) == 1)) = some r := by first | (rw [hji4] at H; exact H) | (simp only [hji4] at H ⊢; exact H)
  have hji4_ : (a0 / 2 ^ min a1.toNat 64) = ji4 := hji4
  have hji4z : a1 ≤ 64 → (a0 / 2 ^ a1.toNat) = ji4 := shr_small hji4
  obtain rfl := Option.some.inj H
  go_enter Try.func109, Try.ntmps109
  go_wp2
  go_ret
  exact ⟨by first | rfl | (simp; done) | (simp only [← hji4] <;> (first | rfl | simp)) | (simp [*]; done), by repeat (first | exact Drawn0.refl _ | apply Drawn0.step)⟩
 ·rw [if_neg c3] at H
  exact absurd H (by simp)
end Go.Proofs.Ythdoilfjcgickaa.Pr
end
