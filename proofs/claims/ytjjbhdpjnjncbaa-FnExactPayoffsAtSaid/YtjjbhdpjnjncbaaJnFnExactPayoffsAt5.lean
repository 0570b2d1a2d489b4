/- Texts of one claim (the words of the kit's print that the claim uses, printed functions, and this session's own texts), joined in the order of their imports by this session's own program (merge.py). -/
import Derived.Test.YtjjbhdpjnjncbaaJnFnExactPayoffsAt0
import Derived.Test.YtjjbhdpjnjncbaaJnFnExactPayoffsAt1
import Derived.Test.YtjjbhdpjnjncbaaJnFnExactPayoffsAt2
import Derived.Test.YtjjbhdpjnjncbaaJnFnExactPayoffsAt3
import Derived.Test.YtjjbhdpjnjncbaaJnFnExactPayoffsAt4
set_option linter.unusedVariables false
set_option linter.unusedSimpArgs false
set_option maxHeartbeats 8000000
set_option maxRecDepth 100000
section
namespace Go.Proofs.Ytjjbhdpjnjncbaa.Pr
open Go.RowKit Go.Proofs.YtjjbhdpjnjncbaaW.PrintWords Go.Proofs.YtjjbhdpjnjncbaaW.PrintLast Go.Proofs.YtjjbhdpjnjncbaaW.PrintMore
attribute [local go_sem] max2_int min2_int max_two min_two max_three min_three max_four min_four
mutual
def spec_PayoffsAt.l0 : Nat → List Int → List Int → Int → Int → Int → Int → Int → List (List Int) → List (List Int) → Option (Int × Int × Int × Int × Int)
 | 0, _, _, _, _, _, _, _, _, _ => none
 | k + 1, x9, x10, x11, x12, x14, x15, x16, x696000, x696001 => if x16 < (x9.length : Int) then (spec_PayoffsAt.l1 k x9 x10 x11 x12 x14 x15 x16 0 x696000 x696001) else ((spec_l01Frac.f k x14 (wrap64 (x11 * x12))).bind fun bt715 => ((spec_l01Told.f k bt715.1 bt715.2).bind fun bt717 => ((spec_l01Frac.f k x15 (wrap64 (x11 * x12))).bind fun bt721 => ((spec_l01Told.f k bt721.1 bt721.2).bind fun bt723 => (if bt717.2.2 = 0 then (if bt723.2.2 = 0 then (some (bt717.1, bt717.2.1, bt723.1, bt723.2.1, 0)) else (some (0, 0, 0, 0, 3))) else (some (0, 0, 0, 0, 3)))))))
def spec_PayoffsAt.l1 : Nat → List Int → List Int → Int → Int → Int → Int → Int → Int → List (List Int) → List (List Int) → Option (Int × Int × Int × Int × Int)
 | 0, _, _, _, _, _, _, _, _, _, _ => none
 | k + 1, x9, x10, x11, x12, x14, x15, x16, x17, x696000, x696001 => if x17 < (x10.length : Int) then (if 0 ≤ x16 then (if x16 < (x9.length : Int) then (if 0 ≤ x17 then (if x16 < (x696000.length : Int) then (if x17 < ((rd_L1 x696000 x16).length : Int) then (if x16 < (x696001.length : Int) then (if x17 < ((rd_L1 x696001 x16).length : Int) then (spec_PayoffsAt.l1 k x9 x10 x11 x12 (wrap64 (x14 + (wrap64 ((wrap64 ((rd x9 x16) * (rd x10 x17))) * (rd (rd_L1 x696000 x16) x17))))) (wrap64 (x15 + (wrap64 ((wrap64 ((rd x9 x16) * (rd x10 x17))) * (rd (rd_L1 x696001 x16) x17))))) x16 (wrap64 (x17 + 1)) x696000 x696001) else (none)) else (none)) else (none)) else (none)) else (none)) else (none)) else (none)) else (spec_PayoffsAt.l0 k x9 x10 x11 x12 x14 x15 (wrap64 (x16 + 1)) x696000 x696001)
end
def spec_PayoffsAt.f (k : Nat) (l0_0 : List (List Int)) (l0_1 : List (List Int)) (l1 : List (S65)) (l2 : List (S65)) : Option (Int × Int × Int × Int × Int) := (spec_l07Both.f k l0_0 l0_1 l1 l2 30000).bind fun bt698 => (if bt698.2.2.2.2 = 0 then (spec_PayoffsAt.l0 k bt698.1 bt698.2.1 bt698.2.2.1 bt698.2.2.2.1 0 0 0 l0_0 l0_1) else (some (0, 0, 0, 0, bt698.2.2.2.2)))
theorem spec_PayoffsAt.mono_l : ∀ k, (∀ y0 y1 y2 y3 y4 y5 y6 y7 y8, LeO (spec_PayoffsAt.l0 k y0 y1 y2 y3 y4 y5 y6 y7 y8) (spec_PayoffsAt.l0 (k + 1) y0 y1 y2 y3 y4 y5 y6 y7 y8)) ∧ (∀ y0 y1 y2 y3 y4 y5 y6 y7 y8 y9, LeO (spec_PayoffsAt.l1 k y0 y1 y2 y3 y4 y5 y6 y7 y8 y9) (spec_PayoffsAt.l1 (k + 1) y0 y1 y2 y3 y4 y5 y6 y7 y8 y9))
 | 0 => ⟨fun _ _ _ _ _ _ _ _ _ r h => by simp [spec_PayoffsAt.l0] at h, fun _ _ _ _ _ _ _ _ _ _ r h => by simp [spec_PayoffsAt.l1] at h⟩
 | k + 1 => by
  obtain ⟨ih0, ih1⟩ := spec_PayoffsAt.mono_l k
  refine ⟨?_, ?_⟩
  ·intro y0 y1 y2 y3 y4 y5 y6 y7 y8
   unfold spec_PayoffsAt.l0
   repeat' first
   | (with_reducible exact ih0 _ _ _ _ _ _ _ _ _)
   | (with_reducible exact ih1 _ _ _ _ _ _ _ _ _ _)
   | (with_reducible exact spec_l01Frac.mono _ _ _)
   | (with_reducible exact spec_l01Told.mono _ _ _)
   | (with_reducible exact spec_l07Both.mono _ _ _ _ _ _)
   | (with_reducible exact LeO.refl _)
   | (with_reducible exact LeO.none _)
   | (with_reducible refine LeO.ite ?_ ?_)
   | (with_reducible refine LeO.bind ?_ (fun _ => ?_))
   | exact ih0 _ _ _ _ _ _ _ _ _
   | exact ih1 _ _ _ _ _ _ _ _ _ _
   | exact spec_l01Frac.mono _ _ _
   | exact spec_l01Told.mono _ _ _
   | exact spec_l07Both.mono _ _ _ _ _ _
   | exact LeO.none _
   | refine LeO.ite ?_ ?_
   | refine LeO.bind ?_ (fun _ => ?_)
  ·intro y0 y1 y2 y3 y4 y5 y6 y7 y8 y9
   unfold spec_PayoffsAt.l1
   repeat' first
   | (with_reducible exact ih0 _ _ _ _ _ _ _ _ _)
   | (with_reducible exact ih1 _ _ _ _ _ _ _ _ _ _)
   | (with_reducible exact spec_l01Frac.mono _ _ _)
   | (with_reducible exact spec_l01Told.mono _ _ _)
   | (with_reducible exact spec_l07Both.mono _ _ _ _ _ _)
   | (with_reducible exact LeO.refl _)
   | (with_reducible exact LeO.none _)
   | (with_reducible refine LeO.ite ?_ ?_)
   | (with_reducible refine LeO.bind ?_ (fun _ => ?_))
   | exact ih0 _ _ _ _ _ _ _ _ _
   | exact ih1 _ _ _ _ _ _ _ _ _ _
   | exact spec_l01Frac.mono _ _ _
   | exact spec_l01Told.mono _ _ _
   | exact spec_l07Both.mono _ _ _ _ _ _
   | exact LeO.none _
   | refine LeO.ite ?_ ?_
   | refine LeO.bind ?_ (fun _ => ?_)
theorem spec_PayoffsAt.mono : ∀ a0 a1 a2 a3 k, LeO (spec_PayoffsAt.f k a0 a1 a2 a3) (spec_PayoffsAt.f (k + 1) a0 a1 a2 a3) := by
 intro a0 a1 a2 a3 k
 obtain ⟨ih0, ih1⟩ := spec_PayoffsAt.mono_l k
 unfold spec_PayoffsAt.f
 repeat' first
   | (with_reducible exact ih0 _ _ _ _ _ _ _ _ _)
   | (with_reducible exact ih1 _ _ _ _ _ _ _ _ _ _)
   | (with_reducible exact spec_l01Frac.mono _ _ _)
   | (with_reducible exact spec_l01Told.mono _ _ _)
   | (with_reducible exact spec_l07Both.mono _ _ _ _ _ _)
   | (with_reducible exact LeO.refl _)
   | (with_reducible exact LeO.none _)
   | (with_reducible refine LeO.ite ?_ ?_)
   | (with_reducible refine LeO.bind ?_ (fun _ => ?_))
   | exact ih0 _ _ _ _ _ _ _ _ _
   | exact ih1 _ _ _ _ _ _ _ _ _ _
   | exact spec_l01Frac.mono _ _ _
   | exact spec_l01Told.mono _ _ _
   | exact spec_l07Both.mono _ _ _ _ _ _
   | exact LeO.none _
   | refine LeO.ite ?_ ?_
   | refine LeO.bind ?_ (fun _ => ?_)
def spec_PayoffsAt.T11 : Bool × List (List Nat × List Nat) := (true, [([], []), ([], []), ([], []), ([1, 2], [1, 2]), ([3], [3]), ([], []), ([], []), ([5, 6], [5, 6]), ([7], [7]), ([4, 8], [4, 8]), ([], []), ([10], [10]), ([], []), ([11, 12], [11, 12]), ([13], [13]), ([], []), ([14, 15], [14, 15]), ([16], [16]), ([9, 17], [9, 17]), ([0, 18], [0, 18]), ([19, 0, 1, 2, 3, 4, 5, 6, 7, 8, 9, 10, 11, 12, 13, 14, 15, 16, 17, 18, 19], [0, 19])])
def spec_PayoffsAt.B11 : List Nat := [0, 0, 0, 6, 14, 0, 0, 96, 224, 510, 0, 1024, 0, 7168, 15360, 0, 64512, 130048, 262142, 524287, 1048575]
theorem spec_PayoffsAt.tab11 : rtab .any (opsOf Try.f45 11) = spec_PayoffsAt.T11 := by kernel_rfl
theorem spec_PayoffsAt.bits11 : waitsOk spec_PayoffsAt.T11.2 spec_PayoffsAt.B11 = true := by kernel_rfl
def spec_PayoffsAt.T12 : Bool × List (List Nat × List Nat) := (true, [([], []), ([], []), ([], []), ([1, 2], [1, 2]), ([3], [3]), ([], []), ([], []), ([5, 6], [5, 6]), ([7], [7]), ([4, 8], [4, 8]), ([], []), ([10], [10]), ([], []), ([11, 12], [11, 12]), ([13], [13]), ([], []), ([14, 15], [14, 15]), ([16], [16]), ([9, 17], [9, 17]), ([0, 18], [0, 18]), ([19, 0, 1, 2, 3, 4, 5, 6, 7, 8, 9, 10, 11, 12, 13, 14, 15, 16, 17, 18, 19], [0, 19])])
def spec_PayoffsAt.B12 : List Nat := [0, 0, 0, 6, 14, 0, 0, 96, 224, 510, 0, 1024, 0, 7168, 15360, 0, 64512, 130048, 262142, 524287, 1048575]
theorem spec_PayoffsAt.tab12 : rtab .any (opsOf Try.f45 12) = spec_PayoffsAt.T12 := by kernel_rfl
theorem spec_PayoffsAt.bits12 : waitsOk spec_PayoffsAt.T12.2 spec_PayoffsAt.B12 = true := by kernel_rfl
theorem spec_PayoffsAt.calls (k : Nat) (A0_0 : Option Addr) (c0_0 : Nat) (l0_0 : List (List Int)) (A0_1 : Option Addr) (c0_1 : Nat) (l0_1 : List (List Int)) (A1 : Option Addr) (c1 : Nat) (l1 : List (S65)) (A2 : Option Addr) (c2 : Nat) (l2 : List (S65)) (r1 : Int) (r2 : Int) (r3 : Int) (r4 : Int) (r5 : Int) (w : World) (hr0_0 : Kd.C (Kd.slice 2 (Kd.int .i64)) w A0_0 l0_0.length l0_0) (hc0_0 : l0_0.length ≤ c0_0) (hr0_1 : Kd.C (Kd.slice 2 (Kd.int .i64)) w A0_1 l0_1.length l0_1) (hc0_1 : l0_1.length ≤ c0_1) (hr1 : Kd.C k65 w A1 l1.length l1) (hc1 : l1.length ≤ c1) (hr2 : Kd.C k65 w A2 l2.length l2) (hc2 : l2.length ≤ c2) (h : spec_PayoffsAt.f k l0_0 l0_1 l1 l2 = some (r1, r2, r3, r4, r5)) :
  Calls Try.prog 45 #[.agg #[.slice A0_0 l0_0.length c0_0, .slice A0_1 l0_1.length c0_1], .slice A1 l1.length c1, .slice A2 l2.length c2] w fun e w' => e = .returned (.tuple #[.agg #[.int .i64 r1, .int .i64 r2], .agg #[.int .i64 r3, .int .i64 r4], .int .i64 r5]) ∧ Below w.heap.size w w' := by
 have hu26 := Try.underlying26
 have hu65 := Try.underlying65
 have HR0_0 := Aside0.mk hr0_0
 have HC0_0 := Aside0.mk hc0_0
 clear hr0_0 hc0_0
 have HR0_1 := Aside0.mk hr0_1
 have HC0_1 := Aside0.mk hc0_1
 clear hr0_1 hc0_1
 have HR1 := Aside0.mk hr1
 have HC1 := Aside0.mk hc1
 clear hr1 hc1
 have HR2 := Aside0.mk hr2
 have HC2 := Aside0.mk hc2
 clear hr2 hc2
 have HB := Aside0.mk (Below.refl w.heap.size w)
 have H : ((spec_l07Both.f k l0_0 l0_1 l1 l2 30000).bind fun bt698 => (if bt698.2.2.2.2 = 0 then (spec_PayoffsAt.l0 k bt698.1 bt698.2.1 bt698.2.2.1 bt698.2.2.2.1 0 0 0 l0_0 l0_1) else (some (0, 0, 0, 0, bt698.2.2.2.2)))) = some (r1, r2, r3, r4, r5) := h
 clear h
 replace H := Option.bind_eq_some_iff.mp H
 obtain ⟨⟨t698, t701, t704, t705, t706⟩, A40, H⟩ := H
 replace H : (if t706 = 0 then (spec_PayoffsAt.l0 k t698 t701 t704 t705 0 0 0 l0_0 l0_1) else (some (0, 0, 0, 0, t706))) = some (r1, r2, r3, r4, r5) := H
 have A4 := Aside0.mk A40
 clear A40
 by_cases c5 : t706 = 0
 ·rw [if_pos c5] at H
  have c5b0 : (t706 == 0) = true := beq_iff_eq.mpr c5
  have c5b1 : (t706 != 0) = false := bne_eq_false_iff_eq.mpr c5
  clear c5
  have H' := Aside0.mk H
  clear H
  go_enter Try.func45, Try.ntmps45
  go_wp2_with (first | ((with_reducible refine gate_dst (N := 3) rfl ?_); refine box_event ?hg (N := 3) ?hd (cs := #[.slice A0_0 l0_0.length c0_0, .slice A0_1 l0_1.length c0_1]) (t := 26) ?hr ?_; (case hd => rfl); (case hg => rfl); (case hr => first | (go_simp; done) | (go_simp; rfl)); intro gb695 hg w6 hbox hb; have n0_ := Aside0.mk (below_step (by repeat (first | (with_reducible first | exact HB.out | apply below_alloc | apply pw_below_drewN | apply below_drew1) | exact HB.out)) hb); have n1_ := Aside0.mk (hbox); have n2_ := Aside0.mk ((by rw [hg]; exact (below_size (by repeat (first | (with_reducible first | exact HB.out | apply below_alloc | apply pw_below_drewN | apply below_drew1) | exact HB.out))) : w.heap.size ≤ gb695)); have n3_ := Aside0.mk ((by rw [hg]; exact (below_size (by repeat (first | (with_reducible first | exact HB.out | apply below_alloc | apply pw_below_drewN | apply below_drew1) | exact HB.out))) : w.heap.size ≤ gb695)); clear HB; have HB := n0_; have BK695 := n1_; have GW695 := n2_; have GE695 := n3_; clear n0_ n1_ n2_ n3_; clear hb hbox hg) | ((with_reducible refine gate_dst (N := 6) rfl ?_); refine box_event ?hg (N := 6) ?hd (cs := #[.int .i64 0, .int .i64 0]) (t := 65) ?hr ?_; (case hd => rfl); (case hg => rfl); (case hr => first | (go_simp; done) | (go_simp; rfl)); intro gb696 hg w7 hbox hb; have n0_ := Aside0.mk (blk_below (g := gb695) (o := .cells #[.slice A0_0 l0_0.length c0_0, .slice A0_1 l0_1.length c0_1] 26 (0, 0)) (by (with_reducible repeat (first | refine blk_drewN ?_ _ | refine blk_drew ?_ | refine blk_alloc ?_ _)); exact BK695.out) hb); have n1_ := Aside0.mk (below_step (by repeat (first | (with_reducible first | exact HB.out | apply below_alloc | apply pw_below_drewN | apply below_drew1 | refine below_set ?_ GE695.out) | exact HB.out)) hb); have n2_ := Aside0.mk (hbox); have n3_ := Aside0.mk ((by rw [hg]; exact (below_size (by repeat (first | (with_reducible first | exact HB.out | apply below_alloc | apply pw_below_drewN | apply below_drew1 | refine below_set ?_ GE695.out) | exact HB.out))) : w.heap.size ≤ gb696)); have n4_ := Aside0.mk ((by rw [hg]; exact (below_size (by repeat (first | (with_reducible first | exact HB.out | apply below_alloc | apply pw_below_drewN | apply below_drew1 | refine below_set ?_ GE695.out) | exact HB.out))) : w.heap.size ≤ gb696)); have n5_ := Aside0.mk ((by rw [hg]; exact Nat.ne_of_lt (blk_lt (g := gb695) (o := .cells #[.slice A0_0 l0_0.length c0_0, .slice A0_1 l0_1.length c0_1] 26 (0, 0)) (by (with_reducible repeat (first | refine blk_drewN ?_ _ | refine blk_drew ?_ | refine blk_alloc ?_ _)); exact BK695.out)) : gb695 ≠ gb696)); have n6_ := Aside0.mk ((by rw [hg]; exact Nat.ne_of_gt (blk_lt (g := gb695) (o := .cells #[.slice A0_0 l0_0.length c0_0, .slice A0_1 l0_1.length c0_1] 26 (0, 0)) (by (with_reducible repeat (first | refine blk_drewN ?_ _ | refine blk_drew ?_ | refine blk_alloc ?_ _)); exact BK695.out)) : gb696 ≠ gb695)); clear BK695; clear HB; have BK695 := n0_; have HB := n1_; have BK696 := n2_; have GW696 := n3_; have GE696 := n4_; have NB695_696 := n5_; have NB696_695 := n6_; clear n0_ n1_ n2_ n3_ n4_ n5_ n6_; clear hb hbox hg) | ((with_reducible refine gate_dst (N := 7) rfl ?_); refine box_event ?hg (N := 7) ?hd (cs := #[.int .i64 0, .int .i64 0]) (t := 65) ?hr ?_; (case hd => rfl); (case hg => rfl); (case hr => first | (go_simp; done) | (go_simp; rfl)); intro gb697 hg w8 hbox hb; have n0_ := Aside0.mk (blk_below (g := gb695) (o := .cells #[.slice A0_0 l0_0.length c0_0, .slice A0_1 l0_1.length c0_1] 26 (0, 0)) (by (with_reducible repeat (first | refine blk_drewN ?_ _ | refine blk_drew ?_ | refine blk_alloc ?_ _)); exact BK695.out) hb); have n1_ := Aside0.mk (blk_below (g := gb696) (o := .cells #[.int .i64 0, .int .i64 0] 65 (0, 0)) (by (with_reducible repeat (first | refine blk_drewN ?_ _ | refine blk_drew ?_ | refine blk_alloc ?_ _)); exact BK696.out) hb); have n2_ := Aside0.mk (below_step (by repeat (first | (with_reducible first | exact HB.out | apply below_alloc | apply pw_below_drewN | apply below_drew1 | refine below_set ?_ GE695.out | refine below_set ?_ GE696.out) | exact HB.out)) hb); have n3_ := Aside0.mk (hbox); have n4_ := Aside0.mk ((by rw [hg]; exact (below_size (by repeat (first | (with_reducible first | exact HB.out | apply below_alloc | apply pw_below_drewN | apply below_drew1 | refine below_set ?_ GE695.out | refine below_set ?_ GE696.out) | exact HB.out))) : w.heap.size ≤ gb697)); have n5_ := Aside0.mk ((by rw [hg]; exact (below_size (by repeat (first | (with_reducible first | exact HB.out | apply below_alloc | apply pw_below_drewN | apply below_drew1 | refine below_set ?_ GE695.out | refine below_set ?_ GE696.out) | exact HB.out))) : w.heap.size ≤ gb697)); have n6_ := Aside0.mk ((by rw [hg]; exact Nat.ne_of_lt (blk_lt (g := gb695) (o := .cells #[.slice A0_0 l0_0.length c0_0, .slice A0_1 l0_1.length c0_1] 26 (0, 0)) (by (with_reducible repeat (first | refine blk_drewN ?_ _ | refine blk_drew ?_ | refine blk_alloc ?_ _)); exact BK695.out)) : gb695 ≠ gb697)); have n7_ := Aside0.mk ((by rw [hg]; exact Nat.ne_of_gt (blk_lt (g := gb695) (o := .cells #[.slice A0_0 l0_0.length c0_0, .slice A0_1 l0_1.length c0_1] 26 (0, 0)) (by (with_reducible repeat (first | refine blk_drewN ?_ _ | refine blk_drew ?_ | refine blk_alloc ?_ _)); exact BK695.out)) : gb697 ≠ gb695)); have n8_ := Aside0.mk ((by rw [hg]; exact Nat.ne_of_lt (blk_lt (g := gb696) (o := .cells #[.int .i64 0, .int .i64 0] 65 (0, 0)) (by (with_reducible repeat (first | refine blk_drewN ?_ _ | refine blk_drew ?_ | refine blk_alloc ?_ _)); exact BK696.out)) : gb696 ≠ gb697)); have n9_ := Aside0.mk ((by rw [hg]; exact Nat.ne_of_gt (blk_lt (g := gb696) (o := .cells #[.int .i64 0, .int .i64 0] 65 (0, 0)) (by (with_reducible repeat (first | refine blk_drewN ?_ _ | refine blk_drew ?_ | refine blk_alloc ?_ _)); exact BK696.out)) : gb697 ≠ gb696)); clear BK695; clear BK696; clear HB; have BK695 := n0_; have BK696 := n1_; have HB := n2_; have BK697 := n3_; have GW697 := n4_; have GE697 := n5_; have NB695_697 := n6_; have NB697_695 := n7_; have NB696_697 := n8_; have NB697_696 := n9_; clear n0_ n1_ n2_ n3_ n4_ n5_ n6_ n7_ n8_ n9_; clear hb hbox hg; have hnb9 := NB695_696.out; have hnc9 := NB696_695.out; have hnb10 := NB695_697.out; have hnc10 := NB697_695.out; have hcz11_0 : w8.cell? ⟨gb695, 0, none⟩ = some (.slice A0_0 l0_0.length c0_0) := (blk_cell BK695.out 0).trans rfl; have hcz11_1 : w8.cell? ⟨gb695, 1, none⟩ = some (.slice A0_1 l0_1.length c0_1) := (blk_cell BK695.out 1).trans rfl; have hfz11_0 := blk_frozen BK695.out 0; have hfz11_1 := blk_frozen BK695.out 1) | ((with_reducible refine gate_callee (f := 95) rfl ?_); refine goesL_ (some 26) rfl rfl Try.func95 (by kernel_rfl) rfl #[.agg #[.slice A0_0 l0_0.length c0_0, .slice A0_1 l0_1.length c0_1], .slice A1 l1.length c1, .slice A2 l2.length c2, .int .i64 30000] rfl (by (try simp only [List.map_toArray, List.map_cons, List.map_nil]); first | done | rfl | (simp only [List.length_drop, List.length_take]; rfl)) ?_; (with_reducible refine (spec_l07Both.calls k _ _ l0_0 _ _ l0_1 _ _ l1 _ _ l2 30000 t698 t701 t704 t705 t706 _ ?side1 ?side2 ?side3 ?side4 ?side5 ?side6 ?side7 ?side8 A4.out).mono ?_); (case side1 => repeat (first | exact (Kd.C_below HR0_0.out HB.out) | (with_reducible refine Kd.C_alloc ?_ _) | (with_reducible refine Kd.C_drewN ?_ _) | (with_reducible refine Kd.C_drew ?_))); (case side2 => exact HC0_0.out); (case side3 => repeat (first | exact (Kd.C_below HR0_1.out HB.out) | (with_reducible refine Kd.C_alloc ?_ _) | (with_reducible refine Kd.C_drewN ?_ _) | (with_reducible refine Kd.C_drew ?_))); (case side4 => exact HC0_1.out); (case side5 => repeat (first | exact (Kd.C_below HR1.out HB.out) | (with_reducible refine Kd.C_alloc ?_ _) | (with_reducible refine Kd.C_drewN ?_ _) | (with_reducible refine Kd.C_drew ?_))); (case side6 => exact HC1.out); (case side7 => repeat (first | exact (Kd.C_below HR2.out HB.out) | (with_reducible refine Kd.C_alloc ?_ _) | (with_reducible refine Kd.C_drewN ?_ _) | (with_reducible refine Kd.C_drew ?_))); (case side8 => exact HC2.out); rintro e w12 ⟨v699, v702, rfl, ho0, ho1, hb⟩; refine ⟨_, rfl, ?_⟩; have n0_ := Aside0.mk (Kd.R_lower ho0 (below_size (by repeat (first | (with_reducible first | exact HB.out | apply below_alloc | apply pw_below_drewN | apply below_drew1 | refine below_set ?_ GE695.out | refine below_set ?_ GE696.out | refine below_set ?_ GE697.out) | exact HB.out)))); have n1_ := Aside0.mk (Kd.R_lower ho1 (below_size (by repeat (first | (with_reducible first | exact HB.out | apply below_alloc | apply pw_below_drewN | apply below_drew1 | refine below_set ?_ GE695.out | refine below_set ?_ GE696.out | refine below_set ?_ GE697.out) | exact HB.out)))); have n2_ := Aside0.mk (blk_below (g := gb695) (o := .cells #[.slice A0_0 l0_0.length c0_0, .slice A0_1 l0_1.length c0_1] 26 (0, 0)) (by (with_reducible repeat (first | refine blk_drewN ?_ _ | refine blk_drew ?_ | refine blk_alloc ?_ _)); exact BK695.out) hb); have n3_ := Aside0.mk (blk_below (g := gb696) (o := .cells #[.int .i64 0, .int .i64 0] 65 (0, 0)) (by (with_reducible repeat (first | refine blk_drewN ?_ _ | refine blk_drew ?_ | refine blk_alloc ?_ _)); exact BK696.out) hb); have n4_ := Aside0.mk (blk_below (g := gb697) (o := .cells #[.int .i64 0, .int .i64 0] 65 (0, 0)) (by (with_reducible repeat (first | refine blk_drewN ?_ _ | refine blk_drew ?_ | refine blk_alloc ?_ _)); exact BK697.out) hb); have n5_ := Aside0.mk (below_step (by repeat (first | (with_reducible first | exact HB.out | apply below_alloc | apply pw_below_drewN | apply below_drew1 | refine below_set ?_ GE695.out | refine below_set ?_ GE696.out | refine below_set ?_ GE697.out) | exact HB.out)) hb); clear BK695; clear BK696; clear BK697; clear HB; have HO700 := n0_; have HO703 := n1_; have BK695 := n2_; have BK696 := n3_; have BK697 := n4_; have HB := n5_; clear n0_ n1_ n2_ n3_ n4_ n5_; (try clear hb); (try clear hb2); (try clear hk); (try clear hi); (try clear ho0); (try clear ho1)))
  go_loopg [14, 15, 16] k (fun kq v14 v15 v16 w' => ∃ (x14_1 : Int) (x15_1 : Int) (x16_1 : Int), v14 = .int .i64 x14_1 ∧ v15 = .int .i64 x15_1 ∧ v16 = .int .i64 x16_1 ∧ Aside0 (spec_PayoffsAt.l0 kq t698 t701 t704 t705 x14_1 x15_1 x16_1 l0_0 l0_1 = some (r1, r2, r3, r4, r5)) ∧ Aside0 (kq ≤ k) ∧ Aside0 (Kd.R (Kd.int .i64) 2 w' w.heap.size (fun k_ => some k_ ≠ (v702 : Value).ownBlock) v699 t698) ∧ Aside0 (Kd.R (Kd.int .i64) 2 w' w.heap.size (fun k_ => some k_ ≠ (v699 : Value).ownBlock) v702 t701) ∧ Aside0 (w'.heap[gb695]? = some (.cells #[(.slice A0_0 l0_0.length c0_0), (.slice A0_1 l0_1.length c0_1)] 26 (0, 0))) ∧ Aside0 (w'.heap[gb696]? = some (.cells #[.int .i64 0, .int .i64 0] 65 (0, 0))) ∧ Aside0 (w'.heap[gb697]? = some (.cells #[.int .i64 0, .int .i64 0] 65 (0, 0))) ∧ Aside0 (Below w.heap.size w w'))
  case atStart => exact ⟨(0), (0), (0), (by first | rfl | (simp; done) | (simp [*]; done)), (by first | rfl | (simp; done) | (simp [*]; done)), (by first | rfl | (simp; done) | (simp [*]; done)), H', ⟨Nat.le_refl _⟩, ⟨by (with_reducible repeat (first | apply Kd.R_alloc | apply Kd.R_drewN | apply Kd.R_drew)); exact HO700.out⟩, ⟨by (with_reducible repeat (first | apply Kd.R_alloc | apply Kd.R_drewN | apply Kd.R_drew)); exact HO703.out⟩, ⟨by (with_reducible repeat (first | refine blk_drewN ?_ _ | refine blk_drew ?_ | refine blk_alloc ?_ _)); exact BK695.out⟩, ⟨by (with_reducible repeat (first | refine blk_drewN ?_ _ | refine blk_drew ?_ | refine blk_alloc ?_ _)); exact BK696.out⟩, ⟨by (with_reducible repeat (first | refine blk_drewN ?_ _ | refine blk_drew ?_ | refine blk_alloc ?_ _)); exact BK697.out⟩, ⟨by repeat (first | (with_reducible first | exact HB.out | apply below_alloc | apply pw_below_drewN | apply below_drew1 | refine below_set ?_ GE695.out | refine below_set ?_ GE696.out | refine below_set ?_ GE697.out) | exact HB.out)⟩⟩
  case round =>
   clear H'
   try clear c1
   try clear c2
   try clear p2
   try clear c4
   try clear c5
   try clear c5b0
   try clear c5b1
   try clear c9
   try clear c10
   try clear hcz11_0
   try clear hcz11_1
   try clear hfz11_0
   try clear hfz11_1
   obtain ⟨x14_1, x15_1, x16_1, rfl, rfl, rfl, HA, HK1, HO_9, HO_10, BK695, BK696, BK697, HB⟩ := hrel
   cases gk with
   | zero => exact absurd HA.out (by simp [spec_PayoffsAt.l0])
   | succ k1 =>
    have H := HA.out
    clear HA
    simp only [spec_PayoffsAt.l0] at H
    by_cases c13 : x16_1 < (t698.length : Int)
    ·rw [if_pos c13] at H
     have c13b0 : decide (x16_1 < (t698.length : Int)) = true := decide_eq_true c13
     clear c13
     have H' := Aside0.mk H
     clear H
     obtain ⟨Ao14, co14, eo14⟩ := Kd.R_slice HO_9.out
     subst eo14
     go_wp2
     go_loopg [14, 15, 17] k1 (fun kq v14 v15 v17 w' => ∃ (x14_2 : Int) (x15_2 : Int) (x17_2 : Int), v14 = .int .i64 x14_2 ∧ v15 = .int .i64 x15_2 ∧ v17 = .int .i64 x17_2 ∧ Aside0 (spec_PayoffsAt.l1 kq t698 t701 t704 t705 x14_2 x15_2 x16_1 x17_2 l0_0 l0_1 = some (r1, r2, r3, r4, r5)) ∧ Aside0 (kq ≤ k1) ∧ Aside0 (Kd.R (Kd.int .i64) 2 w' w.heap.size (fun k_ => some k_ ≠ (v702 : Value).ownBlock) (.slice Ao14 t698.length co14) t698) ∧ Aside0 (Kd.R (Kd.int .i64) 2 w' w.heap.size (fun k_ => some k_ ≠ ((.slice Ao14 t698.length co14) : Value).ownBlock) v702 t701) ∧ Aside0 (w'.heap[gb695]? = some (.cells #[(.slice A0_0 l0_0.length c0_0), (.slice A0_1 l0_1.length c0_1)] 26 (0, 0))) ∧ Aside0 (w'.heap[gb696]? = some (.cells #[.int .i64 0, .int .i64 0] 65 (0, 0))) ∧ Aside0 (w'.heap[gb697]? = some (.cells #[.int .i64 0, .int .i64 0] 65 (0, 0))) ∧ Aside0 (Below w.heap.size w w'))
     case atStart => exact ⟨(x14_1), (x15_1), (0), (by first | rfl | (simp; done) | (simp [*]; done)), (by first | rfl | (simp; done) | (simp [*]; done)), (by first | rfl | (simp; done) | (simp [*]; done)), H', ⟨Nat.le_refl _⟩, ⟨by (with_reducible repeat (first | apply Kd.R_alloc | apply Kd.R_drewN | apply Kd.R_drew)); exact HO_9.out⟩, ⟨by (with_reducible repeat (first | apply Kd.R_alloc | apply Kd.R_drewN | apply Kd.R_drew)); exact HO_10.out⟩, ⟨by (with_reducible repeat (first | refine blk_drewN ?_ _ | refine blk_drew ?_ | refine blk_alloc ?_ _)); exact BK695.out⟩, ⟨by (with_reducible repeat (first | refine blk_drewN ?_ _ | refine blk_drew ?_ | refine blk_alloc ?_ _)); exact BK696.out⟩, ⟨by (with_reducible repeat (first | refine blk_drewN ?_ _ | refine blk_drew ?_ | refine blk_alloc ?_ _)); exact BK697.out⟩, ⟨by repeat (first | (with_reducible first | exact HB.out | apply below_alloc | apply pw_below_drewN | apply below_drew1 | refine below_set ?_ GE695.out | refine below_set ?_ GE696.out | refine below_set ?_ GE697.out) | exact HB.out)⟩⟩
     case round =>
      clear H'
      try clear c1
      try clear c2
      try clear p2
      try clear c4
      try clear c5
      try clear c5b0
      try clear c5b1
      try clear c9
      try clear c10
      try clear c13
      try clear c13b0
      try clear hcz11_0
      try clear hcz11_1
      try clear hfz11_0
      try clear hfz11_1
      try clear p2
      obtain ⟨x14_2, x15_2, x17_2, rfl, rfl, rfl, HA, HK2, HO_9, HO_10, BK695, BK696, BK697, HB⟩ := hrel
      cases gk with
      | zero => exact absurd HA.out (by simp [spec_PayoffsAt.l1])
      | succ k2 =>
       have H := HA.out
       clear HA
       simp only [spec_PayoffsAt.l1] at H
       by_cases c15 : x17_2 < (t701.length : Int)
       ·rw [if_pos c15] at H
        have c15b0 : decide (x17_2 < (t701.length : Int)) = true := decide_eq_true c15
        clear c15
        by_cases c16 : 0 ≤ x16_1
        ·rw [if_pos c16] at H
         have c16b0 : decide (0 ≤ x16_1) = true := decide_eq_true c16
         clear c16
         by_cases c17 : x16_1 < (t698.length : Int)
         ·rw [if_pos c17] at H
          have c17b0 : decide (x16_1 < (t698.length : Int)) = true := decide_eq_true c17
          clear c17
          by_cases c18 : 0 ≤ x17_2
          ·rw [if_pos c18] at H
           have c18b0 : decide (0 ≤ x17_2) = true := decide_eq_true c18
           clear c18
           by_cases c19 : x16_1 < (l0_0.length : Int)
           ·rw [if_pos c19] at H
            have c19b0 : decide (x16_1 < (l0_0.length : Int)) = true := decide_eq_true c19
            clear c19
            by_cases c20 : x17_2 < ((rd_L1 l0_0 x16_1).length : Int)
            ·rw [if_pos c20] at H
             have c20b0 : decide (x17_2 < ((rd_L1 l0_0 x16_1).length : Int)) = true := decide_eq_true c20
             clear c20
             by_cases c21 : x16_1 < (l0_1.length : Int)
             ·rw [if_pos c21] at H
              have c21b0 : decide (x16_1 < (l0_1.length : Int)) = true := decide_eq_true c21
              clear c21
              by_cases c22 : x17_2 < ((rd_L1 l0_1 x16_1).length : Int)
              ·rw [if_pos c22] at H
               have c22b0 : decide (x17_2 < ((rd_L1 l0_1 x16_1).length : Int)) = true := decide_eq_true c22
               clear c22
               have H' := Aside0.mk H
               clear H
               obtain ⟨Ao23, co23, eo23⟩ := Kd.R_slice HO_10.out
               subst eo23
               try go_wp2
               have n0_ := Aside0.mk (Kd.R_drew HO_9.out)
               have n1_ := Aside0.mk (Kd.R_drew HO_10.out)
               have n2_ := Aside0.mk (blk_drew BK695.out)
               have n3_ := Aside0.mk (blk_drew BK696.out)
               have n4_ := Aside0.mk (blk_drew BK697.out)
               have n5_ := Aside0.mk (below_drew1 HB.out)
               clear HO_9
               clear HO_10
               clear BK695
               clear BK696
               clear BK697
               clear HB
               have HO_9 := n0_
               have HO_10 := n1_
               have BK695 := n2_
               have BK696 := n3_
               have BK697 := n4_
               have HB := n5_
               clear n0_ n1_ n2_ n3_ n4_ n5_
               have p707 : 0 ≤ (x16_1 : Int) := of_decide_eq_true (by first | (with_reducible assumption) | assumption)
               have q707 : x16_1 < (t698.length : Int) := of_decide_eq_true (by first | (with_reducible assumption) | assumption)
               obtain ⟨ad707, e707, hx707_0⟩ := Kd.at_int (Kd.R_reads' HO_9.out).2.2 x16_1 p707 q707
               cases e707
               replace p707 := eq_true p707
               replace q707 := eq_true q707
               have p708 : 0 ≤ (x17_2 : Int) := of_decide_eq_true (by first | (with_reducible assumption) | assumption)
               have q708 : x17_2 < (t701.length : Int) := of_decide_eq_true (by first | (with_reducible assumption) | assumption)
               obtain ⟨ad708, e708, hx708_0⟩ := Kd.at_int (Kd.R_reads' HO_10.out).2.2 x17_2 p708 q708
               cases e708
               replace p708 := eq_true p708
               replace q708 := eq_true q708
               have p709 : 0 ≤ (x16_1 : Int) := of_decide_eq_true (by first | (with_reducible assumption) | assumption)
               have q709 : x16_1 < (l0_0.length : Int) := of_decide_eq_true (by first | (with_reducible assumption) | assumption)
               obtain ⟨ad709, A709_0, c709_0, e709, hx709_0, hl709_0, hi709_0⟩ := at_L1 HR0_0.out x16_1 p709 q709
               have hw709_0 := hx709_0
               cases e709
               replace hx709_0 := (HB.out.cell (World.block_lt_of_cell? w _ hx709_0)).trans hx709_0
               have HR709_0 := Aside0.mk hi709_0
               have HC709_0 := Aside0.mk hl709_0
               clear hi709_0 hl709_0
               replace p709 := eq_true p709
               replace q709 := eq_true q709
               have p710 : 0 ≤ (x17_2 : Int) := of_decide_eq_true (by first | (with_reducible assumption) | assumption)
               have q710 : x17_2 < ((rd_L1 l0_0 x16_1).length : Int) := of_decide_eq_true (by first | (with_reducible assumption) | assumption)
               obtain ⟨ad710, e710, hx710_0⟩ := Kd.at_int HR709_0.out x17_2 p710 q710
               have hw710_0 := hx710_0
               cases e710
               replace hx710_0 := (HB.out.cell (World.block_lt_of_cell? w _ hx710_0)).trans hx710_0
               replace p710 := eq_true p710
               replace q710 := eq_true q710
               refine start_ (n := 21) (S := fun w' => w'.cell? ⟨gb695, 0, none⟩ = some (.slice (some ad709) l0_0.length c0_0) ∧ w'.cell? ⟨gb695, 1, none⟩ = some (.slice A0_1 l0_1.length c0_1) ∧ w'.cell? (ad707.add (x16_1).toNat) = some (.int .i64 (rd t698 x16_1)) ∧ w'.cell? (ad708.add (x17_2).toNat) = some (.int .i64 (rd t701 x17_2)) ∧ w'.cell? (ad709.add (x16_1).toNat) = some (.slice (some ad710) (rd_L1 l0_0 x16_1).length c709_0) ∧ w'.cell? (ad710.add (x17_2).toNat) = some (.int .i64 (rd (rd_L1 l0_0 x16_1) x17_2))) (ds := []) #[false, false, false, false, false, false, false, false, false, false, false, false, false, false, false, false, false, false, false, false, false] (by kernel_rfl) rfl rfl ⟨(blk_cell BK695.out 0).trans rfl, (blk_cell BK695.out 1).trans rfl, hx707_0, hx708_0, ((HB.out.cell (World.block_lt_of_cell? w _ hw709_0)).trans hw709_0), ((HB.out.cell (World.block_lt_of_cell? w _ hw710_0)).trans hw710_0)⟩ (fun hHeld => ?_); refine with_tabW spec_PayoffsAt.tab11 spec_PayoffsAt.bits11 (fun HT_ HW_ => ?_)
               generalize wr.drew = w24 at HO_9 HO_10 BK695 BK696 BK697 HB HR709_0 hx707_0 hx708_0 hx709_0 hx710_0 hHeld ⊢
               refine pure_ (i := 0) (N := some 49) (v := ?_) (a' := ?_) #[true, false, false, false, false, false, false, false, false, false, false, false, false, false, false, false, false, false, false, false, false] rfl rfl (any_of HT_.out (by kernel_rfl)) (fun _ _ _ h => h) (Or.inl ⟨by rfl, ?_⟩) ?_ ?_
               rotate_left
               ·intro w'
                go_simp
                with_reducible rfl
               rotate_left
               ·simp only [Act.put, List.setIfInBounds_toArray, List.set_cons_zero, List.set_cons_succ, i64_w, i32_w]
                rfl
               refine pure_ (i := 1) (N := some 50) (v := ?_) (a' := ?_) #[true, true, false, false, false, false, false, false, false, false, false, false, false, false, false, false, false, false, false, false, false] rfl rfl (any_of HT_.out (by kernel_rfl)) (fun _ _ _ h => h) (Or.inl ⟨by rfl, ?_⟩) ?_ ?_
               rotate_left
               ·intro w'
                go_simp
                with_reducible rfl
               rotate_left
               ·simp only [Act.put, List.setIfInBounds_toArray, List.set_cons_zero, List.set_cons_succ, i64_w, i32_w]
                rfl
               refine pure_ (i := 2) (N := some 51) (v := ?_) (a' := ?_) #[true, true, true, false, false, false, false, false, false, false, false, false, false, false, false, false, false, false, false, false, false] rfl rfl (any_of HT_.out (by kernel_rfl)) (fun _ _ _ h => h) (Or.inl ⟨by rfl, ?_⟩) ?_ ?_
               rotate_left
               ·intro w'
                go_simp
                with_reducible rfl
               rotate_left
               ·simp only [Act.put, List.setIfInBounds_toArray, List.set_cons_zero, List.set_cons_succ, i64_w, i32_w]
                rfl
               refine pure_ (i := 3) (N := some 52) (v := ?_) (a' := ?_) #[true, true, true, true, false, false, false, false, false, false, false, false, false, false, false, false, false, false, false, false, false] rfl rfl (any_of HT_.out (by kernel_rfl)) (fun _ _ _ h => h) (Or.inl ⟨by rfl, ?_⟩) ?_ ?_
               rotate_left
               ·intro w'
                go_simp
                with_reducible rfl
               rotate_left
               ·simp only [Act.put, List.setIfInBounds_toArray, List.set_cons_zero, List.set_cons_succ, i64_w, i32_w]
                rfl
               refine pure_ (i := 5) (N := some 54) (v := ?_) (a' := ?_) #[true, true, true, true, false, true, false, false, false, false, false, false, false, false, false, false, false, false, false, false, false] rfl rfl (any_of HT_.out (by kernel_rfl)) (fun _ _ _ h => h) (Or.inl ⟨by rfl, ?_⟩) ?_ ?_
               rotate_left
               ·intro w'
                go_simp
                with_reducible rfl
               rotate_left
               ·simp only [Act.put, List.setIfInBounds_toArray, List.set_cons_zero, List.set_cons_succ, i64_w, i32_w]
                rfl
               refine pure_ (i := 6) (N := some 55) (v := ?_) (a' := ?_) #[true, true, true, true, false, true, true, false, false, false, false, false, false, false, false, false, false, false, false, false, false] rfl rfl (any_of HT_.out (by kernel_rfl)) (fun _ _ _ h => h) (Or.inl ⟨by rfl, ?_⟩) ?_ ?_
               rotate_left
               ·intro w'
                go_simp
                with_reducible rfl
               rotate_left
               ·simp only [Act.put, List.setIfInBounds_toArray, List.set_cons_zero, List.set_cons_succ, i64_w, i32_w]
                rfl
               refine pure_ (i := 7) (N := some 56) (v := ?_) (a' := ?_) #[true, true, true, true, false, true, true, true, false, false, false, false, false, false, false, false, false, false, false, false, false] rfl rfl (any_of HT_.out (by kernel_rfl)) (fun _ _ _ h => h) (Or.inl ⟨by rfl, ?_⟩) ?_ ?_
               rotate_left
               ·intro w'
                go_simp
                with_reducible rfl
               rotate_left
               ·simp only [Act.put, List.setIfInBounds_toArray, List.set_cons_zero, List.set_cons_succ, i64_w, i32_w]
                rfl
               refine pure_ (i := 10) (N := some 59) (v := ?_) (a' := ?_) #[true, true, true, true, false, true, true, true, false, false, true, false, false, false, false, false, false, false, false, false, false] rfl rfl (any_of HT_.out (by kernel_rfl)) (fun _ _ _ h => h) (Or.inl ⟨by rfl, ?_⟩) ?_ ?_
               rotate_left
               ·intro w'
                go_simp
                with_reducible rfl
               rotate_left
               ·simp only [Act.put, List.setIfInBounds_toArray, List.set_cons_zero, List.set_cons_succ, i64_w, i32_w]
                rfl
               refine pure_ (i := 12) (N := some 61) (v := ?_) (a' := ?_) #[true, true, true, true, false, true, true, true, false, false, true, false, true, false, false, false, false, false, false, false, false] rfl rfl (any_of HT_.out (by kernel_rfl)) (fun _ _ _ h => h) (Or.inl ⟨by rfl, ?_⟩) ?_ ?_
               rotate_left
               ·intro w'
                go_simp
                with_reducible rfl
               rotate_left
               ·simp only [Act.put, List.setIfInBounds_toArray, List.set_cons_zero, List.set_cons_succ, i64_w, i32_w]
                rfl
               refine pure_ (i := 15) (N := some 64) (v := ?_) (a' := ?_) #[true, true, true, true, false, true, true, true, false, false, true, false, true, false, false, true, false, false, false, false, false] rfl rfl (any_of HT_.out (by kernel_rfl)) (fun _ _ _ h => h) (Or.inl ⟨by rfl, ?_⟩) ?_ ?_
               rotate_left
               ·intro w'
                go_simp
                with_reducible rfl
               rotate_left
               ·simp only [Act.put, List.setIfInBounds_toArray, List.set_cons_zero, List.set_cons_succ, i64_w, i32_w]
                rfl
               refine take_ (i := 4) (N := some 53) (v := ?_) (a' := ?_) #[true, true, true, true, true, true, true, true, false, false, true, false, true, false, false, true, false, false, false, false, false] rfl rfl (take_ofW HT_.out HW_.out (by kernel_rfl)) (fun _ _ _ h => h) (Or.inl ⟨by rfl, ?_⟩) hHeld ?_ ?_
               rotate_left
               ·rintro w' ⟨s0, s1, s2, s3, s4, s5⟩
                go_simp
                with_reducible rfl
               rotate_left
               ·simp only [Act.put, List.setIfInBounds_toArray, List.set_cons_zero, List.set_cons_succ, i64_w, i32_w]
                rfl
               refine take_ (i := 8) (N := some 57) (v := ?_) (a' := ?_) #[true, true, true, true, true, true, true, true, true, false, true, false, true, false, false, true, false, false, false, false, false] rfl rfl (take_ofW HT_.out HW_.out (by kernel_rfl)) (fun _ _ _ h => h) (Or.inl ⟨by rfl, ?_⟩) hHeld ?_ ?_
               rotate_left
               ·rintro w' ⟨s0, s1, s2, s3, s4, s5⟩
                go_simp
                with_reducible rfl
               rotate_left
               ·simp only [Act.put, List.setIfInBounds_toArray, List.set_cons_zero, List.set_cons_succ, i64_w, i32_w]
                rfl
               refine pure_ (i := 9) (N := some 58) (v := ?_) (a' := ?_) #[true, true, true, true, true, true, true, true, true, true, true, false, true, false, false, true, false, false, false, false, false] rfl rfl (any_of HT_.out (by kernel_rfl)) (fun _ _ _ h => h) (Or.inl ⟨by rfl, ?_⟩) ?_ ?_
               rotate_left
               ·intro w'
                go_simp
                with_reducible rfl
               rotate_left
               ·simp only [Act.put, List.setIfInBounds_toArray, List.set_cons_zero, List.set_cons_succ, i64_w, i32_w]
                rfl
               refine take_ (i := 11) (N := some 60) (v := ?_) (a' := ?_) #[true, true, true, true, true, true, true, true, true, true, true, true, true, false, false, true, false, false, false, false, false] rfl rfl (take_ofW HT_.out HW_.out (by kernel_rfl)) (fun _ _ _ h => h) (Or.inl ⟨by rfl, ?_⟩) hHeld ?_ ?_
               rotate_left
               ·rintro w' ⟨s0, s1, s2, s3, s4, s5⟩
                go_simp
                with_reducible rfl
               rotate_left
               ·simp only [Act.put, List.setIfInBounds_toArray, List.set_cons_zero, List.set_cons_succ, i64_w, i32_w]
                rfl
               refine pure_ (i := 13) (N := some 62) (v := ?_) (a' := ?_) #[true, true, true, true, true, true, true, true, true, true, true, true, true, true, false, true, false, false, false, false, false] rfl rfl (any_of HT_.out (by kernel_rfl)) (fun _ _ _ h => h) (Or.inl ⟨by rfl, ?_⟩) ?_ ?_
               rotate_left
               ·intro w'
                go_simp
                with_reducible rfl
               rotate_left
               ·simp only [Act.put, List.setIfInBounds_toArray, List.set_cons_zero, List.set_cons_succ, i64_w, i32_w]
                rfl
               refine take_ (i := 14) (N := some 63) (v := ?_) (a' := ?_) #[true, true, true, true, true, true, true, true, true, true, true, true, true, true, true, true, false, false, false, false, false] rfl rfl (take_ofW HT_.out HW_.out (by kernel_rfl)) (fun _ _ _ h => h) (Or.inl ⟨by rfl, ?_⟩) hHeld ?_ ?_
               rotate_left
               ·rintro w' ⟨s0, s1, s2, s3, s4, s5⟩
                go_simp
                with_reducible rfl
               rotate_left
               ·simp only [Act.put, List.setIfInBounds_toArray, List.set_cons_zero, List.set_cons_succ, i64_w, i32_w]
                rfl
               refine pure_ (i := 16) (N := some 65) (v := ?_) (a' := ?_) #[true, true, true, true, true, true, true, true, true, true, true, true, true, true, true, true, true, false, false, false, false] rfl rfl (any_of HT_.out (by kernel_rfl)) (fun _ _ _ h => h) (Or.inl ⟨by rfl, ?_⟩) ?_ ?_
               rotate_left
               ·intro w'
                go_simp
                with_reducible rfl
               rotate_left
               ·simp only [Act.put, List.setIfInBounds_toArray, List.set_cons_zero, List.set_cons_succ, i64_w, i32_w]
                rfl
               refine take_ (i := 17) (N := some 66) (v := ?_) (a' := ?_) #[true, true, true, true, true, true, true, true, true, true, true, true, true, true, true, true, true, true, false, false, false] rfl rfl (take_ofW HT_.out HW_.out (by kernel_rfl)) (fun _ _ _ h => h) (Or.inl ⟨by rfl, ?_⟩) hHeld ?_ ?_
               rotate_left
               ·rintro w' ⟨s0, s1, s2, s3, s4, s5⟩
                go_simp
                with_reducible rfl
               rotate_left
               ·simp only [Act.put, List.setIfInBounds_toArray, List.set_cons_zero, List.set_cons_succ, i64_w, i32_w]
                rfl
               refine pure_ (i := 18) (N := some 67) (v := ?_) (a' := ?_) #[true, true, true, true, true, true, true, true, true, true, true, true, true, true, true, true, true, true, true, false, false] rfl rfl (any_of HT_.out (by kernel_rfl)) (fun _ _ _ h => h) (Or.inl ⟨by rfl, ?_⟩) ?_ ?_
               rotate_left
               ·intro w'
                go_simp
                with_reducible rfl
               rotate_left
               ·simp only [Act.put, List.setIfInBounds_toArray, List.set_cons_zero, List.set_cons_succ, i64_w, i32_w]
                rfl
               refine pure_ (i := 19) (N := some 68) (v := ?_) (a' := ?_) #[true, true, true, true, true, true, true, true, true, true, true, true, true, true, true, true, true, true, true, true, false] rfl rfl (any_of HT_.out (by kernel_rfl)) (fun _ _ _ h => h) (Or.inl ⟨by rfl, ?_⟩) ?_ ?_
               rotate_left
               ·intro w'
                go_simp
                with_reducible rfl
               rotate_left
               ·simp only [Act.put, List.setIfInBounds_toArray, List.set_cons_zero, List.set_cons_succ, i64_w, i32_w]
                rfl
               refine pure_ (i := 20) (N := some 14) (v := ?_) (a' := ?_) #[true, true, true, true, true, true, true, true, true, true, true, true, true, true, true, true, true, true, true, true, true] rfl rfl (any_of HT_.out (by kernel_rfl)) (fun _ _ _ h => h) (Or.inl ⟨by rfl, ?_⟩) ?_ ?_
               rotate_left
               ·intro w'
                go_simp
                with_reducible rfl
               rotate_left
               ·simp only [Act.put, List.setIfInBounds_toArray, List.set_cons_zero, List.set_cons_succ, i64_w, i32_w]
                rfl
               refine done_ (done_of HT_.out (by kernel_rfl)) ?_
               try go_wp2
               have n0_ := Aside0.mk (Kd.R_drew HO_9.out)
               have n1_ := Aside0.mk (Kd.R_drew HO_10.out)
               have n2_ := Aside0.mk (blk_drew BK695.out)
               have n3_ := Aside0.mk (blk_drew BK696.out)
               have n4_ := Aside0.mk (blk_drew BK697.out)
               have n5_ := Aside0.mk (below_drew1 HB.out)
               clear HO_9
               clear HO_10
               clear BK695
               clear BK696
               clear BK697
               clear HB
               have HO_9 := n0_
               have HO_10 := n1_
               have BK695 := n2_
               have BK696 := n3_
               have BK697 := n4_
               have HB := n5_
               clear n0_ n1_ n2_ n3_ n4_ n5_
               have p711 : 0 ≤ (x16_1 : Int) := of_decide_eq_true (by first | (with_reducible assumption) | assumption)
               have q711 : x16_1 < (t698.length : Int) := of_decide_eq_true (by first | (with_reducible assumption) | assumption)
               obtain ⟨ad711, e711, hx711_0⟩ := Kd.at_int (Kd.R_reads' HO_9.out).2.2 x16_1 p711 q711
               obtain rfl : ad707 = ad711 := (by injection e711)
               replace p711 := eq_true p711
               replace q711 := eq_true q711
               have p712 : 0 ≤ (x17_2 : Int) := of_decide_eq_true (by first | (with_reducible assumption) | assumption)
               have q712 : x17_2 < (t701.length : Int) := of_decide_eq_true (by first | (with_reducible assumption) | assumption)
               obtain ⟨ad712, e712, hx712_0⟩ := Kd.at_int (Kd.R_reads' HO_10.out).2.2 x17_2 p712 q712
               obtain rfl : ad708 = ad712 := (by injection e712)
               replace p712 := eq_true p712
               replace q712 := eq_true q712
               have p713 : 0 ≤ (x16_1 : Int) := of_decide_eq_true (by first | (with_reducible assumption) | assumption)
               have q713 : x16_1 < (l0_1.length : Int) := of_decide_eq_true (by first | (with_reducible assumption) | assumption)
               obtain ⟨ad713, A713_0, c713_0, e713, hx713_0, hl713_0, hi713_0⟩ := at_L1 HR0_1.out x16_1 p713 q713
               have hw713_0 := hx713_0
               cases e713
               replace hx713_0 := (HB.out.cell (World.block_lt_of_cell? w _ hx713_0)).trans hx713_0
               have HR713_0 := Aside0.mk hi713_0
               have HC713_0 := Aside0.mk hl713_0
               clear hi713_0 hl713_0
               replace p713 := eq_true p713
               replace q713 := eq_true q713
               have p714 : 0 ≤ (x17_2 : Int) := of_decide_eq_true (by first | (with_reducible assumption) | assumption)
               have q714 : x17_2 < ((rd_L1 l0_1 x16_1).length : Int) := of_decide_eq_true (by first | (with_reducible assumption) | assumption)
               obtain ⟨ad714, e714, hx714_0⟩ := Kd.at_int HR713_0.out x17_2 p714 q714
               have hw714_0 := hx714_0
               cases e714
               replace hx714_0 := (HB.out.cell (World.block_lt_of_cell? w _ hx714_0)).trans hx714_0
               replace p714 := eq_true p714
               replace q714 := eq_true q714
               refine start_ (n := 21) (S := fun w' => w'.cell? ⟨gb695, 0, none⟩ = some (.slice (some ad709) l0_0.length c0_0) ∧ w'.cell? ⟨gb695, 1, none⟩ = some (.slice (some ad713) l0_1.length c0_1) ∧ w'.cell? (ad707.add (x16_1).toNat) = some (.int .i64 (rd t698 x16_1)) ∧ w'.cell? (ad708.add (x17_2).toNat) = some (.int .i64 (rd t701 x17_2)) ∧ w'.cell? (ad713.add (x16_1).toNat) = some (.slice (some ad714) (rd_L1 l0_1 x16_1).length c713_0) ∧ w'.cell? (ad714.add (x17_2).toNat) = some (.int .i64 (rd (rd_L1 l0_1 x16_1) x17_2))) (ds := []) #[false, false, false, false, false, false, false, false, false, false, false, false, false, false, false, false, false, false, false, false, false] (by kernel_rfl) rfl rfl ⟨(blk_cell BK695.out 0).trans rfl, (blk_cell BK695.out 1).trans rfl, hx711_0, hx712_0, ((HB.out.cell (World.block_lt_of_cell? w _ hw713_0)).trans hw713_0), ((HB.out.cell (World.block_lt_of_cell? w _ hw714_0)).trans hw714_0)⟩ (fun hHeld => ?_); refine with_tabW spec_PayoffsAt.tab12 spec_PayoffsAt.bits12 (fun HT_ HW_ => ?_)
               generalize w24.drew = w25 at HO_9 HO_10 BK695 BK696 BK697 HB HR713_0 hx711_0 hx712_0 hx713_0 hx714_0 hHeld ⊢
               refine pure_ (i := 0) (N := some 69) (v := ?_) (a' := ?_) #[true, false, false, false, false, false, false, false, false, false, false, false, false, false, false, false, false, false, false, false, false] rfl rfl (any_of HT_.out (by kernel_rfl)) (fun _ _ _ h => h) (Or.inl ⟨by rfl, ?_⟩) ?_ ?_
               rotate_left
               ·intro w'
                go_simp
                with_reducible rfl
               rotate_left
               ·simp only [Act.put, List.setIfInBounds_toArray, List.set_cons_zero, List.set_cons_succ, i64_w, i32_w]
                rfl
               refine pure_ (i := 1) (N := some 70) (v := ?_) (a' := ?_) #[true, true, false, false, false, false, false, false, false, false, false, false, false, false, false, false, false, false, false, false, false] rfl rfl (any_of HT_.out (by kernel_rfl)) (fun _ _ _ h => h) (Or.inl ⟨by rfl, ?_⟩) ?_ ?_
               rotate_left
               ·intro w'
                go_simp
                with_reducible rfl
               rotate_left
               ·simp only [Act.put, List.setIfInBounds_toArray, List.set_cons_zero, List.set_cons_succ, i64_w, i32_w]
                rfl
               refine pure_ (i := 2) (N := some 71) (v := ?_) (a' := ?_) #[true, true, true, false, false, false, false, false, false, false, false, false, false, false, false, false, false, false, false, false, false] rfl rfl (any_of HT_.out (by kernel_rfl)) (fun _ _ _ h => h) (Or.inl ⟨by rfl, ?_⟩) ?_ ?_
               rotate_left
               ·intro w'
                go_simp
                with_reducible rfl
               rotate_left
               ·simp only [Act.put, List.setIfInBounds_toArray, List.set_cons_zero, List.set_cons_succ, i64_w, i32_w]
                rfl
               refine pure_ (i := 3) (N := some 72) (v := ?_) (a' := ?_) #[true, true, true, true, false, false, false, false, false, false, false, false, false, false, false, false, false, false, false, false, false] rfl rfl (any_of HT_.out (by kernel_rfl)) (fun _ _ _ h => h) (Or.inl ⟨by rfl, ?_⟩) ?_ ?_
               rotate_left
               ·intro w'
                go_simp
                with_reducible rfl
               rotate_left
               ·simp only [Act.put, List.setIfInBounds_toArray, List.set_cons_zero, List.set_cons_succ, i64_w, i32_w]
                rfl
               refine pure_ (i := 5) (N := some 74) (v := ?_) (a' := ?_) #[true, true, true, true, false, true, false, false, false, false, false, false, false, false, false, false, false, false, false, false, false] rfl rfl (any_of HT_.out (by kernel_rfl)) (fun _ _ _ h => h) (Or.inl ⟨by rfl, ?_⟩) ?_ ?_
               rotate_left
               ·intro w'
                go_simp
                with_reducible rfl
               rotate_left
               ·simp only [Act.put, List.setIfInBounds_toArray, List.set_cons_zero, List.set_cons_succ, i64_w, i32_w]
                rfl
               refine pure_ (i := 6) (N := some 75) (v := ?_) (a' := ?_) #[true, true, true, true, false, true, true, false, false, false, false, false, false, false, false, false, false, false, false, false, false] rfl rfl (any_of HT_.out (by kernel_rfl)) (fun _ _ _ h => h) (Or.inl ⟨by rfl, ?_⟩) ?_ ?_
               rotate_left
               ·intro w'
                go_simp
                with_reducible rfl
               rotate_left
               ·simp only [Act.put, List.setIfInBounds_toArray, List.set_cons_zero, List.set_cons_succ, i64_w, i32_w]
                rfl
               refine pure_ (i := 7) (N := some 76) (v := ?_) (a' := ?_) #[true, true, true, true, false, true, true, true, false, false, false, false, false, false, false, false, false, false, false, false, false] rfl rfl (any_of HT_.out (by kernel_rfl)) (fun _ _ _ h => h) (Or.inl ⟨by rfl, ?_⟩) ?_ ?_
               rotate_left
               ·intro w'
                go_simp
                with_reducible rfl
               rotate_left
               ·simp only [Act.put, List.setIfInBounds_toArray, List.set_cons_zero, List.set_cons_succ, i64_w, i32_w]
                rfl
               refine pure_ (i := 10) (N := some 79) (v := ?_) (a' := ?_) #[true, true, true, true, false, true, true, true, false, false, true, false, false, false, false, false, false, false, false, false, false] rfl rfl (any_of HT_.out (by kernel_rfl)) (fun _ _ _ h => h) (Or.inl ⟨by rfl, ?_⟩) ?_ ?_
               rotate_left
               ·intro w'
                go_simp
                with_reducible rfl
               rotate_left
               ·simp only [Act.put, List.setIfInBounds_toArray, List.set_cons_zero, List.set_cons_succ, i64_w, i32_w]
                rfl
               refine pure_ (i := 12) (N := some 81) (v := ?_) (a' := ?_) #[true, true, true, true, false, true, true, true, false, false, true, false, true, false, false, false, false, false, false, false, false] rfl rfl (any_of HT_.out (by kernel_rfl)) (fun _ _ _ h => h) (Or.inl ⟨by rfl, ?_⟩) ?_ ?_
               rotate_left
               ·intro w'
                go_simp
                with_reducible rfl
               rotate_left
               ·simp only [Act.put, List.setIfInBounds_toArray, List.set_cons_zero, List.set_cons_succ, i64_w, i32_w]
                rfl
               refine pure_ (i := 15) (N := some 84) (v := ?_) (a' := ?_) #[true, true, true, true, false, true, true, true, false, false, true, false, true, false, false, true, false, false, false, false, false] rfl rfl (any_of HT_.out (by kernel_rfl)) (fun _ _ _ h => h) (Or.inl ⟨by rfl, ?_⟩) ?_ ?_
               rotate_left
               ·intro w'
                go_simp
                with_reducible rfl
               rotate_left
               ·simp only [Act.put, List.setIfInBounds_toArray, List.set_cons_zero, List.set_cons_succ, i64_w, i32_w]
                rfl
               refine take_ (i := 4) (N := some 73) (v := ?_) (a' := ?_) #[true, true, true, true, true, true, true, true, false, false, true, false, true, false, false, true, false, false, false, false, false] rfl rfl (take_ofW HT_.out HW_.out (by kernel_rfl)) (fun _ _ _ h => h) (Or.inl ⟨by rfl, ?_⟩) hHeld ?_ ?_
               rotate_left
               ·rintro w' ⟨s0, s1, s2, s3, s4, s5⟩
                go_simp
                with_reducible rfl
               rotate_left
               ·simp only [Act.put, List.setIfInBounds_toArray, List.set_cons_zero, List.set_cons_succ, i64_w, i32_w]
                rfl
               refine take_ (i := 8) (N := some 77) (v := ?_) (a' := ?_) #[true, true, true, true, true, true, true, true, true, false, true, false, true, false, false, true, false, false, false, false, false] rfl rfl (take_ofW HT_.out HW_.out (by kernel_rfl)) (fun _ _ _ h => h) (Or.inl ⟨by rfl, ?_⟩) hHeld ?_ ?_
               rotate_left
               ·rintro w' ⟨s0, s1, s2, s3, s4, s5⟩
                go_simp
                with_reducible rfl
               rotate_left
               ·simp only [Act.put, List.setIfInBounds_toArray, List.set_cons_zero, List.set_cons_succ, i64_w, i32_w]
                rfl
               refine pure_ (i := 9) (N := some 78) (v := ?_) (a' := ?_) #[true, true, true, true, true, true, true, true, true, true, true, false, true, false, false, true, false, false, false, false, false] rfl rfl (any_of HT_.out (by kernel_rfl)) (fun _ _ _ h => h) (Or.inl ⟨by rfl, ?_⟩) ?_ ?_
               rotate_left
               ·intro w'
                go_simp
                with_reducible rfl
               rotate_left
               ·simp only [Act.put, List.setIfInBounds_toArray, List.set_cons_zero, List.set_cons_succ, i64_w, i32_w]
                rfl
               refine take_ (i := 11) (N := some 80) (v := ?_) (a' := ?_) #[true, true, true, true, true, true, true, true, true, true, true, true, true, false, false, true, false, false, false, false, false] rfl rfl (take_ofW HT_.out HW_.out (by kernel_rfl)) (fun _ _ _ h => h) (Or.inl ⟨by rfl, ?_⟩) hHeld ?_ ?_
               rotate_left
               ·rintro w' ⟨s0, s1, s2, s3, s4, s5⟩
                go_simp
                with_reducible rfl
               rotate_left
               ·simp only [Act.put, List.setIfInBounds_toArray, List.set_cons_zero, List.set_cons_succ, i64_w, i32_w]
                rfl
               refine pure_ (i := 13) (N := some 82) (v := ?_) (a' := ?_) #[true, true, true, true, true, true, true, true, true, true, true, true, true, true, false, true, false, false, false, false, false] rfl rfl (any_of HT_.out (by kernel_rfl)) (fun _ _ _ h => h) (Or.inl ⟨by rfl, ?_⟩) ?_ ?_
               rotate_left
               ·intro w'
                go_simp
                with_reducible rfl
               rotate_left
               ·simp only [Act.put, List.setIfInBounds_toArray, List.set_cons_zero, List.set_cons_succ, i64_w, i32_w]
                rfl
               refine take_ (i := 14) (N := some 83) (v := ?_) (a' := ?_) #[true, true, true, true, true, true, true, true, true, true, true, true, true, true, true, true, false, false, false, false, false] rfl rfl (take_ofW HT_.out HW_.out (by kernel_rfl)) (fun _ _ _ h => h) (Or.inl ⟨by rfl, ?_⟩) hHeld ?_ ?_
               rotate_left
               ·rintro w' ⟨s0, s1, s2, s3, s4, s5⟩
                go_simp
                with_reducible rfl
               rotate_left
               ·simp only [Act.put, List.setIfInBounds_toArray, List.set_cons_zero, List.set_cons_succ, i64_w, i32_w]
                rfl
               refine pure_ (i := 16) (N := some 85) (v := ?_) (a' := ?_) #[true, true, true, true, true, true, true, true, true, true, true, true, true, true, true, true, true, false, false, false, false] rfl rfl (any_of HT_.out (by kernel_rfl)) (fun _ _ _ h => h) (Or.inl ⟨by rfl, ?_⟩) ?_ ?_
               rotate_left
               ·intro w'
                go_simp
                with_reducible rfl
               rotate_left
               ·simp only [Act.put, List.setIfInBounds_toArray, List.set_cons_zero, List.set_cons_succ, i64_w, i32_w]
                rfl
               refine take_ (i := 17) (N := some 86) (v := ?_) (a' := ?_) #[true, true, true, true, true, true, true, true, true, true, true, true, true, true, true, true, true, true, false, false, false] rfl rfl (take_ofW HT_.out HW_.out (by kernel_rfl)) (fun _ _ _ h => h) (Or.inl ⟨by rfl, ?_⟩) hHeld ?_ ?_
               rotate_left
               ·rintro w' ⟨s0, s1, s2, s3, s4, s5⟩
                go_simp
                with_reducible rfl
               rotate_left
               ·simp only [Act.put, List.setIfInBounds_toArray, List.set_cons_zero, List.set_cons_succ, i64_w, i32_w]
                rfl
               refine pure_ (i := 18) (N := some 87) (v := ?_) (a' := ?_) #[true, true, true, true, true, true, true, true, true, true, true, true, true, true, true, true, true, true, true, false, false] rfl rfl (any_of HT_.out (by kernel_rfl)) (fun _ _ _ h => h) (Or.inl ⟨by rfl, ?_⟩) ?_ ?_
               rotate_left
               ·intro w'
                go_simp
                with_reducible rfl
               rotate_left
               ·simp only [Act.put, List.setIfInBounds_toArray, List.set_cons_zero, List.set_cons_succ, i64_w, i32_w]
                rfl
               refine pure_ (i := 19) (N := some 88) (v := ?_) (a' := ?_) #[true, true, true, true, true, true, true, true, true, true, true, true, true, true, true, true, true, true, true, true, false] rfl rfl (any_of HT_.out (by kernel_rfl)) (fun _ _ _ h => h) (Or.inl ⟨by rfl, ?_⟩) ?_ ?_
               rotate_left
               ·intro w'
                go_simp
                with_reducible rfl
               rotate_left
               ·simp only [Act.put, List.setIfInBounds_toArray, List.set_cons_zero, List.set_cons_succ, i64_w, i32_w]
                rfl
               refine pure_ (i := 20) (N := some 15) (v := ?_) (a' := ?_) #[true, true, true, true, true, true, true, true, true, true, true, true, true, true, true, true, true, true, true, true, true] rfl rfl (any_of HT_.out (by kernel_rfl)) (fun _ _ _ h => h) (Or.inl ⟨by rfl, ?_⟩) ?_ ?_
               rotate_left
               ·intro w'
                go_simp
                with_reducible rfl
               rotate_left
               ·simp only [Act.put, List.setIfInBounds_toArray, List.set_cons_zero, List.set_cons_succ, i64_w, i32_w]
                rfl
               refine done_ (done_of HT_.out (by kernel_rfl)) ?_
               try go_wp2
               go_roundg k2
               case measure => have := HK1.out; have := HK2.out; omega
               case rel => exact ⟨(wrap64 (x14_2 + (wrap64 ((wrap64 ((rd t698 x16_1) * (rd t701 x17_2))) * (rd (rd_L1 l0_0 x16_1) x17_2))))), (wrap64 (x15_2 + (wrap64 ((wrap64 ((rd t698 x16_1) * (rd t701 x17_2))) * (rd (rd_L1 l0_1 x16_1) x17_2))))), (wrap64 (x17_2 + 1)), (by first | rfl | (simp; done) | (simp [*]; done)), (by first | rfl | (simp; done) | (simp [*]; done)), (by first | rfl | (simp; done) | (simp [*]; done)), H', ⟨by have := HK1.out; have := HK2.out; omega⟩, ⟨by (with_reducible repeat (first | apply Kd.R_alloc | apply Kd.R_drewN | apply Kd.R_drew)); exact HO_9.out⟩, ⟨by (with_reducible repeat (first | apply Kd.R_alloc | apply Kd.R_drewN | apply Kd.R_drew)); exact HO_10.out⟩, ⟨by (with_reducible repeat (first | refine blk_drewN ?_ _ | refine blk_drew ?_ | refine blk_alloc ?_ _)); exact BK695.out⟩, ⟨by (with_reducible repeat (first | refine blk_drewN ?_ _ | refine blk_drew ?_ | refine blk_alloc ?_ _)); exact BK696.out⟩, ⟨by (with_reducible repeat (first | refine blk_drewN ?_ _ | refine blk_drew ?_ | refine blk_alloc ?_ _)); exact BK697.out⟩, ⟨by repeat (first | (with_reducible first | exact HB.out | apply below_alloc | apply pw_below_drewN | apply below_drew1 | refine below_set ?_ GE695.out | refine below_set ?_ GE696.out | refine below_set ?_ GE697.out) | exact HB.out)⟩⟩
              ·rw [if_neg c22] at H
               exact absurd H (by simp)
             ·rw [if_neg c21] at H
              exact absurd H (by simp)
            ·rw [if_neg c20] at H
             exact absurd H (by simp)
           ·rw [if_neg c19] at H
            exact absurd H (by simp)
          ·rw [if_neg c18] at H
           exact absurd H (by simp)
         ·rw [if_neg c17] at H
          exact absurd H (by simp)
        ·rw [if_neg c16] at H
         exact absurd H (by simp)
       ·rw [if_neg c15] at H
        have c15b0 : decide (x17_2 < (t701.length : Int)) = false := decide_eq_false c15
        clear c15
        have H' := Aside0.mk H
        clear H
        obtain ⟨Ao26, co26, eo26⟩ := Kd.R_slice HO_10.out
        subst eo26
        go_wp2
        go_roundg k2
        case measure => have := HK1.out; have := HK2.out; omega
        case rel => exact ⟨(x14_2), (x15_2), (wrap64 (x16_1 + 1)), (by first | rfl | (simp; done) | (simp [*]; done)), (by first | rfl | (simp; done) | (simp [*]; done)), (by first | rfl | (simp; done) | (simp [*]; done)), H', ⟨by have := HK1.out; have := HK2.out; omega⟩, ⟨by (with_reducible repeat (first | apply Kd.R_alloc | apply Kd.R_drewN | apply Kd.R_drew)); exact HO_9.out⟩, ⟨by (with_reducible repeat (first | apply Kd.R_alloc | apply Kd.R_drewN | apply Kd.R_drew)); exact HO_10.out⟩, ⟨by (with_reducible repeat (first | refine blk_drewN ?_ _ | refine blk_drew ?_ | refine blk_alloc ?_ _)); exact BK695.out⟩, ⟨by (with_reducible repeat (first | refine blk_drewN ?_ _ | refine blk_drew ?_ | refine blk_alloc ?_ _)); exact BK696.out⟩, ⟨by (with_reducible repeat (first | refine blk_drewN ?_ _ | refine blk_drew ?_ | refine blk_alloc ?_ _)); exact BK697.out⟩, ⟨by repeat (first | (with_reducible first | exact HB.out | apply below_alloc | apply pw_below_drewN | apply below_drew1 | refine below_set ?_ GE695.out | refine below_set ?_ GE696.out | refine below_set ?_ GE697.out) | exact HB.out)⟩⟩
    ·rw [if_neg c13] at H
     have c13b0 : decide (x16_1 < (t698.length : Int)) = false := decide_eq_false c13
     clear c13
     replace H := Option.bind_eq_some_iff.mp H
     obtain ⟨⟨t715, t716⟩, A270, H⟩ := H
     replace H : ((spec_l01Told.f k1 t715 t716).bind fun bt717 => ((spec_l01Frac.f k1 x15_1 (wrap64 (t704 * t705))).bind fun bt721 => ((spec_l01Told.f k1 bt721.1 bt721.2).bind fun bt723 => (if bt717.2.2 = 0 then (if bt723.2.2 = 0 then (some (bt717.1, bt717.2.1, bt723.1, bt723.2.1, 0)) else (some (0, 0, 0, 0, 3))) else (some (0, 0, 0, 0, 3)))))) = some (r1, r2, r3, r4, r5) := H
     have A27 := Aside0.mk A270
     clear A270
     replace H := Option.bind_eq_some_iff.mp H
     obtain ⟨⟨t717, t718, t719⟩, A280, H⟩ := H
     replace H : ((spec_l01Frac.f k1 x15_1 (wrap64 (t704 * t705))).bind fun bt721 => ((spec_l01Told.f k1 bt721.1 bt721.2).bind fun bt723 => (if t719 = 0 then (if bt723.2.2 = 0 then (some (t717, t718, bt723.1, bt723.2.1, 0)) else (some (0, 0, 0, 0, 3))) else (some (0, 0, 0, 0, 3))))) = some (r1, r2, r3, r4, r5) := H
     have A28 := Aside0.mk A280
     clear A280
     replace H := Option.bind_eq_some_iff.mp H
     obtain ⟨⟨t721, t722⟩, A290, H⟩ := H
     replace H : ((spec_l01Told.f k1 t721 t722).bind fun bt723 => (if t719 = 0 then (if bt723.2.2 = 0 then (some (t717, t718, bt723.1, bt723.2.1, 0)) else (some (0, 0, 0, 0, 3))) else (some (0, 0, 0, 0, 3)))) = some (r1, r2, r3, r4, r5) := H
     have A29 := Aside0.mk A290
     clear A290
     replace H := Option.bind_eq_some_iff.mp H
     obtain ⟨⟨t723, t724, t725⟩, A300, H⟩ := H
     replace H : (if t719 = 0 then (if t725 = 0 then (some (t717, t718, t723, t724, 0)) else (some (0, 0, 0, 0, 3))) else (some (0, 0, 0, 0, 3))) = some (r1, r2, r3, r4, r5) := H
     have A30 := Aside0.mk A300
     clear A300
     by_cases c31 : t719 = 0
     ·rw [if_pos c31] at H
      have c31b0 : (t719 == 0) = true := beq_iff_eq.mpr c31
      have c31b1 : (t719 != 0) = false := bne_eq_false_iff_eq.mpr c31
      clear c31
      by_cases c32 : t725 = 0
      ·rw [if_pos c32] at H
       have c32b0 : (t725 == 0) = true := beq_iff_eq.mpr c32
       have c32b1 : (t725 != 0) = false := bne_eq_false_iff_eq.mpr c32
       clear c32
       simp only [Option.some.injEq, Prod.mk.injEq] at H
       obtain ⟨rfl, rfl, rfl, rfl, rfl⟩ := H
       obtain ⟨Ao33, co33, eo33⟩ := Kd.R_slice HO_9.out
       subst eo33
       try go_wp2_with (first | ((with_reducible refine gate_callee (f := 97) rfl ?_); refine goesL_ (some 94) rfl rfl Try.func97 (by kernel_rfl) rfl #[.int .i64 x14_1, .int .i64 (wrap64 (t704 * t705))] rfl (by (try simp only [List.map_toArray, List.map_cons, List.map_nil]); first | done | rfl | (simp only [List.length_drop, List.length_take]; rfl)) ?_; (with_reducible refine (spec_l01Frac.calls k1 x14_1 (wrap64 (t704 * t705)) t715 t716 _ A27.out).mono ?_); rintro e w34 ⟨rfl, hb⟩; refine ⟨_, rfl, ?_⟩; have n0_ := Aside0.mk (Kd.R_below (by (with_reducible repeat (first | apply Kd.R_alloc | apply Kd.R_drewN | apply Kd.R_drew)); exact HO_9.out) hb); have n1_ := Aside0.mk (Kd.R_below (by (with_reducible repeat (first | apply Kd.R_alloc | apply Kd.R_drewN | apply Kd.R_drew)); exact HO_10.out) hb); have n2_ := Aside0.mk (blk_below (g := gb695) (o := .cells #[.slice A0_0 l0_0.length c0_0, .slice A0_1 l0_1.length c0_1] 26 (0, 0)) (by (with_reducible repeat (first | refine blk_drewN ?_ _ | refine blk_drew ?_ | refine blk_alloc ?_ _)); exact BK695.out) hb); have n3_ := Aside0.mk (blk_below (g := gb696) (o := .cells #[.int .i64 0, .int .i64 0] 65 (0, 0)) (by (with_reducible repeat (first | refine blk_drewN ?_ _ | refine blk_drew ?_ | refine blk_alloc ?_ _)); exact BK696.out) hb); have n4_ := Aside0.mk (blk_below (g := gb697) (o := .cells #[.int .i64 0, .int .i64 0] 65 (0, 0)) (by (with_reducible repeat (first | refine blk_drewN ?_ _ | refine blk_drew ?_ | refine blk_alloc ?_ _)); exact BK697.out) hb); have n5_ := Aside0.mk (below_step (by repeat (first | (with_reducible first | exact HB.out | apply below_alloc | apply pw_below_drewN | apply below_drew1 | refine below_set ?_ GE695.out | refine below_set ?_ GE696.out | refine below_set ?_ GE697.out) | exact HB.out)) hb); clear HO_9; clear HO_10; clear BK695; clear BK696; clear BK697; clear HB; have HO_9 := n0_; have HO_10 := n1_; have BK695 := n2_; have BK696 := n3_; have BK697 := n4_; have HB := n5_; clear n0_ n1_ n2_ n3_ n4_ n5_; (try clear hb); (try clear hb2); (try clear hk); (try clear hi)) | ((with_reducible refine gate_callee (f := 96) rfl ?_); refine goesL_ (some 95) rfl rfl Try.func96 (by kernel_rfl) rfl #[.agg #[.int .i64 t715, .int .i64 t716]] rfl (by (try simp only [List.map_toArray, List.map_cons, List.map_nil]); first | done | rfl | (simp only [List.length_drop, List.length_take]; rfl)) ?_; (with_reducible refine (spec_l01Told.calls k1 t715 t716 t717 t718 t719 _ A28.out).mono ?_); rintro e w35 ⟨rfl, hb⟩; refine ⟨_, rfl, ?_⟩; have n0_ := Aside0.mk (Kd.R_below (by (with_reducible repeat (first | apply Kd.R_alloc | apply Kd.R_drewN | apply Kd.R_drew)); exact HO_9.out) hb); have n1_ := Aside0.mk (Kd.R_below (by (with_reducible repeat (first | apply Kd.R_alloc | apply Kd.R_drewN | apply Kd.R_drew)); exact HO_10.out) hb); have n2_ := Aside0.mk (blk_below (g := gb695) (o := .cells #[.slice A0_0 l0_0.length c0_0, .slice A0_1 l0_1.length c0_1] 26 (0, 0)) (by (with_reducible repeat (first | refine blk_drewN ?_ _ | refine blk_drew ?_ | refine blk_alloc ?_ _)); exact BK695.out) hb); have n3_ := Aside0.mk (blk_below (g := gb696) (o := .cells #[.int .i64 0, .int .i64 0] 65 (0, 0)) (by (with_reducible repeat (first | refine blk_drewN ?_ _ | refine blk_drew ?_ | refine blk_alloc ?_ _)); exact BK696.out) hb); have n4_ := Aside0.mk (blk_below (g := gb697) (o := .cells #[.int .i64 0, .int .i64 0] 65 (0, 0)) (by (with_reducible repeat (first | refine blk_drewN ?_ _ | refine blk_drew ?_ | refine blk_alloc ?_ _)); exact BK697.out) hb); have n5_ := Aside0.mk (below_step (by repeat (first | (with_reducible first | exact HB.out | apply below_alloc | apply pw_below_drewN | apply below_drew1 | refine below_set ?_ GE695.out | refine below_set ?_ GE696.out | refine below_set ?_ GE697.out) | exact HB.out)) hb); clear HO_9; clear HO_10; clear BK695; clear BK696; clear BK697; clear HB; have HO_9 := n0_; have HO_10 := n1_; have BK695 := n2_; have BK696 := n3_; have BK697 := n4_; have HB := n5_; clear n0_ n1_ n2_ n3_ n4_ n5_; (try clear hb); (try clear hb2); (try clear hk); (try clear hi)) | ((with_reducible refine gate_dst (N := 18) rfl ?_); refine box_event ?hg (N := 18) ?hd (cs := #[.int .i64 0, .int .i64 0]) (t := 65) ?hr ?_; (case hd => rfl); (case hg => rfl); (case hr => first | (go_simp; done) | (go_simp; rfl)); intro gb720 hg w36 hbox hb; have n0_ := Aside0.mk (Kd.R_below (by (with_reducible repeat (first | apply Kd.R_alloc | apply Kd.R_drewN | apply Kd.R_drew)); exact HO_9.out) hb); have n1_ := Aside0.mk (Kd.R_below (by (with_reducible repeat (first | apply Kd.R_alloc | apply Kd.R_drewN | apply Kd.R_drew)); exact HO_10.out) hb); have n2_ := Aside0.mk (blk_below (g := gb695) (o := .cells #[.slice A0_0 l0_0.length c0_0, .slice A0_1 l0_1.length c0_1] 26 (0, 0)) (by (with_reducible repeat (first | refine blk_drewN ?_ _ | refine blk_drew ?_ | refine blk_alloc ?_ _)); exact BK695.out) hb); have n3_ := Aside0.mk (blk_below (g := gb696) (o := .cells #[.int .i64 0, .int .i64 0] 65 (0, 0)) (by (with_reducible repeat (first | refine blk_drewN ?_ _ | refine blk_drew ?_ | refine blk_alloc ?_ _)); exact BK696.out) hb); have n4_ := Aside0.mk (blk_below (g := gb697) (o := .cells #[.int .i64 0, .int .i64 0] 65 (0, 0)) (by (with_reducible repeat (first | refine blk_drewN ?_ _ | refine blk_drew ?_ | refine blk_alloc ?_ _)); exact BK697.out) hb); have n5_ := Aside0.mk (below_step (by repeat (first | (with_reducible first | exact HB.out | apply below_alloc | apply pw_below_drewN | apply below_drew1 | refine below_set ?_ GE695.out | refine below_set ?_ GE696.out | refine below_set ?_ GE697.out) | exact HB.out)) hb); have n6_ := Aside0.mk (hbox); have n7_ := Aside0.mk ((by rw [hg]; exact (below_size (by repeat (first | (with_reducible first | exact HB.out | apply below_alloc | apply pw_below_drewN | apply below_drew1 | refine below_set ?_ GE695.out | refine below_set ?_ GE696.out | refine below_set ?_ GE697.out) | exact HB.out))) : w.heap.size ≤ gb720)); have n8_ := Aside0.mk ((by rw [hg]; exact (below_size (by repeat (first | (with_reducible first | exact HB.out | apply below_alloc | apply pw_below_drewN | apply below_drew1 | refine below_set ?_ GE695.out | refine below_set ?_ GE696.out | refine below_set ?_ GE697.out) | exact HB.out))) : w.heap.size ≤ gb720)); have n9_ := Aside0.mk ((by rw [hg]; exact Nat.ne_of_lt (blk_lt (g := gb695) (o := .cells #[.slice A0_0 l0_0.length c0_0, .slice A0_1 l0_1.length c0_1] 26 (0, 0)) (by (with_reducible repeat (first | refine blk_drewN ?_ _ | refine blk_drew ?_ | refine blk_alloc ?_ _)); exact BK695.out)) : gb695 ≠ gb720)); have n10_ := Aside0.mk ((by rw [hg]; exact Nat.ne_of_gt (blk_lt (g := gb695) (o := .cells #[.slice A0_0 l0_0.length c0_0, .slice A0_1 l0_1.length c0_1] 26 (0, 0)) (by (with_reducible repeat (first | refine blk_drewN ?_ _ | refine blk_drew ?_ | refine blk_alloc ?_ _)); exact BK695.out)) : gb720 ≠ gb695)); have n11_ := Aside0.mk ((by rw [hg]; exact Nat.ne_of_lt (blk_lt (g := gb696) (o := .cells #[.int .i64 0, .int .i64 0] 65 (0, 0)) (by (with_reducible repeat (first | refine blk_drewN ?_ _ | refine blk_drew ?_ | refine blk_alloc ?_ _)); exact BK696.out)) : gb696 ≠ gb720)); have n12_ := Aside0.mk ((by rw [hg]; exact Nat.ne_of_gt (blk_lt (g := gb696) (o := .cells #[.int .i64 0, .int .i64 0] 65 (0, 0)) (by (with_reducible repeat (first | refine blk_drewN ?_ _ | refine blk_drew ?_ | refine blk_alloc ?_ _)); exact BK696.out)) : gb720 ≠ gb696)); have n13_ := Aside0.mk ((by rw [hg]; exact Nat.ne_of_lt (blk_lt (g := gb697) (o := .cells #[.int .i64 0, .int .i64 0] 65 (0, 0)) (by (with_reducible repeat (first | refine blk_drewN ?_ _ | refine blk_drew ?_ | refine blk_alloc ?_ _)); exact BK697.out)) : gb697 ≠ gb720)); have n14_ := Aside0.mk ((by rw [hg]; exact Nat.ne_of_gt (blk_lt (g := gb697) (o := .cells #[.int .i64 0, .int .i64 0] 65 (0, 0)) (by (with_reducible repeat (first | refine blk_drewN ?_ _ | refine blk_drew ?_ | refine blk_alloc ?_ _)); exact BK697.out)) : gb720 ≠ gb697)); clear HO_9; clear HO_10; clear BK695; clear BK696; clear BK697; clear HB; have HO_9 := n0_; have HO_10 := n1_; have BK695 := n2_; have BK696 := n3_; have BK697 := n4_; have HB := n5_; have BK720 := n6_; have GW720 := n7_; have GE720 := n8_; have NB695_720 := n9_; have NB720_695 := n10_; have NB696_720 := n11_; have NB720_696 := n12_; have NB697_720 := n13_; have NB720_697 := n14_; clear n0_ n1_ n2_ n3_ n4_ n5_ n6_ n7_ n8_ n9_ n10_ n11_ n12_ n13_ n14_; clear hb hbox hg; have hnb37 := NB720_695.out; have hnc37 := NB695_720.out; have hnb38 := NB720_696.out; have hnc38 := NB696_720.out; have hnb39 := NB720_697.out; have hnc39 := NB697_720.out; have hcz40_0 : w36.cell? ⟨gb720, 0, none⟩ = some (.int .i64 0) := (blk_cell BK720.out 0).trans rfl; have hcz40_1 : w36.cell? ⟨gb720, 1, none⟩ = some (.int .i64 0) := (blk_cell BK720.out 1).trans rfl; have hfz40_0 := blk_frozen BK720.out 0; have hfz40_1 := blk_frozen BK720.out 1) | ((with_reducible refine gate_callee (f := 97) rfl ?_); refine goesL_ (some 103) rfl rfl Try.func97 (by kernel_rfl) rfl #[.int .i64 x15_1, .int .i64 (wrap64 (t704 * t705))] rfl (by (try simp only [List.map_toArray, List.map_cons, List.map_nil]); first | done | rfl | (simp only [List.length_drop, List.length_take]; rfl)) ?_; (with_reducible refine (spec_l01Frac.calls k1 x15_1 (wrap64 (t704 * t705)) t721 t722 _ A29.out).mono ?_); rintro e w41 ⟨rfl, hb⟩; refine ⟨_, rfl, ?_⟩; have n0_ := Aside0.mk (Kd.R_below (by (with_reducible repeat (first | apply Kd.R_alloc | apply Kd.R_drewN | apply Kd.R_drew)); exact (Kd.R_mono (Kd.R_far (p := ⟨gb720, 1, none⟩) (Kd.R_far (p := ⟨gb720, 0, none⟩) (Kd.R_types HO_9.out BK720.out (by decide)) (fun _ hk => hk.2) (.int .i64 t717)) (fun _ hk => hk.2) (.int .i64 t718)) (fun _ h_ => h_.1))) hb); have n1_ := Aside0.mk (Kd.R_below (by (with_reducible repeat (first | apply Kd.R_alloc | apply Kd.R_drewN | apply Kd.R_drew)); exact (Kd.R_mono (Kd.R_far (p := ⟨gb720, 1, none⟩) (Kd.R_far (p := ⟨gb720, 0, none⟩) (Kd.R_types HO_10.out BK720.out (by decide)) (fun _ hk => hk.2) (.int .i64 t717)) (fun _ hk => hk.2) (.int .i64 t718)) (fun _ h_ => h_.1))) hb); have n2_ := Aside0.mk (blk_below (g := gb695) (o := .cells #[.slice A0_0 l0_0.length c0_0, .slice A0_1 l0_1.length c0_1] 26 (0, 0)) (by (with_reducible repeat (first | refine blk_drewN ?_ _ | refine blk_drew ?_ | refine blk_alloc ?_ _)); refine blk_far ?_ NB695_720.out _; (with_reducible repeat (first | refine blk_drewN ?_ _ | refine blk_drew ?_ | refine blk_alloc ?_ _)); refine blk_far ?_ NB695_720.out _; (with_reducible repeat (first | refine blk_drewN ?_ _ | refine blk_drew ?_ | refine blk_alloc ?_ _)); exact BK695.out) hb); have n3_ := Aside0.mk (blk_below (g := gb696) (o := .cells #[.int .i64 0, .int .i64 0] 65 (0, 0)) (by (with_reducible repeat (first | refine blk_drewN ?_ _ | refine blk_drew ?_ | refine blk_alloc ?_ _)); refine blk_far ?_ NB696_720.out _; (with_reducible repeat (first | refine blk_drewN ?_ _ | refine blk_drew ?_ | refine blk_alloc ?_ _)); refine blk_far ?_ NB696_720.out _; (with_reducible repeat (first | refine blk_drewN ?_ _ | refine blk_drew ?_ | refine blk_alloc ?_ _)); exact BK696.out) hb); have n4_ := Aside0.mk (blk_below (g := gb697) (o := .cells #[.int .i64 0, .int .i64 0] 65 (0, 0)) (by (with_reducible repeat (first | refine blk_drewN ?_ _ | refine blk_drew ?_ | refine blk_alloc ?_ _)); refine blk_far ?_ NB697_720.out _; (with_reducible repeat (first | refine blk_drewN ?_ _ | refine blk_drew ?_ | refine blk_alloc ?_ _)); refine blk_far ?_ NB697_720.out _; (with_reducible repeat (first | refine blk_drewN ?_ _ | refine blk_drew ?_ | refine blk_alloc ?_ _)); exact BK697.out) hb); have n5_ := Aside0.mk (blk_below (g := gb720) (o := .cells #[.int .i64 t717, .int .i64 t718] 65 (0, 0)) (by (with_reducible repeat (first | refine blk_drewN ?_ _ | refine blk_drew ?_ | refine blk_alloc ?_ _)); refine blk_put (cs := #[.int .i64 t717, .int .i64 0]) ?_ 1 _ rfl; (with_reducible repeat (first | refine blk_drewN ?_ _ | refine blk_drew ?_ | refine blk_alloc ?_ _)); refine blk_put (cs := #[.int .i64 0, .int .i64 0]) ?_ 0 _ rfl; (with_reducible repeat (first | refine blk_drewN ?_ _ | refine blk_drew ?_ | refine blk_alloc ?_ _)); exact BK720.out) hb); have n6_ := Aside0.mk (below_step (by repeat (first | (with_reducible first | exact HB.out | apply below_alloc | apply pw_below_drewN | apply below_drew1 | refine below_set ?_ GE695.out | refine below_set ?_ GE696.out | refine below_set ?_ GE697.out | refine below_set ?_ GE720.out) | exact HB.out)) hb); clear HO_9; clear HO_10; clear BK695; clear BK696; clear BK697; clear BK720; clear HB; have HO_9 := n0_; have HO_10 := n1_; have BK695 := n2_; have BK696 := n3_; have BK697 := n4_; have BK720 := n5_; have HB := n6_; clear n0_ n1_ n2_ n3_ n4_ n5_ n6_; (try clear hb); (try clear hb2); (try clear hk); (try clear hi)) | ((with_reducible refine gate_callee (f := 96) rfl ?_); refine goesL_ (some 104) rfl rfl Try.func96 (by kernel_rfl) rfl #[.agg #[.int .i64 t721, .int .i64 t722]] rfl (by (try simp only [List.map_toArray, List.map_cons, List.map_nil]); first | done | rfl | (simp only [List.length_drop, List.length_take]; rfl)) ?_; (with_reducible refine (spec_l01Told.calls k1 t721 t722 t723 t724 t725 _ A30.out).mono ?_); rintro e w42 ⟨rfl, hb⟩; refine ⟨_, rfl, ?_⟩; have n0_ := Aside0.mk (Kd.R_below (by (with_reducible repeat (first | apply Kd.R_alloc | apply Kd.R_drewN | apply Kd.R_drew)); exact HO_9.out) hb); have n1_ := Aside0.mk (Kd.R_below (by (with_reducible repeat (first | apply Kd.R_alloc | apply Kd.R_drewN | apply Kd.R_drew)); exact HO_10.out) hb); have n2_ := Aside0.mk (blk_below (g := gb695) (o := .cells #[.slice A0_0 l0_0.length c0_0, .slice A0_1 l0_1.length c0_1] 26 (0, 0)) (by (with_reducible repeat (first | refine blk_drewN ?_ _ | refine blk_drew ?_ | refine blk_alloc ?_ _)); exact BK695.out) hb); have n3_ := Aside0.mk (blk_below (g := gb696) (o := .cells #[.int .i64 0, .int .i64 0] 65 (0, 0)) (by (with_reducible repeat (first | refine blk_drewN ?_ _ | refine blk_drew ?_ | refine blk_alloc ?_ _)); exact BK696.out) hb); have n4_ := Aside0.mk (blk_below (g := gb697) (o := .cells #[.int .i64 0, .int .i64 0] 65 (0, 0)) (by (with_reducible repeat (first | refine blk_drewN ?_ _ | refine blk_drew ?_ | refine blk_alloc ?_ _)); exact BK697.out) hb); have n5_ := Aside0.mk (blk_below (g := gb720) (o := .cells #[.int .i64 t717, .int .i64 t718] 65 (0, 0)) (by (with_reducible repeat (first | refine blk_drewN ?_ _ | refine blk_drew ?_ | refine blk_alloc ?_ _)); exact BK720.out) hb); have n6_ := Aside0.mk (below_step (by repeat (first | (with_reducible first | exact HB.out | apply below_alloc | apply pw_below_drewN | apply below_drew1 | refine below_set ?_ GE695.out | refine below_set ?_ GE696.out | refine below_set ?_ GE697.out | refine below_set ?_ GE720.out) | exact HB.out)) hb); clear HO_9; clear HO_10; clear BK695; clear BK696; clear BK697; clear BK720; clear HB; have HO_9 := n0_; have HO_10 := n1_; have BK695 := n2_; have BK696 := n3_; have BK697 := n4_; have BK720 := n5_; have HB := n6_; clear n0_ n1_ n2_ n3_ n4_ n5_ n6_; (try clear hb); (try clear hb2); (try clear hk); (try clear hi)) | ((with_reducible refine gate_dst (N := 20) rfl ?_); refine box_event ?hg (N := 20) ?hd (cs := #[.int .i64 0, .int .i64 0]) (t := 65) ?hr ?_; (case hd => rfl); (case hg => rfl); (case hr => first | (go_simp; done) | (go_simp; rfl)); intro gb726 hg w43 hbox hb; have n0_ := Aside0.mk (Kd.R_below (by (with_reducible repeat (first | apply Kd.R_alloc | apply Kd.R_drewN | apply Kd.R_drew)); exact HO_9.out) hb); have n1_ := Aside0.mk (Kd.R_below (by (with_reducible repeat (first | apply Kd.R_alloc | apply Kd.R_drewN | apply Kd.R_drew)); exact HO_10.out) hb); have n2_ := Aside0.mk (blk_below (g := gb695) (o := .cells #[.slice A0_0 l0_0.length c0_0, .slice A0_1 l0_1.length c0_1] 26 (0, 0)) (by (with_reducible repeat (first | refine blk_drewN ?_ _ | refine blk_drew ?_ | refine blk_alloc ?_ _)); exact BK695.out) hb); have n3_ := Aside0.mk (blk_below (g := gb696) (o := .cells #[.int .i64 0, .int .i64 0] 65 (0, 0)) (by (with_reducible repeat (first | refine blk_drewN ?_ _ | refine blk_drew ?_ | refine blk_alloc ?_ _)); exact BK696.out) hb); have n4_ := Aside0.mk (blk_below (g := gb697) (o := .cells #[.int .i64 0, .int .i64 0] 65 (0, 0)) (by (with_reducible repeat (first | refine blk_drewN ?_ _ | refine blk_drew ?_ | refine blk_alloc ?_ _)); exact BK697.out) hb); have n5_ := Aside0.mk (blk_below (g := gb720) (o := .cells #[.int .i64 t717, .int .i64 t718] 65 (0, 0)) (by (with_reducible repeat (first | refine blk_drewN ?_ _ | refine blk_drew ?_ | refine blk_alloc ?_ _)); exact BK720.out) hb); have n6_ := Aside0.mk (below_step (by repeat (first | (with_reducible first | exact HB.out | apply below_alloc | apply pw_below_drewN | apply below_drew1 | refine below_set ?_ GE695.out | refine below_set ?_ GE696.out | refine below_set ?_ GE697.out | refine below_set ?_ GE720.out) | exact HB.out)) hb); have n7_ := Aside0.mk (hbox); have n8_ := Aside0.mk ((by rw [hg]; exact (below_size (by repeat (first | (with_reducible first | exact HB.out | apply below_alloc | apply pw_below_drewN | apply below_drew1 | refine below_set ?_ GE695.out | refine below_set ?_ GE696.out | refine below_set ?_ GE697.out | refine below_set ?_ GE720.out) | exact HB.out))) : w.heap.size ≤ gb726)); have n9_ := Aside0.mk ((by rw [hg]; exact (below_size (by repeat (first | (with_reducible first | exact HB.out | apply below_alloc | apply pw_below_drewN | apply below_drew1 | refine below_set ?_ GE695.out | refine below_set ?_ GE696.out | refine below_set ?_ GE697.out | refine below_set ?_ GE720.out) | exact HB.out))) : w.heap.size ≤ gb726)); have n10_ := Aside0.mk ((by rw [hg]; exact Nat.ne_of_lt (blk_lt (g := gb695) (o := .cells #[.slice A0_0 l0_0.length c0_0, .slice A0_1 l0_1.length c0_1] 26 (0, 0)) (by (with_reducible repeat (first | refine blk_drewN ?_ _ | refine blk_drew ?_ | refine blk_alloc ?_ _)); exact BK695.out)) : gb695 ≠ gb726)); have n11_ := Aside0.mk ((by rw [hg]; exact Nat.ne_of_gt (blk_lt (g := gb695) (o := .cells #[.slice A0_0 l0_0.length c0_0, .slice A0_1 l0_1.length c0_1] 26 (0, 0)) (by (with_reducible repeat (first | refine blk_drewN ?_ _ | refine blk_drew ?_ | refine blk_alloc ?_ _)); exact BK695.out)) : gb726 ≠ gb695)); have n12_ := Aside0.mk ((by rw [hg]; exact Nat.ne_of_lt (blk_lt (g := gb696) (o := .cells #[.int .i64 0, .int .i64 0] 65 (0, 0)) (by (with_reducible repeat (first | refine blk_drewN ?_ _ | refine blk_drew ?_ | refine blk_alloc ?_ _)); exact BK696.out)) : gb696 ≠ gb726)); have n13_ := Aside0.mk ((by rw [hg]; exact Nat.ne_of_gt (blk_lt (g := gb696) (o := .cells #[.int .i64 0, .int .i64 0] 65 (0, 0)) (by (with_reducible repeat (first | refine blk_drewN ?_ _ | refine blk_drew ?_ | refine blk_alloc ?_ _)); exact BK696.out)) : gb726 ≠ gb696)); have n14_ := Aside0.mk ((by rw [hg]; exact Nat.ne_of_lt (blk_lt (g := gb697) (o := .cells #[.int .i64 0, .int .i64 0] 65 (0, 0)) (by (with_reducible repeat (first | refine blk_drewN ?_ _ | refine blk_drew ?_ | refine blk_alloc ?_ _)); exact BK697.out)) : gb697 ≠ gb726)); have n15_ := Aside0.mk ((by rw [hg]; exact Nat.ne_of_gt (blk_lt (g := gb697) (o := .cells #[.int .i64 0, .int .i64 0] 65 (0, 0)) (by (with_reducible repeat (first | refine blk_drewN ?_ _ | refine blk_drew ?_ | refine blk_alloc ?_ _)); exact BK697.out)) : gb726 ≠ gb697)); have n16_ := Aside0.mk ((by rw [hg]; exact Nat.ne_of_lt (blk_lt (g := gb720) (o := .cells #[.int .i64 t717, .int .i64 t718] 65 (0, 0)) (by (with_reducible repeat (first | refine blk_drewN ?_ _ | refine blk_drew ?_ | refine blk_alloc ?_ _)); exact BK720.out)) : gb720 ≠ gb726)); have n17_ := Aside0.mk ((by rw [hg]; exact Nat.ne_of_gt (blk_lt (g := gb720) (o := .cells #[.int .i64 t717, .int .i64 t718] 65 (0, 0)) (by (with_reducible repeat (first | refine blk_drewN ?_ _ | refine blk_drew ?_ | refine blk_alloc ?_ _)); exact BK720.out)) : gb726 ≠ gb720)); clear HO_9; clear HO_10; clear BK695; clear BK696; clear BK697; clear BK720; clear HB; have HO_9 := n0_; have HO_10 := n1_; have BK695 := n2_; have BK696 := n3_; have BK697 := n4_; have BK720 := n5_; have HB := n6_; have BK726 := n7_; have GW726 := n8_; have GE726 := n9_; have NB695_726 := n10_; have NB726_695 := n11_; have NB696_726 := n12_; have NB726_696 := n13_; have NB697_726 := n14_; have NB726_697 := n15_; have NB720_726 := n16_; have NB726_720 := n17_; clear n0_ n1_ n2_ n3_ n4_ n5_ n6_ n7_ n8_ n9_ n10_ n11_ n12_ n13_ n14_ n15_ n16_ n17_; clear hb hbox hg; have hnb44 := NB726_695.out; have hnc44 := NB695_726.out; have hnb45 := NB726_696.out; have hnc45 := NB696_726.out; have hnb46 := NB726_697.out; have hnc46 := NB697_726.out; have hnb47 := NB726_720.out; have hnc47 := NB720_726.out; have hcz48_0 : w43.cell? ⟨gb726, 0, none⟩ = some (.int .i64 0) := (blk_cell BK726.out 0).trans rfl; have hcz48_1 : w43.cell? ⟨gb726, 1, none⟩ = some (.int .i64 0) := (blk_cell BK726.out 1).trans rfl; have hfz48_0 := blk_frozen BK726.out 0; have hfz48_1 := blk_frozen BK726.out 1))
       have n0_ : Aside0 (Kd.R (Kd.int .i64) 2 ((w43.setCell ⟨gb726, 0, none⟩ (.int .i64 t723)).setCell ⟨gb726, 1, none⟩ (.int .i64 t724)) w.heap.size (fun k_ => some k_ ≠ (v702 : Value).ownBlock) (.slice Ao33 t698.length co33) t698) := ⟨by (with_reducible repeat (first | apply Kd.R_alloc | apply Kd.R_drewN | apply Kd.R_drew)); exact Kd.R_mono (Kd.R_far (p := ⟨gb726, 1, none⟩) (Kd.R_far (p := ⟨gb726, 0, none⟩) (Kd.R_types HO_9.out BK726.out (by decide)) (fun _ hk => hk.2) (.int .i64 t723)) (fun _ hk => hk.2) (.int .i64 t724)) (fun _ hk => hk.1)⟩
       have n1_ : Aside0 (Kd.R (Kd.int .i64) 2 ((w43.setCell ⟨gb726, 0, none⟩ (.int .i64 t723)).setCell ⟨gb726, 1, none⟩ (.int .i64 t724)) w.heap.size (fun k_ => some k_ ≠ (.slice Ao33 t698.length co33 : Value).ownBlock) v702 t701) := ⟨by (with_reducible repeat (first | apply Kd.R_alloc | apply Kd.R_drewN | apply Kd.R_drew)); exact Kd.R_mono (Kd.R_far (p := ⟨gb726, 1, none⟩) (Kd.R_far (p := ⟨gb726, 0, none⟩) (Kd.R_types HO_10.out BK726.out (by decide)) (fun _ hk => hk.2) (.int .i64 t723)) (fun _ hk => hk.2) (.int .i64 t724)) (fun _ hk => hk.1)⟩
       have n2_ : Aside0 (((w43.setCell ⟨gb726, 0, none⟩ (.int .i64 t723)).setCell ⟨gb726, 1, none⟩ (.int .i64 t724)).heap[gb695]? = some (.cells #[.slice A0_0 l0_0.length c0_0, .slice A0_1 l0_1.length c0_1] 26 (0, 0))) := ⟨by (with_reducible repeat (first | refine blk_drewN ?_ _ | refine blk_drew ?_ | refine blk_alloc ?_ _)); refine blk_far ?_ NB695_726.out _; (with_reducible repeat (first | refine blk_drewN ?_ _ | refine blk_drew ?_ | refine blk_alloc ?_ _)); refine blk_far ?_ NB695_726.out _; (with_reducible repeat (first | refine blk_drewN ?_ _ | refine blk_drew ?_ | refine blk_alloc ?_ _)); exact BK695.out⟩
       have n3_ : Aside0 (((w43.setCell ⟨gb726, 0, none⟩ (.int .i64 t723)).setCell ⟨gb726, 1, none⟩ (.int .i64 t724)).heap[gb696]? = some (.cells #[.int .i64 0, .int .i64 0] 65 (0, 0))) := ⟨by (with_reducible repeat (first | refine blk_drewN ?_ _ | refine blk_drew ?_ | refine blk_alloc ?_ _)); refine blk_far ?_ NB696_726.out _; (with_reducible repeat (first | refine blk_drewN ?_ _ | refine blk_drew ?_ | refine blk_alloc ?_ _)); refine blk_far ?_ NB696_726.out _; (with_reducible repeat (first | refine blk_drewN ?_ _ | refine blk_drew ?_ | refine blk_alloc ?_ _)); exact BK696.out⟩
       have n4_ : Aside0 (((w43.setCell ⟨gb726, 0, none⟩ (.int .i64 t723)).setCell ⟨gb726, 1, none⟩ (.int .i64 t724)).heap[gb697]? = some (.cells #[.int .i64 0, .int .i64 0] 65 (0, 0))) := ⟨by (with_reducible repeat (first | refine blk_drewN ?_ _ | refine blk_drew ?_ | refine blk_alloc ?_ _)); refine blk_far ?_ NB697_726.out _; (with_reducible repeat (first | refine blk_drewN ?_ _ | refine blk_drew ?_ | refine blk_alloc ?_ _)); refine blk_far ?_ NB697_726.out _; (with_reducible repeat (first | refine blk_drewN ?_ _ | refine blk_drew ?_ | refine blk_alloc ?_ _)); exact BK697.out⟩
       have n5_ : Aside0 (((w43.setCell ⟨gb726, 0, none⟩ (.int .i64 t723)).setCell ⟨gb726, 1, none⟩ (.int .i64 t724)).heap[gb720]? = some (.cells #[.int .i64 t717, .int .i64 t718] 65 (0, 0))) := ⟨by (with_reducible repeat (first | refine blk_drewN ?_ _ | refine blk_drew ?_ | refine blk_alloc ?_ _)); refine blk_far ?_ NB720_726.out _; (with_reducible repeat (first | refine blk_drewN ?_ _ | refine blk_drew ?_ | refine blk_alloc ?_ _)); refine blk_far ?_ NB720_726.out _; (with_reducible repeat (first | refine blk_drewN ?_ _ | refine blk_drew ?_ | refine blk_alloc ?_ _)); exact BK720.out⟩
       have n6_ : Aside0 (((w43.setCell ⟨gb726, 0, none⟩ (.int .i64 t723)).setCell ⟨gb726, 1, none⟩ (.int .i64 t724)).heap[gb726]? = some (.cells #[.int .i64 t723, .int .i64 t724] 65 (0, 0))) := ⟨by (with_reducible repeat (first | refine blk_drewN ?_ _ | refine blk_drew ?_ | refine blk_alloc ?_ _)); refine blk_put (cs := #[.int .i64 t723, .int .i64 0]) ?_ 1 _ rfl; (with_reducible repeat (first | refine blk_drewN ?_ _ | refine blk_drew ?_ | refine blk_alloc ?_ _)); refine blk_put (cs := #[.int .i64 0, .int .i64 0]) ?_ 0 _ rfl; (with_reducible repeat (first | refine blk_drewN ?_ _ | refine blk_drew ?_ | refine blk_alloc ?_ _)); exact BK726.out⟩
       have n7_ : Aside0 (Below w.heap.size w ((w43.setCell ⟨gb726, 0, none⟩ (.int .i64 t723)).setCell ⟨gb726, 1, none⟩ (.int .i64 t724))) := ⟨by repeat (first | (with_reducible first | exact HB.out | apply below_alloc | apply pw_below_drewN | apply below_drew1 | refine below_set ?_ GE695.out | refine below_set ?_ GE696.out | refine below_set ?_ GE697.out | refine below_set ?_ GE720.out | refine below_set ?_ GE726.out) | exact HB.out)⟩
       (try clear HO_9)
       (try clear HO_10)
       (try clear BK695)
       (try clear BK696)
       (try clear BK697)
       (try clear BK720)
       (try clear BK726)
       (try clear HB)
       generalize ((w43.setCell ⟨gb726, 0, none⟩ (.int .i64 t723)).setCell ⟨gb726, 1, none⟩ (.int .i64 t724)) = w49 at n0_ n1_ n2_ n3_ n4_ n5_ n6_ n7_ ⊢
       have HO_9 := n0_
       have HO_10 := n1_
       have BK695 := n2_
       have BK696 := n3_
       have BK697 := n4_
       have BK720 := n5_
       have BK726 := n6_
       have HB := n7_
       clear n0_ n1_ n2_ n3_ n4_ n5_ n6_ n7_
       have n0_ := Aside0.mk (Kd.R_drew HO_9.out)
       have n1_ := Aside0.mk (Kd.R_drew HO_10.out)
       have n2_ := Aside0.mk (blk_drew BK695.out)
       have n3_ := Aside0.mk (blk_drew BK696.out)
       have n4_ := Aside0.mk (blk_drew BK697.out)
       have n5_ := Aside0.mk (blk_drew BK720.out)
       have n6_ := Aside0.mk (blk_drew BK726.out)
       have n7_ := Aside0.mk (below_drew1 HB.out)
       clear HO_9
       clear HO_10
       clear BK695
       clear BK696
       clear BK697
       clear BK720
       clear BK726
       clear HB
       have HO_9 := n0_
       have HO_10 := n1_
       have BK695 := n2_
       have BK696 := n3_
       have BK697 := n4_
       have BK720 := n5_
       have BK726 := n6_
       have HB := n7_
       clear n0_ n1_ n2_ n3_ n4_ n5_ n6_ n7_
       refine start_ (n := 5) (S := fun w' => w'.cell? ⟨gb720, 0, none⟩ = some (.int .i64 t717) ∧ w'.cell? ⟨gb720, 1, none⟩ = some (.int .i64 t718) ∧ w'.cell? ⟨gb726, 0, none⟩ = some (.int .i64 t723) ∧ w'.cell? ⟨gb726, 1, none⟩ = some (.int .i64 t724)) (ds := []) #[false, false, false, false, false] (by kernel_rfl) rfl rfl ⟨(blk_cell BK720.out 0).trans rfl, (blk_cell BK720.out 1).trans rfl, (blk_cell BK726.out 0).trans rfl, (blk_cell BK726.out 1).trans rfl⟩ (fun hHeld => ?_)
       generalize w49.drew = w50 at HO_9 HO_10 BK695 BK696 BK697 BK720 BK726 HB hHeld ⊢
       refine take_ (i := 0) (N := some 115) (v := ?_) (a' := ?_) #[true, false, false, false, false] rfl rfl (by kernel_rfl) (fun _ _ _ h => h) (Or.inl ⟨by rfl, ?_⟩) hHeld ?_ ?_
       rotate_left
       ·rintro w' ⟨s0, s1, s2, s3⟩
        go_simp
        with_reducible rfl
       rotate_left
       ·simp only [Act.put, List.setIfInBounds_toArray, List.set_cons_zero, List.set_cons_succ, i64_w, i32_w]
        rfl
       refine take_ (i := 1) (N := some 116) (v := ?_) (a' := ?_) #[true, true, false, false, false] rfl rfl (by kernel_rfl) (fun _ _ _ h => h) (Or.inl ⟨by rfl, ?_⟩) hHeld ?_ ?_
       rotate_left
       ·rintro w' ⟨s0, s1, s2, s3⟩
        go_simp
        with_reducible rfl
       rotate_left
       ·simp only [Act.put, List.setIfInBounds_toArray, List.set_cons_zero, List.set_cons_succ, i64_w, i32_w]
        rfl
       refine one_ (i := 2) (N := none) #[true, true, true, false, false] rfl rfl (by kernel_rfl) (by decide) (fun K hK => ?_)
       have hs51 : w50.cell? ⟨gb696, 0, none⟩ = some (.int .i64 0) := (blk_cell BK696.out 0).trans rfl
       have hfs51 := blk_frozen BK696.out 0
       have hns51_0 := NB695_696.out
       have hns51_2 := NB697_696.out
       have hns51_3 := NB720_696.out
       have hns51_4 := NB726_696.out
       have hms51_0 := NB696_695.out
       have hms51_2 := NB696_697.out
       have hms51_3 := NB696_720.out
       have hms51_4 := NB696_726.out
       have hs52 : w50.cell? ⟨gb696, 1, none⟩ = some (.int .i64 0) := (blk_cell BK696.out 1).trans rfl
       have hfs52 := blk_frozen BK696.out 1
       have hns52_0 := NB695_696.out
       have hns52_2 := NB697_696.out
       have hns52_3 := NB720_696.out
       have hns52_4 := NB726_696.out
       have hms52_0 := NB696_695.out
       have hms52_2 := NB696_697.out
       have hms52_3 := NB696_720.out
       have hms52_4 := NB696_726.out
       refine skip_ (w1 := ?_) (by rfl) rfl ?_ ?_
       rotate_left
       ·go_simp
        rfl
       refine hK.out _ _ ⟨((cell_far (p := ⟨gb696, _, none⟩) NB720_696.out _).trans (((cell_far (p := ⟨gb696, _, none⟩) NB720_696.out _).trans (hHeld.1)))), ((cell_far (p := ⟨gb696, _, none⟩) NB720_696.out _).trans (((cell_far (p := ⟨gb696, _, none⟩) NB720_696.out _).trans (hHeld.2.1)))), ((cell_far (p := ⟨gb696, _, none⟩) NB726_696.out _).trans (((cell_far (p := ⟨gb696, _, none⟩) NB726_696.out _).trans (hHeld.2.2.1)))), ((cell_far (p := ⟨gb696, _, none⟩) NB726_696.out _).trans (((cell_far (p := ⟨gb696, _, none⟩) NB726_696.out _).trans (hHeld.2.2.2))))⟩ (fun hHeld => ?_)
       clear hK K
       refine one_ (i := 3) (N := none) #[true, true, true, true, false] rfl rfl (by kernel_rfl) (by decide) (fun K hK => ?_)
       have hs53 : w50.cell? ⟨gb697, 0, none⟩ = some (.int .i64 0) := (blk_cell BK697.out 0).trans rfl
       have hfs53 := blk_frozen BK697.out 0
       have hns53_0 := NB695_697.out
       have hns53_1 := NB696_697.out
       have hns53_3 := NB720_697.out
       have hns53_4 := NB726_697.out
       have hms53_0 := NB697_695.out
       have hms53_1 := NB697_696.out
       have hms53_3 := NB697_720.out
       have hms53_4 := NB697_726.out
       have hs54 : w50.cell? ⟨gb697, 1, none⟩ = some (.int .i64 0) := (blk_cell BK697.out 1).trans rfl
       have hfs54 := blk_frozen BK697.out 1
       have hns54_0 := NB695_697.out
       have hns54_1 := NB696_697.out
       have hns54_3 := NB720_697.out
       have hns54_4 := NB726_697.out
       have hms54_0 := NB697_695.out
       have hms54_1 := NB697_696.out
       have hms54_3 := NB697_720.out
       have hms54_4 := NB697_726.out
       refine skip_ (w1 := ?_) (by rfl) rfl ?_ ?_
       rotate_left
       ·go_simp
        rfl
       refine hK.out _ _ ⟨((cell_far (p := ⟨gb697, _, none⟩) NB720_697.out _).trans (((cell_far (p := ⟨gb697, _, none⟩) NB720_697.out _).trans (hHeld.1)))), ((cell_far (p := ⟨gb697, _, none⟩) NB720_697.out _).trans (((cell_far (p := ⟨gb697, _, none⟩) NB720_697.out _).trans (hHeld.2.1)))), ((cell_far (p := ⟨gb697, _, none⟩) NB726_697.out _).trans (((cell_far (p := ⟨gb697, _, none⟩) NB726_697.out _).trans (hHeld.2.2.1)))), ((cell_far (p := ⟨gb697, _, none⟩) NB726_697.out _).trans (((cell_far (p := ⟨gb697, _, none⟩) NB726_697.out _).trans (hHeld.2.2.2))))⟩ (fun hHeld => ?_)
       clear hK K
       refine pure_ (i := 4) (N := some 8) (v := ?_) (a' := ?_) #[true, true, true, true, true] rfl rfl (by kernel_rfl) (fun _ _ _ h => h) (Or.inl ⟨by rfl, ?_⟩) ?_ ?_
       rotate_left
       ·intro w'
        go_simp
        with_reducible rfl
       rotate_left
       ·simp only [Act.put, List.setIfInBounds_toArray, List.set_cons_zero, List.set_cons_succ, i64_w, i32_w]
        rfl
       refine done_ (by kernel_rfl) ?_
       try go_wp2
       refine bodyPost_ret (results_list (rs := [.cell 6 65, .cell 7 65, .tmp 8]) rfl (by simp) (.cell gb696 65 #[.int .i64 t717, .int .i64 t718] (0, 0) _ rfl (by (with_reducible repeat (first | refine blk_drewN ?_ _ | refine blk_drew ?_ | refine blk_alloc ?_ _)); refine blk_far ?_ NB696_697.out _; (with_reducible repeat (first | refine blk_drewN ?_ _ | refine blk_drew ?_ | refine blk_alloc ?_ _)); refine blk_far ?_ NB696_697.out _; (with_reducible repeat (first | refine blk_drewN ?_ _ | refine blk_drew ?_ | refine blk_alloc ?_ _)); refine blk_put (cs := #[.int .i64 t717, .int .i64 0]) ?_ 1 _ rfl; (with_reducible repeat (first | refine blk_drewN ?_ _ | refine blk_drew ?_ | refine blk_alloc ?_ _)); refine blk_put (cs := #[.int .i64 0, .int .i64 0]) ?_ 0 _ rfl; (with_reducible repeat (first | refine blk_drewN ?_ _ | refine blk_drew ?_ | refine blk_alloc ?_ _)); exact BK696.out) Try.underlying65 rfl (by kernel_rfl) (.cell gb697 65 #[.int .i64 t723, .int .i64 t724] (0, 0) _ rfl (by (with_reducible repeat (first | refine blk_drewN ?_ _ | refine blk_drew ?_ | refine blk_alloc ?_ _)); refine blk_put (cs := #[.int .i64 t723, .int .i64 0]) ?_ 1 _ rfl; (with_reducible repeat (first | refine blk_drewN ?_ _ | refine blk_drew ?_ | refine blk_alloc ?_ _)); refine blk_put (cs := #[.int .i64 0, .int .i64 0]) ?_ 0 _ rfl; (with_reducible repeat (first | refine blk_drewN ?_ _ | refine blk_drew ?_ | refine blk_alloc ?_ _)); refine blk_far ?_ NB697_696.out _; (with_reducible repeat (first | refine blk_drewN ?_ _ | refine blk_drew ?_ | refine blk_alloc ?_ _)); refine blk_far ?_ NB697_696.out _; (with_reducible repeat (first | refine blk_drewN ?_ _ | refine blk_drew ?_ | refine blk_alloc ?_ _)); exact BK697.out) Try.underlying65 rfl (by kernel_rfl) (.tmp .nil)))) rfl ?_
       exact ⟨by first | rfl | (simp [errW_none, errW_some] <;> rfl) | (simp [*, errW_none, errW_some] <;> rfl), by repeat (first | (with_reducible first | exact HB.out | apply below_alloc | apply pw_below_drewN | apply below_drew1 | refine below_set ?_ GE695.out | refine below_set ?_ GE696.out | refine below_set ?_ GE697.out | refine below_set ?_ GE720.out | refine below_set ?_ GE726.out) | exact HB.out)⟩
      ·rw [if_neg c32] at H
       have c32b0 : (t725 == 0) = false := beq_eq_false_iff_ne.mpr c32
       have c32b1 : (t725 != 0) = true := bne_iff_ne.mpr c32
       simp only [Option.some.injEq, Prod.mk.injEq] at H
       obtain ⟨rfl, rfl, rfl, rfl, rfl⟩ := H
       obtain ⟨Ao55, co55, eo55⟩ := Kd.R_slice HO_9.out
       subst eo55
       go_wp2_with (first | ((with_reducible refine gate_callee (f := 97) rfl ?_); refine goesL_ (some 94) rfl rfl Try.func97 (by kernel_rfl) rfl #[.int .i64 x14_1, .int .i64 (wrap64 (t704 * t705))] rfl (by (try simp only [List.map_toArray, List.map_cons, List.map_nil]); first | done | rfl | (simp only [List.length_drop, List.length_take]; rfl)) ?_; (with_reducible refine (spec_l01Frac.calls k1 x14_1 (wrap64 (t704 * t705)) t715 t716 _ A27.out).mono ?_); rintro e w56 ⟨rfl, hb⟩; refine ⟨_, rfl, ?_⟩; have n0_ := Aside0.mk (Kd.R_below (by (with_reducible repeat (first | apply Kd.R_alloc | apply Kd.R_drewN | apply Kd.R_drew)); exact HO_9.out) hb); have n1_ := Aside0.mk (Kd.R_below (by (with_reducible repeat (first | apply Kd.R_alloc | apply Kd.R_drewN | apply Kd.R_drew)); exact HO_10.out) hb); have n2_ := Aside0.mk (blk_below (g := gb695) (o := .cells #[.slice A0_0 l0_0.length c0_0, .slice A0_1 l0_1.length c0_1] 26 (0, 0)) (by (with_reducible repeat (first | refine blk_drewN ?_ _ | refine blk_drew ?_ | refine blk_alloc ?_ _)); exact BK695.out) hb); have n3_ := Aside0.mk (blk_below (g := gb696) (o := .cells #[.int .i64 0, .int .i64 0] 65 (0, 0)) (by (with_reducible repeat (first | refine blk_drewN ?_ _ | refine blk_drew ?_ | refine blk_alloc ?_ _)); exact BK696.out) hb); have n4_ := Aside0.mk (blk_below (g := gb697) (o := .cells #[.int .i64 0, .int .i64 0] 65 (0, 0)) (by (with_reducible repeat (first | refine blk_drewN ?_ _ | refine blk_drew ?_ | refine blk_alloc ?_ _)); exact BK697.out) hb); have n5_ := Aside0.mk (below_step (by repeat (first | (with_reducible first | exact HB.out | apply below_alloc | apply pw_below_drewN | apply below_drew1 | refine below_set ?_ GE695.out | refine below_set ?_ GE696.out | refine below_set ?_ GE697.out) | exact HB.out)) hb); clear HO_9; clear HO_10; clear BK695; clear BK696; clear BK697; clear HB; have HO_9 := n0_; have HO_10 := n1_; have BK695 := n2_; have BK696 := n3_; have BK697 := n4_; have HB := n5_; clear n0_ n1_ n2_ n3_ n4_ n5_; (try clear hb); (try clear hb2); (try clear hk); (try clear hi)) | ((with_reducible refine gate_callee (f := 96) rfl ?_); refine goesL_ (some 95) rfl rfl Try.func96 (by kernel_rfl) rfl #[.agg #[.int .i64 t715, .int .i64 t716]] rfl (by (try simp only [List.map_toArray, List.map_cons, List.map_nil]); first | done | rfl | (simp only [List.length_drop, List.length_take]; rfl)) ?_; (with_reducible refine (spec_l01Told.calls k1 t715 t716 t717 t718 t719 _ A28.out).mono ?_); rintro e w57 ⟨rfl, hb⟩; refine ⟨_, rfl, ?_⟩; have n0_ := Aside0.mk (Kd.R_below (by (with_reducible repeat (first | apply Kd.R_alloc | apply Kd.R_drewN | apply Kd.R_drew)); exact HO_9.out) hb); have n1_ := Aside0.mk (Kd.R_below (by (with_reducible repeat (first | apply Kd.R_alloc | apply Kd.R_drewN | apply Kd.R_drew)); exact HO_10.out) hb); have n2_ := Aside0.mk (blk_below (g := gb695) (o := .cells #[.slice A0_0 l0_0.length c0_0, .slice A0_1 l0_1.length c0_1] 26 (0, 0)) (by (with_reducible repeat (first | refine blk_drewN ?_ _ | refine blk_drew ?_ | refine blk_alloc ?_ _)); exact BK695.out) hb); have n3_ := Aside0.mk (blk_below (g := gb696) (o := .cells #[.int .i64 0, .int .i64 0] 65 (0, 0)) (by (with_reducible repeat (first | refine blk_drewN ?_ _ | refine blk_drew ?_ | refine blk_alloc ?_ _)); exact BK696.out) hb); have n4_ := Aside0.mk (blk_below (g := gb697) (o := .cells #[.int .i64 0, .int .i64 0] 65 (0, 0)) (by (with_reducible repeat (first | refine blk_drewN ?_ _ | refine blk_drew ?_ | refine blk_alloc ?_ _)); exact BK697.out) hb); have n5_ := Aside0.mk (below_step (by repeat (first | (with_reducible first | exact HB.out | apply below_alloc | apply pw_below_drewN | apply below_drew1 | refine below_set ?_ GE695.out | refine below_set ?_ GE696.out | refine below_set ?_ GE697.out) | exact HB.out)) hb); clear HO_9; clear HO_10; clear BK695; clear BK696; clear BK697; clear HB; have HO_9 := n0_; have HO_10 := n1_; have BK695 := n2_; have BK696 := n3_; have BK697 := n4_; have HB := n5_; clear n0_ n1_ n2_ n3_ n4_ n5_; (try clear hb); (try clear hb2); (try clear hk); (try clear hi)) | ((with_reducible refine gate_dst (N := 18) rfl ?_); refine box_event ?hg (N := 18) ?hd (cs := #[.int .i64 0, .int .i64 0]) (t := 65) ?hr ?_; (case hd => rfl); (case hg => rfl); (case hr => first | (go_simp; done) | (go_simp; rfl)); intro gb720 hg w58 hbox hb; have n0_ := Aside0.mk (Kd.R_below (by (with_reducible repeat (first | apply Kd.R_alloc | apply Kd.R_drewN | apply Kd.R_drew)); exact HO_9.out) hb); have n1_ := Aside0.mk (Kd.R_below (by (with_reducible repeat (first | apply Kd.R_alloc | apply Kd.R_drewN | apply Kd.R_drew)); exact HO_10.out) hb); have n2_ := Aside0.mk (blk_below (g := gb695) (o := .cells #[.slice A0_0 l0_0.length c0_0, .slice A0_1 l0_1.length c0_1] 26 (0, 0)) (by (with_reducible repeat (first | refine blk_drewN ?_ _ | refine blk_drew ?_ | refine blk_alloc ?_ _)); exact BK695.out) hb); have n3_ := Aside0.mk (blk_below (g := gb696) (o := .cells #[.int .i64 0, .int .i64 0] 65 (0, 0)) (by (with_reducible repeat (first | refine blk_drewN ?_ _ | refine blk_drew ?_ | refine blk_alloc ?_ _)); exact BK696.out) hb); have n4_ := Aside0.mk (blk_below (g := gb697) (o := .cells #[.int .i64 0, .int .i64 0] 65 (0, 0)) (by (with_reducible repeat (first | refine blk_drewN ?_ _ | refine blk_drew ?_ | refine blk_alloc ?_ _)); exact BK697.out) hb); have n5_ := Aside0.mk (below_step (by repeat (first | (with_reducible first | exact HB.out | apply below_alloc | apply pw_below_drewN | apply below_drew1 | refine below_set ?_ GE695.out | refine below_set ?_ GE696.out | refine below_set ?_ GE697.out) | exact HB.out)) hb); have n6_ := Aside0.mk (hbox); have n7_ := Aside0.mk ((by rw [hg]; exact (below_size (by repeat (first | (with_reducible first | exact HB.out | apply below_alloc | apply pw_below_drewN | apply below_drew1 | refine below_set ?_ GE695.out | refine below_set ?_ GE696.out | refine below_set ?_ GE697.out) | exact HB.out))) : w.heap.size ≤ gb720)); have n8_ := Aside0.mk ((by rw [hg]; exact (below_size (by repeat (first | (with_reducible first | exact HB.out | apply below_alloc | apply pw_below_drewN | apply below_drew1 | refine below_set ?_ GE695.out | refine below_set ?_ GE696.out | refine below_set ?_ GE697.out) | exact HB.out))) : w.heap.size ≤ gb720)); have n9_ := Aside0.mk ((by rw [hg]; exact Nat.ne_of_lt (blk_lt (g := gb695) (o := .cells #[.slice A0_0 l0_0.length c0_0, .slice A0_1 l0_1.length c0_1] 26 (0, 0)) (by (with_reducible repeat (first | refine blk_drewN ?_ _ | refine blk_drew ?_ | refine blk_alloc ?_ _)); exact BK695.out)) : gb695 ≠ gb720)); have n10_ := Aside0.mk ((by rw [hg]; exact Nat.ne_of_gt (blk_lt (g := gb695) (o := .cells #[.slice A0_0 l0_0.length c0_0, .slice A0_1 l0_1.length c0_1] 26 (0, 0)) (by (with_reducible repeat (first | refine blk_drewN ?_ _ | refine blk_drew ?_ | refine blk_alloc ?_ _)); exact BK695.out)) : gb720 ≠ gb695)); have n11_ := Aside0.mk ((by rw [hg]; exact Nat.ne_of_lt (blk_lt (g := gb696) (o := .cells #[.int .i64 0, .int .i64 0] 65 (0, 0)) (by (with_reducible repeat (first | refine blk_drewN ?_ _ | refine blk_drew ?_ | refine blk_alloc ?_ _)); exact BK696.out)) : gb696 ≠ gb720)); have n12_ := Aside0.mk ((by rw [hg]; exact Nat.ne_of_gt (blk_lt (g := gb696) (o := .cells #[.int .i64 0, .int .i64 0] 65 (0, 0)) (by (with_reducible repeat (first | refine blk_drewN ?_ _ | refine blk_drew ?_ | refine blk_alloc ?_ _)); exact BK696.out)) : gb720 ≠ gb696)); have n13_ := Aside0.mk ((by rw [hg]; exact Nat.ne_of_lt (blk_lt (g := gb697) (o := .cells #[.int .i64 0, .int .i64 0] 65 (0, 0)) (by (with_reducible repeat (first | refine blk_drewN ?_ _ | refine blk_drew ?_ | refine blk_alloc ?_ _)); exact BK697.out)) : gb697 ≠ gb720)); have n14_ := Aside0.mk ((by rw [hg]; exact Nat.ne_of_gt (blk_lt (g := gb697) (o := .cells #[.int .i64 0, .int .i64 0] 65 (0, 0)) (by (with_reducible repeat (first | refine blk_drewN ?_ _ | refine blk_drew ?_ | refine blk_alloc ?_ _)); exact BK697.out)) : gb720 ≠ gb697)); clear HO_9; clear HO_10; clear BK695; clear BK696; clear BK697; clear HB; have HO_9 := n0_; have HO_10 := n1_; have BK695 := n2_; have BK696 := n3_; have BK697 := n4_; have HB := n5_; have BK720 := n6_; have GW720 := n7_; have GE720 := n8_; have NB695_720 := n9_; have NB720_695 := n10_; have NB696_720 := n11_; have NB720_696 := n12_; have NB697_720 := n13_; have NB720_697 := n14_; clear n0_ n1_ n2_ n3_ n4_ n5_ n6_ n7_ n8_ n9_ n10_ n11_ n12_ n13_ n14_; clear hb hbox hg; have hnb59 := NB720_695.out; have hnc59 := NB695_720.out; have hnb60 := NB720_696.out; have hnc60 := NB696_720.out; have hnb61 := NB720_697.out; have hnc61 := NB697_720.out; have hcz62_0 : w58.cell? ⟨gb720, 0, none⟩ = some (.int .i64 0) := (blk_cell BK720.out 0).trans rfl; have hcz62_1 : w58.cell? ⟨gb720, 1, none⟩ = some (.int .i64 0) := (blk_cell BK720.out 1).trans rfl; have hfz62_0 := blk_frozen BK720.out 0; have hfz62_1 := blk_frozen BK720.out 1) | ((with_reducible refine gate_callee (f := 97) rfl ?_); refine goesL_ (some 103) rfl rfl Try.func97 (by kernel_rfl) rfl #[.int .i64 x15_1, .int .i64 (wrap64 (t704 * t705))] rfl (by (try simp only [List.map_toArray, List.map_cons, List.map_nil]); first | done | rfl | (simp only [List.length_drop, List.length_take]; rfl)) ?_; (with_reducible refine (spec_l01Frac.calls k1 x15_1 (wrap64 (t704 * t705)) t721 t722 _ A29.out).mono ?_); rintro e w63 ⟨rfl, hb⟩; refine ⟨_, rfl, ?_⟩; have n0_ := Aside0.mk (Kd.R_below (by (with_reducible repeat (first | apply Kd.R_alloc | apply Kd.R_drewN | apply Kd.R_drew)); exact (Kd.R_mono (Kd.R_far (p := ⟨gb720, 1, none⟩) (Kd.R_far (p := ⟨gb720, 0, none⟩) (Kd.R_types HO_9.out BK720.out (by decide)) (fun _ hk => hk.2) (.int .i64 t717)) (fun _ hk => hk.2) (.int .i64 t718)) (fun _ h_ => h_.1))) hb); have n1_ := Aside0.mk (Kd.R_below (by (with_reducible repeat (first | apply Kd.R_alloc | apply Kd.R_drewN | apply Kd.R_drew)); exact (Kd.R_mono (Kd.R_far (p := ⟨gb720, 1, none⟩) (Kd.R_far (p := ⟨gb720, 0, none⟩) (Kd.R_types HO_10.out BK720.out (by decide)) (fun _ hk => hk.2) (.int .i64 t717)) (fun _ hk => hk.2) (.int .i64 t718)) (fun _ h_ => h_.1))) hb); have n2_ := Aside0.mk (blk_below (g := gb695) (o := .cells #[.slice A0_0 l0_0.length c0_0, .slice A0_1 l0_1.length c0_1] 26 (0, 0)) (by (with_reducible repeat (first | refine blk_drewN ?_ _ | refine blk_drew ?_ | refine blk_alloc ?_ _)); refine blk_far ?_ NB695_720.out _; (with_reducible repeat (first | refine blk_drewN ?_ _ | refine blk_drew ?_ | refine blk_alloc ?_ _)); refine blk_far ?_ NB695_720.out _; (with_reducible repeat (first | refine blk_drewN ?_ _ | refine blk_drew ?_ | refine blk_alloc ?_ _)); exact BK695.out) hb); have n3_ := Aside0.mk (blk_below (g := gb696) (o := .cells #[.int .i64 0, .int .i64 0] 65 (0, 0)) (by (with_reducible repeat (first | refine blk_drewN ?_ _ | refine blk_drew ?_ | refine blk_alloc ?_ _)); refine blk_far ?_ NB696_720.out _; (with_reducible repeat (first | refine blk_drewN ?_ _ | refine blk_drew ?_ | refine blk_alloc ?_ _)); refine blk_far ?_ NB696_720.out _; (with_reducible repeat (first | refine blk_drewN ?_ _ | refine blk_drew ?_ | refine blk_alloc ?_ _)); exact BK696.out) hb); have n4_ := Aside0.mk (blk_below (g := gb697) (o := .cells #[.int .i64 0, .int .i64 0] 65 (0, 0)) (by (with_reducible repeat (first | refine blk_drewN ?_ _ | refine blk_drew ?_ | refine blk_alloc ?_ _)); refine blk_far ?_ NB697_720.out _; (with_reducible repeat (first | refine blk_drewN ?_ _ | refine blk_drew ?_ | refine blk_alloc ?_ _)); refine blk_far ?_ NB697_720.out _; (with_reducible repeat (first | refine blk_drewN ?_ _ | refine blk_drew ?_ | refine blk_alloc ?_ _)); exact BK697.out) hb); have n5_ := Aside0.mk (blk_below (g := gb720) (o := .cells #[.int .i64 t717, .int .i64 t718] 65 (0, 0)) (by (with_reducible repeat (first | refine blk_drewN ?_ _ | refine blk_drew ?_ | refine blk_alloc ?_ _)); refine blk_put (cs := #[.int .i64 t717, .int .i64 0]) ?_ 1 _ rfl; (with_reducible repeat (first | refine blk_drewN ?_ _ | refine blk_drew ?_ | refine blk_alloc ?_ _)); refine blk_put (cs := #[.int .i64 0, .int .i64 0]) ?_ 0 _ rfl; (with_reducible repeat (first | refine blk_drewN ?_ _ | refine blk_drew ?_ | refine blk_alloc ?_ _)); exact BK720.out) hb); have n6_ := Aside0.mk (below_step (by repeat (first | (with_reducible first | exact HB.out | apply below_alloc | apply pw_below_drewN | apply below_drew1 | refine below_set ?_ GE695.out | refine below_set ?_ GE696.out | refine below_set ?_ GE697.out | refine below_set ?_ GE720.out) | exact HB.out)) hb); clear HO_9; clear HO_10; clear BK695; clear BK696; clear BK697; clear BK720; clear HB; have HO_9 := n0_; have HO_10 := n1_; have BK695 := n2_; have BK696 := n3_; have BK697 := n4_; have BK720 := n5_; have HB := n6_; clear n0_ n1_ n2_ n3_ n4_ n5_ n6_; (try clear hb); (try clear hb2); (try clear hk); (try clear hi)) | ((with_reducible refine gate_callee (f := 96) rfl ?_); refine goesL_ (some 104) rfl rfl Try.func96 (by kernel_rfl) rfl #[.agg #[.int .i64 t721, .int .i64 t722]] rfl (by (try simp only [List.map_toArray, List.map_cons, List.map_nil]); first | done | rfl | (simp only [List.length_drop, List.length_take]; rfl)) ?_; (with_reducible refine (spec_l01Told.calls k1 t721 t722 t723 t724 t725 _ A30.out).mono ?_); rintro e w64 ⟨rfl, hb⟩; refine ⟨_, rfl, ?_⟩; have n0_ := Aside0.mk (Kd.R_below (by (with_reducible repeat (first | apply Kd.R_alloc | apply Kd.R_drewN | apply Kd.R_drew)); exact HO_9.out) hb); have n1_ := Aside0.mk (Kd.R_below (by (with_reducible repeat (first | apply Kd.R_alloc | apply Kd.R_drewN | apply Kd.R_drew)); exact HO_10.out) hb); have n2_ := Aside0.mk (blk_below (g := gb695) (o := .cells #[.slice A0_0 l0_0.length c0_0, .slice A0_1 l0_1.length c0_1] 26 (0, 0)) (by (with_reducible repeat (first | refine blk_drewN ?_ _ | refine blk_drew ?_ | refine blk_alloc ?_ _)); exact BK695.out) hb); have n3_ := Aside0.mk (blk_below (g := gb696) (o := .cells #[.int .i64 0, .int .i64 0] 65 (0, 0)) (by (with_reducible repeat (first | refine blk_drewN ?_ _ | refine blk_drew ?_ | refine blk_alloc ?_ _)); exact BK696.out) hb); have n4_ := Aside0.mk (blk_below (g := gb697) (o := .cells #[.int .i64 0, .int .i64 0] 65 (0, 0)) (by (with_reducible repeat (first | refine blk_drewN ?_ _ | refine blk_drew ?_ | refine blk_alloc ?_ _)); exact BK697.out) hb); have n5_ := Aside0.mk (blk_below (g := gb720) (o := .cells #[.int .i64 t717, .int .i64 t718] 65 (0, 0)) (by (with_reducible repeat (first | refine blk_drewN ?_ _ | refine blk_drew ?_ | refine blk_alloc ?_ _)); exact BK720.out) hb); have n6_ := Aside0.mk (below_step (by repeat (first | (with_reducible first | exact HB.out | apply below_alloc | apply pw_below_drewN | apply below_drew1 | refine below_set ?_ GE695.out | refine below_set ?_ GE696.out | refine below_set ?_ GE697.out | refine below_set ?_ GE720.out) | exact HB.out)) hb); clear HO_9; clear HO_10; clear BK695; clear BK696; clear BK697; clear BK720; clear HB; have HO_9 := n0_; have HO_10 := n1_; have BK695 := n2_; have BK696 := n3_; have BK697 := n4_; have BK720 := n5_; have HB := n6_; clear n0_ n1_ n2_ n3_ n4_ n5_ n6_; (try clear hb); (try clear hb2); (try clear hk); (try clear hi)) | ((with_reducible refine gate_dst (N := 20) rfl ?_); refine box_event ?hg (N := 20) ?hd (cs := #[.int .i64 0, .int .i64 0]) (t := 65) ?hr ?_; (case hd => rfl); (case hg => rfl); (case hr => first | (go_simp; done) | (go_simp; rfl)); intro gb726 hg w65 hbox hb; have n0_ := Aside0.mk (Kd.R_below (by (with_reducible repeat (first | apply Kd.R_alloc | apply Kd.R_drewN | apply Kd.R_drew)); exact HO_9.out) hb); have n1_ := Aside0.mk (Kd.R_below (by (with_reducible repeat (first | apply Kd.R_alloc | apply Kd.R_drewN | apply Kd.R_drew)); exact HO_10.out) hb); have n2_ := Aside0.mk (blk_below (g := gb695) (o := .cells #[.slice A0_0 l0_0.length c0_0, .slice A0_1 l0_1.length c0_1] 26 (0, 0)) (by (with_reducible repeat (first | refine blk_drewN ?_ _ | refine blk_drew ?_ | refine blk_alloc ?_ _)); exact BK695.out) hb); have n3_ := Aside0.mk (blk_below (g := gb696) (o := .cells #[.int .i64 0, .int .i64 0] 65 (0, 0)) (by (with_reducible repeat (first | refine blk_drewN ?_ _ | refine blk_drew ?_ | refine blk_alloc ?_ _)); exact BK696.out) hb); have n4_ := Aside0.mk (blk_below (g := gb697) (o := .cells #[.int .i64 0, .int .i64 0] 65 (0, 0)) (by (with_reducible repeat (first | refine blk_drewN ?_ _ | refine blk_drew ?_ | refine blk_alloc ?_ _)); exact BK697.out) hb); have n5_ := Aside0.mk (blk_below (g := gb720) (o := .cells #[.int .i64 t717, .int .i64 t718] 65 (0, 0)) (by (with_reducible repeat (first | refine blk_drewN ?_ _ | refine blk_drew ?_ | refine blk_alloc ?_ _)); exact BK720.out) hb); have n6_ := Aside0.mk (below_step (by repeat (first | (with_reducible first | exact HB.out | apply below_alloc | apply pw_below_drewN | apply below_drew1 | refine below_set ?_ GE695.out | refine below_set ?_ GE696.out | refine below_set ?_ GE697.out | refine below_set ?_ GE720.out) | exact HB.out)) hb); have n7_ := Aside0.mk (hbox); have n8_ := Aside0.mk ((by rw [hg]; exact (below_size (by repeat (first | (with_reducible first | exact HB.out | apply below_alloc | apply pw_below_drewN | apply below_drew1 | refine below_set ?_ GE695.out | refine below_set ?_ GE696.out | refine below_set ?_ GE697.out | refine below_set ?_ GE720.out) | exact HB.out))) : w.heap.size ≤ gb726)); have n9_ := Aside0.mk ((by rw [hg]; exact (below_size (by repeat (first | (with_reducible first | exact HB.out | apply below_alloc | apply pw_below_drewN | apply below_drew1 | refine below_set ?_ GE695.out | refine below_set ?_ GE696.out | refine below_set ?_ GE697.out | refine below_set ?_ GE720.out) | exact HB.out))) : w.heap.size ≤ gb726)); have n10_ := Aside0.mk ((by rw [hg]; exact Nat.ne_of_lt (blk_lt (g := gb695) (o := .cells #[.slice A0_0 l0_0.length c0_0, .slice A0_1 l0_1.length c0_1] 26 (0, 0)) (by (with_reducible repeat (first | refine blk_drewN ?_ _ | refine blk_drew ?_ | refine blk_alloc ?_ _)); exact BK695.out)) : gb695 ≠ gb726)); have n11_ := Aside0.mk ((by rw [hg]; exact Nat.ne_of_gt (blk_lt (g := gb695) (o := .cells #[.slice A0_0 l0_0.length c0_0, .slice A0_1 l0_1.length c0_1] 26 (0, 0)) (by (with_reducible repeat (first | refine blk_drewN ?_ _ | refine blk_drew ?_ | refine blk_alloc ?_ _)); exact BK695.out)) : gb726 ≠ gb695)); have n12_ := Aside0.mk ((by rw [hg]; exact Nat.ne_of_lt (blk_lt (g := gb696) (o := .cells #[.int .i64 0, .int .i64 0] 65 (0, 0)) (by (with_reducible repeat (first | refine blk_drewN ?_ _ | refine blk_drew ?_ | refine blk_alloc ?_ _)); exact BK696.out)) : gb696 ≠ gb726)); have n13_ := Aside0.mk ((by rw [hg]; exact Nat.ne_of_gt (blk_lt (g := gb696) (o := .cells #[.int .i64 0, .int .i64 0] 65 (0, 0)) (by (with_reducible repeat (first | refine blk_drewN ?_ _ | refine blk_drew ?_ | refine blk_alloc ?_ _)); exact BK696.out)) : gb726 ≠ gb696)); have n14_ := Aside0.mk ((by rw [hg]; exact Nat.ne_of_lt (blk_lt (g := gb697) (o := .cells #[.int .i64 0, .int .i64 0] 65 (0, 0)) (by (with_reducible repeat (first | refine blk_drewN ?_ _ | refine blk_drew ?_ | refine blk_alloc ?_ _)); exact BK697.out)) : gb697 ≠ gb726)); have n15_ := Aside0.mk ((by rw [hg]; exact Nat.ne_of_gt (blk_lt (g := gb697) (o := .cells #[.int .i64 0, .int .i64 0] 65 (0, 0)) (by (with_reducible repeat (first | refine blk_drewN ?_ _ | refine blk_drew ?_ | refine blk_alloc ?_ _)); exact BK697.out)) : gb726 ≠ gb697)); have n16_ := Aside0.mk ((by rw [hg]; exact Nat.ne_of_lt (blk_lt (g := gb720) (o := .cells #[.int .i64 t717, .int .i64 t718] 65 (0, 0)) (by (with_reducible repeat (first | refine blk_drewN ?_ _ | refine blk_drew ?_ | refine blk_alloc ?_ _)); exact BK720.out)) : gb720 ≠ gb726)); have n17_ := Aside0.mk ((by rw [hg]; exact Nat.ne_of_gt (blk_lt (g := gb720) (o := .cells #[.int .i64 t717, .int .i64 t718] 65 (0, 0)) (by (with_reducible repeat (first | refine blk_drewN ?_ _ | refine blk_drew ?_ | refine blk_alloc ?_ _)); exact BK720.out)) : gb726 ≠ gb720)); clear HO_9; clear HO_10; clear BK695; clear BK696; clear BK697; clear BK720; clear HB; have HO_9 := n0_; have HO_10 := n1_; have BK695 := n2_; have BK696 := n3_; have BK697 := n4_; have BK720 := n5_; have HB := n6_; have BK726 := n7_; have GW726 := n8_; have GE726 := n9_; have NB695_726 := n10_; have NB726_695 := n11_; have NB696_726 := n12_; have NB726_696 := n13_; have NB697_726 := n14_; have NB726_697 := n15_; have NB720_726 := n16_; have NB726_720 := n17_; clear n0_ n1_ n2_ n3_ n4_ n5_ n6_ n7_ n8_ n9_ n10_ n11_ n12_ n13_ n14_ n15_ n16_ n17_; clear hb hbox hg; have hnb66 := NB726_695.out; have hnc66 := NB695_726.out; have hnb67 := NB726_696.out; have hnc67 := NB696_726.out; have hnb68 := NB726_697.out; have hnc68 := NB697_726.out; have hnb69 := NB726_720.out; have hnc69 := NB720_726.out; have hcz70_0 : w65.cell? ⟨gb726, 0, none⟩ = some (.int .i64 0) := (blk_cell BK726.out 0).trans rfl; have hcz70_1 : w65.cell? ⟨gb726, 1, none⟩ = some (.int .i64 0) := (blk_cell BK726.out 1).trans rfl; have hfz70_0 := blk_frozen BK726.out 0; have hfz70_1 := blk_frozen BK726.out 1; have hnb71 := NB696_695.out; have hnc71 := NB695_696.out; have hnb72 := NB696_697.out; have hnc72 := NB697_696.out; have hcz73_0 : w65.cell? ⟨gb696, 0, none⟩ = some (.int .i64 0) := (blk_cell BK696.out 0).trans rfl; have hcz73_1 : w65.cell? ⟨gb696, 1, none⟩ = some (.int .i64 0) := (blk_cell BK696.out 1).trans rfl; have hfz73_0 := blk_frozen BK696.out 0; have hfz73_1 := blk_frozen BK696.out 1; have hnb74 := NB697_695.out; have hnc74 := NB695_697.out; have hcz75_0 : w65.cell? ⟨gb697, 0, none⟩ = some (.int .i64 0) := (blk_cell BK697.out 0).trans rfl; have hcz75_1 : w65.cell? ⟨gb697, 1, none⟩ = some (.int .i64 0) := (blk_cell BK697.out 1).trans rfl; have hfz75_0 := blk_frozen BK697.out 0; have hfz75_1 := blk_frozen BK697.out 1))
       refine bodyPost_ret (results_list (rs := [.cell 6 65, .cell 7 65, .tmp 8]) rfl (by simp) (.cell gb696 65 #[.int .i64 0, .int .i64 0] (0, 0) _ rfl (by (with_reducible repeat (first | refine blk_drewN ?_ _ | refine blk_drew ?_ | refine blk_alloc ?_ _)); refine blk_far ?_ NB696_697.out _; (with_reducible repeat (first | refine blk_drewN ?_ _ | refine blk_drew ?_ | refine blk_alloc ?_ _)); refine blk_far ?_ NB696_697.out _; (with_reducible repeat (first | refine blk_drewN ?_ _ | refine blk_drew ?_ | refine blk_alloc ?_ _)); refine blk_put (cs := #[.int .i64 0, .int .i64 0]) ?_ 1 _ rfl; (with_reducible repeat (first | refine blk_drewN ?_ _ | refine blk_drew ?_ | refine blk_alloc ?_ _)); refine blk_put (cs := #[.int .i64 0, .int .i64 0]) ?_ 0 _ rfl; (with_reducible repeat (first | refine blk_drewN ?_ _ | refine blk_drew ?_ | refine blk_alloc ?_ _)); refine blk_far ?_ NB696_726.out _; (with_reducible repeat (first | refine blk_drewN ?_ _ | refine blk_drew ?_ | refine blk_alloc ?_ _)); refine blk_far ?_ NB696_726.out _; (with_reducible repeat (first | refine blk_drewN ?_ _ | refine blk_drew ?_ | refine blk_alloc ?_ _)); exact BK696.out) Try.underlying65 rfl (by kernel_rfl) (.cell gb697 65 #[.int .i64 0, .int .i64 0] (0, 0) _ rfl (by (with_reducible repeat (first | refine blk_drewN ?_ _ | refine blk_drew ?_ | refine blk_alloc ?_ _)); refine blk_put (cs := #[.int .i64 0, .int .i64 0]) ?_ 1 _ rfl; (with_reducible repeat (first | refine blk_drewN ?_ _ | refine blk_drew ?_ | refine blk_alloc ?_ _)); refine blk_put (cs := #[.int .i64 0, .int .i64 0]) ?_ 0 _ rfl; (with_reducible repeat (first | refine blk_drewN ?_ _ | refine blk_drew ?_ | refine blk_alloc ?_ _)); refine blk_far ?_ NB697_696.out _; (with_reducible repeat (first | refine blk_drewN ?_ _ | refine blk_drew ?_ | refine blk_alloc ?_ _)); refine blk_far ?_ NB697_696.out _; (with_reducible repeat (first | refine blk_drewN ?_ _ | refine blk_drew ?_ | refine blk_alloc ?_ _)); refine blk_far ?_ NB697_726.out _; (with_reducible repeat (first | refine blk_drewN ?_ _ | refine blk_drew ?_ | refine blk_alloc ?_ _)); refine blk_far ?_ NB697_726.out _; (with_reducible repeat (first | refine blk_drewN ?_ _ | refine blk_drew ?_ | refine blk_alloc ?_ _)); exact BK697.out) Try.underlying65 rfl (by kernel_rfl) (.tmp .nil)))) rfl ?_
       exact ⟨by first | rfl | (simp [errW_none, errW_some] <;> rfl) | (simp [*, errW_none, errW_some] <;> rfl), by repeat (first | (with_reducible first | exact HB.out | apply below_alloc | apply pw_below_drewN | apply below_drew1 | refine below_set ?_ GE695.out | refine below_set ?_ GE696.out | refine below_set ?_ GE697.out | refine below_set ?_ GE720.out | refine below_set ?_ GE726.out) | exact HB.out)⟩
     ·rw [if_neg c31] at H
      have c31b0 : (t719 == 0) = false := beq_eq_false_iff_ne.mpr c31
      have c31b1 : (t719 != 0) = true := bne_iff_ne.mpr c31
      simp only [Option.some.injEq, Prod.mk.injEq] at H
      obtain ⟨rfl, rfl, rfl, rfl, rfl⟩ := H
      obtain ⟨Ao76, co76, eo76⟩ := Kd.R_slice HO_9.out
      subst eo76
      go_wp2_with (first | ((with_reducible refine gate_callee (f := 97) rfl ?_); refine goesL_ (some 94) rfl rfl Try.func97 (by kernel_rfl) rfl #[.int .i64 x14_1, .int .i64 (wrap64 (t704 * t705))] rfl (by (try simp only [List.map_toArray, List.map_cons, List.map_nil]); first | done | rfl | (simp only [List.length_drop, List.length_take]; rfl)) ?_; (with_reducible refine (spec_l01Frac.calls k1 x14_1 (wrap64 (t704 * t705)) t715 t716 _ A27.out).mono ?_); rintro e w77 ⟨rfl, hb⟩; refine ⟨_, rfl, ?_⟩; have n0_ := Aside0.mk (Kd.R_below (by (with_reducible repeat (first | apply Kd.R_alloc | apply Kd.R_drewN | apply Kd.R_drew)); exact HO_9.out) hb); have n1_ := Aside0.mk (Kd.R_below (by (with_reducible repeat (first | apply Kd.R_alloc | apply Kd.R_drewN | apply Kd.R_drew)); exact HO_10.out) hb); have n2_ := Aside0.mk (blk_below (g := gb695) (o := .cells #[.slice A0_0 l0_0.length c0_0, .slice A0_1 l0_1.length c0_1] 26 (0, 0)) (by (with_reducible repeat (first | refine blk_drewN ?_ _ | refine blk_drew ?_ | refine blk_alloc ?_ _)); exact BK695.out) hb); have n3_ := Aside0.mk (blk_below (g := gb696) (o := .cells #[.int .i64 0, .int .i64 0] 65 (0, 0)) (by (with_reducible repeat (first | refine blk_drewN ?_ _ | refine blk_drew ?_ | refine blk_alloc ?_ _)); exact BK696.out) hb); have n4_ := Aside0.mk (blk_below (g := gb697) (o := .cells #[.int .i64 0, .int .i64 0] 65 (0, 0)) (by (with_reducible repeat (first | refine blk_drewN ?_ _ | refine blk_drew ?_ | refine blk_alloc ?_ _)); exact BK697.out) hb); have n5_ := Aside0.mk (below_step (by repeat (first | (with_reducible first | exact HB.out | apply below_alloc | apply pw_below_drewN | apply below_drew1 | refine below_set ?_ GE695.out | refine below_set ?_ GE696.out | refine below_set ?_ GE697.out) | exact HB.out)) hb); clear HO_9; clear HO_10; clear BK695; clear BK696; clear BK697; clear HB; have HO_9 := n0_; have HO_10 := n1_; have BK695 := n2_; have BK696 := n3_; have BK697 := n4_; have HB := n5_; clear n0_ n1_ n2_ n3_ n4_ n5_; (try clear hb); (try clear hb2); (try clear hk); (try clear hi)) | ((with_reducible refine gate_callee (f := 96) rfl ?_); refine goesL_ (some 95) rfl rfl Try.func96 (by kernel_rfl) rfl #[.agg #[.int .i64 t715, .int .i64 t716]] rfl (by (try simp only [List.map_toArray, List.map_cons, List.map_nil]); first | done | rfl | (simp only [List.length_drop, List.length_take]; rfl)) ?_; (with_reducible refine (spec_l01Told.calls k1 t715 t716 t717 t718 t719 _ A28.out).mono ?_); rintro e w78 ⟨rfl, hb⟩; refine ⟨_, rfl, ?_⟩; have n0_ := Aside0.mk (Kd.R_below (by (with_reducible repeat (first | apply Kd.R_alloc | apply Kd.R_drewN | apply Kd.R_drew)); exact HO_9.out) hb); have n1_ := Aside0.mk (Kd.R_below (by (with_reducible repeat (first | apply Kd.R_alloc | apply Kd.R_drewN | apply Kd.R_drew)); exact HO_10.out) hb); have n2_ := Aside0.mk (blk_below (g := gb695) (o := .cells #[.slice A0_0 l0_0.length c0_0, .slice A0_1 l0_1.length c0_1] 26 (0, 0)) (by (with_reducible repeat (first | refine blk_drewN ?_ _ | refine blk_drew ?_ | refine blk_alloc ?_ _)); exact BK695.out) hb); have n3_ := Aside0.mk (blk_below (g := gb696) (o := .cells #[.int .i64 0, .int .i64 0] 65 (0, 0)) (by (with_reducible repeat (first | refine blk_drewN ?_ _ | refine blk_drew ?_ | refine blk_alloc ?_ _)); exact BK696.out) hb); have n4_ := Aside0.mk (blk_below (g := gb697) (o := .cells #[.int .i64 0, .int .i64 0] 65 (0, 0)) (by (with_reducible repeat (first | refine blk_drewN ?_ _ | refine blk_drew ?_ | refine blk_alloc ?_ _)); exact BK697.out) hb); have n5_ := Aside0.mk (below_step (by repeat (first | (with_reducible first | exact HB.out | apply below_alloc | apply pw_below_drewN | apply below_drew1 | refine below_set ?_ GE695.out | refine below_set ?_ GE696.out | refine below_set ?_ GE697.out) | exact HB.out)) hb); clear HO_9; clear HO_10; clear BK695; clear BK696; clear BK697; clear HB; have HO_9 := n0_; have HO_10 := n1_; have BK695 := n2_; have BK696 := n3_; have BK697 := n4_; have HB := n5_; clear n0_ n1_ n2_ n3_ n4_ n5_; (try clear hb); (try clear hb2); (try clear hk); (try clear hi)) | ((with_reducible refine gate_dst (N := 18) rfl ?_); refine box_event ?hg (N := 18) ?hd (cs := #[.int .i64 0, .int .i64 0]) (t := 65) ?hr ?_; (case hd => rfl); (case hg => rfl); (case hr => first | (go_simp; done) | (go_simp; rfl)); intro gb720 hg w79 hbox hb; have n0_ := Aside0.mk (Kd.R_below (by (with_reducible repeat (first | apply Kd.R_alloc | apply Kd.R_drewN | apply Kd.R_drew)); exact HO_9.out) hb); have n1_ := Aside0.mk (Kd.R_below (by (with_reducible repeat (first | apply Kd.R_alloc | apply Kd.R_drewN | apply Kd.R_drew)); exact HO_10.out) hb); have n2_ := Aside0.mk (blk_below (g := gb695) (o := .cells #[.slice A0_0 l0_0.length c0_0, .slice A0_1 l0_1.length c0_1] 26 (0, 0)) (by (with_reducible repeat (first | refine blk_drewN ?_ _ | refine blk_drew ?_ | refine blk_alloc ?_ _)); exact BK695.out) hb); have n3_ := Aside0.mk (blk_below (g := gb696) (o := .cells #[.int .i64 0, .int .i64 0] 65 (0, 0)) (by (with_reducible repeat (first | refine blk_drewN ?_ _ | refine blk_drew ?_ | refine blk_alloc ?_ _)); exact BK696.out) hb); have n4_ := Aside0.mk (blk_below (g := gb697) (o := .cells #[.int .i64 0, .int .i64 0] 65 (0, 0)) (by (with_reducible repeat (first | refine blk_drewN ?_ _ | refine blk_drew ?_ | refine blk_alloc ?_ _)); exact BK697.out) hb); have n5_ := Aside0.mk (below_step (by repeat (first | (with_reducible first | exact HB.out | apply below_alloc | apply pw_below_drewN | apply below_drew1 | refine below_set ?_ GE695.out | refine below_set ?_ GE696.out | refine below_set ?_ GE697.out) | exact HB.out)) hb); have n6_ := Aside0.mk (hbox); have n7_ := Aside0.mk ((by rw [hg]; exact (below_size (by repeat (first | (with_reducible first | exact HB.out | apply below_alloc | apply pw_below_drewN | apply below_drew1 | refine below_set ?_ GE695.out | refine below_set ?_ GE696.out | refine below_set ?_ GE697.out) | exact HB.out))) : w.heap.size ≤ gb720)); have n8_ := Aside0.mk ((by rw [hg]; exact (below_size (by repeat (first | (with_reducible first | exact HB.out | apply below_alloc | apply pw_below_drewN | apply below_drew1 | refine below_set ?_ GE695.out | refine below_set ?_ GE696.out | refine below_set ?_ GE697.out) | exact HB.out))) : w.heap.size ≤ gb720)); have n9_ := Aside0.mk ((by rw [hg]; exact Nat.ne_of_lt (blk_lt (g := gb695) (o := .cells #[.slice A0_0 l0_0.length c0_0, .slice A0_1 l0_1.length c0_1] 26 (0, 0)) (by (with_reducible repeat (first | refine blk_drewN ?_ _ | refine blk_drew ?_ | refine blk_alloc ?_ _)); exact BK695.out)) : gb695 ≠ gb720)); have n10_ := Aside0.mk ((by rw [hg]; exact Nat.ne_of_gt (blk_lt (g := gb695) (o := .cells #[.slice A0_0 l0_0.length c0_0, .slice A0_1 l0_1.length c0_1] 26 (0, 0)) (by (with_reducible repeat (first | refine blk_drewN ?_ _ | refine blk_drew ?_ | refine blk_alloc ?_ _)); exact BK695.out)) : gb720 ≠ gb695)); have n11_ := Aside0.mk ((by rw [hg]; exact Nat.ne_of_lt (blk_lt (g := gb696) (o := .cells #[.int .i64 0, .int .i64 0] 65 (0, 0)) (by (with_reducible repeat (first | refine blk_drewN ?_ _ | refine blk_drew ?_ | refine blk_alloc ?_ _)); exact BK696.out)) : gb696 ≠ gb720)); have n12_ := Aside0.mk ((by rw [hg]; exact Nat.ne_of_gt (blk_lt (g := gb696) (o := .cells #[.int .i64 0, .int .i64 0] 65 (0, 0)) (by (with_reducible repeat (first | refine blk_drewN ?_ _ | refine blk_drew ?_ | refine blk_alloc ?_ _)); exact BK696.out)) : gb720 ≠ gb696)); have n13_ := Aside0.mk ((by rw [hg]; exact Nat.ne_of_lt (blk_lt (g := gb697) (o := .cells #[.int .i64 0, .int .i64 0] 65 (0, 0)) (by (with_reducible repeat (first | refine blk_drewN ?_ _ | refine blk_drew ?_ | refine blk_alloc ?_ _)); exact BK697.out)) : gb697 ≠ gb720)); have n14_ := Aside0.mk ((by rw [hg]; exact Nat.ne_of_gt (blk_lt (g := gb697) (o := .cells #[.int .i64 0, .int .i64 0] 65 (0, 0)) (by (with_reducible repeat (first | refine blk_drewN ?_ _ | refine blk_drew ?_ | refine blk_alloc ?_ _)); exact BK697.out)) : gb720 ≠ gb697)); clear HO_9; clear HO_10; clear BK695; clear BK696; clear BK697; clear HB; have HO_9 := n0_; have HO_10 := n1_; have BK695 := n2_; have BK696 := n3_; have BK697 := n4_; have HB := n5_; have BK720 := n6_; have GW720 := n7_; have GE720 := n8_; have NB695_720 := n9_; have NB720_695 := n10_; have NB696_720 := n11_; have NB720_696 := n12_; have NB697_720 := n13_; have NB720_697 := n14_; clear n0_ n1_ n2_ n3_ n4_ n5_ n6_ n7_ n8_ n9_ n10_ n11_ n12_ n13_ n14_; clear hb hbox hg; have hnb80 := NB720_695.out; have hnc80 := NB695_720.out; have hnb81 := NB720_696.out; have hnc81 := NB696_720.out; have hnb82 := NB720_697.out; have hnc82 := NB697_720.out; have hcz83_0 : w79.cell? ⟨gb720, 0, none⟩ = some (.int .i64 0) := (blk_cell BK720.out 0).trans rfl; have hcz83_1 : w79.cell? ⟨gb720, 1, none⟩ = some (.int .i64 0) := (blk_cell BK720.out 1).trans rfl; have hfz83_0 := blk_frozen BK720.out 0; have hfz83_1 := blk_frozen BK720.out 1) | ((with_reducible refine gate_callee (f := 97) rfl ?_); refine goesL_ (some 103) rfl rfl Try.func97 (by kernel_rfl) rfl #[.int .i64 x15_1, .int .i64 (wrap64 (t704 * t705))] rfl (by (try simp only [List.map_toArray, List.map_cons, List.map_nil]); first | done | rfl | (simp only [List.length_drop, List.length_take]; rfl)) ?_; (with_reducible refine (spec_l01Frac.calls k1 x15_1 (wrap64 (t704 * t705)) t721 t722 _ A29.out).mono ?_); rintro e w84 ⟨rfl, hb⟩; refine ⟨_, rfl, ?_⟩; have n0_ := Aside0.mk (Kd.R_below (by (with_reducible repeat (first | apply Kd.R_alloc | apply Kd.R_drewN | apply Kd.R_drew)); exact (Kd.R_mono (Kd.R_far (p := ⟨gb720, 1, none⟩) (Kd.R_far (p := ⟨gb720, 0, none⟩) (Kd.R_types HO_9.out BK720.out (by decide)) (fun _ hk => hk.2) (.int .i64 t717)) (fun _ hk => hk.2) (.int .i64 t718)) (fun _ h_ => h_.1))) hb); have n1_ := Aside0.mk (Kd.R_below (by (with_reducible repeat (first | apply Kd.R_alloc | apply Kd.R_drewN | apply Kd.R_drew)); exact (Kd.R_mono (Kd.R_far (p := ⟨gb720, 1, none⟩) (Kd.R_far (p := ⟨gb720, 0, none⟩) (Kd.R_types HO_10.out BK720.out (by decide)) (fun _ hk => hk.2) (.int .i64 t717)) (fun _ hk => hk.2) (.int .i64 t718)) (fun _ h_ => h_.1))) hb); have n2_ := Aside0.mk (blk_below (g := gb695) (o := .cells #[.slice A0_0 l0_0.length c0_0, .slice A0_1 l0_1.length c0_1] 26 (0, 0)) (by (with_reducible repeat (first | refine blk_drewN ?_ _ | refine blk_drew ?_ | refine blk_alloc ?_ _)); refine blk_far ?_ NB695_720.out _; (with_reducible repeat (first | refine blk_drewN ?_ _ | refine blk_drew ?_ | refine blk_alloc ?_ _)); refine blk_far ?_ NB695_720.out _; (with_reducible repeat (first | refine blk_drewN ?_ _ | refine blk_drew ?_ | refine blk_alloc ?_ _)); exact BK695.out) hb); have n3_ := Aside0.mk (blk_below (g := gb696) (o := .cells #[.int .i64 0, .int .i64 0] 65 (0, 0)) (by (with_reducible repeat (first | refine blk_drewN ?_ _ | refine blk_drew ?_ | refine blk_alloc ?_ _)); refine blk_far ?_ NB696_720.out _; (with_reducible repeat (first | refine blk_drewN ?_ _ | refine blk_drew ?_ | refine blk_alloc ?_ _)); refine blk_far ?_ NB696_720.out _; (with_reducible repeat (first | refine blk_drewN ?_ _ | refine blk_drew ?_ | refine blk_alloc ?_ _)); exact BK696.out) hb); have n4_ := Aside0.mk (blk_below (g := gb697) (o := .cells #[.int .i64 0, .int .i64 0] 65 (0, 0)) (by (with_reducible repeat (first | refine blk_drewN ?_ _ | refine blk_drew ?_ | refine blk_alloc ?_ _)); refine blk_far ?_ NB697_720.out _; (with_reducible repeat (first | refine blk_drewN ?_ _ | refine blk_drew ?_ | refine blk_alloc ?_ _)); refine blk_far ?_ NB697_720.out _; (with_reducible repeat (first | refine blk_drewN ?_ _ | refine blk_drew ?_ | refine blk_alloc ?_ _)); exact BK697.out) hb); have n5_ := Aside0.mk (blk_below (g := gb720) (o := .cells #[.int .i64 t717, .int .i64 t718] 65 (0, 0)) (by (with_reducible repeat (first | refine blk_drewN ?_ _ | refine blk_drew ?_ | refine blk_alloc ?_ _)); refine blk_put (cs := #[.int .i64 t717, .int .i64 0]) ?_ 1 _ rfl; (with_reducible repeat (first | refine blk_drewN ?_ _ | refine blk_drew ?_ | refine blk_alloc ?_ _)); refine blk_put (cs := #[.int .i64 0, .int .i64 0]) ?_ 0 _ rfl; (with_reducible repeat (first | refine blk_drewN ?_ _ | refine blk_drew ?_ | refine blk_alloc ?_ _)); exact BK720.out) hb); have n6_ := Aside0.mk (below_step (by repeat (first | (with_reducible first | exact HB.out | apply below_alloc | apply pw_below_drewN | apply below_drew1 | refine below_set ?_ GE695.out | refine below_set ?_ GE696.out | refine below_set ?_ GE697.out | refine below_set ?_ GE720.out) | exact HB.out)) hb); clear HO_9; clear HO_10; clear BK695; clear BK696; clear BK697; clear BK720; clear HB; have HO_9 := n0_; have HO_10 := n1_; have BK695 := n2_; have BK696 := n3_; have BK697 := n4_; have BK720 := n5_; have HB := n6_; clear n0_ n1_ n2_ n3_ n4_ n5_ n6_; (try clear hb); (try clear hb2); (try clear hk); (try clear hi)) | ((with_reducible refine gate_callee (f := 96) rfl ?_); refine goesL_ (some 104) rfl rfl Try.func96 (by kernel_rfl) rfl #[.agg #[.int .i64 t721, .int .i64 t722]] rfl (by (try simp only [List.map_toArray, List.map_cons, List.map_nil]); first | done | rfl | (simp only [List.length_drop, List.length_take]; rfl)) ?_; (with_reducible refine (spec_l01Told.calls k1 t721 t722 t723 t724 t725 _ A30.out).mono ?_); rintro e w85 ⟨rfl, hb⟩; refine ⟨_, rfl, ?_⟩; have n0_ := Aside0.mk (Kd.R_below (by (with_reducible repeat (first | apply Kd.R_alloc | apply Kd.R_drewN | apply Kd.R_drew)); exact HO_9.out) hb); have n1_ := Aside0.mk (Kd.R_below (by (with_reducible repeat (first | apply Kd.R_alloc | apply Kd.R_drewN | apply Kd.R_drew)); exact HO_10.out) hb); have n2_ := Aside0.mk (blk_below (g := gb695) (o := .cells #[.slice A0_0 l0_0.length c0_0, .slice A0_1 l0_1.length c0_1] 26 (0, 0)) (by (with_reducible repeat (first | refine blk_drewN ?_ _ | refine blk_drew ?_ | refine blk_alloc ?_ _)); exact BK695.out) hb); have n3_ := Aside0.mk (blk_below (g := gb696) (o := .cells #[.int .i64 0, .int .i64 0] 65 (0, 0)) (by (with_reducible repeat (first | refine blk_drewN ?_ _ | refine blk_drew ?_ | refine blk_alloc ?_ _)); exact BK696.out) hb); have n4_ := Aside0.mk (blk_below (g := gb697) (o := .cells #[.int .i64 0, .int .i64 0] 65 (0, 0)) (by (with_reducible repeat (first | refine blk_drewN ?_ _ | refine blk_drew ?_ | refine blk_alloc ?_ _)); exact BK697.out) hb); have n5_ := Aside0.mk (blk_below (g := gb720) (o := .cells #[.int .i64 t717, .int .i64 t718] 65 (0, 0)) (by (with_reducible repeat (first | refine blk_drewN ?_ _ | refine blk_drew ?_ | refine blk_alloc ?_ _)); exact BK720.out) hb); have n6_ := Aside0.mk (below_step (by repeat (first | (with_reducible first | exact HB.out | apply below_alloc | apply pw_below_drewN | apply below_drew1 | refine below_set ?_ GE695.out | refine below_set ?_ GE696.out | refine below_set ?_ GE697.out | refine below_set ?_ GE720.out) | exact HB.out)) hb); clear HO_9; clear HO_10; clear BK695; clear BK696; clear BK697; clear BK720; clear HB; have HO_9 := n0_; have HO_10 := n1_; have BK695 := n2_; have BK696 := n3_; have BK697 := n4_; have BK720 := n5_; have HB := n6_; clear n0_ n1_ n2_ n3_ n4_ n5_ n6_; (try clear hb); (try clear hb2); (try clear hk); (try clear hi)) | ((with_reducible refine gate_dst (N := 20) rfl ?_); refine box_event ?hg (N := 20) ?hd (cs := #[.int .i64 0, .int .i64 0]) (t := 65) ?hr ?_; (case hd => rfl); (case hg => rfl); (case hr => first | (go_simp; done) | (go_simp; rfl)); intro gb726 hg w86 hbox hb; have n0_ := Aside0.mk (Kd.R_below (by (with_reducible repeat (first | apply Kd.R_alloc | apply Kd.R_drewN | apply Kd.R_drew)); exact HO_9.out) hb); have n1_ := Aside0.mk (Kd.R_below (by (with_reducible repeat (first | apply Kd.R_alloc | apply Kd.R_drewN | apply Kd.R_drew)); exact HO_10.out) hb); have n2_ := Aside0.mk (blk_below (g := gb695) (o := .cells #[.slice A0_0 l0_0.length c0_0, .slice A0_1 l0_1.length c0_1] 26 (0, 0)) (by (with_reducible repeat (first | refine blk_drewN ?_ _ | refine blk_drew ?_ | refine blk_alloc ?_ _)); exact BK695.out) hb); have n3_ := Aside0.mk (blk_below (g := gb696) (o := .cells #[.int .i64 0, .int .i64 0] 65 (0, 0)) (by (with_reducible repeat (first | refine blk_drewN ?_ _ | refine blk_drew ?_ | refine blk_alloc ?_ _)); exact BK696.out) hb); have n4_ := Aside0.mk (blk_below (g := gb697) (o := .cells #[.int .i64 0, .int .i64 0] 65 (0, 0)) (by (with_reducible repeat (first | refine blk_drewN ?_ _ | refine blk_drew ?_ | refine blk_alloc ?_ _)); exact BK697.out) hb); have n5_ := Aside0.mk (blk_below (g := gb720) (o := .cells #[.int .i64 t717, .int .i64 t718] 65 (0, 0)) (by (with_reducible repeat (first | refine blk_drewN ?_ _ | refine blk_drew ?_ | refine blk_alloc ?_ _)); exact BK720.out) hb); have n6_ := Aside0.mk (below_step (by repeat (first | (with_reducible first | exact HB.out | apply below_alloc | apply pw_below_drewN | apply below_drew1 | refine below_set ?_ GE695.out | refine below_set ?_ GE696.out | refine below_set ?_ GE697.out | refine below_set ?_ GE720.out) | exact HB.out)) hb); have n7_ := Aside0.mk (hbox); have n8_ := Aside0.mk ((by rw [hg]; exact (below_size (by repeat (first | (with_reducible first | exact HB.out | apply below_alloc | apply pw_below_drewN | apply below_drew1 | refine below_set ?_ GE695.out | refine below_set ?_ GE696.out | refine below_set ?_ GE697.out | refine below_set ?_ GE720.out) | exact HB.out))) : w.heap.size ≤ gb726)); have n9_ := Aside0.mk ((by rw [hg]; exact (below_size (by repeat (first | (with_reducible first | exact HB.out | apply below_alloc | apply pw_below_drewN | apply below_drew1 | refine below_set ?_ GE695.out | refine below_set ?_ GE696.out | refine below_set ?_ GE697.out | refine below_set ?_ GE720.out) | exact HB.out))) : w.heap.size ≤ gb726)); have n10_ := Aside0.mk ((by rw [hg]; exact Nat.ne_of_lt (blk_lt (g := gb695) (o := .cells #[.slice A0_0 l0_0.length c0_0, .slice A0_1 l0_1.length c0_1] 26 (0, 0)) (by (with_reducible repeat (first | refine blk_drewN ?_ _ | refine blk_drew ?_ | refine blk_alloc ?_ _)); exact BK695.out)) : gb695 ≠ gb726)); have n11_ := Aside0.mk ((by rw [hg]; exact Nat.ne_of_gt (blk_lt (g := gb695) (o := .cells #[.slice A0_0 l0_0.length c0_0, .slice A0_1 l0_1.length c0_1] 26 (0, 0)) (by (with_reducible repeat (first | refine blk_drewN ?_ _ | refine blk_drew ?_ | refine blk_alloc ?_ _)); exact BK695.out)) : gb726 ≠ gb695)); have n12_ := Aside0.mk ((by rw [hg]; exact Nat.ne_of_lt (blk_lt (g := gb696) (o := .cells #[.int .i64 0, .int .i64 0] 65 (0, 0)) (by (with_reducible repeat (first | refine blk_drewN ?_ _ | refine blk_drew ?_ | refine blk_alloc ?_ _)); exact BK696.out)) : gb696 ≠ gb726)); have n13_ := Aside0.mk ((by rw [hg]; exact Nat.ne_of_gt (blk_lt (g := gb696) (o := .cells #[.int .i64 0, .int .i64 0] 65 (0, 0)) (by (with_reducible repeat (first | refine blk_drewN ?_ _ | refine blk_drew ?_ | refine blk_alloc ?_ _)); exact BK696.out)) : gb726 ≠ gb696)); have n14_ := Aside0.mk ((by rw [hg]; exact Nat.ne_of_lt (blk_lt (g := gb697) (o := .cells #[.int .i64 0, .int .i64 0] 65 (0, 0)) (by (with_reducible repeat (first | refine blk_drewN ?_ _ | refine blk_drew ?_ | refine blk_alloc ?_ _)); exact BK697.out)) : gb697 ≠ gb726)); have n15_ := Aside0.mk ((by rw [hg]; exact Nat.ne_of_gt (blk_lt (g := gb697) (o := .cells #[.int .i64 0, .int .i64 0] 65 (0, 0)) (by (with_reducible repeat (first | refine blk_drewN ?_ _ | refine blk_drew ?_ | refine blk_alloc ?_ _)); exact BK697.out)) : gb726 ≠ gb697)); have n16_ := Aside0.mk ((by rw [hg]; exact Nat.ne_of_lt (blk_lt (g := gb720) (o := .cells #[.int .i64 t717, .int .i64 t718] 65 (0, 0)) (by (with_reducible repeat (first | refine blk_drewN ?_ _ | refine blk_drew ?_ | refine blk_alloc ?_ _)); exact BK720.out)) : gb720 ≠ gb726)); have n17_ := Aside0.mk ((by rw [hg]; exact Nat.ne_of_gt (blk_lt (g := gb720) (o := .cells #[.int .i64 t717, .int .i64 t718] 65 (0, 0)) (by (with_reducible repeat (first | refine blk_drewN ?_ _ | refine blk_drew ?_ | refine blk_alloc ?_ _)); exact BK720.out)) : gb726 ≠ gb720)); clear HO_9; clear HO_10; clear BK695; clear BK696; clear BK697; clear BK720; clear HB; have HO_9 := n0_; have HO_10 := n1_; have BK695 := n2_; have BK696 := n3_; have BK697 := n4_; have BK720 := n5_; have HB := n6_; have BK726 := n7_; have GW726 := n8_; have GE726 := n9_; have NB695_726 := n10_; have NB726_695 := n11_; have NB696_726 := n12_; have NB726_696 := n13_; have NB697_726 := n14_; have NB726_697 := n15_; have NB720_726 := n16_; have NB726_720 := n17_; clear n0_ n1_ n2_ n3_ n4_ n5_ n6_ n7_ n8_ n9_ n10_ n11_ n12_ n13_ n14_ n15_ n16_ n17_; clear hb hbox hg; have hnb87 := NB726_695.out; have hnc87 := NB695_726.out; have hnb88 := NB726_696.out; have hnc88 := NB696_726.out; have hnb89 := NB726_697.out; have hnc89 := NB697_726.out; have hnb90 := NB726_720.out; have hnc90 := NB720_726.out; have hcz91_0 : w86.cell? ⟨gb726, 0, none⟩ = some (.int .i64 0) := (blk_cell BK726.out 0).trans rfl; have hcz91_1 : w86.cell? ⟨gb726, 1, none⟩ = some (.int .i64 0) := (blk_cell BK726.out 1).trans rfl; have hfz91_0 := blk_frozen BK726.out 0; have hfz91_1 := blk_frozen BK726.out 1; have hnb92 := NB696_695.out; have hnc92 := NB695_696.out; have hnb93 := NB696_697.out; have hnc93 := NB697_696.out; have hcz94_0 : w86.cell? ⟨gb696, 0, none⟩ = some (.int .i64 0) := (blk_cell BK696.out 0).trans rfl; have hcz94_1 : w86.cell? ⟨gb696, 1, none⟩ = some (.int .i64 0) := (blk_cell BK696.out 1).trans rfl; have hfz94_0 := blk_frozen BK696.out 0; have hfz94_1 := blk_frozen BK696.out 1; have hnb95 := NB697_695.out; have hnc95 := NB695_697.out; have hcz96_0 : w86.cell? ⟨gb697, 0, none⟩ = some (.int .i64 0) := (blk_cell BK697.out 0).trans rfl; have hcz96_1 : w86.cell? ⟨gb697, 1, none⟩ = some (.int .i64 0) := (blk_cell BK697.out 1).trans rfl; have hfz96_0 := blk_frozen BK697.out 0; have hfz96_1 := blk_frozen BK697.out 1))
      refine bodyPost_ret (results_list (rs := [.cell 6 65, .cell 7 65, .tmp 8]) rfl (by simp) (.cell gb696 65 #[.int .i64 0, .int .i64 0] (0, 0) _ rfl (by (with_reducible repeat (first | refine blk_drewN ?_ _ | refine blk_drew ?_ | refine blk_alloc ?_ _)); refine blk_far ?_ NB696_697.out _; (with_reducible repeat (first | refine blk_drewN ?_ _ | refine blk_drew ?_ | refine blk_alloc ?_ _)); refine blk_far ?_ NB696_697.out _; (with_reducible repeat (first | refine blk_drewN ?_ _ | refine blk_drew ?_ | refine blk_alloc ?_ _)); refine blk_put (cs := #[.int .i64 0, .int .i64 0]) ?_ 1 _ rfl; (with_reducible repeat (first | refine blk_drewN ?_ _ | refine blk_drew ?_ | refine blk_alloc ?_ _)); refine blk_put (cs := #[.int .i64 0, .int .i64 0]) ?_ 0 _ rfl; (with_reducible repeat (first | refine blk_drewN ?_ _ | refine blk_drew ?_ | refine blk_alloc ?_ _)); refine blk_far ?_ NB696_726.out _; (with_reducible repeat (first | refine blk_drewN ?_ _ | refine blk_drew ?_ | refine blk_alloc ?_ _)); refine blk_far ?_ NB696_726.out _; (with_reducible repeat (first | refine blk_drewN ?_ _ | refine blk_drew ?_ | refine blk_alloc ?_ _)); exact BK696.out) Try.underlying65 rfl (by kernel_rfl) (.cell gb697 65 #[.int .i64 0, .int .i64 0] (0, 0) _ rfl (by (with_reducible repeat (first | refine blk_drewN ?_ _ | refine blk_drew ?_ | refine blk_alloc ?_ _)); refine blk_put (cs := #[.int .i64 0, .int .i64 0]) ?_ 1 _ rfl; (with_reducible repeat (first | refine blk_drewN ?_ _ | refine blk_drew ?_ | refine blk_alloc ?_ _)); refine blk_put (cs := #[.int .i64 0, .int .i64 0]) ?_ 0 _ rfl; (with_reducible repeat (first | refine blk_drewN ?_ _ | refine blk_drew ?_ | refine blk_alloc ?_ _)); refine blk_far ?_ NB697_696.out _; (with_reducible repeat (first | refine blk_drewN ?_ _ | refine blk_drew ?_ | refine blk_alloc ?_ _)); refine blk_far ?_ NB697_696.out _; (with_reducible repeat (first | refine blk_drewN ?_ _ | refine blk_drew ?_ | refine blk_alloc ?_ _)); refine blk_far ?_ NB697_726.out _; (with_reducible repeat (first | refine blk_drewN ?_ _ | refine blk_drew ?_ | refine blk_alloc ?_ _)); refine blk_far ?_ NB697_726.out _; (with_reducible repeat (first | refine blk_drewN ?_ _ | refine blk_drew ?_ | refine blk_alloc ?_ _)); exact BK697.out) Try.underlying65 rfl (by kernel_rfl) (.tmp .nil)))) rfl ?_
      exact ⟨by first | rfl | (simp [errW_none, errW_some] <;> rfl) | (simp [*, errW_none, errW_some] <;> rfl), by repeat (first | (with_reducible first | exact HB.out | apply below_alloc | apply pw_below_drewN | apply below_drew1 | refine below_set ?_ GE695.out | refine below_set ?_ GE696.out | refine below_set ?_ GE697.out | refine below_set ?_ GE720.out | refine below_set ?_ GE726.out) | exact HB.out)⟩
 ·rw [if_neg c5] at H
  have c5b0 : (t706 == 0) = false := beq_eq_false_iff_ne.mpr c5
  have c5b1 : (t706 != 0) = true := bne_iff_ne.mpr c5
  simp only [Option.some.injEq, Prod.mk.injEq] at H
  obtain ⟨rfl, rfl, rfl, rfl, rfl⟩ := H
  go_enter Try.func45, Try.ntmps45
  go_wp2_with (first | ((with_reducible refine gate_dst (N := 3) rfl ?_); refine box_event ?hg (N := 3) ?hd (cs := #[.slice A0_0 l0_0.length c0_0, .slice A0_1 l0_1.length c0_1]) (t := 26) ?hr ?_; (case hd => rfl); (case hg => rfl); (case hr => first | (go_simp; done) | (go_simp; rfl)); intro gb695 hg w97 hbox hb; have n0_ := Aside0.mk (below_step (by repeat (first | (with_reducible first | exact HB.out | apply below_alloc | apply pw_below_drewN | apply below_drew1) | exact HB.out)) hb); have n1_ := Aside0.mk (hbox); have n2_ := Aside0.mk ((by rw [hg]; exact (below_size (by repeat (first | (with_reducible first | exact HB.out | apply below_alloc | apply pw_below_drewN | apply below_drew1) | exact HB.out))) : w.heap.size ≤ gb695)); have n3_ := Aside0.mk ((by rw [hg]; exact (below_size (by repeat (first | (with_reducible first | exact HB.out | apply below_alloc | apply pw_below_drewN | apply below_drew1) | exact HB.out))) : w.heap.size ≤ gb695)); clear HB; have HB := n0_; have BK695 := n1_; have GW695 := n2_; have GE695 := n3_; clear n0_ n1_ n2_ n3_; clear hb hbox hg) | ((with_reducible refine gate_dst (N := 6) rfl ?_); refine box_event ?hg (N := 6) ?hd (cs := #[.int .i64 0, .int .i64 0]) (t := 65) ?hr ?_; (case hd => rfl); (case hg => rfl); (case hr => first | (go_simp; done) | (go_simp; rfl)); intro gb696 hg w98 hbox hb; have n0_ := Aside0.mk (blk_below (g := gb695) (o := .cells #[.slice A0_0 l0_0.length c0_0, .slice A0_1 l0_1.length c0_1] 26 (0, 0)) (by (with_reducible repeat (first | refine blk_drewN ?_ _ | refine blk_drew ?_ | refine blk_alloc ?_ _)); exact BK695.out) hb); have n1_ := Aside0.mk (below_step (by repeat (first | (with_reducible first | exact HB.out | apply below_alloc | apply pw_below_drewN | apply below_drew1 | refine below_set ?_ GE695.out) | exact HB.out)) hb); have n2_ := Aside0.mk (hbox); have n3_ := Aside0.mk ((by rw [hg]; exact (below_size (by repeat (first | (with_reducible first | exact HB.out | apply below_alloc | apply pw_below_drewN | apply below_drew1 | refine below_set ?_ GE695.out) | exact HB.out))) : w.heap.size ≤ gb696)); have n4_ := Aside0.mk ((by rw [hg]; exact (below_size (by repeat (first | (with_reducible first | exact HB.out | apply below_alloc | apply pw_below_drewN | apply below_drew1 | refine below_set ?_ GE695.out) | exact HB.out))) : w.heap.size ≤ gb696)); have n5_ := Aside0.mk ((by rw [hg]; exact Nat.ne_of_lt (blk_lt (g := gb695) (o := .cells #[.slice A0_0 l0_0.length c0_0, .slice A0_1 l0_1.length c0_1] 26 (0, 0)) (by (with_reducible repeat (first | refine blk_drewN ?_ _ | refine blk_drew ?_ | refine blk_alloc ?_ _)); exact BK695.out)) : gb695 ≠ gb696)); have n6_ := Aside0.mk ((by rw [hg]; exact Nat.ne_of_gt (blk_lt (g := gb695) (o := .cells #[.slice A0_0 l0_0.length c0_0, .slice A0_1 l0_1.length c0_1] 26 (0, 0)) (by (with_reducible repeat (first | refine blk_drewN ?_ _ | refine blk_drew ?_ | refine blk_alloc ?_ _)); exact BK695.out)) : gb696 ≠ gb695)); clear BK695; clear HB; have BK695 := n0_; have HB := n1_; have BK696 := n2_; have GW696 := n3_; have GE696 := n4_; have NB695_696 := n5_; have NB696_695 := n6_; clear n0_ n1_ n2_ n3_ n4_ n5_ n6_; clear hb hbox hg) | ((with_reducible refine gate_dst (N := 7) rfl ?_); refine box_event ?hg (N := 7) ?hd (cs := #[.int .i64 0, .int .i64 0]) (t := 65) ?hr ?_; (case hd => rfl); (case hg => rfl); (case hr => first | (go_simp; done) | (go_simp; rfl)); intro gb697 hg w99 hbox hb; have n0_ := Aside0.mk (blk_below (g := gb695) (o := .cells #[.slice A0_0 l0_0.length c0_0, .slice A0_1 l0_1.length c0_1] 26 (0, 0)) (by (with_reducible repeat (first | refine blk_drewN ?_ _ | refine blk_drew ?_ | refine blk_alloc ?_ _)); exact BK695.out) hb); have n1_ := Aside0.mk (blk_below (g := gb696) (o := .cells #[.int .i64 0, .int .i64 0] 65 (0, 0)) (by (with_reducible repeat (first | refine blk_drewN ?_ _ | refine blk_drew ?_ | refine blk_alloc ?_ _)); exact BK696.out) hb); have n2_ := Aside0.mk (below_step (by repeat (first | (with_reducible first | exact HB.out | apply below_alloc | apply pw_below_drewN | apply below_drew1 | refine below_set ?_ GE695.out | refine below_set ?_ GE696.out) | exact HB.out)) hb); have n3_ := Aside0.mk (hbox); have n4_ := Aside0.mk ((by rw [hg]; exact (below_size (by repeat (first | (with_reducible first | exact HB.out | apply below_alloc | apply pw_below_drewN | apply below_drew1 | refine below_set ?_ GE695.out | refine below_set ?_ GE696.out) | exact HB.out))) : w.heap.size ≤ gb697)); have n5_ := Aside0.mk ((by rw [hg]; exact (below_size (by repeat (first | (with_reducible first | exact HB.out | apply below_alloc | apply pw_below_drewN | apply below_drew1 | refine below_set ?_ GE695.out | refine below_set ?_ GE696.out) | exact HB.out))) : w.heap.size ≤ gb697)); have n6_ := Aside0.mk ((by rw [hg]; exact Nat.ne_of_lt (blk_lt (g := gb695) (o := .cells #[.slice A0_0 l0_0.length c0_0, .slice A0_1 l0_1.length c0_1] 26 (0, 0)) (by (with_reducible repeat (first | refine blk_drewN ?_ _ | refine blk_drew ?_ | refine blk_alloc ?_ _)); exact BK695.out)) : gb695 ≠ gb697)); have n7_ := Aside0.mk ((by rw [hg]; exact Nat.ne_of_gt (blk_lt (g := gb695) (o := .cells #[.slice A0_0 l0_0.length c0_0, .slice A0_1 l0_1.length c0_1] 26 (0, 0)) (by (with_reducible repeat (first | refine blk_drewN ?_ _ | refine blk_drew ?_ | refine blk_alloc ?_ _)); exact BK695.out)) : gb697 ≠ gb695)); have n8_ := Aside0.mk ((by rw [hg]; exact Nat.ne_of_lt (blk_lt (g := gb696) (o := .cells #[.int .i64 0, .int .i64 0] 65 (0, 0)) (by (with_reducible repeat (first | refine blk_drewN ?_ _ | refine blk_drew ?_ | refine blk_alloc ?_ _)); exact BK696.out)) : gb696 ≠ gb697)); have n9_ := Aside0.mk ((by rw [hg]; exact Nat.ne_of_gt (blk_lt (g := gb696) (o := .cells #[.int .i64 0, .int .i64 0] 65 (0, 0)) (by (with_reducible repeat (first | refine blk_drewN ?_ _ | refine blk_drew ?_ | refine blk_alloc ?_ _)); exact BK696.out)) : gb697 ≠ gb696)); clear BK695; clear BK696; clear HB; have BK695 := n0_; have BK696 := n1_; have HB := n2_; have BK697 := n3_; have GW697 := n4_; have GE697 := n5_; have NB695_697 := n6_; have NB697_695 := n7_; have NB696_697 := n8_; have NB697_696 := n9_; clear n0_ n1_ n2_ n3_ n4_ n5_ n6_ n7_ n8_ n9_; clear hb hbox hg; have hnb100 := NB695_696.out; have hnc100 := NB696_695.out; have hnb101 := NB695_697.out; have hnc101 := NB697_695.out; have hcz102_0 : w99.cell? ⟨gb695, 0, none⟩ = some (.slice A0_0 l0_0.length c0_0) := (blk_cell BK695.out 0).trans rfl; have hcz102_1 : w99.cell? ⟨gb695, 1, none⟩ = some (.slice A0_1 l0_1.length c0_1) := (blk_cell BK695.out 1).trans rfl; have hfz102_0 := blk_frozen BK695.out 0; have hfz102_1 := blk_frozen BK695.out 1) | ((with_reducible refine gate_callee (f := 95) rfl ?_); refine goesL_ (some 26) rfl rfl Try.func95 (by kernel_rfl) rfl #[.agg #[.slice A0_0 l0_0.length c0_0, .slice A0_1 l0_1.length c0_1], .slice A1 l1.length c1, .slice A2 l2.length c2, .int .i64 30000] rfl (by (try simp only [List.map_toArray, List.map_cons, List.map_nil]); first | done | rfl | (simp only [List.length_drop, List.length_take]; rfl)) ?_; (with_reducible refine (spec_l07Both.calls k _ _ l0_0 _ _ l0_1 _ _ l1 _ _ l2 30000 t698 t701 t704 t705 t706 _ ?side1 ?side2 ?side3 ?side4 ?side5 ?side6 ?side7 ?side8 A4.out).mono ?_); (case side1 => repeat (first | exact (Kd.C_below HR0_0.out HB.out) | (with_reducible refine Kd.C_alloc ?_ _) | (with_reducible refine Kd.C_drewN ?_ _) | (with_reducible refine Kd.C_drew ?_))); (case side2 => exact HC0_0.out); (case side3 => repeat (first | exact (Kd.C_below HR0_1.out HB.out) | (with_reducible refine Kd.C_alloc ?_ _) | (with_reducible refine Kd.C_drewN ?_ _) | (with_reducible refine Kd.C_drew ?_))); (case side4 => exact HC0_1.out); (case side5 => repeat (first | exact (Kd.C_below HR1.out HB.out) | (with_reducible refine Kd.C_alloc ?_ _) | (with_reducible refine Kd.C_drewN ?_ _) | (with_reducible refine Kd.C_drew ?_))); (case side6 => exact HC1.out); (case side7 => repeat (first | exact (Kd.C_below HR2.out HB.out) | (with_reducible refine Kd.C_alloc ?_ _) | (with_reducible refine Kd.C_drewN ?_ _) | (with_reducible refine Kd.C_drew ?_))); (case side8 => exact HC2.out); rintro e w103 ⟨v699, v702, rfl, ho0, ho1, hb⟩; refine ⟨_, rfl, ?_⟩; have n0_ := Aside0.mk (Kd.R_lower ho0 (below_size (by repeat (first | (with_reducible first | exact HB.out | apply below_alloc | apply pw_below_drewN | apply below_drew1 | refine below_set ?_ GE695.out | refine below_set ?_ GE696.out | refine below_set ?_ GE697.out) | exact HB.out)))); have n1_ := Aside0.mk (Kd.R_lower ho1 (below_size (by repeat (first | (with_reducible first | exact HB.out | apply below_alloc | apply pw_below_drewN | apply below_drew1 | refine below_set ?_ GE695.out | refine below_set ?_ GE696.out | refine below_set ?_ GE697.out) | exact HB.out)))); have n2_ := Aside0.mk (blk_below (g := gb695) (o := .cells #[.slice A0_0 l0_0.length c0_0, .slice A0_1 l0_1.length c0_1] 26 (0, 0)) (by (with_reducible repeat (first | refine blk_drewN ?_ _ | refine blk_drew ?_ | refine blk_alloc ?_ _)); exact BK695.out) hb); have n3_ := Aside0.mk (blk_below (g := gb696) (o := .cells #[.int .i64 0, .int .i64 0] 65 (0, 0)) (by (with_reducible repeat (first | refine blk_drewN ?_ _ | refine blk_drew ?_ | refine blk_alloc ?_ _)); exact BK696.out) hb); have n4_ := Aside0.mk (blk_below (g := gb697) (o := .cells #[.int .i64 0, .int .i64 0] 65 (0, 0)) (by (with_reducible repeat (first | refine blk_drewN ?_ _ | refine blk_drew ?_ | refine blk_alloc ?_ _)); exact BK697.out) hb); have n5_ := Aside0.mk (below_step (by repeat (first | (with_reducible first | exact HB.out | apply below_alloc | apply pw_below_drewN | apply below_drew1 | refine below_set ?_ GE695.out | refine below_set ?_ GE696.out | refine below_set ?_ GE697.out) | exact HB.out)) hb); clear BK695; clear BK696; clear BK697; clear HB; have HO700 := n0_; have HO703 := n1_; have BK695 := n2_; have BK696 := n3_; have BK697 := n4_; have HB := n5_; clear n0_ n1_ n2_ n3_ n4_ n5_; (try clear hb); (try clear hb2); (try clear hk); (try clear hi); (try clear ho0); (try clear ho1); have hnb104 := NB696_697.out; have hnc104 := NB697_696.out; have hcz105_0 : w103.cell? ⟨gb696, 0, none⟩ = some (.int .i64 0) := (blk_cell BK696.out 0).trans rfl; have hcz105_1 : w103.cell? ⟨gb696, 1, none⟩ = some (.int .i64 0) := (blk_cell BK696.out 1).trans rfl; have hfz105_0 := blk_frozen BK696.out 0; have hfz105_1 := blk_frozen BK696.out 1; have hcz106_0 : w103.cell? ⟨gb697, 0, none⟩ = some (.int .i64 0) := (blk_cell BK697.out 0).trans rfl; have hcz106_1 : w103.cell? ⟨gb697, 1, none⟩ = some (.int .i64 0) := (blk_cell BK697.out 1).trans rfl; have hfz106_0 := blk_frozen BK697.out 0; have hfz106_1 := blk_frozen BK697.out 1))
  refine bodyPost_ret (results_list (rs := [.cell 6 65, .cell 7 65, .tmp 8]) rfl (by simp) (.cell gb696 65 #[.int .i64 0, .int .i64 0] (0, 0) _ rfl (by (with_reducible repeat (first | refine blk_drewN ?_ _ | refine blk_drew ?_ | refine blk_alloc ?_ _)); refine blk_far ?_ NB696_697.out _; (with_reducible repeat (first | refine blk_drewN ?_ _ | refine blk_drew ?_ | refine blk_alloc ?_ _)); refine blk_far ?_ NB696_697.out _; (with_reducible repeat (first | refine blk_drewN ?_ _ | refine blk_drew ?_ | refine blk_alloc ?_ _)); refine blk_put (cs := #[.int .i64 0, .int .i64 0]) ?_ 1 _ rfl; (with_reducible repeat (first | refine blk_drewN ?_ _ | refine blk_drew ?_ | refine blk_alloc ?_ _)); refine blk_put (cs := #[.int .i64 0, .int .i64 0]) ?_ 0 _ rfl; (with_reducible repeat (first | refine blk_drewN ?_ _ | refine blk_drew ?_ | refine blk_alloc ?_ _)); exact BK696.out) Try.underlying65 rfl (by kernel_rfl) (.cell gb697 65 #[.int .i64 0, .int .i64 0] (0, 0) _ rfl (by (with_reducible repeat (first | refine blk_drewN ?_ _ | refine blk_drew ?_ | refine blk_alloc ?_ _)); refine blk_put (cs := #[.int .i64 0, .int .i64 0]) ?_ 1 _ rfl; (with_reducible repeat (first | refine blk_drewN ?_ _ | refine blk_drew ?_ | refine blk_alloc ?_ _)); refine blk_put (cs := #[.int .i64 0, .int .i64 0]) ?_ 0 _ rfl; (with_reducible repeat (first | refine blk_drewN ?_ _ | refine blk_drew ?_ | refine blk_alloc ?_ _)); refine blk_far ?_ NB697_696.out _; (with_reducible repeat (first | refine blk_drewN ?_ _ | refine blk_drew ?_ | refine blk_alloc ?_ _)); refine blk_far ?_ NB697_696.out _; (with_reducible repeat (first | refine blk_drewN ?_ _ | refine blk_drew ?_ | refine blk_alloc ?_ _)); exact BK697.out) Try.underlying65 rfl (by kernel_rfl) (.tmp .nil)))) rfl ?_
  exact ⟨by first | rfl | (simp [errW_none, errW_some] <;> rfl) | (simp [*, errW_none, errW_some] <;> rfl), by repeat (first | (with_reducible first | exact HB.out | apply below_alloc | apply pw_below_drewN | apply below_drew1 | refine below_set ?_ GE695.out | refine below_set ?_ GE696.out | refine below_set ?_ GE697.out) | exact HB.out)⟩
end Go.Proofs.Ytjjbhdpjnjncbaa.Pr
end
section
namespace Go.Proofs.Ytjjbhdpjnjncbaa.Pr
open Go.RowKit Go.Proofs.YtjjbhdpjnjncbaaW.PrintWords Go.Proofs.YtjjbhdpjnjncbaaW.PrintLast Go.Proofs.YtjjbhdpjnjncbaaW.PrintMore Go.Proofs.Ytjjbhdpjnjncbaa.La Go.Proofs.Ytjjbhdpjnjncbaa.Hm Go.Proofs.Ytjjbhdpjnjncbaa.Lw
theorem laws_FnExactPayoffsAt.walk (k : Nat) (A0_0 : Option Addr) (c0_0 : Nat) (l0_0 : List (List Int)) (A0_1 : Option Addr) (c0_1 : Nat) (l0_1 : List (List Int)) (A1 : Option Addr) (c1 : Nat) (l1 : List (S120)) (A2 : Option Addr) (c2 : Nat) (l2 : List (S120)) (t19 : Int) (t24 : Int) (t29 : Int) (y_l1 : List (S65)) (y_l2 : List (S65)) (s0 : Int) (s1 : Int) (s2 : Int) (s3 : Int) (s4 : Int) (w : World) (hr0_0 : Kd.C (Kd.slice 2 (Kd.int .i64)) w A0_0 l0_0.length l0_0) (hc0_0 : l0_0.length ≤ c0_0) (hr0_1 : Kd.C (Kd.slice 2 (Kd.int .i64)) w A0_1 l0_1.length l0_1) (hc0_1 : l0_1.length ≤ c0_1) (hr1 : Kd.C k120 w A1 l1.length l1) (hc1 : l1.length ≤ c1) (hr2 : Kd.C k120 w A2 l2.length l2) (hc2 : l2.length ≤ c2) (h1 : laws_szGame.f k l0_0 l0_1 1048576 = some t19) (h2 : ¬ t19 < 0) (h3 : laws_szFracS.f l1 t19 = some t24) (h4 : ¬ t24 < 0) (h5 : laws_szFracS.f l2 t24 = some t29) (h6 : ¬ t29 < 0) (h7 : laws_toInt64SS.f k l0_0 = some l0_0 ∧ laws_toInt64SS.f k l0_1 = some l0_1) (h8 : laws_toFracS.f k l1 = some y_l1) (h9 : laws_toFracS.f k l2 = some y_l2) (h10 : spec_PayoffsAt.f k l0_0 l0_1 y_l1 y_l2 = some (s0, s1, s2, s3, s4)) (h11 : impl_PayoffsAt.f k l0_0 l0_1 y_l1 y_l2 = some (s0, s1, s2, s3, s4)) (h12 : laws_eqFrac.f s0 s1 s0 s1 = some true) (h13 : laws_eqFrac.f s2 s3 s2 s3 = some true) (h14 : laws_eqGame.f k l0_0 l0_1 l0_0 l0_1 = some true) (h15 : laws_eqFracS.f k y_l1 y_l1 = some true) (h16 : laws_eqFracS.f k y_l2 y_l2 = some true) :
  Calls Try.prog 8 #[.agg #[.slice A0_0 l0_0.length c0_0, .slice A0_1 l0_1.length c0_1], .slice A1 l1.length c1, .slice A2 l2.length c2] w fun e w' => e = .returned (.bool true) ∧ Below w.heap.size w w' := by
 have HR0_0 := Aside0.mk hr0_0
 have HC0_0 := Aside0.mk hc0_0
 clear hr0_0 hc0_0
 have HR0_1 := Aside0.mk hr0_1
 have HC0_1 := Aside0.mk hc0_1
 clear hr0_1 hc0_1
 have HR1 := Aside0.mk hr1
 have HC1 := Aside0.mk hc1
 clear hr1 hc1
 have HR2 := Aside0.mk hr2
 have HC2 := Aside0.mk hc2
 clear hr2 hc2
 have HB := Aside0.mk (Below.refl w.heap.size w)
 have H1' := Aside0.mk h1
 clear h1
 have H3' := Aside0.mk h3
 clear h3
 have H5' := Aside0.mk h5
 clear h5
 have H7' := Aside0.mk h7
 clear h7
 have H8' := Aside0.mk h8
 clear h8
 have H9' := Aside0.mk h9
 clear h9
 have H10' := Aside0.mk h10
 clear h10
 have H11' := Aside0.mk h11
 clear h11
 have H12' := Aside0.mk h12
 clear h12
 have H13' := Aside0.mk h13
 clear h13
 have H14' := Aside0.mk h14
 clear h14
 have H15' := Aside0.mk h15
 clear h15
 have H16' := Aside0.mk h16
 clear h16
 go_enter Try.func8, Try.ntmps8
 go_wp2_with (first | ((with_reducible refine gate_dst (N := 3) rfl ?_); refine box_event ?hg (N := 3) ?hd (cs := #[.slice A0_0 l0_0.length c0_0, .slice A0_1 l0_1.length c0_1]) (t := 24) ?hr ?_; (case hd => rfl); (case hg => rfl); (case hr => first | (go_simp; done) | (go_simp; rfl)); intro g3 hg w1 hbox hb; have Gg3 : Aside0 (g3 = w.heap.size) := ⟨hg⟩; have Kg3 := Aside0.mk (blk_lt hbox); clear hg; have n_HB := Aside0.mk (below_step HB.out hb); have NN1 : Aside0 (w.heap.size ≤ w1.heap.size) := ⟨hb.size⟩; clear HB; have HB := n_HB; clear n_HB; have Bg3 := Aside0.mk hbox; clear hb hbox; have hc3_0 : w1.cell? ⟨g3, 0, none⟩ = some (.slice A0_0 l0_0.length c0_0) := (blk_cell Bg3.out 0).trans rfl; have hf3_0 := blk_frozen Bg3.out 0; have hc3_1 : w1.cell? ⟨g3, 1, none⟩ = some (.slice A0_1 l0_1.length c0_1) := (blk_cell Bg3.out 1).trans rfl; have hf3_1 := blk_frozen Bg3.out 1) | ((with_reducible refine gate_callee (f := 15) rfl ?_); refine goesL_ (some 19) rfl rfl Try.func15 (by kernel_rfl) rfl #[.agg #[.slice A0_0 l0_0.length c0_0, .slice A0_1 l0_1.length c0_1], .int .i64 1048576] rfl (by (try simp only [List.map_toArray, List.map_cons, List.map_nil]); first | done | rfl) ?_; refine (laws_szGame.calls k _ _ l0_0 _ _ l0_1 1048576 t19 _ ?s1 ?s2 ?s3 ?s4 H1'.out).mono ?_; (case s1 => exact Kd.C_below HR0_0.out HB.out); (case s2 => exact HC0_0.out); (case s3 => exact Kd.C_below HR0_1.out HB.out); (case s4 => exact HC0_1.out); rintro e w2 ⟨rfl, hb⟩; refine ⟨_, rfl, ?_⟩; have n_Bg3 := Aside0.mk (blk_below Bg3.out hb); have n_HB := Aside0.mk (below_step HB.out hb); have NN2 : Aside0 (w1.heap.size ≤ w2.heap.size) := ⟨hb.size⟩; clear hc3_0 hf3_0; clear hc3_1 hf3_1; clear Bg3 HB; have Bg3 := n_Bg3; have HB := n_HB; clear n_Bg3 n_HB; clear hb) | ((with_reducible refine gate_callee (f := 44) rfl ?_); refine goesL_ (some 24) rfl rfl Try.func44 (by kernel_rfl) rfl #[.slice A1 l1.length c1, .int .i64 t19] rfl (by (try simp only [List.map_toArray, List.map_cons, List.map_nil]); first | done | rfl) ?_; refine (laws_szFracS.calls _ _ l1 t19 t24 _ ?s1 ?s2 H3'.out).mono ?_; (case s1 => exact Kd.C_below HR1.out HB.out); (case s2 => exact HC1.out); rintro e w3 ⟨rfl, hb⟩; refine ⟨_, rfl, ?_⟩; have hb := hb.below; have n_Bg3 := Aside0.mk (blk_below Bg3.out hb); have n_HB := Aside0.mk (below_step HB.out hb); have NN3 : Aside0 (w2.heap.size ≤ w3.heap.size) := ⟨hb.size⟩; clear Bg3 HB; have Bg3 := n_Bg3; have HB := n_HB; clear n_Bg3 n_HB; clear hb) | ((with_reducible refine gate_callee (f := 44) rfl ?_); refine goesL_ (some 29) rfl rfl Try.func44 (by kernel_rfl) rfl #[.slice A2 l2.length c2, .int .i64 t24] rfl (by (try simp only [List.map_toArray, List.map_cons, List.map_nil]); first | done | rfl) ?_; refine (laws_szFracS.calls _ _ l2 t24 t29 _ ?s1 ?s2 H5'.out).mono ?_; (case s1 => exact Kd.C_below HR2.out HB.out); (case s2 => exact HC2.out); rintro e w4 ⟨rfl, hb⟩; refine ⟨_, rfl, ?_⟩; have hb := hb.below; have n_Bg3 := Aside0.mk (blk_below Bg3.out hb); have n_HB := Aside0.mk (below_step HB.out hb); have NN4 : Aside0 (w3.heap.size ≤ w4.heap.size) := ⟨hb.size⟩; clear Bg3 HB; have Bg3 := n_Bg3; have HB := n_HB; clear n_Bg3 n_HB; clear hb; have hc3_0 : w4.cell? ⟨g3, 0, none⟩ = some (.slice A0_0 l0_0.length c0_0) := (blk_cell Bg3.out 0).trans rfl; have hf3_0 := blk_frozen Bg3.out 0; have hc3_1 : w4.cell? ⟨g3, 1, none⟩ = some (.slice A0_1 l0_1.length c0_1) := (blk_cell Bg3.out 1).trans rfl; have hf3_1 := blk_frozen Bg3.out 1) | ((with_reducible refine gate_callee (f := 17) rfl ?_); refine goesL_ (some 34) rfl rfl Try.func17 (by kernel_rfl) rfl #[.agg #[.slice A0_0 l0_0.length c0_0, .slice A0_1 l0_1.length c0_1]] rfl (by (try simp only [List.map_toArray, List.map_cons, List.map_nil]); first | done | rfl) ?_; refine (laws_toGame2.calls k _ _ l0_0 _ _ l0_1 _ ?s1 ?s2 ?s3 ?s4 H7'.out).mono ?_; (case s1 => exact Kd.C_below HR0_0.out HB.out); (case s2 => exact HC0_0.out); (case s3 => exact Kd.C_below HR0_1.out HB.out); (case s4 => exact HC0_1.out); rintro e w5 ⟨v34_0, v34_1, rfl, ho0, hb⟩; refine ⟨_, rfl, ?_⟩; have nu0 := Aside0.mk (UG.of ho0 HB.out.size); have n_Bg3 := Aside0.mk (blk_below Bg3.out hb); have n_HB := Aside0.mk (below_step HB.out hb); have NN5 : Aside0 (w4.heap.size ≤ w5.heap.size) := ⟨hb.size⟩; clear hc3_0 hf3_0; clear hc3_1 hf3_1; clear Bg3 HB; have Bg3 := n_Bg3; have HB := n_HB; clear n_Bg3 n_HB; clear hb ho0; have U34 := nu0; clear nu0; obtain ⟨A34_0, c34_0, A34_1, c34_1, e0, e1⟩ := U34.out.slices; subst e0; subst e1) | ((with_reducible refine gate_callee (f := 46) rfl ?_); refine goesL_ (some 36) rfl rfl Try.func46 (by kernel_rfl) rfl #[.slice A1 l1.length c1] rfl (by (try simp only [List.map_toArray, List.map_cons, List.map_nil]); first | done | rfl) ?_; refine (laws_toFracS.calls k _ _ l1 y_l1 _ ?s1 ?s2 H8'.out).mono ?_; (case s1 => exact Kd.C_below HR1.out HB.out); (case s2 => exact HC1.out); rintro e w6 ⟨v36_0, rfl, ho0, hb⟩; refine ⟨_, rfl, ?_⟩; have nu0 := Aside0.mk (UR.of ho0 HB.out.size); have n_U34 := Aside0.mk (U34.out.mvB (Frm.below hb)); have n_Bg3 := Aside0.mk (blk_below Bg3.out hb); have n_HB := Aside0.mk (below_step HB.out hb); have NN6 : Aside0 (w5.heap.size ≤ w6.heap.size) := ⟨hb.size⟩; clear U34 Bg3 HB; have U34 := n_U34; have Bg3 := n_Bg3; have HB := n_HB; clear n_U34 n_Bg3 n_HB; clear hb ho0; have U36_0 := nu0; clear nu0; obtain ⟨A36_0, c36_0, e0⟩ := Kd.R_slice U36_0.out; subst e0) | ((with_reducible refine gate_callee (f := 46) rfl ?_); refine goesL_ (some 38) rfl rfl Try.func46 (by kernel_rfl) rfl #[.slice A2 l2.length c2] rfl (by (try simp only [List.map_toArray, List.map_cons, List.map_nil]); first | done | rfl) ?_; refine (laws_toFracS.calls k _ _ l2 y_l2 _ ?s1 ?s2 H9'.out).mono ?_; (case s1 => exact Kd.C_below HR2.out HB.out); (case s2 => exact HC2.out); rintro e w7 ⟨v38_0, rfl, ho0, hb⟩; refine ⟨_, rfl, ?_⟩; have nu0 := Aside0.mk (UR.of ho0 HB.out.size); have n_U34 := Aside0.mk (U34.out.mvB (Frm.below hb)); have n_U36_0 := Aside0.mk (U36_0.out.mvB (Frm.below hb)); have n_Bg3 := Aside0.mk (blk_below Bg3.out hb); have n_HB := Aside0.mk (below_step HB.out hb); have NN7 : Aside0 (w6.heap.size ≤ w7.heap.size) := ⟨hb.size⟩; clear U34 U36_0 Bg3 HB; have U34 := n_U34; have U36_0 := n_U36_0; have Bg3 := n_Bg3; have HB := n_HB; clear n_U34 n_U36_0 n_Bg3 n_HB; clear hb ho0; have U38_0 := nu0; clear nu0; obtain ⟨A38_0, c38_0, e0⟩ := Kd.R_slice U38_0.out; subst e0) | ((with_reducible refine gate_callee (f := 45) rfl ?_); refine goesL_ (some 39) rfl rfl Try.func45 (by kernel_rfl) rfl #[.agg #[.slice A34_0 l0_0.length c34_0, .slice A34_1 l0_1.length c34_1], .slice A36_0 y_l1.length c36_0, .slice A38_0 y_l2.length c38_0] rfl (by (try simp only [List.map_toArray, List.map_cons, List.map_nil]); first | done | rfl) ?_; refine (spec_PayoffsAt.calls k _ _ l0_0 _ _ l0_1 _ _ y_l1 _ _ y_l2 s0 s1 s2 s3 s4 _ ?s1 ?s2 ?s3 ?s4 ?s5 ?s6 ?s7 ?s8 H10'.out).mono ?_; (case s1 => exact U34.out.C0); (case s2 => exact U34.out.cap0); (case s3 => exact U34.out.C1); (case s4 => exact U34.out.cap1); (case s5 => exact UR.C U36_0.out); (case s6 => exact UR.cap U36_0.out); (case s7 => exact UR.C U38_0.out); (case s8 => exact UR.cap U38_0.out); rintro e w8 ⟨rfl, hb⟩; refine ⟨_, rfl, ?_⟩; have n_U34 := Aside0.mk (U34.out.mvB (Frm.below hb)); have n_U36_0 := Aside0.mk (U36_0.out.mvB (Frm.below hb)); have n_U38_0 := Aside0.mk (U38_0.out.mvB (Frm.below hb)); have n_Bg3 := Aside0.mk (blk_below Bg3.out hb); have n_HB := Aside0.mk (below_step HB.out hb); have NN8 : Aside0 (w7.heap.size ≤ w8.heap.size) := ⟨hb.size⟩; clear U34 U36_0 U38_0 Bg3 HB; have U34 := n_U34; have U36_0 := n_U36_0; have U38_0 := n_U38_0; have Bg3 := n_Bg3; have HB := n_HB; clear n_U34 n_U36_0 n_U38_0 n_Bg3 n_HB; clear hb) | ((with_reducible refine gate_dst (N := 8) rfl ?_); refine box_event ?hg (N := 8) ?hd (cs := #[.int .i64 0, .int .i64 0]) (t := 65) ?hr ?_; (case hd => rfl); (case hg => rfl); (case hr => first | (go_simp; done) | (go_simp; rfl)); intro g8 hg w9 hbox hb; have Gg8 : Aside0 (g8 = w8.heap.size) := ⟨hg⟩; have Kg8 := Aside0.mk (blk_lt hbox); clear hg; have n_U34 := Aside0.mk (U34.out.mvB (Frm.below hb)); have n_U36_0 := Aside0.mk (U36_0.out.mvB (Frm.below hb)); have n_U38_0 := Aside0.mk (U38_0.out.mvB (Frm.below hb)); have n_Bg3 := Aside0.mk (blk_below Bg3.out hb); have n_HB := Aside0.mk (below_step HB.out hb); have NN9 : Aside0 (w8.heap.size ≤ w9.heap.size) := ⟨hb.size⟩; clear U34 U36_0 U38_0 Bg3 HB; have U34 := n_U34; have U36_0 := n_U36_0; have U38_0 := n_U38_0; have Bg3 := n_Bg3; have HB := n_HB; clear n_U34 n_U36_0 n_U38_0 n_Bg3 n_HB; have Bg8 := Aside0.mk hbox; clear hb hbox) | ((with_reducible refine gate_dst (N := 9) rfl ?_); refine box_event ?hg (N := 9) ?hd (cs := #[.int .i64 0, .int .i64 0]) (t := 65) ?hr ?_; (case hd => rfl); (case hg => rfl); (case hr => first | (go_simp; done) | (go_simp; rfl)); intro g9 hg w10 hbox hb; have Gg9 : Aside0 (g9 = w9.heap.size) := ⟨hg⟩; have Kg9 := Aside0.mk (blk_lt hbox); clear hg; have n_U34 := Aside0.mk (U34.out.mvB (Frm.below hb)); have n_U36_0 := Aside0.mk (U36_0.out.mvB (Frm.below hb)); have n_U38_0 := Aside0.mk (U38_0.out.mvB (Frm.below hb)); have n_Bg3 := Aside0.mk (blk_below Bg3.out hb); have n_Bg8 := Aside0.mk (blk_below Bg8.out hb); have n_HB := Aside0.mk (below_step HB.out hb); have NN10 : Aside0 (w9.heap.size ≤ w10.heap.size) := ⟨hb.size⟩; clear U34 U36_0 U38_0 Bg3 Bg8 HB; have U34 := n_U34; have U36_0 := n_U36_0; have U38_0 := n_U38_0; have Bg3 := n_Bg3; have Bg8 := n_Bg8; have HB := n_HB; clear n_U34 n_U36_0 n_U38_0 n_Bg3 n_Bg8 n_HB; have Bg9 := Aside0.mk hbox; clear hb hbox; have hc8_0 : w10.cell? ⟨g8, 0, none⟩ = some (.int .i64 0) := (blk_cell Bg8.out 0).trans rfl; have hf8_0 := blk_frozen Bg8.out 0; have hc8_1 : w10.cell? ⟨g8, 1, none⟩ = some (.int .i64 0) := (blk_cell Bg8.out 1).trans rfl; have hf8_1 := blk_frozen Bg8.out 1) | ((with_reducible refine gate_store (t := 65) (p := 8) rfl ?_); refine store_event (t := 65) (p := 8) (v := ?vo_w11) (w1 := ((w10.setCell ⟨g8, 0, none⟩ (.int .i64 s0)).setCell ⟨g8, 1, none⟩ (.int .i64 s1))) ?hg ?ho ?hn ?hr ?_; (case ho => rfl); (case hg => rfl); (case hn => rfl); (case hr => first | (go_simp; done) | (go_simp; rfl)); intro w11 hw; have hge : w.heap.size ≤ g8 := (by have := NN1.out; have := Gg3.out; have := Kg3.out; have := NN2.out; have := NN3.out; have := NN4.out; have := NN5.out; have := NN6.out; have := NN7.out; have := NN8.out; have := NN9.out; have := Gg8.out; have := Kg8.out; have := NN10.out; have := Gg9.out; have := Kg9.out; have := HB.out.size; omega); have hF : Frm w10 w11 g8 (g8 + 1) := (by rw [hw]; exact (Frm.trans (Frm.set _ _ _ _) (Frm.set _ _ _ _))); have nb := Aside0.mk (show w11.heap[g8]? = some (.cells #[.int .i64 s0, .int .i64 s1] 65 (0, 0)) from (by rw [hw]; exact (blk_put (blk_put Bg8.out 0 _ rfl) 1 _ rfl))); have n_U34 := Aside0.mk (U34.out.mv hF (by have := NN1.out; have := Gg3.out; have := Kg3.out; have := NN2.out; have := NN3.out; have := NN4.out; have := NN5.out; have := NN6.out; have := NN7.out; have := NN8.out; have := NN9.out; have := Gg8.out; have := Kg8.out; have := NN10.out; have := Gg9.out; have := Kg9.out; omega)); have n_U36_0 := Aside0.mk (U36_0.out.mv hF (by have := NN1.out; have := Gg3.out; have := Kg3.out; have := NN2.out; have := NN3.out; have := NN4.out; have := NN5.out; have := NN6.out; have := NN7.out; have := NN8.out; have := NN9.out; have := Gg8.out; have := Kg8.out; have := NN10.out; have := Gg9.out; have := Kg9.out; omega)); have n_U38_0 := Aside0.mk (U38_0.out.mv hF (by have := NN1.out; have := Gg3.out; have := Kg3.out; have := NN2.out; have := NN3.out; have := NN4.out; have := NN5.out; have := NN6.out; have := NN7.out; have := NN8.out; have := NN9.out; have := Gg8.out; have := Kg8.out; have := NN10.out; have := Gg9.out; have := Kg9.out; omega)); have n_Bg3 := Aside0.mk ((hF.same g3 (blk_lt Bg3.out) (by have := NN1.out; have := Gg3.out; have := Kg3.out; have := NN2.out; have := NN3.out; have := NN4.out; have := NN5.out; have := NN6.out; have := NN7.out; have := NN8.out; have := NN9.out; have := Gg8.out; have := Kg8.out; have := NN10.out; have := Gg9.out; have := Kg9.out; omega)).trans Bg3.out); have n_Bg9 := Aside0.mk ((hF.same g9 (blk_lt Bg9.out) (by have := NN1.out; have := Gg3.out; have := Kg3.out; have := NN2.out; have := NN3.out; have := NN4.out; have := NN5.out; have := NN6.out; have := NN7.out; have := NN8.out; have := NN9.out; have := Gg8.out; have := Kg8.out; have := NN10.out; have := Gg9.out; have := Kg9.out; omega)).trans Bg9.out); have n_HB := Aside0.mk ((by rw [hw]; exact (below_set (below_set HB.out hge) hge) : Below w.heap.size w w11)); have NN11 : Aside0 (w10.heap.size ≤ w11.heap.size) := ⟨hF.size⟩; clear hc8_0 hf8_0; clear hc8_1 hf8_1; clear U34 U36_0 U38_0 Bg3 Bg9 HB; have U34 := n_U34; have U36_0 := n_U36_0; have U38_0 := n_U38_0; have Bg3 := n_Bg3; have Bg9 := n_Bg9; have HB := n_HB; clear n_U34 n_U36_0 n_U38_0 n_Bg3 n_Bg9 n_HB; clear Bg8; have Bg8 := nb; clear nb hF hge hw; have hc9_0 : w11.cell? ⟨g9, 0, none⟩ = some (.int .i64 0) := (blk_cell Bg9.out 0).trans rfl; have hf9_0 := blk_frozen Bg9.out 0; have hc9_1 : w11.cell? ⟨g9, 1, none⟩ = some (.int .i64 0) := (blk_cell Bg9.out 1).trans rfl; have hf9_1 := blk_frozen Bg9.out 1) | ((with_reducible refine gate_store (t := 65) (p := 9) rfl ?_); refine store_event (t := 65) (p := 9) (v := ?vo_w12) (w1 := ((w11.setCell ⟨g9, 0, none⟩ (.int .i64 s2)).setCell ⟨g9, 1, none⟩ (.int .i64 s3))) ?hg ?ho ?hn ?hr ?_; (case ho => rfl); (case hg => rfl); (case hn => rfl); (case hr => first | (go_simp; done) | (go_simp; rfl)); intro w12 hw; have hge : w.heap.size ≤ g9 := (by have := NN1.out; have := Gg3.out; have := Kg3.out; have := NN2.out; have := NN3.out; have := NN4.out; have := NN5.out; have := NN6.out; have := NN7.out; have := NN8.out; have := NN9.out; have := Gg8.out; have := Kg8.out; have := NN10.out; have := Gg9.out; have := Kg9.out; have := NN11.out; have := HB.out.size; omega); have hF : Frm w11 w12 g9 (g9 + 1) := (by rw [hw]; exact (Frm.trans (Frm.set _ _ _ _) (Frm.set _ _ _ _))); have nb := Aside0.mk (show w12.heap[g9]? = some (.cells #[.int .i64 s2, .int .i64 s3] 65 (0, 0)) from (by rw [hw]; exact (blk_put (blk_put Bg9.out 0 _ rfl) 1 _ rfl))); have n_U34 := Aside0.mk (U34.out.mv hF (by have := NN1.out; have := Gg3.out; have := Kg3.out; have := NN2.out; have := NN3.out; have := NN4.out; have := NN5.out; have := NN6.out; have := NN7.out; have := NN8.out; have := NN9.out; have := Gg8.out; have := Kg8.out; have := NN10.out; have := Gg9.out; have := Kg9.out; have := NN11.out; omega)); have n_U36_0 := Aside0.mk (U36_0.out.mv hF (by have := NN1.out; have := Gg3.out; have := Kg3.out; have := NN2.out; have := NN3.out; have := NN4.out; have := NN5.out; have := NN6.out; have := NN7.out; have := NN8.out; have := NN9.out; have := Gg8.out; have := Kg8.out; have := NN10.out; have := Gg9.out; have := Kg9.out; have := NN11.out; omega)); have n_U38_0 := Aside0.mk (U38_0.out.mv hF (by have := NN1.out; have := Gg3.out; have := Kg3.out; have := NN2.out; have := NN3.out; have := NN4.out; have := NN5.out; have := NN6.out; have := NN7.out; have := NN8.out; have := NN9.out; have := Gg8.out; have := Kg8.out; have := NN10.out; have := Gg9.out; have := Kg9.out; have := NN11.out; omega)); have n_Bg3 := Aside0.mk ((hF.same g3 (blk_lt Bg3.out) (by have := NN1.out; have := Gg3.out; have := Kg3.out; have := NN2.out; have := NN3.out; have := NN4.out; have := NN5.out; have := NN6.out; have := NN7.out; have := NN8.out; have := NN9.out; have := Gg8.out; have := Kg8.out; have := NN10.out; have := Gg9.out; have := Kg9.out; have := NN11.out; omega)).trans Bg3.out); have n_Bg8 := Aside0.mk ((hF.same g8 (blk_lt Bg8.out) (by have := NN1.out; have := Gg3.out; have := Kg3.out; have := NN2.out; have := NN3.out; have := NN4.out; have := NN5.out; have := NN6.out; have := NN7.out; have := NN8.out; have := NN9.out; have := Gg8.out; have := Kg8.out; have := NN10.out; have := Gg9.out; have := Kg9.out; have := NN11.out; omega)).trans Bg8.out); have n_HB := Aside0.mk ((by rw [hw]; exact (below_set (below_set HB.out hge) hge) : Below w.heap.size w w12)); have NN12 : Aside0 (w11.heap.size ≤ w12.heap.size) := ⟨hF.size⟩; clear hc9_0 hf9_0; clear hc9_1 hf9_1; clear U34 U36_0 U38_0 Bg3 Bg8 HB; have U34 := n_U34; have U36_0 := n_U36_0; have U38_0 := n_U38_0; have Bg3 := n_Bg3; have Bg8 := n_Bg8; have HB := n_HB; clear n_U34 n_U36_0 n_U38_0 n_Bg3 n_Bg8 n_HB; clear Bg9; have Bg9 := nb; clear nb hF hge hw; have hc3_0 : w12.cell? ⟨g3, 0, none⟩ = some (.slice A0_0 l0_0.length c0_0) := (blk_cell Bg3.out 0).trans rfl; have hf3_0 := blk_frozen Bg3.out 0; have hc3_1 : w12.cell? ⟨g3, 1, none⟩ = some (.slice A0_1 l0_1.length c0_1) := (blk_cell Bg3.out 1).trans rfl; have hf3_1 := blk_frozen Bg3.out 1) | ((with_reducible refine gate_callee (f := 17) rfl ?_); refine goesL_ (some 44) rfl rfl Try.func17 (by kernel_rfl) rfl #[.agg #[.slice A0_0 l0_0.length c0_0, .slice A0_1 l0_1.length c0_1]] rfl (by (try simp only [List.map_toArray, List.map_cons, List.map_nil]); first | done | rfl) ?_; refine (laws_toGame2.calls k _ _ l0_0 _ _ l0_1 _ ?s1 ?s2 ?s3 ?s4 H7'.out).mono ?_; (case s1 => exact Kd.C_below HR0_0.out HB.out); (case s2 => exact HC0_0.out); (case s3 => exact Kd.C_below HR0_1.out HB.out); (case s4 => exact HC0_1.out); rintro e w13 ⟨v44_0, v44_1, rfl, ho0, hb⟩; refine ⟨_, rfl, ?_⟩; have nu0 := Aside0.mk (UG.of ho0 HB.out.size); have n_U34 := Aside0.mk (U34.out.mvB (Frm.below hb)); have n_U36_0 := Aside0.mk (U36_0.out.mvB (Frm.below hb)); have n_U38_0 := Aside0.mk (U38_0.out.mvB (Frm.below hb)); have n_Bg3 := Aside0.mk (blk_below Bg3.out hb); have n_Bg8 := Aside0.mk (blk_below Bg8.out hb); have n_Bg9 := Aside0.mk (blk_below Bg9.out hb); have n_HB := Aside0.mk (below_step HB.out hb); have NN13 : Aside0 (w12.heap.size ≤ w13.heap.size) := ⟨hb.size⟩; clear hc3_0 hf3_0; clear hc3_1 hf3_1; clear U34 U36_0 U38_0 Bg3 Bg8 Bg9 HB; have U34 := n_U34; have U36_0 := n_U36_0; have U38_0 := n_U38_0; have Bg3 := n_Bg3; have Bg8 := n_Bg8; have Bg9 := n_Bg9; have HB := n_HB; clear n_U34 n_U36_0 n_U38_0 n_Bg3 n_Bg8 n_Bg9 n_HB; clear hb ho0; have U44 := nu0; clear nu0; obtain ⟨A44_0, c44_0, A44_1, c44_1, e0, e1⟩ := U44.out.slices; subst e0; subst e1) | ((with_reducible refine gate_dst (N := 11) rfl ?_); refine box_event ?hg (N := 11) ?hd (cs := #[.slice none 0 0, .slice none 0 0]) (t := 26) ?hr ?_; (case hd => rfl); (case hg => rfl); (case hr => first | (go_simp; done) | (go_simp; rfl)); intro g11 hg w14 hbox hb; have Gg11 : Aside0 (g11 = w13.heap.size) := ⟨hg⟩; have Kg11 := Aside0.mk (blk_lt hbox); clear hg; have n_U34 := Aside0.mk (U34.out.mvB (Frm.below hb)); have n_U36_0 := Aside0.mk (U36_0.out.mvB (Frm.below hb)); have n_U38_0 := Aside0.mk (U38_0.out.mvB (Frm.below hb)); have n_U44 := Aside0.mk (U44.out.mvB (Frm.below hb)); have n_Bg3 := Aside0.mk (blk_below Bg3.out hb); have n_Bg8 := Aside0.mk (blk_below Bg8.out hb); have n_Bg9 := Aside0.mk (blk_below Bg9.out hb); have n_HB := Aside0.mk (below_step HB.out hb); have NN14 : Aside0 (w13.heap.size ≤ w14.heap.size) := ⟨hb.size⟩; clear U34 U36_0 U38_0 U44 Bg3 Bg8 Bg9 HB; have U34 := n_U34; have U36_0 := n_U36_0; have U38_0 := n_U38_0; have U44 := n_U44; have Bg3 := n_Bg3; have Bg8 := n_Bg8; have Bg9 := n_Bg9; have HB := n_HB; clear n_U34 n_U36_0 n_U38_0 n_U44 n_Bg3 n_Bg8 n_Bg9 n_HB; have Bg11 := Aside0.mk hbox; clear hb hbox; have hc11_0 : w14.cell? ⟨g11, 0, none⟩ = some (.slice none 0 0) := (blk_cell Bg11.out 0).trans rfl; have hf11_0 := blk_frozen Bg11.out 0; have hc11_1 : w14.cell? ⟨g11, 1, none⟩ = some (.slice none 0 0) := (blk_cell Bg11.out 1).trans rfl; have hf11_1 := blk_frozen Bg11.out 1) | ((with_reducible refine gate_store (t := 26) (p := 11) rfl ?_); refine store_event (t := 26) (p := 11) (v := ?vo_w15) (w1 := ((w14.setCell ⟨g11, 0, none⟩ (.slice A44_0 l0_0.length c44_0)).setCell ⟨g11, 1, none⟩ (.slice A44_1 l0_1.length c44_1))) ?hg ?ho ?hn ?hr ?_; (case ho => rfl); (case hg => rfl); (case hn => rfl); (case hr => first | (go_simp; done) | (go_simp; rfl)); intro w15 hw; have hge : w.heap.size ≤ g11 := (by have := NN1.out; have := Gg3.out; have := Kg3.out; have := NN2.out; have := NN3.out; have := NN4.out; have := NN5.out; have := NN6.out; have := NN7.out; have := NN8.out; have := NN9.out; have := Gg8.out; have := Kg8.out; have := NN10.out; have := Gg9.out; have := Kg9.out; have := NN11.out; have := NN12.out; have := NN13.out; have := NN14.out; have := Gg11.out; have := Kg11.out; have := HB.out.size; omega); have hF : Frm w14 w15 g11 (g11 + 1) := (by rw [hw]; exact (Frm.trans (Frm.set _ _ _ _) (Frm.set _ _ _ _))); have nb := Aside0.mk (show w15.heap[g11]? = some (.cells #[.slice A44_0 l0_0.length c44_0, .slice A44_1 l0_1.length c44_1] 26 (0, 0)) from (by rw [hw]; exact (blk_put (blk_put Bg11.out 0 _ rfl) 1 _ rfl))); have n_U34 := Aside0.mk (U34.out.mv hF (by have := NN1.out; have := Gg3.out; have := Kg3.out; have := NN2.out; have := NN3.out; have := NN4.out; have := NN5.out; have := NN6.out; have := NN7.out; have := NN8.out; have := NN9.out; have := Gg8.out; have := Kg8.out; have := NN10.out; have := Gg9.out; have := Kg9.out; have := NN11.out; have := NN12.out; have := NN13.out; have := NN14.out; have := Gg11.out; have := Kg11.out; omega)); have n_U36_0 := Aside0.mk (U36_0.out.mv hF (by have := NN1.out; have := Gg3.out; have := Kg3.out; have := NN2.out; have := NN3.out; have := NN4.out; have := NN5.out; have := NN6.out; have := NN7.out; have := NN8.out; have := NN9.out; have := Gg8.out; have := Kg8.out; have := NN10.out; have := Gg9.out; have := Kg9.out; have := NN11.out; have := NN12.out; have := NN13.out; have := NN14.out; have := Gg11.out; have := Kg11.out; omega)); have n_U38_0 := Aside0.mk (U38_0.out.mv hF (by have := NN1.out; have := Gg3.out; have := Kg3.out; have := NN2.out; have := NN3.out; have := NN4.out; have := NN5.out; have := NN6.out; have := NN7.out; have := NN8.out; have := NN9.out; have := Gg8.out; have := Kg8.out; have := NN10.out; have := Gg9.out; have := Kg9.out; have := NN11.out; have := NN12.out; have := NN13.out; have := NN14.out; have := Gg11.out; have := Kg11.out; omega)); have n_U44 := Aside0.mk (U44.out.mv hF (by have := NN1.out; have := Gg3.out; have := Kg3.out; have := NN2.out; have := NN3.out; have := NN4.out; have := NN5.out; have := NN6.out; have := NN7.out; have := NN8.out; have := NN9.out; have := Gg8.out; have := Kg8.out; have := NN10.out; have := Gg9.out; have := Kg9.out; have := NN11.out; have := NN12.out; have := NN13.out; have := NN14.out; have := Gg11.out; have := Kg11.out; omega)); have n_Bg3 := Aside0.mk ((hF.same g3 (blk_lt Bg3.out) (by have := NN1.out; have := Gg3.out; have := Kg3.out; have := NN2.out; have := NN3.out; have := NN4.out; have := NN5.out; have := NN6.out; have := NN7.out; have := NN8.out; have := NN9.out; have := Gg8.out; have := Kg8.out; have := NN10.out; have := Gg9.out; have := Kg9.out; have := NN11.out; have := NN12.out; have := NN13.out; have := NN14.out; have := Gg11.out; have := Kg11.out; omega)).trans Bg3.out); have n_Bg8 := Aside0.mk ((hF.same g8 (blk_lt Bg8.out) (by have := NN1.out; have := Gg3.out; have := Kg3.out; have := NN2.out; have := NN3.out; have := NN4.out; have := NN5.out; have := NN6.out; have := NN7.out; have := NN8.out; have := NN9.out; have := Gg8.out; have := Kg8.out; have := NN10.out; have := Gg9.out; have := Kg9.out; have := NN11.out; have := NN12.out; have := NN13.out; have := NN14.out; have := Gg11.out; have := Kg11.out; omega)).trans Bg8.out); have n_Bg9 := Aside0.mk ((hF.same g9 (blk_lt Bg9.out) (by have := NN1.out; have := Gg3.out; have := Kg3.out; have := NN2.out; have := NN3.out; have := NN4.out; have := NN5.out; have := NN6.out; have := NN7.out; have := NN8.out; have := NN9.out; have := Gg8.out; have := Kg8.out; have := NN10.out; have := Gg9.out; have := Kg9.out; have := NN11.out; have := NN12.out; have := NN13.out; have := NN14.out; have := Gg11.out; have := Kg11.out; omega)).trans Bg9.out); have n_HB := Aside0.mk ((by rw [hw]; exact (below_set (below_set HB.out hge) hge) : Below w.heap.size w w15)); have NN15 : Aside0 (w14.heap.size ≤ w15.heap.size) := ⟨hF.size⟩; clear hc11_0 hf11_0; clear hc11_1 hf11_1; clear U34 U36_0 U38_0 U44 Bg3 Bg8 Bg9 HB; have U34 := n_U34; have U36_0 := n_U36_0; have U38_0 := n_U38_0; have U44 := n_U44; have Bg3 := n_Bg3; have Bg8 := n_Bg8; have Bg9 := n_Bg9; have HB := n_HB; clear n_U34 n_U36_0 n_U38_0 n_U44 n_Bg3 n_Bg8 n_Bg9 n_HB; clear Bg11; have Bg11 := nb; clear nb hF hge hw) | ((with_reducible refine gate_callee (f := 46) rfl ?_); refine goesL_ (some 46) rfl rfl Try.func46 (by kernel_rfl) rfl #[.slice A1 l1.length c1] rfl (by (try simp only [List.map_toArray, List.map_cons, List.map_nil]); first | done | rfl) ?_; refine (laws_toFracS.calls k _ _ l1 y_l1 _ ?s1 ?s2 H8'.out).mono ?_; (case s1 => exact Kd.C_below HR1.out HB.out); (case s2 => exact HC1.out); rintro e w16 ⟨v46_0, rfl, ho0, hb⟩; refine ⟨_, rfl, ?_⟩; have nu0 := Aside0.mk (UR.of ho0 HB.out.size); have n_U34 := Aside0.mk (U34.out.mvB (Frm.below hb)); have n_U36_0 := Aside0.mk (U36_0.out.mvB (Frm.below hb)); have n_U38_0 := Aside0.mk (U38_0.out.mvB (Frm.below hb)); have n_U44 := Aside0.mk (U44.out.mvB (Frm.below hb)); have n_Bg3 := Aside0.mk (blk_below Bg3.out hb); have n_Bg8 := Aside0.mk (blk_below Bg8.out hb); have n_Bg9 := Aside0.mk (blk_below Bg9.out hb); have n_Bg11 := Aside0.mk (blk_below Bg11.out hb); have n_HB := Aside0.mk (below_step HB.out hb); have NN16 : Aside0 (w15.heap.size ≤ w16.heap.size) := ⟨hb.size⟩; clear U34 U36_0 U38_0 U44 Bg3 Bg8 Bg9 Bg11 HB; have U34 := n_U34; have U36_0 := n_U36_0; have U38_0 := n_U38_0; have U44 := n_U44; have Bg3 := n_Bg3; have Bg8 := n_Bg8; have Bg9 := n_Bg9; have Bg11 := n_Bg11; have HB := n_HB; clear n_U34 n_U36_0 n_U38_0 n_U44 n_Bg3 n_Bg8 n_Bg9 n_Bg11 n_HB; clear hb ho0; have U46_0 := nu0; clear nu0; obtain ⟨A46_0, c46_0, e0⟩ := Kd.R_slice U46_0.out; subst e0) | ((with_reducible refine gate_callee (f := 46) rfl ?_); refine goesL_ (some 48) rfl rfl Try.func46 (by kernel_rfl) rfl #[.slice A2 l2.length c2] rfl (by (try simp only [List.map_toArray, List.map_cons, List.map_nil]); first | done | rfl) ?_; refine (laws_toFracS.calls k _ _ l2 y_l2 _ ?s1 ?s2 H9'.out).mono ?_; (case s1 => exact Kd.C_below HR2.out HB.out); (case s2 => exact HC2.out); rintro e w17 ⟨v48_0, rfl, ho0, hb⟩; refine ⟨_, rfl, ?_⟩; have nu0 := Aside0.mk (UR.of ho0 HB.out.size); have n_U34 := Aside0.mk (U34.out.mvB (Frm.below hb)); have n_U36_0 := Aside0.mk (U36_0.out.mvB (Frm.below hb)); have n_U38_0 := Aside0.mk (U38_0.out.mvB (Frm.below hb)); have n_U44 := Aside0.mk (U44.out.mvB (Frm.below hb)); have n_U46_0 := Aside0.mk (U46_0.out.mvB (Frm.below hb)); have n_Bg3 := Aside0.mk (blk_below Bg3.out hb); have n_Bg8 := Aside0.mk (blk_below Bg8.out hb); have n_Bg9 := Aside0.mk (blk_below Bg9.out hb); have n_Bg11 := Aside0.mk (blk_below Bg11.out hb); have n_HB := Aside0.mk (below_step HB.out hb); have NN17 : Aside0 (w16.heap.size ≤ w17.heap.size) := ⟨hb.size⟩; clear U34 U36_0 U38_0 U44 U46_0 Bg3 Bg8 Bg9 Bg11 HB; have U34 := n_U34; have U36_0 := n_U36_0; have U38_0 := n_U38_0; have U44 := n_U44; have U46_0 := n_U46_0; have Bg3 := n_Bg3; have Bg8 := n_Bg8; have Bg9 := n_Bg9; have Bg11 := n_Bg11; have HB := n_HB; clear n_U34 n_U36_0 n_U38_0 n_U44 n_U46_0 n_Bg3 n_Bg8 n_Bg9 n_Bg11 n_HB; clear hb ho0; have U48_0 := nu0; clear nu0; obtain ⟨A48_0, c48_0, e0⟩ := Kd.R_slice U48_0.out; subst e0; have hc11_0 : w17.cell? ⟨g11, 0, none⟩ = some (.slice A44_0 l0_0.length c44_0) := (blk_cell Bg11.out 0).trans rfl; have hf11_0 := blk_frozen Bg11.out 0; have hc11_1 : w17.cell? ⟨g11, 1, none⟩ = some (.slice A44_1 l0_1.length c44_1) := (blk_cell Bg11.out 1).trans rfl; have hf11_1 := blk_frozen Bg11.out 1) | ((with_reducible refine gate_callee (f := 47) rfl ?_); refine goesL_ (some 53) rfl rfl Try.func47 (by kernel_rfl) rfl #[.agg #[.slice A44_0 l0_0.length c44_0, .slice A44_1 l0_1.length c44_1], .slice A46_0 y_l1.length c46_0, .slice A48_0 y_l2.length c48_0] rfl (by (try simp only [List.map_toArray, List.map_cons, List.map_nil]); first | done | rfl) ?_; refine (impl_PayoffsAt.calls k _ _ l0_0 _ _ l0_1 _ _ y_l1 _ _ y_l2 s0 s1 s2 s3 s4 _ ?s1 ?s2 ?s3 ?s4 ?s5 ?s6 ?s7 ?s8 H11'.out).mono ?_; (case s1 => exact U44.out.C0); (case s2 => exact U44.out.cap0); (case s3 => exact U44.out.C1); (case s4 => exact U44.out.cap1); (case s5 => exact UR.C U46_0.out); (case s6 => exact UR.cap U46_0.out); (case s7 => exact UR.C U48_0.out); (case s8 => exact UR.cap U48_0.out); rintro e w18 ⟨rfl, hb⟩; refine ⟨_, rfl, ?_⟩; have n_U34 := Aside0.mk (U34.out.mvB (Frm.below hb)); have n_U36_0 := Aside0.mk (U36_0.out.mvB (Frm.below hb)); have n_U38_0 := Aside0.mk (U38_0.out.mvB (Frm.below hb)); have n_U44 := Aside0.mk (U44.out.mvB (Frm.below hb)); have n_U46_0 := Aside0.mk (U46_0.out.mvB (Frm.below hb)); have n_U48_0 := Aside0.mk (U48_0.out.mvB (Frm.below hb)); have n_Bg3 := Aside0.mk (blk_below Bg3.out hb); have n_Bg8 := Aside0.mk (blk_below Bg8.out hb); have n_Bg9 := Aside0.mk (blk_below Bg9.out hb); have n_Bg11 := Aside0.mk (blk_below Bg11.out hb); have n_HB := Aside0.mk (below_step HB.out hb); have NN18 : Aside0 (w17.heap.size ≤ w18.heap.size) := ⟨hb.size⟩; clear hc11_0 hf11_0; clear hc11_1 hf11_1; clear U34 U36_0 U38_0 U44 U46_0 U48_0 Bg3 Bg8 Bg9 Bg11 HB; have U34 := n_U34; have U36_0 := n_U36_0; have U38_0 := n_U38_0; have U44 := n_U44; have U46_0 := n_U46_0; have U48_0 := n_U48_0; have Bg3 := n_Bg3; have Bg8 := n_Bg8; have Bg9 := n_Bg9; have Bg11 := n_Bg11; have HB := n_HB; clear n_U34 n_U36_0 n_U38_0 n_U44 n_U46_0 n_U48_0 n_Bg3 n_Bg8 n_Bg9 n_Bg11 n_HB; clear hb) | ((with_reducible refine gate_dst (N := 14) rfl ?_); refine box_event ?hg (N := 14) ?hd (cs := #[.int .i64 0, .int .i64 0]) (t := 65) ?hr ?_; (case hd => rfl); (case hg => rfl); (case hr => first | (go_simp; done) | (go_simp; rfl)); intro g14 hg w19 hbox hb; have Gg14 : Aside0 (g14 = w18.heap.size) := ⟨hg⟩; have Kg14 := Aside0.mk (blk_lt hbox); clear hg; have n_U34 := Aside0.mk (U34.out.mvB (Frm.below hb)); have n_U36_0 := Aside0.mk (U36_0.out.mvB (Frm.below hb)); have n_U38_0 := Aside0.mk (U38_0.out.mvB (Frm.below hb)); have n_U44 := Aside0.mk (U44.out.mvB (Frm.below hb)); have n_U46_0 := Aside0.mk (U46_0.out.mvB (Frm.below hb)); have n_U48_0 := Aside0.mk (U48_0.out.mvB (Frm.below hb)); have n_Bg3 := Aside0.mk (blk_below Bg3.out hb); have n_Bg8 := Aside0.mk (blk_below Bg8.out hb); have n_Bg9 := Aside0.mk (blk_below Bg9.out hb); have n_Bg11 := Aside0.mk (blk_below Bg11.out hb); have n_HB := Aside0.mk (below_step HB.out hb); have NN19 : Aside0 (w18.heap.size ≤ w19.heap.size) := ⟨hb.size⟩; clear U34 U36_0 U38_0 U44 U46_0 U48_0 Bg3 Bg8 Bg9 Bg11 HB; have U34 := n_U34; have U36_0 := n_U36_0; have U38_0 := n_U38_0; have U44 := n_U44; have U46_0 := n_U46_0; have U48_0 := n_U48_0; have Bg3 := n_Bg3; have Bg8 := n_Bg8; have Bg9 := n_Bg9; have Bg11 := n_Bg11; have HB := n_HB; clear n_U34 n_U36_0 n_U38_0 n_U44 n_U46_0 n_U48_0 n_Bg3 n_Bg8 n_Bg9 n_Bg11 n_HB; have Bg14 := Aside0.mk hbox; clear hb hbox) | ((with_reducible refine gate_dst (N := 15) rfl ?_); refine box_event ?hg (N := 15) ?hd (cs := #[.int .i64 0, .int .i64 0]) (t := 65) ?hr ?_; (case hd => rfl); (case hg => rfl); (case hr => first | (go_simp; done) | (go_simp; rfl)); intro g15 hg w20 hbox hb; have Gg15 : Aside0 (g15 = w19.heap.size) := ⟨hg⟩; have Kg15 := Aside0.mk (blk_lt hbox); clear hg; have n_U34 := Aside0.mk (U34.out.mvB (Frm.below hb)); have n_U36_0 := Aside0.mk (U36_0.out.mvB (Frm.below hb)); have n_U38_0 := Aside0.mk (U38_0.out.mvB (Frm.below hb)); have n_U44 := Aside0.mk (U44.out.mvB (Frm.below hb)); have n_U46_0 := Aside0.mk (U46_0.out.mvB (Frm.below hb)); have n_U48_0 := Aside0.mk (U48_0.out.mvB (Frm.below hb)); have n_Bg3 := Aside0.mk (blk_below Bg3.out hb); have n_Bg8 := Aside0.mk (blk_below Bg8.out hb); have n_Bg9 := Aside0.mk (blk_below Bg9.out hb); have n_Bg11 := Aside0.mk (blk_below Bg11.out hb); have n_Bg14 := Aside0.mk (blk_below Bg14.out hb); have n_HB := Aside0.mk (below_step HB.out hb); have NN20 : Aside0 (w19.heap.size ≤ w20.heap.size) := ⟨hb.size⟩; clear U34 U36_0 U38_0 U44 U46_0 U48_0 Bg3 Bg8 Bg9 Bg11 Bg14 HB; have U34 := n_U34; have U36_0 := n_U36_0; have U38_0 := n_U38_0; have U44 := n_U44; have U46_0 := n_U46_0; have U48_0 := n_U48_0; have Bg3 := n_Bg3; have Bg8 := n_Bg8; have Bg9 := n_Bg9; have Bg11 := n_Bg11; have Bg14 := n_Bg14; have HB := n_HB; clear n_U34 n_U36_0 n_U38_0 n_U44 n_U46_0 n_U48_0 n_Bg3 n_Bg8 n_Bg9 n_Bg11 n_Bg14 n_HB; have Bg15 := Aside0.mk hbox; clear hb hbox; have hc14_0 : w20.cell? ⟨g14, 0, none⟩ = some (.int .i64 0) := (blk_cell Bg14.out 0).trans rfl; have hf14_0 := blk_frozen Bg14.out 0; have hc14_1 : w20.cell? ⟨g14, 1, none⟩ = some (.int .i64 0) := (blk_cell Bg14.out 1).trans rfl; have hf14_1 := blk_frozen Bg14.out 1) | ((with_reducible refine gate_store (t := 65) (p := 14) rfl ?_); refine store_event (t := 65) (p := 14) (v := ?vo_w21) (w1 := ((w20.setCell ⟨g14, 0, none⟩ (.int .i64 s0)).setCell ⟨g14, 1, none⟩ (.int .i64 s1))) ?hg ?ho ?hn ?hr ?_; (case ho => rfl); (case hg => rfl); (case hn => rfl); (case hr => first | (go_simp; done) | (go_simp; rfl)); intro w21 hw; have hge : w.heap.size ≤ g14 := (by have := NN1.out; have := Gg3.out; have := Kg3.out; have := NN2.out; have := NN3.out; have := NN4.out; have := NN5.out; have := NN6.out; have := NN7.out; have := NN8.out; have := NN9.out; have := Gg8.out; have := Kg8.out; have := NN10.out; have := Gg9.out; have := Kg9.out; have := NN11.out; have := NN12.out; have := NN13.out; have := NN14.out; have := Gg11.out; have := Kg11.out; have := NN15.out; have := NN16.out; have := NN17.out; have := NN18.out; have := NN19.out; have := Gg14.out; have := Kg14.out; have := NN20.out; have := Gg15.out; have := Kg15.out; have := HB.out.size; omega); have hF : Frm w20 w21 g14 (g14 + 1) := (by rw [hw]; exact (Frm.trans (Frm.set _ _ _ _) (Frm.set _ _ _ _))); have nb := Aside0.mk (show w21.heap[g14]? = some (.cells #[.int .i64 s0, .int .i64 s1] 65 (0, 0)) from (by rw [hw]; exact (blk_put (blk_put Bg14.out 0 _ rfl) 1 _ rfl))); have n_U34 := Aside0.mk (U34.out.mv hF (by have := NN1.out; have := Gg3.out; have := Kg3.out; have := NN2.out; have := NN3.out; have := NN4.out; have := NN5.out; have := NN6.out; have := NN7.out; have := NN8.out; have := NN9.out; have := Gg8.out; have := Kg8.out; have := NN10.out; have := Gg9.out; have := Kg9.out; have := NN11.out; have := NN12.out; have := NN13.out; have := NN14.out; have := Gg11.out; have := Kg11.out; have := NN15.out; have := NN16.out; have := NN17.out; have := NN18.out; have := NN19.out; have := Gg14.out; have := Kg14.out; have := NN20.out; have := Gg15.out; have := Kg15.out; omega)); have n_U36_0 := Aside0.mk (U36_0.out.mv hF (by have := NN1.out; have := Gg3.out; have := Kg3.out; have := NN2.out; have := NN3.out; have := NN4.out; have := NN5.out; have := NN6.out; have := NN7.out; have := NN8.out; have := NN9.out; have := Gg8.out; have := Kg8.out; have := NN10.out; have := Gg9.out; have := Kg9.out; have := NN11.out; have := NN12.out; have := NN13.out; have := NN14.out; have := Gg11.out; have := Kg11.out; have := NN15.out; have := NN16.out; have := NN17.out; have := NN18.out; have := NN19.out; have := Gg14.out; have := Kg14.out; have := NN20.out; have := Gg15.out; have := Kg15.out; omega)); have n_U38_0 := Aside0.mk (U38_0.out.mv hF (by have := NN1.out; have := Gg3.out; have := Kg3.out; have := NN2.out; have := NN3.out; have := NN4.out; have := NN5.out; have := NN6.out; have := NN7.out; have := NN8.out; have := NN9.out; have := Gg8.out; have := Kg8.out; have := NN10.out; have := Gg9.out; have := Kg9.out; have := NN11.out; have := NN12.out; have := NN13.out; have := NN14.out; have := Gg11.out; have := Kg11.out; have := NN15.out; have := NN16.out; have := NN17.out; have := NN18.out; have := NN19.out; have := Gg14.out; have := Kg14.out; have := NN20.out; have := Gg15.out; have := Kg15.out; omega)); have n_U44 := Aside0.mk (U44.out.mv hF (by have := NN1.out; have := Gg3.out; have := Kg3.out; have := NN2.out; have := NN3.out; have := NN4.out; have := NN5.out; have := NN6.out; have := NN7.out; have := NN8.out; have := NN9.out; have := Gg8.out; have := Kg8.out; have := NN10.out; have := Gg9.out; have := Kg9.out; have := NN11.out; have := NN12.out; have := NN13.out; have := NN14.out; have := Gg11.out; have := Kg11.out; have := NN15.out; have := NN16.out; have := NN17.out; have := NN18.out; have := NN19.out; have := Gg14.out; have := Kg14.out; have := NN20.out; have := Gg15.out; have := Kg15.out; omega)); have n_U46_0 := Aside0.mk (U46_0.out.mv hF (by have := NN1.out; have := Gg3.out; have := Kg3.out; have := NN2.out; have := NN3.out; have := NN4.out; have := NN5.out; have := NN6.out; have := NN7.out; have := NN8.out; have := NN9.out; have := Gg8.out; have := Kg8.out; have := NN10.out; have := Gg9.out; have := Kg9.out; have := NN11.out; have := NN12.out; have := NN13.out; have := NN14.out; have := Gg11.out; have := Kg11.out; have := NN15.out; have := NN16.out; have := NN17.out; have := NN18.out; have := NN19.out; have := Gg14.out; have := Kg14.out; have := NN20.out; have := Gg15.out; have := Kg15.out; omega)); have n_U48_0 := Aside0.mk (U48_0.out.mv hF (by have := NN1.out; have := Gg3.out; have := Kg3.out; have := NN2.out; have := NN3.out; have := NN4.out; have := NN5.out; have := NN6.out; have := NN7.out; have := NN8.out; have := NN9.out; have := Gg8.out; have := Kg8.out; have := NN10.out; have := Gg9.out; have := Kg9.out; have := NN11.out; have := NN12.out; have := NN13.out; have := NN14.out; have := Gg11.out; have := Kg11.out; have := NN15.out; have := NN16.out; have := NN17.out; have := NN18.out; have := NN19.out; have := Gg14.out; have := Kg14.out; have := NN20.out; have := Gg15.out; have := Kg15.out; omega)); have n_Bg3 := Aside0.mk ((hF.same g3 (blk_lt Bg3.out) (by have := NN1.out; have := Gg3.out; have := Kg3.out; have := NN2.out; have := NN3.out; have := NN4.out; have := NN5.out; have := NN6.out; have := NN7.out; have := NN8.out; have := NN9.out; have := Gg8.out; have := Kg8.out; have := NN10.out; have := Gg9.out; have := Kg9.out; have := NN11.out; have := NN12.out; have := NN13.out; have := NN14.out; have := Gg11.out; have := Kg11.out; have := NN15.out; have := NN16.out; have := NN17.out; have := NN18.out; have := NN19.out; have := Gg14.out; have := Kg14.out; have := NN20.out; have := Gg15.out; have := Kg15.out; omega)).trans Bg3.out); have n_Bg8 := Aside0.mk ((hF.same g8 (blk_lt Bg8.out) (by have := NN1.out; have := Gg3.out; have := Kg3.out; have := NN2.out; have := NN3.out; have := NN4.out; have := NN5.out; have := NN6.out; have := NN7.out; have := NN8.out; have := NN9.out; have := Gg8.out; have := Kg8.out; have := NN10.out; have := Gg9.out; have := Kg9.out; have := NN11.out; have := NN12.out; have := NN13.out; have := NN14.out; have := Gg11.out; have := Kg11.out; have := NN15.out; have := NN16.out; have := NN17.out; have := NN18.out; have := NN19.out; have := Gg14.out; have := Kg14.out; have := NN20.out; have := Gg15.out; have := Kg15.out; omega)).trans Bg8.out); have n_Bg9 := Aside0.mk ((hF.same g9 (blk_lt Bg9.out) (by have := NN1.out; have := Gg3.out; have := Kg3.out; have := NN2.out; have := NN3.out; have := NN4.out; have := NN5.out; have := NN6.out; have := NN7.out; have := NN8.out; have := NN9.out; have := Gg8.out; have := Kg8.out; have := NN10.out; have := Gg9.out; have := Kg9.out; have := NN11.out; have := NN12.out; have := NN13.out; have := NN14.out; have := Gg11.out; have := Kg11.out; have := NN15.out; have := NN16.out; have := NN17.out; have := NN18.out; have := NN19.out; have := Gg14.out; have := Kg14.out; have := NN20.out; have := Gg15.out; have := Kg15.out; omega)).trans Bg9.out); have n_Bg11 := Aside0.mk ((hF.same g11 (blk_lt Bg11.out) (by have := NN1.out; have := Gg3.out; have := Kg3.out; have := NN2.out; have := NN3.out; have := NN4.out; have := NN5.out; have := NN6.out; have := NN7.out; have := NN8.out; have := NN9.out; have := Gg8.out; have := Kg8.out; have := NN10.out; have := Gg9.out; have := Kg9.out; have := NN11.out; have := NN12.out; have := NN13.out; have := NN14.out; have := Gg11.out; have := Kg11.out; have := NN15.out; have := NN16.out; have := NN17.out; have := NN18.out; have := NN19.out; have := Gg14.out; have := Kg14.out; have := NN20.out; have := Gg15.out; have := Kg15.out; omega)).trans Bg11.out); have n_Bg15 := Aside0.mk ((hF.same g15 (blk_lt Bg15.out) (by have := NN1.out; have := Gg3.out; have := Kg3.out; have := NN2.out; have := NN3.out; have := NN4.out; have := NN5.out; have := NN6.out; have := NN7.out; have := NN8.out; have := NN9.out; have := Gg8.out; have := Kg8.out; have := NN10.out; have := Gg9.out; have := Kg9.out; have := NN11.out; have := NN12.out; have := NN13.out; have := NN14.out; have := Gg11.out; have := Kg11.out; have := NN15.out; have := NN16.out; have := NN17.out; have := NN18.out; have := NN19.out; have := Gg14.out; have := Kg14.out; have := NN20.out; have := Gg15.out; have := Kg15.out; omega)).trans Bg15.out); have n_HB := Aside0.mk ((by rw [hw]; exact (below_set (below_set HB.out hge) hge) : Below w.heap.size w w21)); have NN21 : Aside0 (w20.heap.size ≤ w21.heap.size) := ⟨hF.size⟩; clear hc14_0 hf14_0; clear hc14_1 hf14_1; clear U34 U36_0 U38_0 U44 U46_0 U48_0 Bg3 Bg8 Bg9 Bg11 Bg15 HB; have U34 := n_U34; have U36_0 := n_U36_0; have U38_0 := n_U38_0; have U44 := n_U44; have U46_0 := n_U46_0; have U48_0 := n_U48_0; have Bg3 := n_Bg3; have Bg8 := n_Bg8; have Bg9 := n_Bg9; have Bg11 := n_Bg11; have Bg15 := n_Bg15; have HB := n_HB; clear n_U34 n_U36_0 n_U38_0 n_U44 n_U46_0 n_U48_0 n_Bg3 n_Bg8 n_Bg9 n_Bg11 n_Bg15 n_HB; clear Bg14; have Bg14 := nb; clear nb hF hge hw; have hc15_0 : w21.cell? ⟨g15, 0, none⟩ = some (.int .i64 0) := (blk_cell Bg15.out 0).trans rfl; have hf15_0 := blk_frozen Bg15.out 0; have hc15_1 : w21.cell? ⟨g15, 1, none⟩ = some (.int .i64 0) := (blk_cell Bg15.out 1).trans rfl; have hf15_1 := blk_frozen Bg15.out 1) | ((with_reducible refine gate_store (t := 65) (p := 15) rfl ?_); refine store_event (t := 65) (p := 15) (v := ?vo_w22) (w1 := ((w21.setCell ⟨g15, 0, none⟩ (.int .i64 s2)).setCell ⟨g15, 1, none⟩ (.int .i64 s3))) ?hg ?ho ?hn ?hr ?_; (case ho => rfl); (case hg => rfl); (case hn => rfl); (case hr => first | (go_simp; done) | (go_simp; rfl)); intro w22 hw; have hge : w.heap.size ≤ g15 := (by have := NN1.out; have := Gg3.out; have := Kg3.out; have := NN2.out; have := NN3.out; have := NN4.out; have := NN5.out; have := NN6.out; have := NN7.out; have := NN8.out; have := NN9.out; have := Gg8.out; have := Kg8.out; have := NN10.out; have := Gg9.out; have := Kg9.out; have := NN11.out; have := NN12.out; have := NN13.out; have := NN14.out; have := Gg11.out; have := Kg11.out; have := NN15.out; have := NN16.out; have := NN17.out; have := NN18.out; have := NN19.out; have := Gg14.out; have := Kg14.out; have := NN20.out; have := Gg15.out; have := Kg15.out; have := NN21.out; have := HB.out.size; omega); have hF : Frm w21 w22 g15 (g15 + 1) := (by rw [hw]; exact (Frm.trans (Frm.set _ _ _ _) (Frm.set _ _ _ _))); have nb := Aside0.mk (show w22.heap[g15]? = some (.cells #[.int .i64 s2, .int .i64 s3] 65 (0, 0)) from (by rw [hw]; exact (blk_put (blk_put Bg15.out 0 _ rfl) 1 _ rfl))); have n_U34 := Aside0.mk (U34.out.mv hF (by have := NN1.out; have := Gg3.out; have := Kg3.out; have := NN2.out; have := NN3.out; have := NN4.out; have := NN5.out; have := NN6.out; have := NN7.out; have := NN8.out; have := NN9.out; have := Gg8.out; have := Kg8.out; have := NN10.out; have := Gg9.out; have := Kg9.out; have := NN11.out; have := NN12.out; have := NN13.out; have := NN14.out; have := Gg11.out; have := Kg11.out; have := NN15.out; have := NN16.out; have := NN17.out; have := NN18.out; have := NN19.out; have := Gg14.out; have := Kg14.out; have := NN20.out; have := Gg15.out; have := Kg15.out; have := NN21.out; omega)); have n_U36_0 := Aside0.mk (U36_0.out.mv hF (by have := NN1.out; have := Gg3.out; have := Kg3.out; have := NN2.out; have := NN3.out; have := NN4.out; have := NN5.out; have := NN6.out; have := NN7.out; have := NN8.out; have := NN9.out; have := Gg8.out; have := Kg8.out; have := NN10.out; have := Gg9.out; have := Kg9.out; have := NN11.out; have := NN12.out; have := NN13.out; have := NN14.out; have := Gg11.out; have := Kg11.out; have := NN15.out; have := NN16.out; have := NN17.out; have := NN18.out; have := NN19.out; have := Gg14.out; have := Kg14.out; have := NN20.out; have := Gg15.out; have := Kg15.out; have := NN21.out; omega)); have n_U38_0 := Aside0.mk (U38_0.out.mv hF (by have := NN1.out; have := Gg3.out; have := Kg3.out; have := NN2.out; have := NN3.out; have := NN4.out; have := NN5.out; have := NN6.out; have := NN7.out; have := NN8.out; have := NN9.out; have := Gg8.out; have := Kg8.out; have := NN10.out; have := Gg9.out; have := Kg9.out; have := NN11.out; have := NN12.out; have := NN13.out; have := NN14.out; have := Gg11.out; have := Kg11.out; have := NN15.out; have := NN16.out; have := NN17.out; have := NN18.out; have := NN19.out; have := Gg14.out; have := Kg14.out; have := NN20.out; have := Gg15.out; have := Kg15.out; have := NN21.out; omega)); have n_U44 := Aside0.mk (U44.out.mv hF (by have := NN1.out; have := Gg3.out; have := Kg3.out; have := NN2.out; have := NN3.out; have := NN4.out; have := NN5.out; have := NN6.out; have := NN7.out; have := NN8.out; have := NN9.out; have := Gg8.out; have := Kg8.out; have := NN10.out; have := Gg9.out; have := Kg9.out; have := NN11.out; have := NN12.out; have := NN13.out; have := NN14.out; have := Gg11.out; have := Kg11.out; have := NN15.out; have := NN16.out; have := NN17.out; have := NN18.out; have := NN19.out; have := Gg14.out; have := Kg14.out; have := NN20.out; have := Gg15.out; have := Kg15.out; have := NN21.out; omega)); have n_U46_0 := Aside0.mk (U46_0.out.mv hF (by have := NN1.out; have := Gg3.out; have := Kg3.out; have := NN2.out; have := NN3.out; have := NN4.out; have := NN5.out; have := NN6.out; have := NN7.out; have := NN8.out; have := NN9.out; have := Gg8.out; have := Kg8.out; have := NN10.out; have := Gg9.out; have := Kg9.out; have := NN11.out; have := NN12.out; have := NN13.out; have := NN14.out; have := Gg11.out; have := Kg11.out; have := NN15.out; have := NN16.out; have := NN17.out; have := NN18.out; have := NN19.out; have := Gg14.out; have := Kg14.out; have := NN20.out; have := Gg15.out; have := Kg15.out; have := NN21.out; omega)); have n_U48_0 := Aside0.mk (U48_0.out.mv hF (by have := NN1.out; have := Gg3.out; have := Kg3.out; have := NN2.out; have := NN3.out; have := NN4.out; have := NN5.out; have := NN6.out; have := NN7.out; have := NN8.out; have := NN9.out; have := Gg8.out; have := Kg8.out; have := NN10.out; have := Gg9.out; have := Kg9.out; have := NN11.out; have := NN12.out; have := NN13.out; have := NN14.out; have := Gg11.out; have := Kg11.out; have := NN15.out; have := NN16.out; have := NN17.out; have := NN18.out; have := NN19.out; have := Gg14.out; have := Kg14.out; have := NN20.out; have := Gg15.out; have := Kg15.out; have := NN21.out; omega)); have n_Bg3 := Aside0.mk ((hF.same g3 (blk_lt Bg3.out) (by have := NN1.out; have := Gg3.out; have := Kg3.out; have := NN2.out; have := NN3.out; have := NN4.out; have := NN5.out; have := NN6.out; have := NN7.out; have := NN8.out; have := NN9.out; have := Gg8.out; have := Kg8.out; have := NN10.out; have := Gg9.out; have := Kg9.out; have := NN11.out; have := NN12.out; have := NN13.out; have := NN14.out; have := Gg11.out; have := Kg11.out; have := NN15.out; have := NN16.out; have := NN17.out; have := NN18.out; have := NN19.out; have := Gg14.out; have := Kg14.out; have := NN20.out; have := Gg15.out; have := Kg15.out; have := NN21.out; omega)).trans Bg3.out); have n_Bg8 := Aside0.mk ((hF.same g8 (blk_lt Bg8.out) (by have := NN1.out; have := Gg3.out; have := Kg3.out; have := NN2.out; have := NN3.out; have := NN4.out; have := NN5.out; have := NN6.out; have := NN7.out; have := NN8.out; have := NN9.out; have := Gg8.out; have := Kg8.out; have := NN10.out; have := Gg9.out; have := Kg9.out; have := NN11.out; have := NN12.out; have := NN13.out; have := NN14.out; have := Gg11.out; have := Kg11.out; have := NN15.out; have := NN16.out; have := NN17.out; have := NN18.out; have := NN19.out; have := Gg14.out; have := Kg14.out; have := NN20.out; have := Gg15.out; have := Kg15.out; have := NN21.out; omega)).trans Bg8.out); have n_Bg9 := Aside0.mk ((hF.same g9 (blk_lt Bg9.out) (by have := NN1.out; have := Gg3.out; have := Kg3.out; have := NN2.out; have := NN3.out; have := NN4.out; have := NN5.out; have := NN6.out; have := NN7.out; have := NN8.out; have := NN9.out; have := Gg8.out; have := Kg8.out; have := NN10.out; have := Gg9.out; have := Kg9.out; have := NN11.out; have := NN12.out; have := NN13.out; have := NN14.out; have := Gg11.out; have := Kg11.out; have := NN15.out; have := NN16.out; have := NN17.out; have := NN18.out; have := NN19.out; have := Gg14.out; have := Kg14.out; have := NN20.out; have := Gg15.out; have := Kg15.out; have := NN21.out; omega)).trans Bg9.out); have n_Bg11 := Aside0.mk ((hF.same g11 (blk_lt Bg11.out) (by have := NN1.out; have := Gg3.out; have := Kg3.out; have := NN2.out; have := NN3.out; have := NN4.out; have := NN5.out; have := NN6.out; have := NN7.out; have := NN8.out; have := NN9.out; have := Gg8.out; have := Kg8.out; have := NN10.out; have := Gg9.out; have := Kg9.out; have := NN11.out; have := NN12.out; have := NN13.out; have := NN14.out; have := Gg11.out; have := Kg11.out; have := NN15.out; have := NN16.out; have := NN17.out; have := NN18.out; have := NN19.out; have := Gg14.out; have := Kg14.out; have := NN20.out; have := Gg15.out; have := Kg15.out; have := NN21.out; omega)).trans Bg11.out); have n_Bg14 := Aside0.mk ((hF.same g14 (blk_lt Bg14.out) (by have := NN1.out; have := Gg3.out; have := Kg3.out; have := NN2.out; have := NN3.out; have := NN4.out; have := NN5.out; have := NN6.out; have := NN7.out; have := NN8.out; have := NN9.out; have := Gg8.out; have := Kg8.out; have := NN10.out; have := Gg9.out; have := Kg9.out; have := NN11.out; have := NN12.out; have := NN13.out; have := NN14.out; have := Gg11.out; have := Kg11.out; have := NN15.out; have := NN16.out; have := NN17.out; have := NN18.out; have := NN19.out; have := Gg14.out; have := Kg14.out; have := NN20.out; have := Gg15.out; have := Kg15.out; have := NN21.out; omega)).trans Bg14.out); have n_HB := Aside0.mk ((by rw [hw]; exact (below_set (below_set HB.out hge) hge) : Below w.heap.size w w22)); have NN22 : Aside0 (w21.heap.size ≤ w22.heap.size) := ⟨hF.size⟩; clear hc15_0 hf15_0; clear hc15_1 hf15_1; clear U34 U36_0 U38_0 U44 U46_0 U48_0 Bg3 Bg8 Bg9 Bg11 Bg14 HB; have U34 := n_U34; have U36_0 := n_U36_0; have U38_0 := n_U38_0; have U44 := n_U44; have U46_0 := n_U46_0; have U48_0 := n_U48_0; have Bg3 := n_Bg3; have Bg8 := n_Bg8; have Bg9 := n_Bg9; have Bg11 := n_Bg11; have Bg14 := n_Bg14; have HB := n_HB; clear n_U34 n_U36_0 n_U38_0 n_U44 n_U46_0 n_U48_0 n_Bg3 n_Bg8 n_Bg9 n_Bg11 n_Bg14 n_HB; clear Bg15; have Bg15 := nb; clear nb hF hge hw; have hc8_0 : w22.cell? ⟨g8, 0, none⟩ = some (.int .i64 s0) := (blk_cell Bg8.out 0).trans rfl; have hf8_0 := blk_frozen Bg8.out 0; have hc8_1 : w22.cell? ⟨g8, 1, none⟩ = some (.int .i64 s1) := (blk_cell Bg8.out 1).trans rfl; have hf8_1 := blk_frozen Bg8.out 1; have hc14_0 : w22.cell? ⟨g14, 0, none⟩ = some (.int .i64 s0) := (blk_cell Bg14.out 0).trans rfl; have hf14_0 := blk_frozen Bg14.out 0; have hc14_1 : w22.cell? ⟨g14, 1, none⟩ = some (.int .i64 s1) := (blk_cell Bg14.out 1).trans rfl; have hf14_1 := blk_frozen Bg14.out 1) | ((with_reducible refine gate_callee (f := 48) rfl ?_); refine goesL_ (some 59) rfl rfl Try.func48 (by kernel_rfl) rfl #[.agg #[.int .i64 s0, .int .i64 s1], .agg #[.int .i64 s0, .int .i64 s1]] rfl (by (try simp only [List.map_toArray, List.map_cons, List.map_nil]); first | done | rfl) ?_; refine (laws_eqFrac.calls s0 s1 s0 s1 true _ H12'.out).mono ?_; rintro e w23 ⟨rfl, hb⟩; refine ⟨_, rfl, ?_⟩; have n_U34 := Aside0.mk (U34.out.mvB (Frm.below hb)); have n_U36_0 := Aside0.mk (U36_0.out.mvB (Frm.below hb)); have n_U38_0 := Aside0.mk (U38_0.out.mvB (Frm.below hb)); have n_U44 := Aside0.mk (U44.out.mvB (Frm.below hb)); have n_U46_0 := Aside0.mk (U46_0.out.mvB (Frm.below hb)); have n_U48_0 := Aside0.mk (U48_0.out.mvB (Frm.below hb)); have n_Bg3 := Aside0.mk (blk_below Bg3.out hb); have n_Bg8 := Aside0.mk (blk_below Bg8.out hb); have n_Bg9 := Aside0.mk (blk_below Bg9.out hb); have n_Bg11 := Aside0.mk (blk_below Bg11.out hb); have n_Bg14 := Aside0.mk (blk_below Bg14.out hb); have n_Bg15 := Aside0.mk (blk_below Bg15.out hb); have n_HB := Aside0.mk (below_step HB.out hb); have NN23 : Aside0 (w22.heap.size ≤ w23.heap.size) := ⟨hb.size⟩; clear hc8_0 hf8_0; clear hc8_1 hf8_1; clear hc14_0 hf14_0; clear hc14_1 hf14_1; clear U34 U36_0 U38_0 U44 U46_0 U48_0 Bg3 Bg8 Bg9 Bg11 Bg14 Bg15 HB; have U34 := n_U34; have U36_0 := n_U36_0; have U38_0 := n_U38_0; have U44 := n_U44; have U46_0 := n_U46_0; have U48_0 := n_U48_0; have Bg3 := n_Bg3; have Bg8 := n_Bg8; have Bg9 := n_Bg9; have Bg11 := n_Bg11; have Bg14 := n_Bg14; have Bg15 := n_Bg15; have HB := n_HB; clear n_U34 n_U36_0 n_U38_0 n_U44 n_U46_0 n_U48_0 n_Bg3 n_Bg8 n_Bg9 n_Bg11 n_Bg14 n_Bg15 n_HB; clear hb; have hc9_0 : w23.cell? ⟨g9, 0, none⟩ = some (.int .i64 s2) := (blk_cell Bg9.out 0).trans rfl; have hf9_0 := blk_frozen Bg9.out 0; have hc9_1 : w23.cell? ⟨g9, 1, none⟩ = some (.int .i64 s3) := (blk_cell Bg9.out 1).trans rfl; have hf9_1 := blk_frozen Bg9.out 1; have hc15_0 : w23.cell? ⟨g15, 0, none⟩ = some (.int .i64 s2) := (blk_cell Bg15.out 0).trans rfl; have hf15_0 := blk_frozen Bg15.out 0; have hc15_1 : w23.cell? ⟨g15, 1, none⟩ = some (.int .i64 s3) := (blk_cell Bg15.out 1).trans rfl; have hf15_1 := blk_frozen Bg15.out 1) | (go_at_call 48; refine (laws_eqFrac.calls s2 s3 s2 s3 true _ H13'.out).mono ?_; rintro e w24 ⟨rfl, hb⟩; have n_U34 := Aside0.mk (U34.out.mvB (Frm.below hb)); have n_U36_0 := Aside0.mk (U36_0.out.mvB (Frm.below hb)); have n_U38_0 := Aside0.mk (U38_0.out.mvB (Frm.below hb)); have n_U44 := Aside0.mk (U44.out.mvB (Frm.below hb)); have n_U46_0 := Aside0.mk (U46_0.out.mvB (Frm.below hb)); have n_U48_0 := Aside0.mk (U48_0.out.mvB (Frm.below hb)); have n_Bg3 := Aside0.mk (blk_below Bg3.out hb); have n_Bg8 := Aside0.mk (blk_below Bg8.out hb); have n_Bg9 := Aside0.mk (blk_below Bg9.out hb); have n_Bg11 := Aside0.mk (blk_below Bg11.out hb); have n_Bg14 := Aside0.mk (blk_below Bg14.out hb); have n_Bg15 := Aside0.mk (blk_below Bg15.out hb); have n_HB := Aside0.mk (below_step HB.out hb); have NN24 : Aside0 (w23.heap.size ≤ w24.heap.size) := ⟨hb.size⟩; clear hc9_0 hf9_0; clear hc9_1 hf9_1; clear hc15_0 hf15_0; clear hc15_1 hf15_1; clear U34 U36_0 U38_0 U44 U46_0 U48_0 Bg3 Bg8 Bg9 Bg11 Bg14 Bg15 HB; have U34 := n_U34; have U36_0 := n_U36_0; have U38_0 := n_U38_0; have U44 := n_U44; have U46_0 := n_U46_0; have U48_0 := n_U48_0; have Bg3 := n_Bg3; have Bg8 := n_Bg8; have Bg9 := n_Bg9; have Bg11 := n_Bg11; have Bg14 := n_Bg14; have Bg15 := n_Bg15; have HB := n_HB; clear n_U34 n_U36_0 n_U38_0 n_U44 n_U46_0 n_U48_0 n_Bg3 n_Bg8 n_Bg9 n_Bg11 n_Bg14 n_Bg15 n_HB; clear hb))
 try go_wp2
 have hb : Below w24.heap.size w24 w24.drew := (Below.refl _ _).drew
 have n_U34 := Aside0.mk (U34.out.mvB (Frm.below hb))
 have n_U36_0 := Aside0.mk (U36_0.out.mvB (Frm.below hb))
 have n_U38_0 := Aside0.mk (U38_0.out.mvB (Frm.below hb))
 have n_U44 := Aside0.mk (U44.out.mvB (Frm.below hb))
 have n_U46_0 := Aside0.mk (U46_0.out.mvB (Frm.below hb))
 have n_U48_0 := Aside0.mk (U48_0.out.mvB (Frm.below hb))
 have n_Bg3 := Aside0.mk (blk_below Bg3.out hb)
 have n_Bg8 := Aside0.mk (blk_below Bg8.out hb)
 have n_Bg9 := Aside0.mk (blk_below Bg9.out hb)
 have n_Bg11 := Aside0.mk (blk_below Bg11.out hb)
 have n_Bg14 := Aside0.mk (blk_below Bg14.out hb)
 have n_Bg15 := Aside0.mk (blk_below Bg15.out hb)
 have n_HB := Aside0.mk (below_step HB.out hb)
 have NN25 : Aside0 (w24.heap.size ≤ w24.drew.heap.size) := ⟨hb.size⟩
 clear U34 U36_0 U38_0 U44 U46_0 U48_0 Bg3 Bg8 Bg9 Bg11 Bg14 Bg15 HB
 have U34 := n_U34
 have U36_0 := n_U36_0
 have U38_0 := n_U38_0
 have U44 := n_U44
 have U46_0 := n_U46_0
 have U48_0 := n_U48_0
 have Bg3 := n_Bg3
 have Bg8 := n_Bg8
 have Bg9 := n_Bg9
 have Bg11 := n_Bg11
 have Bg14 := n_Bg14
 have Bg15 := n_Bg15
 have HB := n_HB
 clear n_U34 n_U36_0 n_U38_0 n_U44 n_U46_0 n_U48_0 n_Bg3 n_Bg8 n_Bg9 n_Bg11 n_Bg14 n_Bg15 n_HB
 clear hb
 refine start_ (n := 5) (S := fun w' => w'.cell? ⟨g11, 0, none⟩ = some (.slice A44_0 l0_0.length c44_0) ∧ w'.cell? ⟨g11, 1, none⟩ = some (.slice A44_1 l0_1.length c44_1) ∧ w'.cell? ⟨g3, 0, none⟩ = some (.slice A0_0 l0_0.length c0_0) ∧ w'.cell? ⟨g3, 1, none⟩ = some (.slice A0_1 l0_1.length c0_1)) (ds := []) #[false, false, false, false, false] (by kernel_rfl) rfl rfl ⟨(blk_cell Bg11.out 0).trans rfl, (blk_cell Bg11.out 1).trans rfl, (blk_cell Bg3.out 0).trans rfl, (blk_cell Bg3.out 1).trans rfl⟩ (fun hHeld => ?_)
 generalize w24.drew = w25 at U34 U36_0 U38_0 U44 U46_0 U48_0 Bg3 Bg8 Bg9 Bg11 Bg14 Bg15 HB NN25 hHeld ⊢
 have hc3_0 : w25.cell? ⟨g3, 0, none⟩ = some (.slice A0_0 l0_0.length c0_0) := (blk_cell Bg3.out 0).trans rfl
 have hf3_0 := blk_frozen Bg3.out 0
 have hc3_1 : w25.cell? ⟨g3, 1, none⟩ = some (.slice A0_1 l0_1.length c0_1) := (blk_cell Bg3.out 1).trans rfl
 have hf3_1 := blk_frozen Bg3.out 1
 have hc11_0 : w25.cell? ⟨g11, 0, none⟩ = some (.slice A44_0 l0_0.length c44_0) := (blk_cell Bg11.out 0).trans rfl
 have hf11_0 := blk_frozen Bg11.out 0
 have hc11_1 : w25.cell? ⟨g11, 1, none⟩ = some (.slice A44_1 l0_1.length c44_1) := (blk_cell Bg11.out 1).trans rfl
 have hf11_1 := blk_frozen Bg11.out 1
 refine take_ (i := 0) (N := some 72) (v := ?_) (a' := ?_) #[true, false, false, false, false] rfl rfl (by kernel_rfl) (fun _ _ _ h => h) (Or.inl ⟨by rfl, ?_⟩) hHeld ?_ ?_
 rotate_left
 ·rintro w' ⟨s0, s1, s2, s3⟩
  go_simp
  with_reducible rfl
 rotate_left
 ·simp only [Act.put, List.setIfInBounds_toArray, List.set_cons_zero, List.set_cons_succ, i64_w, i32_w]
  rfl
 refine take_ (i := 1) (N := some 73) (v := ?_) (a' := ?_) #[true, true, false, false, false] rfl rfl (by kernel_rfl) (fun _ _ _ h => h) (Or.inl ⟨by rfl, ?_⟩) hHeld ?_ ?_
 rotate_left
 ·rintro w' ⟨s0, s1, s2, s3⟩
  go_simp
  with_reducible rfl
 rotate_left
 ·simp only [Act.put, List.setIfInBounds_toArray, List.set_cons_zero, List.set_cons_succ, i64_w, i32_w]
  rfl
 refine one_ (i := 2) (N := some 74) #[true, true, true, false, false] rfl rfl (by kernel_rfl) (by decide) (fun K hK => ?_)
 refine goes_ Try.func17 (by kernel_rfl) rfl #[.agg #[.slice A0_0 l0_0.length c0_0, .slice A0_1 l0_1.length c0_1]] (by rfl) rfl rfl (by (try simp only [List.map_toArray, List.map_cons, List.map_nil]); first | done | rfl) ?_
 (refine (laws_toGame2.calls k _ _ l0_0 _ _ l0_1 _ ?s1 ?s2 ?s3 ?s4 H7'.out).mono ?_; (case s1 => exact Kd.C_below HR0_0.out HB.out); (case s2 => exact HC0_0.out); (case s3 => exact Kd.C_below HR0_1.out HB.out); (case s4 => exact HC0_1.out); rintro e w26 ⟨v74_0, v74_1, rfl, ho0, hb⟩; refine ⟨_, rfl, ?_⟩; have nu0 := Aside0.mk (UG.of ho0 HB.out.size); have n_U34 := Aside0.mk (U34.out.mvB (Frm.below hb)); have n_U36_0 := Aside0.mk (U36_0.out.mvB (Frm.below hb)); have n_U38_0 := Aside0.mk (U38_0.out.mvB (Frm.below hb)); have n_U44 := Aside0.mk (U44.out.mvB (Frm.below hb)); have n_U46_0 := Aside0.mk (U46_0.out.mvB (Frm.below hb)); have n_U48_0 := Aside0.mk (U48_0.out.mvB (Frm.below hb)); have n_Bg3 := Aside0.mk (blk_below Bg3.out hb); have n_Bg8 := Aside0.mk (blk_below Bg8.out hb); have n_Bg9 := Aside0.mk (blk_below Bg9.out hb); have n_Bg11 := Aside0.mk (blk_below Bg11.out hb); have n_Bg14 := Aside0.mk (blk_below Bg14.out hb); have n_Bg15 := Aside0.mk (blk_below Bg15.out hb); have n_HB := Aside0.mk (below_step HB.out hb); have NN26 : Aside0 (w25.heap.size ≤ w26.heap.size) := ⟨hb.size⟩; clear hc3_0 hf3_0; clear hc3_1 hf3_1; clear hc11_0 hf11_0; clear hc11_1 hf11_1; clear U34 U36_0 U38_0 U44 U46_0 U48_0 Bg3 Bg8 Bg9 Bg11 Bg14 Bg15 HB; have U34 := n_U34; have U36_0 := n_U36_0; have U38_0 := n_U38_0; have U44 := n_U44; have U46_0 := n_U46_0; have U48_0 := n_U48_0; have Bg3 := n_Bg3; have Bg8 := n_Bg8; have Bg9 := n_Bg9; have Bg11 := n_Bg11; have Bg14 := n_Bg14; have Bg15 := n_Bg15; have HB := n_HB; clear n_U34 n_U36_0 n_U38_0 n_U44 n_U46_0 n_U48_0 n_Bg3 n_Bg8 n_Bg9 n_Bg11 n_Bg14 n_Bg15 n_HB; clear hb ho0; have U74 := nu0; clear nu0; obtain ⟨A74_0, c74_0, A74_1, c74_1, e0, e1⟩ := U74.out.slices; subst e0; subst e1)
 refine hK.out _ _ ⟨(blk_cell Bg11.out 0).trans rfl, (blk_cell Bg11.out 1).trans rfl, (blk_cell Bg3.out 0).trans rfl, (blk_cell Bg3.out 1).trans rfl⟩ (fun hHeld => ?_)
 clear hK K
 refine norm_ (a' := ?_) ?_ ?_
 rotate_left
 ·show Act.put _ (some 74) _ = _
  simp only [Act.put, List.setIfInBounds_toArray, List.set_cons_zero, List.set_cons_succ, i64_w, i32_w]
  rfl
 refine one_ (i := 3) (N := some 75) #[true, true, true, true, false] rfl rfl (by kernel_rfl) (by decide) (fun K hK => ?_)
 refine goes_ Try.func19 (by kernel_rfl) rfl #[.agg #[.slice A44_0 l0_0.length c44_0, .slice A44_1 l0_1.length c44_1], .agg #[.slice A74_0 l0_0.length c74_0, .slice A74_1 l0_1.length c74_1]] (by rfl) rfl rfl (by (try simp only [List.map_toArray, List.map_cons, List.map_nil]); first | done | rfl) ?_
 (refine (laws_eqGame.calls k _ _ l0_0 _ _ l0_1 _ _ l0_0 _ _ l0_1 true _ ?s1 ?s2 ?s3 ?s4 ?s5 ?s6 ?s7 ?s8 H14'.out).mono ?_; (case s1 => exact U44.out.C0); (case s2 => exact U44.out.cap0); (case s3 => exact U44.out.C1); (case s4 => exact U44.out.cap1); (case s5 => exact U74.out.C0); (case s6 => exact U74.out.cap0); (case s7 => exact U74.out.C1); (case s8 => exact U74.out.cap1); rintro e w27 ⟨rfl, hb⟩; refine ⟨_, rfl, ?_⟩; have n_U34 := Aside0.mk (U34.out.mvB (Frm.below hb)); have n_U36_0 := Aside0.mk (U36_0.out.mvB (Frm.below hb)); have n_U38_0 := Aside0.mk (U38_0.out.mvB (Frm.below hb)); have n_U44 := Aside0.mk (U44.out.mvB (Frm.below hb)); have n_U46_0 := Aside0.mk (U46_0.out.mvB (Frm.below hb)); have n_U48_0 := Aside0.mk (U48_0.out.mvB (Frm.below hb)); have n_U74 := Aside0.mk (U74.out.mvB (Frm.below hb)); have n_Bg3 := Aside0.mk (blk_below Bg3.out hb); have n_Bg8 := Aside0.mk (blk_below Bg8.out hb); have n_Bg9 := Aside0.mk (blk_below Bg9.out hb); have n_Bg11 := Aside0.mk (blk_below Bg11.out hb); have n_Bg14 := Aside0.mk (blk_below Bg14.out hb); have n_Bg15 := Aside0.mk (blk_below Bg15.out hb); have n_HB := Aside0.mk (below_step HB.out hb); have NN27 : Aside0 (w26.heap.size ≤ w27.heap.size) := ⟨hb.size⟩; clear U34 U36_0 U38_0 U44 U46_0 U48_0 U74 Bg3 Bg8 Bg9 Bg11 Bg14 Bg15 HB; have U34 := n_U34; have U36_0 := n_U36_0; have U38_0 := n_U38_0; have U44 := n_U44; have U46_0 := n_U46_0; have U48_0 := n_U48_0; have U74 := n_U74; have Bg3 := n_Bg3; have Bg8 := n_Bg8; have Bg9 := n_Bg9; have Bg11 := n_Bg11; have Bg14 := n_Bg14; have Bg15 := n_Bg15; have HB := n_HB; clear n_U34 n_U36_0 n_U38_0 n_U44 n_U46_0 n_U48_0 n_U74 n_Bg3 n_Bg8 n_Bg9 n_Bg11 n_Bg14 n_Bg15 n_HB; clear hb)
 refine hK.out _ _ ⟨(blk_cell Bg11.out 0).trans rfl, (blk_cell Bg11.out 1).trans rfl, (blk_cell Bg3.out 0).trans rfl, (blk_cell Bg3.out 1).trans rfl⟩ (fun hHeld => ?_)
 clear hK K
 refine norm_ (a' := ?_) ?_ ?_
 rotate_left
 ·show Act.put _ (some 75) _ = _
  simp only [Act.put, List.setIfInBounds_toArray, List.set_cons_zero, List.set_cons_succ, i64_w, i32_w]
  rfl
 refine pure_ (i := 4) (N := some 76) (v := ?_) (a' := ?_) #[true, true, true, true, true] rfl rfl (by kernel_rfl) (fun _ _ _ h => h) (Or.inl ⟨by rfl, ?_⟩) ?_ ?_
 rotate_left
 ·intro w'
  go_simp
  with_reducible rfl
 rotate_left
 ·simp only [Act.put, List.setIfInBounds_toArray, List.set_cons_zero, List.set_cons_succ, i64_w, i32_w]
  rfl
 refine done_ (by kernel_rfl) ?_
 go_wp2_with (first | ((with_reducible refine gate_callee (f := 46) rfl ?_); refine goesL_ (some 79) rfl rfl Try.func46 (by kernel_rfl) rfl #[.slice A1 l1.length c1] rfl (by (try simp only [List.map_toArray, List.map_cons, List.map_nil]); first | done | rfl) ?_; refine (laws_toFracS.calls k _ _ l1 y_l1 _ ?s1 ?s2 H8'.out).mono ?_; (case s1 => exact Kd.C_below HR1.out HB.out); (case s2 => exact HC1.out); rintro e w28 ⟨v79_0, rfl, ho0, hb⟩; refine ⟨_, rfl, ?_⟩; have nu0 := Aside0.mk (UR.of ho0 HB.out.size); have n_U34 := Aside0.mk (U34.out.mvB (Frm.below hb)); have n_U36_0 := Aside0.mk (U36_0.out.mvB (Frm.below hb)); have n_U38_0 := Aside0.mk (U38_0.out.mvB (Frm.below hb)); have n_U44 := Aside0.mk (U44.out.mvB (Frm.below hb)); have n_U46_0 := Aside0.mk (U46_0.out.mvB (Frm.below hb)); have n_U48_0 := Aside0.mk (U48_0.out.mvB (Frm.below hb)); have n_U74 := Aside0.mk (U74.out.mvB (Frm.below hb)); have n_Bg3 := Aside0.mk (blk_below Bg3.out hb); have n_Bg8 := Aside0.mk (blk_below Bg8.out hb); have n_Bg9 := Aside0.mk (blk_below Bg9.out hb); have n_Bg11 := Aside0.mk (blk_below Bg11.out hb); have n_Bg14 := Aside0.mk (blk_below Bg14.out hb); have n_Bg15 := Aside0.mk (blk_below Bg15.out hb); have n_HB := Aside0.mk (below_step HB.out hb); have NN28 : Aside0 (w27.heap.size ≤ w28.heap.size) := ⟨hb.size⟩; clear U34 U36_0 U38_0 U44 U46_0 U48_0 U74 Bg3 Bg8 Bg9 Bg11 Bg14 Bg15 HB; have U34 := n_U34; have U36_0 := n_U36_0; have U38_0 := n_U38_0; have U44 := n_U44; have U46_0 := n_U46_0; have U48_0 := n_U48_0; have U74 := n_U74; have Bg3 := n_Bg3; have Bg8 := n_Bg8; have Bg9 := n_Bg9; have Bg11 := n_Bg11; have Bg14 := n_Bg14; have Bg15 := n_Bg15; have HB := n_HB; clear n_U34 n_U36_0 n_U38_0 n_U44 n_U46_0 n_U48_0 n_U74 n_Bg3 n_Bg8 n_Bg9 n_Bg11 n_Bg14 n_Bg15 n_HB; clear hb ho0; have U79_0 := nu0; clear nu0; obtain ⟨A79_0, c79_0, e0⟩ := Kd.R_slice U79_0.out; subst e0) | ((with_reducible refine gate_callee (f := 49) rfl ?_); refine goesL_ (some 80) rfl rfl Try.func49 (by kernel_rfl) rfl #[.slice A46_0 y_l1.length c46_0, .slice A79_0 y_l1.length c79_0] rfl (by (try simp only [List.map_toArray, List.map_cons, List.map_nil]); first | done | rfl) ?_; refine (laws_eqFracS.calls k _ _ y_l1 _ _ y_l1 true _ ?s1 ?s2 ?s3 ?s4 H15'.out).mono ?_; (case s1 => exact UR.C U46_0.out); (case s2 => exact UR.cap U46_0.out); (case s3 => exact UR.C U79_0.out); (case s4 => exact UR.cap U79_0.out); rintro e w29 ⟨rfl, hb⟩; refine ⟨_, rfl, ?_⟩; have n_U34 := Aside0.mk (U34.out.mvB (Frm.below hb)); have n_U36_0 := Aside0.mk (U36_0.out.mvB (Frm.below hb)); have n_U38_0 := Aside0.mk (U38_0.out.mvB (Frm.below hb)); have n_U44 := Aside0.mk (U44.out.mvB (Frm.below hb)); have n_U46_0 := Aside0.mk (U46_0.out.mvB (Frm.below hb)); have n_U48_0 := Aside0.mk (U48_0.out.mvB (Frm.below hb)); have n_U74 := Aside0.mk (U74.out.mvB (Frm.below hb)); have n_U79_0 := Aside0.mk (U79_0.out.mvB (Frm.below hb)); have n_Bg3 := Aside0.mk (blk_below Bg3.out hb); have n_Bg8 := Aside0.mk (blk_below Bg8.out hb); have n_Bg9 := Aside0.mk (blk_below Bg9.out hb); have n_Bg11 := Aside0.mk (blk_below Bg11.out hb); have n_Bg14 := Aside0.mk (blk_below Bg14.out hb); have n_Bg15 := Aside0.mk (blk_below Bg15.out hb); have n_HB := Aside0.mk (below_step HB.out hb); have NN29 : Aside0 (w28.heap.size ≤ w29.heap.size) := ⟨hb.size⟩; clear U34 U36_0 U38_0 U44 U46_0 U48_0 U74 U79_0 Bg3 Bg8 Bg9 Bg11 Bg14 Bg15 HB; have U34 := n_U34; have U36_0 := n_U36_0; have U38_0 := n_U38_0; have U44 := n_U44; have U46_0 := n_U46_0; have U48_0 := n_U48_0; have U74 := n_U74; have U79_0 := n_U79_0; have Bg3 := n_Bg3; have Bg8 := n_Bg8; have Bg9 := n_Bg9; have Bg11 := n_Bg11; have Bg14 := n_Bg14; have Bg15 := n_Bg15; have HB := n_HB; clear n_U34 n_U36_0 n_U38_0 n_U44 n_U46_0 n_U48_0 n_U74 n_U79_0 n_Bg3 n_Bg8 n_Bg9 n_Bg11 n_Bg14 n_Bg15 n_HB; clear hb) | ((with_reducible refine gate_callee (f := 46) rfl ?_); refine goesL_ (some 84) rfl rfl Try.func46 (by kernel_rfl) rfl #[.slice A2 l2.length c2] rfl (by (try simp only [List.map_toArray, List.map_cons, List.map_nil]); first | done | rfl) ?_; refine (laws_toFracS.calls k _ _ l2 y_l2 _ ?s1 ?s2 H9'.out).mono ?_; (case s1 => exact Kd.C_below HR2.out HB.out); (case s2 => exact HC2.out); rintro e w30 ⟨v84_0, rfl, ho0, hb⟩; refine ⟨_, rfl, ?_⟩; have nu0 := Aside0.mk (UR.of ho0 HB.out.size); have n_U34 := Aside0.mk (U34.out.mvB (Frm.below hb)); have n_U36_0 := Aside0.mk (U36_0.out.mvB (Frm.below hb)); have n_U38_0 := Aside0.mk (U38_0.out.mvB (Frm.below hb)); have n_U44 := Aside0.mk (U44.out.mvB (Frm.below hb)); have n_U46_0 := Aside0.mk (U46_0.out.mvB (Frm.below hb)); have n_U48_0 := Aside0.mk (U48_0.out.mvB (Frm.below hb)); have n_U74 := Aside0.mk (U74.out.mvB (Frm.below hb)); have n_U79_0 := Aside0.mk (U79_0.out.mvB (Frm.below hb)); have n_Bg3 := Aside0.mk (blk_below Bg3.out hb); have n_Bg8 := Aside0.mk (blk_below Bg8.out hb); have n_Bg9 := Aside0.mk (blk_below Bg9.out hb); have n_Bg11 := Aside0.mk (blk_below Bg11.out hb); have n_Bg14 := Aside0.mk (blk_below Bg14.out hb); have n_Bg15 := Aside0.mk (blk_below Bg15.out hb); have n_HB := Aside0.mk (below_step HB.out hb); have NN30 : Aside0 (w29.heap.size ≤ w30.heap.size) := ⟨hb.size⟩; clear U34 U36_0 U38_0 U44 U46_0 U48_0 U74 U79_0 Bg3 Bg8 Bg9 Bg11 Bg14 Bg15 HB; have U34 := n_U34; have U36_0 := n_U36_0; have U38_0 := n_U38_0; have U44 := n_U44; have U46_0 := n_U46_0; have U48_0 := n_U48_0; have U74 := n_U74; have U79_0 := n_U79_0; have Bg3 := n_Bg3; have Bg8 := n_Bg8; have Bg9 := n_Bg9; have Bg11 := n_Bg11; have Bg14 := n_Bg14; have Bg15 := n_Bg15; have HB := n_HB; clear n_U34 n_U36_0 n_U38_0 n_U44 n_U46_0 n_U48_0 n_U74 n_U79_0 n_Bg3 n_Bg8 n_Bg9 n_Bg11 n_Bg14 n_Bg15 n_HB; clear hb ho0; have U84_0 := nu0; clear nu0; obtain ⟨A84_0, c84_0, e0⟩ := Kd.R_slice U84_0.out; subst e0) | ((with_reducible refine gate_callee (f := 49) rfl ?_); refine goesL_ (some 85) rfl rfl Try.func49 (by kernel_rfl) rfl #[.slice A48_0 y_l2.length c48_0, .slice A84_0 y_l2.length c84_0] rfl (by (try simp only [List.map_toArray, List.map_cons, List.map_nil]); first | done | rfl) ?_; refine (laws_eqFracS.calls k _ _ y_l2 _ _ y_l2 true _ ?s1 ?s2 ?s3 ?s4 H16'.out).mono ?_; (case s1 => exact UR.C U48_0.out); (case s2 => exact UR.cap U48_0.out); (case s3 => exact UR.C U84_0.out); (case s4 => exact UR.cap U84_0.out); rintro e w31 ⟨rfl, hb⟩; refine ⟨_, rfl, ?_⟩; have n_U34 := Aside0.mk (U34.out.mvB (Frm.below hb)); have n_U36_0 := Aside0.mk (U36_0.out.mvB (Frm.below hb)); have n_U38_0 := Aside0.mk (U38_0.out.mvB (Frm.below hb)); have n_U44 := Aside0.mk (U44.out.mvB (Frm.below hb)); have n_U46_0 := Aside0.mk (U46_0.out.mvB (Frm.below hb)); have n_U48_0 := Aside0.mk (U48_0.out.mvB (Frm.below hb)); have n_U74 := Aside0.mk (U74.out.mvB (Frm.below hb)); have n_U79_0 := Aside0.mk (U79_0.out.mvB (Frm.below hb)); have n_U84_0 := Aside0.mk (U84_0.out.mvB (Frm.below hb)); have n_Bg3 := Aside0.mk (blk_below Bg3.out hb); have n_Bg8 := Aside0.mk (blk_below Bg8.out hb); have n_Bg9 := Aside0.mk (blk_below Bg9.out hb); have n_Bg11 := Aside0.mk (blk_below Bg11.out hb); have n_Bg14 := Aside0.mk (blk_below Bg14.out hb); have n_Bg15 := Aside0.mk (blk_below Bg15.out hb); have n_HB := Aside0.mk (below_step HB.out hb); have NN31 : Aside0 (w30.heap.size ≤ w31.heap.size) := ⟨hb.size⟩; clear U34 U36_0 U38_0 U44 U46_0 U48_0 U74 U79_0 U84_0 Bg3 Bg8 Bg9 Bg11 Bg14 Bg15 HB; have U34 := n_U34; have U36_0 := n_U36_0; have U38_0 := n_U38_0; have U44 := n_U44; have U46_0 := n_U46_0; have U48_0 := n_U48_0; have U74 := n_U74; have U79_0 := n_U79_0; have U84_0 := n_U84_0; have Bg3 := n_Bg3; have Bg8 := n_Bg8; have Bg9 := n_Bg9; have Bg11 := n_Bg11; have Bg14 := n_Bg14; have Bg15 := n_Bg15; have HB := n_HB; clear n_U34 n_U36_0 n_U38_0 n_U44 n_U46_0 n_U48_0 n_U74 n_U79_0 n_U84_0 n_Bg3 n_Bg8 n_Bg9 n_Bg11 n_Bg14 n_Bg15 n_HB; clear hb))
 go_ret
 exact ⟨rfl, HB.out⟩
theorem laws_FnExactPayoffsAt.small0 (k : Nat) (A0_0 : Option Addr) (c0_0 : Nat) (l0_0 : List (List Int)) (A0_1 : Option Addr) (c0_1 : Nat) (l0_1 : List (List Int)) (A1 : Option Addr) (c1 : Nat) (l1 : List (S120)) (A2 : Option Addr) (c2 : Nat) (l2 : List (S120)) (t19 : Int) (w : World) (hr0_0 : Kd.C (Kd.slice 2 (Kd.int .i64)) w A0_0 l0_0.length l0_0) (hc0_0 : l0_0.length ≤ c0_0) (hr0_1 : Kd.C (Kd.slice 2 (Kd.int .i64)) w A0_1 l0_1.length l0_1) (hc0_1 : l0_1.length ≤ c0_1) (hr1 : Kd.C k120 w A1 l1.length l1) (hc1 : l1.length ≤ c1) (hr2 : Kd.C k120 w A2 l2.length l2) (hc2 : l2.length ≤ c2) (h1 : laws_szGame.f k l0_0 l0_1 1048576 = some t19) (h2 : t19 < 0) :
  Calls Try.prog 8 #[.agg #[.slice A0_0 l0_0.length c0_0, .slice A0_1 l0_1.length c0_1], .slice A1 l1.length c1, .slice A2 l2.length c2] w fun e w' => e = .returned (.bool true) ∧ Below w.heap.size w w' := by
 have HR0_0 := Aside0.mk hr0_0
 have HC0_0 := Aside0.mk hc0_0
 clear hr0_0 hc0_0
 have HR0_1 := Aside0.mk hr0_1
 have HC0_1 := Aside0.mk hc0_1
 clear hr0_1 hc0_1
 have HR1 := Aside0.mk hr1
 have HC1 := Aside0.mk hc1
 clear hr1 hc1
 have HR2 := Aside0.mk hr2
 have HC2 := Aside0.mk hc2
 clear hr2 hc2
 have HB := Aside0.mk (Below.refl w.heap.size w)
 have H1' := Aside0.mk h1
 clear h1
 go_enter Try.func8, Try.ntmps8
 go_wp2_with (first | ((with_reducible refine gate_dst (N := 3) rfl ?_); refine box_event ?hg (N := 3) ?hd (cs := #[.slice A0_0 l0_0.length c0_0, .slice A0_1 l0_1.length c0_1]) (t := 24) ?hr ?_; (case hd => rfl); (case hg => rfl); (case hr => first | (go_simp; done) | (go_simp; rfl)); intro g3 hg w1 hbox hb; have Gg3 : Aside0 (g3 = w.heap.size) := ⟨hg⟩; have Kg3 := Aside0.mk (blk_lt hbox); clear hg; have n_HB := Aside0.mk (below_step HB.out hb); have NN1 : Aside0 (w.heap.size ≤ w1.heap.size) := ⟨hb.size⟩; clear HB; have HB := n_HB; clear n_HB; have Bg3 := Aside0.mk hbox; clear hb hbox; have hc3_0 : w1.cell? ⟨g3, 0, none⟩ = some (.slice A0_0 l0_0.length c0_0) := (blk_cell Bg3.out 0).trans rfl; have hf3_0 := blk_frozen Bg3.out 0; have hc3_1 : w1.cell? ⟨g3, 1, none⟩ = some (.slice A0_1 l0_1.length c0_1) := (blk_cell Bg3.out 1).trans rfl; have hf3_1 := blk_frozen Bg3.out 1) | ((with_reducible refine gate_callee (f := 15) rfl ?_); refine goesL_ (some 19) rfl rfl Try.func15 (by kernel_rfl) rfl #[.agg #[.slice A0_0 l0_0.length c0_0, .slice A0_1 l0_1.length c0_1], .int .i64 1048576] rfl (by (try simp only [List.map_toArray, List.map_cons, List.map_nil]); first | done | rfl) ?_; refine (laws_szGame.calls k _ _ l0_0 _ _ l0_1 1048576 t19 _ ?s1 ?s2 ?s3 ?s4 H1'.out).mono ?_; (case s1 => exact Kd.C_below HR0_0.out HB.out); (case s2 => exact HC0_0.out); (case s3 => exact Kd.C_below HR0_1.out HB.out); (case s4 => exact HC0_1.out); rintro e w2 ⟨rfl, hb⟩; refine ⟨_, rfl, ?_⟩; have n_Bg3 := Aside0.mk (blk_below Bg3.out hb); have n_HB := Aside0.mk (below_step HB.out hb); have NN2 : Aside0 (w1.heap.size ≤ w2.heap.size) := ⟨hb.size⟩; clear hc3_0 hf3_0; clear hc3_1 hf3_1; clear Bg3 HB; have Bg3 := n_Bg3; have HB := n_HB; clear n_Bg3 n_HB; clear hb))
 go_ret
 exact ⟨rfl, HB.out⟩
theorem laws_FnExactPayoffsAt.small1 (k : Nat) (A0_0 : Option Addr) (c0_0 : Nat) (l0_0 : List (List Int)) (A0_1 : Option Addr) (c0_1 : Nat) (l0_1 : List (List Int)) (A1 : Option Addr) (c1 : Nat) (l1 : List (S120)) (A2 : Option Addr) (c2 : Nat) (l2 : List (S120)) (t19 : Int) (t24 : Int) (w : World) (hr0_0 : Kd.C (Kd.slice 2 (Kd.int .i64)) w A0_0 l0_0.length l0_0) (hc0_0 : l0_0.length ≤ c0_0) (hr0_1 : Kd.C (Kd.slice 2 (Kd.int .i64)) w A0_1 l0_1.length l0_1) (hc0_1 : l0_1.length ≤ c0_1) (hr1 : Kd.C k120 w A1 l1.length l1) (hc1 : l1.length ≤ c1) (hr2 : Kd.C k120 w A2 l2.length l2) (hc2 : l2.length ≤ c2) (h1 : laws_szGame.f k l0_0 l0_1 1048576 = some t19) (h2 : ¬ t19 < 0) (h3 : laws_szFracS.f l1 t19 = some t24) (h4 : t24 < 0) :
  Calls Try.prog 8 #[.agg #[.slice A0_0 l0_0.length c0_0, .slice A0_1 l0_1.length c0_1], .slice A1 l1.length c1, .slice A2 l2.length c2] w fun e w' => e = .returned (.bool true) ∧ Below w.heap.size w w' := by
 have HR0_0 := Aside0.mk hr0_0
 have HC0_0 := Aside0.mk hc0_0
 clear hr0_0 hc0_0
 have HR0_1 := Aside0.mk hr0_1
 have HC0_1 := Aside0.mk hc0_1
 clear hr0_1 hc0_1
 have HR1 := Aside0.mk hr1
 have HC1 := Aside0.mk hc1
 clear hr1 hc1
 have HR2 := Aside0.mk hr2
 have HC2 := Aside0.mk hc2
 clear hr2 hc2
 have HB := Aside0.mk (Below.refl w.heap.size w)
 have H1' := Aside0.mk h1
 clear h1
 have H3' := Aside0.mk h3
 clear h3
 go_enter Try.func8, Try.ntmps8
 go_wp2_with (first | ((with_reducible refine gate_dst (N := 3) rfl ?_); refine box_event ?hg (N := 3) ?hd (cs := #[.slice A0_0 l0_0.length c0_0, .slice A0_1 l0_1.length c0_1]) (t := 24) ?hr ?_; (case hd => rfl); (case hg => rfl); (case hr => first | (go_simp; done) | (go_simp; rfl)); intro g3 hg w1 hbox hb; have Gg3 : Aside0 (g3 = w.heap.size) := ⟨hg⟩; have Kg3 := Aside0.mk (blk_lt hbox); clear hg; have n_HB := Aside0.mk (below_step HB.out hb); have NN1 : Aside0 (w.heap.size ≤ w1.heap.size) := ⟨hb.size⟩; clear HB; have HB := n_HB; clear n_HB; have Bg3 := Aside0.mk hbox; clear hb hbox; have hc3_0 : w1.cell? ⟨g3, 0, none⟩ = some (.slice A0_0 l0_0.length c0_0) := (blk_cell Bg3.out 0).trans rfl; have hf3_0 := blk_frozen Bg3.out 0; have hc3_1 : w1.cell? ⟨g3, 1, none⟩ = some (.slice A0_1 l0_1.length c0_1) := (blk_cell Bg3.out 1).trans rfl; have hf3_1 := blk_frozen Bg3.out 1) | ((with_reducible refine gate_callee (f := 15) rfl ?_); refine goesL_ (some 19) rfl rfl Try.func15 (by kernel_rfl) rfl #[.agg #[.slice A0_0 l0_0.length c0_0, .slice A0_1 l0_1.length c0_1], .int .i64 1048576] rfl (by (try simp only [List.map_toArray, List.map_cons, List.map_nil]); first | done | rfl) ?_; refine (laws_szGame.calls k _ _ l0_0 _ _ l0_1 1048576 t19 _ ?s1 ?s2 ?s3 ?s4 H1'.out).mono ?_; (case s1 => exact Kd.C_below HR0_0.out HB.out); (case s2 => exact HC0_0.out); (case s3 => exact Kd.C_below HR0_1.out HB.out); (case s4 => exact HC0_1.out); rintro e w2 ⟨rfl, hb⟩; refine ⟨_, rfl, ?_⟩; have n_Bg3 := Aside0.mk (blk_below Bg3.out hb); have n_HB := Aside0.mk (below_step HB.out hb); have NN2 : Aside0 (w1.heap.size ≤ w2.heap.size) := ⟨hb.size⟩; clear hc3_0 hf3_0; clear hc3_1 hf3_1; clear Bg3 HB; have Bg3 := n_Bg3; have HB := n_HB; clear n_Bg3 n_HB; clear hb) | ((with_reducible refine gate_callee (f := 44) rfl ?_); refine goesL_ (some 24) rfl rfl Try.func44 (by kernel_rfl) rfl #[.slice A1 l1.length c1, .int .i64 t19] rfl (by (try simp only [List.map_toArray, List.map_cons, List.map_nil]); first | done | rfl) ?_; refine (laws_szFracS.calls _ _ l1 t19 t24 _ ?s1 ?s2 H3'.out).mono ?_; (case s1 => exact Kd.C_below HR1.out HB.out); (case s2 => exact HC1.out); rintro e w3 ⟨rfl, hb⟩; refine ⟨_, rfl, ?_⟩; have hb := hb.below; have n_Bg3 := Aside0.mk (blk_below Bg3.out hb); have n_HB := Aside0.mk (below_step HB.out hb); have NN3 : Aside0 (w2.heap.size ≤ w3.heap.size) := ⟨hb.size⟩; clear Bg3 HB; have Bg3 := n_Bg3; have HB := n_HB; clear n_Bg3 n_HB; clear hb))
 go_ret
 exact ⟨rfl, HB.out⟩
theorem laws_FnExactPayoffsAt.small2 (k : Nat) (A0_0 : Option Addr) (c0_0 : Nat) (l0_0 : List (List Int)) (A0_1 : Option Addr) (c0_1 : Nat) (l0_1 : List (List Int)) (A1 : Option Addr) (c1 : Nat) (l1 : List (S120)) (A2 : Option Addr) (c2 : Nat) (l2 : List (S120)) (t19 : Int) (t24 : Int) (t29 : Int) (w : World) (hr0_0 : Kd.C (Kd.slice 2 (Kd.int .i64)) w A0_0 l0_0.length l0_0) (hc0_0 : l0_0.length ≤ c0_0) (hr0_1 : Kd.C (Kd.slice 2 (Kd.int .i64)) w A0_1 l0_1.length l0_1) (hc0_1 : l0_1.length ≤ c0_1) (hr1 : Kd.C k120 w A1 l1.length l1) (hc1 : l1.length ≤ c1) (hr2 : Kd.C k120 w A2 l2.length l2) (hc2 : l2.length ≤ c2) (h1 : laws_szGame.f k l0_0 l0_1 1048576 = some t19) (h2 : ¬ t19 < 0) (h3 : laws_szFracS.f l1 t19 = some t24) (h4 : ¬ t24 < 0) (h5 : laws_szFracS.f l2 t24 = some t29) (h6 : t29 < 0) :
  Calls Try.prog 8 #[.agg #[.slice A0_0 l0_0.length c0_0, .slice A0_1 l0_1.length c0_1], .slice A1 l1.length c1, .slice A2 l2.length c2] w fun e w' => e = .returned (.bool true) ∧ Below w.heap.size w w' := by
 have HR0_0 := Aside0.mk hr0_0
 have HC0_0 := Aside0.mk hc0_0
 clear hr0_0 hc0_0
 have HR0_1 := Aside0.mk hr0_1
 have HC0_1 := Aside0.mk hc0_1
 clear hr0_1 hc0_1
 have HR1 := Aside0.mk hr1
 have HC1 := Aside0.mk hc1
 clear hr1 hc1
 have HR2 := Aside0.mk hr2
 have HC2 := Aside0.mk hc2
 clear hr2 hc2
 have HB := Aside0.mk (Below.refl w.heap.size w)
 have H1' := Aside0.mk h1
 clear h1
 have H3' := Aside0.mk h3
 clear h3
 have H5' := Aside0.mk h5
 clear h5
 go_enter Try.func8, Try.ntmps8
 go_wp2_with (first | ((with_reducible refine gate_dst (N := 3) rfl ?_); refine box_event ?hg (N := 3) ?hd (cs := #[.slice A0_0 l0_0.length c0_0, .slice A0_1 l0_1.length c0_1]) (t := 24) ?hr ?_; (case hd => rfl); (case hg => rfl); (case hr => first | (go_simp; done) | (go_simp; rfl)); intro g3 hg w1 hbox hb; have Gg3 : Aside0 (g3 = w.heap.size) := ⟨hg⟩; have Kg3 := Aside0.mk (blk_lt hbox); clear hg; have n_HB := Aside0.mk (below_step HB.out hb); have NN1 : Aside0 (w.heap.size ≤ w1.heap.size) := ⟨hb.size⟩; clear HB; have HB := n_HB; clear n_HB; have Bg3 := Aside0.mk hbox; clear hb hbox; have hc3_0 : w1.cell? ⟨g3, 0, none⟩ = some (.slice A0_0 l0_0.length c0_0) := (blk_cell Bg3.out 0).trans rfl; have hf3_0 := blk_frozen Bg3.out 0; have hc3_1 : w1.cell? ⟨g3, 1, none⟩ = some (.slice A0_1 l0_1.length c0_1) := (blk_cell Bg3.out 1).trans rfl; have hf3_1 := blk_frozen Bg3.out 1) | ((with_reducible refine gate_callee (f := 15) rfl ?_); refine goesL_ (some 19) rfl rfl Try.func15 (by kernel_rfl) rfl #[.agg #[.slice A0_0 l0_0.length c0_0, .slice A0_1 l0_1.length c0_1], .int .i64 1048576] rfl (by (try simp only [List.map_toArray, List.map_cons, List.map_nil]); first | done | rfl) ?_; refine (laws_szGame.calls k _ _ l0_0 _ _ l0_1 1048576 t19 _ ?s1 ?s2 ?s3 ?s4 H1'.out).mono ?_; (case s1 => exact Kd.C_below HR0_0.out HB.out); (case s2 => exact HC0_0.out); (case s3 => exact Kd.C_below HR0_1.out HB.out); (case s4 => exact HC0_1.out); rintro e w2 ⟨rfl, hb⟩; refine ⟨_, rfl, ?_⟩; have n_Bg3 := Aside0.mk (blk_below Bg3.out hb); have n_HB := Aside0.mk (below_step HB.out hb); have NN2 : Aside0 (w1.heap.size ≤ w2.heap.size) := ⟨hb.size⟩; clear hc3_0 hf3_0; clear hc3_1 hf3_1; clear Bg3 HB; have Bg3 := n_Bg3; have HB := n_HB; clear n_Bg3 n_HB; clear hb) | ((with_reducible refine gate_callee (f := 44) rfl ?_); refine goesL_ (some 24) rfl rfl Try.func44 (by kernel_rfl) rfl #[.slice A1 l1.length c1, .int .i64 t19] rfl (by (try simp only [List.map_toArray, List.map_cons, List.map_nil]); first | done | rfl) ?_; refine (laws_szFracS.calls _ _ l1 t19 t24 _ ?s1 ?s2 H3'.out).mono ?_; (case s1 => exact Kd.C_below HR1.out HB.out); (case s2 => exact HC1.out); rintro e w3 ⟨rfl, hb⟩; refine ⟨_, rfl, ?_⟩; have hb := hb.below; have n_Bg3 := Aside0.mk (blk_below Bg3.out hb); have n_HB := Aside0.mk (below_step HB.out hb); have NN3 : Aside0 (w2.heap.size ≤ w3.heap.size) := ⟨hb.size⟩; clear Bg3 HB; have Bg3 := n_Bg3; have HB := n_HB; clear n_Bg3 n_HB; clear hb) | ((with_reducible refine gate_callee (f := 44) rfl ?_); refine goesL_ (some 29) rfl rfl Try.func44 (by kernel_rfl) rfl #[.slice A2 l2.length c2, .int .i64 t24] rfl (by (try simp only [List.map_toArray, List.map_cons, List.map_nil]); first | done | rfl) ?_; refine (laws_szFracS.calls _ _ l2 t24 t29 _ ?s1 ?s2 H5'.out).mono ?_; (case s1 => exact Kd.C_below HR2.out HB.out); (case s2 => exact HC2.out); rintro e w4 ⟨rfl, hb⟩; refine ⟨_, rfl, ?_⟩; have hb := hb.below; have n_Bg3 := Aside0.mk (blk_below Bg3.out hb); have n_HB := Aside0.mk (below_step HB.out hb); have NN4 : Aside0 (w3.heap.size ≤ w4.heap.size) := ⟨hb.size⟩; clear Bg3 HB; have Bg3 := n_Bg3; have HB := n_HB; clear n_Bg3 n_HB; clear hb; have hc3_0 : w4.cell? ⟨g3, 0, none⟩ = some (.slice A0_0 l0_0.length c0_0) := (blk_cell Bg3.out 0).trans rfl; have hf3_0 := blk_frozen Bg3.out 0; have hc3_1 : w4.cell? ⟨g3, 1, none⟩ = some (.slice A0_1 l0_1.length c0_1) := (blk_cell Bg3.out 1).trans rfl; have hf3_1 := blk_frozen Bg3.out 1))
 go_ret
 exact ⟨rfl, HB.out⟩
def laws_FnExactPayoffsAt.ok_walk (k : Nat) (l0_0 : List (List Int)) (l0_1 : List (List Int)) (l1 : List (S120)) (l2 : List (S120)) : Prop := ∃ (t19 : Int) (t24 : Int) (t29 : Int) (y_l1 : List (S65)) (y_l2 : List (S65)) (s0 : Int) (s1 : Int) (s2 : Int) (s3 : Int) (s4 : Int), (laws_szGame.f k l0_0 l0_1 1048576 = some t19) ∧ (¬ t19 < 0) ∧ (laws_szFracS.f l1 t19 = some t24) ∧ (¬ t24 < 0) ∧ (laws_szFracS.f l2 t24 = some t29) ∧ (¬ t29 < 0) ∧ (laws_toInt64SS.f k l0_0 = some l0_0 ∧ laws_toInt64SS.f k l0_1 = some l0_1) ∧ (laws_toFracS.f k l1 = some y_l1) ∧ (laws_toFracS.f k l2 = some y_l2) ∧ (spec_PayoffsAt.f k l0_0 l0_1 y_l1 y_l2 = some (s0, s1, s2, s3, s4)) ∧ (impl_PayoffsAt.f k l0_0 l0_1 y_l1 y_l2 = some (s0, s1, s2, s3, s4)) ∧ (laws_eqFrac.f s0 s1 s0 s1 = some true) ∧ (laws_eqFrac.f s2 s3 s2 s3 = some true) ∧ (laws_eqGame.f k l0_0 l0_1 l0_0 l0_1 = some true) ∧ (laws_eqFracS.f k y_l1 y_l1 = some true) ∧ (laws_eqFracS.f k y_l2 y_l2 = some true)
def laws_FnExactPayoffsAt.ok_small0 (k : Nat) (l0_0 : List (List Int)) (l0_1 : List (List Int)) (l1 : List (S120)) (l2 : List (S120)) : Prop := ∃ (t19 : Int), (laws_szGame.f k l0_0 l0_1 1048576 = some t19) ∧ (t19 < 0)
def laws_FnExactPayoffsAt.ok_small1 (k : Nat) (l0_0 : List (List Int)) (l0_1 : List (List Int)) (l1 : List (S120)) (l2 : List (S120)) : Prop := ∃ (t19 : Int) (t24 : Int), (laws_szGame.f k l0_0 l0_1 1048576 = some t19) ∧ (¬ t19 < 0) ∧ (laws_szFracS.f l1 t19 = some t24) ∧ (t24 < 0)
def laws_FnExactPayoffsAt.ok_small2 (k : Nat) (l0_0 : List (List Int)) (l0_1 : List (List Int)) (l1 : List (S120)) (l2 : List (S120)) : Prop := ∃ (t19 : Int) (t24 : Int) (t29 : Int), (laws_szGame.f k l0_0 l0_1 1048576 = some t19) ∧ (¬ t19 < 0) ∧ (laws_szFracS.f l1 t19 = some t24) ∧ (¬ t24 < 0) ∧ (laws_szFracS.f l2 t24 = some t29) ∧ (t29 < 0)
open Classical in
noncomputable def laws_FnExactPayoffsAt.f (k : Nat) (l0_0 : List (List Int)) (l0_1 : List (List Int)) (l1 : List (S120)) (l2 : List (S120)) : Option Bool := if laws_FnExactPayoffsAt.ok_walk k l0_0 l0_1 l1 l2 ∨ laws_FnExactPayoffsAt.ok_small0 k l0_0 l0_1 l1 l2 ∨ laws_FnExactPayoffsAt.ok_small1 k l0_0 l0_1 l1 l2 ∨ laws_FnExactPayoffsAt.ok_small2 k l0_0 l0_1 l1 l2 then some true else none
theorem laws_FnExactPayoffsAt.calls (k : Nat) (A0_0 : Option Addr) (c0_0 : Nat) (l0_0 : List (List Int)) (A0_1 : Option Addr) (c0_1 : Nat) (l0_1 : List (List Int)) (A1 : Option Addr) (c1 : Nat) (l1 : List (S120)) (A2 : Option Addr) (c2 : Nat) (l2 : List (S120)) (r : Bool) (w : World) (hr0_0 : Kd.C (Kd.slice 2 (Kd.int .i64)) w A0_0 l0_0.length l0_0) (hc0_0 : l0_0.length ≤ c0_0) (hr0_1 : Kd.C (Kd.slice 2 (Kd.int .i64)) w A0_1 l0_1.length l0_1) (hc0_1 : l0_1.length ≤ c0_1) (hr1 : Kd.C k120 w A1 l1.length l1) (hc1 : l1.length ≤ c1) (hr2 : Kd.C k120 w A2 l2.length l2) (hc2 : l2.length ≤ c2) (h : laws_FnExactPayoffsAt.f k l0_0 l0_1 l1 l2 = some r) :
  Calls Try.prog 8 #[.agg #[.slice A0_0 l0_0.length c0_0, .slice A0_1 l0_1.length c0_1], .slice A1 l1.length c1, .slice A2 l2.length c2] w fun e w' => e = .returned (.bool r) ∧ Below w.heap.size w w' := by
 unfold laws_FnExactPayoffsAt.f at h
 split at h
 case isFalse => cases h
 rename_i hok
 cases h
 rcases hok with ⟨t19, t24, t29, y_l1, y_l2, s0, s1, s2, s3, s4, h1, h2, h3, h4, h5, h6, h7, h8, h9, h10, h11, h12, h13, h14, h15, h16⟩ | ⟨t19, h1, h2⟩ | ⟨t19, t24, h1, h2, h3, h4⟩ | ⟨t19, t24, t29, h1, h2, h3, h4, h5, h6⟩
 ·exact laws_FnExactPayoffsAt.walk k A0_0 c0_0 l0_0 A0_1 c0_1 l0_1 A1 c1 l1 A2 c2 l2 t19 t24 t29 y_l1 y_l2 s0 s1 s2 s3 s4 w hr0_0 hc0_0 hr0_1 hc0_1 hr1 hc1 hr2 hc2 h1 h2 h3 h4 h5 h6 h7 h8 h9 h10 h11 h12 h13 h14 h15 h16
 ·exact laws_FnExactPayoffsAt.small0 k A0_0 c0_0 l0_0 A0_1 c0_1 l0_1 A1 c1 l1 A2 c2 l2 t19 w hr0_0 hc0_0 hr0_1 hc0_1 hr1 hc1 hr2 hc2 h1 h2
 ·exact laws_FnExactPayoffsAt.small1 k A0_0 c0_0 l0_0 A0_1 c0_1 l0_1 A1 c1 l1 A2 c2 l2 t19 t24 w hr0_0 hc0_0 hr0_1 hc0_1 hr1 hc1 hr2 hc2 h1 h2 h3 h4
 ·exact laws_FnExactPayoffsAt.small2 k A0_0 c0_0 l0_0 A0_1 c0_1 l0_1 A1 c1 l1 A2 c2 l2 t19 t24 t29 w hr0_0 hc0_0 hr0_1 hc0_1 hr1 hc1 hr2 hc2 h1 h2 h3 h4 h5 h6
end Go.Proofs.Ytjjbhdpjnjncbaa.Pr
end
section
namespace Go.Proofs.Ytjjbhdpjnjncbaa.Say
open Go.Proofs.Ytjjbhdpjnjncbaa.Op Go.Proofs.Ytjjbhdpjnjncbaa.Pr
def FnExactPayoffsAt : Prop := ∀ (l0_0 : List (List Int)) (l0_1 : List (List Int)) (l1 : List (S120)) (l2 : List (S120)), GoodList (GoodList (GoodInt .i64)) l0_0 → GoodList (GoodList (GoodInt .i64)) l0_1 → GoodList (fun x : Pr.S120 => (GoodInt .i64) x.f0 ∧ (GoodInt .i64) x.f1) l1 → GoodList (fun x : Pr.S120 => (GoodInt .i64) x.f0 ∧ (GoodInt .i64) x.f1) l2 → ∃ k, laws_FnExactPayoffsAt.f k l0_0 l0_1 l1 l2 = some true
end Go.Proofs.Ytjjbhdpjnjncbaa.Say
end
section
namespace Go.Proofs.Ytjjbhdpjnjncbaa.Gm
open Go.RowKit Go.Proofs.YtjjbhdpjnjncbaaW.PrintWords Go.Proofs.YtjjbhdpjnjncbaaW.PrintMore Go.Proofs.Ytjjbhdpjnjncbaa.Ma Go.Proofs.Ytjjbhdpjnjncbaa.Pr Go.Proofs.Ytjjbhdpjnjncbaa.La
theorem sin_eq (x a b : Int) : spec_l01In.f x a b = some (decide (a ≤ x ∧ x ≤ b)) := by
 unfold spec_l01In.f
 by_cases h : a ≤ x
 ·rw [if_pos (by omega)]; simp [h]
 ·rw [if_neg (by omega)]; simp [h]
theorem iin_eq (x a b : Int) : impl_within.f x a b = some (decide (a ≤ x ∧ x ≤ b)) := by
 unfold impl_within.f
 by_cases h : a ≤ x
 ·rw [if_pos (by omega)]; simp [h]
 ·rw [if_neg (by omega)]; simp [h]
theorem head_step {P : Nat → Prop} {i d : Nat} (h : i < d) : (∀ j, i ≤ j → j < d → P j) ↔ P i ∧ ∀ j, i + 1 ≤ j → j < d → P j :=
 ⟨fun f => ⟨f i (Nat.le_refl _) h, fun j h1 h2 => f j (by omega) h2⟩, fun ⟨a, f⟩ j h1 h2 => by
  by_cases e : i = j
  ·subst e; exact a
  ·exact f j (by omega) h2⟩
theorem no_iff {b : Bool} {p : Prop} (h : b = true ↔ p) (hp : ¬ p) : b = false := by
 cases b
 ·rfl
 ·exact absurd (h.1 rfl) hp
def rw_ (a : List (List Int)) (i : Nat) : List Int := a.getD i []
def ent (a : List (List Int)) (i j : Nat) : Int := (rw_ a i).getD j 0
theorem rw_eq (a : List (List Int)) (i : Nat) : rd_L1 a (i : Int) = rw_ a i := rdL a i
theorem rw_at {a : List (List Int)} {i : Nat} (h : i < a.length) : rw_ a i = a[i] := by simp [rw_, h]
def E20 (n : Int) : Prop := 1 ≤ n ∧ n ≤ 20
def RowOK (a b : List (List Int)) (l i : Nat) : Prop := (rw_ a i).length = l ∧ (rw_ b i).length = l ∧ ∀ j, 0 ≤ j → j < l → E20 (ent a i j) ∧ E20 (ent b i j)
structure GameOK (a b : List (List Int)) : Prop where
 k1 : 1 ≤ a.length
 k4 : a.length ≤ 4
 same : b.length = a.length
 l1 : 1 ≤ (rw_ a 0).length
 l4 : (rw_ a 0).length ≤ 4
 sum : a.length + (rw_ a 0).length ≤ 5
 rows : ∀ i, 0 ≤ i → i < a.length → RowOK a b (rw_ a 0).length i
section
variable {a b : List (List Int)} {l : Nat} (hk : a.length ≤ 4) (hl : l ≤ 4) (hs : b.length = a.length)
include hk hl hs
theorem spec_row (i : Nat) (hi : i < a.length) (e1 : (rw_ a i).length = l) (e2 : (rw_ b i).length = l)
  (next : ∀ t, (t = true ↔ ∀ u, i + 1 ≤ u → u < a.length → RowOK a b l u) → Ev (fun k => spec_l07Is.l0 k (a.length : Int) l ((i + 1 : Nat) : Int) a b) t) :
  ∀ m j, j + m = l → ∀ t, (t = true ↔ (∀ c, j ≤ c → c < l → E20 (ent a i c) ∧ E20 (ent b i c)) ∧ ∀ u, i + 1 ≤ u → u < a.length → RowOK a b l u) → Ev (fun k => spec_l07Is.l1 k (a.length : Int) l i j a b) t := by
 intro m
 induction m with
 | zero =>
  intro j hj t ht
  refine evstep (fun k => by rw [spec_l07Is.l1]) (evneg (by omega) ?_)
  rw [w64 (by omega) (by omega)]
  exact next t (ht.trans ⟨fun h => h.2, fun h => ⟨fun c h1 h2 => by omega, h⟩⟩)
 | succ m ih =>
  intro j hj t ht
  have hjl : j < l := by omega
  rw [head_step (P := fun c => E20 (ent a i c) ∧ E20 (ent b i c)) hjl, and_assoc, and_assoc] at ht
  refine evstep (fun k => by rw [spec_l07Is.l1]) (evpos (by omega) (evpos (by omega) (evpos (by omega) (evpos (by omega) ?_))))
  rw [rw_eq, rw_eq, rd_nat, rd_nat]
  refine evpos (by omega) (evsome (sin_eq _ _ _) ?_)
  by_cases c1 : E20 (ent a i j)
  ·refine evpos (decide_eq_true (show 1 ≤ ent a i j ∧ ent a i j ≤ 20 from c1)) (evpos (by omega) (evpos (by omega) (evsome (sin_eq _ _ _) ?_)))
   by_cases c2 : E20 (ent b i j)
   ·refine evpos (decide_eq_true (show 1 ≤ ent b i j ∧ ent b i j ≤ 20 from c2)) ?_
    rw [w64 (by omega) (by omega)]
    exact ih (j + 1) (by omega) t (ht.trans ⟨fun h => h.2.2, fun h => ⟨c1, c2, h⟩⟩)
   ·refine evneg (fun h => c2 (of_decide_eq_true (p := 1 ≤ ent b i j ∧ ent b i j ≤ 20) h)) ?_
    rw [no_iff ht (fun h => c2 h.2.1)]
    exact evc rfl
  ·refine evneg (fun h => c1 (of_decide_eq_true (p := 1 ≤ ent a i j ∧ ent a i j ≤ 20) h)) ?_
   rw [no_iff ht (fun h => c1 h.1)]
   exact evc rfl
theorem spec_rows : ∀ m i, i + m = a.length → ∀ t, (t = true ↔ ∀ u, i ≤ u → u < a.length → RowOK a b l u) → Ev (fun k => spec_l07Is.l0 k (a.length : Int) l i a b) t := by
 intro m
 induction m with
 | zero =>
  intro i hi t ht
  refine evstep (fun k => by rw [spec_l07Is.l0]) (evneg (by omega) ?_)
  rw [ht.2 (fun u h1 h2 => by omega)]
  exact evc rfl
 | succ m ih =>
  intro i hi t ht
  have hlt : i < a.length := by omega
  rw [head_step (P := fun u => RowOK a b l u) hlt] at ht
  refine evstep (fun k => by rw [spec_l07Is.l0]) (evpos (by omega) (evpos (by omega) (evpos (by omega) ?_)))
  rw [rw_eq, rw_eq]
  by_cases c1 : (rw_ a i).length = l
  ·refine evpos (by omega) (evpos (by omega) (evstep (fun k => by rw [spec_l07Is.j3]) ?_))
   by_cases c2 : (rw_ b i).length = l
   ·refine evneg (by simp [c2]) ?_
    exact spec_row hk hl hs i hlt c1 c2 (ih (i + 1) (by omega)) l 0 (by omega) t (ht.trans ⟨fun h => ⟨h.1.2.2, h.2⟩, fun h => ⟨⟨c1, c2, h.1⟩, h.2⟩⟩)
   ·refine evpos (by simp; omega) ?_
    rw [no_iff ht (fun h => c2 h.1.2.1)]
    exact evc rfl
  ·refine evneg (by omega) (evstep (fun k => by rw [spec_l07Is.j3]) (evpos rfl ?_))
   rw [no_iff ht (fun h => c1 h.1.1)]
   exact evc rfl
end
theorem spec_is (a b : List (List Int)) (ha : a.length ≤ 1048576) (hr : ∀ x ∈ a, x.length ≤ 1048576) (t : Bool) (ht : t = true ↔ GameOK a b) : Ev (fun k => spec_l07Is.f k a b) t := by
 unfold spec_l07Is.f
 by_cases c1 : (a.length : Int) < 1
 ·refine evpos c1 (evstep (fun k => by rw [spec_l07Is.j0]) (evpos rfl ?_))
  rw [no_iff ht (fun h => by have := h.k1; omega)]
  exact evc rfl
 ·refine evneg c1 ?_
  by_cases c2 : (a.length : Int) > 4
  ·refine evpos c2 (evstep (fun k => by rw [spec_l07Is.j0]) (evpos rfl ?_))
   rw [no_iff ht (fun h => by have := h.k4; omega)]
   exact evc rfl
  ·refine evneg c2 (evstep (fun k => by rw [spec_l07Is.j0]) ?_)
   by_cases c3 : b.length = a.length
   ·refine evneg (by simp [c3]) (evpos (by omega) ?_)
    have e0 : rd_L1 a 0 = rw_ a 0 := rw_eq a 0
    have h0 : (rw_ a 0).length ≤ 1048576 := by rw [rw_at (by omega)]; exact hr _ (List.getElem_mem (by omega))
    rw [e0]
    by_cases c4 : ((rw_ a 0).length : Int) < 1
    ·refine evpos c4 (evstep (fun k => by rw [spec_l07Is.j1]) (evpos rfl ?_))
     rw [no_iff ht (fun h => by have := h.l1; omega)]
     exact evc rfl
    ·refine evneg c4 ?_
     by_cases c5 : ((rw_ a 0).length : Int) > 4
     ·refine evpos c5 (evstep (fun k => by rw [spec_l07Is.j1]) (evpos rfl ?_))
      rw [no_iff ht (fun h => by have := h.l4; omega)]
      exact evc rfl
     ·refine evneg c5 (evstep (fun k => by rw [spec_l07Is.j1]) ?_)
      rw [w64 (by omega) (by omega)]
      by_cases c6 : (a.length : Int) + ((rw_ a 0).length : Int) > 5
      ·refine evpos (decide_eq_true c6) ?_
       rw [no_iff ht (fun h => by have := h.sum; omega)]
       exact evc rfl
      ·refine evneg (by simpa using c6) ?_
       exact spec_rows (l := (rw_ a 0).length) (by omega) (by omega) c3 a.length 0 (by omega) t (ht.trans ⟨fun h => h.rows, fun h => ⟨by omega, by omega, c3, by omega, by omega, by omega, h⟩⟩)
   ·refine evpos (by simp; omega) ?_
    rw [no_iff ht (fun h => c3 h.same)]
    exact evc rfl
theorem badE_iff (n : Int) : badE n = false ↔ E20 n := by unfold badE E20; simp
theorem any_false {α : Type} (p : α → Bool) (l : List α) : l.any p = false ↔ ∀ i (h : i < l.length), p l[i] = false := by
 rw [List.any_eq_false]
 constructor
 ·intro h i hi
  have := h l[i] (List.getElem_mem hi)
  simpa using this
 ·intro h x hx
  obtain ⟨i, hi, rfl⟩ := List.getElem_of_mem hx
  simp [h i hi]
theorem badR_iff (k : Nat) (row : List Int) : badR (k : Int) row = false ↔ row.length = k ∧ ∀ j, 0 ≤ j → j < k → E20 (row.getD j 0) := by
 unfold badR
 rw [Bool.or_eq_false_iff, any_false]
 constructor
 ·rintro ⟨h1, h2⟩
  have e : row.length = k := by simp at h1; omega
  exact ⟨e, fun j _ hj => by have := (badE_iff _).1 (h2 j (by omega)); simpa [show j < row.length from by omega] using this⟩
 ·rintro ⟨h1, h2⟩
  exact ⟨by simp [h1], fun i hi => (badE_iff _).2 (by have := h2 i (Nat.zero_le _) (by omega); simpa [hi] using this)⟩
theorem table_f (a : List (List Int)) (k l : Nat) : ∃ t, impl_isTable.f a k l = some t ∧ (t = true ↔ a.length = k ∧ ∀ i, 0 ≤ i → i < a.length → (rw_ a i).length = l ∧ ∀ j, 0 ≤ j → j < l → E20 (ent a i j)) := by
 refine ⟨_, rfl, ?_⟩
 rw [Bool.and_eq_true, Bool.not_eq_true', any_false]
 constructor
 ·rintro ⟨h1, h2⟩
  refine ⟨by simp at h1; omega, fun i _ hi => ?_⟩
  have := (badR_iff l a[i]).1 (h2 i hi)
  rw [← rw_at hi] at this
  exact this
 ·rintro ⟨h1, h2⟩
  refine ⟨by simp [h1], fun i hi => (badR_iff l a[i]).2 ?_⟩
  have := h2 i (Nat.zero_le _) hi
  rw [← rw_at hi]
  exact this
theorem impl_is (a b : List (List Int)) (ha : a.length ≤ 1048576) (hr : ∀ x ∈ a, x.length ≤ 1048576) (t : Bool) (ht : t = true ↔ GameOK a b) : impl_IsGame.f a b = some t := by
 unfold impl_IsGame.f
 rw [iin_eq, Option.bind_some]
 by_cases c1 : 1 ≤ (a.length : Int) ∧ (a.length : Int) ≤ 4
 ·have e0 : rd_L1 a 0 = rw_ a 0 := rw_eq a 0
  have h0 : (rw_ a 0).length ≤ 1048576 := by rw [rw_at (by omega)]; exact hr _ (List.getElem_mem (by omega))
  rw [if_pos (decide_eq_true c1), if_pos (by omega), e0, iin_eq, Option.bind_some, w64 (by omega) (by omega)]
  by_cases c2 : 1 ≤ ((rw_ a 0).length : Int) ∧ ((rw_ a 0).length : Int) ≤ 4
  ·rw [if_pos (decide_eq_true c2)]
   by_cases c3 : (a.length : Int) + ((rw_ a 0).length : Int) ≤ 5
   ·rw [if_pos c3]
    obtain ⟨t1, h1, i1⟩ := table_f a a.length (rw_ a 0).length
    obtain ⟨t2, h2, i2⟩ := table_f b a.length (rw_ a 0).length
    rw [h1, Option.bind_some, h2]
    have key : GameOK a b ↔ t1 = true ∧ t2 = true := by
     rw [i1, i2]
     constructor
     ·intro h
      exact ⟨⟨rfl, fun i z hi => ⟨(h.rows i z hi).1, fun j z2 hj => ((h.rows i z hi).2.2 j z2 hj).1⟩⟩, h.same, fun i z hi => ⟨(h.rows i z (by have := h.same; omega)).2.1, fun j z2 hj => ((h.rows i z (by have := h.same; omega)).2.2 j z2 hj).2⟩⟩
     ·rintro ⟨⟨_, ha'⟩, hs, hb'⟩
      exact ⟨by omega, by omega, hs, by omega, by omega, by omega, fun i z hi => ⟨(ha' i z hi).1, (hb' i z (by omega)).1, fun j z2 hj => ⟨(ha' i z hi).2 j z2 hj, (hb' i z (by omega)).2 j z2 hj⟩⟩⟩
    rw [key] at ht
    cases t1
    ·rw [no_iff ht (fun h => by cases h.1)]; rfl
    ·cases t2
     ·rw [no_iff ht (fun h => by cases h.2)]; rfl
     ·rw [ht.2 ⟨rfl, rfl⟩]; rfl
   ·rw [if_neg c3, no_iff ht (fun h => c3 (by have := h.sum; omega))]
  ·rw [if_neg (by simpa using c2), no_iff ht (fun h => c2 (by have := h.l1; have := h.l4; omega))]
 ·rw [if_neg (by simpa using c1), no_iff ht (fun h => c1 (by have := h.k1; have := h.k4; omega))]
end Go.Proofs.Ytjjbhdpjnjncbaa.Gm
end
section
namespace Go.Proofs.Ytjjbhdpjnjncbaa.Mi
open Go.RowKit Go.Proofs.YtjjbhdpjnjncbaaW.PrintWords Go.Proofs.YtjjbhdpjnjncbaaW.PrintMore Go.Proofs.Ytjjbhdpjnjncbaa.Ma Go.Proofs.Ytjjbhdpjnjncbaa.Pr Go.Proofs.Ytjjbhdpjnjncbaa.Fr
abbrev FS := List S65
def nu (l : FS) (i : Nat) : Int := (l.getD i z65).f0
def dn (l : FS) (i : Nat) : Int := (l.getD i z65).f1
theorem rd_f0 (l : FS) (i : Nat) : (rd_T65 l (i : Int)).f0 = nu l i := by simp [rd_T65, nu]
theorem rd_f1 (l : FS) (i : Nat) : (rd_T65 l (i : Int)).f1 = dn l i := by simp [rd_T65, dn]
def Ok (l : FS) : Prop := ∀ i, i < l.length → 1 ≤ dn l i ∧ dn l i ≤ 1000000000 ∧ -1000000000 ≤ nu l i ∧ nu l i ≤ 1000000000
def lc (d b : Int) : Int := Int.tdiv d (gc d b) * b
def denL (l : FS) : Nat → Nat → Int → Option Int
 | 0, _, d => some d
 | m + 1, i, d => if lc d (dn l i) > 1000000000 then none else denL l m (i + 1) (lc d (dn l i))
theorem gc_pos {d b : Int} (hd : 1 ≤ d) : 1 ≤ gc d b ∧ gc d b ≤ d := by
 unfold gc
 have h1 : 0 < Int.gcd d b := Int.gcd_pos_of_ne_zero_left b (by omega)
 have h2 : Int.gcd d b ∣ d.natAbs := Nat.gcd_dvd_left _ _
 have h3 := Nat.le_of_dvd (by omega) h2
 omega
theorem gc_dvd (d b : Int) : gc d b ∣ d ∧ gc d b ∣ b := ⟨Int.gcd_dvd_left d b, Int.gcd_dvd_right d b⟩
theorem lc_facts {d b : Int} (hd : 1 ≤ d) (hd2 : d ≤ 1000000000) (hb : 1 ≤ b) (hb2 : b ≤ 1000000000) : d ∣ lc d b ∧ b ∣ lc d b ∧ 1 ≤ lc d b ∧ lc d b ≤ 1000000000000000000 ∧ 0 ≤ Int.tdiv d (gc d b) ∧ Int.tdiv d (gc d b) ≤ 1000000000 := by
 obtain ⟨g1, g2⟩ := gc_pos (b := b) hd
 obtain ⟨⟨q, hq⟩, ⟨p, hp⟩⟩ := gc_dvd d b
 have hq0 : Int.tdiv d (gc d b) = q := by
  have h9 : Int.tdiv (gc d b * q) (gc d b) = q := Int.mul_tdiv_cancel_left q (by omega)
  rwa [← hq] at h9
 have hq1 : 1 ≤ q := by
  by_cases h : 1 ≤ q
  ·exact h
  ·exfalso
   have : gc d b * q ≤ 0 := Int.mul_nonpos_of_nonneg_of_nonpos (by omega) (by omega)
   omega
 have hq2 : q ≤ d := by
  have : 1 * q ≤ gc d b * q := Int.mul_le_mul_of_nonneg_right g1 (by omega)
  omega
 unfold lc
 rw [hq0]
 refine ⟨⟨p, ?_⟩, ⟨q, Int.mul_comm _ _⟩, ?_, ?_, by omega, by omega⟩
 ·have h9 : q * b = gc d b * q * p := by
   conv => lhs; rw [hp]
   rw [← Int.mul_assoc, Int.mul_comm q (gc d b)]
  rwa [← hq] at h9
 ·have : 1 * 1 ≤ q * b := Int.mul_le_mul hq1 hb (by decide) (by omega)
  omega
 ·have : q * b ≤ 1000000000 * 1000000000 := Int.mul_le_mul (by omega) hb2 (by omega) (by decide)
  omega
theorem denL_facts {l : FS} (h : Ok l) : ∀ m i d D, i + m = l.length → 1 ≤ d → d ≤ 1000000000 → denL l m i d = some D → 1 ≤ D ∧ D ≤ 1000000000 ∧ d ∣ D ∧ ∀ j, i ≤ j → j < l.length → dn l j ∣ D := by
 intro m
 induction m with
 | zero =>
  intro i d D hi h1 h2 e
  cases e
  exact ⟨h1, h2, Int.dvd_refl _, fun j a b => by omega⟩
 | succ m ih =>
  intro i d D hi h1 h2 e
  obtain ⟨b1, b2, _, _⟩ := h i (by omega)
  obtain ⟨f1, f2, f3, f4, _, _⟩ := lc_facts h1 h2 b1 b2
  unfold denL at e
  split at e
  ·cases e
  ·obtain ⟨g1, g2, g3, g4⟩ := ih (i + 1) _ D (by omega) f3 (by omega) e
   refine ⟨g1, g2, Int.dvd_trans f1 g3, fun j a b => ?_⟩
   by_cases q : i = j
   ·subst q; exact Int.dvd_trans f2 g3
   ·exact g4 j (by omega) b
def nm (l : FS) (D : Int) (i : Nat) : Int := nu l i * Int.tdiv D (dn l i)
def numL (l : FS) (D : Int) (n : Nat) : List Int := (List.range n).map (nm l D)
def Fits (l : FS) (D : Int) (i : Nat) : Prop := -1000000000000 ≤ nm l D i ∧ nm l D i ≤ 1000000000000
open Classical in
noncomputable def togR (l : FS) : List Int × Int × Bool := match denL l l.length 0 1 with
 | none => ([], 0, false)
 | some D => if ∀ i, 0 ≤ i → i < l.length → Fits l D i then (numL l D l.length, D, true) else ([], 0, false)
theorem numL_succ (l : FS) (D : Int) (n : Nat) : numL l D (n + 1) = numL l D n ++ [nm l D n] := by simp [numL, List.range_succ]
theorem numL_len (l : FS) (D : Int) (n : Nat) : (numL l D n).length = n := by simp [numL]
theorem nm_small {l : FS} (h : Ok l) {D : Int} (h1 : 1 ≤ D) (h2 : D ≤ 1000000000) (i : Nat) (hi : i < l.length) : 0 ≤ Int.tdiv D (dn l i) ∧ Int.tdiv D (dn l i) ≤ 1000000000 ∧ -1000000000000000000 ≤ nm l D i ∧ nm l D i ≤ 1000000000000000000 := by
 obtain ⟨b1, b2, b3, b4⟩ := h i hi
 have q0 : 0 ≤ Int.tdiv D (dn l i) := Int.tdiv_nonneg (by omega) (by omega)
 have q1 : Int.tdiv D (dn l i) ≤ 1000000000 := by
  rw [Int.tdiv_eq_ediv_of_nonneg (by omega)]
  exact Int.le_trans (Int.ediv_le_self _ (by omega)) h2
 have p1 : nu l i * Int.tdiv D (dn l i) ≤ 1000000000 * 1000000000 := by
  by_cases c : 0 ≤ nu l i
  ·exact Int.mul_le_mul b4 q1 q0 (by decide)
  ·have : nu l i * Int.tdiv D (dn l i) ≤ 0 := Int.mul_nonpos_of_nonpos_of_nonneg (by omega) q0
   omega
 have p2 : (-nu l i) * Int.tdiv D (dn l i) ≤ 1000000000 * 1000000000 := by
  by_cases c : 0 ≤ -nu l i
  ·exact Int.mul_le_mul (by omega) q1 q0 (by decide)
  ·have : (-nu l i) * Int.tdiv D (dn l i) ≤ 0 := Int.mul_nonpos_of_nonpos_of_nonneg (by omega) q0
   omega
 rw [Int.neg_mul] at p2
 unfold nm
 exact ⟨q0, q1, by omega, by omega⟩
theorem head_step {P : Nat → Prop} {i d : Nat} (h : i < d) : (∀ j, i ≤ j → j < d → P j) ↔ P i ∧ ∀ j, i + 1 ≤ j → j < d → P j :=
 ⟨fun f => ⟨f i (Nat.le_refl _) h, fun j h1 h2 => f j (by omega) h2⟩, fun ⟨a, f⟩ j h1 h2 => by
  by_cases e : i = j
  ·subst e; exact a
  ·exact f j (by omega) h2⟩
section
variable {l : FS} (h : Ok l) (hl : l.length ≤ 1048576)
include h hl
theorem impl_nums {D : Int} (h1 : 1 ≤ D) (h2 : D ≤ 1000000000) (R : List Int × Int × Bool) : ∀ m i, i + m = l.length → ((∀ j, i ≤ j → j < l.length → Fits l D j) → R = (numL l D l.length, D, true)) → (¬ (∀ j, i ≤ j → j < l.length → Fits l D j) → R = ([], 0, false)) →
  Ev (fun k => impl_together.l1 k 1000000000000 D (numL l D i) l (l.length : Int) i) R := by
 intro m
 induction m with
 | zero =>
  intro i hi r1 r2
  obtain rfl : i = l.length := by omega
  refine evstep (fun k => by rw [impl_together.l1]) (evneg (by omega) (evc ?_))
  rw [r1 (fun j a b => by omega)]
 | succ m ih =>
  intro i hi r1 r2
  obtain ⟨q0, q1, p1, p2⟩ := nm_small h h1 h2 i (by omega)
  obtain ⟨b1, b2, b3, b4⟩ := h i (by omega)
  rw [head_step (P := Fits l D) (by omega)] at r1 r2
  refine evstep (fun k => by rw [impl_together.l1]) ?_
  rw [rd_f0, rd_f1, w64 (x := Int.tdiv D (dn l i)) (by omega) (by omega), show nu l i * Int.tdiv D (dn l i) = nm l D i from rfl, w64 (x := nm l D i) (by omega) (by omega)]
  refine evpos (by omega) (evpos (by omega) (evpos (by omega) (evneg (by omega) ?_)))
  unfold impl_upTo.f
  rw [w64 (x := -1000000000000) (by decide) (by decide), iin_b]
  refine evsome rfl ?_
  by_cases c : Fits l D i
  ·refine evpos (by unfold Fits at c; simp; omega) (evpos (by rw [numL_len]; omega) ?_)
   rw [← numL_succ, w64 (by omega) (by omega)]
   exact ih (i + 1) (by omega) (fun q => r1 ⟨c, q⟩) (fun q => r2 (fun q' => q q'.2))
  ·refine evneg (by unfold Fits at c; simp; omega) (evc ?_)
   rw [r2 (fun q => c q.1)]
theorem impl_dens (R : List Int × Int × Bool) (next : ∀ D, denL l l.length 0 1 = some D → Ev (fun k => impl_together.l1 k 1000000000000 D [] l (l.length : Int) 0) R) (none_ : denL l l.length 0 1 = none → R = ([], 0, false)) :
  ∀ m i d, i + m = l.length → 1 ≤ d → d ≤ 1000000000 → denL l m i d = denL l l.length 0 1 → Ev (fun k => impl_together.l0 k l 1000000000 1000000000000 d l (l.length : Int) i) R := by
 intro m
 induction m with
 | zero =>
  intro i d hi h1 h2 e
  refine evstep (fun k => by rw [impl_together.l0]) (evneg (by omega) ?_)
  exact next d e.symm
 | succ m ih =>
  intro i d hi h1 h2 e
  obtain ⟨b1, b2, _, _⟩ := h i (by omega)
  obtain ⟨f1, f2, f3, f4, f5, f6⟩ := lc_facts h1 h2 b1 b2
  obtain ⟨g1, g2⟩ := gc_pos (b := dn l i) h1
  refine evstep (fun k => by rw [impl_together.l0]) ?_
  rw [rd_f1]
  refine evpos (by omega) (evpos (by omega) (evpos (by omega) (evbind (impl_gcd d (dn l i) (by unfold Big; omega) (by unfold Big; omega)) (evneg (by omega) ?_))))
  rw [w64 (x := Int.tdiv d (gc d (dn l i))) (by omega) (by omega), show Int.tdiv d (gc d (dn l i)) * dn l i = lc d (dn l i) from rfl, w64 (x := lc d (dn l i)) (by omega) (by omega), w64 (x := (i : Int) + 1) (by omega) (by omega)]
  rw [show denL l (m + 1) i d = if lc d (dn l i) > 1000000000 then none else denL l m (i + 1) (lc d (dn l i)) from rfl] at e
  by_cases c : lc d (dn l i) > 1000000000
  ·rw [if_pos c] at e
   rw [none_ e.symm]
   exact evpos c (evc rfl)
  ·rw [if_neg c] at e
   exact evneg c (ih (i + 1) _ (by omega) f3 (by omega) e)
theorem impl_tog : Ev (fun k => impl_together.f k l 1000000000 1000000000000) (togR l) := by
 unfold impl_together.f
 refine impl_dens h hl (togR l) (fun D e => ?_) (fun e => ?_) l.length 0 1 (by omega) (by decide) (by decide) rfl
 ·obtain ⟨d1, d2, _, _⟩ := denL_facts h l.length 0 1 D (by omega) (by decide) (by decide) e
  refine impl_nums h hl d1 d2 _ l.length 0 (by omega) (fun q => ?_) (fun q => ?_)
  ·unfold togR; rw [e]; exact if_pos q
  ·unfold togR; rw [e]; exact if_neg q
 ·unfold togR; rw [e]
theorem spec_nums {D : Int} (h1 : 1 ≤ D) (h2 : D ≤ 1000000000) (R : List Int × Int × Bool) : ∀ m i, i + m = l.length → ((∀ j, i ≤ j → j < l.length → Fits l D j) → R = (numL l D l.length, D, true)) → (¬ (∀ j, i ≤ j → j < l.length → Fits l D j) → R = ([], 0, false)) →
  Ev (fun k => spec_l01Common.l1 k l D (numL l D i) i) R := by
 intro m
 induction m with
 | zero =>
  intro i hi r1 r2
  obtain rfl : i = l.length := by omega
  refine evstep (fun k => by rw [spec_l01Common.l1]) (evneg (by omega) (evc ?_))
  rw [r1 (fun j a b => by omega)]
 | succ m ih =>
  intro i hi r1 r2
  obtain ⟨q0, q1, p1, p2⟩ := nm_small h h1 h2 i (by omega)
  obtain ⟨b1, b2, b3, b4⟩ := h i (by omega)
  rw [head_step (P := Fits l D) (by omega)] at r1 r2
  refine evstep (fun k => by rw [spec_l01Common.l1]) ?_
  rw [rd_f0, rd_f1, w64 (x := Int.tdiv D (dn l i)) (by omega) (by omega), show nu l i * Int.tdiv D (dn l i) = nm l D i from rfl, w64 (x := nm l D i) (by omega) (by omega), sin_b]
  refine evpos (by omega) (evpos (by omega) (evneg (by omega) (evsome rfl ?_)))
  by_cases c : Fits l D i
  ·refine evpos (by unfold Fits at c; simp; omega) (evpos (by rw [numL_len]; omega) ?_)
   rw [← numL_succ, w64 (by omega) (by omega)]
   exact ih (i + 1) (by omega) (fun q => r1 ⟨c, q⟩) (fun q => r2 (fun q' => q q'.2))
  ·refine evneg (by unfold Fits at c; simp; omega) (evc ?_)
   rw [r2 (fun q => c q.1)]
theorem spec_dens (R : List Int × Int × Bool) (next : ∀ D, denL l l.length 0 1 = some D → Ev (fun k => spec_l01Common.l1 k l D [] 0) R) (none_ : denL l l.length 0 1 = none → R = ([], 0, false)) :
  ∀ m i d, i + m = l.length → 1 ≤ d → d ≤ 1000000000 → denL l m i d = denL l l.length 0 1 → Ev (fun k => spec_l01Common.l0 k l d i) R := by
 intro m
 induction m with
 | zero =>
  intro i d hi h1 h2 e
  refine evstep (fun k => by rw [spec_l01Common.l0]) (evneg (by omega) ?_)
  exact next d e.symm
 | succ m ih =>
  intro i d hi h1 h2 e
  obtain ⟨b1, b2, _, _⟩ := h i (by omega)
  obtain ⟨f1, f2, f3, f4, f5, f6⟩ := lc_facts h1 h2 b1 b2
  obtain ⟨g1, g2⟩ := gc_pos (b := dn l i) h1
  refine evstep (fun k => by rw [spec_l01Common.l0]) ?_
  rw [rd_f1]
  refine evpos (by omega) (evpos (by omega) (evbind (spec_gcd d (dn l i) (by unfold Big; omega) (by unfold Big; omega)) (evneg (by omega) ?_)))
  rw [w64 (x := Int.tdiv d (gc d (dn l i))) (by omega) (by omega), show Int.tdiv d (gc d (dn l i)) * dn l i = lc d (dn l i) from rfl, w64 (x := lc d (dn l i)) (by omega) (by omega), w64 (x := (i : Int) + 1) (by omega) (by omega)]
  rw [show denL l (m + 1) i d = if lc d (dn l i) > 1000000000 then none else denL l m (i + 1) (lc d (dn l i)) from rfl] at e
  by_cases c : lc d (dn l i) > 1000000000
  ·rw [if_pos c] at e
   rw [none_ e.symm]
   exact evpos c (evc rfl)
  ·rw [if_neg c] at e
   exact evneg c (ih (i + 1) _ (by omega) f3 (by omega) e)
theorem spec_tog : Ev (fun k => spec_l01Common.f k l) (togR l) := by
 unfold spec_l01Common.f
 refine spec_dens h hl (togR l) (fun D e => ?_) (fun e => ?_) l.length 0 1 (by omega) (by decide) (by decide) rfl
 ·obtain ⟨d1, d2, _, _⟩ := denL_facts h l.length 0 1 D (by omega) (by decide) (by decide) e
  refine spec_nums h hl d1 d2 _ l.length 0 (by omega) (fun q => ?_) (fun q => ?_)
  ·unfold togR; rw [e]; exact if_pos q
  ·unfold togR; rw [e]; exact if_neg q
 ·unfold togR; rw [e]
end
end Go.Proofs.Ytjjbhdpjnjncbaa.Mi
end
