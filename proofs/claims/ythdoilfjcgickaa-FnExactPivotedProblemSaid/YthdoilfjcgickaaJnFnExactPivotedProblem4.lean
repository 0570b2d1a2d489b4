/- Texts of one claim (the words of the kit's print that the claim uses, printed functions, and this session's own texts), joined in the order of their imports by this session's own program (merge.py). -/
import Derived.Test.YthdoilfjcgickaaJnFnExactPivotedProblem0
import Derived.Test.YthdoilfjcgickaaJnFnExactPivotedProblem1
import Derived.Test.YthdoilfjcgickaaJnFnExactPivotedProblem2
import Derived.Test.YthdoilfjcgickaaJnFnExactPivotedProblem3
set_option linter.unusedVariables false
set_option linter.unusedSimpArgs false
set_option maxHeartbeats 8000000
set_option maxRecDepth 100000
section
namespace Go.Proofs.Ythdoilfjcgickaa.Pr
open Go.RowKit Go.Proofs.YthdoilfjcgickaaW.PrintWords Go.Proofs.YthdoilfjcgickaaW.PrintLast Go.Proofs.YthdoilfjcgickaaW.PrintMore
attribute [local go_sem] max2_int min2_int max_two min_two max_three min_three max_four min_four
mutual
def spec_PivotedProblem.j0 : Nat → Int → Bool → Int → List (List Int) → List Int → Option ((List (List Int)) × List Int × Int)
 | 0, _, _, _, _, _ => none
 | k + 1, x7, x24, x828000, x828001, x828002 => if x24 = true then (spec_PivotedProblem.j1 k 5 x828000 x828001 x828002) else (spec_PivotedProblem.j1 k x7 x828000 x828001 x828002)
def spec_PivotedProblem.j1 : Nat → Int → Int → List (List Int) → List Int → Option ((List (List Int)) × List Int × Int)
 | 0, _, _, _, _ => none
 | k + 1, x7, x828000, x828001, x828002 => if x7 = 0 then (spec_PivotedProblem.l0 k 0 x828000 x828001 x828002 (([] : List (List Int))) (([] : List Int))) else (some (([] : List (List Int)), ([] : List Int), x7))
def spec_PivotedProblem.l0 : Nat → Int → Int → List (List Int) → List Int → List (List Int) → List Int → Option ((List (List Int)) × List Int × Int)
 | 0, _, _, _, _, _, _ => none
 | k + 1, x9, x828000, x828001, x828002, x836000, x836001 => if x9 < (x828002.length : Int) then (spec_PivotedProblem.l1 k x9 (([] : List Int)) 0 x828000 x828001 x828002 x836000 x836001) else ((spec_l01Is.f k x836000 x836001).bind fun t836 => (if t836 = true then (some (x836000, x836001, 0)) else (some (([] : List (List Int)), ([] : List Int), 3))))
def spec_PivotedProblem.l1 : Nat → Int → List Int → Int → Int → List (List Int) → List Int → List (List Int) → List Int → Option ((List (List Int)) × List Int × Int)
 | 0, _, _, _, _, _, _, _, _ => none
 | k + 1, x9, x10, x11, x828000, x828001, x828002, x836000, x836001 => if x11 < (x828002.length : Int) then (if 0 ≤ x9 then (if x9 < (x828001.length : Int) then (if 0 ≤ x11 then (if x11 < ((rd_L1 x828001 x9).length : Int) then (if x828000 = 0 then (none) else (if x10.length < 17592186044416 then (spec_PivotedProblem.l1 k x9 (x10 ++ [wrap64 (Int.tdiv (rd (rd_L1 x828001 x9) x11) x828000)]) (wrap64 (x11 + 1)) x828000 x828001 x828002 x836000 x836001) else (none))) else (none)) else (none)) else (none)) else (none)) else (if x836000.length < 5864062014805 then (if 0 ≤ x9 then (if x9 < (x828002.length : Int) then (if x828000 = 0 then (none) else (if x836001.length < 17592186044416 then (spec_PivotedProblem.l0 k (wrap64 (x9 + 1)) x828000 x828001 x828002 (x836000 ++ [x10]) (x836001 ++ [wrap64 (Int.tdiv (rd x828002 x9) x828000)])) else (none))) else (none)) else (none)) else (none))
end
def spec_PivotedProblem.f (k : Nat) (l0_0 : List (List Int)) (l0_1 : List Int) (a1 : Int) : Option ((List (List Int)) × List Int × Int) := (spec_PivotOf.f k l0_0 l0_1 a1).bind fun bt819 => (if bt819.2.2.2 = 0 then ((spec_l04Whole.f k bt819.1 bt819.2.1 bt819.2.2.1).bind fun t828 => (spec_PivotedProblem.j0 k bt819.2.2.2 (!t828) bt819.1 bt819.2.1 bt819.2.2.1)) else (spec_PivotedProblem.j0 k bt819.2.2.2 false bt819.1 bt819.2.1 bt819.2.2.1))
theorem spec_PivotedProblem.mono_l : ∀ k, (∀ y0 y1 y2 y3 y4, LeO (spec_PivotedProblem.j0 k y0 y1 y2 y3 y4) (spec_PivotedProblem.j0 (k + 1) y0 y1 y2 y3 y4)) ∧ (∀ y0 y1 y2 y3, LeO (spec_PivotedProblem.j1 k y0 y1 y2 y3) (spec_PivotedProblem.j1 (k + 1) y0 y1 y2 y3)) ∧ (∀ y0 y1 y2 y3 y4 y5, LeO (spec_PivotedProblem.l0 k y0 y1 y2 y3 y4 y5) (spec_PivotedProblem.l0 (k + 1) y0 y1 y2 y3 y4 y5)) ∧ (∀ y0 y1 y2 y3 y4 y5 y6 y7, LeO (spec_PivotedProblem.l1 k y0 y1 y2 y3 y4 y5 y6 y7) (spec_PivotedProblem.l1 (k + 1) y0 y1 y2 y3 y4 y5 y6 y7))
 | 0 => ⟨fun _ _ _ _ _ r h => by simp [spec_PivotedProblem.j0] at h, fun _ _ _ _ r h => by simp [spec_PivotedProblem.j1] at h, fun _ _ _ _ _ _ r h => by simp [spec_PivotedProblem.l0] at h, fun _ _ _ _ _ _ _ _ r h => by simp [spec_PivotedProblem.l1] at h⟩
 | k + 1 => by
  obtain ⟨ih0, ih1, ih2, ih3⟩ := spec_PivotedProblem.mono_l k
  refine ⟨?_, ?_, ?_, ?_⟩
  ·intro y0 y1 y2 y3 y4
   unfold spec_PivotedProblem.j0
   repeat' first
   | (with_reducible exact ih0 _ _ _ _ _)
   | (with_reducible exact ih1 _ _ _ _)
   | (with_reducible exact ih2 _ _ _ _ _ _)
   | (with_reducible exact ih3 _ _ _ _ _ _ _ _)
   | (with_reducible exact spec_PivotOf.mono _ _ _ _)
   | (with_reducible exact spec_l01Is.mono _ _ _)
   | (with_reducible exact spec_l04Whole.mono _ _ _ _)
   | (with_reducible exact LeO.refl _)
   | (with_reducible exact LeO.none _)
   | (with_reducible refine LeO.ite ?_ ?_)
   | (with_reducible refine LeO.bind ?_ (fun _ => ?_))
   | exact ih0 _ _ _ _ _
   | exact ih1 _ _ _ _
   | exact ih2 _ _ _ _ _ _
   | exact ih3 _ _ _ _ _ _ _ _
   | exact spec_PivotOf.mono _ _ _ _
   | exact spec_l01Is.mono _ _ _
   | exact spec_l04Whole.mono _ _ _ _
   | exact LeO.none _
   | refine LeO.ite ?_ ?_
   | refine LeO.bind ?_ (fun _ => ?_)
  ·intro y0 y1 y2 y3
   unfold spec_PivotedProblem.j1
   repeat' first
   | (with_reducible exact ih0 _ _ _ _ _)
   | (with_reducible exact ih1 _ _ _ _)
   | (with_reducible exact ih2 _ _ _ _ _ _)
   | (with_reducible exact ih3 _ _ _ _ _ _ _ _)
   | (with_reducible exact spec_PivotOf.mono _ _ _ _)
   | (with_reducible exact spec_l01Is.mono _ _ _)
   | (with_reducible exact spec_l04Whole.mono _ _ _ _)
   | (with_reducible exact LeO.refl _)
   | (with_reducible exact LeO.none _)
   | (with_reducible refine LeO.ite ?_ ?_)
   | (with_reducible refine LeO.bind ?_ (fun _ => ?_))
   | exact ih0 _ _ _ _ _
   | exact ih1 _ _ _ _
   | exact ih2 _ _ _ _ _ _
   | exact ih3 _ _ _ _ _ _ _ _
   | exact spec_PivotOf.mono _ _ _ _
   | exact spec_l01Is.mono _ _ _
   | exact spec_l04Whole.mono _ _ _ _
   | exact LeO.none _
   | refine LeO.ite ?_ ?_
   | refine LeO.bind ?_ (fun _ => ?_)
  ·intro y0 y1 y2 y3 y4 y5
   unfold spec_PivotedProblem.l0
   repeat' first
   | (with_reducible exact ih0 _ _ _ _ _)
   | (with_reducible exact ih1 _ _ _ _)
   | (with_reducible exact ih2 _ _ _ _ _ _)
   | (with_reducible exact ih3 _ _ _ _ _ _ _ _)
   | (with_reducible exact spec_PivotOf.mono _ _ _ _)
   | (with_reducible exact spec_l01Is.mono _ _ _)
   | (with_reducible exact spec_l04Whole.mono _ _ _ _)
   | (with_reducible exact LeO.refl _)
   | (with_reducible exact LeO.none _)
   | (with_reducible refine LeO.ite ?_ ?_)
   | (with_reducible refine LeO.bind ?_ (fun _ => ?_))
   | exact ih0 _ _ _ _ _
   | exact ih1 _ _ _ _
   | exact ih2 _ _ _ _ _ _
   | exact ih3 _ _ _ _ _ _ _ _
   | exact spec_PivotOf.mono _ _ _ _
   | exact spec_l01Is.mono _ _ _
   | exact spec_l04Whole.mono _ _ _ _
   | exact LeO.none _
   | refine LeO.ite ?_ ?_
   | refine LeO.bind ?_ (fun _ => ?_)
  ·intro y0 y1 y2 y3 y4 y5 y6 y7
   unfold spec_PivotedProblem.l1
   repeat' first
   | (with_reducible exact ih0 _ _ _ _ _)
   | (with_reducible exact ih1 _ _ _ _)
   | (with_reducible exact ih2 _ _ _ _ _ _)
   | (with_reducible exact ih3 _ _ _ _ _ _ _ _)
   | (with_reducible exact spec_PivotOf.mono _ _ _ _)
   | (with_reducible exact spec_l01Is.mono _ _ _)
   | (with_reducible exact spec_l04Whole.mono _ _ _ _)
   | (with_reducible exact LeO.refl _)
   | (with_reducible exact LeO.none _)
   | (with_reducible refine LeO.ite ?_ ?_)
   | (with_reducible refine LeO.bind ?_ (fun _ => ?_))
   | exact ih0 _ _ _ _ _
   | exact ih1 _ _ _ _
   | exact ih2 _ _ _ _ _ _
   | exact ih3 _ _ _ _ _ _ _ _
   | exact spec_PivotOf.mono _ _ _ _
   | exact spec_l01Is.mono _ _ _
   | exact spec_l04Whole.mono _ _ _ _
   | exact LeO.none _
   | refine LeO.ite ?_ ?_
   | refine LeO.bind ?_ (fun _ => ?_)
theorem spec_PivotedProblem.mono : ∀ a0 a1 a2 k, LeO (spec_PivotedProblem.f k a0 a1 a2) (spec_PivotedProblem.f (k + 1) a0 a1 a2) := by
 intro a0 a1 a2 k
 obtain ⟨ih0, ih1, ih2, ih3⟩ := spec_PivotedProblem.mono_l k
 unfold spec_PivotedProblem.f
 repeat' first
   | (with_reducible exact ih0 _ _ _ _ _)
   | (with_reducible exact ih1 _ _ _ _)
   | (with_reducible exact ih2 _ _ _ _ _ _)
   | (with_reducible exact ih3 _ _ _ _ _ _ _ _)
   | (with_reducible exact spec_PivotOf.mono _ _ _ _)
   | (with_reducible exact spec_l01Is.mono _ _ _)
   | (with_reducible exact spec_l04Whole.mono _ _ _ _)
   | (with_reducible exact LeO.refl _)
   | (with_reducible exact LeO.none _)
   | (with_reducible refine LeO.ite ?_ ?_)
   | (with_reducible refine LeO.bind ?_ (fun _ => ?_))
   | exact ih0 _ _ _ _ _
   | exact ih1 _ _ _ _
   | exact ih2 _ _ _ _ _ _
   | exact ih3 _ _ _ _ _ _ _ _
   | exact spec_PivotOf.mono _ _ _ _
   | exact spec_l01Is.mono _ _ _
   | exact spec_l04Whole.mono _ _ _ _
   | exact LeO.none _
   | refine LeO.ite ?_ ?_
   | refine LeO.bind ?_ (fun _ => ?_)
def spec_PivotedProblem.T14 : Bool × List (List Nat × List Nat) := (true, [([], []), ([], []), ([1], [1]), ([], []), ([2, 3], [2, 3]), ([4], [4]), ([], []), ([5, 6], [5, 6]), ([7], [7]), ([], []), ([9], [9]), ([8, 10], [8, 10]), ([11], [11]), ([0, 12], [0, 12]), ([13, 13, 0, 1, 2, 3, 4, 5, 6, 7, 8, 9, 10, 11, 12, 13], [0, 13])])
def spec_PivotedProblem.B14 : List Nat := [0, 0, 2, 0, 14, 30, 0, 126, 254, 0, 512, 2046, 4094, 8191, 16383]
theorem spec_PivotedProblem.tab14 : rtab .any (opsOf Try.f40 14) = spec_PivotedProblem.T14 := by kernel_rfl
theorem spec_PivotedProblem.bits14 : waitsOk spec_PivotedProblem.T14.2 spec_PivotedProblem.B14 = true := by kernel_rfl
def spec_PivotedProblem.T16 : Bool × List (List Nat × List Nat) := (true, [([], []), ([0], [0]), ([], []), ([2], [2]), ([], []), ([3, 4], [3, 4]), ([5], [5]), ([], []), ([7], [7]), ([6, 8], [6, 8]), ([9], [9]), ([1, 10], [1, 10]), ([0, 1, 2, 3, 4, 5, 6, 7, 8, 9, 10, 11], []), ([12, 11, 11, 0, 1, 2, 3, 4, 5, 6, 7, 8, 9, 10, 11], [11, 12])])
def spec_PivotedProblem.B16 : List Nat := [0, 1, 0, 4, 0, 28, 60, 0, 128, 508, 1020, 2047, 4095, 8191]
theorem spec_PivotedProblem.tab16 : rtab .any (opsOf Try.f40 16) = spec_PivotedProblem.T16 := by kernel_rfl
theorem spec_PivotedProblem.bits16 : waitsOk spec_PivotedProblem.T16.2 spec_PivotedProblem.B16 = true := by kernel_rfl
theorem spec_PivotedProblem.calls (k : Nat) (A0_0 : Option Addr) (c0_0 : Nat) (l0_0 : List (List Int)) (A0_1 : Option Addr) (c0_1 : Nat) (l0_1 : List Int) (a1 : Int) (r1 : List (List Int)) (r2 : List Int) (r3 : Int) (w : World) (hr0_0 : Kd.C (Kd.slice 2 (Kd.int .i64)) w A0_0 l0_0.length l0_0) (hc0_0 : l0_0.length ≤ c0_0) (hr0_1 : Kd.C (Kd.int .i64) w A0_1 l0_1.length l0_1) (hc0_1 : l0_1.length ≤ c0_1) (h : spec_PivotedProblem.f k l0_0 l0_1 a1 = some (r1, r2, r3)) :
  Calls Try.prog 40 #[.agg #[.slice A0_0 l0_0.length c0_0, .slice A0_1 l0_1.length c0_1], .int .i64 a1] w fun e w' => ∃ v0_ v1_ : Value, e = .returned (.tuple #[.agg #[v0_, v1_], .int .i64 r3]) ∧ Kd.S (Kd.slice 2 (Kd.int .i64)) 23 w' w.heap.size (fun k_ => some k_ ≠ (v1_ : Value).ownBlock) v0_ r1 ∧ Kd.R (Kd.int .i64) 2 w' w.heap.size (fun _ => True) v1_ r2 ∧ Below w.heap.size w w' := by
 have hu29 := Try.underlying29
 have hu75 := Try.underlying75
 have HR0_0 := Aside0.mk hr0_0
 have HC0_0 := Aside0.mk hc0_0
 clear hr0_0 hc0_0
 have HR0_1 := Aside0.mk hr0_1
 have HC0_1 := Aside0.mk hc0_1
 clear hr0_1 hc0_1
 have HB := Aside0.mk (Below.refl w.heap.size w)
 have H : ((spec_PivotOf.f k l0_0 l0_1 a1).bind fun bt819 => (if bt819.2.2.2 = 0 then ((spec_l04Whole.f k bt819.1 bt819.2.1 bt819.2.2.1).bind fun t828 => (spec_PivotedProblem.j0 k bt819.2.2.2 (!t828) bt819.1 bt819.2.1 bt819.2.2.1)) else (spec_PivotedProblem.j0 k bt819.2.2.2 false bt819.1 bt819.2.1 bt819.2.2.1))) = some (r1, r2, r3) := h
 clear h
 replace H := Option.bind_eq_some_iff.mp H
 obtain ⟨⟨t819, t820, t823, t826⟩, A30, H⟩ := H
 replace H : (if t826 = 0 then ((spec_l04Whole.f k t819 t820 t823).bind fun t828 => (spec_PivotedProblem.j0 k t826 (!t828) t819 t820 t823)) else (spec_PivotedProblem.j0 k t826 false t819 t820 t823)) = some (r1, r2, r3) := H
 have A3 := Aside0.mk A30
 clear A30
 have HC4 := Aside0.mk H
 clear H
 go_enter Try.func40, Try.ntmps40
 go_upto_region 2 with (first | ((with_reducible refine gate_dst (N := 2) rfl ?_); refine box_event ?hg (N := 2) ?hd (cs := #[.slice A0_0 l0_0.length c0_0, .slice A0_1 l0_1.length c0_1]) (t := 29) ?hr ?_; (case hd => rfl); (case hg => rfl); (case hr => first | (go_simp; done) | (go_simp; rfl)); intro gb817 hg w5 hbox hb; have n0_ := Aside0.mk (bs_ hb); have n1_ := Aside0.mk (hbox); have n2_ := Aside0.mk ((by rw [hg]; exact bz_ : w.heap.size ≤ gb817)); have n3_ := Aside0.mk ((by rw [hg]; exact bz_ : w.heap.size ≤ gb817)); clear HB; have HB := n0_; have BK817 := n1_; have GW817 := n2_; have GE817 := n3_; clear n0_ n1_ n2_ n3_; clear hb hbox hg) | ((with_reducible refine gate_dst (N := 4) rfl ?_); refine box_event ?hg (N := 4) ?hd (cs := #[.slice none 0 0, .slice none 0 0]) (t := 29) ?hr ?_; (case hd => rfl); (case hg => rfl); (case hr => first | (go_simp; done) | (go_simp; rfl)); intro gb818 hg w6 hbox hb; have n0_ := Aside0.mk (bb_ BK817.out hb); have n1_ := Aside0.mk (bs_ hb); have n2_ := Aside0.mk (hbox); have n3_ := Aside0.mk ((by rw [hg]; exact bz_ : w.heap.size ≤ gb818)); have n4_ := Aside0.mk ((by rw [hg]; exact bz_ : w.heap.size ≤ gb818)); have n5_ := Aside0.mk ((by rw [hg]; exact lt_ BK817.out : gb817 ≠ gb818)); have n6_ := Aside0.mk ((by rw [hg]; exact gt_ BK817.out : gb818 ≠ gb817)); clear BK817; clear HB; have BK817 := n0_; have HB := n1_; have BK818 := n2_; have GW818 := n3_; have GE818 := n4_; have NB817_818 := n5_; have NB818_817 := n6_; clear n0_ n1_ n2_ n3_ n4_ n5_ n6_; clear hb hbox hg; have hnb7 := NB817_818.out; have hnc7 := NB818_817.out; have hcz8_0 : w6.cell? ⟨gb817, 0, none⟩ = some (.slice A0_0 l0_0.length c0_0) := (blk_cell BK817.out 0).trans rfl; have hcz8_1 : w6.cell? ⟨gb817, 1, none⟩ = some (.slice A0_1 l0_1.length c0_1) := (blk_cell BK817.out 1).trans rfl; have hfz8_0 := blk_frozen BK817.out 0; have hfz8_1 := blk_frozen BK817.out 1) | ((with_reducible refine gate_callee (f := 60) rfl ?_); refine goesL_ (some 15) rfl rfl Try.func60 (by kernel_rfl) rfl #[.agg #[.slice A0_0 l0_0.length c0_0, .slice A0_1 l0_1.length c0_1], .int .i64 a1] rfl (by (try simp only [List.map_toArray, List.map_cons, List.map_nil]); first | done | rfl | (simp only [List.length_drop, List.length_take]; rfl)) ?_; (with_reducible refine (spec_PivotOf.calls k _ _ l0_0 _ _ l0_1 a1 t819 t820 t823 t826 _ ?side1 ?side2 ?side3 ?side4 A3.out).mono ?_); (case side1 => exact cb_ HR0_0.out HB.out); (case side2 => exact HC0_0.out); (case side3 => exact cb_ HR0_1.out HB.out); (case side4 => exact HC0_1.out); rintro e w9 ⟨v821, v824, rfl, ho0, ho1, hb⟩; refine ⟨_, rfl, ?_⟩; have n0_ := Aside0.mk (Kd.S_lower ho0 bz_); have n1_ := Aside0.mk (Kd.R_lower ho1 bz_); have n2_ := Aside0.mk (bb_ BK817.out hb); have n3_ := Aside0.mk (bb_ BK818.out hb); have n4_ := Aside0.mk (bs_ hb); clear BK817; clear BK818; clear HB; have HO822 := n0_; have HO825 := n1_; have BK817 := n2_; have BK818 := n3_; have HB := n4_; clear n0_ n1_ n2_ n3_ n4_; (try clear hb); (try clear hb2); (try clear hk); (try clear hi); (try clear ho0); (try clear ho1)) | ((with_reducible refine gate_dst (N := 6) rfl ?_); refine box_event ?hg (N := 6) ?hd (cs := #[.int .i64 0, .slice none 0 0, .slice none 0 0]) (t := 75) ?hr ?_; (case hd => rfl); (case hg => rfl); (case hr => first | (go_simp; done) | (go_simp; rfl)); intro gb827 hg w10 hbox hb; have n0_ := Aside0.mk (Kd.S_below (so_ HO822.out) hb); have n1_ := Aside0.mk (rb_ HO825.out hb); have n2_ := Aside0.mk (bb_ BK817.out hb); have n3_ := Aside0.mk (bb_ BK818.out hb); have n4_ := Aside0.mk (bs_ hb); have n5_ := Aside0.mk (hbox); have n6_ := Aside0.mk ((by rw [hg]; exact bz_ : w.heap.size ≤ gb827)); have n7_ := Aside0.mk ((by rw [hg]; exact bz_ : w.heap.size ≤ gb827)); have n8_ := Aside0.mk ((by rw [hg]; exact lt_ BK817.out : gb817 ≠ gb827)); have n9_ := Aside0.mk ((by rw [hg]; exact gt_ BK817.out : gb827 ≠ gb817)); have n10_ := Aside0.mk ((by rw [hg]; exact lt_ BK818.out : gb818 ≠ gb827)); have n11_ := Aside0.mk ((by rw [hg]; exact gt_ BK818.out : gb827 ≠ gb818)); clear HO822; clear HO825; clear BK817; clear BK818; clear HB; have HO822 := n0_; have HO825 := n1_; have BK817 := n2_; have BK818 := n3_; have HB := n4_; have BK827 := n5_; have GW827 := n6_; have GE827 := n7_; have NB817_827 := n8_; have NB827_817 := n9_; have NB818_827 := n10_; have NB827_818 := n11_; clear n0_ n1_ n2_ n3_ n4_ n5_ n6_ n7_ n8_ n9_ n10_ n11_; clear hb hbox hg; have hnb11 := NB827_817.out; have hnc11 := NB817_827.out; have hnb12 := NB827_818.out; have hnc12 := NB818_827.out; have hcz13_0 : w10.cell? ⟨gb827, 0, none⟩ = some (.int .i64 0) := (blk_cell BK827.out 0).trans rfl; have hcz13_1 : w10.cell? ⟨gb827, 1, none⟩ = some (.slice none 0 0) := (blk_cell BK827.out 1).trans rfl; have hcz13_2 : w10.cell? ⟨gb827, 2, none⟩ = some (.slice none 0 0) := (blk_cell BK827.out 2).trans rfl; have hfz13_0 := blk_frozen BK827.out 0; have hfz13_1 := blk_frozen BK827.out 1; have hfz13_2 := blk_frozen BK827.out 2; obtain ⟨Ao14, co14, eo14⟩ := Kd.S_slice HO822.out; subst eo14; obtain ⟨Ao15, co15, eo15⟩ := Kd.R_slice HO825.out; subst eo15))
 (try simp only [Act.put, List.setIfInBounds_toArray, List.set_cons_zero, List.set_cons_succ])
 go_cut [24] (fun v24 wc => ∃ (kq : Nat) (x24_3 : Bool), v24 = .bool x24_3 ∧ Aside0 (spec_PivotedProblem.j0 kq t826 x24_3 t819 t820 t823 = some (r1, r2, r3)) ∧ Aside0 (kq ≤ k) ∧ Aside0 (Kd.S (Kd.slice 2 (Kd.int .i64)) 23 wc w.heap.size (fun k_ => some k_ ≠ ((.slice Ao15 t823.length co15) : Value).ownBlock) (.slice Ao14 t820.length co14) t820) ∧ Aside0 (Kd.R (Kd.int .i64) 2 wc w.heap.size (fun _ => True) (.slice Ao15 t823.length co15) t823) ∧ Aside0 (wc.heap[gb817]? = some (.cells #[(.slice A0_0 l0_0.length c0_0), (.slice A0_1 l0_1.length c0_1)] 29 (0, 0))) ∧ Aside0 (wc.heap[gb818]? = some (.cells #[(.slice none 0 0), (.slice none 0 0)] 29 (0, 0))) ∧ Aside0 (wc.heap[gb827]? = some (.cells #[.int .i64 t819, (.slice Ao14 t820.length co14), (.slice Ao15 t823.length co15)] 75 (0, 0))) ∧ Aside0 (Below w.heap.size w wc))
 case first =>
  have H := HC4.out
  clear HC4
  by_cases c16 : t826 = 0
  ·rw [if_pos c16] at H
   have c16b0 : (t826 == 0) = true := beq_iff_eq.mpr c16
   have c16b1 : (t826 != 0) = false := bne_eq_false_iff_eq.mpr c16
   clear c16
   (first | rw [c16b0] | (simp only [i64_w, i32_w]; rw [c16b0]) | skip)
   replace H := Option.bind_eq_some_iff.mp H
   obtain ⟨t828, A170, H⟩ := H
   replace H : (spec_PivotedProblem.j0 k t826 (!t828) t819 t820 t823) = some (r1, r2, r3) := H
   have A17 := Aside0.mk A170
   clear A170
   have H' := Aside0.mk H
   clear H
   have hnb18 := NB827_817.out
   have hnc18 := NB817_827.out
   have hnb19 := NB827_818.out
   have hnc19 := NB818_827.out
   have hcz20_0 : w10.cell? ⟨gb827, 0, none⟩ = some (.int .i64 0) := (blk_cell BK827.out 0).trans rfl
   have hcz20_1 : w10.cell? ⟨gb827, 1, none⟩ = some (.slice none 0 0) := (blk_cell BK827.out 1).trans rfl
   have hcz20_2 : w10.cell? ⟨gb827, 2, none⟩ = some (.slice none 0 0) := (blk_cell BK827.out 2).trans rfl
   have hfz20_0 := blk_frozen BK827.out 0
   have hfz20_1 := blk_frozen BK827.out 1
   have hfz20_2 := blk_frozen BK827.out 2
   go_wp2_with (first | (go_at_call 82; (with_reducible refine (spec_l04Whole.calls k t819 _ _ t820 _ _ t823 t828 _ ?side1 ?side2 ?side3 ?side4 A17.out).mono ?_); (case side1 => refine (Kd.S_reads' (e := 23) (base := w.heap.size) (ok := fun k_ => some k_ ≠ (.slice Ao15 t823.length co15 : Value).ownBlock) (n := t820.length) (c := co14) ?_).2.2; exact (by (with_reducible repeat (first | apply Kd.S_alloc | apply Kd.S_drewN | apply Kd.S_drew)); exact (Kd.S_mono (Kd.S_far (p := ⟨gb827, 2, none⟩) (Kd.S_far (p := ⟨gb827, 1, none⟩) (Kd.S_far (p := ⟨gb827, 0, none⟩) (Kd.S_types HO822.out BK827.out (by decide)) (fun _ hk => hk.2) (.int .i64 t819)) (fun _ hk => hk.2) (.slice Ao14 t820.length co14)) (fun _ hk => hk.2) (.slice Ao15 t823.length co15)) (fun _ h_ => h_.1)))); (case side2 => exact (Kd.S_reads' HO822.out).2.1); (case side3 => refine (Kd.R_reads' (e := 2) (base := w.heap.size) (ok := fun k_ => True) (n := t823.length) (c := co15) ?_).2.2; exact (by (with_reducible repeat (first | apply Kd.R_alloc | apply Kd.R_drewN | apply Kd.R_drew)); exact (Kd.R_mono (Kd.R_far (p := ⟨gb827, 2, none⟩) (Kd.R_far (p := ⟨gb827, 1, none⟩) (Kd.R_far (p := ⟨gb827, 0, none⟩) (Kd.R_types HO825.out BK827.out (by decide)) (fun _ hk => hk.2) (.int .i64 t819)) (fun _ hk => hk.2) (.slice Ao14 t820.length co14)) (fun _ hk => hk.2) (.slice Ao15 t823.length co15)) (fun _ h_ => h_.1)))); (case side4 => exact (Kd.R_reads' HO825.out).2.1); rintro e w21 ⟨rfl, hb⟩; have n0_ := Aside0.mk (Kd.S_below (by (with_reducible repeat (first | apply Kd.S_alloc | apply Kd.S_drewN | apply Kd.S_drew)); exact (Kd.S_mono (Kd.S_far (p := ⟨gb827, 2, none⟩) (Kd.S_far (p := ⟨gb827, 1, none⟩) (Kd.S_far (p := ⟨gb827, 0, none⟩) (Kd.S_types HO822.out BK827.out (by decide)) (fun _ hk => hk.2) (.int .i64 t819)) (fun _ hk => hk.2) (.slice Ao14 t820.length co14)) (fun _ hk => hk.2) (.slice Ao15 t823.length co15)) (fun _ h_ => h_.1))) hb); have n1_ := Aside0.mk (Kd.R_below (by (with_reducible repeat (first | apply Kd.R_alloc | apply Kd.R_drewN | apply Kd.R_drew)); exact (Kd.R_mono (Kd.R_far (p := ⟨gb827, 2, none⟩) (Kd.R_far (p := ⟨gb827, 1, none⟩) (Kd.R_far (p := ⟨gb827, 0, none⟩) (Kd.R_types HO825.out BK827.out (by decide)) (fun _ hk => hk.2) (.int .i64 t819)) (fun _ hk => hk.2) (.slice Ao14 t820.length co14)) (fun _ hk => hk.2) (.slice Ao15 t823.length co15)) (fun _ h_ => h_.1))) hb); have n2_ := Aside0.mk (blk_below (g := gb817) (o := .cells #[.slice A0_0 l0_0.length c0_0, .slice A0_1 l0_1.length c0_1] 29 (0, 0)) (by (with_reducible repeat (first | refine blk_drewN ?_ _ | refine blk_drew ?_ | refine blk_alloc ?_ _)); refine blk_far ?_ NB817_827.out _; (with_reducible repeat (first | refine blk_drewN ?_ _ | refine blk_drew ?_ | refine blk_alloc ?_ _)); refine blk_far ?_ NB817_827.out _; (with_reducible repeat (first | refine blk_drewN ?_ _ | refine blk_drew ?_ | refine blk_alloc ?_ _)); refine blk_far ?_ NB817_827.out _; (with_reducible repeat (first | refine blk_drewN ?_ _ | refine blk_drew ?_ | refine blk_alloc ?_ _)); exact BK817.out) hb); have n3_ := Aside0.mk (blk_below (g := gb818) (o := .cells #[.slice none 0 0, .slice none 0 0] 29 (0, 0)) (by (with_reducible repeat (first | refine blk_drewN ?_ _ | refine blk_drew ?_ | refine blk_alloc ?_ _)); refine blk_far ?_ NB818_827.out _; (with_reducible repeat (first | refine blk_drewN ?_ _ | refine blk_drew ?_ | refine blk_alloc ?_ _)); refine blk_far ?_ NB818_827.out _; (with_reducible repeat (first | refine blk_drewN ?_ _ | refine blk_drew ?_ | refine blk_alloc ?_ _)); refine blk_far ?_ NB818_827.out _; (with_reducible repeat (first | refine blk_drewN ?_ _ | refine blk_drew ?_ | refine blk_alloc ?_ _)); exact BK818.out) hb); have n4_ := Aside0.mk (blk_below (g := gb827) (o := .cells #[.int .i64 t819, .slice Ao14 t820.length co14, .slice Ao15 t823.length co15] 75 (0, 0)) (by (with_reducible repeat (first | refine blk_drewN ?_ _ | refine blk_drew ?_ | refine blk_alloc ?_ _)); refine blk_put (cs := #[.int .i64 t819, .slice Ao14 t820.length co14, .slice none 0 0]) ?_ 2 _ rfl; (with_reducible repeat (first | refine blk_drewN ?_ _ | refine blk_drew ?_ | refine blk_alloc ?_ _)); refine blk_put (cs := #[.int .i64 t819, .slice none 0 0, .slice none 0 0]) ?_ 1 _ rfl; (with_reducible repeat (first | refine blk_drewN ?_ _ | refine blk_drew ?_ | refine blk_alloc ?_ _)); refine blk_put (cs := #[.int .i64 0, .slice none 0 0, .slice none 0 0]) ?_ 0 _ rfl; (with_reducible repeat (first | refine blk_drewN ?_ _ | refine blk_drew ?_ | refine blk_alloc ?_ _)); exact BK827.out) hb); have n5_ := Aside0.mk (bs_ hb); clear HO822; clear HO825; clear BK817; clear BK818; clear BK827; clear HB; have HO822 := n0_; have HO825 := n1_; have BK817 := n2_; have BK818 := n3_; have BK827 := n4_; have HB := n5_; clear n0_ n1_ n2_ n3_ n4_ n5_; (try clear hb); (try clear hb2); (try clear hk); (try clear hi)))
   go_meet
   case rel => exact ⟨_, (!t828), (by first | rfl | (simp; done) | (simp [*]; done)), H', ⟨by first | omega | exact Nat.le_refl _⟩, ⟨so_ HO822.out⟩, ⟨ro_ HO825.out⟩, ⟨bk_⟩, ⟨bk_⟩, ⟨bk_⟩, ⟨hb_⟩⟩
  ·rw [if_neg c16] at H
   have c16b0 : (t826 == 0) = false := beq_eq_false_iff_ne.mpr c16
   have c16b1 : (t826 != 0) = true := bne_iff_ne.mpr c16
   (first | rw [c16b0] | (simp only [i64_w, i32_w]; rw [c16b0]) | skip)
   have H' := Aside0.mk H
   clear H
   go_wp2
   go_meet
   case rel => exact ⟨_, (false), (by first | rfl | (simp; done) | (simp [*]; done)), H', ⟨by first | omega | exact Nat.le_refl _⟩, ⟨by (with_reducible repeat (first | apply Kd.S_alloc | apply Kd.S_drewN | apply Kd.S_drew)); exact Kd.S_mono (Kd.S_far (p := ⟨gb827, 2, none⟩) (Kd.S_far (p := ⟨gb827, 1, none⟩) (Kd.S_far (p := ⟨gb827, 0, none⟩) (Kd.S_types HO822.out BK827.out (by decide)) (fun _ hk => hk.2) (.int .i64 t819)) (fun _ hk => hk.2) (.slice Ao14 t820.length co14)) (fun _ hk => hk.2) (.slice Ao15 t823.length co15)) (fun _ hk => hk.1)⟩, ⟨by (with_reducible repeat (first | apply Kd.R_alloc | apply Kd.R_drewN | apply Kd.R_drew)); exact Kd.R_mono (Kd.R_far (p := ⟨gb827, 2, none⟩) (Kd.R_far (p := ⟨gb827, 1, none⟩) (Kd.R_far (p := ⟨gb827, 0, none⟩) (Kd.R_types HO825.out BK827.out (by decide)) (fun _ hk => hk.2) (.int .i64 t819)) (fun _ hk => hk.2) (.slice Ao14 t820.length co14)) (fun _ hk => hk.2) (.slice Ao15 t823.length co15)) (fun _ hk => trivial)⟩, ⟨by (with_reducible repeat (first | refine blk_drewN ?_ _ | refine blk_drew ?_ | refine blk_alloc ?_ _)); refine blk_far ?_ NB817_827.out _; (with_reducible repeat (first | refine blk_drewN ?_ _ | refine blk_drew ?_ | refine blk_alloc ?_ _)); refine blk_far ?_ NB817_827.out _; (with_reducible repeat (first | refine blk_drewN ?_ _ | refine blk_drew ?_ | refine blk_alloc ?_ _)); refine blk_far ?_ NB817_827.out _; (with_reducible repeat (first | refine blk_drewN ?_ _ | refine blk_drew ?_ | refine blk_alloc ?_ _)); exact BK817.out⟩, ⟨by (with_reducible repeat (first | refine blk_drewN ?_ _ | refine blk_drew ?_ | refine blk_alloc ?_ _)); refine blk_far ?_ NB818_827.out _; (with_reducible repeat (first | refine blk_drewN ?_ _ | refine blk_drew ?_ | refine blk_alloc ?_ _)); refine blk_far ?_ NB818_827.out _; (with_reducible repeat (first | refine blk_drewN ?_ _ | refine blk_drew ?_ | refine blk_alloc ?_ _)); refine blk_far ?_ NB818_827.out _; (with_reducible repeat (first | refine blk_drewN ?_ _ | refine blk_drew ?_ | refine blk_alloc ?_ _)); exact BK818.out⟩, ⟨by (with_reducible repeat (first | refine blk_drewN ?_ _ | refine blk_drew ?_ | refine blk_alloc ?_ _)); refine blk_put (cs := #[.int .i64 t819, .slice Ao14 t820.length co14, .slice none 0 0]) ?_ 2 _ rfl; (with_reducible repeat (first | refine blk_drewN ?_ _ | refine blk_drew ?_ | refine blk_alloc ?_ _)); refine blk_put (cs := #[.int .i64 t819, .slice none 0 0, .slice none 0 0]) ?_ 1 _ rfl; (with_reducible repeat (first | refine blk_drewN ?_ _ | refine blk_drew ?_ | refine blk_alloc ?_ _)); refine blk_put (cs := #[.int .i64 0, .slice none 0 0, .slice none 0 0]) ?_ 0 _ rfl; (with_reducible repeat (first | refine blk_drewN ?_ _ | refine blk_drew ?_ | refine blk_alloc ?_ _)); exact BK827.out⟩, ⟨hb_⟩⟩
 case rest =>
  clear HC4
  try clear c1
  try clear p2
  try clear c4
  try clear c6
  try clear c7
  try clear c11
  try clear c12
  try clear c16
  try clear c16b0
  try clear c16b1
  try clear c18
  try clear c19
  try clear hcz13_0
  try clear hcz13_1
  try clear hcz13_2
  try clear hcz20_0
  try clear hcz20_1
  try clear hcz20_2
  try clear hcz8_0
  try clear hcz8_1
  try clear hfz13_0
  try clear hfz13_1
  try clear hfz13_2
  try clear hfz20_0
  try clear hfz20_1
  try clear hfz20_2
  try clear hfz8_0
  try clear hfz8_1
  obtain ⟨kq, x24_3, rfl, HA, HJ3, HO_828001, HO_828002, BK817, BK818, BK827, HB⟩ := hcut
  cases kq with
  | zero => exact absurd HA.out (by simp [spec_PivotedProblem.j0])
  | succ kj3 =>
   have H := HA.out
   clear HA
   simp only [spec_PivotedProblem.j0] at H
   have HC22 := Aside0.mk H
   clear H
   go_upto_if 24 with (fail)
   go_cut [7] (fun v7 wc => ∃ (kq : Nat) (x7_21 : Int), v7 = .int .i64 x7_21 ∧ Aside0 (spec_PivotedProblem.j1 kq x7_21 t819 t820 t823 = some (r1, r2, r3)) ∧ Aside0 (kq ≤ kj3) ∧ Aside0 (Kd.S (Kd.slice 2 (Kd.int .i64)) 23 wc w.heap.size (fun k_ => some k_ ≠ ((.slice Ao15 t823.length co15) : Value).ownBlock) (.slice Ao14 t820.length co14) t820) ∧ Aside0 (Kd.R (Kd.int .i64) 2 wc w.heap.size (fun _ => True) (.slice Ao15 t823.length co15) t823) ∧ Aside0 (wc.heap[gb817]? = some (.cells #[(.slice A0_0 l0_0.length c0_0), (.slice A0_1 l0_1.length c0_1)] 29 (0, 0))) ∧ Aside0 (wc.heap[gb818]? = some (.cells #[(.slice none 0 0), (.slice none 0 0)] 29 (0, 0))) ∧ Aside0 (wc.heap[gb827]? = some (.cells #[.int .i64 t819, (.slice Ao14 t820.length co14), (.slice Ao15 t823.length co15)] 75 (0, 0))) ∧ Aside0 (Below w.heap.size w wc))
   case first =>
    have H := HC22.out
    clear HC22
    by_cases c23 : x24_3 = true
    ·subst c23
     have H1 : (spec_PivotedProblem.j1 kj3 5 t819 t820 t823) = some (r1, r2, r3) := by rw [if_pos rfl] at H; exact H
     clear H
     have H := H1
     clear H1
     have H' := Aside0.mk H
     clear H
     go_wp2
     go_meet
     case rel => exact ⟨_, (5), (by first | rfl | (simp; done) | (simp [*]; done)), H', ⟨by have := HJ3.out; first | omega | exact Nat.le_refl _⟩, ⟨so_ HO_828001.out⟩, ⟨ro_ HO_828002.out⟩, ⟨bk_⟩, ⟨bk_⟩, ⟨bk_⟩, ⟨hb_⟩⟩
    ·replace c23 := Bool.eq_false_iff.mpr c23
     subst c23
     have H1 : (spec_PivotedProblem.j1 kj3 t826 t819 t820 t823) = some (r1, r2, r3) := by rw [if_neg (show ¬ (false = true) by decide)] at H; exact H
     clear H
     have H := H1
     clear H1
     have H' := Aside0.mk H
     clear H
     go_wp2
     go_meet
     case rel => exact ⟨_, (t826), (by first | rfl | (simp; done) | (simp [*]; done)), H', ⟨by have := HJ3.out; first | omega | exact Nat.le_refl _⟩, ⟨so_ HO_828001.out⟩, ⟨ro_ HO_828002.out⟩, ⟨bk_⟩, ⟨bk_⟩, ⟨bk_⟩, ⟨hb_⟩⟩
   case rest =>
    clear HC22
    try clear c1
    try clear c2
    try clear p2
    try clear c4
    try clear c6
    try clear c7
    try clear c11
    try clear c12
    try clear c16
    try clear c16b0
    try clear c16b1
    try clear c18
    try clear c19
    try clear c23
    try clear hcz13_0
    try clear hcz13_1
    try clear hcz13_2
    try clear hcz20_0
    try clear hcz20_1
    try clear hcz20_2
    try clear hcz8_0
    try clear hcz8_1
    try clear hfz13_0
    try clear hfz13_1
    try clear hfz13_2
    try clear hfz20_0
    try clear hfz20_1
    try clear hfz20_2
    try clear hfz8_0
    try clear hfz8_1
    try clear p2
    obtain ⟨kq, x7_21, rfl, HA, HJ21, HO_828001, HO_828002, BK817, BK818, BK827, HB⟩ := hcut
    cases kq with
    | zero => exact absurd HA.out (by simp [spec_PivotedProblem.j1])
    | succ kj21 =>
     have H := HA.out
     clear HA
     simp only [spec_PivotedProblem.j1] at H
     by_cases c24 : x7_21 = 0
     ·rw [if_pos c24] at H
      have c24b0 : (x7_21 == 0) = true := beq_iff_eq.mpr c24
      have c24b1 : (x7_21 != 0) = false := bne_eq_false_iff_eq.mpr c24
      clear c24
      obtain ⟨y829, hy829⟩ : ∃ y_ : List (List Int), y_ = (([] : List (List Int))) := ⟨_, rfl⟩
      replace H : (spec_PivotedProblem.l0 kj21 0 t819 t820 t823 y829 (([] : List Int))) = some (r1, r2, r3) := by first | (rw [hy829]; with_reducible exact H) | (have H2_ := (Option.bind_some _ _).symm.trans H; rw [hy829]; with_reducible exact H2_) | (have H2_ := (Option.bind_some _ _).symm.trans H; with_reducible exact H2_) | with_reducible exact H | (rw [hy829]; exact H) | exact H
      have Ny829 := Aside0.mk hy829
      clear hy829
      obtain ⟨y832, hy832⟩ : ∃ y_ : List Int, y_ = (([] : List Int)) := ⟨_, rfl⟩
      replace H : (spec_PivotedProblem.l0 kj21 0 t819 t820 t823 y829 y832) = some (r1, r2, r3) := by first | (rw [hy832]; with_reducible exact H) | (have H2_ := (Option.bind_some _ _).symm.trans H; rw [hy832]; with_reducible exact H2_) | (have H2_ := (Option.bind_some _ _).symm.trans H; with_reducible exact H2_) | with_reducible exact H | (rw [hy832]; exact H) | exact H
      have Ny832 := Aside0.mk hy832
      clear hy832
      have H' := Aside0.mk H
      clear H
      go_wp2_with (first | ((with_reducible refine gate_dst (N := 29) rfl ?_); refine Kd.S_lit (Kd.slice 2 (Kd.int .i64)) _ 23 ?hg (N := 29) ?hd (xs := ([] : List (List Int))) (inner := []) (ok := fun _ => True) (okp := fun _ => True) ?hr ?hp (fun _ hk => hk) trivial (Below.refl _ _) (Nat.le_refl _) (by simp) ?_; (case hd => rfl); (case hg => rfl); (case hr => first | (go_simp; done) | (go_simp; rfl)); (case hp => exact (Reps.none _ _)); intro v830 w25 ho26 hb hg_ hnew_; clear hg_ hnew_; (first | rw [← Ny829.out] at ho26 | (simp only [Int.reduceToNat] at ho26; rw [← Ny829.out] at ho26)); have n0_ := Aside0.mk (Kd.S_elder' (so_ HO_828001.out) (Kd.S_base ho26) hb); have n1_ := Aside0.mk (rb_ HO_828002.out hb); have n2_ := Aside0.mk (Kd.S_lower (Kd.S_new' (Kd.S_new' ho26 (Kd.S_lt (so_ HO_828001.out))) (Kd.R_lt (ro_ HO_828002.out))) bz_); have n3_ := Aside0.mk (bb_ BK817.out hb); have n4_ := Aside0.mk (bb_ BK818.out hb); have n5_ := Aside0.mk (bb_ BK827.out hb); have n6_ := Aside0.mk (bs_ hb); clear HO_828001; clear HO_828002; clear BK817; clear BK818; clear BK827; clear HB; have HO_828001 := n0_; have HO_828002 := n1_; have HO831 := n2_; have BK817 := n3_; have BK818 := n4_; have BK827 := n5_; have HB := n6_; clear n0_ n1_ n2_ n3_ n4_ n5_ n6_; clear hb ho26) | ((with_reducible refine gate_dst (N := 30) rfl ?_); refine Kd.R_lit (Kd.int .i64) _ 2 ?hg (N := 30) ?hd (xs := ([] : List Int)) (inner := []) (ok := fun _ => True) (okp := fun _ => True) ?hr ?hp (fun _ hk => hk) trivial (Below.refl _ _) (Nat.le_refl _) (by simp) ?_; (case hd => rfl); (case hg => rfl); (case hr => first | (go_simp; done) | (go_simp; rfl)); (case hp => exact (Reps.none _ _)); intro v833 w27 ho28 hb hg_ hnew_; clear hg_ hnew_; (first | rw [← Ny832.out] at ho28 | (simp only [Int.reduceToNat] at ho28; rw [← Ny832.out] at ho28)); have n0_ := Aside0.mk (Kd.S_elder' (so_ HO_828001.out) (Kd.R_base ho28) hb); have n1_ := Aside0.mk (Kd.R_elder' (ro_ HO_828002.out) (Kd.R_base ho28) hb); have n2_ := Aside0.mk (Kd.S_elder' (so_ HO831.out) (Kd.R_base ho28) hb); have n3_ := Aside0.mk (Kd.R_lower (Kd.R_new' ho28 (Kd.R_lt (ro_ HO_828002.out))) bz_); have n4_ := Aside0.mk (bb_ BK817.out hb); have n5_ := Aside0.mk (bb_ BK818.out hb); have n6_ := Aside0.mk (bb_ BK827.out hb); have n7_ := Aside0.mk (bs_ hb); clear HO_828001; clear HO_828002; clear HO831; clear BK817; clear BK818; clear BK827; clear HB; have HO_828001 := n0_; have HO_828002 := n1_; have HO831 := n2_; have HO834 := n3_; have BK817 := n4_; have BK818 := n5_; have BK827 := n6_; have HB := n7_; clear n0_ n1_ n2_ n3_ n4_ n5_ n6_ n7_; clear hb ho28; obtain ⟨Ao29, co29, eo29⟩ := Kd.R_slice HO834.out; subst eo29; obtain ⟨Ao30, co30, eo30⟩ := Kd.S_slice HO831.out; subst eo30) | ((with_reducible refine gate_dst (N := 8) rfl ?_); refine box_event ?hg (N := 8) ?hd (cs := #[.slice none 0 0, .slice none 0 0]) (t := 29) ?hr ?_; (case hd => rfl); (case hg => rfl); (case hr => first | (go_simp; done) | (go_simp; rfl)); intro gb835 hg w31 hbox hb; have n0_ := Aside0.mk (Kd.S_below (so_ HO_828001.out) hb); have n1_ := Aside0.mk (rb_ HO_828002.out hb); have n2_ := Aside0.mk (Kd.S_below (so_ HO831.out) hb); have n3_ := Aside0.mk (rb_ HO834.out hb); have n4_ := Aside0.mk (bb_ BK817.out hb); have n5_ := Aside0.mk (bb_ BK818.out hb); have n6_ := Aside0.mk (bb_ BK827.out hb); have n7_ := Aside0.mk (bs_ hb); have n8_ := Aside0.mk (hbox); have n9_ := Aside0.mk ((by rw [hg]; exact bz_ : w.heap.size ≤ gb835)); have n10_ := Aside0.mk ((by rw [hg]; exact bz_ : w.heap.size ≤ gb835)); have n11_ := Aside0.mk ((by rw [hg]; exact lt_ BK817.out : gb817 ≠ gb835)); have n12_ := Aside0.mk ((by rw [hg]; exact gt_ BK817.out : gb835 ≠ gb817)); have n13_ := Aside0.mk ((by rw [hg]; exact lt_ BK818.out : gb818 ≠ gb835)); have n14_ := Aside0.mk ((by rw [hg]; exact gt_ BK818.out : gb835 ≠ gb818)); have n15_ := Aside0.mk ((by rw [hg]; exact lt_ BK827.out : gb827 ≠ gb835)); have n16_ := Aside0.mk ((by rw [hg]; exact gt_ BK827.out : gb835 ≠ gb827)); clear HO_828001; clear HO_828002; clear HO831; clear HO834; clear BK817; clear BK818; clear BK827; clear HB; have HO_828001 := n0_; have HO_828002 := n1_; have HO831 := n2_; have HO834 := n3_; have BK817 := n4_; have BK818 := n5_; have BK827 := n6_; have HB := n7_; have BK835 := n8_; have GW835 := n9_; have GE835 := n10_; have NB817_835 := n11_; have NB835_817 := n12_; have NB818_835 := n13_; have NB835_818 := n14_; have NB827_835 := n15_; have NB835_827 := n16_; clear n0_ n1_ n2_ n3_ n4_ n5_ n6_ n7_ n8_ n9_ n10_ n11_ n12_ n13_ n14_ n15_ n16_; clear hb hbox hg; have hnb32 := NB835_817.out; have hnc32 := NB817_835.out; have hnb33 := NB835_818.out; have hnc33 := NB818_835.out; have hnb34 := NB835_827.out; have hnc34 := NB827_835.out; have hcz35_0 : w31.cell? ⟨gb835, 0, none⟩ = some (.slice none 0 0) := (blk_cell BK835.out 0).trans rfl; have hcz35_1 : w31.cell? ⟨gb835, 1, none⟩ = some (.slice none 0 0) := (blk_cell BK835.out 1).trans rfl; have hfz35_0 := blk_frozen BK835.out 0; have hfz35_1 := blk_frozen BK835.out 1))
      go_loopg [9] kj21 (fun kq v9 w' => ∃ (x9_3 : Int) (x836000_3 : List (List Int)) (x836001_3 : List Int) (u836000 : Value) (u836001 : Value), v9 = .int .i64 x9_3 ∧ Aside0 (spec_PivotedProblem.l0 kq x9_3 t819 t820 t823 x836000_3 x836001_3 = some (r1, r2, r3)) ∧ Aside0 (kq ≤ kj21) ∧ Aside0 (Kd.S (Kd.slice 2 (Kd.int .i64)) 23 w' w.heap.size (fun k_ => some k_ ≠ ((.slice Ao15 t823.length co15) : Value).ownBlock ∧ some k_ ≠ (u836000 : Value).ownBlock ∧ some k_ ≠ (u836001 : Value).ownBlock) (.slice Ao14 t820.length co14) t820) ∧ Aside0 (Kd.R (Kd.int .i64) 2 w' w.heap.size (fun k_ => some k_ ≠ (u836001 : Value).ownBlock) (.slice Ao15 t823.length co15) t823) ∧ Aside0 (Kd.S (Kd.slice 2 (Kd.int .i64)) 23 w' w.heap.size (fun k_ => some k_ ≠ ((.slice Ao14 t820.length co14) : Value).ownBlock ∧ some k_ ≠ ((.slice Ao15 t823.length co15) : Value).ownBlock ∧ some k_ ≠ (u836001 : Value).ownBlock) u836000 x836000_3) ∧ Aside0 (Kd.R (Kd.int .i64) 2 w' w.heap.size (fun k_ => some k_ ≠ ((.slice Ao15 t823.length co15) : Value).ownBlock) u836001 x836001_3) ∧ Aside0 (w'.heap[gb817]? = some (.cells #[(.slice A0_0 l0_0.length c0_0), (.slice A0_1 l0_1.length c0_1)] 29 (0, 0))) ∧ Aside0 (w'.heap[gb818]? = some (.cells #[(.slice none 0 0), (.slice none 0 0)] 29 (0, 0))) ∧ Aside0 (w'.heap[gb827]? = some (.cells #[.int .i64 t819, (.slice Ao14 t820.length co14), (.slice Ao15 t823.length co15)] 75 (0, 0))) ∧ Aside0 (w'.heap[gb835]? = some (.cells #[u836000, u836001] 29 (0, 0))) ∧ Aside0 (Below w.heap.size w w'))
      case atStart => exact ⟨(0), (y829), (y832), (.slice Ao30 y829.length co30), (.slice Ao29 y832.length co29), (by first | rfl | (simp; done) | (simp [*]; done)), H', ⟨Nat.le_refl _⟩, ⟨by (with_reducible repeat (first | apply Kd.S_alloc | apply Kd.S_drewN | apply Kd.S_drew)); exact Kd.S_mono (Kd.S_far (p := ⟨gb835, 1, none⟩) (Kd.S_far (p := ⟨gb835, 0, none⟩) (Kd.S_types HO_828001.out BK835.out (by decide)) (fun _ hk => hk.2) (.slice Ao30 y829.length co30)) (fun _ hk => hk.2) (.slice Ao29 y832.length co29)) (fun _ hk => ⟨hk.1.1.1, ⟨hk.1.1.2, hk.1.2⟩⟩)⟩, ⟨by (with_reducible repeat (first | apply Kd.R_alloc | apply Kd.R_drewN | apply Kd.R_drew)); exact Kd.R_mono (Kd.R_far (p := ⟨gb835, 1, none⟩) (Kd.R_far (p := ⟨gb835, 0, none⟩) (Kd.R_types HO_828002.out BK835.out (by decide)) (fun _ hk => hk.2) (.slice Ao30 y829.length co30)) (fun _ hk => hk.2) (.slice Ao29 y832.length co29)) (fun _ hk => hk.1.2)⟩, ⟨by (with_reducible repeat (first | apply Kd.S_alloc | apply Kd.S_drewN | apply Kd.S_drew)); exact Kd.S_mono (Kd.S_far (p := ⟨gb835, 1, none⟩) (Kd.S_far (p := ⟨gb835, 0, none⟩) (Kd.S_types HO831.out BK835.out (by decide)) (fun _ hk => hk.2) (.slice Ao30 y829.length co30)) (fun _ hk => hk.2) (.slice Ao29 y832.length co29)) (fun _ hk => ⟨hk.1.1.1.2, ⟨hk.1.1.2, hk.1.2⟩⟩)⟩, ⟨by (with_reducible repeat (first | apply Kd.R_alloc | apply Kd.R_drewN | apply Kd.R_drew)); exact Kd.R_mono (Kd.R_far (p := ⟨gb835, 1, none⟩) (Kd.R_far (p := ⟨gb835, 0, none⟩) (Kd.R_types HO834.out BK835.out (by decide)) (fun _ hk => hk.2) (.slice Ao30 y829.length co30)) (fun _ hk => hk.2) (.slice Ao29 y832.length co29)) (fun _ hk => hk.1.2)⟩, ⟨by (with_reducible repeat (first | refine blk_drewN ?_ _ | refine blk_drew ?_ | refine blk_alloc ?_ _)); refine blk_far ?_ NB817_835.out _; (with_reducible repeat (first | refine blk_drewN ?_ _ | refine blk_drew ?_ | refine blk_alloc ?_ _)); refine blk_far ?_ NB817_835.out _; (with_reducible repeat (first | refine blk_drewN ?_ _ | refine blk_drew ?_ | refine blk_alloc ?_ _)); exact BK817.out⟩, ⟨by (with_reducible repeat (first | refine blk_drewN ?_ _ | refine blk_drew ?_ | refine blk_alloc ?_ _)); refine blk_far ?_ NB818_835.out _; (with_reducible repeat (first | refine blk_drewN ?_ _ | refine blk_drew ?_ | refine blk_alloc ?_ _)); refine blk_far ?_ NB818_835.out _; (with_reducible repeat (first | refine blk_drewN ?_ _ | refine blk_drew ?_ | refine blk_alloc ?_ _)); exact BK818.out⟩, ⟨by (with_reducible repeat (first | refine blk_drewN ?_ _ | refine blk_drew ?_ | refine blk_alloc ?_ _)); refine blk_far ?_ NB827_835.out _; (with_reducible repeat (first | refine blk_drewN ?_ _ | refine blk_drew ?_ | refine blk_alloc ?_ _)); refine blk_far ?_ NB827_835.out _; (with_reducible repeat (first | refine blk_drewN ?_ _ | refine blk_drew ?_ | refine blk_alloc ?_ _)); exact BK827.out⟩, ⟨by (with_reducible repeat (first | refine blk_drewN ?_ _ | refine blk_drew ?_ | refine blk_alloc ?_ _)); refine blk_put (cs := #[.slice Ao30 y829.length co30, .slice none 0 0]) ?_ 1 _ rfl; (with_reducible repeat (first | refine blk_drewN ?_ _ | refine blk_drew ?_ | refine blk_alloc ?_ _)); refine blk_put (cs := #[.slice none 0 0, .slice none 0 0]) ?_ 0 _ rfl; (with_reducible repeat (first | refine blk_drewN ?_ _ | refine blk_drew ?_ | refine blk_alloc ?_ _)); exact BK835.out⟩, ⟨hb_⟩⟩
      case round =>
       clear H'
       try clear c1
       try clear c2
       try clear p2
       try clear c3
       try clear c4
       try clear c6
       try clear c7
       try clear c11
       try clear c12
       try clear c16
       try clear c16b0
       try clear c16b1
       try clear c18
       try clear c19
       try clear c23
       try clear c24
       try clear c24b0
       try clear c24b1
       try clear c32
       try clear c33
       try clear c34
       try clear hcz13_0
       try clear hcz13_1
       try clear hcz13_2
       try clear hcz20_0
       try clear hcz20_1
       try clear hcz20_2
       try clear hcz35_0
       try clear hcz35_1
       try clear hcz8_0
       try clear hcz8_1
       try clear hfz13_0
       try clear hfz13_1
       try clear hfz13_2
       try clear hfz20_0
       try clear hfz20_1
       try clear hfz20_2
       try clear hfz35_0
       try clear hfz35_1
       try clear hfz8_0
       try clear hfz8_1
       try clear p2
       obtain ⟨x9_3, x836000_3, x836001_3, u836000, u836001, rfl, HA, HK3, HO_828001, HO_828002, HO_836000, HO_836001, BK817, BK818, BK827, BK835, HB⟩ := hrel
       cases gk with
       | zero => exact absurd HA.out (by simp [spec_PivotedProblem.l0])
       | succ k3 =>
        have H := HA.out
        clear HA
        simp only [spec_PivotedProblem.l0] at H
        by_cases c36 : x9_3 < (t823.length : Int)
        ·rw [if_pos c36] at H
         have c36b0 : decide (x9_3 < (t823.length : Int)) = true := decide_eq_true c36
         clear c36
         obtain ⟨y837, hy837⟩ : ∃ y_ : List Int, y_ = (([] : List Int)) := ⟨_, rfl⟩
         replace H : (spec_PivotedProblem.l1 k3 x9_3 y837 0 t819 t820 t823 x836000_3 x836001_3) = some (r1, r2, r3) := by first | (rw [hy837]; with_reducible exact H) | (have H2_ := (Option.bind_some _ _).symm.trans H; rw [hy837]; with_reducible exact H2_) | (have H2_ := (Option.bind_some _ _).symm.trans H; with_reducible exact H2_) | with_reducible exact H | (rw [hy837]; exact H) | exact H
         have Ny837 := Aside0.mk hy837
         clear hy837
         have H' := Aside0.mk H
         clear H
         have hnb37 := NB827_817.out
         have hnc37 := NB817_827.out
         have hnb38 := NB827_818.out
         have hnc38 := NB818_827.out
         have hnb39 := NB827_835.out
         have hnc39 := NB835_827.out
         have hcz40_0 : wr.cell? ⟨gb827, 0, none⟩ = some (.int .i64 t819) := (blk_cell BK827.out 0).trans rfl
         have hcz40_1 : wr.cell? ⟨gb827, 1, none⟩ = some (.slice Ao14 t820.length co14) := (blk_cell BK827.out 1).trans rfl
         have hcz40_2 : wr.cell? ⟨gb827, 2, none⟩ = some (.slice Ao15 t823.length co15) := (blk_cell BK827.out 2).trans rfl
         have hfz40_0 := blk_frozen BK827.out 0
         have hfz40_1 := blk_frozen BK827.out 1
         have hfz40_2 := blk_frozen BK827.out 2
         go_wp2_with (first | ((with_reducible refine gate_dst (N := 39) rfl ?_); refine Kd.R_lit (Kd.int .i64) _ 2 ?hg (N := 39) ?hd (xs := ([] : List Int)) (inner := []) (ok := fun _ => True) (okp := fun _ => True) ?hr ?hp (fun _ hk => hk) trivial (Below.refl _ _) (Nat.le_refl _) (by simp) ?_; (case hd => rfl); (case hg => rfl); (case hr => first | (go_simp; done) | (go_simp; rfl)); (case hp => exact (Reps.none _ _)); intro v838 w41 ho42 hb hg_ hnew_; clear hg_ hnew_; (first | rw [← Ny837.out] at ho42 | (simp only [Int.reduceToNat] at ho42; rw [← Ny837.out] at ho42)); have n0_ := Aside0.mk (Kd.S_elder' (so_ HO_828001.out) (Kd.R_base ho42) hb); have n1_ := Aside0.mk (Kd.R_elder' (ro_ HO_828002.out) (Kd.R_base ho42) hb); have n2_ := Aside0.mk (Kd.S_elder' (so_ HO_836000.out) (Kd.R_base ho42) hb); have n3_ := Aside0.mk (Kd.R_elder' (ro_ HO_836001.out) (Kd.R_base ho42) hb); have n4_ := Aside0.mk (Kd.R_lower (Kd.R_new' (Kd.R_new' ho42 (Kd.R_lt (ro_ HO_828002.out))) (Kd.R_lt (ro_ HO_836001.out))) bz_); have n5_ := Aside0.mk (bb_ BK817.out hb); have n6_ := Aside0.mk (bb_ BK818.out hb); have n7_ := Aside0.mk (bb_ BK827.out hb); have n8_ := Aside0.mk (bb_ BK835.out hb); have n9_ := Aside0.mk (bs_ hb); clear HO_828001; clear HO_828002; clear HO_836000; clear HO_836001; clear BK817; clear BK818; clear BK827; clear BK835; clear HB; have HO_828001 := n0_; have HO_828002 := n1_; have HO_836000 := n2_; have HO_836001 := n3_; have HO839 := n4_; have BK817 := n5_; have BK818 := n6_; have BK827 := n7_; have BK835 := n8_; have HB := n9_; clear n0_ n1_ n2_ n3_ n4_ n5_ n6_ n7_ n8_ n9_; clear hb ho42))
         go_loopg [10, 11] k3 (fun kq v10 v11 w' => ∃ (x10_4 : List Int) (x11_4 : Int), v11 = .int .i64 x11_4 ∧ Aside0 (spec_PivotedProblem.l1 kq x9_3 x10_4 x11_4 t819 t820 t823 x836000_3 x836001_3 = some (r1, r2, r3)) ∧ Aside0 (kq ≤ k3) ∧ Aside0 (Kd.R (Kd.int .i64) 2 w' w.heap.size (fun k_ => some k_ ≠ ((.slice Ao15 t823.length co15) : Value).ownBlock ∧ some k_ ≠ (u836001 : Value).ownBlock) v10 x10_4) ∧ Aside0 (Kd.S (Kd.slice 2 (Kd.int .i64)) 23 w' w.heap.size (fun k_ => some k_ ≠ (v10 : Value).ownBlock ∧ some k_ ≠ ((.slice Ao15 t823.length co15) : Value).ownBlock ∧ some k_ ≠ (u836000 : Value).ownBlock ∧ some k_ ≠ (u836001 : Value).ownBlock) (.slice Ao14 t820.length co14) t820) ∧ Aside0 (Kd.R (Kd.int .i64) 2 w' w.heap.size (fun k_ => some k_ ≠ (v10 : Value).ownBlock ∧ some k_ ≠ (u836001 : Value).ownBlock) (.slice Ao15 t823.length co15) t823) ∧ Aside0 (Kd.S (Kd.slice 2 (Kd.int .i64)) 23 w' w.heap.size (fun k_ => some k_ ≠ (v10 : Value).ownBlock ∧ some k_ ≠ ((.slice Ao14 t820.length co14) : Value).ownBlock ∧ some k_ ≠ ((.slice Ao15 t823.length co15) : Value).ownBlock ∧ some k_ ≠ (u836001 : Value).ownBlock) u836000 x836000_3) ∧ Aside0 (Kd.R (Kd.int .i64) 2 w' w.heap.size (fun k_ => some k_ ≠ (v10 : Value).ownBlock ∧ some k_ ≠ ((.slice Ao15 t823.length co15) : Value).ownBlock) u836001 x836001_3) ∧ Aside0 (w'.heap[gb817]? = some (.cells #[(.slice A0_0 l0_0.length c0_0), (.slice A0_1 l0_1.length c0_1)] 29 (0, 0))) ∧ Aside0 (w'.heap[gb818]? = some (.cells #[(.slice none 0 0), (.slice none 0 0)] 29 (0, 0))) ∧ Aside0 (w'.heap[gb827]? = some (.cells #[.int .i64 t819, (.slice Ao14 t820.length co14), (.slice Ao15 t823.length co15)] 75 (0, 0))) ∧ Aside0 (w'.heap[gb835]? = some (.cells #[u836000, u836001] 29 (0, 0))) ∧ Aside0 (Below w.heap.size w w'))
         case atStart => exact ⟨(y837), (0), (by first | rfl | (simp; done) | (simp [*]; done)), H', ⟨Nat.le_refl _⟩, ⟨by (with_reducible repeat (first | apply Kd.R_alloc | apply Kd.R_drewN | apply Kd.R_drew)); exact Kd.R_mono HO839.out (fun _ hk => ⟨hk.1.2, hk.2⟩)⟩, ⟨by (with_reducible repeat (first | apply Kd.S_alloc | apply Kd.S_drewN | apply Kd.S_drew)); exact Kd.S_mono HO_828001.out (fun _ hk => ⟨hk.2, ⟨hk.1.1, ⟨hk.1.2.1, hk.1.2.2⟩⟩⟩)⟩, ⟨by (with_reducible repeat (first | apply Kd.R_alloc | apply Kd.R_drewN | apply Kd.R_drew)); exact Kd.R_mono HO_828002.out (fun _ hk => ⟨hk.2, hk.1⟩)⟩, ⟨by (with_reducible repeat (first | apply Kd.S_alloc | apply Kd.S_drewN | apply Kd.S_drew)); exact Kd.S_mono HO_836000.out (fun _ hk => ⟨hk.2, ⟨hk.1.1, ⟨hk.1.2.1, hk.1.2.2⟩⟩⟩)⟩, ⟨by (with_reducible repeat (first | apply Kd.R_alloc | apply Kd.R_drewN | apply Kd.R_drew)); exact Kd.R_mono HO_836001.out (fun _ hk => ⟨hk.2, hk.1⟩)⟩, ⟨bk_⟩, ⟨bk_⟩, ⟨bk_⟩, ⟨bk_⟩, ⟨hb_⟩⟩
         case round =>
          clear H'
          try clear c1
          try clear c2
          try clear p2
          try clear c3
          try clear c4
          try clear c6
          try clear c7
          try clear c11
          try clear c12
          try clear c16
          try clear c16b0
          try clear c16b1
          try clear c18
          try clear c19
          try clear c23
          try clear c24
          try clear c24b0
          try clear c24b1
          try clear c32
          try clear c33
          try clear c34
          try clear c36
          try clear c36b0
          try clear c37
          try clear c38
          try clear c39
          try clear c40
          try clear hcz13_0
          try clear hcz13_1
          try clear hcz13_2
          try clear hcz20_0
          try clear hcz20_1
          try clear hcz20_2
          try clear hcz35_0
          try clear hcz35_1
          try clear hcz40_0
          try clear hcz40_1
          try clear hcz40_2
          try clear hcz8_0
          try clear hcz8_1
          try clear hfz13_0
          try clear hfz13_1
          try clear hfz13_2
          try clear hfz20_0
          try clear hfz20_1
          try clear hfz20_2
          try clear hfz35_0
          try clear hfz35_1
          try clear hfz40_0
          try clear hfz40_1
          try clear hfz40_2
          try clear hfz8_0
          try clear hfz8_1
          try clear p2
          obtain ⟨x10_4, x11_4, rfl, HA, HK4, HO_10, HO_828001, HO_828002, HO_836000, HO_836001, BK817, BK818, BK827, BK835, HB⟩ := hrel
          cases gk with
          | zero => exact absurd HA.out (by simp [spec_PivotedProblem.l1])
          | succ k4 =>
           have H := HA.out
           clear HA
           simp only [spec_PivotedProblem.l1] at H
           by_cases c43 : x11_4 < (t823.length : Int)
           ·rw [if_pos c43] at H
            have c43b0 : decide (x11_4 < (t823.length : Int)) = true := decide_eq_true c43
            clear c43
            by_cases c44 : 0 ≤ x9_3
            ·rw [if_pos c44] at H
             have c44b0 : decide (0 ≤ x9_3) = true := decide_eq_true c44
             clear c44
             by_cases c45 : x9_3 < (t820.length : Int)
             ·rw [if_pos c45] at H
              have c45b0 : decide (x9_3 < (t820.length : Int)) = true := decide_eq_true c45
              clear c45
              by_cases c46 : 0 ≤ x11_4
              ·rw [if_pos c46] at H
               have c46b0 : decide (0 ≤ x11_4) = true := decide_eq_true c46
               clear c46
               by_cases c47 : x11_4 < ((rd_L1 t820 x9_3).length : Int)
               ·rw [if_pos c47] at H
                have c47b0 : decide (x11_4 < ((rd_L1 t820 x9_3).length : Int)) = true := decide_eq_true c47
                clear c47
                by_cases c48 : t819 = 0
                ·rw [if_pos c48] at H
                 exact absurd H (by simp)
                ·rw [if_neg c48] at H
                 have c48b0 : (t819 == 0) = false := beq_eq_false_iff_ne.mpr c48
                 have c48b1 : (t819 != 0) = true := bne_iff_ne.mpr c48
                 by_cases c49 : x10_4.length < 17592186044416
                 ·rw [if_pos c49] at H
                  have LMc49 := Aside0.mk c49
                  clear c49
                  obtain ⟨y842, hy842⟩ : ∃ y_ : List Int, y_ = (x10_4 ++ [wrap64 (Int.tdiv (rd (rd_L1 t820 x9_3) x11_4) t819)]) := ⟨_, rfl⟩
                  replace H : (spec_PivotedProblem.l1 k4 x9_3 y842 (wrap64 (x11_4 + 1)) t819 t820 t823 x836000_3 x836001_3) = some (r1, r2, r3) := by first | (rw [hy842]; with_reducible exact H) | (have H2_ := (Option.bind_some _ _).symm.trans H; rw [hy842]; with_reducible exact H2_) | (have H2_ := (Option.bind_some _ _).symm.trans H; with_reducible exact H2_) | with_reducible exact H | (rw [hy842]; exact H) | exact H
                  have Ny842 := Aside0.mk hy842
                  clear hy842
                  have H' := Aside0.mk H
                  clear H
                  have hnb50 := NB827_817.out
                  have hnc50 := NB817_827.out
                  have hnb51 := NB827_818.out
                  have hnc51 := NB818_827.out
                  have hnb52 := NB827_835.out
                  have hnc52 := NB835_827.out
                  have hcz53_0 : wr.cell? ⟨gb827, 0, none⟩ = some (.int .i64 t819) := (blk_cell BK827.out 0).trans rfl
                  have hcz53_1 : wr.cell? ⟨gb827, 1, none⟩ = some (.slice Ao14 t820.length co14) := (blk_cell BK827.out 1).trans rfl
                  have hcz53_2 : wr.cell? ⟨gb827, 2, none⟩ = some (.slice Ao15 t823.length co15) := (blk_cell BK827.out 2).trans rfl
                  have hfz53_0 := blk_frozen BK827.out 0
                  have hfz53_1 := blk_frozen BK827.out 1
                  have hfz53_2 := blk_frozen BK827.out 2
                  try go_wp2
                  have n0_ := Aside0.mk (Kd.R_drew HO_10.out)
                  have n1_ := Aside0.mk (Kd.S_drew HO_828001.out)
                  have n2_ := Aside0.mk (Kd.R_drew HO_828002.out)
                  have n3_ := Aside0.mk (Kd.S_drew HO_836000.out)
                  have n4_ := Aside0.mk (Kd.R_drew HO_836001.out)
                  have n5_ := Aside0.mk (blk_drew BK817.out)
                  have n6_ := Aside0.mk (blk_drew BK818.out)
                  have n7_ := Aside0.mk (blk_drew BK827.out)
                  have n8_ := Aside0.mk (blk_drew BK835.out)
                  have n9_ := Aside0.mk (below_drew1 HB.out)
                  clear HO_10
                  clear HO_828001
                  clear HO_828002
                  clear HO_836000
                  clear HO_836001
                  clear BK817
                  clear BK818
                  clear BK827
                  clear BK835
                  clear HB
                  have HO_10 := n0_
                  have HO_828001 := n1_
                  have HO_828002 := n2_
                  have HO_836000 := n3_
                  have HO_836001 := n4_
                  have BK817 := n5_
                  have BK818 := n6_
                  have BK827 := n7_
                  have BK835 := n8_
                  have HB := n9_
                  clear n0_ n1_ n2_ n3_ n4_ n5_ n6_ n7_ n8_ n9_
                  have p840 : 0 ≤ (x9_3 : Int) := of_decide_eq_true (by first | (with_reducible assumption) | assumption)
                  have q840 : x9_3 < (t820.length : Int) := of_decide_eq_true (by first | (with_reducible assumption) | assumption)
                  obtain ⟨ad840, A840_0, c840_0, e840, hx840_0, hl840_0, hi840_0⟩ := at_L1 (Kd.S_reads' HO_828001.out).2.2 x9_3 p840 q840
                  cases e840
                  obtain ⟨ce840, hce840, hMe840, hcc840⟩ := Kd.S_get HO_828001.out [] x9_3 p840 (by first | exact q840 | exact of_decide_eq_true (by first | (with_reducible assumption) | assumption) | (have e_ := (Kd.S_reads' HO_828001.out).1; omega))
                  obtain ⟨ve840_0, rfl, ge840_0⟩ := hMe840
                  have hv840_0 := hcc840 0 _ rfl
                  rw [Nat.add_zero, show ((Kd.slice 2 (Kd.int .i64))).sz = 1 from rfl, Nat.mul_one] at hv840_0
                  replace hv840_0 := Option.some.inj (hv840_0.symm.trans hx840_0)
                  rw [hv840_0] at ge840_0
                  have HL840_0 := Aside0.mk (show Kd.R (Kd.int .i64) 2 _ _ _ _ (rd_L1 t820 x9_3) from ge840_0)
                  clear hv840_0 ge840_0
                  clear hcc840 hce840
                  have HR840_0 := Aside0.mk hi840_0
                  have HC840_0 := Aside0.mk hl840_0
                  clear hi840_0 hl840_0
                  replace p840 := eq_true p840
                  replace q840 := eq_true q840
                  have p841 : 0 ≤ (x11_4 : Int) := of_decide_eq_true (by first | (with_reducible assumption) | assumption)
                  have q841 : x11_4 < ((rd_L1 t820 x9_3).length : Int) := of_decide_eq_true (by first | (with_reducible assumption) | assumption)
                  obtain ⟨ad841, e841, hx841_0⟩ := Kd.at_int (by repeat (first | (with_reducible exact HR840_0.out) | (with_reducible refine Kd.C_alloc ?_ _) | (with_reducible refine Kd.C_drewN ?_ _) | (with_reducible refine Kd.C_drew ?_) | exact HR840_0.out)) x11_4 p841 q841
                  cases e841
                  replace p841 := eq_true p841
                  replace q841 := eq_true q841
                  refine st_ (n := 15) (S := fun w' => w'.cell? ⟨gb827, 0, none⟩ = some (.int .i64 t819) ∧ w'.cell? ⟨gb827, 1, none⟩ = some (.slice (some ad840) t820.length co14) ∧ w'.cell? ⟨gb827, 2, none⟩ = some (.slice Ao15 t823.length co15) ∧ w'.cell? (ad840.add (x9_3).toNat) = some (.slice (some ad841) (rd_L1 t820 x9_3).length c840_0) ∧ w'.cell? (ad841.add (x11_4).toNat) = some (.int .i64 (rd (rd_L1 t820 x9_3) x11_4))) (ds := [12, 13]) ⟨(blk_cell BK827.out 0).trans rfl, (blk_cell BK827.out 1).trans rfl, (blk_cell BK827.out 2).trans rfl, hx840_0, hx841_0⟩ (fun hHeld => ?_); refine with_tabW spec_PivotedProblem.tab14 spec_PivotedProblem.bits14 (fun HT_ HW_ => ?_)
                  generalize wr.drew = w54 at HO_10 HO_828001 HO_828002 HO_836000 HO_836001 BK817 BK818 BK827 BK835 HB HL840_0 HR840_0 hx840_0 hx841_0 hHeld ⊢
                  refine pu_ 0 47 ?_; refine pu_ 1 48 ?_; refine pu_ 3 50 ?_; refine pu_ 6 53 ?_; refine pu_ 9 56 ?_; refine tk_ 2 49 ?_; refine pu_ 4 51 ?_; refine tk_ 5 52 ?_; refine pu_ 7 54 ?_; refine tk_ 8 55 ?_; refine tk_ 10 57 ?_; refine pu_ 11 58 ?_
                  refine la_ 12 (some 59) (fun K hK => ?_)
                  refine value_ (w1 := ?_) (v := ?_) (by rfl) rfl ?_ ?_
                  rotate_left 2
                  ·go_simp
                   constructor
                   ·rfl
                   ·rfl
                  refine hK.out _ _ ?_
                  clear hK K
                  refine norm_ (a' := ?_) ?_ ?_
                  rotate_left
                  ·show Act.put _ (some 59) _ = _
                   simp only [Act.put, List.setIfInBounds_toArray, List.set_cons_zero, List.set_cons_succ, i64_w, i32_w]
                   rfl
                  refine la_ 13 (some 60) (fun K hK => ?_)
                  refine Kd.R_append_step (Kd.int .i64) (w0 := w) w.heap.size (by rfl) (.tmp 47) (.tmp 59) 23 2 (.int .i64 0) 8 rfl Try.underlying23 info2 rfl (by decide) (by omega) u10 x10_4 (wrap64 (Int.tdiv (rd (rd_L1 t820 x9_3) x11_4) t819)) [.int .i64 (wrap64 (Int.tdiv (rd (rd_L1 t820 x9_3) x11_4) t819))] (fun k_ => some k_ ≠ (.slice Ao15 t823.length co15 : Value).ownBlock ∧ some k_ ≠ (u836001 : Value).ownBlock) (fun _ => False) rfl rfl ?aP (fun _ hk => hk.elim) ?aF ?aO ?aB ?aS ?aL ?_
                  (case aP => exact rfl)
                  (case aB => exact hb_)
                  (case aF => exact (fun k_ hk => ⟨Kd.fresh' (Kd.R_lt (ro_ HO_828002.out)) k_ hk, Kd.fresh' (Kd.R_lt (ro_ HO_836001.out)) k_ hk⟩))
                  (case aO => exact (ro_ HO_10.out))
                  (case aS => exact bz_)
                  (case aL => have := LMc49.out; omega)
                  intro v843 w55 ho hb hg hat
                  rw [← Ny842.out] at ho
                  have n0_ := Aside0.mk (Kd.S_after (ok := (fun k_ => some k_ ≠ (.slice Ao15 t823.length co15 : Value).ownBlock ∧ some k_ ≠ (u836000 : Value).ownBlock ∧ some k_ ≠ (u836001 : Value).ownBlock)) (by (with_reducible repeat (first | apply Kd.S_alloc | apply Kd.S_drewN | apply Kd.S_drew)); exact Kd.S_mono HO_828001.out (fun _ hk => ⟨⟨hk.2.1, ⟨hk.2.2.1, hk.2.2.2⟩⟩, hk.1⟩)) hg hat)
                  have n1_ := Aside0.mk (Kd.R_after (ok := (fun k_ => some k_ ≠ (u836001 : Value).ownBlock)) (by (with_reducible repeat (first | apply Kd.R_alloc | apply Kd.R_drewN | apply Kd.R_drew)); exact Kd.R_mono HO_828002.out (fun _ hk => ⟨hk.2, hk.1⟩)) hg hat)
                  have n2_ := Aside0.mk (Kd.S_after (ok := (fun k_ => some k_ ≠ (.slice (some ad840) t820.length co14 : Value).ownBlock ∧ some k_ ≠ (.slice Ao15 t823.length co15 : Value).ownBlock ∧ some k_ ≠ (u836001 : Value).ownBlock)) (by (with_reducible repeat (first | apply Kd.S_alloc | apply Kd.S_drewN | apply Kd.S_drew)); exact Kd.S_mono HO_836000.out (fun _ hk => ⟨⟨hk.2.1, ⟨hk.2.2.1, hk.2.2.2⟩⟩, hk.1⟩)) hg hat)
                  have n3_ := Aside0.mk (Kd.R_after (ok := (fun k_ => some k_ ≠ (.slice Ao15 t823.length co15 : Value).ownBlock)) (by (with_reducible repeat (first | apply Kd.R_alloc | apply Kd.R_drewN | apply Kd.R_drew)); exact Kd.R_mono HO_836001.out (fun _ hk => ⟨hk.2, hk.1⟩)) hg hat)
                  have n4_ := Aside0.mk (bg_ BK817.out hg (Kd.R_ne HO_10.out BK817.out (by decide)))
                  have n5_ := Aside0.mk (bg_ BK818.out hg (Kd.R_ne HO_10.out BK818.out (by decide)))
                  have n6_ := Aside0.mk (bg_ BK827.out hg (Kd.R_ne HO_10.out BK827.out (by decide)))
                  have n7_ := Aside0.mk (bg_ BK835.out hg (Kd.R_ne HO_10.out BK835.out (by decide)))
                  have n8_ := Aside0.mk (Kd.R_after (ok := (fun k_ => some k_ ≠ (.slice (some ad840) t820.length co14 : Value).ownBlock ∧ some k_ ≠ (.slice Ao15 t823.length co15 : Value).ownBlock ∧ some k_ ≠ (u836000 : Value).ownBlock ∧ some k_ ≠ (u836001 : Value).ownBlock)) (by (with_reducible repeat (first | apply Kd.R_alloc | apply Kd.R_drewN | apply Kd.R_drew)); exact Kd.R_mono HL840_0.out (fun _ hk => ⟨⟨hk.2, ⟨hk.1.2.1, ⟨hk.1.2.2.1, hk.1.2.2.2⟩⟩⟩, hk.1.1⟩)) hg hat)
                  have n9_ := Aside0.mk (hb)
                  have n10_ := Aside0.mk (ho)
                  clear HO_828001
                  clear HO_828002
                  clear HO_836000
                  clear HO_836001
                  clear BK817
                  clear BK818
                  clear BK827
                  clear BK835
                  clear HL840_0
                  clear HB
                  clear HO_10
                  have HO_828001 := n0_
                  have HO_828002 := n1_
                  have HO_836000 := n2_
                  have HO_836001 := n3_
                  have BK817 := n4_
                  have BK818 := n5_
                  have BK827 := n6_
                  have BK835 := n7_
                  have HL840_0 := n8_
                  have HB := n9_
                  have HO844 := n10_
                  clear n0_ n1_ n2_ n3_ n4_ n5_ n6_ n7_ n8_ n9_ n10_
                  clear ho hb hg hat
                  refine hK.out _ _ ?_
                  clear hK K
                  refine norm_ (a' := ?_) ?_ ?_
                  rotate_left
                  ·show Act.put _ (some 60) _ = _
                   simp only [Act.put, List.setIfInBounds_toArray, List.set_cons_zero, List.set_cons_succ, i64_w, i32_w]
                   rfl
                  refine pu_ 14 10 ?_
                  refine done_ (done_of HT_.out (by kernel_rfl)) ?_
                  try go_wp2
                  go_roundg k4
                  case measure => have := HJ3.out; have := HJ21.out; have := HK3.out; have := HK4.out; omega
                  case rel => exact ⟨(y842), (wrap64 (x11_4 + 1)), (by first | rfl | (simp; done) | (simp [*]; done)), H', ⟨by have := HJ3.out; have := HJ21.out; have := HK3.out; have := HK4.out; omega⟩, ⟨ro_ HO844.out⟩, ⟨by (with_reducible repeat (first | apply Kd.S_alloc | apply Kd.S_drewN | apply Kd.S_drew)); exact Kd.S_mono HO_828001.out (fun _ hk => ⟨hk.2, ⟨hk.1.1, ⟨hk.1.2.1, hk.1.2.2⟩⟩⟩)⟩, ⟨by (with_reducible repeat (first | apply Kd.R_alloc | apply Kd.R_drewN | apply Kd.R_drew)); exact Kd.R_mono HO_828002.out (fun _ hk => ⟨hk.2, hk.1⟩)⟩, ⟨by (with_reducible repeat (first | apply Kd.S_alloc | apply Kd.S_drewN | apply Kd.S_drew)); exact Kd.S_mono HO_836000.out (fun _ hk => ⟨hk.2, ⟨hk.1.1, ⟨hk.1.2.1, hk.1.2.2⟩⟩⟩)⟩, ⟨by (with_reducible repeat (first | apply Kd.R_alloc | apply Kd.R_drewN | apply Kd.R_drew)); exact Kd.R_mono HO_836001.out (fun _ hk => ⟨hk.2, hk.1⟩)⟩, ⟨bk_⟩, ⟨bk_⟩, ⟨bk_⟩, ⟨bk_⟩, ⟨hb_⟩⟩
                 ·rw [if_neg c49] at H
                  exact absurd H (by simp)
               ·rw [if_neg c47] at H
                exact absurd H (by simp)
              ·rw [if_neg c46] at H
               exact absurd H (by simp)
             ·rw [if_neg c45] at H
              exact absurd H (by simp)
            ·rw [if_neg c44] at H
             exact absurd H (by simp)
           ·rw [if_neg c43] at H
            have c43b0 : decide (x11_4 < (t823.length : Int)) = false := decide_eq_false c43
            clear c43
            by_cases c56 : x836000_3.length < 5864062014805
            ·rw [if_pos c56] at H
             have LMc56 := Aside0.mk c56
             clear c56
             obtain ⟨y845, hy845⟩ : ∃ y_ : List (List Int), y_ = (x836000_3 ++ [x10_4]) := ⟨_, rfl⟩
             replace H : (if 0 ≤ x9_3 then (if x9_3 < (t823.length : Int) then (if t819 = 0 then (none) else (if x836001_3.length < 17592186044416 then (spec_PivotedProblem.l0 k4 (wrap64 (x9_3 + 1)) t819 t820 t823 y845 (x836001_3 ++ [wrap64 (Int.tdiv (rd t823 x9_3) t819)])) else (none))) else (none)) else (none)) = some (r1, r2, r3) := by first | (rw [hy845]; with_reducible exact H) | (have H2_ := (Option.bind_some _ _).symm.trans H; rw [hy845]; with_reducible exact H2_) | (have H2_ := (Option.bind_some _ _).symm.trans H; with_reducible exact H2_) | with_reducible exact H | (rw [hy845]; exact H) | exact H
             have Ny845 := Aside0.mk hy845
             clear hy845
             by_cases c57 : 0 ≤ x9_3
             ·rw [if_pos c57] at H
              have c57b0 : decide (0 ≤ x9_3) = true := decide_eq_true c57
              clear c57
              by_cases c58 : x9_3 < (t823.length : Int)
              ·rw [if_pos c58] at H
               have c58b0 : decide (x9_3 < (t823.length : Int)) = true := decide_eq_true c58
               clear c58
               by_cases c59 : t819 = 0
               ·rw [if_pos c59] at H
                exact absurd H (by simp)
               ·rw [if_neg c59] at H
                have c59b0 : (t819 == 0) = false := beq_eq_false_iff_ne.mpr c59
                have c59b1 : (t819 != 0) = true := bne_iff_ne.mpr c59
                by_cases c60 : x836001_3.length < 17592186044416
                ·rw [if_pos c60] at H
                 have LMc60 := Aside0.mk c60
                 clear c60
                 obtain ⟨y849, hy849⟩ : ∃ y_ : List Int, y_ = (x836001_3 ++ [wrap64 (Int.tdiv (rd t823 x9_3) t819)]) := ⟨_, rfl⟩
                 replace H : (spec_PivotedProblem.l0 k4 (wrap64 (x9_3 + 1)) t819 t820 t823 y845 y849) = some (r1, r2, r3) := by first | (rw [hy849]; with_reducible exact H) | (have H2_ := (Option.bind_some _ _).symm.trans H; rw [hy849]; with_reducible exact H2_) | (have H2_ := (Option.bind_some _ _).symm.trans H; with_reducible exact H2_) | with_reducible exact H | (rw [hy849]; exact H) | exact H
                 have Ny849 := Aside0.mk hy849
                 clear hy849
                 have H' := Aside0.mk H
                 clear H
                 have hnb61 := NB827_817.out
                 have hnc61 := NB817_827.out
                 have hnb62 := NB827_818.out
                 have hnc62 := NB818_827.out
                 have hnb63 := NB827_835.out
                 have hnc63 := NB835_827.out
                 have hcz64_0 : wr.cell? ⟨gb827, 0, none⟩ = some (.int .i64 t819) := (blk_cell BK827.out 0).trans rfl
                 have hcz64_1 : wr.cell? ⟨gb827, 1, none⟩ = some (.slice Ao14 t820.length co14) := (blk_cell BK827.out 1).trans rfl
                 have hcz64_2 : wr.cell? ⟨gb827, 2, none⟩ = some (.slice Ao15 t823.length co15) := (blk_cell BK827.out 2).trans rfl
                 have hfz64_0 := blk_frozen BK827.out 0
                 have hfz64_1 := blk_frozen BK827.out 1
                 have hfz64_2 := blk_frozen BK827.out 2
                 have hnb65 := NB835_817.out
                 have hnc65 := NB817_835.out
                 have hnb66 := NB835_818.out
                 have hnc66 := NB818_835.out
                 have hcz67_0 : wr.cell? ⟨gb835, 0, none⟩ = some (u836000) := (blk_cell BK835.out 0).trans rfl
                 have hcz67_1 : wr.cell? ⟨gb835, 1, none⟩ = some (u836001) := (blk_cell BK835.out 1).trans rfl
                 have hfz67_0 := blk_frozen BK835.out 0
                 have hfz67_1 := blk_frozen BK835.out 1
                 obtain ⟨Ao69, co69, eo69⟩ := Kd.R_slice HO_10.out
                 subst eo69
                 try go_wp2_with (first | ((with_reducible refine gate_builtin (b := .append) (xs := #[.tmp 62, .tmp 64]) rfl ?_); at_builtin; refine Kd.S_append (Kd.slice 2 (Kd.int .i64)) (w0 := w) w.heap.size rfl (.tmp 62) (.tmp 64) 22 23 (.slice none 0 0) 24 rfl Try.underlying22 info23 rfl (by decide) (by omega) u836000 x836000_3 x10_4 [.slice Ao69 x10_4.length co69] (fun k_ => some k_ ≠ (.slice Ao14 t820.length co14 : Value).ownBlock ∧ some k_ ≠ (.slice Ao15 t823.length co15 : Value).ownBlock ∧ some k_ ≠ (u836001 : Value).ownBlock) (fun k_ => some k_ = (.slice Ao69 x10_4.length co69 : Value).ownBlock) rfl rfl ?aP (fun k_ hk_ => ((Kd.R_mono (ok' := fun k_ => ((fun k_ => some k_ ≠ (.slice Ao14 t820.length co14 : Value).ownBlock ∧ some k_ ≠ (.slice Ao15 t823.length co15 : Value).ownBlock ∧ some k_ ≠ (u836001 : Value).ownBlock)) k_ ∧ some k_ ≠ (u836000 : Value).ownBlock) (Kd.R_apart' (Kd.R_apart' (HO_10.out) (Kd.S_typed HO_828001.out) (by decide)) (Kd.S_typed HO_836000.out) (by decide)) (fun k_ hk => ⟨⟨hk.1.2, ⟨hk.1.1.1, hk.1.1.2⟩⟩, hk.2⟩))).1 k_ hk_.symm) ?aF ?aO ?aB ?aS ?aL ?_; (case aP => exact Kd.M_row (Kd.R_mono (Kd.R_tight rfl (Kd.R_mono (ok' := fun k_ => ((fun k_ => some k_ ≠ (.slice Ao14 t820.length co14 : Value).ownBlock ∧ some k_ ≠ (.slice Ao15 t823.length co15 : Value).ownBlock ∧ some k_ ≠ (u836001 : Value).ownBlock)) k_ ∧ some k_ ≠ (u836000 : Value).ownBlock) (Kd.R_apart' (Kd.R_apart' (HO_10.out) (Kd.S_typed HO_828001.out) (by decide)) (Kd.S_typed HO_836000.out) (by decide)) (fun k_ hk => ⟨⟨hk.1.2, ⟨hk.1.1.1, hk.1.1.2⟩⟩, hk.2⟩))) (fun _ h_ => h_))); (case aB => exact hb_); (case aF => exact (fun k_ hk => ⟨Kd.fresh' (Kd.S_lt (so_ HO_828001.out)) k_ hk, Kd.fresh' (Kd.R_lt (ro_ HO_828002.out)) k_ hk, Kd.fresh' (Kd.R_lt (ro_ HO_836001.out)) k_ hk⟩)); (case aO => exact (by (with_reducible repeat (first | apply Kd.S_alloc | apply Kd.S_drewN | apply Kd.S_drew)); exact Kd.S_mono HO_836000.out (fun k_ hk => ⟨⟨hk.2.1, ⟨hk.2.2.1, hk.2.2.2⟩⟩, fun e_ => hk.1 e_⟩))); (case aS => exact bz_); (case aL => have := LMc56.out; omega); intro v846 w68 ho hb hg hat; rw [← Ny845.out] at ho; have n0_ := Aside0.mk (Kd.S_after (ok := (fun k_ => some k_ ≠ (.slice Ao69 x10_4.length co69 : Value).ownBlock ∧ some k_ ≠ (.slice Ao15 t823.length co15 : Value).ownBlock ∧ some k_ ≠ (u836001 : Value).ownBlock)) (by (with_reducible repeat (first | apply Kd.S_alloc | apply Kd.S_drewN | apply Kd.S_drew)); exact Kd.S_mono HO_828001.out (fun _ hk => ⟨⟨hk.1, ⟨hk.2.1, hk.2.2.2⟩⟩, hk.2.2.1⟩)) hg hat); have n1_ := Aside0.mk (Kd.R_over' (ro_ HO_828002.out) (Kd.S_typed (so_ HO_836000.out)) (by decide) hg); have n2_ := Aside0.mk (Kd.R_over' (ro_ HO_836001.out) (Kd.S_typed (so_ HO_836000.out)) (by decide) hg); have n3_ := Aside0.mk (bg_ BK817.out hg (Kd.S_ne HO_836000.out BK817.out (by decide))); have n4_ := Aside0.mk (bg_ BK818.out hg (Kd.S_ne HO_836000.out BK818.out (by decide))); have n5_ := Aside0.mk (bg_ BK827.out hg (Kd.S_ne HO_836000.out BK827.out (by decide))); have n6_ := Aside0.mk (bg_ BK835.out hg (Kd.S_ne HO_836000.out BK835.out (by decide))); have n7_ := Aside0.mk (hb); have n8_ := Aside0.mk (ho); clear HO_828001; clear HO_828002; clear HO_836001; clear BK817; clear BK818; clear BK827; clear BK835; clear HB; clear HO_836000; clear HO_10; have HO_828001 := n0_; have HO_828002 := n1_; have HO_836001 := n2_; have BK817 := n3_; have BK818 := n4_; have BK827 := n5_; have BK835 := n6_; have HB := n7_; have HO847 := n8_; clear n0_ n1_ n2_ n3_ n4_ n5_ n6_ n7_ n8_; clear ho hb hg hat; obtain ⟨Ao70, co70, eo70⟩ := Kd.S_slice HO847.out; subst eo70; have hcz71_0 : w68.cell? ⟨gb835, 0, none⟩ = some (u836000) := (blk_cell BK835.out 0).trans rfl; have hcz71_1 : w68.cell? ⟨gb835, 1, none⟩ = some (u836001) := (blk_cell BK835.out 1).trans rfl; have hfz71_0 := blk_frozen BK835.out 0; have hfz71_1 := blk_frozen BK835.out 1))
                 have n0_ : Aside0 (Kd.S (Kd.slice 2 (Kd.int .i64)) 23 (w68.setCell ⟨gb835, 0, none⟩ (.slice Ao70 y845.length co70)) w.heap.size (fun k_ => some k_ ≠ (.slice Ao15 t823.length co15 : Value).ownBlock ∧ some k_ ≠ (u836001 : Value).ownBlock ∧ some k_ ≠ (.slice Ao70 y845.length co70 : Value).ownBlock) (.slice Ao14 t820.length co14) t820) := ⟨by (with_reducible repeat (first | apply Kd.S_alloc | apply Kd.S_drewN | apply Kd.S_drew)); exact Kd.S_mono (Kd.S_far (p := ⟨gb835, 0, none⟩) (Kd.S_types HO_828001.out BK835.out (by decide)) (fun _ hk => hk.2) (.slice Ao70 y845.length co70)) (fun _ hk => ⟨hk.1.1.2.1, ⟨hk.1.1.2.2, hk.1.2⟩⟩)⟩
                 have n1_ : Aside0 (Kd.R (Kd.int .i64) 2 (w68.setCell ⟨gb835, 0, none⟩ (.slice Ao70 y845.length co70)) w.heap.size (fun k_ => some k_ ≠ (u836001 : Value).ownBlock) (.slice Ao15 t823.length co15) t823) := ⟨by (with_reducible repeat (first | apply Kd.R_alloc | apply Kd.R_drewN | apply Kd.R_drew)); exact Kd.R_mono (Kd.R_far (p := ⟨gb835, 0, none⟩) (Kd.R_types HO_828002.out BK835.out (by decide)) (fun _ hk => hk.2) (.slice Ao70 y845.length co70)) (fun _ hk => hk.1.2)⟩
                 have n2_ : Aside0 (Kd.R (Kd.int .i64) 2 (w68.setCell ⟨gb835, 0, none⟩ (.slice Ao70 y845.length co70)) w.heap.size (fun k_ => some k_ ≠ (.slice Ao15 t823.length co15 : Value).ownBlock) u836001 x836001_3) := ⟨by (with_reducible repeat (first | apply Kd.R_alloc | apply Kd.R_drewN | apply Kd.R_drew)); exact Kd.R_mono (Kd.R_far (p := ⟨gb835, 0, none⟩) (Kd.R_types HO_836001.out BK835.out (by decide)) (fun _ hk => hk.2) (.slice Ao70 y845.length co70)) (fun _ hk => hk.1.2)⟩
                 have n3_ : Aside0 (Kd.S (Kd.slice 2 (Kd.int .i64)) 23 (w68.setCell ⟨gb835, 0, none⟩ (.slice Ao70 y845.length co70)) w.heap.size (fun k_ => some k_ ≠ (.slice Ao14 t820.length co14 : Value).ownBlock ∧ some k_ ≠ (.slice Ao15 t823.length co15 : Value).ownBlock ∧ some k_ ≠ (u836001 : Value).ownBlock) (.slice Ao70 y845.length co70) y845) := ⟨by (with_reducible repeat (first | apply Kd.S_alloc | apply Kd.S_drewN | apply Kd.S_drew)); exact Kd.S_mono (Kd.S_far (p := ⟨gb835, 0, none⟩) (Kd.S_types HO847.out BK835.out (by decide)) (fun _ hk => hk.2) (.slice Ao70 y845.length co70)) (fun _ hk => ⟨hk.1.1, ⟨hk.1.2.1, hk.1.2.2⟩⟩)⟩
                 have n4_ : Aside0 ((w68.setCell ⟨gb835, 0, none⟩ (.slice Ao70 y845.length co70)).heap[gb817]? = some (.cells #[.slice A0_0 l0_0.length c0_0, .slice A0_1 l0_1.length c0_1] 29 (0, 0))) := ⟨by (with_reducible repeat (first | refine blk_drewN ?_ _ | refine blk_drew ?_ | refine blk_alloc ?_ _)); refine blk_far ?_ NB817_835.out _; (with_reducible repeat (first | refine blk_drewN ?_ _ | refine blk_drew ?_ | refine blk_alloc ?_ _)); exact BK817.out⟩
                 have n5_ : Aside0 ((w68.setCell ⟨gb835, 0, none⟩ (.slice Ao70 y845.length co70)).heap[gb818]? = some (.cells #[.slice none 0 0, .slice none 0 0] 29 (0, 0))) := ⟨by (with_reducible repeat (first | refine blk_drewN ?_ _ | refine blk_drew ?_ | refine blk_alloc ?_ _)); refine blk_far ?_ NB818_835.out _; (with_reducible repeat (first | refine blk_drewN ?_ _ | refine blk_drew ?_ | refine blk_alloc ?_ _)); exact BK818.out⟩
                 have n6_ : Aside0 ((w68.setCell ⟨gb835, 0, none⟩ (.slice Ao70 y845.length co70)).heap[gb827]? = some (.cells #[.int .i64 t819, .slice Ao14 t820.length co14, .slice Ao15 t823.length co15] 75 (0, 0))) := ⟨by (with_reducible repeat (first | refine blk_drewN ?_ _ | refine blk_drew ?_ | refine blk_alloc ?_ _)); refine blk_far ?_ NB827_835.out _; (with_reducible repeat (first | refine blk_drewN ?_ _ | refine blk_drew ?_ | refine blk_alloc ?_ _)); exact BK827.out⟩
                 have n7_ : Aside0 ((w68.setCell ⟨gb835, 0, none⟩ (.slice Ao70 y845.length co70)).heap[gb835]? = some (.cells #[.slice Ao70 y845.length co70, u836001] 29 (0, 0))) := ⟨by (with_reducible repeat (first | refine blk_drewN ?_ _ | refine blk_drew ?_ | refine blk_alloc ?_ _)); refine blk_put (cs := #[u836000, u836001]) ?_ 0 _ rfl; (with_reducible repeat (first | refine blk_drewN ?_ _ | refine blk_drew ?_ | refine blk_alloc ?_ _)); exact BK835.out⟩
                 have n8_ : Aside0 (Below w.heap.size w (w68.setCell ⟨gb835, 0, none⟩ (.slice Ao70 y845.length co70))) := ⟨hb_⟩
                 (try clear HO_828001)
                 (try clear HO_828002)
                 (try clear HO_836001)
                 (try clear HO847)
                 (try clear BK817)
                 (try clear BK818)
                 (try clear BK827)
                 (try clear BK835)
                 (try clear HB)
                 generalize (w68.setCell ⟨gb835, 0, none⟩ (.slice Ao70 y845.length co70)) = w72 at n0_ n1_ n2_ n3_ n4_ n5_ n6_ n7_ n8_ ⊢
                 have HO_828001 := n0_
                 have HO_828002 := n1_
                 have HO_836001 := n2_
                 have HO847 := n3_
                 have BK817 := n4_
                 have BK818 := n5_
                 have BK827 := n6_
                 have BK835 := n7_
                 have HB := n8_
                 clear n0_ n1_ n2_ n3_ n4_ n5_ n6_ n7_ n8_
                 have n0_ := Aside0.mk (Kd.S_drew HO_828001.out)
                 have n1_ := Aside0.mk (Kd.R_drew HO_828002.out)
                 have n2_ := Aside0.mk (Kd.R_drew HO_836001.out)
                 have n3_ := Aside0.mk (Kd.S_drew HO847.out)
                 have n4_ := Aside0.mk (blk_drew BK817.out)
                 have n5_ := Aside0.mk (blk_drew BK818.out)
                 have n6_ := Aside0.mk (blk_drew BK827.out)
                 have n7_ := Aside0.mk (blk_drew BK835.out)
                 have n8_ := Aside0.mk (below_drew1 HB.out)
                 clear HO_828001
                 clear HO_828002
                 clear HO_836001
                 clear HO847
                 clear BK817
                 clear BK818
                 clear BK827
                 clear BK835
                 clear HB
                 have HO_828001 := n0_
                 have HO_828002 := n1_
                 have HO_836001 := n2_
                 have HO847 := n3_
                 have BK817 := n4_
                 have BK818 := n5_
                 have BK827 := n6_
                 have BK835 := n7_
                 have HB := n8_
                 clear n0_ n1_ n2_ n3_ n4_ n5_ n6_ n7_ n8_
                 have p848 : 0 ≤ (x9_3 : Int) := of_decide_eq_true (by first | (with_reducible assumption) | assumption)
                 have q848 : x9_3 < (t823.length : Int) := of_decide_eq_true (by first | (with_reducible assumption) | assumption)
                 obtain ⟨ad848, e848, hx848_0⟩ := Kd.at_int (Kd.R_reads' HO_828002.out).2.2 x9_3 p848 q848
                 cases e848
                 replace p848 := eq_true p848
                 replace q848 := eq_true q848
                 refine st_ (n := 14) (S := fun w' => w'.cell? ⟨gb835, 0, none⟩ = some (.slice Ao70 y845.length co70) ∧ w'.cell? ⟨gb835, 1, none⟩ = some (u836001) ∧ w'.cell? ⟨gb827, 0, none⟩ = some (.int .i64 t819) ∧ w'.cell? ⟨gb827, 1, none⟩ = some (.slice Ao14 t820.length co14) ∧ w'.cell? ⟨gb827, 2, none⟩ = some (.slice (some ad848) t823.length co15) ∧ w'.cell? (ad848.add (x9_3).toNat) = some (.int .i64 (rd t823 x9_3))) (ds := [11, 13]) ⟨(blk_cell BK835.out 0).trans rfl, (blk_cell BK835.out 1).trans rfl, (blk_cell BK827.out 0).trans rfl, (blk_cell BK827.out 1).trans rfl, (blk_cell BK827.out 2).trans rfl, hx848_0⟩ (fun hHeld => ?_); refine with_tabW spec_PivotedProblem.tab16 spec_PivotedProblem.bits16 (fun HT_ HW_ => ?_)
                 generalize w72.drew = w73 at HO_828001 HO_828002 HO_836001 HO847 BK817 BK818 BK827 BK835 HB hx848_0 hHeld ⊢
                 refine pu_ 0 67 ?_; refine pu_ 2 69 ?_; refine pu_ 4 71 ?_; refine pu_ 7 74 ?_; refine tk_ 1 68 ?_; refine tk_ 3 70 ?_; refine pu_ 5 72 ?_; refine tk_ 6 73 ?_; refine tk_ 8 75 ?_; refine pu_ 9 76 ?_
                 refine on_ 10 (some 77) (fun K hK => ?_)
                 refine value_ (w1 := ?_) (v := ?_) (by rfl) rfl ?_ ?_
                 rotate_left 2
                 ·go_simp
                  constructor
                  ·rfl
                  ·rfl
                 refine hK.out _ _ ⟨(blk_cell (blk_alloc BK835.out _) 0).trans rfl, (blk_cell (blk_alloc BK835.out _) 1).trans rfl, (blk_cell (blk_alloc BK827.out _) 0).trans rfl, (blk_cell (blk_alloc BK827.out _) 1).trans rfl, (blk_cell (blk_alloc BK827.out _) 2).trans rfl, (World.cell?_alloc_lt _ _ _ (World.block_lt_of_cell? _ _ (hHeld.2.2.2.2.2))).trans (hHeld.2.2.2.2.2)⟩ (fun hHeld => ?_)
                 clear hK K
                 refine norm_ (a' := ?_) ?_ ?_
                 rotate_left
                 ·show Act.put _ (some 77) _ = _
                  simp only [Act.put, List.setIfInBounds_toArray, List.set_cons_zero, List.set_cons_succ, i64_w, i32_w]
                  rfl
                 refine la_ 11 (some 78) (fun K hK => ?_)
                 refine Kd.R_append_step (Kd.int .i64) (w0 := w) w.heap.size (by rfl) (.tmp 68) (.tmp 77) 23 2 (.int .i64 0) 8 rfl Try.underlying23 info2 rfl (by decide) (by omega) u836001 x836001_3 (wrap64 (Int.tdiv (rd t823 x9_3) t819)) [.int .i64 (wrap64 (Int.tdiv (rd t823 x9_3) t819))] (fun k_ => some k_ ≠ (.slice (some ad848) t823.length co15 : Value).ownBlock) (fun _ => False) rfl rfl ?aP (fun _ hk => hk.elim) ?aF ?aO ?aB ?aS ?aL ?_
                 (case aP => exact rfl)
                 (case aB => exact hb_)
                 (case aF => exact (fun k_ hk => Kd.fresh' (Kd.R_lt (ro_ HO_828002.out)) k_ hk))
                 (case aO => exact (ro_ HO_836001.out))
                 (case aS => exact bz_)
                 (case aL => have := LMc60.out; omega)
                 intro v850 w74 ho hb hg hat
                 rw [← Ny849.out] at ho
                 have n0_ := Aside0.mk (Kd.S_after (ok := (fun k_ => some k_ ≠ (.slice (some ad848) t823.length co15 : Value).ownBlock ∧ some k_ ≠ (.slice Ao70 y845.length co70 : Value).ownBlock)) (by (with_reducible repeat (first | apply Kd.S_alloc | apply Kd.S_drewN | apply Kd.S_drew)); exact Kd.S_mono HO_828001.out (fun _ hk => ⟨⟨hk.1, hk.2.2⟩, hk.2.1⟩)) hg hat)
                 have n1_ := Aside0.mk (Kd.R_after (ok := (fun _ => True)) (by (with_reducible repeat (first | apply Kd.R_alloc | apply Kd.R_drewN | apply Kd.R_drew)); exact Kd.R_mono HO_828002.out (fun _ hk => ⟨trivial, hk⟩)) hg hat)
                 have n2_ := Aside0.mk (bg_ BK817.out hg (Kd.R_ne HO_836001.out BK817.out (by decide)))
                 have n3_ := Aside0.mk (bg_ BK818.out hg (Kd.R_ne HO_836001.out BK818.out (by decide)))
                 have n4_ := Aside0.mk (bg_ BK827.out hg (Kd.R_ne HO_836001.out BK827.out (by decide)))
                 have n5_ := Aside0.mk (bg_ BK835.out hg (Kd.R_ne HO_836001.out BK835.out (by decide)))
                 have n6_ := Aside0.mk (Kd.S_after (ok := (fun k_ => some k_ ≠ (.slice Ao14 t820.length co14 : Value).ownBlock ∧ some k_ ≠ (.slice (some ad848) t823.length co15 : Value).ownBlock)) (by (with_reducible repeat (first | apply Kd.S_alloc | apply Kd.S_drewN | apply Kd.S_drew)); exact Kd.S_mono HO847.out (fun _ hk => ⟨⟨hk.1, hk.2.1⟩, hk.2.2⟩)) hg hat)
                 have n7_ := Aside0.mk (hb)
                 have n8_ := Aside0.mk (ho)
                 clear HO_828001
                 clear HO_828002
                 clear BK817
                 clear BK818
                 clear BK827
                 clear BK835
                 clear HO847
                 clear HB
                 clear HO_836001
                 have HO_828001 := n0_
                 have HO_828002 := n1_
                 have BK817 := n2_
                 have BK818 := n3_
                 have BK827 := n4_
                 have BK835 := n5_
                 have HO847 := n6_
                 have HB := n7_
                 have HO851 := n8_
                 clear n0_ n1_ n2_ n3_ n4_ n5_ n6_ n7_ n8_
                 clear ho hb hg hat
                 obtain ⟨Ao75, co75, eo75⟩ := Kd.R_slice HO851.out
                 (first | subst eo75 | (injection eo75 with f1_ f2_ f3_; have f4_ := f1_.symm; have f5_ := f3_.symm; clear f1_ f2_ f3_; subst f4_; subst f5_))
                 refine hK.out _ _ ?_
                 clear hK K
                 refine norm_ (a' := ?_) ?_ ?_
                 rotate_left
                 ·show Act.put _ (some 78) _ = _
                  simp only [Act.put, List.setIfInBounds_toArray, List.set_cons_zero, List.set_cons_succ, i64_w, i32_w]
                  rfl
                 refine pu_ 12 79 ?_
                 refine la_ 13 none (fun K hK => ?_)
                 have hs76 : w74.cell? ⟨gb835, 1, none⟩ = some (u836001) := (blk_cell BK835.out 1).trans rfl
                 have hfs76 := blk_frozen BK835.out 1
                 have hns76_0 := NB817_835.out
                 have hns76_1 := NB818_835.out
                 have hns76_2 := NB827_835.out
                 have hms76_0 := NB835_817.out
                 have hms76_1 := NB835_818.out
                 have hms76_2 := NB835_827.out
                 refine skip_ (w1 := ?_) (by rfl) rfl ?_ ?_
                 rotate_left
                 ·go_simp
                  rfl
                 refine hK.out _ _ ?_
                 clear hK K
                 refine done_ (done_of HT_.out (by kernel_rfl)) ?_
                 try go_wp2
                 go_roundg k4
                 case measure => have := HJ3.out; have := HJ21.out; have := HK3.out; have := HK4.out; omega
                 case rel => exact ⟨(wrap64 (x9_3 + 1)), (y845), (y849), (.slice Ao70 y845.length co70), (.slice Ao75 y849.length co75), (by first | rfl | (simp; done) | (simp [*]; done)), H', ⟨by have := HJ3.out; have := HJ21.out; have := HK3.out; have := HK4.out; omega⟩, ⟨by (with_reducible repeat (first | apply Kd.S_alloc | apply Kd.S_drewN | apply Kd.S_drew)); exact Kd.S_mono (Kd.S_far (p := ⟨gb835, 1, none⟩) (Kd.S_types HO_828001.out BK835.out (by decide)) (fun _ hk => hk.2) (.slice Ao75 y849.length co75)) (fun _ hk => ⟨hk.1.1.1, ⟨hk.1.1.2, hk.1.2⟩⟩)⟩, ⟨by (with_reducible repeat (first | apply Kd.R_alloc | apply Kd.R_drewN | apply Kd.R_drew)); exact Kd.R_mono (Kd.R_far (p := ⟨gb835, 1, none⟩) (Kd.R_types HO_828002.out BK835.out (by decide)) (fun _ hk => hk.2) (.slice Ao75 y849.length co75)) (fun _ hk => hk.1.2)⟩, ⟨by (with_reducible repeat (first | apply Kd.S_alloc | apply Kd.S_drewN | apply Kd.S_drew)); exact Kd.S_mono (Kd.S_far (p := ⟨gb835, 1, none⟩) (Kd.S_types HO847.out BK835.out (by decide)) (fun _ hk => hk.2) (.slice Ao75 y849.length co75)) (fun _ hk => ⟨hk.1.1.1, ⟨hk.1.1.2, hk.1.2⟩⟩)⟩, ⟨by (with_reducible repeat (first | apply Kd.R_alloc | apply Kd.R_drewN | apply Kd.R_drew)); exact Kd.R_mono (Kd.R_far (p := ⟨gb835, 1, none⟩) (Kd.R_types HO851.out BK835.out (by decide)) (fun _ hk => hk.2) (.slice Ao75 y849.length co75)) (fun _ hk => hk.1)⟩, ⟨by (with_reducible repeat (first | refine blk_drewN ?_ _ | refine blk_drew ?_ | refine blk_alloc ?_ _)); refine blk_far ?_ NB817_835.out _; (with_reducible repeat (first | refine blk_drewN ?_ _ | refine blk_drew ?_ | refine blk_alloc ?_ _)); exact BK817.out⟩, ⟨by (with_reducible repeat (first | refine blk_drewN ?_ _ | refine blk_drew ?_ | refine blk_alloc ?_ _)); refine blk_far ?_ NB818_835.out _; (with_reducible repeat (first | refine blk_drewN ?_ _ | refine blk_drew ?_ | refine blk_alloc ?_ _)); exact BK818.out⟩, ⟨by (with_reducible repeat (first | refine blk_drewN ?_ _ | refine blk_drew ?_ | refine blk_alloc ?_ _)); refine blk_far ?_ NB827_835.out _; (with_reducible repeat (first | refine blk_drewN ?_ _ | refine blk_drew ?_ | refine blk_alloc ?_ _)); exact BK827.out⟩, ⟨by (with_reducible repeat (first | refine blk_drewN ?_ _ | refine blk_drew ?_ | refine blk_alloc ?_ _)); refine blk_put (cs := #[.slice Ao70 y845.length co70, u836001]) ?_ 1 _ rfl; (with_reducible repeat (first | refine blk_drewN ?_ _ | refine blk_drew ?_ | refine blk_alloc ?_ _)); exact BK835.out⟩, ⟨hb_⟩⟩
                ·rw [if_neg c60] at H
                 exact absurd H (by simp)
              ·rw [if_neg c58] at H
               exact absurd H (by simp)
             ·rw [if_neg c57] at H
              exact absurd H (by simp)
            ·rw [if_neg c56] at H
             exact absurd H (by simp)
        ·rw [if_neg c36] at H
         have c36b0 : decide (x9_3 < (t823.length : Int)) = false := decide_eq_false c36
         clear c36
         replace H := Option.bind_eq_some_iff.mp H
         obtain ⟨t836, A770, H⟩ := H
         replace H : (if t836 = true then (some (x836000_3, x836001_3, 0)) else (some (([] : List (List Int)), ([] : List Int), 3))) = some (r1, r2, r3) := H
         have A77 := Aside0.mk A770
         clear A770
         by_cases c78 : t836 = true
         ·subst c78
          have H1 : (some (x836000_3, x836001_3, 0)) = some (r1, r2, r3) := by rw [if_pos rfl] at H; exact H
          clear H
          have H := H1
          clear H1
          simp only [Option.some.injEq, Prod.mk.injEq] at H
          obtain ⟨rfl, rfl, rfl⟩ := H
          have hnb79 := NB827_817.out
          have hnc79 := NB817_827.out
          have hnb80 := NB827_818.out
          have hnc80 := NB818_827.out
          have hnb81 := NB827_835.out
          have hnc81 := NB835_827.out
          have hcz82_0 : wr.cell? ⟨gb827, 0, none⟩ = some (.int .i64 t819) := (blk_cell BK827.out 0).trans rfl
          have hcz82_1 : wr.cell? ⟨gb827, 1, none⟩ = some (.slice Ao14 t820.length co14) := (blk_cell BK827.out 1).trans rfl
          have hcz82_2 : wr.cell? ⟨gb827, 2, none⟩ = some (.slice Ao15 t823.length co15) := (blk_cell BK827.out 2).trans rfl
          have hfz82_0 := blk_frozen BK827.out 0
          have hfz82_1 := blk_frozen BK827.out 1
          have hfz82_2 := blk_frozen BK827.out 2
          have hnb83 := NB835_817.out
          have hnc83 := NB817_835.out
          have hnb84 := NB835_818.out
          have hnc84 := NB818_835.out
          have hcz85_0 : wr.cell? ⟨gb835, 0, none⟩ = some (u836000) := (blk_cell BK835.out 0).trans rfl
          have hcz85_1 : wr.cell? ⟨gb835, 1, none⟩ = some (u836001) := (blk_cell BK835.out 1).trans rfl
          have hfz85_0 := blk_frozen BK835.out 0
          have hfz85_1 := blk_frozen BK835.out 1
          obtain ⟨Ao86, co86, eo86⟩ := Kd.S_slice HO_836000.out
          subst eo86
          obtain ⟨Ao87, co87, eo87⟩ := Kd.R_slice HO_836001.out
          subst eo87
          go_wp2_with (first | ((with_reducible refine gate_callee (f := 66) rfl ?_); refine goesL_ (some 81) rfl rfl Try.func66 (by kernel_rfl) rfl #[.agg #[.slice Ao86 x836000_3.length co86, .slice Ao87 x836001_3.length co87]] rfl (by (try simp only [List.map_toArray, List.map_cons, List.map_nil]); first | done | rfl | (simp only [List.length_drop, List.length_take]; rfl)) ?_; (with_reducible refine (spec_l01Is.calls k3 _ _ x836000_3 _ _ x836001_3 true _ ?side1 ?side2 ?side3 ?side4 A77.out).mono ?_); (case side1 => repeat (first | exact (Kd.S_reads' HO_836000.out).2.2 | (with_reducible refine Kd.C_alloc ?_ _) | (with_reducible refine Kd.C_drewN ?_ _) | (with_reducible refine Kd.C_drew ?_))); (case side2 => exact (Kd.S_reads' HO_836000.out).2.1); (case side3 => repeat (first | exact (Kd.R_reads' HO_836001.out).2.2 | (with_reducible refine Kd.C_alloc ?_ _) | (with_reducible refine Kd.C_drewN ?_ _) | (with_reducible refine Kd.C_drew ?_))); (case side4 => exact (Kd.R_reads' HO_836001.out).2.1); rintro e w88 ⟨rfl, hb⟩; refine ⟨_, rfl, ?_⟩; have n0_ := Aside0.mk (Kd.S_below (so_ HO_828001.out) hb); have n1_ := Aside0.mk (rb_ HO_828002.out hb); have n2_ := Aside0.mk (Kd.S_below (so_ HO_836000.out) hb); have n3_ := Aside0.mk (rb_ HO_836001.out hb); have n4_ := Aside0.mk (bb_ BK817.out hb); have n5_ := Aside0.mk (bb_ BK818.out hb); have n6_ := Aside0.mk (bb_ BK827.out hb); have n7_ := Aside0.mk (bb_ BK835.out hb); have n8_ := Aside0.mk (bs_ hb); clear HO_828001; clear HO_828002; clear HO_836000; clear HO_836001; clear BK817; clear BK818; clear BK827; clear BK835; clear HB; have HO_828001 := n0_; have HO_828002 := n1_; have HO_836000 := n2_; have HO_836001 := n3_; have BK817 := n4_; have BK818 := n5_; have BK827 := n6_; have BK835 := n7_; have HB := n8_; clear n0_ n1_ n2_ n3_ n4_ n5_ n6_ n7_ n8_; (try clear hb); (try clear hb2); (try clear hk); (try clear hi); have hcz89_0 : w88.cell? ⟨gb835, 0, none⟩ = some (.slice Ao86 x836000_3.length co86) := (blk_cell BK835.out 0).trans rfl; have hcz89_1 : w88.cell? ⟨gb835, 1, none⟩ = some (.slice Ao87 x836001_3.length co87) := (blk_cell BK835.out 1).trans rfl; have hfz89_0 := blk_frozen BK835.out 0; have hfz89_1 := blk_frozen BK835.out 1; have hnb90 := NB818_817.out; have hnc90 := NB817_818.out; have hcz91_0 : w88.cell? ⟨gb818, 0, none⟩ = some (.slice none 0 0) := (blk_cell BK818.out 0).trans rfl; have hcz91_1 : w88.cell? ⟨gb818, 1, none⟩ = some (.slice none 0 0) := (blk_cell BK818.out 1).trans rfl; have hfz91_0 := blk_frozen BK818.out 0; have hfz91_1 := blk_frozen BK818.out 1))
          refine bodyPost_ret (results_ct rfl _ _ gb818 29 #[.slice Ao86 x836000_3.length co86, .slice Ao87 x836001_3.length co87] (0, 0) _ rfl (by (with_reducible repeat (first | refine blk_drewN ?_ _ | refine blk_drew ?_ | refine blk_alloc ?_ _)); refine blk_put (cs := #[.slice Ao86 x836000_3.length co86, .slice none 0 0]) ?_ 1 _ rfl; (with_reducible repeat (first | refine blk_drewN ?_ _ | refine blk_drew ?_ | refine blk_alloc ?_ _)); refine blk_put (cs := #[.slice none 0 0, .slice none 0 0]) ?_ 0 _ rfl; (with_reducible repeat (first | refine blk_drewN ?_ _ | refine blk_drew ?_ | refine blk_alloc ?_ _)); exact BK818.out) Try.underlying29 rfl (by kernel_rfl)) rfl ?_
          exact ⟨_, _, by first | rfl | (simp [errW_none, errW_some] <;> rfl) | (simp [*, errW_none, errW_some] <;> rfl), by (with_reducible repeat (first | apply Kd.S_alloc | apply Kd.S_drewN | apply Kd.S_drew)); exact Kd.S_mono (Kd.S_far (p := ⟨gb818, 1, none⟩) (Kd.S_far (p := ⟨gb818, 0, none⟩) (Kd.S_types HO_836000.out BK818.out (by decide)) (fun _ hk => hk.2) (.slice Ao86 x836000_3.length co86)) (fun _ hk => hk.2) (.slice Ao87 x836001_3.length co87)) (fun _ hk => hk.1.2.2), by (with_reducible repeat (first | apply Kd.R_alloc | apply Kd.R_drewN | apply Kd.R_drew)); exact Kd.R_mono (Kd.R_far (p := ⟨gb818, 1, none⟩) (Kd.R_far (p := ⟨gb818, 0, none⟩) (Kd.R_types HO_836001.out BK818.out (by decide)) (fun _ hk => hk.2) (.slice Ao86 x836000_3.length co86)) (fun _ hk => hk.2) (.slice Ao87 x836001_3.length co87)) (fun _ hk => trivial), hb_⟩
         ·replace c78 := Bool.eq_false_iff.mpr c78
          subst c78
          have H1 : (some (([] : List (List Int)), ([] : List Int), 3)) = some (r1, r2, r3) := by rw [if_neg (show ¬ (false = true) by decide)] at H; exact H
          clear H
          have H := H1
          clear H1
          simp only [Option.some.injEq, Prod.mk.injEq] at H
          obtain ⟨rfl, rfl, rfl⟩ := H
          have hnb92 := NB827_817.out
          have hnc92 := NB817_827.out
          have hnb93 := NB827_818.out
          have hnc93 := NB818_827.out
          have hnb94 := NB827_835.out
          have hnc94 := NB835_827.out
          have hcz95_0 : wr.cell? ⟨gb827, 0, none⟩ = some (.int .i64 t819) := (blk_cell BK827.out 0).trans rfl
          have hcz95_1 : wr.cell? ⟨gb827, 1, none⟩ = some (.slice Ao14 t820.length co14) := (blk_cell BK827.out 1).trans rfl
          have hcz95_2 : wr.cell? ⟨gb827, 2, none⟩ = some (.slice Ao15 t823.length co15) := (blk_cell BK827.out 2).trans rfl
          have hfz95_0 := blk_frozen BK827.out 0
          have hfz95_1 := blk_frozen BK827.out 1
          have hfz95_2 := blk_frozen BK827.out 2
          have hnb96 := NB835_817.out
          have hnc96 := NB817_835.out
          have hnb97 := NB835_818.out
          have hnc97 := NB818_835.out
          have hcz98_0 : wr.cell? ⟨gb835, 0, none⟩ = some (u836000) := (blk_cell BK835.out 0).trans rfl
          have hcz98_1 : wr.cell? ⟨gb835, 1, none⟩ = some (u836001) := (blk_cell BK835.out 1).trans rfl
          have hfz98_0 := blk_frozen BK835.out 0
          have hfz98_1 := blk_frozen BK835.out 1
          obtain ⟨Ao99, co99, eo99⟩ := Kd.S_slice HO_836000.out
          subst eo99
          obtain ⟨Ao100, co100, eo100⟩ := Kd.R_slice HO_836001.out
          subst eo100
          go_wp2_with (first | ((with_reducible refine gate_callee (f := 66) rfl ?_); refine goesL_ (some 81) rfl rfl Try.func66 (by kernel_rfl) rfl #[.agg #[.slice Ao99 x836000_3.length co99, .slice Ao100 x836001_3.length co100]] rfl (by (try simp only [List.map_toArray, List.map_cons, List.map_nil]); first | done | rfl | (simp only [List.length_drop, List.length_take]; rfl)) ?_; (with_reducible refine (spec_l01Is.calls k3 _ _ x836000_3 _ _ x836001_3 false _ ?side1 ?side2 ?side3 ?side4 A77.out).mono ?_); (case side1 => repeat (first | exact (Kd.S_reads' HO_836000.out).2.2 | (with_reducible refine Kd.C_alloc ?_ _) | (with_reducible refine Kd.C_drewN ?_ _) | (with_reducible refine Kd.C_drew ?_))); (case side2 => exact (Kd.S_reads' HO_836000.out).2.1); (case side3 => repeat (first | exact (Kd.R_reads' HO_836001.out).2.2 | (with_reducible refine Kd.C_alloc ?_ _) | (with_reducible refine Kd.C_drewN ?_ _) | (with_reducible refine Kd.C_drew ?_))); (case side4 => exact (Kd.R_reads' HO_836001.out).2.1); rintro e w101 ⟨rfl, hb⟩; refine ⟨_, rfl, ?_⟩; have n0_ := Aside0.mk (Kd.S_below (so_ HO_828001.out) hb); have n1_ := Aside0.mk (rb_ HO_828002.out hb); have n2_ := Aside0.mk (Kd.S_below (so_ HO_836000.out) hb); have n3_ := Aside0.mk (rb_ HO_836001.out hb); have n4_ := Aside0.mk (bb_ BK817.out hb); have n5_ := Aside0.mk (bb_ BK818.out hb); have n6_ := Aside0.mk (bb_ BK827.out hb); have n7_ := Aside0.mk (bb_ BK835.out hb); have n8_ := Aside0.mk (bs_ hb); clear HO_828001; clear HO_828002; clear HO_836000; clear HO_836001; clear BK817; clear BK818; clear BK827; clear BK835; clear HB; have HO_828001 := n0_; have HO_828002 := n1_; have HO_836000 := n2_; have HO_836001 := n3_; have BK817 := n4_; have BK818 := n5_; have BK827 := n6_; have BK835 := n7_; have HB := n8_; clear n0_ n1_ n2_ n3_ n4_ n5_ n6_ n7_ n8_; (try clear hb); (try clear hb2); (try clear hk); (try clear hi); have hnb102 := NB818_817.out; have hnc102 := NB817_818.out; have hcz103_0 : w101.cell? ⟨gb818, 0, none⟩ = some (.slice none 0 0) := (blk_cell BK818.out 0).trans rfl; have hcz103_1 : w101.cell? ⟨gb818, 1, none⟩ = some (.slice none 0 0) := (blk_cell BK818.out 1).trans rfl; have hfz103_0 := blk_frozen BK818.out 0; have hfz103_1 := blk_frozen BK818.out 1))
          refine bodyPost_ret (results_ct rfl _ _ gb818 29 #[.slice none 0 0, .slice none 0 0] (0, 0) _ rfl (by (with_reducible repeat (first | refine blk_drewN ?_ _ | refine blk_drew ?_ | refine blk_alloc ?_ _)); refine blk_put (cs := #[.slice none 0 0, .slice none 0 0]) ?_ 1 _ rfl; (with_reducible repeat (first | refine blk_drewN ?_ _ | refine blk_drew ?_ | refine blk_alloc ?_ _)); refine blk_put (cs := #[.slice none 0 0, .slice none 0 0]) ?_ 0 _ rfl; (with_reducible repeat (first | refine blk_drewN ?_ _ | refine blk_drew ?_ | refine blk_alloc ?_ _)); exact BK818.out) Try.underlying29 rfl (by kernel_rfl)) rfl ?_
          exact ⟨_, _, by first | rfl | (simp [errW_none, errW_some] <;> rfl) | (simp [*, errW_none, errW_some] <;> rfl), by first | exact Kd.S_nil _ _ _ _ _ | exact Kd.N_nil _ _ _ _ _ | exact Kd.V_nil _ _ _ _ _ | exact Kd.Q_nil _ _ _ _ _ | exact Kd.R_nil _ _ _ _ _, by first | exact Kd.R_nil _ _ _ _ _ | exact Kd.N_nil _ _ _ _ _ | exact Kd.V_nil _ _ _ _ _ | exact Kd.Q_nil _ _ _ _ _ | exact Kd.S_nil _ _ _ _ _, hb_⟩
     ·rw [if_neg c24] at H
      have c24b0 : (x7_21 == 0) = false := beq_eq_false_iff_ne.mpr c24
      have c24b1 : (x7_21 != 0) = true := bne_iff_ne.mpr c24
      simp only [Option.some.injEq, Prod.mk.injEq] at H
      obtain ⟨rfl, rfl, rfl⟩ := H
      have hnb104 := NB818_817.out
      have hnc104 := NB817_818.out
      have hnb105 := NB818_827.out
      have hnc105 := NB827_818.out
      have hcz106_0 : wc.cell? ⟨gb818, 0, none⟩ = some (.slice none 0 0) := (blk_cell BK818.out 0).trans rfl
      have hcz106_1 : wc.cell? ⟨gb818, 1, none⟩ = some (.slice none 0 0) := (blk_cell BK818.out 1).trans rfl
      have hfz106_0 := blk_frozen BK818.out 0
      have hfz106_1 := blk_frozen BK818.out 1
      go_wp2
      refine bodyPost_ret (results_ct rfl _ _ gb818 29 #[.slice none 0 0, .slice none 0 0] (0, 0) _ rfl (by (with_reducible repeat (first | refine blk_drewN ?_ _ | refine blk_drew ?_ | refine blk_alloc ?_ _)); refine blk_put (cs := #[.slice none 0 0, .slice none 0 0]) ?_ 1 _ rfl; (with_reducible repeat (first | refine blk_drewN ?_ _ | refine blk_drew ?_ | refine blk_alloc ?_ _)); refine blk_put (cs := #[.slice none 0 0, .slice none 0 0]) ?_ 0 _ rfl; (with_reducible repeat (first | refine blk_drewN ?_ _ | refine blk_drew ?_ | refine blk_alloc ?_ _)); exact BK818.out) Try.underlying29 rfl (by kernel_rfl)) rfl ?_
      exact ⟨_, _, by first | rfl | (simp [errW_none, errW_some] <;> rfl) | (simp [*, errW_none, errW_some] <;> rfl), by first | exact Kd.S_nil _ _ _ _ _ | exact Kd.N_nil _ _ _ _ _ | exact Kd.V_nil _ _ _ _ _ | exact Kd.Q_nil _ _ _ _ _ | exact Kd.R_nil _ _ _ _ _, by first | exact Kd.R_nil _ _ _ _ _ | exact Kd.N_nil _ _ _ _ _ | exact Kd.V_nil _ _ _ _ _ | exact Kd.Q_nil _ _ _ _ _ | exact Kd.S_nil _ _ _ _ _, hb_⟩
def laws_heldInt64SS.l0 : Nat → List (List Int) → Int → Int → Option (Int)
 | 0, _, _, _ => none
 | k + 1, x0, x1, x5 => if x5 < (x0.length : Int) then (if 0 ≤ x5 then ((laws_heldInt64S.f k (rd_L1 x0 x5) x1).bind fun t150 => (if t150 < 0 then (some (-1)) else (laws_heldInt64SS.l0 k x0 t150 (wrap64 (x5 + 1))))) else (none)) else (some x1)
def laws_heldInt64SS.f (k : Nat) (l0 : List (List Int)) (a1 : Int) : Option (Int) := laws_heldInt64SS.l0 k l0 a1 0
theorem laws_heldInt64SS.mono_l : ∀ k, (∀ y0 y1 y2, LeO (laws_heldInt64SS.l0 k y0 y1 y2) (laws_heldInt64SS.l0 (k + 1) y0 y1 y2))
 | 0 => fun _ _ _ r h => by simp [laws_heldInt64SS.l0] at h
 | k + 1 => by
  have ih0 := laws_heldInt64SS.mono_l k
  ·intro y0 y1 y2
   unfold laws_heldInt64SS.l0
   repeat' first
   | (with_reducible exact ih0 _ _ _)
   | (with_reducible exact laws_heldInt64S.mono _ _ _)
   | (with_reducible exact LeO.refl _)
   | (with_reducible exact LeO.none _)
   | (with_reducible refine LeO.ite ?_ ?_)
   | (with_reducible refine LeO.bind ?_ (fun _ => ?_))
   | exact ih0 _ _ _
   | exact laws_heldInt64S.mono _ _ _
   | exact LeO.none _
   | refine LeO.ite ?_ ?_
   | refine LeO.bind ?_ (fun _ => ?_)
theorem laws_heldInt64SS.mono : ∀ a0 a1 k, LeO (laws_heldInt64SS.f k a0 a1) (laws_heldInt64SS.f (k + 1) a0 a1) := by
 intro a0 a1 k
 have ih0 := laws_heldInt64SS.mono_l k
 unfold laws_heldInt64SS.f
 repeat' first
   | (with_reducible exact ih0 _ _ _)
   | (with_reducible exact laws_heldInt64S.mono _ _ _)
   | (with_reducible exact LeO.refl _)
   | (with_reducible exact LeO.none _)
   | (with_reducible refine LeO.ite ?_ ?_)
   | (with_reducible refine LeO.bind ?_ (fun _ => ?_))
   | exact ih0 _ _ _
   | exact laws_heldInt64S.mono _ _ _
   | exact LeO.none _
   | refine LeO.ite ?_ ?_
   | refine LeO.bind ?_ (fun _ => ?_)
theorem laws_heldInt64SS.calls (k : Nat) (A0 : Option Addr) (c0 : Nat) (l0 : List (List Int)) (a1 : Int) (r : Int) (w : World) (hr0 : Kd.C (Kd.slice 2 (Kd.int .i64)) w A0 l0.length l0) (hc0 : l0.length ≤ c0) (h : laws_heldInt64SS.f k l0 a1 = some r) :
  Calls Try.prog 23 #[.slice A0 l0.length c0, .int .i64 a1] w fun e w' => e = .returned (.int .i64 r) ∧ Drawn0 w w' := by
 have HR0 := Aside0.mk hr0
 have HC0 := Aside0.mk hc0
 clear hr0 hc0
 have H : (laws_heldInt64SS.l0 k l0 a1 0) = some r := h
 clear h
 have H' := Aside0.mk H
 clear H
 go_enter Try.func23, Try.ntmps23
 go_wp2
 go_loopg [1, 5] k (fun kq v1 v5 w' => ∃ (x1_1 : Int) (x5_1 : Int), v1 = .int .i64 x1_1 ∧ v5 = .int .i64 x5_1 ∧ Aside0 (laws_heldInt64SS.l0 kq l0 x1_1 x5_1 = some r) ∧ Aside0 (kq ≤ k) ∧ Drawn0 w w')
 case atStart => exact ⟨(a1), (0), (by first | rfl | (simp; done) | (simp [*]; done)), (by first | rfl | (simp; done) | (simp [*]; done)), H', ⟨Nat.le_refl _⟩, by repeat (first | exact Drawn0.refl _ | apply Drawn0.step)⟩
 case round =>
  clear H'
  try clear c2
  try clear p2
  obtain ⟨x1_1, x5_1, rfl, rfl, HA, HK1, ⟨m1, rfl⟩⟩ := hrel
  cases gk with
  | zero => exact absurd HA.out (by simp [laws_heldInt64SS.l0])
  | succ k1 =>
   have H := HA.out
   clear HA
   simp only [laws_heldInt64SS.l0] at H
   by_cases c3 : x5_1 < (l0.length : Int)
   ·rw [if_pos c3] at H
    have c3b0 : decide (x5_1 < (l0.length : Int)) = true := decide_eq_true c3
    clear c3
    by_cases c4 : 0 ≤ x5_1
    ·rw [if_pos c4] at H
     have c4b0 : decide (0 ≤ x5_1) = true := decide_eq_true c4
     clear c4
     replace H := Option.bind_eq_some_iff.mp H
     obtain ⟨t150, A50, H⟩ := H
     replace H : (if t150 < 0 then (some (-1)) else (laws_heldInt64SS.l0 k1 l0 t150 (wrap64 (x5_1 + 1)))) = some r := H
     have A5 := Aside0.mk A50
     clear A50
     by_cases c6 : t150 < 0
     ·rw [if_pos c6] at H
      have c6b0 : decide (t150 < 0) = true := decide_eq_true c6
      clear c6
      obtain rfl := Option.some.inj H
      have p149 : 0 ≤ (x5_1 : Int) := of_decide_eq_true (by first | (with_reducible assumption) | assumption)
      have q149 : x5_1 < (l0.length : Int) := of_decide_eq_true (by first | (with_reducible assumption) | assumption)
      obtain ⟨ad149, A149_0, c149_0, e149, hx149_0, hl149_0, hi149_0⟩ := at_L1 HR0.out x5_1 p149 q149
      cases e149
      have HR149_0 := Aside0.mk hi149_0
      have HC149_0 := Aside0.mk hl149_0
      clear hi149_0 hl149_0
      replace p149 := eq_true p149
      replace q149 := eq_true q149
      go_wp2_with (first | ((with_reducible refine gate_callee (f := 37) rfl ?_); refine goesL_ (some 17) rfl rfl Try.func37 (by kernel_rfl) rfl #[.slice A149_0 (rd_L1 l0 x5_1).length c149_0, .int .i64 x1_1] rfl (by (try simp only [List.map_toArray, List.map_cons, List.map_nil]); first | done | rfl | (simp only [List.length_drop, List.length_take]; rfl)) ?_; (with_reducible refine (laws_heldInt64S.calls k1 _ _ (rd_L1 l0 x5_1) x1_1 t150 _ ?side1 ?side2 A5.out).mono ?_); (case side1 => repeat (first | exact HR149_0.out | (with_reducible refine Kd.C_alloc ?_ _) | (with_reducible refine Kd.C_drewN ?_ _) | (with_reducible refine Kd.C_drew ?_))); (case side2 => exact HC149_0.out); rintro e w' ⟨rfl, ⟨nd, rfl⟩⟩; refine ⟨_, rfl, ?_⟩))
      go_ret
      exact ⟨by first | rfl | (simp; done) | (simp [*]; done), by repeat (first | exact Drawn0.refl _ | apply Drawn0.step)⟩
     ·rw [if_neg c6] at H
      have c6b0 : decide (t150 < 0) = false := decide_eq_false c6
      clear c6
      have H' := Aside0.mk H
      clear H
      have p149 : 0 ≤ (x5_1 : Int) := of_decide_eq_true (by first | (with_reducible assumption) | assumption)
      have q149 : x5_1 < (l0.length : Int) := of_decide_eq_true (by first | (with_reducible assumption) | assumption)
      obtain ⟨ad149, A149_0, c149_0, e149, hx149_0, hl149_0, hi149_0⟩ := at_L1 HR0.out x5_1 p149 q149
      cases e149
      have HR149_0 := Aside0.mk hi149_0
      have HC149_0 := Aside0.mk hl149_0
      clear hi149_0 hl149_0
      replace p149 := eq_true p149
      replace q149 := eq_true q149
      go_wp2_with (first | ((with_reducible refine gate_callee (f := 37) rfl ?_); refine goesL_ (some 17) rfl rfl Try.func37 (by kernel_rfl) rfl #[.slice A149_0 (rd_L1 l0 x5_1).length c149_0, .int .i64 x1_1] rfl (by (try simp only [List.map_toArray, List.map_cons, List.map_nil]); first | done | rfl | (simp only [List.length_drop, List.length_take]; rfl)) ?_; (with_reducible refine (laws_heldInt64S.calls k1 _ _ (rd_L1 l0 x5_1) x1_1 t150 _ ?side1 ?side2 A5.out).mono ?_); (case side1 => repeat (first | exact HR149_0.out | (with_reducible refine Kd.C_alloc ?_ _) | (with_reducible refine Kd.C_drewN ?_ _) | (with_reducible refine Kd.C_drew ?_))); (case side2 => exact HC149_0.out); rintro e w' ⟨rfl, ⟨nd, rfl⟩⟩; refine ⟨_, rfl, ?_⟩))
      go_roundg k1
      case measure => have := HK1.out; omega
      case rel => exact ⟨(t150), (wrap64 (x5_1 + 1)), (by first | rfl | (simp; done) | (simp [*]; done)), (by first | rfl | (simp; done) | (simp [*]; done)), H', ⟨by have := HK1.out; omega⟩, by repeat (first | exact Drawn0.refl _ | apply Drawn0.step)⟩
    ·rw [if_neg c4] at H
     exact absurd H (by simp)
   ·rw [if_neg c3] at H
    have c3b0 : decide (x5_1 < (l0.length : Int)) = false := decide_eq_false c3
    clear c3
    obtain rfl := Option.some.inj H
    go_wp2
    go_ret
    exact ⟨by first | rfl | (simp; done) | (simp [*]; done), by repeat (first | exact Drawn0.refl _ | apply Drawn0.step)⟩
def laws_heldProblem.f (k : Nat) (l0_0 : List (List Int)) (l0_1 : List Int) (a1 : Int) : Option (Int) := (laws_heldInt64SS.f k l0_0 a1).bind fun t152 => (if t152 < 0 then (some (-1)) else ((laws_heldInt64S.f k l0_1 t152).bind fun t153 => (if t153 < 0 then (some (-1)) else (some t153))))
theorem laws_heldProblem.mono : ∀ a0 a1 a2 k, LeO (laws_heldProblem.f k a0 a1 a2) (laws_heldProblem.f (k + 1) a0 a1 a2) := by
 intro a0 a1 a2 k
 unfold laws_heldProblem.f
 repeat' first
   | (with_reducible exact laws_heldInt64S.mono _ _ _)
   | (with_reducible exact laws_heldInt64SS.mono _ _ _)
   | (with_reducible exact LeO.refl _)
   | (with_reducible exact LeO.none _)
   | (with_reducible refine LeO.ite ?_ ?_)
   | (with_reducible refine LeO.bind ?_ (fun _ => ?_))
   | exact laws_heldInt64S.mono _ _ _
   | exact laws_heldInt64SS.mono _ _ _
   | exact LeO.none _
   | refine LeO.ite ?_ ?_
   | refine LeO.bind ?_ (fun _ => ?_)
theorem laws_heldProblem.calls (k : Nat) (A0_0 : Option Addr) (c0_0 : Nat) (l0_0 : List (List Int)) (A0_1 : Option Addr) (c0_1 : Nat) (l0_1 : List Int) (a1 : Int) (r : Int) (w : World) (hr0_0 : Kd.C (Kd.slice 2 (Kd.int .i64)) w A0_0 l0_0.length l0_0) (hc0_0 : l0_0.length ≤ c0_0) (hr0_1 : Kd.C (Kd.int .i64) w A0_1 l0_1.length l0_1) (hc0_1 : l0_1.length ≤ c0_1) (h : laws_heldProblem.f k l0_0 l0_1 a1 = some r) :
  Calls Try.prog 42 #[.agg #[.slice A0_0 l0_0.length c0_0, .slice A0_1 l0_1.length c0_1], .int .i64 a1] w fun e w' => e = .returned (.int .i64 r) ∧ Below w.heap.size w w' := by
 have hu29 := Try.underlying29
 have HR0_0 := Aside0.mk hr0_0
 have HC0_0 := Aside0.mk hc0_0
 clear hr0_0 hc0_0
 have HR0_1 := Aside0.mk hr0_1
 have HC0_1 := Aside0.mk hc0_1
 clear hr0_1 hc0_1
 have HB := Aside0.mk (Below.refl w.heap.size w)
 have H : ((laws_heldInt64SS.f k l0_0 a1).bind fun t152 => (if t152 < 0 then (some (-1)) else ((laws_heldInt64S.f k l0_1 t152).bind fun t153 => (if t153 < 0 then (some (-1)) else (some t153))))) = some r := h
 clear h
 replace H := Option.bind_eq_some_iff.mp H
 obtain ⟨t152, A30, H⟩ := H
 replace H : (if t152 < 0 then (some (-1)) else ((laws_heldInt64S.f k l0_1 t152).bind fun t153 => (if t153 < 0 then (some (-1)) else (some t153)))) = some r := H
 have A3 := Aside0.mk A30
 clear A30
 by_cases c4 : t152 < 0
 ·rw [if_pos c4] at H
  have c4b0 : decide (t152 < 0) = true := decide_eq_true c4
  clear c4
  obtain rfl := Option.some.inj H
  go_enter Try.func42, Try.ntmps42
  go_wp2_with (first | ((with_reducible refine gate_dst (N := 2) rfl ?_); refine box_event ?hg (N := 2) ?hd (cs := #[.slice A0_0 l0_0.length c0_0, .slice A0_1 l0_1.length c0_1]) (t := 29) ?hr ?_; (case hd => rfl); (case hg => rfl); (case hr => first | (go_simp; done) | (go_simp; rfl)); intro gb151 hg w5 hbox hb; have n0_ := Aside0.mk (bs_ hb); have n1_ := Aside0.mk (hbox); have n2_ := Aside0.mk ((by rw [hg]; exact bz_ : w.heap.size ≤ gb151)); have n3_ := Aside0.mk ((by rw [hg]; exact bz_ : w.heap.size ≤ gb151)); clear HB; have HB := n0_; have BK151 := n1_; have GW151 := n2_; have GE151 := n3_; clear n0_ n1_ n2_ n3_; clear hb hbox hg; have hcz6_0 : w5.cell? ⟨gb151, 0, none⟩ = some (.slice A0_0 l0_0.length c0_0) := (blk_cell BK151.out 0).trans rfl; have hcz6_1 : w5.cell? ⟨gb151, 1, none⟩ = some (.slice A0_1 l0_1.length c0_1) := (blk_cell BK151.out 1).trans rfl; have hfz6_0 := blk_frozen BK151.out 0; have hfz6_1 := blk_frozen BK151.out 1) | ((with_reducible refine gate_callee (f := 23) rfl ?_); refine goesL_ (some 8) rfl rfl Try.func23 (by kernel_rfl) rfl #[.slice A0_0 l0_0.length c0_0, .int .i64 a1] rfl (by (try simp only [List.map_toArray, List.map_cons, List.map_nil]); first | done | rfl | (simp only [List.length_drop, List.length_take]; rfl)) ?_; (with_reducible refine (laws_heldInt64SS.calls k _ _ l0_0 a1 t152 _ ?side1 ?side2 A3.out).mono ?_); (case side1 => exact cb_ HR0_0.out HB.out); (case side2 => exact HC0_0.out); rintro e w' ⟨rfl, ⟨nd, rfl⟩⟩; refine ⟨_, rfl, ?_⟩))
  go_ret
  exact ⟨by first | rfl | (simp [errW_none, errW_some] <;> rfl) | (simp [*, errW_none, errW_some] <;> rfl), hb_⟩
 ·rw [if_neg c4] at H
  have c4b0 : decide (t152 < 0) = false := decide_eq_false c4
  clear c4
  replace H := Option.bind_eq_some_iff.mp H
  obtain ⟨t153, A70, H⟩ := H
  replace H : (if t153 < 0 then (some (-1)) else (some t153)) = some r := H
  have A7 := Aside0.mk A70
  clear A70
  by_cases c8 : t153 < 0
  ·rw [if_pos c8] at H
   have c8b0 : decide (t153 < 0) = true := decide_eq_true c8
   clear c8
   obtain rfl := Option.some.inj H
   go_enter Try.func42, Try.ntmps42
   go_wp2_with (first | ((with_reducible refine gate_dst (N := 2) rfl ?_); refine box_event ?hg (N := 2) ?hd (cs := #[.slice A0_0 l0_0.length c0_0, .slice A0_1 l0_1.length c0_1]) (t := 29) ?hr ?_; (case hd => rfl); (case hg => rfl); (case hr => first | (go_simp; done) | (go_simp; rfl)); intro gb151 hg w9 hbox hb; have n0_ := Aside0.mk (bs_ hb); have n1_ := Aside0.mk (hbox); have n2_ := Aside0.mk ((by rw [hg]; exact bz_ : w.heap.size ≤ gb151)); have n3_ := Aside0.mk ((by rw [hg]; exact bz_ : w.heap.size ≤ gb151)); clear HB; have HB := n0_; have BK151 := n1_; have GW151 := n2_; have GE151 := n3_; clear n0_ n1_ n2_ n3_; clear hb hbox hg; have hcz10_0 : w9.cell? ⟨gb151, 0, none⟩ = some (.slice A0_0 l0_0.length c0_0) := (blk_cell BK151.out 0).trans rfl; have hcz10_1 : w9.cell? ⟨gb151, 1, none⟩ = some (.slice A0_1 l0_1.length c0_1) := (blk_cell BK151.out 1).trans rfl; have hfz10_0 := blk_frozen BK151.out 0; have hfz10_1 := blk_frozen BK151.out 1) | ((with_reducible refine gate_callee (f := 23) rfl ?_); refine goesL_ (some 8) rfl rfl Try.func23 (by kernel_rfl) rfl #[.slice A0_0 l0_0.length c0_0, .int .i64 a1] rfl (by (try simp only [List.map_toArray, List.map_cons, List.map_nil]); first | done | rfl | (simp only [List.length_drop, List.length_take]; rfl)) ?_; (with_reducible refine (laws_heldInt64SS.calls k _ _ l0_0 a1 t152 _ ?side1 ?side2 A3.out).mono ?_); (case side1 => exact cb_ HR0_0.out HB.out); (case side2 => exact HC0_0.out); rintro e w' ⟨rfl, ⟨nd, rfl⟩⟩; refine ⟨_, rfl, ?_⟩) | ((with_reducible refine gate_callee (f := 37) rfl ?_); refine goesL_ (some 14) rfl rfl Try.func37 (by kernel_rfl) rfl #[.slice A0_1 l0_1.length c0_1, .int .i64 t152] rfl (by (try simp only [List.map_toArray, List.map_cons, List.map_nil]); first | done | rfl | (simp only [List.length_drop, List.length_take]; rfl)) ?_; (with_reducible refine (laws_heldInt64S.calls k _ _ l0_1 t152 t153 _ ?side1 ?side2 A7.out).mono ?_); (case side1 => repeat (first | exact (Kd.C_below HR0_1.out hb_) | (with_reducible refine Kd.C_alloc ?_ _) | (with_reducible refine Kd.C_drewN ?_ _) | (with_reducible refine Kd.C_drew ?_))); (case side2 => exact HC0_1.out); rintro e w' ⟨rfl, ⟨nd, rfl⟩⟩; refine ⟨_, rfl, ?_⟩))
   go_ret
   exact ⟨by first | rfl | (simp [errW_none, errW_some] <;> rfl) | (simp [*, errW_none, errW_some] <;> rfl), hb_⟩
  ·rw [if_neg c8] at H
   have c8b0 : decide (t153 < 0) = false := decide_eq_false c8
   clear c8
   obtain rfl := Option.some.inj H
   go_enter Try.func42, Try.ntmps42
   go_wp2_with (first | ((with_reducible refine gate_dst (N := 2) rfl ?_); refine box_event ?hg (N := 2) ?hd (cs := #[.slice A0_0 l0_0.length c0_0, .slice A0_1 l0_1.length c0_1]) (t := 29) ?hr ?_; (case hd => rfl); (case hg => rfl); (case hr => first | (go_simp; done) | (go_simp; rfl)); intro gb151 hg w11 hbox hb; have n0_ := Aside0.mk (bs_ hb); have n1_ := Aside0.mk (hbox); have n2_ := Aside0.mk ((by rw [hg]; exact bz_ : w.heap.size ≤ gb151)); have n3_ := Aside0.mk ((by rw [hg]; exact bz_ : w.heap.size ≤ gb151)); clear HB; have HB := n0_; have BK151 := n1_; have GW151 := n2_; have GE151 := n3_; clear n0_ n1_ n2_ n3_; clear hb hbox hg; have hcz12_0 : w11.cell? ⟨gb151, 0, none⟩ = some (.slice A0_0 l0_0.length c0_0) := (blk_cell BK151.out 0).trans rfl; have hcz12_1 : w11.cell? ⟨gb151, 1, none⟩ = some (.slice A0_1 l0_1.length c0_1) := (blk_cell BK151.out 1).trans rfl; have hfz12_0 := blk_frozen BK151.out 0; have hfz12_1 := blk_frozen BK151.out 1) | ((with_reducible refine gate_callee (f := 23) rfl ?_); refine goesL_ (some 8) rfl rfl Try.func23 (by kernel_rfl) rfl #[.slice A0_0 l0_0.length c0_0, .int .i64 a1] rfl (by (try simp only [List.map_toArray, List.map_cons, List.map_nil]); first | done | rfl | (simp only [List.length_drop, List.length_take]; rfl)) ?_; (with_reducible refine (laws_heldInt64SS.calls k _ _ l0_0 a1 t152 _ ?side1 ?side2 A3.out).mono ?_); (case side1 => exact cb_ HR0_0.out HB.out); (case side2 => exact HC0_0.out); rintro e w' ⟨rfl, ⟨nd, rfl⟩⟩; refine ⟨_, rfl, ?_⟩) | ((with_reducible refine gate_callee (f := 37) rfl ?_); refine goesL_ (some 14) rfl rfl Try.func37 (by kernel_rfl) rfl #[.slice A0_1 l0_1.length c0_1, .int .i64 t152] rfl (by (try simp only [List.map_toArray, List.map_cons, List.map_nil]); first | done | rfl | (simp only [List.length_drop, List.length_take]; rfl)) ?_; (with_reducible refine (laws_heldInt64S.calls k _ _ l0_1 t152 t153 _ ?side1 ?side2 A7.out).mono ?_); (case side1 => repeat (first | exact (Kd.C_below HR0_1.out hb_) | (with_reducible refine Kd.C_alloc ?_ _) | (with_reducible refine Kd.C_drewN ?_ _) | (with_reducible refine Kd.C_drew ?_))); (case side2 => exact HC0_1.out); rintro e w' ⟨rfl, ⟨nd, rfl⟩⟩; refine ⟨_, rfl, ?_⟩))
   go_ret
   exact ⟨by first | rfl | (simp [errW_none, errW_some] <;> rfl) | (simp [*, errW_none, errW_some] <;> rfl), hb_⟩
end Go.Proofs.Ythdoilfjcgickaa.Pr
end
section
namespace Go.Proofs.Ythdoilfjcgickaa.Pr
open Go.RowKit Go.Proofs.YthdoilfjcgickaaW.PrintWords Go.Proofs.YthdoilfjcgickaaW.PrintLast Go.Proofs.YthdoilfjcgickaaW.PrintMore Go.Proofs.Ythdoilfjcgickaa.La Go.Proofs.Ythdoilfjcgickaa.Hm Go.Proofs.Ythdoilfjcgickaa.Lw
theorem laws_FnExactPivotedProblem.walk (k : Nat) (A0_0 : Option Addr) (c0_0 : Nat) (l0_0 : List (List Int)) (A0_1 : Option Addr) (c0_1 : Nat) (l0_1 : List Int) (a1 : Int) (t18 : Int) (s0 : List (List Int)) (s1 : List Int) (s2 : Int) (m1 : Int) (m2 : Int) (w : World) (hr0_0 : Kd.C (Kd.slice 2 (Kd.int .i64)) w A0_0 l0_0.length l0_0) (hc0_0 : l0_0.length ≤ c0_0) (hr0_1 : Kd.C (Kd.int .i64) w A0_1 l0_1.length l0_1) (hc0_1 : l0_1.length ≤ c0_1) (h1 : laws_szProblem.f k l0_0 l0_1 1048576 = some t18) (h2 : ¬ t18 < 0) (h3 : laws_toProblem.f k l0_0 l0_1 = some (l0_0, l0_1)) (h4 : spec_PivotedProblem.f k l0_0 l0_1 a1 = some (s0, s1, s2)) (h5 : impl_PivotedProblem.f k l0_0 l0_1 a1 = some (s0, s1, s2)) (h6 : laws_eqProblem.f k s0 s1 s0 s1 = some true) (h7 : laws_eqProblem.f k l0_0 l0_1 l0_0 l0_1 = some true) (h8 : m1 = 1 + (lens l0_0 : Int) + (l0_1.length : Int)) (h9 : 1 + (lens l0_0 : Int) + (l0_1.length : Int) ≤ 1099511627776) (h10 : l0_0.length ≤ 1099511627776) (h11 : ¬ m1 < 0) (h12 : m2 = 1 + (lens s0 : Int) + (s1.length : Int)) (h13 : 1 + (lens s0 : Int) + (s1.length : Int) ≤ 1099511627776) (h14 : s0.length ≤ 1099511627776) (h15 : ¬ m2 < 0) (h16 : laws_heldProblem.f k ((marks s0 1)) ((count (1 + lens s0) s1.length)) 1 = some m2) :
  Calls Try.prog 9 #[.agg #[.slice A0_0 l0_0.length c0_0, .slice A0_1 l0_1.length c0_1], .int .i64 a1] w fun e w' => e = .returned (.bool true) ∧ Below w.heap.size w w' := by
 have HR0_0 := Aside0.mk hr0_0
 have HC0_0 := Aside0.mk hc0_0
 clear hr0_0 hc0_0
 have HR0_1 := Aside0.mk hr0_1
 have HC0_1 := Aside0.mk hc0_1
 clear hr0_1 hc0_1
 have HB := Aside0.mk (Below.refl w.heap.size w)
 have H1' := Aside0.mk h1
 clear h1
 have H3' := Aside0.mk h3
 clear h3
 have H4' := Aside0.mk h4
 clear h4
 have H5' := Aside0.mk h5
 clear h5
 have H6' := Aside0.mk h6
 clear h6
 have H7' := Aside0.mk h7
 clear h7
 have H8' := Aside0.mk h8
 clear h8
 have H9' := Aside0.mk h9
 clear h9
 have H10' := Aside0.mk h10
 clear h10
 have H12' := Aside0.mk h12
 clear h12
 have H13' := Aside0.mk h13
 clear h13
 have H14' := Aside0.mk h14
 clear h14
 have H16' := Aside0.mk h16
 clear h16
 go_enter Try.func9, Try.ntmps9
 go_wp2_with (first | ((with_reducible refine gate_dst (N := 2) rfl ?_); refine box_event ?hg (N := 2) ?hd (cs := #[.slice A0_0 l0_0.length c0_0, .slice A0_1 l0_1.length c0_1]) (t := 25) ?hr ?_; (case hd => rfl); (case hg => rfl); (case hr => first | (go_simp; done) | (go_simp; rfl)); intro g2 hg w1 hbox hb; have Gg2 : Aside0 (g2 = w.heap.size) := ⟨hg⟩; have Kg2 := Aside0.mk (blk_lt hbox); clear hg; have n_HB := Aside0.mk (below_step HB.out hb); have NN1 : Aside0 (w.heap.size ≤ w1.heap.size) := ⟨hb.size⟩; clear HB; have HB := n_HB; clear n_HB; have Bg2 := Aside0.mk hbox; clear hb hbox; have hc2_0 : w1.cell? ⟨g2, 0, none⟩ = some (.slice A0_0 l0_0.length c0_0) := (blk_cell Bg2.out 0).trans rfl; have hf2_0 := blk_frozen Bg2.out 0; have hc2_1 : w1.cell? ⟨g2, 1, none⟩ = some (.slice A0_1 l0_1.length c0_1) := (blk_cell Bg2.out 1).trans rfl; have hf2_1 := blk_frozen Bg2.out 1) | ((with_reducible refine gate_callee (f := 15) rfl ?_); refine goesL_ (some 18) rfl rfl Try.func15 (by kernel_rfl) rfl #[.agg #[.slice A0_0 l0_0.length c0_0, .slice A0_1 l0_1.length c0_1], .int .i64 1048576] rfl (by (try simp only [List.map_toArray, List.map_cons, List.map_nil]); first | done | rfl) ?_; refine (laws_szProblem.calls k _ _ l0_0 _ _ l0_1 1048576 t18 _ ?s1 ?s2 ?s3 ?s4 H1'.out).mono ?_; (case s1 => exact Kd.C_below HR0_0.out HB.out); (case s2 => exact HC0_0.out); (case s3 => exact Kd.C_below HR0_1.out HB.out); (case s4 => exact HC0_1.out); rintro e w2 ⟨rfl, hb⟩; refine ⟨_, rfl, ?_⟩; have n_Bg2 := Aside0.mk (blk_below Bg2.out hb); have n_HB := Aside0.mk (below_step HB.out hb); have NN2 : Aside0 (w1.heap.size ≤ w2.heap.size) := ⟨hb.size⟩; clear hc2_0 hf2_0; clear hc2_1 hf2_1; clear Bg2 HB; have Bg2 := n_Bg2; have HB := n_HB; clear n_Bg2 n_HB; clear hb; have hc2_0 : w2.cell? ⟨g2, 0, none⟩ = some (.slice A0_0 l0_0.length c0_0) := (blk_cell Bg2.out 0).trans rfl; have hf2_0 := blk_frozen Bg2.out 0; have hc2_1 : w2.cell? ⟨g2, 1, none⟩ = some (.slice A0_1 l0_1.length c0_1) := (blk_cell Bg2.out 1).trans rfl; have hf2_1 := blk_frozen Bg2.out 1) | ((with_reducible refine gate_callee (f := 17) rfl ?_); refine goesL_ (some 23) rfl rfl Try.func17 (by kernel_rfl) rfl #[.agg #[.slice A0_0 l0_0.length c0_0, .slice A0_1 l0_1.length c0_1]] rfl (by (try simp only [List.map_toArray, List.map_cons, List.map_nil]); first | done | rfl) ?_; refine (laws_toProblem.calls k _ _ l0_0 _ _ l0_1 l0_0 l0_1 _ ?s1 ?s2 ?s3 ?s4 H3'.out).mono ?_; (case s1 => exact Kd.C_below HR0_0.out HB.out); (case s2 => exact HC0_0.out); (case s3 => exact Kd.C_below HR0_1.out HB.out); (case s4 => exact HC0_1.out); rintro e w3 ⟨v23_0, v23_1, rfl, ho0, ho1, hb⟩; refine ⟨_, rfl, ?_⟩; have nu0 := Aside0.mk (UP.of ho0 ho1 HB.out.size); have n_Bg2 := Aside0.mk (blk_below Bg2.out hb); have n_HB := Aside0.mk (below_step HB.out hb); have NN3 : Aside0 (w2.heap.size ≤ w3.heap.size) := ⟨hb.size⟩; clear hc2_0 hf2_0; clear hc2_1 hf2_1; clear Bg2 HB; have Bg2 := n_Bg2; have HB := n_HB; clear n_Bg2 n_HB; clear hb ho0 ho1; have U23 := nu0; clear nu0; obtain ⟨A23_0, c23_0, A23_1, c23_1, e0, e1⟩ := U23.out.slices; subst e0; subst e1) | ((with_reducible refine gate_callee (f := 40) rfl ?_); refine goesL_ (some 25) rfl rfl Try.func40 (by kernel_rfl) rfl #[.agg #[.slice A23_0 l0_0.length c23_0, .slice A23_1 l0_1.length c23_1], .int .i64 a1] rfl (by (try simp only [List.map_toArray, List.map_cons, List.map_nil]); first | done | rfl) ?_; refine (spec_PivotedProblem.calls k _ _ l0_0 _ _ l0_1 a1 s0 s1 s2 _ ?s1 ?s2 ?s3 ?s4 H4'.out).mono ?_; (case s1 => exact U23.out.C0); (case s2 => exact U23.out.cap0); (case s3 => exact U23.out.C1); (case s4 => exact U23.out.cap1); rintro e w4 ⟨v25_0, v25_1, rfl, ho0, ho1, hb⟩; refine ⟨_, rfl, ?_⟩; have nu0 := Aside0.mk (UP.of ho0 ho1 HB.out.size); have n_U23 := Aside0.mk (U23.out.mvB (Frm.below hb)); have n_Bg2 := Aside0.mk (blk_below Bg2.out hb); have n_HB := Aside0.mk (below_step HB.out hb); have NN4 : Aside0 (w3.heap.size ≤ w4.heap.size) := ⟨hb.size⟩; clear U23 Bg2 HB; have U23 := n_U23; have Bg2 := n_Bg2; have HB := n_HB; clear n_U23 n_Bg2 n_HB; clear hb ho0 ho1; have U25 := nu0; clear nu0; obtain ⟨A25_0, c25_0, A25_1, c25_1, e0, e1⟩ := U25.out.slices; subst e0; subst e1) | ((with_reducible refine gate_dst (N := 6) rfl ?_); refine box_event ?hg (N := 6) ?hd (cs := #[.slice none 0 0, .slice none 0 0]) (t := 29) ?hr ?_; (case hd => rfl); (case hg => rfl); (case hr => first | (go_simp; done) | (go_simp; rfl)); intro g6 hg w5 hbox hb; have Gg6 : Aside0 (g6 = w4.heap.size) := ⟨hg⟩; have Kg6 := Aside0.mk (blk_lt hbox); clear hg; have n_U23 := Aside0.mk (U23.out.mvB (Frm.below hb)); have n_U25 := Aside0.mk (U25.out.mvB (Frm.below hb)); have n_Bg2 := Aside0.mk (blk_below Bg2.out hb); have n_HB := Aside0.mk (below_step HB.out hb); have NN5 : Aside0 (w4.heap.size ≤ w5.heap.size) := ⟨hb.size⟩; clear U23 U25 Bg2 HB; have U23 := n_U23; have U25 := n_U25; have Bg2 := n_Bg2; have HB := n_HB; clear n_U23 n_U25 n_Bg2 n_HB; have Bg6 := Aside0.mk hbox; clear hb hbox; have hc6_0 : w5.cell? ⟨g6, 0, none⟩ = some (.slice none 0 0) := (blk_cell Bg6.out 0).trans rfl; have hf6_0 := blk_frozen Bg6.out 0; have hc6_1 : w5.cell? ⟨g6, 1, none⟩ = some (.slice none 0 0) := (blk_cell Bg6.out 1).trans rfl; have hf6_1 := blk_frozen Bg6.out 1) | ((with_reducible refine gate_store (t := 29) (p := 6) rfl ?_); refine store_event (t := 29) (p := 6) (v := ?vo_w6) (w1 := ((w5.setCell ⟨g6, 0, none⟩ (.slice A25_0 s0.length c25_0)).setCell ⟨g6, 1, none⟩ (.slice A25_1 s1.length c25_1))) ?hg ?ho ?hn ?hr ?_; (case ho => rfl); (case hg => rfl); (case hn => rfl); (case hr => first | (go_simp; done) | (go_simp; rfl)); intro w6 hw; have hge : w.heap.size ≤ g6 := (by have := NN1.out; have := Gg2.out; have := Kg2.out; have := NN2.out; have := NN3.out; have := NN4.out; have := NN5.out; have := Gg6.out; have := Kg6.out; have := HB.out.size; omega); have hF : Frm w5 w6 g6 (g6 + 1) := (by rw [hw]; exact (Frm.trans (Frm.set _ _ _ _) (Frm.set _ _ _ _))); have nb := Aside0.mk (show w6.heap[g6]? = some (.cells #[.slice A25_0 s0.length c25_0, .slice A25_1 s1.length c25_1] 29 (0, 0)) from (by rw [hw]; exact (blk_put (blk_put Bg6.out 0 _ rfl) 1 _ rfl))); have n_U23 := Aside0.mk (U23.out.mv hF (by have := NN1.out; have := Gg2.out; have := Kg2.out; have := NN2.out; have := NN3.out; have := NN4.out; have := NN5.out; have := Gg6.out; have := Kg6.out; omega)); have n_U25 := Aside0.mk (U25.out.mv hF (by have := NN1.out; have := Gg2.out; have := Kg2.out; have := NN2.out; have := NN3.out; have := NN4.out; have := NN5.out; have := Gg6.out; have := Kg6.out; omega)); have n_Bg2 := Aside0.mk ((hF.same g2 (blk_lt Bg2.out) (by have := NN1.out; have := Gg2.out; have := Kg2.out; have := NN2.out; have := NN3.out; have := NN4.out; have := NN5.out; have := Gg6.out; have := Kg6.out; omega)).trans Bg2.out); have n_HB := Aside0.mk ((by rw [hw]; exact (below_set (below_set HB.out hge) hge) : Below w.heap.size w w6)); have NN6 : Aside0 (w5.heap.size ≤ w6.heap.size) := ⟨hF.size⟩; clear hc6_0 hf6_0; clear hc6_1 hf6_1; clear U23 U25 Bg2 HB; have U23 := n_U23; have U25 := n_U25; have Bg2 := n_Bg2; have HB := n_HB; clear n_U23 n_U25 n_Bg2 n_HB; clear Bg6; have Bg6 := nb; clear nb hF hge hw; have hc2_0 : w6.cell? ⟨g2, 0, none⟩ = some (.slice A0_0 l0_0.length c0_0) := (blk_cell Bg2.out 0).trans rfl; have hf2_0 := blk_frozen Bg2.out 0; have hc2_1 : w6.cell? ⟨g2, 1, none⟩ = some (.slice A0_1 l0_1.length c0_1) := (blk_cell Bg2.out 1).trans rfl; have hf2_1 := blk_frozen Bg2.out 1) | ((with_reducible refine gate_callee (f := 17) rfl ?_); refine goesL_ (some 29) rfl rfl Try.func17 (by kernel_rfl) rfl #[.agg #[.slice A0_0 l0_0.length c0_0, .slice A0_1 l0_1.length c0_1]] rfl (by (try simp only [List.map_toArray, List.map_cons, List.map_nil]); first | done | rfl) ?_; refine (laws_toProblem.calls k _ _ l0_0 _ _ l0_1 l0_0 l0_1 _ ?s1 ?s2 ?s3 ?s4 H3'.out).mono ?_; (case s1 => exact Kd.C_below HR0_0.out HB.out); (case s2 => exact HC0_0.out); (case s3 => exact Kd.C_below HR0_1.out HB.out); (case s4 => exact HC0_1.out); rintro e w7 ⟨v29_0, v29_1, rfl, ho0, ho1, hb⟩; refine ⟨_, rfl, ?_⟩; have nu0 := Aside0.mk (UP.of ho0 ho1 HB.out.size); have n_U23 := Aside0.mk (U23.out.mvB (Frm.below hb)); have n_U25 := Aside0.mk (U25.out.mvB (Frm.below hb)); have n_Bg2 := Aside0.mk (blk_below Bg2.out hb); have n_Bg6 := Aside0.mk (blk_below Bg6.out hb); have n_HB := Aside0.mk (below_step HB.out hb); have NN7 : Aside0 (w6.heap.size ≤ w7.heap.size) := ⟨hb.size⟩; clear hc2_0 hf2_0; clear hc2_1 hf2_1; clear U23 U25 Bg2 Bg6 HB; have U23 := n_U23; have U25 := n_U25; have Bg2 := n_Bg2; have Bg6 := n_Bg6; have HB := n_HB; clear n_U23 n_U25 n_Bg2 n_Bg6 n_HB; clear hb ho0 ho1; have U29 := nu0; clear nu0; obtain ⟨A29_0, c29_0, A29_1, c29_1, e0, e1⟩ := U29.out.slices; subst e0; subst e1) | ((with_reducible refine gate_dst (N := 8) rfl ?_); refine box_event ?hg (N := 8) ?hd (cs := #[.slice none 0 0, .slice none 0 0]) (t := 29) ?hr ?_; (case hd => rfl); (case hg => rfl); (case hr => first | (go_simp; done) | (go_simp; rfl)); intro g8 hg w8 hbox hb; have Gg8 : Aside0 (g8 = w7.heap.size) := ⟨hg⟩; have Kg8 := Aside0.mk (blk_lt hbox); clear hg; have n_U23 := Aside0.mk (U23.out.mvB (Frm.below hb)); have n_U25 := Aside0.mk (U25.out.mvB (Frm.below hb)); have n_U29 := Aside0.mk (U29.out.mvB (Frm.below hb)); have n_Bg2 := Aside0.mk (blk_below Bg2.out hb); have n_Bg6 := Aside0.mk (blk_below Bg6.out hb); have n_HB := Aside0.mk (below_step HB.out hb); have NN8 : Aside0 (w7.heap.size ≤ w8.heap.size) := ⟨hb.size⟩; clear U23 U25 U29 Bg2 Bg6 HB; have U23 := n_U23; have U25 := n_U25; have U29 := n_U29; have Bg2 := n_Bg2; have Bg6 := n_Bg6; have HB := n_HB; clear n_U23 n_U25 n_U29 n_Bg2 n_Bg6 n_HB; have Bg8 := Aside0.mk hbox; clear hb hbox; have hc8_0 : w8.cell? ⟨g8, 0, none⟩ = some (.slice none 0 0) := (blk_cell Bg8.out 0).trans rfl; have hf8_0 := blk_frozen Bg8.out 0; have hc8_1 : w8.cell? ⟨g8, 1, none⟩ = some (.slice none 0 0) := (blk_cell Bg8.out 1).trans rfl; have hf8_1 := blk_frozen Bg8.out 1) | ((with_reducible refine gate_store (t := 29) (p := 8) rfl ?_); refine store_event (t := 29) (p := 8) (v := ?vo_w9) (w1 := ((w8.setCell ⟨g8, 0, none⟩ (.slice A29_0 l0_0.length c29_0)).setCell ⟨g8, 1, none⟩ (.slice A29_1 l0_1.length c29_1))) ?hg ?ho ?hn ?hr ?_; (case ho => rfl); (case hg => rfl); (case hn => rfl); (case hr => first | (go_simp; done) | (go_simp; rfl)); intro w9 hw; have hge : w.heap.size ≤ g8 := (by have := NN1.out; have := Gg2.out; have := Kg2.out; have := NN2.out; have := NN3.out; have := NN4.out; have := NN5.out; have := Gg6.out; have := Kg6.out; have := NN6.out; have := NN7.out; have := NN8.out; have := Gg8.out; have := Kg8.out; have := HB.out.size; omega); have hF : Frm w8 w9 g8 (g8 + 1) := (by rw [hw]; exact (Frm.trans (Frm.set _ _ _ _) (Frm.set _ _ _ _))); have nb := Aside0.mk (show w9.heap[g8]? = some (.cells #[.slice A29_0 l0_0.length c29_0, .slice A29_1 l0_1.length c29_1] 29 (0, 0)) from (by rw [hw]; exact (blk_put (blk_put Bg8.out 0 _ rfl) 1 _ rfl))); have n_U23 := Aside0.mk (U23.out.mv hF (by have := NN1.out; have := Gg2.out; have := Kg2.out; have := NN2.out; have := NN3.out; have := NN4.out; have := NN5.out; have := Gg6.out; have := Kg6.out; have := NN6.out; have := NN7.out; have := NN8.out; have := Gg8.out; have := Kg8.out; omega)); have n_U25 := Aside0.mk (U25.out.mv hF (by have := NN1.out; have := Gg2.out; have := Kg2.out; have := NN2.out; have := NN3.out; have := NN4.out; have := NN5.out; have := Gg6.out; have := Kg6.out; have := NN6.out; have := NN7.out; have := NN8.out; have := Gg8.out; have := Kg8.out; omega)); have n_U29 := Aside0.mk (U29.out.mv hF (by have := NN1.out; have := Gg2.out; have := Kg2.out; have := NN2.out; have := NN3.out; have := NN4.out; have := NN5.out; have := Gg6.out; have := Kg6.out; have := NN6.out; have := NN7.out; have := NN8.out; have := Gg8.out; have := Kg8.out; omega)); have n_Bg2 := Aside0.mk ((hF.same g2 (blk_lt Bg2.out) (by have := NN1.out; have := Gg2.out; have := Kg2.out; have := NN2.out; have := NN3.out; have := NN4.out; have := NN5.out; have := Gg6.out; have := Kg6.out; have := NN6.out; have := NN7.out; have := NN8.out; have := Gg8.out; have := Kg8.out; omega)).trans Bg2.out); have n_Bg6 := Aside0.mk ((hF.same g6 (blk_lt Bg6.out) (by have := NN1.out; have := Gg2.out; have := Kg2.out; have := NN2.out; have := NN3.out; have := NN4.out; have := NN5.out; have := Gg6.out; have := Kg6.out; have := NN6.out; have := NN7.out; have := NN8.out; have := Gg8.out; have := Kg8.out; omega)).trans Bg6.out); have n_HB := Aside0.mk ((by rw [hw]; exact (below_set (below_set HB.out hge) hge) : Below w.heap.size w w9)); have NN9 : Aside0 (w8.heap.size ≤ w9.heap.size) := ⟨hF.size⟩; clear hc8_0 hf8_0; clear hc8_1 hf8_1; clear U23 U25 U29 Bg2 Bg6 HB; have U23 := n_U23; have U25 := n_U25; have U29 := n_U29; have Bg2 := n_Bg2; have Bg6 := n_Bg6; have HB := n_HB; clear n_U23 n_U25 n_U29 n_Bg2 n_Bg6 n_HB; clear Bg8; have Bg8 := nb; clear nb hF hge hw; have hc8_0 : w9.cell? ⟨g8, 0, none⟩ = some (.slice A29_0 l0_0.length c29_0) := (blk_cell Bg8.out 0).trans rfl; have hf8_0 := blk_frozen Bg8.out 0; have hc8_1 : w9.cell? ⟨g8, 1, none⟩ = some (.slice A29_1 l0_1.length c29_1) := (blk_cell Bg8.out 1).trans rfl; have hf8_1 := blk_frozen Bg8.out 1) | ((with_reducible refine gate_callee (f := 41) rfl ?_); refine goesL_ (some 33) rfl rfl Try.func41 (by kernel_rfl) rfl #[.agg #[.slice A29_0 l0_0.length c29_0, .slice A29_1 l0_1.length c29_1], .int .i64 a1] rfl (by (try simp only [List.map_toArray, List.map_cons, List.map_nil]); first | done | rfl) ?_; refine (impl_PivotedProblem.calls k _ _ l0_0 _ _ l0_1 a1 s0 s1 s2 _ ?s1 ?s2 ?s3 ?s4 H5'.out).mono ?_; (case s1 => exact U29.out.C0); (case s2 => exact U29.out.cap0); (case s3 => exact U29.out.C1); (case s4 => exact U29.out.cap1); rintro e w10 ⟨v33_0, v33_1, rfl, ho0, ho1, hb⟩; refine ⟨_, rfl, ?_⟩; have nu0 := Aside0.mk (UP.of ho0 ho1 HB.out.size); have n_U23 := Aside0.mk (U23.out.mvB (Frm.below hb)); have n_U25 := Aside0.mk (U25.out.mvB (Frm.below hb)); have n_U29 := Aside0.mk (U29.out.mvB (Frm.below hb)); have n_Bg2 := Aside0.mk (blk_below Bg2.out hb); have n_Bg6 := Aside0.mk (blk_below Bg6.out hb); have n_Bg8 := Aside0.mk (blk_below Bg8.out hb); have n_HB := Aside0.mk (below_step HB.out hb); have NN10 : Aside0 (w9.heap.size ≤ w10.heap.size) := ⟨hb.size⟩; clear hc8_0 hf8_0; clear hc8_1 hf8_1; clear U23 U25 U29 Bg2 Bg6 Bg8 HB; have U23 := n_U23; have U25 := n_U25; have U29 := n_U29; have Bg2 := n_Bg2; have Bg6 := n_Bg6; have Bg8 := n_Bg8; have HB := n_HB; clear n_U23 n_U25 n_U29 n_Bg2 n_Bg6 n_Bg8 n_HB; clear hb ho0 ho1; have U33 := nu0; clear nu0; obtain ⟨A33_0, c33_0, A33_1, c33_1, e0, e1⟩ := U33.out.slices; subst e0; subst e1) | ((with_reducible refine gate_dst (N := 9) rfl ?_); refine box_event ?hg (N := 9) ?hd (cs := #[.slice none 0 0, .slice none 0 0]) (t := 29) ?hr ?_; (case hd => rfl); (case hg => rfl); (case hr => first | (go_simp; done) | (go_simp; rfl)); intro g9 hg w11 hbox hb; have Gg9 : Aside0 (g9 = w10.heap.size) := ⟨hg⟩; have Kg9 := Aside0.mk (blk_lt hbox); clear hg; have n_U23 := Aside0.mk (U23.out.mvB (Frm.below hb)); have n_U25 := Aside0.mk (U25.out.mvB (Frm.below hb)); have n_U29 := Aside0.mk (U29.out.mvB (Frm.below hb)); have n_U33 := Aside0.mk (U33.out.mvB (Frm.below hb)); have n_Bg2 := Aside0.mk (blk_below Bg2.out hb); have n_Bg6 := Aside0.mk (blk_below Bg6.out hb); have n_Bg8 := Aside0.mk (blk_below Bg8.out hb); have n_HB := Aside0.mk (below_step HB.out hb); have NN11 : Aside0 (w10.heap.size ≤ w11.heap.size) := ⟨hb.size⟩; clear U23 U25 U29 U33 Bg2 Bg6 Bg8 HB; have U23 := n_U23; have U25 := n_U25; have U29 := n_U29; have U33 := n_U33; have Bg2 := n_Bg2; have Bg6 := n_Bg6; have Bg8 := n_Bg8; have HB := n_HB; clear n_U23 n_U25 n_U29 n_U33 n_Bg2 n_Bg6 n_Bg8 n_HB; have Bg9 := Aside0.mk hbox; clear hb hbox; have hc9_0 : w11.cell? ⟨g9, 0, none⟩ = some (.slice none 0 0) := (blk_cell Bg9.out 0).trans rfl; have hf9_0 := blk_frozen Bg9.out 0; have hc9_1 : w11.cell? ⟨g9, 1, none⟩ = some (.slice none 0 0) := (blk_cell Bg9.out 1).trans rfl; have hf9_1 := blk_frozen Bg9.out 1) | ((with_reducible refine gate_store (t := 29) (p := 9) rfl ?_); refine store_event (t := 29) (p := 9) (v := ?vo_w12) (w1 := ((w11.setCell ⟨g9, 0, none⟩ (.slice A33_0 s0.length c33_0)).setCell ⟨g9, 1, none⟩ (.slice A33_1 s1.length c33_1))) ?hg ?ho ?hn ?hr ?_; (case ho => rfl); (case hg => rfl); (case hn => rfl); (case hr => first | (go_simp; done) | (go_simp; rfl)); intro w12 hw; have hge : w.heap.size ≤ g9 := (by have := NN1.out; have := Gg2.out; have := Kg2.out; have := NN2.out; have := NN3.out; have := NN4.out; have := NN5.out; have := Gg6.out; have := Kg6.out; have := NN6.out; have := NN7.out; have := NN8.out; have := Gg8.out; have := Kg8.out; have := NN9.out; have := NN10.out; have := NN11.out; have := Gg9.out; have := Kg9.out; have := HB.out.size; omega); have hF : Frm w11 w12 g9 (g9 + 1) := (by rw [hw]; exact (Frm.trans (Frm.set _ _ _ _) (Frm.set _ _ _ _))); have nb := Aside0.mk (show w12.heap[g9]? = some (.cells #[.slice A33_0 s0.length c33_0, .slice A33_1 s1.length c33_1] 29 (0, 0)) from (by rw [hw]; exact (blk_put (blk_put Bg9.out 0 _ rfl) 1 _ rfl))); have n_U23 := Aside0.mk (U23.out.mv hF (by have := NN1.out; have := Gg2.out; have := Kg2.out; have := NN2.out; have := NN3.out; have := NN4.out; have := NN5.out; have := Gg6.out; have := Kg6.out; have := NN6.out; have := NN7.out; have := NN8.out; have := Gg8.out; have := Kg8.out; have := NN9.out; have := NN10.out; have := NN11.out; have := Gg9.out; have := Kg9.out; omega)); have n_U25 := Aside0.mk (U25.out.mv hF (by have := NN1.out; have := Gg2.out; have := Kg2.out; have := NN2.out; have := NN3.out; have := NN4.out; have := NN5.out; have := Gg6.out; have := Kg6.out; have := NN6.out; have := NN7.out; have := NN8.out; have := Gg8.out; have := Kg8.out; have := NN9.out; have := NN10.out; have := NN11.out; have := Gg9.out; have := Kg9.out; omega)); have n_U29 := Aside0.mk (U29.out.mv hF (by have := NN1.out; have := Gg2.out; have := Kg2.out; have := NN2.out; have := NN3.out; have := NN4.out; have := NN5.out; have := Gg6.out; have := Kg6.out; have := NN6.out; have := NN7.out; have := NN8.out; have := Gg8.out; have := Kg8.out; have := NN9.out; have := NN10.out; have := NN11.out; have := Gg9.out; have := Kg9.out; omega)); have n_U33 := Aside0.mk (U33.out.mv hF (by have := NN1.out; have := Gg2.out; have := Kg2.out; have := NN2.out; have := NN3.out; have := NN4.out; have := NN5.out; have := Gg6.out; have := Kg6.out; have := NN6.out; have := NN7.out; have := NN8.out; have := Gg8.out; have := Kg8.out; have := NN9.out; have := NN10.out; have := NN11.out; have := Gg9.out; have := Kg9.out; omega)); have n_Bg2 := Aside0.mk ((hF.same g2 (blk_lt Bg2.out) (by have := NN1.out; have := Gg2.out; have := Kg2.out; have := NN2.out; have := NN3.out; have := NN4.out; have := NN5.out; have := Gg6.out; have := Kg6.out; have := NN6.out; have := NN7.out; have := NN8.out; have := Gg8.out; have := Kg8.out; have := NN9.out; have := NN10.out; have := NN11.out; have := Gg9.out; have := Kg9.out; omega)).trans Bg2.out); have n_Bg6 := Aside0.mk ((hF.same g6 (blk_lt Bg6.out) (by have := NN1.out; have := Gg2.out; have := Kg2.out; have := NN2.out; have := NN3.out; have := NN4.out; have := NN5.out; have := Gg6.out; have := Kg6.out; have := NN6.out; have := NN7.out; have := NN8.out; have := Gg8.out; have := Kg8.out; have := NN9.out; have := NN10.out; have := NN11.out; have := Gg9.out; have := Kg9.out; omega)).trans Bg6.out); have n_Bg8 := Aside0.mk ((hF.same g8 (blk_lt Bg8.out) (by have := NN1.out; have := Gg2.out; have := Kg2.out; have := NN2.out; have := NN3.out; have := NN4.out; have := NN5.out; have := Gg6.out; have := Kg6.out; have := NN6.out; have := NN7.out; have := NN8.out; have := Gg8.out; have := Kg8.out; have := NN9.out; have := NN10.out; have := NN11.out; have := Gg9.out; have := Kg9.out; omega)).trans Bg8.out); have n_HB := Aside0.mk ((by rw [hw]; exact (below_set (below_set HB.out hge) hge) : Below w.heap.size w w12)); have NN12 : Aside0 (w11.heap.size ≤ w12.heap.size) := ⟨hF.size⟩; clear hc9_0 hf9_0; clear hc9_1 hf9_1; clear U23 U25 U29 U33 Bg2 Bg6 Bg8 HB; have U23 := n_U23; have U25 := n_U25; have U29 := n_U29; have U33 := n_U33; have Bg2 := n_Bg2; have Bg6 := n_Bg6; have Bg8 := n_Bg8; have HB := n_HB; clear n_U23 n_U25 n_U29 n_U33 n_Bg2 n_Bg6 n_Bg8 n_HB; clear Bg9; have Bg9 := nb; clear nb hF hge hw; have hc6_0 : w12.cell? ⟨g6, 0, none⟩ = some (.slice A25_0 s0.length c25_0) := (blk_cell Bg6.out 0).trans rfl; have hf6_0 := blk_frozen Bg6.out 0; have hc6_1 : w12.cell? ⟨g6, 1, none⟩ = some (.slice A25_1 s1.length c25_1) := (blk_cell Bg6.out 1).trans rfl; have hf6_1 := blk_frozen Bg6.out 1; have hc9_0 : w12.cell? ⟨g9, 0, none⟩ = some (.slice A33_0 s0.length c33_0) := (blk_cell Bg9.out 0).trans rfl; have hf9_0 := blk_frozen Bg9.out 0; have hc9_1 : w12.cell? ⟨g9, 1, none⟩ = some (.slice A33_1 s1.length c33_1) := (blk_cell Bg9.out 1).trans rfl; have hf9_1 := blk_frozen Bg9.out 1) | ((with_reducible refine gate_callee (f := 20) rfl ?_); refine goesL_ (some 38) rfl rfl Try.func20 (by kernel_rfl) rfl #[.agg #[.slice A33_0 s0.length c33_0, .slice A33_1 s1.length c33_1], .agg #[.slice A25_0 s0.length c25_0, .slice A25_1 s1.length c25_1]] rfl (by (try simp only [List.map_toArray, List.map_cons, List.map_nil]); first | done | rfl) ?_; refine (laws_eqProblem.calls k _ _ s0 _ _ s1 _ _ s0 _ _ s1 true _ ?s1 ?s2 ?s3 ?s4 ?s5 ?s6 ?s7 ?s8 H6'.out).mono ?_; (case s1 => exact U33.out.C0); (case s2 => exact U33.out.cap0); (case s3 => exact U33.out.C1); (case s4 => exact U33.out.cap1); (case s5 => exact U25.out.C0); (case s6 => exact U25.out.cap0); (case s7 => exact U25.out.C1); (case s8 => exact U25.out.cap1); rintro e w13 ⟨rfl, hb⟩; refine ⟨_, rfl, ?_⟩; have n_U23 := Aside0.mk (U23.out.mvB (Frm.below hb)); have n_U25 := Aside0.mk (U25.out.mvB (Frm.below hb)); have n_U29 := Aside0.mk (U29.out.mvB (Frm.below hb)); have n_U33 := Aside0.mk (U33.out.mvB (Frm.below hb)); have n_Bg2 := Aside0.mk (blk_below Bg2.out hb); have n_Bg6 := Aside0.mk (blk_below Bg6.out hb); have n_Bg8 := Aside0.mk (blk_below Bg8.out hb); have n_Bg9 := Aside0.mk (blk_below Bg9.out hb); have n_HB := Aside0.mk (below_step HB.out hb); have NN13 : Aside0 (w12.heap.size ≤ w13.heap.size) := ⟨hb.size⟩; clear hc6_0 hf6_0; clear hc6_1 hf6_1; clear hc9_0 hf9_0; clear hc9_1 hf9_1; clear U23 U25 U29 U33 Bg2 Bg6 Bg8 Bg9 HB; have U23 := n_U23; have U25 := n_U25; have U29 := n_U29; have U33 := n_U33; have Bg2 := n_Bg2; have Bg6 := n_Bg6; have Bg8 := n_Bg8; have Bg9 := n_Bg9; have HB := n_HB; clear n_U23 n_U25 n_U29 n_U33 n_Bg2 n_Bg6 n_Bg8 n_Bg9 n_HB; clear hb))
 try go_wp2
 have hb : Below w13.heap.size w13 w13.drew := (Below.refl _ _).drew
 have n_U23 := Aside0.mk (U23.out.mvB (Frm.below hb))
 have n_U25 := Aside0.mk (U25.out.mvB (Frm.below hb))
 have n_U29 := Aside0.mk (U29.out.mvB (Frm.below hb))
 have n_U33 := Aside0.mk (U33.out.mvB (Frm.below hb))
 have n_Bg2 := Aside0.mk (blk_below Bg2.out hb)
 have n_Bg6 := Aside0.mk (blk_below Bg6.out hb)
 have n_Bg8 := Aside0.mk (blk_below Bg8.out hb)
 have n_Bg9 := Aside0.mk (blk_below Bg9.out hb)
 have n_HB := Aside0.mk (below_step HB.out hb)
 have NN14 : Aside0 (w13.heap.size ≤ w13.drew.heap.size) := ⟨hb.size⟩
 clear U23 U25 U29 U33 Bg2 Bg6 Bg8 Bg9 HB
 have U23 := n_U23
 have U25 := n_U25
 have U29 := n_U29
 have U33 := n_U33
 have Bg2 := n_Bg2
 have Bg6 := n_Bg6
 have Bg8 := n_Bg8
 have Bg9 := n_Bg9
 have HB := n_HB
 clear n_U23 n_U25 n_U29 n_U33 n_Bg2 n_Bg6 n_Bg8 n_Bg9 n_HB
 clear hb
 refine st_ (n := 5) (S := fun w' => w'.cell? ⟨g8, 0, none⟩ = some (.slice A29_0 l0_0.length c29_0) ∧ w'.cell? ⟨g8, 1, none⟩ = some (.slice A29_1 l0_1.length c29_1) ∧ w'.cell? ⟨g2, 0, none⟩ = some (.slice A0_0 l0_0.length c0_0) ∧ w'.cell? ⟨g2, 1, none⟩ = some (.slice A0_1 l0_1.length c0_1)) (ds := []) ⟨(blk_cell Bg8.out 0).trans rfl, (blk_cell Bg8.out 1).trans rfl, (blk_cell Bg2.out 0).trans rfl, (blk_cell Bg2.out 1).trans rfl⟩ (fun hHeld => ?_)
 generalize w13.drew = w14 at U23 U25 U29 U33 Bg2 Bg6 Bg8 Bg9 HB NN14 hHeld ⊢
 have hc2_0 : w14.cell? ⟨g2, 0, none⟩ = some (.slice A0_0 l0_0.length c0_0) := (blk_cell Bg2.out 0).trans rfl
 have hf2_0 := blk_frozen Bg2.out 0
 have hc2_1 : w14.cell? ⟨g2, 1, none⟩ = some (.slice A0_1 l0_1.length c0_1) := (blk_cell Bg2.out 1).trans rfl
 have hf2_1 := blk_frozen Bg2.out 1
 have hc8_0 : w14.cell? ⟨g8, 0, none⟩ = some (.slice A29_0 l0_0.length c29_0) := (blk_cell Bg8.out 0).trans rfl
 have hf8_0 := blk_frozen Bg8.out 0
 have hc8_1 : w14.cell? ⟨g8, 1, none⟩ = some (.slice A29_1 l0_1.length c29_1) := (blk_cell Bg8.out 1).trans rfl
 have hf8_1 := blk_frozen Bg8.out 1
 refine tk_ 0 45 ?_; refine tk_ 1 46 ?_
 refine on_ 2 (some 47) (fun K hK => ?_)
 refine goes_ Try.func17 (by kernel_rfl) rfl #[.agg #[.slice A0_0 l0_0.length c0_0, .slice A0_1 l0_1.length c0_1]] (by rfl) rfl rfl (by (try simp only [List.map_toArray, List.map_cons, List.map_nil]); first | done | rfl) ?_
 (refine (laws_toProblem.calls k _ _ l0_0 _ _ l0_1 l0_0 l0_1 _ ?s1 ?s2 ?s3 ?s4 H3'.out).mono ?_; (case s1 => exact Kd.C_below HR0_0.out HB.out); (case s2 => exact HC0_0.out); (case s3 => exact Kd.C_below HR0_1.out HB.out); (case s4 => exact HC0_1.out); rintro e w15 ⟨v47_0, v47_1, rfl, ho0, ho1, hb⟩; refine ⟨_, rfl, ?_⟩; have nu0 := Aside0.mk (UP.of ho0 ho1 HB.out.size); have n_U23 := Aside0.mk (U23.out.mvB (Frm.below hb)); have n_U25 := Aside0.mk (U25.out.mvB (Frm.below hb)); have n_U29 := Aside0.mk (U29.out.mvB (Frm.below hb)); have n_U33 := Aside0.mk (U33.out.mvB (Frm.below hb)); have n_Bg2 := Aside0.mk (blk_below Bg2.out hb); have n_Bg6 := Aside0.mk (blk_below Bg6.out hb); have n_Bg8 := Aside0.mk (blk_below Bg8.out hb); have n_Bg9 := Aside0.mk (blk_below Bg9.out hb); have n_HB := Aside0.mk (below_step HB.out hb); have NN15 : Aside0 (w14.heap.size ≤ w15.heap.size) := ⟨hb.size⟩; clear hc2_0 hf2_0; clear hc2_1 hf2_1; clear hc8_0 hf8_0; clear hc8_1 hf8_1; clear U23 U25 U29 U33 Bg2 Bg6 Bg8 Bg9 HB; have U23 := n_U23; have U25 := n_U25; have U29 := n_U29; have U33 := n_U33; have Bg2 := n_Bg2; have Bg6 := n_Bg6; have Bg8 := n_Bg8; have Bg9 := n_Bg9; have HB := n_HB; clear n_U23 n_U25 n_U29 n_U33 n_Bg2 n_Bg6 n_Bg8 n_Bg9 n_HB; clear hb ho0 ho1; have U47 := nu0; clear nu0; obtain ⟨A47_0, c47_0, A47_1, c47_1, e0, e1⟩ := U47.out.slices; subst e0; subst e1)
 refine hK.out _ _ ⟨(blk_cell Bg8.out 0).trans rfl, (blk_cell Bg8.out 1).trans rfl, (blk_cell Bg2.out 0).trans rfl, (blk_cell Bg2.out 1).trans rfl⟩ (fun hHeld => ?_)
 clear hK K
 refine norm_ (a' := ?_) ?_ ?_
 rotate_left
 ·show Act.put _ (some 47) _ = _
  simp only [Act.put, List.setIfInBounds_toArray, List.set_cons_zero, List.set_cons_succ, i64_w, i32_w]
  rfl
 refine on_ 3 (some 48) (fun K hK => ?_)
 refine goes_ Try.func20 (by kernel_rfl) rfl #[.agg #[.slice A29_0 l0_0.length c29_0, .slice A29_1 l0_1.length c29_1], .agg #[.slice A47_0 l0_0.length c47_0, .slice A47_1 l0_1.length c47_1]] (by rfl) rfl rfl (by (try simp only [List.map_toArray, List.map_cons, List.map_nil]); first | done | rfl) ?_
 (refine (laws_eqProblem.calls k _ _ l0_0 _ _ l0_1 _ _ l0_0 _ _ l0_1 true _ ?s1 ?s2 ?s3 ?s4 ?s5 ?s6 ?s7 ?s8 H7'.out).mono ?_; (case s1 => exact U29.out.C0); (case s2 => exact U29.out.cap0); (case s3 => exact U29.out.C1); (case s4 => exact U29.out.cap1); (case s5 => exact U47.out.C0); (case s6 => exact U47.out.cap0); (case s7 => exact U47.out.C1); (case s8 => exact U47.out.cap1); rintro e w16 ⟨rfl, hb⟩; refine ⟨_, rfl, ?_⟩; have n_U23 := Aside0.mk (U23.out.mvB (Frm.below hb)); have n_U25 := Aside0.mk (U25.out.mvB (Frm.below hb)); have n_U29 := Aside0.mk (U29.out.mvB (Frm.below hb)); have n_U33 := Aside0.mk (U33.out.mvB (Frm.below hb)); have n_U47 := Aside0.mk (U47.out.mvB (Frm.below hb)); have n_Bg2 := Aside0.mk (blk_below Bg2.out hb); have n_Bg6 := Aside0.mk (blk_below Bg6.out hb); have n_Bg8 := Aside0.mk (blk_below Bg8.out hb); have n_Bg9 := Aside0.mk (blk_below Bg9.out hb); have n_HB := Aside0.mk (below_step HB.out hb); have NN16 : Aside0 (w15.heap.size ≤ w16.heap.size) := ⟨hb.size⟩; clear U23 U25 U29 U33 U47 Bg2 Bg6 Bg8 Bg9 HB; have U23 := n_U23; have U25 := n_U25; have U29 := n_U29; have U33 := n_U33; have U47 := n_U47; have Bg2 := n_Bg2; have Bg6 := n_Bg6; have Bg8 := n_Bg8; have Bg9 := n_Bg9; have HB := n_HB; clear n_U23 n_U25 n_U29 n_U33 n_U47 n_Bg2 n_Bg6 n_Bg8 n_Bg9 n_HB; clear hb; have hc8_0 : w16.cell? ⟨g8, 0, none⟩ = some (.slice A29_0 l0_0.length c29_0) := (blk_cell Bg8.out 0).trans rfl; have hf8_0 := blk_frozen Bg8.out 0; have hc8_1 : w16.cell? ⟨g8, 1, none⟩ = some (.slice A29_1 l0_1.length c29_1) := (blk_cell Bg8.out 1).trans rfl; have hf8_1 := blk_frozen Bg8.out 1)
 refine hK.out _ _ ⟨(blk_cell Bg8.out 0).trans rfl, (blk_cell Bg8.out 1).trans rfl, (blk_cell Bg2.out 0).trans rfl, (blk_cell Bg2.out 1).trans rfl⟩ (fun hHeld => ?_)
 clear hK K
 refine norm_ (a' := ?_) ?_ ?_
 rotate_left
 ·show Act.put _ (some 48) _ = _
  simp only [Act.put, List.setIfInBounds_toArray, List.set_cons_zero, List.set_cons_succ, i64_w, i32_w]
  rfl
 refine pu_ 4 49 ?_
 refine done_ (by kernel_rfl) ?_
 go_wp2_with (first | ((with_reducible refine gate_callee (f := 21) rfl ?_); refine goesL_ (some 52) rfl rfl Try.func21 (by kernel_rfl) rfl #[.agg #[.slice A29_0 l0_0.length c29_0, .slice A29_1 l0_1.length c29_1], .int .i64 1] rfl (by (try simp only [List.map_toArray, List.map_cons, List.map_nil]); first | done | rfl) ?_; refine (mark_UP A29_0 c29_0 A29_1 c29_1 l0_0 l0_1 1 m1 HB.out U29.out (by decide) H9'.out H10'.out H8'.out (by have := NN1.out; have := Gg2.out; have := Kg2.out; have := NN2.out; have := NN3.out; have := NN4.out; have := NN5.out; have := Gg6.out; have := Kg6.out; have := NN6.out; have := NN7.out; have := NN8.out; have := Gg8.out; have := Kg8.out; have := NN9.out; have := NN10.out; have := NN11.out; have := Gg9.out; have := Kg9.out; have := NN12.out; have := NN13.out; have := NN14.out; have := NN15.out; have := NN16.out; omega)).mono ?_; rintro e w17 ⟨rfl, hU, hB', hF⟩; refine ⟨_, rfl, ?_⟩; have nu := Aside0.mk hU; have n_U23 := Aside0.mk (U23.out.mv hF (by have := NN1.out; have := Gg2.out; have := Kg2.out; have := NN2.out; have := NN3.out; have := NN4.out; have := NN5.out; have := Gg6.out; have := Kg6.out; have := NN6.out; have := NN7.out; have := NN8.out; have := Gg8.out; have := Kg8.out; have := NN9.out; have := NN10.out; have := NN11.out; have := Gg9.out; have := Kg9.out; have := NN12.out; have := NN13.out; have := NN14.out; have := NN15.out; have := NN16.out; omega)); have n_U25 := Aside0.mk (U25.out.mv hF (by have := NN1.out; have := Gg2.out; have := Kg2.out; have := NN2.out; have := NN3.out; have := NN4.out; have := NN5.out; have := Gg6.out; have := Kg6.out; have := NN6.out; have := NN7.out; have := NN8.out; have := Gg8.out; have := Kg8.out; have := NN9.out; have := NN10.out; have := NN11.out; have := Gg9.out; have := Kg9.out; have := NN12.out; have := NN13.out; have := NN14.out; have := NN15.out; have := NN16.out; omega)); have n_U33 := Aside0.mk (U33.out.mv hF (by have := NN1.out; have := Gg2.out; have := Kg2.out; have := NN2.out; have := NN3.out; have := NN4.out; have := NN5.out; have := Gg6.out; have := Kg6.out; have := NN6.out; have := NN7.out; have := NN8.out; have := Gg8.out; have := Kg8.out; have := NN9.out; have := NN10.out; have := NN11.out; have := Gg9.out; have := Kg9.out; have := NN12.out; have := NN13.out; have := NN14.out; have := NN15.out; have := NN16.out; omega)); have n_U47 := Aside0.mk (U47.out.mv hF (by have := NN1.out; have := Gg2.out; have := Kg2.out; have := NN2.out; have := NN3.out; have := NN4.out; have := NN5.out; have := Gg6.out; have := Kg6.out; have := NN6.out; have := NN7.out; have := NN8.out; have := Gg8.out; have := Kg8.out; have := NN9.out; have := NN10.out; have := NN11.out; have := Gg9.out; have := Kg9.out; have := NN12.out; have := NN13.out; have := NN14.out; have := NN15.out; have := NN16.out; omega)); have n_Bg2 := Aside0.mk ((hF.same g2 (blk_lt Bg2.out) (by have := NN1.out; have := Gg2.out; have := Kg2.out; have := NN2.out; have := NN3.out; have := NN4.out; have := NN5.out; have := Gg6.out; have := Kg6.out; have := NN6.out; have := NN7.out; have := NN8.out; have := Gg8.out; have := Kg8.out; have := NN9.out; have := NN10.out; have := NN11.out; have := Gg9.out; have := Kg9.out; have := NN12.out; have := NN13.out; have := NN14.out; have := NN15.out; have := NN16.out; omega)).trans Bg2.out); have n_Bg6 := Aside0.mk ((hF.same g6 (blk_lt Bg6.out) (by have := NN1.out; have := Gg2.out; have := Kg2.out; have := NN2.out; have := NN3.out; have := NN4.out; have := NN5.out; have := Gg6.out; have := Kg6.out; have := NN6.out; have := NN7.out; have := NN8.out; have := Gg8.out; have := Kg8.out; have := NN9.out; have := NN10.out; have := NN11.out; have := Gg9.out; have := Kg9.out; have := NN12.out; have := NN13.out; have := NN14.out; have := NN15.out; have := NN16.out; omega)).trans Bg6.out); have n_Bg8 := Aside0.mk ((hF.same g8 (blk_lt Bg8.out) (by have := NN1.out; have := Gg2.out; have := Kg2.out; have := NN2.out; have := NN3.out; have := NN4.out; have := NN5.out; have := Gg6.out; have := Kg6.out; have := NN6.out; have := NN7.out; have := NN8.out; have := Gg8.out; have := Kg8.out; have := NN9.out; have := NN10.out; have := NN11.out; have := Gg9.out; have := Kg9.out; have := NN12.out; have := NN13.out; have := NN14.out; have := NN15.out; have := NN16.out; omega)).trans Bg8.out); have n_Bg9 := Aside0.mk ((hF.same g9 (blk_lt Bg9.out) (by have := NN1.out; have := Gg2.out; have := Kg2.out; have := NN2.out; have := NN3.out; have := NN4.out; have := NN5.out; have := Gg6.out; have := Kg6.out; have := NN6.out; have := NN7.out; have := NN8.out; have := Gg8.out; have := Kg8.out; have := NN9.out; have := NN10.out; have := NN11.out; have := Gg9.out; have := Kg9.out; have := NN12.out; have := NN13.out; have := NN14.out; have := NN15.out; have := NN16.out; omega)).trans Bg9.out); have n_HB := Aside0.mk (hB'); have NN17 : Aside0 (w16.heap.size ≤ w17.heap.size) := ⟨hF.size⟩; clear hc8_0 hf8_0; clear hc8_1 hf8_1; clear U23 U25 U33 U47 Bg2 Bg6 Bg8 Bg9 HB; have U23 := n_U23; have U25 := n_U25; have U33 := n_U33; have U47 := n_U47; have Bg2 := n_Bg2; have Bg6 := n_Bg6; have Bg8 := n_Bg8; have Bg9 := n_Bg9; have HB := n_HB; clear n_U23 n_U25 n_U33 n_U47 n_Bg2 n_Bg6 n_Bg8 n_Bg9 n_HB; clear U29; have U29 := nu; clear nu hU hB' hF; have hc6_0 : w17.cell? ⟨g6, 0, none⟩ = some (.slice A25_0 s0.length c25_0) := (blk_cell Bg6.out 0).trans rfl; have hf6_0 := blk_frozen Bg6.out 0; have hc6_1 : w17.cell? ⟨g6, 1, none⟩ = some (.slice A25_1 s1.length c25_1) := (blk_cell Bg6.out 1).trans rfl; have hf6_1 := blk_frozen Bg6.out 1; have hc9_0 : w17.cell? ⟨g9, 0, none⟩ = some (.slice A33_0 s0.length c33_0) := (blk_cell Bg9.out 0).trans rfl; have hf9_0 := blk_frozen Bg9.out 0; have hc9_1 : w17.cell? ⟨g9, 1, none⟩ = some (.slice A33_1 s1.length c33_1) := (blk_cell Bg9.out 1).trans rfl; have hf9_1 := blk_frozen Bg9.out 1) | (go_at_call 20; refine (laws_eqProblem.calls k _ _ s0 _ _ s1 _ _ s0 _ _ s1 true _ ?s1 ?s2 ?s3 ?s4 ?s5 ?s6 ?s7 ?s8 H6'.out).mono ?_; (case s1 => exact U33.out.C0); (case s2 => exact U33.out.cap0); (case s3 => exact U33.out.C1); (case s4 => exact U33.out.cap1); (case s5 => exact U25.out.C0); (case s6 => exact U25.out.cap0); (case s7 => exact U25.out.C1); (case s8 => exact U25.out.cap1); rintro e w18 ⟨rfl, hb⟩; have n_U23 := Aside0.mk (U23.out.mvB (Frm.below hb)); have n_U25 := Aside0.mk (U25.out.mvB (Frm.below hb)); have n_U29 := Aside0.mk (U29.out.mvB (Frm.below hb)); have n_U33 := Aside0.mk (U33.out.mvB (Frm.below hb)); have n_U47 := Aside0.mk (U47.out.mvB (Frm.below hb)); have n_Bg2 := Aside0.mk (blk_below Bg2.out hb); have n_Bg6 := Aside0.mk (blk_below Bg6.out hb); have n_Bg8 := Aside0.mk (blk_below Bg8.out hb); have n_Bg9 := Aside0.mk (blk_below Bg9.out hb); have n_HB := Aside0.mk (below_step HB.out hb); have NN18 : Aside0 (w17.heap.size ≤ w18.heap.size) := ⟨hb.size⟩; clear hc6_0 hf6_0; clear hc6_1 hf6_1; clear hc9_0 hf9_0; clear hc9_1 hf9_1; clear U23 U25 U29 U33 U47 Bg2 Bg6 Bg8 Bg9 HB; have U23 := n_U23; have U25 := n_U25; have U29 := n_U29; have U33 := n_U33; have U47 := n_U47; have Bg2 := n_Bg2; have Bg6 := n_Bg6; have Bg8 := n_Bg8; have Bg9 := n_Bg9; have HB := n_HB; clear n_U23 n_U25 n_U29 n_U33 n_U47 n_Bg2 n_Bg6 n_Bg8 n_Bg9 n_HB; clear hb; have hc9_0 : w18.cell? ⟨g9, 0, none⟩ = some (.slice A33_0 s0.length c33_0) := (blk_cell Bg9.out 0).trans rfl; have hf9_0 := blk_frozen Bg9.out 0; have hc9_1 : w18.cell? ⟨g9, 1, none⟩ = some (.slice A33_1 s1.length c33_1) := (blk_cell Bg9.out 1).trans rfl; have hf9_1 := blk_frozen Bg9.out 1) | ((with_reducible refine gate_callee (f := 21) rfl ?_); refine goesL_ (some 68) rfl rfl Try.func21 (by kernel_rfl) rfl #[.agg #[.slice A33_0 s0.length c33_0, .slice A33_1 s1.length c33_1], .int .i64 1] rfl (by (try simp only [List.map_toArray, List.map_cons, List.map_nil]); first | done | rfl) ?_; refine (mark_UP A33_0 c33_0 A33_1 c33_1 s0 s1 1 m2 HB.out U33.out (by decide) H13'.out H14'.out H12'.out (by have := NN1.out; have := Gg2.out; have := Kg2.out; have := NN2.out; have := NN3.out; have := NN4.out; have := NN5.out; have := Gg6.out; have := Kg6.out; have := NN6.out; have := NN7.out; have := NN8.out; have := Gg8.out; have := Kg8.out; have := NN9.out; have := NN10.out; have := NN11.out; have := Gg9.out; have := Kg9.out; have := NN12.out; have := NN13.out; have := NN14.out; have := NN15.out; have := NN16.out; have := NN17.out; have := NN18.out; omega)).mono ?_; rintro e w19 ⟨rfl, hU, hB', hF⟩; refine ⟨_, rfl, ?_⟩; have nu := Aside0.mk hU; have n_U23 := Aside0.mk (U23.out.mv hF (by have := NN1.out; have := Gg2.out; have := Kg2.out; have := NN2.out; have := NN3.out; have := NN4.out; have := NN5.out; have := Gg6.out; have := Kg6.out; have := NN6.out; have := NN7.out; have := NN8.out; have := Gg8.out; have := Kg8.out; have := NN9.out; have := NN10.out; have := NN11.out; have := Gg9.out; have := Kg9.out; have := NN12.out; have := NN13.out; have := NN14.out; have := NN15.out; have := NN16.out; have := NN17.out; have := NN18.out; omega)); have n_U25 := Aside0.mk (U25.out.mv hF (by have := NN1.out; have := Gg2.out; have := Kg2.out; have := NN2.out; have := NN3.out; have := NN4.out; have := NN5.out; have := Gg6.out; have := Kg6.out; have := NN6.out; have := NN7.out; have := NN8.out; have := Gg8.out; have := Kg8.out; have := NN9.out; have := NN10.out; have := NN11.out; have := Gg9.out; have := Kg9.out; have := NN12.out; have := NN13.out; have := NN14.out; have := NN15.out; have := NN16.out; have := NN17.out; have := NN18.out; omega)); have n_U29 := Aside0.mk (U29.out.mv hF (by have := NN1.out; have := Gg2.out; have := Kg2.out; have := NN2.out; have := NN3.out; have := NN4.out; have := NN5.out; have := Gg6.out; have := Kg6.out; have := NN6.out; have := NN7.out; have := NN8.out; have := Gg8.out; have := Kg8.out; have := NN9.out; have := NN10.out; have := NN11.out; have := Gg9.out; have := Kg9.out; have := NN12.out; have := NN13.out; have := NN14.out; have := NN15.out; have := NN16.out; have := NN17.out; have := NN18.out; omega)); have n_U47 := Aside0.mk (U47.out.mv hF (by have := NN1.out; have := Gg2.out; have := Kg2.out; have := NN2.out; have := NN3.out; have := NN4.out; have := NN5.out; have := Gg6.out; have := Kg6.out; have := NN6.out; have := NN7.out; have := NN8.out; have := Gg8.out; have := Kg8.out; have := NN9.out; have := NN10.out; have := NN11.out; have := Gg9.out; have := Kg9.out; have := NN12.out; have := NN13.out; have := NN14.out; have := NN15.out; have := NN16.out; have := NN17.out; have := NN18.out; omega)); have n_Bg2 := Aside0.mk ((hF.same g2 (blk_lt Bg2.out) (by have := NN1.out; have := Gg2.out; have := Kg2.out; have := NN2.out; have := NN3.out; have := NN4.out; have := NN5.out; have := Gg6.out; have := Kg6.out; have := NN6.out; have := NN7.out; have := NN8.out; have := Gg8.out; have := Kg8.out; have := NN9.out; have := NN10.out; have := NN11.out; have := Gg9.out; have := Kg9.out; have := NN12.out; have := NN13.out; have := NN14.out; have := NN15.out; have := NN16.out; have := NN17.out; have := NN18.out; omega)).trans Bg2.out); have n_Bg6 := Aside0.mk ((hF.same g6 (blk_lt Bg6.out) (by have := NN1.out; have := Gg2.out; have := Kg2.out; have := NN2.out; have := NN3.out; have := NN4.out; have := NN5.out; have := Gg6.out; have := Kg6.out; have := NN6.out; have := NN7.out; have := NN8.out; have := Gg8.out; have := Kg8.out; have := NN9.out; have := NN10.out; have := NN11.out; have := Gg9.out; have := Kg9.out; have := NN12.out; have := NN13.out; have := NN14.out; have := NN15.out; have := NN16.out; have := NN17.out; have := NN18.out; omega)).trans Bg6.out); have n_Bg8 := Aside0.mk ((hF.same g8 (blk_lt Bg8.out) (by have := NN1.out; have := Gg2.out; have := Kg2.out; have := NN2.out; have := NN3.out; have := NN4.out; have := NN5.out; have := Gg6.out; have := Kg6.out; have := NN6.out; have := NN7.out; have := NN8.out; have := Gg8.out; have := Kg8.out; have := NN9.out; have := NN10.out; have := NN11.out; have := Gg9.out; have := Kg9.out; have := NN12.out; have := NN13.out; have := NN14.out; have := NN15.out; have := NN16.out; have := NN17.out; have := NN18.out; omega)).trans Bg8.out); have n_Bg9 := Aside0.mk ((hF.same g9 (blk_lt Bg9.out) (by have := NN1.out; have := Gg2.out; have := Kg2.out; have := NN2.out; have := NN3.out; have := NN4.out; have := NN5.out; have := Gg6.out; have := Kg6.out; have := NN6.out; have := NN7.out; have := NN8.out; have := Gg8.out; have := Kg8.out; have := NN9.out; have := NN10.out; have := NN11.out; have := Gg9.out; have := Kg9.out; have := NN12.out; have := NN13.out; have := NN14.out; have := NN15.out; have := NN16.out; have := NN17.out; have := NN18.out; omega)).trans Bg9.out); have n_HB := Aside0.mk (hB'); have NN19 : Aside0 (w18.heap.size ≤ w19.heap.size) := ⟨hF.size⟩; clear hc9_0 hf9_0; clear hc9_1 hf9_1; clear U23 U25 U29 U47 Bg2 Bg6 Bg8 Bg9 HB; have U23 := n_U23; have U25 := n_U25; have U29 := n_U29; have U47 := n_U47; have Bg2 := n_Bg2; have Bg6 := n_Bg6; have Bg8 := n_Bg8; have Bg9 := n_Bg9; have HB := n_HB; clear n_U23 n_U25 n_U29 n_U47 n_Bg2 n_Bg6 n_Bg8 n_Bg9 n_HB; clear U33; have U33 := nu; clear nu hU hB' hF; have hc9_0 : w19.cell? ⟨g9, 0, none⟩ = some (.slice A33_0 s0.length c33_0) := (blk_cell Bg9.out 0).trans rfl; have hf9_0 := blk_frozen Bg9.out 0; have hc9_1 : w19.cell? ⟨g9, 1, none⟩ = some (.slice A33_1 s1.length c33_1) := (blk_cell Bg9.out 1).trans rfl; have hf9_1 := blk_frozen Bg9.out 1) | ((with_reducible refine gate_callee (f := 42) rfl ?_); refine goesL_ (some 71) rfl rfl Try.func42 (by kernel_rfl) rfl #[.agg #[.slice A33_0 s0.length c33_0, .slice A33_1 s1.length c33_1], .int .i64 1] rfl (by (try simp only [List.map_toArray, List.map_cons, List.map_nil]); first | done | rfl) ?_; have hcall := laws_heldProblem.calls k _ _ ((marks s0 1)) _ _ ((count (1 + lens s0) s1.length)) 1 m2 _ (U33.out.C0) (U33.out.cap0) (U33.out.C1) (U33.out.cap1) H16'.out; simp only [marks_length, count_length] at hcall; refine hcall.mono ?_; clear hcall; rintro e w20 ⟨rfl, hb⟩; refine ⟨_, rfl, ?_⟩; have n_U23 := Aside0.mk (U23.out.mvB (Frm.below hb)); have n_U25 := Aside0.mk (U25.out.mvB (Frm.below hb)); have n_U29 := Aside0.mk (U29.out.mvB (Frm.below hb)); have n_U33 := Aside0.mk (U33.out.mvB (Frm.below hb)); have n_U47 := Aside0.mk (U47.out.mvB (Frm.below hb)); have n_Bg2 := Aside0.mk (blk_below Bg2.out hb); have n_Bg6 := Aside0.mk (blk_below Bg6.out hb); have n_Bg8 := Aside0.mk (blk_below Bg8.out hb); have n_Bg9 := Aside0.mk (blk_below Bg9.out hb); have n_HB := Aside0.mk (below_step HB.out hb); have NN20 : Aside0 (w19.heap.size ≤ w20.heap.size) := ⟨hb.size⟩; clear hc9_0 hf9_0; clear hc9_1 hf9_1; clear U23 U25 U29 U33 U47 Bg2 Bg6 Bg8 Bg9 HB; have U23 := n_U23; have U25 := n_U25; have U29 := n_U29; have U33 := n_U33; have U47 := n_U47; have Bg2 := n_Bg2; have Bg6 := n_Bg6; have Bg8 := n_Bg8; have Bg9 := n_Bg9; have HB := n_HB; clear n_U23 n_U25 n_U29 n_U33 n_U47 n_Bg2 n_Bg6 n_Bg8 n_Bg9 n_HB; clear hb; have hc2_0 : w20.cell? ⟨g2, 0, none⟩ = some (.slice A0_0 l0_0.length c0_0) := (blk_cell Bg2.out 0).trans rfl; have hf2_0 := blk_frozen Bg2.out 0; have hc2_1 : w20.cell? ⟨g2, 1, none⟩ = some (.slice A0_1 l0_1.length c0_1) := (blk_cell Bg2.out 1).trans rfl; have hf2_1 := blk_frozen Bg2.out 1) | ((with_reducible refine gate_callee (f := 17) rfl ?_); refine goesL_ (some 79) rfl rfl Try.func17 (by kernel_rfl) rfl #[.agg #[.slice A0_0 l0_0.length c0_0, .slice A0_1 l0_1.length c0_1]] rfl (by (try simp only [List.map_toArray, List.map_cons, List.map_nil]); first | done | rfl) ?_; refine (laws_toProblem.calls k _ _ l0_0 _ _ l0_1 l0_0 l0_1 _ ?s1 ?s2 ?s3 ?s4 H3'.out).mono ?_; (case s1 => exact Kd.C_below HR0_0.out HB.out); (case s2 => exact HC0_0.out); (case s3 => exact Kd.C_below HR0_1.out HB.out); (case s4 => exact HC0_1.out); rintro e w21 ⟨v79_0, v79_1, rfl, ho0, ho1, hb⟩; refine ⟨_, rfl, ?_⟩; have nu0 := Aside0.mk (UP.of ho0 ho1 HB.out.size); have n_U23 := Aside0.mk (U23.out.mvB (Frm.below hb)); have n_U25 := Aside0.mk (U25.out.mvB (Frm.below hb)); have n_U29 := Aside0.mk (U29.out.mvB (Frm.below hb)); have n_U33 := Aside0.mk (U33.out.mvB (Frm.below hb)); have n_U47 := Aside0.mk (U47.out.mvB (Frm.below hb)); have n_Bg2 := Aside0.mk (blk_below Bg2.out hb); have n_Bg6 := Aside0.mk (blk_below Bg6.out hb); have n_Bg8 := Aside0.mk (blk_below Bg8.out hb); have n_Bg9 := Aside0.mk (blk_below Bg9.out hb); have n_HB := Aside0.mk (below_step HB.out hb); have NN21 : Aside0 (w20.heap.size ≤ w21.heap.size) := ⟨hb.size⟩; clear hc2_0 hf2_0; clear hc2_1 hf2_1; clear U23 U25 U29 U33 U47 Bg2 Bg6 Bg8 Bg9 HB; have U23 := n_U23; have U25 := n_U25; have U29 := n_U29; have U33 := n_U33; have U47 := n_U47; have Bg2 := n_Bg2; have Bg6 := n_Bg6; have Bg8 := n_Bg8; have Bg9 := n_Bg9; have HB := n_HB; clear n_U23 n_U25 n_U29 n_U33 n_U47 n_Bg2 n_Bg6 n_Bg8 n_Bg9 n_HB; clear hb ho0 ho1; have U79 := nu0; clear nu0; obtain ⟨A79_0, c79_0, A79_1, c79_1, e0, e1⟩ := U79.out.slices; subst e0; subst e1) | ((with_reducible refine gate_callee (f := 41) rfl ?_); refine goesL_ (some 81) rfl rfl Try.func41 (by kernel_rfl) rfl #[.agg #[.slice A79_0 l0_0.length c79_0, .slice A79_1 l0_1.length c79_1], .int .i64 a1] rfl (by (try simp only [List.map_toArray, List.map_cons, List.map_nil]); first | done | rfl) ?_; refine (impl_PivotedProblem.calls k _ _ l0_0 _ _ l0_1 a1 s0 s1 s2 _ ?s1 ?s2 ?s3 ?s4 H5'.out).mono ?_; (case s1 => exact U79.out.C0); (case s2 => exact U79.out.cap0); (case s3 => exact U79.out.C1); (case s4 => exact U79.out.cap1); rintro e w22 ⟨v81_0, v81_1, rfl, ho0, ho1, hb⟩; refine ⟨_, rfl, ?_⟩; have nu0 := Aside0.mk (UP.of ho0 ho1 HB.out.size); have n_U23 := Aside0.mk (U23.out.mvB (Frm.below hb)); have n_U25 := Aside0.mk (U25.out.mvB (Frm.below hb)); have n_U29 := Aside0.mk (U29.out.mvB (Frm.below hb)); have n_U33 := Aside0.mk (U33.out.mvB (Frm.below hb)); have n_U47 := Aside0.mk (U47.out.mvB (Frm.below hb)); have n_U79 := Aside0.mk (U79.out.mvB (Frm.below hb)); have n_Bg2 := Aside0.mk (blk_below Bg2.out hb); have n_Bg6 := Aside0.mk (blk_below Bg6.out hb); have n_Bg8 := Aside0.mk (blk_below Bg8.out hb); have n_Bg9 := Aside0.mk (blk_below Bg9.out hb); have n_HB := Aside0.mk (below_step HB.out hb); have NN22 : Aside0 (w21.heap.size ≤ w22.heap.size) := ⟨hb.size⟩; clear U23 U25 U29 U33 U47 U79 Bg2 Bg6 Bg8 Bg9 HB; have U23 := n_U23; have U25 := n_U25; have U29 := n_U29; have U33 := n_U33; have U47 := n_U47; have U79 := n_U79; have Bg2 := n_Bg2; have Bg6 := n_Bg6; have Bg8 := n_Bg8; have Bg9 := n_Bg9; have HB := n_HB; clear n_U23 n_U25 n_U29 n_U33 n_U47 n_U79 n_Bg2 n_Bg6 n_Bg8 n_Bg9 n_HB; clear hb ho0 ho1; have U81 := nu0; clear nu0; obtain ⟨A81_0, c81_0, A81_1, c81_1, e0, e1⟩ := U81.out.slices; subst e0; subst e1) | ((with_reducible refine gate_dst (N := 14) rfl ?_); refine box_event ?hg (N := 14) ?hd (cs := #[.slice none 0 0, .slice none 0 0]) (t := 29) ?hr ?_; (case hd => rfl); (case hg => rfl); (case hr => first | (go_simp; done) | (go_simp; rfl)); intro g14 hg w23 hbox hb; have Gg14 : Aside0 (g14 = w22.heap.size) := ⟨hg⟩; have Kg14 := Aside0.mk (blk_lt hbox); clear hg; have n_U23 := Aside0.mk (U23.out.mvB (Frm.below hb)); have n_U25 := Aside0.mk (U25.out.mvB (Frm.below hb)); have n_U29 := Aside0.mk (U29.out.mvB (Frm.below hb)); have n_U33 := Aside0.mk (U33.out.mvB (Frm.below hb)); have n_U47 := Aside0.mk (U47.out.mvB (Frm.below hb)); have n_U79 := Aside0.mk (U79.out.mvB (Frm.below hb)); have n_U81 := Aside0.mk (U81.out.mvB (Frm.below hb)); have n_Bg2 := Aside0.mk (blk_below Bg2.out hb); have n_Bg6 := Aside0.mk (blk_below Bg6.out hb); have n_Bg8 := Aside0.mk (blk_below Bg8.out hb); have n_Bg9 := Aside0.mk (blk_below Bg9.out hb); have n_HB := Aside0.mk (below_step HB.out hb); have NN23 : Aside0 (w22.heap.size ≤ w23.heap.size) := ⟨hb.size⟩; clear U23 U25 U29 U33 U47 U79 U81 Bg2 Bg6 Bg8 Bg9 HB; have U23 := n_U23; have U25 := n_U25; have U29 := n_U29; have U33 := n_U33; have U47 := n_U47; have U79 := n_U79; have U81 := n_U81; have Bg2 := n_Bg2; have Bg6 := n_Bg6; have Bg8 := n_Bg8; have Bg9 := n_Bg9; have HB := n_HB; clear n_U23 n_U25 n_U29 n_U33 n_U47 n_U79 n_U81 n_Bg2 n_Bg6 n_Bg8 n_Bg9 n_HB; have Bg14 := Aside0.mk hbox; clear hb hbox; have hc14_0 : w23.cell? ⟨g14, 0, none⟩ = some (.slice none 0 0) := (blk_cell Bg14.out 0).trans rfl; have hf14_0 := blk_frozen Bg14.out 0; have hc14_1 : w23.cell? ⟨g14, 1, none⟩ = some (.slice none 0 0) := (blk_cell Bg14.out 1).trans rfl; have hf14_1 := blk_frozen Bg14.out 1) | ((with_reducible refine gate_store (t := 29) (p := 14) rfl ?_); refine store_event (t := 29) (p := 14) (v := ?vo_w24) (w1 := ((w23.setCell ⟨g14, 0, none⟩ (.slice A81_0 s0.length c81_0)).setCell ⟨g14, 1, none⟩ (.slice A81_1 s1.length c81_1))) ?hg ?ho ?hn ?hr ?_; (case ho => rfl); (case hg => rfl); (case hn => rfl); (case hr => first | (go_simp; done) | (go_simp; rfl)); intro w24 hw; have hge : w.heap.size ≤ g14 := (by have := NN1.out; have := Gg2.out; have := Kg2.out; have := NN2.out; have := NN3.out; have := NN4.out; have := NN5.out; have := Gg6.out; have := Kg6.out; have := NN6.out; have := NN7.out; have := NN8.out; have := Gg8.out; have := Kg8.out; have := NN9.out; have := NN10.out; have := NN11.out; have := Gg9.out; have := Kg9.out; have := NN12.out; have := NN13.out; have := NN14.out; have := NN15.out; have := NN16.out; have := NN17.out; have := NN18.out; have := NN19.out; have := NN20.out; have := NN21.out; have := NN22.out; have := NN23.out; have := Gg14.out; have := Kg14.out; have := HB.out.size; omega); have hF : Frm w23 w24 g14 (g14 + 1) := (by rw [hw]; exact (Frm.trans (Frm.set _ _ _ _) (Frm.set _ _ _ _))); have nb := Aside0.mk (show w24.heap[g14]? = some (.cells #[.slice A81_0 s0.length c81_0, .slice A81_1 s1.length c81_1] 29 (0, 0)) from (by rw [hw]; exact (blk_put (blk_put Bg14.out 0 _ rfl) 1 _ rfl))); have n_U23 := Aside0.mk (U23.out.mv hF (by have := NN1.out; have := Gg2.out; have := Kg2.out; have := NN2.out; have := NN3.out; have := NN4.out; have := NN5.out; have := Gg6.out; have := Kg6.out; have := NN6.out; have := NN7.out; have := NN8.out; have := Gg8.out; have := Kg8.out; have := NN9.out; have := NN10.out; have := NN11.out; have := Gg9.out; have := Kg9.out; have := NN12.out; have := NN13.out; have := NN14.out; have := NN15.out; have := NN16.out; have := NN17.out; have := NN18.out; have := NN19.out; have := NN20.out; have := NN21.out; have := NN22.out; have := NN23.out; have := Gg14.out; have := Kg14.out; omega)); have n_U25 := Aside0.mk (U25.out.mv hF (by have := NN1.out; have := Gg2.out; have := Kg2.out; have := NN2.out; have := NN3.out; have := NN4.out; have := NN5.out; have := Gg6.out; have := Kg6.out; have := NN6.out; have := NN7.out; have := NN8.out; have := Gg8.out; have := Kg8.out; have := NN9.out; have := NN10.out; have := NN11.out; have := Gg9.out; have := Kg9.out; have := NN12.out; have := NN13.out; have := NN14.out; have := NN15.out; have := NN16.out; have := NN17.out; have := NN18.out; have := NN19.out; have := NN20.out; have := NN21.out; have := NN22.out; have := NN23.out; have := Gg14.out; have := Kg14.out; omega)); have n_U29 := Aside0.mk (U29.out.mv hF (by have := NN1.out; have := Gg2.out; have := Kg2.out; have := NN2.out; have := NN3.out; have := NN4.out; have := NN5.out; have := Gg6.out; have := Kg6.out; have := NN6.out; have := NN7.out; have := NN8.out; have := Gg8.out; have := Kg8.out; have := NN9.out; have := NN10.out; have := NN11.out; have := Gg9.out; have := Kg9.out; have := NN12.out; have := NN13.out; have := NN14.out; have := NN15.out; have := NN16.out; have := NN17.out; have := NN18.out; have := NN19.out; have := NN20.out; have := NN21.out; have := NN22.out; have := NN23.out; have := Gg14.out; have := Kg14.out; omega)); have n_U33 := Aside0.mk (U33.out.mv hF (by have := NN1.out; have := Gg2.out; have := Kg2.out; have := NN2.out; have := NN3.out; have := NN4.out; have := NN5.out; have := Gg6.out; have := Kg6.out; have := NN6.out; have := NN7.out; have := NN8.out; have := Gg8.out; have := Kg8.out; have := NN9.out; have := NN10.out; have := NN11.out; have := Gg9.out; have := Kg9.out; have := NN12.out; have := NN13.out; have := NN14.out; have := NN15.out; have := NN16.out; have := NN17.out; have := NN18.out; have := NN19.out; have := NN20.out; have := NN21.out; have := NN22.out; have := NN23.out; have := Gg14.out; have := Kg14.out; omega)); have n_U47 := Aside0.mk (U47.out.mv hF (by have := NN1.out; have := Gg2.out; have := Kg2.out; have := NN2.out; have := NN3.out; have := NN4.out; have := NN5.out; have := Gg6.out; have := Kg6.out; have := NN6.out; have := NN7.out; have := NN8.out; have := Gg8.out; have := Kg8.out; have := NN9.out; have := NN10.out; have := NN11.out; have := Gg9.out; have := Kg9.out; have := NN12.out; have := NN13.out; have := NN14.out; have := NN15.out; have := NN16.out; have := NN17.out; have := NN18.out; have := NN19.out; have := NN20.out; have := NN21.out; have := NN22.out; have := NN23.out; have := Gg14.out; have := Kg14.out; omega)); have n_U79 := Aside0.mk (U79.out.mv hF (by have := NN1.out; have := Gg2.out; have := Kg2.out; have := NN2.out; have := NN3.out; have := NN4.out; have := NN5.out; have := Gg6.out; have := Kg6.out; have := NN6.out; have := NN7.out; have := NN8.out; have := Gg8.out; have := Kg8.out; have := NN9.out; have := NN10.out; have := NN11.out; have := Gg9.out; have := Kg9.out; have := NN12.out; have := NN13.out; have := NN14.out; have := NN15.out; have := NN16.out; have := NN17.out; have := NN18.out; have := NN19.out; have := NN20.out; have := NN21.out; have := NN22.out; have := NN23.out; have := Gg14.out; have := Kg14.out; omega)); have n_U81 := Aside0.mk (U81.out.mv hF (by have := NN1.out; have := Gg2.out; have := Kg2.out; have := NN2.out; have := NN3.out; have := NN4.out; have := NN5.out; have := Gg6.out; have := Kg6.out; have := NN6.out; have := NN7.out; have := NN8.out; have := Gg8.out; have := Kg8.out; have := NN9.out; have := NN10.out; have := NN11.out; have := Gg9.out; have := Kg9.out; have := NN12.out; have := NN13.out; have := NN14.out; have := NN15.out; have := NN16.out; have := NN17.out; have := NN18.out; have := NN19.out; have := NN20.out; have := NN21.out; have := NN22.out; have := NN23.out; have := Gg14.out; have := Kg14.out; omega)); have n_Bg2 := Aside0.mk ((hF.same g2 (blk_lt Bg2.out) (by have := NN1.out; have := Gg2.out; have := Kg2.out; have := NN2.out; have := NN3.out; have := NN4.out; have := NN5.out; have := Gg6.out; have := Kg6.out; have := NN6.out; have := NN7.out; have := NN8.out; have := Gg8.out; have := Kg8.out; have := NN9.out; have := NN10.out; have := NN11.out; have := Gg9.out; have := Kg9.out; have := NN12.out; have := NN13.out; have := NN14.out; have := NN15.out; have := NN16.out; have := NN17.out; have := NN18.out; have := NN19.out; have := NN20.out; have := NN21.out; have := NN22.out; have := NN23.out; have := Gg14.out; have := Kg14.out; omega)).trans Bg2.out); have n_Bg6 := Aside0.mk ((hF.same g6 (blk_lt Bg6.out) (by have := NN1.out; have := Gg2.out; have := Kg2.out; have := NN2.out; have := NN3.out; have := NN4.out; have := NN5.out; have := Gg6.out; have := Kg6.out; have := NN6.out; have := NN7.out; have := NN8.out; have := Gg8.out; have := Kg8.out; have := NN9.out; have := NN10.out; have := NN11.out; have := Gg9.out; have := Kg9.out; have := NN12.out; have := NN13.out; have := NN14.out; have := NN15.out; have := NN16.out; have := NN17.out; have := NN18.out; have := NN19.out; have := NN20.out; have := NN21.out; have := NN22.out; have := NN23.out; have := Gg14.out; have := Kg14.out; omega)).trans Bg6.out); have n_Bg8 := Aside0.mk ((hF.same g8 (blk_lt Bg8.out) (by have := NN1.out; have := Gg2.out; have := Kg2.out; have := NN2.out; have := NN3.out; have := NN4.out; have := NN5.out; have := Gg6.out; have := Kg6.out; have := NN6.out; have := NN7.out; have := NN8.out; have := Gg8.out; have := Kg8.out; have := NN9.out; have := NN10.out; have := NN11.out; have := Gg9.out; have := Kg9.out; have := NN12.out; have := NN13.out; have := NN14.out; have := NN15.out; have := NN16.out; have := NN17.out; have := NN18.out; have := NN19.out; have := NN20.out; have := NN21.out; have := NN22.out; have := NN23.out; have := Gg14.out; have := Kg14.out; omega)).trans Bg8.out); have n_Bg9 := Aside0.mk ((hF.same g9 (blk_lt Bg9.out) (by have := NN1.out; have := Gg2.out; have := Kg2.out; have := NN2.out; have := NN3.out; have := NN4.out; have := NN5.out; have := Gg6.out; have := Kg6.out; have := NN6.out; have := NN7.out; have := NN8.out; have := Gg8.out; have := Kg8.out; have := NN9.out; have := NN10.out; have := NN11.out; have := Gg9.out; have := Kg9.out; have := NN12.out; have := NN13.out; have := NN14.out; have := NN15.out; have := NN16.out; have := NN17.out; have := NN18.out; have := NN19.out; have := NN20.out; have := NN21.out; have := NN22.out; have := NN23.out; have := Gg14.out; have := Kg14.out; omega)).trans Bg9.out); have n_HB := Aside0.mk ((by rw [hw]; exact (below_set (below_set HB.out hge) hge) : Below w.heap.size w w24)); have NN24 : Aside0 (w23.heap.size ≤ w24.heap.size) := ⟨hF.size⟩; clear hc14_0 hf14_0; clear hc14_1 hf14_1; clear U23 U25 U29 U33 U47 U79 U81 Bg2 Bg6 Bg8 Bg9 HB; have U23 := n_U23; have U25 := n_U25; have U29 := n_U29; have U33 := n_U33; have U47 := n_U47; have U79 := n_U79; have U81 := n_U81; have Bg2 := n_Bg2; have Bg6 := n_Bg6; have Bg8 := n_Bg8; have Bg9 := n_Bg9; have HB := n_HB; clear n_U23 n_U25 n_U29 n_U33 n_U47 n_U79 n_U81 n_Bg2 n_Bg6 n_Bg8 n_Bg9 n_HB; clear Bg14; have Bg14 := nb; clear nb hF hge hw; have hc6_0 : w24.cell? ⟨g6, 0, none⟩ = some (.slice A25_0 s0.length c25_0) := (blk_cell Bg6.out 0).trans rfl; have hf6_0 := blk_frozen Bg6.out 0; have hc6_1 : w24.cell? ⟨g6, 1, none⟩ = some (.slice A25_1 s1.length c25_1) := (blk_cell Bg6.out 1).trans rfl; have hf6_1 := blk_frozen Bg6.out 1; have hc14_0 : w24.cell? ⟨g14, 0, none⟩ = some (.slice A81_0 s0.length c81_0) := (blk_cell Bg14.out 0).trans rfl; have hf14_0 := blk_frozen Bg14.out 0; have hc14_1 : w24.cell? ⟨g14, 1, none⟩ = some (.slice A81_1 s1.length c81_1) := (blk_cell Bg14.out 1).trans rfl; have hf14_1 := blk_frozen Bg14.out 1) | ((with_reducible refine gate_callee (f := 20) rfl ?_); refine goesL_ (some 86) rfl rfl Try.func20 (by kernel_rfl) rfl #[.agg #[.slice A81_0 s0.length c81_0, .slice A81_1 s1.length c81_1], .agg #[.slice A25_0 s0.length c25_0, .slice A25_1 s1.length c25_1]] rfl (by (try simp only [List.map_toArray, List.map_cons, List.map_nil]); first | done | rfl) ?_; refine (laws_eqProblem.calls k _ _ s0 _ _ s1 _ _ s0 _ _ s1 true _ ?s1 ?s2 ?s3 ?s4 ?s5 ?s6 ?s7 ?s8 H6'.out).mono ?_; (case s1 => exact U81.out.C0); (case s2 => exact U81.out.cap0); (case s3 => exact U81.out.C1); (case s4 => exact U81.out.cap1); (case s5 => exact U25.out.C0); (case s6 => exact U25.out.cap0); (case s7 => exact U25.out.C1); (case s8 => exact U25.out.cap1); rintro e w25 ⟨rfl, hb⟩; refine ⟨_, rfl, ?_⟩; have n_U23 := Aside0.mk (U23.out.mvB (Frm.below hb)); have n_U25 := Aside0.mk (U25.out.mvB (Frm.below hb)); have n_U29 := Aside0.mk (U29.out.mvB (Frm.below hb)); have n_U33 := Aside0.mk (U33.out.mvB (Frm.below hb)); have n_U47 := Aside0.mk (U47.out.mvB (Frm.below hb)); have n_U79 := Aside0.mk (U79.out.mvB (Frm.below hb)); have n_U81 := Aside0.mk (U81.out.mvB (Frm.below hb)); have n_Bg2 := Aside0.mk (blk_below Bg2.out hb); have n_Bg6 := Aside0.mk (blk_below Bg6.out hb); have n_Bg8 := Aside0.mk (blk_below Bg8.out hb); have n_Bg9 := Aside0.mk (blk_below Bg9.out hb); have n_Bg14 := Aside0.mk (blk_below Bg14.out hb); have n_HB := Aside0.mk (below_step HB.out hb); have NN25 : Aside0 (w24.heap.size ≤ w25.heap.size) := ⟨hb.size⟩; clear hc6_0 hf6_0; clear hc6_1 hf6_1; clear hc14_0 hf14_0; clear hc14_1 hf14_1; clear U23 U25 U29 U33 U47 U79 U81 Bg2 Bg6 Bg8 Bg9 Bg14 HB; have U23 := n_U23; have U25 := n_U25; have U29 := n_U29; have U33 := n_U33; have U47 := n_U47; have U79 := n_U79; have U81 := n_U81; have Bg2 := n_Bg2; have Bg6 := n_Bg6; have Bg8 := n_Bg8; have Bg9 := n_Bg9; have Bg14 := n_Bg14; have HB := n_HB; clear n_U23 n_U25 n_U29 n_U33 n_U47 n_U79 n_U81 n_Bg2 n_Bg6 n_Bg8 n_Bg9 n_Bg14 n_HB; clear hb; have hc9_0 : w25.cell? ⟨g9, 0, none⟩ = some (.slice A33_0 s0.length c33_0) := (blk_cell Bg9.out 0).trans rfl; have hf9_0 := blk_frozen Bg9.out 0; have hc9_1 : w25.cell? ⟨g9, 1, none⟩ = some (.slice A33_1 s1.length c33_1) := (blk_cell Bg9.out 1).trans rfl; have hf9_1 := blk_frozen Bg9.out 1) | ((with_reducible refine gate_callee (f := 42) rfl ?_); refine goesL_ (some 95) rfl rfl Try.func42 (by kernel_rfl) rfl #[.agg #[.slice A33_0 s0.length c33_0, .slice A33_1 s1.length c33_1], .int .i64 1] rfl (by (try simp only [List.map_toArray, List.map_cons, List.map_nil]); first | done | rfl) ?_; have hcall := laws_heldProblem.calls k _ _ ((marks s0 1)) _ _ ((count (1 + lens s0) s1.length)) 1 m2 _ (U33.out.C0) (U33.out.cap0) (U33.out.C1) (U33.out.cap1) H16'.out; simp only [marks_length, count_length] at hcall; refine hcall.mono ?_; clear hcall; rintro e w26 ⟨rfl, hb⟩; refine ⟨_, rfl, ?_⟩; have n_U23 := Aside0.mk (U23.out.mvB (Frm.below hb)); have n_U25 := Aside0.mk (U25.out.mvB (Frm.below hb)); have n_U29 := Aside0.mk (U29.out.mvB (Frm.below hb)); have n_U33 := Aside0.mk (U33.out.mvB (Frm.below hb)); have n_U47 := Aside0.mk (U47.out.mvB (Frm.below hb)); have n_U79 := Aside0.mk (U79.out.mvB (Frm.below hb)); have n_U81 := Aside0.mk (U81.out.mvB (Frm.below hb)); have n_Bg2 := Aside0.mk (blk_below Bg2.out hb); have n_Bg6 := Aside0.mk (blk_below Bg6.out hb); have n_Bg8 := Aside0.mk (blk_below Bg8.out hb); have n_Bg9 := Aside0.mk (blk_below Bg9.out hb); have n_Bg14 := Aside0.mk (blk_below Bg14.out hb); have n_HB := Aside0.mk (below_step HB.out hb); have NN26 : Aside0 (w25.heap.size ≤ w26.heap.size) := ⟨hb.size⟩; clear hc9_0 hf9_0; clear hc9_1 hf9_1; clear U23 U25 U29 U33 U47 U79 U81 Bg2 Bg6 Bg8 Bg9 Bg14 HB; have U23 := n_U23; have U25 := n_U25; have U29 := n_U29; have U33 := n_U33; have U47 := n_U47; have U79 := n_U79; have U81 := n_U81; have Bg2 := n_Bg2; have Bg6 := n_Bg6; have Bg8 := n_Bg8; have Bg9 := n_Bg9; have Bg14 := n_Bg14; have HB := n_HB; clear n_U23 n_U25 n_U29 n_U33 n_U47 n_U79 n_U81 n_Bg2 n_Bg6 n_Bg8 n_Bg9 n_Bg14 n_HB; clear hb))
 go_ret
 exact ⟨rfl, HB.out⟩
theorem laws_FnExactPivotedProblem.small0 (k : Nat) (A0_0 : Option Addr) (c0_0 : Nat) (l0_0 : List (List Int)) (A0_1 : Option Addr) (c0_1 : Nat) (l0_1 : List Int) (a1 : Int) (t18 : Int) (w : World) (hr0_0 : Kd.C (Kd.slice 2 (Kd.int .i64)) w A0_0 l0_0.length l0_0) (hc0_0 : l0_0.length ≤ c0_0) (hr0_1 : Kd.C (Kd.int .i64) w A0_1 l0_1.length l0_1) (hc0_1 : l0_1.length ≤ c0_1) (h1 : laws_szProblem.f k l0_0 l0_1 1048576 = some t18) (h2 : t18 < 0) :
  Calls Try.prog 9 #[.agg #[.slice A0_0 l0_0.length c0_0, .slice A0_1 l0_1.length c0_1], .int .i64 a1] w fun e w' => e = .returned (.bool true) ∧ Below w.heap.size w w' := by
 have HR0_0 := Aside0.mk hr0_0
 have HC0_0 := Aside0.mk hc0_0
 clear hr0_0 hc0_0
 have HR0_1 := Aside0.mk hr0_1
 have HC0_1 := Aside0.mk hc0_1
 clear hr0_1 hc0_1
 have HB := Aside0.mk (Below.refl w.heap.size w)
 have H1' := Aside0.mk h1
 clear h1
 go_enter Try.func9, Try.ntmps9
 go_wp2_with (first | ((with_reducible refine gate_dst (N := 2) rfl ?_); refine box_event ?hg (N := 2) ?hd (cs := #[.slice A0_0 l0_0.length c0_0, .slice A0_1 l0_1.length c0_1]) (t := 25) ?hr ?_; (case hd => rfl); (case hg => rfl); (case hr => first | (go_simp; done) | (go_simp; rfl)); intro g2 hg w1 hbox hb; have Gg2 : Aside0 (g2 = w.heap.size) := ⟨hg⟩; have Kg2 := Aside0.mk (blk_lt hbox); clear hg; have n_HB := Aside0.mk (below_step HB.out hb); have NN1 : Aside0 (w.heap.size ≤ w1.heap.size) := ⟨hb.size⟩; clear HB; have HB := n_HB; clear n_HB; have Bg2 := Aside0.mk hbox; clear hb hbox; have hc2_0 : w1.cell? ⟨g2, 0, none⟩ = some (.slice A0_0 l0_0.length c0_0) := (blk_cell Bg2.out 0).trans rfl; have hf2_0 := blk_frozen Bg2.out 0; have hc2_1 : w1.cell? ⟨g2, 1, none⟩ = some (.slice A0_1 l0_1.length c0_1) := (blk_cell Bg2.out 1).trans rfl; have hf2_1 := blk_frozen Bg2.out 1) | ((with_reducible refine gate_callee (f := 15) rfl ?_); refine goesL_ (some 18) rfl rfl Try.func15 (by kernel_rfl) rfl #[.agg #[.slice A0_0 l0_0.length c0_0, .slice A0_1 l0_1.length c0_1], .int .i64 1048576] rfl (by (try simp only [List.map_toArray, List.map_cons, List.map_nil]); first | done | rfl) ?_; refine (laws_szProblem.calls k _ _ l0_0 _ _ l0_1 1048576 t18 _ ?s1 ?s2 ?s3 ?s4 H1'.out).mono ?_; (case s1 => exact Kd.C_below HR0_0.out HB.out); (case s2 => exact HC0_0.out); (case s3 => exact Kd.C_below HR0_1.out HB.out); (case s4 => exact HC0_1.out); rintro e w2 ⟨rfl, hb⟩; refine ⟨_, rfl, ?_⟩; have n_Bg2 := Aside0.mk (blk_below Bg2.out hb); have n_HB := Aside0.mk (below_step HB.out hb); have NN2 : Aside0 (w1.heap.size ≤ w2.heap.size) := ⟨hb.size⟩; clear hc2_0 hf2_0; clear hc2_1 hf2_1; clear Bg2 HB; have Bg2 := n_Bg2; have HB := n_HB; clear n_Bg2 n_HB; clear hb; have hc2_0 : w2.cell? ⟨g2, 0, none⟩ = some (.slice A0_0 l0_0.length c0_0) := (blk_cell Bg2.out 0).trans rfl; have hf2_0 := blk_frozen Bg2.out 0; have hc2_1 : w2.cell? ⟨g2, 1, none⟩ = some (.slice A0_1 l0_1.length c0_1) := (blk_cell Bg2.out 1).trans rfl; have hf2_1 := blk_frozen Bg2.out 1))
 go_ret
 exact ⟨rfl, HB.out⟩
def laws_FnExactPivotedProblem.ok_walk (k : Nat) (l0_0 : List (List Int)) (l0_1 : List Int) (a1 : Int) : Prop := ∃ (t18 : Int) (s0 : List (List Int)) (s1 : List Int) (s2 : Int) (m1 : Int) (m2 : Int), (laws_szProblem.f k l0_0 l0_1 1048576 = some t18) ∧ (¬ t18 < 0) ∧ (laws_toProblem.f k l0_0 l0_1 = some (l0_0, l0_1)) ∧ (spec_PivotedProblem.f k l0_0 l0_1 a1 = some (s0, s1, s2)) ∧ (impl_PivotedProblem.f k l0_0 l0_1 a1 = some (s0, s1, s2)) ∧ (laws_eqProblem.f k s0 s1 s0 s1 = some true) ∧ (laws_eqProblem.f k l0_0 l0_1 l0_0 l0_1 = some true) ∧ (m1 = 1 + (lens l0_0 : Int) + (l0_1.length : Int)) ∧ (1 + (lens l0_0 : Int) + (l0_1.length : Int) ≤ 1099511627776) ∧ (l0_0.length ≤ 1099511627776) ∧ (¬ m1 < 0) ∧ (m2 = 1 + (lens s0 : Int) + (s1.length : Int)) ∧ (1 + (lens s0 : Int) + (s1.length : Int) ≤ 1099511627776) ∧ (s0.length ≤ 1099511627776) ∧ (¬ m2 < 0) ∧ (laws_heldProblem.f k ((marks s0 1)) ((count (1 + lens s0) s1.length)) 1 = some m2)
def laws_FnExactPivotedProblem.ok_small0 (k : Nat) (l0_0 : List (List Int)) (l0_1 : List Int) (a1 : Int) : Prop := ∃ (t18 : Int), (laws_szProblem.f k l0_0 l0_1 1048576 = some t18) ∧ (t18 < 0)
open Classical in
noncomputable def laws_FnExactPivotedProblem.f (k : Nat) (l0_0 : List (List Int)) (l0_1 : List Int) (a1 : Int) : Option Bool := if laws_FnExactPivotedProblem.ok_walk k l0_0 l0_1 a1 ∨ laws_FnExactPivotedProblem.ok_small0 k l0_0 l0_1 a1 then some true else none
theorem laws_FnExactPivotedProblem.calls (k : Nat) (A0_0 : Option Addr) (c0_0 : Nat) (l0_0 : List (List Int)) (A0_1 : Option Addr) (c0_1 : Nat) (l0_1 : List Int) (a1 : Int) (r : Bool) (w : World) (hr0_0 : Kd.C (Kd.slice 2 (Kd.int .i64)) w A0_0 l0_0.length l0_0) (hc0_0 : l0_0.length ≤ c0_0) (hr0_1 : Kd.C (Kd.int .i64) w A0_1 l0_1.length l0_1) (hc0_1 : l0_1.length ≤ c0_1) (h : laws_FnExactPivotedProblem.f k l0_0 l0_1 a1 = some r) :
  Calls Try.prog 9 #[.agg #[.slice A0_0 l0_0.length c0_0, .slice A0_1 l0_1.length c0_1], .int .i64 a1] w fun e w' => e = .returned (.bool r) ∧ Below w.heap.size w w' := by
 unfold laws_FnExactPivotedProblem.f at h
 split at h
 case isFalse => cases h
 rename_i hok
 cases h
 rcases hok with ⟨t18, s0, s1, s2, m1, m2, h1, h2, h3, h4, h5, h6, h7, h8, h9, h10, h11, h12, h13, h14, h15, h16⟩ | ⟨t18, h1, h2⟩
 ·exact laws_FnExactPivotedProblem.walk k A0_0 c0_0 l0_0 A0_1 c0_1 l0_1 a1 t18 s0 s1 s2 m1 m2 w hr0_0 hc0_0 hr0_1 hc0_1 h1 h2 h3 h4 h5 h6 h7 h8 h9 h10 h11 h12 h13 h14 h15 h16
 ·exact laws_FnExactPivotedProblem.small0 k A0_0 c0_0 l0_0 A0_1 c0_1 l0_1 a1 t18 w hr0_0 hc0_0 hr0_1 hc0_1 h1 h2
end Go.Proofs.Ythdoilfjcgickaa.Pr
end
section
namespace Go.Proofs.Ythdoilfjcgickaa.Say
open Go.Proofs.Ythdoilfjcgickaa.Op Go.Proofs.Ythdoilfjcgickaa.Pr
def FnExactPivotedProblem : Prop := ∀ (l0_0 : List (List Int)) (l0_1 : List Int) (a1 : Int), GoodList (GoodList (GoodInt .i64)) l0_0 → GoodList (GoodInt .i64) l0_1 → GoodInt .i64 a1 → ∃ k, laws_FnExactPivotedProblem.f k l0_0 l0_1 a1 = some true
end Go.Proofs.Ythdoilfjcgickaa.Say
end
section
namespace Go.Proofs.Ythdoilfjcgickaa.Bz
open Go.RowKit Go.Proofs.YthdoilfjcgickaaW.PrintWords Go.Proofs.YthdoilfjcgickaaW.PrintMore Go.Proofs.Ythdoilfjcgickaa.Ma Go.Proofs.Ythdoilfjcgickaa.Dt Go.Proofs.Ythdoilfjcgickaa.Bd
theorem det_scal (L : Int) : ∀ n, det n (fun a b => if a = b then L else 0) = L ^ n := by
 intro n
 induction n with
 | zero => simp [det]
 | succ n ih =>
  rw [det_succ, sm_one (k := 0) (by omega) (fun i _ h => by rw [if_neg (by omega)]; simp)]
  rw [det_congr (A := mnr 0 (fun a b => if a = b then L else 0)) (B := fun a b => if a = b then L else 0) (fun i j _ _ => by simp [mnr, up]), ih]
  rw [if_pos rfl, Int.pow_succ, show sg 0 = 1 from rfl]
  grind
theorem det_zero_col {n c : Nat} (hc : c < n) {A : Mat} (h : ∀ i, i < n → A i c = 0) : det n A = 0 := by
 have := det_col_lin (A := A) (B := A) (C := A) (s := 0) (t := 0) hc (fun i hi => by rw [h i hi]; simp) (fun i j _ _ _ => ⟨rfl, rfl⟩)
 simpa using this
theorem det_1 (A : Mat) : det 1 A = A 0 0 := by simp [det, sm, sg]
theorem det_2 (A : Mat) : det 2 A = A 0 0 * A 1 1 - A 0 1 * A 1 0 := by
 simp [det, sm, sg, mnr, up]
 omega
def rs (i : Nat) (A : Mat) (r c : Nat) : Int := det i A * A r c - sm i (fun t => det i (rset t (A r) A) * A t c)
theorem rs_zero (i : Nat) (A : Mat) (r : Nat) {j : Nat} (hj : j < i) : rs i A r j = 0 := by
 unfold rs
 rw [adj_row A (A r) hj]; omega
theorem block_elim (i d : Nat) (A : Mat) : det i A ^ d * det (i + d) A = det i A * det d (fun a b => rs i A (i + a) (i + b)) := by
 let E : Mat := fun a b => if a < i then one a b else if b < i then - det i (rset b (A a) A) else if a = b then det i A else 0
 have hE : det (i + d) E = det i A ^ d := by
  rw [det_block d i E (fun a b ha hb _ => by simp only [E, if_pos ha, one]; rw [if_neg (by omega)])]
  rw [det_congr (A := E) (B := one) (fun a b ha _ => by simp only [E, if_pos ha]), det_one, Int.one_mul, ← det_scal]
  exact det_congr (fun a b _ _ => by simp only [sh, E]; rw [if_neg (by omega), if_neg (by omega)]; simp)
 have hlow (a b : Nat) (ha : i ≤ a) (ha2 : a < i + d) : mul (i + d) E A a b = rs i A a b := by
  unfold mul
  rw [sm_split, sm_congr (f := fun k => E a k * A k b) (g := fun k => (-1) * (det i (rset k (A a) A) * A k b)) (fun k hk => by simp only [E]; rw [if_neg (by omega), if_pos hk]; grind), sm_mul]
  rw [sm_one (n := d) (k := a - i) (by omega) (fun k hk hne => by simp only [E]; rw [if_neg (by omega), if_neg (by omega), if_neg (by omega)]; simp)]
  simp only [E]
  rw [if_neg (by omega), if_neg (by omega), if_pos (by omega), show i + (a - i) = a from by omega]
  unfold rs
  omega
 have hup (a b : Nat) (ha : a < i) : mul (i + d) E A a b = A a b := by
  unfold mul
  rw [sm_one (k := a) (by omega) (fun k hk hne => by simp only [E, if_pos ha, one]; rw [if_neg (by omega)]; simp)]
  simp [E, ha, one]
 rw [← hE, ← det_mul, det_block' d i (mul (i + d) E A) (fun a b h1 h2 h3 => by rw [hlow a b h1 h2, rs_zero i A a h3])]
 rw [det_congr (A := mul (i + d) E A) (B := A) (fun a b ha _ => hup a b ha)]
 congr 1
 exact det_congr (fun a b ha _ => by simp only [sh]; exact hlow _ _ (by omega) (by omega))
def bord (i r c : Nat) (A : Mat) : Mat := fun a b => A (if a < i then a else r) (if b < i then b else c)
def bm (i r c : Nat) (A : Mat) : Int := det (i + 1) (bord i r c A)
theorem rs_re (i : Nat) (A B : Mat) (r c r' c' : Nat) (h1 : ∀ a b, a < i → b < i → B a b = A a b) (h2 : ∀ b, b < i → B r' b = A r b) (h3 : ∀ a, a < i → B a c' = A a c) (h4 : B r' c' = A r c) : rs i B r' c' = rs i A r c := by
 unfold rs
 rw [det_congr (A := B) (B := A) h1, h4]
 congr 1
 refine sm_congr (fun t ht => ?_)
 rw [h3 t ht, det_congr (A := rset t (B r') B) (B := rset t (A r) A) (fun a b ha hb => by
  unfold rset
  split
  ·exact h2 b hb
  ·exact h1 a b ha hb)]
theorem bm_rs {i : Nat} {A : Mat} (hL : det i A ≠ 0) (r c : Nat) : bm i r c A = rs i A r c := by
 have h := block_elim i 1 (bord i r c A)
 rw [det_1, det_congr (A := bord i r c A) (B := A) (n := i) (fun a b ha hb => by simp [bord, ha, hb]), Int.pow_succ, Int.pow_zero, Int.one_mul] at h
 rw [rs_re i A (bord i r c A) r c (i + 0) (i + 0) (fun a b ha hb => by simp [bord, ha, hb]) (fun b hb => by simp [bord, hb]) (fun a ha => by simp [bord, ha]) (by simp [bord])] at h
 exact Int.eq_of_mul_eq_mul_left hL h
theorem sylv {i : Nat} {A : Mat} (hL : det i A ≠ 0) (r c : Nat) : det i A * bm (i + 1) r c A = bm i i i A * bm i r c A - bm i i c A * bm i r i A := by
 have h := block_elim i 2 (bord (i + 1) r c A)
 rw [det_2, det_congr (A := bord (i + 1) r c A) (B := A) (n := i) (fun a b ha hb => by unfold bord; rw [if_pos (by omega), if_pos (by omega)])] at h
 have q (a b r' c' : Nat) (ha : (if a < i + 1 then a else r) = r') (hb : (if b < i + 1 then b else c) = c') : rs i (bord (i + 1) r c A) a b = rs i A r' c' :=
  rs_re i A (bord (i + 1) r c A) r' c' a b (fun x y hx hy => by unfold bord; rw [if_pos (by omega), if_pos (by omega)]) (fun y hy => by unfold bord; rw [ha, if_pos (by omega)]) (fun x hx => by unfold bord; rw [hb, if_pos (by omega)]) (by unfold bord; rw [ha, hb])
 rw [q (i + 0) (i + 0) i i (by simp) (by simp), q (i + 1) (i + 1) r c (by simp) (by simp), q (i + 0) (i + 1) i c (by simp) (by simp), q (i + 1) (i + 0) r i (by simp) (by simp)] at h
 rw [← bm_rs hL, ← bm_rs hL, ← bm_rs hL, ← bm_rs hL] at h
 have e : det i A ^ 2 * det (i + 2) (bord (i + 1) r c A) = det i A * (det i A * bm (i + 1) r c A) := by unfold bm; grind
 rw [e] at h
 exact Int.eq_of_mul_eq_mul_left hL h
def fact : Nat → Nat
 | 0 => 1
 | n + 1 => (n + 1) * fact n
def b20 (n : Nat) : Nat := fact n * 20 ^ n
theorem sm_abs {n B : Nat} {f : Nat → Int} (h : ∀ i, i < n → (f i).natAbs ≤ B) : (sm n f).natAbs ≤ n * B := by
 induction n with
 | zero => simp [sm]
 | succ n ih =>
  have h1 := ih (fun i hi => h i (by omega))
  have h2 := h n (by omega)
  have h3 := Int.natAbs_add_le (sm n f) (f n)
  simp only [sm]
  rw [Nat.add_mul, Nat.one_mul]
  omega
theorem sg_abs (k : Nat) : (sg k).natAbs = 1 := by unfold sg; split <;> rfl
theorem det_abs20 : ∀ (n : Nat) (A : Mat), (∀ i j, i < n → j < n → (A i j).natAbs ≤ 20) → (det n A).natAbs ≤ b20 n := by
 intro n
 induction n with
 | zero => intro A _; show (1 : Int).natAbs ≤ 1; decide
 | succ n ih =>
  intro A h
  rw [det_succ]
  refine Nat.le_trans (sm_abs (B := 20 * b20 n) (fun k hk => ?_)) ?_
  ·rw [Int.natAbs_mul, Int.natAbs_mul, sg_abs, Nat.one_mul]
   exact Nat.mul_le_mul (h 0 k (by omega) hk) (ih (mnr k A) (fun i j hi hj => h _ _ (by omega) (up_lt hj)))
  ·unfold b20; rw [fact, Nat.pow_succ]
   exact Nat.le_of_eq (by grind)
def Bk (n k : Nat) (A : Mat) : Prop := ∀ i j, i < n → j < n → (A i j).natAbs ≤ if j = k then 100 else 20
theorem det_absk : ∀ (n k : Nat) (A : Mat), Bk n k A → (det n A).natAbs ≤ 5 * b20 n := by
 intro n
 induction n with
 | zero => intro k A _; show (1 : Int).natAbs ≤ 5 * 1; decide
 | succ n ih =>
  intro k A h
  rw [det_succ]
  refine Nat.le_trans (sm_abs (B := 100 * b20 n) (fun c hc => ?_)) ?_
  ·rw [Int.natAbs_mul, Int.natAbs_mul, sg_abs, Nat.one_mul]
   have h0 := h 0 c (by omega) hc
   by_cases e : c = k
   ·subst e
    rw [if_pos rfl] at h0
    exact Nat.mul_le_mul h0 (det_abs20 n (mnr c A) (fun i j hi hj => by have := h (i + 1) (up c j) (by omega) (up_lt hj); rwa [if_neg (up_ne c j)] at this))
   ·rw [if_neg e] at h0
    have := ih (dn c k) (mnr c A) (fun i j hi hj => by
     have := h (i + 1) (up c j) (by omega) (up_lt hj)
     unfold mnr
     by_cases q : up c j = k
     ·rw [if_pos q] at this
      rw [if_pos (by rw [← q, dn_up])]; exact this
     ·rw [if_neg q] at this
      split <;> omega)
    calc (A 0 c).natAbs * (det n (mnr c A)).natAbs ≤ 20 * (5 * b20 n) := Nat.mul_le_mul h0 this
     _ = 100 * b20 n := by omega
  ·unfold b20; rw [fact, Nat.pow_succ]
   exact Nat.le_of_eq (by grind)
theorem b20_le : ∀ n, n ≤ 5 → 5 * b20 n ≤ 1920000000 := by
 intro n h
 match n, h with
 | 0, _ => decide
 | 1, _ => decide
 | 2, _ => decide
 | 3, _ => decide
 | 4, _ => decide
 | 5, _ => decide
 | n + 6, h => omega
theorem bm_abs {n k : Nat} (hn : n ≤ 5) {A : Mat} (h : Bk n k A) {i r c : Nat} (hi : i < n) (hr : r < n) (hic : i ≤ c) (hc : c < n) : -1920000000 ≤ bm i r c A ∧ bm i r c A ≤ 1920000000 := by
 have h1 : (bm i r c A).natAbs ≤ 5 * b20 (i + 1) := det_absk (i + 1) (if k < i then k else i) _ (fun a b ha hb => by
  unfold bord
  have := h (if a < i then a else r) (if b < i then b else c) (by split <;> omega) (by split <;> omega)
  refine Nat.le_trans this ?_
  grind)
 have h2 := b20_le (i + 1) (by omega)
 omega
theorem prod_b {x y : Int} (hx : -1920000000 ≤ x ∧ x ≤ 1920000000) (hy : -1920000000 ≤ y ∧ y ≤ 1920000000) : -3686400000000000000 ≤ x * y ∧ x * y ≤ 3686400000000000000 := by
 have h : (x * y).natAbs ≤ 1920000000 * 1920000000 := by rw [Int.natAbs_mul]; exact Nat.mul_le_mul (by omega) (by omega)
 omega
structure Inv (n k i : Nat) (M : Mat) (last turn : Int) (A A0 : Mat) : Prop where
 le : i ≤ n
 small : Bk n k A
 num : ∀ r c, i ≤ r → r < n → i ≤ c → c < n → M r c = bm i r c A
 last_ : last = det i A
 nz : last ≠ 0
 turn_ : turn = 1 ∨ turn = -1
 det_ : turn * det n A = det n A0
section
variable {n k : Nat} (hn : n ≤ 5) {A0 : Mat}
include hn
theorem Inv.step {i : Nat} {M A : Mat} {last turn : Int} (h : Inv n k i M last turn A A0) (hi : i < n) (hp : M i i ≠ 0) : Inv n k (i + 1) (el M i last) (M i i) turn A A0 := by
 have hL : det i A ≠ 0 := by rw [← h.last_]; exact h.nz
 have hpi := h.num i i (Nat.le_refl _) hi (Nat.le_refl _) hi
 refine ⟨by omega, h.small, fun r c hr hrn hc hcn => ?_, ?_, hp, h.turn_, h.det_⟩
 ·unfold el ev
  rw [if_pos (by omega), h.num r c (by omega) hrn (by omega) hcn, hpi, h.num r i (by omega) hrn (Nat.le_refl _) hi, h.num i c (Nat.le_refl _) hi (by omega) hcn]
  have p1 := prod_b (bm_abs hn h.small hi hrn (by omega) hcn) (bm_abs hn h.small hi hi (Nat.le_refl _) hi)
  have p2 := prod_b (bm_abs hn h.small hi hrn (Nat.le_refl _) hi) (bm_abs hn h.small hi hi (by omega) hcn)
  have s := sylv hL r c
  have e : bm i r c A * bm i i i A - bm i r i A * bm i i c A = det i A * bm (i + 1) r c A := by rw [s]; grind
  have b := bm_abs hn h.small (i := i + 1) (r := r) (c := c) (by omega) hrn hc hcn
  rw [w64 (x := bm i r c A * bm i i i A) (by omega) (by omega), w64 (x := bm i r i A * bm i i c A) (by omega) (by omega), w64 (x := bm i r c A * bm i i i A - bm i r i A * bm i i c A) (by omega) (by omega), e, h.last_, Int.mul_tdiv_cancel_left _ hL]
  exact w64 (by omega) (by omega)
 ·rw [hpi]; unfold bm
  exact det_congr (fun a b ha hb => by
   unfold bord
   have e1 : (if a < i then a else i) = a := by split <;> omega
   have e2 : (if b < i then b else i) = b := by split <;> omega
   rw [e1, e2])
theorem Inv.none_ {i : Nat} {M A : Mat} {last turn : Int} (h : Inv n k i M last turn A A0) (hi : i < n) (hz : ∀ r, i ≤ r → r < n → M r i = 0) : det n A0 = 0 := by
 have _h := hn
 have hL : det i A ≠ 0 := by rw [← h.last_]; exact h.nz
 have b := block_elim i (n - i) A
 rw [show i + (n - i) = n from by omega, det_zero_col (c := 0) (A := fun a b => rs i A (i + a) (i + b)) (by omega) (fun a ha => by
  rw [← bm_rs hL, Nat.add_zero, ← h.num (i + a) i (by omega) (by omega) (Nat.le_refl _) hi]; exact hz _ (by omega) (by omega)), Int.mul_zero] at b
 have : det n A = 0 := by
  rcases Int.mul_eq_zero.1 b with b | b
  ·exact absurd b (Int.pow_ne_zero hL)
  ·exact b
 rw [← h.det_, this, Int.mul_zero]
theorem Inv.swap {i s : Nat} {M A : Mat} {last turn : Int} (h : Inv n k i M last turn A A0) (his : i < s) (hs : s < n) : Inv n k i (swp M i s) last (wrap64 (-turn)) (swp A i s) A0 := by
 have _h := hn
 have hsr (r : Nat) (hr : r < n) : (if r = i then s else if r = s then i else r) < n := by grind
 have hlow (a : Nat) (ha : a < i) : (if a = i then s else if a = s then i else a) = a := by rw [if_neg (by omega), if_neg (by omega)]
 have w : wrap64 (-turn) = -turn := w64 (by have := h.turn_; omega) (by have := h.turn_; omega)
 refine ⟨h.le, fun a b ha hb => h.small _ _ (hsr a ha) hb, fun r c hr hrn hc hcn => ?_, ?_, h.nz, by rw [w]; have := h.turn_; omega, ?_⟩
 ·unfold swp
  rw [h.num _ c (by grind) (hsr r hrn) hc hcn]
  unfold bm
  refine det_congr (fun a b _ _ => ?_)
  unfold bord
  by_cases ha : a < i
  ·simp only [if_pos ha]; rw [hlow a ha]
  ·simp only [if_neg ha]
 ·rw [h.last_]
  exact det_congr (fun a b ha _ => by unfold swp; rw [hlow a ha])
 ·have e := (det_form n).swap (r := i) (q := s) (A := A) (B := swp A i s) (by omega) hs (by omega) (fun j _ => ⟨by unfold swp; rw [if_pos rfl], by unfold swp; rw [if_neg (by omega), if_pos rfl]⟩) (fun a b _ _ h1 h2 => by unfold swp; rw [if_neg h1, if_neg h2])
  rw [e, w, ← h.det_]
  grind
theorem dgo_inv : ∀ (q i : Nat), i + q = n → ∀ (M A : Mat) (last turn : Int), Inv n k i M last turn A A0 → dgo n q i M last turn = det n A0 := by
 intro q
 induction q with
 | zero =>
  intro i hi M A last turn h
  obtain rfl : i = n := by omega
  show wrap64 (turn * last) = _
  rw [h.last_, h.det_]
  have b := det_absk i k A h.small
  have b2 := b20_le i hn
  have t := h.turn_
  have e := h.det_
  have : (det i A0).natAbs = (det i A).natAbs := by
   rw [← e, Int.natAbs_mul]
   rcases t with t | t <;> rw [t] <;> simp
  exact w64 (by omega) (by omega)
 | succ q ih =>
  intro i hi M A last turn h
  unfold dgo
  cases hf : fnd M i (n - i) 0 with
  | none =>
   have hz := fnd_none hf
   exact (h.none_ hn (by omega) (fun r h1 h2 => by have := hz (r - i) (Nat.zero_le _) (by omega); rwa [show i + (r - i) = r from by omega] at this)).symm
  | some kk =>
   obtain ⟨_, h2, h3, _⟩ := fnd_some hf
   cases kk with
   | zero => exact ih (i + 1) (by omega) _ A _ _ (h.step hn (by omega) h3)
   | succ kk =>
    have hs := h.swap hn (s := i + (kk + 1)) (by omega) (by omega)
    exact ih (i + 1) (by omega) _ _ _ _ (hs.step hn (by omega) (by unfold swp; rw [if_pos rfl]; exact h3))
end
theorem dgo_det {n k : Nat} (hn : n ≤ 5) (A : Mat) (h : Bk n k A) : dgo n n 0 A 1 1 = det n A := by
 refine dgo_inv hn (k := k) n 0 (by omega) A A 1 1 ⟨Nat.zero_le _, h, fun r c _ _ _ _ => ?_, rfl, by decide, .inl rfl, Int.one_mul _⟩
 unfold bm
 rw [det_1]; simp [bord]
end Go.Proofs.Ythdoilfjcgickaa.Bz
end
section
namespace Go.Proofs.Ythdoilfjcgickaa.Un
open Go.RowKit Go.Proofs.YthdoilfjcgickaaW.PrintWords Go.Proofs.YthdoilfjcgickaaW.PrintMore Go.Proofs.Ythdoilfjcgickaa.Ma Go.Proofs.Ythdoilfjcgickaa.Dt Go.Proofs.Ythdoilfjcgickaa.Bz
def colM (P : Nat → Bool) (M : Mat) : Mat := fun i k => if P k = true then - M i k else if i = k then 1 else 0
end Go.Proofs.Ythdoilfjcgickaa.Un
end
section
namespace Go.Proofs.Ythdoilfjcgickaa.Pr
open Go.RowKit Go.Proofs.YthdoilfjcgickaaW.PrintWords Go.Proofs.YthdoilfjcgickaaW.PrintLast Go.Proofs.YthdoilfjcgickaaW.PrintMore
attribute [local go_sem] max2_int min2_int max_two min_two max_three min_three max_four min_four
mutual
def impl_part.l0 : Nat → Int → Int → List (List Int) → List (List Int) → Int → Int → Option ((List (List Int)))
 | 0, _, _, _, _, _, _ => none
 | k + 1, x1, x2, x7, x13, x14, x15 => if x15 < x14 then (if 0 ≤ x15 then (if x15 < (x13.length : Int) then ((impl_has.f x1 x15).bind fun t566 => (if t566 = true then (impl_part.l1 k x1 x2 x7 ([] : List Int) x13 x14 x15 (rd_L1 x13 x15) ((rd_L1 x13 x15).length : Int) 0) else (impl_part.l0 k x1 x2 x7 x13 x14 (wrap64 (x15 + 1))))) else (none)) else (none)) else (some x7)
def impl_part.l1 : Nat → Int → Int → List (List Int) → List Int → List (List Int) → Int → Int → List Int → Int → Int → Option ((List (List Int)))
 | 0, _, _, _, _, _, _, _, _, _, _ => none
 | k + 1, x1, x2, x7, x10, x13, x14, x15, x24, x25, x26 => if x26 < x25 then (if 0 ≤ x26 then (if x26 < (x24.length : Int) then ((impl_has.f x2 x26).bind fun t568 => (if t568 = true then (if x10.length < 17592186044416 then (impl_part.l1 k x1 x2 x7 (x10 ++ [rd x24 x26]) x13 x14 x15 x24 x25 (wrap64 (x26 + 1))) else (none)) else (impl_part.l1 k x1 x2 x7 x10 x13 x14 x15 x24 x25 (wrap64 (x26 + 1))))) else (none)) else (none)) else (if x7.length < 5864062014805 then (impl_part.l0 k x1 x2 (x7 ++ [x10]) x13 x14 (wrap64 (x15 + 1))) else (none))
end
def impl_part.f (k : Nat) (l0 : List (List Int)) (a1 : Int) (a2 : Int) : Option ((List (List Int))) := impl_part.l0 k a1 a2 ([] : List (List Int)) l0 (l0.length : Int) 0
theorem impl_part.mono_l : ∀ k, (∀ y0 y1 y2 y3 y4 y5, LeO (impl_part.l0 k y0 y1 y2 y3 y4 y5) (impl_part.l0 (k + 1) y0 y1 y2 y3 y4 y5)) ∧ (∀ y0 y1 y2 y3 y4 y5 y6 y7 y8 y9, LeO (impl_part.l1 k y0 y1 y2 y3 y4 y5 y6 y7 y8 y9) (impl_part.l1 (k + 1) y0 y1 y2 y3 y4 y5 y6 y7 y8 y9))
 | 0 => ⟨fun _ _ _ _ _ _ r h => by simp [impl_part.l0] at h, fun _ _ _ _ _ _ _ _ _ _ r h => by simp [impl_part.l1] at h⟩
 | k + 1 => by
  obtain ⟨ih0, ih1⟩ := impl_part.mono_l k
  refine ⟨?_, ?_⟩
  ·intro y0 y1 y2 y3 y4 y5
   unfold impl_part.l0
   repeat' first
   | (with_reducible exact ih0 _ _ _ _ _ _)
   | (with_reducible exact ih1 _ _ _ _ _ _ _ _ _ _)
   | (with_reducible exact LeO.refl _)
   | (with_reducible exact LeO.none _)
   | (with_reducible refine LeO.ite ?_ ?_)
   | (with_reducible refine LeO.bind ?_ (fun _ => ?_))
   | exact ih0 _ _ _ _ _ _
   | exact ih1 _ _ _ _ _ _ _ _ _ _
   | exact LeO.none _
   | refine LeO.ite ?_ ?_
   | refine LeO.bind ?_ (fun _ => ?_)
  ·intro y0 y1 y2 y3 y4 y5 y6 y7 y8 y9
   unfold impl_part.l1
   repeat' first
   | (with_reducible exact ih0 _ _ _ _ _ _)
   | (with_reducible exact ih1 _ _ _ _ _ _ _ _ _ _)
   | (with_reducible exact LeO.refl _)
   | (with_reducible exact LeO.none _)
   | (with_reducible refine LeO.ite ?_ ?_)
   | (with_reducible refine LeO.bind ?_ (fun _ => ?_))
   | exact ih0 _ _ _ _ _ _
   | exact ih1 _ _ _ _ _ _ _ _ _ _
   | exact LeO.none _
   | refine LeO.ite ?_ ?_
   | refine LeO.bind ?_ (fun _ => ?_)
theorem impl_part.mono : ∀ a0 a1 a2 k, LeO (impl_part.f k a0 a1 a2) (impl_part.f (k + 1) a0 a1 a2) := by
 intro a0 a1 a2 k
 obtain ⟨ih0, ih1⟩ := impl_part.mono_l k
 unfold impl_part.f
 repeat' first
   | (with_reducible exact ih0 _ _ _ _ _ _)
   | (with_reducible exact ih1 _ _ _ _ _ _ _ _ _ _)
   | (with_reducible exact LeO.refl _)
   | (with_reducible exact LeO.none _)
   | (with_reducible refine LeO.ite ?_ ?_)
   | (with_reducible refine LeO.bind ?_ (fun _ => ?_))
   | exact ih0 _ _ _ _ _ _
   | exact ih1 _ _ _ _ _ _ _ _ _ _
   | exact LeO.none _
   | refine LeO.ite ?_ ?_
   | refine LeO.bind ?_ (fun _ => ?_)
theorem impl_part.calls (k : Nat) (A0 : Option Addr) (c0 : Nat) (l0 : List (List Int)) (a1 : Int) (a2 : Int) (r : List (List Int)) (w : World) (hr0 : Kd.C (Kd.slice 2 (Kd.int .i64)) w A0 l0.length l0) (hc0 : l0.length ≤ c0) (h : impl_part.f k l0 a1 a2 = some r) :
  Calls Try.prog 77 #[.slice A0 l0.length c0, .int .i64 a1, .int .i64 a2] w fun e w' => ∃ v0_ : Value, e = .returned (v0_) ∧ Kd.S (Kd.slice 2 (Kd.int .i64)) 23 w' w.heap.size (fun _ => True) v0_ r ∧ Below w.heap.size w w' := by
 have HR0 := Aside0.mk hr0
 have HC0 := Aside0.mk hc0
 clear hr0 hc0
 have HB := Aside0.mk (Below.refl w.heap.size w)
 have H : (impl_part.l0 k a1 a2 ([] : List (List Int)) l0 (l0.length : Int) 0) = some r := h
 clear h
 have H' := Aside0.mk H
 clear H
 go_enter Try.func77, Try.ntmps77
 go_wp2
 go_loopg [7, 15] k (fun kq v7 v15 w' => ∃ (x7_1 : List (List Int)) (x15_1 : Int), v15 = .int .i64 x15_1 ∧ Aside0 (impl_part.l0 kq a1 a2 x7_1 l0 (l0.length : Int) x15_1 = some r) ∧ Aside0 (kq ≤ k) ∧ Aside0 (Kd.S (Kd.slice 2 (Kd.int .i64)) 23 w' w.heap.size (fun _ => True) v7 x7_1) ∧ Aside0 (Below w.heap.size w w'))
 case atStart => exact ⟨(([] : List (List Int))), (0), (by first | rfl | (simp; done) | (simp [*]; done)), H', ⟨Nat.le_refl _⟩, ⟨by first | exact Kd.S_nil _ _ _ _ _ | exact Kd.N_nil _ _ _ _ _ | exact Kd.V_nil _ _ _ _ _ | exact Kd.Q_nil _ _ _ _ _ | exact Kd.R_nil _ _ _ _ _⟩, ⟨hb_⟩⟩
 case round =>
  clear H'
  try clear p2
  obtain ⟨x7_1, x15_1, rfl, HA, HK1, HO_7, HB⟩ := hrel
  cases gk with
  | zero => exact absurd HA.out (by simp [impl_part.l0])
  | succ k1 =>
   have H := HA.out
   clear HA
   simp only [impl_part.l0] at H
   by_cases c4 : x15_1 < (l0.length : Int)
   ·rw [if_pos c4] at H
    have c4b0 : decide (x15_1 < (l0.length : Int)) = true := decide_eq_true c4
    clear c4
    by_cases c5 : 0 ≤ x15_1
    ·rw [if_pos c5] at H
     have c5b0 : decide (0 ≤ x15_1) = true := decide_eq_true c5
     clear c5
     by_cases c6 : x15_1 < (l0.length : Int)
     ·rw [if_pos c6] at H
      have c6b0 : decide (x15_1 < (l0.length : Int)) = true := decide_eq_true c6
      clear c6
      replace H := Option.bind_eq_some_iff.mp H
      obtain ⟨t566, A70, H⟩ := H
      replace H : (if t566 = true then (impl_part.l1 k1 a1 a2 x7_1 ([] : List Int) l0 (l0.length : Int) x15_1 (rd_L1 l0 x15_1) ((rd_L1 l0 x15_1).length : Int) 0) else (impl_part.l0 k1 a1 a2 x7_1 l0 (l0.length : Int) (wrap64 (x15_1 + 1)))) = some r := H
      have A7 := Aside0.mk A70
      clear A70
      by_cases c8 : t566 = true
      ·subst c8
       have H1 : (impl_part.l1 k1 a1 a2 x7_1 ([] : List Int) l0 (l0.length : Int) x15_1 (rd_L1 l0 x15_1) ((rd_L1 l0 x15_1).length : Int) 0) = some r := by rw [if_pos rfl] at H; exact H
       clear H
       have H := H1
       clear H1
       have H' := Aside0.mk H
       clear H
       have p565 : 0 ≤ (x15_1 : Int) := of_decide_eq_true (by first | (with_reducible assumption) | assumption)
       have q565 : x15_1 < (l0.length : Int) := of_decide_eq_true (by first | (with_reducible assumption) | assumption)
       obtain ⟨ad565, A565_0, c565_0, e565, hx565_0, hl565_0, hi565_0⟩ := at_L1 HR0.out x15_1 p565 q565
       cases e565
       replace hx565_0 := (HB.out.cell (World.block_lt_of_cell? w _ hx565_0)).trans hx565_0
       have HR565_0 := Aside0.mk hi565_0
       have HC565_0 := Aside0.mk hl565_0
       clear hi565_0 hl565_0
       replace p565 := eq_true p565
       replace q565 := eq_true q565
       go_wp2_with (first | ((with_reducible refine gate_callee (f := 109) rfl ?_); refine goesL_ (some 22) rfl rfl Try.func109 (by kernel_rfl) rfl #[.int .i64 a1, .int .i64 x15_1] rfl (by (try simp only [List.map_toArray, List.map_cons, List.map_nil]); first | done | rfl | (simp only [List.length_drop, List.length_take]; rfl)) ?_; (with_reducible refine (impl_has.calls a1 x15_1 true _ A7.out).mono ?_); rintro e w' ⟨rfl, ⟨nd, rfl⟩⟩; refine ⟨_, rfl, ?_⟩))
       go_loopg [10, 26] k1 (fun kq v10 v26 w' => ∃ (x10_2 : List Int) (x26_2 : Int), v26 = .int .i64 x26_2 ∧ Aside0 (impl_part.l1 kq a1 a2 x7_1 x10_2 l0 (l0.length : Int) x15_1 (rd_L1 l0 x15_1) ((rd_L1 l0 x15_1).length : Int) x26_2 = some r) ∧ Aside0 (kq ≤ k1) ∧ Aside0 (Kd.S (Kd.slice 2 (Kd.int .i64)) 23 w' w.heap.size (fun k_ => some k_ ≠ (v10 : Value).ownBlock) u7 x7_1) ∧ Aside0 (Kd.R (Kd.int .i64) 2 w' w.heap.size (fun _ => True) v10 x10_2) ∧ Aside0 (Below w.heap.size w w'))
       case atStart => exact ⟨(([] : List Int)), (0), (by first | rfl | (simp; done) | (simp [*]; done)), H', ⟨Nat.le_refl _⟩, ⟨by (with_reducible repeat (first | apply Kd.S_alloc | apply Kd.S_drewN | apply Kd.S_drew)); exact Kd.S_mono HO_7.out (fun _ hk => (by simp [Value.ownBlock]))⟩, ⟨by first | exact Kd.R_nil _ _ _ _ _ | exact Kd.N_nil _ _ _ _ _ | exact Kd.V_nil _ _ _ _ _ | exact Kd.Q_nil _ _ _ _ _ | exact Kd.S_nil _ _ _ _ _⟩, ⟨hb_⟩⟩
       case round =>
        clear H'
        try clear c1
        try clear p2
        try clear c4
        try clear c4b0
        try clear c5
        try clear c5b0
        try clear p5
        try clear q5
        try clear hx5
        try clear c6
        try clear c6b0
        try clear p6
        try clear c7
        try clear c8
        try clear hx565_0
        try clear p2
        try clear p565
        try clear q565
        obtain ⟨x10_2, x26_2, rfl, HA, HK2, HO_7, HO_10, HB⟩ := hrel
        cases gk with
        | zero => exact absurd HA.out (by simp [impl_part.l1])
        | succ k2 =>
         have H := HA.out
         clear HA
         simp only [impl_part.l1] at H
         by_cases c9 : x26_2 < ((rd_L1 l0 x15_1).length : Int)
         ·rw [if_pos c9] at H
          have c9b0 : decide (x26_2 < ((rd_L1 l0 x15_1).length : Int)) = true := decide_eq_true c9
          clear c9
          by_cases c10 : 0 ≤ x26_2
          ·rw [if_pos c10] at H
           have c10b0 : decide (0 ≤ x26_2) = true := decide_eq_true c10
           clear c10
           by_cases c11 : x26_2 < ((rd_L1 l0 x15_1).length : Int)
           ·rw [if_pos c11] at H
            have c11b0 : decide (x26_2 < ((rd_L1 l0 x15_1).length : Int)) = true := decide_eq_true c11
            clear c11
            replace H := Option.bind_eq_some_iff.mp H
            obtain ⟨t568, A120, H⟩ := H
            replace H : (if t568 = true then (if x10_2.length < 17592186044416 then (impl_part.l1 k2 a1 a2 x7_1 (x10_2 ++ [rd (rd_L1 l0 x15_1) x26_2]) l0 (l0.length : Int) x15_1 (rd_L1 l0 x15_1) ((rd_L1 l0 x15_1).length : Int) (wrap64 (x26_2 + 1))) else (none)) else (impl_part.l1 k2 a1 a2 x7_1 x10_2 l0 (l0.length : Int) x15_1 (rd_L1 l0 x15_1) ((rd_L1 l0 x15_1).length : Int) (wrap64 (x26_2 + 1)))) = some r := H
            have A12 := Aside0.mk A120
            clear A120
            by_cases c13 : t568 = true
            ·subst c13
             have H1 : (if x10_2.length < 17592186044416 then (impl_part.l1 k2 a1 a2 x7_1 (x10_2 ++ [rd (rd_L1 l0 x15_1) x26_2]) l0 (l0.length : Int) x15_1 (rd_L1 l0 x15_1) ((rd_L1 l0 x15_1).length : Int) (wrap64 (x26_2 + 1))) else (none)) = some r := by rw [if_pos rfl] at H; exact H
             clear H
             have H := H1
             clear H1
             by_cases c14 : x10_2.length < 17592186044416
             ·rw [if_pos c14] at H
              have LMc14 := Aside0.mk c14
              clear c14
              obtain ⟨y569, hy569⟩ : ∃ y_ : List Int, y_ = (x10_2 ++ [rd (rd_L1 l0 x15_1) x26_2]) := ⟨_, rfl⟩
              replace H : (impl_part.l1 k2 a1 a2 x7_1 y569 l0 (l0.length : Int) x15_1 (rd_L1 l0 x15_1) ((rd_L1 l0 x15_1).length : Int) (wrap64 (x26_2 + 1))) = some r := by first | (rw [hy569]; with_reducible exact H) | (have H2_ := (Option.bind_some _ _).symm.trans H; rw [hy569]; with_reducible exact H2_) | (have H2_ := (Option.bind_some _ _).symm.trans H; with_reducible exact H2_) | with_reducible exact H | (rw [hy569]; exact H) | exact H
              have Ny569 := Aside0.mk hy569
              clear hy569
              have H' := Aside0.mk H
              clear H
              have p567 : 0 ≤ (x26_2 : Int) := of_decide_eq_true (by first | (with_reducible assumption) | assumption)
              have q567 : x26_2 < ((rd_L1 l0 x15_1).length : Int) := of_decide_eq_true (by first | (with_reducible assumption) | assumption)
              obtain ⟨ad567, e567, hx567_0⟩ := Kd.at_int HR565_0.out x26_2 p567 q567
              cases e567
              replace hx567_0 := (HB.out.cell (World.block_lt_of_cell? w _ hx567_0)).trans hx567_0
              replace p567 := eq_true p567
              replace q567 := eq_true q567
              go_wp2_with (first | ((with_reducible refine gate_callee (f := 109) rfl ?_); refine goesL_ (some 33) rfl rfl Try.func109 (by kernel_rfl) rfl #[.int .i64 a2, .int .i64 x26_2] rfl (by (try simp only [List.map_toArray, List.map_cons, List.map_nil]); first | done | rfl | (simp only [List.length_drop, List.length_take]; rfl)) ?_; (with_reducible refine (impl_has.calls a2 x26_2 true _ A12.out).mono ?_); rintro e w' ⟨rfl, ⟨nd, rfl⟩⟩; refine ⟨_, rfl, ?_⟩) | ((with_reducible refine gate_builtin (b := .append) (xs := #[.tmp 34, .tmp 36]) rfl ?_); at_builtin; refine Kd.R_append (Kd.int .i64) (w0 := w) w.heap.size rfl (.tmp 34) (.tmp 36) 23 2 (.int .i64 0) 8 rfl Try.underlying23 info2 rfl (by decide) (by omega) u10 x10_2 (rd (rd_L1 l0 x15_1) x26_2) [.int .i64 (rd (rd_L1 l0 x15_1) x26_2)] (fun _ => True) (fun _ => False) rfl rfl ?aP (fun _ hk => hk.elim) ?aF ?aO ?aB ?aS ?aL ?_; (case aP => exact rfl); (case aB => exact hb_); (case aF => exact (fun _ _ => trivial)); (case aO => exact (ro_ HO_10.out)); (case aS => exact bz_); (case aL => have := LMc14.out; omega); intro v570 w15 ho hb hg hat; rw [← Ny569.out] at ho; have n0_ := Aside0.mk (Kd.S_after (ok := (fun _ => True)) (by (with_reducible repeat (first | apply Kd.S_alloc | apply Kd.S_drewN | apply Kd.S_drew)); exact Kd.S_mono HO_7.out (fun _ hk => ⟨trivial, hk⟩)) hg hat); have n1_ := Aside0.mk (hb); have n2_ := Aside0.mk (ho); clear HO_7; clear HB; clear HO_10; have HO_7 := n0_; have HB := n1_; have HO571 := n2_; clear n0_ n1_ n2_; clear ho hb hg hat))
              go_roundg k2
              case measure => have := HK1.out; have := HK2.out; omega
              case rel => exact ⟨(y569), (wrap64 (x26_2 + 1)), (by first | rfl | (simp; done) | (simp [*]; done)), H', ⟨by have := HK1.out; have := HK2.out; omega⟩, ⟨by (with_reducible repeat (first | apply Kd.S_alloc | apply Kd.S_drewN | apply Kd.S_drew)); exact Kd.S_mono HO_7.out (fun _ hk => hk.2)⟩, ⟨ro_ HO571.out⟩, ⟨hb_⟩⟩
             ·rw [if_neg c14] at H
              exact absurd H (by simp)
            ·replace c13 := Bool.eq_false_iff.mpr c13
             subst c13
             have H1 : (impl_part.l1 k2 a1 a2 x7_1 x10_2 l0 (l0.length : Int) x15_1 (rd_L1 l0 x15_1) ((rd_L1 l0 x15_1).length : Int) (wrap64 (x26_2 + 1))) = some r := by rw [if_neg (show ¬ (false = true) by decide)] at H; exact H
             clear H
             have H := H1
             clear H1
             have H' := Aside0.mk H
             clear H
             have p567 : 0 ≤ (x26_2 : Int) := of_decide_eq_true (by first | (with_reducible assumption) | assumption)
             have q567 : x26_2 < ((rd_L1 l0 x15_1).length : Int) := of_decide_eq_true (by first | (with_reducible assumption) | assumption)
             obtain ⟨ad567, e567, hx567_0⟩ := Kd.at_int HR565_0.out x26_2 p567 q567
             cases e567
             replace hx567_0 := (HB.out.cell (World.block_lt_of_cell? w _ hx567_0)).trans hx567_0
             replace p567 := eq_true p567
             replace q567 := eq_true q567
             go_wp2_with (first | ((with_reducible refine gate_callee (f := 109) rfl ?_); refine goesL_ (some 33) rfl rfl Try.func109 (by kernel_rfl) rfl #[.int .i64 a2, .int .i64 x26_2] rfl (by (try simp only [List.map_toArray, List.map_cons, List.map_nil]); first | done | rfl | (simp only [List.length_drop, List.length_take]; rfl)) ?_; (with_reducible refine (impl_has.calls a2 x26_2 false _ A12.out).mono ?_); rintro e w' ⟨rfl, ⟨nd, rfl⟩⟩; refine ⟨_, rfl, ?_⟩))
             go_roundg k2
             case measure => have := HK1.out; have := HK2.out; omega
             case rel => exact ⟨(x10_2), (wrap64 (x26_2 + 1)), (by first | rfl | (simp; done) | (simp [*]; done)), H', ⟨by have := HK1.out; have := HK2.out; omega⟩, ⟨so_ HO_7.out⟩, ⟨ro_ HO_10.out⟩, ⟨hb_⟩⟩
           ·rw [if_neg c11] at H
            exact absurd H (by simp)
          ·rw [if_neg c10] at H
           exact absurd H (by simp)
         ·rw [if_neg c9] at H
          have c9b0 : decide (x26_2 < ((rd_L1 l0 x15_1).length : Int)) = false := decide_eq_false c9
          clear c9
          by_cases c16 : x7_1.length < 5864062014805
          ·rw [if_pos c16] at H
           have LMc16 := Aside0.mk c16
           clear c16
           obtain ⟨y572, hy572⟩ : ∃ y_ : List (List Int), y_ = (x7_1 ++ [x10_2]) := ⟨_, rfl⟩
           replace H : (impl_part.l0 k2 a1 a2 y572 l0 (l0.length : Int) (wrap64 (x15_1 + 1))) = some r := by first | (rw [hy572]; with_reducible exact H) | (have H2_ := (Option.bind_some _ _).symm.trans H; rw [hy572]; with_reducible exact H2_) | (have H2_ := (Option.bind_some _ _).symm.trans H; with_reducible exact H2_) | with_reducible exact H | (rw [hy572]; exact H) | exact H
           have Ny572 := Aside0.mk hy572
           clear hy572
           have H' := Aside0.mk H
           clear H
           obtain ⟨Ao18, co18, eo18⟩ := Kd.R_slice HO_10.out
           subst eo18
           go_wp2_with (first | ((with_reducible refine gate_builtin (b := .append) (xs := #[.tmp 39, .tmp 41]) rfl ?_); at_builtin; refine Kd.S_append (Kd.slice 2 (Kd.int .i64)) (w0 := w) w.heap.size rfl (.tmp 39) (.tmp 41) 22 23 (.slice none 0 0) 24 rfl Try.underlying22 info23 rfl (by decide) (by omega) u7 x7_1 x10_2 [.slice Ao18 x10_2.length co18] (fun _ => True) (fun k_ => some k_ = (.slice Ao18 x10_2.length co18 : Value).ownBlock) rfl rfl ?aP (fun k_ hk_ => ((Kd.R_mono (ok' := fun k_ => ((fun _ => True)) k_ ∧ some k_ ≠ (u7 : Value).ownBlock) (Kd.R_apart' (HO_10.out) (Kd.S_typed HO_7.out) (by decide)) (fun k_ hk => ⟨trivial, hk.2⟩))).1 k_ hk_.symm) ?aF ?aO ?aB ?aS ?aL ?_; (case aP => exact Kd.M_row (Kd.R_mono (Kd.R_tight rfl (Kd.R_mono (ok' := fun k_ => ((fun _ => True)) k_ ∧ some k_ ≠ (u7 : Value).ownBlock) (Kd.R_apart' (HO_10.out) (Kd.S_typed HO_7.out) (by decide)) (fun k_ hk => ⟨trivial, hk.2⟩))) (fun _ h_ => h_))); (case aB => exact hb_); (case aF => exact (fun _ _ => trivial)); (case aO => exact (by (with_reducible repeat (first | apply Kd.S_alloc | apply Kd.S_drewN | apply Kd.S_drew)); exact Kd.S_mono HO_7.out (fun k_ hk => ⟨trivial, fun e_ => hk e_⟩))); (case aS => exact bz_); (case aL => have := LMc16.out; omega); intro v573 w17 ho hb hg hat; rw [← Ny572.out] at ho; have n0_ := Aside0.mk (hb); have n1_ := Aside0.mk (ho); clear HB; clear HO_7; clear HO_10; have HB := n0_; have HO574 := n1_; clear n0_ n1_; clear ho hb hg hat))
           go_roundg k2
           case measure => have := HK1.out; have := HK2.out; omega
           case rel => exact ⟨(y572), (wrap64 (x15_1 + 1)), (by first | rfl | (simp; done) | (simp [*]; done)), H', ⟨by have := HK1.out; have := HK2.out; omega⟩, ⟨so_ HO574.out⟩, ⟨hb_⟩⟩
          ·rw [if_neg c16] at H
           exact absurd H (by simp)
      ·replace c8 := Bool.eq_false_iff.mpr c8
       subst c8
       have H1 : (impl_part.l0 k1 a1 a2 x7_1 l0 (l0.length : Int) (wrap64 (x15_1 + 1))) = some r := by rw [if_neg (show ¬ (false = true) by decide)] at H; exact H
       clear H
       have H := H1
       clear H1
       have H' := Aside0.mk H
       clear H
       have p565 : 0 ≤ (x15_1 : Int) := of_decide_eq_true (by first | (with_reducible assumption) | assumption)
       have q565 : x15_1 < (l0.length : Int) := of_decide_eq_true (by first | (with_reducible assumption) | assumption)
       obtain ⟨ad565, A565_0, c565_0, e565, hx565_0, hl565_0, hi565_0⟩ := at_L1 HR0.out x15_1 p565 q565
       cases e565
       replace hx565_0 := (HB.out.cell (World.block_lt_of_cell? w _ hx565_0)).trans hx565_0
       have HR565_0 := Aside0.mk hi565_0
       have HC565_0 := Aside0.mk hl565_0
       clear hi565_0 hl565_0
       replace p565 := eq_true p565
       replace q565 := eq_true q565
       go_wp2_with (first | ((with_reducible refine gate_callee (f := 109) rfl ?_); refine goesL_ (some 22) rfl rfl Try.func109 (by kernel_rfl) rfl #[.int .i64 a1, .int .i64 x15_1] rfl (by (try simp only [List.map_toArray, List.map_cons, List.map_nil]); first | done | rfl | (simp only [List.length_drop, List.length_take]; rfl)) ?_; (with_reducible refine (impl_has.calls a1 x15_1 false _ A7.out).mono ?_); rintro e w' ⟨rfl, ⟨nd, rfl⟩⟩; refine ⟨_, rfl, ?_⟩))
       go_roundg k1
       case measure => have := HK1.out; omega
       case rel => exact ⟨(x7_1), (wrap64 (x15_1 + 1)), (by first | rfl | (simp; done) | (simp [*]; done)), H', ⟨by have := HK1.out; omega⟩, ⟨so_ HO_7.out⟩, ⟨hb_⟩⟩
     ·rw [if_neg c6] at H
      exact absurd H (by simp)
    ·rw [if_neg c5] at H
     exact absurd H (by simp)
   ·rw [if_neg c4] at H
    have c4b0 : decide (x15_1 < (l0.length : Int)) = false := decide_eq_false c4
    clear c4
    obtain rfl := Option.some.inj H
    go_wp2
    go_ret
    exact ⟨_, by first | rfl | (simp [errW_none, errW_some] <;> rfl) | (simp [*, errW_none, errW_some] <;> rfl), so_ HO_7.out, hb_⟩
end Go.Proofs.Ythdoilfjcgickaa.Pr
end
section
namespace Go.Proofs.Ythdoilfjcgickaa.Cz
open Go.RowKit Go.Proofs.YthdoilfjcgickaaW.PrintWords Go.Proofs.YthdoilfjcgickaaW.PrintMore Go.Proofs.Ythdoilfjcgickaa.Ma Go.Proofs.Ythdoilfjcgickaa.Pr Go.Proofs.Ythdoilfjcgickaa.Dt Go.Proofs.Ythdoilfjcgickaa.Bz Go.Proofs.Ythdoilfjcgickaa.Un
def en (l : List (List Int)) : Mat := fun i j => (l.getD i []).getD j 0
structure Sq (n : Nat) (l : List (List Int)) : Prop where
 len : l.length = n
 row : ∀ i, i < n → (l.getD i []).length = n
 num : ∀ i j, i < n → j < n → (en l i j).natAbs ≤ 20
theorem rdL1 (l : List (List Int)) (i : Nat) : rd_L1 l (i : Int) = l.getD i [] := by simp [rd_L1]
def rw1 (m : Nat) (f : Nat → Int) : List Int := (List.range m).map f
theorem rw1_len (m : Nat) (f : Nat → Int) : (rw1 m f).length = m := by simp [rw1]
theorem rw1_succ (m : Nat) (f : Nat → Int) : rw1 (m + 1) f = rw1 m f ++ [f m] := by simp [rw1, List.range_succ]
def mk (r m : Nat) (f : Nat → Nat → Int) : List (List Int) := (List.range r).map fun i => rw1 m (f i)
theorem mk_len (r m : Nat) (f : Nat → Nat → Int) : (mk r m f).length = r := by simp [mk]
theorem mk_succ (r m : Nat) (f : Nat → Nat → Int) : mk (r + 1) m f = mk r m f ++ [rw1 m (f r)] := by simp [mk, List.range_succ]
theorem mk_row (r m : Nat) (f : Nat → Nat → Int) (i : Nat) (hi : i < r) : (mk r m f).getD i [] = rw1 m (f i) := by simp [mk, hi]
theorem mk_en (r m : Nat) (f : Nat → Nat → Int) (i j : Nat) (hi : i < r) (hj : j < m) : en (mk r m f) i j = f i j := by
 unfold en; rw [mk_row r m f i hi]; simp [rw1, hj]
theorem mk_rows (r m : Nat) (f : Nat → Nat → Int) : ∀ x ∈ mk r m f, x.length = m := by
 intro x hx
 obtain ⟨i, _, rfl⟩ := List.mem_map.1 hx
 exact rw1_len _ _
section
variable {n : Nat} {l : List (List Int)} (h : Sq n l) (hn : n ≤ 5) (s : Int)
include h hn
theorem spec_cols : Ev (fun k => spec_l01Columns.f k l s) (mk n n (colM (bB s) (en l))) := by
 have hl := h.len
 have rows : ∀ q i, i + q = n → Ev (fun k => spec_l01Columns.l0 k l s (mk i n (colM (bB s) (en l))) i) (mk n n (colM (bB s) (en l))) := by
  intro q
  induction q with
  | zero =>
   intro i hi
   obtain rfl : i = n := by omega
   exact evstep (fun k => by rw [spec_l01Columns.l0]) (evneg (by omega) (evc rfl))
  | succ q ih =>
   intro i hi
   have nx := ih (i + 1) (by omega)
   have hr := h.row i (by omega)
   have cols : ∀ p c, c + p = n → Ev (fun k => spec_l01Columns.l1 k l s (mk i n (colM (bB s) (en l))) i (rw1 c (colM (bB s) (en l) i)) c) (mk n n (colM (bB s) (en l))) := by
    intro p
    induction p with
    | zero =>
     intro c hc
     obtain rfl : c = n := by omega
     refine evstep (fun k => by rw [spec_l01Columns.l1]) (evneg (by omega) (evpos (by rw [mk_len]; omega) ?_))
     rw [w64 (x := (i : Int) + 1) (by omega) (by omega), ← mk_succ]
     exact nx
    | succ p ihp =>
     intro c hc
     have nx2 := ihp (c + 1) (by omega)
     rw [rw1_succ] at nx2
     have hnum := h.num i c (by omega) (by omega)
     refine evstep (fun k => by rw [spec_l01Columns.l1]) (evpos (by omega) ?_)
     rw [u64w (x := (c : Int)) (by omega) (by omega), shr_and_one s (by omega)]
     refine evpos (by omega) ?_
     have ce : colM (bB s) (en l) i c = if bB s c = true then - en l i c else if i = c then 1 else 0 := rfl
     by_cases b : bB s c = true
     ·rw [if_pos b] at ce
      rw [ce] at nx2
      rw [rdL1]
      refine evpos (by rw [if_pos b]) (evpos (by omega) (evpos (by omega) (evpos (by omega) (evpos (by omega) (evpos (by rw [rw1_len]; omega) ?_)))))
      rw [rd_nat, show (l.getD i []).getD c 0 = en l i c from rfl, w64 (x := - en l i c) (by omega) (by omega), w64 (x := (c : Int) + 1) (by omega) (by omega)]
      exact nx2
     ·rw [if_neg b] at ce
      refine evneg (by rw [if_neg b]; decide) ?_
      rw [w64 (x := (c : Int) + 1) (by omega) (by omega)]
      by_cases e : i = c
      ·rw [if_pos e] at ce
       rw [ce] at nx2
       exact evpos (by omega) (evpos (by rw [rw1_len]; omega) nx2)
      ·rw [if_neg e] at ce
       rw [ce] at nx2
       exact evneg (by omega) (evpos (by rw [rw1_len]; omega) nx2)
   refine evstep (fun k => by rw [spec_l01Columns.l0]) (evpos (by omega) ?_)
   exact cols n 0 (by omega)
 exact rows n 0 (by omega)
theorem has_eq (c : Nat) (hc : c < 64) : impl_has.f s (c : Int) = some (bB s c) := by
 have _h := h
 have _h2 := hn
 unfold impl_has.f
 rw [if_pos (by omega), shr_and_one s hc]
 congr 1
 cases hb : bB s c <;> simp
end
end Go.Proofs.Ythdoilfjcgickaa.Cz
end
section
namespace Go.Proofs.Ythdoilfjcgickaa.Pb
open Go.RowKit Go.Proofs.YthdoilfjcgickaaW.PrintWords Go.Proofs.YthdoilfjcgickaaW.PrintMore Go.Proofs.Ythdoilfjcgickaa.Ma Go.Proofs.Ythdoilfjcgickaa.Pr Go.Proofs.Ythdoilfjcgickaa.Dt Go.Proofs.Ythdoilfjcgickaa.Bz Go.Proofs.Ythdoilfjcgickaa.Cz
theorem sin_eq (x a b : Int) : spec_l01In.f x a b = some (decide (a ≤ x ∧ x ≤ b)) := by
 unfold spec_l01In.f
 by_cases h : x ≥ a
 ·rw [if_pos h]; congr 1; rw [Bool.eq_iff_iff]; simp; omega
 ·rw [if_neg h]; congr 1; rw [Bool.eq_iff_iff]; simp; omega
theorem head_step {P : Nat → Prop} {i d : Nat} (h : i < d) : (∀ j, i ≤ j → j < d → P j) ↔ P i ∧ ∀ j, i + 1 ≤ j → j < d → P j :=
 ⟨fun q => ⟨q i (Nat.le_refl _) h, fun j h1 h2 => q j (by omega) h2⟩, fun q j h1 h2 => by
  by_cases e : j = i
  ·subst e; exact q.1
  ·exact q.2 j (by omega) h2⟩
theorem no_iff {b : Bool} {p : Prop} (h : b = true ↔ p) (hp : ¬ p) : b = false := by
 cases b with
 | false => rfl
 | true => exact absurd (h.1 rfl) hp
def N20 (x : Int) : Prop := -20 ≤ x ∧ x ≤ 20
def N100 (x : Int) : Prop := -100 ≤ x ∧ x ≤ 100
def RowM (M : List (List Int)) (i : Nat) : Prop := (M.getD i []).length = M.length ∧ ∀ j, 0 ≤ j → j < M.length → N20 (en M i j)
structure MatOK (M : List (List Int)) : Prop where
 n1 : 1 ≤ M.length
 n5 : M.length ≤ 5
 rows : ∀ i, 0 ≤ i → i < M.length → RowM M i
structure POK (M : List (List Int)) (q : List Int) : Prop where
 mat : MatOK M
 len : q.length = M.length
 num : ∀ i, 0 ≤ i → i < q.length → N100 (q.getD i 0)
theorem MatOK.sq {M : List (List Int)} (h : MatOK M) : Sq M.length M := ⟨rfl, fun i hi => (h.rows i (Nat.zero_le _) hi).1, fun i j hi hj => by have := (h.rows i (Nat.zero_le _) hi).2 j (Nat.zero_le _) hj; unfold N20 at this; omega⟩
section
variable {M : List (List Int)} (hM : M.length ≤ 5)
include hM
theorem spec_mrows : ∀ m i, i + m = M.length → ∀ t : Bool, (t = true ↔ ∀ u, i ≤ u → u < M.length → RowM M u) → Ev (fun k => spec_l01Matrix.l0 k M (M.length : Int) i) t := by
 intro m
 induction m with
 | zero =>
  intro i hi t ht
  obtain rfl : t = true := ht.2 (fun u h1 h2 => by omega)
  exact evstep (fun k => by rw [spec_l01Matrix.l0]) (evneg (by omega) (evc rfl))
 | succ m ih =>
  intro i hi t ht
  have hs := head_step (P := RowM M) (i := i) (d := M.length) (by omega)
  have ht2 := ht.trans hs
  refine evstep (fun k => by rw [spec_l01Matrix.l0]) (evpos (by omega) (evpos (by omega) (evpos (by omega) ?_)))
  rw [rdL1]
  by_cases c : (M.getD i []).length = M.length
  ·refine evpos (by omega) ?_
   have cols : ∀ p j, j + p = M.length → ∀ t : Bool, (t = true ↔ (∀ v, j ≤ v → v < M.length → N20 (en M i v)) ∧ ∀ u, i + 1 ≤ u → u < M.length → RowM M u) → Ev (fun k => spec_l01Matrix.l1 k M (M.length : Int) i j) t := by
    intro p
    induction p with
    | zero =>
     intro j hj t ht
     refine evstep (fun k => by rw [spec_l01Matrix.l1]) (evneg (by omega) ?_)
     rw [w64 (x := (i : Int) + 1) (by omega) (by omega)]
     exact ih (i + 1) (by omega) t (ht.trans ⟨fun h => h.2, fun h => ⟨fun v h1 h2 => by omega, h⟩⟩)
    | succ p ihp =>
     intro j hj t ht
     have hs2 := head_step (P := fun v => N20 (en M i v)) (i := j) (d := M.length) (by omega)
     refine evstep (fun k => by rw [spec_l01Matrix.l1]) ?_
     rw [rdL1]
     refine evpos (by omega) (evpos (by omega) (evpos (by omega) (evpos (by omega) (evpos (by omega) (evsome (sin_eq _ _ _) ?_)))))
     rw [rd_nat, show (M.getD i []).getD j 0 = en M i j from rfl, w64 (x := (j : Int) + 1) (by omega) (by omega)]
     by_cases d : -20 ≤ en M i j ∧ en M i j ≤ 20
     ·exact evpos (decide_eq_true d) (ihp (j + 1) (by omega) t (ht.trans ⟨fun h => ⟨(hs2.1 h.1).2, h.2⟩, fun h => ⟨hs2.2 ⟨d, h.1⟩, h.2⟩⟩))
     ·rw [no_iff ht (fun h => d ((hs2.1 h.1).1))]
      exact evneg (by simpa using d) (evc rfl)
   exact cols M.length 0 (by omega) t (ht2.trans ⟨fun h => ⟨fun v h1 h2 => h.1.2 v h1 h2, h.2⟩, fun h => ⟨⟨c, fun v h1 h2 => h.1 v h1 h2⟩, h.2⟩⟩)
  ·rw [no_iff ht2 (fun h => c h.1.1)]
   exact evneg (by omega) (evc rfl)
end
theorem spec_mat (M : List (List Int)) (t : Bool) (ht : t = true ↔ MatOK M) : Ev (fun k => spec_l01Matrix.f k M) t := by
 unfold spec_l01Matrix.f
 by_cases c1 : (M.length : Int) < 1
 ·rw [no_iff ht (fun h => by have := h.n1; omega)]
  exact evpos c1 (evstep (fun k => by rw [spec_l01Matrix.j0]) (evpos rfl (evc rfl)))
 ·refine evneg c1 (evstep (fun k => by rw [spec_l01Matrix.j0]) ?_)
  by_cases c2 : (M.length : Int) > 5
  ·rw [no_iff ht (fun h => by have := h.n5; omega)]
   exact evpos (decide_eq_true c2) (evc rfl)
  ·refine evneg (by simpa using c2) ?_
   exact spec_mrows (by omega) M.length 0 (by omega) t (ht.trans ⟨fun h => h.rows, fun h => ⟨by omega, by omega, h⟩⟩)
open Classical in
theorem spec_is (M : List (List Int)) (q : List Int) (hq : q.length ≤ 1048576) (t : Bool) (ht : t = true ↔ POK M q) : Ev (fun k => spec_l01Is.f k M q) t := by
 unfold spec_l01Is.f
 refine evbind (spec_mat M (decide (MatOK M)) (by simp)) ?_
 by_cases m : MatOK M
 ·refine evpos (by simpa using m) (evstep (fun k => by rw [spec_l01Is.j0]) ?_)
  by_cases c : q.length = M.length
  ·refine evneg (by simp [c]) ?_
   have loop : ∀ p i, i + p = q.length → ∀ t : Bool, (t = true ↔ ∀ u, i ≤ u → u < q.length → N100 (q.getD u 0)) → Ev (fun k => spec_l01Is.l0 k i M q) t := by
    intro p
    induction p with
    | zero =>
     intro i hi t ht
     obtain rfl : t = true := ht.2 (fun u h1 h2 => by omega)
     exact evstep (fun k => by rw [spec_l01Is.l0]) (evneg (by omega) (evc rfl))
    | succ p ih =>
     intro i hi t ht
     have hs := head_step (P := fun u => N100 (q.getD u 0)) (i := i) (d := q.length) (by omega)
     refine evstep (fun k => by rw [spec_l01Is.l0]) (evpos (by omega) (evpos (by omega) (evsome (sin_eq _ _ _) ?_)))
     rw [rd_nat, w64 (x := (i : Int) + 1) (by omega) (by omega)]
     by_cases d : -100 ≤ q.getD i 0 ∧ q.getD i 0 ≤ 100
     ·exact evpos (decide_eq_true d) (ih (i + 1) (by omega) t (ht.trans (hs.trans ⟨fun h => h.2, fun h => ⟨d, h⟩⟩)))
     ·rw [no_iff (ht.trans hs) (fun h => d h.1)]
      exact evneg (by simpa using d) (evc rfl)
   exact loop q.length 0 (by omega) t (ht.trans ⟨fun h => h.num, fun h => ⟨m, c, h⟩⟩)
  ·rw [no_iff ht (fun h => c h.len)]
   exact evpos (by simp; omega) (evc rfl)
 ·rw [no_iff ht (fun h => m h.mat)]
  exact evneg (by simpa using m) (evstep (fun k => by rw [spec_l01Is.j0]) (evpos rfl (evc rfl)))
theorem any_false {α : Type} (p : α → Bool) (l : List α) : l.any p = false ↔ ∀ i (h : i < l.length), p l[i] = false := by
 rw [List.any_eq_false]
 constructor
 ·intro h i hi
  have := h l[i] (List.getElem_mem hi)
  simpa using this
 ·intro h x hx
  obtain ⟨i, hi, rfl⟩ := List.getElem_of_mem hx
  simp [h i hi]
theorem badU_iff (a n : Int) : badU a n = false ↔ -a ≤ n ∧ n ≤ a := by unfold badU; simp
theorem any_badU (a : Int) (l : List Int) : l.any (badU a) = false ↔ ∀ i, 0 ≤ i → i < l.length → -a ≤ l.getD i 0 ∧ l.getD i 0 ≤ a := by
 rw [any_false]
 constructor
 ·intro h i _ hi
  have := (badU_iff a _).1 (h i hi)
  simpa [hi] using this
 ·intro h i hi
  have := h i (Nat.zero_le _) hi
  exact (badU_iff a _).2 (by simpa [hi] using this)
theorem gD {M : List (List Int)} {i : Nat} (h : i < M.length) : M.getD i [] = M[i] := by simp [h]
open Classical in
theorem impl_mat (M : List (List Int)) : impl_IsMatrix.f M = some (decide (MatOK M)) := by
 unfold impl_IsMatrix.f
 congr 1
 rw [Bool.eq_iff_iff]
 simp only [Bool.and_eq_true, decide_eq_true_eq, Bool.not_eq_true']
 rw [any_false, any_false]
 constructor
 ·rintro ⟨⟨h1, h2⟩, h3⟩
  refine ⟨by omega, by omega, fun i _ hi => ?_⟩
  have r1 := h2 i hi
  have r2 := h3 i hi
  unfold badL at r1
  unfold badM at r2
  have e : M[i].length = M.length := by simp at r1; omega
  refine ⟨by rw [gD hi]; exact e, fun j _ hj => ?_⟩
  have := (any_badU 20 M[i]).1 r2 j (Nat.zero_le _) (by omega)
  rw [← gD hi] at this
  exact this
 ·intro h
  refine ⟨⟨⟨by have := h.n1; omega, by have := h.n5; omega⟩, fun i hi => ?_⟩, fun i hi => ?_⟩
  ·have := (h.rows i (Nat.zero_le _) hi).1
   rw [gD hi] at this
   unfold badL; simp [this]
  ·have := h.rows i (Nat.zero_le _) hi
   unfold badM
   refine (any_badU 20 M[i]).2 (fun j h0 hj => ?_)
   have e := this.1
   rw [gD hi] at e
   have := this.2 j h0 (by omega)
   unfold N20 en at this
   rwa [gD hi] at this
open Classical in
theorem impl_is (M : List (List Int)) (q : List Int) (t : Bool) (ht : t = true ↔ POK M q) : impl_IsProblem.f M q = some t := by
 unfold impl_IsProblem.f
 rw [impl_mat, Option.bind_some]
 by_cases m : MatOK M
 ·rw [if_pos (by simpa using m)]
  by_cases c : q.length = M.length
  ·rw [if_pos (by omega)]
   unfold impl_allUpTo.f
   rw [if_pos (by decide), Option.bind_some]
   congr 1
   rw [Bool.eq_iff_iff, ht, Bool.not_eq_true', any_badU]
   exact ⟨fun h => ⟨m, c, h⟩, fun h => h.num⟩
  ·rw [if_neg (by omega), no_iff ht (fun h => c h.len)]
 ·rw [if_neg (by simpa using m), no_iff ht (fun h => m h.mat)]
end Go.Proofs.Ythdoilfjcgickaa.Pb
end
section
namespace Go.Proofs.Ythdoilfjcgickaa.Sd
open Go.RowKit Go.Proofs.YthdoilfjcgickaaW.PrintWords Go.Proofs.YthdoilfjcgickaaW.PrintMore Go.Proofs.Ythdoilfjcgickaa.Ma Go.Proofs.Ythdoilfjcgickaa.Pr Go.Proofs.Ythdoilfjcgickaa.Dt Go.Proofs.Ythdoilfjcgickaa.Bz
def en (l : List (List Int)) : Mat := fun i j => (l.getD i []).getD j 0
def SB (n : Nat) (A : Mat) : Prop := ∃ k, Bk n k A
theorem SB.mnr {n c : Nat} {A : Mat} (h : SB (n + 1) A) (hc : c < n + 1) : SB n (mnr c A) := by
 obtain ⟨k, h⟩ := h
 by_cases e : c = k
 ·subst e
  refine ⟨n, fun i j hi hj => ?_⟩
  have := h (i + 1) (up c j) (by omega) (up_lt hj)
  rw [if_neg (up_ne c j)] at this
  unfold Dt.mnr
  split <;> omega
 ·refine ⟨dn c k, fun i j hi hj => ?_⟩
  have := h (i + 1) (up c j) (by omega) (up_lt hj)
  unfold Dt.mnr
  by_cases q : up c j = k
  ·rw [if_pos q] at this
   rw [if_pos (by rw [← q, dn_up])]; exact this
  ·rw [if_neg q] at this
   split <;> omega
theorem SB.det {n : Nat} {A : Mat} (h : SB n A) (hn : n ≤ 5) : -1920000000 ≤ det n A ∧ det n A ≤ 1920000000 := by
 obtain ⟨k, h⟩ := h
 have h1 := det_absk n k A h
 have h2 := b20_le n hn
 omega
theorem SB.num {n : Nat} {A : Mat} (h : SB n A) {i j : Nat} (hi : i < n) (hj : j < n) : -100 ≤ A i j ∧ A i j ≤ 100 := by
 obtain ⟨k, h⟩ := h
 have := h i j hi hj
 split at this <;> omega
def mrow (l : List (List Int)) (c r : Nat) : List (List Int) := (List.range r).map fun i => ((l.getD (i + 1) []).take c) ++ ((l.getD (i + 1) []).drop (c + 1))
theorem mrow_len (l : List (List Int)) (c r : Nat) : (mrow l c r).length = r := by simp [mrow]
theorem mrow_succ (l : List (List Int)) (c r : Nat) : mrow l c (r + 1) = mrow l c r ++ [((l.getD (r + 1) []).take c) ++ ((l.getD (r + 1) []).drop (c + 1))] := by simp [mrow, List.range_succ]
theorem mrow_en (l : List (List Int)) (c r n : Nat) (hl : ∀ x ∈ l, x.length = n + 1) (hn : l.length = n + 1) (hc : c < n + 1) (i j : Nat) (hi : i < r) (hr : r ≤ n) (hj : j < n) : en (mrow l c r) i j = Dt.mnr c (en l) i j := by
 have hx : (l.getD (i + 1) []).length = n + 1 := by
  rw [List.getD_eq_getElem?_getD, List.getElem?_eq_getElem (show i + 1 < l.length by omega)]; exact hl _ (List.getElem_mem _)
 unfold en Dt.mnr mrow
 rw [List.getD_eq_getElem?_getD (l := List.map _ _), List.getElem?_map, List.getElem?_range hi]
 simp only [Option.map_some, Option.getD_some]
 show _ = (l.getD (i + 1) []).getD (up c j) 0
 generalize l.getD (i + 1) [] = x at hx ⊢
 rw [List.getD_eq_getElem?_getD, List.getD_eq_getElem?_getD]
 congr 1
 unfold up
 by_cases q : j < c
 ·rw [if_pos q, List.getElem?_append_left (by rw [List.length_take]; omega), List.getElem?_take_of_lt q]
 ·rw [if_neg q, List.getElem?_append_right (by rw [List.length_take]; omega), List.length_take, Nat.min_eq_left (by omega), List.getElem?_drop, show c + 1 + (j - c) = j + 1 from by omega]
theorem own_eq (x : List Int) (h : x.length < 17592186044416) : spec_l01Own.f x = some x := by
 unfold spec_l01Own.f
 simp only [Option.bind_some, List.length_nil, Nat.zero_add, List.nil_append]
 rw [if_pos h]
theorem rdL1 (l : List (List Int)) (i : Nat) : rd_L1 l (i : Int) = l.getD i [] := by simp [rd_L1]
theorem odd_sg (c : Nat) (x : Int) : (if Int.tmod (c : Int) 2 = 1 then -x else x) = sg c * x := by
 have e : Int.tmod (c : Int) 2 = ((c % 2 : Nat) : Int) := by rw [Int.tmod_eq_emod_of_nonneg (by omega)]; omega
 unfold sg
 by_cases q : c % 2 = 1
 ·rw [if_pos (by rw [e, q]; rfl), if_pos q]; omega
 ·rw [if_neg (by rw [e]; omega), if_neg q]; omega
theorem spec_det : ∀ (n : Nat) (l : List (List Int)), n ≤ 5 → l.length = n → (∀ x ∈ l, x.length = n) → SB n (en l) → Ev (fun k => spec_l01Det.f k l) (det n (en l)) := by
 intro n
 induction n with
 | zero =>
  intro l _ hn _ _
  show Ev _ (1 : Int)
  exact evstep (fun k => by rw [spec_l01Det.f]) (evpos (by omega) (evc rfl))
 | succ n ih =>
  intro l h5 hn hl hs
  have hrow (i : Nat) (hi : i < n + 1) : (l.getD i []).length = n + 1 := by
   rw [List.getD_eq_getElem?_getD, List.getElem?_eq_getElem (show i < l.length by omega)]; exact hl _ (List.getElem_mem _)
  let F : Nat → Int := fun k => sg k * (en l 0 k * det n (Dt.mnr k (en l)))
  have hF (k : Nat) (hk : k < n + 1) : -192000000000 ≤ F k ∧ F k ≤ 192000000000 := by
   have h1 := (hs.mnr hk).det (by omega)
   have h2 := hs.num (i := 0) (j := k) (by omega) hk
   have : (F k).natAbs ≤ 100 * 1920000000 := by
    show (sg k * (en l 0 k * det n (Dt.mnr k (en l)))).natAbs ≤ _
    rw [Int.natAbs_mul, Int.natAbs_mul, sg_abs, Nat.one_mul]
    exact Nat.mul_le_mul (by omega) (by omega)
   omega
  have hS : ∀ c, c ≤ n + 1 → -192000000000 * (c : Int) ≤ sm c F ∧ sm c F ≤ 192000000000 * (c : Int) := by
   intro c
   induction c with
   | zero => intro _; simp [sm]
   | succ c ihc =>
    intro hc
    have h1 := ihc (by omega)
    have h2 := hF c (by omega)
    simp only [sm]
    push_cast
    omega
  have key : ∀ q c, c + q = n + 1 → Ev (fun k => spec_l01Det.l0 k l (sm c F) c) (sm (n + 1) F) := by
   intro q
   induction q with
   | zero =>
    intro c hc
    obtain rfl : c = n + 1 := by omega
    exact evstep (fun k => by rw [spec_l01Det.l0]) (evneg (by omega) (evc rfl))
   | succ q ihq =>
    intro c hc
    have nx := ihq (c + 1) (by omega)
    have hr0 := hrow 0 (by omega)
    have e0 : rd (rd_L1 l 0) (c : Int) = en l 0 c := by
     rw [show rd_L1 l 0 = l.getD 0 [] from rdL1 l 0, rd_nat]; rfl
    have hr0' : (rd_L1 l 0).length = n + 1 := by rw [show rd_L1 l 0 = l.getD 0 [] from rdL1 l 0]; exact hr0
    have f1 := hF c (by omega)
    have s1 := hS c (by omega)
    have s2 := hS (c + 1) (by omega)
    refine evstep (fun k => by rw [spec_l01Det.l0]) (evpos (by omega) (evpos (by omega) (evpos (by omega) (evpos (by omega) ?_))))
    rw [e0]
    by_cases z : en l 0 c = 0
    ·refine evpos z ?_
     rw [w64 (x := (c : Int) + 1) (by omega) (by omega)]
     have e : sm (c + 1) F = sm c F := by
      show sm c F + sg c * (en l 0 c * det n (Dt.mnr c (en l))) = _
      rw [z]; simp
     rw [e] at nx
     exact nx
    ·refine evneg z ?_
     have build : ∀ p r, r + p = n → Ev (fun k => spec_l01Det.l1 k l (sm c F) c (mrow l c r) ((r + 1 : Nat) : Int)) (sm (n + 1) F) := by
      intro p
      induction p with
      | zero =>
       intro r hr
       obtain rfl : r = n := by omega
       refine evstep (fun k => by rw [spec_l01Det.l1]) (evneg (by omega) (evpos (by omega) (evpos (by omega) (evpos (by omega) ?_))))
       have hm := ih (mrow l c r) (by omega) (mrow_len l c r) (fun x hx => by
        obtain ⟨i, hi, rfl⟩ := List.mem_map.1 hx
        have := hrow (i + 1) (by have := List.mem_range.1 hi; omega)
        rw [List.length_append, List.length_take, List.length_drop]; omega) (by
        obtain ⟨k', hk'⟩ := hs.mnr (c := c) (by omega)
        exact ⟨k', fun i j hi hj => by rw [mrow_en l c r r hl hn (by omega) i j hi (Nat.le_refl _) hj]; exact hk' i j hi hj⟩)
       rw [det_congr (A := en (mrow l c r)) (B := Dt.mnr c (en l)) (fun i j hi hj => mrow_en l c r r hl hn (by omega) i j hi (Nat.le_refl _) hj)] at hm
       have hd := (hs.mnr (c := c) (by omega)).det (by omega)
       have ha := hs.num (i := 0) (j := c) (by omega) (by omega)
       refine evbind hm ?_
       rw [e0]
       have hp : -192000000000 ≤ en l 0 c * det r (Dt.mnr c (en l)) ∧ en l 0 c * det r (Dt.mnr c (en l)) ≤ 192000000000 := by
        have : (en l 0 c * det r (Dt.mnr c (en l))).natAbs ≤ 100 * 1920000000 := by
         rw [Int.natAbs_mul]; exact Nat.mul_le_mul (by omega) (by omega)
        omega
       have o := odd_sg c (en l 0 c * det r (Dt.mnr c (en l)))
       have fe : F c = sg c * (en l 0 c * det r (Dt.mnr c (en l))) := rfl
       have se : sm (c + 1) F = sm c F + F c := rfl
       rw [w64 (x := en l 0 c * det r (Dt.mnr c (en l))) (by omega) (by omega)]
       by_cases od : Int.tmod (c : Int) 2 = 1
       ·refine evpos od ?_
        rw [if_pos od] at o
        rw [w64 (x := -(en l 0 c * det r (Dt.mnr c (en l)))) (by omega) (by omega), o, ← fe, ← se, w64 (x := sm (c + 1) F) (by omega) (by omega), w64 (x := (c : Int) + 1) (by omega) (by omega)]
        exact nx
       ·refine evneg od ?_
        rw [if_neg od] at o
        rw [o, ← fe, ← se, w64 (x := sm (c + 1) F) (by omega) (by omega), w64 (x := (c : Int) + 1) (by omega) (by omega)]
        exact nx
      | succ p ihp =>
       intro r hr
       have hx := hrow (r + 1) (by omega)
       have nx2 := ihp (r + 1) (by omega)
       rw [mrow_succ] at nx2
       refine evstep (fun k => by rw [spec_l01Det.l1]) ?_
       rw [rdL1]
       refine evpos (by omega) (evpos (by omega) (evpos (by omega) (evpos (by omega) ?_)))
       rw [Int.toNat_natCast, w64 (x := (c : Int) + 1) (by omega) (by omega)]
       refine evsome (a := (l.getD (r + 1) []).take c) (own_eq _ (by rw [List.length_take]; omega)) (evpos (by omega) (evpos (by omega) (evpos ?_ (evpos (by rw [mrow_len]; omega) ?_))))
       ·rw [List.length_take, List.length_drop]; omega
       ·rw [show ((c : Int) + 1).toNat = c + 1 from by omega, w64 (x := ((r + 1 : Nat) : Int) + 1) (by omega) (by omega)]
        exact nx2
     have := build n 0 (by omega)
     exact this
  refine evstep (fun k => by rw [spec_l01Det.f]) (evneg (by omega) ?_)
  exact key (n + 1) 0 (by omega)
end Go.Proofs.Ythdoilfjcgickaa.Sd
end
section
namespace Go.Proofs.Ythdoilfjcgickaa.Mn
open Go.RowKit Go.Proofs.YthdoilfjcgickaaW.PrintWords Go.Proofs.YthdoilfjcgickaaW.PrintMore Go.Proofs.Ythdoilfjcgickaa.Ma Go.Proofs.Ythdoilfjcgickaa.Pr Go.Proofs.Ythdoilfjcgickaa.Dt Go.Proofs.Ythdoilfjcgickaa.Bz Go.Proofs.Ythdoilfjcgickaa.Bd Go.Proofs.Ythdoilfjcgickaa.Un Go.Proofs.Ythdoilfjcgickaa.Cz
section
variable {n : Nat} {l : List (List Int)} (h : Sq n l) (hn : n ≤ 5) (s : Int)
include h hn
theorem colM_small (i j : Nat) (hi : i < n) (hj : j < n) : (colM (bB s) (en l) i j).natAbs ≤ 20 := by
 have _h := hn
 have := h.num i j hi hj
 unfold colM
 split
 ·omega
 ·split <;> decide
theorem cols_det : Ev (fun k => spec_l01Det.f k (mk n n (colM (bB s) (en l)))) (det n (colM (bB s) (en l))) := by
 have he (i j : Nat) (hi : i < n) (hj : j < n) : en (mk n n (colM (bB s) (en l))) i j = colM (bB s) (en l) i j := mk_en n n _ i j hi hj
 have := Sd.spec_det n (mk n n (colM (bB s) (en l))) hn (mk_len _ _ _) (mk_rows _ _ _) ⟨0, fun i j hi hj => by
  show (en (mk n n (colM (bB s) (en l))) i j).natAbs ≤ _
  rw [he i j hi hj]
  have := colM_small h hn s i j hi hj
  split <;> omega⟩
 have e : det n (Sd.en (mk n n (colM (bB s) (en l)))) = det n (colM (bB s) (en l)) := det_congr he
 rw [e] at this
 exact this
end
end Go.Proofs.Ythdoilfjcgickaa.Mn
end
section
namespace Go.Proofs.Ythdoilfjcgickaa.Sv
open Go.RowKit Go.Proofs.YthdoilfjcgickaaW.PrintWords Go.Proofs.YthdoilfjcgickaaW.PrintMore Go.Proofs.Ythdoilfjcgickaa.Ma Go.Proofs.Ythdoilfjcgickaa.Pr Go.Proofs.Ythdoilfjcgickaa.Dt Go.Proofs.Ythdoilfjcgickaa.Bz Go.Proofs.Ythdoilfjcgickaa.Bd Go.Proofs.Ythdoilfjcgickaa.Un Go.Proofs.Ythdoilfjcgickaa.Cz Go.Proofs.Ythdoilfjcgickaa.Mn
open Go.Proofs.Ythdoilfjcgickaa.Hd (dO cM pcol rowsFrom rowsFrom_len sl slL)
def dc (n : Nat) (C : Mat) (x : List Int) (i : Nat) : Int := det n (cset i (fun r => x.getD r 0) C)
def sgn (d : Int) : Int := if d < 0 then -1 else if d > 0 then 1 else 0
section
variable {n : Nat} {l : List (List Int)} (h : Sq n l) (hn : n ≤ 5) (s : Int)
include h hn
theorem col_t (Q : List Int) (hQ : Q.length = n) (i : Nat) (hi : i < n) : Ev (fun k => impl_Problem_column.f k l Q (i : Int) true) (rw1 n (fun r => - en l r i)) := by
 have hl := h.len
 have at_ (r : Nat) (hr : r < n) : ((List.range n).map fun u => if u < r then - en l u i else 0).set r (- en l r i) = (List.range n).map fun u => if u < r + 1 then - en l u i else 0 := by
  apply List.ext_getElem
  ·simp
  ·intro k h1 h2
   have hk : k < n := by simpa using h2
   rw [List.getElem_set]
   simp only [List.getElem_map, List.getElem_range]
   by_cases e : r = k
   ·subst e; rw [if_pos rfl, if_pos (by omega)]
   ·rw [if_neg e]
    by_cases c : k < r
    ·rw [if_pos c, if_pos (by omega)]
    ·rw [if_neg c, if_neg (by omega)]
 have loop : ∀ q r, r + q = n → Ev (fun k => impl_Problem_column.l0 k (i : Int) true ((List.range n).map fun u => if u < r then - en l u i else 0) l (n : Int) r) (rw1 n (fun r => - en l r i)) := by
  intro q
  induction q with
  | zero =>
   intro r hr
   obtain rfl : r = n := by omega
   refine evstep (fun k => by rw [impl_Problem_column.l0]) (evneg (by omega) (evpos rfl (evc ?_)))
   congr 1
   exact List.map_congr_left (fun u hu => by rw [if_pos (List.mem_range.1 hu)])
  | succ q ih =>
   intro r hr
   have nx := ih (r + 1) (by omega)
   have hrow := h.row r (by omega)
   have hnum := h.num r i (by omega) hi
   refine evstep (fun k => by rw [impl_Problem_column.l0]) ?_
   rw [rdL1]
   refine evpos (by omega) (evpos (by omega) (evpos (by omega) (evpos rfl (evpos (by omega) (evpos (by omega) (evpos (by simp; omega) ?_))))))
   rw [rd_nat, show (l.getD r []).getD i 0 = en l r i from rfl, w64 (x := - en l r i) (by omega) (by omega), Int.toNat_natCast, at_ r (by omega), w64 (x := (r : Int) + 1) (by omega) (by omega)]
   exact nx
 unfold impl_Problem_column.f
 rw [hQ, hl]
 refine evpos (by omega) (evpos (by omega) ?_)
 have := loop n 0 (by omega)
 rw [show ((List.range n).map fun u => if u < 0 then - en l u i else 0) = List.replicate ((n : Int)).toNat 0 from by
  apply List.ext_getElem
  ·simp
  ·intro k h1 h2; simp] at this
 exact this
theorem col_f (Q : List Int) (hQ : Q.length = n) (i : Nat) (hi : i < n) : Ev (fun k => impl_Problem_column.f k l Q (i : Int) false) (rw1 n (fun r => if r = i then 1 else 0)) := by
 have hl := h.len
 have loop : ∀ q r, r + q = n → Ev (fun k => impl_Problem_column.l0 k (i : Int) false (List.replicate n 0) l (n : Int) r) (rw1 n (fun r => if r = i then 1 else 0)) := by
  intro q
  induction q with
  | zero =>
   intro r hr
   obtain rfl : r = n := by omega
   refine evstep (fun k => by rw [impl_Problem_column.l0]) (evneg (by omega) (evneg (by simp) (evpos (by omega) (evpos (by simp; omega) (evc ?_)))))
   congr 1
   rw [Int.toNat_natCast]
   apply List.ext_getElem
   ·simp [rw1]
   ·intro k h1 h2
    rw [List.getElem_set]
    simp only [rw1, List.getElem_map, List.getElem_range, List.getElem_replicate]
    by_cases e : i = k
    ·subst e; simp
    ·rw [if_neg e, if_neg (Ne.symm e)]
  | succ q ih =>
   intro r hr
   have nx := ih (r + 1) (by omega)
   refine evstep (fun k => by rw [impl_Problem_column.l0]) (evpos (by omega) (evpos (by omega) (evpos (by omega) (evneg (by simp) ?_))))
   rw [w64 (x := (r : Int) + 1) (by omega) (by omega)]
   exact nx
 unfold impl_Problem_column.f
 rw [hQ, hl]
 refine evpos (by omega) (evpos (by omega) ?_)
 have := loop n 0 (by omega)
 rw [Int.toNat_natCast]
 exact this
theorem colF_eq (Q : List Int) (hQ : Q.length = n) (i : Nat) (hi : i < n) : Ev (fun k => colF k l Q s i) (rw1 n (fun r => colM (bB s) (en l) r i)) := by
 unfold colF
 refine evsome (has_eq h hn s i (by omega)) ?_
 cases hb : bB s i with
 | true =>
  have := col_t h hn Q hQ i hi
  have e : (fun r => colM (bB s) (en l) r i) = fun r => - en l r i := by funext r; unfold colM; rw [if_pos hb]
  rw [e]; exact this
 | false =>
  have := col_f h hn Q hQ i hi
  have e : (fun r => colM (bB s) (en l) r i) = fun r => if r = i then 1 else 0 := by funext r; unfold colM; rw [if_neg (by simp [hb])]
  rw [e]; exact this
theorem cols_all (Q : List Int) (hQ : Q.length = n) : ∃ K, ∀ k, K ≤ k → ∀ i, i < n → colF k l Q s i = some (rw1 n (fun r => colM (bB s) (en l) r i)) := by
 have key : ∀ m, m ≤ n → ∃ K, ∀ k, K ≤ k → ∀ i, i < m → colF k l Q s i = some (rw1 n (fun r => colM (bB s) (en l) r i)) := by
  intro m
  induction m with
  | zero => intro _; exact ⟨0, fun k _ i hi => by omega⟩
  | succ m ih =>
   intro hm
   obtain ⟨K1, h1⟩ := ih (by omega)
   obtain ⟨K2, h2⟩ := colF_eq h hn s Q hQ m (by omega)
   refine ⟨K1 + K2, fun k hk i hi => ?_⟩
   by_cases e : i = m
   ·subst e; exact h2 k (by omega)
   ·exact h1 k (by omega) i (by omega)
 exact key n (Nat.le_refl _)
end
theorem en_rows (M : Mat) (n a d : Nat) (ha : a < n) (hd : d < n) : Hd.en (rowsFrom M n 0) a d = M a d := by
 unfold Hd.en rowsFrom
 simp [ha, hd]
theorem dO_det {n k : Nat} (hn : n ≤ 5) (M : Mat) (hb : Bk n k M) : dO n M = det n M := by
 unfold dO
 rw [dgo_det hn (k := k) (Hd.en (rowsFrom M n 0)) (fun i j hi hj => by rw [en_rows M n i j hi hj]; exact hb i j hi hj)]
 exact det_congr (fun i j hi hj => en_rows M n i j hi hj)
theorem sgn_mul (d x : Int) (hx : -1920000000 ≤ x ∧ x ≤ 1920000000) : wrap64 (sgn d * x) = sgn d * x := by
 unfold sgn
 split
 ·exact w64 (by omega) (by omega)
 ·split
  ·exact w64 (by omega) (by omega)
  ·exact w64 (by omega) (by omega)
section
variable {n : Nat} {l : List (List Int)} (h : Sq n l) (hn : n ≤ 5) (s : Int)
include h hn
theorem D_b : -1920000000 ≤ det n (colM (bB s) (en l)) ∧ det n (colM (bB s) (en l)) ≤ 1920000000 := by
 have h1 := det_abs20 n (colM (bB s) (en l)) (fun i j hi hj => colM_small h hn s i j hi hj)
 have h2 := b20_le n hn
 omega
end
section
variable {n : Nat} {l : List (List Int)} (h : Sq n l) (hn : n ≤ 5) (s : Int) (x : List Int) (hx : ∀ r, r < n → (x.getD r 0).natAbs ≤ 100)
include h hn hx
theorem cset_small (i : Nat) : Bk n i (cset i (fun r => x.getD r 0) (colM (bB s) (en l))) := by
 intro a d ha hd
 unfold cset
 by_cases e : d = i
 ·rw [if_pos e, if_pos e]; exact hx a ha
 ·rw [if_neg e, if_neg e]; exact colM_small h hn s a d ha hd
theorem dc_b (i : Nat) : -1920000000 ≤ dc n (colM (bB s) (en l)) x i ∧ dc n (colM (bB s) (en l)) x i ≤ 1920000000 := by
 have h1 := det_absk n i _ (cset_small h hn s x hx i)
 have h2 := b20_le n hn
 unfold dc
 omega
def solR (n : Nat) (C : Mat) (x : List Int) : List Int × Int × Bool := if det n C = 0 then ([], 0, false) else ((List.range n).map fun i => sgn (det n C) * dc n C x i, (if det n C < 0 then - det n C else det n C), true)
theorem impl_solve (Q : List Int) (hQ : Q.length = n) (hxl : x.length = n) (hp : 0 < n) : Ev (fun k => impl_Problem_solve.f k l Q s x) (solR n (colM (bB s) (en l)) x) := by
 obtain ⟨K, hK⟩ := cols_all h hn s Q hQ
 refine ⟨K, fun k hk => ?_⟩
 have hc := hK k hk
 have hL (i : Nat) (hi : i < n) : colL k l Q s i = rw1 n (fun r => colM (bB s) (en l) r i) := by unfold colL; rw [hc i hi]; rfl
 have hcM (a d : Nat) (ha : a < n) (hd : d < n) : cM (colL k l Q s) n a d = colM (bB s) (en l) a d := by
  unfold cM
  rw [if_pos hd, hL d hd]
  simp [rw1, ha]
 have hD : dO n (cM (colL k l Q s) n) = det n (colM (bB s) (en l)) := by
  rw [dO_det hn (k := 0) _ (fun i j hi hj => by rw [hcM i j hi hj]; have := colM_small h hn s i j hi hj; split <;> omega)]
  exact det_congr hcM
 have db := D_b h hn s
 show impl_Problem_solve.f k l Q s x = _
 unfold impl_Problem_solve.f
 rw [hQ]
 rw [if_pos ⟨hp, by omega, hxl, by
  unfold colOK
  rw [List.all_eq_true]
  intro i hi
  rw [hc i (List.mem_range.1 hi)]
  simp [rw1]⟩]
 rw [hD]
 have e1 : impl_sign.f (det n (colM (bB s) (en l))) = some (sgn (det n (colM (bB s) (en l)))) := by
  unfold impl_sign.f sgn
  split
  ·rfl
  ·split <;> rfl
 have e2 : impl_size.f (det n (colM (bB s) (en l))) = some (if det n (colM (bB s) (en l)) < 0 then - det n (colM (bB s) (en l)) else det n (colM (bB s) (en l))) := by
  unfold impl_size.f mx
  rw [w64 (x := - det n (colM (bB s) (en l))) (by omega) (by omega)]
  congr 1
  split <;> split <;> omega
 rw [e1, e2, Option.bind_some, Option.bind_some]
 congr 1
 unfold solR
 by_cases d : det n (colM (bB s) (en l)) = 0
 ·rw [if_pos d, if_pos d]
 ·rw [if_neg d, if_neg d]
  congr 1
  unfold slL
  refine List.map_congr_left (fun i hi => ?_)
  have hi := List.mem_range.1 hi
  rw [if_pos hi]
  unfold sl
  have hY (a d : Nat) (ha : a < n) (hd : d < n) : pcol (Hd.en (rowsFrom (cM (colL k l Q s) n) n 0)) i x n a d = cset i (fun r => x.getD r 0) (colM (bB s) (en l)) a d := by
   unfold pcol cset
   by_cases e : d = i
   ·rw [if_pos ⟨e, ha⟩, if_pos e]
   ·rw [if_neg (fun q => e q.1), if_neg e, en_rows _ n a d ha hd, hcM a d ha hd]
  rw [dO_det hn (k := i) _ (fun a d ha hd => by rw [hY a d ha hd]; exact cset_small h hn s x hx i a d ha hd), det_congr hY]
  exact sgn_mul _ _ (dc_b h hn s x hx i)
theorem spec_solve (hxl : x.length = n) : Ev (fun k => spec_l01Solve.f k (mk n n (colM (bB s) (en l))) x) ((List.range n).map (dc n (colM (bB s) (en l)) x), det n (colM (bB s) (en l))) := by
 have hml := mk_len n n (colM (bB s) (en l))
 have rows : ∀ q c, c + q = n → Ev (fun k => spec_l01Solve.l0 k (mk n n (colM (bB s) (en l))) x ((List.range c).map (dc n (colM (bB s) (en l)) x)) c) ((List.range n).map (dc n (colM (bB s) (en l)) x), det n (colM (bB s) (en l))) := by
  intro q
  induction q with
  | zero =>
   intro c hc
   obtain rfl : c = n := by omega
   exact evstep (fun k => by rw [spec_l01Solve.l0]) (evneg (by omega) (evbind (cols_det h hn s) (evc rfl)))
  | succ q ih =>
   intro c hc
   have nx := ih (c + 1) (by omega)
   rw [List.range_succ, List.map_append] at nx
   have build : ∀ p r, r + p = n → Ev (fun k => spec_l01Solve.l1 k (mk n n (colM (bB s) (en l))) x ((List.range c).map (dc n (colM (bB s) (en l)) x)) c (mk r n (cset c (fun r => x.getD r 0) (colM (bB s) (en l)))) r) ((List.range n).map (dc n (colM (bB s) (en l)) x), det n (colM (bB s) (en l))) := by
    intro p
    induction p with
    | zero =>
     intro r hr
     obtain rfl : r = n := by omega
     have he (i j : Nat) (hi : i < r) (hj : j < r) : en (mk r r (cset c (fun r => x.getD r 0) (colM (bB s) (en l)))) i j = cset c (fun r => x.getD r 0) (colM (bB s) (en l)) i j := mk_en r r _ i j hi hj
     have hd := Sd.spec_det r (mk r r (cset c (fun r => x.getD r 0) (colM (bB s) (en l)))) hn (mk_len _ _ _) (mk_rows _ _ _) ⟨c, fun i j hi hj => by
      show (en (mk r r (cset c (fun r => x.getD r 0) (colM (bB s) (en l)))) i j).natAbs ≤ _
      rw [he i j hi hj]; exact cset_small h hn s x hx c i j hi hj⟩
     have e : det r (Sd.en (mk r r (cset c (fun r => x.getD r 0) (colM (bB s) (en l))))) = dc r (colM (bB s) (en l)) x c := det_congr he
     rw [e] at hd
     refine evstep (fun k => by rw [spec_l01Solve.l1]) (evneg (by omega) (evbind hd ?_))
     refine evpos (by rw [List.length_map, List.length_range]; omega) ?_
     rw [w64 (x := (c : Int) + 1) (by omega) (by omega)]
     exact nx
    | succ p ihp =>
     intro r hr
     have nx2 := ihp (r + 1) (by omega)
     rw [mk_succ] at nx2
     refine evstep (fun k => by rw [spec_l01Solve.l1]) ?_
     rw [rdL1, mk_row n n _ r (by omega)]
     refine evpos (by omega) (evpos (by omega) (evsome (Sd.own_eq _ (by rw [rw1_len]; omega)) (evpos (by omega) (evpos (by omega) (evpos (by rw [rw1_len]; omega) (evpos (by rw [mk_len]; omega) ?_))))))
     rw [rd_nat, Int.toNat_natCast, w64 (x := (r : Int) + 1) (by omega) (by omega), show (rw1 n (colM (bB s) (en l) r)).set c (x.getD r 0) = rw1 n (cset c (fun r => x.getD r 0) (colM (bB s) (en l)) r) from by
      apply List.ext_getElem
      ·simp [rw1]
      ·intro k h1 h2
       rw [List.getElem_set]
       simp only [rw1, List.getElem_map, List.getElem_range, cset]
       by_cases e : c = k
       ·subst e; simp
       ·rw [if_neg e, if_neg (Ne.symm e)]]
     exact nx2
   refine evstep (fun k => by rw [spec_l01Solve.l0]) (evpos (by omega) ?_)
   exact build n 0 (by omega)
 exact rows n 0 (by omega)
end
end Go.Proofs.Ythdoilfjcgickaa.Sv
end
section
namespace Go.Proofs.Ythdoilfjcgickaa.Pp
open Go.RowKit Go.Proofs.YthdoilfjcgickaaW.PrintWords Go.Proofs.YthdoilfjcgickaaW.PrintMore Go.Proofs.Ythdoilfjcgickaa.Ma Go.Proofs.Ythdoilfjcgickaa.Pr Go.Proofs.Ythdoilfjcgickaa.Dt Go.Proofs.Ythdoilfjcgickaa.Bz Go.Proofs.Ythdoilfjcgickaa.Un Go.Proofs.Ythdoilfjcgickaa.Cz Go.Proofs.Ythdoilfjcgickaa.Pb Go.Proofs.Ythdoilfjcgickaa.Mn Go.Proofs.Ythdoilfjcgickaa.Sv Go.Proofs.Ythdoilfjcgickaa.Pv
def cW (s : Int) (M : Mat) (j : Nat) (i : Nat) : Int := if bB s j then (if i = j then 1 else 0) else - M i j
def Cm (s : Int) (l : List (List Int)) : Mat := colM (bB s) (en l)
def pvl (n : Nat) (l : List (List Int)) (s : Int) (j : Nat) : List Int := (List.range n).map fun i => sgn (det n (Cm s l)) * dc n (Cm s l) (rw1 n (cW s (en l) j)) i
def ab (d : Int) : Int := if d < 0 then - d else d
def pvS (n : Nat) (l : List (List Int)) (s : Int) (x : List Int) : List Int := (List.range n).map fun i => sgn (det n (Cm s l)) * dc n (Cm s l) x i
def Zr (n : Nat) : List (List Int) := List.replicate n (List.replicate n 0)
def pvR (n : Nat) (l : List (List Int)) (s : Int) : List (List Int) := pR (Zr n) (pvl n l s) n n 0
def pvA (n : Nat) (l : List (List Int)) (s : Int) (x : List Int) : Int × List (List Int) × List Int × Bool := if det n (Cm s l) = 0 then (0, [], [], false) else (ab (det n (Cm s l)), pvR n l s, pvS n l s x, true)
theorem pR_full (l l' : List (List Int)) (cs : Nat → List Int) (n : Nat) : pR l cs n n 0 = pR l' cs n n 0 := by
 unfold pR
 refine List.map_congr_left (fun r _ => List.map_congr_left (fun c hc => ?_))
 unfold pE
 rw [if_pos (.inl (List.mem_range.1 hc)), if_pos (.inl (List.mem_range.1 hc))]
theorem pR_getD (l : List (List Int)) (cs : Nat → List Int) (n k i r : Nat) (h : r < n) : (pR l cs n k i).getD r [] = (List.range n).map (pE l cs k i r) := by
 simp [pR, h]
theorem Zr_zero (n : Nat) (cs : Nat → List Int) : pR (Zr n) cs n 0 0 = Zr n := pR_zero _ cs n (by simp [Zr]) (fun x hx => by rw [(List.mem_replicate.1 hx).2]; simp)
section
variable {n : Nat} {l : List (List Int)} (h : Sq n l) (hn : n ≤ 5) (s : Int)
include h hn
theorem cW_b (j : Nat) (hj : j < n) (i : Nat) (hi : i < n) : (cW s (en l) j i).natAbs ≤ 20 := by
 have _h := hn
 have := h.num i j hi hj
 unfold cW
 split
 ·split <;> decide
 ·omega
theorem cW_x (j : Nat) (hj : j < n) (r : Nat) (hr : r < n) : ((rw1 n (cW s (en l) j)).getD r 0).natAbs ≤ 100 := by
 have := cW_b h hn s j hj r hr
 rw [show (rw1 n (cW s (en l) j)).getD r 0 = cW s (en l) j r from by simp [rw1, hr]]
 omega
theorem cW_y (j : Nat) (hj : j < n) (r : Nat) (hr : r < n) : ((rw1 n (fun i => - cW s (en l) j i)).getD r 0).natAbs ≤ 100 := by
 have := cW_b h hn s j hj r hr
 rw [show (rw1 n (fun i => - cW s (en l) j i)).getD r 0 = - cW s (en l) j r from by simp [rw1, hr]]
 omega
theorem col_eq (Q : List Int) (hQ : Q.length = n) (j : Nat) (hj : j < n) : Ev (fun k => impl_Problem_column.f k l Q (j : Int) (!bB s j)) (rw1 n (cW s (en l) j)) := by
 cases hb : bB s j with
 | true =>
  have := col_f h hn Q hQ j hj
  have e : cW s (en l) j = fun r => if r = j then 1 else 0 := by funext r; unfold cW; rw [if_pos hb]
  rw [e]; exact this
 | false =>
  have := col_t h hn Q hQ j hj
  have e : cW s (en l) j = fun r => - en l r j := by funext r; unfold cW; rw [if_neg (by simp [hb])]
  rw [e]; exact this
theorem pvC_eq (Q : List Int) (hQ : Q.length = n) (hp : 0 < n) (d : det n (Cm s l) ≠ 0) (j : Nat) (hj : j < n) : Ev (fun k => pvC k l Q s j) (pvl n l s j) := by
 have si := impl_solve h hn s (rw1 n (cW s (en l) j)) (cW_x h hn s j hj) Q hQ (rw1_len _ _) hp
 unfold solR at si
 rw [if_neg (show ¬ det n (colM (bB s) (en l)) = 0 from d)] at si
 unfold pvC
 exact evsome (has_eq h hn s j (by omega)) (evbind (col_eq h hn s Q hQ j hj) (evbind si (evc rfl)))
theorem pv_all (Q : List Int) (hQ : Q.length = n) (hp : 0 < n) (d : det n (Cm s l) ≠ 0) : ∃ K, ∀ k, K ≤ k → ∀ i, i < n → pvC k l Q s i = some (pvl n l s i) := by
 have key : ∀ m, m ≤ n → ∃ K, ∀ k, K ≤ k → ∀ i, i < m → pvC k l Q s i = some (pvl n l s i) := by
  intro m
  induction m with
  | zero => intro _; exact ⟨0, fun k _ i hi => by omega⟩
  | succ m ih =>
   intro hm
   obtain ⟨K1, h1⟩ := ih (by omega)
   obtain ⟨K2, h2⟩ := pvC_eq h hn s Q hQ hp d m (by omega)
   refine ⟨K1 + K2, fun k hk i hi => ?_⟩
   by_cases e : i = m
   ·subst e; exact h2 k (by omega)
   ·exact h1 k (by omega) i (by omega)
 exact key n (Nat.le_refl _)
theorem impl_pivot (Q : List Int) (hQ : Q.length = n) (hx : ∀ r, r < n → (Q.getD r 0).natAbs ≤ 100) (hp : 0 < n) (hrows : ∀ x ∈ l, x.length = n) : Ev (fun k => impl_Problem_pivot.f k l Q s) (pvA n l s Q) := by
 have si := impl_solve h hn s Q hx Q hQ hQ hp
 unfold solR at si
 unfold impl_Problem_pivot.f impl_Problem_point.f pvA
 by_cases d : det n (Cm s l) = 0
 ·rw [if_pos d]
  unfold Cm at d
  rw [if_pos d] at si
  exact evbind (evbind si (evc rfl)) (evneg (by simp) (evc rfl))
 ·rw [if_neg d]
  obtain ⟨K1, k1⟩ := pv_all h hn s Q hQ hp d
  obtain ⟨K2, k2⟩ := Cp.copy_eq l (by have := h.len; omega) (fun x hx => by have := hrows x hx; omega)
  have d' := d
  unfold Cm at d'
  rw [if_neg d'] at si
  refine evbind (evbind si (evc rfl)) (evpos rfl ?_)
  refine ⟨K1 + K2, fun k hk => ?_⟩
  dsimp only
  have hc := k1 k (by omega)
  have hL (i : Nat) (hi : i < n) : pvL k l Q s i = pvl n l s i := by unfold pvL; rw [hc i hi]; rfl
  rw [hQ]
  rw [if_pos ⟨hp, by omega, h.len, by
   rw [List.all_eq_true]
   intro x hx
   simpa using hrows x hx, by simp, k2 k (by omega), by
   unfold pvOK
   rw [List.all_eq_true]
   intro i hi
   rw [hc i (List.mem_range.1 hi)]
   simp [pvl]⟩]
  rw [pR_congr _ _ _ _ hL, pR_full l (Zr n)]
  rfl
theorem dc_neg (j : Nat) (i : Nat) (hi : i < n) : dc n (Cm s l) (rw1 n (fun i => - cW s (en l) j i)) i = - dc n (Cm s l) (rw1 n (cW s (en l) j)) i := by
 have _h := h
 have _hn := hn
 have e := det_cadd hi (fun r => (rw1 n (cW s (en l) j)).getD r 0) (fun _ => 0) (Cm s l) (-1) 0
 unfold dc
 rw [show det n (cset i (fun r => (rw1 n (fun i => - cW s (en l) j i)).getD r 0) (Cm s l)) = det n (cset i (fun r => -1 * (rw1 n (cW s (en l) j)).getD r 0 + 0 * 0) (Cm s l)) from det_congr (fun a b ha hb => by
  unfold cset
  split
  ·simp [rw1, ha]
  ·rfl)]
 rw [e]
 omega
end
theorem sgn_ne {d : Int} (h : d ≠ 0) : sgn d = if d < 0 then -1 else 1 := by
 unfold sgn
 by_cases c : d < 0
 ·rw [if_pos c, if_pos c]
 ·rw [if_neg c, if_neg c, if_pos (by omega)]
section
variable {n : Nat} {l : List (List Int)} (h : Sq n l) (hn : n ≤ 5) (s : Int) (Q : List Int) (hQ : Q.length = n)
include h hn hQ
theorem loop3 (sg : Int) (hsg : sg = sgn (det n (Cm s l))) (X : List (List Int)) (den : Int) (side : List Int) (j : Nat) (hj : j < n) (R : Int × List (List Int) × List Int × Bool) (nx1 : Ev (fun k => spec_l04Pivot.l1 k s (n : Int) X sg ((j + 1 : Nat) : Int) l Q den (pR (Zr n) (pvl n l s) n (j + 1) 0) side) R) :
  ∀ q i, i + q = n → Ev (fun k => spec_l04Pivot.l3 k s (n : Int) X sg (j : Int) ((List.range n).map (dc n (Cm s l) (rw1 n (fun i => - cW s (en l) j i)))) (i : Int) l Q den (pR (Zr n) (pvl n l s) n j i) side) R := by
 intro q
 induction q with
 | zero =>
  intro i hi
  obtain rfl : i = n := by omega
  refine evstep (fun k => by rw [spec_l04Pivot.l3]) (evneg (by omega) ?_)
  rw [w64 (x := (j : Int) + 1) (by omega) (by omega), pR_col]
  exact nx1
 | succ q ih =>
  intro i hi
  have nx := ih (i + 1) (by omega)
  refine evstep (fun k => by rw [spec_l04Pivot.l3]) ?_
  rw [rdL1, pR_getD _ _ _ _ _ _ (by omega)]
  refine evpos (by omega) (evpos (by omega) (evpos (by rw [pR_len]; omega) (evpos (by simp; omega) (evpos (by omega) (evpos (by simp; omega) ?_)))))
  rw [rd_nat, show ((List.range n).map (dc n (Cm s l) (rw1 n (fun i => - cW s (en l) j i)))).getD i 0 = dc n (Cm s l) (rw1 n (fun i => - cW s (en l) j i)) i from by simp [show i < n by omega]]
  rw [dc_neg h hn s j i (by omega), hsg, show sgn (det n (Cm s l)) * - dc n (Cm s l) (rw1 n (cW s (en l) j)) i = -(pvl n l s j).getD i 0 from by
   rw [show (pvl n l s j).getD i 0 = sgn (det n (Cm s l)) * dc n (Cm s l) (rw1 n (cW s (en l) j)) i from by simp [pvl, show i < n by omega], Int.mul_neg]]
  rw [Int.toNat_natCast, Int.toNat_natCast, pR_set _ _ _ _ _ (by omega) hj, w64 (x := (i : Int) + 1) (by omega) (by omega), ← hsg]
  exact nx
theorem loop2 (sg : Int) (hsg : sg = sgn (det n (Cm s l))) (den : Int) (side : List Int) (j : Nat) (hj : j < n) (R : Int × List (List Int) × List Int × Bool) (nx1 : Ev (fun k => spec_l04Pivot.l1 k s (n : Int) (mk n n (Cm s l)) sg ((j + 1 : Nat) : Int) l Q den (pR (Zr n) (pvl n l s) n (j + 1) 0) side) R) :
  ∀ q i, i + q = n → Ev (fun k => spec_l04Pivot.l2 k s (n : Int) (mk n n (Cm s l)) sg (j : Int) ((List.range n).map fun u => if u < i then (if bB s j then 0 else en l u j) else 0) (i : Int) l Q den (pR (Zr n) (pvl n l s) n j 0) side) R := by
 have hl := h.len
 have ss := spec_solve h hn s (rw1 n (fun i => - cW s (en l) j i)) (cW_y h hn s j hj) (rw1_len _ _)
 have l3 := loop3 h hn s Q hQ sg hsg (mk n n (Cm s l)) den side j hj R nx1 n 0 (by omega)
 have j4 : Ev (fun k => spec_l04Pivot.j4 k s (n : Int) (mk n n (Cm s l)) sg (j : Int) (rw1 n (fun i => - cW s (en l) j i)) l Q den (pR (Zr n) (pvl n l s) n j 0) side) R := by
  refine evstep (fun k => by rw [spec_l04Pivot.j4]) ?_
  exact evbind ss l3
 have hu : IntKind.u64.wrap (j : Int) = (j : Int) := u64w (by omega) (by omega)
 intro q
 induction q with
 | zero =>
  intro i hi
  obtain rfl : i = n := by omega
  refine evstep (fun k => by rw [spec_l04Pivot.l2]) (evneg (by omega) ?_)
  rw [hu, shr_and_one s (by omega)]
  refine evpos (by omega) ?_
  cases hb : bB s j with
  | true =>
   refine evpos rfl (evpos (by omega) (evpos (by simp; omega) ?_))
   rw [Int.toNat_natCast]
   rw [show ((List.range i).map fun u => if u < i then (if true = true then (0 : Int) else en l u j) else 0).set j (-1) = rw1 i (fun i => - cW s (en l) j i) from by
    apply List.ext_getElem
    ·simp [rw1]
    ·intro k h1 h2
     rw [List.getElem_set]
     simp only [rw1, List.getElem_map, List.getElem_range, cW, hb]
     by_cases e : j = k
     ·subst e; simp
     ·simp [e, Ne.symm e]]
   exact j4
  | false =>
   refine evneg (by simp) ?_
   rw [show ((List.range i).map fun u => if u < i then (if false = true then (0 : Int) else en l u j) else 0) = rw1 i (fun i => - cW s (en l) j i) from by
    unfold rw1
    refine List.map_congr_left (fun u hu => ?_)
    rw [if_pos (List.mem_range.1 hu)]
    simp [cW, hb]]
   exact j4
 | succ q ih =>
  intro i hi
  have nx := ih (i + 1) (by omega)
  have hrow := h.row i (by omega)
  refine evstep (fun k => by rw [spec_l04Pivot.l2]) (evpos (by omega) ?_)
  rw [hu, shr_and_one s (by omega), w64 (x := (i : Int) + 1) (by omega) (by omega), rdL1]
  refine evpos (by omega) ?_
  have at_ : ((List.range n).map fun u => if u < i then (if bB s j then 0 else en l u j) else 0).set i (if bB s j then 0 else en l i j) = (List.range n).map fun u => if u < i + 1 then (if bB s j then 0 else en l u j) else 0 := by
   apply List.ext_getElem
   ·simp
   ·intro k h1 h2
    have hk : k < n := by simpa using h2
    rw [List.getElem_set]
    simp only [List.getElem_map, List.getElem_range]
    by_cases e : i = k
    ·subst e; rw [if_pos rfl, if_pos (show i < i + 1 by omega)]
    ·rw [if_neg e]
     by_cases c : k < i
     ·rw [if_pos c, if_pos (show k < i + 1 by omega)]
     ·rw [if_neg c, if_neg (show ¬ k < i + 1 by omega)]
  cases hb : bB s j with
  | true =>
   refine evneg (by simp) ?_
   rw [hb] at nx at_
   have : ((List.range n).map fun u => if u < i then (if true = true then (0 : Int) else en l u j) else 0) = (List.range n).map fun u => if u < i + 1 then (if true = true then (0 : Int) else en l u j) else 0 := by
    refine List.map_congr_left (fun u _ => ?_)
    simp
   rw [this]
   exact nx
  | false =>
   rw [hb] at nx at_
   refine evpos (by simp) (evpos (by omega) (evpos (by omega) (evpos (by omega) (evpos (by omega) (evpos (by simp; omega) ?_)))))
   rw [rd_nat, show (l.getD i []).getD j 0 = en l i j from rfl, Int.toNat_natCast]
   have e : (if false = true then (0 : Int) else en l i j) = en l i j := by simp
   rw [e] at at_
   rw [at_]
   exact nx
theorem loop1 (sg : Int) (hsg : sg = sgn (det n (Cm s l))) (den : Int) (side : List Int) : ∀ q j, j + q = n → Ev (fun k => spec_l04Pivot.l1 k s (n : Int) (mk n n (Cm s l)) sg (j : Int) l Q den (pR (Zr n) (pvl n l s) n j 0) side) (den, pvR n l s, side, true) := by
 intro q
 induction q with
 | zero =>
  intro j hj
  obtain rfl : j = n := by omega
  refine evstep (fun k => by rw [spec_l04Pivot.l1]) ?_
  exact evneg (by omega) (evc rfl)
 | succ q ih =>
  intro j hj
  have nx := ih (j + 1) (by omega)
  have l2 := loop2 h hn s Q hQ sg hsg den side j (by omega) _ nx n 0 (by omega)
  refine evstep (fun k => by rw [spec_l04Pivot.l1]) (evpos (by omega) (evpos (by omega) (evpos (by omega) ?_)))
  rw [show List.replicate ((n : Int)).toNat (0 : Int) = (List.range n).map fun u => if u < 0 then (if bB s j then 0 else en l u j) else 0 from by
   apply List.ext_getElem
   ·simp
   ·intro k h1 h2; simp]
  exact l2
theorem loop0 (hx : ∀ r, r < n → (Q.getD r 0).natAbs ≤ 100) (sg : Int) (hsg : sg = sgn (det n (Cm s l))) (den : Int) : ∀ q i, i + q = n → Ev (fun k => spec_l04Pivot.l0 k s (n : Int) (mk n n (Cm s l)) ((List.range n).map (dc n (Cm s l) Q)) sg (i : Int) l Q den (List.replicate i (List.replicate n 0)) ((List.range i).map fun i => sgn (det n (Cm s l)) * dc n (Cm s l) Q i)) (den, pvR n l s, pvS n l s Q, true) := by
 intro q
 induction q with
 | zero =>
  intro i hi
  obtain rfl : i = n := by omega
  have l1 := loop1 h hn s Q hQ sg hsg den (pvS i l s Q) i 0 (by omega)
  rw [Zr_zero] at l1
  refine evstep (fun k => by rw [spec_l04Pivot.l0]) ?_
  exact evneg (by omega) l1
 | succ q ih =>
  intro i hi
  have nx := ih (i + 1) (by omega)
  rw [List.range_succ, List.map_append, List.replicate_succ'] at nx
  refine evstep (fun k => by rw [spec_l04Pivot.l0]) (evpos (by omega) (evpos (by omega) (evpos (by omega) (evpos (by simp; omega) (evpos (by omega) (evpos (by simp; omega) (evpos (by simp; omega) ?_)))))))
  rw [rd_nat, show ((List.range n).map (dc n (Cm s l) Q)).getD i 0 = dc n (Cm s l) Q i from by simp [show i < n by omega], hsg, show wrap64 (sgn (det n (Cm s l)) * dc n (Cm s l) Q i) = sgn (det n (Cm s l)) * dc n (Cm s l) Q i from sgn_mul _ _ (dc_b h hn s Q hx i), w64 (x := (i : Int) + 1) (by omega) (by omega), Int.toNat_natCast, ← hsg]
  rw [hsg] at nx ⊢
  exact nx
theorem spec_pivot (hx : ∀ r, r < n → (Q.getD r 0).natAbs ≤ 100) : Ev (fun k => spec_l04Pivot.f k l Q s) (pvA n l s Q) := by
 unfold spec_l04Pivot.f pvA
 have db : -1920000000 ≤ det n (Cm s l) ∧ det n (Cm s l) ≤ 1920000000 := D_b h hn s
 refine evbind (spec_cols h hn s) (evbind (spec_solve h hn s Q hx hQ) ?_)
 by_cases d : det n (Cm s l) = 0
 ·rw [if_pos d]
  exact evpos d (evc rfl)
 ·rw [if_neg d, hQ]
  refine evneg d ?_
  have e0 := sgn_ne d
  by_cases c : det n (Cm s l) < 0
  ·rw [if_pos c] at e0
   refine evpos c (evstep (fun k => by rw [spec_l04Pivot.j0]) ?_)
   have := loop0 h hn s Q hQ hx (-1) e0.symm (ab (det n (Cm s l))) n 0 (by omega)
   show Ev (fun k => spec_l04Pivot.l0 k s (n : Int) (mk n n (Cm s l)) ((List.range n).map (dc n (Cm s l) Q)) (-1) 0 l Q (wrap64 (-1 * det n (Cm s l))) [] []) _
   rw [show wrap64 (-1 * det n (Cm s l)) = ab (det n (Cm s l)) from by unfold ab; rw [if_pos c, w64 (by omega) (by omega)]; omega]
   exact this
  ·rw [if_neg c] at e0
   refine evneg c (evstep (fun k => by rw [spec_l04Pivot.j0]) ?_)
   have := loop0 h hn s Q hQ hx 1 e0.symm (ab (det n (Cm s l))) n 0 (by omega)
   show Ev (fun k => spec_l04Pivot.l0 k s (n : Int) (mk n n (Cm s l)) ((List.range n).map (dc n (Cm s l) Q)) 1 0 l Q (wrap64 (1 * det n (Cm s l))) [] []) _
   rw [show wrap64 (1 * det n (Cm s l)) = ab (det n (Cm s l)) from by unfold ab; rw [if_neg c, w64 (by omega) (by omega)]; omega]
   exact this
end
end Go.Proofs.Ythdoilfjcgickaa.Pp
end
