/- Texts of one claim (the words of the kit's print that the claim uses, printed functions, and this session's own texts), joined in the order of their imports by this session's own program (merge.py). -/
import Derived.Test.YthdoilfjcgickaaJnFnExactCoverAfter0
import Derived.Test.YthdoilfjcgickaaJnFnExactCoverAfter1
import Derived.Test.YthdoilfjcgickaaJnFnExactCoverAfter2
set_option linter.unusedVariables false
set_option linter.unusedSimpArgs false
set_option maxHeartbeats 8000000
set_option maxRecDepth 100000
section
namespace Go.Proofs.Ythdoilfjcgickaa.Pr
open Go.RowKit Go.Proofs.YthdoilfjcgickaaW.PrintWords Go.Proofs.YthdoilfjcgickaaW.PrintLast Go.Proofs.YthdoilfjcgickaaW.PrintMore
attribute [local go_sem] max2_int min2_int max_two min_two max_three min_three max_four min_four
mutual
def spec_l05Begin.l0 : Nat → List Int → Int → Int → List (List Int) → List Int → List (List Int) → Int → List Int → Option ((List (List Int)) × Int × List Int)
 | 0, _, _, _, _, _, _, _, _ => none
 | k + 1, x1, x6, x7, x894000, x894001, x896000, x896001, x896002 => if x7 < x6 then (spec_l05Begin.l1 k x1 x6 x7 (([] : List Int)) 0 x894000 x894001 x896000 x896001 x896002) else (some (x896000, x896001, x896002))
def spec_l05Begin.l1 : Nat → List Int → Int → Int → List Int → Int → List (List Int) → List Int → List (List Int) → Int → List Int → Option ((List (List Int)) × Int × List Int)
 | 0, _, _, _, _, _, _, _, _, _, _ => none
 | k + 1, x1, x6, x7, x8, x9, x894000, x894001, x896000, x896001, x896002 => if x9 < x6 then (if x9 = x7 then (if x8.length < 17592186044416 then (spec_l05Begin.l1 k x1 x6 x7 (x8 ++ [1]) (wrap64 (x9 + 1)) x894000 x894001 x896000 x896001 x896002) else (none)) else (if x8.length < 17592186044416 then (spec_l05Begin.l1 k x1 x6 x7 (x8 ++ [0]) (wrap64 (x9 + 1)) x894000 x894001 x896000 x896001 x896002) else (none))) else (spec_l05Begin.l2 k x1 x6 x7 x8 0 x894000 x894001 x896000 x896001 x896002)
def spec_l05Begin.l2 : Nat → List Int → Int → Int → List Int → Int → List (List Int) → List Int → List (List Int) → Int → List Int → Option ((List (List Int)) × Int × List Int)
 | 0, _, _, _, _, _, _, _, _, _, _ => none
 | k + 1, x1, x6, x7, x8, x10, x894000, x894001, x896000, x896001, x896002 => if x10 < x6 then (if 0 ≤ x7 then (if x7 < (x894000.length : Int) then (if 0 ≤ x10 then (if x10 < ((rd_L1 x894000 x7).length : Int) then (if x8.length < 17592186044416 then (spec_l05Begin.l2 k x1 x6 x7 (x8 ++ [wrap64 (-(rd (rd_L1 x894000 x7) x10))]) (wrap64 (x10 + 1)) x894000 x894001 x896000 x896001 x896002) else (none)) else (none)) else (none)) else (none)) else (none)) else (if (x1.length : Int) > 0 then (if 0 ≤ x7 then (if x7 < (x1.length : Int) then (if x8.length < 17592186044416 then ((some (x8 ++ [wrap64 (-(rd x1 x7))] : List Int)).bind fun y911 => (if x7 < (x894001.length : Int) then (if y911.length < 17592186044416 then (if x896000.length < 5864062014805 then (if x896002.length < 17592186044416 then (spec_l05Begin.l0 k x1 x6 (wrap64 (x7 + 1)) x894000 x894001 (x896000 ++ [(y911 ++ [rd x894001 x7])]) x896001 (x896002 ++ [x7])) else (none)) else (none)) else (none)) else (none))) else (none)) else (none)) else (none)) else (if 0 ≤ x7 then (if x7 < (x894001.length : Int) then (if x8.length < 17592186044416 then (if x896000.length < 5864062014805 then (if x896002.length < 17592186044416 then (spec_l05Begin.l0 k x1 x6 (wrap64 (x7 + 1)) x894000 x894001 (x896000 ++ [(x8 ++ [rd x894001 x7])]) x896001 (x896002 ++ [x7])) else (none)) else (none)) else (none)) else (none)) else (none)))
end
def spec_l05Begin.f (k : Nat) (l0_0 : List (List Int)) (l0_1 : List Int) (l1 : List Int) : Option ((List (List Int)) × Int × List Int) := spec_l05Begin.l0 k l1 (l0_1.length : Int) 0 l0_0 l0_1 ([] : List (List Int)) 1 ([] : List Int)
theorem spec_l05Begin.mono_l : ∀ k, (∀ y0 y1 y2 y3 y4 y5 y6 y7, LeO (spec_l05Begin.l0 k y0 y1 y2 y3 y4 y5 y6 y7) (spec_l05Begin.l0 (k + 1) y0 y1 y2 y3 y4 y5 y6 y7)) ∧ (∀ y0 y1 y2 y3 y4 y5 y6 y7 y8 y9, LeO (spec_l05Begin.l1 k y0 y1 y2 y3 y4 y5 y6 y7 y8 y9) (spec_l05Begin.l1 (k + 1) y0 y1 y2 y3 y4 y5 y6 y7 y8 y9)) ∧ (∀ y0 y1 y2 y3 y4 y5 y6 y7 y8 y9, LeO (spec_l05Begin.l2 k y0 y1 y2 y3 y4 y5 y6 y7 y8 y9) (spec_l05Begin.l2 (k + 1) y0 y1 y2 y3 y4 y5 y6 y7 y8 y9))
 | 0 => ⟨fun _ _ _ _ _ _ _ _ r h => by simp [spec_l05Begin.l0] at h, fun _ _ _ _ _ _ _ _ _ _ r h => by simp [spec_l05Begin.l1] at h, fun _ _ _ _ _ _ _ _ _ _ r h => by simp [spec_l05Begin.l2] at h⟩
 | k + 1 => by
  obtain ⟨ih0, ih1, ih2⟩ := spec_l05Begin.mono_l k
  refine ⟨?_, ?_, ?_⟩
  ·intro y0 y1 y2 y3 y4 y5 y6 y7
   unfold spec_l05Begin.l0
   repeat' first
   | (with_reducible exact ih0 _ _ _ _ _ _ _ _)
   | (with_reducible exact ih1 _ _ _ _ _ _ _ _ _ _)
   | (with_reducible exact ih2 _ _ _ _ _ _ _ _ _ _)
   | (with_reducible exact LeO.refl _)
   | (with_reducible exact LeO.none _)
   | (with_reducible refine LeO.ite ?_ ?_)
   | (with_reducible refine LeO.bind ?_ (fun _ => ?_))
   | exact ih0 _ _ _ _ _ _ _ _
   | exact ih1 _ _ _ _ _ _ _ _ _ _
   | exact ih2 _ _ _ _ _ _ _ _ _ _
   | exact LeO.none _
   | refine LeO.ite ?_ ?_
   | refine LeO.bind ?_ (fun _ => ?_)
  ·intro y0 y1 y2 y3 y4 y5 y6 y7 y8 y9
   unfold spec_l05Begin.l1
   repeat' first
   | (with_reducible exact ih0 _ _ _ _ _ _ _ _)
   | (with_reducible exact ih1 _ _ _ _ _ _ _ _ _ _)
   | (with_reducible exact ih2 _ _ _ _ _ _ _ _ _ _)
   | (with_reducible exact LeO.refl _)
   | (with_reducible exact LeO.none _)
   | (with_reducible refine LeO.ite ?_ ?_)
   | (with_reducible refine LeO.bind ?_ (fun _ => ?_))
   | exact ih0 _ _ _ _ _ _ _ _
   | exact ih1 _ _ _ _ _ _ _ _ _ _
   | exact ih2 _ _ _ _ _ _ _ _ _ _
   | exact LeO.none _
   | refine LeO.ite ?_ ?_
   | refine LeO.bind ?_ (fun _ => ?_)
  ·intro y0 y1 y2 y3 y4 y5 y6 y7 y8 y9
   unfold spec_l05Begin.l2
   repeat' first
   | (with_reducible exact ih0 _ _ _ _ _ _ _ _)
   | (with_reducible exact ih1 _ _ _ _ _ _ _ _ _ _)
   | (with_reducible exact ih2 _ _ _ _ _ _ _ _ _ _)
   | (with_reducible exact LeO.refl _)
   | (with_reducible exact LeO.none _)
   | (with_reducible refine LeO.ite ?_ ?_)
   | (with_reducible refine LeO.bind ?_ (fun _ => ?_))
   | exact ih0 _ _ _ _ _ _ _ _
   | exact ih1 _ _ _ _ _ _ _ _ _ _
   | exact ih2 _ _ _ _ _ _ _ _ _ _
   | exact LeO.none _
   | refine LeO.ite ?_ ?_
   | refine LeO.bind ?_ (fun _ => ?_)
theorem spec_l05Begin.mono : ∀ a0 a1 a2 k, LeO (spec_l05Begin.f k a0 a1 a2) (spec_l05Begin.f (k + 1) a0 a1 a2) := by
 intro a0 a1 a2 k
 obtain ⟨ih0, ih1, ih2⟩ := spec_l05Begin.mono_l k
 unfold spec_l05Begin.f
 repeat' first
   | (with_reducible exact ih0 _ _ _ _ _ _ _ _)
   | (with_reducible exact ih1 _ _ _ _ _ _ _ _ _ _)
   | (with_reducible exact ih2 _ _ _ _ _ _ _ _ _ _)
   | (with_reducible exact LeO.refl _)
   | (with_reducible exact LeO.none _)
   | (with_reducible refine LeO.ite ?_ ?_)
   | (with_reducible refine LeO.bind ?_ (fun _ => ?_))
   | exact ih0 _ _ _ _ _ _ _ _
   | exact ih1 _ _ _ _ _ _ _ _ _ _
   | exact ih2 _ _ _ _ _ _ _ _ _ _
   | exact LeO.none _
   | refine LeO.ite ?_ ?_
   | refine LeO.bind ?_ (fun _ => ?_)
def spec_l05Begin.T18 : Bool × List (List Nat × List Nat) := (true, [([], []), ([0], [0]), ([], []), ([], []), ([3], [3]), ([], []), ([4, 5], [4, 5]), ([6], [6]), ([7], [7]), ([2, 8], [2, 8]), ([9], [9]), ([1, 10, 9], [1, 10]), ([0, 1, 2, 3, 4, 5, 6, 7, 8, 9, 10, 11], []), ([12, 11, 11, 0, 1, 2, 3, 4, 5, 6, 7, 8, 9, 10, 11], [11, 12])])
def spec_l05Begin.B18 : List Nat := [0, 1, 0, 0, 8, 0, 56, 120, 248, 508, 1020, 2047, 4095, 8191]
theorem spec_l05Begin.tab18 : rtab .any (opsOf Try.f116 18) = spec_l05Begin.T18 := by kernel_rfl
theorem spec_l05Begin.bits18 : waitsOk spec_l05Begin.T18.2 spec_l05Begin.B18 = true := by kernel_rfl
theorem spec_l05Begin.calls (k : Nat) (A0_0 : Option Addr) (c0_0 : Nat) (l0_0 : List (List Int)) (A0_1 : Option Addr) (c0_1 : Nat) (l0_1 : List Int) (A1 : Option Addr) (c1 : Nat) (l1 : List Int) (r1 : List (List Int)) (r2 : Int) (r3 : List Int) (w : World) (hr0_0 : Kd.C (Kd.slice 2 (Kd.int .i64)) w A0_0 l0_0.length l0_0) (hc0_0 : l0_0.length ≤ c0_0) (hr0_1 : Kd.C (Kd.int .i64) w A0_1 l0_1.length l0_1) (hc0_1 : l0_1.length ≤ c0_1) (hr1 : Kd.C (Kd.int .i64) w A1 l1.length l1) (hc1 : l1.length ≤ c1) (h : spec_l05Begin.f k l0_0 l0_1 l1 = some (r1, r2, r3)) :
  Calls Try.prog 116 #[.agg #[.slice A0_0 l0_0.length c0_0, .slice A0_1 l0_1.length c0_1], .slice A1 l1.length c1] w fun e w' => ∃ v0_ v2_ : Value, e = .returned (.agg #[v0_, .int .i64 r2, v2_]) ∧ Kd.S (Kd.slice 2 (Kd.int .i64)) 23 w' w.heap.size (fun k_ => some k_ ≠ (v2_ : Value).ownBlock) v0_ r1 ∧ Kd.R (Kd.int .i64) 2 w' w.heap.size (fun _ => True) v2_ r3 ∧ Below w.heap.size w w' := by
 have hu29 := Try.underlying29
 have hu101 := Try.underlying101
 have HR0_0 := Aside0.mk hr0_0
 have HC0_0 := Aside0.mk hc0_0
 clear hr0_0 hc0_0
 have HR0_1 := Aside0.mk hr0_1
 have HC0_1 := Aside0.mk hc0_1
 clear hr0_1 hc0_1
 have HR1 := Aside0.mk hr1
 have HC1 := Aside0.mk hc1
 clear hr1 hc1
 have HB := Aside0.mk (Below.refl w.heap.size w)
 have H : (spec_l05Begin.l0 k l1 (l0_1.length : Int) 0 l0_0 l0_1 ([] : List (List Int)) 1 ([] : List Int)) = some (r1, r2, r3) := h
 clear h
 have H' := Aside0.mk H
 clear H
 go_enter Try.func116, Try.ntmps116
 try go_wp2_with (first | ((with_reducible refine gate_dst (N := 2) rfl ?_); refine box_event ?hg (N := 2) ?hd (cs := #[.slice A0_0 l0_0.length c0_0, .slice A0_1 l0_1.length c0_1]) (t := 29) ?hr ?_; (case hd => rfl); (case hg => rfl); (case hr => first | (go_simp; done) | (go_simp; rfl)); intro gb893 hg w3 hbox hb; have n0_ := Aside0.mk (bs_ hb); have n1_ := Aside0.mk (hbox); have n2_ := Aside0.mk ((by rw [hg]; exact bz_ : w.heap.size ≤ gb893)); have n3_ := Aside0.mk ((by rw [hg]; exact bz_ : w.heap.size ≤ gb893)); clear HB; have HB := n0_; have BK893 := n1_; have GW893 := n2_; have GE893 := n3_; clear n0_ n1_ n2_ n3_; clear hb hbox hg) | ((with_reducible refine gate_dst (N := 4) rfl ?_); refine box_event ?hg (N := 4) ?hd (cs := #[.slice none 0 0, .int .i64 0, .slice none 0 0]) (t := 101) ?hr ?_; (case hd => rfl); (case hg => rfl); (case hr => first | (go_simp; done) | (go_simp; rfl)); intro gb894 hg w4 hbox hb; have n0_ := Aside0.mk (bb_ BK893.out hb); have n1_ := Aside0.mk (bs_ hb); have n2_ := Aside0.mk (hbox); have n3_ := Aside0.mk ((by rw [hg]; exact bz_ : w.heap.size ≤ gb894)); have n4_ := Aside0.mk ((by rw [hg]; exact bz_ : w.heap.size ≤ gb894)); have n5_ := Aside0.mk ((by rw [hg]; exact lt_ BK893.out : gb893 ≠ gb894)); have n6_ := Aside0.mk ((by rw [hg]; exact gt_ BK893.out : gb894 ≠ gb893)); clear BK893; clear HB; have BK893 := n0_; have HB := n1_; have BK894 := n2_; have GW894 := n3_; have GE894 := n4_; have NB893_894 := n5_; have NB894_893 := n6_; clear n0_ n1_ n2_ n3_ n4_ n5_ n6_; clear hb hbox hg))
 have n0_ := Aside0.mk (blk_drew BK893.out)
 have n1_ := Aside0.mk (blk_drew BK894.out)
 have n2_ := Aside0.mk (below_drew1 HB.out)
 clear BK893
 clear BK894
 clear HB
 have BK893 := n0_
 have BK894 := n1_
 have HB := n2_
 clear n0_ n1_ n2_
 refine st_ (n := 7) (S := fun w' => w'.cell? ⟨gb893, 0, none⟩ = some (.slice A0_0 l0_0.length c0_0) ∧ w'.cell? ⟨gb893, 1, none⟩ = some (.slice A0_1 l0_1.length c0_1)) (ds := []) ⟨(blk_cell BK893.out 0).trans rfl, (blk_cell BK893.out 1).trans rfl⟩ (fun hHeld => ?_)
 generalize w4.drew = w5 at BK893 BK894 HB hHeld ⊢
 refine pu_ 0 11 ?_; refine pu_ 1 12 ?_; refine tk_ 2 13 ?_; refine pu_ 3 14 ?_
 refine on_ 4 (some 5) (fun K hK => ?_)
 refine box_step ?hg (N := 5) ?hd (cs := #[.slice none 0 0, .int .i64 0, .slice none 0 0]) (t := 101) ?hr ?_; (case hd => rfl); (case hg => rfl); (case hr => first | (go_simp; done) | (go_simp; rfl))
 intro gb895 hg w6 hbox hb
 have n0_ := Aside0.mk (bb_ BK893.out hb)
 have n1_ := Aside0.mk (bb_ BK894.out hb)
 have n2_ := Aside0.mk (bs_ hb)
 have n3_ := Aside0.mk (hbox)
 have n4_ := Aside0.mk ((by rw [hg]; exact bz_ : w.heap.size ≤ gb895))
 have n5_ := Aside0.mk ((by rw [hg]; exact bz_ : w.heap.size ≤ gb895))
 have n6_ := Aside0.mk ((by rw [hg]; exact lt_ BK893.out : gb893 ≠ gb895))
 have n7_ := Aside0.mk ((by rw [hg]; exact gt_ BK893.out : gb895 ≠ gb893))
 have n8_ := Aside0.mk ((by rw [hg]; exact lt_ BK894.out : gb894 ≠ gb895))
 have n9_ := Aside0.mk ((by rw [hg]; exact gt_ BK894.out : gb895 ≠ gb894))
 clear BK893
 clear BK894
 clear HB
 have BK893 := n0_
 have BK894 := n1_
 have HB := n2_
 have BK895 := n3_
 have GW895 := n4_
 have GE895 := n5_
 have NB893_895 := n6_
 have NB895_893 := n7_
 have NB894_895 := n8_
 have NB895_894 := n9_
 clear n0_ n1_ n2_ n3_ n4_ n5_ n6_ n7_ n8_ n9_
 clear hb hbox hg
 refine hK.out _ _ ⟨(blk_cell BK893.out 0).trans rfl, (blk_cell BK893.out 1).trans rfl⟩ (fun hHeld => ?_)
 clear hK K
 refine norm_ (a' := ?_) ?_ ?_
 rotate_left
 ·show Act.put _ (some 5) _ = _
  simp only [Act.put, List.setIfInBounds_toArray, List.set_cons_zero, List.set_cons_succ, i64_w, i32_w]
  rfl
 refine on_ 5 none (fun K hK => ?_)
 have hs7 : w6.cell? ⟨gb895, 0, none⟩ = some (.slice none 0 0) := (blk_cell BK895.out 0).trans rfl
 have hfs7 := blk_frozen BK895.out 0
 have hns7_0 := NB893_895.out
 have hns7_1 := NB894_895.out
 have hms7_0 := NB895_893.out
 have hms7_1 := NB895_894.out
 have hs8 : w6.cell? ⟨gb895, 1, none⟩ = some (.int .i64 0) := (blk_cell BK895.out 1).trans rfl
 have hfs8 := blk_frozen BK895.out 1
 have hns8_0 := NB893_895.out
 have hns8_1 := NB894_895.out
 have hms8_0 := NB895_893.out
 have hms8_1 := NB895_894.out
 have hs9 : w6.cell? ⟨gb895, 2, none⟩ = some (.slice none 0 0) := (blk_cell BK895.out 2).trans rfl
 have hfs9 := blk_frozen BK895.out 2
 have hns9_0 := NB893_895.out
 have hns9_1 := NB894_895.out
 have hms9_0 := NB895_893.out
 have hms9_1 := NB895_894.out
 refine skip_ (w1 := ?_) (by rfl) rfl ?_ ?_
 rotate_left
 ·go_simp
  rfl
 refine hK.out _ _ ⟨((cell_far (p := ⟨gb895, _, none⟩) NB893_895.out _).trans (((cell_far (p := ⟨gb895, _, none⟩) NB893_895.out _).trans (((cell_far (p := ⟨gb895, _, none⟩) NB893_895.out _).trans (hHeld.1)))))), ((cell_far (p := ⟨gb895, _, none⟩) NB893_895.out _).trans (((cell_far (p := ⟨gb895, _, none⟩) NB893_895.out _).trans (((cell_far (p := ⟨gb895, _, none⟩) NB893_895.out _).trans (hHeld.2))))))⟩ (fun hHeld => ?_)
 clear hK K
 refine pu_ 6 6 ?_
 refine done_ (by kernel_rfl) ?_
 try go_wp2
 go_loopg [7] k (fun kq v7 w' => ∃ (x7_1 : Int) (x896000_1 : List (List Int)) (x896002_1 : List Int) (u896000 : Value) (u896002 : Value), v7 = .int .i64 x7_1 ∧ Aside0 (spec_l05Begin.l0 kq l1 (l0_1.length : Int) x7_1 l0_0 l0_1 x896000_1 1 x896002_1 = some (r1, r2, r3)) ∧ Aside0 (kq ≤ k) ∧ Aside0 (Kd.S (Kd.slice 2 (Kd.int .i64)) 23 w' w.heap.size (fun k_ => some k_ ≠ (u896002 : Value).ownBlock) u896000 x896000_1) ∧ Aside0 (Kd.R (Kd.int .i64) 2 w' w.heap.size (fun _ => True) u896002 x896002_1) ∧ Aside0 (w'.heap[gb893]? = some (.cells #[(.slice A0_0 l0_0.length c0_0), (.slice A0_1 l0_1.length c0_1)] 29 (0, 0))) ∧ Aside0 (w'.heap[gb894]? = some (.cells #[(.slice none 0 0), .int .i64 0, (.slice none 0 0)] 101 (0, 0))) ∧ Aside0 (w'.heap[gb895]? = some (.cells #[u896000, .int .i64 1, u896002] 101 (0, 0))) ∧ Aside0 (Below w.heap.size w w'))
 case atStart => exact ⟨(0), (([] : List (List Int))), (([] : List Int)), (.slice none 0 0), (.slice none 0 0), rs_, H', ⟨Nat.le_refl _⟩, ⟨by first | exact Kd.S_nil _ _ _ _ _ | exact Kd.N_nil _ _ _ _ _ | exact Kd.V_nil _ _ _ _ _ | exact Kd.Q_nil _ _ _ _ _ | exact Kd.R_nil _ _ _ _ _⟩, ⟨by first | exact Kd.R_nil _ _ _ _ _ | exact Kd.N_nil _ _ _ _ _ | exact Kd.V_nil _ _ _ _ _ | exact Kd.Q_nil _ _ _ _ _ | exact Kd.S_nil _ _ _ _ _⟩, ⟨by (with_reducible repeat (first | refine blk_drewN ?_ _ | refine blk_drew ?_ | refine blk_alloc ?_ _)); refine blk_far ?_ NB893_895.out _; (with_reducible repeat (first | refine blk_drewN ?_ _ | refine blk_drew ?_ | refine blk_alloc ?_ _)); refine blk_far ?_ NB893_895.out _; (with_reducible repeat (first | refine blk_drewN ?_ _ | refine blk_drew ?_ | refine blk_alloc ?_ _)); refine blk_far ?_ NB893_895.out _; (with_reducible repeat (first | refine blk_drewN ?_ _ | refine blk_drew ?_ | refine blk_alloc ?_ _)); exact BK893.out⟩, ⟨by (with_reducible repeat (first | refine blk_drewN ?_ _ | refine blk_drew ?_ | refine blk_alloc ?_ _)); refine blk_far ?_ NB894_895.out _; (with_reducible repeat (first | refine blk_drewN ?_ _ | refine blk_drew ?_ | refine blk_alloc ?_ _)); refine blk_far ?_ NB894_895.out _; (with_reducible repeat (first | refine blk_drewN ?_ _ | refine blk_drew ?_ | refine blk_alloc ?_ _)); refine blk_far ?_ NB894_895.out _; (with_reducible repeat (first | refine blk_drewN ?_ _ | refine blk_drew ?_ | refine blk_alloc ?_ _)); exact BK894.out⟩, ⟨by (with_reducible repeat (first | refine blk_drewN ?_ _ | refine blk_drew ?_ | refine blk_alloc ?_ _)); refine blk_put (cs := #[.slice none 0 0, .int .i64 1, .slice none 0 0]) ?_ 2 _ rfl; (with_reducible repeat (first | refine blk_drewN ?_ _ | refine blk_drew ?_ | refine blk_alloc ?_ _)); refine blk_put (cs := #[.slice none 0 0, .int .i64 0, .slice none 0 0]) ?_ 1 _ rfl; (with_reducible repeat (first | refine blk_drewN ?_ _ | refine blk_drew ?_ | refine blk_alloc ?_ _)); refine blk_put (cs := #[.slice none 0 0, .int .i64 0, .slice none 0 0]) ?_ 0 _ rfl; (with_reducible repeat (first | refine blk_drewN ?_ _ | refine blk_drew ?_ | refine blk_alloc ?_ _)); exact BK895.out⟩, ⟨hb_⟩⟩
 case round =>
  clear H'
  try clear c1
  try clear p2
  obtain ⟨x7_1, x896000_1, x896002_1, u896000, u896002, rfl, HA, HK1, HO_896000, HO_896002, BK893, BK894, BK895, HB⟩ := hrel
  cases gk with
  | zero => exact absurd HA.out (by simp [spec_l05Begin.l0])
  | succ k1 =>
   have H := HA.out
   clear HA
   simp only [spec_l05Begin.l0] at H
   by_cases c10 : x7_1 < (l0_1.length : Int)
   ·rw [if_pos c10] at H
    have c10b0 : decide (x7_1 < (l0_1.length : Int)) = true := decide_eq_true c10
    clear c10
    obtain ⟨y896, hy896⟩ : ∃ y_ : List Int, y_ = (([] : List Int)) := ⟨_, rfl⟩
    replace H : (spec_l05Begin.l1 k1 l1 (l0_1.length : Int) x7_1 y896 0 l0_0 l0_1 x896000_1 1 x896002_1) = some (r1, r2, r3) := by first | (rw [hy896]; with_reducible exact H) | (have H2_ := (Option.bind_some _ _).symm.trans H; rw [hy896]; with_reducible exact H2_) | (have H2_ := (Option.bind_some _ _).symm.trans H; with_reducible exact H2_) | with_reducible exact H | (rw [hy896]; exact H) | exact H
    have Ny896 := Aside0.mk hy896
    clear hy896
    have H' := Aside0.mk H
    clear H
    go_wp2_with (first | ((with_reducible refine gate_dst (N := 20) rfl ?_); refine Kd.R_lit (Kd.int .i64) _ 2 ?hg (N := 20) ?hd (xs := ([] : List Int)) (inner := []) (ok := fun _ => True) (okp := fun _ => True) ?hr ?hp (fun _ hk => hk) trivial (Below.refl _ _) (Nat.le_refl _) (by simp) ?_; (case hd => rfl); (case hg => rfl); (case hr => first | (go_simp; done) | (go_simp; rfl)); (case hp => exact (Reps.none _ _)); intro v897 w11 ho12 hb hg_ hnew_; clear hg_ hnew_; (first | rw [← Ny896.out] at ho12 | (simp only [Int.reduceToNat] at ho12; rw [← Ny896.out] at ho12)); have n0_ := Aside0.mk (Kd.S_elder' (so_ HO_896000.out) (Kd.R_base ho12) hb); have n1_ := Aside0.mk (Kd.R_elder' (ro_ HO_896002.out) (Kd.R_base ho12) hb); have n2_ := Aside0.mk (Kd.R_lower (Kd.R_new' ho12 (Kd.R_lt (ro_ HO_896002.out))) bz_); have n3_ := Aside0.mk (bb_ BK893.out hb); have n4_ := Aside0.mk (bb_ BK894.out hb); have n5_ := Aside0.mk (bb_ BK895.out hb); have n6_ := Aside0.mk (bs_ hb); clear HO_896000; clear HO_896002; clear BK893; clear BK894; clear BK895; clear HB; have HO_896000 := n0_; have HO_896002 := n1_; have HO898 := n2_; have BK893 := n3_; have BK894 := n4_; have BK895 := n5_; have HB := n6_; clear n0_ n1_ n2_ n3_ n4_ n5_ n6_; clear hb ho12))
    go_loopg [8, 9] k1 (fun kq v8 v9 w' => ∃ (x8_2 : List Int) (x9_2 : Int), v9 = .int .i64 x9_2 ∧ Aside0 (spec_l05Begin.l1 kq l1 (l0_1.length : Int) x7_1 x8_2 x9_2 l0_0 l0_1 x896000_1 1 x896002_1 = some (r1, r2, r3)) ∧ Aside0 (kq ≤ k1) ∧ Aside0 (Kd.R (Kd.int .i64) 2 w' w.heap.size (fun k_ => some k_ ≠ (u896002 : Value).ownBlock) v8 x8_2) ∧ Aside0 (Kd.S (Kd.slice 2 (Kd.int .i64)) 23 w' w.heap.size (fun k_ => some k_ ≠ (v8 : Value).ownBlock ∧ some k_ ≠ (u896002 : Value).ownBlock) u896000 x896000_1) ∧ Aside0 (Kd.R (Kd.int .i64) 2 w' w.heap.size (fun k_ => some k_ ≠ (v8 : Value).ownBlock) u896002 x896002_1) ∧ Aside0 (w'.heap[gb893]? = some (.cells #[(.slice A0_0 l0_0.length c0_0), (.slice A0_1 l0_1.length c0_1)] 29 (0, 0))) ∧ Aside0 (w'.heap[gb894]? = some (.cells #[(.slice none 0 0), .int .i64 0, (.slice none 0 0)] 101 (0, 0))) ∧ Aside0 (w'.heap[gb895]? = some (.cells #[u896000, .int .i64 1, u896002] 101 (0, 0))) ∧ Aside0 (Below w.heap.size w w'))
    case atStart => exact ⟨(y896), (0), rs_, H', ⟨Nat.le_refl _⟩, ⟨by (with_reducible repeat (first | apply Kd.R_alloc | apply Kd.R_drewN | apply Kd.R_drew)); exact Kd.R_mono HO898.out (fun _ hk => hk.2)⟩, ⟨by (with_reducible repeat (first | apply Kd.S_alloc | apply Kd.S_drewN | apply Kd.S_drew)); exact Kd.S_mono HO_896000.out (fun _ hk => ⟨hk.2, hk.1⟩)⟩, ⟨by (with_reducible repeat (first | apply Kd.R_alloc | apply Kd.R_drewN | apply Kd.R_drew)); exact Kd.R_mono HO_896002.out (fun _ hk => hk.2)⟩, ⟨bk_⟩, ⟨bk_⟩, ⟨bk_⟩, ⟨hb_⟩⟩
    case round =>
     clear H'
     try clear c1
     try clear p2
     try clear c10
     try clear c10b0
     try clear c11
     try clear p2
     obtain ⟨x8_2, x9_2, rfl, HA, HK2, HO_8, HO_896000, HO_896002, BK893, BK894, BK895, HB⟩ := hrel
     cases gk with
     | zero => exact absurd HA.out (by simp [spec_l05Begin.l1])
     | succ k2 =>
      have H := HA.out
      clear HA
      simp only [spec_l05Begin.l1] at H
      by_cases c13 : x9_2 < (l0_1.length : Int)
      ·rw [if_pos c13] at H
       have c13b0 : decide (x9_2 < (l0_1.length : Int)) = true := decide_eq_true c13
       clear c13
       by_cases c14 : x9_2 = x7_1
       ·rw [if_pos c14] at H
        have c14b0 : (x9_2 == x7_1) = true := beq_iff_eq.mpr c14
        have c14b1 : (x9_2 != x7_1) = false := bne_eq_false_iff_eq.mpr c14
        clear c14
        by_cases c15 : x8_2.length < 17592186044416
        ·rw [if_pos c15] at H
         have LMc15 := Aside0.mk c15
         clear c15
         obtain ⟨y899, hy899⟩ : ∃ y_ : List Int, y_ = (x8_2 ++ [1]) := ⟨_, rfl⟩
         replace H : (spec_l05Begin.l1 k2 l1 (l0_1.length : Int) x7_1 y899 (wrap64 (x9_2 + 1)) l0_0 l0_1 x896000_1 1 x896002_1) = some (r1, r2, r3) := by first | (rw [hy899]; with_reducible exact H) | (have H2_ := (Option.bind_some _ _).symm.trans H; rw [hy899]; with_reducible exact H2_) | (have H2_ := (Option.bind_some _ _).symm.trans H; with_reducible exact H2_) | with_reducible exact H | (rw [hy899]; exact H) | exact H
         have Ny899 := Aside0.mk hy899
         clear hy899
         have H' := Aside0.mk H
         clear H
         go_wp2_with (first | ((with_reducible refine gate_builtin (b := .append) (xs := #[.tmp 29, .tmp 30]) rfl ?_); at_builtin; refine Kd.R_append (Kd.int .i64) (w0 := w) w.heap.size rfl (.tmp 29) (.tmp 30) 23 2 (.int .i64 0) 8 rfl Try.underlying23 info2 rfl (by decide) (by omega) u8 x8_2 1 [.int .i64 1] (fun k_ => some k_ ≠ (u896002 : Value).ownBlock) (fun _ => False) rfl rfl ?aP (fun _ hk => hk.elim) ?aF ?aO ?aB ?aS ?aL ?_; (case aP => exact rfl); (case aB => exact hb_); (case aF => exact (fun k_ hk => Kd.fresh' (Kd.R_lt (ro_ HO_896002.out)) k_ hk)); (case aO => exact (ro_ HO_8.out)); (case aS => exact bz_); (case aL => have := LMc15.out; omega); intro v900 w16 ho hb hg hat; rw [← Ny899.out] at ho; have n0_ := Aside0.mk (Kd.S_after (ok := (fun k_ => some k_ ≠ (u896002 : Value).ownBlock)) (by (with_reducible repeat (first | apply Kd.S_alloc | apply Kd.S_drewN | apply Kd.S_drew)); exact Kd.S_mono HO_896000.out (fun _ hk => ⟨hk.2, hk.1⟩)) hg hat); have n1_ := Aside0.mk (Kd.R_after (ok := (fun _ => True)) (by (with_reducible repeat (first | apply Kd.R_alloc | apply Kd.R_drewN | apply Kd.R_drew)); exact Kd.R_mono HO_896002.out (fun _ hk => ⟨trivial, hk⟩)) hg hat); have n2_ := Aside0.mk (bg_ BK893.out hg (Kd.R_ne HO_8.out BK893.out (by decide))); have n3_ := Aside0.mk (bg_ BK894.out hg (Kd.R_ne HO_8.out BK894.out (by decide))); have n4_ := Aside0.mk (bg_ BK895.out hg (Kd.R_ne HO_8.out BK895.out (by decide))); have n5_ := Aside0.mk (hb); have n6_ := Aside0.mk (ho); clear HO_896000; clear HO_896002; clear BK893; clear BK894; clear BK895; clear HB; clear HO_8; have HO_896000 := n0_; have HO_896002 := n1_; have BK893 := n2_; have BK894 := n3_; have BK895 := n4_; have HB := n5_; have HO901 := n6_; clear n0_ n1_ n2_ n3_ n4_ n5_ n6_; clear ho hb hg hat))
         go_roundg k2
         case measure => have := HK1.out; have := HK2.out; omega
         case rel => exact ⟨(y899), (wrap64 (x9_2 + 1)), rs_, H', ⟨by have := HK1.out; have := HK2.out; omega⟩, ⟨ro_ HO901.out⟩, ⟨by (with_reducible repeat (first | apply Kd.S_alloc | apply Kd.S_drewN | apply Kd.S_drew)); exact Kd.S_mono HO_896000.out (fun _ hk => ⟨hk.2, hk.1⟩)⟩, ⟨by (with_reducible repeat (first | apply Kd.R_alloc | apply Kd.R_drewN | apply Kd.R_drew)); exact Kd.R_mono HO_896002.out (fun _ hk => hk.2)⟩, ⟨bk_⟩, ⟨bk_⟩, ⟨bk_⟩, ⟨hb_⟩⟩
        ·rw [if_neg c15] at H
         exact absurd H (by simp)
       ·rw [if_neg c14] at H
        have c14b0 : (x9_2 == x7_1) = false := beq_eq_false_iff_ne.mpr c14
        have c14b1 : (x9_2 != x7_1) = true := bne_iff_ne.mpr c14
        by_cases c17 : x8_2.length < 17592186044416
        ·rw [if_pos c17] at H
         have LMc17 := Aside0.mk c17
         clear c17
         obtain ⟨y902, hy902⟩ : ∃ y_ : List Int, y_ = (x8_2 ++ [0]) := ⟨_, rfl⟩
         replace H : (spec_l05Begin.l1 k2 l1 (l0_1.length : Int) x7_1 y902 (wrap64 (x9_2 + 1)) l0_0 l0_1 x896000_1 1 x896002_1) = some (r1, r2, r3) := by first | (rw [hy902]; with_reducible exact H) | (have H2_ := (Option.bind_some _ _).symm.trans H; rw [hy902]; with_reducible exact H2_) | (have H2_ := (Option.bind_some _ _).symm.trans H; with_reducible exact H2_) | with_reducible exact H | (rw [hy902]; exact H) | exact H
         have Ny902 := Aside0.mk hy902
         clear hy902
         have H' := Aside0.mk H
         clear H
         go_wp2_with (first | ((with_reducible refine gate_builtin (b := .append) (xs := #[.tmp 32, .tmp 33]) rfl ?_); at_builtin; refine Kd.R_append (Kd.int .i64) (w0 := w) w.heap.size rfl (.tmp 32) (.tmp 33) 23 2 (.int .i64 0) 8 rfl Try.underlying23 info2 rfl (by decide) (by omega) u8 x8_2 0 [.int .i64 0] (fun k_ => some k_ ≠ (u896002 : Value).ownBlock) (fun _ => False) rfl rfl ?aP (fun _ hk => hk.elim) ?aF ?aO ?aB ?aS ?aL ?_; (case aP => exact rfl); (case aB => exact hb_); (case aF => exact (fun k_ hk => Kd.fresh' (Kd.R_lt (ro_ HO_896002.out)) k_ hk)); (case aO => exact (ro_ HO_8.out)); (case aS => exact bz_); (case aL => have := LMc17.out; omega); intro v903 w18 ho hb hg hat; rw [← Ny902.out] at ho; have n0_ := Aside0.mk (Kd.S_after (ok := (fun k_ => some k_ ≠ (u896002 : Value).ownBlock)) (by (with_reducible repeat (first | apply Kd.S_alloc | apply Kd.S_drewN | apply Kd.S_drew)); exact Kd.S_mono HO_896000.out (fun _ hk => ⟨hk.2, hk.1⟩)) hg hat); have n1_ := Aside0.mk (Kd.R_after (ok := (fun _ => True)) (by (with_reducible repeat (first | apply Kd.R_alloc | apply Kd.R_drewN | apply Kd.R_drew)); exact Kd.R_mono HO_896002.out (fun _ hk => ⟨trivial, hk⟩)) hg hat); have n2_ := Aside0.mk (bg_ BK893.out hg (Kd.R_ne HO_8.out BK893.out (by decide))); have n3_ := Aside0.mk (bg_ BK894.out hg (Kd.R_ne HO_8.out BK894.out (by decide))); have n4_ := Aside0.mk (bg_ BK895.out hg (Kd.R_ne HO_8.out BK895.out (by decide))); have n5_ := Aside0.mk (hb); have n6_ := Aside0.mk (ho); clear HO_896000; clear HO_896002; clear BK893; clear BK894; clear BK895; clear HB; clear HO_8; have HO_896000 := n0_; have HO_896002 := n1_; have BK893 := n2_; have BK894 := n3_; have BK895 := n4_; have HB := n5_; have HO904 := n6_; clear n0_ n1_ n2_ n3_ n4_ n5_ n6_; clear ho hb hg hat))
         go_roundg k2
         case measure => have := HK1.out; have := HK2.out; omega
         case rel => exact ⟨(y902), (wrap64 (x9_2 + 1)), rs_, H', ⟨by have := HK1.out; have := HK2.out; omega⟩, ⟨ro_ HO904.out⟩, ⟨by (with_reducible repeat (first | apply Kd.S_alloc | apply Kd.S_drewN | apply Kd.S_drew)); exact Kd.S_mono HO_896000.out (fun _ hk => ⟨hk.2, hk.1⟩)⟩, ⟨by (with_reducible repeat (first | apply Kd.R_alloc | apply Kd.R_drewN | apply Kd.R_drew)); exact Kd.R_mono HO_896002.out (fun _ hk => hk.2)⟩, ⟨bk_⟩, ⟨bk_⟩, ⟨bk_⟩, ⟨hb_⟩⟩
        ·rw [if_neg c17] at H
         exact absurd H (by simp)
      ·rw [if_neg c13] at H
       have c13b0 : decide (x9_2 < (l0_1.length : Int)) = false := decide_eq_false c13
       clear c13
       have H' := Aside0.mk H
       clear H
       go_wp2
       go_loopg [8, 10] k2 (fun kq v8 v10 w' => ∃ (x8_3 : List Int) (x10_3 : Int), v10 = .int .i64 x10_3 ∧ Aside0 (spec_l05Begin.l2 kq l1 (l0_1.length : Int) x7_1 x8_3 x10_3 l0_0 l0_1 x896000_1 1 x896002_1 = some (r1, r2, r3)) ∧ Aside0 (kq ≤ k2) ∧ Aside0 (Kd.R (Kd.int .i64) 2 w' w.heap.size (fun k_ => some k_ ≠ (u896002 : Value).ownBlock) v8 x8_3) ∧ Aside0 (Kd.S (Kd.slice 2 (Kd.int .i64)) 23 w' w.heap.size (fun k_ => some k_ ≠ (v8 : Value).ownBlock ∧ some k_ ≠ (u896002 : Value).ownBlock) u896000 x896000_1) ∧ Aside0 (Kd.R (Kd.int .i64) 2 w' w.heap.size (fun k_ => some k_ ≠ (v8 : Value).ownBlock) u896002 x896002_1) ∧ Aside0 (w'.heap[gb893]? = some (.cells #[(.slice A0_0 l0_0.length c0_0), (.slice A0_1 l0_1.length c0_1)] 29 (0, 0))) ∧ Aside0 (w'.heap[gb894]? = some (.cells #[(.slice none 0 0), .int .i64 0, (.slice none 0 0)] 101 (0, 0))) ∧ Aside0 (w'.heap[gb895]? = some (.cells #[u896000, .int .i64 1, u896002] 101 (0, 0))) ∧ Aside0 (Below w.heap.size w w'))
       case atStart => exact ⟨(x8_2), (0), rs_, H', ⟨Nat.le_refl _⟩, ⟨ro_ HO_8.out⟩, ⟨so_ HO_896000.out⟩, ⟨ro_ HO_896002.out⟩, ⟨bk_⟩, ⟨bk_⟩, ⟨bk_⟩, ⟨hb_⟩⟩
       case round =>
        clear H'
        try clear c1
        try clear p2
        try clear p6
        try clear c10
        try clear c10b0
        try clear c11
        try clear c13
        try clear c13b0
        try clear c14
        try clear c14b0
        try clear c14b1
        try clear c15
        try clear c17
        try clear p2
        obtain ⟨x8_3, x10_3, rfl, HA, HK3, HO_8, HO_896000, HO_896002, BK893, BK894, BK895, HB⟩ := hrel
        cases gk with
        | zero => exact absurd HA.out (by simp [spec_l05Begin.l2])
        | succ k3 =>
         have H := HA.out
         clear HA
         simp only [spec_l05Begin.l2] at H
         by_cases c19 : x10_3 < (l0_1.length : Int)
         ·rw [if_pos c19] at H
          have c19b0 : decide (x10_3 < (l0_1.length : Int)) = true := decide_eq_true c19
          clear c19
          by_cases c20 : 0 ≤ x7_1
          ·rw [if_pos c20] at H
           have c20b0 : decide (0 ≤ x7_1) = true := decide_eq_true c20
           clear c20
           by_cases c21 : x7_1 < (l0_0.length : Int)
           ·rw [if_pos c21] at H
            have c21b0 : decide (x7_1 < (l0_0.length : Int)) = true := decide_eq_true c21
            clear c21
            by_cases c22 : 0 ≤ x10_3
            ·rw [if_pos c22] at H
             have c22b0 : decide (0 ≤ x10_3) = true := decide_eq_true c22
             clear c22
             by_cases c23 : x10_3 < ((rd_L1 l0_0 x7_1).length : Int)
             ·rw [if_pos c23] at H
              have c23b0 : decide (x10_3 < ((rd_L1 l0_0 x7_1).length : Int)) = true := decide_eq_true c23
              clear c23
              by_cases c24 : x8_3.length < 17592186044416
              ·rw [if_pos c24] at H
               have LMc24 := Aside0.mk c24
               clear c24
               obtain ⟨y907, hy907⟩ : ∃ y_ : List Int, y_ = (x8_3 ++ [wrap64 (-(rd (rd_L1 l0_0 x7_1) x10_3))]) := ⟨_, rfl⟩
               replace H : (spec_l05Begin.l2 k3 l1 (l0_1.length : Int) x7_1 y907 (wrap64 (x10_3 + 1)) l0_0 l0_1 x896000_1 1 x896002_1) = some (r1, r2, r3) := by first | (rw [hy907]; with_reducible exact H) | (have H2_ := (Option.bind_some _ _).symm.trans H; rw [hy907]; with_reducible exact H2_) | (have H2_ := (Option.bind_some _ _).symm.trans H; with_reducible exact H2_) | with_reducible exact H | (rw [hy907]; exact H) | exact H
               have Ny907 := Aside0.mk hy907
               clear hy907
               have H' := Aside0.mk H
               clear H
               have hnb25 := NB893_894.out
               have hnc25 := NB894_893.out
               have hnb26 := NB893_895.out
               have hnc26 := NB895_893.out
               have hcz27_0 : wr.cell? ⟨gb893, 0, none⟩ = some (.slice A0_0 l0_0.length c0_0) := (blk_cell BK893.out 0).trans rfl
               have hcz27_1 : wr.cell? ⟨gb893, 1, none⟩ = some (.slice A0_1 l0_1.length c0_1) := (blk_cell BK893.out 1).trans rfl
               have hfz27_0 := blk_frozen BK893.out 0
               have hfz27_1 := blk_frozen BK893.out 1
               have p905 : 0 ≤ (x7_1 : Int) := od_
               have q905 : x7_1 < (l0_0.length : Int) := od_
               obtain ⟨ad905, A905_0, c905_0, e905, hx905_0, hl905_0, hi905_0⟩ := at_L1 HR0_0.out x7_1 p905 q905
               cases e905
               replace hx905_0 := (HB.out.cell (World.block_lt_of_cell? w _ hx905_0)).trans hx905_0
               have HR905_0 := Aside0.mk hi905_0
               have HC905_0 := Aside0.mk hl905_0
               clear hi905_0 hl905_0
               replace p905 := eq_true p905
               replace q905 := eq_true q905
               have p906 : 0 ≤ (x10_3 : Int) := od_
               have q906 : x10_3 < ((rd_L1 l0_0 x7_1).length : Int) := od_
               obtain ⟨ad906, e906, hx906_0⟩ := Kd.at_int HR905_0.out x10_3 p906 q906
               cases e906
               replace hx906_0 := (HB.out.cell (World.block_lt_of_cell? w _ hx906_0)).trans hx906_0
               replace p906 := eq_true p906
               replace q906 := eq_true q906
               go_wp2_with (first | ((with_reducible refine gate_builtin (b := .append) (xs := #[.tmp 40, .tmp 50]) rfl ?_); at_builtin; refine Kd.R_append (Kd.int .i64) (w0 := w) w.heap.size rfl (.tmp 40) (.tmp 50) 23 2 (.int .i64 0) 8 rfl Try.underlying23 info2 rfl (by decide) (by omega) u8 x8_3 (wrap64 (-(rd (rd_L1 l0_0 x7_1) x10_3))) [.int .i64 (wrap64 (-(rd (rd_L1 l0_0 x7_1) x10_3)))] (fun k_ => some k_ ≠ (u896002 : Value).ownBlock) (fun _ => False) rfl rfl ?aP (fun _ hk => hk.elim) ?aF ?aO ?aB ?aS ?aL ?_; (case aP => exact rfl); (case aB => exact hb_); (case aF => exact (fun k_ hk => Kd.fresh' (Kd.R_lt (ro_ HO_896002.out)) k_ hk)); (case aO => exact (ro_ HO_8.out)); (case aS => exact bz_); (case aL => have := LMc24.out; omega); intro v908 w28 ho hb hg hat; rw [← Ny907.out] at ho; have n0_ := Aside0.mk (Kd.S_after (ok := (fun k_ => some k_ ≠ (u896002 : Value).ownBlock)) (by (with_reducible repeat (first | apply Kd.S_alloc | apply Kd.S_drewN | apply Kd.S_drew)); exact Kd.S_mono HO_896000.out (fun _ hk => ⟨hk.2, hk.1⟩)) hg hat); have n1_ := Aside0.mk (Kd.R_after (ok := (fun _ => True)) (by (with_reducible repeat (first | apply Kd.R_alloc | apply Kd.R_drewN | apply Kd.R_drew)); exact Kd.R_mono HO_896002.out (fun _ hk => ⟨trivial, hk⟩)) hg hat); have n2_ := Aside0.mk (bg_ BK893.out hg (Kd.R_ne HO_8.out BK893.out (by decide))); have n3_ := Aside0.mk (bg_ BK894.out hg (Kd.R_ne HO_8.out BK894.out (by decide))); have n4_ := Aside0.mk (bg_ BK895.out hg (Kd.R_ne HO_8.out BK895.out (by decide))); have n5_ := Aside0.mk (hb); have n6_ := Aside0.mk (ho); clear HO_896000; clear HO_896002; clear BK893; clear BK894; clear BK895; clear HB; clear HO_8; have HO_896000 := n0_; have HO_896002 := n1_; have BK893 := n2_; have BK894 := n3_; have BK895 := n4_; have HB := n5_; have HO909 := n6_; clear n0_ n1_ n2_ n3_ n4_ n5_ n6_; clear ho hb hg hat))
               go_roundg k3
               case measure => have := HK1.out; have := HK2.out; have := HK3.out; omega
               case rel => exact ⟨(y907), (wrap64 (x10_3 + 1)), rs_, H', ⟨by have := HK1.out; have := HK2.out; have := HK3.out; omega⟩, ⟨ro_ HO909.out⟩, ⟨by (with_reducible repeat (first | apply Kd.S_alloc | apply Kd.S_drewN | apply Kd.S_drew)); exact Kd.S_mono HO_896000.out (fun _ hk => ⟨hk.2, hk.1⟩)⟩, ⟨by (with_reducible repeat (first | apply Kd.R_alloc | apply Kd.R_drewN | apply Kd.R_drew)); exact Kd.R_mono HO_896002.out (fun _ hk => hk.2)⟩, ⟨bk_⟩, ⟨bk_⟩, ⟨bk_⟩, ⟨hb_⟩⟩
              ·rw [if_neg c24] at H
               exact absurd H (by simp)
             ·rw [if_neg c23] at H
              exact absurd H (by simp)
            ·rw [if_neg c22] at H
             exact absurd H (by simp)
           ·rw [if_neg c21] at H
            exact absurd H (by simp)
          ·rw [if_neg c20] at H
           exact absurd H (by simp)
         ·rw [if_neg c19] at H
          have c19b0 : decide (x10_3 < (l0_1.length : Int)) = false := decide_eq_false c19
          clear c19
          by_cases c29 : (l1.length : Int) > 0
          ·rw [if_pos c29] at H
           have c29b0 : decide (0 < (l1.length : Int)) = true := decide_eq_true c29
           have c29b1 : decide (0 < l1.length) = true := decide_eq_true (by omega)
           clear c29
           by_cases c30 : 0 ≤ x7_1
           ·rw [if_pos c30] at H
            have c30b0 : decide (0 ≤ x7_1) = true := decide_eq_true c30
            clear c30
            by_cases c31 : x7_1 < (l1.length : Int)
            ·rw [if_pos c31] at H
             have c31b0 : decide (x7_1 < (l1.length : Int)) = true := decide_eq_true c31
             clear c31
             by_cases c32 : x8_3.length < 17592186044416
             ·rw [if_pos c32] at H
              have LMc32 := Aside0.mk c32
              clear c32
              obtain ⟨y911, hy911⟩ : ∃ y_ : List Int, y_ = (x8_3 ++ [wrap64 (-(rd l1 x7_1))]) := ⟨_, rfl⟩
              replace H : (if x7_1 < (l0_1.length : Int) then (if y911.length < 17592186044416 then (if x896000_1.length < 5864062014805 then (if x896002_1.length < 17592186044416 then (spec_l05Begin.l0 k3 l1 (l0_1.length : Int) (wrap64 (x7_1 + 1)) l0_0 l0_1 (x896000_1 ++ [(y911 ++ [rd l0_1 x7_1])]) 1 (x896002_1 ++ [x7_1])) else (none)) else (none)) else (none)) else (none)) = some (r1, r2, r3) := by first | (rw [hy911]; with_reducible exact H) | (have H2_ := (Option.bind_some _ _).symm.trans H; rw [hy911]; with_reducible exact H2_) | (have H2_ := (Option.bind_some _ _).symm.trans H; with_reducible exact H2_) | with_reducible exact H | (rw [hy911]; exact H) | exact H
              have Ny911 := Aside0.mk hy911
              clear hy911
              by_cases c33 : x7_1 < (l0_1.length : Int)
              ·rw [if_pos c33] at H
               have c33b0 : decide (x7_1 < (l0_1.length : Int)) = true := decide_eq_true c33
               clear c33
               by_cases c34 : y911.length < 17592186044416
               ·rw [if_pos c34] at H
                have LMc34 := Aside0.mk c34
                clear c34
                obtain ⟨y915, hy915⟩ : ∃ y_ : List Int, y_ = (y911 ++ [rd l0_1 x7_1]) := ⟨_, rfl⟩
                replace H : (if x896000_1.length < 5864062014805 then (if x896002_1.length < 17592186044416 then (spec_l05Begin.l0 k3 l1 (l0_1.length : Int) (wrap64 (x7_1 + 1)) l0_0 l0_1 (x896000_1 ++ [y915]) 1 (x896002_1 ++ [x7_1])) else (none)) else (none)) = some (r1, r2, r3) := by first | (rw [hy915]; with_reducible exact H) | (have H2_ := (Option.bind_some _ _).symm.trans H; rw [hy915]; with_reducible exact H2_) | (have H2_ := (Option.bind_some _ _).symm.trans H; with_reducible exact H2_) | with_reducible exact H | (rw [hy915]; exact H) | exact H
                have Ny915 := Aside0.mk hy915
                clear hy915
                by_cases c35 : x896000_1.length < 5864062014805
                ·rw [if_pos c35] at H
                 have LMc35 := Aside0.mk c35
                 clear c35
                 obtain ⟨y918, hy918⟩ : ∃ y_ : List (List Int), y_ = (x896000_1 ++ [y915]) := ⟨_, rfl⟩
                 replace H : (if x896002_1.length < 17592186044416 then (spec_l05Begin.l0 k3 l1 (l0_1.length : Int) (wrap64 (x7_1 + 1)) l0_0 l0_1 y918 1 (x896002_1 ++ [x7_1])) else (none)) = some (r1, r2, r3) := by first | (rw [hy918]; with_reducible exact H) | (have H2_ := (Option.bind_some _ _).symm.trans H; rw [hy918]; with_reducible exact H2_) | (have H2_ := (Option.bind_some _ _).symm.trans H; with_reducible exact H2_) | with_reducible exact H | (rw [hy918]; exact H) | exact H
                 have Ny918 := Aside0.mk hy918
                 clear hy918
                 by_cases c36 : x896002_1.length < 17592186044416
                 ·rw [if_pos c36] at H
                  have LMc36 := Aside0.mk c36
                  clear c36
                  obtain ⟨y921, hy921⟩ : ∃ y_ : List Int, y_ = (x896002_1 ++ [x7_1]) := ⟨_, rfl⟩
                  replace H : (spec_l05Begin.l0 k3 l1 (l0_1.length : Int) (wrap64 (x7_1 + 1)) l0_0 l0_1 y918 1 y921) = some (r1, r2, r3) := by first | (rw [hy921]; with_reducible exact H) | (have H2_ := (Option.bind_some _ _).symm.trans H; rw [hy921]; with_reducible exact H2_) | (have H2_ := (Option.bind_some _ _).symm.trans H; with_reducible exact H2_) | with_reducible exact H | (rw [hy921]; exact H) | exact H
                  have Ny921 := Aside0.mk hy921
                  clear hy921
                  have H' := Aside0.mk H
                  clear H
                  have p910 : 0 ≤ (x7_1 : Int) := od_
                  have q910 : x7_1 < (l1.length : Int) := od_
                  obtain ⟨ad910, e910, hx910_0⟩ := Kd.at_int HR1.out x7_1 p910 q910
                  cases e910
                  replace hx910_0 := (HB.out.cell (World.block_lt_of_cell? w _ hx910_0)).trans hx910_0
                  replace p910 := eq_true p910
                  replace q910 := eq_true q910
                  try go_wp2_with (first | ((with_reducible refine gate_builtin (b := .append) (xs := #[.tmp 55, .tmp 61]) rfl ?_); at_builtin; refine Kd.R_append (Kd.int .i64) (w0 := w) w.heap.size rfl (.tmp 55) (.tmp 61) 23 2 (.int .i64 0) 8 rfl Try.underlying23 info2 rfl (by decide) (by omega) u8 x8_3 (wrap64 (-(rd l1 x7_1))) [.int .i64 (wrap64 (-(rd l1 x7_1)))] (fun k_ => some k_ ≠ (u896002 : Value).ownBlock) (fun _ => False) rfl rfl ?aP (fun _ hk => hk.elim) ?aF ?aO ?aB ?aS ?aL ?_; (case aP => exact rfl); (case aB => exact hb_); (case aF => exact (fun k_ hk => Kd.fresh' (Kd.R_lt (ro_ HO_896002.out)) k_ hk)); (case aO => exact (ro_ HO_8.out)); (case aS => exact bz_); (case aL => have := LMc32.out; omega); intro v912 w37 ho hb hg hat; rw [← Ny911.out] at ho; have n0_ := Aside0.mk (Kd.S_after (ok := (fun k_ => some k_ ≠ (u896002 : Value).ownBlock)) (by (with_reducible repeat (first | apply Kd.S_alloc | apply Kd.S_drewN | apply Kd.S_drew)); exact Kd.S_mono HO_896000.out (fun _ hk => ⟨hk.2, hk.1⟩)) hg hat); have n1_ := Aside0.mk (Kd.R_after (ok := (fun _ => True)) (by (with_reducible repeat (first | apply Kd.R_alloc | apply Kd.R_drewN | apply Kd.R_drew)); exact Kd.R_mono HO_896002.out (fun _ hk => ⟨trivial, hk⟩)) hg hat); have n2_ := Aside0.mk (bg_ BK893.out hg (Kd.R_ne HO_8.out BK893.out (by decide))); have n3_ := Aside0.mk (bg_ BK894.out hg (Kd.R_ne HO_8.out BK894.out (by decide))); have n4_ := Aside0.mk (bg_ BK895.out hg (Kd.R_ne HO_8.out BK895.out (by decide))); have n5_ := Aside0.mk (hb); have n6_ := Aside0.mk (ho); clear HO_896000; clear HO_896002; clear BK893; clear BK894; clear BK895; clear HB; clear HO_8; have HO_896000 := n0_; have HO_896002 := n1_; have BK893 := n2_; have BK894 := n3_; have BK895 := n4_; have HB := n5_; have HO913 := n6_; clear n0_ n1_ n2_ n3_ n4_ n5_ n6_; clear ho hb hg hat))
                  have n0_ := Aside0.mk (Kd.S_drew HO_896000.out)
                  have n1_ := Aside0.mk (Kd.R_drew HO_896002.out)
                  have n2_ := Aside0.mk (Kd.R_drew HO913.out)
                  have n3_ := Aside0.mk (blk_drew BK893.out)
                  have n4_ := Aside0.mk (blk_drew BK894.out)
                  have n5_ := Aside0.mk (blk_drew BK895.out)
                  have n6_ := Aside0.mk (below_drew1 HB.out)
                  clear HO_896000
                  clear HO_896002
                  clear HO913
                  clear BK893
                  clear BK894
                  clear BK895
                  clear HB
                  have HO_896000 := n0_
                  have HO_896002 := n1_
                  have HO913 := n2_
                  have BK893 := n3_
                  have BK894 := n4_
                  have BK895 := n5_
                  have HB := n6_
                  clear n0_ n1_ n2_ n3_ n4_ n5_ n6_
                  have p914 : 0 ≤ (x7_1 : Int) := od_
                  have q914 : x7_1 < (l0_1.length : Int) := od_
                  obtain ⟨ad914, e914, hx914_0⟩ := Kd.at_int HR0_1.out x7_1 p914 q914
                  have hw914_0 := hx914_0
                  cases e914
                  replace hx914_0 := (HB.out.cell (World.block_lt_of_cell? w _ hx914_0)).trans hx914_0
                  replace p914 := eq_true p914
                  replace q914 := eq_true q914
                  refine st_ (n := 14) (S := fun w' => w'.cell? ⟨gb895, 0, none⟩ = some (u896000) ∧ w'.cell? ⟨gb895, 1, none⟩ = some (.int .i64 1) ∧ w'.cell? ⟨gb895, 2, none⟩ = some (u896002) ∧ w'.cell? ⟨gb893, 0, none⟩ = some (.slice A0_0 l0_0.length c0_0) ∧ w'.cell? ⟨gb893, 1, none⟩ = some (.slice (some ad914) l0_1.length c0_1) ∧ w'.cell? (ad914.add (x7_1).toNat) = some (.int .i64 (rd l0_1 x7_1))) (ds := [13]) ⟨(blk_cell BK895.out 0).trans rfl, (blk_cell BK895.out 1).trans rfl, (blk_cell BK895.out 2).trans rfl, (blk_cell BK893.out 0).trans rfl, (blk_cell BK893.out 1).trans rfl, ((HB.out.cell (World.block_lt_of_cell? w _ hw914_0)).trans hw914_0)⟩ (fun hHeld => ?_); refine with_tabW spec_l05Begin.tab18 spec_l05Begin.bits18 (fun HT_ HW_ => ?_)
                  generalize w37.drew = w38 at HO_896000 HO_896002 HO913 BK893 BK894 BK895 HB hx914_0 hHeld ⊢
                  refine pu_ 0 63 ?_; refine pu_ 2 65 ?_; refine pu_ 3 66 ?_; refine pu_ 5 68 ?_; refine tk_ 1 64 ?_; refine tk_ 4 67 ?_; refine pu_ 6 69 ?_; refine tk_ 7 70 ?_
                  refine on_ 8 (some 71) (fun K hK => ?_)
                  refine value_ (w1 := ?_) (v := ?_) (by rfl) rfl ?_ ?_
                  rotate_left 2
                  ·go_simp
                   constructor
                   ·rfl
                   ·rfl
                  refine hK.out _ _ ⟨(blk_cell (blk_alloc BK895.out _) 0).trans rfl, (blk_cell (blk_alloc BK895.out _) 1).trans rfl, (blk_cell (blk_alloc BK895.out _) 2).trans rfl, (blk_cell (blk_alloc BK893.out _) 0).trans rfl, (blk_cell (blk_alloc BK893.out _) 1).trans rfl, (World.cell?_alloc_lt _ _ _ (World.block_lt_of_cell? _ _ (((HB.out.cell (World.block_lt_of_cell? w _ hw914_0)).trans hw914_0)))).trans (((HB.out.cell (World.block_lt_of_cell? w _ hw914_0)).trans hw914_0))⟩ (fun hHeld => ?_)
                  clear hK K
                  refine norm_ (a' := ?_) ?_ ?_
                  rotate_left
                  ·show Act.put _ (some 71) _ = _
                   simp only [Act.put, List.setIfInBounds_toArray, List.set_cons_zero, List.set_cons_succ, i64_w, i32_w]
                   rfl
                  refine on_ 9 (some 72) (fun K hK => ?_)
                  refine Kd.R_append_step (Kd.int .i64) (w0 := w) w.heap.size (by rfl) (.tmp 65) (.tmp 71) 23 2 (.int .i64 0) 8 rfl Try.underlying23 info2 rfl (by decide) (by omega) v912 y911 (rd l0_1 x7_1) [.int .i64 (rd l0_1 x7_1)] (fun k_ => some k_ ≠ (u896002 : Value).ownBlock) (fun _ => False) rfl rfl ?aP (fun _ hk => hk.elim) ?aF ?aO ?aB ?aS ?aL ?_
                  (case aP => exact rfl)
                  (case aB => exact hb_)
                  (case aF => exact (fun k_ hk => Kd.fresh' (Kd.R_lt (ro_ HO_896002.out)) k_ hk))
                  (case aO => exact (ro_ HO913.out))
                  (case aS => exact bz_)
                  (case aL => have := LMc34.out; omega)
                  intro v916 w39 ho hb hg hat
                  rw [← Ny915.out] at ho
                  have n0_ := Aside0.mk (Kd.S_after (ok := (fun k_ => some k_ ≠ (u896002 : Value).ownBlock)) (so_ HO_896000.out) hg hat)
                  have n1_ := Aside0.mk (Kd.R_after (ok := (fun _ => True)) (ro_ HO_896002.out) hg hat)
                  have n2_ := Aside0.mk (bg_ BK893.out hg (Kd.R_ne HO913.out BK893.out (by decide)))
                  have n3_ := Aside0.mk (bg_ BK894.out hg (Kd.R_ne HO913.out BK894.out (by decide)))
                  have n4_ := Aside0.mk (bg_ BK895.out hg (Kd.R_ne HO913.out BK895.out (by decide)))
                  have n5_ := Aside0.mk (hb)
                  have n6_ := Aside0.mk (ho)
                  clear HO_896000
                  clear HO_896002
                  clear BK893
                  clear BK894
                  clear BK895
                  clear HB
                  clear HO913
                  have HO_896000 := n0_
                  have HO_896002 := n1_
                  have BK893 := n2_
                  have BK894 := n3_
                  have BK895 := n4_
                  have HB := n5_
                  have HO917 := n6_
                  clear n0_ n1_ n2_ n3_ n4_ n5_ n6_
                  clear ho hb hg hat
                  obtain ⟨Ao41, co41, eo41⟩ := Kd.R_slice HO917.out
                  (first | subst eo41 | (injection eo41 with f1_ f2_ f3_; have f4_ := f1_.symm; have f5_ := f3_.symm; clear f1_ f2_ f3_; subst f4_; subst f5_))
                  refine hK.out _ _ ⟨(blk_cell BK895.out 0).trans rfl, (blk_cell BK895.out 1).trans rfl, (blk_cell BK895.out 2).trans rfl, (blk_cell BK893.out 0).trans rfl, (blk_cell BK893.out 1).trans rfl, ((HB.out.cell (World.block_lt_of_cell? w _ hw914_0)).trans hw914_0)⟩ (fun hHeld => ?_)
                  clear hK K
                  refine norm_ (a' := ?_) ?_ ?_
                  rotate_left
                  ·show Act.put _ (some 72) _ = _
                   simp only [Act.put, List.setIfInBounds_toArray, List.set_cons_zero, List.set_cons_succ, i64_w, i32_w]
                   rfl
                  refine on_ 10 (some 73) (fun K hK => ?_)
                  refine value_ (w1 := ?_) (v := ?_) (by rfl) rfl ?_ ?_
                  rotate_left 2
                  ·go_simp
                   constructor
                   ·rfl
                   ·rfl
                  refine hK.out _ _ ⟨(blk_cell (blk_alloc BK895.out _) 0).trans rfl, (blk_cell (blk_alloc BK895.out _) 1).trans rfl, (blk_cell (blk_alloc BK895.out _) 2).trans rfl, (blk_cell (blk_alloc BK893.out _) 0).trans rfl, (blk_cell (blk_alloc BK893.out _) 1).trans rfl, (World.cell?_alloc_lt _ _ _ (World.block_lt_of_cell? _ _ (((HB.out.cell (World.block_lt_of_cell? w _ hw914_0)).trans hw914_0)))).trans (((HB.out.cell (World.block_lt_of_cell? w _ hw914_0)).trans hw914_0))⟩ (fun hHeld => ?_)
                  clear hK K
                  refine norm_ (a' := ?_) ?_ ?_
                  rotate_left
                  ·show Act.put _ (some 73) _ = _
                   simp only [Act.put, List.setIfInBounds_toArray, List.set_cons_zero, List.set_cons_succ, i64_w, i32_w]
                   rfl
                  refine on_ 11 (some 74) (fun K hK => ?_)
                  refine Kd.S_append_step (Kd.slice 2 (Kd.int .i64)) (w0 := w) w.heap.size (by rfl) (.tmp 64) (.tmp 73) 22 23 (.slice none 0 0) 24 rfl Try.underlying22 info23 rfl (by decide) (by omega) u896000 x896000_1 y915 [.slice Ao41 y915.length co41] (fun k_ => some k_ ≠ (u896002 : Value).ownBlock) (fun k_ => some k_ = (.slice Ao41 y915.length co41 : Value).ownBlock) rfl rfl ?aP (fun k_ hk_ => ((Kd.R_mono (ok' := fun k_ => ((fun k_ => some k_ ≠ (u896002 : Value).ownBlock)) k_ ∧ some k_ ≠ (u896000 : Value).ownBlock) (Kd.R_apart' (HO917.out) (Kd.S_typed HO_896000.out) (by decide)) (fun k_ hk => ⟨hk.1, hk.2⟩))).1 k_ hk_.symm) ?aF ?aO ?aB ?aS ?aL ?_
                  (case aP => exact Kd.M_row (Kd.R_mono (Kd.R_tight rfl (Kd.R_mono (ok' := fun k_ => ((fun k_ => some k_ ≠ (u896002 : Value).ownBlock)) k_ ∧ some k_ ≠ (u896000 : Value).ownBlock) (Kd.R_apart' (HO917.out) (Kd.S_typed HO_896000.out) (by decide)) (fun k_ hk => ⟨hk.1, hk.2⟩))) (fun _ h_ => h_)))
                  (case aB => exact hb_)
                  (case aF => exact (fun k_ hk => Kd.fresh' (Kd.R_lt (ro_ HO_896002.out)) k_ hk))
                  (case aO => exact (by (with_reducible repeat (first | apply Kd.S_alloc | apply Kd.S_drewN | apply Kd.S_drew)); exact Kd.S_mono HO_896000.out (fun k_ hk => ⟨hk.1, fun e_ => hk.2 e_⟩)))
                  (case aS => exact bz_)
                  (case aL => have := LMc35.out; omega)
                  intro v919 w40 ho hb hg hat
                  rw [← Ny918.out] at ho
                  have n0_ := Aside0.mk (Kd.R_over' (ro_ HO_896002.out) (Kd.S_typed (so_ HO_896000.out)) (by decide) hg)
                  have n1_ := Aside0.mk (bg_ BK893.out hg (Kd.S_ne HO_896000.out BK893.out (by decide)))
                  have n2_ := Aside0.mk (bg_ BK894.out hg (Kd.S_ne HO_896000.out BK894.out (by decide)))
                  have n3_ := Aside0.mk (bg_ BK895.out hg (Kd.S_ne HO_896000.out BK895.out (by decide)))
                  have n4_ := Aside0.mk (hb)
                  have n5_ := Aside0.mk (ho)
                  clear HO_896002
                  clear BK893
                  clear BK894
                  clear BK895
                  clear HB
                  clear HO_896000
                  clear HO917
                  have HO_896002 := n0_
                  have BK893 := n1_
                  have BK894 := n2_
                  have BK895 := n3_
                  have HB := n4_
                  have HO920 := n5_
                  clear n0_ n1_ n2_ n3_ n4_ n5_
                  clear ho hb hg hat
                  obtain ⟨Ao42, co42, eo42⟩ := Kd.S_slice HO920.out
                  (first | subst eo42 | (injection eo42 with f1_ f2_ f3_; have f4_ := f1_.symm; have f5_ := f3_.symm; clear f1_ f2_ f3_; subst f4_; subst f5_))
                  refine hK.out _ _ ⟨(blk_cell BK895.out 0).trans rfl, (blk_cell BK895.out 1).trans rfl, (blk_cell BK895.out 2).trans rfl, (blk_cell BK893.out 0).trans rfl, (blk_cell BK893.out 1).trans rfl, ((HB.out.cell (World.block_lt_of_cell? w _ hw914_0)).trans hw914_0)⟩ (fun hHeld => ?_)
                  clear hK K
                  refine norm_ (a' := ?_) ?_ ?_
                  rotate_left
                  ·show Act.put _ (some 74) _ = _
                   simp only [Act.put, List.setIfInBounds_toArray, List.set_cons_zero, List.set_cons_succ, i64_w, i32_w]
                   rfl
                  refine pu_ 12 75 ?_
                  refine la_ 13 none (fun K hK => ?_)
                  have hs43 : w40.cell? ⟨gb895, 0, none⟩ = some (u896000) := (blk_cell BK895.out 0).trans rfl
                  have hfs43 := blk_frozen BK895.out 0
                  have hns43_0 := NB893_895.out
                  have hns43_1 := NB894_895.out
                  have hms43_0 := NB895_893.out
                  have hms43_1 := NB895_894.out
                  refine skip_ (w1 := ?_) (by rfl) rfl ?_ ?_
                  rotate_left
                  ·go_simp
                   rfl
                  refine hK.out _ _ ?_
                  clear hK K
                  refine done_ (done_of HT_.out (by kernel_rfl)) ?_
                  have hnb44 := NB895_893.out
                  have hnc44 := NB893_895.out
                  have hnb45 := NB895_894.out
                  have hnc45 := NB894_895.out
                  have hcz46_0 : w40.cell? ⟨gb895, 0, none⟩ = some (u896000) := (blk_cell BK895.out 0).trans rfl
                  have hcz46_1 : w40.cell? ⟨gb895, 1, none⟩ = some (.int .i64 1) := (blk_cell BK895.out 1).trans rfl
                  have hcz46_2 : w40.cell? ⟨gb895, 2, none⟩ = some (u896002) := (blk_cell BK895.out 2).trans rfl
                  have hfz46_0 := blk_frozen BK895.out 0
                  have hfz46_1 := blk_frozen BK895.out 1
                  have hfz46_2 := blk_frozen BK895.out 2
                  try go_wp2_with (first | ((with_reducible refine gate_builtin (b := .append) (xs := #[.tmp 77, .tmp 79]) rfl ?_); at_builtin; refine Kd.R_append (Kd.int .i64) (w0 := w) w.heap.size rfl (.tmp 77) (.tmp 79) 23 2 (.int .i64 0) 8 rfl Try.underlying23 info2 rfl (by decide) (by omega) u896002 x896002_1 x7_1 [.int .i64 x7_1] (fun _ => True) (fun _ => False) rfl (by first | (go_simp; done) | (go_simp; rfl)) ?aP (fun _ hk => hk.elim) ?aF ?aO ?aB ?aS ?aL ?_; (case aP => exact rfl); (case aB => exact hb_); (case aF => exact (fun _ _ => trivial)); (case aO => exact (by (with_reducible repeat (first | apply Kd.R_alloc | apply Kd.R_drewN | apply Kd.R_drew)); exact Kd.R_mono (Kd.R_far (p := ⟨gb895, 0, none⟩) (Kd.R_types HO_896002.out BK895.out (by decide)) (fun _ hk => hk.2) (.slice Ao42 y918.length co42)) (fun _ hk => trivial))); (case aS => exact bz_); (case aL => have := LMc36.out; omega); intro v922 w47 ho hb hg hat; rw [← Ny921.out] at ho; have n0_ := Aside0.mk (blk_grown (g := gb893) (o := .cells #[.slice A0_0 l0_0.length c0_0, .slice (some ad914) l0_1.length c0_1] 29 (0, 0)) (by (with_reducible repeat (first | refine blk_drewN ?_ _ | refine blk_drew ?_ | refine blk_alloc ?_ _)); refine blk_far ?_ NB893_895.out _; (with_reducible repeat (first | refine blk_drewN ?_ _ | refine blk_drew ?_ | refine blk_alloc ?_ _)); exact BK893.out) hg (Kd.R_ne HO_896002.out BK893.out (by decide))); have n1_ := Aside0.mk (blk_grown (g := gb894) (o := .cells #[.slice none 0 0, .int .i64 0, .slice none 0 0] 101 (0, 0)) (by (with_reducible repeat (first | refine blk_drewN ?_ _ | refine blk_drew ?_ | refine blk_alloc ?_ _)); refine blk_far ?_ NB894_895.out _; (with_reducible repeat (first | refine blk_drewN ?_ _ | refine blk_drew ?_ | refine blk_alloc ?_ _)); exact BK894.out) hg (Kd.R_ne HO_896002.out BK894.out (by decide))); have n2_ := Aside0.mk (blk_grown (g := gb895) (o := .cells #[.slice Ao42 y918.length co42, .int .i64 1, u896002] 101 (0, 0)) (by (with_reducible repeat (first | refine blk_drewN ?_ _ | refine blk_drew ?_ | refine blk_alloc ?_ _)); refine blk_put (cs := #[u896000, .int .i64 1, u896002]) ?_ 0 _ rfl; (with_reducible repeat (first | refine blk_drewN ?_ _ | refine blk_drew ?_ | refine blk_alloc ?_ _)); exact BK895.out) hg (Kd.R_ne HO_896002.out BK895.out (by decide))); have n3_ := Aside0.mk (Kd.S_after (ok := (fun _ => True)) (by (with_reducible repeat (first | apply Kd.S_alloc | apply Kd.S_drewN | apply Kd.S_drew)); exact Kd.S_mono (Kd.S_far (p := ⟨gb895, 0, none⟩) (Kd.S_types HO920.out BK895.out (by decide)) (fun _ hk => hk.2) (.slice Ao42 y918.length co42)) (fun _ hk => ⟨trivial, hk.1⟩)) hg hat); have n4_ := Aside0.mk (hb); have n5_ := Aside0.mk (ho); clear BK893; clear BK894; clear BK895; clear HO920; clear HB; clear HO_896002; have BK893 := n0_; have BK894 := n1_; have BK895 := n2_; have HO920 := n3_; have HB := n4_; have HO923 := n5_; clear n0_ n1_ n2_ n3_ n4_ n5_; clear ho hb hg hat; obtain ⟨Ao48, co48, eo48⟩ := Kd.R_slice HO923.out; subst eo48; have hcz49_0 : w47.cell? ⟨gb895, 0, none⟩ = some (.slice Ao42 y918.length co42) := (blk_cell BK895.out 0).trans rfl; have hcz49_1 : w47.cell? ⟨gb895, 1, none⟩ = some (.int .i64 1) := (blk_cell BK895.out 1).trans rfl; have hcz49_2 : w47.cell? ⟨gb895, 2, none⟩ = some (u896002) := (blk_cell BK895.out 2).trans rfl; have hfz49_0 := blk_frozen BK895.out 0; have hfz49_1 := blk_frozen BK895.out 1; have hfz49_2 := blk_frozen BK895.out 2))
                  go_roundg k3
                  case measure => have := HK1.out; have := HK2.out; have := HK3.out; omega
                  case rel => exact ⟨(wrap64 (x7_1 + 1)), (y918), (y921), (.slice Ao42 y918.length co42), (.slice Ao48 y921.length co48), rs_, H', ⟨by have := HK1.out; have := HK2.out; have := HK3.out; omega⟩, ⟨by (with_reducible repeat (first | apply Kd.S_alloc | apply Kd.S_drewN | apply Kd.S_drew)); exact Kd.S_mono (Kd.S_far (p := ⟨gb895, 2, none⟩) (Kd.S_types HO920.out BK895.out (by decide)) (fun _ hk => hk.2) (.slice Ao48 y921.length co48)) (fun _ hk => hk.1.2)⟩, ⟨by (with_reducible repeat (first | apply Kd.R_alloc | apply Kd.R_drewN | apply Kd.R_drew)); exact Kd.R_mono (Kd.R_far (p := ⟨gb895, 2, none⟩) (Kd.R_types HO923.out BK895.out (by decide)) (fun _ hk => hk.2) (.slice Ao48 y921.length co48)) (fun _ hk => trivial)⟩, ⟨by (with_reducible repeat (first | refine blk_drewN ?_ _ | refine blk_drew ?_ | refine blk_alloc ?_ _)); refine blk_far ?_ NB893_895.out _; (with_reducible repeat (first | refine blk_drewN ?_ _ | refine blk_drew ?_ | refine blk_alloc ?_ _)); exact BK893.out⟩, ⟨by (with_reducible repeat (first | refine blk_drewN ?_ _ | refine blk_drew ?_ | refine blk_alloc ?_ _)); refine blk_far ?_ NB894_895.out _; (with_reducible repeat (first | refine blk_drewN ?_ _ | refine blk_drew ?_ | refine blk_alloc ?_ _)); exact BK894.out⟩, ⟨by (with_reducible repeat (first | refine blk_drewN ?_ _ | refine blk_drew ?_ | refine blk_alloc ?_ _)); refine blk_put (cs := #[.slice Ao42 y918.length co42, .int .i64 1, u896002]) ?_ 2 _ rfl; (with_reducible repeat (first | refine blk_drewN ?_ _ | refine blk_drew ?_ | refine blk_alloc ?_ _)); exact BK895.out⟩, ⟨hb_⟩⟩
                 ·rw [if_neg c36] at H
                  exact absurd H (by simp)
                ·rw [if_neg c35] at H
                 exact absurd H (by simp)
               ·rw [if_neg c34] at H
                exact absurd H (by simp)
              ·rw [if_neg c33] at H
               exact absurd H (by simp)
             ·rw [if_neg c32] at H
              exact absurd H (by simp)
            ·rw [if_neg c31] at H
             exact absurd H (by simp)
           ·rw [if_neg c30] at H
            exact absurd H (by simp)
          ·rw [if_neg c29] at H
           have c29b0 : decide (0 < (l1.length : Int)) = false := decide_eq_false c29
           have c29b1 : decide (0 < l1.length) = false := decide_eq_false (by omega)
           clear c29
           by_cases c50 : 0 ≤ x7_1
           ·rw [if_pos c50] at H
            have c50b0 : decide (0 ≤ x7_1) = true := decide_eq_true c50
            clear c50
            by_cases c51 : x7_1 < (l0_1.length : Int)
            ·rw [if_pos c51] at H
             have c51b0 : decide (x7_1 < (l0_1.length : Int)) = true := decide_eq_true c51
             clear c51
             by_cases c52 : x8_3.length < 17592186044416
             ·rw [if_pos c52] at H
              have LMc52 := Aside0.mk c52
              clear c52
              obtain ⟨y925, hy925⟩ : ∃ y_ : List Int, y_ = (x8_3 ++ [rd l0_1 x7_1]) := ⟨_, rfl⟩
              replace H : (if x896000_1.length < 5864062014805 then (if x896002_1.length < 17592186044416 then (spec_l05Begin.l0 k3 l1 (l0_1.length : Int) (wrap64 (x7_1 + 1)) l0_0 l0_1 (x896000_1 ++ [y925]) 1 (x896002_1 ++ [x7_1])) else (none)) else (none)) = some (r1, r2, r3) := by first | (rw [hy925]; with_reducible exact H) | (have H2_ := (Option.bind_some _ _).symm.trans H; rw [hy925]; with_reducible exact H2_) | (have H2_ := (Option.bind_some _ _).symm.trans H; with_reducible exact H2_) | with_reducible exact H | (rw [hy925]; exact H) | exact H
              have Ny925 := Aside0.mk hy925
              clear hy925
              by_cases c53 : x896000_1.length < 5864062014805
              ·rw [if_pos c53] at H
               have LMc53 := Aside0.mk c53
               clear c53
               obtain ⟨y928, hy928⟩ : ∃ y_ : List (List Int), y_ = (x896000_1 ++ [y925]) := ⟨_, rfl⟩
               replace H : (if x896002_1.length < 17592186044416 then (spec_l05Begin.l0 k3 l1 (l0_1.length : Int) (wrap64 (x7_1 + 1)) l0_0 l0_1 y928 1 (x896002_1 ++ [x7_1])) else (none)) = some (r1, r2, r3) := by first | (rw [hy928]; with_reducible exact H) | (have H2_ := (Option.bind_some _ _).symm.trans H; rw [hy928]; with_reducible exact H2_) | (have H2_ := (Option.bind_some _ _).symm.trans H; with_reducible exact H2_) | with_reducible exact H | (rw [hy928]; exact H) | exact H
               have Ny928 := Aside0.mk hy928
               clear hy928
               by_cases c54 : x896002_1.length < 17592186044416
               ·rw [if_pos c54] at H
                have LMc54 := Aside0.mk c54
                clear c54
                obtain ⟨y931, hy931⟩ : ∃ y_ : List Int, y_ = (x896002_1 ++ [x7_1]) := ⟨_, rfl⟩
                replace H : (spec_l05Begin.l0 k3 l1 (l0_1.length : Int) (wrap64 (x7_1 + 1)) l0_0 l0_1 y928 1 y931) = some (r1, r2, r3) := by first | (rw [hy931]; with_reducible exact H) | (have H2_ := (Option.bind_some _ _).symm.trans H; rw [hy931]; with_reducible exact H2_) | (have H2_ := (Option.bind_some _ _).symm.trans H; with_reducible exact H2_) | with_reducible exact H | (rw [hy931]; exact H) | exact H
                have Ny931 := Aside0.mk hy931
                clear hy931
                have H' := Aside0.mk H
                clear H
                try go_wp2
                have n0_ := Aside0.mk (Kd.R_drew HO_8.out)
                have n1_ := Aside0.mk (Kd.S_drew HO_896000.out)
                have n2_ := Aside0.mk (Kd.R_drew HO_896002.out)
                have n3_ := Aside0.mk (blk_drew BK893.out)
                have n4_ := Aside0.mk (blk_drew BK894.out)
                have n5_ := Aside0.mk (blk_drew BK895.out)
                have n6_ := Aside0.mk (below_drew1 HB.out)
                clear HO_8
                clear HO_896000
                clear HO_896002
                clear BK893
                clear BK894
                clear BK895
                clear HB
                have HO_8 := n0_
                have HO_896000 := n1_
                have HO_896002 := n2_
                have BK893 := n3_
                have BK894 := n4_
                have BK895 := n5_
                have HB := n6_
                clear n0_ n1_ n2_ n3_ n4_ n5_ n6_
                have p924 : 0 ≤ (x7_1 : Int) := od_
                have q924 : x7_1 < (l0_1.length : Int) := od_
                obtain ⟨ad924, e924, hx924_0⟩ := Kd.at_int HR0_1.out x7_1 p924 q924
                have hw924_0 := hx924_0
                cases e924
                replace hx924_0 := (HB.out.cell (World.block_lt_of_cell? w _ hx924_0)).trans hx924_0
                replace p924 := eq_true p924
                replace q924 := eq_true q924
                refine st_ (n := 14) (S := fun w' => w'.cell? ⟨gb895, 0, none⟩ = some (u896000) ∧ w'.cell? ⟨gb895, 1, none⟩ = some (.int .i64 1) ∧ w'.cell? ⟨gb895, 2, none⟩ = some (u896002) ∧ w'.cell? ⟨gb893, 0, none⟩ = some (.slice A0_0 l0_0.length c0_0) ∧ w'.cell? ⟨gb893, 1, none⟩ = some (.slice (some ad924) l0_1.length c0_1) ∧ w'.cell? (ad924.add (x7_1).toNat) = some (.int .i64 (rd l0_1 x7_1))) (ds := [13]) ⟨(blk_cell BK895.out 0).trans rfl, (blk_cell BK895.out 1).trans rfl, (blk_cell BK895.out 2).trans rfl, (blk_cell BK893.out 0).trans rfl, (blk_cell BK893.out 1).trans rfl, ((HB.out.cell (World.block_lt_of_cell? w _ hw924_0)).trans hw924_0)⟩ (fun hHeld => ?_); refine with_tabW spec_l05Begin.tab18 spec_l05Begin.bits18 (fun HT_ HW_ => ?_)
                generalize wr.drew = w55 at HO_8 HO_896000 HO_896002 BK893 BK894 BK895 HB hx924_0 hHeld ⊢
                refine pu_ 0 63 ?_; refine pu_ 2 65 ?_; refine pu_ 3 66 ?_; refine pu_ 5 68 ?_; refine tk_ 1 64 ?_; refine tk_ 4 67 ?_; refine pu_ 6 69 ?_; refine tk_ 7 70 ?_
                refine on_ 8 (some 71) (fun K hK => ?_)
                refine value_ (w1 := ?_) (v := ?_) (by rfl) rfl ?_ ?_
                rotate_left 2
                ·go_simp
                 constructor
                 ·rfl
                 ·rfl
                refine hK.out _ _ ⟨(blk_cell (blk_alloc BK895.out _) 0).trans rfl, (blk_cell (blk_alloc BK895.out _) 1).trans rfl, (blk_cell (blk_alloc BK895.out _) 2).trans rfl, (blk_cell (blk_alloc BK893.out _) 0).trans rfl, (blk_cell (blk_alloc BK893.out _) 1).trans rfl, (World.cell?_alloc_lt _ _ _ (World.block_lt_of_cell? _ _ (((HB.out.cell (World.block_lt_of_cell? w _ hw924_0)).trans hw924_0)))).trans (((HB.out.cell (World.block_lt_of_cell? w _ hw924_0)).trans hw924_0))⟩ (fun hHeld => ?_)
                clear hK K
                refine norm_ (a' := ?_) ?_ ?_
                rotate_left
                ·show Act.put _ (some 71) _ = _
                 simp only [Act.put, List.setIfInBounds_toArray, List.set_cons_zero, List.set_cons_succ, i64_w, i32_w]
                 rfl
                refine on_ 9 (some 72) (fun K hK => ?_)
                refine Kd.R_append_step (Kd.int .i64) (w0 := w) w.heap.size (by rfl) (.tmp 65) (.tmp 71) 23 2 (.int .i64 0) 8 rfl Try.underlying23 info2 rfl (by decide) (by omega) u8 x8_3 (rd l0_1 x7_1) [.int .i64 (rd l0_1 x7_1)] (fun k_ => some k_ ≠ (u896002 : Value).ownBlock) (fun _ => False) rfl rfl ?aP (fun _ hk => hk.elim) ?aF ?aO ?aB ?aS ?aL ?_
                (case aP => exact rfl)
                (case aB => exact hb_)
                (case aF => exact (fun k_ hk => Kd.fresh' (Kd.R_lt (ro_ HO_896002.out)) k_ hk))
                (case aO => exact (ro_ HO_8.out))
                (case aS => exact bz_)
                (case aL => have := LMc52.out; omega)
                intro v926 w56 ho hb hg hat
                rw [← Ny925.out] at ho
                have n0_ := Aside0.mk (Kd.S_after (ok := (fun k_ => some k_ ≠ (u896002 : Value).ownBlock)) (by (with_reducible repeat (first | apply Kd.S_alloc | apply Kd.S_drewN | apply Kd.S_drew)); exact Kd.S_mono HO_896000.out (fun _ hk => ⟨hk.2, hk.1⟩)) hg hat)
                have n1_ := Aside0.mk (Kd.R_after (ok := (fun _ => True)) (by (with_reducible repeat (first | apply Kd.R_alloc | apply Kd.R_drewN | apply Kd.R_drew)); exact Kd.R_mono HO_896002.out (fun _ hk => ⟨trivial, hk⟩)) hg hat)
                have n2_ := Aside0.mk (bg_ BK893.out hg (Kd.R_ne HO_8.out BK893.out (by decide)))
                have n3_ := Aside0.mk (bg_ BK894.out hg (Kd.R_ne HO_8.out BK894.out (by decide)))
                have n4_ := Aside0.mk (bg_ BK895.out hg (Kd.R_ne HO_8.out BK895.out (by decide)))
                have n5_ := Aside0.mk (hb)
                have n6_ := Aside0.mk (ho)
                clear HO_896000
                clear HO_896002
                clear BK893
                clear BK894
                clear BK895
                clear HB
                clear HO_8
                have HO_896000 := n0_
                have HO_896002 := n1_
                have BK893 := n2_
                have BK894 := n3_
                have BK895 := n4_
                have HB := n5_
                have HO927 := n6_
                clear n0_ n1_ n2_ n3_ n4_ n5_ n6_
                clear ho hb hg hat
                obtain ⟨Ao58, co58, eo58⟩ := Kd.R_slice HO927.out
                (first | subst eo58 | (injection eo58 with f1_ f2_ f3_; have f4_ := f1_.symm; have f5_ := f3_.symm; clear f1_ f2_ f3_; subst f4_; subst f5_))
                refine hK.out _ _ ⟨(blk_cell BK895.out 0).trans rfl, (blk_cell BK895.out 1).trans rfl, (blk_cell BK895.out 2).trans rfl, (blk_cell BK893.out 0).trans rfl, (blk_cell BK893.out 1).trans rfl, ((HB.out.cell (World.block_lt_of_cell? w _ hw924_0)).trans hw924_0)⟩ (fun hHeld => ?_)
                clear hK K
                refine norm_ (a' := ?_) ?_ ?_
                rotate_left
                ·show Act.put _ (some 72) _ = _
                 simp only [Act.put, List.setIfInBounds_toArray, List.set_cons_zero, List.set_cons_succ, i64_w, i32_w]
                 rfl
                refine on_ 10 (some 73) (fun K hK => ?_)
                refine value_ (w1 := ?_) (v := ?_) (by rfl) rfl ?_ ?_
                rotate_left 2
                ·go_simp
                 constructor
                 ·rfl
                 ·rfl
                refine hK.out _ _ ⟨(blk_cell (blk_alloc BK895.out _) 0).trans rfl, (blk_cell (blk_alloc BK895.out _) 1).trans rfl, (blk_cell (blk_alloc BK895.out _) 2).trans rfl, (blk_cell (blk_alloc BK893.out _) 0).trans rfl, (blk_cell (blk_alloc BK893.out _) 1).trans rfl, (World.cell?_alloc_lt _ _ _ (World.block_lt_of_cell? _ _ (((HB.out.cell (World.block_lt_of_cell? w _ hw924_0)).trans hw924_0)))).trans (((HB.out.cell (World.block_lt_of_cell? w _ hw924_0)).trans hw924_0))⟩ (fun hHeld => ?_)
                clear hK K
                refine norm_ (a' := ?_) ?_ ?_
                rotate_left
                ·show Act.put _ (some 73) _ = _
                 simp only [Act.put, List.setIfInBounds_toArray, List.set_cons_zero, List.set_cons_succ, i64_w, i32_w]
                 rfl
                refine on_ 11 (some 74) (fun K hK => ?_)
                refine Kd.S_append_step (Kd.slice 2 (Kd.int .i64)) (w0 := w) w.heap.size (by rfl) (.tmp 64) (.tmp 73) 22 23 (.slice none 0 0) 24 rfl Try.underlying22 info23 rfl (by decide) (by omega) u896000 x896000_1 y925 [.slice Ao58 y925.length co58] (fun k_ => some k_ ≠ (u896002 : Value).ownBlock) (fun k_ => some k_ = (.slice Ao58 y925.length co58 : Value).ownBlock) rfl rfl ?aP (fun k_ hk_ => ((Kd.R_mono (ok' := fun k_ => ((fun k_ => some k_ ≠ (u896002 : Value).ownBlock)) k_ ∧ some k_ ≠ (u896000 : Value).ownBlock) (Kd.R_apart' (HO927.out) (Kd.S_typed HO_896000.out) (by decide)) (fun k_ hk => ⟨hk.1, hk.2⟩))).1 k_ hk_.symm) ?aF ?aO ?aB ?aS ?aL ?_
                (case aP => exact Kd.M_row (Kd.R_mono (Kd.R_tight rfl (Kd.R_mono (ok' := fun k_ => ((fun k_ => some k_ ≠ (u896002 : Value).ownBlock)) k_ ∧ some k_ ≠ (u896000 : Value).ownBlock) (Kd.R_apart' (HO927.out) (Kd.S_typed HO_896000.out) (by decide)) (fun k_ hk => ⟨hk.1, hk.2⟩))) (fun _ h_ => h_)))
                (case aB => exact hb_)
                (case aF => exact (fun k_ hk => Kd.fresh' (Kd.R_lt (ro_ HO_896002.out)) k_ hk))
                (case aO => exact (by (with_reducible repeat (first | apply Kd.S_alloc | apply Kd.S_drewN | apply Kd.S_drew)); exact Kd.S_mono HO_896000.out (fun k_ hk => ⟨hk.1, fun e_ => hk.2 e_⟩)))
                (case aS => exact bz_)
                (case aL => have := LMc53.out; omega)
                intro v929 w57 ho hb hg hat
                rw [← Ny928.out] at ho
                have n0_ := Aside0.mk (Kd.R_over' (ro_ HO_896002.out) (Kd.S_typed (so_ HO_896000.out)) (by decide) hg)
                have n1_ := Aside0.mk (bg_ BK893.out hg (Kd.S_ne HO_896000.out BK893.out (by decide)))
                have n2_ := Aside0.mk (bg_ BK894.out hg (Kd.S_ne HO_896000.out BK894.out (by decide)))
                have n3_ := Aside0.mk (bg_ BK895.out hg (Kd.S_ne HO_896000.out BK895.out (by decide)))
                have n4_ := Aside0.mk (hb)
                have n5_ := Aside0.mk (ho)
                clear HO_896002
                clear BK893
                clear BK894
                clear BK895
                clear HB
                clear HO_896000
                clear HO927
                have HO_896002 := n0_
                have BK893 := n1_
                have BK894 := n2_
                have BK895 := n3_
                have HB := n4_
                have HO930 := n5_
                clear n0_ n1_ n2_ n3_ n4_ n5_
                clear ho hb hg hat
                obtain ⟨Ao59, co59, eo59⟩ := Kd.S_slice HO930.out
                (first | subst eo59 | (injection eo59 with f1_ f2_ f3_; have f4_ := f1_.symm; have f5_ := f3_.symm; clear f1_ f2_ f3_; subst f4_; subst f5_))
                refine hK.out _ _ ⟨(blk_cell BK895.out 0).trans rfl, (blk_cell BK895.out 1).trans rfl, (blk_cell BK895.out 2).trans rfl, (blk_cell BK893.out 0).trans rfl, (blk_cell BK893.out 1).trans rfl, ((HB.out.cell (World.block_lt_of_cell? w _ hw924_0)).trans hw924_0)⟩ (fun hHeld => ?_)
                clear hK K
                refine norm_ (a' := ?_) ?_ ?_
                rotate_left
                ·show Act.put _ (some 74) _ = _
                 simp only [Act.put, List.setIfInBounds_toArray, List.set_cons_zero, List.set_cons_succ, i64_w, i32_w]
                 rfl
                refine pu_ 12 75 ?_
                refine la_ 13 none (fun K hK => ?_)
                have hs60 : w57.cell? ⟨gb895, 0, none⟩ = some (u896000) := (blk_cell BK895.out 0).trans rfl
                have hfs60 := blk_frozen BK895.out 0
                have hns60_0 := NB893_895.out
                have hns60_1 := NB894_895.out
                have hms60_0 := NB895_893.out
                have hms60_1 := NB895_894.out
                refine skip_ (w1 := ?_) (by rfl) rfl ?_ ?_
                rotate_left
                ·go_simp
                 rfl
                refine hK.out _ _ ?_
                clear hK K
                refine done_ (done_of HT_.out (by kernel_rfl)) ?_
                have hnb61 := NB895_893.out
                have hnc61 := NB893_895.out
                have hnb62 := NB895_894.out
                have hnc62 := NB894_895.out
                have hcz63_0 : w57.cell? ⟨gb895, 0, none⟩ = some (u896000) := (blk_cell BK895.out 0).trans rfl
                have hcz63_1 : w57.cell? ⟨gb895, 1, none⟩ = some (.int .i64 1) := (blk_cell BK895.out 1).trans rfl
                have hcz63_2 : w57.cell? ⟨gb895, 2, none⟩ = some (u896002) := (blk_cell BK895.out 2).trans rfl
                have hfz63_0 := blk_frozen BK895.out 0
                have hfz63_1 := blk_frozen BK895.out 1
                have hfz63_2 := blk_frozen BK895.out 2
                try go_wp2_with (first | ((with_reducible refine gate_builtin (b := .append) (xs := #[.tmp 77, .tmp 79]) rfl ?_); at_builtin; refine Kd.R_append (Kd.int .i64) (w0 := w) w.heap.size rfl (.tmp 77) (.tmp 79) 23 2 (.int .i64 0) 8 rfl Try.underlying23 info2 rfl (by decide) (by omega) u896002 x896002_1 x7_1 [.int .i64 x7_1] (fun _ => True) (fun _ => False) rfl (by first | (go_simp; done) | (go_simp; rfl)) ?aP (fun _ hk => hk.elim) ?aF ?aO ?aB ?aS ?aL ?_; (case aP => exact rfl); (case aB => exact hb_); (case aF => exact (fun _ _ => trivial)); (case aO => exact (by (with_reducible repeat (first | apply Kd.R_alloc | apply Kd.R_drewN | apply Kd.R_drew)); exact Kd.R_mono (Kd.R_far (p := ⟨gb895, 0, none⟩) (Kd.R_types HO_896002.out BK895.out (by decide)) (fun _ hk => hk.2) (.slice Ao59 y928.length co59)) (fun _ hk => trivial))); (case aS => exact bz_); (case aL => have := LMc54.out; omega); intro v932 w64 ho hb hg hat; rw [← Ny931.out] at ho; have n0_ := Aside0.mk (blk_grown (g := gb893) (o := .cells #[.slice A0_0 l0_0.length c0_0, .slice (some ad924) l0_1.length c0_1] 29 (0, 0)) (by (with_reducible repeat (first | refine blk_drewN ?_ _ | refine blk_drew ?_ | refine blk_alloc ?_ _)); refine blk_far ?_ NB893_895.out _; (with_reducible repeat (first | refine blk_drewN ?_ _ | refine blk_drew ?_ | refine blk_alloc ?_ _)); exact BK893.out) hg (Kd.R_ne HO_896002.out BK893.out (by decide))); have n1_ := Aside0.mk (blk_grown (g := gb894) (o := .cells #[.slice none 0 0, .int .i64 0, .slice none 0 0] 101 (0, 0)) (by (with_reducible repeat (first | refine blk_drewN ?_ _ | refine blk_drew ?_ | refine blk_alloc ?_ _)); refine blk_far ?_ NB894_895.out _; (with_reducible repeat (first | refine blk_drewN ?_ _ | refine blk_drew ?_ | refine blk_alloc ?_ _)); exact BK894.out) hg (Kd.R_ne HO_896002.out BK894.out (by decide))); have n2_ := Aside0.mk (blk_grown (g := gb895) (o := .cells #[.slice Ao59 y928.length co59, .int .i64 1, u896002] 101 (0, 0)) (by (with_reducible repeat (first | refine blk_drewN ?_ _ | refine blk_drew ?_ | refine blk_alloc ?_ _)); refine blk_put (cs := #[u896000, .int .i64 1, u896002]) ?_ 0 _ rfl; (with_reducible repeat (first | refine blk_drewN ?_ _ | refine blk_drew ?_ | refine blk_alloc ?_ _)); exact BK895.out) hg (Kd.R_ne HO_896002.out BK895.out (by decide))); have n3_ := Aside0.mk (Kd.S_after (ok := (fun _ => True)) (by (with_reducible repeat (first | apply Kd.S_alloc | apply Kd.S_drewN | apply Kd.S_drew)); exact Kd.S_mono (Kd.S_far (p := ⟨gb895, 0, none⟩) (Kd.S_types HO930.out BK895.out (by decide)) (fun _ hk => hk.2) (.slice Ao59 y928.length co59)) (fun _ hk => ⟨trivial, hk.1⟩)) hg hat); have n4_ := Aside0.mk (hb); have n5_ := Aside0.mk (ho); clear BK893; clear BK894; clear BK895; clear HO930; clear HB; clear HO_896002; have BK893 := n0_; have BK894 := n1_; have BK895 := n2_; have HO930 := n3_; have HB := n4_; have HO933 := n5_; clear n0_ n1_ n2_ n3_ n4_ n5_; clear ho hb hg hat; obtain ⟨Ao65, co65, eo65⟩ := Kd.R_slice HO933.out; subst eo65; have hcz66_0 : w64.cell? ⟨gb895, 0, none⟩ = some (.slice Ao59 y928.length co59) := (blk_cell BK895.out 0).trans rfl; have hcz66_1 : w64.cell? ⟨gb895, 1, none⟩ = some (.int .i64 1) := (blk_cell BK895.out 1).trans rfl; have hcz66_2 : w64.cell? ⟨gb895, 2, none⟩ = some (u896002) := (blk_cell BK895.out 2).trans rfl; have hfz66_0 := blk_frozen BK895.out 0; have hfz66_1 := blk_frozen BK895.out 1; have hfz66_2 := blk_frozen BK895.out 2))
                go_roundg k3
                case measure => have := HK1.out; have := HK2.out; have := HK3.out; omega
                case rel => exact ⟨(wrap64 (x7_1 + 1)), (y928), (y931), (.slice Ao59 y928.length co59), (.slice Ao65 y931.length co65), rs_, H', ⟨by have := HK1.out; have := HK2.out; have := HK3.out; omega⟩, ⟨by (with_reducible repeat (first | apply Kd.S_alloc | apply Kd.S_drewN | apply Kd.S_drew)); exact Kd.S_mono (Kd.S_far (p := ⟨gb895, 2, none⟩) (Kd.S_types HO930.out BK895.out (by decide)) (fun _ hk => hk.2) (.slice Ao65 y931.length co65)) (fun _ hk => hk.1.2)⟩, ⟨by (with_reducible repeat (first | apply Kd.R_alloc | apply Kd.R_drewN | apply Kd.R_drew)); exact Kd.R_mono (Kd.R_far (p := ⟨gb895, 2, none⟩) (Kd.R_types HO933.out BK895.out (by decide)) (fun _ hk => hk.2) (.slice Ao65 y931.length co65)) (fun _ hk => trivial)⟩, ⟨by (with_reducible repeat (first | refine blk_drewN ?_ _ | refine blk_drew ?_ | refine blk_alloc ?_ _)); refine blk_far ?_ NB893_895.out _; (with_reducible repeat (first | refine blk_drewN ?_ _ | refine blk_drew ?_ | refine blk_alloc ?_ _)); exact BK893.out⟩, ⟨by (with_reducible repeat (first | refine blk_drewN ?_ _ | refine blk_drew ?_ | refine blk_alloc ?_ _)); refine blk_far ?_ NB894_895.out _; (with_reducible repeat (first | refine blk_drewN ?_ _ | refine blk_drew ?_ | refine blk_alloc ?_ _)); exact BK894.out⟩, ⟨by (with_reducible repeat (first | refine blk_drewN ?_ _ | refine blk_drew ?_ | refine blk_alloc ?_ _)); refine blk_put (cs := #[.slice Ao59 y928.length co59, .int .i64 1, u896002]) ?_ 2 _ rfl; (with_reducible repeat (first | refine blk_drewN ?_ _ | refine blk_drew ?_ | refine blk_alloc ?_ _)); exact BK895.out⟩, ⟨hb_⟩⟩
               ·rw [if_neg c54] at H
                exact absurd H (by simp)
              ·rw [if_neg c53] at H
               exact absurd H (by simp)
             ·rw [if_neg c52] at H
              exact absurd H (by simp)
            ·rw [if_neg c51] at H
             exact absurd H (by simp)
           ·rw [if_neg c50] at H
            exact absurd H (by simp)
   ·rw [if_neg c10] at H
    have c10b0 : decide (x7_1 < (l0_1.length : Int)) = false := decide_eq_false c10
    clear c10
    simp only [Option.some.injEq, Prod.mk.injEq] at H
    obtain ⟨rfl, rfl, rfl⟩ := H
    have hnb67 := NB895_893.out
    have hnc67 := NB893_895.out
    have hnb68 := NB895_894.out
    have hnc68 := NB894_895.out
    have hcz69_0 : wr.cell? ⟨gb895, 0, none⟩ = some (u896000) := (blk_cell BK895.out 0).trans rfl
    have hcz69_1 : wr.cell? ⟨gb895, 1, none⟩ = some (.int .i64 1) := (blk_cell BK895.out 1).trans rfl
    have hcz69_2 : wr.cell? ⟨gb895, 2, none⟩ = some (u896002) := (blk_cell BK895.out 2).trans rfl
    have hfz69_0 := blk_frozen BK895.out 0
    have hfz69_1 := blk_frozen BK895.out 1
    have hfz69_2 := blk_frozen BK895.out 2
    obtain ⟨Ao70, co70, eo70⟩ := Kd.S_slice HO_896000.out
    subst eo70
    have hnb71 := NB894_893.out
    have hnc71 := NB893_894.out
    have hcz72_0 : wr.cell? ⟨gb894, 0, none⟩ = some (.slice none 0 0) := (blk_cell BK894.out 0).trans rfl
    have hcz72_1 : wr.cell? ⟨gb894, 1, none⟩ = some (.int .i64 0) := (blk_cell BK894.out 1).trans rfl
    have hcz72_2 : wr.cell? ⟨gb894, 2, none⟩ = some (.slice none 0 0) := (blk_cell BK894.out 2).trans rfl
    have hfz72_0 := blk_frozen BK894.out 0
    have hfz72_1 := blk_frozen BK894.out 1
    have hfz72_2 := blk_frozen BK894.out 2
    obtain ⟨Ao73, co73, eo73⟩ := Kd.R_slice HO_896002.out
    subst eo73
    go_wp2
    refine bodyPost_ret (results_cell_row rfl _ _ gb894 101 #[.slice Ao70 x896000_1.length co70, .int .i64 1, .slice Ao73 x896002_1.length co73] (0, 0) _ rfl (by (with_reducible repeat (first | refine blk_drewN ?_ _ | refine blk_drew ?_ | refine blk_alloc ?_ _)); refine blk_put (cs := #[.slice Ao70 x896000_1.length co70, .int .i64 1, .slice none 0 0]) ?_ 2 _ rfl; (with_reducible repeat (first | refine blk_drewN ?_ _ | refine blk_drew ?_ | refine blk_alloc ?_ _)); refine blk_put (cs := #[.slice Ao70 x896000_1.length co70, .int .i64 0, .slice none 0 0]) ?_ 1 _ rfl; (with_reducible repeat (first | refine blk_drewN ?_ _ | refine blk_drew ?_ | refine blk_alloc ?_ _)); refine blk_put (cs := #[.slice none 0 0, .int .i64 0, .slice none 0 0]) ?_ 0 _ rfl; (with_reducible repeat (first | refine blk_drewN ?_ _ | refine blk_drew ?_ | refine blk_alloc ?_ _)); exact BK894.out) Try.underlying101 rfl (by kernel_rfl)) rfl ?_
    exact ⟨_, _, by first | rfl | (simp [errW_none, errW_some] <;> rfl) | (simp [*, errW_none, errW_some] <;> rfl), by (with_reducible repeat (first | apply Kd.S_alloc | apply Kd.S_drewN | apply Kd.S_drew)); exact Kd.S_mono (Kd.S_far (p := ⟨gb894, 2, none⟩) (Kd.S_far (p := ⟨gb894, 1, none⟩) (Kd.S_far (p := ⟨gb894, 0, none⟩) (Kd.S_types HO_896000.out BK894.out (by decide)) (fun _ hk => hk.2) (.slice Ao70 x896000_1.length co70)) (fun _ hk => hk.2) (.int .i64 1)) (fun _ hk => hk.2) (.slice Ao73 x896002_1.length co73)) (fun _ hk => hk.1), by (with_reducible repeat (first | apply Kd.R_alloc | apply Kd.R_drewN | apply Kd.R_drew)); exact Kd.R_mono (Kd.R_far (p := ⟨gb894, 2, none⟩) (Kd.R_far (p := ⟨gb894, 1, none⟩) (Kd.R_far (p := ⟨gb894, 0, none⟩) (Kd.R_types HO_896002.out BK894.out (by decide)) (fun _ hk => hk.2) (.slice Ao70 x896000_1.length co70)) (fun _ hk => hk.2) (.int .i64 1)) (fun _ hk => hk.2) (.slice Ao73 x896002_1.length co73)) (fun _ hk => trivial), hb_⟩
def spec_l05Key.l0 : Nat → Int → Int → Int → Int → Int → Int → Int → Int → List (List Int) → Int → List Int → Option (Bool)
 | 0, _, _, _, _, _, _, _, _, _, _, _ => none
 | k + 1, x1, x2, x3, x4, x11, x13, x14, x15, x935000, x935001, x935002 => if x15 < x11 then (if x13 = x14 then (if 0 ≤ x1 then (if x1 < (x935000.length : Int) then (if 0 ≤ x15 then (if x15 < ((rd_L1 x935000 x1).length : Int) then (if 0 ≤ x2 then (if x2 < (x935000.length : Int) then (if x15 < ((rd_L1 x935000 x2).length : Int) then (spec_l05Key.l0 k x1 x2 x3 x4 x11 (wrap64 ((rd (rd_L1 x935000 x1) x15) * x4)) (wrap64 ((rd (rd_L1 x935000 x2) x15) * x3)) (wrap64 (x15 + 1)) x935000 x935001 x935002) else (none)) else (none)) else (none)) else (none)) else (none)) else (none)) else (none)) else (some (decide (x13 < x14)))) else (some (decide (x13 < x14)))
def spec_l05Key.f (k : Nat) (l0_0 : List (List Int)) (a0_1 : Int) (l0_2 : List Int) (a1 : Int) (a2 : Int) (a3 : Int) (a4 : Int) : Option (Bool) := if 0 ≤ a1 then (if a1 < (l0_0.length : Int) then (if 0 ≤ (wrap64 (((rd_L1 l0_0 a1).length : Int) - 1)) then (if (wrap64 (((rd_L1 l0_0 a1).length : Int) - 1)) < ((rd_L1 l0_0 a1).length : Int) then (if 0 ≤ a2 then (if a2 < (l0_0.length : Int) then (if (wrap64 (((rd_L1 l0_0 a1).length : Int) - 1)) < ((rd_L1 l0_0 a2).length : Int) then (spec_l05Key.l0 k a1 a2 a3 a4 (l0_0.length : Int) (wrap64 ((rd (rd_L1 l0_0 a1) (wrap64 (((rd_L1 l0_0 a1).length : Int) - 1))) * a4)) (wrap64 ((rd (rd_L1 l0_0 a2) (wrap64 (((rd_L1 l0_0 a1).length : Int) - 1))) * a3)) 0 l0_0 a0_1 l0_2) else (none)) else (none)) else (none)) else (none)) else (none)) else (none)) else (none)
theorem spec_l05Key.mono_l : ∀ k, (∀ y0 y1 y2 y3 y4 y5 y6 y7 y8 y9 y10, LeO (spec_l05Key.l0 k y0 y1 y2 y3 y4 y5 y6 y7 y8 y9 y10) (spec_l05Key.l0 (k + 1) y0 y1 y2 y3 y4 y5 y6 y7 y8 y9 y10))
 | 0 => fun _ _ _ _ _ _ _ _ _ _ _ r h => by simp [spec_l05Key.l0] at h
 | k + 1 => by
  have ih0 := spec_l05Key.mono_l k
  ·intro y0 y1 y2 y3 y4 y5 y6 y7 y8 y9 y10
   unfold spec_l05Key.l0
   repeat' first
   | (with_reducible exact ih0 _ _ _ _ _ _ _ _ _ _ _)
   | (with_reducible exact LeO.refl _)
   | (with_reducible exact LeO.none _)
   | (with_reducible refine LeO.ite ?_ ?_)
   | (with_reducible refine LeO.bind ?_ (fun _ => ?_))
   | exact ih0 _ _ _ _ _ _ _ _ _ _ _
   | exact LeO.none _
   | refine LeO.ite ?_ ?_
   | refine LeO.bind ?_ (fun _ => ?_)
theorem spec_l05Key.mono : ∀ a0 a1 a2 a3 a4 a5 a6 k, LeO (spec_l05Key.f k a0 a1 a2 a3 a4 a5 a6) (spec_l05Key.f (k + 1) a0 a1 a2 a3 a4 a5 a6) := by
 intro a0 a1 a2 a3 a4 a5 a6 k
 have ih0 := spec_l05Key.mono_l k
 unfold spec_l05Key.f
 repeat' first
   | (with_reducible exact ih0 _ _ _ _ _ _ _ _ _ _ _)
   | (with_reducible exact LeO.refl _)
   | (with_reducible exact LeO.none _)
   | (with_reducible refine LeO.ite ?_ ?_)
   | (with_reducible refine LeO.bind ?_ (fun _ => ?_))
   | exact ih0 _ _ _ _ _ _ _ _ _ _ _
   | exact LeO.none _
   | refine LeO.ite ?_ ?_
   | refine LeO.bind ?_ (fun _ => ?_)
theorem spec_l05Key.calls (k : Nat) (A0_0 : Option Addr) (c0_0 : Nat) (l0_0 : List (List Int)) (a0_1 : Int) (A0_2 : Option Addr) (c0_2 : Nat) (l0_2 : List Int) (a1 : Int) (a2 : Int) (a3 : Int) (a4 : Int) (r : Bool) (w : World) (hr0_0 : Kd.C (Kd.slice 2 (Kd.int .i64)) w A0_0 l0_0.length l0_0) (hc0_0 : l0_0.length ≤ c0_0) (hr0_2 : Kd.C (Kd.int .i64) w A0_2 l0_2.length l0_2) (hc0_2 : l0_2.length ≤ c0_2) (h : spec_l05Key.f k l0_0 a0_1 l0_2 a1 a2 a3 a4 = some r) :
  Calls Try.prog 117 #[.agg #[.slice A0_0 l0_0.length c0_0, .int .i64 a0_1, .slice A0_2 l0_2.length c0_2], .int .i64 a1, .int .i64 a2, .int .i64 a3, .int .i64 a4] w fun e w' => e = .returned (.bool r) ∧ Below w.heap.size w w' := by
 have hu101 := Try.underlying101
 have HR0_0 := Aside0.mk hr0_0
 have HC0_0 := Aside0.mk hc0_0
 clear hr0_0 hc0_0
 have HR0_2 := Aside0.mk hr0_2
 have HC0_2 := Aside0.mk hc0_2
 clear hr0_2 hc0_2
 have HB := Aside0.mk (Below.refl w.heap.size w)
 have H : (if 0 ≤ a1 then (if a1 < (l0_0.length : Int) then (if 0 ≤ (wrap64 (((rd_L1 l0_0 a1).length : Int) - 1)) then (if (wrap64 (((rd_L1 l0_0 a1).length : Int) - 1)) < ((rd_L1 l0_0 a1).length : Int) then (if 0 ≤ a2 then (if a2 < (l0_0.length : Int) then (if (wrap64 (((rd_L1 l0_0 a1).length : Int) - 1)) < ((rd_L1 l0_0 a2).length : Int) then (spec_l05Key.l0 k a1 a2 a3 a4 (l0_0.length : Int) (wrap64 ((rd (rd_L1 l0_0 a1) (wrap64 (((rd_L1 l0_0 a1).length : Int) - 1))) * a4)) (wrap64 ((rd (rd_L1 l0_0 a2) (wrap64 (((rd_L1 l0_0 a1).length : Int) - 1))) * a3)) 0 l0_0 a0_1 l0_2) else (none)) else (none)) else (none)) else (none)) else (none)) else (none)) else (none)) = some r := h
 clear h
 by_cases c6 : 0 ≤ a1
 ·rw [if_pos c6] at H
  have c6b0 : decide (0 ≤ a1) = true := decide_eq_true c6
  clear c6
  by_cases c7 : a1 < (l0_0.length : Int)
  ·rw [if_pos c7] at H
   have c7b0 : decide (a1 < (l0_0.length : Int)) = true := decide_eq_true c7
   clear c7
   obtain ⟨ji8, hji8⟩ : ∃ j_ : Int, (wrap64 (((rd_L1 l0_0 a1).length : Int) - 1)) = j_ := ⟨_, rfl⟩
   replace H : (if 0 ≤ (ji8) then (if (ji8) < ((rd_L1 l0_0 a1).length : Int) then (if 0 ≤ a2 then (if a2 < (l0_0.length : Int) then (if (ji8) < ((rd_L1 l0_0 a2).length : Int) then (spec_l05Key.l0 k a1 a2 a3 a4 (l0_0.length : Int) (wrap64 ((rd (rd_L1 l0_0 a1) (ji8)) * a4)) (wrap64 ((rd (rd_L1 l0_0 a2) (ji8)) * a3)) 0 l0_0 a0_1 l0_2) else (none)) else (none)) else (none)) else (none)) else (none)) = some r := by first | (rw [hji8] at H; exact H) | (simp only [hji8] at H ⊢; exact H)
   have hji8w : (IntKind.i64.wrap (((rd_L1 l0_0 a1).length : Int) - 1)) = ji8 := (i64_w _).trans hji8
   by_cases c9 : 0 ≤ (ji8)
   ·rw [if_pos c9] at H
    have c9b0 : decide (0 ≤ (ji8)) = true := decide_eq_true c9
    clear c9
    by_cases c10 : (ji8) < ((rd_L1 l0_0 a1).length : Int)
    ·rw [if_pos c10] at H
     have c10b0 : decide ((ji8) < ((rd_L1 l0_0 a1).length : Int)) = true := decide_eq_true c10
     clear c10
     by_cases c11 : 0 ≤ a2
     ·rw [if_pos c11] at H
      have c11b0 : decide (0 ≤ a2) = true := decide_eq_true c11
      clear c11
      by_cases c12 : a2 < (l0_0.length : Int)
      ·rw [if_pos c12] at H
       have c12b0 : decide (a2 < (l0_0.length : Int)) = true := decide_eq_true c12
       clear c12
       by_cases c13 : (ji8) < ((rd_L1 l0_0 a2).length : Int)
       ·rw [if_pos c13] at H
        have c13b0 : decide ((ji8) < ((rd_L1 l0_0 a2).length : Int)) = true := decide_eq_true c13
        clear c13
        have H' := Aside0.mk H
        clear H
        go_enter Try.func117, Try.ntmps117
        go_wp2_with (first | ((with_reducible refine gate_dst (N := 5) rfl ?_); refine box_event ?hg (N := 5) ?hd (cs := #[.slice A0_0 l0_0.length c0_0, .int .i64 a0_1, .slice A0_2 l0_2.length c0_2]) (t := 101) ?hr ?_; (case hd => rfl); (case hg => rfl); (case hr => first | (go_simp; done) | (go_simp; rfl)); intro gb934 hg w14 hbox hb; have n0_ := Aside0.mk (bs_ hb); have n1_ := Aside0.mk (hbox); have n2_ := Aside0.mk ((by rw [hg]; exact bz_ : w.heap.size ≤ gb934)); have n3_ := Aside0.mk ((by rw [hg]; exact bz_ : w.heap.size ≤ gb934)); clear HB; have HB := n0_; have BK934 := n1_; have GW934 := n2_; have GE934 := n3_; clear n0_ n1_ n2_ n3_; clear hb hbox hg; have hcz15_0 : w14.cell? ⟨gb934, 0, none⟩ = some (.slice A0_0 l0_0.length c0_0) := (blk_cell BK934.out 0).trans rfl; have hcz15_1 : w14.cell? ⟨gb934, 1, none⟩ = some (.int .i64 a0_1) := (blk_cell BK934.out 1).trans rfl; have hcz15_2 : w14.cell? ⟨gb934, 2, none⟩ = some (.slice A0_2 l0_2.length c0_2) := (blk_cell BK934.out 2).trans rfl; have hfz15_0 := blk_frozen BK934.out 0; have hfz15_1 := blk_frozen BK934.out 1; have hfz15_2 := blk_frozen BK934.out 2; have p935 : 0 ≤ (a1 : Int) := od_; have q935 : a1 < (l0_0.length : Int) := od_; obtain ⟨ad935, A935_0, c935_0, e935, hx935_0, hl935_0, hi935_0⟩ := at_L1 HR0_0.out a1 p935 q935; cases e935; replace hx935_0 := (HB.out.cell (World.block_lt_of_cell? w _ hx935_0)).trans hx935_0; have HR935_0 := Aside0.mk hi935_0; have HC935_0 := Aside0.mk hl935_0; clear hi935_0 hl935_0; replace p935 := eq_true p935; replace q935 := eq_true q935; have p936 : 0 ≤ (a1 : Int) := od_; have q936 : a1 < (l0_0.length : Int) := od_; obtain ⟨ad936, A936_0, c936_0, e936, hx936_0, hl936_0, hi936_0⟩ := at_L1 HR0_0.out a1 p936 q936; obtain rfl : ad935 = ad936 := (by injection e936); replace hx936_0 := (HB.out.cell (World.block_lt_of_cell? w _ hx936_0)).trans hx936_0; have HR936_0 := Aside0.mk hi936_0; have HC936_0 := Aside0.mk hl936_0; clear hi936_0 hl936_0; replace p936 := eq_true p936; replace q936 := eq_true q936; have ea_ := Option.some.inj (hx935_0.symm.trans hx936_0); injection ea_ with ea_ en_ ec_; subst ea_; subst ec_; clear en_; have p937 : 0 ≤ ((ji8) : Int) := od_; have q937 : (ji8) < ((rd_L1 l0_0 a1).length : Int) := od_; obtain ⟨ad937, e937, hx937_0⟩ := Kd.at_int HR936_0.out (ji8) p937 q937; cases e937; replace hx937_0 := (HB.out.cell (World.block_lt_of_cell? w _ hx937_0)).trans hx937_0; replace p937 := eq_true p937; replace q937 := eq_true q937; have p938 : 0 ≤ (a2 : Int) := od_; have q938 : a2 < (l0_0.length : Int) := od_; obtain ⟨ad938, A938_0, c938_0, e938, hx938_0, hl938_0, hi938_0⟩ := at_L1 HR0_0.out a2 p938 q938; obtain rfl : ad935 = ad938 := (by injection e938); replace hx938_0 := (HB.out.cell (World.block_lt_of_cell? w _ hx938_0)).trans hx938_0; have HR938_0 := Aside0.mk hi938_0; have HC938_0 := Aside0.mk hl938_0; clear hi938_0 hl938_0; replace p938 := eq_true p938; replace q938 := eq_true q938; have p939 : 0 ≤ ((ji8) : Int) := od_; have q939 : (ji8) < ((rd_L1 l0_0 a2).length : Int) := od_; obtain ⟨ad939, e939, hx939_0⟩ := Kd.at_int HR938_0.out (ji8) p939 q939; cases e939; replace hx939_0 := (HB.out.cell (World.block_lt_of_cell? w _ hx939_0)).trans hx939_0; replace p939 := eq_true p939; replace q939 := eq_true q939))
        repeat (go_quiet (first | ((with_reducible refine gate_dst (N := 5) rfl ?_); refine box_event ?hg (N := 5) ?hd (cs := #[.slice A0_0 l0_0.length c0_0, .int .i64 a0_1, .slice A0_2 l0_2.length c0_2]) (t := 101) ?hr ?_; (case hd => rfl); (case hg => rfl); (case hr => first | (go_simp; done) | (go_simp; rfl)); intro gb934 hg w14 hbox hb; have n0_ := Aside0.mk (bs_ hb); have n1_ := Aside0.mk (hbox); have n2_ := Aside0.mk ((by rw [hg]; exact bz_ : w.heap.size ≤ gb934)); have n3_ := Aside0.mk ((by rw [hg]; exact bz_ : w.heap.size ≤ gb934)); clear HB; have HB := n0_; have BK934 := n1_; have GW934 := n2_; have GE934 := n3_; clear n0_ n1_ n2_ n3_; clear hb hbox hg; have hcz15_0 : w14.cell? ⟨gb934, 0, none⟩ = some (.slice A0_0 l0_0.length c0_0) := (blk_cell BK934.out 0).trans rfl; have hcz15_1 : w14.cell? ⟨gb934, 1, none⟩ = some (.int .i64 a0_1) := (blk_cell BK934.out 1).trans rfl; have hcz15_2 : w14.cell? ⟨gb934, 2, none⟩ = some (.slice A0_2 l0_2.length c0_2) := (blk_cell BK934.out 2).trans rfl; have hfz15_0 := blk_frozen BK934.out 0; have hfz15_1 := blk_frozen BK934.out 1; have hfz15_2 := blk_frozen BK934.out 2; have p935 : 0 ≤ (a1 : Int) := od_; have q935 : a1 < (l0_0.length : Int) := od_; obtain ⟨ad935, A935_0, c935_0, e935, hx935_0, hl935_0, hi935_0⟩ := at_L1 HR0_0.out a1 p935 q935; cases e935; replace hx935_0 := (HB.out.cell (World.block_lt_of_cell? w _ hx935_0)).trans hx935_0; have HR935_0 := Aside0.mk hi935_0; have HC935_0 := Aside0.mk hl935_0; clear hi935_0 hl935_0; replace p935 := eq_true p935; replace q935 := eq_true q935; have p936 : 0 ≤ (a1 : Int) := od_; have q936 : a1 < (l0_0.length : Int) := od_; obtain ⟨ad936, A936_0, c936_0, e936, hx936_0, hl936_0, hi936_0⟩ := at_L1 HR0_0.out a1 p936 q936; obtain rfl : ad935 = ad936 := (by injection e936); replace hx936_0 := (HB.out.cell (World.block_lt_of_cell? w _ hx936_0)).trans hx936_0; have HR936_0 := Aside0.mk hi936_0; have HC936_0 := Aside0.mk hl936_0; clear hi936_0 hl936_0; replace p936 := eq_true p936; replace q936 := eq_true q936; have ea_ := Option.some.inj (hx935_0.symm.trans hx936_0); injection ea_ with ea_ en_ ec_; subst ea_; subst ec_; clear en_; have p937 : 0 ≤ ((ji8) : Int) := od_; have q937 : (ji8) < ((rd_L1 l0_0 a1).length : Int) := od_; obtain ⟨ad937, e937, hx937_0⟩ := Kd.at_int HR936_0.out (ji8) p937 q937; cases e937; replace hx937_0 := (HB.out.cell (World.block_lt_of_cell? w _ hx937_0)).trans hx937_0; replace p937 := eq_true p937; replace q937 := eq_true q937; have p938 : 0 ≤ (a2 : Int) := od_; have q938 : a2 < (l0_0.length : Int) := od_; obtain ⟨ad938, A938_0, c938_0, e938, hx938_0, hl938_0, hi938_0⟩ := at_L1 HR0_0.out a2 p938 q938; obtain rfl : ad935 = ad938 := (by injection e938); replace hx938_0 := (HB.out.cell (World.block_lt_of_cell? w _ hx938_0)).trans hx938_0; have HR938_0 := Aside0.mk hi938_0; have HC938_0 := Aside0.mk hl938_0; clear hi938_0 hl938_0; replace p938 := eq_true p938; replace q938 := eq_true q938; have p939 : 0 ≤ ((ji8) : Int) := od_; have q939 : (ji8) < ((rd_L1 l0_0 a2).length : Int) := od_; obtain ⟨ad939, e939, hx939_0⟩ := Kd.at_int HR938_0.out (ji8) p939 q939; cases e939; replace hx939_0 := (HB.out.cell (World.block_lt_of_cell? w _ hx939_0)).trans hx939_0; replace p939 := eq_true p939; replace q939 := eq_true q939)); try go_wp2_with (first | ((with_reducible refine gate_dst (N := 5) rfl ?_); refine box_event ?hg (N := 5) ?hd (cs := #[.slice A0_0 l0_0.length c0_0, .int .i64 a0_1, .slice A0_2 l0_2.length c0_2]) (t := 101) ?hr ?_; (case hd => rfl); (case hg => rfl); (case hr => first | (go_simp; done) | (go_simp; rfl)); intro gb934 hg w14 hbox hb; have n0_ := Aside0.mk (bs_ hb); have n1_ := Aside0.mk (hbox); have n2_ := Aside0.mk ((by rw [hg]; exact bz_ : w.heap.size ≤ gb934)); have n3_ := Aside0.mk ((by rw [hg]; exact bz_ : w.heap.size ≤ gb934)); clear HB; have HB := n0_; have BK934 := n1_; have GW934 := n2_; have GE934 := n3_; clear n0_ n1_ n2_ n3_; clear hb hbox hg; have hcz15_0 : w14.cell? ⟨gb934, 0, none⟩ = some (.slice A0_0 l0_0.length c0_0) := (blk_cell BK934.out 0).trans rfl; have hcz15_1 : w14.cell? ⟨gb934, 1, none⟩ = some (.int .i64 a0_1) := (blk_cell BK934.out 1).trans rfl; have hcz15_2 : w14.cell? ⟨gb934, 2, none⟩ = some (.slice A0_2 l0_2.length c0_2) := (blk_cell BK934.out 2).trans rfl; have hfz15_0 := blk_frozen BK934.out 0; have hfz15_1 := blk_frozen BK934.out 1; have hfz15_2 := blk_frozen BK934.out 2; have p935 : 0 ≤ (a1 : Int) := od_; have q935 : a1 < (l0_0.length : Int) := od_; obtain ⟨ad935, A935_0, c935_0, e935, hx935_0, hl935_0, hi935_0⟩ := at_L1 HR0_0.out a1 p935 q935; cases e935; replace hx935_0 := (HB.out.cell (World.block_lt_of_cell? w _ hx935_0)).trans hx935_0; have HR935_0 := Aside0.mk hi935_0; have HC935_0 := Aside0.mk hl935_0; clear hi935_0 hl935_0; replace p935 := eq_true p935; replace q935 := eq_true q935; have p936 : 0 ≤ (a1 : Int) := od_; have q936 : a1 < (l0_0.length : Int) := od_; obtain ⟨ad936, A936_0, c936_0, e936, hx936_0, hl936_0, hi936_0⟩ := at_L1 HR0_0.out a1 p936 q936; obtain rfl : ad935 = ad936 := (by injection e936); replace hx936_0 := (HB.out.cell (World.block_lt_of_cell? w _ hx936_0)).trans hx936_0; have HR936_0 := Aside0.mk hi936_0; have HC936_0 := Aside0.mk hl936_0; clear hi936_0 hl936_0; replace p936 := eq_true p936; replace q936 := eq_true q936; have ea_ := Option.some.inj (hx935_0.symm.trans hx936_0); injection ea_ with ea_ en_ ec_; subst ea_; subst ec_; clear en_; have p937 : 0 ≤ ((ji8) : Int) := od_; have q937 : (ji8) < ((rd_L1 l0_0 a1).length : Int) := od_; obtain ⟨ad937, e937, hx937_0⟩ := Kd.at_int HR936_0.out (ji8) p937 q937; cases e937; replace hx937_0 := (HB.out.cell (World.block_lt_of_cell? w _ hx937_0)).trans hx937_0; replace p937 := eq_true p937; replace q937 := eq_true q937; have p938 : 0 ≤ (a2 : Int) := od_; have q938 : a2 < (l0_0.length : Int) := od_; obtain ⟨ad938, A938_0, c938_0, e938, hx938_0, hl938_0, hi938_0⟩ := at_L1 HR0_0.out a2 p938 q938; obtain rfl : ad935 = ad938 := (by injection e938); replace hx938_0 := (HB.out.cell (World.block_lt_of_cell? w _ hx938_0)).trans hx938_0; have HR938_0 := Aside0.mk hi938_0; have HC938_0 := Aside0.mk hl938_0; clear hi938_0 hl938_0; replace p938 := eq_true p938; replace q938 := eq_true q938; have p939 : 0 ≤ ((ji8) : Int) := od_; have q939 : (ji8) < ((rd_L1 l0_0 a2).length : Int) := od_; obtain ⟨ad939, e939, hx939_0⟩ := Kd.at_int HR938_0.out (ji8) p939 q939; cases e939; replace hx939_0 := (HB.out.cell (World.block_lt_of_cell? w _ hx939_0)).trans hx939_0; replace p939 := eq_true p939; replace q939 := eq_true q939)))
        go_loopg [13, 14, 15] k (fun kq v13 v14 v15 w' => ∃ (x13_1 : Int) (x14_1 : Int) (x15_1 : Int), v13 = .int .i64 x13_1 ∧ v14 = .int .i64 x14_1 ∧ v15 = .int .i64 x15_1 ∧ Aside0 (spec_l05Key.l0 kq a1 a2 a3 a4 (l0_0.length : Int) x13_1 x14_1 x15_1 l0_0 a0_1 l0_2 = some r) ∧ Aside0 (kq ≤ k) ∧ Aside0 (w'.heap[gb934]? = some (.cells #[(.slice (some ad935) l0_0.length c0_0), .int .i64 a0_1, (.slice A0_2 l0_2.length c0_2)] 101 (0, 0))) ∧ Aside0 (Below w.heap.size w w'))
        case atStart => exact ⟨(wrap64 ((rd (rd_L1 l0_0 a1) (ji8)) * a4)), (wrap64 ((rd (rd_L1 l0_0 a2) (ji8)) * a3)), (0), (by first | rfl | (simp; done) | (simp only [← hji8] <;> (first | rfl | simp)) | (simp [*]; done)), (by first | rfl | (simp; done) | (simp only [← hji8] <;> (first | rfl | simp)) | (simp [*]; done)), rs_, H', ⟨Nat.le_refl _⟩, ⟨bk_⟩, ⟨hb_⟩⟩
        case round =>
         clear H'
         try clear c1
         try clear p2
         try clear c6
         try clear c6b0
         try clear p6
         try clear c7
         try clear c7b0
         try clear c9
         try clear c9b0
         try clear p9
         try clear q9
         try clear hx9
         try clear c10
         try clear c10b0
         try clear c11
         try clear c11b0
         try clear c12
         try clear c12b0
         try clear c13
         try clear c13b0
         try clear hcz15_0
         try clear hcz15_1
         try clear hcz15_2
         try clear hfz15_0
         try clear hfz15_1
         try clear hfz15_2
         try clear hx935_0
         try clear hx936_0
         try clear hx937_0
         try clear hx938_0
         try clear hx939_0
         try clear p935
         try clear p936
         try clear p937
         try clear p938
         try clear p939
         try clear q935
         try clear q936
         try clear q937
         try clear q938
         try clear q939
         obtain ⟨x13_1, x14_1, x15_1, rfl, rfl, rfl, HA, HK1, BK934, HB⟩ := hrel
         cases gk with
         | zero => exact absurd HA.out (by simp [spec_l05Key.l0])
         | succ k1 =>
          have H := HA.out
          clear HA
          simp only [spec_l05Key.l0] at H
          by_cases c16 : x15_1 < (l0_0.length : Int)
          ·rw [if_pos c16] at H
           have c16b0 : decide (x15_1 < (l0_0.length : Int)) = true := decide_eq_true c16
           clear c16
           by_cases c17 : x13_1 = x14_1
           ·rw [if_pos c17] at H
            have c17b0 : (x13_1 == x14_1) = true := beq_iff_eq.mpr c17
            have c17b1 : (x13_1 != x14_1) = false := bne_eq_false_iff_eq.mpr c17
            clear c17
            by_cases c18 : 0 ≤ a1
            ·rw [if_pos c18] at H
             have c18b0 : decide (0 ≤ a1) = true := decide_eq_true c18
             clear c18
             by_cases c19 : a1 < (l0_0.length : Int)
             ·rw [if_pos c19] at H
              have c19b0 : decide (a1 < (l0_0.length : Int)) = true := decide_eq_true c19
              clear c19
              by_cases c20 : 0 ≤ x15_1
              ·rw [if_pos c20] at H
               have c20b0 : decide (0 ≤ x15_1) = true := decide_eq_true c20
               clear c20
               by_cases c21 : x15_1 < ((rd_L1 l0_0 a1).length : Int)
               ·rw [if_pos c21] at H
                have c21b0 : decide (x15_1 < ((rd_L1 l0_0 a1).length : Int)) = true := decide_eq_true c21
                clear c21
                by_cases c22 : 0 ≤ a2
                ·rw [if_pos c22] at H
                 have c22b0 : decide (0 ≤ a2) = true := decide_eq_true c22
                 clear c22
                 by_cases c23 : a2 < (l0_0.length : Int)
                 ·rw [if_pos c23] at H
                  have c23b0 : decide (a2 < (l0_0.length : Int)) = true := decide_eq_true c23
                  clear c23
                  by_cases c24 : x15_1 < ((rd_L1 l0_0 a2).length : Int)
                  ·rw [if_pos c24] at H
                   have c24b0 : decide (x15_1 < ((rd_L1 l0_0 a2).length : Int)) = true := decide_eq_true c24
                   clear c24
                   have H' := Aside0.mk H
                   clear H
                   have hcz25_0 : wr.cell? ⟨gb934, 0, none⟩ = some (.slice (some ad935) l0_0.length c0_0) := (blk_cell BK934.out 0).trans rfl
                   have hcz25_1 : wr.cell? ⟨gb934, 1, none⟩ = some (.int .i64 a0_1) := (blk_cell BK934.out 1).trans rfl
                   have hcz25_2 : wr.cell? ⟨gb934, 2, none⟩ = some (.slice A0_2 l0_2.length c0_2) := (blk_cell BK934.out 2).trans rfl
                   have hfz25_0 := blk_frozen BK934.out 0
                   have hfz25_1 := blk_frozen BK934.out 1
                   have hfz25_2 := blk_frozen BK934.out 2
                   have p940 : 0 ≤ (a1 : Int) := od_
                   have q940 : a1 < (l0_0.length : Int) := od_
                   obtain ⟨ad940, A940_0, c940_0, e940, hx940_0, hl940_0, hi940_0⟩ := at_L1 HR0_0.out a1 p940 q940
                   obtain rfl : ad935 = ad940 := (by injection e940)
                   replace hx940_0 := (HB.out.cell (World.block_lt_of_cell? w _ hx940_0)).trans hx940_0
                   have HR940_0 := Aside0.mk hi940_0
                   have HC940_0 := Aside0.mk hl940_0
                   clear hi940_0 hl940_0
                   replace p940 := eq_true p940
                   replace q940 := eq_true q940
                   have p941 : 0 ≤ (x15_1 : Int) := od_
                   have q941 : x15_1 < ((rd_L1 l0_0 a1).length : Int) := od_
                   obtain ⟨ad941, e941, hx941_0⟩ := Kd.at_int HR940_0.out x15_1 p941 q941
                   cases e941
                   replace hx941_0 := (HB.out.cell (World.block_lt_of_cell? w _ hx941_0)).trans hx941_0
                   replace p941 := eq_true p941
                   replace q941 := eq_true q941
                   have p942 : 0 ≤ (a2 : Int) := od_
                   have q942 : a2 < (l0_0.length : Int) := od_
                   obtain ⟨ad942, A942_0, c942_0, e942, hx942_0, hl942_0, hi942_0⟩ := at_L1 HR0_0.out a2 p942 q942
                   obtain rfl : ad935 = ad942 := (by injection e942)
                   replace hx942_0 := (HB.out.cell (World.block_lt_of_cell? w _ hx942_0)).trans hx942_0
                   have HR942_0 := Aside0.mk hi942_0
                   have HC942_0 := Aside0.mk hl942_0
                   clear hi942_0 hl942_0
                   replace p942 := eq_true p942
                   replace q942 := eq_true q942
                   have p943 : 0 ≤ (x15_1 : Int) := od_
                   have q943 : x15_1 < ((rd_L1 l0_0 a2).length : Int) := od_
                   obtain ⟨ad943, e943, hx943_0⟩ := Kd.at_int HR942_0.out x15_1 p943 q943
                   cases e943
                   replace hx943_0 := (HB.out.cell (World.block_lt_of_cell? w _ hx943_0)).trans hx943_0
                   replace p943 := eq_true p943
                   replace q943 := eq_true q943
                   go_wp2
                   repeat (go_quiet (fail); try go_wp2)
                   go_roundg k1
                   case measure => have := HK1.out; omega
                   case rel => exact ⟨(wrap64 ((rd (rd_L1 l0_0 a1) x15_1) * a4)), (wrap64 ((rd (rd_L1 l0_0 a2) x15_1) * a3)), (wrap64 (x15_1 + 1)), rs_, rs_, rs_, H', ⟨by have := HK1.out; omega⟩, ⟨bk_⟩, ⟨hb_⟩⟩
                  ·rw [if_neg c24] at H
                   exact absurd H (by simp)
                 ·rw [if_neg c23] at H
                  exact absurd H (by simp)
                ·rw [if_neg c22] at H
                 exact absurd H (by simp)
               ·rw [if_neg c21] at H
                exact absurd H (by simp)
              ·rw [if_neg c20] at H
               exact absurd H (by simp)
             ·rw [if_neg c19] at H
              exact absurd H (by simp)
            ·rw [if_neg c18] at H
             exact absurd H (by simp)
           ·rw [if_neg c17] at H
            have c17b0 : (x13_1 == x14_1) = false := beq_eq_false_iff_ne.mpr c17
            have c17b1 : (x13_1 != x14_1) = true := bne_iff_ne.mpr c17
            obtain rfl := Option.some.inj H
            go_wp2
            repeat (go_quiet (fail); try go_wp2)
            go_ret
            exact ⟨by first | rfl | (simp [errW_none, errW_some] <;> rfl) | (simp only [← hji8]; first | rfl | (simp [errW_none, errW_some] <;> rfl)) | (simp [*, errW_none, errW_some] <;> rfl), hb_⟩
          ·rw [if_neg c16] at H
           have c16b0 : decide (x15_1 < (l0_0.length : Int)) = false := decide_eq_false c16
           clear c16
           obtain rfl := Option.some.inj H
           go_wp2
           repeat (go_quiet (fail); try go_wp2)
           go_ret
           exact ⟨by first | rfl | (simp [errW_none, errW_some] <;> rfl) | (simp only [← hji8]; first | rfl | (simp [errW_none, errW_some] <;> rfl)) | (simp [*, errW_none, errW_some] <;> rfl), hb_⟩
       ·rw [if_neg c13] at H
        exact absurd H (by simp)
      ·rw [if_neg c12] at H
       exact absurd H (by simp)
     ·rw [if_neg c11] at H
      exact absurd H (by simp)
    ·rw [if_neg c10] at H
     exact absurd H (by simp)
   ·rw [if_neg c9] at H
    exact absurd H (by simp)
  ·rw [if_neg c7] at H
   exact absurd H (by simp)
 ·rw [if_neg c6] at H
  exact absurd H (by simp)
def spec_l05Row.l0 : Nat → Int → Int → Int → List (List Int) → Int → List Int → Option (Int)
 | 0, _, _, _, _, _, _ => none
 | k + 1, x1, x5, x6, x945000, x945001, x945002 => if x6 < (x945000.length : Int) then (if 0 ≤ x6 then (if 0 ≤ x1 then (if x1 < ((rd_L1 x945000 x6).length : Int) then (if (rd (rd_L1 x945000 x6) x1) > 0 then (if x5 < 0 then (spec_l05Row.l0 k x1 x6 (wrap64 (x6 + 1)) x945000 x945001 x945002) else (if 0 ≤ x5 then (if x5 < (x945000.length : Int) then (if x1 < ((rd_L1 x945000 x5).length : Int) then ((spec_l05Key.f k x945000 x945001 x945002 x6 x5 (rd (rd_L1 x945000 x6) x1) (rd (rd_L1 x945000 x5) x1)).bind fun t951 => (if t951 = true then (spec_l05Row.l0 k x1 x6 (wrap64 (x6 + 1)) x945000 x945001 x945002) else (spec_l05Row.l0 k x1 x5 (wrap64 (x6 + 1)) x945000 x945001 x945002))) else (none)) else (none)) else (none))) else (spec_l05Row.l0 k x1 x5 (wrap64 (x6 + 1)) x945000 x945001 x945002)) else (none)) else (none)) else (none)) else (some x5)
def spec_l05Row.f (k : Nat) (l0_0 : List (List Int)) (a0_1 : Int) (l0_2 : List Int) (a1 : Int) : Option (Int) := spec_l05Row.l0 k a1 (-1) 0 l0_0 a0_1 l0_2
theorem spec_l05Row.mono_l : ∀ k, (∀ y0 y1 y2 y3 y4 y5, LeO (spec_l05Row.l0 k y0 y1 y2 y3 y4 y5) (spec_l05Row.l0 (k + 1) y0 y1 y2 y3 y4 y5))
 | 0 => fun _ _ _ _ _ _ r h => by simp [spec_l05Row.l0] at h
 | k + 1 => by
  have ih0 := spec_l05Row.mono_l k
  ·intro y0 y1 y2 y3 y4 y5
   unfold spec_l05Row.l0
   repeat' first
   | (with_reducible exact ih0 _ _ _ _ _ _)
   | (with_reducible exact spec_l05Key.mono _ _ _ _ _ _ _ _)
   | (with_reducible exact LeO.refl _)
   | (with_reducible exact LeO.none _)
   | (with_reducible refine LeO.ite ?_ ?_)
   | (with_reducible refine LeO.bind ?_ (fun _ => ?_))
   | exact ih0 _ _ _ _ _ _
   | exact spec_l05Key.mono _ _ _ _ _ _ _ _
   | exact LeO.none _
   | refine LeO.ite ?_ ?_
   | refine LeO.bind ?_ (fun _ => ?_)
theorem spec_l05Row.mono : ∀ a0 a1 a2 a3 k, LeO (spec_l05Row.f k a0 a1 a2 a3) (spec_l05Row.f (k + 1) a0 a1 a2 a3) := by
 intro a0 a1 a2 a3 k
 have ih0 := spec_l05Row.mono_l k
 unfold spec_l05Row.f
 repeat' first
   | (with_reducible exact ih0 _ _ _ _ _ _)
   | (with_reducible exact spec_l05Key.mono _ _ _ _ _ _ _ _)
   | (with_reducible exact LeO.refl _)
   | (with_reducible exact LeO.none _)
   | (with_reducible refine LeO.ite ?_ ?_)
   | (with_reducible refine LeO.bind ?_ (fun _ => ?_))
   | exact ih0 _ _ _ _ _ _
   | exact spec_l05Key.mono _ _ _ _ _ _ _ _
   | exact LeO.none _
   | refine LeO.ite ?_ ?_
   | refine LeO.bind ?_ (fun _ => ?_)
def spec_l05Row.T5 : Bool × List (List Nat × List Nat) := (true, [([], []), ([0], [0]), ([], []), ([1, 2], [1, 2]), ([3], [3]), ([], []), ([4, 5], [4, 5]), ([6], [6]), ([7], [7]), ([8], [8]), ([9], [9]), ([10, 9], [9, 10]), ([11, 9, 9], [9, 11]), ([12], [12]), ([12], [12]), ([12], [12]), ([12], [12]), ([16, 12], [12, 16]), ([12], [12]), ([17, 18, 12], [12, 17, 18]), ([19, 12], [12, 19]), ([12], [12]), ([20, 21, 12], [12, 20, 21]), ([22, 12], [12, 22]), ([12], [12]), ([24, 12], [12, 24]), ([12], [12]), ([25, 26, 12], [12, 25, 26]), ([27, 12], [12, 27]), ([12], [12]), ([28, 29, 12], [12, 28, 29]), ([30, 12], [12, 30]), ([13, 14, 15, 23, 31, 12, 12], [12, 13, 14, 15, 23, 31]), ([12, 32, 9], [9, 12, 32]), ([9, 33], [9, 33])])
def spec_l05Row.B5 : List Nat := [0, 1, 0, 7, 15, 0, 63, 127, 255, 511, 1023, 2047, 4095, 8191, 8191, 8191, 8191, 73727, 8191, 466943, 991231, 8191, 4136959, 8331263, 8191, 16785407, 8191, 117448703, 251666431, 8191, 1056972799, 2130714623, 4294967295, 8589934591, 17179869183]
theorem spec_l05Row.tab5 : rtab .any (opsOf Try.f118 5) = spec_l05Row.T5 := by kernel_rfl
theorem spec_l05Row.bits5 : waitsOk spec_l05Row.T5.2 spec_l05Row.B5 = true := by kernel_rfl
theorem spec_l05Row.calls (k : Nat) (A0_0 : Option Addr) (c0_0 : Nat) (l0_0 : List (List Int)) (a0_1 : Int) (A0_2 : Option Addr) (c0_2 : Nat) (l0_2 : List Int) (a1 : Int) (r : Int) (w : World) (hr0_0 : Kd.C (Kd.slice 2 (Kd.int .i64)) w A0_0 l0_0.length l0_0) (hc0_0 : l0_0.length ≤ c0_0) (hr0_2 : Kd.C (Kd.int .i64) w A0_2 l0_2.length l0_2) (hc0_2 : l0_2.length ≤ c0_2) (h : spec_l05Row.f k l0_0 a0_1 l0_2 a1 = some r) :
  Calls Try.prog 118 #[.agg #[.slice A0_0 l0_0.length c0_0, .int .i64 a0_1, .slice A0_2 l0_2.length c0_2], .int .i64 a1] w fun e w' => e = .returned (.int .i64 r) ∧ Below w.heap.size w w' := by
 have hu101 := Try.underlying101
 have HR0_0 := Aside0.mk hr0_0
 have HC0_0 := Aside0.mk hc0_0
 clear hr0_0 hc0_0
 have HR0_2 := Aside0.mk hr0_2
 have HC0_2 := Aside0.mk hc0_2
 clear hr0_2 hc0_2
 have HB := Aside0.mk (Below.refl w.heap.size w)
 have H : (spec_l05Row.l0 k a1 (-1) 0 l0_0 a0_1 l0_2) = some r := h
 clear h
 have H' := Aside0.mk H
 clear H
 go_enter Try.func118, Try.ntmps118
 go_wp2_with (first | ((with_reducible refine gate_dst (N := 2) rfl ?_); refine box_event ?hg (N := 2) ?hd (cs := #[.slice A0_0 l0_0.length c0_0, .int .i64 a0_1, .slice A0_2 l0_2.length c0_2]) (t := 101) ?hr ?_; (case hd => rfl); (case hg => rfl); (case hr => first | (go_simp; done) | (go_simp; rfl)); intro gb944 hg w3 hbox hb; have n0_ := Aside0.mk (bs_ hb); have n1_ := Aside0.mk (hbox); have n2_ := Aside0.mk ((by rw [hg]; exact bz_ : w.heap.size ≤ gb944)); have n3_ := Aside0.mk ((by rw [hg]; exact bz_ : w.heap.size ≤ gb944)); clear HB; have HB := n0_; have BK944 := n1_; have GW944 := n2_; have GE944 := n3_; clear n0_ n1_ n2_ n3_; clear hb hbox hg))
 go_loopg [5, 6] k (fun kq v5 v6 w' => ∃ (x5_1 : Int) (x6_1 : Int), v5 = .int .i64 x5_1 ∧ v6 = .int .i64 x6_1 ∧ Aside0 (spec_l05Row.l0 kq a1 x5_1 x6_1 l0_0 a0_1 l0_2 = some r) ∧ Aside0 (kq ≤ k) ∧ Aside0 (w'.heap[gb944]? = some (.cells #[(.slice A0_0 l0_0.length c0_0), .int .i64 a0_1, (.slice A0_2 l0_2.length c0_2)] 101 (0, 0))) ∧ Aside0 (Below w.heap.size w w'))
 case atStart => exact ⟨((-1)), (0), rs_, rs_, H', ⟨Nat.le_refl _⟩, ⟨bk_⟩, ⟨hb_⟩⟩
 case round =>
  clear H'
  try clear c1
  try clear p2
  obtain ⟨x5_1, x6_1, rfl, rfl, HA, HK1, BK944, HB⟩ := hrel
  cases gk with
  | zero => exact absurd HA.out (by simp [spec_l05Row.l0])
  | succ k1 =>
   have H := HA.out
   clear HA
   simp only [spec_l05Row.l0] at H
   by_cases c4 : x6_1 < (l0_0.length : Int)
   ·rw [if_pos c4] at H
    have c4b0 : decide (x6_1 < (l0_0.length : Int)) = true := decide_eq_true c4
    clear c4
    by_cases c5 : 0 ≤ x6_1
    ·rw [if_pos c5] at H
     have c5b0 : decide (0 ≤ x6_1) = true := decide_eq_true c5
     clear c5
     by_cases c6 : 0 ≤ a1
     ·rw [if_pos c6] at H
      have c6b0 : decide (0 ≤ a1) = true := decide_eq_true c6
      clear c6
      by_cases c7 : a1 < ((rd_L1 l0_0 x6_1).length : Int)
      ·rw [if_pos c7] at H
       have c7b0 : decide (a1 < ((rd_L1 l0_0 x6_1).length : Int)) = true := decide_eq_true c7
       clear c7
       by_cases c8 : (rd (rd_L1 l0_0 x6_1) a1) > 0
       ·rw [if_pos c8] at H
        have c8b0 : decide (0 < (rd (rd_L1 l0_0 x6_1) a1)) = true := decide_eq_true c8
        clear c8
        by_cases c9 : x5_1 < 0
        ·rw [if_pos c9] at H
         have c9b0 : decide (x5_1 < 0) = true := decide_eq_true c9
         clear c9
         have H' := Aside0.mk H
         clear H
         have hcz10_0 : wr.cell? ⟨gb944, 0, none⟩ = some (.slice A0_0 l0_0.length c0_0) := (blk_cell BK944.out 0).trans rfl
         have hcz10_1 : wr.cell? ⟨gb944, 1, none⟩ = some (.int .i64 a0_1) := (blk_cell BK944.out 1).trans rfl
         have hcz10_2 : wr.cell? ⟨gb944, 2, none⟩ = some (.slice A0_2 l0_2.length c0_2) := (blk_cell BK944.out 2).trans rfl
         have hfz10_0 := blk_frozen BK944.out 0
         have hfz10_1 := blk_frozen BK944.out 1
         have hfz10_2 := blk_frozen BK944.out 2
         try go_wp2
         have n0_ := Aside0.mk (blk_drew BK944.out)
         have n1_ := Aside0.mk (below_drew1 HB.out)
         clear BK944
         clear HB
         have BK944 := n0_
         have HB := n1_
         clear n0_ n1_
         have p945 : 0 ≤ (x6_1 : Int) := od_
         have q945 : x6_1 < (l0_0.length : Int) := od_
         obtain ⟨ad945, A945_0, c945_0, e945, hx945_0, hl945_0, hi945_0⟩ := at_L1 HR0_0.out x6_1 p945 q945
         have hw945_0 := hx945_0
         cases e945
         replace hx945_0 := (HB.out.cell (World.block_lt_of_cell? w _ hx945_0)).trans hx945_0
         have HR945_0 := Aside0.mk hi945_0
         have HC945_0 := Aside0.mk hl945_0
         clear hi945_0 hl945_0
         replace p945 := eq_true p945
         replace q945 := eq_true q945
         have p946 : 0 ≤ (a1 : Int) := od_
         have q946 : a1 < ((rd_L1 l0_0 x6_1).length : Int) := od_
         obtain ⟨ad946, e946, hx946_0⟩ := Kd.at_int HR945_0.out a1 p946 q946
         have hw946_0 := hx946_0
         cases e946
         replace hx946_0 := (HB.out.cell (World.block_lt_of_cell? w _ hx946_0)).trans hx946_0
         replace p946 := eq_true p946
         replace q946 := eq_true q946
         refine st_ (n := 35) (S := fun w' => w'.cell? ⟨gb944, 0, none⟩ = some (.slice (some ad945) l0_0.length c0_0) ∧ w'.cell? ⟨gb944, 1, none⟩ = some (.int .i64 a0_1) ∧ w'.cell? ⟨gb944, 2, none⟩ = some (.slice A0_2 l0_2.length c0_2) ∧ w'.cell? (ad945.add (x6_1).toNat) = some (.slice (some ad946) (rd_L1 l0_0 x6_1).length c945_0) ∧ w'.cell? (ad946.add (a1).toNat) = some (.int .i64 (rd (rd_L1 l0_0 x6_1) a1))) (ds := []) ⟨(blk_cell BK944.out 0).trans rfl, (blk_cell BK944.out 1).trans rfl, (blk_cell BK944.out 2).trans rfl, ((HB.out.cell (World.block_lt_of_cell? w _ hw945_0)).trans hw945_0), ((HB.out.cell (World.block_lt_of_cell? w _ hw946_0)).trans hw946_0)⟩ (fun hHeld => ?_); refine with_tabW spec_l05Row.tab5 spec_l05Row.bits5 (fun HT_ HW_ => ?_)
         generalize wr.drew = w11 at BK944 HB HR945_0 hx945_0 hx946_0 hHeld ⊢
         refine pu_ 0 14 ?_; refine pu_ 2 16 ?_; refine pu_ 5 19 ?_; refine tk_ 1 15 ?_; refine pu_ 3 17 ?_; refine tk_ 4 18 ?_; refine pu_ 6 20 ?_; refine tk_ 7 21 ?_; refine pu_ 8 22 ?_; refine pu_ 9 23 ?_; refine pu_ 10 24 ?_; refine pu_ 11 25 ?_; refine pu_ 12 26 ?_; refine pn_ 13 27 ?_; refine pn_ 14 28 ?_; refine pn_ 15 29 ?_; refine pn_ 16 30 ?_; refine pn_ 17 31 ?_; refine pn_ 18 32 ?_; refine pn_ 19 33 ?_; refine pn_ 20 34 ?_; refine pn_ 21 35 ?_; refine pn_ 22 36 ?_; refine pn_ 23 37 ?_; refine pn_ 24 38 ?_; refine pn_ 25 39 ?_; refine pn_ 26 40 ?_; refine pn_ 27 41 ?_; refine pn_ 28 42 ?_; refine pn_ 29 43 ?_; refine pn_ 30 44 ?_; refine pn_ 31 45 ?_; refine pn_ 32 46 ?_; refine pu_ 33 47 ?_; refine pu_ 34 48 ?_
         refine done_ (done_of HT_.out (by kernel_rfl)) ?_
         try go_wp2
         go_roundg k1
         case measure => have := HK1.out; omega
         case rel => exact ⟨(x6_1), (wrap64 (x6_1 + 1)), rs_, rs_, H', ⟨by have := HK1.out; omega⟩, ⟨bk_⟩, ⟨hb_⟩⟩
        ·rw [if_neg c9] at H
         have c9b0 : decide (x5_1 < 0) = false := decide_eq_false c9
         clear c9
         by_cases c12 : 0 ≤ x5_1
         ·rw [if_pos c12] at H
          have c12b0 : decide (0 ≤ x5_1) = true := decide_eq_true c12
          clear c12
          by_cases c13 : x5_1 < (l0_0.length : Int)
          ·rw [if_pos c13] at H
           have c13b0 : decide (x5_1 < (l0_0.length : Int)) = true := decide_eq_true c13
           clear c13
           by_cases c14 : a1 < ((rd_L1 l0_0 x5_1).length : Int)
           ·rw [if_pos c14] at H
            have c14b0 : decide (a1 < ((rd_L1 l0_0 x5_1).length : Int)) = true := decide_eq_true c14
            clear c14
            replace H := Option.bind_eq_some_iff.mp H
            obtain ⟨t951, A150, H⟩ := H
            replace H : (if t951 = true then (spec_l05Row.l0 k1 a1 x6_1 (wrap64 (x6_1 + 1)) l0_0 a0_1 l0_2) else (spec_l05Row.l0 k1 a1 x5_1 (wrap64 (x6_1 + 1)) l0_0 a0_1 l0_2)) = some r := H
            have A15 := Aside0.mk A150
            clear A150
            by_cases c16 : t951 = true
            ·subst c16
             have H1 : (spec_l05Row.l0 k1 a1 x6_1 (wrap64 (x6_1 + 1)) l0_0 a0_1 l0_2) = some r := by rw [if_pos rfl] at H; exact H
             clear H
             have H := H1
             clear H1
             have H' := Aside0.mk H
             clear H
             have hcz17_0 : wr.cell? ⟨gb944, 0, none⟩ = some (.slice A0_0 l0_0.length c0_0) := (blk_cell BK944.out 0).trans rfl
             have hcz17_1 : wr.cell? ⟨gb944, 1, none⟩ = some (.int .i64 a0_1) := (blk_cell BK944.out 1).trans rfl
             have hcz17_2 : wr.cell? ⟨gb944, 2, none⟩ = some (.slice A0_2 l0_2.length c0_2) := (blk_cell BK944.out 2).trans rfl
             have hfz17_0 := blk_frozen BK944.out 0
             have hfz17_1 := blk_frozen BK944.out 1
             have hfz17_2 := blk_frozen BK944.out 2
             try go_wp2
             have n0_ := Aside0.mk (blk_drew BK944.out)
             have n1_ := Aside0.mk (below_drew1 HB.out)
             clear BK944
             clear HB
             have BK944 := n0_
             have HB := n1_
             clear n0_ n1_
             have p945 : 0 ≤ (x6_1 : Int) := od_
             have q945 : x6_1 < (l0_0.length : Int) := od_
             obtain ⟨ad945, A945_0, c945_0, e945, hx945_0, hl945_0, hi945_0⟩ := at_L1 HR0_0.out x6_1 p945 q945
             have hw945_0 := hx945_0
             cases e945
             replace hx945_0 := (HB.out.cell (World.block_lt_of_cell? w _ hx945_0)).trans hx945_0
             have HR945_0 := Aside0.mk hi945_0
             have HC945_0 := Aside0.mk hl945_0
             clear hi945_0 hl945_0
             replace p945 := eq_true p945
             replace q945 := eq_true q945
             have p946 : 0 ≤ (a1 : Int) := od_
             have q946 : a1 < ((rd_L1 l0_0 x6_1).length : Int) := od_
             obtain ⟨ad946, e946, hx946_0⟩ := Kd.at_int HR945_0.out a1 p946 q946
             have hw946_0 := hx946_0
             cases e946
             replace hx946_0 := (HB.out.cell (World.block_lt_of_cell? w _ hx946_0)).trans hx946_0
             replace p946 := eq_true p946
             replace q946 := eq_true q946
             have p947 : 0 ≤ (x6_1 : Int) := od_
             have q947 : x6_1 < (l0_0.length : Int) := od_
             obtain ⟨ad947, A947_0, c947_0, e947, hx947_0, hl947_0, hi947_0⟩ := at_L1 HR0_0.out x6_1 p947 q947
             have hw947_0 := hx947_0
             obtain rfl : ad945 = ad947 := (by injection e947)
             replace hx947_0 := (HB.out.cell (World.block_lt_of_cell? w _ hx947_0)).trans hx947_0
             have HR947_0 := Aside0.mk hi947_0
             have HC947_0 := Aside0.mk hl947_0
             clear hi947_0 hl947_0
             replace p947 := eq_true p947
             replace q947 := eq_true q947
             have ea_ := Option.some.inj (hx945_0.symm.trans hx947_0)
             injection ea_ with ea_ en_ ec_
             subst ea_
             subst ec_
             clear en_
             have p948 : 0 ≤ (a1 : Int) := od_
             have q948 : a1 < ((rd_L1 l0_0 x6_1).length : Int) := od_
             obtain ⟨ad948, e948, hx948_0⟩ := Kd.at_int HR947_0.out a1 p948 q948
             have hw948_0 := hx948_0
             cases e948
             replace hx948_0 := (HB.out.cell (World.block_lt_of_cell? w _ hx948_0)).trans hx948_0
             replace p948 := eq_true p948
             replace q948 := eq_true q948
             have p949 : 0 ≤ (x5_1 : Int) := od_
             have q949 : x5_1 < (l0_0.length : Int) := od_
             obtain ⟨ad949, A949_0, c949_0, e949, hx949_0, hl949_0, hi949_0⟩ := at_L1 HR0_0.out x5_1 p949 q949
             have hw949_0 := hx949_0
             obtain rfl : ad945 = ad949 := (by injection e949)
             replace hx949_0 := (HB.out.cell (World.block_lt_of_cell? w _ hx949_0)).trans hx949_0
             have HR949_0 := Aside0.mk hi949_0
             have HC949_0 := Aside0.mk hl949_0
             clear hi949_0 hl949_0
             replace p949 := eq_true p949
             replace q949 := eq_true q949
             have p950 : 0 ≤ (a1 : Int) := od_
             have q950 : a1 < ((rd_L1 l0_0 x5_1).length : Int) := od_
             obtain ⟨ad950, e950, hx950_0⟩ := Kd.at_int HR949_0.out a1 p950 q950
             have hw950_0 := hx950_0
             cases e950
             replace hx950_0 := (HB.out.cell (World.block_lt_of_cell? w _ hx950_0)).trans hx950_0
             replace p950 := eq_true p950
             replace q950 := eq_true q950
             refine st_ (n := 35) (S := fun w' => w'.cell? ⟨gb944, 0, none⟩ = some (.slice (some ad945) l0_0.length c0_0) ∧ w'.cell? ⟨gb944, 1, none⟩ = some (.int .i64 a0_1) ∧ w'.cell? ⟨gb944, 2, none⟩ = some (.slice A0_2 l0_2.length c0_2) ∧ w'.cell? (ad945.add (x6_1).toNat) = some (.slice (some ad946) (rd_L1 l0_0 x6_1).length c945_0) ∧ w'.cell? (ad946.add (a1).toNat) = some (.int .i64 (rd (rd_L1 l0_0 x6_1) a1)) ∧ w'.cell? (ad945.add (x6_1).toNat) = some (.slice (some ad946) (rd_L1 l0_0 x6_1).length c945_0) ∧ w'.cell? (ad946.add (a1).toNat) = some (.int .i64 (rd (rd_L1 l0_0 x6_1) a1)) ∧ w'.cell? (ad945.add (x5_1).toNat) = some (.slice (some ad950) (rd_L1 l0_0 x5_1).length c949_0) ∧ w'.cell? (ad950.add (a1).toNat) = some (.int .i64 (rd (rd_L1 l0_0 x5_1) a1))) (ds := []) ⟨(blk_cell BK944.out 0).trans rfl, (blk_cell BK944.out 1).trans rfl, (blk_cell BK944.out 2).trans rfl, ((HB.out.cell (World.block_lt_of_cell? w _ hw945_0)).trans hw945_0), ((HB.out.cell (World.block_lt_of_cell? w _ hw946_0)).trans hw946_0), ((HB.out.cell (World.block_lt_of_cell? w _ hw947_0)).trans hw947_0), ((HB.out.cell (World.block_lt_of_cell? w _ hw948_0)).trans hw948_0), ((HB.out.cell (World.block_lt_of_cell? w _ hw949_0)).trans hw949_0), ((HB.out.cell (World.block_lt_of_cell? w _ hw950_0)).trans hw950_0)⟩ (fun hHeld => ?_); refine with_tabW spec_l05Row.tab5 spec_l05Row.bits5 (fun HT_ HW_ => ?_)
             generalize wr.drew = w18 at BK944 HB HR945_0 HR947_0 HR949_0 hx945_0 hx946_0 hx947_0 hx948_0 hx949_0 hx950_0 hHeld ⊢
             refine pu_ 0 14 ?_; refine pu_ 2 16 ?_; refine pu_ 5 19 ?_; refine tk_ 1 15 ?_; refine pu_ 3 17 ?_; refine tk_ 4 18 ?_; refine pu_ 6 20 ?_; refine tk_ 7 21 ?_; refine pu_ 8 22 ?_; refine pu_ 9 23 ?_; refine pu_ 10 24 ?_; refine pu_ 11 25 ?_; refine pu_ 12 26 ?_; refine pu_ 14 28 ?_; refine pu_ 15 29 ?_; refine pu_ 16 30 ?_; refine pu_ 18 32 ?_; refine pu_ 21 35 ?_; refine pu_ 24 38 ?_; refine pu_ 26 40 ?_; refine pu_ 29 43 ?_; refine tk_ 13 27 ?_; refine tk_ 17 31 ?_; refine pu_ 19 33 ?_; refine tk_ 20 34 ?_; refine pu_ 22 36 ?_; refine tk_ 23 37 ?_; refine tk_ 25 39 ?_; refine pu_ 27 41 ?_; refine tk_ 28 42 ?_; refine pu_ 30 44 ?_; refine tk_ 31 45 ?_
             refine on_ 32 (some 46) (fun K hK => ?_)
             refine goes_ Try.func117 (by kernel_rfl) rfl #[.agg #[.slice (some ad945) l0_0.length c0_0, .int .i64 a0_1, .slice A0_2 l0_2.length c0_2], .int .i64 x6_1, .int .i64 x5_1, .int .i64 (rd (rd_L1 l0_0 x6_1) a1), .int .i64 (rd (rd_L1 l0_0 x5_1) a1)] (by rfl) rfl rfl (by (try simp only [List.map_toArray, List.map_cons, List.map_nil]); first | done | rfl | (simp only [List.length_drop, List.length_take]; rfl)) ?_
             with_reducible refine (spec_l05Key.calls k1 _ _ l0_0 a0_1 _ _ l0_2 x6_1 x5_1 (rd (rd_L1 l0_0 x6_1) a1) (rd (rd_L1 l0_0 x5_1) a1) true _ ?side1 ?side2 ?side3 ?side4 A15.out).mono ?_
             (case side1 => exact cb_ HR0_0.out HB.out)
             (case side2 => exact HC0_0.out)
             (case side3 => exact cb_ HR0_2.out HB.out)
             (case side4 => exact HC0_2.out)
             rintro e w19 ⟨rfl, hb⟩
             refine ⟨_, rfl, ?_⟩
             have n0_ := Aside0.mk (bb_ BK944.out hb)
             have n1_ := Aside0.mk (bs_ hb)
             clear BK944
             clear HB
             have BK944 := n0_
             have HB := n1_
             clear n0_ n1_
             (try clear hb)
             (try clear hb2)
             (try clear hk)
             (try clear hi)
             refine hK.out _ _ ⟨(blk_cell BK944.out 0).trans rfl, (blk_cell BK944.out 1).trans rfl, (blk_cell BK944.out 2).trans rfl, ((HB.out.cell (World.block_lt_of_cell? w _ hw945_0)).trans hw945_0), ((HB.out.cell (World.block_lt_of_cell? w _ hw946_0)).trans hw946_0), ((HB.out.cell (World.block_lt_of_cell? w _ hw947_0)).trans hw947_0), ((HB.out.cell (World.block_lt_of_cell? w _ hw948_0)).trans hw948_0), ((HB.out.cell (World.block_lt_of_cell? w _ hw949_0)).trans hw949_0), ((HB.out.cell (World.block_lt_of_cell? w _ hw950_0)).trans hw950_0)⟩ (fun hHeld => ?_)
             clear hK K
             refine norm_ (a' := ?_) ?_ ?_
             rotate_left
             ·show Act.put _ (some 46) _ = _
              simp only [Act.put, List.setIfInBounds_toArray, List.set_cons_zero, List.set_cons_succ, i64_w, i32_w]
              rfl
             refine pu_ 33 47 ?_; refine pu_ 34 48 ?_
             refine done_ (done_of HT_.out (by kernel_rfl)) ?_
             try go_wp2
             go_roundg k1
             case measure => have := HK1.out; omega
             case rel => exact ⟨(x6_1), (wrap64 (x6_1 + 1)), rs_, rs_, H', ⟨by have := HK1.out; omega⟩, ⟨bk_⟩, ⟨hb_⟩⟩
            ·replace c16 := Bool.eq_false_iff.mpr c16
             subst c16
             have H1 : (spec_l05Row.l0 k1 a1 x5_1 (wrap64 (x6_1 + 1)) l0_0 a0_1 l0_2) = some r := by rw [if_neg (show ¬ (false = true) by decide)] at H; exact H
             clear H
             have H := H1
             clear H1
             have H' := Aside0.mk H
             clear H
             have hcz20_0 : wr.cell? ⟨gb944, 0, none⟩ = some (.slice A0_0 l0_0.length c0_0) := (blk_cell BK944.out 0).trans rfl
             have hcz20_1 : wr.cell? ⟨gb944, 1, none⟩ = some (.int .i64 a0_1) := (blk_cell BK944.out 1).trans rfl
             have hcz20_2 : wr.cell? ⟨gb944, 2, none⟩ = some (.slice A0_2 l0_2.length c0_2) := (blk_cell BK944.out 2).trans rfl
             have hfz20_0 := blk_frozen BK944.out 0
             have hfz20_1 := blk_frozen BK944.out 1
             have hfz20_2 := blk_frozen BK944.out 2
             try go_wp2
             have n0_ := Aside0.mk (blk_drew BK944.out)
             have n1_ := Aside0.mk (below_drew1 HB.out)
             clear BK944
             clear HB
             have BK944 := n0_
             have HB := n1_
             clear n0_ n1_
             have p945 : 0 ≤ (x6_1 : Int) := od_
             have q945 : x6_1 < (l0_0.length : Int) := od_
             obtain ⟨ad945, A945_0, c945_0, e945, hx945_0, hl945_0, hi945_0⟩ := at_L1 HR0_0.out x6_1 p945 q945
             have hw945_0 := hx945_0
             cases e945
             replace hx945_0 := (HB.out.cell (World.block_lt_of_cell? w _ hx945_0)).trans hx945_0
             have HR945_0 := Aside0.mk hi945_0
             have HC945_0 := Aside0.mk hl945_0
             clear hi945_0 hl945_0
             replace p945 := eq_true p945
             replace q945 := eq_true q945
             have p946 : 0 ≤ (a1 : Int) := od_
             have q946 : a1 < ((rd_L1 l0_0 x6_1).length : Int) := od_
             obtain ⟨ad946, e946, hx946_0⟩ := Kd.at_int HR945_0.out a1 p946 q946
             have hw946_0 := hx946_0
             cases e946
             replace hx946_0 := (HB.out.cell (World.block_lt_of_cell? w _ hx946_0)).trans hx946_0
             replace p946 := eq_true p946
             replace q946 := eq_true q946
             have p947 : 0 ≤ (x6_1 : Int) := od_
             have q947 : x6_1 < (l0_0.length : Int) := od_
             obtain ⟨ad947, A947_0, c947_0, e947, hx947_0, hl947_0, hi947_0⟩ := at_L1 HR0_0.out x6_1 p947 q947
             have hw947_0 := hx947_0
             obtain rfl : ad945 = ad947 := (by injection e947)
             replace hx947_0 := (HB.out.cell (World.block_lt_of_cell? w _ hx947_0)).trans hx947_0
             have HR947_0 := Aside0.mk hi947_0
             have HC947_0 := Aside0.mk hl947_0
             clear hi947_0 hl947_0
             replace p947 := eq_true p947
             replace q947 := eq_true q947
             have ea_ := Option.some.inj (hx945_0.symm.trans hx947_0)
             injection ea_ with ea_ en_ ec_
             subst ea_
             subst ec_
             clear en_
             have p948 : 0 ≤ (a1 : Int) := od_
             have q948 : a1 < ((rd_L1 l0_0 x6_1).length : Int) := od_
             obtain ⟨ad948, e948, hx948_0⟩ := Kd.at_int HR947_0.out a1 p948 q948
             have hw948_0 := hx948_0
             cases e948
             replace hx948_0 := (HB.out.cell (World.block_lt_of_cell? w _ hx948_0)).trans hx948_0
             replace p948 := eq_true p948
             replace q948 := eq_true q948
             have p949 : 0 ≤ (x5_1 : Int) := od_
             have q949 : x5_1 < (l0_0.length : Int) := od_
             obtain ⟨ad949, A949_0, c949_0, e949, hx949_0, hl949_0, hi949_0⟩ := at_L1 HR0_0.out x5_1 p949 q949
             have hw949_0 := hx949_0
             obtain rfl : ad945 = ad949 := (by injection e949)
             replace hx949_0 := (HB.out.cell (World.block_lt_of_cell? w _ hx949_0)).trans hx949_0
             have HR949_0 := Aside0.mk hi949_0
             have HC949_0 := Aside0.mk hl949_0
             clear hi949_0 hl949_0
             replace p949 := eq_true p949
             replace q949 := eq_true q949
             have p950 : 0 ≤ (a1 : Int) := od_
             have q950 : a1 < ((rd_L1 l0_0 x5_1).length : Int) := od_
             obtain ⟨ad950, e950, hx950_0⟩ := Kd.at_int HR949_0.out a1 p950 q950
             have hw950_0 := hx950_0
             cases e950
             replace hx950_0 := (HB.out.cell (World.block_lt_of_cell? w _ hx950_0)).trans hx950_0
             replace p950 := eq_true p950
             replace q950 := eq_true q950
             refine st_ (n := 35) (S := fun w' => w'.cell? ⟨gb944, 0, none⟩ = some (.slice (some ad945) l0_0.length c0_0) ∧ w'.cell? ⟨gb944, 1, none⟩ = some (.int .i64 a0_1) ∧ w'.cell? ⟨gb944, 2, none⟩ = some (.slice A0_2 l0_2.length c0_2) ∧ w'.cell? (ad945.add (x6_1).toNat) = some (.slice (some ad946) (rd_L1 l0_0 x6_1).length c945_0) ∧ w'.cell? (ad946.add (a1).toNat) = some (.int .i64 (rd (rd_L1 l0_0 x6_1) a1)) ∧ w'.cell? (ad945.add (x6_1).toNat) = some (.slice (some ad946) (rd_L1 l0_0 x6_1).length c945_0) ∧ w'.cell? (ad946.add (a1).toNat) = some (.int .i64 (rd (rd_L1 l0_0 x6_1) a1)) ∧ w'.cell? (ad945.add (x5_1).toNat) = some (.slice (some ad950) (rd_L1 l0_0 x5_1).length c949_0) ∧ w'.cell? (ad950.add (a1).toNat) = some (.int .i64 (rd (rd_L1 l0_0 x5_1) a1))) (ds := []) ⟨(blk_cell BK944.out 0).trans rfl, (blk_cell BK944.out 1).trans rfl, (blk_cell BK944.out 2).trans rfl, ((HB.out.cell (World.block_lt_of_cell? w _ hw945_0)).trans hw945_0), ((HB.out.cell (World.block_lt_of_cell? w _ hw946_0)).trans hw946_0), ((HB.out.cell (World.block_lt_of_cell? w _ hw947_0)).trans hw947_0), ((HB.out.cell (World.block_lt_of_cell? w _ hw948_0)).trans hw948_0), ((HB.out.cell (World.block_lt_of_cell? w _ hw949_0)).trans hw949_0), ((HB.out.cell (World.block_lt_of_cell? w _ hw950_0)).trans hw950_0)⟩ (fun hHeld => ?_); refine with_tabW spec_l05Row.tab5 spec_l05Row.bits5 (fun HT_ HW_ => ?_)
             generalize wr.drew = w21 at BK944 HB HR945_0 HR947_0 HR949_0 hx945_0 hx946_0 hx947_0 hx948_0 hx949_0 hx950_0 hHeld ⊢
             refine pu_ 0 14 ?_; refine pu_ 2 16 ?_; refine pu_ 5 19 ?_; refine tk_ 1 15 ?_; refine pu_ 3 17 ?_; refine tk_ 4 18 ?_; refine pu_ 6 20 ?_; refine tk_ 7 21 ?_; refine pu_ 8 22 ?_; refine pu_ 9 23 ?_; refine pu_ 10 24 ?_; refine pu_ 11 25 ?_; refine pu_ 12 26 ?_; refine pu_ 14 28 ?_; refine pu_ 15 29 ?_; refine pu_ 16 30 ?_; refine pu_ 18 32 ?_; refine pu_ 21 35 ?_; refine pu_ 24 38 ?_; refine pu_ 26 40 ?_; refine pu_ 29 43 ?_; refine tk_ 13 27 ?_; refine tk_ 17 31 ?_; refine pu_ 19 33 ?_; refine tk_ 20 34 ?_; refine pu_ 22 36 ?_; refine tk_ 23 37 ?_; refine tk_ 25 39 ?_; refine pu_ 27 41 ?_; refine tk_ 28 42 ?_; refine pu_ 30 44 ?_; refine tk_ 31 45 ?_
             refine on_ 32 (some 46) (fun K hK => ?_)
             refine goes_ Try.func117 (by kernel_rfl) rfl #[.agg #[.slice (some ad945) l0_0.length c0_0, .int .i64 a0_1, .slice A0_2 l0_2.length c0_2], .int .i64 x6_1, .int .i64 x5_1, .int .i64 (rd (rd_L1 l0_0 x6_1) a1), .int .i64 (rd (rd_L1 l0_0 x5_1) a1)] (by rfl) rfl rfl (by (try simp only [List.map_toArray, List.map_cons, List.map_nil]); first | done | rfl | (simp only [List.length_drop, List.length_take]; rfl)) ?_
             with_reducible refine (spec_l05Key.calls k1 _ _ l0_0 a0_1 _ _ l0_2 x6_1 x5_1 (rd (rd_L1 l0_0 x6_1) a1) (rd (rd_L1 l0_0 x5_1) a1) false _ ?side1 ?side2 ?side3 ?side4 A15.out).mono ?_
             (case side1 => exact cb_ HR0_0.out HB.out)
             (case side2 => exact HC0_0.out)
             (case side3 => exact cb_ HR0_2.out HB.out)
             (case side4 => exact HC0_2.out)
             rintro e w22 ⟨rfl, hb⟩
             refine ⟨_, rfl, ?_⟩
             have n0_ := Aside0.mk (bb_ BK944.out hb)
             have n1_ := Aside0.mk (bs_ hb)
             clear BK944
             clear HB
             have BK944 := n0_
             have HB := n1_
             clear n0_ n1_
             (try clear hb)
             (try clear hb2)
             (try clear hk)
             (try clear hi)
             refine hK.out _ _ ⟨(blk_cell BK944.out 0).trans rfl, (blk_cell BK944.out 1).trans rfl, (blk_cell BK944.out 2).trans rfl, ((HB.out.cell (World.block_lt_of_cell? w _ hw945_0)).trans hw945_0), ((HB.out.cell (World.block_lt_of_cell? w _ hw946_0)).trans hw946_0), ((HB.out.cell (World.block_lt_of_cell? w _ hw947_0)).trans hw947_0), ((HB.out.cell (World.block_lt_of_cell? w _ hw948_0)).trans hw948_0), ((HB.out.cell (World.block_lt_of_cell? w _ hw949_0)).trans hw949_0), ((HB.out.cell (World.block_lt_of_cell? w _ hw950_0)).trans hw950_0)⟩ (fun hHeld => ?_)
             clear hK K
             refine norm_ (a' := ?_) ?_ ?_
             rotate_left
             ·show Act.put _ (some 46) _ = _
              simp only [Act.put, List.setIfInBounds_toArray, List.set_cons_zero, List.set_cons_succ, i64_w, i32_w]
              rfl
             refine pu_ 33 47 ?_; refine pu_ 34 48 ?_
             refine done_ (done_of HT_.out (by kernel_rfl)) ?_
             try go_wp2
             go_roundg k1
             case measure => have := HK1.out; omega
             case rel => exact ⟨(x5_1), (wrap64 (x6_1 + 1)), rs_, rs_, H', ⟨by have := HK1.out; omega⟩, ⟨bk_⟩, ⟨hb_⟩⟩
           ·rw [if_neg c14] at H
            exact absurd H (by simp)
          ·rw [if_neg c13] at H
           exact absurd H (by simp)
         ·rw [if_neg c12] at H
          exact absurd H (by simp)
       ·rw [if_neg c8] at H
        have c8b0 : decide (0 < (rd (rd_L1 l0_0 x6_1) a1)) = false := decide_eq_false c8
        clear c8
        have H' := Aside0.mk H
        clear H
        have hcz23_0 : wr.cell? ⟨gb944, 0, none⟩ = some (.slice A0_0 l0_0.length c0_0) := (blk_cell BK944.out 0).trans rfl
        have hcz23_1 : wr.cell? ⟨gb944, 1, none⟩ = some (.int .i64 a0_1) := (blk_cell BK944.out 1).trans rfl
        have hcz23_2 : wr.cell? ⟨gb944, 2, none⟩ = some (.slice A0_2 l0_2.length c0_2) := (blk_cell BK944.out 2).trans rfl
        have hfz23_0 := blk_frozen BK944.out 0
        have hfz23_1 := blk_frozen BK944.out 1
        have hfz23_2 := blk_frozen BK944.out 2
        try go_wp2
        have n0_ := Aside0.mk (blk_drew BK944.out)
        have n1_ := Aside0.mk (below_drew1 HB.out)
        clear BK944
        clear HB
        have BK944 := n0_
        have HB := n1_
        clear n0_ n1_
        have p945 : 0 ≤ (x6_1 : Int) := od_
        have q945 : x6_1 < (l0_0.length : Int) := od_
        obtain ⟨ad945, A945_0, c945_0, e945, hx945_0, hl945_0, hi945_0⟩ := at_L1 HR0_0.out x6_1 p945 q945
        have hw945_0 := hx945_0
        cases e945
        replace hx945_0 := (HB.out.cell (World.block_lt_of_cell? w _ hx945_0)).trans hx945_0
        have HR945_0 := Aside0.mk hi945_0
        have HC945_0 := Aside0.mk hl945_0
        clear hi945_0 hl945_0
        replace p945 := eq_true p945
        replace q945 := eq_true q945
        have p946 : 0 ≤ (a1 : Int) := od_
        have q946 : a1 < ((rd_L1 l0_0 x6_1).length : Int) := od_
        obtain ⟨ad946, e946, hx946_0⟩ := Kd.at_int HR945_0.out a1 p946 q946
        have hw946_0 := hx946_0
        cases e946
        replace hx946_0 := (HB.out.cell (World.block_lt_of_cell? w _ hx946_0)).trans hx946_0
        replace p946 := eq_true p946
        replace q946 := eq_true q946
        refine st_ (n := 35) (S := fun w' => w'.cell? ⟨gb944, 0, none⟩ = some (.slice (some ad945) l0_0.length c0_0) ∧ w'.cell? ⟨gb944, 1, none⟩ = some (.int .i64 a0_1) ∧ w'.cell? ⟨gb944, 2, none⟩ = some (.slice A0_2 l0_2.length c0_2) ∧ w'.cell? (ad945.add (x6_1).toNat) = some (.slice (some ad946) (rd_L1 l0_0 x6_1).length c945_0) ∧ w'.cell? (ad946.add (a1).toNat) = some (.int .i64 (rd (rd_L1 l0_0 x6_1) a1))) (ds := []) ⟨(blk_cell BK944.out 0).trans rfl, (blk_cell BK944.out 1).trans rfl, (blk_cell BK944.out 2).trans rfl, ((HB.out.cell (World.block_lt_of_cell? w _ hw945_0)).trans hw945_0), ((HB.out.cell (World.block_lt_of_cell? w _ hw946_0)).trans hw946_0)⟩ (fun hHeld => ?_); refine with_tabW spec_l05Row.tab5 spec_l05Row.bits5 (fun HT_ HW_ => ?_)
        generalize wr.drew = w24 at BK944 HB HR945_0 hx945_0 hx946_0 hHeld ⊢
        refine pu_ 0 14 ?_; refine pu_ 2 16 ?_; refine pu_ 5 19 ?_; refine tk_ 1 15 ?_; refine pu_ 3 17 ?_; refine tk_ 4 18 ?_; refine pu_ 6 20 ?_; refine tk_ 7 21 ?_; refine pu_ 8 22 ?_; refine pu_ 9 23 ?_; refine pn_ 10 24 ?_; refine pn_ 11 25 ?_; refine pn_ 12 26 ?_; refine pn_ 13 27 ?_; refine pn_ 14 28 ?_; refine pn_ 15 29 ?_; refine pn_ 16 30 ?_; refine pn_ 17 31 ?_; refine pn_ 18 32 ?_; refine pn_ 19 33 ?_; refine pn_ 20 34 ?_; refine pn_ 21 35 ?_; refine pn_ 22 36 ?_; refine pn_ 23 37 ?_; refine pn_ 24 38 ?_; refine pn_ 25 39 ?_; refine pn_ 26 40 ?_; refine pn_ 27 41 ?_; refine pn_ 28 42 ?_; refine pn_ 29 43 ?_; refine pn_ 30 44 ?_; refine pn_ 31 45 ?_; refine pn_ 32 46 ?_; refine pn_ 33 47 ?_; refine pu_ 34 48 ?_
        refine done_ (done_of HT_.out (by kernel_rfl)) ?_
        try go_wp2
        go_roundg k1
        case measure => have := HK1.out; omega
        case rel => exact ⟨(x5_1), (wrap64 (x6_1 + 1)), rs_, rs_, H', ⟨by have := HK1.out; omega⟩, ⟨bk_⟩, ⟨hb_⟩⟩
      ·rw [if_neg c7] at H
       exact absurd H (by simp)
     ·rw [if_neg c6] at H
      exact absurd H (by simp)
    ·rw [if_neg c5] at H
     exact absurd H (by simp)
   ·rw [if_neg c4] at H
    have c4b0 : decide (x6_1 < (l0_0.length : Int)) = false := decide_eq_false c4
    clear c4
    obtain rfl := Option.some.inj H
    have hcz25_0 : wr.cell? ⟨gb944, 0, none⟩ = some (.slice A0_0 l0_0.length c0_0) := (blk_cell BK944.out 0).trans rfl
    have hcz25_1 : wr.cell? ⟨gb944, 1, none⟩ = some (.int .i64 a0_1) := (blk_cell BK944.out 1).trans rfl
    have hcz25_2 : wr.cell? ⟨gb944, 2, none⟩ = some (.slice A0_2 l0_2.length c0_2) := (blk_cell BK944.out 2).trans rfl
    have hfz25_0 := blk_frozen BK944.out 0
    have hfz25_1 := blk_frozen BK944.out 1
    have hfz25_2 := blk_frozen BK944.out 2
    go_wp2
    go_ret
    exact ⟨by first | rfl | (simp [errW_none, errW_some] <;> rfl) | (simp [*, errW_none, errW_some] <;> rfl), hb_⟩
def spec_l05Partner.f (a0 : Int) (a1 : Int) : Option (Int) := if a0 < a1 then (some (wrap64 (a0 + a1))) else (some (wrap64 (a0 - a1)))
theorem spec_l05Partner.calls (a0 : Int) (a1 : Int) (r : Int) (w : World) (h : spec_l05Partner.f a0 a1 = some r) :
  Calls Try.prog 120 #[.int .i64 a0, .int .i64 a1] w fun e w' => e = .returned (.int .i64 r) ∧ Drawn0 w w' := by
 have H : (if a0 < a1 then (some (wrap64 (a0 + a1))) else (some (wrap64 (a0 - a1)))) = some r := h
 clear h
 by_cases c3 : a0 < a1
 ·rw [if_pos c3] at H
  have c3b0 : decide (a0 < a1) = true := decide_eq_true c3
  clear c3
  obtain rfl := Option.some.inj H
  go_enter Try.func120, Try.ntmps120
  go_wp2
  go_ret
  exact ⟨by first | rfl | (simp; done) | (simp [*]; done), by repeat (first | exact Drawn0.refl _ | apply Drawn0.step)⟩
 ·rw [if_neg c3] at H
  have c3b0 : decide (a0 < a1) = false := decide_eq_false c3
  clear c3
  obtain rfl := Option.some.inj H
  go_enter Try.func120, Try.ntmps120
  go_wp2
  go_ret
  exact ⟨by first | rfl | (simp; done) | (simp [*]; done), by repeat (first | exact Drawn0.refl _ | apply Drawn0.step)⟩
end Go.Proofs.Ythdoilfjcgickaa.Pr
end
section
namespace Go.Proofs.Ythdoilfjcgickaa.Lp
open Go.RowKit Go.Proofs.YthdoilfjcgickaaW.PrintWords Go.Proofs.YthdoilfjcgickaaW.PrintLast Go.Proofs.YthdoilfjcgickaaW.PrintMore Go.Proofs.Ythdoilfjcgickaa.Pr Go.Proofs.Ythdoilfjcgickaa.Ma Go.Proofs.Ythdoilfjcgickaa.Dt Go.Proofs.Ythdoilfjcgickaa.Lk Go.Proofs.Ythdoilfjcgickaa.Lt Go.Proofs.Ythdoilfjcgickaa.Lq
theorem tb_reads {w : World} {A0 : Option Addr} {L : List (List Int)} {n m : Nat} (hC : Kd.C (Kd.slice 2 (Kd.int .i64)) w A0 L.length L) (hL : L.length = n) (hr : ∀ x ∈ L, x.length = m) (hn : 0 < n) (hm : 0 < m) :
  ∃ (ad : Addr) (b : Nat → Addr) (cp : Nat → Nat), A0 = some ad ∧ (∀ i, i < n → w.cell? (ad.add i) = some (.slice (some (b i)) m (cp i))) ∧ ∀ i j, i < n → j < m → w.cell? ((b i).add j) = some (.int .i64 (enL L i j)) := by
 subst hL
 have key : ∀ i, ∃ x : Addr × Addr × Nat, i < L.length → A0 = some x.1 ∧ w.cell? (x.1.add i) = some (.slice (some x.2.1) m x.2.2) ∧ ∀ j, j < m → w.cell? (x.2.1.add j) = some (.int .i64 (enL L i j)) := by
  intro i
  by_cases hi : i < L.length
  ·obtain ⟨ad, A', c', eA, hx, hc', hC'⟩ := at_L1 hC (i : Int) (by omega) (by omega)
   have el : rd_L1 L (i : Int) = L.getD i [] := by simp [rd_L1]
   rw [el] at hx hc' hC'
   have eln : (L.getD i []).length = m := hr _ (by rw [List.getD_eq_getElem?_getD, List.getElem?_eq_getElem hi]; exact List.getElem_mem _)
   obtain ⟨ad2, eA2, _⟩ := Kd.at_int hC' 0 (by omega) (by omega)
   subst eA2
   refine ⟨(ad, ad2, c'), fun _ => ⟨eA, by rw [eln, Int.toNat_natCast] at hx; exact hx, fun j hj => ?_⟩⟩
   obtain ⟨ad3, eA3, hx3⟩ := Kd.at_int hC' (j : Int) (by omega) (by omega)
   injection eA3 with eA3
   subst eA3
   rw [Int.toNat_natCast, rd_nat] at hx3
   exact hx3
  ·exact ⟨(⟨0, 0, none⟩, ⟨0, 0, none⟩, 0), fun h => absurd h hi⟩
 obtain ⟨f, hf⟩ := Classical.axiomOfChoice key
 refine ⟨(f 0).1, fun i => (f i).2.1, fun i => (f i).2.2, (hf 0 hn).1, fun i hi => ?_, fun i j hi hj => (hf i hi).2.2 j hj⟩
 have e1 := (hf 0 hn).1
 have e2 := (hf i hi).1
 rw [e1] at e2
 injection e2 with e2
 rw [e2]; exact (hf i hi).2.1
def rowsM (n m : Nat) (Y : Mat) : List (List Int) := (List.range n).map (fun a => rowN Y a m)
theorem rowsM_len (n m : Nat) (Y : Mat) : (rowsM n m Y).length = n := by simp [rowsM]
theorem rowsM_next (n m : Nat) (Y : Mat) : rowsM (n + 1) m Y = rowsM n m Y ++ [rowN Y n m] := by unfold rowsM; rw [List.range_succ, List.map_append]; rfl
theorem rowN_next (Y : Mat) (i k : Nat) : rowN Y i (k + 1) = rowN Y i k ++ [Y i k] := by unfold rowN; rw [List.range_succ, List.map_append]; rfl
theorem rowsM_at {n m : Nat} {Y : Mat} {i : Nat} (hi : i < n) : (rowsM n m Y).getD i [] = rowN Y i m := by unfold rowsM; rw [List.getD_eq_getElem?_getD, List.getElem?_map, List.getElem?_range hi]; rfl
theorem rowN_at {m : Nat} {Y : Mat} {i k : Nat} (hk : k < m) : (rowN Y i m).getD k 0 = Y i k := by unfold rowN; rw [List.getD_eq_getElem?_getD, List.getElem?_map, List.getElem?_range hk]; rfl
theorem rowsM_congr {n m : Nat} {Y Z : Mat} (h : ∀ i j, i < n → j < m → Y i j = Z i j) : rowsM n m Y = rowsM n m Z := List.map_congr_left (fun i hi => List.map_congr_left (fun j hj => h i j (List.mem_range.1 hi) (List.mem_range.1 hj)))
theorem rowsM_set {n m : Nat} {Y : Mat} {i k : Nat} (x : Int) : (rowsM n m Y).set i ((rowN Y i m).set k x) = rowsM n m (mset Y i k x) := by
 refine List.ext_getElem (by simp [rowsM]) (fun a h1 h2 => ?_)
 rw [List.getElem_set]
 have ha : a < n := by simpa [rowsM] using h2
 simp only [rowsM, List.getElem_map, List.getElem_range]
 by_cases e : i = a
 ·subst e
  rw [if_pos rfl]
  refine List.ext_getElem (by simp [rowN]) (fun b h3 h4 => ?_)
  rw [List.getElem_set]
  simp only [rowN, List.getElem_map, List.getElem_range, mset]
  by_cases e2 : k = b
  ·subst e2; simp
  ·rw [if_neg e2, if_neg (fun q => e2 q.2.symm)]
 ·rw [if_neg e]
  refine List.map_congr_left (fun b _ => ?_)
  unfold mset
  rw [if_neg (fun q => e q.1.symm)]
structure Pt (w wr : World) (g7 : Nat) (u0 u2 : Value) (den : Int) (L : List (List Int)) (B : List Int) : Prop where
 below : Below w.heap.size w wr
 g : w.heap.size ≤ g7
 blk : wr.heap[g7]? = some (.cells #[u0, .int .i64 den, u2] 101 (0, 0))
 S : Kd.S (Kd.slice 2 (Kd.int .i64)) 23 wr w.heap.size (fun k => some k ≠ u2.ownBlock) u0 L
 R : Kd.R (Kd.int .i64) 2 wr w.heap.size (fun _ => True) u2 B
structure Pu (w wr : World) (g7 : Nat) (u0 u2 : Value) (den : Int) (L : List (List Int)) (B : List Int) (v : Value) (X : List Int) : Prop where
 below : Below w.heap.size w wr
 g : w.heap.size ≤ g7
 blk : wr.heap[g7]? = some (.cells #[u0, .int .i64 den, u2] 101 (0, 0))
 S : Kd.S (Kd.slice 2 (Kd.int .i64)) 23 wr w.heap.size (fun k => some k ≠ u2.ownBlock ∧ some k ≠ v.ownBlock) u0 L
 R : Kd.R (Kd.int .i64) 2 wr w.heap.size (fun k => True ∧ some k ≠ v.ownBlock) u2 B
 X : Kd.R (Kd.int .i64) 2 wr w.heap.size (fun k => some k ≠ u2.ownBlock) v X
section
variable {w wr w1 : World} {g7 : Nat} {u0 u2 v v1 : Value} {den : Int} {L : List (List Int)} {B X Y : List Int}
theorem Pt.mv (h : Pt w wr g7 u0 u2 den L B) (hb : Below wr.heap.size wr w1) : Pt w w1 g7 u0 u2 den L B :=
 ⟨below_step h.below hb, h.g, blk_below h.blk hb, Kd.S_below h.S hb, Kd.R_below h.R hb⟩
theorem Pu.mv (h : Pu w wr g7 u0 u2 den L B v X) (hb : Below wr.heap.size wr w1) : Pu w w1 g7 u0 u2 den L B v X :=
 ⟨below_step h.below hb, h.g, blk_below h.blk hb, Kd.S_below h.S hb, Kd.R_below h.R hb, Kd.R_below h.X hb⟩
theorem Pu.new (h : Pt w wr g7 u0 u2 den L B) (hb : Below wr.heap.size wr w1) (hX : Kd.R (Kd.int .i64) 2 w1 wr.heap.size (fun _ => True) v X) : Pu w w1 g7 u0 u2 den L B v X :=
 ⟨below_step h.below hb, h.g, blk_below h.blk hb, Kd.S_elder' h.S (Kd.R_base hX) hb, Kd.R_elder' h.R (Kd.R_base hX) hb, Kd.R_mono (Kd.R_lower (Kd.R_new' hX (Kd.R_lt h.R)) h.below.size) (fun _ hk => hk.2)⟩
theorem Pu.grow (h : Pu w wr g7 u0 u2 den L B v X) (hb : Below w.heap.size w w1) (hg : wr.grownBy w1 v.ownBlock) (hat : v1.ownBlock = v.ownBlock ∨ ∃ b, v1.ownBlock = some b ∧ wr.heap.size ≤ b) (hX : Kd.R (Kd.int .i64) 2 w1 w.heap.size (fun k => some k ≠ u2.ownBlock) v1 Y) : Pu w w1 g7 u0 u2 den L B v1 Y :=
 ⟨hb, h.g, blk_grown h.blk hg (Kd.R_ne h.X h.blk (by decide)), Kd.S_after h.S hg hat, Kd.R_after h.R hg hat, hX⟩
theorem Pu.other (h : Pu w wr g7 u0 u2 den L B v X) (hg : wr.grownBy w1 v.ownBlock) {g : Nat} {cs : Array Value} (hblk : wr.heap[g]? = some (.cells cs 101 (0, 0))) : w1.heap[g]? = some (.cells cs 101 (0, 0)) := blk_grown hblk hg (Kd.R_ne h.X hblk (by decide))
theorem Pt.putB {gb c l : Nat} (h : Pt w wr g7 u0 (.slice (some ⟨gb, 0, none⟩) l c) den L B) (j : Nat) (x : Int) : Pt w (wr.setCell ⟨gb, j, none⟩ (.int .i64 x)) g7 u0 (.slice (some ⟨gb, 0, none⟩) l c) den L (B.set j x) ∧ wr.grownBy (wr.setCell ⟨gb, j, none⟩ (.int .i64 x)) (Value.slice (some ⟨gb, 0, none⟩) l c).ownBlock := by
 have hp := Kd.R_putg h.R (j : Int) x
 rw [Int.toNat_natCast] at hp
 have ho : (Value.slice (some ⟨gb, 0, none⟩) l c).ownBlock = some gb := by simp [Value.ownBlock]
 refine ⟨⟨h.below.setCell (Kd.R_base h.R gb ho) _, h.g, blk_grown h.blk hp.2 (ho ▸ Kd.R_ne h.R h.blk (by decide)), ?_, hp.1⟩, ho ▸ hp.2⟩
 refine Kd.S_mono (Kd.S_step (Kd.S_bound h.S) (fun k hk hlt => hp.2.block k hlt (ho ▸ hk.1))) (fun _ hk => hk.1)
theorem tsetR {α : Type} {d : Kd α} {e base g t j : Nat} {ok : Nat → Prop} {W : World} {u x : Value} {xs : List α} {cs : Array Value} (h : d.R e W base ok u xs) (hg : W.heap[g]? = some (.cells cs t (0, 0))) (ht : ∀ q, q ∈ e :: d.E → q ≠ t) : d.R e (W.setCell ⟨g, j, none⟩ x) base ok u xs := Kd.R_set h hg ht j x
theorem tsetS {α : Type} {d : Kd α} {e base g t j : Nat} {ok : Nat → Prop} {W : World} {u x : Value} {xs : List α} {cs : Array Value} (h : Kd.S d e W base ok u xs) (hg : W.heap[g]? = some (.cells cs t (0, 0))) (ht : ∀ q, q ∈ e :: d.E → q ≠ t) : Kd.S d e (W.setCell ⟨g, j, none⟩ x) base ok u xs :=
 Kd.S_mono (Kd.S_step (Kd.S_bound h) (fun k hk hlt => Below.heap_setCell W ⟨g, j, none⟩ x k (fun e1 => by
  obtain ⟨_, _, _, q, hq, cells, hc⟩ := hk
  have e2 : k = g := e1
  rw [e2, hg] at hc
  injection hc with h1
  injection h1 with _ h2 _
  exact ht q hq h2.symm))) (fun _ hk => hk.1)
theorem Pt.putD (h : Pt w wr g7 u0 u2 den L B) (d : Int) : Pt w (wr.setCell ⟨g7, 1, none⟩ (.int .i64 d)) g7 u0 u2 d L B :=
 ⟨h.below.setCell h.g _, h.g, blk_put h.blk 1 _ rfl, tsetS h.S h.blk (by decide), tsetR h.R h.blk (by decide)⟩
theorem Pt.rows {u : Value} (hb : Below w.heap.size w wr) (hg : w.heap.size ≤ g7) (hblk : wr.heap[g7]? = some (.cells #[u0, .int .i64 den, u2] 101 (0, 0)))
  (hS : Kd.S (Kd.slice 2 (Kd.int .i64)) 23 wr w.heap.size (fun k => some k ≠ u2.ownBlock) u L) (hR : Kd.R (Kd.int .i64) 2 wr w.heap.size (fun _ => True) u2 B) : Pt w (wr.setCell ⟨g7, 0, none⟩ u) g7 u u2 den L B :=
 ⟨hb.setCell hg _, hg, blk_put hblk 0 _ rfl, tsetS hS hblk (by decide), tsetR hR hblk (by decide)⟩
theorem S_row {e base n' cap i : Nat} {W : World} {ok : Nat → Prop} {ad : Addr} {Ls : List (List Int)} (h : Kd.S (Kd.slice 2 (Kd.int .i64)) e W base ok (.slice (some ad) n' cap) Ls) (hi : i < n') : ∃ A c, W.cell? (ad.add i) = some (.slice A (Ls.getD i []).length c) := by
 obtain ⟨oki, c, hcl, hM, hcc, _, _⟩ := Kd.S_borrow h ([] : List Int) (i : Int) (by omega) (by omega)
 rw [Int.toNat_natCast] at hM hcc
 obtain ⟨v, hc, hR⟩ := hM
 subst hc
 have hv := hcc 0 v rfl
 rw [show i * (Kd.slice 2 (Kd.int .i64)).sz + 0 = i from by show i * 1 + 0 = i; omega] at hv
 obtain ⟨A, c, rfl⟩ := Kd.R_slice hR
 exact ⟨A, c, hv⟩
theorem S_put {e base n' cap i k : Nat} {W : World} {ok : Nat → Prop} {ad : Addr} {Ls : List (List Int)} {v13 : Value} (h : Kd.S (Kd.slice 2 (Kd.int .i64)) e W base ok (.slice (some ad) n' cap) Ls) (hi : i < n') (hcell : W.cell? (ad.add i) = some v13) (hk : k < (Ls.getD i []).length) :
  ∃ g c, v13 = .slice (some ⟨g, 0, none⟩) (Ls.getD i []).length c ∧ ok g ∧ some g ≠ (Value.slice (some ad) n' cap).ownBlock ∧ (∃ cells, W.heap[g]? = some (.cells cells 2 (0, 0))) ∧ W.cell? ⟨g, k, none⟩ = some (.int .i64 ((Ls.getD i []).getD k 0)) ∧ W.frozen? ⟨g, k, none⟩ = false ∧ base ≤ g ∧
   ∀ x, W.grownBy (W.setCell ⟨g, k, none⟩ (.int .i64 x)) (some g) ∧ Kd.S (Kd.slice 2 (Kd.int .i64)) e (W.setCell ⟨g, k, none⟩ (.int .i64 x)) base ok (.slice (some ad) n' cap) (Ls.set i ((Ls.getD i []).set k x)) := by
 obtain ⟨oki, c, hcl, hM, hcc, hoki, hback⟩ := Kd.S_borrow h ([] : List Int) (i : Int) (by omega) (by omega)
 rw [Int.toNat_natCast] at hM hcc hback
 obtain ⟨v, hc, hR⟩ := hM
 subst hc
 have hv := hcc 0 v rfl
 rw [show i * (Kd.slice 2 (Kd.int .i64)).sz + 0 = i from by show i * 1 + 0 = i; omega, hcell] at hv
 injection hv with hv
 subst hv
 obtain ⟨g, cap8, hv8, hb8, hl8, cells, hc8⟩ := Kd.R_form hR (by omega)
 have ho : v13.ownBlock = some g := by rw [hv8]; simp [Value.ownBlock]
 have hokg := hR.1 g ho
 rw [hv8] at hR
 have hat := Kd.R_celln 0 hR (k : Int) (by omega) (by omega)
 rw [Int.toNat_natCast] at hat
 refine ⟨g, cap8, hv8, (hoki g hokg).1, (hoki g hokg).2, ⟨cells, hc8⟩, by simpa [rdOf] using hat.1, hat.2, hb8, fun x => ?_⟩
 have hp := Kd.R_putg hR (k : Int) x
 rw [Int.toNat_natCast] at hp
 refine ⟨hp.2, hback hp.2 (fun q hq => by injection hq with hq; rw [← hq]; exact hokg) ⟨_, by rw [hv8], ?_⟩⟩
 have e := hp.1
 rw [show (Ls.getD i []).length = ((Ls.getD i []).set k x).length from by simp] at e ⊢
 exact e
end
end Go.Proofs.Ythdoilfjcgickaa.Lp
end
section
namespace Go.Proofs.Ythdoilfjcgickaa.Lp
open Go.RowKit Go.Proofs.YthdoilfjcgickaaW.PrintWords Go.Proofs.YthdoilfjcgickaaW.PrintLast Go.Proofs.YthdoilfjcgickaaW.PrintMore Go.Proofs.Ythdoilfjcgickaa.Pr Go.Proofs.Ythdoilfjcgickaa.Ma Go.Proofs.Ythdoilfjcgickaa.Dt Go.Proofs.Ythdoilfjcgickaa.Lk Go.Proofs.Ythdoilfjcgickaa.Lt Go.Proofs.Ythdoilfjcgickaa.Lq
theorem own_f (B : List Int) (h : B.length ≤ 1000) : spec_l01Own.f B = some B := by
 unfold spec_l01Own.f
 simp only [Option.bind_some]
 rw [if_pos (by simp; omega)]; rfl
theorem pivot_calls (A0 : Option Addr) (c0 : Nat) (L : List (List Int)) (den : Int) (A2 : Option Addr) (c2 : Nat) (B : List Int) (w : World) (n m r v : Nat)
  (hC0 : Kd.C (Kd.slice 2 (Kd.int .i64)) w A0 L.length L) (hC2 : Kd.C (Kd.int .i64) w A2 B.length B) (hc2 : B.length ≤ c2) (hL : L.length = n) (hr : ∀ x ∈ L, x.length = m) (hrn : r < n) (hv : v < m) (hB : r < B.length) (hB2 : B.length ≤ 1000) (hn2 : n ≤ 1000) (hm2 : m ≤ 1000) (hden : den ≠ 0) :
  Calls Try.prog 119 #[.agg #[.slice A0 L.length c0, .int .i64 den, .slice A2 B.length c2], .int .i64 r, .int .i64 v] w fun e w' => ∃ v0 v2 : Value, e = .returned (.agg #[v0, .int .i64 (stD (enL L) r v), v2]) ∧ Kd.S (Kd.slice 2 (Kd.int .i64)) 23 w' w.heap.size (fun k => some k ≠ v2.ownBlock) v0 (rowsM n m (stT (enL L) den r v)) ∧ Kd.R (Kd.int .i64) 2 w' w.heap.size (fun _ => True) v2 (B.set r (v : Int)) ∧ Below w.heap.size w w' := by
 obtain ⟨ad, b, cp, rfl, hrow, hnum⟩ := tb_reads hC0 hL hr (by omega) (by omega)
 have HB := Aside0.mk (Below.refl w.heap.size w)
 have HROW := Aside0.mk hrow
 have HNUM := Aside0.mk hnum
 have HC2 := Aside0.mk hC2
 have HC2c := Aside0.mk hc2
 have HR := Aside0.mk hrn
 have HV := Aside0.mk hv
 have HB1 := Aside0.mk hB
 have HB2 := Aside0.mk hB2
 have HN2 := Aside0.mk hn2
 have HM2 := Aside0.mk hm2
 have HD := Aside0.mk hden
 rw [hL]
 obtain ⟨T, hT⟩ : ∃ T : Mat, enL L = T := ⟨_, rfl⟩
 rw [hT] at HNUM
 rw [hT]
 obtain ⟨p, hp⟩ : ∃ p, T r v = p := ⟨_, rfl⟩
 have HP := Aside0.mk hp
 have hrz : (r : Int) < (n : Int) := by omega
 have h0r : (0 : Int) ≤ (r : Int) := by omega
 have hvz : (v : Int) < (m : Int) := by omega
 have h0v : (0 : Int) ≤ (v : Int) := by omega
 have hrb : (r : Int) < (B.length : Int) := by omega
 clear hC0 hC2 hc2 hL hr hrn hv hB hB2 hn2 hm2 hden hrow hnum hp hT
 go_enter Try.func119, Try.ntmps119
 go_wp2_with (first | ((with_reducible refine gate_dst (N := 3) rfl ?_); refine box_event ?hg (N := 3) ?hd (cs := #[.slice (some ad) n c0, .int .i64 den, .slice A2 B.length c2]) (t := 101) ?hr ?_; (case hd => rfl); (case hg => rfl); (case hr => first | (go_simp; done) | (go_simp; rfl)); intro g3 hg w3 hbox hb; replace HB := Aside0.mk (below_step HB.out hb); have B3 := Aside0.mk hbox; clear hb hbox hg) | ((with_reducible refine gate_dst (N := 6) rfl ?_); refine box_event ?hg (N := 6) ?hd (cs := #[.slice none 0 0, .int .i64 0, .slice none 0 0]) (t := 101) ?hr ?_; (case hd => rfl); (case hg => rfl); (case hr => first | (go_simp; done) | (go_simp; rfl)); intro g6 hg w4 hbox hb; have HG6 : Aside0 (w.heap.size ≤ g6) := ⟨by rw [hg]; exact HB.out.size⟩; replace HB := Aside0.mk (below_step HB.out hb); replace B3 := Aside0.mk (blk_below B3.out hb); have B6 := Aside0.mk hbox; clear hb hbox hg))
 replace HB := Aside0.mk (below_step HB.out (below_drew (Below.refl w4.heap.size w4)))
 replace B3 := Aside0.mk (blk_below B3.out (below_drew (Below.refl w4.heap.size w4)))
 replace B6 := Aside0.mk (blk_below B6.out (below_drew (Below.refl w4.heap.size w4)))
 have hx1 : w4.drew.cell? (ad.add r) = some (.slice (some (b r)) m (cp r)) := (HB.out.cell (World.block_lt_of_cell? w _ (HROW.out r HR.out))).trans (HROW.out r HR.out)
 have hx2 : w4.drew.cell? ((b r).add v) = some (.int .i64 p) := (HB.out.cell (World.block_lt_of_cell? w _ (HNUM.out r v HR.out HV.out))).trans ((HNUM.out r v HR.out HV.out).trans (by rw [HP.out]))
 refine st_ (n := 23) (S := fun w' => w'.cell? ⟨g3, 0, none⟩ = some (.slice (some ad) n c0) ∧ w'.cell? ⟨g3, 2, none⟩ = some (.slice A2 B.length c2) ∧ w'.cell? (ad.add r) = some (.slice (some (b r)) m (cp r)) ∧ w'.cell? ((b r).add v) = some (.int .i64 p)) (ds := []) ⟨cz_ B3 0, cz_ B3 2, hx1, hx2⟩ (fun hHeld => ?_)
 generalize w4.drew = w5 at HB B3 B6 hx1 hx2 hHeld ⊢
 refine pu_ 0 15 ?_; refine tk_ 1 16 ?_; refine pu_ 2 17 ?_; refine pu_ 3 18 ?_; refine tk_ 4 19 ?_; refine pu_ 5 20 ?_; refine pu_ 6 21 ?_; refine tk_ 7 22 ?_; refine pu_ 8 23 ?_; refine tk_ 9 24 ?_
 refine pu_ 12 27 ?_; refine tk_ 13 28 ?_; refine pu_ 14 29 ?_; refine pu_ 15 30 ?_; refine tk_ 16 31 ?_; refine pu_ 17 32 ?_; refine pu_ 18 33 ?_; refine tk_ 19 34 ?_
 refine join_ (σ := Nat × Value) 2 (fm 23 2097151) (fun s => [(25, s.2), (26, .agg #[.slice none 0 0, .int .i64 p, s.2]), (7, .pointer (some ⟨s.1, 0, none⟩))]) (fun s w' => Below w.heap.size w w' ∧ w.heap.size ≤ s.1 ∧ w'.heap[s.1]? = some (.cells #[.slice none 0 0, .int .i64 0, .slice none 0 0] 101 (0, 0)) ∧ Kd.R (Kd.int .i64) 2 w' w.heap.size (fun _ => True) s.2 B ∧ w'.heap[g3]? = some (.cells #[.slice (some ad) n c0, .int .i64 den, .slice A2 B.length c2] 101 (0, 0)) ∧ w'.heap[g6]? = some (.cells #[.slice none 0 0, .int .i64 0, .slice none 0 0] 101 (0, 0)) ∧ g3 ≠ s.1 ∧ g6 ≠ s.1) ?_ ?_
 rotate_left
 ·intro hJ
  refine two_ (i := 10) (j := 20) (Ni := some 25) (Nj := some 7) (fm 23 1046527) (fm 23 2094079) rfl rfl rfl rfl (by kernel_rfl) (by decide) (by decide) (fun K hK => ?_) (fun K hK => ?_)
  ·refine ca_ Try.func89 #[.slice A2 B.length c2] ?_
   refine (spec_l01Own.calls A2 c2 B B w5 (Kd.C_below HC2.out HB.out) HC2c.out (own_f B HB2.out)).mono ?_
   rintro e w6 ⟨v2, rfl, hR, hb⟩
   obtain ⟨A9, c9, rfl⟩ := Kd.R_slice hR
   refine ⟨_, rfl, ?_⟩
   have HRB := Aside0.mk (Kd.R_lower hR HB.out.size)
   replace HB := Aside0.mk (below_step HB.out hb)
   replace B3 := Aside0.mk (blk_below B3.out hb)
   replace B6 := Aside0.mk (blk_below B6.out hb)
   have hx1' := (hb.cell (World.block_lt_of_cell? w5 _ hx1)).trans hx1
   have hx2' := (hb.cell (World.block_lt_of_cell? w5 _ hx2)).trans hx2
   clear hR hb hx1 hx2 hHeld
   refine hK.out _ _ ⟨cz_ B3 0, cz_ B3 2, hx1', hx2'⟩ (fun hHeld => ?_)
   clear hK K
   refine no_ ?_
   refine pu_ 11 26 ?_
   refine on_ 20 (some 7) (fun K hK => ?_)
   refine box_step (by rfl) (N := 7) rfl (cs := #[.slice none 0 0, .int .i64 0, .slice none 0 0]) (t := 101) (by first | (go_simp; done) | (go_simp; rfl)) ?_
   intro g7 hg w8 hbox hb
   have hx1 := (hb.cell (World.block_lt_of_cell? w6 _ hx1')).trans hx1'
   have hx2 := (hb.cell (World.block_lt_of_cell? w6 _ hx2')).trans hx2'
   have N3 : g3 ≠ g7 := by have := blk_lt B3.out; omega
   have N6 : g6 ≠ g7 := by have := blk_lt B6.out; omega
   have hsz := HB.out.size
   replace HB := Aside0.mk (below_step HB.out hb)
   replace B3 := Aside0.mk (blk_below B3.out hb)
   replace B6 := Aside0.mk (blk_below B6.out hb)
   replace HRB := Aside0.mk (Kd.R_below HRB.out hb)
   refine hK.out _ _ ⟨cz_ B3 0, cz_ B3 2, hx1, hx2⟩ (fun hHeld => ?_)
   clear hK K
   refine no_ ?_
   exact norm_ (by first | (simp only [putAll, Act.put, List.setIfInBounds_toArray, List.set_cons_zero, List.set_cons_succ]; done) | (simp only [putAll, Act.put, List.setIfInBounds_toArray, List.set_cons_zero, List.set_cons_succ]; rfl)) (hJ (g7, .slice A9 B.length c9) _ ⟨HB.out, by omega, hbox, HRB.out, B3.out, B6.out, N3, N6⟩)
  ·refine box_step (by rfl) (N := 7) rfl (cs := #[.slice none 0 0, .int .i64 0, .slice none 0 0]) (t := 101) (by first | (go_simp; done) | (go_simp; rfl)) ?_
   intro g7 hg w8 hbox hb
   have hx1' := (hb.cell (World.block_lt_of_cell? w5 _ hx1)).trans hx1
   have hx2' := (hb.cell (World.block_lt_of_cell? w5 _ hx2)).trans hx2
   have N3 : g3 ≠ g7 := by have := blk_lt B3.out; omega
   have N6 : g6 ≠ g7 := by have := blk_lt B6.out; omega
   have hsz := HB.out.size
   have HG7 : w.heap.size ≤ g7 := by omega
   replace HB := Aside0.mk (below_step HB.out hb)
   replace B3 := Aside0.mk (blk_below B3.out hb)
   replace B6 := Aside0.mk (blk_below B6.out hb)
   clear hx1 hx2 hHeld hb hg
   refine hK.out _ _ ⟨cz_ B3 0, cz_ B3 2, hx1', hx2'⟩ (fun hHeld => ?_)
   clear hK K
   refine no_ ?_
   refine on_ 10 (some 25) (fun K hK => ?_)
   refine ca_ Try.func89 #[.slice A2 B.length c2] ?_
   refine (spec_l01Own.calls A2 c2 B B w8 (Kd.C_below HC2.out HB.out) HC2c.out (own_f B HB2.out)).mono ?_
   rintro e w9 ⟨v2, rfl, hR, hb⟩
   obtain ⟨A9, c9, rfl⟩ := Kd.R_slice hR
   refine ⟨_, rfl, ?_⟩
   have HRB := Aside0.mk (Kd.R_lower hR HB.out.size)
   replace HB := Aside0.mk (below_step HB.out hb)
   replace B3 := Aside0.mk (blk_below B3.out hb)
   replace B6 := Aside0.mk (blk_below B6.out hb)
   have hx1 := (hb.cell (World.block_lt_of_cell? w8 _ hx1')).trans hx1'
   have hx2 := (hb.cell (World.block_lt_of_cell? w8 _ hx2')).trans hx2'
   replace hbox := blk_below hbox hb
   clear hR hb hx1' hx2' hHeld
   refine hK.out _ _ ⟨cz_ B3 0, cz_ B3 2, hx1, hx2⟩ (fun hHeld => ?_)
   clear hK K
   refine no_ ?_
   refine pu_ 11 26 ?_
   exact norm_ (by first | (simp only [putAll, Act.put, List.setIfInBounds_toArray, List.set_cons_zero, List.set_cons_succ]; done) | (simp only [putAll, Act.put, List.setIfInBounds_toArray, List.set_cons_zero, List.set_cons_succ]; rfl)) (hJ (g7, .slice A9 B.length c9) _ ⟨HB.out, HG7, hbox, HRB.out, B3.out, B6.out, N3, N6⟩)
 rintro ⟨g7, v2⟩ w6 ⟨hb, hG7, hbox, hRB, hb3, hb6, N3, N6⟩
 replace HB := Aside0.mk hb
 replace B3 := Aside0.mk hb3
 replace B6 := Aside0.mk hb6
 have B7 := Aside0.mk hbox
 have HRB := Aside0.mk hRB
 have HG7 := Aside0.mk hG7
 have HN3 := Aside0.mk N3
 have HN6 := Aside0.mk N6
 clear hb hG7 hbox hRB hb3 hb6 hx1 hx2 hHeld
 refine norm_ (a' := ?_) ?_ ?_
 rotate_left
 ·simp only [putAll, Act.put, List.setIfInBounds_toArray, List.set_cons_zero, List.set_cons_succ]
  rfl
 obtain ⟨gb, cb, rfl, hgb, hgb2, cellsb, hcb⟩ := Kd.R_form HRB.out (by have := HB1.out; omega)
 have HGB := Aside0.mk hgb
 have ho : (Value.slice (some ⟨gb, 0, none⟩) B.length cb).ownBlock = some gb := by simp [Value.ownBlock]
 have tne : ∀ g cs, w6.heap[g]? = some (.cells cs 101 (0, 0)) → g ≠ gb := fun g cs h e => by
  subst e
  rw [h] at hcb
  injection hcb with h1
  injection h1 with _ h3 _
  revert h3; decide
 have hb3 := tne _ _ B3.out
 have hb6 := tne _ _ B6.out
 have hb7 := tne _ _ B7.out
 have hb3' := Ne.symm hb3
 have hb6' := Ne.symm hb6
 have hb7' := Ne.symm hb7
 have hcell := Kd.R_celln 0 HRB.out (r : Int) (by omega) (by have := HB1.out; omega)
 rw [Int.toNat_natCast] at hcell
 have hfr := hcell.2
 replace hcell := hcell.1
 have hz0 := cz_ B7 0
 have hz0f := blk_frozen B7.out 0
 have hz1 := cz_ B7 1
 have hz1f := blk_frozen B7.out 1
 have hz2 := cz_ B7 2
 have hz2f := blk_frozen B7.out 2
 clear tne ho hgb hgb2 hcb
 refine on_ 21 none (fun K hK => ?_)
 refine skip_ (w1 := ?_) (by rfl) rfl ?_ ?_
 rotate_left
 ·go_simp
  rfl
 have P7 : Aside0 (Pt w (((w6.setCell ⟨g7, 0, none⟩ (.slice none 0 0)).setCell ⟨g7, 1, none⟩ (.int .i64 p)).setCell ⟨g7, 2, none⟩ (.slice (some ⟨gb, 0, none⟩) B.length cb)) g7 (.slice none 0 0) (.slice (some ⟨gb, 0, none⟩) B.length cb) p [] B) := ⟨((HB.out.setCell HG7.out _).setCell HG7.out _).setCell HG7.out _, HG7.out, blk_put (blk_put (blk_put B7.out 0 _ rfl) 1 _ rfl) 2 _ rfl, Kd.S_nil _ _ _ _ _, tsetR (tsetR (tsetR HRB.out B7.out (by decide)) (blk_put B7.out 0 _ rfl) (by decide)) (blk_put (blk_put B7.out 0 _ rfl) 1 _ rfl) (by decide)⟩
 replace B3 := Aside0.mk (blk_far (blk_far (blk_far B3.out (p := ⟨g7, 0, none⟩) HN3.out (.slice none 0 0)) (p := ⟨g7, 1, none⟩) HN3.out (.int .i64 p)) (p := ⟨g7, 2, none⟩) HN3.out (.slice (some ⟨gb, 0, none⟩) B.length cb))
 replace B6 := Aside0.mk (blk_far (blk_far (blk_far B6.out (p := ⟨g7, 0, none⟩) HN6.out (.slice none 0 0)) (p := ⟨g7, 1, none⟩) HN6.out (.int .i64 p)) (p := ⟨g7, 2, none⟩) HN6.out (.slice (some ⟨gb, 0, none⟩) B.length cb))
 clear B7 hz0 hz0f hz1 hz1f hz2 hz2f hcell hfr HRB HB
 generalize ((w6.setCell ⟨g7, 0, none⟩ (.slice none 0 0)).setCell ⟨g7, 1, none⟩ (.int .i64 p)).setCell ⟨g7, 2, none⟩ (.slice (some ⟨gb, 0, none⟩) B.length cb) = w7 at P7 B3 B6 ⊢
 have hx1 : w7.cell? (ad.add r) = some (.slice (some (b r)) m (cp r)) := (P7.out.below.cell (World.block_lt_of_cell? w _ (HROW.out r HR.out))).trans (HROW.out r HR.out)
 have hx2 : w7.cell? ((b r).add v) = some (.int .i64 p) := (P7.out.below.cell (World.block_lt_of_cell? w _ (HNUM.out r v HR.out HV.out))).trans ((HNUM.out r v HR.out HV.out).trans (by rw [HP.out]))
 refine hK.out _ _ ⟨cz_ B3 0, cz_ B3 2, hx1, hx2⟩ (fun hHeld => ?_)
 clear hK K hx1 hx2
 refine pu_ 22 8 ?_
 refine done_ (by kernel_rfl) ?_
 clear hHeld
 have hcell := Kd.R_celln 0 P7.out.R (r : Int) (by omega) (by have := HB1.out; omega)
 rw [Int.toNat_natCast] at hcell
 have hfr := hcell.2
 replace hcell := hcell.1
 have hz2 := cz_ ⟨P7.out.blk⟩ 2
 go_wp2
 have HPB := P7.out.putB r (v : Int)
 replace P7 := Aside0.mk HPB.1
 have hto : (Value.slice (some ⟨gb, 0, none⟩) B.length cb).ownBlock = some gb := by simp [Value.ownBlock]
 replace B3 := Aside0.mk (blk_grown B3.out HPB.2 (by rw [hto]; intro e; injection e with e; exact hb3 e))
 replace B6 := Aside0.mk (blk_grown B6.out HPB.2 (by rw [hto]; intro e; injection e with e; exact hb6 e))
 obtain ⟨B', hB'⟩ : ∃ B', B.set r (v : Int) = B' := ⟨_, rfl⟩
 rw [hB'] at P7
 have HBX := Aside0.mk hB'
 clear hB'
 clear hcell hfr hz2 HPB hto
 generalize w7.setCell ⟨gb, r, none⟩ (.int .i64 (v : Int)) = w8 at P7 B3 B6 ⊢
 obtain ⟨X, hX⟩ : ∃ X : Mat, stA T den r v = X := ⟨_, rfl⟩
 have HX := Aside0.mk hX
 clear hX
 generalize hu2 : (Value.slice (some ⟨gb, 0, none⟩) B.length cb) = u2 at P7 ⊢
 clear hb3 hb6 hb7 hb3' hb6' hb7'
 go_loopg [9] n (fun gg v9 wr => ∃ (i : Nat) (u0 : Value), i ≤ n ∧ n - i ≤ gg ∧ v9 = .int .i64 (i : Int) ∧ Aside0 (Pt w wr g7 u0 u2 p (rowsM i m X) B') ∧ Aside0 (wr.heap[g3]? = some (.cells #[.slice (some ad) n c0, .int .i64 den, .slice A2 B.length c2] 101 (0, 0))) ∧ Aside0 (wr.heap[g6]? = some (.cells #[.slice none 0 0, .int .i64 0, .slice none 0 0] 101 (0, 0))))
 case atStart => exact ⟨0, _, Nat.zero_le _, by omega, rfl, P7, B3, B6⟩
 case round =>
  clear P7 B3 B6
  obtain ⟨i, u0, hi, hg, rfl, PT, B3, B6⟩ := hrel
  have HG := Aside0.mk hg
  by_cases hlt : i < n
  ·have hltz : (i : Int) < (n : Int) := by omega
   have h0z : (0 : Int) ≤ (i : Int) := by omega
   have hw : IntKind.i64.wrap ((i : Int) + 1) = ((i + 1 : Nat) : Int) := by rw [IntWalk.i64_in _ (by have := HN2.out; omega)]; rfl
   have HW := Aside0.mk hw
   have HLT := Aside0.mk hlt
   have hz0 := cz_ B3 0
   clear hi hg hlt
   go_wp2_with (first | ((with_reducible refine gate_dst (N := 47) rfl ?_); refine Kd.R_lit (Kd.int .i64) (w0 := wr) wr.heap.size 2 ?hg (N := 47) ?hd (xs := ([] : List Int)) (inner := []) (ok := fun _ => True) (okp := fun _ => True) ?hr ?hp (fun _ hk => hk) trivial (Below.refl _ _) (Nat.le_refl _) (by simp) ?_; (case hd => rfl); (case hg => rfl); (case hr => first | (go_simp; done) | (go_simp; rfl)); (case hp => exact (Reps.none _ _)); intro v10 w10 ho hb hg_ hat_; have PU := Aside0.mk (Pu.new PT.out hb ho); replace B3 := Aside0.mk (blk_below B3.out hb); replace B6 := Aside0.mk (blk_below B6.out hb); clear ho hb hg_ hat_ hz0 PT))
   go_loopg [10, 11] m (fun gg v10 v11 wr => ∃ (k : Nat), k ≤ m ∧ m - k ≤ gg ∧ v11 = .int .i64 (k : Int) ∧ Aside0 (Pu w wr g7 u0 u2 p (rowsM i m X) B' v10 (rowN X i k)) ∧ Aside0 (wr.heap[g3]? = some (.cells #[.slice (some ad) n c0, .int .i64 den, .slice A2 B.length c2] 101 (0, 0))) ∧ Aside0 (wr.heap[g6]? = some (.cells #[.slice none 0 0, .int .i64 0, .slice none 0 0] 101 (0, 0))))
   case atStart => exact ⟨0, Nat.zero_le _, by omega, rfl, PU, B3, B6⟩
   case round =>
    clear PU B3 B6
    obtain ⟨k, hk, hg2, rfl, PU, B3, B6⟩ := hrel
    have HG2 := Aside0.mk hg2
    by_cases hkm : k < m
    ·have hkz : (k : Int) < (m : Int) := by omega
     have h0k : (0 : Int) ≤ (k : Int) := by omega
     have hwk : IntKind.i64.wrap ((k : Int) + 1) = ((k + 1 : Nat) : Int) := by rw [IntWalk.i64_in _ (by have := HM2.out; omega)]; rfl
     have HWK := Aside0.mk hwk
     have HKM := Aside0.mk hkm
     have hx1 : wr.cell? (ad.add i) = some (.slice (some (b i)) m (cp i)) := (PU.out.below.cell (World.block_lt_of_cell? w _ (HROW.out i HLT.out))).trans (HROW.out i HLT.out)
     have hx2 : wr.cell? ((b i).add k) = some (.int .i64 (T i k)) := (PU.out.below.cell (World.block_lt_of_cell? w _ (HNUM.out i k HLT.out hkm))).trans (HNUM.out i k HLT.out hkm)
     have hz0 := cz_ B3 0
     obtain ⟨A10, c10, e10⟩ := Kd.R_slice PU.out.X
     have hl10 : (rowN X i k).length = k := rowN_len X i k
     rw [hl10] at e10
     subst e10
     clear hk hg2 hkm hl10
     by_cases hir : i = r
     ·have hirz : ((i : Int) == (r : Int)) = true := by simp [hir]
      have HIR := Aside0.mk hir
      clear hir
      go_wp2_with (first | ((with_reducible refine gate_builtin (b := .append) (xs := #[.tmp 61, .tmp 70]) rfl ?_); at_builtin; refine Kd.R_append (Kd.int .i64) (w0 := w) w.heap.size rfl (.tmp 61) (.tmp 70) 23 2 (.int .i64 0) 8 rfl Try.underlying23 info2 rfl (by decide) (by omega) (.slice A10 k c10) (rowN X i k) (T i k) [.int .i64 (T i k)] (fun k_ => some k_ ≠ u2.ownBlock) (fun _ => False) rfl rfl rfl (fun _ hk => hk.elim) (Kd.fresh' (Kd.R_lt PU.out.R)) PU.out.X PU.out.below PU.out.below.size ?aL ?_; (case aL => have := HM2.out; have := HKM.out; rw [rowN_len]; omega); intro v11 w11 ho hb hg hat; replace B3 := Aside0.mk (PU.out.other hg B3.out); replace B6 := Aside0.mk (PU.out.other hg B6.out); replace PU := Aside0.mk (PU.out.grow hb hg hat ho); clear ho hb hg hat hx1 hx2 hz0))
      go_roundg (m - (k + 1))
      case measure => have := HG2.out; have := HKM.out; omega
      case rel =>
       refine ⟨k + 1, HKM.out, by omega, by first | rfl | (rw [HWK.out]) | (simp [HWK.out]), ?_, B3, B6⟩
       rw [rowN_next, show X i k = T i k from by rw [← HX.out]; unfold stA; rw [if_pos HIR.out, HIR.out]]
       exact PU
     ·have hirz : ((i : Int) == (r : Int)) = false := by simp; omega
      have hirn : ¬ (i : Int) = (r : Int) := by omega
      have HIR := Aside0.mk hir
      clear hir
      have hx3 : wr.cell? ((b i).add v) = some (.int .i64 (T i v)) := (PU.out.below.cell (World.block_lt_of_cell? w _ (HNUM.out i v HLT.out HV.out))).trans (HNUM.out i v HLT.out HV.out)
      have hx4 : wr.cell? (ad.add r) = some (.slice (some (b r)) m (cp r)) := (PU.out.below.cell (World.block_lt_of_cell? w _ (HROW.out r HR.out))).trans (HROW.out r HR.out)
      have hx5 : wr.cell? ((b r).add k) = some (.int .i64 (T r k)) := (PU.out.below.cell (World.block_lt_of_cell? w _ (HNUM.out r k HR.out HKM.out))).trans (HNUM.out r k HR.out HKM.out)
      have hz1 := cz_ B3 1
      have hd0 : (den == 0) = false := by have := HD.out; simpa using this
      have hd1 : ¬ den = 0 := HD.out
      go_wp2
      replace PU := Aside0.mk (PU.out.mv (below_drew (Below.refl wr.heap.size wr)))
      replace B3 := Aside0.mk (blk_below B3.out (below_drew (Below.refl wr.heap.size wr)))
      replace B6 := Aside0.mk (blk_below B6.out (below_drew (Below.refl wr.heap.size wr)))
      refine st_ (n := 35) (S := fun w' => w'.cell? ⟨g3, 0, none⟩ = some (.slice (some ad) n c0) ∧ w'.cell? ⟨g3, 1, none⟩ = some (.int .i64 den) ∧ w'.cell? (ad.add i) = some (.slice (some (b i)) m (cp i)) ∧ w'.cell? ((b i).add k) = some (.int .i64 (T i k)) ∧ w'.cell? ((b i).add v) = some (.int .i64 (T i v)) ∧ w'.cell? (ad.add r) = some (.slice (some (b r)) m (cp r)) ∧ w'.cell? ((b r).add k) = some (.int .i64 (T r k))) (ds := []) ⟨hz0, hz1, hx1, hx2, hx3, hx4, hx5⟩ (fun hHeld => ?_)
      generalize wr.drew = w10 at PU B3 B6 hHeld ⊢
      clear hz0 hz1 hx1 hx2 hx3 hx4 hx5
      refine pu_ 0 72 ?_; refine pu_ 1 73 ?_; refine tk_ 2 74 ?_; refine pu_ 3 75 ?_; refine pu_ 4 76 ?_; refine tk_ 5 77 ?_; refine pu_ 6 78 ?_; refine pu_ 7 79 ?_; refine tk_ 8 80 ?_; refine pu_ 9 81 ?_; refine pu_ 10 82 ?_; refine pu_ 11 83 ?_; refine tk_ 12 84 ?_; refine pu_ 13 85 ?_; refine pu_ 14 86 ?_; refine tk_ 15 87 ?_; refine pu_ 16 88 ?_; refine pu_ 17 89 ?_; refine tk_ 18 90 ?_; refine pu_ 19 91 ?_; refine tk_ 20 92 ?_; refine pu_ 21 93 ?_; refine pu_ 22 94 ?_; refine tk_ 23 95 ?_; refine pu_ 24 96 ?_; refine pu_ 25 97 ?_; refine tk_ 26 98 ?_; refine pu_ 27 99 ?_; refine pu_ 28 100 ?_; refine pu_ 29 101 ?_; refine tk_ 30 102 ?_; refine pu_ 31 103 ?_
      have hmv := fun (W : World) (hb : Below w.heap.size w W) => (⟨(hb.cell (World.block_lt_of_cell? w _ (HROW.out i HLT.out))).trans (HROW.out i HLT.out), (hb.cell (World.block_lt_of_cell? w _ (HNUM.out i k HLT.out HKM.out))).trans (HNUM.out i k HLT.out HKM.out), (hb.cell (World.block_lt_of_cell? w _ (HNUM.out i v HLT.out HV.out))).trans (HNUM.out i v HLT.out HV.out), (hb.cell (World.block_lt_of_cell? w _ (HROW.out r HR.out))).trans (HROW.out r HR.out), (hb.cell (World.block_lt_of_cell? w _ (HNUM.out r k HR.out HKM.out))).trans (HNUM.out r k HR.out HKM.out)⟩ : W.cell? (ad.add i) = some (.slice (some (b i)) m (cp i)) ∧ W.cell? ((b i).add k) = some (.int .i64 (T i k)) ∧ W.cell? ((b i).add v) = some (.int .i64 (T i v)) ∧ W.cell? (ad.add r) = some (.slice (some (b r)) m (cp r)) ∧ W.cell? ((b r).add k) = some (.int .i64 (T r k)))
      have HMV := Aside0.mk hmv
      clear hmv
      refine on_ 32 (some 104) (fun K hK => ?_)
      refine va_ ?_
      refine hK.out _ _ ⟨(blk_cell (blk_alloc B3.out _) 0).trans rfl, (blk_cell (blk_alloc B3.out _) 1).trans rfl, HMV.out _ (PU.out.below.alloc PU.out.below.size _)⟩ (fun hHeld => ?_)
      clear hK K
      refine no_ ?_
      refine on_ 33 (some 105) (fun K hK => ?_)
      refine Kd.R_append_step (Kd.int .i64) (w0 := w) w.heap.size (by rfl) (.tmp 72) (.tmp 104) 23 2 (.int .i64 0) 8 rfl Try.underlying23 info2 rfl (by decide) (by omega) (.slice A10 k c10) (rowN X i k) (wrap64 (Int.tdiv (wrap64 (wrap64 (T i k * p) - wrap64 (T i v * T r k))) den)) [.int .i64 (wrap64 (Int.tdiv (wrap64 (wrap64 (T i k * p) - wrap64 (T i v * T r k))) den))] (fun k_ => some k_ ≠ u2.ownBlock) (fun _ => False) rfl rfl rfl (fun _ hk => hk.elim) (Kd.fresh' (Kd.R_lt PU.out.R)) PU.out.X PU.out.below PU.out.below.size ?aL ?_
      case aL => have := HM2.out; have := HKM.out; rw [rowN_len]; omega
      intro v11 w11 ho hb hg hat
      replace B3 := Aside0.mk (PU.out.other hg B3.out)
      replace B6 := Aside0.mk (PU.out.other hg B6.out)
      replace PU := Aside0.mk (PU.out.grow hb hg hat ho)
      clear ho hb hg hat hHeld
      refine hK.out _ _ ⟨cz_ B3 0, cz_ B3 1, HMV.out _ PU.out.below⟩ (fun hHeld => ?_)
      clear hK K
      refine nd_ 105 ?_
      refine pu_ 34 10 ?_
      refine done_ (by kernel_rfl) ?_
      clear hHeld HMV
      go_wp2
      go_roundg (m - (k + 1))
      case measure => have := HG2.out; have := HKM.out; omega
      case rel =>
       refine ⟨k + 1, HKM.out, by omega, by first | rfl | (rw [HWK.out]) | (simp [HWK.out]), ?_, B3, B6⟩
       rw [rowN_next, show X i k = (wrap64 (Int.tdiv (wrap64 (wrap64 (T i k * p) - wrap64 (T i v * T r k))) den)) from by rw [← HX.out]; unfold stA; rw [if_neg HIR.out]; unfold evT; rw [HP.out]]
       exact PU
    ·have hkz : ¬ (k : Int) < (m : Int) := by omega
     obtain rfl : k = m := by omega
     have hx1 : wr.cell? (ad.add i) = some (.slice (some (b i)) k (cp i)) := (PU.out.below.cell (World.block_lt_of_cell? w _ (HROW.out i HLT.out))).trans (HROW.out i HLT.out)
     have hz0 := cz_ B3 0
     have hg0 := cz_ ⟨PU.out.blk⟩ 0
     obtain ⟨A10, c10, e10⟩ := Kd.R_slice PU.out.X
     have hl10 : (rowN X i k).length = k := rowN_len X i k
     rw [hl10] at e10
     subst e10
     clear hk hg2 hkm hl10
     have HA := Aside0.mk (Kd.R_apart' PU.out.X (Kd.S_typed PU.out.S) (by decide))
     obtain ⟨L1, hL1⟩ : ∃ L1, rowsM i k X ++ [rowN X i k] = L1 := ⟨_, rfl⟩
     have HL1 := Aside0.mk hL1
     clear hL1
     go_wp2_with (first | ((with_reducible refine gate_builtin (b := .append) (xs := #[.tmp 107, .tmp 109]) rfl ?_); at_builtin; refine Kd.S_append (Kd.slice 2 (Kd.int .i64)) (w0 := w) w.heap.size rfl (.tmp 107) (.tmp 109) 22 23 (.slice none 0 0) 24 rfl Try.underlying22 info23 rfl (by decide) (by omega) u0 (rowsM i k X) (rowN X i k) [.slice A10 k c10] (fun k_ => some k_ ≠ u2.ownBlock) (fun k_ => some k_ = (.slice A10 k c10 : Value).ownBlock) rfl rfl ?aP ?aQ ?aF ?aO PU.out.below PU.out.below.size ?aL ?_; (case aP => exact Kd.M_row (Kd.R_mono (Kd.R_tight rfl HA.out) (fun _ h => h))); (case aQ => exact fun k_ hk => HA.out.1 k_ hk.symm); (case aF => exact Kd.fresh' (Kd.R_lt PU.out.R)); (case aO => exact Kd.S_mono PU.out.S (fun k_ hk => ⟨hk.1, fun e => hk.2 e⟩)); (case aL => have := HN2.out; have := HLT.out; rw [rowsM_len]; omega); intro v1 w13 hs hb hg hat; replace B3 := Aside0.mk (blk_grown B3.out hg (Kd.S_ne PU.out.S B3.out (by decide))); replace B6 := Aside0.mk (blk_grown B6.out hg (Kd.S_ne PU.out.S B6.out (by decide))); have B7 := Aside0.mk (blk_grown PU.out.blk hg (Kd.S_ne PU.out.S PU.out.blk (by decide))); have HRR := Aside0.mk (Kd.R_mono (Kd.R_over' PU.out.R (Kd.S_typed PU.out.S) (by decide) hg) (fun _ hk => hk.1)); rw [HL1.out] at hs; obtain ⟨A12, c12, e12⟩ := Kd.S_slice hs; subst e12; have HS := Aside0.mk hs; have HB := Aside0.mk hb; have HG7' := Aside0.mk PU.out.g; clear hs hb hg hat HA PU hx1 hz0 hg0; have hs0 := cz_ B7 0; have hs0f := blk_frozen B7.out 0))
     have PT := Aside0.mk (Pt.rows HB.out HG7'.out B7.out HS.out HRR.out)
     replace B3 := Aside0.mk (blk_far B3.out (p := ⟨g7, 0, none⟩) HN3.out (.slice A12 L1.length c12))
     replace B6 := Aside0.mk (blk_far B6.out (p := ⟨g7, 0, none⟩) HN6.out (.slice A12 L1.length c12))
     go_roundg (n - (i + 1))
     case measure => have := HG.out; have := HLT.out; omega
     case rel =>
      exact ⟨i + 1, _, HLT.out, by omega, by first | rfl | (rw [HW.out]) | (simp [HW.out]), (by rw [rowsM_next, HL1.out]; exact PT), B3, B6⟩
  ·have hltz : ¬ (i : Int) < (n : Int) := by omega
   obtain rfl : n = i := by omega
   have hz0 := cz_ B3 0
   have hd1 := cz_ ⟨PT.out.blk⟩ 1
   have hd1f := blk_frozen PT.out.blk 1
   clear hi hg hlt
   have hn3 := HN3.out
   have hn3' := Ne.symm HN3.out
   by_cases hpn : p < 0
   ·have hpb : decide (p < 0) = true := decide_eq_true hpn
    have HPN := Aside0.mk hpn
    clear hpn
    go_wp2
    have P2 := Aside0.mk (PT.out.putD (wrap64 (- p)))
    replace B3 := Aside0.mk (blk_far B3.out (p := ⟨g7, 1, none⟩) HN3.out (.int .i64 (wrap64 (- p))))
    replace B6 := Aside0.mk (blk_far B6.out (p := ⟨g7, 1, none⟩) HN6.out (.int .i64 (wrap64 (- p))))
    clear hz0 hd1 hd1f PT
    generalize wr.setCell ⟨g7, 1, none⟩ (.int .i64 (wrap64 (- p))) = w9 at P2 B3 B6 ⊢
    obtain ⟨gu, cu, e0, _, _, _, _⟩ := Kd.S_form P2.out.S (by rw [rowsM_len]; have := HR.out; omega)
    rw [rowsM_len] at e0
    subst e0
    have P3 : Aside0 (Pt w w9 g7 (.slice (some ⟨gu, 0, none⟩) n cu) u2 (wrap64 (- p)) (rowsM n m (ngP X 0 0)) B') := ⟨by rw [rowsM_congr (Z := X) (fun a d _ _ => ngP_zero X a d)]; exact P2.out⟩
    clear P2
    go_loopg [12] n (fun gg v12 wr => ∃ (i : Nat), i ≤ n ∧ n - i ≤ gg ∧ v12 = .int .i64 (i : Int) ∧ Aside0 (Pt w wr g7 (.slice (some ⟨gu, 0, none⟩) n cu) u2 (wrap64 (- p)) (rowsM n m (ngP X i 0)) B') ∧ Aside0 (wr.heap[g3]? = some (.cells #[.slice (some ad) n c0, .int .i64 den, .slice A2 B.length c2] 101 (0, 0))) ∧ Aside0 (wr.heap[g6]? = some (.cells #[.slice none 0 0, .int .i64 0, .slice none 0 0] 101 (0, 0))))
    case atStart => exact ⟨0, Nat.zero_le _, by omega, rfl, P3, B3, B6⟩
    case round =>
     clear P3 B3 B6
     obtain ⟨i, hi, hg, rfl, PT, B3, B6⟩ := hrel
     have HG := Aside0.mk hg
     by_cases hlt : i < n
     ·have hltz : (i : Int) < (n : Int) := by omega
      have h0z : (0 : Int) ≤ (i : Int) := by omega
      have hw : IntKind.i64.wrap ((i : Int) + 1) = ((i + 1 : Nat) : Int) := by rw [IntWalk.i64_in _ (by have := HN2.out; omega)]; rfl
      have HW := Aside0.mk hw
      have HLT := Aside0.mk hlt
      obtain ⟨A13, c13, hc13⟩ := S_row PT.out.S hlt
      rw [rowsM_at hlt, rowN_len, add_off, Nat.zero_add] at hc13
      have HC13 := Aside0.mk hc13
      have hg0 := cz_ ⟨PT.out.blk⟩ 0
      clear hi hg hlt
      go_wp2
      clear hg0 hc13
      go_loopg [14] m (fun gg v14 wr => ∃ (k : Nat), k ≤ m ∧ m - k ≤ gg ∧ v14 = .int .i64 (k : Int) ∧ Aside0 (Pt w wr g7 (.slice (some ⟨gu, 0, none⟩) n cu) u2 (wrap64 (- p)) (rowsM n m (ngP X i k)) B') ∧ Aside0 (wr.cell? ⟨gu, i, none⟩ = some (.slice A13 m c13)) ∧ Aside0 (wr.heap[g3]? = some (.cells #[.slice (some ad) n c0, .int .i64 den, .slice A2 B.length c2] 101 (0, 0))) ∧ Aside0 (wr.heap[g6]? = some (.cells #[.slice none 0 0, .int .i64 0, .slice none 0 0] 101 (0, 0))))
      case atStart => exact ⟨0, Nat.zero_le _, by omega, rfl, PT, HC13, B3, B6⟩
      case round =>
       clear PT HC13 B3 B6
       obtain ⟨k, hk, hg2, rfl, PT, HC13, B3, B6⟩ := hrel
       have HG2 := Aside0.mk hg2
       by_cases hkm : k < m
       ·have hkz : (k : Int) < (m : Int) := by omega
        have h0k : (0 : Int) ≤ (k : Int) := by omega
        have hwk : IntKind.i64.wrap ((k : Int) + 1) = ((k + 1 : Nat) : Int) := by rw [IntWalk.i64_in _ (by have := HM2.out; omega)]; rfl
        have HWK := Aside0.mk hwk
        have HKM := Aside0.mk hkm
        obtain ⟨g, c, hv13, hok, hne, ⟨cells, hty⟩, hcell, hfr, hbase, hput⟩ := S_put PT.out.S HLT.out (by rw [add_off, Nat.zero_add]; exact HC13.out) (show k < _ by rw [rowsM_at HLT.out, rowN_len]; exact hkm)
        rw [rowsM_at HLT.out, rowN_len] at hv13
        rw [rowsM_at HLT.out, rowN_at hkm, ngP_at X i k i k (by omega)] at hcell
        injection hv13 with e1 _ e2
        subst e1
        subst e2
        have hp2 := hput (wrap64 (- X i k))
        rw [rowsM_at HLT.out, rowsM_set, rowsM_congr (Z := ngP X i (k + 1)) (fun a d _ _ => ngP_next X i k a d)] at hp2
        have hgu : gu ≠ g := fun e => hne (by rw [← e]; simp [Value.ownBlock])
        have tk : ∀ (q : Nat) (cs : Array Value), wr.heap[q]? = some (.cells cs 101 (0, 0)) → (wr.setCell ⟨g, k, none⟩ (.int .i64 (wrap64 (- X i k)))).heap[q]? = some (.cells cs 101 (0, 0)) := fun q cs h => blk_grown h hp2.1 (fun e => by
         injection e with e
         subst e
         rw [hty] at h
         injection h with h1
         injection h1 with _ h3 _
         revert h3; decide)
        have PN : Aside0 (Pt w (wr.setCell ⟨g, k, none⟩ (.int .i64 (wrap64 (- X i k)))) g7 (.slice (some ⟨gu, 0, none⟩) n cu) u2 (wrap64 (- p)) (rowsM n m (ngP X i (k + 1))) B') := ⟨PT.out.below.setCell hbase _, PT.out.g, tk _ _ PT.out.blk, hp2.2, Kd.R_mono (Kd.R_step (Kd.R_tight rfl PT.out.R) (fun q hq hlt => hp2.1.block q hlt (fun e => hok (e ▸ hq)))) (fun _ _ => trivial)⟩
        have B3N := Aside0.mk (tk _ _ B3.out)
        have B6N := Aside0.mk (tk _ _ B6.out)
        have HC13N := Aside0.mk ((cell_far (W := wr) (p := ⟨g, k, none⟩) (a := ⟨gu, i, none⟩) hgu (.int .i64 (wrap64 (- X i k)))).trans HC13.out)
        clear hk hg2 hkm hok hne hty hbase hput hp2 hgu tk
        go_wp2
        go_roundg (m - (k + 1))
        case measure => have := HG2.out; have := HKM.out; omega
        case rel => exact ⟨k + 1, HKM.out, by omega, by first | rfl | (rw [HWK.out]) | (simp [HWK.out]), PN, HC13N, B3N, B6N⟩
       ·have hkz : ¬ (k : Int) < (m : Int) := by omega
        obtain rfl : k = m := by omega
        clear hk hg2 hkm
        go_wp2
        go_roundg (n - (i + 1))
        case measure => have := HG.out; have := HLT.out; omega
        case rel => exact ⟨i + 1, HLT.out, by omega, by first | rfl | (rw [HW.out]) | (simp [HW.out]), ⟨by rw [← rowsM_congr (Y := ngP X i k) (fun a d _ hd => ngP_end X i k a d hd)]; exact PT.out⟩, B3, B6⟩
     ·have hltz : ¬ (i : Int) < (n : Int) := by omega
      obtain rfl : n = i := by omega
      clear hi hg hlt
      subst hu2
      have hg0 := cz_ ⟨PT.out.blk⟩ 0
      have hg1 := cz_ ⟨PT.out.blk⟩ 1
      have hg2 := cz_ ⟨PT.out.blk⟩ 2
      have hq0 := cz_ B6 0
      have hq1 := cz_ B6 1
      have hq2 := cz_ B6 2
      have hf0 := blk_frozen B6.out 0
      have hf1 := blk_frozen B6.out 1
      have hf2 := blk_frozen B6.out 2
      have hn6 := HN6.out
      have hn6' := Ne.symm HN6.out
      go_wp2
      have C0 := blk_put B6.out 0 (.slice (some ⟨gu, 0, none⟩) n cu) rfl
      have C1 := blk_put C0 1 (.int .i64 (wrap64 (- p))) rfl
      refine bodyPost_ret (results_cell_row rfl _ _ g6 101 #[(.slice (some ⟨gu, 0, none⟩) n cu), .int .i64 (wrap64 (- p)), (.slice (some ⟨gb, 0, none⟩) B.length cb)] (0, 0) _ rfl (blk_put C1 2 (.slice (some ⟨gb, 0, none⟩) B.length cb) rfl) Try.underlying101 rfl (by kernel_rfl)) rfl ?_
      rw [HBX.out, show stD T r v = wrap64 (- p) from by unfold stD; rw [HP.out, if_pos HPN.out]]
      refine ⟨(.slice (some ⟨gu, 0, none⟩) n cu), (.slice (some ⟨gb, 0, none⟩) B.length cb), rfl, ?_, tsetR (tsetR (tsetR PT.out.R B6.out (by decide)) C0 (by decide)) C1 (by decide), ((PT.out.below.setCell HG6.out _).setCell HG6.out _).setCell HG6.out _⟩
      have hS := tsetS (x := (.slice (some ⟨gb, 0, none⟩) B.length cb)) (j := 2) (tsetS (x := .int .i64 (wrap64 (- p))) (j := 1) (tsetS (x := (.slice (some ⟨gu, 0, none⟩) n cu)) (j := 0) PT.out.S B6.out (by decide)) C0 (by decide)) C1 (by decide)
      rw [rowsM_congr (Z := stT T den r v) (fun a d ha _ => by rw [ngP_all _ _ _ _ ha]; unfold stT; rw [if_pos (by rw [HP.out]; exact HPN.out), HX.out])] at hS
      exact hS
   ·have hpb : decide (p < 0) = false := decide_eq_false hpn
    have HPN := Aside0.mk hpn
    clear hpn
    obtain ⟨gu, cu, e0, _, _, _, _⟩ := Kd.S_form PT.out.S (by rw [rowsM_len]; have := HR.out; omega)
    rw [rowsM_len] at e0
    subst e0
    subst hu2
    have hg0 := cz_ ⟨PT.out.blk⟩ 0
    have hg1 := cz_ ⟨PT.out.blk⟩ 1
    have hg2 := cz_ ⟨PT.out.blk⟩ 2
    have hq0 := cz_ B6 0
    have hq1 := cz_ B6 1
    have hq2 := cz_ B6 2
    have hf0 := blk_frozen B6.out 0
    have hf1 := blk_frozen B6.out 1
    have hf2 := blk_frozen B6.out 2
    have hn6 := HN6.out
    have hn6' := Ne.symm HN6.out
    go_wp2
    have C0 := blk_put B6.out 0 (.slice (some ⟨gu, 0, none⟩) n cu) rfl
    have C1 := blk_put C0 1 (.int .i64 p) rfl
    refine bodyPost_ret (results_cell_row rfl _ _ g6 101 #[(.slice (some ⟨gu, 0, none⟩) n cu), .int .i64 p, (.slice (some ⟨gb, 0, none⟩) B.length cb)] (0, 0) _ rfl (blk_put C1 2 (.slice (some ⟨gb, 0, none⟩) B.length cb) rfl) Try.underlying101 rfl (by kernel_rfl)) rfl ?_
    rw [HBX.out, show stD T r v = p from by unfold stD; rw [HP.out, if_neg (by have := HPN.out; omega)]]
    refine ⟨(.slice (some ⟨gu, 0, none⟩) n cu), (.slice (some ⟨gb, 0, none⟩) B.length cb), rfl, ?_, tsetR (tsetR (tsetR PT.out.R B6.out (by decide)) C0 (by decide)) C1 (by decide), ((PT.out.below.setCell HG6.out _).setCell HG6.out _).setCell HG6.out _⟩
    have hS := tsetS (x := (.slice (some ⟨gb, 0, none⟩) B.length cb)) (j := 2) (tsetS (x := .int .i64 p) (j := 1) (tsetS (x := (.slice (some ⟨gu, 0, none⟩) n cu)) (j := 0) PT.out.S B6.out (by decide)) C0 (by decide)) C1 (by decide)
    rw [rowsM_congr (Z := stT T den r v) (fun a d ha _ => by unfold stT; rw [if_neg (by rw [HP.out]; have := HPN.out; omega), HX.out])] at hS
    exact hS
end Go.Proofs.Ythdoilfjcgickaa.Lp
namespace Go.Proofs.Ythdoilfjcgickaa.Pr
open Go.RowKit Go.Proofs.YthdoilfjcgickaaW.PrintWords Go.Proofs.YthdoilfjcgickaaW.PrintLast Go.Proofs.YthdoilfjcgickaaW.PrintMore Go.Proofs.Ythdoilfjcgickaa.Ma Go.Proofs.Ythdoilfjcgickaa.Dt Go.Proofs.Ythdoilfjcgickaa.Lk Go.Proofs.Ythdoilfjcgickaa.Lt Go.Proofs.Ythdoilfjcgickaa.Lq Go.Proofs.Ythdoilfjcgickaa.Lp
def spec_l05Pivot.f (l0_0 : List (List Int)) (a0_1 : Int) (l0_2 : List Int) (a1 : Int) (a2 : Int) : Option ((List (List Int)) × Int × List Int) :=
 if 0 ≤ a1 ∧ a1 < (l0_0.length : Int) ∧ a1 < (l0_2.length : Int) ∧ 0 ≤ a2 ∧ a2 < ((l0_0.headD []).length : Int) ∧ (l0_0.all fun x => x.length == (l0_0.headD []).length) = true ∧ l0_0.length ≤ 1000 ∧ (l0_0.headD []).length ≤ 1000 ∧ l0_2.length ≤ 1000 ∧ a0_1 ≠ 0 then
  some (rowsM l0_0.length (l0_0.headD []).length (stT (enL l0_0) a0_1 a1.toNat a2.toNat), stD (enL l0_0) a1.toNat a2.toNat, l0_2.set a1.toNat a2)
 else none
theorem spec_l05Pivot.calls (A0_0 : Option Addr) (c0_0 : Nat) (l0_0 : List (List Int)) (a0_1 : Int) (A0_2 : Option Addr) (c0_2 : Nat) (l0_2 : List Int) (a1 : Int) (a2 : Int) (r1 : List (List Int)) (r2 : Int) (r3 : List Int) (w : World) (hr0_0 : Kd.C (Kd.slice 2 (Kd.int .i64)) w A0_0 l0_0.length l0_0) (hc0_0 : l0_0.length ≤ c0_0) (hr0_2 : Kd.C (Kd.int .i64) w A0_2 l0_2.length l0_2) (hc0_2 : l0_2.length ≤ c0_2) (h : spec_l05Pivot.f l0_0 a0_1 l0_2 a1 a2 = some (r1, r2, r3)) :
  Calls Try.prog 119 #[.agg #[.slice A0_0 l0_0.length c0_0, .int .i64 a0_1, .slice A0_2 l0_2.length c0_2], .int .i64 a1, .int .i64 a2] w fun e w' => ∃ v0_ v2_ : Value, e = .returned (.agg #[v0_, .int .i64 r2, v2_]) ∧ Kd.S (Kd.slice 2 (Kd.int .i64)) 23 w' w.heap.size (fun k_ => some k_ ≠ (v2_ : Value).ownBlock) v0_ r1 ∧ Kd.R (Kd.int .i64) 2 w' w.heap.size (fun _ => True) v2_ r3 ∧ Below w.heap.size w w' := by
 unfold spec_l05Pivot.f at h
 split at h
 case isFalse => cases h
 rename_i hc
 obtain ⟨h1, h2, h3, h4, h5, h6, h7, h8, h9, h10⟩ := hc
 injection h with h
 injection h with e1 h
 injection h with e2 e3
 subst e1 e2 e3
 obtain ⟨i, rfl⟩ := Int.eq_ofNat_of_zero_le h1
 obtain ⟨j, rfl⟩ := Int.eq_ofNat_of_zero_le h4
 exact pivot_calls A0_0 c0_0 l0_0 a0_1 A0_2 c0_2 l0_2 w l0_0.length (l0_0.headD []).length i j hr0_0 hr0_2 hc0_2 rfl (fun x hx => by rw [List.all_eq_true] at h6; simpa using h6 x hx) (by omega) (by omega) (by omega) h9 h7 h8 h10
end Go.Proofs.Ythdoilfjcgickaa.Pr
end
