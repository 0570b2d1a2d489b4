/- Texts of one claim (the words of the kit's print that the claim uses, printed functions, and this session's own texts), joined in the order of their imports by this session's own program (merge.py). -/
import Derived.Test.YthdoilfjcgickaaJnFnExactCoverAfter0
import Derived.Test.YthdoilfjcgickaaJnFnExactCoverAfter2
import Derived.Test.YthdoilfjcgickaaJnFnExactCoverAfter3
set_option linter.unusedVariables false
set_option linter.unusedSimpArgs false
set_option maxHeartbeats 8000000
set_option maxRecDepth 100000
section
namespace Go.Proofs.Ythdoilfjcgickaa.Pr
open Go.RowKit Go.Proofs.YthdoilfjcgickaaW.PrintWords Go.Proofs.YthdoilfjcgickaaW.PrintLast Go.Proofs.YthdoilfjcgickaaW.PrintMore
attribute [local go_sem] max2_int min2_int max_two min_two max_three min_three max_four min_four
mutual
def spec_l05Run.l0 : Nat → List Int → Int → Int → List (List Int) → Bool → Int → Int → List (List Int) → List Int → List (List Int) → Int → List Int → Option ((List (List Int)) × Int × List Int × (List (List Int)) × Int × Bool)
 | 0, _, _, _, _, _, _, _, _, _, _, _, _ => none
 | k + 1, x1, x2, x11, x12, x13, x14, x15, x953000, x953001, x965000, x965001, x965002 => if x15 < (x953001.length : Int) then (if x13 = true then (if 0 ≤ x15 then (if x15 < (x1.length : Int) then (if 0 ≤ x14 then (if x14 < (x1.length : Int) then ((spec_l05Key.f k x965000 x965001 x965002 x15 x14 (rd x1 x15) (rd x1 x14)).bind fun t967 => (if t967 = true then (spec_l05Run.l0 k x1 x2 x11 x12 true x15 (wrap64 (x15 + 1)) x953000 x953001 x965000 x965001 x965002) else (spec_l05Run.l0 k x1 x2 x11 x12 true x14 (wrap64 (x15 + 1)) x953000 x953001 x965000 x965001 x965002))) else (none)) else (none)) else (none)) else (none)) else (if 0 ≤ x15 then (if x15 < (x1.length : Int) then (if 0 ≤ x14 then (if x14 < (x1.length : Int) then ((spec_l05Key.f k x965000 x965001 x965002 x15 x14 (rd x1 x15) (rd x1 x14)).bind fun t971 => (if t971 = true then (spec_l05Run.l0 k x1 x2 x11 x12 (decide ((rd x953001 x15) < 0)) x15 (wrap64 (x15 + 1)) x953000 x953001 x965000 x965001 x965002) else (spec_l05Run.l0 k x1 x2 x11 x12 (decide ((rd x953001 x15) < 0)) x14 (wrap64 (x15 + 1)) x953000 x953001 x965000 x965001 x965002))) else (none)) else (none)) else (none)) else (none))) else (if x13 = true then (spec_l05Run.l1 k x2 x11 x12 x14 (wrap64 (2 * x11)) x965000 x965001 x965002) else (some (x965000, x965001, x965002, x12, (-1), true)))
def spec_l05Run.l1 : Nat → Int → Int → List (List Int) → Int → Int → List (List Int) → Int → List Int → Option ((List (List Int)) × Int × List Int × (List (List Int)) × Int × Bool)
 | 0, _, _, _, _, _, _, _, _ => none
 | k + 1, x2, x11, x12, x14, x16, x965000, x965001, x965002 => if (x12.length : Int) < x2 then (if x16 < (wrap64 (2 * x11)) then ((spec_l05Row.f k x965000 x965001 x965002 x16).bind fun t972 => (if t972 < 0 then (some (x965000, x965001, x965002, x12, x16, false)) else (spec_l05Run.j2 k x2 x11 x12 t972 x16 x965000 x965001 x965002))) else (spec_l05Run.j2 k x2 x11 x12 x14 x16 x965000 x965001 x965002)) else (some (x965000, x965001, x965002, x12, x16, false))
def spec_l05Run.j2 : Nat → Int → Int → List (List Int) → Int → Int → List (List Int) → Int → List Int → Option ((List (List Int)) × Int × List Int × (List (List Int)) × Int × Bool)
 | 0, _, _, _, _, _, _, _, _ => none
 | k + 1, x2, x11, x12, x14, x16, x965000, x965001, x965002 => if 0 ≤ x14 then (if x14 < (x965002.length : Int) then (if x12.length < 5864062014805 then ((some (x12 ++ [(([x16, rd x965002 x14] : List Int))] : List (List Int))).bind fun y977 => ((spec_l05Pivot.f x965000 x965001 x965002 x14 x16).bind fun bt980 => (if (rd x965002 x14) = (wrap64 (2 * x11)) then (some (bt980.1, bt980.2.1, bt980.2.2, y977, (-1), true)) else ((spec_l05Partner.f (rd x965002 x14) x11).bind fun t987 => (spec_l05Run.l1 k x2 x11 y977 x14 t987 bt980.1 bt980.2.1 bt980.2.2))))) else (none)) else (none)) else (none)
end
def spec_l05Run.f (k : Nat) (l0_0 : List (List Int)) (l0_1 : List Int) (l1 : List Int) (a2 : Int) : Option ((List (List Int)) × Int × List Int × (List (List Int)) × Int × Bool) := (spec_l05Begin.f k l0_0 l0_1 l1).bind fun bt954 => (spec_l05Run.l0 k l1 a2 (l0_1.length : Int) (([] : List (List Int))) false 0 0 l0_0 l0_1 bt954.1 bt954.2.1 bt954.2.2)
theorem spec_l05Run.mono_l : ∀ k, (∀ y0 y1 y2 y3 y4 y5 y6 y7 y8 y9 y10 y11, LeO (spec_l05Run.l0 k y0 y1 y2 y3 y4 y5 y6 y7 y8 y9 y10 y11) (spec_l05Run.l0 (k + 1) y0 y1 y2 y3 y4 y5 y6 y7 y8 y9 y10 y11)) ∧ (∀ y0 y1 y2 y3 y4 y5 y6 y7, LeO (spec_l05Run.l1 k y0 y1 y2 y3 y4 y5 y6 y7) (spec_l05Run.l1 (k + 1) y0 y1 y2 y3 y4 y5 y6 y7)) ∧ (∀ y0 y1 y2 y3 y4 y5 y6 y7, LeO (spec_l05Run.j2 k y0 y1 y2 y3 y4 y5 y6 y7) (spec_l05Run.j2 (k + 1) y0 y1 y2 y3 y4 y5 y6 y7))
 | 0 => ⟨fun _ _ _ _ _ _ _ _ _ _ _ _ r h => by simp [spec_l05Run.l0] at h, fun _ _ _ _ _ _ _ _ r h => by simp [spec_l05Run.l1] at h, fun _ _ _ _ _ _ _ _ r h => by simp [spec_l05Run.j2] at h⟩
 | k + 1 => by
  obtain ⟨ih0, ih1, ih2⟩ := spec_l05Run.mono_l k
  refine ⟨?_, ?_, ?_⟩
  ·intro y0 y1 y2 y3 y4 y5 y6 y7 y8 y9 y10 y11
   unfold spec_l05Run.l0
   repeat' first
   | (with_reducible exact ih0 _ _ _ _ _ _ _ _ _ _ _ _)
   | (with_reducible exact ih1 _ _ _ _ _ _ _ _)
   | (with_reducible exact ih2 _ _ _ _ _ _ _ _)
   | (with_reducible exact spec_l05Begin.mono _ _ _ _)
   | (with_reducible exact spec_l05Key.mono _ _ _ _ _ _ _ _)
   | (with_reducible exact spec_l05Row.mono _ _ _ _ _)
   | (with_reducible exact LeO.refl _)
   | (with_reducible exact LeO.none _)
   | (with_reducible refine LeO.ite ?_ ?_)
   | (with_reducible refine LeO.bind ?_ (fun _ => ?_))
   | exact ih0 _ _ _ _ _ _ _ _ _ _ _ _
   | exact ih1 _ _ _ _ _ _ _ _
   | exact ih2 _ _ _ _ _ _ _ _
   | exact spec_l05Begin.mono _ _ _ _
   | exact spec_l05Key.mono _ _ _ _ _ _ _ _
   | exact spec_l05Row.mono _ _ _ _ _
   | exact LeO.none _
   | refine LeO.ite ?_ ?_
   | refine LeO.bind ?_ (fun _ => ?_)
  ·intro y0 y1 y2 y3 y4 y5 y6 y7
   unfold spec_l05Run.l1
   repeat' first
   | (with_reducible exact ih0 _ _ _ _ _ _ _ _ _ _ _ _)
   | (with_reducible exact ih1 _ _ _ _ _ _ _ _)
   | (with_reducible exact ih2 _ _ _ _ _ _ _ _)
   | (with_reducible exact spec_l05Begin.mono _ _ _ _)
   | (with_reducible exact spec_l05Key.mono _ _ _ _ _ _ _ _)
   | (with_reducible exact spec_l05Row.mono _ _ _ _ _)
   | (with_reducible exact LeO.refl _)
   | (with_reducible exact LeO.none _)
   | (with_reducible refine LeO.ite ?_ ?_)
   | (with_reducible refine LeO.bind ?_ (fun _ => ?_))
   | exact ih0 _ _ _ _ _ _ _ _ _ _ _ _
   | exact ih1 _ _ _ _ _ _ _ _
   | exact ih2 _ _ _ _ _ _ _ _
   | exact spec_l05Begin.mono _ _ _ _
   | exact spec_l05Key.mono _ _ _ _ _ _ _ _
   | exact spec_l05Row.mono _ _ _ _ _
   | exact LeO.none _
   | refine LeO.ite ?_ ?_
   | refine LeO.bind ?_ (fun _ => ?_)
  ·intro y0 y1 y2 y3 y4 y5 y6 y7
   unfold spec_l05Run.j2
   repeat' first
   | (with_reducible exact ih0 _ _ _ _ _ _ _ _ _ _ _ _)
   | (with_reducible exact ih1 _ _ _ _ _ _ _ _)
   | (with_reducible exact ih2 _ _ _ _ _ _ _ _)
   | (with_reducible exact spec_l05Begin.mono _ _ _ _)
   | (with_reducible exact spec_l05Key.mono _ _ _ _ _ _ _ _)
   | (with_reducible exact spec_l05Row.mono _ _ _ _ _)
   | (with_reducible exact LeO.refl _)
   | (with_reducible exact LeO.none _)
   | (with_reducible refine LeO.ite ?_ ?_)
   | (with_reducible refine LeO.bind ?_ (fun _ => ?_))
   | exact ih0 _ _ _ _ _ _ _ _ _ _ _ _
   | exact ih1 _ _ _ _ _ _ _ _
   | exact ih2 _ _ _ _ _ _ _ _
   | exact spec_l05Begin.mono _ _ _ _
   | exact spec_l05Key.mono _ _ _ _ _ _ _ _
   | exact spec_l05Row.mono _ _ _ _ _
   | exact LeO.none _
   | refine LeO.ite ?_ ?_
   | refine LeO.bind ?_ (fun _ => ?_)
theorem spec_l05Run.mono : ∀ a0 a1 a2 a3 k, LeO (spec_l05Run.f k a0 a1 a2 a3) (spec_l05Run.f (k + 1) a0 a1 a2 a3) := by
 intro a0 a1 a2 a3 k
 obtain ⟨ih0, ih1, ih2⟩ := spec_l05Run.mono_l k
 unfold spec_l05Run.f
 repeat' first
   | (with_reducible exact ih0 _ _ _ _ _ _ _ _ _ _ _ _)
   | (with_reducible exact ih1 _ _ _ _ _ _ _ _)
   | (with_reducible exact ih2 _ _ _ _ _ _ _ _)
   | (with_reducible exact spec_l05Begin.mono _ _ _ _)
   | (with_reducible exact spec_l05Key.mono _ _ _ _ _ _ _ _)
   | (with_reducible exact spec_l05Row.mono _ _ _ _ _)
   | (with_reducible exact LeO.refl _)
   | (with_reducible exact LeO.none _)
   | (with_reducible refine LeO.ite ?_ ?_)
   | (with_reducible refine LeO.bind ?_ (fun _ => ?_))
   | exact ih0 _ _ _ _ _ _ _ _ _ _ _ _
   | exact ih1 _ _ _ _ _ _ _ _
   | exact ih2 _ _ _ _ _ _ _ _
   | exact spec_l05Begin.mono _ _ _ _
   | exact spec_l05Key.mono _ _ _ _ _ _ _ _
   | exact spec_l05Row.mono _ _ _ _ _
   | exact LeO.none _
   | refine LeO.ite ?_ ?_
   | refine LeO.bind ?_ (fun _ => ?_)
def spec_l05Run.T1 : Bool × List (List Nat × List Nat) := (true, [([], []), ([], []), ([0, 1], [0, 1]), ([], []), ([3], [3]), ([4], [4]), ([], []), ([], []), ([7, 2, 2, 0, 1, 2, 7], [2, 7]), ([5, 8, 0, 1, 2, 3, 4, 5, 7, 8], [5]), ([6, 9, 0, 1, 2, 3, 4, 5, 6, 7, 8, 9], [6])])
def spec_l05Run.B1 : List Nat := [0, 0, 3, 0, 8, 24, 0, 0, 135, 447, 1023]
theorem spec_l05Run.tab1 : rtab .any (opsOf Try.f86 1) = spec_l05Run.T1 := by kernel_rfl
theorem spec_l05Run.bits1 : waitsOk spec_l05Run.T1.2 spec_l05Run.B1 = true := by kernel_rfl
def spec_l05Run.T7 : Bool × List (List Nat × List Nat) := (true, [([], []), ([], []), ([], []), ([], []), ([], []), ([3, 4], [3, 4]), ([5], [5]), ([], []), ([], []), ([7, 8], [7, 8]), ([9], [9]), ([0, 1, 2, 6, 10], [0, 1, 2, 6, 10])])
def spec_l05Run.B7 : List Nat := [0, 0, 0, 0, 0, 24, 56, 0, 0, 384, 896, 2047]
theorem spec_l05Run.tab7 : rtab .any (opsOf Try.f86 7) = spec_l05Run.T7 := by kernel_rfl
theorem spec_l05Run.bits7 : waitsOk spec_l05Run.T7.2 spec_l05Run.B7 = true := by kernel_rfl
theorem spec_l05Run.calls (k : Nat) (A0_0 : Option Addr) (c0_0 : Nat) (l0_0 : List (List Int)) (A0_1 : Option Addr) (c0_1 : Nat) (l0_1 : List Int) (A1 : Option Addr) (c1 : Nat) (l1 : List Int) (a2 : Int) (r1 : List (List Int)) (r2 : Int) (r3 : List Int) (r4 : List (List Int)) (r5 : Int) (r6 : Bool) (w : World) (hr0_0 : Kd.C (Kd.slice 2 (Kd.int .i64)) w A0_0 l0_0.length l0_0) (hc0_0 : l0_0.length ≤ c0_0) (hr0_1 : Kd.C (Kd.int .i64) w A0_1 l0_1.length l0_1) (hc0_1 : l0_1.length ≤ c0_1) (hr1 : Kd.C (Kd.int .i64) w A1 l1.length l1) (hc1 : l1.length ≤ c1) (h : spec_l05Run.f k l0_0 l0_1 l1 a2 = some (r1, r2, r3, r4, r5, r6)) :
  Calls Try.prog 86 #[.agg #[.slice A0_0 l0_0.length c0_0, .slice A0_1 l0_1.length c0_1], .slice A1 l1.length c1, .int .i64 a2] w fun e w' => ∃ v0_ v2_ v3_ : Value, e = .returned (.tuple #[.agg #[v0_, .int .i64 r2, v2_], v3_, .int .i64 r5, .bool r6]) ∧ Kd.S (Kd.slice 2 (Kd.int .i64)) 23 w' w.heap.size (fun k_ => some k_ ≠ (v2_ : Value).ownBlock ∧ some k_ ≠ (v3_ : Value).ownBlock) v0_ r1 ∧ Kd.R (Kd.int .i64) 2 w' w.heap.size (fun _ => True) v2_ r3 ∧ Kd.S (Kd.slice 2 (Kd.int .i64)) 23 w' w.heap.size (fun k_ => some k_ ≠ (v0_ : Value).ownBlock ∧ some k_ ≠ (v2_ : Value).ownBlock) v3_ r4 ∧ Below w.heap.size w w' := by
 have hu29 := Try.underlying29
 have hu101 := Try.underlying101
 have HR0_0 := Aside0.mk hr0_0
 have HC0_0 := Aside0.mk hc0_0
 clear hr0_0 hc0_0
 have HR0_1 := Aside0.mk hr0_1
 have HC0_1 := Aside0.mk hc0_1
 clear hr0_1 hc0_1
 have HR1 := Aside0.mk hr1
 have HC1 := Aside0.mk hc1
 clear hr1 hc1
 have HB := Aside0.mk (Below.refl w.heap.size w)
 have H : ((spec_l05Begin.f k l0_0 l0_1 l1).bind fun bt954 => (spec_l05Run.l0 k l1 a2 (l0_1.length : Int) (([] : List (List Int))) false 0 0 l0_0 l0_1 bt954.1 bt954.2.1 bt954.2.2)) = some (r1, r2, r3, r4, r5, r6) := h
 clear h
 replace H := Option.bind_eq_some_iff.mp H
 obtain ⟨⟨t954, t957, t958⟩, A40, H⟩ := H
 replace H : (spec_l05Run.l0 k l1 a2 (l0_1.length : Int) (([] : List (List Int))) false 0 0 l0_0 l0_1 t954 t957 t958) = some (r1, r2, r3, r4, r5, r6) := H
 have A4 := Aside0.mk A40
 clear A40
 obtain ⟨y961, hy961⟩ : ∃ y_ : List (List Int), y_ = (([] : List (List Int))) := ⟨_, rfl⟩
 replace H : (spec_l05Run.l0 k l1 a2 (l0_1.length : Int) y961 false 0 0 l0_0 l0_1 t954 t957 t958) = some (r1, r2, r3, r4, r5, r6) := by first | (rw [hy961]; with_reducible exact H) | (have H2_ := (Option.bind_some _ _).symm.trans H; rw [hy961]; with_reducible exact H2_) | (have H2_ := (Option.bind_some _ _).symm.trans H; with_reducible exact H2_) | with_reducible exact H | (rw [hy961]; exact H) | exact H
 have Ny961 := Aside0.mk hy961
 clear hy961
 have H' := Aside0.mk H
 clear H
 go_enter Try.func86, Try.ntmps86
 try go_wp2_with (first | ((with_reducible refine gate_dst (N := 3) rfl ?_); refine box_event ?hg (N := 3) ?hd (cs := #[.slice A0_0 l0_0.length c0_0, .slice A0_1 l0_1.length c0_1]) (t := 29) ?hr ?_; (case hd => rfl); (case hg => rfl); (case hr => first | (go_simp; done) | (go_simp; rfl)); intro gb952 hg w5 hbox hb; have n0_ := Aside0.mk (bs_ hb); have n1_ := Aside0.mk (hbox); have n2_ := Aside0.mk ((by rw [hg]; exact bz_ : w.heap.size ≤ gb952)); have n3_ := Aside0.mk ((by rw [hg]; exact bz_ : w.heap.size ≤ gb952)); clear HB; have HB := n0_; have BK952 := n1_; have GW952 := n2_; have GE952 := n3_; clear n0_ n1_ n2_ n3_; clear hb hbox hg) | ((with_reducible refine gate_dst (N := 6) rfl ?_); refine box_event ?hg (N := 6) ?hd (cs := #[.slice none 0 0, .int .i64 0, .slice none 0 0]) (t := 101) ?hr ?_; (case hd => rfl); (case hg => rfl); (case hr => first | (go_simp; done) | (go_simp; rfl)); intro gb953 hg w6 hbox hb; have n0_ := Aside0.mk (bb_ BK952.out hb); have n1_ := Aside0.mk (bs_ hb); have n2_ := Aside0.mk (hbox); have n3_ := Aside0.mk ((by rw [hg]; exact bz_ : w.heap.size ≤ gb953)); have n4_ := Aside0.mk ((by rw [hg]; exact bz_ : w.heap.size ≤ gb953)); have n5_ := Aside0.mk ((by rw [hg]; exact lt_ BK952.out : gb952 ≠ gb953)); have n6_ := Aside0.mk ((by rw [hg]; exact gt_ BK952.out : gb953 ≠ gb952)); clear BK952; clear HB; have BK952 := n0_; have HB := n1_; have BK953 := n2_; have GW953 := n3_; have GE953 := n4_; have NB952_953 := n5_; have NB953_952 := n6_; clear n0_ n1_ n2_ n3_ n4_ n5_ n6_; clear hb hbox hg))
 have n0_ := Aside0.mk (blk_drew BK952.out)
 have n1_ := Aside0.mk (blk_drew BK953.out)
 have n2_ := Aside0.mk (below_drew1 HB.out)
 clear BK952
 clear BK953
 clear HB
 have BK952 := n0_
 have BK953 := n1_
 have HB := n2_
 clear n0_ n1_ n2_
 refine st_ (n := 11) (S := fun w' => w'.cell? ⟨gb952, 0, none⟩ = some (.slice A0_0 l0_0.length c0_0) ∧ w'.cell? ⟨gb952, 1, none⟩ = some (.slice A0_1 l0_1.length c0_1)) (ds := []) ⟨(blk_cell BK952.out 0).trans rfl, (blk_cell BK952.out 1).trans rfl⟩ (fun hHeld => ?_); refine with_tabW spec_l05Run.tab1 spec_l05Run.bits1 (fun HT_ HW_ => ?_)
 generalize w6.drew = w7 at BK952 BK953 HB hHeld ⊢
 refine pu_ 1 19 ?_; refine pu_ 3 21 ?_; refine tk_ 0 18 ?_; refine tk_ 4 22 ?_; refine pu_ 5 23 ?_
 refine join_ (σ := Value × Value × Value × Nat) 1 (fm 11 1023) (fun s_ => [(20, .agg #[s_.1, .int .i64 t957, s_.2.1]), (24, s_.2.2.1), (10, .pointer (some ⟨s_.2.2.2, 0, none⟩)), (11, .int .i64 (l0_1.length : Int))]) (fun s_ w' => (w'.cell? ⟨gb952, 0, none⟩ = some (.slice A0_0 l0_0.length c0_0) ∧ w'.cell? ⟨gb952, 1, none⟩ = some (.slice A0_1 l0_1.length c0_1)) ∧ (Kd.S (Kd.slice 2 (Kd.int .i64)) 23 w' w.heap.size (fun k_ => some k_ ≠ (s_.2.1 : Value).ownBlock ∧ some k_ ≠ (s_.2.2.1 : Value).ownBlock) s_.1 t954) ∧ (Kd.R (Kd.int .i64) 2 w' w.heap.size (fun _ => True) s_.2.1 t958) ∧ (Kd.S (Kd.slice 2 (Kd.int .i64)) 23 w' w.heap.size (fun k_ => some k_ ≠ (s_.1 : Value).ownBlock ∧ some k_ ≠ (s_.2.1 : Value).ownBlock) s_.2.2.1 y961) ∧ (w'.heap[gb952]? = some (.cells #[.slice A0_0 l0_0.length c0_0, .slice A0_1 l0_1.length c0_1] 29 (0, 0))) ∧ (w'.heap[gb953]? = some (.cells #[.slice none 0 0, .int .i64 0, .slice none 0 0] 101 (0, 0))) ∧ (w'.heap[s_.2.2.2]? = some (.cells #[s_.1, .int .i64 t957, s_.2.1] 101 (0, 0))) ∧ (w.heap.size ≤ s_.2.2.2) ∧ (w.heap.size ≤ s_.2.2.2) ∧ (gb952 ≠ s_.2.2.2) ∧ (s_.2.2.2 ≠ gb952) ∧ (gb953 ≠ s_.2.2.2) ∧ (s_.2.2.2 ≠ gb953) ∧ (Below w.heap.size w w')) ?_ ?_
 rotate_left
 ·intro hJ2_6_7_8
  refine join_ (σ := Value × Value × Value × Nat) 3 (fm 11 255) (fun s_ => [(20, .agg #[s_.1, .int .i64 t957, s_.2.1]), (24, s_.2.2.1), (10, .pointer (some ⟨s_.2.2.2, 0, none⟩))]) (fun s_ w' => (w'.cell? ⟨gb952, 0, none⟩ = some (.slice A0_0 l0_0.length c0_0) ∧ w'.cell? ⟨gb952, 1, none⟩ = some (.slice A0_1 l0_1.length c0_1)) ∧ (Kd.S (Kd.slice 2 (Kd.int .i64)) 23 w' w.heap.size (fun k_ => some k_ ≠ (s_.2.1 : Value).ownBlock ∧ some k_ ≠ (s_.2.2.1 : Value).ownBlock) s_.1 t954) ∧ (Kd.R (Kd.int .i64) 2 w' w.heap.size (fun _ => True) s_.2.1 t958) ∧ (Kd.S (Kd.slice 2 (Kd.int .i64)) 23 w' w.heap.size (fun k_ => some k_ ≠ (s_.1 : Value).ownBlock ∧ some k_ ≠ (s_.2.1 : Value).ownBlock) s_.2.2.1 y961) ∧ (w'.heap[gb952]? = some (.cells #[.slice A0_0 l0_0.length c0_0, .slice A0_1 l0_1.length c0_1] 29 (0, 0))) ∧ (w'.heap[gb953]? = some (.cells #[.slice none 0 0, .int .i64 0, .slice none 0 0] 101 (0, 0))) ∧ (w'.heap[s_.2.2.2]? = some (.cells #[.slice none 0 0, .int .i64 0, .slice none 0 0] 101 (0, 0))) ∧ (w.heap.size ≤ s_.2.2.2) ∧ (w.heap.size ≤ s_.2.2.2) ∧ (gb952 ≠ s_.2.2.2) ∧ (s_.2.2.2 ≠ gb952) ∧ (gb953 ≠ s_.2.2.2) ∧ (s_.2.2.2 ≠ gb953) ∧ (Below w.heap.size w w')) ?_ ?_
  rotate_left
  ·intro hJ2_6_7
   refine join_ (σ := Value × Value × Nat) 2 (fm 11 959) (fun s_ => [(20, .agg #[s_.1, .int .i64 t957, s_.2.1]), (10, .pointer (some ⟨s_.2.2, 0, none⟩)), (11, .int .i64 (l0_1.length : Int))]) (fun s_ w' => (w'.cell? ⟨gb952, 0, none⟩ = some (.slice A0_0 l0_0.length c0_0) ∧ w'.cell? ⟨gb952, 1, none⟩ = some (.slice A0_1 l0_1.length c0_1)) ∧ (Kd.S (Kd.slice 2 (Kd.int .i64)) 23 w' w.heap.size (fun k_ => some k_ ≠ (s_.2.1 : Value).ownBlock) s_.1 t954) ∧ (Kd.R (Kd.int .i64) 2 w' w.heap.size (fun _ => True) s_.2.1 t958) ∧ (w'.heap[gb952]? = some (.cells #[.slice A0_0 l0_0.length c0_0, .slice A0_1 l0_1.length c0_1] 29 (0, 0))) ∧ (w'.heap[gb953]? = some (.cells #[.slice none 0 0, .int .i64 0, .slice none 0 0] 101 (0, 0))) ∧ (w'.heap[s_.2.2]? = some (.cells #[s_.1, .int .i64 t957, s_.2.1] 101 (0, 0))) ∧ (w.heap.size ≤ s_.2.2) ∧ (w.heap.size ≤ s_.2.2) ∧ (gb952 ≠ s_.2.2) ∧ (s_.2.2 ≠ gb952) ∧ (gb953 ≠ s_.2.2) ∧ (s_.2.2 ≠ gb953) ∧ (Below w.heap.size w w')) ?_ ?_
   rotate_left
   ·intro hJ2_7_8
    refine join_ (σ := Value × Value × Value) 4 (fm 11 127) (fun s_ => [(20, .agg #[s_.1, .int .i64 t957, s_.2.1]), (24, s_.2.2)]) (fun s_ w' => (w'.cell? ⟨gb952, 0, none⟩ = some (.slice A0_0 l0_0.length c0_0) ∧ w'.cell? ⟨gb952, 1, none⟩ = some (.slice A0_1 l0_1.length c0_1)) ∧ (Kd.S (Kd.slice 2 (Kd.int .i64)) 23 w' w.heap.size (fun k_ => some k_ ≠ (s_.2.1 : Value).ownBlock ∧ some k_ ≠ (s_.2.2 : Value).ownBlock) s_.1 t954) ∧ (Kd.R (Kd.int .i64) 2 w' w.heap.size (fun _ => True) s_.2.1 t958) ∧ (Kd.S (Kd.slice 2 (Kd.int .i64)) 23 w' w.heap.size (fun k_ => some k_ ≠ (s_.1 : Value).ownBlock ∧ some k_ ≠ (s_.2.1 : Value).ownBlock) s_.2.2 y961) ∧ (w'.heap[gb952]? = some (.cells #[.slice A0_0 l0_0.length c0_0, .slice A0_1 l0_1.length c0_1] 29 (0, 0))) ∧ (w'.heap[gb953]? = some (.cells #[.slice none 0 0, .int .i64 0, .slice none 0 0] 101 (0, 0))) ∧ (Below w.heap.size w w')) ?_ ?_
    rotate_left
    ·intro hJ2_6
     refine join_ (σ := Value × Value × Nat) 4 (fm 11 191) (fun s_ => [(20, .agg #[s_.1, .int .i64 t957, s_.2.1]), (10, .pointer (some ⟨s_.2.2, 0, none⟩))]) (fun s_ w' => (w'.cell? ⟨gb952, 0, none⟩ = some (.slice A0_0 l0_0.length c0_0) ∧ w'.cell? ⟨gb952, 1, none⟩ = some (.slice A0_1 l0_1.length c0_1)) ∧ (Kd.S (Kd.slice 2 (Kd.int .i64)) 23 w' w.heap.size (fun k_ => some k_ ≠ (s_.2.1 : Value).ownBlock) s_.1 t954) ∧ (Kd.R (Kd.int .i64) 2 w' w.heap.size (fun _ => True) s_.2.1 t958) ∧ (w'.heap[gb952]? = some (.cells #[.slice A0_0 l0_0.length c0_0, .slice A0_1 l0_1.length c0_1] 29 (0, 0))) ∧ (w'.heap[gb953]? = some (.cells #[.slice none 0 0, .int .i64 0, .slice none 0 0] 101 (0, 0))) ∧ (w'.heap[s_.2.2]? = some (.cells #[.slice none 0 0, .int .i64 0, .slice none 0 0] 101 (0, 0))) ∧ (w.heap.size ≤ s_.2.2) ∧ (w.heap.size ≤ s_.2.2) ∧ (gb952 ≠ s_.2.2) ∧ (s_.2.2 ≠ gb952) ∧ (gb953 ≠ s_.2.2) ∧ (s_.2.2 ≠ gb953) ∧ (Below w.heap.size w w')) ?_ ?_
     rotate_left
     ·intro hJ2_7
      refine join_ (σ := Value × Nat) 4 (fm 11 251) (fun s_ => [(24, s_.1), (10, .pointer (some ⟨s_.2, 0, none⟩))]) (fun s_ w' => (w'.cell? ⟨gb952, 0, none⟩ = some (.slice A0_0 l0_0.length c0_0) ∧ w'.cell? ⟨gb952, 1, none⟩ = some (.slice A0_1 l0_1.length c0_1)) ∧ (Kd.S (Kd.slice 2 (Kd.int .i64)) 23 w' w.heap.size (fun _ => True) s_.1 y961) ∧ (w'.heap[gb952]? = some (.cells #[.slice A0_0 l0_0.length c0_0, .slice A0_1 l0_1.length c0_1] 29 (0, 0))) ∧ (w'.heap[gb953]? = some (.cells #[.slice none 0 0, .int .i64 0, .slice none 0 0] 101 (0, 0))) ∧ (w'.heap[s_.2]? = some (.cells #[.slice none 0 0, .int .i64 0, .slice none 0 0] 101 (0, 0))) ∧ (w.heap.size ≤ s_.2) ∧ (w.heap.size ≤ s_.2) ∧ (gb952 ≠ s_.2) ∧ (s_.2 ≠ gb952) ∧ (gb953 ≠ s_.2) ∧ (s_.2 ≠ gb953) ∧ (Below w.heap.size w w')) ?_ ?_
      rotate_left
      ·intro hJ6_7
       refine join_ (σ := Value × Value) 5 (fm 11 63) (fun s_ => [(20, .agg #[s_.1, .int .i64 t957, s_.2])]) (fun s_ w' => (w'.cell? ⟨gb952, 0, none⟩ = some (.slice A0_0 l0_0.length c0_0) ∧ w'.cell? ⟨gb952, 1, none⟩ = some (.slice A0_1 l0_1.length c0_1)) ∧ (Kd.S (Kd.slice 2 (Kd.int .i64)) 23 w' w.heap.size (fun k_ => some k_ ≠ (s_.2 : Value).ownBlock) s_.1 t954) ∧ (Kd.R (Kd.int .i64) 2 w' w.heap.size (fun _ => True) s_.2 t958) ∧ (w'.heap[gb952]? = some (.cells #[.slice A0_0 l0_0.length c0_0, .slice A0_1 l0_1.length c0_1] 29 (0, 0))) ∧ (w'.heap[gb953]? = some (.cells #[.slice none 0 0, .int .i64 0, .slice none 0 0] 101 (0, 0))) ∧ (Below w.heap.size w w')) ?_ ?_
       rotate_left
       ·intro hJ2
        refine join_ (σ := Value) 5 (fm 11 123) (fun s_ => [(24, s_)]) (fun s_ w' => (w'.cell? ⟨gb952, 0, none⟩ = some (.slice A0_0 l0_0.length c0_0) ∧ w'.cell? ⟨gb952, 1, none⟩ = some (.slice A0_1 l0_1.length c0_1)) ∧ (Kd.S (Kd.slice 2 (Kd.int .i64)) 23 w' w.heap.size (fun _ => True) s_ y961) ∧ (w'.heap[gb952]? = some (.cells #[.slice A0_0 l0_0.length c0_0, .slice A0_1 l0_1.length c0_1] 29 (0, 0))) ∧ (w'.heap[gb953]? = some (.cells #[.slice none 0 0, .int .i64 0, .slice none 0 0] 101 (0, 0))) ∧ (Below w.heap.size w w')) ?_ ?_
        rotate_left
        ·intro hJ6
         refine join_ (σ := Nat) 5 (fm 11 187) (fun s_ => [(10, .pointer (some ⟨s_, 0, none⟩))]) (fun s_ w' => (w'.cell? ⟨gb952, 0, none⟩ = some (.slice A0_0 l0_0.length c0_0) ∧ w'.cell? ⟨gb952, 1, none⟩ = some (.slice A0_1 l0_1.length c0_1)) ∧ (w'.heap[gb952]? = some (.cells #[.slice A0_0 l0_0.length c0_0, .slice A0_1 l0_1.length c0_1] 29 (0, 0))) ∧ (w'.heap[gb953]? = some (.cells #[.slice none 0 0, .int .i64 0, .slice none 0 0] 101 (0, 0))) ∧ (w'.heap[s_]? = some (.cells #[.slice none 0 0, .int .i64 0, .slice none 0 0] 101 (0, 0))) ∧ (w.heap.size ≤ s_) ∧ (w.heap.size ≤ s_) ∧ (gb952 ≠ s_) ∧ (s_ ≠ gb952) ∧ (gb953 ≠ s_) ∧ (s_ ≠ gb953) ∧ (Below w.heap.size w w')) ?_ ?_
         rotate_left
         ·intro hJ7
          refine three_ (i := 2) (j := 6) (k := 7) (Ni := some 20) (Nj := some 24) (Nk := some 10) (fm 11 63) (fm 11 123) (fm 11 187) rfl rfl rfl rfl rfl rfl (three_of HT_.out (by kernel_rfl)) (by decide) (by decide) (by decide) (fun K hK => ?_) (fun K hK => ?_) (fun K hK => ?_)
          ·skip
           refine goes_ Try.func116 (by kernel_rfl) rfl #[.agg #[.slice A0_0 l0_0.length c0_0, .slice A0_1 l0_1.length c0_1], .slice A1 l1.length c1] (by rfl) rfl rfl (by (try simp only [List.map_toArray, List.map_cons, List.map_nil]); first | done | rfl | (simp only [List.length_drop, List.length_take]; rfl)) ?_
           with_reducible refine (spec_l05Begin.calls k _ _ l0_0 _ _ l0_1 _ _ l1 t954 t957 t958 _ ?side1 ?side2 ?side3 ?side4 ?side5 ?side6 A4.out).mono ?_
           (case side1 => exact cb_ HR0_0.out HB.out)
           (case side2 => exact HC0_0.out)
           (case side3 => exact cb_ HR0_1.out HB.out)
           (case side4 => exact HC0_1.out)
           (case side5 => exact cb_ HR1.out HB.out)
           (case side6 => exact HC1.out)
           rintro e w8 ⟨v955, v959, rfl, ho0, ho1, hb⟩
           refine ⟨_, rfl, ?_⟩
           have n0_ := Aside0.mk (Kd.S_lower ho0 bz_)
           have n1_ := Aside0.mk (Kd.R_lower ho1 bz_)
           have n2_ := Aside0.mk (bb_ BK952.out hb)
           have n3_ := Aside0.mk (bb_ BK953.out hb)
           have n4_ := Aside0.mk (bs_ hb)
           clear BK952
           clear BK953
           clear HB
           have HO956 := n0_
           have HO960 := n1_
           have BK952 := n2_
           have BK953 := n3_
           have HB := n4_
           clear n0_ n1_ n2_ n3_ n4_
           (try clear hb)
           (try clear hb2)
           (try clear hk)
           (try clear hi)
           (try clear ho0)
           (try clear ho1)
           refine hK.out _ _ ⟨(blk_cell BK952.out 0).trans rfl, (blk_cell BK952.out 1).trans rfl⟩ (fun hHeld => ?_)
           clear hK K
           refine norm_ (a' := ?_) ?_ ?_
           rotate_left
           ·show Act.put _ (some 20) _ = _
            simp only [Act.put, List.setIfInBounds_toArray, List.set_cons_zero, List.set_cons_succ, i64_w, i32_w]
            rfl
           exact norm_ (by first | (simp only [putAll, Act.put, List.setIfInBounds_toArray, List.set_cons_zero, List.set_cons_succ]; done) | (simp only [putAll, Act.put, List.setIfInBounds_toArray, List.set_cons_zero, List.set_cons_succ]; rfl)) (hJ2 (v955, v959) _ ⟨hHeld, (so_ HO956.out), (ro_ HO960.out), bk_, bk_, hb_⟩)
          ·skip
           refine Kd.S_lit_step (Kd.slice 2 (Kd.int .i64)) _ 23 ?hg (N := 24) ?hd (xs := ([] : List (List Int))) (inner := []) (ok := fun _ => True) (okp := fun _ => True) ?hr ?hp (fun _ hk => hk) trivial (Below.refl _ _) (Nat.le_refl _) (by simp) ?_; (case hd => rfl); (case hg => rfl); (case hr => first | (go_simp; done) | (go_simp; rfl)); (case hp => exact (Reps.none _ _))
           intro v962 w8 ho9 hb hg_ hnew_
           clear hg_ hnew_
           (first | rw [← Ny961.out] at ho9 | (simp only [Int.reduceToNat] at ho9; rw [← Ny961.out] at ho9))
           have n0_ := Aside0.mk (Kd.S_lower ho9 bz_)
           have n1_ := Aside0.mk (bb_ BK952.out hb)
           have n2_ := Aside0.mk (bb_ BK953.out hb)
           have n3_ := Aside0.mk (bs_ hb)
           clear BK952
           clear BK953
           clear HB
           have HO963 := n0_
           have BK952 := n1_
           have BK953 := n2_
           have HB := n3_
           clear n0_ n1_ n2_ n3_
           clear hb ho9
           refine hK.out _ _ ⟨(blk_cell BK952.out 0).trans rfl, (blk_cell BK952.out 1).trans rfl⟩ (fun hHeld => ?_)
           clear hK K
           refine norm_ (a' := ?_) ?_ ?_
           rotate_left
           ·show Act.put _ (some 24) _ = _
            simp only [Act.put, List.setIfInBounds_toArray, List.set_cons_zero, List.set_cons_succ, i64_w, i32_w]
            rfl
           exact norm_ (by first | (simp only [putAll, Act.put, List.setIfInBounds_toArray, List.set_cons_zero, List.set_cons_succ]; done) | (simp only [putAll, Act.put, List.setIfInBounds_toArray, List.set_cons_zero, List.set_cons_succ]; rfl)) (hJ6 (v962) _ ⟨hHeld, (so_ HO963.out), bk_, bk_, hb_⟩)
          ·skip
           refine box_step ?hg (N := 10) ?hd (cs := #[.slice none 0 0, .int .i64 0, .slice none 0 0]) (t := 101) ?hr ?_; (case hd => rfl); (case hg => rfl); (case hr => first | (go_simp; done) | (go_simp; rfl))
           intro gb964 hg w8 hbox hb
           have n0_ := Aside0.mk (bb_ BK952.out hb)
           have n1_ := Aside0.mk (bb_ BK953.out hb)
           have n2_ := Aside0.mk (bs_ hb)
           have n3_ := Aside0.mk (hbox)
           have n4_ := Aside0.mk ((by rw [hg]; exact bz_ : w.heap.size ≤ gb964))
           have n5_ := Aside0.mk ((by rw [hg]; exact bz_ : w.heap.size ≤ gb964))
           have n6_ := Aside0.mk ((by rw [hg]; exact lt_ BK952.out : gb952 ≠ gb964))
           have n7_ := Aside0.mk ((by rw [hg]; exact gt_ BK952.out : gb964 ≠ gb952))
           have n8_ := Aside0.mk ((by rw [hg]; exact lt_ BK953.out : gb953 ≠ gb964))
           have n9_ := Aside0.mk ((by rw [hg]; exact gt_ BK953.out : gb964 ≠ gb953))
           clear BK952
           clear BK953
           clear HB
           have BK952 := n0_
           have BK953 := n1_
           have HB := n2_
           have BK964 := n3_
           have GW964 := n4_
           have GE964 := n5_
           have NB952_964 := n6_
           have NB964_952 := n7_
           have NB953_964 := n8_
           have NB964_953 := n9_
           clear n0_ n1_ n2_ n3_ n4_ n5_ n6_ n7_ n8_ n9_
           clear hb hbox hg
           refine hK.out _ _ ⟨(blk_cell BK952.out 0).trans rfl, (blk_cell BK952.out 1).trans rfl⟩ (fun hHeld => ?_)
           clear hK K
           refine norm_ (a' := ?_) ?_ ?_
           rotate_left
           ·show Act.put _ (some 10) _ = _
            simp only [Act.put, List.setIfInBounds_toArray, List.set_cons_zero, List.set_cons_succ, i64_w, i32_w]
            rfl
           exact norm_ (by first | (simp only [putAll, Act.put, List.setIfInBounds_toArray, List.set_cons_zero, List.set_cons_succ]; done) | (simp only [putAll, Act.put, List.setIfInBounds_toArray, List.set_cons_zero, List.set_cons_succ]; rfl)) (hJ7 (gb964) _ ⟨hHeld, bk_, bk_, bk_, GW964.out, GE964.out, NB952_964.out, NB964_952.out, NB953_964.out, NB964_953.out, hb_⟩)
         ·skip
          rintro gb964 w9 ⟨hS_, h0_, h1_, h2_, h3_, h4_, h5_, h6_, h7_, h8_, h9_⟩
          have n0_ : Aside0 (w9.heap[gb952]? = some (.cells #[.slice A0_0 l0_0.length c0_0, .slice A0_1 l0_1.length c0_1] 29 (0, 0))) := ⟨h0_⟩
          have n1_ : Aside0 (w9.heap[gb953]? = some (.cells #[.slice none 0 0, .int .i64 0, .slice none 0 0] 101 (0, 0))) := ⟨h1_⟩
          have n2_ : Aside0 (w9.heap[gb964]? = some (.cells #[.slice none 0 0, .int .i64 0, .slice none 0 0] 101 (0, 0))) := ⟨h2_⟩
          have n3_ : Aside0 (w.heap.size ≤ gb964) := ⟨h3_⟩
          have n4_ : Aside0 (w.heap.size ≤ gb964) := ⟨h4_⟩
          have n5_ : Aside0 (gb952 ≠ gb964) := ⟨h5_⟩
          have n6_ : Aside0 (gb964 ≠ gb952) := ⟨h6_⟩
          have n7_ : Aside0 (gb953 ≠ gb964) := ⟨h7_⟩
          have n8_ : Aside0 (gb964 ≠ gb953) := ⟨h8_⟩
          have n9_ : Aside0 (Below w.heap.size w w9) := ⟨h9_⟩
          clear BK952
          clear BK953
          clear HB
          clear h0_ h1_ h2_ h3_ h4_ h5_ h6_ h7_ h8_ h9_
          have BK952 := n0_
          have BK953 := n1_
          have BK964 := n2_
          have GW964 := n3_
          have GE964 := n4_
          have NB952_964 := n5_
          have NB964_952 := n6_
          have NB953_964 := n7_
          have NB964_953 := n8_
          have HB := n9_
          clear n0_ n1_ n2_ n3_ n4_ n5_ n6_ n7_ n8_ n9_
          have hHeld : w9.cell? ⟨gb952, 0, none⟩ = some (.slice A0_0 l0_0.length c0_0) ∧ w9.cell? ⟨gb952, 1, none⟩ = some (.slice A0_1 l0_1.length c0_1) := hS_
          refine norm_ (a' := ?_) ?_ ?_
          rotate_left
          ·simp only [putAll, Act.put, List.setIfInBounds_toArray, List.set_cons_zero, List.set_cons_succ]
           rfl
          refine two_ (i := 2) (j := 6) (Ni := some 20) (Nj := some 24) (fm 11 191) (fm 11 251) rfl rfl rfl rfl (two_of HT_.out (by kernel_rfl)) (by decide) (by decide) (fun K hK => ?_) (fun K hK => ?_)
          ·skip
           refine goes_ Try.func116 (by kernel_rfl) rfl #[.agg #[.slice A0_0 l0_0.length c0_0, .slice A0_1 l0_1.length c0_1], .slice A1 l1.length c1] (by rfl) rfl rfl (by (try simp only [List.map_toArray, List.map_cons, List.map_nil]); first | done | rfl | (simp only [List.length_drop, List.length_take]; rfl)) ?_
           with_reducible refine (spec_l05Begin.calls k _ _ l0_0 _ _ l0_1 _ _ l1 t954 t957 t958 _ ?side1 ?side2 ?side3 ?side4 ?side5 ?side6 A4.out).mono ?_
           (case side1 => exact cb_ HR0_0.out HB.out)
           (case side2 => exact HC0_0.out)
           (case side3 => exact cb_ HR0_1.out HB.out)
           (case side4 => exact HC0_1.out)
           (case side5 => exact cb_ HR1.out HB.out)
           (case side6 => exact HC1.out)
           rintro e w10 ⟨v955, v959, rfl, ho0, ho1, hb⟩
           refine ⟨_, rfl, ?_⟩
           have n0_ := Aside0.mk (Kd.S_lower ho0 bz_)
           have n1_ := Aside0.mk (Kd.R_lower ho1 bz_)
           have n2_ := Aside0.mk (bb_ BK952.out hb)
           have n3_ := Aside0.mk (bb_ BK953.out hb)
           have n4_ := Aside0.mk (bb_ BK964.out hb)
           have n5_ := Aside0.mk (bs_ hb)
           clear BK952
           clear BK953
           clear BK964
           clear HB
           have HO956 := n0_
           have HO960 := n1_
           have BK952 := n2_
           have BK953 := n3_
           have BK964 := n4_
           have HB := n5_
           clear n0_ n1_ n2_ n3_ n4_ n5_
           (try clear hb)
           (try clear hb2)
           (try clear hk)
           (try clear hi)
           (try clear ho0)
           (try clear ho1)
           refine hK.out _ _ ⟨(blk_cell BK952.out 0).trans rfl, (blk_cell BK952.out 1).trans rfl⟩ (fun hHeld => ?_)
           clear hK K
           refine norm_ (a' := ?_) ?_ ?_
           rotate_left
           ·show Act.put _ (some 20) _ = _
            simp only [Act.put, List.setIfInBounds_toArray, List.set_cons_zero, List.set_cons_succ, i64_w, i32_w]
            rfl
           exact norm_ (by first | (simp only [putAll, Act.put, List.setIfInBounds_toArray, List.set_cons_zero, List.set_cons_succ]; done) | (simp only [putAll, Act.put, List.setIfInBounds_toArray, List.set_cons_zero, List.set_cons_succ]; rfl)) (hJ2_7 (v955, v959, gb964) _ ⟨hHeld, (so_ HO956.out), (ro_ HO960.out), bk_, bk_, bk_, GW964.out, GE964.out, NB952_964.out, NB964_952.out, NB953_964.out, NB964_953.out, hb_⟩)
          ·skip
           refine Kd.S_lit_step (Kd.slice 2 (Kd.int .i64)) _ 23 ?hg (N := 24) ?hd (xs := ([] : List (List Int))) (inner := []) (ok := fun _ => True) (okp := fun _ => True) ?hr ?hp (fun _ hk => hk) trivial (Below.refl _ _) (Nat.le_refl _) (by simp) ?_; (case hd => rfl); (case hg => rfl); (case hr => first | (go_simp; done) | (go_simp; rfl)); (case hp => exact (Reps.none _ _))
           intro v962 w10 ho11 hb hg_ hnew_
           clear hg_ hnew_
           (first | rw [← Ny961.out] at ho11 | (simp only [Int.reduceToNat] at ho11; rw [← Ny961.out] at ho11))
           have n0_ := Aside0.mk (Kd.S_lower ho11 bz_)
           have n1_ := Aside0.mk (bb_ BK952.out hb)
           have n2_ := Aside0.mk (bb_ BK953.out hb)
           have n3_ := Aside0.mk (bb_ BK964.out hb)
           have n4_ := Aside0.mk (bs_ hb)
           clear BK952
           clear BK953
           clear BK964
           clear HB
           have HO963 := n0_
           have BK952 := n1_
           have BK953 := n2_
           have BK964 := n3_
           have HB := n4_
           clear n0_ n1_ n2_ n3_ n4_
           clear hb ho11
           refine hK.out _ _ ⟨(blk_cell BK952.out 0).trans rfl, (blk_cell BK952.out 1).trans rfl⟩ (fun hHeld => ?_)
           clear hK K
           refine norm_ (a' := ?_) ?_ ?_
           rotate_left
           ·show Act.put _ (some 24) _ = _
            simp only [Act.put, List.setIfInBounds_toArray, List.set_cons_zero, List.set_cons_succ, i64_w, i32_w]
            rfl
           exact norm_ (by first | (simp only [putAll, Act.put, List.setIfInBounds_toArray, List.set_cons_zero, List.set_cons_succ]; done) | (simp only [putAll, Act.put, List.setIfInBounds_toArray, List.set_cons_zero, List.set_cons_succ]; rfl)) (hJ6_7 (v962, gb964) _ ⟨hHeld, (so_ HO963.out), bk_, bk_, bk_, GW964.out, GE964.out, NB952_964.out, NB964_952.out, NB953_964.out, NB964_953.out, hb_⟩)
        ·skip
         rintro v962 w10 ⟨hS_, h0_, h1_, h2_, h3_⟩
         have n0_ : Aside0 (Kd.S (Kd.slice 2 (Kd.int .i64)) 23 w10 w.heap.size (fun _ => True) v962 y961) := ⟨h0_⟩
         have n1_ : Aside0 (w10.heap[gb952]? = some (.cells #[.slice A0_0 l0_0.length c0_0, .slice A0_1 l0_1.length c0_1] 29 (0, 0))) := ⟨h1_⟩
         have n2_ : Aside0 (w10.heap[gb953]? = some (.cells #[.slice none 0 0, .int .i64 0, .slice none 0 0] 101 (0, 0))) := ⟨h2_⟩
         have n3_ : Aside0 (Below w.heap.size w w10) := ⟨h3_⟩
         clear BK952
         clear BK953
         clear HB
         clear h0_ h1_ h2_ h3_
         have HO963 := n0_
         have BK952 := n1_
         have BK953 := n2_
         have HB := n3_
         clear n0_ n1_ n2_ n3_
         have hHeld : w10.cell? ⟨gb952, 0, none⟩ = some (.slice A0_0 l0_0.length c0_0) ∧ w10.cell? ⟨gb952, 1, none⟩ = some (.slice A0_1 l0_1.length c0_1) := hS_
         refine norm_ (a' := ?_) ?_ ?_
         rotate_left
         ·simp only [putAll, Act.put, List.setIfInBounds_toArray, List.set_cons_zero, List.set_cons_succ]
          rfl
         refine two_ (i := 2) (j := 7) (Ni := some 20) (Nj := some 10) (fm 11 127) (fm 11 251) rfl rfl rfl rfl (two_of HT_.out (by kernel_rfl)) (by decide) (by decide) (fun K hK => ?_) (fun K hK => ?_)
         ·skip
          refine goes_ Try.func116 (by kernel_rfl) rfl #[.agg #[.slice A0_0 l0_0.length c0_0, .slice A0_1 l0_1.length c0_1], .slice A1 l1.length c1] (by rfl) rfl rfl (by (try simp only [List.map_toArray, List.map_cons, List.map_nil]); first | done | rfl | (simp only [List.length_drop, List.length_take]; rfl)) ?_
          with_reducible refine (spec_l05Begin.calls k _ _ l0_0 _ _ l0_1 _ _ l1 t954 t957 t958 _ ?side1 ?side2 ?side3 ?side4 ?side5 ?side6 A4.out).mono ?_
          (case side1 => exact cb_ HR0_0.out HB.out)
          (case side2 => exact HC0_0.out)
          (case side3 => exact cb_ HR0_1.out HB.out)
          (case side4 => exact HC0_1.out)
          (case side5 => exact cb_ HR1.out HB.out)
          (case side6 => exact HC1.out)
          rintro e w11 ⟨v955, v959, rfl, ho0, ho1, hb⟩
          refine ⟨_, rfl, ?_⟩
          have n0_ := Aside0.mk (Kd.S_mono (Kd.S_told (Kd.S_told (Kd.S_old (so_ HO963.out) hb) (Kd.S_base ho0)) (Kd.R_base ho1)) (fun _ h_ => h_.1))
          have n1_ := Aside0.mk (Kd.S_lower (Kd.S_new' ho0 (Kd.S_lt (so_ HO963.out))) bz_)
          have n2_ := Aside0.mk (Kd.R_lower ho1 bz_)
          have n3_ := Aside0.mk (bb_ BK952.out hb)
          have n4_ := Aside0.mk (bb_ BK953.out hb)
          have n5_ := Aside0.mk (bs_ hb)
          clear HO963
          clear BK952
          clear BK953
          clear HB
          have HO963 := n0_
          have HO956 := n1_
          have HO960 := n2_
          have BK952 := n3_
          have BK953 := n4_
          have HB := n5_
          clear n0_ n1_ n2_ n3_ n4_ n5_
          (try clear hb)
          (try clear hb2)
          (try clear hk)
          (try clear hi)
          (try clear ho0)
          (try clear ho1)
          refine hK.out _ _ ⟨(blk_cell BK952.out 0).trans rfl, (blk_cell BK952.out 1).trans rfl⟩ (fun hHeld => ?_)
          clear hK K
          refine norm_ (a' := ?_) ?_ ?_
          rotate_left
          ·show Act.put _ (some 20) _ = _
           simp only [Act.put, List.setIfInBounds_toArray, List.set_cons_zero, List.set_cons_succ, i64_w, i32_w]
           rfl
          exact norm_ (by first | (simp only [putAll, Act.put, List.setIfInBounds_toArray, List.set_cons_zero, List.set_cons_succ]; done) | (simp only [putAll, Act.put, List.setIfInBounds_toArray, List.set_cons_zero, List.set_cons_succ]; rfl)) (hJ2_6 (v955, v959, v962) _ ⟨hHeld, (so_ HO956.out), (ro_ HO960.out), (by (with_reducible repeat (first | apply Kd.S_alloc | apply Kd.S_drewN | apply Kd.S_drew)); exact Kd.S_mono HO963.out (fun _ hk => ⟨hk.1.2, hk.2⟩)), bk_, bk_, hb_⟩)
         ·skip
          refine box_step ?hg (N := 10) ?hd (cs := #[.slice none 0 0, .int .i64 0, .slice none 0 0]) (t := 101) ?hr ?_; (case hd => rfl); (case hg => rfl); (case hr => first | (go_simp; done) | (go_simp; rfl))
          intro gb964 hg w11 hbox hb
          have n0_ := Aside0.mk (Kd.S_below (so_ HO963.out) hb)
          have n1_ := Aside0.mk (bb_ BK952.out hb)
          have n2_ := Aside0.mk (bb_ BK953.out hb)
          have n3_ := Aside0.mk (bs_ hb)
          have n4_ := Aside0.mk (hbox)
          have n5_ := Aside0.mk ((by rw [hg]; exact bz_ : w.heap.size ≤ gb964))
          have n6_ := Aside0.mk ((by rw [hg]; exact bz_ : w.heap.size ≤ gb964))
          have n7_ := Aside0.mk ((by rw [hg]; exact lt_ BK952.out : gb952 ≠ gb964))
          have n8_ := Aside0.mk ((by rw [hg]; exact gt_ BK952.out : gb964 ≠ gb952))
          have n9_ := Aside0.mk ((by rw [hg]; exact lt_ BK953.out : gb953 ≠ gb964))
          have n10_ := Aside0.mk ((by rw [hg]; exact gt_ BK953.out : gb964 ≠ gb953))
          clear HO963
          clear BK952
          clear BK953
          clear HB
          have HO963 := n0_
          have BK952 := n1_
          have BK953 := n2_
          have HB := n3_
          have BK964 := n4_
          have GW964 := n5_
          have GE964 := n6_
          have NB952_964 := n7_
          have NB964_952 := n8_
          have NB953_964 := n9_
          have NB964_953 := n10_
          clear n0_ n1_ n2_ n3_ n4_ n5_ n6_ n7_ n8_ n9_ n10_
          clear hb hbox hg
          refine hK.out _ _ ⟨(blk_cell BK952.out 0).trans rfl, (blk_cell BK952.out 1).trans rfl⟩ (fun hHeld => ?_)
          clear hK K
          refine norm_ (a' := ?_) ?_ ?_
          rotate_left
          ·show Act.put _ (some 10) _ = _
           simp only [Act.put, List.setIfInBounds_toArray, List.set_cons_zero, List.set_cons_succ, i64_w, i32_w]
           rfl
          exact norm_ (by first | (simp only [putAll, Act.put, List.setIfInBounds_toArray, List.set_cons_zero, List.set_cons_succ]; done) | (simp only [putAll, Act.put, List.setIfInBounds_toArray, List.set_cons_zero, List.set_cons_succ]; rfl)) (hJ6_7 (v962, gb964) _ ⟨hHeld, (so_ HO963.out), bk_, bk_, bk_, GW964.out, GE964.out, NB952_964.out, NB964_952.out, NB953_964.out, NB964_953.out, hb_⟩)
       ·skip
        rintro ⟨v955, v959⟩ w9 ⟨hS_, h0_, h1_, h2_, h3_, h4_⟩
        have n0_ : Aside0 (Kd.S (Kd.slice 2 (Kd.int .i64)) 23 w9 w.heap.size (fun k_ => some k_ ≠ (v959 : Value).ownBlock) v955 t954) := ⟨h0_⟩
        have n1_ : Aside0 (Kd.R (Kd.int .i64) 2 w9 w.heap.size (fun _ => True) v959 t958) := ⟨h1_⟩
        have n2_ : Aside0 (w9.heap[gb952]? = some (.cells #[.slice A0_0 l0_0.length c0_0, .slice A0_1 l0_1.length c0_1] 29 (0, 0))) := ⟨h2_⟩
        have n3_ : Aside0 (w9.heap[gb953]? = some (.cells #[.slice none 0 0, .int .i64 0, .slice none 0 0] 101 (0, 0))) := ⟨h3_⟩
        have n4_ : Aside0 (Below w.heap.size w w9) := ⟨h4_⟩
        clear BK952
        clear BK953
        clear HB
        clear h0_ h1_ h2_ h3_ h4_
        have HO956 := n0_
        have HO960 := n1_
        have BK952 := n2_
        have BK953 := n3_
        have HB := n4_
        clear n0_ n1_ n2_ n3_ n4_
        have hHeld : w9.cell? ⟨gb952, 0, none⟩ = some (.slice A0_0 l0_0.length c0_0) ∧ w9.cell? ⟨gb952, 1, none⟩ = some (.slice A0_1 l0_1.length c0_1) := hS_
        refine norm_ (a' := ?_) ?_ ?_
        rotate_left
        ·simp only [putAll, Act.put, List.setIfInBounds_toArray, List.set_cons_zero, List.set_cons_succ]
         rfl
        refine two_ (i := 6) (j := 7) (Ni := some 24) (Nj := some 10) (fm 11 127) (fm 11 191) rfl rfl rfl rfl (two_of HT_.out (by kernel_rfl)) (by decide) (by decide) (fun K hK => ?_) (fun K hK => ?_)
        ·skip
         refine Kd.S_lit_step (Kd.slice 2 (Kd.int .i64)) _ 23 ?hg (N := 24) ?hd (xs := ([] : List (List Int))) (inner := []) (ok := fun _ => True) (okp := fun _ => True) ?hr ?hp (fun _ hk => hk) trivial (Below.refl _ _) (Nat.le_refl _) (by simp) ?_; (case hd => rfl); (case hg => rfl); (case hr => first | (go_simp; done) | (go_simp; rfl)); (case hp => exact (Reps.none _ _))
         intro v962 w10 ho11 hb hg_ hnew_
         clear hg_ hnew_
         (first | rw [← Ny961.out] at ho11 | (simp only [Int.reduceToNat] at ho11; rw [← Ny961.out] at ho11))
         have n0_ := Aside0.mk (Kd.S_elder' (so_ HO956.out) (Kd.S_base ho11) hb)
         have n1_ := Aside0.mk (rb_ HO960.out hb)
         have n2_ := Aside0.mk (Kd.S_lower (Kd.S_new' (Kd.S_new' ho11 (Kd.S_lt (so_ HO956.out))) (Kd.R_lt (ro_ HO960.out))) bz_)
         have n3_ := Aside0.mk (bb_ BK952.out hb)
         have n4_ := Aside0.mk (bb_ BK953.out hb)
         have n5_ := Aside0.mk (bs_ hb)
         clear HO956
         clear HO960
         clear BK952
         clear BK953
         clear HB
         have HO956 := n0_
         have HO960 := n1_
         have HO963 := n2_
         have BK952 := n3_
         have BK953 := n4_
         have HB := n5_
         clear n0_ n1_ n2_ n3_ n4_ n5_
         clear hb ho11
         refine hK.out _ _ ⟨(blk_cell BK952.out 0).trans rfl, (blk_cell BK952.out 1).trans rfl⟩ (fun hHeld => ?_)
         clear hK K
         refine norm_ (a' := ?_) ?_ ?_
         rotate_left
         ·show Act.put _ (some 24) _ = _
          simp only [Act.put, List.setIfInBounds_toArray, List.set_cons_zero, List.set_cons_succ, i64_w, i32_w]
          rfl
         exact norm_ (by first | (simp only [putAll, Act.put, List.setIfInBounds_toArray, List.set_cons_zero, List.set_cons_succ]; done) | (simp only [putAll, Act.put, List.setIfInBounds_toArray, List.set_cons_zero, List.set_cons_succ]; rfl)) (hJ2_6 (v955, v959, v962) _ ⟨hHeld, (so_ HO956.out), (ro_ HO960.out), (by (with_reducible repeat (first | apply Kd.S_alloc | apply Kd.S_drewN | apply Kd.S_drew)); exact Kd.S_mono HO963.out (fun _ hk => ⟨hk.1.2, hk.2⟩)), bk_, bk_, hb_⟩)
        ·skip
         refine box_step ?hg (N := 10) ?hd (cs := #[.slice none 0 0, .int .i64 0, .slice none 0 0]) (t := 101) ?hr ?_; (case hd => rfl); (case hg => rfl); (case hr => first | (go_simp; done) | (go_simp; rfl))
         intro gb964 hg w10 hbox hb
         have n0_ := Aside0.mk (Kd.S_below (so_ HO956.out) hb)
         have n1_ := Aside0.mk (rb_ HO960.out hb)
         have n2_ := Aside0.mk (bb_ BK952.out hb)
         have n3_ := Aside0.mk (bb_ BK953.out hb)
         have n4_ := Aside0.mk (bs_ hb)
         have n5_ := Aside0.mk (hbox)
         have n6_ := Aside0.mk ((by rw [hg]; exact bz_ : w.heap.size ≤ gb964))
         have n7_ := Aside0.mk ((by rw [hg]; exact bz_ : w.heap.size ≤ gb964))
         have n8_ := Aside0.mk ((by rw [hg]; exact lt_ BK952.out : gb952 ≠ gb964))
         have n9_ := Aside0.mk ((by rw [hg]; exact gt_ BK952.out : gb964 ≠ gb952))
         have n10_ := Aside0.mk ((by rw [hg]; exact lt_ BK953.out : gb953 ≠ gb964))
         have n11_ := Aside0.mk ((by rw [hg]; exact gt_ BK953.out : gb964 ≠ gb953))
         clear HO956
         clear HO960
         clear BK952
         clear BK953
         clear HB
         have HO956 := n0_
         have HO960 := n1_
         have BK952 := n2_
         have BK953 := n3_
         have HB := n4_
         have BK964 := n5_
         have GW964 := n6_
         have GE964 := n7_
         have NB952_964 := n8_
         have NB964_952 := n9_
         have NB953_964 := n10_
         have NB964_953 := n11_
         clear n0_ n1_ n2_ n3_ n4_ n5_ n6_ n7_ n8_ n9_ n10_ n11_
         clear hb hbox hg
         refine hK.out _ _ ⟨(blk_cell BK952.out 0).trans rfl, (blk_cell BK952.out 1).trans rfl⟩ (fun hHeld => ?_)
         clear hK K
         refine norm_ (a' := ?_) ?_ ?_
         rotate_left
         ·show Act.put _ (some 10) _ = _
          simp only [Act.put, List.setIfInBounds_toArray, List.set_cons_zero, List.set_cons_succ, i64_w, i32_w]
          rfl
         exact norm_ (by first | (simp only [putAll, Act.put, List.setIfInBounds_toArray, List.set_cons_zero, List.set_cons_succ]; done) | (simp only [putAll, Act.put, List.setIfInBounds_toArray, List.set_cons_zero, List.set_cons_succ]; rfl)) (hJ2_7 (v955, v959, gb964) _ ⟨hHeld, (so_ HO956.out), (ro_ HO960.out), bk_, bk_, bk_, GW964.out, GE964.out, NB952_964.out, NB964_952.out, NB953_964.out, NB964_953.out, hb_⟩)
      ·skip
       rintro ⟨v962, gb964⟩ w11 ⟨hS_, h0_, h1_, h2_, h3_, h4_, h5_, h6_, h7_, h8_, h9_, h10_⟩
       have n0_ : Aside0 (Kd.S (Kd.slice 2 (Kd.int .i64)) 23 w11 w.heap.size (fun _ => True) v962 y961) := ⟨h0_⟩
       have n1_ : Aside0 (w11.heap[gb952]? = some (.cells #[.slice A0_0 l0_0.length c0_0, .slice A0_1 l0_1.length c0_1] 29 (0, 0))) := ⟨h1_⟩
       have n2_ : Aside0 (w11.heap[gb953]? = some (.cells #[.slice none 0 0, .int .i64 0, .slice none 0 0] 101 (0, 0))) := ⟨h2_⟩
       have n3_ : Aside0 (w11.heap[gb964]? = some (.cells #[.slice none 0 0, .int .i64 0, .slice none 0 0] 101 (0, 0))) := ⟨h3_⟩
       have n4_ : Aside0 (w.heap.size ≤ gb964) := ⟨h4_⟩
       have n5_ : Aside0 (w.heap.size ≤ gb964) := ⟨h5_⟩
       have n6_ : Aside0 (gb952 ≠ gb964) := ⟨h6_⟩
       have n7_ : Aside0 (gb964 ≠ gb952) := ⟨h7_⟩
       have n8_ : Aside0 (gb953 ≠ gb964) := ⟨h8_⟩
       have n9_ : Aside0 (gb964 ≠ gb953) := ⟨h9_⟩
       have n10_ : Aside0 (Below w.heap.size w w11) := ⟨h10_⟩
       clear BK952
       clear BK953
       clear HB
       clear h0_ h1_ h2_ h3_ h4_ h5_ h6_ h7_ h8_ h9_ h10_
       have HO963 := n0_
       have BK952 := n1_
       have BK953 := n2_
       have BK964 := n3_
       have GW964 := n4_
       have GE964 := n5_
       have NB952_964 := n6_
       have NB964_952 := n7_
       have NB953_964 := n8_
       have NB964_953 := n9_
       have HB := n10_
       clear n0_ n1_ n2_ n3_ n4_ n5_ n6_ n7_ n8_ n9_ n10_
       have hHeld : w11.cell? ⟨gb952, 0, none⟩ = some (.slice A0_0 l0_0.length c0_0) ∧ w11.cell? ⟨gb952, 1, none⟩ = some (.slice A0_1 l0_1.length c0_1) := hS_
       refine norm_ (a' := ?_) ?_ ?_
       rotate_left
       ·simp only [putAll, Act.put, List.setIfInBounds_toArray, List.set_cons_zero, List.set_cons_succ]
        rfl
       refine on_ 2 (some 20) (fun K hK => ?_)
       refine goes_ Try.func116 (by kernel_rfl) rfl #[.agg #[.slice A0_0 l0_0.length c0_0, .slice A0_1 l0_1.length c0_1], .slice A1 l1.length c1] (by rfl) rfl rfl (by (try simp only [List.map_toArray, List.map_cons, List.map_nil]); first | done | rfl | (simp only [List.length_drop, List.length_take]; rfl)) ?_
       with_reducible refine (spec_l05Begin.calls k _ _ l0_0 _ _ l0_1 _ _ l1 t954 t957 t958 _ ?side1 ?side2 ?side3 ?side4 ?side5 ?side6 A4.out).mono ?_
       (case side1 => exact cb_ HR0_0.out HB.out)
       (case side2 => exact HC0_0.out)
       (case side3 => exact cb_ HR0_1.out HB.out)
       (case side4 => exact HC0_1.out)
       (case side5 => exact cb_ HR1.out HB.out)
       (case side6 => exact HC1.out)
       rintro e w12 ⟨v955, v959, rfl, ho0, ho1, hb⟩
       refine ⟨_, rfl, ?_⟩
       have n0_ := Aside0.mk (Kd.S_mono (Kd.S_told (Kd.S_told (Kd.S_old (so_ HO963.out) hb) (Kd.S_base ho0)) (Kd.R_base ho1)) (fun _ h_ => h_.1))
       have n1_ := Aside0.mk (Kd.S_lower (Kd.S_new' ho0 (Kd.S_lt (so_ HO963.out))) bz_)
       have n2_ := Aside0.mk (Kd.R_lower ho1 bz_)
       have n3_ := Aside0.mk (bb_ BK952.out hb)
       have n4_ := Aside0.mk (bb_ BK953.out hb)
       have n5_ := Aside0.mk (bb_ BK964.out hb)
       have n6_ := Aside0.mk (bs_ hb)
       clear HO963
       clear BK952
       clear BK953
       clear BK964
       clear HB
       have HO963 := n0_
       have HO956 := n1_
       have HO960 := n2_
       have BK952 := n3_
       have BK953 := n4_
       have BK964 := n5_
       have HB := n6_
       clear n0_ n1_ n2_ n3_ n4_ n5_ n6_
       (try clear hb)
       (try clear hb2)
       (try clear hk)
       (try clear hi)
       (try clear ho0)
       (try clear ho1)
       refine hK.out _ _ ⟨(blk_cell BK952.out 0).trans rfl, (blk_cell BK952.out 1).trans rfl⟩ (fun hHeld => ?_)
       clear hK K
       refine norm_ (a' := ?_) ?_ ?_
       rotate_left
       ·show Act.put _ (some 20) _ = _
        simp only [Act.put, List.setIfInBounds_toArray, List.set_cons_zero, List.set_cons_succ, i64_w, i32_w]
        rfl
       exact norm_ (by first | (simp only [putAll, Act.put, List.setIfInBounds_toArray, List.set_cons_zero, List.set_cons_succ]; done) | (simp only [putAll, Act.put, List.setIfInBounds_toArray, List.set_cons_zero, List.set_cons_succ]; rfl)) (hJ2_6_7 (v955, v959, v962, gb964) _ ⟨hHeld, (so_ HO956.out), (ro_ HO960.out), (by (with_reducible repeat (first | apply Kd.S_alloc | apply Kd.S_drewN | apply Kd.S_drew)); exact Kd.S_mono HO963.out (fun _ hk => ⟨hk.1.2, hk.2⟩)), bk_, bk_, bk_, GW964.out, GE964.out, NB952_964.out, NB964_952.out, NB953_964.out, NB964_953.out, hb_⟩)
     ·skip
      rintro ⟨v955, v959, gb964⟩ w10 ⟨hS_, h0_, h1_, h2_, h3_, h4_, h5_, h6_, h7_, h8_, h9_, h10_, h11_⟩
      have n0_ : Aside0 (Kd.S (Kd.slice 2 (Kd.int .i64)) 23 w10 w.heap.size (fun k_ => some k_ ≠ (v959 : Value).ownBlock) v955 t954) := ⟨h0_⟩
      have n1_ : Aside0 (Kd.R (Kd.int .i64) 2 w10 w.heap.size (fun _ => True) v959 t958) := ⟨h1_⟩
      have n2_ : Aside0 (w10.heap[gb952]? = some (.cells #[.slice A0_0 l0_0.length c0_0, .slice A0_1 l0_1.length c0_1] 29 (0, 0))) := ⟨h2_⟩
      have n3_ : Aside0 (w10.heap[gb953]? = some (.cells #[.slice none 0 0, .int .i64 0, .slice none 0 0] 101 (0, 0))) := ⟨h3_⟩
      have n4_ : Aside0 (w10.heap[gb964]? = some (.cells #[.slice none 0 0, .int .i64 0, .slice none 0 0] 101 (0, 0))) := ⟨h4_⟩
      have n5_ : Aside0 (w.heap.size ≤ gb964) := ⟨h5_⟩
      have n6_ : Aside0 (w.heap.size ≤ gb964) := ⟨h6_⟩
      have n7_ : Aside0 (gb952 ≠ gb964) := ⟨h7_⟩
      have n8_ : Aside0 (gb964 ≠ gb952) := ⟨h8_⟩
      have n9_ : Aside0 (gb953 ≠ gb964) := ⟨h9_⟩
      have n10_ : Aside0 (gb964 ≠ gb953) := ⟨h10_⟩
      have n11_ : Aside0 (Below w.heap.size w w10) := ⟨h11_⟩
      clear BK952
      clear BK953
      clear HB
      clear h0_ h1_ h2_ h3_ h4_ h5_ h6_ h7_ h8_ h9_ h10_ h11_
      have HO956 := n0_
      have HO960 := n1_
      have BK952 := n2_
      have BK953 := n3_
      have BK964 := n4_
      have GW964 := n5_
      have GE964 := n6_
      have NB952_964 := n7_
      have NB964_952 := n8_
      have NB953_964 := n9_
      have NB964_953 := n10_
      have HB := n11_
      clear n0_ n1_ n2_ n3_ n4_ n5_ n6_ n7_ n8_ n9_ n10_ n11_
      have hHeld : w10.cell? ⟨gb952, 0, none⟩ = some (.slice A0_0 l0_0.length c0_0) ∧ w10.cell? ⟨gb952, 1, none⟩ = some (.slice A0_1 l0_1.length c0_1) := hS_
      refine norm_ (a' := ?_) ?_ ?_
      rotate_left
      ·simp only [putAll, Act.put, List.setIfInBounds_toArray, List.set_cons_zero, List.set_cons_succ]
       rfl
      refine two_ (i := 6) (j := 8) (Ni := some 24) (Nj := none) (fm 11 255) (fm 11 447) rfl rfl rfl rfl (two_of HT_.out (by kernel_rfl)) (by decide) (by decide) (fun K hK => ?_) (fun K hK => ?_)
      ·skip
       refine Kd.S_lit_step (Kd.slice 2 (Kd.int .i64)) _ 23 ?hg (N := 24) ?hd (xs := ([] : List (List Int))) (inner := []) (ok := fun _ => True) (okp := fun _ => True) ?hr ?hp (fun _ hk => hk) trivial (Below.refl _ _) (Nat.le_refl _) (by simp) ?_; (case hd => rfl); (case hg => rfl); (case hr => first | (go_simp; done) | (go_simp; rfl)); (case hp => exact (Reps.none _ _))
       intro v962 w11 ho12 hb hg_ hnew_
       clear hg_ hnew_
       (first | rw [← Ny961.out] at ho12 | (simp only [Int.reduceToNat] at ho12; rw [← Ny961.out] at ho12))
       have n0_ := Aside0.mk (Kd.S_elder' (so_ HO956.out) (Kd.S_base ho12) hb)
       have n1_ := Aside0.mk (rb_ HO960.out hb)
       have n2_ := Aside0.mk (Kd.S_lower (Kd.S_new' (Kd.S_new' ho12 (Kd.S_lt (so_ HO956.out))) (Kd.R_lt (ro_ HO960.out))) bz_)
       have n3_ := Aside0.mk (bb_ BK952.out hb)
       have n4_ := Aside0.mk (bb_ BK953.out hb)
       have n5_ := Aside0.mk (bb_ BK964.out hb)
       have n6_ := Aside0.mk (bs_ hb)
       clear HO956
       clear HO960
       clear BK952
       clear BK953
       clear BK964
       clear HB
       have HO956 := n0_
       have HO960 := n1_
       have HO963 := n2_
       have BK952 := n3_
       have BK953 := n4_
       have BK964 := n5_
       have HB := n6_
       clear n0_ n1_ n2_ n3_ n4_ n5_ n6_
       clear hb ho12
       refine hK.out _ _ ⟨(blk_cell BK952.out 0).trans rfl, (blk_cell BK952.out 1).trans rfl⟩ (fun hHeld => ?_)
       clear hK K
       refine norm_ (a' := ?_) ?_ ?_
       rotate_left
       ·show Act.put _ (some 24) _ = _
        simp only [Act.put, List.setIfInBounds_toArray, List.set_cons_zero, List.set_cons_succ, i64_w, i32_w]
        rfl
       exact norm_ (by first | (simp only [putAll, Act.put, List.setIfInBounds_toArray, List.set_cons_zero, List.set_cons_succ]; done) | (simp only [putAll, Act.put, List.setIfInBounds_toArray, List.set_cons_zero, List.set_cons_succ]; rfl)) (hJ2_6_7 (v955, v959, v962, gb964) _ ⟨hHeld, (so_ HO956.out), (ro_ HO960.out), (by (with_reducible repeat (first | apply Kd.S_alloc | apply Kd.S_drewN | apply Kd.S_drew)); exact Kd.S_mono HO963.out (fun _ hk => ⟨hk.1.2, hk.2⟩)), bk_, bk_, bk_, GW964.out, GE964.out, NB952_964.out, NB964_952.out, NB953_964.out, NB964_953.out, hb_⟩)
      ·skip
       have hs12 : w10.cell? ⟨gb964, 0, none⟩ = some (.slice none 0 0) := (blk_cell BK964.out 0).trans rfl
       have hfs12 := blk_frozen BK964.out 0
       have hns12_0 := NB952_964.out
       have hns12_1 := NB953_964.out
       have hms12_0 := NB964_952.out
       have hms12_1 := NB964_953.out
       have hs13 : w10.cell? ⟨gb964, 1, none⟩ = some (.int .i64 0) := (blk_cell BK964.out 1).trans rfl
       have hfs13 := blk_frozen BK964.out 1
       have hns13_0 := NB952_964.out
       have hns13_1 := NB953_964.out
       have hms13_0 := NB964_952.out
       have hms13_1 := NB964_953.out
       have hs15 : w10.cell? ⟨gb964, 2, none⟩ = some (.slice none 0 0) := (blk_cell BK964.out 2).trans rfl
       have hfs15 := blk_frozen BK964.out 2
       have hns15_0 := NB952_964.out
       have hns15_1 := NB953_964.out
       have hms15_0 := NB964_952.out
       have hms15_1 := NB964_953.out
       obtain ⟨Ao11, co11, eo_⟩ := Kd.S_slice HO956.out
       subst eo_
       obtain ⟨Ao14, co14, eo_⟩ := Kd.R_slice HO960.out
       subst eo_
       refine skip_ (w1 := ?_) (by rfl) rfl ?_ ?_
       rotate_left
       ·go_simp
        rfl
       refine hK.out _ _ ⟨((cell_far (p := ⟨gb964, _, none⟩) NB952_964.out _).trans (((cell_far (p := ⟨gb964, _, none⟩) NB952_964.out _).trans (((cell_far (p := ⟨gb964, _, none⟩) NB952_964.out _).trans (hHeld.1)))))), ((cell_far (p := ⟨gb964, _, none⟩) NB952_964.out _).trans (((cell_far (p := ⟨gb964, _, none⟩) NB952_964.out _).trans (((cell_far (p := ⟨gb964, _, none⟩) NB952_964.out _).trans (hHeld.2))))))⟩ (fun hHeld => ?_)
       clear hK K
       refine pu_ 9 11 ?_
       exact norm_ (by first | (simp only [putAll, Act.put, List.setIfInBounds_toArray, List.set_cons_zero, List.set_cons_succ]; done) | (simp only [putAll, Act.put, List.setIfInBounds_toArray, List.set_cons_zero, List.set_cons_succ]; rfl)) (hJ2_7_8 (.slice Ao11 t954.length co11, .slice Ao14 t958.length co14, gb964) _ ⟨hHeld, (by (with_reducible repeat (first | apply Kd.S_alloc | apply Kd.S_drewN | apply Kd.S_drew)); exact Kd.S_mono (Kd.S_far (p := ⟨gb964, 2, none⟩) (Kd.S_far (p := ⟨gb964, 1, none⟩) (Kd.S_far (p := ⟨gb964, 0, none⟩) (Kd.S_types HO956.out BK964.out (by decide)) (fun _ hk => hk.2) (.slice Ao11 t954.length co11)) (fun _ hk => hk.2) (.int .i64 t957)) (fun _ hk => hk.2) (.slice Ao14 t958.length co14)) (fun _ hk => hk.1)), (by (with_reducible repeat (first | apply Kd.R_alloc | apply Kd.R_drewN | apply Kd.R_drew)); exact Kd.R_mono (Kd.R_far (p := ⟨gb964, 2, none⟩) (Kd.R_far (p := ⟨gb964, 1, none⟩) (Kd.R_far (p := ⟨gb964, 0, none⟩) (Kd.R_types HO960.out BK964.out (by decide)) (fun _ hk => hk.2) (.slice Ao11 t954.length co11)) (fun _ hk => hk.2) (.int .i64 t957)) (fun _ hk => hk.2) (.slice Ao14 t958.length co14)) (fun _ hk => trivial)), (by (with_reducible repeat (first | refine blk_drewN ?_ _ | refine blk_drew ?_ | refine blk_alloc ?_ _)); refine blk_far ?_ NB952_964.out _; (with_reducible repeat (first | refine blk_drewN ?_ _ | refine blk_drew ?_ | refine blk_alloc ?_ _)); refine blk_far ?_ NB952_964.out _; (with_reducible repeat (first | refine blk_drewN ?_ _ | refine blk_drew ?_ | refine blk_alloc ?_ _)); refine blk_far ?_ NB952_964.out _; (with_reducible repeat (first | refine blk_drewN ?_ _ | refine blk_drew ?_ | refine blk_alloc ?_ _)); exact BK952.out), (by (with_reducible repeat (first | refine blk_drewN ?_ _ | refine blk_drew ?_ | refine blk_alloc ?_ _)); refine blk_far ?_ NB953_964.out _; (with_reducible repeat (first | refine blk_drewN ?_ _ | refine blk_drew ?_ | refine blk_alloc ?_ _)); refine blk_far ?_ NB953_964.out _; (with_reducible repeat (first | refine blk_drewN ?_ _ | refine blk_drew ?_ | refine blk_alloc ?_ _)); refine blk_far ?_ NB953_964.out _; (with_reducible repeat (first | refine blk_drewN ?_ _ | refine blk_drew ?_ | refine blk_alloc ?_ _)); exact BK953.out), (by (with_reducible repeat (first | refine blk_drewN ?_ _ | refine blk_drew ?_ | refine blk_alloc ?_ _)); refine blk_put (cs := #[.slice Ao11 t954.length co11, .int .i64 t957, .slice none 0 0]) ?_ 2 _ rfl; (with_reducible repeat (first | refine blk_drewN ?_ _ | refine blk_drew ?_ | refine blk_alloc ?_ _)); refine blk_put (cs := #[.slice Ao11 t954.length co11, .int .i64 0, .slice none 0 0]) ?_ 1 _ rfl; (with_reducible repeat (first | refine blk_drewN ?_ _ | refine blk_drew ?_ | refine blk_alloc ?_ _)); refine blk_put (cs := #[.slice none 0 0, .int .i64 0, .slice none 0 0]) ?_ 0 _ rfl; (with_reducible repeat (first | refine blk_drewN ?_ _ | refine blk_drew ?_ | refine blk_alloc ?_ _)); exact BK964.out), GW964.out, GE964.out, NB952_964.out, NB964_952.out, NB953_964.out, NB964_953.out, hb_⟩)
    ·skip
     rintro ⟨v955, v959, v962⟩ w11 ⟨hS_, h0_, h1_, h2_, h3_, h4_, h5_⟩
     have n0_ : Aside0 (Kd.S (Kd.slice 2 (Kd.int .i64)) 23 w11 w.heap.size (fun k_ => some k_ ≠ (v959 : Value).ownBlock ∧ some k_ ≠ (v962 : Value).ownBlock) v955 t954) := ⟨h0_⟩
     have n1_ : Aside0 (Kd.R (Kd.int .i64) 2 w11 w.heap.size (fun _ => True) v959 t958) := ⟨h1_⟩
     have n2_ : Aside0 (Kd.S (Kd.slice 2 (Kd.int .i64)) 23 w11 w.heap.size (fun k_ => some k_ ≠ (v955 : Value).ownBlock ∧ some k_ ≠ (v959 : Value).ownBlock) v962 y961) := ⟨h2_⟩
     have n3_ : Aside0 (w11.heap[gb952]? = some (.cells #[.slice A0_0 l0_0.length c0_0, .slice A0_1 l0_1.length c0_1] 29 (0, 0))) := ⟨h3_⟩
     have n4_ : Aside0 (w11.heap[gb953]? = some (.cells #[.slice none 0 0, .int .i64 0, .slice none 0 0] 101 (0, 0))) := ⟨h4_⟩
     have n5_ : Aside0 (Below w.heap.size w w11) := ⟨h5_⟩
     clear BK952
     clear BK953
     clear HB
     clear h0_ h1_ h2_ h3_ h4_ h5_
     have HO956 := n0_
     have HO960 := n1_
     have HO963 := n2_
     have BK952 := n3_
     have BK953 := n4_
     have HB := n5_
     clear n0_ n1_ n2_ n3_ n4_ n5_
     have hHeld : w11.cell? ⟨gb952, 0, none⟩ = some (.slice A0_0 l0_0.length c0_0) ∧ w11.cell? ⟨gb952, 1, none⟩ = some (.slice A0_1 l0_1.length c0_1) := hS_
     refine norm_ (a' := ?_) ?_ ?_
     rotate_left
     ·simp only [putAll, Act.put, List.setIfInBounds_toArray, List.set_cons_zero, List.set_cons_succ]
      rfl
     refine on_ 7 (some 10) (fun K hK => ?_)
     refine box_step ?hg (N := 10) ?hd (cs := #[.slice none 0 0, .int .i64 0, .slice none 0 0]) (t := 101) ?hr ?_; (case hd => rfl); (case hg => rfl); (case hr => first | (go_simp; done) | (go_simp; rfl))
     intro gb964 hg w12 hbox hb
     have n0_ := Aside0.mk (Kd.S_below (so_ HO956.out) hb)
     have n1_ := Aside0.mk (rb_ HO960.out hb)
     have n2_ := Aside0.mk (Kd.S_below (so_ HO963.out) hb)
     have n3_ := Aside0.mk (bb_ BK952.out hb)
     have n4_ := Aside0.mk (bb_ BK953.out hb)
     have n5_ := Aside0.mk (bs_ hb)
     have n6_ := Aside0.mk (hbox)
     have n7_ := Aside0.mk ((by rw [hg]; exact bz_ : w.heap.size ≤ gb964))
     have n8_ := Aside0.mk ((by rw [hg]; exact bz_ : w.heap.size ≤ gb964))
     have n9_ := Aside0.mk ((by rw [hg]; exact lt_ BK952.out : gb952 ≠ gb964))
     have n10_ := Aside0.mk ((by rw [hg]; exact gt_ BK952.out : gb964 ≠ gb952))
     have n11_ := Aside0.mk ((by rw [hg]; exact lt_ BK953.out : gb953 ≠ gb964))
     have n12_ := Aside0.mk ((by rw [hg]; exact gt_ BK953.out : gb964 ≠ gb953))
     clear HO956
     clear HO960
     clear HO963
     clear BK952
     clear BK953
     clear HB
     have HO956 := n0_
     have HO960 := n1_
     have HO963 := n2_
     have BK952 := n3_
     have BK953 := n4_
     have HB := n5_
     have BK964 := n6_
     have GW964 := n7_
     have GE964 := n8_
     have NB952_964 := n9_
     have NB964_952 := n10_
     have NB953_964 := n11_
     have NB964_953 := n12_
     clear n0_ n1_ n2_ n3_ n4_ n5_ n6_ n7_ n8_ n9_ n10_ n11_ n12_
     clear hb hbox hg
     refine hK.out _ _ ⟨(blk_cell BK952.out 0).trans rfl, (blk_cell BK952.out 1).trans rfl⟩ (fun hHeld => ?_)
     clear hK K
     refine norm_ (a' := ?_) ?_ ?_
     rotate_left
     ·show Act.put _ (some 10) _ = _
      simp only [Act.put, List.setIfInBounds_toArray, List.set_cons_zero, List.set_cons_succ, i64_w, i32_w]
      rfl
     exact norm_ (by first | (simp only [putAll, Act.put, List.setIfInBounds_toArray, List.set_cons_zero, List.set_cons_succ]; done) | (simp only [putAll, Act.put, List.setIfInBounds_toArray, List.set_cons_zero, List.set_cons_succ]; rfl)) (hJ2_6_7 (v955, v959, v962, gb964) _ ⟨hHeld, (so_ HO956.out), (ro_ HO960.out), (so_ HO963.out), bk_, bk_, bk_, GW964.out, GE964.out, NB952_964.out, NB964_952.out, NB953_964.out, NB964_953.out, hb_⟩)
   ·skip
    rintro ⟨v955, v959, gb964⟩ w15 ⟨hS_, h0_, h1_, h2_, h3_, h4_, h5_, h6_, h7_, h8_, h9_, h10_, h11_⟩
    have n0_ : Aside0 (Kd.S (Kd.slice 2 (Kd.int .i64)) 23 w15 w.heap.size (fun k_ => some k_ ≠ (v959 : Value).ownBlock) v955 t954) := ⟨h0_⟩
    have n1_ : Aside0 (Kd.R (Kd.int .i64) 2 w15 w.heap.size (fun _ => True) v959 t958) := ⟨h1_⟩
    have n2_ : Aside0 (w15.heap[gb952]? = some (.cells #[.slice A0_0 l0_0.length c0_0, .slice A0_1 l0_1.length c0_1] 29 (0, 0))) := ⟨h2_⟩
    have n3_ : Aside0 (w15.heap[gb953]? = some (.cells #[.slice none 0 0, .int .i64 0, .slice none 0 0] 101 (0, 0))) := ⟨h3_⟩
    have n4_ : Aside0 (w15.heap[gb964]? = some (.cells #[v955, .int .i64 t957, v959] 101 (0, 0))) := ⟨h4_⟩
    have n5_ : Aside0 (w.heap.size ≤ gb964) := ⟨h5_⟩
    have n6_ : Aside0 (w.heap.size ≤ gb964) := ⟨h6_⟩
    have n7_ : Aside0 (gb952 ≠ gb964) := ⟨h7_⟩
    have n8_ : Aside0 (gb964 ≠ gb952) := ⟨h8_⟩
    have n9_ : Aside0 (gb953 ≠ gb964) := ⟨h9_⟩
    have n10_ : Aside0 (gb964 ≠ gb953) := ⟨h10_⟩
    have n11_ : Aside0 (Below w.heap.size w w15) := ⟨h11_⟩
    clear BK952
    clear BK953
    clear HB
    clear h0_ h1_ h2_ h3_ h4_ h5_ h6_ h7_ h8_ h9_ h10_ h11_
    have HO956 := n0_
    have HO960 := n1_
    have BK952 := n2_
    have BK953 := n3_
    have BK964 := n4_
    have GW964 := n5_
    have GE964 := n6_
    have NB952_964 := n7_
    have NB964_952 := n8_
    have NB953_964 := n9_
    have NB964_953 := n10_
    have HB := n11_
    clear n0_ n1_ n2_ n3_ n4_ n5_ n6_ n7_ n8_ n9_ n10_ n11_
    have hHeld : w15.cell? ⟨gb952, 0, none⟩ = some (.slice A0_0 l0_0.length c0_0) ∧ w15.cell? ⟨gb952, 1, none⟩ = some (.slice A0_1 l0_1.length c0_1) := hS_
    refine norm_ (a' := ?_) ?_ ?_
    rotate_left
    ·simp only [putAll, Act.put, List.setIfInBounds_toArray, List.set_cons_zero, List.set_cons_succ]
     rfl
    refine on_ 6 (some 24) (fun K hK => ?_)
    refine Kd.S_lit_step (Kd.slice 2 (Kd.int .i64)) _ 23 ?hg (N := 24) ?hd (xs := ([] : List (List Int))) (inner := []) (ok := fun _ => True) (okp := fun _ => True) ?hr ?hp (fun _ hk => hk) trivial (Below.refl _ _) (Nat.le_refl _) (by simp) ?_; (case hd => rfl); (case hg => rfl); (case hr => first | (go_simp; done) | (go_simp; rfl)); (case hp => exact (Reps.none _ _))
    intro v962 w16 ho17 hb hg_ hnew_
    clear hg_ hnew_
    (first | rw [← Ny961.out] at ho17 | (simp only [Int.reduceToNat] at ho17; rw [← Ny961.out] at ho17))
    have n0_ := Aside0.mk (Kd.S_elder' (so_ HO956.out) (Kd.S_base ho17) hb)
    have n1_ := Aside0.mk (rb_ HO960.out hb)
    have n2_ := Aside0.mk (Kd.S_lower (Kd.S_new' (Kd.S_new' ho17 (Kd.S_lt (so_ HO956.out))) (Kd.R_lt (ro_ HO960.out))) bz_)
    have n3_ := Aside0.mk (bb_ BK952.out hb)
    have n4_ := Aside0.mk (bb_ BK953.out hb)
    have n5_ := Aside0.mk (bb_ BK964.out hb)
    have n6_ := Aside0.mk (bs_ hb)
    clear HO956
    clear HO960
    clear BK952
    clear BK953
    clear BK964
    clear HB
    have HO956 := n0_
    have HO960 := n1_
    have HO963 := n2_
    have BK952 := n3_
    have BK953 := n4_
    have BK964 := n5_
    have HB := n6_
    clear n0_ n1_ n2_ n3_ n4_ n5_ n6_
    clear hb ho17
    refine hK.out _ _ ⟨(blk_cell BK952.out 0).trans rfl, (blk_cell BK952.out 1).trans rfl⟩ (fun hHeld => ?_)
    clear hK K
    refine norm_ (a' := ?_) ?_ ?_
    rotate_left
    ·show Act.put _ (some 24) _ = _
     simp only [Act.put, List.setIfInBounds_toArray, List.set_cons_zero, List.set_cons_succ, i64_w, i32_w]
     rfl
    exact norm_ (by first | (simp only [putAll, Act.put, List.setIfInBounds_toArray, List.set_cons_zero, List.set_cons_succ]; done) | (simp only [putAll, Act.put, List.setIfInBounds_toArray, List.set_cons_zero, List.set_cons_succ]; rfl)) (hJ2_6_7_8 (v955, v959, v962, gb964) _ ⟨hHeld, (so_ HO956.out), (ro_ HO960.out), (by (with_reducible repeat (first | apply Kd.S_alloc | apply Kd.S_drewN | apply Kd.S_drew)); exact Kd.S_mono HO963.out (fun _ hk => ⟨hk.1.2, hk.2⟩)), bk_, bk_, bk_, GW964.out, GE964.out, NB952_964.out, NB964_952.out, NB953_964.out, NB964_953.out, hb_⟩)
  ·skip
   rintro ⟨v955, v959, v962, gb964⟩ w12 ⟨hS_, h0_, h1_, h2_, h3_, h4_, h5_, h6_, h7_, h8_, h9_, h10_, h11_, h12_⟩
   have n0_ : Aside0 (Kd.S (Kd.slice 2 (Kd.int .i64)) 23 w12 w.heap.size (fun k_ => some k_ ≠ (v959 : Value).ownBlock ∧ some k_ ≠ (v962 : Value).ownBlock) v955 t954) := ⟨h0_⟩
   have n1_ : Aside0 (Kd.R (Kd.int .i64) 2 w12 w.heap.size (fun _ => True) v959 t958) := ⟨h1_⟩
   have n2_ : Aside0 (Kd.S (Kd.slice 2 (Kd.int .i64)) 23 w12 w.heap.size (fun k_ => some k_ ≠ (v955 : Value).ownBlock ∧ some k_ ≠ (v959 : Value).ownBlock) v962 y961) := ⟨h2_⟩
   have n3_ : Aside0 (w12.heap[gb952]? = some (.cells #[.slice A0_0 l0_0.length c0_0, .slice A0_1 l0_1.length c0_1] 29 (0, 0))) := ⟨h3_⟩
   have n4_ : Aside0 (w12.heap[gb953]? = some (.cells #[.slice none 0 0, .int .i64 0, .slice none 0 0] 101 (0, 0))) := ⟨h4_⟩
   have n5_ : Aside0 (w12.heap[gb964]? = some (.cells #[.slice none 0 0, .int .i64 0, .slice none 0 0] 101 (0, 0))) := ⟨h5_⟩
   have n6_ : Aside0 (w.heap.size ≤ gb964) := ⟨h6_⟩
   have n7_ : Aside0 (w.heap.size ≤ gb964) := ⟨h7_⟩
   have n8_ : Aside0 (gb952 ≠ gb964) := ⟨h8_⟩
   have n9_ : Aside0 (gb964 ≠ gb952) := ⟨h9_⟩
   have n10_ : Aside0 (gb953 ≠ gb964) := ⟨h10_⟩
   have n11_ : Aside0 (gb964 ≠ gb953) := ⟨h11_⟩
   have n12_ : Aside0 (Below w.heap.size w w12) := ⟨h12_⟩
   clear BK952
   clear BK953
   clear HB
   clear h0_ h1_ h2_ h3_ h4_ h5_ h6_ h7_ h8_ h9_ h10_ h11_ h12_
   have HO956 := n0_
   have HO960 := n1_
   have HO963 := n2_
   have BK952 := n3_
   have BK953 := n4_
   have BK964 := n5_
   have GW964 := n6_
   have GE964 := n7_
   have NB952_964 := n8_
   have NB964_952 := n9_
   have NB953_964 := n10_
   have NB964_953 := n11_
   have HB := n12_
   clear n0_ n1_ n2_ n3_ n4_ n5_ n6_ n7_ n8_ n9_ n10_ n11_ n12_
   have hHeld : w12.cell? ⟨gb952, 0, none⟩ = some (.slice A0_0 l0_0.length c0_0) ∧ w12.cell? ⟨gb952, 1, none⟩ = some (.slice A0_1 l0_1.length c0_1) := hS_
   obtain ⟨Ao13, co13, eo13⟩ := Kd.S_slice HO956.out
   (first | subst eo13 | (injection eo13 with f1_ f2_ f3_; have f4_ := f1_.symm; have f5_ := f3_.symm; clear f1_ f2_ f3_; subst f4_; subst f5_))
   obtain ⟨Ao16, co16, eo16⟩ := Kd.R_slice HO960.out
   (first | subst eo16 | (injection eo16 with f1_ f2_ f3_; have f4_ := f1_.symm; have f5_ := f3_.symm; clear f1_ f2_ f3_; subst f4_; subst f5_))
   refine norm_ (a' := ?_) ?_ ?_
   rotate_left
   ·simp only [putAll, Act.put, List.setIfInBounds_toArray, List.set_cons_zero, List.set_cons_succ]
    rfl
   refine on_ 8 none (fun K hK => ?_)
   have hs14 : w12.cell? ⟨gb964, 0, none⟩ = some (.slice none 0 0) := (blk_cell BK964.out 0).trans rfl
   have hfs14 := blk_frozen BK964.out 0
   have hns14_0 := NB952_964.out
   have hns14_1 := NB953_964.out
   have hms14_0 := NB964_952.out
   have hms14_1 := NB964_953.out
   have hs15 : w12.cell? ⟨gb964, 1, none⟩ = some (.int .i64 0) := (blk_cell BK964.out 1).trans rfl
   have hfs15 := blk_frozen BK964.out 1
   have hns15_0 := NB952_964.out
   have hns15_1 := NB953_964.out
   have hms15_0 := NB964_952.out
   have hms15_1 := NB964_953.out
   have hs17 : w12.cell? ⟨gb964, 2, none⟩ = some (.slice none 0 0) := (blk_cell BK964.out 2).trans rfl
   have hfs17 := blk_frozen BK964.out 2
   have hns17_0 := NB952_964.out
   have hns17_1 := NB953_964.out
   have hms17_0 := NB964_952.out
   have hms17_1 := NB964_953.out
   refine skip_ (w1 := ?_) (by rfl) rfl ?_ ?_
   rotate_left
   ·go_simp
    rfl
   refine hK.out _ _ ⟨((cell_far (p := ⟨gb964, _, none⟩) NB952_964.out _).trans (((cell_far (p := ⟨gb964, _, none⟩) NB952_964.out _).trans (((cell_far (p := ⟨gb964, _, none⟩) NB952_964.out _).trans (hHeld.1)))))), ((cell_far (p := ⟨gb964, _, none⟩) NB952_964.out _).trans (((cell_far (p := ⟨gb964, _, none⟩) NB952_964.out _).trans (((cell_far (p := ⟨gb964, _, none⟩) NB952_964.out _).trans (hHeld.2))))))⟩ (fun hHeld => ?_)
   clear hK K
   refine pu_ 9 11 ?_
   exact norm_ (by first | (simp only [putAll, Act.put, List.setIfInBounds_toArray, List.set_cons_zero, List.set_cons_succ]; done) | (simp only [putAll, Act.put, List.setIfInBounds_toArray, List.set_cons_zero, List.set_cons_succ]; rfl)) (hJ2_6_7_8 (.slice Ao13 t954.length co13, .slice Ao16 t958.length co16, v962, gb964) _ ⟨hHeld, (by (with_reducible repeat (first | apply Kd.S_alloc | apply Kd.S_drewN | apply Kd.S_drew)); exact Kd.S_mono (Kd.S_far (p := ⟨gb964, 2, none⟩) (Kd.S_far (p := ⟨gb964, 1, none⟩) (Kd.S_far (p := ⟨gb964, 0, none⟩) (Kd.S_types HO956.out BK964.out (by decide)) (fun _ hk => hk.2) (.slice Ao13 t954.length co13)) (fun _ hk => hk.2) (.int .i64 t957)) (fun _ hk => hk.2) (.slice Ao16 t958.length co16)) (fun _ hk => ⟨hk.1.1, hk.1.2⟩)), (by (with_reducible repeat (first | apply Kd.R_alloc | apply Kd.R_drewN | apply Kd.R_drew)); exact Kd.R_mono (Kd.R_far (p := ⟨gb964, 2, none⟩) (Kd.R_far (p := ⟨gb964, 1, none⟩) (Kd.R_far (p := ⟨gb964, 0, none⟩) (Kd.R_types HO960.out BK964.out (by decide)) (fun _ hk => hk.2) (.slice Ao13 t954.length co13)) (fun _ hk => hk.2) (.int .i64 t957)) (fun _ hk => hk.2) (.slice Ao16 t958.length co16)) (fun _ hk => trivial)), (by (with_reducible repeat (first | apply Kd.S_alloc | apply Kd.S_drewN | apply Kd.S_drew)); exact Kd.S_mono (Kd.S_far (p := ⟨gb964, 2, none⟩) (Kd.S_far (p := ⟨gb964, 1, none⟩) (Kd.S_far (p := ⟨gb964, 0, none⟩) (Kd.S_types HO963.out BK964.out (by decide)) (fun _ hk => hk.2) (.slice Ao13 t954.length co13)) (fun _ hk => hk.2) (.int .i64 t957)) (fun _ hk => hk.2) (.slice Ao16 t958.length co16)) (fun _ hk => ⟨hk.1.1, hk.1.2⟩)), (by (with_reducible repeat (first | refine blk_drewN ?_ _ | refine blk_drew ?_ | refine blk_alloc ?_ _)); refine blk_far ?_ NB952_964.out _; (with_reducible repeat (first | refine blk_drewN ?_ _ | refine blk_drew ?_ | refine blk_alloc ?_ _)); refine blk_far ?_ NB952_964.out _; (with_reducible repeat (first | refine blk_drewN ?_ _ | refine blk_drew ?_ | refine blk_alloc ?_ _)); refine blk_far ?_ NB952_964.out _; (with_reducible repeat (first | refine blk_drewN ?_ _ | refine blk_drew ?_ | refine blk_alloc ?_ _)); exact BK952.out), (by (with_reducible repeat (first | refine blk_drewN ?_ _ | refine blk_drew ?_ | refine blk_alloc ?_ _)); refine blk_far ?_ NB953_964.out _; (with_reducible repeat (first | refine blk_drewN ?_ _ | refine blk_drew ?_ | refine blk_alloc ?_ _)); refine blk_far ?_ NB953_964.out _; (with_reducible repeat (first | refine blk_drewN ?_ _ | refine blk_drew ?_ | refine blk_alloc ?_ _)); refine blk_far ?_ NB953_964.out _; (with_reducible repeat (first | refine blk_drewN ?_ _ | refine blk_drew ?_ | refine blk_alloc ?_ _)); exact BK953.out), (by (with_reducible repeat (first | refine blk_drewN ?_ _ | refine blk_drew ?_ | refine blk_alloc ?_ _)); refine blk_put (cs := #[.slice Ao13 t954.length co13, .int .i64 t957, .slice none 0 0]) ?_ 2 _ rfl; (with_reducible repeat (first | refine blk_drewN ?_ _ | refine blk_drew ?_ | refine blk_alloc ?_ _)); refine blk_put (cs := #[.slice Ao13 t954.length co13, .int .i64 0, .slice none 0 0]) ?_ 1 _ rfl; (with_reducible repeat (first | refine blk_drewN ?_ _ | refine blk_drew ?_ | refine blk_alloc ?_ _)); refine blk_put (cs := #[.slice none 0 0, .int .i64 0, .slice none 0 0]) ?_ 0 _ rfl; (with_reducible repeat (first | refine blk_drewN ?_ _ | refine blk_drew ?_ | refine blk_alloc ?_ _)); exact BK964.out), GW964.out, GE964.out, NB952_964.out, NB964_952.out, NB953_964.out, NB964_953.out, hb_⟩)
 rintro ⟨v955, v959, v962, gb964⟩ w17 ⟨hS_, h0_, h1_, h2_, h3_, h4_, h5_, h6_, h7_, h8_, h9_, h10_, h11_, h12_⟩
 have n0_ : Aside0 (Kd.S (Kd.slice 2 (Kd.int .i64)) 23 w17 w.heap.size (fun k_ => some k_ ≠ (v959 : Value).ownBlock ∧ some k_ ≠ (v962 : Value).ownBlock) v955 t954) := ⟨h0_⟩
 have n1_ : Aside0 (Kd.R (Kd.int .i64) 2 w17 w.heap.size (fun _ => True) v959 t958) := ⟨h1_⟩
 have n2_ : Aside0 (Kd.S (Kd.slice 2 (Kd.int .i64)) 23 w17 w.heap.size (fun k_ => some k_ ≠ (v955 : Value).ownBlock ∧ some k_ ≠ (v959 : Value).ownBlock) v962 y961) := ⟨h2_⟩
 have n3_ : Aside0 (w17.heap[gb952]? = some (.cells #[.slice A0_0 l0_0.length c0_0, .slice A0_1 l0_1.length c0_1] 29 (0, 0))) := ⟨h3_⟩
 have n4_ : Aside0 (w17.heap[gb953]? = some (.cells #[.slice none 0 0, .int .i64 0, .slice none 0 0] 101 (0, 0))) := ⟨h4_⟩
 have n5_ : Aside0 (w17.heap[gb964]? = some (.cells #[v955, .int .i64 t957, v959] 101 (0, 0))) := ⟨h5_⟩
 have n6_ : Aside0 (w.heap.size ≤ gb964) := ⟨h6_⟩
 have n7_ : Aside0 (w.heap.size ≤ gb964) := ⟨h7_⟩
 have n8_ : Aside0 (gb952 ≠ gb964) := ⟨h8_⟩
 have n9_ : Aside0 (gb964 ≠ gb952) := ⟨h9_⟩
 have n10_ : Aside0 (gb953 ≠ gb964) := ⟨h10_⟩
 have n11_ : Aside0 (gb964 ≠ gb953) := ⟨h11_⟩
 have n12_ : Aside0 (Below w.heap.size w w17) := ⟨h12_⟩
 clear BK952
 clear BK953
 clear HB
 clear h0_ h1_ h2_ h3_ h4_ h5_ h6_ h7_ h8_ h9_ h10_ h11_ h12_
 have HO956 := n0_
 have HO960 := n1_
 have HO963 := n2_
 have BK952 := n3_
 have BK953 := n4_
 have BK964 := n5_
 have GW964 := n6_
 have GE964 := n7_
 have NB952_964 := n8_
 have NB964_952 := n9_
 have NB953_964 := n10_
 have NB964_953 := n11_
 have HB := n12_
 clear n0_ n1_ n2_ n3_ n4_ n5_ n6_ n7_ n8_ n9_ n10_ n11_ n12_
 have hHeld : w17.cell? ⟨gb952, 0, none⟩ = some (.slice A0_0 l0_0.length c0_0) ∧ w17.cell? ⟨gb952, 1, none⟩ = some (.slice A0_1 l0_1.length c0_1) := hS_
 refine norm_ (a' := ?_) ?_ ?_
 rotate_left
 ·simp only [putAll, Act.put, List.setIfInBounds_toArray, List.set_cons_zero, List.set_cons_succ]
  rfl
 refine pu_ 10 12 ?_
 refine done_ (done_of HT_.out (by kernel_rfl)) ?_
 try go_wp2
 go_loopg [13, 14, 15] k (fun kq v13 v14 v15 w' => ∃ (x13_1 : Bool) (x14_1 : Int) (x15_1 : Int), v13 = .bool x13_1 ∧ v14 = .int .i64 x14_1 ∧ v15 = .int .i64 x15_1 ∧ Aside0 (spec_l05Run.l0 kq l1 a2 (l0_1.length : Int) y961 x13_1 x14_1 x15_1 l0_0 l0_1 t954 t957 t958 = some (r1, r2, r3, r4, r5, r6)) ∧ Aside0 (kq ≤ k) ∧ Aside0 (Kd.S (Kd.slice 2 (Kd.int .i64)) 23 w' w.heap.size (fun k_ => some k_ ≠ (v955 : Value).ownBlock ∧ some k_ ≠ (v959 : Value).ownBlock) v962 y961) ∧ Aside0 (Kd.S (Kd.slice 2 (Kd.int .i64)) 23 w' w.heap.size (fun k_ => some k_ ≠ (v962 : Value).ownBlock ∧ some k_ ≠ (v959 : Value).ownBlock) v955 t954) ∧ Aside0 (Kd.R (Kd.int .i64) 2 w' w.heap.size (fun _ => True) v959 t958) ∧ Aside0 (w'.heap[gb952]? = some (.cells #[(.slice A0_0 l0_0.length c0_0), (.slice A0_1 l0_1.length c0_1)] 29 (0, 0))) ∧ Aside0 (w'.heap[gb953]? = some (.cells #[(.slice none 0 0), .int .i64 0, (.slice none 0 0)] 101 (0, 0))) ∧ Aside0 (w'.heap[gb964]? = some (.cells #[v955, .int .i64 t957, v959] 101 (0, 0))) ∧ Aside0 (Below w.heap.size w w'))
 case atStart => exact ⟨(false), (0), (0), rs_, rs_, rs_, H', ⟨Nat.le_refl _⟩, ⟨so_ HO963.out⟩, ⟨by (with_reducible repeat (first | apply Kd.S_alloc | apply Kd.S_drewN | apply Kd.S_drew)); exact Kd.S_mono HO956.out (fun _ hk => ⟨hk.2, hk.1⟩)⟩, ⟨ro_ HO960.out⟩, ⟨bk_⟩, ⟨bk_⟩, ⟨bk_⟩, ⟨hb_⟩⟩
 case round =>
  clear H'
  try clear c1
  try clear p2
  try clear c11
  obtain ⟨x13_1, x14_1, x15_1, rfl, rfl, rfl, HA, HK1, HO_12, HO_965000, HO_965002, BK952, BK953, BK964, HB⟩ := hrel
  cases gk with
  | zero => exact absurd HA.out (by simp [spec_l05Run.l0])
  | succ k1 =>
   have H := HA.out
   clear HA
   simp only [spec_l05Run.l0] at H
   by_cases c18 : x15_1 < (l0_1.length : Int)
   ·rw [if_pos c18] at H
    have c18b0 : decide (x15_1 < (l0_1.length : Int)) = true := decide_eq_true c18
    clear c18
    by_cases c19 : x13_1 = true
    ·subst c19
     have H1 : (if 0 ≤ x15_1 then (if x15_1 < (l1.length : Int) then (if 0 ≤ x14_1 then (if x14_1 < (l1.length : Int) then ((spec_l05Key.f k1 t954 t957 t958 x15_1 x14_1 (rd l1 x15_1) (rd l1 x14_1)).bind fun t967 => (if t967 = true then (spec_l05Run.l0 k1 l1 a2 (l0_1.length : Int) y961 true x15_1 (wrap64 (x15_1 + 1)) l0_0 l0_1 t954 t957 t958) else (spec_l05Run.l0 k1 l1 a2 (l0_1.length : Int) y961 true x14_1 (wrap64 (x15_1 + 1)) l0_0 l0_1 t954 t957 t958))) else (none)) else (none)) else (none)) else (none)) = some (r1, r2, r3, r4, r5, r6) := by rw [if_pos rfl] at H; exact H
     clear H
     have H := H1
     clear H1
     by_cases c20 : 0 ≤ x15_1
     ·rw [if_pos c20] at H
      have c20b0 : decide (0 ≤ x15_1) = true := decide_eq_true c20
      clear c20
      by_cases c21 : x15_1 < (l1.length : Int)
      ·rw [if_pos c21] at H
       have c21b0 : decide (x15_1 < (l1.length : Int)) = true := decide_eq_true c21
       clear c21
       by_cases c22 : 0 ≤ x14_1
       ·rw [if_pos c22] at H
        have c22b0 : decide (0 ≤ x14_1) = true := decide_eq_true c22
        clear c22
        by_cases c23 : x14_1 < (l1.length : Int)
        ·rw [if_pos c23] at H
         have c23b0 : decide (x14_1 < (l1.length : Int)) = true := decide_eq_true c23
         clear c23
         replace H := Option.bind_eq_some_iff.mp H
         obtain ⟨t967, A240, H⟩ := H
         replace H : (if t967 = true then (spec_l05Run.l0 k1 l1 a2 (l0_1.length : Int) y961 true x15_1 (wrap64 (x15_1 + 1)) l0_0 l0_1 t954 t957 t958) else (spec_l05Run.l0 k1 l1 a2 (l0_1.length : Int) y961 true x14_1 (wrap64 (x15_1 + 1)) l0_0 l0_1 t954 t957 t958)) = some (r1, r2, r3, r4, r5, r6) := H
         have A24 := Aside0.mk A240
         clear A240
         by_cases c25 : t967 = true
         ·subst c25
          have H1 : (spec_l05Run.l0 k1 l1 a2 (l0_1.length : Int) y961 true x15_1 (wrap64 (x15_1 + 1)) l0_0 l0_1 t954 t957 t958) = some (r1, r2, r3, r4, r5, r6) := by rw [if_pos rfl] at H; exact H
          clear H
          have H := H1
          clear H1
          have H' := Aside0.mk H
          clear H
          have hnb26 := NB952_953.out
          have hnc26 := NB953_952.out
          have hnb27 := NB952_964.out
          have hnc27 := NB964_952.out
          have hcz28_0 : wr.cell? ⟨gb952, 0, none⟩ = some (.slice A0_0 l0_0.length c0_0) := (blk_cell BK952.out 0).trans rfl
          have hcz28_1 : wr.cell? ⟨gb952, 1, none⟩ = some (.slice A0_1 l0_1.length c0_1) := (blk_cell BK952.out 1).trans rfl
          have hfz28_0 := blk_frozen BK952.out 0
          have hfz28_1 := blk_frozen BK952.out 1
          try go_wp2
          have n0_ := Aside0.mk (Kd.S_drew HO_12.out)
          have n1_ := Aside0.mk (Kd.S_drew HO_965000.out)
          have n2_ := Aside0.mk (Kd.R_drew HO_965002.out)
          have n3_ := Aside0.mk (blk_drew BK952.out)
          have n4_ := Aside0.mk (blk_drew BK953.out)
          have n5_ := Aside0.mk (blk_drew BK964.out)
          have n6_ := Aside0.mk (below_drew1 HB.out)
          clear HO_12
          clear HO_965000
          clear HO_965002
          clear BK952
          clear BK953
          clear BK964
          clear HB
          have HO_12 := n0_
          have HO_965000 := n1_
          have HO_965002 := n2_
          have BK952 := n3_
          have BK953 := n4_
          have BK964 := n5_
          have HB := n6_
          clear n0_ n1_ n2_ n3_ n4_ n5_ n6_
          have p965 : 0 ≤ (x15_1 : Int) := od_
          have q965 : x15_1 < (l1.length : Int) := od_
          obtain ⟨ad965, e965, hx965_0⟩ := Kd.at_int HR1.out x15_1 p965 q965
          have hw965_0 := hx965_0
          cases e965
          replace hx965_0 := (HB.out.cell (World.block_lt_of_cell? w _ hx965_0)).trans hx965_0
          replace p965 := eq_true p965
          replace q965 := eq_true q965
          have p966 : 0 ≤ (x14_1 : Int) := od_
          have q966 : x14_1 < (l1.length : Int) := od_
          obtain ⟨ad966, e966, hx966_0⟩ := Kd.at_int HR1.out x14_1 p966 q966
          have hw966_0 := hx966_0
          obtain rfl : ad965 = ad966 := (by injection e966)
          replace hx966_0 := (HB.out.cell (World.block_lt_of_cell? w _ hx966_0)).trans hx966_0
          replace p966 := eq_true p966
          replace q966 := eq_true q966
          obtain ⟨Ao30, co30, eo30⟩ := Kd.S_slice HO_965000.out
          (first | subst eo30 | (injection eo30 with f1_ f2_ f3_; have f4_ := f1_.symm; have f5_ := f3_.symm; clear f1_ f2_ f3_; subst f4_; subst f5_))
          obtain ⟨Ao31, co31, eo31⟩ := Kd.R_slice HO_965002.out
          (first | subst eo31 | (injection eo31 with f1_ f2_ f3_; have f4_ := f1_.symm; have f5_ := f3_.symm; clear f1_ f2_ f3_; subst f4_; subst f5_))
          refine st_ (n := 12) (S := fun w' => w'.cell? ⟨gb964, 0, none⟩ = some (.slice Ao30 t954.length co30) ∧ w'.cell? ⟨gb964, 1, none⟩ = some (.int .i64 t957) ∧ w'.cell? ⟨gb964, 2, none⟩ = some (.slice Ao31 t958.length co31) ∧ w'.cell? (ad965.add (x15_1).toNat) = some (.int .i64 (rd l1 x15_1)) ∧ w'.cell? (ad965.add (x14_1).toNat) = some (.int .i64 (rd l1 x14_1))) (ds := []) ⟨(blk_cell BK964.out 0).trans rfl, (blk_cell BK964.out 1).trans rfl, (blk_cell BK964.out 2).trans rfl, ((HB.out.cell (World.block_lt_of_cell? w _ hw965_0)).trans hw965_0), ((HB.out.cell (World.block_lt_of_cell? w _ hw966_0)).trans hw966_0)⟩ (fun hHeld => ?_); refine with_tabW spec_l05Run.tab7 spec_l05Run.bits7 (fun HT_ HW_ => ?_)
          generalize wr.drew = w29 at HO_12 HO_965000 HO_965002 BK952 BK953 BK964 HB hx965_0 hx966_0 hHeld ⊢
          refine pu_ 1 42 ?_; refine pu_ 2 43 ?_; refine pu_ 3 44 ?_; refine pu_ 4 45 ?_; refine pu_ 5 46 ?_; refine pu_ 7 48 ?_; refine pu_ 8 49 ?_; refine pu_ 9 50 ?_; refine tk_ 0 41 ?_; refine tk_ 6 47 ?_; refine tk_ 10 51 ?_
          refine on_ 11 (some 52) (fun K hK => ?_)
          refine goes_ Try.func117 (by kernel_rfl) rfl #[.agg #[.slice Ao30 t954.length co30, .int .i64 t957, .slice Ao31 t958.length co31], .int .i64 x15_1, .int .i64 x14_1, .int .i64 (rd l1 x15_1), .int .i64 (rd l1 x14_1)] (by rfl) rfl rfl (by (try simp only [List.map_toArray, List.map_cons, List.map_nil]); first | done | rfl | (simp only [List.length_drop, List.length_take]; rfl)) ?_
          with_reducible refine (spec_l05Key.calls k1 _ _ t954 t957 _ _ t958 x15_1 x14_1 (rd l1 x15_1) (rd l1 x14_1) true _ ?side1 ?side2 ?side3 ?side4 A24.out).mono ?_
          (case side1 => repeat (first | exact (Kd.S_reads' HO_965000.out).2.2 | (with_reducible refine Kd.C_alloc ?_ _) | (with_reducible refine Kd.C_drewN ?_ _) | (with_reducible refine Kd.C_drew ?_)))
          (case side2 => exact (Kd.S_reads' HO_965000.out).2.1)
          (case side3 => repeat (first | exact (Kd.R_reads' HO_965002.out).2.2 | (with_reducible refine Kd.C_alloc ?_ _) | (with_reducible refine Kd.C_drewN ?_ _) | (with_reducible refine Kd.C_drew ?_)))
          (case side4 => exact (Kd.R_reads' HO_965002.out).2.1)
          rintro e w32 ⟨rfl, hb⟩
          refine ⟨_, rfl, ?_⟩
          have n0_ := Aside0.mk (Kd.S_below (so_ HO_12.out) hb)
          have n1_ := Aside0.mk (Kd.S_below (so_ HO_965000.out) hb)
          have n2_ := Aside0.mk (rb_ HO_965002.out hb)
          have n3_ := Aside0.mk (bb_ BK952.out hb)
          have n4_ := Aside0.mk (bb_ BK953.out hb)
          have n5_ := Aside0.mk (bb_ BK964.out hb)
          have n6_ := Aside0.mk (bs_ hb)
          clear HO_12
          clear HO_965000
          clear HO_965002
          clear BK952
          clear BK953
          clear BK964
          clear HB
          have HO_12 := n0_
          have HO_965000 := n1_
          have HO_965002 := n2_
          have BK952 := n3_
          have BK953 := n4_
          have BK964 := n5_
          have HB := n6_
          clear n0_ n1_ n2_ n3_ n4_ n5_ n6_
          (try clear hb)
          (try clear hb2)
          (try clear hk)
          (try clear hi)
          refine hK.out _ _ ⟨(blk_cell BK964.out 0).trans rfl, (blk_cell BK964.out 1).trans rfl, (blk_cell BK964.out 2).trans rfl, ((HB.out.cell (World.block_lt_of_cell? w _ hw965_0)).trans hw965_0), ((HB.out.cell (World.block_lt_of_cell? w _ hw966_0)).trans hw966_0)⟩ (fun hHeld => ?_)
          clear hK K
          refine norm_ (a' := ?_) ?_ ?_
          rotate_left
          ·show Act.put _ (some 52) _ = _
           simp only [Act.put, List.setIfInBounds_toArray, List.set_cons_zero, List.set_cons_succ, i64_w, i32_w]
           rfl
          refine done_ (done_of HT_.out (by kernel_rfl)) ?_
          try go_wp2
          go_roundg k1
          case measure => have := HK1.out; omega
          case rel => exact ⟨(true), (x15_1), (wrap64 (x15_1 + 1)), rs_, rs_, rs_, H', ⟨by have := HK1.out; omega⟩, ⟨so_ HO_12.out⟩, ⟨so_ HO_965000.out⟩, ⟨ro_ HO_965002.out⟩, ⟨bk_⟩, ⟨bk_⟩, ⟨bk_⟩, ⟨hb_⟩⟩
         ·replace c25 := Bool.eq_false_iff.mpr c25
          subst c25
          have H1 : (spec_l05Run.l0 k1 l1 a2 (l0_1.length : Int) y961 true x14_1 (wrap64 (x15_1 + 1)) l0_0 l0_1 t954 t957 t958) = some (r1, r2, r3, r4, r5, r6) := by rw [if_neg (show ¬ (false = true) by decide)] at H; exact H
          clear H
          have H := H1
          clear H1
          have H' := Aside0.mk H
          clear H
          have hnb33 := NB952_953.out
          have hnc33 := NB953_952.out
          have hnb34 := NB952_964.out
          have hnc34 := NB964_952.out
          have hcz35_0 : wr.cell? ⟨gb952, 0, none⟩ = some (.slice A0_0 l0_0.length c0_0) := (blk_cell BK952.out 0).trans rfl
          have hcz35_1 : wr.cell? ⟨gb952, 1, none⟩ = some (.slice A0_1 l0_1.length c0_1) := (blk_cell BK952.out 1).trans rfl
          have hfz35_0 := blk_frozen BK952.out 0
          have hfz35_1 := blk_frozen BK952.out 1
          try go_wp2
          have n0_ := Aside0.mk (Kd.S_drew HO_12.out)
          have n1_ := Aside0.mk (Kd.S_drew HO_965000.out)
          have n2_ := Aside0.mk (Kd.R_drew HO_965002.out)
          have n3_ := Aside0.mk (blk_drew BK952.out)
          have n4_ := Aside0.mk (blk_drew BK953.out)
          have n5_ := Aside0.mk (blk_drew BK964.out)
          have n6_ := Aside0.mk (below_drew1 HB.out)
          clear HO_12
          clear HO_965000
          clear HO_965002
          clear BK952
          clear BK953
          clear BK964
          clear HB
          have HO_12 := n0_
          have HO_965000 := n1_
          have HO_965002 := n2_
          have BK952 := n3_
          have BK953 := n4_
          have BK964 := n5_
          have HB := n6_
          clear n0_ n1_ n2_ n3_ n4_ n5_ n6_
          have p965 : 0 ≤ (x15_1 : Int) := od_
          have q965 : x15_1 < (l1.length : Int) := od_
          obtain ⟨ad965, e965, hx965_0⟩ := Kd.at_int HR1.out x15_1 p965 q965
          have hw965_0 := hx965_0
          cases e965
          replace hx965_0 := (HB.out.cell (World.block_lt_of_cell? w _ hx965_0)).trans hx965_0
          replace p965 := eq_true p965
          replace q965 := eq_true q965
          have p966 : 0 ≤ (x14_1 : Int) := od_
          have q966 : x14_1 < (l1.length : Int) := od_
          obtain ⟨ad966, e966, hx966_0⟩ := Kd.at_int HR1.out x14_1 p966 q966
          have hw966_0 := hx966_0
          obtain rfl : ad965 = ad966 := (by injection e966)
          replace hx966_0 := (HB.out.cell (World.block_lt_of_cell? w _ hx966_0)).trans hx966_0
          replace p966 := eq_true p966
          replace q966 := eq_true q966
          obtain ⟨Ao37, co37, eo37⟩ := Kd.S_slice HO_965000.out
          (first | subst eo37 | (injection eo37 with f1_ f2_ f3_; have f4_ := f1_.symm; have f5_ := f3_.symm; clear f1_ f2_ f3_; subst f4_; subst f5_))
          obtain ⟨Ao38, co38, eo38⟩ := Kd.R_slice HO_965002.out
          (first | subst eo38 | (injection eo38 with f1_ f2_ f3_; have f4_ := f1_.symm; have f5_ := f3_.symm; clear f1_ f2_ f3_; subst f4_; subst f5_))
          refine st_ (n := 12) (S := fun w' => w'.cell? ⟨gb964, 0, none⟩ = some (.slice Ao37 t954.length co37) ∧ w'.cell? ⟨gb964, 1, none⟩ = some (.int .i64 t957) ∧ w'.cell? ⟨gb964, 2, none⟩ = some (.slice Ao38 t958.length co38) ∧ w'.cell? (ad965.add (x15_1).toNat) = some (.int .i64 (rd l1 x15_1)) ∧ w'.cell? (ad965.add (x14_1).toNat) = some (.int .i64 (rd l1 x14_1))) (ds := []) ⟨(blk_cell BK964.out 0).trans rfl, (blk_cell BK964.out 1).trans rfl, (blk_cell BK964.out 2).trans rfl, ((HB.out.cell (World.block_lt_of_cell? w _ hw965_0)).trans hw965_0), ((HB.out.cell (World.block_lt_of_cell? w _ hw966_0)).trans hw966_0)⟩ (fun hHeld => ?_); refine with_tabW spec_l05Run.tab7 spec_l05Run.bits7 (fun HT_ HW_ => ?_)
          generalize wr.drew = w36 at HO_12 HO_965000 HO_965002 BK952 BK953 BK964 HB hx965_0 hx966_0 hHeld ⊢
          refine pu_ 1 42 ?_; refine pu_ 2 43 ?_; refine pu_ 3 44 ?_; refine pu_ 4 45 ?_; refine pu_ 5 46 ?_; refine pu_ 7 48 ?_; refine pu_ 8 49 ?_; refine pu_ 9 50 ?_; refine tk_ 0 41 ?_; refine tk_ 6 47 ?_; refine tk_ 10 51 ?_
          refine on_ 11 (some 52) (fun K hK => ?_)
          refine goes_ Try.func117 (by kernel_rfl) rfl #[.agg #[.slice Ao37 t954.length co37, .int .i64 t957, .slice Ao38 t958.length co38], .int .i64 x15_1, .int .i64 x14_1, .int .i64 (rd l1 x15_1), .int .i64 (rd l1 x14_1)] (by rfl) rfl rfl (by (try simp only [List.map_toArray, List.map_cons, List.map_nil]); first | done | rfl | (simp only [List.length_drop, List.length_take]; rfl)) ?_
          with_reducible refine (spec_l05Key.calls k1 _ _ t954 t957 _ _ t958 x15_1 x14_1 (rd l1 x15_1) (rd l1 x14_1) false _ ?side1 ?side2 ?side3 ?side4 A24.out).mono ?_
          (case side1 => repeat (first | exact (Kd.S_reads' HO_965000.out).2.2 | (with_reducible refine Kd.C_alloc ?_ _) | (with_reducible refine Kd.C_drewN ?_ _) | (with_reducible refine Kd.C_drew ?_)))
          (case side2 => exact (Kd.S_reads' HO_965000.out).2.1)
          (case side3 => repeat (first | exact (Kd.R_reads' HO_965002.out).2.2 | (with_reducible refine Kd.C_alloc ?_ _) | (with_reducible refine Kd.C_drewN ?_ _) | (with_reducible refine Kd.C_drew ?_)))
          (case side4 => exact (Kd.R_reads' HO_965002.out).2.1)
          rintro e w39 ⟨rfl, hb⟩
          refine ⟨_, rfl, ?_⟩
          have n0_ := Aside0.mk (Kd.S_below (so_ HO_12.out) hb)
          have n1_ := Aside0.mk (Kd.S_below (so_ HO_965000.out) hb)
          have n2_ := Aside0.mk (rb_ HO_965002.out hb)
          have n3_ := Aside0.mk (bb_ BK952.out hb)
          have n4_ := Aside0.mk (bb_ BK953.out hb)
          have n5_ := Aside0.mk (bb_ BK964.out hb)
          have n6_ := Aside0.mk (bs_ hb)
          clear HO_12
          clear HO_965000
          clear HO_965002
          clear BK952
          clear BK953
          clear BK964
          clear HB
          have HO_12 := n0_
          have HO_965000 := n1_
          have HO_965002 := n2_
          have BK952 := n3_
          have BK953 := n4_
          have BK964 := n5_
          have HB := n6_
          clear n0_ n1_ n2_ n3_ n4_ n5_ n6_
          (try clear hb)
          (try clear hb2)
          (try clear hk)
          (try clear hi)
          refine hK.out _ _ ⟨(blk_cell BK964.out 0).trans rfl, (blk_cell BK964.out 1).trans rfl, (blk_cell BK964.out 2).trans rfl, ((HB.out.cell (World.block_lt_of_cell? w _ hw965_0)).trans hw965_0), ((HB.out.cell (World.block_lt_of_cell? w _ hw966_0)).trans hw966_0)⟩ (fun hHeld => ?_)
          clear hK K
          refine norm_ (a' := ?_) ?_ ?_
          rotate_left
          ·show Act.put _ (some 52) _ = _
           simp only [Act.put, List.setIfInBounds_toArray, List.set_cons_zero, List.set_cons_succ, i64_w, i32_w]
           rfl
          refine done_ (done_of HT_.out (by kernel_rfl)) ?_
          try go_wp2
          go_roundg k1
          case measure => have := HK1.out; omega
          case rel => exact ⟨(true), (x14_1), (wrap64 (x15_1 + 1)), rs_, rs_, rs_, H', ⟨by have := HK1.out; omega⟩, ⟨so_ HO_12.out⟩, ⟨so_ HO_965000.out⟩, ⟨ro_ HO_965002.out⟩, ⟨bk_⟩, ⟨bk_⟩, ⟨bk_⟩, ⟨hb_⟩⟩
        ·rw [if_neg c23] at H
         exact absurd H (by simp)
       ·rw [if_neg c22] at H
        exact absurd H (by simp)
      ·rw [if_neg c21] at H
       exact absurd H (by simp)
     ·rw [if_neg c20] at H
      exact absurd H (by simp)
    ·replace c19 := Bool.eq_false_iff.mpr c19
     subst c19
     have H1 : (if 0 ≤ x15_1 then (if x15_1 < (l1.length : Int) then (if 0 ≤ x14_1 then (if x14_1 < (l1.length : Int) then ((spec_l05Key.f k1 t954 t957 t958 x15_1 x14_1 (rd l1 x15_1) (rd l1 x14_1)).bind fun t971 => (if t971 = true then (spec_l05Run.l0 k1 l1 a2 (l0_1.length : Int) y961 (decide ((rd l0_1 x15_1) < 0)) x15_1 (wrap64 (x15_1 + 1)) l0_0 l0_1 t954 t957 t958) else (spec_l05Run.l0 k1 l1 a2 (l0_1.length : Int) y961 (decide ((rd l0_1 x15_1) < 0)) x14_1 (wrap64 (x15_1 + 1)) l0_0 l0_1 t954 t957 t958))) else (none)) else (none)) else (none)) else (none)) = some (r1, r2, r3, r4, r5, r6) := by rw [if_neg (show ¬ (false = true) by decide)] at H; exact H
     clear H
     have H := H1
     clear H1
     by_cases c40 : 0 ≤ x15_1
     ·rw [if_pos c40] at H
      have c40b0 : decide (0 ≤ x15_1) = true := decide_eq_true c40
      clear c40
      by_cases c41 : x15_1 < (l1.length : Int)
      ·rw [if_pos c41] at H
       have c41b0 : decide (x15_1 < (l1.length : Int)) = true := decide_eq_true c41
       clear c41
       by_cases c42 : 0 ≤ x14_1
       ·rw [if_pos c42] at H
        have c42b0 : decide (0 ≤ x14_1) = true := decide_eq_true c42
        clear c42
        by_cases c43 : x14_1 < (l1.length : Int)
        ·rw [if_pos c43] at H
         have c43b0 : decide (x14_1 < (l1.length : Int)) = true := decide_eq_true c43
         clear c43
         replace H := Option.bind_eq_some_iff.mp H
         obtain ⟨t971, A440, H⟩ := H
         replace H : (if t971 = true then (spec_l05Run.l0 k1 l1 a2 (l0_1.length : Int) y961 (decide ((rd l0_1 x15_1) < 0)) x15_1 (wrap64 (x15_1 + 1)) l0_0 l0_1 t954 t957 t958) else (spec_l05Run.l0 k1 l1 a2 (l0_1.length : Int) y961 (decide ((rd l0_1 x15_1) < 0)) x14_1 (wrap64 (x15_1 + 1)) l0_0 l0_1 t954 t957 t958)) = some (r1, r2, r3, r4, r5, r6) := H
         have A44 := Aside0.mk A440
         clear A440
         by_cases c45 : t971 = true
         ·subst c45
          have H1 : (spec_l05Run.l0 k1 l1 a2 (l0_1.length : Int) y961 (decide ((rd l0_1 x15_1) < 0)) x15_1 (wrap64 (x15_1 + 1)) l0_0 l0_1 t954 t957 t958) = some (r1, r2, r3, r4, r5, r6) := by rw [if_pos rfl] at H; exact H
          clear H
          have H := H1
          clear H1
          have H' := Aside0.mk H
          clear H
          have hnb46 := NB952_953.out
          have hnc46 := NB953_952.out
          have hnb47 := NB952_964.out
          have hnc47 := NB964_952.out
          have hcz48_0 : wr.cell? ⟨gb952, 0, none⟩ = some (.slice A0_0 l0_0.length c0_0) := (blk_cell BK952.out 0).trans rfl
          have hcz48_1 : wr.cell? ⟨gb952, 1, none⟩ = some (.slice A0_1 l0_1.length c0_1) := (blk_cell BK952.out 1).trans rfl
          have hfz48_0 := blk_frozen BK952.out 0
          have hfz48_1 := blk_frozen BK952.out 1
          have p968 : 0 ≤ (x15_1 : Int) := od_
          have q968 : x15_1 < (l0_1.length : Int) := od_
          obtain ⟨ad968, e968, hx968_0⟩ := Kd.at_int HR0_1.out x15_1 p968 q968
          cases e968
          replace hx968_0 := (HB.out.cell (World.block_lt_of_cell? w _ hx968_0)).trans hx968_0
          replace p968 := eq_true p968
          replace q968 := eq_true q968
          try go_wp2
          have n0_ := Aside0.mk (Kd.S_drew HO_12.out)
          have n1_ := Aside0.mk (Kd.S_drew HO_965000.out)
          have n2_ := Aside0.mk (Kd.R_drew HO_965002.out)
          have n3_ := Aside0.mk (blk_drew BK952.out)
          have n4_ := Aside0.mk (blk_drew BK953.out)
          have n5_ := Aside0.mk (blk_drew BK964.out)
          have n6_ := Aside0.mk (below_drew1 HB.out)
          clear HO_12
          clear HO_965000
          clear HO_965002
          clear BK952
          clear BK953
          clear BK964
          clear HB
          have HO_12 := n0_
          have HO_965000 := n1_
          have HO_965002 := n2_
          have BK952 := n3_
          have BK953 := n4_
          have BK964 := n5_
          have HB := n6_
          clear n0_ n1_ n2_ n3_ n4_ n5_ n6_
          have p969 : 0 ≤ (x15_1 : Int) := od_
          have q969 : x15_1 < (l1.length : Int) := od_
          obtain ⟨ad969, e969, hx969_0⟩ := Kd.at_int HR1.out x15_1 p969 q969
          have hw969_0 := hx969_0
          cases e969
          replace hx969_0 := (HB.out.cell (World.block_lt_of_cell? w _ hx969_0)).trans hx969_0
          replace p969 := eq_true p969
          replace q969 := eq_true q969
          have p970 : 0 ≤ (x14_1 : Int) := od_
          have q970 : x14_1 < (l1.length : Int) := od_
          obtain ⟨ad970, e970, hx970_0⟩ := Kd.at_int HR1.out x14_1 p970 q970
          have hw970_0 := hx970_0
          obtain rfl : ad969 = ad970 := (by injection e970)
          replace hx970_0 := (HB.out.cell (World.block_lt_of_cell? w _ hx970_0)).trans hx970_0
          replace p970 := eq_true p970
          replace q970 := eq_true q970
          obtain ⟨Ao50, co50, eo50⟩ := Kd.S_slice HO_965000.out
          (first | subst eo50 | (injection eo50 with f1_ f2_ f3_; have f4_ := f1_.symm; have f5_ := f3_.symm; clear f1_ f2_ f3_; subst f4_; subst f5_))
          obtain ⟨Ao51, co51, eo51⟩ := Kd.R_slice HO_965002.out
          (first | subst eo51 | (injection eo51 with f1_ f2_ f3_; have f4_ := f1_.symm; have f5_ := f3_.symm; clear f1_ f2_ f3_; subst f4_; subst f5_))
          refine st_ (n := 12) (S := fun w' => w'.cell? ⟨gb964, 0, none⟩ = some (.slice Ao50 t954.length co50) ∧ w'.cell? ⟨gb964, 1, none⟩ = some (.int .i64 t957) ∧ w'.cell? ⟨gb964, 2, none⟩ = some (.slice Ao51 t958.length co51) ∧ w'.cell? (ad969.add (x15_1).toNat) = some (.int .i64 (rd l1 x15_1)) ∧ w'.cell? (ad969.add (x14_1).toNat) = some (.int .i64 (rd l1 x14_1))) (ds := []) ⟨(blk_cell BK964.out 0).trans rfl, (blk_cell BK964.out 1).trans rfl, (blk_cell BK964.out 2).trans rfl, ((HB.out.cell (World.block_lt_of_cell? w _ hw969_0)).trans hw969_0), ((HB.out.cell (World.block_lt_of_cell? w _ hw970_0)).trans hw970_0)⟩ (fun hHeld => ?_); refine with_tabW spec_l05Run.tab7 spec_l05Run.bits7 (fun HT_ HW_ => ?_)
          generalize wr.drew = w49 at HO_12 HO_965000 HO_965002 BK952 BK953 BK964 HB hx969_0 hx970_0 hHeld ⊢
          refine pu_ 1 42 ?_; refine pu_ 2 43 ?_; refine pu_ 3 44 ?_; refine pu_ 4 45 ?_; refine pu_ 5 46 ?_; refine pu_ 7 48 ?_; refine pu_ 8 49 ?_; refine pu_ 9 50 ?_; refine tk_ 0 41 ?_; refine tk_ 6 47 ?_; refine tk_ 10 51 ?_
          refine on_ 11 (some 52) (fun K hK => ?_)
          refine goes_ Try.func117 (by kernel_rfl) rfl #[.agg #[.slice Ao50 t954.length co50, .int .i64 t957, .slice Ao51 t958.length co51], .int .i64 x15_1, .int .i64 x14_1, .int .i64 (rd l1 x15_1), .int .i64 (rd l1 x14_1)] (by rfl) rfl rfl (by (try simp only [List.map_toArray, List.map_cons, List.map_nil]); first | done | rfl | (simp only [List.length_drop, List.length_take]; rfl)) ?_
          with_reducible refine (spec_l05Key.calls k1 _ _ t954 t957 _ _ t958 x15_1 x14_1 (rd l1 x15_1) (rd l1 x14_1) true _ ?side1 ?side2 ?side3 ?side4 A44.out).mono ?_
          (case side1 => repeat (first | exact (Kd.S_reads' HO_965000.out).2.2 | (with_reducible refine Kd.C_alloc ?_ _) | (with_reducible refine Kd.C_drewN ?_ _) | (with_reducible refine Kd.C_drew ?_)))
          (case side2 => exact (Kd.S_reads' HO_965000.out).2.1)
          (case side3 => repeat (first | exact (Kd.R_reads' HO_965002.out).2.2 | (with_reducible refine Kd.C_alloc ?_ _) | (with_reducible refine Kd.C_drewN ?_ _) | (with_reducible refine Kd.C_drew ?_)))
          (case side4 => exact (Kd.R_reads' HO_965002.out).2.1)
          rintro e w52 ⟨rfl, hb⟩
          refine ⟨_, rfl, ?_⟩
          have n0_ := Aside0.mk (Kd.S_below (so_ HO_12.out) hb)
          have n1_ := Aside0.mk (Kd.S_below (so_ HO_965000.out) hb)
          have n2_ := Aside0.mk (rb_ HO_965002.out hb)
          have n3_ := Aside0.mk (bb_ BK952.out hb)
          have n4_ := Aside0.mk (bb_ BK953.out hb)
          have n5_ := Aside0.mk (bb_ BK964.out hb)
          have n6_ := Aside0.mk (bs_ hb)
          clear HO_12
          clear HO_965000
          clear HO_965002
          clear BK952
          clear BK953
          clear BK964
          clear HB
          have HO_12 := n0_
          have HO_965000 := n1_
          have HO_965002 := n2_
          have BK952 := n3_
          have BK953 := n4_
          have BK964 := n5_
          have HB := n6_
          clear n0_ n1_ n2_ n3_ n4_ n5_ n6_
          (try clear hb)
          (try clear hb2)
          (try clear hk)
          (try clear hi)
          refine hK.out _ _ ⟨(blk_cell BK964.out 0).trans rfl, (blk_cell BK964.out 1).trans rfl, (blk_cell BK964.out 2).trans rfl, ((HB.out.cell (World.block_lt_of_cell? w _ hw969_0)).trans hw969_0), ((HB.out.cell (World.block_lt_of_cell? w _ hw970_0)).trans hw970_0)⟩ (fun hHeld => ?_)
          clear hK K
          refine norm_ (a' := ?_) ?_ ?_
          rotate_left
          ·show Act.put _ (some 52) _ = _
           simp only [Act.put, List.setIfInBounds_toArray, List.set_cons_zero, List.set_cons_succ, i64_w, i32_w]
           rfl
          refine done_ (done_of HT_.out (by kernel_rfl)) ?_
          try go_wp2
          go_roundg k1
          case measure => have := HK1.out; omega
          case rel => exact ⟨(decide ((rd l0_1 x15_1) < 0)), (x15_1), (wrap64 (x15_1 + 1)), rs_, rs_, rs_, H', ⟨by have := HK1.out; omega⟩, ⟨so_ HO_12.out⟩, ⟨so_ HO_965000.out⟩, ⟨ro_ HO_965002.out⟩, ⟨bk_⟩, ⟨bk_⟩, ⟨bk_⟩, ⟨hb_⟩⟩
         ·replace c45 := Bool.eq_false_iff.mpr c45
          subst c45
          have H1 : (spec_l05Run.l0 k1 l1 a2 (l0_1.length : Int) y961 (decide ((rd l0_1 x15_1) < 0)) x14_1 (wrap64 (x15_1 + 1)) l0_0 l0_1 t954 t957 t958) = some (r1, r2, r3, r4, r5, r6) := by rw [if_neg (show ¬ (false = true) by decide)] at H; exact H
          clear H
          have H := H1
          clear H1
          have H' := Aside0.mk H
          clear H
          have hnb53 := NB952_953.out
          have hnc53 := NB953_952.out
          have hnb54 := NB952_964.out
          have hnc54 := NB964_952.out
          have hcz55_0 : wr.cell? ⟨gb952, 0, none⟩ = some (.slice A0_0 l0_0.length c0_0) := (blk_cell BK952.out 0).trans rfl
          have hcz55_1 : wr.cell? ⟨gb952, 1, none⟩ = some (.slice A0_1 l0_1.length c0_1) := (blk_cell BK952.out 1).trans rfl
          have hfz55_0 := blk_frozen BK952.out 0
          have hfz55_1 := blk_frozen BK952.out 1
          have p968 : 0 ≤ (x15_1 : Int) := od_
          have q968 : x15_1 < (l0_1.length : Int) := od_
          obtain ⟨ad968, e968, hx968_0⟩ := Kd.at_int HR0_1.out x15_1 p968 q968
          cases e968
          replace hx968_0 := (HB.out.cell (World.block_lt_of_cell? w _ hx968_0)).trans hx968_0
          replace p968 := eq_true p968
          replace q968 := eq_true q968
          try go_wp2
          have n0_ := Aside0.mk (Kd.S_drew HO_12.out)
          have n1_ := Aside0.mk (Kd.S_drew HO_965000.out)
          have n2_ := Aside0.mk (Kd.R_drew HO_965002.out)
          have n3_ := Aside0.mk (blk_drew BK952.out)
          have n4_ := Aside0.mk (blk_drew BK953.out)
          have n5_ := Aside0.mk (blk_drew BK964.out)
          have n6_ := Aside0.mk (below_drew1 HB.out)
          clear HO_12
          clear HO_965000
          clear HO_965002
          clear BK952
          clear BK953
          clear BK964
          clear HB
          have HO_12 := n0_
          have HO_965000 := n1_
          have HO_965002 := n2_
          have BK952 := n3_
          have BK953 := n4_
          have BK964 := n5_
          have HB := n6_
          clear n0_ n1_ n2_ n3_ n4_ n5_ n6_
          have p969 : 0 ≤ (x15_1 : Int) := od_
          have q969 : x15_1 < (l1.length : Int) := od_
          obtain ⟨ad969, e969, hx969_0⟩ := Kd.at_int HR1.out x15_1 p969 q969
          have hw969_0 := hx969_0
          cases e969
          replace hx969_0 := (HB.out.cell (World.block_lt_of_cell? w _ hx969_0)).trans hx969_0
          replace p969 := eq_true p969
          replace q969 := eq_true q969
          have p970 : 0 ≤ (x14_1 : Int) := od_
          have q970 : x14_1 < (l1.length : Int) := od_
          obtain ⟨ad970, e970, hx970_0⟩ := Kd.at_int HR1.out x14_1 p970 q970
          have hw970_0 := hx970_0
          obtain rfl : ad969 = ad970 := (by injection e970)
          replace hx970_0 := (HB.out.cell (World.block_lt_of_cell? w _ hx970_0)).trans hx970_0
          replace p970 := eq_true p970
          replace q970 := eq_true q970
          obtain ⟨Ao57, co57, eo57⟩ := Kd.S_slice HO_965000.out
          (first | subst eo57 | (injection eo57 with f1_ f2_ f3_; have f4_ := f1_.symm; have f5_ := f3_.symm; clear f1_ f2_ f3_; subst f4_; subst f5_))
          obtain ⟨Ao58, co58, eo58⟩ := Kd.R_slice HO_965002.out
          (first | subst eo58 | (injection eo58 with f1_ f2_ f3_; have f4_ := f1_.symm; have f5_ := f3_.symm; clear f1_ f2_ f3_; subst f4_; subst f5_))
          refine st_ (n := 12) (S := fun w' => w'.cell? ⟨gb964, 0, none⟩ = some (.slice Ao57 t954.length co57) ∧ w'.cell? ⟨gb964, 1, none⟩ = some (.int .i64 t957) ∧ w'.cell? ⟨gb964, 2, none⟩ = some (.slice Ao58 t958.length co58) ∧ w'.cell? (ad969.add (x15_1).toNat) = some (.int .i64 (rd l1 x15_1)) ∧ w'.cell? (ad969.add (x14_1).toNat) = some (.int .i64 (rd l1 x14_1))) (ds := []) ⟨(blk_cell BK964.out 0).trans rfl, (blk_cell BK964.out 1).trans rfl, (blk_cell BK964.out 2).trans rfl, ((HB.out.cell (World.block_lt_of_cell? w _ hw969_0)).trans hw969_0), ((HB.out.cell (World.block_lt_of_cell? w _ hw970_0)).trans hw970_0)⟩ (fun hHeld => ?_); refine with_tabW spec_l05Run.tab7 spec_l05Run.bits7 (fun HT_ HW_ => ?_)
          generalize wr.drew = w56 at HO_12 HO_965000 HO_965002 BK952 BK953 BK964 HB hx969_0 hx970_0 hHeld ⊢
          refine pu_ 1 42 ?_; refine pu_ 2 43 ?_; refine pu_ 3 44 ?_; refine pu_ 4 45 ?_; refine pu_ 5 46 ?_; refine pu_ 7 48 ?_; refine pu_ 8 49 ?_; refine pu_ 9 50 ?_; refine tk_ 0 41 ?_; refine tk_ 6 47 ?_; refine tk_ 10 51 ?_
          refine on_ 11 (some 52) (fun K hK => ?_)
          refine goes_ Try.func117 (by kernel_rfl) rfl #[.agg #[.slice Ao57 t954.length co57, .int .i64 t957, .slice Ao58 t958.length co58], .int .i64 x15_1, .int .i64 x14_1, .int .i64 (rd l1 x15_1), .int .i64 (rd l1 x14_1)] (by rfl) rfl rfl (by (try simp only [List.map_toArray, List.map_cons, List.map_nil]); first | done | rfl | (simp only [List.length_drop, List.length_take]; rfl)) ?_
          with_reducible refine (spec_l05Key.calls k1 _ _ t954 t957 _ _ t958 x15_1 x14_1 (rd l1 x15_1) (rd l1 x14_1) false _ ?side1 ?side2 ?side3 ?side4 A44.out).mono ?_
          (case side1 => repeat (first | exact (Kd.S_reads' HO_965000.out).2.2 | (with_reducible refine Kd.C_alloc ?_ _) | (with_reducible refine Kd.C_drewN ?_ _) | (with_reducible refine Kd.C_drew ?_)))
          (case side2 => exact (Kd.S_reads' HO_965000.out).2.1)
          (case side3 => repeat (first | exact (Kd.R_reads' HO_965002.out).2.2 | (with_reducible refine Kd.C_alloc ?_ _) | (with_reducible refine Kd.C_drewN ?_ _) | (with_reducible refine Kd.C_drew ?_)))
          (case side4 => exact (Kd.R_reads' HO_965002.out).2.1)
          rintro e w59 ⟨rfl, hb⟩
          refine ⟨_, rfl, ?_⟩
          have n0_ := Aside0.mk (Kd.S_below (so_ HO_12.out) hb)
          have n1_ := Aside0.mk (Kd.S_below (so_ HO_965000.out) hb)
          have n2_ := Aside0.mk (rb_ HO_965002.out hb)
          have n3_ := Aside0.mk (bb_ BK952.out hb)
          have n4_ := Aside0.mk (bb_ BK953.out hb)
          have n5_ := Aside0.mk (bb_ BK964.out hb)
          have n6_ := Aside0.mk (bs_ hb)
          clear HO_12
          clear HO_965000
          clear HO_965002
          clear BK952
          clear BK953
          clear BK964
          clear HB
          have HO_12 := n0_
          have HO_965000 := n1_
          have HO_965002 := n2_
          have BK952 := n3_
          have BK953 := n4_
          have BK964 := n5_
          have HB := n6_
          clear n0_ n1_ n2_ n3_ n4_ n5_ n6_
          (try clear hb)
          (try clear hb2)
          (try clear hk)
          (try clear hi)
          refine hK.out _ _ ⟨(blk_cell BK964.out 0).trans rfl, (blk_cell BK964.out 1).trans rfl, (blk_cell BK964.out 2).trans rfl, ((HB.out.cell (World.block_lt_of_cell? w _ hw969_0)).trans hw969_0), ((HB.out.cell (World.block_lt_of_cell? w _ hw970_0)).trans hw970_0)⟩ (fun hHeld => ?_)
          clear hK K
          refine norm_ (a' := ?_) ?_ ?_
          rotate_left
          ·show Act.put _ (some 52) _ = _
           simp only [Act.put, List.setIfInBounds_toArray, List.set_cons_zero, List.set_cons_succ, i64_w, i32_w]
           rfl
          refine done_ (done_of HT_.out (by kernel_rfl)) ?_
          try go_wp2
          go_roundg k1
          case measure => have := HK1.out; omega
          case rel => exact ⟨(decide ((rd l0_1 x15_1) < 0)), (x14_1), (wrap64 (x15_1 + 1)), rs_, rs_, rs_, H', ⟨by have := HK1.out; omega⟩, ⟨so_ HO_12.out⟩, ⟨so_ HO_965000.out⟩, ⟨ro_ HO_965002.out⟩, ⟨bk_⟩, ⟨bk_⟩, ⟨bk_⟩, ⟨hb_⟩⟩
        ·rw [if_neg c43] at H
         exact absurd H (by simp)
       ·rw [if_neg c42] at H
        exact absurd H (by simp)
      ·rw [if_neg c41] at H
       exact absurd H (by simp)
     ·rw [if_neg c40] at H
      exact absurd H (by simp)
   ·rw [if_neg c18] at H
    have c18b0 : decide (x15_1 < (l0_1.length : Int)) = false := decide_eq_false c18
    clear c18
    by_cases c60 : x13_1 = true
    ·subst c60
     have H1 : (spec_l05Run.l1 k1 a2 (l0_1.length : Int) y961 x14_1 (wrap64 (2 * (l0_1.length : Int))) t954 t957 t958) = some (r1, r2, r3, r4, r5, r6) := by rw [if_pos rfl] at H; exact H
     clear H
     have H := H1
     clear H1
     have H' := Aside0.mk H
     clear H
     have hnb61 := NB952_953.out
     have hnc61 := NB953_952.out
     have hnb62 := NB952_964.out
     have hnc62 := NB964_952.out
     have hcz63_0 : wr.cell? ⟨gb952, 0, none⟩ = some (.slice A0_0 l0_0.length c0_0) := (blk_cell BK952.out 0).trans rfl
     have hcz63_1 : wr.cell? ⟨gb952, 1, none⟩ = some (.slice A0_1 l0_1.length c0_1) := (blk_cell BK952.out 1).trans rfl
     have hfz63_0 := blk_frozen BK952.out 0
     have hfz63_1 := blk_frozen BK952.out 1
     go_wp2
     go_loopg [12, 14, 16] k1 (fun kq v12 v14 v16 w' => ∃ (x12_2 : List (List Int)) (x14_2 : Int) (x16_2 : Int) (x954001_2 : Int) (x965000_2 : List (List Int)) (x965001_2 : Int) (x965002_2 : List Int) (u965000 : Value) (u965002 : Value), v14 = .int .i64 x14_2 ∧ v16 = .int .i64 x16_2 ∧ Aside0 (spec_l05Run.l1 kq a2 (l0_1.length : Int) x12_2 x14_2 x16_2 x965000_2 x965001_2 x965002_2 = some (r1, r2, r3, r4, r5, r6)) ∧ Aside0 (kq ≤ k1) ∧ Aside0 (Kd.S (Kd.slice 2 (Kd.int .i64)) 23 w' w.heap.size (fun k_ => some k_ ≠ (u965000 : Value).ownBlock ∧ some k_ ≠ (u965002 : Value).ownBlock) v12 x12_2) ∧ Aside0 (Kd.S (Kd.slice 2 (Kd.int .i64)) 23 w' w.heap.size (fun k_ => some k_ ≠ (v12 : Value).ownBlock ∧ some k_ ≠ (u965002 : Value).ownBlock) u965000 x965000_2) ∧ Aside0 (Kd.R (Kd.int .i64) 2 w' w.heap.size (fun _ => True) u965002 x965002_2) ∧ Aside0 (w'.heap[gb952]? = some (.cells #[(.slice A0_0 l0_0.length c0_0), (.slice A0_1 l0_1.length c0_1)] 29 (0, 0))) ∧ Aside0 (w'.heap[gb953]? = some (.cells #[(.slice none 0 0), .int .i64 x954001_2, (.slice none 0 0)] 101 (0, 0))) ∧ Aside0 (w'.heap[gb964]? = some (.cells #[u965000, .int .i64 x965001_2, u965002] 101 (0, 0))) ∧ Aside0 (Below w.heap.size w w'))
     case atStart => exact ⟨(y961), (x14_1), (wrap64 (2 * (l0_1.length : Int))), (0), (t954), (t957), (t958), (v955), (v959), rs_, rs_, H', ⟨Nat.le_refl _⟩, ⟨so_ HO_12.out⟩, ⟨so_ HO_965000.out⟩, ⟨ro_ HO_965002.out⟩, ⟨bk_⟩, ⟨bk_⟩, ⟨bk_⟩, ⟨hb_⟩⟩
     case round =>
      clear H'
      try clear c1
      try clear c2
      try clear p2
      try clear c4
      try clear c5
      try clear c6
      try clear p6
      try clear p9
      try clear q9
      try clear hx9
      try clear c11
      try clear c18
      try clear c18b0
      try clear c19
      try clear c20
      try clear c21
      try clear c22
      try clear c23
      try clear c40
      try clear c40b0
      try clear c41
      try clear c41b0
      try clear c42
      try clear c42b0
      try clear c43
      try clear c43b0
      try clear c45
      try clear c46
      try clear c47
      try clear c53
      try clear c54
      try clear c60
      try clear c61
      try clear c62
      try clear hcz48_0
      try clear hcz48_1
      try clear hcz55_0
      try clear hcz55_1
      try clear hcz63_0
      try clear hcz63_1
      try clear hfz48_0
      try clear hfz48_1
      try clear hfz55_0
      try clear hfz55_1
      try clear hfz63_0
      try clear hfz63_1
      try clear hx968_0
      try clear hx969_0
      try clear hx970_0
      try clear p968
      try clear p969
      try clear p970
      try clear q968
      try clear q969
      try clear q970
      obtain ⟨x12_2, x14_2, x16_2, x954001_2, x965000_2, x965001_2, x965002_2, u965000, u965002, rfl, rfl, HA, HK2, HO_12, HO_965000, HO_965002, BK952, BK953, BK964, HB⟩ := hrel
      cases gk with
      | zero => exact absurd HA.out (by simp [spec_l05Run.l1])
      | succ k2 =>
       have H := HA.out
       clear HA
       simp only [spec_l05Run.l1] at H
       by_cases c64 : (x12_2.length : Int) < a2
       ·rw [if_pos c64] at H
        have c64b0 : decide ((x12_2.length : Int) < a2) = true := decide_eq_true c64
        clear c64
        have HC65 := Aside0.mk H
        clear H
        obtain ⟨Ao66, co66, eo66⟩ := Kd.S_slice HO_12.out
        subst eo66
        go_upto_if 67 with (fail)
        go_cut [14] (fun v14 wc => ∃ (kq : Nat) (x14_64 : Int) (x954001_64 : Int), v14 = .int .i64 x14_64 ∧ Aside0 (spec_l05Run.j2 kq a2 (l0_1.length : Int) x12_2 x14_64 x16_2 x965000_2 x965001_2 x965002_2 = some (r1, r2, r3, r4, r5, r6)) ∧ Aside0 (kq ≤ k2) ∧ Aside0 (Kd.S (Kd.slice 2 (Kd.int .i64)) 23 wc w.heap.size (fun k_ => some k_ ≠ (u965000 : Value).ownBlock ∧ some k_ ≠ (u965002 : Value).ownBlock) (.slice Ao66 x12_2.length co66) x12_2) ∧ Aside0 (Kd.S (Kd.slice 2 (Kd.int .i64)) 23 wc w.heap.size (fun k_ => some k_ ≠ ((.slice Ao66 x12_2.length co66) : Value).ownBlock ∧ some k_ ≠ (u965002 : Value).ownBlock) u965000 x965000_2) ∧ Aside0 (Kd.R (Kd.int .i64) 2 wc w.heap.size (fun _ => True) u965002 x965002_2) ∧ Aside0 (wc.heap[gb952]? = some (.cells #[(.slice A0_0 l0_0.length c0_0), (.slice A0_1 l0_1.length c0_1)] 29 (0, 0))) ∧ Aside0 (wc.heap[gb953]? = some (.cells #[(.slice none 0 0), .int .i64 x954001_64, (.slice none 0 0)] 101 (0, 0))) ∧ Aside0 (wc.heap[gb964]? = some (.cells #[u965000, .int .i64 x965001_2, u965002] 101 (0, 0))) ∧ Aside0 (Below w.heap.size w wc))
        case first =>
         have H := HC65.out
         clear HC65
         by_cases c67 : x16_2 < (wrap64 (2 * (l0_1.length : Int)))
         ·rw [if_pos c67] at H
          have c67b0 : decide (x16_2 < (wrap64 (2 * (l0_1.length : Int)))) = true := decide_eq_true c67
          clear c67
          (first | rw [c67b0] | (simp only [i64_w, i32_w]; rw [c67b0]) | skip)
          replace H := Option.bind_eq_some_iff.mp H
          obtain ⟨t972, A680, H⟩ := H
          replace H : (if t972 < 0 then (some (x965000_2, x965001_2, x965002_2, x12_2, x16_2, false)) else (spec_l05Run.j2 k2 a2 (l0_1.length : Int) x12_2 t972 x16_2 x965000_2 x965001_2 x965002_2)) = some (r1, r2, r3, r4, r5, r6) := H
          have A68 := Aside0.mk A680
          clear A680
          by_cases c69 : t972 < 0
          ·rw [if_pos c69] at H
           have c69b0 : decide (t972 < 0) = true := decide_eq_true c69
           clear c69
           simp only [Option.some.injEq, Prod.mk.injEq] at H
           obtain ⟨rfl, rfl, rfl, rfl, rfl, rfl⟩ := H
           have hnb70 := NB964_952.out
           have hnc70 := NB952_964.out
           have hnb71 := NB964_953.out
           have hnc71 := NB953_964.out
           have hcz72_0 : wr.cell? ⟨gb964, 0, none⟩ = some (u965000) := (blk_cell BK964.out 0).trans rfl
           have hcz72_1 : wr.cell? ⟨gb964, 1, none⟩ = some (.int .i64 x965001_2) := (blk_cell BK964.out 1).trans rfl
           have hcz72_2 : wr.cell? ⟨gb964, 2, none⟩ = some (u965002) := (blk_cell BK964.out 2).trans rfl
           have hfz72_0 := blk_frozen BK964.out 0
           have hfz72_1 := blk_frozen BK964.out 1
           have hfz72_2 := blk_frozen BK964.out 2
           obtain ⟨Ao73, co73, eo73⟩ := Kd.S_slice HO_965000.out
           subst eo73
           obtain ⟨Ao74, co74, eo74⟩ := Kd.R_slice HO_965002.out
           subst eo74
           go_wp2_with (first | ((with_reducible refine gate_callee (f := 118) rfl ?_); refine gL_ 70 Try.func118 #[.agg #[.slice Ao73 x965000_2.length co73, .int .i64 x965001_2, .slice Ao74 x965002_2.length co74], .int .i64 x16_2] ?_; (with_reducible refine (spec_l05Row.calls k2 _ _ x965000_2 x965001_2 _ _ x965002_2 x16_2 t972 _ ?side1 ?side2 ?side3 ?side4 A68.out).mono ?_); (case side1 => repeat (first | exact (Kd.S_reads' HO_965000.out).2.2 | (with_reducible refine Kd.C_alloc ?_ _) | (with_reducible refine Kd.C_drewN ?_ _) | (with_reducible refine Kd.C_drew ?_))); (case side2 => exact (Kd.S_reads' HO_965000.out).2.1); (case side3 => repeat (first | exact (Kd.R_reads' HO_965002.out).2.2 | (with_reducible refine Kd.C_alloc ?_ _) | (with_reducible refine Kd.C_drewN ?_ _) | (with_reducible refine Kd.C_drew ?_))); (case side4 => exact (Kd.R_reads' HO_965002.out).2.1); rintro e w75 ⟨rfl, hb⟩; refine ⟨_, rfl, ?_⟩; have n0_ := Aside0.mk (Kd.S_below (so_ HO_12.out) hb); have n1_ := Aside0.mk (Kd.S_below (so_ HO_965000.out) hb); have n2_ := Aside0.mk (rb_ HO_965002.out hb); have n3_ := Aside0.mk (bb_ BK952.out hb); have n4_ := Aside0.mk (bb_ BK953.out hb); have n5_ := Aside0.mk (bb_ BK964.out hb); have n6_ := Aside0.mk (bs_ hb); clear HO_12; clear HO_965000; clear HO_965002; clear BK952; clear BK953; clear BK964; clear HB; have HO_12 := n0_; have HO_965000 := n1_; have HO_965002 := n2_; have BK952 := n3_; have BK953 := n4_; have BK964 := n5_; have HB := n6_; clear n0_ n1_ n2_ n3_ n4_ n5_ n6_; (try clear hb); (try clear hb2); (try clear hk); (try clear hi); have hcz76_0 : w75.cell? ⟨gb964, 0, none⟩ = some (.slice Ao73 x965000_2.length co73) := (blk_cell BK964.out 0).trans rfl; have hcz76_1 : w75.cell? ⟨gb964, 1, none⟩ = some (.int .i64 x965001_2) := (blk_cell BK964.out 1).trans rfl; have hcz76_2 : w75.cell? ⟨gb964, 2, none⟩ = some (.slice Ao74 x965002_2.length co74) := (blk_cell BK964.out 2).trans rfl; have hfz76_0 := blk_frozen BK964.out 0; have hfz76_1 := blk_frozen BK964.out 1; have hfz76_2 := blk_frozen BK964.out 2; have hnb77 := NB953_952.out; have hnc77 := NB952_953.out; have hcz78_0 : w75.cell? ⟨gb953, 0, none⟩ = some (.slice none 0 0) := (blk_cell BK953.out 0).trans rfl; have hcz78_1 : w75.cell? ⟨gb953, 1, none⟩ = some (.int .i64 x954001_2) := (blk_cell BK953.out 1).trans rfl; have hcz78_2 : w75.cell? ⟨gb953, 2, none⟩ = some (.slice none 0 0) := (blk_cell BK953.out 2).trans rfl; have hfz78_0 := blk_frozen BK953.out 0; have hfz78_1 := blk_frozen BK953.out 1; have hfz78_2 := blk_frozen BK953.out 2))
           refine bodyPost_ret (results_list (rs := [.cell 6 101, .tmp 7, .tmp 8, .tmp 9]) rfl (by simp) (.cell gb953 101 #[.slice Ao73 x965000_2.length co73, .int .i64 x965001_2, .slice Ao74 x965002_2.length co74] (0, 0) _ rfl (by (with_reducible repeat (first | refine blk_drewN ?_ _ | refine blk_drew ?_ | refine blk_alloc ?_ _)); refine blk_put (cs := #[.slice Ao73 x965000_2.length co73, .int .i64 x965001_2, .slice none 0 0]) ?_ 2 _ rfl; (with_reducible repeat (first | refine blk_drewN ?_ _ | refine blk_drew ?_ | refine blk_alloc ?_ _)); refine blk_put (cs := #[.slice Ao73 x965000_2.length co73, .int .i64 x954001_2, .slice none 0 0]) ?_ 1 _ rfl; (with_reducible repeat (first | refine blk_drewN ?_ _ | refine blk_drew ?_ | refine blk_alloc ?_ _)); refine blk_put (cs := #[.slice none 0 0, .int .i64 x954001_2, .slice none 0 0]) ?_ 0 _ rfl; (with_reducible repeat (first | refine blk_drewN ?_ _ | refine blk_drew ?_ | refine blk_alloc ?_ _)); exact BK953.out) Try.underlying101 rfl (by kernel_rfl) (.tmp (.tmp (.tmp .nil))))) rfl ?_
           exact ⟨_, _, _, by first | rfl | (simp [errW_none, errW_some] <;> rfl) | (simp [*, errW_none, errW_some] <;> rfl), by (with_reducible repeat (first | apply Kd.S_alloc | apply Kd.S_drewN | apply Kd.S_drew)); exact Kd.S_mono (Kd.S_far (p := ⟨gb953, 2, none⟩) (Kd.S_far (p := ⟨gb953, 1, none⟩) (Kd.S_far (p := ⟨gb953, 0, none⟩) (Kd.S_types HO_965000.out BK953.out (by decide)) (fun _ hk => hk.2) (.slice Ao73 x965000_2.length co73)) (fun _ hk => hk.2) (.int .i64 x965001_2)) (fun _ hk => hk.2) (.slice Ao74 x965002_2.length co74)) (fun _ hk => ⟨hk.1.2, hk.1.1⟩), by (with_reducible repeat (first | apply Kd.R_alloc | apply Kd.R_drewN | apply Kd.R_drew)); exact Kd.R_mono (Kd.R_far (p := ⟨gb953, 2, none⟩) (Kd.R_far (p := ⟨gb953, 1, none⟩) (Kd.R_far (p := ⟨gb953, 0, none⟩) (Kd.R_types HO_965002.out BK953.out (by decide)) (fun _ hk => hk.2) (.slice Ao73 x965000_2.length co73)) (fun _ hk => hk.2) (.int .i64 x965001_2)) (fun _ hk => hk.2) (.slice Ao74 x965002_2.length co74)) (fun _ hk => trivial), by (with_reducible repeat (first | apply Kd.S_alloc | apply Kd.S_drewN | apply Kd.S_drew)); exact Kd.S_mono (Kd.S_far (p := ⟨gb953, 2, none⟩) (Kd.S_far (p := ⟨gb953, 1, none⟩) (Kd.S_far (p := ⟨gb953, 0, none⟩) (Kd.S_types HO_12.out BK953.out (by decide)) (fun _ hk => hk.2) (.slice Ao73 x965000_2.length co73)) (fun _ hk => hk.2) (.int .i64 x965001_2)) (fun _ hk => hk.2) (.slice Ao74 x965002_2.length co74)) (fun _ hk => ⟨hk.1.1, hk.1.2⟩), hb_⟩
          ·rw [if_neg c69] at H
           have c69b0 : decide (t972 < 0) = false := decide_eq_false c69
           clear c69
           have H' := Aside0.mk H
           clear H
           have hnb79 := NB964_952.out
           have hnc79 := NB952_964.out
           have hnb80 := NB964_953.out
           have hnc80 := NB953_964.out
           have hcz81_0 : wr.cell? ⟨gb964, 0, none⟩ = some (u965000) := (blk_cell BK964.out 0).trans rfl
           have hcz81_1 : wr.cell? ⟨gb964, 1, none⟩ = some (.int .i64 x965001_2) := (blk_cell BK964.out 1).trans rfl
           have hcz81_2 : wr.cell? ⟨gb964, 2, none⟩ = some (u965002) := (blk_cell BK964.out 2).trans rfl
           have hfz81_0 := blk_frozen BK964.out 0
           have hfz81_1 := blk_frozen BK964.out 1
           have hfz81_2 := blk_frozen BK964.out 2
           obtain ⟨Ao82, co82, eo82⟩ := Kd.S_slice HO_965000.out
           subst eo82
           obtain ⟨Ao83, co83, eo83⟩ := Kd.R_slice HO_965002.out
           subst eo83
           go_wp2_with (first | ((with_reducible refine gate_callee (f := 118) rfl ?_); refine gL_ 70 Try.func118 #[.agg #[.slice Ao82 x965000_2.length co82, .int .i64 x965001_2, .slice Ao83 x965002_2.length co83], .int .i64 x16_2] ?_; (with_reducible refine (spec_l05Row.calls k2 _ _ x965000_2 x965001_2 _ _ x965002_2 x16_2 t972 _ ?side1 ?side2 ?side3 ?side4 A68.out).mono ?_); (case side1 => repeat (first | exact (Kd.S_reads' HO_965000.out).2.2 | (with_reducible refine Kd.C_alloc ?_ _) | (with_reducible refine Kd.C_drewN ?_ _) | (with_reducible refine Kd.C_drew ?_))); (case side2 => exact (Kd.S_reads' HO_965000.out).2.1); (case side3 => repeat (first | exact (Kd.R_reads' HO_965002.out).2.2 | (with_reducible refine Kd.C_alloc ?_ _) | (with_reducible refine Kd.C_drewN ?_ _) | (with_reducible refine Kd.C_drew ?_))); (case side4 => exact (Kd.R_reads' HO_965002.out).2.1); rintro e w84 ⟨rfl, hb⟩; refine ⟨_, rfl, ?_⟩; have n0_ := Aside0.mk (Kd.S_below (so_ HO_12.out) hb); have n1_ := Aside0.mk (Kd.S_below (so_ HO_965000.out) hb); have n2_ := Aside0.mk (rb_ HO_965002.out hb); have n3_ := Aside0.mk (bb_ BK952.out hb); have n4_ := Aside0.mk (bb_ BK953.out hb); have n5_ := Aside0.mk (bb_ BK964.out hb); have n6_ := Aside0.mk (bs_ hb); clear HO_12; clear HO_965000; clear HO_965002; clear BK952; clear BK953; clear BK964; clear HB; have HO_12 := n0_; have HO_965000 := n1_; have HO_965002 := n2_; have BK952 := n3_; have BK953 := n4_; have BK964 := n5_; have HB := n6_; clear n0_ n1_ n2_ n3_ n4_ n5_ n6_; (try clear hb); (try clear hb2); (try clear hk); (try clear hi)))
           go_meet
           case rel => exact ⟨_, (t972), (x954001_2), rs_, H', ⟨by have := HK1.out; have := HK2.out; first | omega | exact Nat.le_refl _⟩, ⟨so_ HO_12.out⟩, ⟨so_ HO_965000.out⟩, ⟨ro_ HO_965002.out⟩, ⟨bk_⟩, ⟨bk_⟩, ⟨bk_⟩, ⟨hb_⟩⟩
         ·rw [if_neg c67] at H
          have c67b0 : decide (x16_2 < (wrap64 (2 * (l0_1.length : Int)))) = false := decide_eq_false c67
          clear c67
          (first | rw [c67b0] | (simp only [i64_w, i32_w]; rw [c67b0]) | skip)
          have H' := Aside0.mk H
          clear H
          go_wp2
          go_meet
          case rel => exact ⟨_, (x14_2), (x954001_2), rs_, H', ⟨by have := HK1.out; have := HK2.out; first | omega | exact Nat.le_refl _⟩, ⟨so_ HO_12.out⟩, ⟨so_ HO_965000.out⟩, ⟨ro_ HO_965002.out⟩, ⟨bk_⟩, ⟨bk_⟩, ⟨bk_⟩, ⟨hb_⟩⟩
        case rest =>
         clear HC65
         try clear c1
         try clear c2
         try clear p2
         try clear c4
         try clear c5
         try clear c6
         try clear p6
         try clear c7
         try clear c8
         try clear p9
         try clear q9
         try clear hx9
         try clear c11
         try clear c18
         try clear c18b0
         try clear c19
         try clear c20
         try clear c21
         try clear c22
         try clear c23
         try clear c40
         try clear c40b0
         try clear c41
         try clear c41b0
         try clear c42
         try clear c42b0
         try clear c43
         try clear c43b0
         try clear c45
         try clear c46
         try clear c47
         try clear c53
         try clear c54
         try clear c60
         try clear c61
         try clear c62
         try clear c64
         try clear c64b0
         try clear p64
         try clear c67
         try clear c67b0
         try clear c69
         try clear c69b0
         try clear c70
         try clear c71
         try clear c77
         try clear c79
         try clear c80
         try clear hcz48_0
         try clear hcz48_1
         try clear hcz55_0
         try clear hcz55_1
         try clear hcz63_0
         try clear hcz63_1
         try clear hcz72_0
         try clear hcz72_1
         try clear hcz72_2
         try clear hcz76_0
         try clear hcz76_1
         try clear hcz76_2
         try clear hcz78_0
         try clear hcz78_1
         try clear hcz78_2
         try clear hcz81_0
         try clear hcz81_1
         try clear hcz81_2
         try clear hfz48_0
         try clear hfz48_1
         try clear hfz55_0
         try clear hfz55_1
         try clear hfz63_0
         try clear hfz63_1
         try clear hfz72_0
         try clear hfz72_1
         try clear hfz72_2
         try clear hfz76_0
         try clear hfz76_1
         try clear hfz76_2
         try clear hfz78_0
         try clear hfz78_1
         try clear hfz78_2
         try clear hfz81_0
         try clear hfz81_1
         try clear hfz81_2
         try clear hx968_0
         try clear hx969_0
         try clear hx970_0
         try clear p2
         try clear p6
         try clear p9
         try clear p968
         try clear p969
         try clear p970
         try clear q9
         try clear q968
         try clear q969
         try clear q970
         obtain ⟨kq, x14_64, x954001_64, rfl, HA, HJ64, HO_12, HO_965000, HO_965002, BK952, BK953, BK964, HB⟩ := hcut
         cases kq with
         | zero => exact absurd HA.out (by simp [spec_l05Run.j2])
         | succ kj64 =>
          have H := HA.out
          clear HA
          simp only [spec_l05Run.j2] at H
          by_cases c85 : 0 ≤ x14_64
          ·rw [if_pos c85] at H
           have c85b0 : decide (0 ≤ x14_64) = true := decide_eq_true c85
           clear c85
           by_cases c86 : x14_64 < (x965002_2.length : Int)
           ·rw [if_pos c86] at H
            have c86b0 : decide (x14_64 < (x965002_2.length : Int)) = true := decide_eq_true c86
            clear c86
            obtain ⟨y974, hy974⟩ : ∃ y_ : List Int, y_ = (([x16_2, rd x965002_2 x14_64] : List Int)) := ⟨_, rfl⟩
            replace H : (if x12_2.length < 5864062014805 then ((some (x12_2 ++ [y974] : List (List Int))).bind fun y977 => ((spec_l05Pivot.f x965000_2 x965001_2 x965002_2 x14_64 x16_2).bind fun bt980 => (if (rd x965002_2 x14_64) = (wrap64 (2 * (l0_1.length : Int))) then (some (bt980.1, bt980.2.1, bt980.2.2, y977, (-1), true)) else ((spec_l05Partner.f (rd x965002_2 x14_64) (l0_1.length : Int)).bind fun t987 => (spec_l05Run.l1 kj64 a2 (l0_1.length : Int) y977 x14_64 t987 bt980.1 bt980.2.1 bt980.2.2))))) else (none)) = some (r1, r2, r3, r4, r5, r6) := by first | (rw [hy974]; with_reducible exact H) | (have H2_ := (Option.bind_some _ _).symm.trans H; rw [hy974]; with_reducible exact H2_) | (have H2_ := (Option.bind_some _ _).symm.trans H; with_reducible exact H2_) | with_reducible exact H | (rw [hy974]; exact H) | exact H
            have Ny974 := Aside0.mk hy974
            clear hy974
            by_cases c87 : x12_2.length < 5864062014805
            ·rw [if_pos c87] at H
             have LMc87 := Aside0.mk c87
             clear c87
             obtain ⟨y977, hy977⟩ : ∃ y_ : List (List Int), y_ = (x12_2 ++ [y974]) := ⟨_, rfl⟩
             replace H : ((spec_l05Pivot.f x965000_2 x965001_2 x965002_2 x14_64 x16_2).bind fun bt980 => (if (rd x965002_2 x14_64) = (wrap64 (2 * (l0_1.length : Int))) then (some (bt980.1, bt980.2.1, bt980.2.2, y977, (-1), true)) else ((spec_l05Partner.f (rd x965002_2 x14_64) (l0_1.length : Int)).bind fun t987 => (spec_l05Run.l1 kj64 a2 (l0_1.length : Int) y977 x14_64 t987 bt980.1 bt980.2.1 bt980.2.2)))) = some (r1, r2, r3, r4, r5, r6) := by first | (rw [hy977]; with_reducible exact H) | (have H2_ := (Option.bind_some _ _).symm.trans H; rw [hy977]; with_reducible exact H2_) | (have H2_ := (Option.bind_some _ _).symm.trans H; with_reducible exact H2_) | with_reducible exact H | (rw [hy977]; exact H) | exact H
             have Ny977 := Aside0.mk hy977
             clear hy977
             replace H := Option.bind_eq_some_iff.mp H
             obtain ⟨⟨t980, t983, t984⟩, A880, H⟩ := H
             replace H : (if (rd x965002_2 x14_64) = (wrap64 (2 * (l0_1.length : Int))) then (some (t980, t983, t984, y977, (-1), true)) else ((spec_l05Partner.f (rd x965002_2 x14_64) (l0_1.length : Int)).bind fun t987 => (spec_l05Run.l1 kj64 a2 (l0_1.length : Int) y977 x14_64 t987 t980 t983 t984))) = some (r1, r2, r3, r4, r5, r6) := H
             have A88 := Aside0.mk A880
             clear A880
             by_cases c89 : (rd x965002_2 x14_64) = (wrap64 (2 * (l0_1.length : Int)))
             ·rw [if_pos c89] at H
              have c89b0 : ((rd x965002_2 x14_64) == (wrap64 (2 * (l0_1.length : Int)))) = true := beq_iff_eq.mpr c89
              have c89b1 : ((rd x965002_2 x14_64) != (wrap64 (2 * (l0_1.length : Int)))) = false := bne_eq_false_iff_eq.mpr c89
              clear c89
              simp only [Option.some.injEq, Prod.mk.injEq] at H
              obtain ⟨rfl, rfl, rfl, rfl, rfl, rfl⟩ := H
              have hnb90 := NB964_952.out
              have hnc90 := NB952_964.out
              have hnb91 := NB964_953.out
              have hnc91 := NB953_964.out
              have hcz92_0 : wc.cell? ⟨gb964, 0, none⟩ = some (u965000) := (blk_cell BK964.out 0).trans rfl
              have hcz92_1 : wc.cell? ⟨gb964, 1, none⟩ = some (.int .i64 x965001_2) := (blk_cell BK964.out 1).trans rfl
              have hcz92_2 : wc.cell? ⟨gb964, 2, none⟩ = some (u965002) := (blk_cell BK964.out 2).trans rfl
              have hfz92_0 := blk_frozen BK964.out 0
              have hfz92_1 := blk_frozen BK964.out 1
              have hfz92_2 := blk_frozen BK964.out 2
              obtain ⟨Ao93, co93, eo93⟩ := Kd.R_slice HO_965002.out
              subst eo93
              have p973 : 0 ≤ (x14_64 : Int) := od_
              have q973 : x14_64 < (x965002_2.length : Int) := od_
              obtain ⟨ad973, e973, hx973_0⟩ := Kd.at_int (Kd.R_reads' HO_965002.out).2.2 x14_64 p973 q973
              cases e973
              replace p973 := eq_true p973
              replace q973 := eq_true q973
              go_wp2_with (first | ((with_reducible refine gate_dst (N := 84) rfl ?_); refine Kd.R_lit (Kd.int .i64) _ 2 ?hg (N := 84) ?hd (xs := ([x16_2, rd x965002_2 x14_64] : List Int)) (inner := [.int .i64 x16_2, .int .i64 (rd x965002_2 x14_64)]) (ok := fun _ => True) (okp := fun _ => True) ?hr ?hp (fun _ hk => hk) trivial (Below.refl _ _) (Nat.le_refl _) (by simp) ?_; (case hd => rfl); (case hg => rfl); (case hr => first | (go_simp; done) | (go_simp; rfl)); (case hp => exact (Reps.one (show Kd.M (Kd.int .i64) _ _ _ x16_2 [.int .i64 x16_2] from rfl) (Reps.one (show Kd.M (Kd.int .i64) _ _ _ (rd x965002_2 x14_64) [.int .i64 (rd x965002_2 x14_64)] from rfl) (Reps.none _ _)))); intro v975 w94 ho95 hb hg_ hnew_; clear hg_ hnew_; (first | rw [← Ny974.out] at ho95 | (simp only [Int.reduceToNat] at ho95; rw [← Ny974.out] at ho95)); have n0_ := Aside0.mk (Kd.S_elder' (so_ HO_12.out) (Kd.R_base ho95) hb); have n1_ := Aside0.mk (Kd.S_elder' (so_ HO_965000.out) (Kd.R_base ho95) hb); have n2_ := Aside0.mk (Kd.R_elder' (ro_ HO_965002.out) (Kd.R_base ho95) hb); have n3_ := Aside0.mk (Kd.R_lower (Kd.R_new' ho95 (Kd.R_lt (ro_ HO_965002.out))) bz_); have n4_ := Aside0.mk (bb_ BK952.out hb); have n5_ := Aside0.mk (bb_ BK953.out hb); have n6_ := Aside0.mk (bb_ BK964.out hb); have n7_ := Aside0.mk (bs_ hb); clear HO_12; clear HO_965000; clear HO_965002; clear BK952; clear BK953; clear BK964; clear HB; have HO_12 := n0_; have HO_965000 := n1_; have HO_965002 := n2_; have HO976 := n3_; have BK952 := n4_; have BK953 := n5_; have BK964 := n6_; have HB := n7_; clear n0_ n1_ n2_ n3_ n4_ n5_ n6_ n7_; clear hb ho95; obtain ⟨Ao97, co97, eo97⟩ := Kd.R_slice HO976.out; subst eo97) | ((with_reducible refine gate_builtin (b := .append) (xs := #[.tmp 81, .tmp 85]) rfl ?_); at_builtin; refine Kd.S_append (Kd.slice 2 (Kd.int .i64)) (w0 := w) w.heap.size rfl (.tmp 81) (.tmp 85) 22 23 (.slice none 0 0) 24 rfl Try.underlying22 info23 rfl (by decide) (by omega) (.slice Ao66 x12_2.length co66) x12_2 y974 [.slice Ao97 y974.length co97] (fun k_ => some k_ ≠ (u965000 : Value).ownBlock ∧ some k_ ≠ (.slice (some ad973) x965002_2.length co93 : Value).ownBlock) (fun k_ => some k_ = (.slice Ao97 y974.length co97 : Value).ownBlock) rfl rfl ?aP (fun k_ hk_ => ((Kd.R_mono (ok' := fun k_ => ((fun k_ => some k_ ≠ (u965000 : Value).ownBlock ∧ some k_ ≠ (.slice (some ad973) x965002_2.length co93 : Value).ownBlock)) k_ ∧ some k_ ≠ (.slice Ao66 x12_2.length co66 : Value).ownBlock) (Kd.R_apart' (Kd.R_apart' (HO976.out) (Kd.S_typed HO_965000.out) (by decide)) (Kd.S_typed HO_12.out) (by decide)) (fun k_ hk => ⟨⟨hk.1.2, hk.1.1.2⟩, hk.2⟩))).1 k_ hk_.symm) ?aF ?aO ?aB ?aS ?aL ?_; (case aP => exact Kd.M_row (Kd.R_mono (Kd.R_tight rfl (Kd.R_mono (ok' := fun k_ => ((fun k_ => some k_ ≠ (u965000 : Value).ownBlock ∧ some k_ ≠ (.slice (some ad973) x965002_2.length co93 : Value).ownBlock)) k_ ∧ some k_ ≠ (.slice Ao66 x12_2.length co66 : Value).ownBlock) (Kd.R_apart' (Kd.R_apart' (HO976.out) (Kd.S_typed HO_965000.out) (by decide)) (Kd.S_typed HO_12.out) (by decide)) (fun k_ hk => ⟨⟨hk.1.2, hk.1.1.2⟩, hk.2⟩))) (fun _ h_ => h_))); (case aB => exact hb_); (case aF => exact (fun k_ hk => ⟨Kd.fresh' (Kd.S_lt (so_ HO_965000.out)) k_ hk, Kd.fresh' (Kd.R_lt (ro_ HO_965002.out)) k_ hk⟩)); (case aO => exact (by (with_reducible repeat (first | apply Kd.S_alloc | apply Kd.S_drewN | apply Kd.S_drew)); exact Kd.S_mono HO_12.out (fun k_ hk => ⟨⟨hk.1.1, hk.1.2⟩, fun e_ => hk.2 e_⟩))); (case aS => exact bz_); (case aL => have := LMc87.out; omega); intro v978 w96 ho hb hg hat; rw [← Ny977.out] at ho; have n0_ := Aside0.mk (Kd.S_after (ok := (fun k_ => some k_ ≠ (.slice (some ad973) x965002_2.length co93 : Value).ownBlock ∧ some k_ ≠ (.slice Ao97 y974.length co97 : Value).ownBlock)) (by (with_reducible repeat (first | apply Kd.S_alloc | apply Kd.S_drewN | apply Kd.S_drew)); exact Kd.S_mono HO_965000.out (fun _ hk => ⟨⟨hk.1.2, hk.2⟩, hk.1.1⟩)) hg hat); have n1_ := Aside0.mk (Kd.R_over' (ro_ HO_965002.out) (Kd.S_typed (so_ HO_12.out)) (by decide) hg); have n2_ := Aside0.mk (bg_ BK952.out hg (Kd.S_ne HO_12.out BK952.out (by decide))); have n3_ := Aside0.mk (bg_ BK953.out hg (Kd.S_ne HO_12.out BK953.out (by decide))); have n4_ := Aside0.mk (bg_ BK964.out hg (Kd.S_ne HO_12.out BK964.out (by decide))); have n5_ := Aside0.mk (hb); have n6_ := Aside0.mk (ho); clear HO_965000; clear HO_965002; clear BK952; clear BK953; clear BK964; clear HB; clear HO_12; clear HO976; have HO_965000 := n0_; have HO_965002 := n1_; have BK952 := n2_; have BK953 := n3_; have BK964 := n4_; have HB := n5_; have HO979 := n6_; clear n0_ n1_ n2_ n3_ n4_ n5_ n6_; clear ho hb hg hat; have hcz98_0 : w96.cell? ⟨gb964, 0, none⟩ = some (u965000) := (blk_cell BK964.out 0).trans rfl; have hcz98_1 : w96.cell? ⟨gb964, 1, none⟩ = some (.int .i64 x965001_2) := (blk_cell BK964.out 1).trans rfl; have hcz98_2 : w96.cell? ⟨gb964, 2, none⟩ = some (.slice (some ad973) x965002_2.length co93) := (blk_cell BK964.out 2).trans rfl; have hfz98_0 := blk_frozen BK964.out 0; have hfz98_1 := blk_frozen BK964.out 1; have hfz98_2 := blk_frozen BK964.out 2; obtain ⟨Ao99, co99, eo99⟩ := Kd.S_slice HO_965000.out; subst eo99) | ((with_reducible refine gate_callee (f := 119) rfl ?_); refine gL_ 90 Try.func119 #[.agg #[.slice Ao99 x965000_2.length co99, .int .i64 x965001_2, .slice (some ad973) x965002_2.length co93], .int .i64 x14_64, .int .i64 x16_2] ?_; (with_reducible refine (spec_l05Pivot.calls _ _ x965000_2 x965001_2 _ _ x965002_2 x14_64 x16_2 t980 t983 t984 _ ?side1 ?side2 ?side3 ?side4 A88.out).mono ?_); (case side1 => repeat (first | exact (Kd.S_reads' HO_965000.out).2.2 | (with_reducible refine Kd.C_alloc ?_ _) | (with_reducible refine Kd.C_drewN ?_ _) | (with_reducible refine Kd.C_drew ?_))); (case side2 => exact (Kd.S_reads' HO_965000.out).2.1); (case side3 => repeat (first | exact (Kd.R_reads' HO_965002.out).2.2 | (with_reducible refine Kd.C_alloc ?_ _) | (with_reducible refine Kd.C_drewN ?_ _) | (with_reducible refine Kd.C_drew ?_))); (case side4 => exact (Kd.R_reads' HO_965002.out).2.1); rintro e w100 ⟨v981, v985, rfl, ho0, ho1, hb⟩; refine ⟨_, rfl, ?_⟩; have n0_ := Aside0.mk (Kd.S_mono (Kd.S_told (Kd.S_told (Kd.S_old (so_ HO_965000.out) hb) (Kd.S_base ho0)) (Kd.R_base ho1)) (fun _ h_ => h_.1)); have n1_ := Aside0.mk (Kd.R_elder' (ro_ HO_965002.out) (Kd.R_base ho1) hb); have n2_ := Aside0.mk (Kd.S_mono (Kd.S_told (Kd.S_told (Kd.S_old (so_ HO979.out) hb) (Kd.S_base ho0)) (Kd.R_base ho1)) (fun _ h_ => h_.1)); have n3_ := Aside0.mk (Kd.S_lower (Kd.S_new' (Kd.S_new' (Kd.S_new' ho0 (Kd.S_lt (so_ HO_965000.out))) (Kd.R_lt (ro_ HO_965002.out))) (Kd.S_lt (so_ HO979.out))) bz_); have n4_ := Aside0.mk (Kd.R_lower (Kd.R_new' ho1 (Kd.R_lt (ro_ HO_965002.out))) bz_); have n5_ := Aside0.mk (bb_ BK952.out hb); have n6_ := Aside0.mk (bb_ BK953.out hb); have n7_ := Aside0.mk (bb_ BK964.out hb); have n8_ := Aside0.mk (bs_ hb); clear HO_965000; clear HO_965002; clear HO979; clear BK952; clear BK953; clear BK964; clear HB; have HO_965000 := n0_; have HO_965002 := n1_; have HO979 := n2_; have HO982 := n3_; have HO986 := n4_; have BK952 := n5_; have BK953 := n6_; have BK964 := n7_; have HB := n8_; clear n0_ n1_ n2_ n3_ n4_ n5_ n6_ n7_ n8_; (try clear hb); (try clear hb2); (try clear hk); (try clear hi); (try clear ho0); (try clear ho1); obtain ⟨Ao101, co101, eo101⟩ := Kd.S_slice HO982.out; subst eo101; have hcz102_0 : w100.cell? ⟨gb964, 0, none⟩ = some (.slice Ao99 x965000_2.length co99) := (blk_cell BK964.out 0).trans rfl; have hcz102_1 : w100.cell? ⟨gb964, 1, none⟩ = some (.int .i64 x965001_2) := (blk_cell BK964.out 1).trans rfl; have hcz102_2 : w100.cell? ⟨gb964, 2, none⟩ = some (.slice (some ad973) x965002_2.length co93) := (blk_cell BK964.out 2).trans rfl; have hfz102_0 := blk_frozen BK964.out 0; have hfz102_1 := blk_frozen BK964.out 1; have hfz102_2 := blk_frozen BK964.out 2; obtain ⟨Ao103, co103, eo103⟩ := Kd.R_slice HO986.out; subst eo103; have hnb104 := NB953_952.out; have hnc104 := NB952_953.out; have hcz105_0 : w100.cell? ⟨gb953, 0, none⟩ = some (.slice none 0 0) := (blk_cell BK953.out 0).trans rfl; have hcz105_1 : w100.cell? ⟨gb953, 1, none⟩ = some (.int .i64 x954001_64) := (blk_cell BK953.out 1).trans rfl; have hcz105_2 : w100.cell? ⟨gb953, 2, none⟩ = some (.slice none 0 0) := (blk_cell BK953.out 2).trans rfl; have hfz105_0 := blk_frozen BK953.out 0; have hfz105_1 := blk_frozen BK953.out 1; have hfz105_2 := blk_frozen BK953.out 2))
              refine bodyPost_ret (results_list (rs := [.cell 6 101, .tmp 7, .tmp 8, .tmp 9]) rfl (by simp) (.cell gb953 101 #[.slice Ao101 t980.length co101, .int .i64 t983, .slice Ao103 t984.length co103] (0, 0) _ rfl (by (with_reducible repeat (first | refine blk_drewN ?_ _ | refine blk_drew ?_ | refine blk_alloc ?_ _)); refine blk_put (cs := #[.slice Ao101 t980.length co101, .int .i64 t983, .slice none 0 0]) ?_ 2 _ rfl; (with_reducible repeat (first | refine blk_drewN ?_ _ | refine blk_drew ?_ | refine blk_alloc ?_ _)); refine blk_put (cs := #[.slice Ao101 t980.length co101, .int .i64 x954001_64, .slice none 0 0]) ?_ 1 _ rfl; (with_reducible repeat (first | refine blk_drewN ?_ _ | refine blk_drew ?_ | refine blk_alloc ?_ _)); refine blk_put (cs := #[.slice none 0 0, .int .i64 x954001_64, .slice none 0 0]) ?_ 0 _ rfl; (with_reducible repeat (first | refine blk_drewN ?_ _ | refine blk_drew ?_ | refine blk_alloc ?_ _)); refine blk_far ?_ NB953_964.out _; (with_reducible repeat (first | refine blk_drewN ?_ _ | refine blk_drew ?_ | refine blk_alloc ?_ _)); refine blk_far ?_ NB953_964.out _; (with_reducible repeat (first | refine blk_drewN ?_ _ | refine blk_drew ?_ | refine blk_alloc ?_ _)); refine blk_far ?_ NB953_964.out _; (with_reducible repeat (first | refine blk_drewN ?_ _ | refine blk_drew ?_ | refine blk_alloc ?_ _)); exact BK953.out) Try.underlying101 rfl (by kernel_rfl) (.tmp (.tmp (.tmp .nil))))) rfl ?_
              exact ⟨_, _, _, by first | rfl | (simp [errW_none, errW_some] <;> rfl) | (simp [*, errW_none, errW_some] <;> rfl), by (with_reducible repeat (first | apply Kd.S_alloc | apply Kd.S_drewN | apply Kd.S_drew)); exact Kd.S_mono (Kd.S_far (p := ⟨gb953, 2, none⟩) (Kd.S_far (p := ⟨gb953, 1, none⟩) (Kd.S_far (p := ⟨gb953, 0, none⟩) (Kd.S_far (p := ⟨gb964, 2, none⟩) (Kd.S_far (p := ⟨gb964, 1, none⟩) (Kd.S_far (p := ⟨gb964, 0, none⟩) (Kd.S_types (Kd.S_types HO982.out BK964.out (by decide)) BK953.out (by decide)) (fun _ hk => hk.1.2) (.slice Ao101 t980.length co101)) (fun _ hk => hk.1.2) (.int .i64 t983)) (fun _ hk => hk.1.2) (.slice Ao103 t984.length co103)) (fun _ hk => hk.2) (.slice Ao101 t980.length co101)) (fun _ hk => hk.2) (.int .i64 t983)) (fun _ hk => hk.2) (.slice Ao103 t984.length co103)) (fun _ hk => ⟨hk.1.1.1.1.1, hk.1.1.2⟩), by (with_reducible repeat (first | apply Kd.R_alloc | apply Kd.R_drewN | apply Kd.R_drew)); exact Kd.R_mono (Kd.R_far (p := ⟨gb953, 2, none⟩) (Kd.R_far (p := ⟨gb953, 1, none⟩) (Kd.R_far (p := ⟨gb953, 0, none⟩) (Kd.R_far (p := ⟨gb964, 2, none⟩) (Kd.R_far (p := ⟨gb964, 1, none⟩) (Kd.R_far (p := ⟨gb964, 0, none⟩) (Kd.R_types (Kd.R_types HO986.out BK964.out (by decide)) BK953.out (by decide)) (fun _ hk => hk.1.2) (.slice Ao101 t980.length co101)) (fun _ hk => hk.1.2) (.int .i64 t983)) (fun _ hk => hk.1.2) (.slice Ao103 t984.length co103)) (fun _ hk => hk.2) (.slice Ao101 t980.length co101)) (fun _ hk => hk.2) (.int .i64 t983)) (fun _ hk => hk.2) (.slice Ao103 t984.length co103)) (fun _ hk => trivial), by (with_reducible repeat (first | apply Kd.S_alloc | apply Kd.S_drewN | apply Kd.S_drew)); exact Kd.S_mono (Kd.S_far (p := ⟨gb953, 2, none⟩) (Kd.S_far (p := ⟨gb953, 1, none⟩) (Kd.S_far (p := ⟨gb953, 0, none⟩) (Kd.S_far (p := ⟨gb964, 2, none⟩) (Kd.S_far (p := ⟨gb964, 1, none⟩) (Kd.S_far (p := ⟨gb964, 0, none⟩) (Kd.S_types (Kd.S_types HO979.out BK964.out (by decide)) BK953.out (by decide)) (fun _ hk => hk.1.2) (.slice Ao101 t980.length co101)) (fun _ hk => hk.1.2) (.int .i64 t983)) (fun _ hk => hk.1.2) (.slice Ao103 t984.length co103)) (fun _ hk => hk.2) (.slice Ao101 t980.length co101)) (fun _ hk => hk.2) (.int .i64 t983)) (fun _ hk => hk.2) (.slice Ao103 t984.length co103)) (fun _ hk => ⟨hk.1.1.1.2, hk.1.1.2⟩), hb_⟩
             ·rw [if_neg c89] at H
              have c89b0 : ((rd x965002_2 x14_64) == (wrap64 (2 * (l0_1.length : Int)))) = false := beq_eq_false_iff_ne.mpr c89
              have c89b1 : ((rd x965002_2 x14_64) != (wrap64 (2 * (l0_1.length : Int)))) = true := bne_iff_ne.mpr c89
              replace H := Option.bind_eq_some_iff.mp H
              obtain ⟨t987, A1060, H⟩ := H
              replace H : (spec_l05Run.l1 kj64 a2 (l0_1.length : Int) y977 x14_64 t987 t980 t983 t984) = some (r1, r2, r3, r4, r5, r6) := H
              have A106 := Aside0.mk A1060
              clear A1060
              have H' := Aside0.mk H
              clear H
              have hnb107 := NB964_952.out
              have hnc107 := NB952_964.out
              have hnb108 := NB964_953.out
              have hnc108 := NB953_964.out
              have hcz109_0 : wc.cell? ⟨gb964, 0, none⟩ = some (u965000) := (blk_cell BK964.out 0).trans rfl
              have hcz109_1 : wc.cell? ⟨gb964, 1, none⟩ = some (.int .i64 x965001_2) := (blk_cell BK964.out 1).trans rfl
              have hcz109_2 : wc.cell? ⟨gb964, 2, none⟩ = some (u965002) := (blk_cell BK964.out 2).trans rfl
              have hfz109_0 := blk_frozen BK964.out 0
              have hfz109_1 := blk_frozen BK964.out 1
              have hfz109_2 := blk_frozen BK964.out 2
              obtain ⟨Ao110, co110, eo110⟩ := Kd.R_slice HO_965002.out
              subst eo110
              have p973 : 0 ≤ (x14_64 : Int) := od_
              have q973 : x14_64 < (x965002_2.length : Int) := od_
              obtain ⟨ad973, e973, hx973_0⟩ := Kd.at_int (Kd.R_reads' HO_965002.out).2.2 x14_64 p973 q973
              cases e973
              replace p973 := eq_true p973
              replace q973 := eq_true q973
              go_wp2_with (first | ((with_reducible refine gate_dst (N := 84) rfl ?_); refine Kd.R_lit (Kd.int .i64) _ 2 ?hg (N := 84) ?hd (xs := ([x16_2, rd x965002_2 x14_64] : List Int)) (inner := [.int .i64 x16_2, .int .i64 (rd x965002_2 x14_64)]) (ok := fun _ => True) (okp := fun _ => True) ?hr ?hp (fun _ hk => hk) trivial (Below.refl _ _) (Nat.le_refl _) (by simp) ?_; (case hd => rfl); (case hg => rfl); (case hr => first | (go_simp; done) | (go_simp; rfl)); (case hp => exact (Reps.one (show Kd.M (Kd.int .i64) _ _ _ x16_2 [.int .i64 x16_2] from rfl) (Reps.one (show Kd.M (Kd.int .i64) _ _ _ (rd x965002_2 x14_64) [.int .i64 (rd x965002_2 x14_64)] from rfl) (Reps.none _ _)))); intro v975 w111 ho112 hb hg_ hnew_; clear hg_ hnew_; (first | rw [← Ny974.out] at ho112 | (simp only [Int.reduceToNat] at ho112; rw [← Ny974.out] at ho112)); have n0_ := Aside0.mk (Kd.S_elder' (so_ HO_12.out) (Kd.R_base ho112) hb); have n1_ := Aside0.mk (Kd.S_elder' (so_ HO_965000.out) (Kd.R_base ho112) hb); have n2_ := Aside0.mk (Kd.R_elder' (ro_ HO_965002.out) (Kd.R_base ho112) hb); have n3_ := Aside0.mk (Kd.R_lower (Kd.R_new' ho112 (Kd.R_lt (ro_ HO_965002.out))) bz_); have n4_ := Aside0.mk (bb_ BK952.out hb); have n5_ := Aside0.mk (bb_ BK953.out hb); have n6_ := Aside0.mk (bb_ BK964.out hb); have n7_ := Aside0.mk (bs_ hb); clear HO_12; clear HO_965000; clear HO_965002; clear BK952; clear BK953; clear BK964; clear HB; have HO_12 := n0_; have HO_965000 := n1_; have HO_965002 := n2_; have HO976 := n3_; have BK952 := n4_; have BK953 := n5_; have BK964 := n6_; have HB := n7_; clear n0_ n1_ n2_ n3_ n4_ n5_ n6_ n7_; clear hb ho112; obtain ⟨Ao114, co114, eo114⟩ := Kd.R_slice HO976.out; subst eo114) | ((with_reducible refine gate_builtin (b := .append) (xs := #[.tmp 81, .tmp 85]) rfl ?_); at_builtin; refine Kd.S_append (Kd.slice 2 (Kd.int .i64)) (w0 := w) w.heap.size rfl (.tmp 81) (.tmp 85) 22 23 (.slice none 0 0) 24 rfl Try.underlying22 info23 rfl (by decide) (by omega) (.slice Ao66 x12_2.length co66) x12_2 y974 [.slice Ao114 y974.length co114] (fun k_ => some k_ ≠ (u965000 : Value).ownBlock ∧ some k_ ≠ (.slice (some ad973) x965002_2.length co110 : Value).ownBlock) (fun k_ => some k_ = (.slice Ao114 y974.length co114 : Value).ownBlock) rfl rfl ?aP (fun k_ hk_ => ((Kd.R_mono (ok' := fun k_ => ((fun k_ => some k_ ≠ (u965000 : Value).ownBlock ∧ some k_ ≠ (.slice (some ad973) x965002_2.length co110 : Value).ownBlock)) k_ ∧ some k_ ≠ (.slice Ao66 x12_2.length co66 : Value).ownBlock) (Kd.R_apart' (Kd.R_apart' (HO976.out) (Kd.S_typed HO_965000.out) (by decide)) (Kd.S_typed HO_12.out) (by decide)) (fun k_ hk => ⟨⟨hk.1.2, hk.1.1.2⟩, hk.2⟩))).1 k_ hk_.symm) ?aF ?aO ?aB ?aS ?aL ?_; (case aP => exact Kd.M_row (Kd.R_mono (Kd.R_tight rfl (Kd.R_mono (ok' := fun k_ => ((fun k_ => some k_ ≠ (u965000 : Value).ownBlock ∧ some k_ ≠ (.slice (some ad973) x965002_2.length co110 : Value).ownBlock)) k_ ∧ some k_ ≠ (.slice Ao66 x12_2.length co66 : Value).ownBlock) (Kd.R_apart' (Kd.R_apart' (HO976.out) (Kd.S_typed HO_965000.out) (by decide)) (Kd.S_typed HO_12.out) (by decide)) (fun k_ hk => ⟨⟨hk.1.2, hk.1.1.2⟩, hk.2⟩))) (fun _ h_ => h_))); (case aB => exact hb_); (case aF => exact (fun k_ hk => ⟨Kd.fresh' (Kd.S_lt (so_ HO_965000.out)) k_ hk, Kd.fresh' (Kd.R_lt (ro_ HO_965002.out)) k_ hk⟩)); (case aO => exact (by (with_reducible repeat (first | apply Kd.S_alloc | apply Kd.S_drewN | apply Kd.S_drew)); exact Kd.S_mono HO_12.out (fun k_ hk => ⟨⟨hk.1.1, hk.1.2⟩, fun e_ => hk.2 e_⟩))); (case aS => exact bz_); (case aL => have := LMc87.out; omega); intro v978 w113 ho hb hg hat; rw [← Ny977.out] at ho; have n0_ := Aside0.mk (Kd.S_after (ok := (fun k_ => some k_ ≠ (.slice (some ad973) x965002_2.length co110 : Value).ownBlock ∧ some k_ ≠ (.slice Ao114 y974.length co114 : Value).ownBlock)) (by (with_reducible repeat (first | apply Kd.S_alloc | apply Kd.S_drewN | apply Kd.S_drew)); exact Kd.S_mono HO_965000.out (fun _ hk => ⟨⟨hk.1.2, hk.2⟩, hk.1.1⟩)) hg hat); have n1_ := Aside0.mk (Kd.R_over' (ro_ HO_965002.out) (Kd.S_typed (so_ HO_12.out)) (by decide) hg); have n2_ := Aside0.mk (bg_ BK952.out hg (Kd.S_ne HO_12.out BK952.out (by decide))); have n3_ := Aside0.mk (bg_ BK953.out hg (Kd.S_ne HO_12.out BK953.out (by decide))); have n4_ := Aside0.mk (bg_ BK964.out hg (Kd.S_ne HO_12.out BK964.out (by decide))); have n5_ := Aside0.mk (hb); have n6_ := Aside0.mk (ho); clear HO_965000; clear HO_965002; clear BK952; clear BK953; clear BK964; clear HB; clear HO_12; clear HO976; have HO_965000 := n0_; have HO_965002 := n1_; have BK952 := n2_; have BK953 := n3_; have BK964 := n4_; have HB := n5_; have HO979 := n6_; clear n0_ n1_ n2_ n3_ n4_ n5_ n6_; clear ho hb hg hat; have hcz115_0 : w113.cell? ⟨gb964, 0, none⟩ = some (u965000) := (blk_cell BK964.out 0).trans rfl; have hcz115_1 : w113.cell? ⟨gb964, 1, none⟩ = some (.int .i64 x965001_2) := (blk_cell BK964.out 1).trans rfl; have hcz115_2 : w113.cell? ⟨gb964, 2, none⟩ = some (.slice (some ad973) x965002_2.length co110) := (blk_cell BK964.out 2).trans rfl; have hfz115_0 := blk_frozen BK964.out 0; have hfz115_1 := blk_frozen BK964.out 1; have hfz115_2 := blk_frozen BK964.out 2; obtain ⟨Ao116, co116, eo116⟩ := Kd.S_slice HO_965000.out; subst eo116) | ((with_reducible refine gate_callee (f := 119) rfl ?_); refine gL_ 90 Try.func119 #[.agg #[.slice Ao116 x965000_2.length co116, .int .i64 x965001_2, .slice (some ad973) x965002_2.length co110], .int .i64 x14_64, .int .i64 x16_2] ?_; (with_reducible refine (spec_l05Pivot.calls _ _ x965000_2 x965001_2 _ _ x965002_2 x14_64 x16_2 t980 t983 t984 _ ?side1 ?side2 ?side3 ?side4 A88.out).mono ?_); (case side1 => repeat (first | exact (Kd.S_reads' HO_965000.out).2.2 | (with_reducible refine Kd.C_alloc ?_ _) | (with_reducible refine Kd.C_drewN ?_ _) | (with_reducible refine Kd.C_drew ?_))); (case side2 => exact (Kd.S_reads' HO_965000.out).2.1); (case side3 => repeat (first | exact (Kd.R_reads' HO_965002.out).2.2 | (with_reducible refine Kd.C_alloc ?_ _) | (with_reducible refine Kd.C_drewN ?_ _) | (with_reducible refine Kd.C_drew ?_))); (case side4 => exact (Kd.R_reads' HO_965002.out).2.1); rintro e w117 ⟨v981, v985, rfl, ho0, ho1, hb⟩; refine ⟨_, rfl, ?_⟩; have n0_ := Aside0.mk (Kd.S_mono (Kd.S_told (Kd.S_told (Kd.S_old (so_ HO_965000.out) hb) (Kd.S_base ho0)) (Kd.R_base ho1)) (fun _ h_ => h_.1)); have n1_ := Aside0.mk (Kd.R_elder' (ro_ HO_965002.out) (Kd.R_base ho1) hb); have n2_ := Aside0.mk (Kd.S_mono (Kd.S_told (Kd.S_told (Kd.S_old (so_ HO979.out) hb) (Kd.S_base ho0)) (Kd.R_base ho1)) (fun _ h_ => h_.1)); have n3_ := Aside0.mk (Kd.S_lower (Kd.S_new' (Kd.S_new' (Kd.S_new' ho0 (Kd.S_lt (so_ HO_965000.out))) (Kd.R_lt (ro_ HO_965002.out))) (Kd.S_lt (so_ HO979.out))) bz_); have n4_ := Aside0.mk (Kd.R_lower (Kd.R_new' ho1 (Kd.R_lt (ro_ HO_965002.out))) bz_); have n5_ := Aside0.mk (bb_ BK952.out hb); have n6_ := Aside0.mk (bb_ BK953.out hb); have n7_ := Aside0.mk (bb_ BK964.out hb); have n8_ := Aside0.mk (bs_ hb); clear HO_965000; clear HO_965002; clear HO979; clear BK952; clear BK953; clear BK964; clear HB; have HO_965000 := n0_; have HO_965002 := n1_; have HO979 := n2_; have HO982 := n3_; have HO986 := n4_; have BK952 := n5_; have BK953 := n6_; have BK964 := n7_; have HB := n8_; clear n0_ n1_ n2_ n3_ n4_ n5_ n6_ n7_ n8_; (try clear hb); (try clear hb2); (try clear hk); (try clear hi); (try clear ho0); (try clear ho1); obtain ⟨Ao118, co118, eo118⟩ := Kd.S_slice HO982.out; subst eo118; have hcz119_0 : w117.cell? ⟨gb964, 0, none⟩ = some (.slice Ao116 x965000_2.length co116) := (blk_cell BK964.out 0).trans rfl; have hcz119_1 : w117.cell? ⟨gb964, 1, none⟩ = some (.int .i64 x965001_2) := (blk_cell BK964.out 1).trans rfl; have hcz119_2 : w117.cell? ⟨gb964, 2, none⟩ = some (.slice (some ad973) x965002_2.length co110) := (blk_cell BK964.out 2).trans rfl; have hfz119_0 := blk_frozen BK964.out 0; have hfz119_1 := blk_frozen BK964.out 1; have hfz119_2 := blk_frozen BK964.out 2; obtain ⟨Ao120, co120, eo120⟩ := Kd.R_slice HO986.out; subst eo120) | ((with_reducible refine gate_callee (f := 120) rfl ?_); refine gL_ 99 Try.func120 #[.int .i64 (rd x965002_2 x14_64), .int .i64 (l0_1.length : Int)] ?_; (with_reducible refine (spec_l05Partner.calls (rd x965002_2 x14_64) (l0_1.length : Int) t987 _ A106.out).mono ?_); rintro e w' ⟨rfl, ⟨nd, rfl⟩⟩; refine ⟨_, rfl, ?_⟩))
              go_roundg kj64
              case measure => have := HK1.out; have := HK2.out; have := HJ64.out; omega
              case rel => exact ⟨(y977), (x14_64), (t987), (x954001_64), (t980), (t983), (t984), (.slice Ao118 t980.length co118), (.slice Ao120 t984.length co120), rs_, rs_, H', ⟨by have := HK1.out; have := HK2.out; have := HJ64.out; omega⟩, ⟨by (with_reducible repeat (first | apply Kd.S_alloc | apply Kd.S_drewN | apply Kd.S_drew)); exact Kd.S_mono (Kd.S_far (p := ⟨gb964, 2, none⟩) (Kd.S_far (p := ⟨gb964, 1, none⟩) (Kd.S_far (p := ⟨gb964, 0, none⟩) (Kd.S_types HO979.out BK964.out (by decide)) (fun _ hk => hk.2) (.slice Ao118 t980.length co118)) (fun _ hk => hk.2) (.int .i64 t983)) (fun _ hk => hk.2) (.slice Ao120 t984.length co120)) (fun _ hk => ⟨hk.1.1.2, hk.1.2⟩)⟩, ⟨by (with_reducible repeat (first | apply Kd.S_alloc | apply Kd.S_drewN | apply Kd.S_drew)); exact Kd.S_mono (Kd.S_far (p := ⟨gb964, 2, none⟩) (Kd.S_far (p := ⟨gb964, 1, none⟩) (Kd.S_far (p := ⟨gb964, 0, none⟩) (Kd.S_types HO982.out BK964.out (by decide)) (fun _ hk => hk.2) (.slice Ao118 t980.length co118)) (fun _ hk => hk.2) (.int .i64 t983)) (fun _ hk => hk.2) (.slice Ao120 t984.length co120)) (fun _ hk => ⟨hk.1.2, hk.1.1.1.1⟩)⟩, ⟨by (with_reducible repeat (first | apply Kd.R_alloc | apply Kd.R_drewN | apply Kd.R_drew)); exact Kd.R_mono (Kd.R_far (p := ⟨gb964, 2, none⟩) (Kd.R_far (p := ⟨gb964, 1, none⟩) (Kd.R_far (p := ⟨gb964, 0, none⟩) (Kd.R_types HO986.out BK964.out (by decide)) (fun _ hk => hk.2) (.slice Ao118 t980.length co118)) (fun _ hk => hk.2) (.int .i64 t983)) (fun _ hk => hk.2) (.slice Ao120 t984.length co120)) (fun _ hk => trivial)⟩, ⟨by (with_reducible repeat (first | refine blk_drewN ?_ _ | refine blk_drew ?_ | refine blk_alloc ?_ _)); refine blk_far ?_ NB952_964.out _; (with_reducible repeat (first | refine blk_drewN ?_ _ | refine blk_drew ?_ | refine blk_alloc ?_ _)); refine blk_far ?_ NB952_964.out _; (with_reducible repeat (first | refine blk_drewN ?_ _ | refine blk_drew ?_ | refine blk_alloc ?_ _)); refine blk_far ?_ NB952_964.out _; (with_reducible repeat (first | refine blk_drewN ?_ _ | refine blk_drew ?_ | refine blk_alloc ?_ _)); exact BK952.out⟩, ⟨by (with_reducible repeat (first | refine blk_drewN ?_ _ | refine blk_drew ?_ | refine blk_alloc ?_ _)); refine blk_far ?_ NB953_964.out _; (with_reducible repeat (first | refine blk_drewN ?_ _ | refine blk_drew ?_ | refine blk_alloc ?_ _)); refine blk_far ?_ NB953_964.out _; (with_reducible repeat (first | refine blk_drewN ?_ _ | refine blk_drew ?_ | refine blk_alloc ?_ _)); refine blk_far ?_ NB953_964.out _; (with_reducible repeat (first | refine blk_drewN ?_ _ | refine blk_drew ?_ | refine blk_alloc ?_ _)); exact BK953.out⟩, ⟨by (with_reducible repeat (first | refine blk_drewN ?_ _ | refine blk_drew ?_ | refine blk_alloc ?_ _)); refine blk_put (cs := #[.slice Ao118 t980.length co118, .int .i64 t983, .slice (some ad973) x965002_2.length co110]) ?_ 2 _ rfl; (with_reducible repeat (first | refine blk_drewN ?_ _ | refine blk_drew ?_ | refine blk_alloc ?_ _)); refine blk_put (cs := #[.slice Ao118 t980.length co118, .int .i64 x965001_2, .slice (some ad973) x965002_2.length co110]) ?_ 1 _ rfl; (with_reducible repeat (first | refine blk_drewN ?_ _ | refine blk_drew ?_ | refine blk_alloc ?_ _)); refine blk_put (cs := #[.slice Ao116 x965000_2.length co116, .int .i64 x965001_2, .slice (some ad973) x965002_2.length co110]) ?_ 0 _ rfl; (with_reducible repeat (first | refine blk_drewN ?_ _ | refine blk_drew ?_ | refine blk_alloc ?_ _)); exact BK964.out⟩, ⟨hb_⟩⟩
            ·rw [if_neg c87] at H
             exact absurd H (by simp)
           ·rw [if_neg c86] at H
            exact absurd H (by simp)
          ·rw [if_neg c85] at H
           exact absurd H (by simp)
       ·rw [if_neg c64] at H
        have c64b0 : decide ((x12_2.length : Int) < a2) = false := decide_eq_false c64
        clear c64
        simp only [Option.some.injEq, Prod.mk.injEq] at H
        obtain ⟨rfl, rfl, rfl, rfl, rfl, rfl⟩ := H
        obtain ⟨Ao121, co121, eo121⟩ := Kd.S_slice HO_12.out
        subst eo121
        have hnb122 := NB964_952.out
        have hnc122 := NB952_964.out
        have hnb123 := NB964_953.out
        have hnc123 := NB953_964.out
        have hcz124_0 : wr.cell? ⟨gb964, 0, none⟩ = some (u965000) := (blk_cell BK964.out 0).trans rfl
        have hcz124_1 : wr.cell? ⟨gb964, 1, none⟩ = some (.int .i64 x965001_2) := (blk_cell BK964.out 1).trans rfl
        have hcz124_2 : wr.cell? ⟨gb964, 2, none⟩ = some (u965002) := (blk_cell BK964.out 2).trans rfl
        have hfz124_0 := blk_frozen BK964.out 0
        have hfz124_1 := blk_frozen BK964.out 1
        have hfz124_2 := blk_frozen BK964.out 2
        obtain ⟨Ao125, co125, eo125⟩ := Kd.S_slice HO_965000.out
        subst eo125
        have hnb126 := NB953_952.out
        have hnc126 := NB952_953.out
        have hcz127_0 : wr.cell? ⟨gb953, 0, none⟩ = some (.slice none 0 0) := (blk_cell BK953.out 0).trans rfl
        have hcz127_1 : wr.cell? ⟨gb953, 1, none⟩ = some (.int .i64 x954001_2) := (blk_cell BK953.out 1).trans rfl
        have hcz127_2 : wr.cell? ⟨gb953, 2, none⟩ = some (.slice none 0 0) := (blk_cell BK953.out 2).trans rfl
        have hfz127_0 := blk_frozen BK953.out 0
        have hfz127_1 := blk_frozen BK953.out 1
        have hfz127_2 := blk_frozen BK953.out 2
        obtain ⟨Ao128, co128, eo128⟩ := Kd.R_slice HO_965002.out
        subst eo128
        go_wp2
        refine bodyPost_ret (results_list (rs := [.cell 6 101, .tmp 7, .tmp 8, .tmp 9]) rfl (by simp) (.cell gb953 101 #[.slice Ao125 x965000_2.length co125, .int .i64 x965001_2, .slice Ao128 x965002_2.length co128] (0, 0) _ rfl (by (with_reducible repeat (first | refine blk_drewN ?_ _ | refine blk_drew ?_ | refine blk_alloc ?_ _)); refine blk_put (cs := #[.slice Ao125 x965000_2.length co125, .int .i64 x965001_2, .slice none 0 0]) ?_ 2 _ rfl; (with_reducible repeat (first | refine blk_drewN ?_ _ | refine blk_drew ?_ | refine blk_alloc ?_ _)); refine blk_put (cs := #[.slice Ao125 x965000_2.length co125, .int .i64 x954001_2, .slice none 0 0]) ?_ 1 _ rfl; (with_reducible repeat (first | refine blk_drewN ?_ _ | refine blk_drew ?_ | refine blk_alloc ?_ _)); refine blk_put (cs := #[.slice none 0 0, .int .i64 x954001_2, .slice none 0 0]) ?_ 0 _ rfl; (with_reducible repeat (first | refine blk_drewN ?_ _ | refine blk_drew ?_ | refine blk_alloc ?_ _)); exact BK953.out) Try.underlying101 rfl (by kernel_rfl) (.tmp (.tmp (.tmp .nil))))) rfl ?_
        exact ⟨_, _, _, by first | rfl | (simp [errW_none, errW_some] <;> rfl) | (simp [*, errW_none, errW_some] <;> rfl), by (with_reducible repeat (first | apply Kd.S_alloc | apply Kd.S_drewN | apply Kd.S_drew)); exact Kd.S_mono (Kd.S_far (p := ⟨gb953, 2, none⟩) (Kd.S_far (p := ⟨gb953, 1, none⟩) (Kd.S_far (p := ⟨gb953, 0, none⟩) (Kd.S_types HO_965000.out BK953.out (by decide)) (fun _ hk => hk.2) (.slice Ao125 x965000_2.length co125)) (fun _ hk => hk.2) (.int .i64 x965001_2)) (fun _ hk => hk.2) (.slice Ao128 x965002_2.length co128)) (fun _ hk => ⟨hk.1.2, hk.1.1⟩), by (with_reducible repeat (first | apply Kd.R_alloc | apply Kd.R_drewN | apply Kd.R_drew)); exact Kd.R_mono (Kd.R_far (p := ⟨gb953, 2, none⟩) (Kd.R_far (p := ⟨gb953, 1, none⟩) (Kd.R_far (p := ⟨gb953, 0, none⟩) (Kd.R_types HO_965002.out BK953.out (by decide)) (fun _ hk => hk.2) (.slice Ao125 x965000_2.length co125)) (fun _ hk => hk.2) (.int .i64 x965001_2)) (fun _ hk => hk.2) (.slice Ao128 x965002_2.length co128)) (fun _ hk => trivial), by (with_reducible repeat (first | apply Kd.S_alloc | apply Kd.S_drewN | apply Kd.S_drew)); exact Kd.S_mono (Kd.S_far (p := ⟨gb953, 2, none⟩) (Kd.S_far (p := ⟨gb953, 1, none⟩) (Kd.S_far (p := ⟨gb953, 0, none⟩) (Kd.S_types HO_12.out BK953.out (by decide)) (fun _ hk => hk.2) (.slice Ao125 x965000_2.length co125)) (fun _ hk => hk.2) (.int .i64 x965001_2)) (fun _ hk => hk.2) (.slice Ao128 x965002_2.length co128)) (fun _ hk => ⟨hk.1.1, hk.1.2⟩), hb_⟩
    ·replace c60 := Bool.eq_false_iff.mpr c60
     subst c60
     have H1 : (some (t954, t957, t958, y961, (-1), true)) = some (r1, r2, r3, r4, r5, r6) := by rw [if_neg (show ¬ (false = true) by decide)] at H; exact H
     clear H
     have H := H1
     clear H1
     simp only [Option.some.injEq, Prod.mk.injEq] at H
     obtain ⟨rfl, rfl, rfl, rfl, rfl, rfl⟩ := H
     have hnb129 := NB952_953.out
     have hnc129 := NB953_952.out
     have hnb130 := NB952_964.out
     have hnc130 := NB964_952.out
     have hcz131_0 : wr.cell? ⟨gb952, 0, none⟩ = some (.slice A0_0 l0_0.length c0_0) := (blk_cell BK952.out 0).trans rfl
     have hcz131_1 : wr.cell? ⟨gb952, 1, none⟩ = some (.slice A0_1 l0_1.length c0_1) := (blk_cell BK952.out 1).trans rfl
     have hfz131_0 := blk_frozen BK952.out 0
     have hfz131_1 := blk_frozen BK952.out 1
     have hnb132 := NB964_953.out
     have hnc132 := NB953_964.out
     have hcz133_0 : wr.cell? ⟨gb964, 0, none⟩ = some (v955) := (blk_cell BK964.out 0).trans rfl
     have hcz133_1 : wr.cell? ⟨gb964, 1, none⟩ = some (.int .i64 t957) := (blk_cell BK964.out 1).trans rfl
     have hcz133_2 : wr.cell? ⟨gb964, 2, none⟩ = some (v959) := (blk_cell BK964.out 2).trans rfl
     have hfz133_0 := blk_frozen BK964.out 0
     have hfz133_1 := blk_frozen BK964.out 1
     have hfz133_2 := blk_frozen BK964.out 2
     obtain ⟨Ao134, co134, eo134⟩ := Kd.S_slice HO_965000.out
     subst eo134
     have hcz135_0 : wr.cell? ⟨gb953, 0, none⟩ = some (.slice none 0 0) := (blk_cell BK953.out 0).trans rfl
     have hcz135_1 : wr.cell? ⟨gb953, 1, none⟩ = some (.int .i64 0) := (blk_cell BK953.out 1).trans rfl
     have hcz135_2 : wr.cell? ⟨gb953, 2, none⟩ = some (.slice none 0 0) := (blk_cell BK953.out 2).trans rfl
     have hfz135_0 := blk_frozen BK953.out 0
     have hfz135_1 := blk_frozen BK953.out 1
     have hfz135_2 := blk_frozen BK953.out 2
     obtain ⟨Ao136, co136, eo136⟩ := Kd.R_slice HO_965002.out
     subst eo136
     go_wp2
     refine bodyPost_ret (results_list (rs := [.cell 6 101, .tmp 7, .tmp 8, .tmp 9]) rfl (by simp) (.cell gb953 101 #[.slice Ao134 t954.length co134, .int .i64 t957, .slice Ao136 t958.length co136] (0, 0) _ rfl (by (with_reducible repeat (first | refine blk_drewN ?_ _ | refine blk_drew ?_ | refine blk_alloc ?_ _)); refine blk_put (cs := #[.slice Ao134 t954.length co134, .int .i64 t957, .slice none 0 0]) ?_ 2 _ rfl; (with_reducible repeat (first | refine blk_drewN ?_ _ | refine blk_drew ?_ | refine blk_alloc ?_ _)); refine blk_put (cs := #[.slice Ao134 t954.length co134, .int .i64 0, .slice none 0 0]) ?_ 1 _ rfl; (with_reducible repeat (first | refine blk_drewN ?_ _ | refine blk_drew ?_ | refine blk_alloc ?_ _)); refine blk_put (cs := #[.slice none 0 0, .int .i64 0, .slice none 0 0]) ?_ 0 _ rfl; (with_reducible repeat (first | refine blk_drewN ?_ _ | refine blk_drew ?_ | refine blk_alloc ?_ _)); exact BK953.out) Try.underlying101 rfl (by kernel_rfl) (.tmp (.tmp (.tmp .nil))))) rfl ?_
     exact ⟨_, _, _, by first | rfl | (simp [errW_none, errW_some] <;> rfl) | (simp [*, errW_none, errW_some] <;> rfl), by (with_reducible repeat (first | apply Kd.S_alloc | apply Kd.S_drewN | apply Kd.S_drew)); exact Kd.S_mono (Kd.S_far (p := ⟨gb953, 2, none⟩) (Kd.S_far (p := ⟨gb953, 1, none⟩) (Kd.S_far (p := ⟨gb953, 0, none⟩) (Kd.S_types HO_965000.out BK953.out (by decide)) (fun _ hk => hk.2) (.slice Ao134 t954.length co134)) (fun _ hk => hk.2) (.int .i64 t957)) (fun _ hk => hk.2) (.slice Ao136 t958.length co136)) (fun _ hk => ⟨hk.1.2, hk.1.1⟩), by (with_reducible repeat (first | apply Kd.R_alloc | apply Kd.R_drewN | apply Kd.R_drew)); exact Kd.R_mono (Kd.R_far (p := ⟨gb953, 2, none⟩) (Kd.R_far (p := ⟨gb953, 1, none⟩) (Kd.R_far (p := ⟨gb953, 0, none⟩) (Kd.R_types HO_965002.out BK953.out (by decide)) (fun _ hk => hk.2) (.slice Ao134 t954.length co134)) (fun _ hk => hk.2) (.int .i64 t957)) (fun _ hk => hk.2) (.slice Ao136 t958.length co136)) (fun _ hk => trivial), by (with_reducible repeat (first | apply Kd.S_alloc | apply Kd.S_drewN | apply Kd.S_drew)); exact Kd.S_mono (Kd.S_far (p := ⟨gb953, 2, none⟩) (Kd.S_far (p := ⟨gb953, 1, none⟩) (Kd.S_far (p := ⟨gb953, 0, none⟩) (Kd.S_types HO_12.out BK953.out (by decide)) (fun _ hk => hk.2) (.slice Ao134 t954.length co134)) (fun _ hk => hk.2) (.int .i64 t957)) (fun _ hk => hk.2) (.slice Ao136 t958.length co136)) (fun _ hk => ⟨hk.1.1, hk.1.2⟩), hb_⟩
def spec_l05After.j0 : Nat → List Int → Int → List (List Int) → Bool → List (List Int) → List Int → Option ((List (List Int)) × Int × List Int × Int)
 | 0, _, _, _, _, _, _ => none
 | k + 1, x1, x2, x10, x35, x1039000, x1039001 => if x35 = true then (some (([] : List (List Int)), 0, ([] : List Int), 2)) else (if (x10.length : Int) > 200 then (some (([] : List (List Int)), 0, ([] : List Int), 3)) else ((spec_l05Run.f k x1039000 x1039001 x1 x2).bind fun bt1054 => (some (bt1054.1, bt1054.2.1, bt1054.2.2.1, 0))))
def spec_l05After.f (k : Nat) (l0_0 : List (List Int)) (l0_1 : List Int) (l1 : List Int) (a2 : Int) : Option ((List (List Int)) × Int × List Int × Int) := (spec_l05Code.f k l0_0 l0_1 l1).bind fun t1040 => (if t1040 = 0 then (if a2 < 0 then (some (([] : List (List Int)), 0, ([] : List Int), 2)) else ((spec_l05Run.f k l0_0 l0_1 l1 201).bind fun bt1041 => (if (bt1041.2.2.2.1.length : Int) ≤ 200 then (spec_l05After.j0 k l1 a2 bt1041.2.2.2.1 (decide (a2 > (bt1041.2.2.2.1.length : Int))) l0_0 l0_1) else (spec_l05After.j0 k l1 a2 bt1041.2.2.2.1 false l0_0 l0_1)))) else (some (([] : List (List Int)), 0, ([] : List Int), t1040)))
theorem spec_l05After.mono_l : ∀ k, (∀ y0 y1 y2 y3 y4 y5, LeO (spec_l05After.j0 k y0 y1 y2 y3 y4 y5) (spec_l05After.j0 (k + 1) y0 y1 y2 y3 y4 y5))
 | 0 => fun _ _ _ _ _ _ r h => by simp [spec_l05After.j0] at h
 | k + 1 => by
  have ih0 := spec_l05After.mono_l k
  ·intro y0 y1 y2 y3 y4 y5
   unfold spec_l05After.j0
   repeat' first
   | (with_reducible exact ih0 _ _ _ _ _ _)
   | (with_reducible exact spec_l05Code.mono _ _ _ _)
   | (with_reducible exact spec_l05Run.mono _ _ _ _ _)
   | (with_reducible exact LeO.refl _)
   | (with_reducible exact LeO.none _)
   | (with_reducible refine LeO.ite ?_ ?_)
   | (with_reducible refine LeO.bind ?_ (fun _ => ?_))
   | exact ih0 _ _ _ _ _ _
   | exact spec_l05Code.mono _ _ _ _
   | exact spec_l05Run.mono _ _ _ _ _
   | exact LeO.none _
   | refine LeO.ite ?_ ?_
   | refine LeO.bind ?_ (fun _ => ?_)
theorem spec_l05After.mono : ∀ a0 a1 a2 a3 k, LeO (spec_l05After.f k a0 a1 a2 a3) (spec_l05After.f (k + 1) a0 a1 a2 a3) := by
 intro a0 a1 a2 a3 k
 have ih0 := spec_l05After.mono_l k
 unfold spec_l05After.f
 repeat' first
   | (with_reducible exact ih0 _ _ _ _ _ _)
   | (with_reducible exact spec_l05Code.mono _ _ _ _)
   | (with_reducible exact spec_l05Run.mono _ _ _ _ _)
   | (with_reducible exact LeO.refl _)
   | (with_reducible exact LeO.none _)
   | (with_reducible refine LeO.ite ?_ ?_)
   | (with_reducible refine LeO.bind ?_ (fun _ => ?_))
   | exact ih0 _ _ _ _ _ _
   | exact spec_l05Code.mono _ _ _ _
   | exact spec_l05Run.mono _ _ _ _ _
   | exact LeO.none _
   | refine LeO.ite ?_ ?_
   | refine LeO.bind ?_ (fun _ => ?_)
theorem spec_l05After.calls (k : Nat) (A0_0 : Option Addr) (c0_0 : Nat) (l0_0 : List (List Int)) (A0_1 : Option Addr) (c0_1 : Nat) (l0_1 : List Int) (A1 : Option Addr) (c1 : Nat) (l1 : List Int) (a2 : Int) (r1 : List (List Int)) (r2 : Int) (r3 : List Int) (r4 : Int) (w : World) (hr0_0 : Kd.C (Kd.slice 2 (Kd.int .i64)) w A0_0 l0_0.length l0_0) (hc0_0 : l0_0.length ≤ c0_0) (hr0_1 : Kd.C (Kd.int .i64) w A0_1 l0_1.length l0_1) (hc0_1 : l0_1.length ≤ c0_1) (hr1 : Kd.C (Kd.int .i64) w A1 l1.length l1) (hc1 : l1.length ≤ c1) (h : spec_l05After.f k l0_0 l0_1 l1 a2 = some (r1, r2, r3, r4)) :
  Calls Try.prog 88 #[.agg #[.slice A0_0 l0_0.length c0_0, .slice A0_1 l0_1.length c0_1], .slice A1 l1.length c1, .int .i64 a2] w fun e w' => ∃ v0_ v2_ : Value, e = .returned (.tuple #[.agg #[v0_, .int .i64 r2, v2_], .int .i64 r4]) ∧ Kd.S (Kd.slice 2 (Kd.int .i64)) 23 w' w.heap.size (fun k_ => some k_ ≠ (v2_ : Value).ownBlock) v0_ r1 ∧ Kd.R (Kd.int .i64) 2 w' w.heap.size (fun _ => True) v2_ r3 ∧ Below w.heap.size w w' := by
 have hu29 := Try.underlying29
 have hu101 := Try.underlying101
 have HR0_0 := Aside0.mk hr0_0
 have HC0_0 := Aside0.mk hc0_0
 clear hr0_0 hc0_0
 have HR0_1 := Aside0.mk hr0_1
 have HC0_1 := Aside0.mk hc0_1
 clear hr0_1 hc0_1
 have HR1 := Aside0.mk hr1
 have HC1 := Aside0.mk hc1
 clear hr1 hc1
 have HB := Aside0.mk (Below.refl w.heap.size w)
 have H : ((spec_l05Code.f k l0_0 l0_1 l1).bind fun t1040 => (if t1040 = 0 then (if a2 < 0 then (some (([] : List (List Int)), 0, ([] : List Int), 2)) else ((spec_l05Run.f k l0_0 l0_1 l1 201).bind fun bt1041 => (if (bt1041.2.2.2.1.length : Int) ≤ 200 then (spec_l05After.j0 k l1 a2 bt1041.2.2.2.1 (decide (a2 > (bt1041.2.2.2.1.length : Int))) l0_0 l0_1) else (spec_l05After.j0 k l1 a2 bt1041.2.2.2.1 false l0_0 l0_1)))) else (some (([] : List (List Int)), 0, ([] : List Int), t1040)))) = some (r1, r2, r3, r4) := h
 clear h
 replace H := Option.bind_eq_some_iff.mp H
 obtain ⟨t1040, A40, H⟩ := H
 replace H : (if t1040 = 0 then (if a2 < 0 then (some (([] : List (List Int)), 0, ([] : List Int), 2)) else ((spec_l05Run.f k l0_0 l0_1 l1 201).bind fun bt1041 => (if (bt1041.2.2.2.1.length : Int) ≤ 200 then (spec_l05After.j0 k l1 a2 bt1041.2.2.2.1 (decide (a2 > (bt1041.2.2.2.1.length : Int))) l0_0 l0_1) else (spec_l05After.j0 k l1 a2 bt1041.2.2.2.1 false l0_0 l0_1)))) else (some (([] : List (List Int)), 0, ([] : List Int), t1040))) = some (r1, r2, r3, r4) := H
 have A4 := Aside0.mk A40
 clear A40
 by_cases c5 : t1040 = 0
 ·rw [if_pos c5] at H
  have c5b0 : (t1040 == 0) = true := beq_iff_eq.mpr c5
  have c5b1 : (t1040 != 0) = false := bne_eq_false_iff_eq.mpr c5
  clear c5
  by_cases c6 : a2 < 0
  ·rw [if_pos c6] at H
   have c6b0 : decide (a2 < 0) = true := decide_eq_true c6
   clear c6
   simp only [Option.some.injEq, Prod.mk.injEq] at H
   obtain ⟨rfl, rfl, rfl, rfl⟩ := H
   go_enter Try.func88, Try.ntmps88
   go_wp2_with (first | ((with_reducible refine gate_dst (N := 3) rfl ?_); (try (refine gate_guard (by rfl) ?_; dsimp only)); refine box_event ?hg (N := 3) ?hd (cs := #[.slice A0_0 l0_0.length c0_0, .slice A0_1 l0_1.length c0_1]) (t := 29) ?hr ?_; (case hd => rfl); (case hg => rfl); (case hr => first | (go_simp; done) | (go_simp; rfl)); intro gb1038 hg w7 hbox hb; have n0_ := Aside0.mk (bs_ hb); have n1_ := Aside0.mk (hbox); have n2_ := Aside0.mk ((by rw [hg]; exact bz_ : w.heap.size ≤ gb1038)); have n3_ := Aside0.mk ((by rw [hg]; exact bz_ : w.heap.size ≤ gb1038)); clear HB; have HB := n0_; have BK1038 := n1_; have GW1038 := n2_; have GE1038 := n3_; clear n0_ n1_ n2_ n3_; clear hb hbox hg) | ((with_reducible refine gate_dst (N := 6) rfl ?_); (try (refine gate_guard (by rfl) ?_; dsimp only)); refine box_event ?hg (N := 6) ?hd (cs := #[.slice none 0 0, .int .i64 0, .slice none 0 0]) (t := 101) ?hr ?_; (case hd => rfl); (case hg => rfl); (case hr => first | (go_simp; done) | (go_simp; rfl)); intro gb1039 hg w8 hbox hb; have n0_ := Aside0.mk (bb_ BK1038.out hb); have n1_ := Aside0.mk (bs_ hb); have n2_ := Aside0.mk (hbox); have n3_ := Aside0.mk ((by rw [hg]; exact bz_ : w.heap.size ≤ gb1039)); have n4_ := Aside0.mk ((by rw [hg]; exact bz_ : w.heap.size ≤ gb1039)); have n5_ := Aside0.mk ((by rw [hg]; exact lt_ BK1038.out : gb1038 ≠ gb1039)); have n6_ := Aside0.mk ((by rw [hg]; exact gt_ BK1038.out : gb1039 ≠ gb1038)); clear BK1038; clear HB; have BK1038 := n0_; have HB := n1_; have BK1039 := n2_; have GW1039 := n3_; have GE1039 := n4_; have NB1038_1039 := n5_; have NB1039_1038 := n6_; clear n0_ n1_ n2_ n3_ n4_ n5_ n6_; clear hb hbox hg; have hnb9 := NB1038_1039.out; have hnc9 := NB1039_1038.out; have hcz10_0 : w8.cell? ⟨gb1038, 0, none⟩ = some (.slice A0_0 l0_0.length c0_0) := (blk_cell BK1038.out 0).trans rfl; have hcz10_1 : w8.cell? ⟨gb1038, 1, none⟩ = some (.slice A0_1 l0_1.length c0_1) := (blk_cell BK1038.out 1).trans rfl; have hfz10_0 := blk_frozen BK1038.out 0; have hfz10_1 := blk_frozen BK1038.out 1) | ((with_reducible refine gate_callee (f := 85) rfl ?_); refine gL_ 19 Try.func85 #[.agg #[.slice A0_0 l0_0.length c0_0, .slice A0_1 l0_1.length c0_1], .slice A1 l1.length c1] ?_; (with_reducible refine (spec_l05Code.calls k _ _ l0_0 _ _ l0_1 _ _ l1 t1040 _ ?side1 ?side2 ?side3 ?side4 ?side5 ?side6 A4.out).mono ?_); (case side1 => exact cb_ HR0_0.out HB.out); (case side2 => exact HC0_0.out); (case side3 => exact cb_ HR0_1.out HB.out); (case side4 => exact HC0_1.out); (case side5 => exact cb_ HR1.out HB.out); (case side6 => exact HC1.out); rintro e w11 ⟨rfl, hb⟩; refine ⟨_, rfl, ?_⟩; have n0_ := Aside0.mk (bb_ BK1038.out hb); have n1_ := Aside0.mk (bb_ BK1039.out hb); have n2_ := Aside0.mk (bs_ hb); clear BK1038; clear BK1039; clear HB; have BK1038 := n0_; have BK1039 := n1_; have HB := n2_; clear n0_ n1_ n2_; (try clear hb); (try clear hb2); (try clear hk); (try clear hi); have hcz12_0 : w11.cell? ⟨gb1039, 0, none⟩ = some (.slice none 0 0) := (blk_cell BK1039.out 0).trans rfl; have hcz12_1 : w11.cell? ⟨gb1039, 1, none⟩ = some (.int .i64 0) := (blk_cell BK1039.out 1).trans rfl; have hcz12_2 : w11.cell? ⟨gb1039, 2, none⟩ = some (.slice none 0 0) := (blk_cell BK1039.out 2).trans rfl; have hfz12_0 := blk_frozen BK1039.out 0; have hfz12_1 := blk_frozen BK1039.out 1; have hfz12_2 := blk_frozen BK1039.out 2))
   refine bodyPost_ret (results_ct rfl _ _ gb1039 101 #[.slice none 0 0, .int .i64 0, .slice none 0 0] (0, 0) _ rfl (by (with_reducible repeat (first | refine blk_drewN ?_ _ | refine blk_drew ?_ | refine blk_alloc ?_ _)); refine blk_put (cs := #[.slice none 0 0, .int .i64 0, .slice none 0 0]) ?_ 2 _ rfl; (with_reducible repeat (first | refine blk_drewN ?_ _ | refine blk_drew ?_ | refine blk_alloc ?_ _)); refine blk_put (cs := #[.slice none 0 0, .int .i64 0, .slice none 0 0]) ?_ 1 _ rfl; (with_reducible repeat (first | refine blk_drewN ?_ _ | refine blk_drew ?_ | refine blk_alloc ?_ _)); refine blk_put (cs := #[.slice none 0 0, .int .i64 0, .slice none 0 0]) ?_ 0 _ rfl; (with_reducible repeat (first | refine blk_drewN ?_ _ | refine blk_drew ?_ | refine blk_alloc ?_ _)); exact BK1039.out) Try.underlying101 rfl (by kernel_rfl)) rfl ?_
   exact ⟨_, _, by first | rfl | (simp [errW_none, errW_some] <;> rfl) | (simp [*, errW_none, errW_some] <;> rfl), by first | exact Kd.S_nil _ _ _ _ _ | exact Kd.N_nil _ _ _ _ _ | exact Kd.V_nil _ _ _ _ _ | exact Kd.Q_nil _ _ _ _ _ | exact Kd.R_nil _ _ _ _ _, by first | exact Kd.R_nil _ _ _ _ _ | exact Kd.N_nil _ _ _ _ _ | exact Kd.V_nil _ _ _ _ _ | exact Kd.Q_nil _ _ _ _ _ | exact Kd.S_nil _ _ _ _ _, hb_⟩
  ·rw [if_neg c6] at H
   have c6b0 : decide (a2 < 0) = false := decide_eq_false c6
   clear c6
   replace H := Option.bind_eq_some_iff.mp H
   obtain ⟨⟨t1041, t1044, t1045, t1048, t1051, t1052⟩, A130, H⟩ := H
   replace H : (if (t1048.length : Int) ≤ 200 then (spec_l05After.j0 k l1 a2 t1048 (decide (a2 > (t1048.length : Int))) l0_0 l0_1) else (spec_l05After.j0 k l1 a2 t1048 false l0_0 l0_1)) = some (r1, r2, r3, r4) := H
   have A13 := Aside0.mk A130
   clear A130
   have HC14 := Aside0.mk H
   clear H
   go_enter Try.func88, Try.ntmps88
   go_upto_region 7 with (first | ((with_reducible refine gate_dst (N := 3) rfl ?_); (try (refine gate_guard (by rfl) ?_; dsimp only)); refine box_event ?hg (N := 3) ?hd (cs := #[.slice A0_0 l0_0.length c0_0, .slice A0_1 l0_1.length c0_1]) (t := 29) ?hr ?_; (case hd => rfl); (case hg => rfl); (case hr => first | (go_simp; done) | (go_simp; rfl)); intro gb1038 hg w15 hbox hb; have n0_ := Aside0.mk (bs_ hb); have n1_ := Aside0.mk (hbox); have n2_ := Aside0.mk ((by rw [hg]; exact bz_ : w.heap.size ≤ gb1038)); have n3_ := Aside0.mk ((by rw [hg]; exact bz_ : w.heap.size ≤ gb1038)); clear HB; have HB := n0_; have BK1038 := n1_; have GW1038 := n2_; have GE1038 := n3_; clear n0_ n1_ n2_ n3_; clear hb hbox hg) | ((with_reducible refine gate_dst (N := 6) rfl ?_); (try (refine gate_guard (by rfl) ?_; dsimp only)); refine box_event ?hg (N := 6) ?hd (cs := #[.slice none 0 0, .int .i64 0, .slice none 0 0]) (t := 101) ?hr ?_; (case hd => rfl); (case hg => rfl); (case hr => first | (go_simp; done) | (go_simp; rfl)); intro gb1039 hg w16 hbox hb; have n0_ := Aside0.mk (bb_ BK1038.out hb); have n1_ := Aside0.mk (bs_ hb); have n2_ := Aside0.mk (hbox); have n3_ := Aside0.mk ((by rw [hg]; exact bz_ : w.heap.size ≤ gb1039)); have n4_ := Aside0.mk ((by rw [hg]; exact bz_ : w.heap.size ≤ gb1039)); have n5_ := Aside0.mk ((by rw [hg]; exact lt_ BK1038.out : gb1038 ≠ gb1039)); have n6_ := Aside0.mk ((by rw [hg]; exact gt_ BK1038.out : gb1039 ≠ gb1038)); clear BK1038; clear HB; have BK1038 := n0_; have HB := n1_; have BK1039 := n2_; have GW1039 := n3_; have GE1039 := n4_; have NB1038_1039 := n5_; have NB1039_1038 := n6_; clear n0_ n1_ n2_ n3_ n4_ n5_ n6_; clear hb hbox hg; have hnb17 := NB1038_1039.out; have hnc17 := NB1039_1038.out; have hcz18_0 : w16.cell? ⟨gb1038, 0, none⟩ = some (.slice A0_0 l0_0.length c0_0) := (blk_cell BK1038.out 0).trans rfl; have hcz18_1 : w16.cell? ⟨gb1038, 1, none⟩ = some (.slice A0_1 l0_1.length c0_1) := (blk_cell BK1038.out 1).trans rfl; have hfz18_0 := blk_frozen BK1038.out 0; have hfz18_1 := blk_frozen BK1038.out 1) | ((with_reducible refine gate_callee (f := 85) rfl ?_); refine gL_ 19 Try.func85 #[.agg #[.slice A0_0 l0_0.length c0_0, .slice A0_1 l0_1.length c0_1], .slice A1 l1.length c1] ?_; (with_reducible refine (spec_l05Code.calls k _ _ l0_0 _ _ l0_1 _ _ l1 t1040 _ ?side1 ?side2 ?side3 ?side4 ?side5 ?side6 A4.out).mono ?_); (case side1 => exact cb_ HR0_0.out HB.out); (case side2 => exact HC0_0.out); (case side3 => exact cb_ HR0_1.out HB.out); (case side4 => exact HC0_1.out); (case side5 => exact cb_ HR1.out HB.out); (case side6 => exact HC1.out); rintro e w19 ⟨rfl, hb⟩; refine ⟨_, rfl, ?_⟩; have n0_ := Aside0.mk (bb_ BK1038.out hb); have n1_ := Aside0.mk (bb_ BK1039.out hb); have n2_ := Aside0.mk (bs_ hb); clear BK1038; clear BK1039; clear HB; have BK1038 := n0_; have BK1039 := n1_; have HB := n2_; clear n0_ n1_ n2_; (try clear hb); (try clear hb2); (try clear hk); (try clear hi); have hcz20_0 : w19.cell? ⟨gb1038, 0, none⟩ = some (.slice A0_0 l0_0.length c0_0) := (blk_cell BK1038.out 0).trans rfl; have hcz20_1 : w19.cell? ⟨gb1038, 1, none⟩ = some (.slice A0_1 l0_1.length c0_1) := (blk_cell BK1038.out 1).trans rfl; have hfz20_0 := blk_frozen BK1038.out 0; have hfz20_1 := blk_frozen BK1038.out 1) | ((with_reducible refine gate_callee (f := 86) rfl ?_); refine gL_ 30 Try.func86 #[.agg #[.slice A0_0 l0_0.length c0_0, .slice A0_1 l0_1.length c0_1], .slice A1 l1.length c1, .int .i64 201] ?_; (with_reducible refine (spec_l05Run.calls k _ _ l0_0 _ _ l0_1 _ _ l1 201 t1041 t1044 t1045 t1048 t1051 t1052 _ ?side1 ?side2 ?side3 ?side4 ?side5 ?side6 A13.out).mono ?_); (case side1 => exact cb_ HR0_0.out HB.out); (case side2 => exact HC0_0.out); (case side3 => exact cb_ HR0_1.out HB.out); (case side4 => exact HC0_1.out); (case side5 => exact cb_ HR1.out HB.out); (case side6 => exact HC1.out); rintro e w21 ⟨v1042, v1046, v1049, rfl, ho0, ho1, ho2, hb⟩; refine ⟨_, rfl, ?_⟩; have n0_ := Aside0.mk (Kd.S_lower ho0 bz_); have n1_ := Aside0.mk (Kd.R_lower ho1 bz_); have n2_ := Aside0.mk (Kd.S_lower ho2 bz_); have n3_ := Aside0.mk (bb_ BK1038.out hb); have n4_ := Aside0.mk (bb_ BK1039.out hb); have n5_ := Aside0.mk (bs_ hb); clear BK1038; clear BK1039; clear HB; have HO1043 := n0_; have HO1047 := n1_; have HO1050 := n2_; have BK1038 := n3_; have BK1039 := n4_; have HB := n5_; clear n0_ n1_ n2_ n3_ n4_ n5_; (try clear hb); (try clear hb2); (try clear hk); (try clear hi); (try clear ho0); (try clear ho1); (try clear ho2)) | ((with_reducible refine gate_dst (N := 9) rfl ?_); (try (refine gate_guard (by rfl) ?_; dsimp only)); refine box_event ?hg (N := 9) ?hd (cs := #[.slice none 0 0, .int .i64 0, .slice none 0 0]) (t := 101) ?hr ?_; (case hd => rfl); (case hg => rfl); (case hr => first | (go_simp; done) | (go_simp; rfl)); intro gb1053 hg w22 hbox hb; have n0_ := Aside0.mk (Kd.S_below (so_ HO1043.out) hb); have n1_ := Aside0.mk (rb_ HO1047.out hb); have n2_ := Aside0.mk (Kd.S_below (so_ HO1050.out) hb); have n3_ := Aside0.mk (bb_ BK1038.out hb); have n4_ := Aside0.mk (bb_ BK1039.out hb); have n5_ := Aside0.mk (bs_ hb); have n6_ := Aside0.mk (hbox); have n7_ := Aside0.mk ((by rw [hg]; exact bz_ : w.heap.size ≤ gb1053)); have n8_ := Aside0.mk ((by rw [hg]; exact bz_ : w.heap.size ≤ gb1053)); have n9_ := Aside0.mk ((by rw [hg]; exact lt_ BK1038.out : gb1038 ≠ gb1053)); have n10_ := Aside0.mk ((by rw [hg]; exact gt_ BK1038.out : gb1053 ≠ gb1038)); have n11_ := Aside0.mk ((by rw [hg]; exact lt_ BK1039.out : gb1039 ≠ gb1053)); have n12_ := Aside0.mk ((by rw [hg]; exact gt_ BK1039.out : gb1053 ≠ gb1039)); clear HO1043; clear HO1047; clear HO1050; clear BK1038; clear BK1039; clear HB; have HO1043 := n0_; have HO1047 := n1_; have HO1050 := n2_; have BK1038 := n3_; have BK1039 := n4_; have HB := n5_; have BK1053 := n6_; have GW1053 := n7_; have GE1053 := n8_; have NB1038_1053 := n9_; have NB1053_1038 := n10_; have NB1039_1053 := n11_; have NB1053_1039 := n12_; clear n0_ n1_ n2_ n3_ n4_ n5_ n6_ n7_ n8_ n9_ n10_ n11_ n12_; clear hb hbox hg; obtain ⟨Ao23, co23, eo23⟩ := Kd.S_slice HO1043.out; subst eo23; have hnb24 := NB1053_1038.out; have hnc24 := NB1038_1053.out; have hnb25 := NB1053_1039.out; have hnc25 := NB1039_1053.out; have hcz26_0 : w22.cell? ⟨gb1053, 0, none⟩ = some (.slice none 0 0) := (blk_cell BK1053.out 0).trans rfl; have hcz26_1 : w22.cell? ⟨gb1053, 1, none⟩ = some (.int .i64 0) := (blk_cell BK1053.out 1).trans rfl; have hcz26_2 : w22.cell? ⟨gb1053, 2, none⟩ = some (.slice none 0 0) := (blk_cell BK1053.out 2).trans rfl; have hfz26_0 := blk_frozen BK1053.out 0; have hfz26_1 := blk_frozen BK1053.out 1; have hfz26_2 := blk_frozen BK1053.out 2; obtain ⟨Ao27, co27, eo27⟩ := Kd.R_slice HO1047.out; subst eo27))
   (try simp only [Act.put, List.setIfInBounds_toArray, List.set_cons_zero, List.set_cons_succ])
   go_cut [35] (fun v35 wc => ∃ (kq : Nat) (x35_13 : Bool), v35 = .bool x35_13 ∧ Aside0 (spec_l05After.j0 kq l1 a2 t1048 x35_13 l0_0 l0_1 = some (r1, r2, r3, r4)) ∧ Aside0 (kq ≤ k) ∧ Aside0 (Kd.S (Kd.slice 2 (Kd.int .i64)) 23 wc w.heap.size (fun k_ => some k_ ≠ ((.slice Ao23 t1041.length co23) : Value).ownBlock ∧ some k_ ≠ ((.slice Ao27 t1045.length co27) : Value).ownBlock) v1049 t1048) ∧ Aside0 (Kd.S (Kd.slice 2 (Kd.int .i64)) 23 wc w.heap.size (fun k_ => some k_ ≠ (v1049 : Value).ownBlock ∧ some k_ ≠ ((.slice Ao27 t1045.length co27) : Value).ownBlock) (.slice Ao23 t1041.length co23) t1041) ∧ Aside0 (Kd.R (Kd.int .i64) 2 wc w.heap.size (fun _ => True) (.slice Ao27 t1045.length co27) t1045) ∧ Aside0 (wc.heap[gb1038]? = some (.cells #[(.slice A0_0 l0_0.length c0_0), (.slice A0_1 l0_1.length c0_1)] 29 (0, 0))) ∧ Aside0 (wc.heap[gb1039]? = some (.cells #[(.slice none 0 0), .int .i64 0, (.slice none 0 0)] 101 (0, 0))) ∧ Aside0 (wc.heap[gb1053]? = some (.cells #[(.slice Ao23 t1041.length co23), .int .i64 t1044, (.slice Ao27 t1045.length co27)] 101 (0, 0))) ∧ Aside0 (Below w.heap.size w wc))
   case first =>
    have H := HC14.out
    clear HC14
    by_cases c28 : (t1048.length : Int) ≤ 200
    ·rw [if_pos c28] at H
     have c28b0 : decide ((t1048.length : Int) ≤ 200) = true := decide_eq_true c28
     have c28b1 : decide (t1048.length ≤ 200) = true := decide_eq_true (by omega)
     clear c28
     (first | rw [c28b0] | (simp only [i64_w, i32_w]; rw [c28b0]) | skip)
     have H' := Aside0.mk H
     clear H
     obtain ⟨Ao29, co29, eo29⟩ := Kd.S_slice HO1050.out
     subst eo29
     go_wp2
     go_meet
     case rel => exact ⟨_, (decide (a2 > (t1048.length : Int))), rs_, H', ⟨by first | omega | exact Nat.le_refl _⟩, ⟨by (with_reducible repeat (first | apply Kd.S_alloc | apply Kd.S_drewN | apply Kd.S_drew)); exact Kd.S_mono (Kd.S_far (p := ⟨gb1053, 2, none⟩) (Kd.S_far (p := ⟨gb1053, 1, none⟩) (Kd.S_far (p := ⟨gb1053, 0, none⟩) (Kd.S_types HO1050.out BK1053.out (by decide)) (fun _ hk => hk.2) (.slice Ao23 t1041.length co23)) (fun _ hk => hk.2) (.int .i64 t1044)) (fun _ hk => hk.2) (.slice Ao27 t1045.length co27)) (fun _ hk => ⟨hk.1.1, hk.1.2⟩)⟩, ⟨by (with_reducible repeat (first | apply Kd.S_alloc | apply Kd.S_drewN | apply Kd.S_drew)); exact Kd.S_mono (Kd.S_far (p := ⟨gb1053, 2, none⟩) (Kd.S_far (p := ⟨gb1053, 1, none⟩) (Kd.S_far (p := ⟨gb1053, 0, none⟩) (Kd.S_types HO1043.out BK1053.out (by decide)) (fun _ hk => hk.2) (.slice Ao23 t1041.length co23)) (fun _ hk => hk.2) (.int .i64 t1044)) (fun _ hk => hk.2) (.slice Ao27 t1045.length co27)) (fun _ hk => ⟨hk.1.2, hk.1.1⟩)⟩, ⟨by (with_reducible repeat (first | apply Kd.R_alloc | apply Kd.R_drewN | apply Kd.R_drew)); exact Kd.R_mono (Kd.R_far (p := ⟨gb1053, 2, none⟩) (Kd.R_far (p := ⟨gb1053, 1, none⟩) (Kd.R_far (p := ⟨gb1053, 0, none⟩) (Kd.R_types HO1047.out BK1053.out (by decide)) (fun _ hk => hk.2) (.slice Ao23 t1041.length co23)) (fun _ hk => hk.2) (.int .i64 t1044)) (fun _ hk => hk.2) (.slice Ao27 t1045.length co27)) (fun _ hk => trivial)⟩, ⟨by (with_reducible repeat (first | refine blk_drewN ?_ _ | refine blk_drew ?_ | refine blk_alloc ?_ _)); refine blk_far ?_ NB1038_1053.out _; (with_reducible repeat (first | refine blk_drewN ?_ _ | refine blk_drew ?_ | refine blk_alloc ?_ _)); refine blk_far ?_ NB1038_1053.out _; (with_reducible repeat (first | refine blk_drewN ?_ _ | refine blk_drew ?_ | refine blk_alloc ?_ _)); refine blk_far ?_ NB1038_1053.out _; (with_reducible repeat (first | refine blk_drewN ?_ _ | refine blk_drew ?_ | refine blk_alloc ?_ _)); exact BK1038.out⟩, ⟨by (with_reducible repeat (first | refine blk_drewN ?_ _ | refine blk_drew ?_ | refine blk_alloc ?_ _)); refine blk_far ?_ NB1039_1053.out _; (with_reducible repeat (first | refine blk_drewN ?_ _ | refine blk_drew ?_ | refine blk_alloc ?_ _)); refine blk_far ?_ NB1039_1053.out _; (with_reducible repeat (first | refine blk_drewN ?_ _ | refine blk_drew ?_ | refine blk_alloc ?_ _)); refine blk_far ?_ NB1039_1053.out _; (with_reducible repeat (first | refine blk_drewN ?_ _ | refine blk_drew ?_ | refine blk_alloc ?_ _)); exact BK1039.out⟩, ⟨by (with_reducible repeat (first | refine blk_drewN ?_ _ | refine blk_drew ?_ | refine blk_alloc ?_ _)); refine blk_put (cs := #[.slice Ao23 t1041.length co23, .int .i64 t1044, .slice none 0 0]) ?_ 2 _ rfl; (with_reducible repeat (first | refine blk_drewN ?_ _ | refine blk_drew ?_ | refine blk_alloc ?_ _)); refine blk_put (cs := #[.slice Ao23 t1041.length co23, .int .i64 0, .slice none 0 0]) ?_ 1 _ rfl; (with_reducible repeat (first | refine blk_drewN ?_ _ | refine blk_drew ?_ | refine blk_alloc ?_ _)); refine blk_put (cs := #[.slice none 0 0, .int .i64 0, .slice none 0 0]) ?_ 0 _ rfl; (with_reducible repeat (first | refine blk_drewN ?_ _ | refine blk_drew ?_ | refine blk_alloc ?_ _)); exact BK1053.out⟩, ⟨hb_⟩⟩
    ·rw [if_neg c28] at H
     have c28b0 : decide ((t1048.length : Int) ≤ 200) = false := decide_eq_false c28
     have c28b1 : decide (t1048.length ≤ 200) = false := decide_eq_false (by omega)
     clear c28
     (first | rw [c28b0] | (simp only [i64_w, i32_w]; rw [c28b0]) | skip)
     have H' := Aside0.mk H
     clear H
     obtain ⟨Ao30, co30, eo30⟩ := Kd.S_slice HO1050.out
     subst eo30
     go_wp2
     go_meet
     case rel => exact ⟨_, (false), rs_, H', ⟨by first | omega | exact Nat.le_refl _⟩, ⟨by (with_reducible repeat (first | apply Kd.S_alloc | apply Kd.S_drewN | apply Kd.S_drew)); exact Kd.S_mono (Kd.S_far (p := ⟨gb1053, 2, none⟩) (Kd.S_far (p := ⟨gb1053, 1, none⟩) (Kd.S_far (p := ⟨gb1053, 0, none⟩) (Kd.S_types HO1050.out BK1053.out (by decide)) (fun _ hk => hk.2) (.slice Ao23 t1041.length co23)) (fun _ hk => hk.2) (.int .i64 t1044)) (fun _ hk => hk.2) (.slice Ao27 t1045.length co27)) (fun _ hk => ⟨hk.1.1, hk.1.2⟩)⟩, ⟨by (with_reducible repeat (first | apply Kd.S_alloc | apply Kd.S_drewN | apply Kd.S_drew)); exact Kd.S_mono (Kd.S_far (p := ⟨gb1053, 2, none⟩) (Kd.S_far (p := ⟨gb1053, 1, none⟩) (Kd.S_far (p := ⟨gb1053, 0, none⟩) (Kd.S_types HO1043.out BK1053.out (by decide)) (fun _ hk => hk.2) (.slice Ao23 t1041.length co23)) (fun _ hk => hk.2) (.int .i64 t1044)) (fun _ hk => hk.2) (.slice Ao27 t1045.length co27)) (fun _ hk => ⟨hk.1.2, hk.1.1⟩)⟩, ⟨by (with_reducible repeat (first | apply Kd.R_alloc | apply Kd.R_drewN | apply Kd.R_drew)); exact Kd.R_mono (Kd.R_far (p := ⟨gb1053, 2, none⟩) (Kd.R_far (p := ⟨gb1053, 1, none⟩) (Kd.R_far (p := ⟨gb1053, 0, none⟩) (Kd.R_types HO1047.out BK1053.out (by decide)) (fun _ hk => hk.2) (.slice Ao23 t1041.length co23)) (fun _ hk => hk.2) (.int .i64 t1044)) (fun _ hk => hk.2) (.slice Ao27 t1045.length co27)) (fun _ hk => trivial)⟩, ⟨by (with_reducible repeat (first | refine blk_drewN ?_ _ | refine blk_drew ?_ | refine blk_alloc ?_ _)); refine blk_far ?_ NB1038_1053.out _; (with_reducible repeat (first | refine blk_drewN ?_ _ | refine blk_drew ?_ | refine blk_alloc ?_ _)); refine blk_far ?_ NB1038_1053.out _; (with_reducible repeat (first | refine blk_drewN ?_ _ | refine blk_drew ?_ | refine blk_alloc ?_ _)); refine blk_far ?_ NB1038_1053.out _; (with_reducible repeat (first | refine blk_drewN ?_ _ | refine blk_drew ?_ | refine blk_alloc ?_ _)); exact BK1038.out⟩, ⟨by (with_reducible repeat (first | refine blk_drewN ?_ _ | refine blk_drew ?_ | refine blk_alloc ?_ _)); refine blk_far ?_ NB1039_1053.out _; (with_reducible repeat (first | refine blk_drewN ?_ _ | refine blk_drew ?_ | refine blk_alloc ?_ _)); refine blk_far ?_ NB1039_1053.out _; (with_reducible repeat (first | refine blk_drewN ?_ _ | refine blk_drew ?_ | refine blk_alloc ?_ _)); refine blk_far ?_ NB1039_1053.out _; (with_reducible repeat (first | refine blk_drewN ?_ _ | refine blk_drew ?_ | refine blk_alloc ?_ _)); exact BK1039.out⟩, ⟨by (with_reducible repeat (first | refine blk_drewN ?_ _ | refine blk_drew ?_ | refine blk_alloc ?_ _)); refine blk_put (cs := #[.slice Ao23 t1041.length co23, .int .i64 t1044, .slice none 0 0]) ?_ 2 _ rfl; (with_reducible repeat (first | refine blk_drewN ?_ _ | refine blk_drew ?_ | refine blk_alloc ?_ _)); refine blk_put (cs := #[.slice Ao23 t1041.length co23, .int .i64 0, .slice none 0 0]) ?_ 1 _ rfl; (with_reducible repeat (first | refine blk_drewN ?_ _ | refine blk_drew ?_ | refine blk_alloc ?_ _)); refine blk_put (cs := #[.slice none 0 0, .int .i64 0, .slice none 0 0]) ?_ 0 _ rfl; (with_reducible repeat (first | refine blk_drewN ?_ _ | refine blk_drew ?_ | refine blk_alloc ?_ _)); exact BK1053.out⟩, ⟨hb_⟩⟩
   case rest =>
    clear HC14
    try clear c1
    try clear c2
    try clear p2
    try clear c5
    try clear c5b0
    try clear c5b1
    try clear c6
    try clear c6b0
    try clear c8
    try clear c9
    try clear c17
    try clear c24
    try clear c25
    try clear c28
    try clear c28b0
    try clear c28b1
    try clear hcz10_0
    try clear hcz10_1
    try clear hcz12_0
    try clear hcz12_1
    try clear hcz12_2
    try clear hcz18_0
    try clear hcz18_1
    try clear hcz20_0
    try clear hcz20_1
    try clear hcz26_0
    try clear hcz26_1
    try clear hcz26_2
    try clear hfz10_0
    try clear hfz10_1
    try clear hfz12_0
    try clear hfz12_1
    try clear hfz12_2
    try clear hfz18_0
    try clear hfz18_1
    try clear hfz20_0
    try clear hfz20_1
    try clear hfz26_0
    try clear hfz26_1
    try clear hfz26_2
    obtain ⟨kq, x35_13, rfl, HA, HJ13, HO_10, HO_1054000, HO_1054002, BK1038, BK1039, BK1053, HB⟩ := hcut
    cases kq with
    | zero => exact absurd HA.out (by simp [spec_l05After.j0])
    | succ kj13 =>
     have H := HA.out
     clear HA
     simp only [spec_l05After.j0] at H
     by_cases c31 : x35_13 = true
     ·subst c31
      have H1 : (some (([] : List (List Int)), 0, ([] : List Int), 2)) = some (r1, r2, r3, r4) := by rw [if_pos rfl] at H; exact H
      clear H
      have H := H1
      clear H1
      simp only [Option.some.injEq, Prod.mk.injEq] at H
      obtain ⟨rfl, rfl, rfl, rfl⟩ := H
      have hnb32 := NB1039_1038.out
      have hnc32 := NB1038_1039.out
      have hnb33 := NB1039_1053.out
      have hnc33 := NB1053_1039.out
      have hcz34_0 : wc.cell? ⟨gb1039, 0, none⟩ = some (.slice none 0 0) := (blk_cell BK1039.out 0).trans rfl
      have hcz34_1 : wc.cell? ⟨gb1039, 1, none⟩ = some (.int .i64 0) := (blk_cell BK1039.out 1).trans rfl
      have hcz34_2 : wc.cell? ⟨gb1039, 2, none⟩ = some (.slice none 0 0) := (blk_cell BK1039.out 2).trans rfl
      have hfz34_0 := blk_frozen BK1039.out 0
      have hfz34_1 := blk_frozen BK1039.out 1
      have hfz34_2 := blk_frozen BK1039.out 2
      go_wp2
      refine bodyPost_ret (results_ct rfl _ _ gb1039 101 #[.slice none 0 0, .int .i64 0, .slice none 0 0] (0, 0) _ rfl (by (with_reducible repeat (first | refine blk_drewN ?_ _ | refine blk_drew ?_ | refine blk_alloc ?_ _)); refine blk_put (cs := #[.slice none 0 0, .int .i64 0, .slice none 0 0]) ?_ 2 _ rfl; (with_reducible repeat (first | refine blk_drewN ?_ _ | refine blk_drew ?_ | refine blk_alloc ?_ _)); refine blk_put (cs := #[.slice none 0 0, .int .i64 0, .slice none 0 0]) ?_ 1 _ rfl; (with_reducible repeat (first | refine blk_drewN ?_ _ | refine blk_drew ?_ | refine blk_alloc ?_ _)); refine blk_put (cs := #[.slice none 0 0, .int .i64 0, .slice none 0 0]) ?_ 0 _ rfl; (with_reducible repeat (first | refine blk_drewN ?_ _ | refine blk_drew ?_ | refine blk_alloc ?_ _)); exact BK1039.out) Try.underlying101 rfl (by kernel_rfl)) rfl ?_
      exact ⟨_, _, by first | rfl | (simp [errW_none, errW_some] <;> rfl) | (simp [*, errW_none, errW_some] <;> rfl), by first | exact Kd.S_nil _ _ _ _ _ | exact Kd.N_nil _ _ _ _ _ | exact Kd.V_nil _ _ _ _ _ | exact Kd.Q_nil _ _ _ _ _ | exact Kd.R_nil _ _ _ _ _, by first | exact Kd.R_nil _ _ _ _ _ | exact Kd.N_nil _ _ _ _ _ | exact Kd.V_nil _ _ _ _ _ | exact Kd.Q_nil _ _ _ _ _ | exact Kd.S_nil _ _ _ _ _, hb_⟩
     ·replace c31 := Bool.eq_false_iff.mpr c31
      subst c31
      have H1 : (if (t1048.length : Int) > 200 then (some (([] : List (List Int)), 0, ([] : List Int), 3)) else ((spec_l05Run.f kj13 l0_0 l0_1 l1 a2).bind fun bt1054 => (some (bt1054.1, bt1054.2.1, bt1054.2.2.1, 0)))) = some (r1, r2, r3, r4) := by rw [if_neg (show ¬ (false = true) by decide)] at H; exact H
      clear H
      have H := H1
      clear H1
      by_cases c35 : (t1048.length : Int) > 200
      ·rw [if_pos c35] at H
       have c35b0 : decide (200 < (t1048.length : Int)) = true := decide_eq_true c35
       have c35b1 : decide (200 < t1048.length) = true := decide_eq_true (by omega)
       clear c35
       simp only [Option.some.injEq, Prod.mk.injEq] at H
       obtain ⟨rfl, rfl, rfl, rfl⟩ := H
       obtain ⟨Ao36, co36, eo36⟩ := Kd.S_slice HO_10.out
       subst eo36
       have hnb37 := NB1039_1038.out
       have hnc37 := NB1038_1039.out
       have hnb38 := NB1039_1053.out
       have hnc38 := NB1053_1039.out
       have hcz39_0 : wc.cell? ⟨gb1039, 0, none⟩ = some (.slice none 0 0) := (blk_cell BK1039.out 0).trans rfl
       have hcz39_1 : wc.cell? ⟨gb1039, 1, none⟩ = some (.int .i64 0) := (blk_cell BK1039.out 1).trans rfl
       have hcz39_2 : wc.cell? ⟨gb1039, 2, none⟩ = some (.slice none 0 0) := (blk_cell BK1039.out 2).trans rfl
       have hfz39_0 := blk_frozen BK1039.out 0
       have hfz39_1 := blk_frozen BK1039.out 1
       have hfz39_2 := blk_frozen BK1039.out 2
       go_wp2
       refine bodyPost_ret (results_ct rfl _ _ gb1039 101 #[.slice none 0 0, .int .i64 0, .slice none 0 0] (0, 0) _ rfl (by (with_reducible repeat (first | refine blk_drewN ?_ _ | refine blk_drew ?_ | refine blk_alloc ?_ _)); refine blk_put (cs := #[.slice none 0 0, .int .i64 0, .slice none 0 0]) ?_ 2 _ rfl; (with_reducible repeat (first | refine blk_drewN ?_ _ | refine blk_drew ?_ | refine blk_alloc ?_ _)); refine blk_put (cs := #[.slice none 0 0, .int .i64 0, .slice none 0 0]) ?_ 1 _ rfl; (with_reducible repeat (first | refine blk_drewN ?_ _ | refine blk_drew ?_ | refine blk_alloc ?_ _)); refine blk_put (cs := #[.slice none 0 0, .int .i64 0, .slice none 0 0]) ?_ 0 _ rfl; (with_reducible repeat (first | refine blk_drewN ?_ _ | refine blk_drew ?_ | refine blk_alloc ?_ _)); exact BK1039.out) Try.underlying101 rfl (by kernel_rfl)) rfl ?_
       exact ⟨_, _, by first | rfl | (simp [errW_none, errW_some] <;> rfl) | (simp [*, errW_none, errW_some] <;> rfl), by first | exact Kd.S_nil _ _ _ _ _ | exact Kd.N_nil _ _ _ _ _ | exact Kd.V_nil _ _ _ _ _ | exact Kd.Q_nil _ _ _ _ _ | exact Kd.R_nil _ _ _ _ _, by first | exact Kd.R_nil _ _ _ _ _ | exact Kd.N_nil _ _ _ _ _ | exact Kd.V_nil _ _ _ _ _ | exact Kd.Q_nil _ _ _ _ _ | exact Kd.S_nil _ _ _ _ _, hb_⟩
      ·rw [if_neg c35] at H
       have c35b0 : decide (200 < (t1048.length : Int)) = false := decide_eq_false c35
       have c35b1 : decide (200 < t1048.length) = false := decide_eq_false (by omega)
       clear c35
       replace H := Option.bind_eq_some_iff.mp H
       obtain ⟨⟨t1054, t1057, t1058, t1061, t1064, t1065⟩, A400, H⟩ := H
       replace H : (some (t1054, t1057, t1058, 0)) = some (r1, r2, r3, r4) := H
       have A40 := Aside0.mk A400
       clear A400
       simp only [Option.some.injEq, Prod.mk.injEq] at H
       obtain ⟨rfl, rfl, rfl, rfl⟩ := H
       obtain ⟨Ao41, co41, eo41⟩ := Kd.S_slice HO_10.out
       subst eo41
       have hnb42 := NB1038_1039.out
       have hnc42 := NB1039_1038.out
       have hnb43 := NB1038_1053.out
       have hnc43 := NB1053_1038.out
       have hcz44_0 : wc.cell? ⟨gb1038, 0, none⟩ = some (.slice A0_0 l0_0.length c0_0) := (blk_cell BK1038.out 0).trans rfl
       have hcz44_1 : wc.cell? ⟨gb1038, 1, none⟩ = some (.slice A0_1 l0_1.length c0_1) := (blk_cell BK1038.out 1).trans rfl
       have hfz44_0 := blk_frozen BK1038.out 0
       have hfz44_1 := blk_frozen BK1038.out 1
       go_wp2_with (first | ((with_reducible refine gate_callee (f := 86) rfl ?_); refine gL_ 55 Try.func86 #[.agg #[.slice A0_0 l0_0.length c0_0, .slice A0_1 l0_1.length c0_1], .slice A1 l1.length c1, .int .i64 a2] ?_; (with_reducible refine (spec_l05Run.calls kj13 _ _ l0_0 _ _ l0_1 _ _ l1 a2 t1054 t1057 t1058 t1061 t1064 t1065 _ ?side1 ?side2 ?side3 ?side4 ?side5 ?side6 A40.out).mono ?_); (case side1 => exact cb_ HR0_0.out HB.out); (case side2 => exact HC0_0.out); (case side3 => exact cb_ HR0_1.out HB.out); (case side4 => exact HC0_1.out); (case side5 => exact cb_ HR1.out HB.out); (case side6 => exact HC1.out); rintro e w45 ⟨v1055, v1059, v1062, rfl, ho0, ho1, ho2, hb⟩; refine ⟨_, rfl, ?_⟩; have n0_ := Aside0.mk (Kd.S_mono (Kd.S_told (Kd.S_told (Kd.S_told (Kd.S_old (so_ HO_10.out) hb) (Kd.S_base ho0)) (Kd.R_base ho1)) (Kd.S_base ho2)) (fun _ h_ => h_.1)); have n1_ := Aside0.mk (Kd.S_mono (Kd.S_told (Kd.S_told (Kd.S_told (Kd.S_old (so_ HO_1054000.out) hb) (Kd.S_base ho0)) (Kd.R_base ho1)) (Kd.S_base ho2)) (fun _ h_ => h_.1)); have n2_ := Aside0.mk (Kd.R_elder' (ro_ HO_1054002.out) (Kd.R_base ho1) hb); have n3_ := Aside0.mk (Kd.S_lower (Kd.S_new' (Kd.S_new' (Kd.S_new' ho0 (Kd.S_lt (so_ HO_10.out))) (Kd.S_lt (so_ HO_1054000.out))) (Kd.R_lt (ro_ HO_1054002.out))) bz_); have n4_ := Aside0.mk (Kd.R_lower (Kd.R_new' ho1 (Kd.R_lt (ro_ HO_1054002.out))) bz_); have n5_ := Aside0.mk (Kd.S_lower (Kd.S_new' (Kd.S_new' (Kd.S_new' ho2 (Kd.S_lt (so_ HO_10.out))) (Kd.S_lt (so_ HO_1054000.out))) (Kd.R_lt (ro_ HO_1054002.out))) bz_); have n6_ := Aside0.mk (bb_ BK1038.out hb); have n7_ := Aside0.mk (bb_ BK1039.out hb); have n8_ := Aside0.mk (bb_ BK1053.out hb); have n9_ := Aside0.mk (bs_ hb); clear HO_10; clear HO_1054000; clear HO_1054002; clear BK1038; clear BK1039; clear BK1053; clear HB; have HO_10 := n0_; have HO_1054000 := n1_; have HO_1054002 := n2_; have HO1056 := n3_; have HO1060 := n4_; have HO1063 := n5_; have BK1038 := n6_; have BK1039 := n7_; have BK1053 := n8_; have HB := n9_; clear n0_ n1_ n2_ n3_ n4_ n5_ n6_ n7_ n8_ n9_; (try clear hb); (try clear hb2); (try clear hk); (try clear hi); (try clear ho0); (try clear ho1); (try clear ho2)) | ((with_reducible refine gate_dst (N := 13) rfl ?_); (try (refine gate_guard (by rfl) ?_; dsimp only)); refine box_event ?hg (N := 13) ?hd (cs := #[.slice none 0 0, .int .i64 0, .slice none 0 0]) (t := 101) ?hr ?_; (case hd => rfl); (case hg => rfl); (case hr => first | (go_simp; done) | (go_simp; rfl)); intro gb1066 hg w46 hbox hb; have n0_ := Aside0.mk (Kd.S_below (so_ HO_10.out) hb); have n1_ := Aside0.mk (Kd.S_below (so_ HO_1054000.out) hb); have n2_ := Aside0.mk (rb_ HO_1054002.out hb); have n3_ := Aside0.mk (Kd.S_below (so_ HO1056.out) hb); have n4_ := Aside0.mk (rb_ HO1060.out hb); have n5_ := Aside0.mk (Kd.S_below (so_ HO1063.out) hb); have n6_ := Aside0.mk (bb_ BK1038.out hb); have n7_ := Aside0.mk (bb_ BK1039.out hb); have n8_ := Aside0.mk (bb_ BK1053.out hb); have n9_ := Aside0.mk (bs_ hb); have n10_ := Aside0.mk (hbox); have n11_ := Aside0.mk ((by rw [hg]; exact bz_ : w.heap.size ≤ gb1066)); have n12_ := Aside0.mk ((by rw [hg]; exact bz_ : w.heap.size ≤ gb1066)); have n13_ := Aside0.mk ((by rw [hg]; exact lt_ BK1038.out : gb1038 ≠ gb1066)); have n14_ := Aside0.mk ((by rw [hg]; exact gt_ BK1038.out : gb1066 ≠ gb1038)); have n15_ := Aside0.mk ((by rw [hg]; exact lt_ BK1039.out : gb1039 ≠ gb1066)); have n16_ := Aside0.mk ((by rw [hg]; exact gt_ BK1039.out : gb1066 ≠ gb1039)); have n17_ := Aside0.mk ((by rw [hg]; exact lt_ BK1053.out : gb1053 ≠ gb1066)); have n18_ := Aside0.mk ((by rw [hg]; exact gt_ BK1053.out : gb1066 ≠ gb1053)); clear HO_10; clear HO_1054000; clear HO_1054002; clear HO1056; clear HO1060; clear HO1063; clear BK1038; clear BK1039; clear BK1053; clear HB; have HO_10 := n0_; have HO_1054000 := n1_; have HO_1054002 := n2_; have HO1056 := n3_; have HO1060 := n4_; have HO1063 := n5_; have BK1038 := n6_; have BK1039 := n7_; have BK1053 := n8_; have HB := n9_; have BK1066 := n10_; have GW1066 := n11_; have GE1066 := n12_; have NB1038_1066 := n13_; have NB1066_1038 := n14_; have NB1039_1066 := n15_; have NB1066_1039 := n16_; have NB1053_1066 := n17_; have NB1066_1053 := n18_; clear n0_ n1_ n2_ n3_ n4_ n5_ n6_ n7_ n8_ n9_ n10_ n11_ n12_ n13_ n14_ n15_ n16_ n17_ n18_; clear hb hbox hg; obtain ⟨Ao47, co47, eo47⟩ := Kd.S_slice HO1056.out; subst eo47; have hnb48 := NB1066_1038.out; have hnc48 := NB1038_1066.out; have hnb49 := NB1066_1039.out; have hnc49 := NB1039_1066.out; have hnb50 := NB1066_1053.out; have hnc50 := NB1053_1066.out; have hcz51_0 : w46.cell? ⟨gb1066, 0, none⟩ = some (.slice none 0 0) := (blk_cell BK1066.out 0).trans rfl; have hcz51_1 : w46.cell? ⟨gb1066, 1, none⟩ = some (.int .i64 0) := (blk_cell BK1066.out 1).trans rfl; have hcz51_2 : w46.cell? ⟨gb1066, 2, none⟩ = some (.slice none 0 0) := (blk_cell BK1066.out 2).trans rfl; have hfz51_0 := blk_frozen BK1066.out 0; have hfz51_1 := blk_frozen BK1066.out 1; have hfz51_2 := blk_frozen BK1066.out 2; obtain ⟨Ao52, co52, eo52⟩ := Kd.R_slice HO1060.out; subst eo52; have hnb53 := NB1039_1053.out; have hnc53 := NB1053_1039.out; have hcz54_0 : w46.cell? ⟨gb1039, 0, none⟩ = some (.slice none 0 0) := (blk_cell BK1039.out 0).trans rfl; have hcz54_1 : w46.cell? ⟨gb1039, 1, none⟩ = some (.int .i64 0) := (blk_cell BK1039.out 1).trans rfl; have hcz54_2 : w46.cell? ⟨gb1039, 2, none⟩ = some (.slice none 0 0) := (blk_cell BK1039.out 2).trans rfl; have hfz54_0 := blk_frozen BK1039.out 0; have hfz54_1 := blk_frozen BK1039.out 1; have hfz54_2 := blk_frozen BK1039.out 2))
       refine bodyPost_ret (results_ct rfl _ _ gb1039 101 #[.slice Ao47 t1054.length co47, .int .i64 t1057, .slice Ao52 t1058.length co52] (0, 0) _ rfl (by (with_reducible repeat (first | refine blk_drewN ?_ _ | refine blk_drew ?_ | refine blk_alloc ?_ _)); refine blk_put (cs := #[.slice Ao47 t1054.length co47, .int .i64 t1057, .slice none 0 0]) ?_ 2 _ rfl; (with_reducible repeat (first | refine blk_drewN ?_ _ | refine blk_drew ?_ | refine blk_alloc ?_ _)); refine blk_put (cs := #[.slice Ao47 t1054.length co47, .int .i64 0, .slice none 0 0]) ?_ 1 _ rfl; (with_reducible repeat (first | refine blk_drewN ?_ _ | refine blk_drew ?_ | refine blk_alloc ?_ _)); refine blk_put (cs := #[.slice none 0 0, .int .i64 0, .slice none 0 0]) ?_ 0 _ rfl; (with_reducible repeat (first | refine blk_drewN ?_ _ | refine blk_drew ?_ | refine blk_alloc ?_ _)); refine blk_far ?_ NB1039_1066.out _; (with_reducible repeat (first | refine blk_drewN ?_ _ | refine blk_drew ?_ | refine blk_alloc ?_ _)); refine blk_far ?_ NB1039_1066.out _; (with_reducible repeat (first | refine blk_drewN ?_ _ | refine blk_drew ?_ | refine blk_alloc ?_ _)); refine blk_far ?_ NB1039_1066.out _; (with_reducible repeat (first | refine blk_drewN ?_ _ | refine blk_drew ?_ | refine blk_alloc ?_ _)); exact BK1039.out) Try.underlying101 rfl (by kernel_rfl)) rfl ?_
       exact ⟨_, _, by first | rfl | (simp [errW_none, errW_some] <;> rfl) | (simp [*, errW_none, errW_some] <;> rfl), by (with_reducible repeat (first | apply Kd.S_alloc | apply Kd.S_drewN | apply Kd.S_drew)); exact Kd.S_mono (Kd.S_far (p := ⟨gb1039, 2, none⟩) (Kd.S_far (p := ⟨gb1039, 1, none⟩) (Kd.S_far (p := ⟨gb1039, 0, none⟩) (Kd.S_far (p := ⟨gb1066, 2, none⟩) (Kd.S_far (p := ⟨gb1066, 1, none⟩) (Kd.S_far (p := ⟨gb1066, 0, none⟩) (Kd.S_types (Kd.S_types HO1056.out BK1066.out (by decide)) BK1039.out (by decide)) (fun _ hk => hk.1.2) (.slice Ao47 t1054.length co47)) (fun _ hk => hk.1.2) (.int .i64 t1057)) (fun _ hk => hk.1.2) (.slice Ao52 t1058.length co52)) (fun _ hk => hk.2) (.slice Ao47 t1054.length co47)) (fun _ hk => hk.2) (.int .i64 t1057)) (fun _ hk => hk.2) (.slice Ao52 t1058.length co52)) (fun _ hk => hk.1.1.1.1.1.1), by (with_reducible repeat (first | apply Kd.R_alloc | apply Kd.R_drewN | apply Kd.R_drew)); exact Kd.R_mono (Kd.R_far (p := ⟨gb1039, 2, none⟩) (Kd.R_far (p := ⟨gb1039, 1, none⟩) (Kd.R_far (p := ⟨gb1039, 0, none⟩) (Kd.R_far (p := ⟨gb1066, 2, none⟩) (Kd.R_far (p := ⟨gb1066, 1, none⟩) (Kd.R_far (p := ⟨gb1066, 0, none⟩) (Kd.R_types (Kd.R_types HO1060.out BK1066.out (by decide)) BK1039.out (by decide)) (fun _ hk => hk.1.2) (.slice Ao47 t1054.length co47)) (fun _ hk => hk.1.2) (.int .i64 t1057)) (fun _ hk => hk.1.2) (.slice Ao52 t1058.length co52)) (fun _ hk => hk.2) (.slice Ao47 t1054.length co47)) (fun _ hk => hk.2) (.int .i64 t1057)) (fun _ hk => hk.2) (.slice Ao52 t1058.length co52)) (fun _ hk => trivial), hb_⟩
 ·rw [if_neg c5] at H
  have c5b0 : (t1040 == 0) = false := beq_eq_false_iff_ne.mpr c5
  have c5b1 : (t1040 != 0) = true := bne_iff_ne.mpr c5
  simp only [Option.some.injEq, Prod.mk.injEq] at H
  obtain ⟨rfl, rfl, rfl, rfl⟩ := H
  go_enter Try.func88, Try.ntmps88
  go_wp2_with (first | ((with_reducible refine gate_dst (N := 3) rfl ?_); (try (refine gate_guard (by rfl) ?_; dsimp only)); refine box_event ?hg (N := 3) ?hd (cs := #[.slice A0_0 l0_0.length c0_0, .slice A0_1 l0_1.length c0_1]) (t := 29) ?hr ?_; (case hd => rfl); (case hg => rfl); (case hr => first | (go_simp; done) | (go_simp; rfl)); intro gb1038 hg w55 hbox hb; have n0_ := Aside0.mk (bs_ hb); have n1_ := Aside0.mk (hbox); have n2_ := Aside0.mk ((by rw [hg]; exact bz_ : w.heap.size ≤ gb1038)); have n3_ := Aside0.mk ((by rw [hg]; exact bz_ : w.heap.size ≤ gb1038)); clear HB; have HB := n0_; have BK1038 := n1_; have GW1038 := n2_; have GE1038 := n3_; clear n0_ n1_ n2_ n3_; clear hb hbox hg) | ((with_reducible refine gate_dst (N := 6) rfl ?_); (try (refine gate_guard (by rfl) ?_; dsimp only)); refine box_event ?hg (N := 6) ?hd (cs := #[.slice none 0 0, .int .i64 0, .slice none 0 0]) (t := 101) ?hr ?_; (case hd => rfl); (case hg => rfl); (case hr => first | (go_simp; done) | (go_simp; rfl)); intro gb1039 hg w56 hbox hb; have n0_ := Aside0.mk (bb_ BK1038.out hb); have n1_ := Aside0.mk (bs_ hb); have n2_ := Aside0.mk (hbox); have n3_ := Aside0.mk ((by rw [hg]; exact bz_ : w.heap.size ≤ gb1039)); have n4_ := Aside0.mk ((by rw [hg]; exact bz_ : w.heap.size ≤ gb1039)); have n5_ := Aside0.mk ((by rw [hg]; exact lt_ BK1038.out : gb1038 ≠ gb1039)); have n6_ := Aside0.mk ((by rw [hg]; exact gt_ BK1038.out : gb1039 ≠ gb1038)); clear BK1038; clear HB; have BK1038 := n0_; have HB := n1_; have BK1039 := n2_; have GW1039 := n3_; have GE1039 := n4_; have NB1038_1039 := n5_; have NB1039_1038 := n6_; clear n0_ n1_ n2_ n3_ n4_ n5_ n6_; clear hb hbox hg; have hnb57 := NB1038_1039.out; have hnc57 := NB1039_1038.out; have hcz58_0 : w56.cell? ⟨gb1038, 0, none⟩ = some (.slice A0_0 l0_0.length c0_0) := (blk_cell BK1038.out 0).trans rfl; have hcz58_1 : w56.cell? ⟨gb1038, 1, none⟩ = some (.slice A0_1 l0_1.length c0_1) := (blk_cell BK1038.out 1).trans rfl; have hfz58_0 := blk_frozen BK1038.out 0; have hfz58_1 := blk_frozen BK1038.out 1) | ((with_reducible refine gate_callee (f := 85) rfl ?_); refine gL_ 19 Try.func85 #[.agg #[.slice A0_0 l0_0.length c0_0, .slice A0_1 l0_1.length c0_1], .slice A1 l1.length c1] ?_; (with_reducible refine (spec_l05Code.calls k _ _ l0_0 _ _ l0_1 _ _ l1 t1040 _ ?side1 ?side2 ?side3 ?side4 ?side5 ?side6 A4.out).mono ?_); (case side1 => exact cb_ HR0_0.out HB.out); (case side2 => exact HC0_0.out); (case side3 => exact cb_ HR0_1.out HB.out); (case side4 => exact HC0_1.out); (case side5 => exact cb_ HR1.out HB.out); (case side6 => exact HC1.out); rintro e w59 ⟨rfl, hb⟩; refine ⟨_, rfl, ?_⟩; have n0_ := Aside0.mk (bb_ BK1038.out hb); have n1_ := Aside0.mk (bb_ BK1039.out hb); have n2_ := Aside0.mk (bs_ hb); clear BK1038; clear BK1039; clear HB; have BK1038 := n0_; have BK1039 := n1_; have HB := n2_; clear n0_ n1_ n2_; (try clear hb); (try clear hb2); (try clear hk); (try clear hi); have hcz60_0 : w59.cell? ⟨gb1039, 0, none⟩ = some (.slice none 0 0) := (blk_cell BK1039.out 0).trans rfl; have hcz60_1 : w59.cell? ⟨gb1039, 1, none⟩ = some (.int .i64 0) := (blk_cell BK1039.out 1).trans rfl; have hcz60_2 : w59.cell? ⟨gb1039, 2, none⟩ = some (.slice none 0 0) := (blk_cell BK1039.out 2).trans rfl; have hfz60_0 := blk_frozen BK1039.out 0; have hfz60_1 := blk_frozen BK1039.out 1; have hfz60_2 := blk_frozen BK1039.out 2))
  refine bodyPost_ret (results_ct rfl _ _ gb1039 101 #[.slice none 0 0, .int .i64 0, .slice none 0 0] (0, 0) _ rfl (by (with_reducible repeat (first | refine blk_drewN ?_ _ | refine blk_drew ?_ | refine blk_alloc ?_ _)); refine blk_put (cs := #[.slice none 0 0, .int .i64 0, .slice none 0 0]) ?_ 2 _ rfl; (with_reducible repeat (first | refine blk_drewN ?_ _ | refine blk_drew ?_ | refine blk_alloc ?_ _)); refine blk_put (cs := #[.slice none 0 0, .int .i64 0, .slice none 0 0]) ?_ 1 _ rfl; (with_reducible repeat (first | refine blk_drewN ?_ _ | refine blk_drew ?_ | refine blk_alloc ?_ _)); refine blk_put (cs := #[.slice none 0 0, .int .i64 0, .slice none 0 0]) ?_ 0 _ rfl; (with_reducible repeat (first | refine blk_drewN ?_ _ | refine blk_drew ?_ | refine blk_alloc ?_ _)); exact BK1039.out) Try.underlying101 rfl (by kernel_rfl)) rfl ?_
  exact ⟨_, _, by first | rfl | (simp [errW_none, errW_some] <;> rfl) | (simp [*, errW_none, errW_some] <;> rfl), by first | exact Kd.S_nil _ _ _ _ _ | exact Kd.N_nil _ _ _ _ _ | exact Kd.V_nil _ _ _ _ _ | exact Kd.Q_nil _ _ _ _ _ | exact Kd.R_nil _ _ _ _ _, by first | exact Kd.R_nil _ _ _ _ _ | exact Kd.N_nil _ _ _ _ _ | exact Kd.V_nil _ _ _ _ _ | exact Kd.Q_nil _ _ _ _ _ | exact Kd.S_nil _ _ _ _ _, hb_⟩
def spec_l01IsFrac.f (k : Nat) (a0_0 : Int) (a0_1 : Int) (a1 : Int) : Option (Bool) := (spec_l01In.f a0_1 1 a1).bind fun t1158 => (if t1158 = true then ((spec_l01In.f a0_0 (wrap64 (-a1)) a1).bind fun t1159 => (if t1159 = true then ((spec_l01Gcd.f k a0_0 a0_1).bind fun t1160 => (some (t1160 == 1))) else (some false))) else (some false))
theorem spec_l01IsFrac.mono : ∀ a0 a1 a2 k, LeO (spec_l01IsFrac.f k a0 a1 a2) (spec_l01IsFrac.f (k + 1) a0 a1 a2) := by
 intro a0 a1 a2 k
 unfold spec_l01IsFrac.f
 repeat' first
   | (with_reducible exact spec_l01Gcd.mono _ _ _)
   | (with_reducible exact LeO.refl _)
   | (with_reducible exact LeO.none _)
   | (with_reducible refine LeO.ite ?_ ?_)
   | (with_reducible refine LeO.bind ?_ (fun _ => ?_))
   | exact spec_l01Gcd.mono _ _ _
   | exact LeO.none _
   | refine LeO.ite ?_ ?_
   | refine LeO.bind ?_ (fun _ => ?_)
theorem spec_l01IsFrac.calls (k : Nat) (a0_0 : Int) (a0_1 : Int) (a1 : Int) (r : Bool) (w : World) (h : spec_l01IsFrac.f k a0_0 a0_1 a1 = some r) :
  Calls Try.prog 130 #[.agg #[.int .i64 a0_0, .int .i64 a0_1], .int .i64 a1] w fun e w' => e = .returned (.bool r) ∧ Below w.heap.size w w' := by
 have hu65 := Try.underlying65
 have HB := Aside0.mk (Below.refl w.heap.size w)
 have H : ((spec_l01In.f a0_1 1 a1).bind fun t1158 => (if t1158 = true then ((spec_l01In.f a0_0 (wrap64 (-a1)) a1).bind fun t1159 => (if t1159 = true then ((spec_l01Gcd.f k a0_0 a0_1).bind fun t1160 => (some (t1160 == 1))) else (some false))) else (some false))) = some r := h
 clear h
 replace H := Option.bind_eq_some_iff.mp H
 obtain ⟨t1158, A30, H⟩ := H
 replace H : (if t1158 = true then ((spec_l01In.f a0_0 (wrap64 (-a1)) a1).bind fun t1159 => (if t1159 = true then ((spec_l01Gcd.f k a0_0 a0_1).bind fun t1160 => (some (t1160 == 1))) else (some false))) else (some false)) = some r := H
 have A3 := Aside0.mk A30
 clear A30
 by_cases c4 : t1158 = true
 ·subst c4
  have H1 : ((spec_l01In.f a0_0 (wrap64 (-a1)) a1).bind fun t1159 => (if t1159 = true then ((spec_l01Gcd.f k a0_0 a0_1).bind fun t1160 => (some (t1160 == 1))) else (some false))) = some r := by rw [if_pos rfl] at H; exact H
  clear H
  have H := H1
  clear H1
  replace H := Option.bind_eq_some_iff.mp H
  obtain ⟨t1159, A50, H⟩ := H
  replace H : (if t1159 = true then ((spec_l01Gcd.f k a0_0 a0_1).bind fun t1160 => (some (t1160 == 1))) else (some false)) = some r := H
  have A5 := Aside0.mk A50
  clear A50
  by_cases c6 : t1159 = true
  ·subst c6
   have H1 : ((spec_l01Gcd.f k a0_0 a0_1).bind fun t1160 => (some (t1160 == 1))) = some r := by rw [if_pos rfl] at H; exact H
   clear H
   have H := H1
   clear H1
   replace H := Option.bind_eq_some_iff.mp H
   obtain ⟨t1160, A70, H⟩ := H
   replace H : (some (t1160 == 1)) = some r := H
   have A7 := Aside0.mk A70
   clear A70
   obtain rfl := Option.some.inj H
   go_enter Try.func130, Try.ntmps130
   go_wp2_with (first | ((with_reducible refine gate_dst (N := 2) rfl ?_); refine box_event ?hg (N := 2) ?hd (cs := #[.int .i64 a0_0, .int .i64 a0_1]) (t := 65) ?hr ?_; (case hd => rfl); (case hg => rfl); (case hr => first | (go_simp; done) | (go_simp; rfl)); intro gb1157 hg w8 hbox hb; have n0_ := Aside0.mk (bs_ hb); have n1_ := Aside0.mk (hbox); have n2_ := Aside0.mk ((by rw [hg]; exact bz_ : w.heap.size ≤ gb1157)); have n3_ := Aside0.mk ((by rw [hg]; exact bz_ : w.heap.size ≤ gb1157)); clear HB; have HB := n0_; have BK1157 := n1_; have GW1157 := n2_; have GE1157 := n3_; clear n0_ n1_ n2_ n3_; clear hb hbox hg; have hcz9_0 : w8.cell? ⟨gb1157, 0, none⟩ = some (.int .i64 a0_0) := (blk_cell BK1157.out 0).trans rfl; have hcz9_1 : w8.cell? ⟨gb1157, 1, none⟩ = some (.int .i64 a0_1) := (blk_cell BK1157.out 1).trans rfl; have hfz9_0 := blk_frozen BK1157.out 0; have hfz9_1 := blk_frozen BK1157.out 1) | ((with_reducible refine gate_callee (f := 91) rfl ?_); refine gL_ 8 Try.func91 #[.int .i64 a0_1, .int .i64 1, .int .i64 a1] ?_; (with_reducible refine (spec_l01In.calls a0_1 1 a1 true _ A3.out).mono ?_); rintro e w' ⟨rfl, ⟨nd, rfl⟩⟩; refine ⟨_, rfl, ?_⟩) | (go_at_call 91; (with_reducible refine (spec_l01In.calls a0_0 (wrap64 (-a1)) a1 true _ A5.out).mono ?_); rintro e w' ⟨rfl, ⟨nd, rfl⟩⟩) | (go_at_call 131; (with_reducible refine (spec_l01Gcd.calls k a0_0 a0_1 t1160 _ A7.out).mono ?_); rintro e w10 ⟨rfl, hb⟩; have n0_ := Aside0.mk (bb_ BK1157.out hb); have n1_ := Aside0.mk (bs_ hb); clear BK1157; clear HB; have BK1157 := n0_; have HB := n1_; clear n0_ n1_; (try clear hb); (try clear hb2); (try clear hk); (try clear hi)))
   go_ret
   exact ⟨by first | rfl | (simp [errW_none, errW_some] <;> rfl) | (simp [*, errW_none, errW_some] <;> rfl), hb_⟩
  ·replace c6 := Bool.eq_false_iff.mpr c6
   subst c6
   have H1 : (some false) = some r := by rw [if_neg (show ¬ (false = true) by decide)] at H; exact H
   clear H
   have H := H1
   clear H1
   obtain rfl := Option.some.inj H
   go_enter Try.func130, Try.ntmps130
   go_wp2_with (first | ((with_reducible refine gate_dst (N := 2) rfl ?_); refine box_event ?hg (N := 2) ?hd (cs := #[.int .i64 a0_0, .int .i64 a0_1]) (t := 65) ?hr ?_; (case hd => rfl); (case hg => rfl); (case hr => first | (go_simp; done) | (go_simp; rfl)); intro gb1157 hg w11 hbox hb; have n0_ := Aside0.mk (bs_ hb); have n1_ := Aside0.mk (hbox); have n2_ := Aside0.mk ((by rw [hg]; exact bz_ : w.heap.size ≤ gb1157)); have n3_ := Aside0.mk ((by rw [hg]; exact bz_ : w.heap.size ≤ gb1157)); clear HB; have HB := n0_; have BK1157 := n1_; have GW1157 := n2_; have GE1157 := n3_; clear n0_ n1_ n2_ n3_; clear hb hbox hg; have hcz12_0 : w11.cell? ⟨gb1157, 0, none⟩ = some (.int .i64 a0_0) := (blk_cell BK1157.out 0).trans rfl; have hcz12_1 : w11.cell? ⟨gb1157, 1, none⟩ = some (.int .i64 a0_1) := (blk_cell BK1157.out 1).trans rfl; have hfz12_0 := blk_frozen BK1157.out 0; have hfz12_1 := blk_frozen BK1157.out 1) | ((with_reducible refine gate_callee (f := 91) rfl ?_); refine gL_ 8 Try.func91 #[.int .i64 a0_1, .int .i64 1, .int .i64 a1] ?_; (with_reducible refine (spec_l01In.calls a0_1 1 a1 true _ A3.out).mono ?_); rintro e w' ⟨rfl, ⟨nd, rfl⟩⟩; refine ⟨_, rfl, ?_⟩) | (go_at_call 91; (with_reducible refine (spec_l01In.calls a0_0 (wrap64 (-a1)) a1 false _ A5.out).mono ?_); rintro e w' ⟨rfl, ⟨nd, rfl⟩⟩))
   go_ret
   exact ⟨by first | rfl | (simp [errW_none, errW_some] <;> rfl) | (simp [*, errW_none, errW_some] <;> rfl), hb_⟩
 ·replace c4 := Bool.eq_false_iff.mpr c4
  subst c4
  have H1 : (some false) = some r := by rw [if_neg (show ¬ (false = true) by decide)] at H; exact H
  clear H
  have H := H1
  clear H1
  obtain rfl := Option.some.inj H
  go_enter Try.func130, Try.ntmps130
  go_wp2_with (first | ((with_reducible refine gate_dst (N := 2) rfl ?_); refine box_event ?hg (N := 2) ?hd (cs := #[.int .i64 a0_0, .int .i64 a0_1]) (t := 65) ?hr ?_; (case hd => rfl); (case hg => rfl); (case hr => first | (go_simp; done) | (go_simp; rfl)); intro gb1157 hg w13 hbox hb; have n0_ := Aside0.mk (bs_ hb); have n1_ := Aside0.mk (hbox); have n2_ := Aside0.mk ((by rw [hg]; exact bz_ : w.heap.size ≤ gb1157)); have n3_ := Aside0.mk ((by rw [hg]; exact bz_ : w.heap.size ≤ gb1157)); clear HB; have HB := n0_; have BK1157 := n1_; have GW1157 := n2_; have GE1157 := n3_; clear n0_ n1_ n2_ n3_; clear hb hbox hg; have hcz14_0 : w13.cell? ⟨gb1157, 0, none⟩ = some (.int .i64 a0_0) := (blk_cell BK1157.out 0).trans rfl; have hcz14_1 : w13.cell? ⟨gb1157, 1, none⟩ = some (.int .i64 a0_1) := (blk_cell BK1157.out 1).trans rfl; have hfz14_0 := blk_frozen BK1157.out 0; have hfz14_1 := blk_frozen BK1157.out 1) | ((with_reducible refine gate_callee (f := 91) rfl ?_); refine gL_ 8 Try.func91 #[.int .i64 a0_1, .int .i64 1, .int .i64 a1] ?_; (with_reducible refine (spec_l01In.calls a0_1 1 a1 false _ A3.out).mono ?_); rintro e w' ⟨rfl, ⟨nd, rfl⟩⟩; refine ⟨_, rfl, ?_⟩))
  go_ret
  exact ⟨by first | rfl | (simp [errW_none, errW_some] <;> rfl) | (simp [*, errW_none, errW_some] <;> rfl), hb_⟩
def spec_l01Told.f (k : Nat) (a0_0 : Int) (a0_1 : Int) : Option (Int × Int × Int) := (spec_l01IsFrac.f k a0_0 a0_1 1000000000).bind fun t1163 => (if t1163 = true then (some (a0_0, a0_1, 0)) else (some (0, 0, 3)))
theorem spec_l01Told.mono : ∀ a0 a1 k, LeO (spec_l01Told.f k a0 a1) (spec_l01Told.f (k + 1) a0 a1) := by
 intro a0 a1 k
 unfold spec_l01Told.f
 repeat' first
   | (with_reducible exact spec_l01IsFrac.mono _ _ _ _)
   | (with_reducible exact LeO.refl _)
   | (with_reducible exact LeO.none _)
   | (with_reducible refine LeO.ite ?_ ?_)
   | (with_reducible refine LeO.bind ?_ (fun _ => ?_))
   | exact spec_l01IsFrac.mono _ _ _ _
   | exact LeO.none _
   | refine LeO.ite ?_ ?_
   | refine LeO.bind ?_ (fun _ => ?_)
theorem spec_l01Told.calls (k : Nat) (a0_0 : Int) (a0_1 : Int) (r1 : Int) (r2 : Int) (r3 : Int) (w : World) (h : spec_l01Told.f k a0_0 a0_1 = some (r1, r2, r3)) :
  Calls Try.prog 95 #[.agg #[.int .i64 a0_0, .int .i64 a0_1]] w fun e w' => e = .returned (.tuple #[.agg #[.int .i64 r1, .int .i64 r2], .int .i64 r3]) ∧ Below w.heap.size w w' := by
 have hu65 := Try.underlying65
 have HB := Aside0.mk (Below.refl w.heap.size w)
 have H : ((spec_l01IsFrac.f k a0_0 a0_1 1000000000).bind fun t1163 => (if t1163 = true then (some (a0_0, a0_1, 0)) else (some (0, 0, 3)))) = some (r1, r2, r3) := h
 clear h
 replace H := Option.bind_eq_some_iff.mp H
 obtain ⟨t1163, A20, H⟩ := H
 replace H : (if t1163 = true then (some (a0_0, a0_1, 0)) else (some (0, 0, 3))) = some (r1, r2, r3) := H
 have A2 := Aside0.mk A20
 clear A20
 by_cases c3 : t1163 = true
 ·subst c3
  have H1 : (some (a0_0, a0_1, 0)) = some (r1, r2, r3) := by rw [if_pos rfl] at H; exact H
  clear H
  have H := H1
  clear H1
  simp only [Option.some.injEq, Prod.mk.injEq] at H
  obtain ⟨rfl, rfl, rfl⟩ := H
  go_enter Try.func95, Try.ntmps95
  go_wp2_with (first | ((with_reducible refine gate_dst (N := 1) rfl ?_); refine box_event ?hg (N := 1) ?hd (cs := #[.int .i64 a0_0, .int .i64 a0_1]) (t := 65) ?hr ?_; (case hd => rfl); (case hg => rfl); (case hr => first | (go_simp; done) | (go_simp; rfl)); intro gb1161 hg w4 hbox hb; have n0_ := Aside0.mk (bs_ hb); have n1_ := Aside0.mk (hbox); have n2_ := Aside0.mk ((by rw [hg]; exact bz_ : w.heap.size ≤ gb1161)); have n3_ := Aside0.mk ((by rw [hg]; exact bz_ : w.heap.size ≤ gb1161)); clear HB; have HB := n0_; have BK1161 := n1_; have GW1161 := n2_; have GE1161 := n3_; clear n0_ n1_ n2_ n3_; clear hb hbox hg) | ((with_reducible refine gate_dst (N := 2) rfl ?_); refine box_event ?hg (N := 2) ?hd (cs := #[.int .i64 0, .int .i64 0]) (t := 65) ?hr ?_; (case hd => rfl); (case hg => rfl); (case hr => first | (go_simp; done) | (go_simp; rfl)); intro gb1162 hg w5 hbox hb; have n0_ := Aside0.mk (bb_ BK1161.out hb); have n1_ := Aside0.mk (bs_ hb); have n2_ := Aside0.mk (hbox); have n3_ := Aside0.mk ((by rw [hg]; exact bz_ : w.heap.size ≤ gb1162)); have n4_ := Aside0.mk ((by rw [hg]; exact bz_ : w.heap.size ≤ gb1162)); have n5_ := Aside0.mk ((by rw [hg]; exact lt_ BK1161.out : gb1161 ≠ gb1162)); have n6_ := Aside0.mk ((by rw [hg]; exact gt_ BK1161.out : gb1162 ≠ gb1161)); clear BK1161; clear HB; have BK1161 := n0_; have HB := n1_; have BK1162 := n2_; have GW1162 := n3_; have GE1162 := n4_; have NB1161_1162 := n5_; have NB1162_1161 := n6_; clear n0_ n1_ n2_ n3_ n4_ n5_ n6_; clear hb hbox hg; have hnb6 := NB1161_1162.out; have hnc6 := NB1162_1161.out; have hcz7_0 : w5.cell? ⟨gb1161, 0, none⟩ = some (.int .i64 a0_0) := (blk_cell BK1161.out 0).trans rfl; have hcz7_1 : w5.cell? ⟨gb1161, 1, none⟩ = some (.int .i64 a0_1) := (blk_cell BK1161.out 1).trans rfl; have hfz7_0 := blk_frozen BK1161.out 0; have hfz7_1 := blk_frozen BK1161.out 1) | ((with_reducible refine gate_callee (f := 130) rfl ?_); refine gL_ 5 Try.func130 #[.agg #[.int .i64 a0_0, .int .i64 a0_1], .int .i64 1000000000] ?_; (with_reducible refine (spec_l01IsFrac.calls k a0_0 a0_1 1000000000 true _ A2.out).mono ?_); rintro e w8 ⟨rfl, hb⟩; refine ⟨_, rfl, ?_⟩; have n0_ := Aside0.mk (bb_ BK1161.out hb); have n1_ := Aside0.mk (bb_ BK1162.out hb); have n2_ := Aside0.mk (bs_ hb); clear BK1161; clear BK1162; clear HB; have BK1161 := n0_; have BK1162 := n1_; have HB := n2_; clear n0_ n1_ n2_; (try clear hb); (try clear hb2); (try clear hk); (try clear hi); have hcz9_0 : w8.cell? ⟨gb1161, 0, none⟩ = some (.int .i64 a0_0) := (blk_cell BK1161.out 0).trans rfl; have hcz9_1 : w8.cell? ⟨gb1161, 1, none⟩ = some (.int .i64 a0_1) := (blk_cell BK1161.out 1).trans rfl; have hfz9_0 := blk_frozen BK1161.out 0; have hfz9_1 := blk_frozen BK1161.out 1; have hcz10_0 : w8.cell? ⟨gb1162, 0, none⟩ = some (.int .i64 0) := (blk_cell BK1162.out 0).trans rfl; have hcz10_1 : w8.cell? ⟨gb1162, 1, none⟩ = some (.int .i64 0) := (blk_cell BK1162.out 1).trans rfl; have hfz10_0 := blk_frozen BK1162.out 0; have hfz10_1 := blk_frozen BK1162.out 1))
  refine bodyPost_ret (results_ct rfl _ _ gb1162 65 #[.int .i64 a0_0, .int .i64 a0_1] (0, 0) _ rfl (by (with_reducible repeat (first | refine blk_drewN ?_ _ | refine blk_drew ?_ | refine blk_alloc ?_ _)); refine blk_put (cs := #[.int .i64 a0_0, .int .i64 0]) ?_ 1 _ rfl; (with_reducible repeat (first | refine blk_drewN ?_ _ | refine blk_drew ?_ | refine blk_alloc ?_ _)); refine blk_put (cs := #[.int .i64 0, .int .i64 0]) ?_ 0 _ rfl; (with_reducible repeat (first | refine blk_drewN ?_ _ | refine blk_drew ?_ | refine blk_alloc ?_ _)); exact BK1162.out) Try.underlying65 rfl (by kernel_rfl)) rfl ?_
  exact ⟨by first | rfl | (simp [errW_none, errW_some] <;> rfl) | (simp [*, errW_none, errW_some] <;> rfl), hb_⟩
 ·replace c3 := Bool.eq_false_iff.mpr c3
  subst c3
  have H1 : (some (0, 0, 3)) = some (r1, r2, r3) := by rw [if_neg (show ¬ (false = true) by decide)] at H; exact H
  clear H
  have H := H1
  clear H1
  simp only [Option.some.injEq, Prod.mk.injEq] at H
  obtain ⟨rfl, rfl, rfl⟩ := H
  go_enter Try.func95, Try.ntmps95
  go_wp2_with (first | ((with_reducible refine gate_dst (N := 1) rfl ?_); refine box_event ?hg (N := 1) ?hd (cs := #[.int .i64 a0_0, .int .i64 a0_1]) (t := 65) ?hr ?_; (case hd => rfl); (case hg => rfl); (case hr => first | (go_simp; done) | (go_simp; rfl)); intro gb1161 hg w11 hbox hb; have n0_ := Aside0.mk (bs_ hb); have n1_ := Aside0.mk (hbox); have n2_ := Aside0.mk ((by rw [hg]; exact bz_ : w.heap.size ≤ gb1161)); have n3_ := Aside0.mk ((by rw [hg]; exact bz_ : w.heap.size ≤ gb1161)); clear HB; have HB := n0_; have BK1161 := n1_; have GW1161 := n2_; have GE1161 := n3_; clear n0_ n1_ n2_ n3_; clear hb hbox hg) | ((with_reducible refine gate_dst (N := 2) rfl ?_); refine box_event ?hg (N := 2) ?hd (cs := #[.int .i64 0, .int .i64 0]) (t := 65) ?hr ?_; (case hd => rfl); (case hg => rfl); (case hr => first | (go_simp; done) | (go_simp; rfl)); intro gb1162 hg w12 hbox hb; have n0_ := Aside0.mk (bb_ BK1161.out hb); have n1_ := Aside0.mk (bs_ hb); have n2_ := Aside0.mk (hbox); have n3_ := Aside0.mk ((by rw [hg]; exact bz_ : w.heap.size ≤ gb1162)); have n4_ := Aside0.mk ((by rw [hg]; exact bz_ : w.heap.size ≤ gb1162)); have n5_ := Aside0.mk ((by rw [hg]; exact lt_ BK1161.out : gb1161 ≠ gb1162)); have n6_ := Aside0.mk ((by rw [hg]; exact gt_ BK1161.out : gb1162 ≠ gb1161)); clear BK1161; clear HB; have BK1161 := n0_; have HB := n1_; have BK1162 := n2_; have GW1162 := n3_; have GE1162 := n4_; have NB1161_1162 := n5_; have NB1162_1161 := n6_; clear n0_ n1_ n2_ n3_ n4_ n5_ n6_; clear hb hbox hg; have hnb13 := NB1161_1162.out; have hnc13 := NB1162_1161.out; have hcz14_0 : w12.cell? ⟨gb1161, 0, none⟩ = some (.int .i64 a0_0) := (blk_cell BK1161.out 0).trans rfl; have hcz14_1 : w12.cell? ⟨gb1161, 1, none⟩ = some (.int .i64 a0_1) := (blk_cell BK1161.out 1).trans rfl; have hfz14_0 := blk_frozen BK1161.out 0; have hfz14_1 := blk_frozen BK1161.out 1) | ((with_reducible refine gate_callee (f := 130) rfl ?_); refine gL_ 5 Try.func130 #[.agg #[.int .i64 a0_0, .int .i64 a0_1], .int .i64 1000000000] ?_; (with_reducible refine (spec_l01IsFrac.calls k a0_0 a0_1 1000000000 false _ A2.out).mono ?_); rintro e w15 ⟨rfl, hb⟩; refine ⟨_, rfl, ?_⟩; have n0_ := Aside0.mk (bb_ BK1161.out hb); have n1_ := Aside0.mk (bb_ BK1162.out hb); have n2_ := Aside0.mk (bs_ hb); clear BK1161; clear BK1162; clear HB; have BK1161 := n0_; have BK1162 := n1_; have HB := n2_; clear n0_ n1_ n2_; (try clear hb); (try clear hb2); (try clear hk); (try clear hi); have hcz16_0 : w15.cell? ⟨gb1162, 0, none⟩ = some (.int .i64 0) := (blk_cell BK1162.out 0).trans rfl; have hcz16_1 : w15.cell? ⟨gb1162, 1, none⟩ = some (.int .i64 0) := (blk_cell BK1162.out 1).trans rfl; have hfz16_0 := blk_frozen BK1162.out 0; have hfz16_1 := blk_frozen BK1162.out 1))
  refine bodyPost_ret (results_ct rfl _ _ gb1162 65 #[.int .i64 0, .int .i64 0] (0, 0) _ rfl (by (with_reducible repeat (first | refine blk_drewN ?_ _ | refine blk_drew ?_ | refine blk_alloc ?_ _)); refine blk_put (cs := #[.int .i64 0, .int .i64 0]) ?_ 1 _ rfl; (with_reducible repeat (first | refine blk_drewN ?_ _ | refine blk_drew ?_ | refine blk_alloc ?_ _)); refine blk_put (cs := #[.int .i64 0, .int .i64 0]) ?_ 0 _ rfl; (with_reducible repeat (first | refine blk_drewN ?_ _ | refine blk_drew ?_ | refine blk_alloc ?_ _)); exact BK1162.out) Try.underlying65 rfl (by kernel_rfl)) rfl ?_
  exact ⟨by first | rfl | (simp [errW_none, errW_some] <;> rfl) | (simp [*, errW_none, errW_some] <;> rfl), hb_⟩
end Go.Proofs.Ythdoilfjcgickaa.Pr
end
