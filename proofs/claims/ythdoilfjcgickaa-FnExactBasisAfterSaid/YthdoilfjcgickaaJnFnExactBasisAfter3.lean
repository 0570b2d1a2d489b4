/- Texts of one claim (the words of the kit's print that the claim uses, printed functions, and this session's own texts), joined in the order of their imports by this session's own program (merge.py). -/
import Derived.Test.YthdoilfjcgickaaJnFnExactBasisAfter0
import Derived.Test.YthdoilfjcgickaaJnFnExactBasisAfter1
import Derived.Test.YthdoilfjcgickaaJnFnExactBasisAfter2
set_option linter.unusedVariables false
set_option linter.unusedSimpArgs false
set_option maxHeartbeats 8000000
set_option maxRecDepth 100000
section
namespace Go.Proofs.Ythdoilfjcgickaa.Pr
open Go.RowKit Go.Proofs.YthdoilfjcgickaaW.PrintWords Go.Proofs.YthdoilfjcgickaaW.PrintLast Go.Proofs.YthdoilfjcgickaaW.PrintMore
attribute [local go_sem] max2_int min2_int max_two min_two max_three min_three max_four min_four
def spec_l05Row.l0 : Nat → Int → Int → Int → List (List Int) → Int → List Int → Option (Int)
 | 0, _, _, _, _, _, _ => none
 | k + 1, x1, x5, x6, x945000, x945001, x945002 => if x6 < (x945000.length : Int) then (if 0 ≤ x6 then (if 0 ≤ x1 then (if x1 < ((rd_L1 x945000 x6).length : Int) then (if (rd (rd_L1 x945000 x6) x1) > 0 then (if x5 < 0 then (spec_l05Row.l0 k x1 x6 (wrap64 (x6 + 1)) x945000 x945001 x945002) else (if 0 ≤ x5 then (if x5 < (x945000.length : Int) then (if x1 < ((rd_L1 x945000 x5).length : Int) then ((spec_l05Key.f k x945000 x945001 x945002 x6 x5 (rd (rd_L1 x945000 x6) x1) (rd (rd_L1 x945000 x5) x1)).bind fun t951 => (if t951 = true then (spec_l05Row.l0 k x1 x6 (wrap64 (x6 + 1)) x945000 x945001 x945002) else (spec_l05Row.l0 k x1 x5 (wrap64 (x6 + 1)) x945000 x945001 x945002))) else (none)) else (none)) else (none))) else (spec_l05Row.l0 k x1 x5 (wrap64 (x6 + 1)) x945000 x945001 x945002)) else (none)) else (none)) else (none)) else (some x5)
def spec_l05Row.f (k : Nat) (l0_0 : List (List Int)) (a0_1 : Int) (l0_2 : List Int) (a1 : Int) : Option (Int) := spec_l05Row.l0 k a1 (-1) 0 l0_0 a0_1 l0_2
theorem spec_l05Row.mono_l : ∀ k, (∀ y0 y1 y2 y3 y4 y5, LeO (spec_l05Row.l0 k y0 y1 y2 y3 y4 y5) (spec_l05Row.l0 (k + 1) y0 y1 y2 y3 y4 y5))
 | 0 => fun _ _ _ _ _ _ r h => by simp [spec_l05Row.l0] at h
 | k + 1 => by
  have ih0 := spec_l05Row.mono_l k
  ·intro y0 y1 y2 y3 y4 y5
   unfold spec_l05Row.l0
   repeat' first
   | (with_reducible exact ih0 _ _ _ _ _ _)
   | (with_reducible exact spec_l05Key.mono _ _ _ _ _ _ _ _)
   | (with_reducible exact LeO.refl _)
   | (with_reducible exact LeO.none _)
   | (with_reducible refine LeO.ite ?_ ?_)
   | (with_reducible refine LeO.bind ?_ (fun _ => ?_))
   | exact ih0 _ _ _ _ _ _
   | exact spec_l05Key.mono _ _ _ _ _ _ _ _
   | exact LeO.none _
   | refine LeO.ite ?_ ?_
   | refine LeO.bind ?_ (fun _ => ?_)
theorem spec_l05Row.mono : ∀ a0 a1 a2 a3 k, LeO (spec_l05Row.f k a0 a1 a2 a3) (spec_l05Row.f (k + 1) a0 a1 a2 a3) := by
 intro a0 a1 a2 a3 k
 have ih0 := spec_l05Row.mono_l k
 unfold spec_l05Row.f
 repeat' first
   | (with_reducible exact ih0 _ _ _ _ _ _)
   | (with_reducible exact spec_l05Key.mono _ _ _ _ _ _ _ _)
   | (with_reducible exact LeO.refl _)
   | (with_reducible exact LeO.none _)
   | (with_reducible refine LeO.ite ?_ ?_)
   | (with_reducible refine LeO.bind ?_ (fun _ => ?_))
   | exact ih0 _ _ _ _ _ _
   | exact spec_l05Key.mono _ _ _ _ _ _ _ _
   | exact LeO.none _
   | refine LeO.ite ?_ ?_
   | refine LeO.bind ?_ (fun _ => ?_)
def spec_l05Row.T5 : Bool × List (List Nat × List Nat) := (true, [([], []), ([0], [0]), ([], []), ([1, 2], [1, 2]), ([3], [3]), ([], []), ([4, 5], [4, 5]), ([6], [6]), ([7], [7]), ([8], [8]), ([9], [9]), ([10, 9], [9, 10]), ([11, 9, 9], [9, 11]), ([12], [12]), ([12], [12]), ([12], [12]), ([12], [12]), ([16, 12], [12, 16]), ([12], [12]), ([17, 18, 12], [12, 17, 18]), ([19, 12], [12, 19]), ([12], [12]), ([20, 21, 12], [12, 20, 21]), ([22, 12], [12, 22]), ([12], [12]), ([24, 12], [12, 24]), ([12], [12]), ([25, 26, 12], [12, 25, 26]), ([27, 12], [12, 27]), ([12], [12]), ([28, 29, 12], [12, 28, 29]), ([30, 12], [12, 30]), ([13, 14, 15, 23, 31, 12, 12], [12, 13, 14, 15, 23, 31]), ([12, 32, 9], [9, 12, 32]), ([9, 33], [9, 33])])
def spec_l05Row.B5 : List Nat := [0, 1, 0, 7, 15, 0, 63, 127, 255, 511, 1023, 2047, 4095, 8191, 8191, 8191, 8191, 73727, 8191, 466943, 991231, 8191, 4136959, 8331263, 8191, 16785407, 8191, 117448703, 251666431, 8191, 1056972799, 2130714623, 4294967295, 8589934591, 17179869183]
theorem spec_l05Row.tab5 : rtab .any (opsOf Try.f118 5) = spec_l05Row.T5 := by kernel_rfl
theorem spec_l05Row.bits5 : waitsOk spec_l05Row.T5.2 spec_l05Row.B5 = true := by kernel_rfl
theorem spec_l05Row.calls (k : Nat) (A0_0 : Option Addr) (c0_0 : Nat) (l0_0 : List (List Int)) (a0_1 : Int) (A0_2 : Option Addr) (c0_2 : Nat) (l0_2 : List Int) (a1 : Int) (r : Int) (w : World) (hr0_0 : Kd.C (Kd.slice 2 (Kd.int .i64)) w A0_0 l0_0.length l0_0) (hc0_0 : l0_0.length ≤ c0_0) (hr0_2 : Kd.C (Kd.int .i64) w A0_2 l0_2.length l0_2) (hc0_2 : l0_2.length ≤ c0_2) (h : spec_l05Row.f k l0_0 a0_1 l0_2 a1 = some r) :
  Calls Try.prog 118 #[.agg #[.slice A0_0 l0_0.length c0_0, .int .i64 a0_1, .slice A0_2 l0_2.length c0_2], .int .i64 a1] w fun e w' => e = .returned (.int .i64 r) ∧ Below w.heap.size w w' := by
 have hu101 := Try.underlying101
 have HR0_0 := Aside0.mk hr0_0
 have HC0_0 := Aside0.mk hc0_0
 clear hr0_0 hc0_0
 have HR0_2 := Aside0.mk hr0_2
 have HC0_2 := Aside0.mk hc0_2
 clear hr0_2 hc0_2
 have HB := Aside0.mk (Below.refl w.heap.size w)
 have H : (spec_l05Row.l0 k a1 (-1) 0 l0_0 a0_1 l0_2) = some r := h
 clear h
 have H' := Aside0.mk H
 clear H
 go_enter Try.func118, Try.ntmps118
 go_wp2_with (first | ((with_reducible refine gate_dst (N := 2) rfl ?_); refine box_event ?hg (N := 2) ?hd (cs := #[.slice A0_0 l0_0.length c0_0, .int .i64 a0_1, .slice A0_2 l0_2.length c0_2]) (t := 101) ?hr ?_; (case hd => rfl); (case hg => rfl); (case hr => first | (go_simp; done) | (go_simp; rfl)); intro gb944 hg w3 hbox hb; have n0_ := Aside0.mk (bs_ hb); have n1_ := Aside0.mk (hbox); have n2_ := Aside0.mk ((by rw [hg]; exact bz_ : w.heap.size ≤ gb944)); have n3_ := Aside0.mk ((by rw [hg]; exact bz_ : w.heap.size ≤ gb944)); clear HB; have HB := n0_; have BK944 := n1_; have GW944 := n2_; have GE944 := n3_; clear n0_ n1_ n2_ n3_; clear hb hbox hg))
 go_loopg [5, 6] k (fun kq v5 v6 w' => ∃ (x5_1 : Int) (x6_1 : Int), v5 = .int .i64 x5_1 ∧ v6 = .int .i64 x6_1 ∧ Aside0 (spec_l05Row.l0 kq a1 x5_1 x6_1 l0_0 a0_1 l0_2 = some r) ∧ Aside0 (kq ≤ k) ∧ Aside0 (w'.heap[gb944]? = some (.cells #[(.slice A0_0 l0_0.length c0_0), .int .i64 a0_1, (.slice A0_2 l0_2.length c0_2)] 101 (0, 0))) ∧ Aside0 (Below w.heap.size w w'))
 case atStart => exact ⟨((-1)), (0), rs_, rs_, H', ⟨Nat.le_refl _⟩, ⟨bk_⟩, ⟨hb_⟩⟩
 case round =>
  clear H'
  try clear c1
  try clear p2
  obtain ⟨x5_1, x6_1, rfl, rfl, HA, HK1, BK944, HB⟩ := hrel
  cases gk with
  | zero => exact absurd HA.out (by simp [spec_l05Row.l0])
  | succ k1 =>
   have H := HA.out
   clear HA
   simp only [spec_l05Row.l0] at H
   by_cases c4 : x6_1 < (l0_0.length : Int)
   ·rw [if_pos c4] at H
    have c4b0 : decide (x6_1 < (l0_0.length : Int)) = true := decide_eq_true c4
    clear c4
    by_cases c5 : 0 ≤ x6_1
    ·rw [if_pos c5] at H
     have c5b0 : decide (0 ≤ x6_1) = true := decide_eq_true c5
     clear c5
     by_cases c6 : 0 ≤ a1
     ·rw [if_pos c6] at H
      have c6b0 : decide (0 ≤ a1) = true := decide_eq_true c6
      clear c6
      by_cases c7 : a1 < ((rd_L1 l0_0 x6_1).length : Int)
      ·rw [if_pos c7] at H
       have c7b0 : decide (a1 < ((rd_L1 l0_0 x6_1).length : Int)) = true := decide_eq_true c7
       clear c7
       by_cases c8 : (rd (rd_L1 l0_0 x6_1) a1) > 0
       ·rw [if_pos c8] at H
        have c8b0 : decide (0 < (rd (rd_L1 l0_0 x6_1) a1)) = true := decide_eq_true c8
        clear c8
        by_cases c9 : x5_1 < 0
        ·rw [if_pos c9] at H
         have c9b0 : decide (x5_1 < 0) = true := decide_eq_true c9
         clear c9
         have H' := Aside0.mk H
         clear H
         have hcz10_0 : wr.cell? ⟨gb944, 0, none⟩ = some (.slice A0_0 l0_0.length c0_0) := (blk_cell BK944.out 0).trans rfl
         have hcz10_1 : wr.cell? ⟨gb944, 1, none⟩ = some (.int .i64 a0_1) := (blk_cell BK944.out 1).trans rfl
         have hcz10_2 : wr.cell? ⟨gb944, 2, none⟩ = some (.slice A0_2 l0_2.length c0_2) := (blk_cell BK944.out 2).trans rfl
         have hfz10_0 := blk_frozen BK944.out 0
         have hfz10_1 := blk_frozen BK944.out 1
         have hfz10_2 := blk_frozen BK944.out 2
         try go_wp2
         have n0_ := Aside0.mk (blk_drew BK944.out)
         have n1_ := Aside0.mk (below_drew1 HB.out)
         clear BK944
         clear HB
         have BK944 := n0_
         have HB := n1_
         clear n0_ n1_
         have p945 : 0 ≤ (x6_1 : Int) := od_
         have q945 : x6_1 < (l0_0.length : Int) := od_
         obtain ⟨ad945, A945_0, c945_0, e945, hx945_0, hl945_0, hi945_0⟩ := at_L1 HR0_0.out x6_1 p945 q945
         have hw945_0 := hx945_0
         cases e945
         replace hx945_0 := (HB.out.cell (World.block_lt_of_cell? w _ hx945_0)).trans hx945_0
         have HR945_0 := Aside0.mk hi945_0
         have HC945_0 := Aside0.mk hl945_0
         clear hi945_0 hl945_0
         replace p945 := eq_true p945
         replace q945 := eq_true q945
         have p946 : 0 ≤ (a1 : Int) := od_
         have q946 : a1 < ((rd_L1 l0_0 x6_1).length : Int) := od_
         obtain ⟨ad946, e946, hx946_0⟩ := Kd.at_int HR945_0.out a1 p946 q946
         have hw946_0 := hx946_0
         cases e946
         replace hx946_0 := (HB.out.cell (World.block_lt_of_cell? w _ hx946_0)).trans hx946_0
         replace p946 := eq_true p946
         replace q946 := eq_true q946
         refine st_ (n := 35) (S := fun w' => w'.cell? ⟨gb944, 0, none⟩ = some (.slice (some ad945) l0_0.length c0_0) ∧ w'.cell? ⟨gb944, 1, none⟩ = some (.int .i64 a0_1) ∧ w'.cell? ⟨gb944, 2, none⟩ = some (.slice A0_2 l0_2.length c0_2) ∧ w'.cell? (ad945.add (x6_1).toNat) = some (.slice (some ad946) (rd_L1 l0_0 x6_1).length c945_0) ∧ w'.cell? (ad946.add (a1).toNat) = some (.int .i64 (rd (rd_L1 l0_0 x6_1) a1))) (ds := []) ⟨(blk_cell BK944.out 0).trans rfl, (blk_cell BK944.out 1).trans rfl, (blk_cell BK944.out 2).trans rfl, ((HB.out.cell (World.block_lt_of_cell? w _ hw945_0)).trans hw945_0), ((HB.out.cell (World.block_lt_of_cell? w _ hw946_0)).trans hw946_0)⟩ (fun hHeld => ?_); refine with_tabW spec_l05Row.tab5 spec_l05Row.bits5 (fun HT_ HW_ => ?_)
         generalize wr.drew = w11 at BK944 HB HR945_0 hx945_0 hx946_0 hHeld ⊢
         refine pu_ 0 14 ?_; refine pu_ 2 16 ?_; refine pu_ 5 19 ?_; refine tk_ 1 15 ?_; refine pu_ 3 17 ?_; refine tk_ 4 18 ?_; refine pu_ 6 20 ?_; refine tk_ 7 21 ?_; refine pu_ 8 22 ?_; refine pu_ 9 23 ?_; refine pu_ 10 24 ?_; refine pu_ 11 25 ?_; refine pu_ 12 26 ?_; refine pn_ 13 27 ?_; refine pn_ 14 28 ?_; refine pn_ 15 29 ?_; refine pn_ 16 30 ?_; refine pn_ 17 31 ?_; refine pn_ 18 32 ?_; refine pn_ 19 33 ?_; refine pn_ 20 34 ?_; refine pn_ 21 35 ?_; refine pn_ 22 36 ?_; refine pn_ 23 37 ?_; refine pn_ 24 38 ?_; refine pn_ 25 39 ?_; refine pn_ 26 40 ?_; refine pn_ 27 41 ?_; refine pn_ 28 42 ?_; refine pn_ 29 43 ?_; refine pn_ 30 44 ?_; refine pn_ 31 45 ?_; refine pn_ 32 46 ?_; refine pu_ 33 47 ?_; refine pu_ 34 48 ?_
         refine done_ (done_of HT_.out (by kernel_rfl)) ?_
         try go_wp2
         go_roundg k1
         case measure => have := HK1.out; omega
         case rel => exact ⟨(x6_1), (wrap64 (x6_1 + 1)), rs_, rs_, H', ⟨by have := HK1.out; omega⟩, ⟨bk_⟩, ⟨hb_⟩⟩
        ·rw [if_neg c9] at H
         have c9b0 : decide (x5_1 < 0) = false := decide_eq_false c9
         clear c9
         by_cases c12 : 0 ≤ x5_1
         ·rw [if_pos c12] at H
          have c12b0 : decide (0 ≤ x5_1) = true := decide_eq_true c12
          clear c12
          by_cases c13 : x5_1 < (l0_0.length : Int)
          ·rw [if_pos c13] at H
           have c13b0 : decide (x5_1 < (l0_0.length : Int)) = true := decide_eq_true c13
           clear c13
           by_cases c14 : a1 < ((rd_L1 l0_0 x5_1).length : Int)
           ·rw [if_pos c14] at H
            have c14b0 : decide (a1 < ((rd_L1 l0_0 x5_1).length : Int)) = true := decide_eq_true c14
            clear c14
            replace H := Option.bind_eq_some_iff.mp H
            obtain ⟨t951, A150, H⟩ := H
            replace H : (if t951 = true then (spec_l05Row.l0 k1 a1 x6_1 (wrap64 (x6_1 + 1)) l0_0 a0_1 l0_2) else (spec_l05Row.l0 k1 a1 x5_1 (wrap64 (x6_1 + 1)) l0_0 a0_1 l0_2)) = some r := H
            have A15 := Aside0.mk A150
            clear A150
            by_cases c16 : t951 = true
            ·subst c16
             have H1 : (spec_l05Row.l0 k1 a1 x6_1 (wrap64 (x6_1 + 1)) l0_0 a0_1 l0_2) = some r := by rw [if_pos rfl] at H; exact H
             clear H
             have H := H1
             clear H1
             have H' := Aside0.mk H
             clear H
             have hcz17_0 : wr.cell? ⟨gb944, 0, none⟩ = some (.slice A0_0 l0_0.length c0_0) := (blk_cell BK944.out 0).trans rfl
             have hcz17_1 : wr.cell? ⟨gb944, 1, none⟩ = some (.int .i64 a0_1) := (blk_cell BK944.out 1).trans rfl
             have hcz17_2 : wr.cell? ⟨gb944, 2, none⟩ = some (.slice A0_2 l0_2.length c0_2) := (blk_cell BK944.out 2).trans rfl
             have hfz17_0 := blk_frozen BK944.out 0
             have hfz17_1 := blk_frozen BK944.out 1
             have hfz17_2 := blk_frozen BK944.out 2
             try go_wp2
             have n0_ := Aside0.mk (blk_drew BK944.out)
             have n1_ := Aside0.mk (below_drew1 HB.out)
             clear BK944
             clear HB
             have BK944 := n0_
             have HB := n1_
             clear n0_ n1_
             have p945 : 0 ≤ (x6_1 : Int) := od_
             have q945 : x6_1 < (l0_0.length : Int) := od_
             obtain ⟨ad945, A945_0, c945_0, e945, hx945_0, hl945_0, hi945_0⟩ := at_L1 HR0_0.out x6_1 p945 q945
             have hw945_0 := hx945_0
             cases e945
             replace hx945_0 := (HB.out.cell (World.block_lt_of_cell? w _ hx945_0)).trans hx945_0
             have HR945_0 := Aside0.mk hi945_0
             have HC945_0 := Aside0.mk hl945_0
             clear hi945_0 hl945_0
             replace p945 := eq_true p945
             replace q945 := eq_true q945
             have p946 : 0 ≤ (a1 : Int) := od_
             have q946 : a1 < ((rd_L1 l0_0 x6_1).length : Int) := od_
             obtain ⟨ad946, e946, hx946_0⟩ := Kd.at_int HR945_0.out a1 p946 q946
             have hw946_0 := hx946_0
             cases e946
             replace hx946_0 := (HB.out.cell (World.block_lt_of_cell? w _ hx946_0)).trans hx946_0
             replace p946 := eq_true p946
             replace q946 := eq_true q946
             have p947 : 0 ≤ (x6_1 : Int) := od_
             have q947 : x6_1 < (l0_0.length : Int) := od_
             obtain ⟨ad947, A947_0, c947_0, e947, hx947_0, hl947_0, hi947_0⟩ := at_L1 HR0_0.out x6_1 p947 q947
             have hw947_0 := hx947_0
             obtain rfl : ad945 = ad947 := (by injection e947)
             replace hx947_0 := (HB.out.cell (World.block_lt_of_cell? w _ hx947_0)).trans hx947_0
             have HR947_0 := Aside0.mk hi947_0
             have HC947_0 := Aside0.mk hl947_0
             clear hi947_0 hl947_0
             replace p947 := eq_true p947
             replace q947 := eq_true q947
             have ea_ := Option.some.inj (hx945_0.symm.trans hx947_0)
             injection ea_ with ea_ en_ ec_
             subst ea_
             subst ec_
             clear en_
             have p948 : 0 ≤ (a1 : Int) := od_
             have q948 : a1 < ((rd_L1 l0_0 x6_1).length : Int) := od_
             obtain ⟨ad948, e948, hx948_0⟩ := Kd.at_int HR947_0.out a1 p948 q948
             have hw948_0 := hx948_0
             cases e948
             replace hx948_0 := (HB.out.cell (World.block_lt_of_cell? w _ hx948_0)).trans hx948_0
             replace p948 := eq_true p948
             replace q948 := eq_true q948
             have p949 : 0 ≤ (x5_1 : Int) := od_
             have q949 : x5_1 < (l0_0.length : Int) := od_
             obtain ⟨ad949, A949_0, c949_0, e949, hx949_0, hl949_0, hi949_0⟩ := at_L1 HR0_0.out x5_1 p949 q949
             have hw949_0 := hx949_0
             obtain rfl : ad945 = ad949 := (by injection e949)
             replace hx949_0 := (HB.out.cell (World.block_lt_of_cell? w _ hx949_0)).trans hx949_0
             have HR949_0 := Aside0.mk hi949_0
             have HC949_0 := Aside0.mk hl949_0
             clear hi949_0 hl949_0
             replace p949 := eq_true p949
             replace q949 := eq_true q949
             have p950 : 0 ≤ (a1 : Int) := od_
             have q950 : a1 < ((rd_L1 l0_0 x5_1).length : Int) := od_
             obtain ⟨ad950, e950, hx950_0⟩ := Kd.at_int HR949_0.out a1 p950 q950
             have hw950_0 := hx950_0
             cases e950
             replace hx950_0 := (HB.out.cell (World.block_lt_of_cell? w _ hx950_0)).trans hx950_0
             replace p950 := eq_true p950
             replace q950 := eq_true q950
             refine st_ (n := 35) (S := fun w' => w'.cell? ⟨gb944, 0, none⟩ = some (.slice (some ad945) l0_0.length c0_0) ∧ w'.cell? ⟨gb944, 1, none⟩ = some (.int .i64 a0_1) ∧ w'.cell? ⟨gb944, 2, none⟩ = some (.slice A0_2 l0_2.length c0_2) ∧ w'.cell? (ad945.add (x6_1).toNat) = some (.slice (some ad946) (rd_L1 l0_0 x6_1).length c945_0) ∧ w'.cell? (ad946.add (a1).toNat) = some (.int .i64 (rd (rd_L1 l0_0 x6_1) a1)) ∧ w'.cell? (ad945.add (x6_1).toNat) = some (.slice (some ad946) (rd_L1 l0_0 x6_1).length c945_0) ∧ w'.cell? (ad946.add (a1).toNat) = some (.int .i64 (rd (rd_L1 l0_0 x6_1) a1)) ∧ w'.cell? (ad945.add (x5_1).toNat) = some (.slice (some ad950) (rd_L1 l0_0 x5_1).length c949_0) ∧ w'.cell? (ad950.add (a1).toNat) = some (.int .i64 (rd (rd_L1 l0_0 x5_1) a1))) (ds := []) ⟨(blk_cell BK944.out 0).trans rfl, (blk_cell BK944.out 1).trans rfl, (blk_cell BK944.out 2).trans rfl, ((HB.out.cell (World.block_lt_of_cell? w _ hw945_0)).trans hw945_0), ((HB.out.cell (World.block_lt_of_cell? w _ hw946_0)).trans hw946_0), ((HB.out.cell (World.block_lt_of_cell? w _ hw947_0)).trans hw947_0), ((HB.out.cell (World.block_lt_of_cell? w _ hw948_0)).trans hw948_0), ((HB.out.cell (World.block_lt_of_cell? w _ hw949_0)).trans hw949_0), ((HB.out.cell (World.block_lt_of_cell? w _ hw950_0)).trans hw950_0)⟩ (fun hHeld => ?_); refine with_tabW spec_l05Row.tab5 spec_l05Row.bits5 (fun HT_ HW_ => ?_)
             generalize wr.drew = w18 at BK944 HB HR945_0 HR947_0 HR949_0 hx945_0 hx946_0 hx947_0 hx948_0 hx949_0 hx950_0 hHeld ⊢
             refine pu_ 0 14 ?_; refine pu_ 2 16 ?_; refine pu_ 5 19 ?_; refine tk_ 1 15 ?_; refine pu_ 3 17 ?_; refine tk_ 4 18 ?_; refine pu_ 6 20 ?_; refine tk_ 7 21 ?_; refine pu_ 8 22 ?_; refine pu_ 9 23 ?_; refine pu_ 10 24 ?_; refine pu_ 11 25 ?_; refine pu_ 12 26 ?_; refine pu_ 14 28 ?_; refine pu_ 15 29 ?_; refine pu_ 16 30 ?_; refine pu_ 18 32 ?_; refine pu_ 21 35 ?_; refine pu_ 24 38 ?_; refine pu_ 26 40 ?_; refine pu_ 29 43 ?_; refine tk_ 13 27 ?_; refine tk_ 17 31 ?_; refine pu_ 19 33 ?_; refine tk_ 20 34 ?_; refine pu_ 22 36 ?_; refine tk_ 23 37 ?_; refine tk_ 25 39 ?_; refine pu_ 27 41 ?_; refine tk_ 28 42 ?_; refine pu_ 30 44 ?_; refine tk_ 31 45 ?_
             refine on_ 32 (some 46) (fun K hK => ?_)
             refine goes_ Try.func117 (by kernel_rfl) rfl #[.agg #[.slice (some ad945) l0_0.length c0_0, .int .i64 a0_1, .slice A0_2 l0_2.length c0_2], .int .i64 x6_1, .int .i64 x5_1, .int .i64 (rd (rd_L1 l0_0 x6_1) a1), .int .i64 (rd (rd_L1 l0_0 x5_1) a1)] (by rfl) rfl rfl (by (try simp only [List.map_toArray, List.map_cons, List.map_nil]); first | done | rfl | (simp only [List.length_drop, List.length_take]; rfl)) ?_
             with_reducible refine (spec_l05Key.calls k1 _ _ l0_0 a0_1 _ _ l0_2 x6_1 x5_1 (rd (rd_L1 l0_0 x6_1) a1) (rd (rd_L1 l0_0 x5_1) a1) true _ ?side1 ?side2 ?side3 ?side4 A15.out).mono ?_
             (case side1 => exact cb_ HR0_0.out HB.out)
             (case side2 => exact HC0_0.out)
             (case side3 => exact cb_ HR0_2.out HB.out)
             (case side4 => exact HC0_2.out)
             rintro e w19 ⟨rfl, hb⟩
             refine ⟨_, rfl, ?_⟩
             have n0_ := Aside0.mk (bb_ BK944.out hb)
             have n1_ := Aside0.mk (bs_ hb)
             clear BK944
             clear HB
             have BK944 := n0_
             have HB := n1_
             clear n0_ n1_
             (try clear hb)
             (try clear hb2)
             (try clear hk)
             (try clear hi)
             refine hK.out _ _ ⟨(blk_cell BK944.out 0).trans rfl, (blk_cell BK944.out 1).trans rfl, (blk_cell BK944.out 2).trans rfl, ((HB.out.cell (World.block_lt_of_cell? w _ hw945_0)).trans hw945_0), ((HB.out.cell (World.block_lt_of_cell? w _ hw946_0)).trans hw946_0), ((HB.out.cell (World.block_lt_of_cell? w _ hw947_0)).trans hw947_0), ((HB.out.cell (World.block_lt_of_cell? w _ hw948_0)).trans hw948_0), ((HB.out.cell (World.block_lt_of_cell? w _ hw949_0)).trans hw949_0), ((HB.out.cell (World.block_lt_of_cell? w _ hw950_0)).trans hw950_0)⟩ (fun hHeld => ?_)
             clear hK K
             refine norm_ (a' := ?_) ?_ ?_
             rotate_left
             ·show Act.put _ (some 46) _ = _
              simp only [Act.put, List.setIfInBounds_toArray, List.set_cons_zero, List.set_cons_succ, i64_w, i32_w]
              rfl
             refine pu_ 33 47 ?_; refine pu_ 34 48 ?_
             refine done_ (done_of HT_.out (by kernel_rfl)) ?_
             try go_wp2
             go_roundg k1
             case measure => have := HK1.out; omega
             case rel => exact ⟨(x6_1), (wrap64 (x6_1 + 1)), rs_, rs_, H', ⟨by have := HK1.out; omega⟩, ⟨bk_⟩, ⟨hb_⟩⟩
            ·replace c16 := Bool.eq_false_iff.mpr c16
             subst c16
             have H1 : (spec_l05Row.l0 k1 a1 x5_1 (wrap64 (x6_1 + 1)) l0_0 a0_1 l0_2) = some r := by rw [if_neg (show ¬ (false = true) by decide)] at H; exact H
             clear H
             have H := H1
             clear H1
             have H' := Aside0.mk H
             clear H
             have hcz20_0 : wr.cell? ⟨gb944, 0, none⟩ = some (.slice A0_0 l0_0.length c0_0) := (blk_cell BK944.out 0).trans rfl
             have hcz20_1 : wr.cell? ⟨gb944, 1, none⟩ = some (.int .i64 a0_1) := (blk_cell BK944.out 1).trans rfl
             have hcz20_2 : wr.cell? ⟨gb944, 2, none⟩ = some (.slice A0_2 l0_2.length c0_2) := (blk_cell BK944.out 2).trans rfl
             have hfz20_0 := blk_frozen BK944.out 0
             have hfz20_1 := blk_frozen BK944.out 1
             have hfz20_2 := blk_frozen BK944.out 2
             try go_wp2
             have n0_ := Aside0.mk (blk_drew BK944.out)
             have n1_ := Aside0.mk (below_drew1 HB.out)
             clear BK944
             clear HB
             have BK944 := n0_
             have HB := n1_
             clear n0_ n1_
             have p945 : 0 ≤ (x6_1 : Int) := od_
             have q945 : x6_1 < (l0_0.length : Int) := od_
             obtain ⟨ad945, A945_0, c945_0, e945, hx945_0, hl945_0, hi945_0⟩ := at_L1 HR0_0.out x6_1 p945 q945
             have hw945_0 := hx945_0
             cases e945
             replace hx945_0 := (HB.out.cell (World.block_lt_of_cell? w _ hx945_0)).trans hx945_0
             have HR945_0 := Aside0.mk hi945_0
             have HC945_0 := Aside0.mk hl945_0
             clear hi945_0 hl945_0
             replace p945 := eq_true p945
             replace q945 := eq_true q945
             have p946 : 0 ≤ (a1 : Int) := od_
             have q946 : a1 < ((rd_L1 l0_0 x6_1).length : Int) := od_
             obtain ⟨ad946, e946, hx946_0⟩ := Kd.at_int HR945_0.out a1 p946 q946
             have hw946_0 := hx946_0
             cases e946
             replace hx946_0 := (HB.out.cell (World.block_lt_of_cell? w _ hx946_0)).trans hx946_0
             replace p946 := eq_true p946
             replace q946 := eq_true q946
             have p947 : 0 ≤ (x6_1 : Int) := od_
             have q947 : x6_1 < (l0_0.length : Int) := od_
             obtain ⟨ad947, A947_0, c947_0, e947, hx947_0, hl947_0, hi947_0⟩ := at_L1 HR0_0.out x6_1 p947 q947
             have hw947_0 := hx947_0
             obtain rfl : ad945 = ad947 := (by injection e947)
             replace hx947_0 := (HB.out.cell (World.block_lt_of_cell? w _ hx947_0)).trans hx947_0
             have HR947_0 := Aside0.mk hi947_0
             have HC947_0 := Aside0.mk hl947_0
             clear hi947_0 hl947_0
             replace p947 := eq_true p947
             replace q947 := eq_true q947
             have ea_ := Option.some.inj (hx945_0.symm.trans hx947_0)
             injection ea_ with ea_ en_ ec_
             subst ea_
             subst ec_
             clear en_
             have p948 : 0 ≤ (a1 : Int) := od_
             have q948 : a1 < ((rd_L1 l0_0 x6_1).length : Int) := od_
             obtain ⟨ad948, e948, hx948_0⟩ := Kd.at_int HR947_0.out a1 p948 q948
             have hw948_0 := hx948_0
             cases e948
             replace hx948_0 := (HB.out.cell (World.block_lt_of_cell? w _ hx948_0)).trans hx948_0
             replace p948 := eq_true p948
             replace q948 := eq_true q948
             have p949 : 0 ≤ (x5_1 : Int) := od_
             have q949 : x5_1 < (l0_0.length : Int) := od_
             obtain ⟨ad949, A949_0, c949_0, e949, hx949_0, hl949_0, hi949_0⟩ := at_L1 HR0_0.out x5_1 p949 q949
             have hw949_0 := hx949_0
             obtain rfl : ad945 = ad949 := (by injection e949)
             replace hx949_0 := (HB.out.cell (World.block_lt_of_cell? w _ hx949_0)).trans hx949_0
             have HR949_0 := Aside0.mk hi949_0
             have HC949_0 := Aside0.mk hl949_0
             clear hi949_0 hl949_0
             replace p949 := eq_true p949
             replace q949 := eq_true q949
             have p950 : 0 ≤ (a1 : Int) := od_
             have q950 : a1 < ((rd_L1 l0_0 x5_1).length : Int) := od_
             obtain ⟨ad950, e950, hx950_0⟩ := Kd.at_int HR949_0.out a1 p950 q950
             have hw950_0 := hx950_0
             cases e950
             replace hx950_0 := (HB.out.cell (World.block_lt_of_cell? w _ hx950_0)).trans hx950_0
             replace p950 := eq_true p950
             replace q950 := eq_true q950
             refine st_ (n := 35) (S := fun w' => w'.cell? ⟨gb944, 0, none⟩ = some (.slice (some ad945) l0_0.length c0_0) ∧ w'.cell? ⟨gb944, 1, none⟩ = some (.int .i64 a0_1) ∧ w'.cell? ⟨gb944, 2, none⟩ = some (.slice A0_2 l0_2.length c0_2) ∧ w'.cell? (ad945.add (x6_1).toNat) = some (.slice (some ad946) (rd_L1 l0_0 x6_1).length c945_0) ∧ w'.cell? (ad946.add (a1).toNat) = some (.int .i64 (rd (rd_L1 l0_0 x6_1) a1)) ∧ w'.cell? (ad945.add (x6_1).toNat) = some (.slice (some ad946) (rd_L1 l0_0 x6_1).length c945_0) ∧ w'.cell? (ad946.add (a1).toNat) = some (.int .i64 (rd (rd_L1 l0_0 x6_1) a1)) ∧ w'.cell? (ad945.add (x5_1).toNat) = some (.slice (some ad950) (rd_L1 l0_0 x5_1).length c949_0) ∧ w'.cell? (ad950.add (a1).toNat) = some (.int .i64 (rd (rd_L1 l0_0 x5_1) a1))) (ds := []) ⟨(blk_cell BK944.out 0).trans rfl, (blk_cell BK944.out 1).trans rfl, (blk_cell BK944.out 2).trans rfl, ((HB.out.cell (World.block_lt_of_cell? w _ hw945_0)).trans hw945_0), ((HB.out.cell (World.block_lt_of_cell? w _ hw946_0)).trans hw946_0), ((HB.out.cell (World.block_lt_of_cell? w _ hw947_0)).trans hw947_0), ((HB.out.cell (World.block_lt_of_cell? w _ hw948_0)).trans hw948_0), ((HB.out.cell (World.block_lt_of_cell? w _ hw949_0)).trans hw949_0), ((HB.out.cell (World.block_lt_of_cell? w _ hw950_0)).trans hw950_0)⟩ (fun hHeld => ?_); refine with_tabW spec_l05Row.tab5 spec_l05Row.bits5 (fun HT_ HW_ => ?_)
             generalize wr.drew = w21 at BK944 HB HR945_0 HR947_0 HR949_0 hx945_0 hx946_0 hx947_0 hx948_0 hx949_0 hx950_0 hHeld ⊢
             refine pu_ 0 14 ?_; refine pu_ 2 16 ?_; refine pu_ 5 19 ?_; refine tk_ 1 15 ?_; refine pu_ 3 17 ?_; refine tk_ 4 18 ?_; refine pu_ 6 20 ?_; refine tk_ 7 21 ?_; refine pu_ 8 22 ?_; refine pu_ 9 23 ?_; refine pu_ 10 24 ?_; refine pu_ 11 25 ?_; refine pu_ 12 26 ?_; refine pu_ 14 28 ?_; refine pu_ 15 29 ?_; refine pu_ 16 30 ?_; refine pu_ 18 32 ?_; refine pu_ 21 35 ?_; refine pu_ 24 38 ?_; refine pu_ 26 40 ?_; refine pu_ 29 43 ?_; refine tk_ 13 27 ?_; refine tk_ 17 31 ?_; refine pu_ 19 33 ?_; refine tk_ 20 34 ?_; refine pu_ 22 36 ?_; refine tk_ 23 37 ?_; refine tk_ 25 39 ?_; refine pu_ 27 41 ?_; refine tk_ 28 42 ?_; refine pu_ 30 44 ?_; refine tk_ 31 45 ?_
             refine on_ 32 (some 46) (fun K hK => ?_)
             refine goes_ Try.func117 (by kernel_rfl) rfl #[.agg #[.slice (some ad945) l0_0.length c0_0, .int .i64 a0_1, .slice A0_2 l0_2.length c0_2], .int .i64 x6_1, .int .i64 x5_1, .int .i64 (rd (rd_L1 l0_0 x6_1) a1), .int .i64 (rd (rd_L1 l0_0 x5_1) a1)] (by rfl) rfl rfl (by (try simp only [List.map_toArray, List.map_cons, List.map_nil]); first | done | rfl | (simp only [List.length_drop, List.length_take]; rfl)) ?_
             with_reducible refine (spec_l05Key.calls k1 _ _ l0_0 a0_1 _ _ l0_2 x6_1 x5_1 (rd (rd_L1 l0_0 x6_1) a1) (rd (rd_L1 l0_0 x5_1) a1) false _ ?side1 ?side2 ?side3 ?side4 A15.out).mono ?_
             (case side1 => exact cb_ HR0_0.out HB.out)
             (case side2 => exact HC0_0.out)
             (case side3 => exact cb_ HR0_2.out HB.out)
             (case side4 => exact HC0_2.out)
             rintro e w22 ⟨rfl, hb⟩
             refine ⟨_, rfl, ?_⟩
             have n0_ := Aside0.mk (bb_ BK944.out hb)
             have n1_ := Aside0.mk (bs_ hb)
             clear BK944
             clear HB
             have BK944 := n0_
             have HB := n1_
             clear n0_ n1_
             (try clear hb)
             (try clear hb2)
             (try clear hk)
             (try clear hi)
             refine hK.out _ _ ⟨(blk_cell BK944.out 0).trans rfl, (blk_cell BK944.out 1).trans rfl, (blk_cell BK944.out 2).trans rfl, ((HB.out.cell (World.block_lt_of_cell? w _ hw945_0)).trans hw945_0), ((HB.out.cell (World.block_lt_of_cell? w _ hw946_0)).trans hw946_0), ((HB.out.cell (World.block_lt_of_cell? w _ hw947_0)).trans hw947_0), ((HB.out.cell (World.block_lt_of_cell? w _ hw948_0)).trans hw948_0), ((HB.out.cell (World.block_lt_of_cell? w _ hw949_0)).trans hw949_0), ((HB.out.cell (World.block_lt_of_cell? w _ hw950_0)).trans hw950_0)⟩ (fun hHeld => ?_)
             clear hK K
             refine norm_ (a' := ?_) ?_ ?_
             rotate_left
             ·show Act.put _ (some 46) _ = _
              simp only [Act.put, List.setIfInBounds_toArray, List.set_cons_zero, List.set_cons_succ, i64_w, i32_w]
              rfl
             refine pu_ 33 47 ?_; refine pu_ 34 48 ?_
             refine done_ (done_of HT_.out (by kernel_rfl)) ?_
             try go_wp2
             go_roundg k1
             case measure => have := HK1.out; omega
             case rel => exact ⟨(x5_1), (wrap64 (x6_1 + 1)), rs_, rs_, H', ⟨by have := HK1.out; omega⟩, ⟨bk_⟩, ⟨hb_⟩⟩
           ·rw [if_neg c14] at H
            exact absurd H (by simp)
          ·rw [if_neg c13] at H
           exact absurd H (by simp)
         ·rw [if_neg c12] at H
          exact absurd H (by simp)
       ·rw [if_neg c8] at H
        have c8b0 : decide (0 < (rd (rd_L1 l0_0 x6_1) a1)) = false := decide_eq_false c8
        clear c8
        have H' := Aside0.mk H
        clear H
        have hcz23_0 : wr.cell? ⟨gb944, 0, none⟩ = some (.slice A0_0 l0_0.length c0_0) := (blk_cell BK944.out 0).trans rfl
        have hcz23_1 : wr.cell? ⟨gb944, 1, none⟩ = some (.int .i64 a0_1) := (blk_cell BK944.out 1).trans rfl
        have hcz23_2 : wr.cell? ⟨gb944, 2, none⟩ = some (.slice A0_2 l0_2.length c0_2) := (blk_cell BK944.out 2).trans rfl
        have hfz23_0 := blk_frozen BK944.out 0
        have hfz23_1 := blk_frozen BK944.out 1
        have hfz23_2 := blk_frozen BK944.out 2
        try go_wp2
        have n0_ := Aside0.mk (blk_drew BK944.out)
        have n1_ := Aside0.mk (below_drew1 HB.out)
        clear BK944
        clear HB
        have BK944 := n0_
        have HB := n1_
        clear n0_ n1_
        have p945 : 0 ≤ (x6_1 : Int) := od_
        have q945 : x6_1 < (l0_0.length : Int) := od_
        obtain ⟨ad945, A945_0, c945_0, e945, hx945_0, hl945_0, hi945_0⟩ := at_L1 HR0_0.out x6_1 p945 q945
        have hw945_0 := hx945_0
        cases e945
        replace hx945_0 := (HB.out.cell (World.block_lt_of_cell? w _ hx945_0)).trans hx945_0
        have HR945_0 := Aside0.mk hi945_0
        have HC945_0 := Aside0.mk hl945_0
        clear hi945_0 hl945_0
        replace p945 := eq_true p945
        replace q945 := eq_true q945
        have p946 : 0 ≤ (a1 : Int) := od_
        have q946 : a1 < ((rd_L1 l0_0 x6_1).length : Int) := od_
        obtain ⟨ad946, e946, hx946_0⟩ := Kd.at_int HR945_0.out a1 p946 q946
        have hw946_0 := hx946_0
        cases e946
        replace hx946_0 := (HB.out.cell (World.block_lt_of_cell? w _ hx946_0)).trans hx946_0
        replace p946 := eq_true p946
        replace q946 := eq_true q946
        refine st_ (n := 35) (S := fun w' => w'.cell? ⟨gb944, 0, none⟩ = some (.slice (some ad945) l0_0.length c0_0) ∧ w'.cell? ⟨gb944, 1, none⟩ = some (.int .i64 a0_1) ∧ w'.cell? ⟨gb944, 2, none⟩ = some (.slice A0_2 l0_2.length c0_2) ∧ w'.cell? (ad945.add (x6_1).toNat) = some (.slice (some ad946) (rd_L1 l0_0 x6_1).length c945_0) ∧ w'.cell? (ad946.add (a1).toNat) = some (.int .i64 (rd (rd_L1 l0_0 x6_1) a1))) (ds := []) ⟨(blk_cell BK944.out 0).trans rfl, (blk_cell BK944.out 1).trans rfl, (blk_cell BK944.out 2).trans rfl, ((HB.out.cell (World.block_lt_of_cell? w _ hw945_0)).trans hw945_0), ((HB.out.cell (World.block_lt_of_cell? w _ hw946_0)).trans hw946_0)⟩ (fun hHeld => ?_); refine with_tabW spec_l05Row.tab5 spec_l05Row.bits5 (fun HT_ HW_ => ?_)
        generalize wr.drew = w24 at BK944 HB HR945_0 hx945_0 hx946_0 hHeld ⊢
        refine pu_ 0 14 ?_; refine pu_ 2 16 ?_; refine pu_ 5 19 ?_; refine tk_ 1 15 ?_; refine pu_ 3 17 ?_; refine tk_ 4 18 ?_; refine pu_ 6 20 ?_; refine tk_ 7 21 ?_; refine pu_ 8 22 ?_; refine pu_ 9 23 ?_; refine pn_ 10 24 ?_; refine pn_ 11 25 ?_; refine pn_ 12 26 ?_; refine pn_ 13 27 ?_; refine pn_ 14 28 ?_; refine pn_ 15 29 ?_; refine pn_ 16 30 ?_; refine pn_ 17 31 ?_; refine pn_ 18 32 ?_; refine pn_ 19 33 ?_; refine pn_ 20 34 ?_; refine pn_ 21 35 ?_; refine pn_ 22 36 ?_; refine pn_ 23 37 ?_; refine pn_ 24 38 ?_; refine pn_ 25 39 ?_; refine pn_ 26 40 ?_; refine pn_ 27 41 ?_; refine pn_ 28 42 ?_; refine pn_ 29 43 ?_; refine pn_ 30 44 ?_; refine pn_ 31 45 ?_; refine pn_ 32 46 ?_; refine pn_ 33 47 ?_; refine pu_ 34 48 ?_
        refine done_ (done_of HT_.out (by kernel_rfl)) ?_
        try go_wp2
        go_roundg k1
        case measure => have := HK1.out; omega
        case rel => exact ⟨(x5_1), (wrap64 (x6_1 + 1)), rs_, rs_, H', ⟨by have := HK1.out; omega⟩, ⟨bk_⟩, ⟨hb_⟩⟩
      ·rw [if_neg c7] at H
       exact absurd H (by simp)
     ·rw [if_neg c6] at H
      exact absurd H (by simp)
    ·rw [if_neg c5] at H
     exact absurd H (by simp)
   ·rw [if_neg c4] at H
    have c4b0 : decide (x6_1 < (l0_0.length : Int)) = false := decide_eq_false c4
    clear c4
    obtain rfl := Option.some.inj H
    have hcz25_0 : wr.cell? ⟨gb944, 0, none⟩ = some (.slice A0_0 l0_0.length c0_0) := (blk_cell BK944.out 0).trans rfl
    have hcz25_1 : wr.cell? ⟨gb944, 1, none⟩ = some (.int .i64 a0_1) := (blk_cell BK944.out 1).trans rfl
    have hcz25_2 : wr.cell? ⟨gb944, 2, none⟩ = some (.slice A0_2 l0_2.length c0_2) := (blk_cell BK944.out 2).trans rfl
    have hfz25_0 := blk_frozen BK944.out 0
    have hfz25_1 := blk_frozen BK944.out 1
    have hfz25_2 := blk_frozen BK944.out 2
    go_wp2
    go_ret
    exact ⟨by first | rfl | (simp [errW_none, errW_some] <;> rfl) | (simp [*, errW_none, errW_some] <;> rfl), hb_⟩
def spec_l05Partner.f (a0 : Int) (a1 : Int) : Option (Int) := if a0 < a1 then (some (wrap64 (a0 + a1))) else (some (wrap64 (a0 - a1)))
theorem spec_l05Partner.calls (a0 : Int) (a1 : Int) (r : Int) (w : World) (h : spec_l05Partner.f a0 a1 = some r) :
  Calls Try.prog 120 #[.int .i64 a0, .int .i64 a1] w fun e w' => e = .returned (.int .i64 r) ∧ Drawn0 w w' := by
 have H : (if a0 < a1 then (some (wrap64 (a0 + a1))) else (some (wrap64 (a0 - a1)))) = some r := h
 clear h
 by_cases c3 : a0 < a1
 ·rw [if_pos c3] at H
  have c3b0 : decide (a0 < a1) = true := decide_eq_true c3
  clear c3
  obtain rfl := Option.some.inj H
  go_enter Try.func120, Try.ntmps120
  go_wp2
  go_ret
  exact ⟨by first | rfl | (simp; done) | (simp [*]; done), by repeat (first | exact Drawn0.refl _ | apply Drawn0.step)⟩
 ·rw [if_neg c3] at H
  have c3b0 : decide (a0 < a1) = false := decide_eq_false c3
  clear c3
  obtain rfl := Option.some.inj H
  go_enter Try.func120, Try.ntmps120
  go_wp2
  go_ret
  exact ⟨by first | rfl | (simp; done) | (simp [*]; done), by repeat (first | exact Drawn0.refl _ | apply Drawn0.step)⟩
end Go.Proofs.Ythdoilfjcgickaa.Pr
end
section
namespace Go.Proofs.Ythdoilfjcgickaa.Lp
open Go.RowKit Go.Proofs.YthdoilfjcgickaaW.PrintWords Go.Proofs.YthdoilfjcgickaaW.PrintLast Go.Proofs.YthdoilfjcgickaaW.PrintMore Go.Proofs.Ythdoilfjcgickaa.Pr Go.Proofs.Ythdoilfjcgickaa.Ma Go.Proofs.Ythdoilfjcgickaa.Dt Go.Proofs.Ythdoilfjcgickaa.Lk Go.Proofs.Ythdoilfjcgickaa.Lt Go.Proofs.Ythdoilfjcgickaa.Lq
theorem tb_reads {w : World} {A0 : Option Addr} {L : List (List Int)} {n m : Nat} (hC : Kd.C (Kd.slice 2 (Kd.int .i64)) w A0 L.length L) (hL : L.length = n) (hr : ∀ x ∈ L, x.length = m) (hn : 0 < n) (hm : 0 < m) :
  ∃ (ad : Addr) (b : Nat → Addr) (cp : Nat → Nat), A0 = some ad ∧ (∀ i, i < n → w.cell? (ad.add i) = some (.slice (some (b i)) m (cp i))) ∧ ∀ i j, i < n → j < m → w.cell? ((b i).add j) = some (.int .i64 (enL L i j)) := by
 subst hL
 have key : ∀ i, ∃ x : Addr × Addr × Nat, i < L.length → A0 = some x.1 ∧ w.cell? (x.1.add i) = some (.slice (some x.2.1) m x.2.2) ∧ ∀ j, j < m → w.cell? (x.2.1.add j) = some (.int .i64 (enL L i j)) := by
  intro i
  by_cases hi : i < L.length
  ·obtain ⟨ad, A', c', eA, hx, hc', hC'⟩ := at_L1 hC (i : Int) (by omega) (by omega)
   have el : rd_L1 L (i : Int) = L.getD i [] := by simp [rd_L1]
   rw [el] at hx hc' hC'
   have eln : (L.getD i []).length = m := hr _ (by rw [List.getD_eq_getElem?_getD, List.getElem?_eq_getElem hi]; exact List.getElem_mem _)
   obtain ⟨ad2, eA2, _⟩ := Kd.at_int hC' 0 (by omega) (by omega)
   subst eA2
   refine ⟨(ad, ad2, c'), fun _ => ⟨eA, by rw [eln, Int.toNat_natCast] at hx; exact hx, fun j hj => ?_⟩⟩
   obtain ⟨ad3, eA3, hx3⟩ := Kd.at_int hC' (j : Int) (by omega) (by omega)
   injection eA3 with eA3
   subst eA3
   rw [Int.toNat_natCast, rd_nat] at hx3
   exact hx3
  ·exact ⟨(⟨0, 0, none⟩, ⟨0, 0, none⟩, 0), fun h => absurd h hi⟩
 obtain ⟨f, hf⟩ := Classical.axiomOfChoice key
 refine ⟨(f 0).1, fun i => (f i).2.1, fun i => (f i).2.2, (hf 0 hn).1, fun i hi => ?_, fun i j hi hj => (hf i hi).2.2 j hj⟩
 have e1 := (hf 0 hn).1
 have e2 := (hf i hi).1
 rw [e1] at e2
 injection e2 with e2
 rw [e2]; exact (hf i hi).2.1
def rowsM (n m : Nat) (Y : Mat) : List (List Int) := (List.range n).map (fun a => rowN Y a m)
theorem rowsM_len (n m : Nat) (Y : Mat) : (rowsM n m Y).length = n := by simp [rowsM]
theorem rowsM_next (n m : Nat) (Y : Mat) : rowsM (n + 1) m Y = rowsM n m Y ++ [rowN Y n m] := by unfold rowsM; rw [List.range_succ, List.map_append]; rfl
theorem rowN_next (Y : Mat) (i k : Nat) : rowN Y i (k + 1) = rowN Y i k ++ [Y i k] := by unfold rowN; rw [List.range_succ, List.map_append]; rfl
theorem rowsM_at {n m : Nat} {Y : Mat} {i : Nat} (hi : i < n) : (rowsM n m Y).getD i [] = rowN Y i m := by unfold rowsM; rw [List.getD_eq_getElem?_getD, List.getElem?_map, List.getElem?_range hi]; rfl
theorem rowN_at {m : Nat} {Y : Mat} {i k : Nat} (hk : k < m) : (rowN Y i m).getD k 0 = Y i k := by unfold rowN; rw [List.getD_eq_getElem?_getD, List.getElem?_map, List.getElem?_range hk]; rfl
theorem rowsM_congr {n m : Nat} {Y Z : Mat} (h : ∀ i j, i < n → j < m → Y i j = Z i j) : rowsM n m Y = rowsM n m Z := List.map_congr_left (fun i hi => List.map_congr_left (fun j hj => h i j (List.mem_range.1 hi) (List.mem_range.1 hj)))
theorem rowsM_set {n m : Nat} {Y : Mat} {i k : Nat} (x : Int) : (rowsM n m Y).set i ((rowN Y i m).set k x) = rowsM n m (mset Y i k x) := by
 refine List.ext_getElem (by simp [rowsM]) (fun a h1 h2 => ?_)
 rw [List.getElem_set]
 have ha : a < n := by simpa [rowsM] using h2
 simp only [rowsM, List.getElem_map, List.getElem_range]
 by_cases e : i = a
 ·subst e
  rw [if_pos rfl]
  refine List.ext_getElem (by simp [rowN]) (fun b h3 h4 => ?_)
  rw [List.getElem_set]
  simp only [rowN, List.getElem_map, List.getElem_range, mset]
  by_cases e2 : k = b
  ·subst e2; simp
  ·rw [if_neg e2, if_neg (fun q => e2 q.2.symm)]
 ·rw [if_neg e]
  refine List.map_congr_left (fun b _ => ?_)
  unfold mset
  rw [if_neg (fun q => e q.1.symm)]
structure Pt (w wr : World) (g7 : Nat) (u0 u2 : Value) (den : Int) (L : List (List Int)) (B : List Int) : Prop where
 below : Below w.heap.size w wr
 g : w.heap.size ≤ g7
 blk : wr.heap[g7]? = some (.cells #[u0, .int .i64 den, u2] 101 (0, 0))
 S : Kd.S (Kd.slice 2 (Kd.int .i64)) 23 wr w.heap.size (fun k => some k ≠ u2.ownBlock) u0 L
 R : Kd.R (Kd.int .i64) 2 wr w.heap.size (fun _ => True) u2 B
structure Pu (w wr : World) (g7 : Nat) (u0 u2 : Value) (den : Int) (L : List (List Int)) (B : List Int) (v : Value) (X : List Int) : Prop where
 below : Below w.heap.size w wr
 g : w.heap.size ≤ g7
 blk : wr.heap[g7]? = some (.cells #[u0, .int .i64 den, u2] 101 (0, 0))
 S : Kd.S (Kd.slice 2 (Kd.int .i64)) 23 wr w.heap.size (fun k => some k ≠ u2.ownBlock ∧ some k ≠ v.ownBlock) u0 L
 R : Kd.R (Kd.int .i64) 2 wr w.heap.size (fun k => True ∧ some k ≠ v.ownBlock) u2 B
 X : Kd.R (Kd.int .i64) 2 wr w.heap.size (fun k => some k ≠ u2.ownBlock) v X
section
variable {w wr w1 : World} {g7 : Nat} {u0 u2 v v1 : Value} {den : Int} {L : List (List Int)} {B X Y : List Int}
theorem Pt.mv (h : Pt w wr g7 u0 u2 den L B) (hb : Below wr.heap.size wr w1) : Pt w w1 g7 u0 u2 den L B :=
 ⟨below_step h.below hb, h.g, blk_below h.blk hb, Kd.S_below h.S hb, Kd.R_below h.R hb⟩
theorem Pu.mv (h : Pu w wr g7 u0 u2 den L B v X) (hb : Below wr.heap.size wr w1) : Pu w w1 g7 u0 u2 den L B v X :=
 ⟨below_step h.below hb, h.g, blk_below h.blk hb, Kd.S_below h.S hb, Kd.R_below h.R hb, Kd.R_below h.X hb⟩
theorem Pu.new (h : Pt w wr g7 u0 u2 den L B) (hb : Below wr.heap.size wr w1) (hX : Kd.R (Kd.int .i64) 2 w1 wr.heap.size (fun _ => True) v X) : Pu w w1 g7 u0 u2 den L B v X :=
 ⟨below_step h.below hb, h.g, blk_below h.blk hb, Kd.S_elder' h.S (Kd.R_base hX) hb, Kd.R_elder' h.R (Kd.R_base hX) hb, Kd.R_mono (Kd.R_lower (Kd.R_new' hX (Kd.R_lt h.R)) h.below.size) (fun _ hk => hk.2)⟩
theorem Pu.grow (h : Pu w wr g7 u0 u2 den L B v X) (hb : Below w.heap.size w w1) (hg : wr.grownBy w1 v.ownBlock) (hat : v1.ownBlock = v.ownBlock ∨ ∃ b, v1.ownBlock = some b ∧ wr.heap.size ≤ b) (hX : Kd.R (Kd.int .i64) 2 w1 w.heap.size (fun k => some k ≠ u2.ownBlock) v1 Y) : Pu w w1 g7 u0 u2 den L B v1 Y :=
 ⟨hb, h.g, blk_grown h.blk hg (Kd.R_ne h.X h.blk (by decide)), Kd.S_after h.S hg hat, Kd.R_after h.R hg hat, hX⟩
theorem Pu.other (h : Pu w wr g7 u0 u2 den L B v X) (hg : wr.grownBy w1 v.ownBlock) {g : Nat} {cs : Array Value} (hblk : wr.heap[g]? = some (.cells cs 101 (0, 0))) : w1.heap[g]? = some (.cells cs 101 (0, 0)) := blk_grown hblk hg (Kd.R_ne h.X hblk (by decide))
theorem Pt.putB {gb c l : Nat} (h : Pt w wr g7 u0 (.slice (some ⟨gb, 0, none⟩) l c) den L B) (j : Nat) (x : Int) : Pt w (wr.setCell ⟨gb, j, none⟩ (.int .i64 x)) g7 u0 (.slice (some ⟨gb, 0, none⟩) l c) den L (B.set j x) ∧ wr.grownBy (wr.setCell ⟨gb, j, none⟩ (.int .i64 x)) (Value.slice (some ⟨gb, 0, none⟩) l c).ownBlock := by
 have hp := Kd.R_putg h.R (j : Int) x
 rw [Int.toNat_natCast] at hp
 have ho : (Value.slice (some ⟨gb, 0, none⟩) l c).ownBlock = some gb := by simp [Value.ownBlock]
 refine ⟨⟨h.below.setCell (Kd.R_base h.R gb ho) _, h.g, blk_grown h.blk hp.2 (ho ▸ Kd.R_ne h.R h.blk (by decide)), ?_, hp.1⟩, ho ▸ hp.2⟩
 refine Kd.S_mono (Kd.S_step (Kd.S_bound h.S) (fun k hk hlt => hp.2.block k hlt (ho ▸ hk.1))) (fun _ hk => hk.1)
theorem tsetR {α : Type} {d : Kd α} {e base g t j : Nat} {ok : Nat → Prop} {W : World} {u x : Value} {xs : List α} {cs : Array Value} (h : d.R e W base ok u xs) (hg : W.heap[g]? = some (.cells cs t (0, 0))) (ht : ∀ q, q ∈ e :: d.E → q ≠ t) : d.R e (W.setCell ⟨g, j, none⟩ x) base ok u xs := Kd.R_set h hg ht j x
theorem tsetS {α : Type} {d : Kd α} {e base g t j : Nat} {ok : Nat → Prop} {W : World} {u x : Value} {xs : List α} {cs : Array Value} (h : Kd.S d e W base ok u xs) (hg : W.heap[g]? = some (.cells cs t (0, 0))) (ht : ∀ q, q ∈ e :: d.E → q ≠ t) : Kd.S d e (W.setCell ⟨g, j, none⟩ x) base ok u xs :=
 Kd.S_mono (Kd.S_step (Kd.S_bound h) (fun k hk hlt => Below.heap_setCell W ⟨g, j, none⟩ x k (fun e1 => by
  obtain ⟨_, _, _, q, hq, cells, hc⟩ := hk
  have e2 : k = g := e1
  rw [e2, hg] at hc
  injection hc with h1
  injection h1 with _ h2 _
  exact ht q hq h2.symm))) (fun _ hk => hk.1)
theorem Pt.putD (h : Pt w wr g7 u0 u2 den L B) (d : Int) : Pt w (wr.setCell ⟨g7, 1, none⟩ (.int .i64 d)) g7 u0 u2 d L B :=
 ⟨h.below.setCell h.g _, h.g, blk_put h.blk 1 _ rfl, tsetS h.S h.blk (by decide), tsetR h.R h.blk (by decide)⟩
theorem Pt.rows {u : Value} (hb : Below w.heap.size w wr) (hg : w.heap.size ≤ g7) (hblk : wr.heap[g7]? = some (.cells #[u0, .int .i64 den, u2] 101 (0, 0)))
  (hS : Kd.S (Kd.slice 2 (Kd.int .i64)) 23 wr w.heap.size (fun k => some k ≠ u2.ownBlock) u L) (hR : Kd.R (Kd.int .i64) 2 wr w.heap.size (fun _ => True) u2 B) : Pt w (wr.setCell ⟨g7, 0, none⟩ u) g7 u u2 den L B :=
 ⟨hb.setCell hg _, hg, blk_put hblk 0 _ rfl, tsetS hS hblk (by decide), tsetR hR hblk (by decide)⟩
theorem S_row {e base n' cap i : Nat} {W : World} {ok : Nat → Prop} {ad : Addr} {Ls : List (List Int)} (h : Kd.S (Kd.slice 2 (Kd.int .i64)) e W base ok (.slice (some ad) n' cap) Ls) (hi : i < n') : ∃ A c, W.cell? (ad.add i) = some (.slice A (Ls.getD i []).length c) := by
 obtain ⟨oki, c, hcl, hM, hcc, _, _⟩ := Kd.S_borrow h ([] : List Int) (i : Int) (by omega) (by omega)
 rw [Int.toNat_natCast] at hM hcc
 obtain ⟨v, hc, hR⟩ := hM
 subst hc
 have hv := hcc 0 v rfl
 rw [show i * (Kd.slice 2 (Kd.int .i64)).sz + 0 = i from by show i * 1 + 0 = i; omega] at hv
 obtain ⟨A, c, rfl⟩ := Kd.R_slice hR
 exact ⟨A, c, hv⟩
theorem S_put {e base n' cap i k : Nat} {W : World} {ok : Nat → Prop} {ad : Addr} {Ls : List (List Int)} {v13 : Value} (h : Kd.S (Kd.slice 2 (Kd.int .i64)) e W base ok (.slice (some ad) n' cap) Ls) (hi : i < n') (hcell : W.cell? (ad.add i) = some v13) (hk : k < (Ls.getD i []).length) :
  ∃ g c, v13 = .slice (some ⟨g, 0, none⟩) (Ls.getD i []).length c ∧ ok g ∧ some g ≠ (Value.slice (some ad) n' cap).ownBlock ∧ (∃ cells, W.heap[g]? = some (.cells cells 2 (0, 0))) ∧ W.cell? ⟨g, k, none⟩ = some (.int .i64 ((Ls.getD i []).getD k 0)) ∧ W.frozen? ⟨g, k, none⟩ = false ∧ base ≤ g ∧
   ∀ x, W.grownBy (W.setCell ⟨g, k, none⟩ (.int .i64 x)) (some g) ∧ Kd.S (Kd.slice 2 (Kd.int .i64)) e (W.setCell ⟨g, k, none⟩ (.int .i64 x)) base ok (.slice (some ad) n' cap) (Ls.set i ((Ls.getD i []).set k x)) := by
 obtain ⟨oki, c, hcl, hM, hcc, hoki, hback⟩ := Kd.S_borrow h ([] : List Int) (i : Int) (by omega) (by omega)
 rw [Int.toNat_natCast] at hM hcc hback
 obtain ⟨v, hc, hR⟩ := hM
 subst hc
 have hv := hcc 0 v rfl
 rw [show i * (Kd.slice 2 (Kd.int .i64)).sz + 0 = i from by show i * 1 + 0 = i; omega, hcell] at hv
 injection hv with hv
 subst hv
 obtain ⟨g, cap8, hv8, hb8, hl8, cells, hc8⟩ := Kd.R_form hR (by omega)
 have ho : v13.ownBlock = some g := by rw [hv8]; simp [Value.ownBlock]
 have hokg := hR.1 g ho
 rw [hv8] at hR
 have hat := Kd.R_celln 0 hR (k : Int) (by omega) (by omega)
 rw [Int.toNat_natCast] at hat
 refine ⟨g, cap8, hv8, (hoki g hokg).1, (hoki g hokg).2, ⟨cells, hc8⟩, by simpa [rdOf] using hat.1, hat.2, hb8, fun x => ?_⟩
 have hp := Kd.R_putg hR (k : Int) x
 rw [Int.toNat_natCast] at hp
 refine ⟨hp.2, hback hp.2 (fun q hq => by injection hq with hq; rw [← hq]; exact hokg) ⟨_, by rw [hv8], ?_⟩⟩
 have e := hp.1
 rw [show (Ls.getD i []).length = ((Ls.getD i []).set k x).length from by simp] at e ⊢
 exact e
end
end Go.Proofs.Ythdoilfjcgickaa.Lp
end
section
namespace Go.Proofs.Ythdoilfjcgickaa.Lp
open Go.RowKit Go.Proofs.YthdoilfjcgickaaW.PrintWords Go.Proofs.YthdoilfjcgickaaW.PrintLast Go.Proofs.YthdoilfjcgickaaW.PrintMore Go.Proofs.Ythdoilfjcgickaa.Pr Go.Proofs.Ythdoilfjcgickaa.Ma Go.Proofs.Ythdoilfjcgickaa.Dt Go.Proofs.Ythdoilfjcgickaa.Lk Go.Proofs.Ythdoilfjcgickaa.Lt Go.Proofs.Ythdoilfjcgickaa.Lq
theorem own_f (B : List Int) (h : B.length ≤ 1000) : spec_l01Own.f B = some B := by
 unfold spec_l01Own.f
 simp only [Option.bind_some]
 rw [if_pos (by simp; omega)]; rfl
theorem pivot_calls (A0 : Option Addr) (c0 : Nat) (L : List (List Int)) (den : Int) (A2 : Option Addr) (c2 : Nat) (B : List Int) (w : World) (n m r v : Nat)
  (hC0 : Kd.C (Kd.slice 2 (Kd.int .i64)) w A0 L.length L) (hC2 : Kd.C (Kd.int .i64) w A2 B.length B) (hc2 : B.length ≤ c2) (hL : L.length = n) (hr : ∀ x ∈ L, x.length = m) (hrn : r < n) (hv : v < m) (hB : r < B.length) (hB2 : B.length ≤ 1000) (hn2 : n ≤ 1000) (hm2 : m ≤ 1000) (hden : den ≠ 0) :
  Calls Try.prog 119 #[.agg #[.slice A0 L.length c0, .int .i64 den, .slice A2 B.length c2], .int .i64 r, .int .i64 v] w fun e w' => ∃ v0 v2 : Value, e = .returned (.agg #[v0, .int .i64 (stD (enL L) r v), v2]) ∧ Kd.S (Kd.slice 2 (Kd.int .i64)) 23 w' w.heap.size (fun k => some k ≠ v2.ownBlock) v0 (rowsM n m (stT (enL L) den r v)) ∧ Kd.R (Kd.int .i64) 2 w' w.heap.size (fun _ => True) v2 (B.set r (v : Int)) ∧ Below w.heap.size w w' := by
 obtain ⟨ad, b, cp, rfl, hrow, hnum⟩ := tb_reads hC0 hL hr (by omega) (by omega)
 have HB := Aside0.mk (Below.refl w.heap.size w)
 have HROW := Aside0.mk hrow
 have HNUM := Aside0.mk hnum
 have HC2 := Aside0.mk hC2
 have HC2c := Aside0.mk hc2
 have HR := Aside0.mk hrn
 have HV := Aside0.mk hv
 have HB1 := Aside0.mk hB
 have HB2 := Aside0.mk hB2
 have HN2 := Aside0.mk hn2
 have HM2 := Aside0.mk hm2
 have HD := Aside0.mk hden
 rw [hL]
 obtain ⟨T, hT⟩ : ∃ T : Mat, enL L = T := ⟨_, rfl⟩
 rw [hT] at HNUM
 rw [hT]
 obtain ⟨p, hp⟩ : ∃ p, T r v = p := ⟨_, rfl⟩
 have HP := Aside0.mk hp
 have hrz : (r : Int) < (n : Int) := by omega
 have h0r : (0 : Int) ≤ (r : Int) := by omega
 have hvz : (v : Int) < (m : Int) := by omega
 have h0v : (0 : Int) ≤ (v : Int) := by omega
 have hrb : (r : Int) < (B.length : Int) := by omega
 clear hC0 hC2 hc2 hL hr hrn hv hB hB2 hn2 hm2 hden hrow hnum hp hT
 go_enter Try.func119, Try.ntmps119
 go_wp2_with (first | ((with_reducible refine gate_dst (N := 3) rfl ?_); refine box_event ?hg (N := 3) ?hd (cs := #[.slice (some ad) n c0, .int .i64 den, .slice A2 B.length c2]) (t := 101) ?hr ?_; (case hd => rfl); (case hg => rfl); (case hr => first | (go_simp; done) | (go_simp; rfl)); intro g3 hg w3 hbox hb; replace HB := Aside0.mk (below_step HB.out hb); have B3 := Aside0.mk hbox; clear hb hbox hg) | ((with_reducible refine gate_dst (N := 6) rfl ?_); refine box_event ?hg (N := 6) ?hd (cs := #[.slice none 0 0, .int .i64 0, .slice none 0 0]) (t := 101) ?hr ?_; (case hd => rfl); (case hg => rfl); (case hr => first | (go_simp; done) | (go_simp; rfl)); intro g6 hg w4 hbox hb; have HG6 : Aside0 (w.heap.size ≤ g6) := ⟨by rw [hg]; exact HB.out.size⟩; replace HB := Aside0.mk (below_step HB.out hb); replace B3 := Aside0.mk (blk_below B3.out hb); have B6 := Aside0.mk hbox; clear hb hbox hg))
 replace HB := Aside0.mk (below_step HB.out (below_drew (Below.refl w4.heap.size w4)))
 replace B3 := Aside0.mk (blk_below B3.out (below_drew (Below.refl w4.heap.size w4)))
 replace B6 := Aside0.mk (blk_below B6.out (below_drew (Below.refl w4.heap.size w4)))
 have hx1 : w4.drew.cell? (ad.add r) = some (.slice (some (b r)) m (cp r)) := (HB.out.cell (World.block_lt_of_cell? w _ (HROW.out r HR.out))).trans (HROW.out r HR.out)
 have hx2 : w4.drew.cell? ((b r).add v) = some (.int .i64 p) := (HB.out.cell (World.block_lt_of_cell? w _ (HNUM.out r v HR.out HV.out))).trans ((HNUM.out r v HR.out HV.out).trans (by rw [HP.out]))
 refine st_ (n := 23) (S := fun w' => w'.cell? ⟨g3, 0, none⟩ = some (.slice (some ad) n c0) ∧ w'.cell? ⟨g3, 2, none⟩ = some (.slice A2 B.length c2) ∧ w'.cell? (ad.add r) = some (.slice (some (b r)) m (cp r)) ∧ w'.cell? ((b r).add v) = some (.int .i64 p)) (ds := []) ⟨cz_ B3 0, cz_ B3 2, hx1, hx2⟩ (fun hHeld => ?_)
 generalize w4.drew = w5 at HB B3 B6 hx1 hx2 hHeld ⊢
 refine pu_ 0 15 ?_; refine tk_ 1 16 ?_; refine pu_ 2 17 ?_; refine pu_ 3 18 ?_; refine tk_ 4 19 ?_; refine pu_ 5 20 ?_; refine pu_ 6 21 ?_; refine tk_ 7 22 ?_; refine pu_ 8 23 ?_; refine tk_ 9 24 ?_
 refine pu_ 12 27 ?_; refine tk_ 13 28 ?_; refine pu_ 14 29 ?_; refine pu_ 15 30 ?_; refine tk_ 16 31 ?_; refine pu_ 17 32 ?_; refine pu_ 18 33 ?_; refine tk_ 19 34 ?_
 refine join_ (σ := Nat × Value) 2 (fm 23 2097151) (fun s => [(25, s.2), (26, .agg #[.slice none 0 0, .int .i64 p, s.2]), (7, .pointer (some ⟨s.1, 0, none⟩))]) (fun s w' => Below w.heap.size w w' ∧ w.heap.size ≤ s.1 ∧ w'.heap[s.1]? = some (.cells #[.slice none 0 0, .int .i64 0, .slice none 0 0] 101 (0, 0)) ∧ Kd.R (Kd.int .i64) 2 w' w.heap.size (fun _ => True) s.2 B ∧ w'.heap[g3]? = some (.cells #[.slice (some ad) n c0, .int .i64 den, .slice A2 B.length c2] 101 (0, 0)) ∧ w'.heap[g6]? = some (.cells #[.slice none 0 0, .int .i64 0, .slice none 0 0] 101 (0, 0)) ∧ g3 ≠ s.1 ∧ g6 ≠ s.1) ?_ ?_
 rotate_left
 ·intro hJ
  refine two_ (i := 10) (j := 20) (Ni := some 25) (Nj := some 7) (fm 23 1046527) (fm 23 2094079) rfl rfl rfl rfl (by kernel_rfl) (by decide) (by decide) (fun K hK => ?_) (fun K hK => ?_)
  ·refine ca_ Try.func89 #[.slice A2 B.length c2] ?_
   refine (spec_l01Own.calls A2 c2 B B w5 (Kd.C_below HC2.out HB.out) HC2c.out (own_f B HB2.out)).mono ?_
   rintro e w6 ⟨v2, rfl, hR, hb⟩
   obtain ⟨A9, c9, rfl⟩ := Kd.R_slice hR
   refine ⟨_, rfl, ?_⟩
   have HRB := Aside0.mk (Kd.R_lower hR HB.out.size)
   replace HB := Aside0.mk (below_step HB.out hb)
   replace B3 := Aside0.mk (blk_below B3.out hb)
   replace B6 := Aside0.mk (blk_below B6.out hb)
   have hx1' := (hb.cell (World.block_lt_of_cell? w5 _ hx1)).trans hx1
   have hx2' := (hb.cell (World.block_lt_of_cell? w5 _ hx2)).trans hx2
   clear hR hb hx1 hx2 hHeld
   refine hK.out _ _ ⟨cz_ B3 0, cz_ B3 2, hx1', hx2'⟩ (fun hHeld => ?_)
   clear hK K
   refine no_ ?_
   refine pu_ 11 26 ?_
   refine on_ 20 (some 7) (fun K hK => ?_)
   refine box_step (by rfl) (N := 7) rfl (cs := #[.slice none 0 0, .int .i64 0, .slice none 0 0]) (t := 101) (by first | (go_simp; done) | (go_simp; rfl)) ?_
   intro g7 hg w8 hbox hb
   have hx1 := (hb.cell (World.block_lt_of_cell? w6 _ hx1')).trans hx1'
   have hx2 := (hb.cell (World.block_lt_of_cell? w6 _ hx2')).trans hx2'
   have N3 : g3 ≠ g7 := by have := blk_lt B3.out; omega
   have N6 : g6 ≠ g7 := by have := blk_lt B6.out; omega
   have hsz := HB.out.size
   replace HB := Aside0.mk (below_step HB.out hb)
   replace B3 := Aside0.mk (blk_below B3.out hb)
   replace B6 := Aside0.mk (blk_below B6.out hb)
   replace HRB := Aside0.mk (Kd.R_below HRB.out hb)
   refine hK.out _ _ ⟨cz_ B3 0, cz_ B3 2, hx1, hx2⟩ (fun hHeld => ?_)
   clear hK K
   refine no_ ?_
   exact norm_ (by first | (simp only [putAll, Act.put, List.setIfInBounds_toArray, List.set_cons_zero, List.set_cons_succ]; done) | (simp only [putAll, Act.put, List.setIfInBounds_toArray, List.set_cons_zero, List.set_cons_succ]; rfl)) (hJ (g7, .slice A9 B.length c9) _ ⟨HB.out, by omega, hbox, HRB.out, B3.out, B6.out, N3, N6⟩)
  ·refine box_step (by rfl) (N := 7) rfl (cs := #[.slice none 0 0, .int .i64 0, .slice none 0 0]) (t := 101) (by first | (go_simp; done) | (go_simp; rfl)) ?_
   intro g7 hg w8 hbox hb
   have hx1' := (hb.cell (World.block_lt_of_cell? w5 _ hx1)).trans hx1
   have hx2' := (hb.cell (World.block_lt_of_cell? w5 _ hx2)).trans hx2
   have N3 : g3 ≠ g7 := by have := blk_lt B3.out; omega
   have N6 : g6 ≠ g7 := by have := blk_lt B6.out; omega
   have hsz := HB.out.size
   have HG7 : w.heap.size ≤ g7 := by omega
   replace HB := Aside0.mk (below_step HB.out hb)
   replace B3 := Aside0.mk (blk_below B3.out hb)
   replace B6 := Aside0.mk (blk_below B6.out hb)
   clear hx1 hx2 hHeld hb hg
   refine hK.out _ _ ⟨cz_ B3 0, cz_ B3 2, hx1', hx2'⟩ (fun hHeld => ?_)
   clear hK K
   refine no_ ?_
   refine on_ 10 (some 25) (fun K hK => ?_)
   refine ca_ Try.func89 #[.slice A2 B.length c2] ?_
   refine (spec_l01Own.calls A2 c2 B B w8 (Kd.C_below HC2.out HB.out) HC2c.out (own_f B HB2.out)).mono ?_
   rintro e w9 ⟨v2, rfl, hR, hb⟩
   obtain ⟨A9, c9, rfl⟩ := Kd.R_slice hR
   refine ⟨_, rfl, ?_⟩
   have HRB := Aside0.mk (Kd.R_lower hR HB.out.size)
   replace HB := Aside0.mk (below_step HB.out hb)
   replace B3 := Aside0.mk (blk_below B3.out hb)
   replace B6 := Aside0.mk (blk_below B6.out hb)
   have hx1 := (hb.cell (World.block_lt_of_cell? w8 _ hx1')).trans hx1'
   have hx2 := (hb.cell (World.block_lt_of_cell? w8 _ hx2')).trans hx2'
   replace hbox := blk_below hbox hb
   clear hR hb hx1' hx2' hHeld
   refine hK.out _ _ ⟨cz_ B3 0, cz_ B3 2, hx1, hx2⟩ (fun hHeld => ?_)
   clear hK K
   refine no_ ?_
   refine pu_ 11 26 ?_
   exact norm_ (by first | (simp only [putAll, Act.put, List.setIfInBounds_toArray, List.set_cons_zero, List.set_cons_succ]; done) | (simp only [putAll, Act.put, List.setIfInBounds_toArray, List.set_cons_zero, List.set_cons_succ]; rfl)) (hJ (g7, .slice A9 B.length c9) _ ⟨HB.out, HG7, hbox, HRB.out, B3.out, B6.out, N3, N6⟩)
 rintro ⟨g7, v2⟩ w6 ⟨hb, hG7, hbox, hRB, hb3, hb6, N3, N6⟩
 replace HB := Aside0.mk hb
 replace B3 := Aside0.mk hb3
 replace B6 := Aside0.mk hb6
 have B7 := Aside0.mk hbox
 have HRB := Aside0.mk hRB
 have HG7 := Aside0.mk hG7
 have HN3 := Aside0.mk N3
 have HN6 := Aside0.mk N6
 clear hb hG7 hbox hRB hb3 hb6 hx1 hx2 hHeld
 refine norm_ (a' := ?_) ?_ ?_
 rotate_left
 ·simp only [putAll, Act.put, List.setIfInBounds_toArray, List.set_cons_zero, List.set_cons_succ]
  rfl
 obtain ⟨gb, cb, rfl, hgb, hgb2, cellsb, hcb⟩ := Kd.R_form HRB.out (by have := HB1.out; omega)
 have HGB := Aside0.mk hgb
 have ho : (Value.slice (some ⟨gb, 0, none⟩) B.length cb).ownBlock = some gb := by simp [Value.ownBlock]
 have tne : ∀ g cs, w6.heap[g]? = some (.cells cs 101 (0, 0)) → g ≠ gb := fun g cs h e => by
  subst e
  rw [h] at hcb
  injection hcb with h1
  injection h1 with _ h3 _
  revert h3; decide
 have hb3 := tne _ _ B3.out
 have hb6 := tne _ _ B6.out
 have hb7 := tne _ _ B7.out
 have hb3' := Ne.symm hb3
 have hb6' := Ne.symm hb6
 have hb7' := Ne.symm hb7
 have hcell := Kd.R_celln 0 HRB.out (r : Int) (by omega) (by have := HB1.out; omega)
 rw [Int.toNat_natCast] at hcell
 have hfr := hcell.2
 replace hcell := hcell.1
 have hz0 := cz_ B7 0
 have hz0f := blk_frozen B7.out 0
 have hz1 := cz_ B7 1
 have hz1f := blk_frozen B7.out 1
 have hz2 := cz_ B7 2
 have hz2f := blk_frozen B7.out 2
 clear tne ho hgb hgb2 hcb
 refine on_ 21 none (fun K hK => ?_)
 refine skip_ (w1 := ?_) (by rfl) rfl ?_ ?_
 rotate_left
 ·go_simp
  rfl
 have P7 : Aside0 (Pt w (((w6.setCell ⟨g7, 0, none⟩ (.slice none 0 0)).setCell ⟨g7, 1, none⟩ (.int .i64 p)).setCell ⟨g7, 2, none⟩ (.slice (some ⟨gb, 0, none⟩) B.length cb)) g7 (.slice none 0 0) (.slice (some ⟨gb, 0, none⟩) B.length cb) p [] B) := ⟨((HB.out.setCell HG7.out _).setCell HG7.out _).setCell HG7.out _, HG7.out, blk_put (blk_put (blk_put B7.out 0 _ rfl) 1 _ rfl) 2 _ rfl, Kd.S_nil _ _ _ _ _, tsetR (tsetR (tsetR HRB.out B7.out (by decide)) (blk_put B7.out 0 _ rfl) (by decide)) (blk_put (blk_put B7.out 0 _ rfl) 1 _ rfl) (by decide)⟩
 replace B3 := Aside0.mk (blk_far (blk_far (blk_far B3.out (p := ⟨g7, 0, none⟩) HN3.out (.slice none 0 0)) (p := ⟨g7, 1, none⟩) HN3.out (.int .i64 p)) (p := ⟨g7, 2, none⟩) HN3.out (.slice (some ⟨gb, 0, none⟩) B.length cb))
 replace B6 := Aside0.mk (blk_far (blk_far (blk_far B6.out (p := ⟨g7, 0, none⟩) HN6.out (.slice none 0 0)) (p := ⟨g7, 1, none⟩) HN6.out (.int .i64 p)) (p := ⟨g7, 2, none⟩) HN6.out (.slice (some ⟨gb, 0, none⟩) B.length cb))
 clear B7 hz0 hz0f hz1 hz1f hz2 hz2f hcell hfr HRB HB
 generalize ((w6.setCell ⟨g7, 0, none⟩ (.slice none 0 0)).setCell ⟨g7, 1, none⟩ (.int .i64 p)).setCell ⟨g7, 2, none⟩ (.slice (some ⟨gb, 0, none⟩) B.length cb) = w7 at P7 B3 B6 ⊢
 have hx1 : w7.cell? (ad.add r) = some (.slice (some (b r)) m (cp r)) := (P7.out.below.cell (World.block_lt_of_cell? w _ (HROW.out r HR.out))).trans (HROW.out r HR.out)
 have hx2 : w7.cell? ((b r).add v) = some (.int .i64 p) := (P7.out.below.cell (World.block_lt_of_cell? w _ (HNUM.out r v HR.out HV.out))).trans ((HNUM.out r v HR.out HV.out).trans (by rw [HP.out]))
 refine hK.out _ _ ⟨cz_ B3 0, cz_ B3 2, hx1, hx2⟩ (fun hHeld => ?_)
 clear hK K hx1 hx2
 refine pu_ 22 8 ?_
 refine done_ (by kernel_rfl) ?_
 clear hHeld
 have hcell := Kd.R_celln 0 P7.out.R (r : Int) (by omega) (by have := HB1.out; omega)
 rw [Int.toNat_natCast] at hcell
 have hfr := hcell.2
 replace hcell := hcell.1
 have hz2 := cz_ ⟨P7.out.blk⟩ 2
 go_wp2
 have HPB := P7.out.putB r (v : Int)
 replace P7 := Aside0.mk HPB.1
 have hto : (Value.slice (some ⟨gb, 0, none⟩) B.length cb).ownBlock = some gb := by simp [Value.ownBlock]
 replace B3 := Aside0.mk (blk_grown B3.out HPB.2 (by rw [hto]; intro e; injection e with e; exact hb3 e))
 replace B6 := Aside0.mk (blk_grown B6.out HPB.2 (by rw [hto]; intro e; injection e with e; exact hb6 e))
 obtain ⟨B', hB'⟩ : ∃ B', B.set r (v : Int) = B' := ⟨_, rfl⟩
 rw [hB'] at P7
 have HBX := Aside0.mk hB'
 clear hB'
 clear hcell hfr hz2 HPB hto
 generalize w7.setCell ⟨gb, r, none⟩ (.int .i64 (v : Int)) = w8 at P7 B3 B6 ⊢
 obtain ⟨X, hX⟩ : ∃ X : Mat, stA T den r v = X := ⟨_, rfl⟩
 have HX := Aside0.mk hX
 clear hX
 generalize hu2 : (Value.slice (some ⟨gb, 0, none⟩) B.length cb) = u2 at P7 ⊢
 clear hb3 hb6 hb7 hb3' hb6' hb7'
 go_loopg [9] n (fun gg v9 wr => ∃ (i : Nat) (u0 : Value), i ≤ n ∧ n - i ≤ gg ∧ v9 = .int .i64 (i : Int) ∧ Aside0 (Pt w wr g7 u0 u2 p (rowsM i m X) B') ∧ Aside0 (wr.heap[g3]? = some (.cells #[.slice (some ad) n c0, .int .i64 den, .slice A2 B.length c2] 101 (0, 0))) ∧ Aside0 (wr.heap[g6]? = some (.cells #[.slice none 0 0, .int .i64 0, .slice none 0 0] 101 (0, 0))))
 case atStart => exact ⟨0, _, Nat.zero_le _, by omega, rfl, P7, B3, B6⟩
 case round =>
  clear P7 B3 B6
  obtain ⟨i, u0, hi, hg, rfl, PT, B3, B6⟩ := hrel
  have HG := Aside0.mk hg
  by_cases hlt : i < n
  ·have hltz : (i : Int) < (n : Int) := by omega
   have h0z : (0 : Int) ≤ (i : Int) := by omega
   have hw : IntKind.i64.wrap ((i : Int) + 1) = ((i + 1 : Nat) : Int) := by rw [IntWalk.i64_in _ (by have := HN2.out; omega)]; rfl
   have HW := Aside0.mk hw
   have HLT := Aside0.mk hlt
   have hz0 := cz_ B3 0
   clear hi hg hlt
   go_wp2_with (first | ((with_reducible refine gate_dst (N := 47) rfl ?_); refine Kd.R_lit (Kd.int .i64) (w0 := wr) wr.heap.size 2 ?hg (N := 47) ?hd (xs := ([] : List Int)) (inner := []) (ok := fun _ => True) (okp := fun _ => True) ?hr ?hp (fun _ hk => hk) trivial (Below.refl _ _) (Nat.le_refl _) (by simp) ?_; (case hd => rfl); (case hg => rfl); (case hr => first | (go_simp; done) | (go_simp; rfl)); (case hp => exact (Reps.none _ _)); intro v10 w10 ho hb hg_ hat_; have PU := Aside0.mk (Pu.new PT.out hb ho); replace B3 := Aside0.mk (blk_below B3.out hb); replace B6 := Aside0.mk (blk_below B6.out hb); clear ho hb hg_ hat_ hz0 PT))
   go_loopg [10, 11] m (fun gg v10 v11 wr => ∃ (k : Nat), k ≤ m ∧ m - k ≤ gg ∧ v11 = .int .i64 (k : Int) ∧ Aside0 (Pu w wr g7 u0 u2 p (rowsM i m X) B' v10 (rowN X i k)) ∧ Aside0 (wr.heap[g3]? = some (.cells #[.slice (some ad) n c0, .int .i64 den, .slice A2 B.length c2] 101 (0, 0))) ∧ Aside0 (wr.heap[g6]? = some (.cells #[.slice none 0 0, .int .i64 0, .slice none 0 0] 101 (0, 0))))
   case atStart => exact ⟨0, Nat.zero_le _, by omega, rfl, PU, B3, B6⟩
   case round =>
    clear PU B3 B6
    obtain ⟨k, hk, hg2, rfl, PU, B3, B6⟩ := hrel
    have HG2 := Aside0.mk hg2
    by_cases hkm : k < m
    ·have hkz : (k : Int) < (m : Int) := by omega
     have h0k : (0 : Int) ≤ (k : Int) := by omega
     have hwk : IntKind.i64.wrap ((k : Int) + 1) = ((k + 1 : Nat) : Int) := by rw [IntWalk.i64_in _ (by have := HM2.out; omega)]; rfl
     have HWK := Aside0.mk hwk
     have HKM := Aside0.mk hkm
     have hx1 : wr.cell? (ad.add i) = some (.slice (some (b i)) m (cp i)) := (PU.out.below.cell (World.block_lt_of_cell? w _ (HROW.out i HLT.out))).trans (HROW.out i HLT.out)
     have hx2 : wr.cell? ((b i).add k) = some (.int .i64 (T i k)) := (PU.out.below.cell (World.block_lt_of_cell? w _ (HNUM.out i k HLT.out hkm))).trans (HNUM.out i k HLT.out hkm)
     have hz0 := cz_ B3 0
     obtain ⟨A10, c10, e10⟩ := Kd.R_slice PU.out.X
     have hl10 : (rowN X i k).length = k := rowN_len X i k
     rw [hl10] at e10
     subst e10
     clear hk hg2 hkm hl10
     by_cases hir : i = r
     ·have hirz : ((i : Int) == (r : Int)) = true := by simp [hir]
      have HIR := Aside0.mk hir
      clear hir
      go_wp2_with (first | ((with_reducible refine gate_builtin (b := .append) (xs := #[.tmp 61, .tmp 70]) rfl ?_); at_builtin; refine Kd.R_append (Kd.int .i64) (w0 := w) w.heap.size rfl (.tmp 61) (.tmp 70) 23 2 (.int .i64 0) 8 rfl Try.underlying23 info2 rfl (by decide) (by omega) (.slice A10 k c10) (rowN X i k) (T i k) [.int .i64 (T i k)] (fun k_ => some k_ ≠ u2.ownBlock) (fun _ => False) rfl rfl rfl (fun _ hk => hk.elim) (Kd.fresh' (Kd.R_lt PU.out.R)) PU.out.X PU.out.below PU.out.below.size ?aL ?_; (case aL => have := HM2.out; have := HKM.out; rw [rowN_len]; omega); intro v11 w11 ho hb hg hat; replace B3 := Aside0.mk (PU.out.other hg B3.out); replace B6 := Aside0.mk (PU.out.other hg B6.out); replace PU := Aside0.mk (PU.out.grow hb hg hat ho); clear ho hb hg hat hx1 hx2 hz0))
      go_roundg (m - (k + 1))
      case measure => have := HG2.out; have := HKM.out; omega
      case rel =>
       refine ⟨k + 1, HKM.out, by omega, by first | rfl | (rw [HWK.out]) | (simp [HWK.out]), ?_, B3, B6⟩
       rw [rowN_next, show X i k = T i k from by rw [← HX.out]; unfold stA; rw [if_pos HIR.out, HIR.out]]
       exact PU
     ·have hirz : ((i : Int) == (r : Int)) = false := by simp; omega
      have hirn : ¬ (i : Int) = (r : Int) := by omega
      have HIR := Aside0.mk hir
      clear hir
      have hx3 : wr.cell? ((b i).add v) = some (.int .i64 (T i v)) := (PU.out.below.cell (World.block_lt_of_cell? w _ (HNUM.out i v HLT.out HV.out))).trans (HNUM.out i v HLT.out HV.out)
      have hx4 : wr.cell? (ad.add r) = some (.slice (some (b r)) m (cp r)) := (PU.out.below.cell (World.block_lt_of_cell? w _ (HROW.out r HR.out))).trans (HROW.out r HR.out)
      have hx5 : wr.cell? ((b r).add k) = some (.int .i64 (T r k)) := (PU.out.below.cell (World.block_lt_of_cell? w _ (HNUM.out r k HR.out HKM.out))).trans (HNUM.out r k HR.out HKM.out)
      have hz1 := cz_ B3 1
      have hd0 : (den == 0) = false := by have := HD.out; simpa using this
      have hd1 : ¬ den = 0 := HD.out
      go_wp2
      replace PU := Aside0.mk (PU.out.mv (below_drew (Below.refl wr.heap.size wr)))
      replace B3 := Aside0.mk (blk_below B3.out (below_drew (Below.refl wr.heap.size wr)))
      replace B6 := Aside0.mk (blk_below B6.out (below_drew (Below.refl wr.heap.size wr)))
      refine st_ (n := 35) (S := fun w' => w'.cell? ⟨g3, 0, none⟩ = some (.slice (some ad) n c0) ∧ w'.cell? ⟨g3, 1, none⟩ = some (.int .i64 den) ∧ w'.cell? (ad.add i) = some (.slice (some (b i)) m (cp i)) ∧ w'.cell? ((b i).add k) = some (.int .i64 (T i k)) ∧ w'.cell? ((b i).add v) = some (.int .i64 (T i v)) ∧ w'.cell? (ad.add r) = some (.slice (some (b r)) m (cp r)) ∧ w'.cell? ((b r).add k) = some (.int .i64 (T r k))) (ds := []) ⟨hz0, hz1, hx1, hx2, hx3, hx4, hx5⟩ (fun hHeld => ?_)
      generalize wr.drew = w10 at PU B3 B6 hHeld ⊢
      clear hz0 hz1 hx1 hx2 hx3 hx4 hx5
      refine pu_ 0 72 ?_; refine pu_ 1 73 ?_; refine tk_ 2 74 ?_; refine pu_ 3 75 ?_; refine pu_ 4 76 ?_; refine tk_ 5 77 ?_; refine pu_ 6 78 ?_; refine pu_ 7 79 ?_; refine tk_ 8 80 ?_; refine pu_ 9 81 ?_; refine pu_ 10 82 ?_; refine pu_ 11 83 ?_; refine tk_ 12 84 ?_; refine pu_ 13 85 ?_; refine pu_ 14 86 ?_; refine tk_ 15 87 ?_; refine pu_ 16 88 ?_; refine pu_ 17 89 ?_; refine tk_ 18 90 ?_; refine pu_ 19 91 ?_; refine tk_ 20 92 ?_; refine pu_ 21 93 ?_; refine pu_ 22 94 ?_; refine tk_ 23 95 ?_; refine pu_ 24 96 ?_; refine pu_ 25 97 ?_; refine tk_ 26 98 ?_; refine pu_ 27 99 ?_; refine pu_ 28 100 ?_; refine pu_ 29 101 ?_; refine tk_ 30 102 ?_; refine pu_ 31 103 ?_
      have hmv := fun (W : World) (hb : Below w.heap.size w W) => (⟨(hb.cell (World.block_lt_of_cell? w _ (HROW.out i HLT.out))).trans (HROW.out i HLT.out), (hb.cell (World.block_lt_of_cell? w _ (HNUM.out i k HLT.out HKM.out))).trans (HNUM.out i k HLT.out HKM.out), (hb.cell (World.block_lt_of_cell? w _ (HNUM.out i v HLT.out HV.out))).trans (HNUM.out i v HLT.out HV.out), (hb.cell (World.block_lt_of_cell? w _ (HROW.out r HR.out))).trans (HROW.out r HR.out), (hb.cell (World.block_lt_of_cell? w _ (HNUM.out r k HR.out HKM.out))).trans (HNUM.out r k HR.out HKM.out)⟩ : W.cell? (ad.add i) = some (.slice (some (b i)) m (cp i)) ∧ W.cell? ((b i).add k) = some (.int .i64 (T i k)) ∧ W.cell? ((b i).add v) = some (.int .i64 (T i v)) ∧ W.cell? (ad.add r) = some (.slice (some (b r)) m (cp r)) ∧ W.cell? ((b r).add k) = some (.int .i64 (T r k)))
      have HMV := Aside0.mk hmv
      clear hmv
      refine on_ 32 (some 104) (fun K hK => ?_)
      refine va_ ?_
      refine hK.out _ _ ⟨(blk_cell (blk_alloc B3.out _) 0).trans rfl, (blk_cell (blk_alloc B3.out _) 1).trans rfl, HMV.out _ (PU.out.below.alloc PU.out.below.size _)⟩ (fun hHeld => ?_)
      clear hK K
      refine no_ ?_
      refine on_ 33 (some 105) (fun K hK => ?_)
      refine Kd.R_append_step (Kd.int .i64) (w0 := w) w.heap.size (by rfl) (.tmp 72) (.tmp 104) 23 2 (.int .i64 0) 8 rfl Try.underlying23 info2 rfl (by decide) (by omega) (.slice A10 k c10) (rowN X i k) (wrap64 (Int.tdiv (wrap64 (wrap64 (T i k * p) - wrap64 (T i v * T r k))) den)) [.int .i64 (wrap64 (Int.tdiv (wrap64 (wrap64 (T i k * p) - wrap64 (T i v * T r k))) den))] (fun k_ => some k_ ≠ u2.ownBlock) (fun _ => False) rfl rfl rfl (fun _ hk => hk.elim) (Kd.fresh' (Kd.R_lt PU.out.R)) PU.out.X PU.out.below PU.out.below.size ?aL ?_
      case aL => have := HM2.out; have := HKM.out; rw [rowN_len]; omega
      intro v11 w11 ho hb hg hat
      replace B3 := Aside0.mk (PU.out.other hg B3.out)
      replace B6 := Aside0.mk (PU.out.other hg B6.out)
      replace PU := Aside0.mk (PU.out.grow hb hg hat ho)
      clear ho hb hg hat hHeld
      refine hK.out _ _ ⟨cz_ B3 0, cz_ B3 1, HMV.out _ PU.out.below⟩ (fun hHeld => ?_)
      clear hK K
      refine nd_ 105 ?_
      refine pu_ 34 10 ?_
      refine done_ (by kernel_rfl) ?_
      clear hHeld HMV
      go_wp2
      go_roundg (m - (k + 1))
      case measure => have := HG2.out; have := HKM.out; omega
      case rel =>
       refine ⟨k + 1, HKM.out, by omega, by first | rfl | (rw [HWK.out]) | (simp [HWK.out]), ?_, B3, B6⟩
       rw [rowN_next, show X i k = (wrap64 (Int.tdiv (wrap64 (wrap64 (T i k * p) - wrap64 (T i v * T r k))) den)) from by rw [← HX.out]; unfold stA; rw [if_neg HIR.out]; unfold evT; rw [HP.out]]
       exact PU
    ·have hkz : ¬ (k : Int) < (m : Int) := by omega
     obtain rfl : k = m := by omega
     have hx1 : wr.cell? (ad.add i) = some (.slice (some (b i)) k (cp i)) := (PU.out.below.cell (World.block_lt_of_cell? w _ (HROW.out i HLT.out))).trans (HROW.out i HLT.out)
     have hz0 := cz_ B3 0
     have hg0 := cz_ ⟨PU.out.blk⟩ 0
     obtain ⟨A10, c10, e10⟩ := Kd.R_slice PU.out.X
     have hl10 : (rowN X i k).length = k := rowN_len X i k
     rw [hl10] at e10
     subst e10
     clear hk hg2 hkm hl10
     have HA := Aside0.mk (Kd.R_apart' PU.out.X (Kd.S_typed PU.out.S) (by decide))
     obtain ⟨L1, hL1⟩ : ∃ L1, rowsM i k X ++ [rowN X i k] = L1 := ⟨_, rfl⟩
     have HL1 := Aside0.mk hL1
     clear hL1
     go_wp2_with (first | ((with_reducible refine gate_builtin (b := .append) (xs := #[.tmp 107, .tmp 109]) rfl ?_); at_builtin; refine Kd.S_append (Kd.slice 2 (Kd.int .i64)) (w0 := w) w.heap.size rfl (.tmp 107) (.tmp 109) 22 23 (.slice none 0 0) 24 rfl Try.underlying22 info23 rfl (by decide) (by omega) u0 (rowsM i k X) (rowN X i k) [.slice A10 k c10] (fun k_ => some k_ ≠ u2.ownBlock) (fun k_ => some k_ = (.slice A10 k c10 : Value).ownBlock) rfl rfl ?aP ?aQ ?aF ?aO PU.out.below PU.out.below.size ?aL ?_; (case aP => exact Kd.M_row (Kd.R_mono (Kd.R_tight rfl HA.out) (fun _ h => h))); (case aQ => exact fun k_ hk => HA.out.1 k_ hk.symm); (case aF => exact Kd.fresh' (Kd.R_lt PU.out.R)); (case aO => exact Kd.S_mono PU.out.S (fun k_ hk => ⟨hk.1, fun e => hk.2 e⟩)); (case aL => have := HN2.out; have := HLT.out; rw [rowsM_len]; omega); intro v1 w13 hs hb hg hat; replace B3 := Aside0.mk (blk_grown B3.out hg (Kd.S_ne PU.out.S B3.out (by decide))); replace B6 := Aside0.mk (blk_grown B6.out hg (Kd.S_ne PU.out.S B6.out (by decide))); have B7 := Aside0.mk (blk_grown PU.out.blk hg (Kd.S_ne PU.out.S PU.out.blk (by decide))); have HRR := Aside0.mk (Kd.R_mono (Kd.R_over' PU.out.R (Kd.S_typed PU.out.S) (by decide) hg) (fun _ hk => hk.1)); rw [HL1.out] at hs; obtain ⟨A12, c12, e12⟩ := Kd.S_slice hs; subst e12; have HS := Aside0.mk hs; have HB := Aside0.mk hb; have HG7' := Aside0.mk PU.out.g; clear hs hb hg hat HA PU hx1 hz0 hg0; have hs0 := cz_ B7 0; have hs0f := blk_frozen B7.out 0))
     have PT := Aside0.mk (Pt.rows HB.out HG7'.out B7.out HS.out HRR.out)
     replace B3 := Aside0.mk (blk_far B3.out (p := ⟨g7, 0, none⟩) HN3.out (.slice A12 L1.length c12))
     replace B6 := Aside0.mk (blk_far B6.out (p := ⟨g7, 0, none⟩) HN6.out (.slice A12 L1.length c12))
     go_roundg (n - (i + 1))
     case measure => have := HG.out; have := HLT.out; omega
     case rel =>
      exact ⟨i + 1, _, HLT.out, by omega, by first | rfl | (rw [HW.out]) | (simp [HW.out]), (by rw [rowsM_next, HL1.out]; exact PT), B3, B6⟩
  ·have hltz : ¬ (i : Int) < (n : Int) := by omega
   obtain rfl : n = i := by omega
   have hz0 := cz_ B3 0
   have hd1 := cz_ ⟨PT.out.blk⟩ 1
   have hd1f := blk_frozen PT.out.blk 1
   clear hi hg hlt
   have hn3 := HN3.out
   have hn3' := Ne.symm HN3.out
   by_cases hpn : p < 0
   ·have hpb : decide (p < 0) = true := decide_eq_true hpn
    have HPN := Aside0.mk hpn
    clear hpn
    go_wp2
    have P2 := Aside0.mk (PT.out.putD (wrap64 (- p)))
    replace B3 := Aside0.mk (blk_far B3.out (p := ⟨g7, 1, none⟩) HN3.out (.int .i64 (wrap64 (- p))))
    replace B6 := Aside0.mk (blk_far B6.out (p := ⟨g7, 1, none⟩) HN6.out (.int .i64 (wrap64 (- p))))
    clear hz0 hd1 hd1f PT
    generalize wr.setCell ⟨g7, 1, none⟩ (.int .i64 (wrap64 (- p))) = w9 at P2 B3 B6 ⊢
    obtain ⟨gu, cu, e0, _, _, _, _⟩ := Kd.S_form P2.out.S (by rw [rowsM_len]; have := HR.out; omega)
    rw [rowsM_len] at e0
    subst e0
    have P3 : Aside0 (Pt w w9 g7 (.slice (some ⟨gu, 0, none⟩) n cu) u2 (wrap64 (- p)) (rowsM n m (ngP X 0 0)) B') := ⟨by rw [rowsM_congr (Z := X) (fun a d _ _ => ngP_zero X a d)]; exact P2.out⟩
    clear P2
    go_loopg [12] n (fun gg v12 wr => ∃ (i : Nat), i ≤ n ∧ n - i ≤ gg ∧ v12 = .int .i64 (i : Int) ∧ Aside0 (Pt w wr g7 (.slice (some ⟨gu, 0, none⟩) n cu) u2 (wrap64 (- p)) (rowsM n m (ngP X i 0)) B') ∧ Aside0 (wr.heap[g3]? = some (.cells #[.slice (some ad) n c0, .int .i64 den, .slice A2 B.length c2] 101 (0, 0))) ∧ Aside0 (wr.heap[g6]? = some (.cells #[.slice none 0 0, .int .i64 0, .slice none 0 0] 101 (0, 0))))
    case atStart => exact ⟨0, Nat.zero_le _, by omega, rfl, P3, B3, B6⟩
    case round =>
     clear P3 B3 B6
     obtain ⟨i, hi, hg, rfl, PT, B3, B6⟩ := hrel
     have HG := Aside0.mk hg
     by_cases hlt : i < n
     ·have hltz : (i : Int) < (n : Int) := by omega
      have h0z : (0 : Int) ≤ (i : Int) := by omega
      have hw : IntKind.i64.wrap ((i : Int) + 1) = ((i + 1 : Nat) : Int) := by rw [IntWalk.i64_in _ (by have := HN2.out; omega)]; rfl
      have HW := Aside0.mk hw
      have HLT := Aside0.mk hlt
      obtain ⟨A13, c13, hc13⟩ := S_row PT.out.S hlt
      rw [rowsM_at hlt, rowN_len, add_off, Nat.zero_add] at hc13
      have HC13 := Aside0.mk hc13
      have hg0 := cz_ ⟨PT.out.blk⟩ 0
      clear hi hg hlt
      go_wp2
      clear hg0 hc13
      go_loopg [14] m (fun gg v14 wr => ∃ (k : Nat), k ≤ m ∧ m - k ≤ gg ∧ v14 = .int .i64 (k : Int) ∧ Aside0 (Pt w wr g7 (.slice (some ⟨gu, 0, none⟩) n cu) u2 (wrap64 (- p)) (rowsM n m (ngP X i k)) B') ∧ Aside0 (wr.cell? ⟨gu, i, none⟩ = some (.slice A13 m c13)) ∧ Aside0 (wr.heap[g3]? = some (.cells #[.slice (some ad) n c0, .int .i64 den, .slice A2 B.length c2] 101 (0, 0))) ∧ Aside0 (wr.heap[g6]? = some (.cells #[.slice none 0 0, .int .i64 0, .slice none 0 0] 101 (0, 0))))
      case atStart => exact ⟨0, Nat.zero_le _, by omega, rfl, PT, HC13, B3, B6⟩
      case round =>
       clear PT HC13 B3 B6
       obtain ⟨k, hk, hg2, rfl, PT, HC13, B3, B6⟩ := hrel
       have HG2 := Aside0.mk hg2
       by_cases hkm : k < m
       ·have hkz : (k : Int) < (m : Int) := by omega
        have h0k : (0 : Int) ≤ (k : Int) := by omega
        have hwk : IntKind.i64.wrap ((k : Int) + 1) = ((k + 1 : Nat) : Int) := by rw [IntWalk.i64_in _ (by have := HM2.out; omega)]; rfl
        have HWK := Aside0.mk hwk
        have HKM := Aside0.mk hkm
        obtain ⟨g, c, hv13, hok, hne, ⟨cells, hty⟩, hcell, hfr, hbase, hput⟩ := S_put PT.out.S HLT.out (by rw [add_off, Nat.zero_add]; exact HC13.out) (show k < _ by rw [rowsM_at HLT.out, rowN_len]; exact hkm)
        rw [rowsM_at HLT.out, rowN_len] at hv13
        rw [rowsM_at HLT.out, rowN_at hkm, ngP_at X i k i k (by omega)] at hcell
        injection hv13 with e1 _ e2
        subst e1
        subst e2
        have hp2 := hput (wrap64 (- X i k))
        rw [rowsM_at HLT.out, rowsM_set, rowsM_congr (Z := ngP X i (k + 1)) (fun a d _ _ => ngP_next X i k a d)] at hp2
        have hgu : gu ≠ g := fun e => hne (by rw [← e]; simp [Value.ownBlock])
        have tk : ∀ (q : Nat) (cs : Array Value), wr.heap[q]? = some (.cells cs 101 (0, 0)) → (wr.setCell ⟨g, k, none⟩ (.int .i64 (wrap64 (- X i k)))).heap[q]? = some (.cells cs 101 (0, 0)) := fun q cs h => blk_grown h hp2.1 (fun e => by
         injection e with e
         subst e
         rw [hty] at h
         injection h with h1
         injection h1 with _ h3 _
         revert h3; decide)
        have PN : Aside0 (Pt w (wr.setCell ⟨g, k, none⟩ (.int .i64 (wrap64 (- X i k)))) g7 (.slice (some ⟨gu, 0, none⟩) n cu) u2 (wrap64 (- p)) (rowsM n m (ngP X i (k + 1))) B') := ⟨PT.out.below.setCell hbase _, PT.out.g, tk _ _ PT.out.blk, hp2.2, Kd.R_mono (Kd.R_step (Kd.R_tight rfl PT.out.R) (fun q hq hlt => hp2.1.block q hlt (fun e => hok (e ▸ hq)))) (fun _ _ => trivial)⟩
        have B3N := Aside0.mk (tk _ _ B3.out)
        have B6N := Aside0.mk (tk _ _ B6.out)
        have HC13N := Aside0.mk ((cell_far (W := wr) (p := ⟨g, k, none⟩) (a := ⟨gu, i, none⟩) hgu (.int .i64 (wrap64 (- X i k)))).trans HC13.out)
        clear hk hg2 hkm hok hne hty hbase hput hp2 hgu tk
        go_wp2
        go_roundg (m - (k + 1))
        case measure => have := HG2.out; have := HKM.out; omega
        case rel => exact ⟨k + 1, HKM.out, by omega, by first | rfl | (rw [HWK.out]) | (simp [HWK.out]), PN, HC13N, B3N, B6N⟩
       ·have hkz : ¬ (k : Int) < (m : Int) := by omega
        obtain rfl : k = m := by omega
        clear hk hg2 hkm
        go_wp2
        go_roundg (n - (i + 1))
        case measure => have := HG.out; have := HLT.out; omega
        case rel => exact ⟨i + 1, HLT.out, by omega, by first | rfl | (rw [HW.out]) | (simp [HW.out]), ⟨by rw [← rowsM_congr (Y := ngP X i k) (fun a d _ hd => ngP_end X i k a d hd)]; exact PT.out⟩, B3, B6⟩
     ·have hltz : ¬ (i : Int) < (n : Int) := by omega
      obtain rfl : n = i := by omega
      clear hi hg hlt
      subst hu2
      have hg0 := cz_ ⟨PT.out.blk⟩ 0
      have hg1 := cz_ ⟨PT.out.blk⟩ 1
      have hg2 := cz_ ⟨PT.out.blk⟩ 2
      have hq0 := cz_ B6 0
      have hq1 := cz_ B6 1
      have hq2 := cz_ B6 2
      have hf0 := blk_frozen B6.out 0
      have hf1 := blk_frozen B6.out 1
      have hf2 := blk_frozen B6.out 2
      have hn6 := HN6.out
      have hn6' := Ne.symm HN6.out
      go_wp2
      have C0 := blk_put B6.out 0 (.slice (some ⟨gu, 0, none⟩) n cu) rfl
      have C1 := blk_put C0 1 (.int .i64 (wrap64 (- p))) rfl
      refine bodyPost_ret (results_cell_row rfl _ _ g6 101 #[(.slice (some ⟨gu, 0, none⟩) n cu), .int .i64 (wrap64 (- p)), (.slice (some ⟨gb, 0, none⟩) B.length cb)] (0, 0) _ rfl (blk_put C1 2 (.slice (some ⟨gb, 0, none⟩) B.length cb) rfl) Try.underlying101 rfl (by kernel_rfl)) rfl ?_
      rw [HBX.out, show stD T r v = wrap64 (- p) from by unfold stD; rw [HP.out, if_pos HPN.out]]
      refine ⟨(.slice (some ⟨gu, 0, none⟩) n cu), (.slice (some ⟨gb, 0, none⟩) B.length cb), rfl, ?_, tsetR (tsetR (tsetR PT.out.R B6.out (by decide)) C0 (by decide)) C1 (by decide), ((PT.out.below.setCell HG6.out _).setCell HG6.out _).setCell HG6.out _⟩
      have hS := tsetS (x := (.slice (some ⟨gb, 0, none⟩) B.length cb)) (j := 2) (tsetS (x := .int .i64 (wrap64 (- p))) (j := 1) (tsetS (x := (.slice (some ⟨gu, 0, none⟩) n cu)) (j := 0) PT.out.S B6.out (by decide)) C0 (by decide)) C1 (by decide)
      rw [rowsM_congr (Z := stT T den r v) (fun a d ha _ => by rw [ngP_all _ _ _ _ ha]; unfold stT; rw [if_pos (by rw [HP.out]; exact HPN.out), HX.out])] at hS
      exact hS
   ·have hpb : decide (p < 0) = false := decide_eq_false hpn
    have HPN := Aside0.mk hpn
    clear hpn
    obtain ⟨gu, cu, e0, _, _, _, _⟩ := Kd.S_form PT.out.S (by rw [rowsM_len]; have := HR.out; omega)
    rw [rowsM_len] at e0
    subst e0
    subst hu2
    have hg0 := cz_ ⟨PT.out.blk⟩ 0
    have hg1 := cz_ ⟨PT.out.blk⟩ 1
    have hg2 := cz_ ⟨PT.out.blk⟩ 2
    have hq0 := cz_ B6 0
    have hq1 := cz_ B6 1
    have hq2 := cz_ B6 2
    have hf0 := blk_frozen B6.out 0
    have hf1 := blk_frozen B6.out 1
    have hf2 := blk_frozen B6.out 2
    have hn6 := HN6.out
    have hn6' := Ne.symm HN6.out
    go_wp2
    have C0 := blk_put B6.out 0 (.slice (some ⟨gu, 0, none⟩) n cu) rfl
    have C1 := blk_put C0 1 (.int .i64 p) rfl
    refine bodyPost_ret (results_cell_row rfl _ _ g6 101 #[(.slice (some ⟨gu, 0, none⟩) n cu), .int .i64 p, (.slice (some ⟨gb, 0, none⟩) B.length cb)] (0, 0) _ rfl (blk_put C1 2 (.slice (some ⟨gb, 0, none⟩) B.length cb) rfl) Try.underlying101 rfl (by kernel_rfl)) rfl ?_
    rw [HBX.out, show stD T r v = p from by unfold stD; rw [HP.out, if_neg (by have := HPN.out; omega)]]
    refine ⟨(.slice (some ⟨gu, 0, none⟩) n cu), (.slice (some ⟨gb, 0, none⟩) B.length cb), rfl, ?_, tsetR (tsetR (tsetR PT.out.R B6.out (by decide)) C0 (by decide)) C1 (by decide), ((PT.out.below.setCell HG6.out _).setCell HG6.out _).setCell HG6.out _⟩
    have hS := tsetS (x := (.slice (some ⟨gb, 0, none⟩) B.length cb)) (j := 2) (tsetS (x := .int .i64 p) (j := 1) (tsetS (x := (.slice (some ⟨gu, 0, none⟩) n cu)) (j := 0) PT.out.S B6.out (by decide)) C0 (by decide)) C1 (by decide)
    rw [rowsM_congr (Z := stT T den r v) (fun a d ha _ => by unfold stT; rw [if_neg (by rw [HP.out]; have := HPN.out; omega), HX.out])] at hS
    exact hS
end Go.Proofs.Ythdoilfjcgickaa.Lp
namespace Go.Proofs.Ythdoilfjcgickaa.Pr
open Go.RowKit Go.Proofs.YthdoilfjcgickaaW.PrintWords Go.Proofs.YthdoilfjcgickaaW.PrintLast Go.Proofs.YthdoilfjcgickaaW.PrintMore Go.Proofs.Ythdoilfjcgickaa.Ma Go.Proofs.Ythdoilfjcgickaa.Dt Go.Proofs.Ythdoilfjcgickaa.Lk Go.Proofs.Ythdoilfjcgickaa.Lt Go.Proofs.Ythdoilfjcgickaa.Lq Go.Proofs.Ythdoilfjcgickaa.Lp
def spec_l05Pivot.f (l0_0 : List (List Int)) (a0_1 : Int) (l0_2 : List Int) (a1 : Int) (a2 : Int) : Option ((List (List Int)) × Int × List Int) :=
 if 0 ≤ a1 ∧ a1 < (l0_0.length : Int) ∧ a1 < (l0_2.length : Int) ∧ 0 ≤ a2 ∧ a2 < ((l0_0.headD []).length : Int) ∧ (l0_0.all fun x => x.length == (l0_0.headD []).length) = true ∧ l0_0.length ≤ 1000 ∧ (l0_0.headD []).length ≤ 1000 ∧ l0_2.length ≤ 1000 ∧ a0_1 ≠ 0 then
  some (rowsM l0_0.length (l0_0.headD []).length (stT (enL l0_0) a0_1 a1.toNat a2.toNat), stD (enL l0_0) a1.toNat a2.toNat, l0_2.set a1.toNat a2)
 else none
theorem spec_l05Pivot.calls (A0_0 : Option Addr) (c0_0 : Nat) (l0_0 : List (List Int)) (a0_1 : Int) (A0_2 : Option Addr) (c0_2 : Nat) (l0_2 : List Int) (a1 : Int) (a2 : Int) (r1 : List (List Int)) (r2 : Int) (r3 : List Int) (w : World) (hr0_0 : Kd.C (Kd.slice 2 (Kd.int .i64)) w A0_0 l0_0.length l0_0) (hc0_0 : l0_0.length ≤ c0_0) (hr0_2 : Kd.C (Kd.int .i64) w A0_2 l0_2.length l0_2) (hc0_2 : l0_2.length ≤ c0_2) (h : spec_l05Pivot.f l0_0 a0_1 l0_2 a1 a2 = some (r1, r2, r3)) :
  Calls Try.prog 119 #[.agg #[.slice A0_0 l0_0.length c0_0, .int .i64 a0_1, .slice A0_2 l0_2.length c0_2], .int .i64 a1, .int .i64 a2] w fun e w' => ∃ v0_ v2_ : Value, e = .returned (.agg #[v0_, .int .i64 r2, v2_]) ∧ Kd.S (Kd.slice 2 (Kd.int .i64)) 23 w' w.heap.size (fun k_ => some k_ ≠ (v2_ : Value).ownBlock) v0_ r1 ∧ Kd.R (Kd.int .i64) 2 w' w.heap.size (fun _ => True) v2_ r3 ∧ Below w.heap.size w w' := by
 unfold spec_l05Pivot.f at h
 split at h
 case isFalse => cases h
 rename_i hc
 obtain ⟨h1, h2, h3, h4, h5, h6, h7, h8, h9, h10⟩ := hc
 injection h with h
 injection h with e1 h
 injection h with e2 e3
 subst e1 e2 e3
 obtain ⟨i, rfl⟩ := Int.eq_ofNat_of_zero_le h1
 obtain ⟨j, rfl⟩ := Int.eq_ofNat_of_zero_le h4
 exact pivot_calls A0_0 c0_0 l0_0 a0_1 A0_2 c0_2 l0_2 w l0_0.length (l0_0.headD []).length i j hr0_0 hr0_2 hc0_2 rfl (fun x hx => by rw [List.all_eq_true] at h6; simpa using h6 x hx) (by omega) (by omega) (by omega) h9 h7 h8 h10
end Go.Proofs.Ythdoilfjcgickaa.Pr
end
section
namespace Go.Proofs.Ythdoilfjcgickaa.Pr
open Go.RowKit Go.Proofs.YthdoilfjcgickaaW.PrintWords Go.Proofs.YthdoilfjcgickaaW.PrintLast Go.Proofs.YthdoilfjcgickaaW.PrintMore
attribute [local go_sem] max2_int min2_int max_two min_two max_three min_three max_four min_four
mutual
def spec_l05Run.l0 : Nat → List Int → Int → Int → List (List Int) → Bool → Int → Int → List (List Int) → List Int → List (List Int) → Int → List Int → Option ((List (List Int)) × Int × List Int × (List (List Int)) × Int × Bool)
 | 0, _, _, _, _, _, _, _, _, _, _, _, _ => none
 | k + 1, x1, x2, x11, x12, x13, x14, x15, x953000, x953001, x965000, x965001, x965002 => if x15 < (x953001.length : Int) then (if x13 = true then (if 0 ≤ x15 then (if x15 < (x1.length : Int) then (if 0 ≤ x14 then (if x14 < (x1.length : Int) then ((spec_l05Key.f k x965000 x965001 x965002 x15 x14 (rd x1 x15) (rd x1 x14)).bind fun t967 => (if t967 = true then (spec_l05Run.l0 k x1 x2 x11 x12 true x15 (wrap64 (x15 + 1)) x953000 x953001 x965000 x965001 x965002) else (spec_l05Run.l0 k x1 x2 x11 x12 true x14 (wrap64 (x15 + 1)) x953000 x953001 x965000 x965001 x965002))) else (none)) else (none)) else (none)) else (none)) else (if 0 ≤ x15 then (if x15 < (x1.length : Int) then (if 0 ≤ x14 then (if x14 < (x1.length : Int) then ((spec_l05Key.f k x965000 x965001 x965002 x15 x14 (rd x1 x15) (rd x1 x14)).bind fun t971 => (if t971 = true then (spec_l05Run.l0 k x1 x2 x11 x12 (decide ((rd x953001 x15) < 0)) x15 (wrap64 (x15 + 1)) x953000 x953001 x965000 x965001 x965002) else (spec_l05Run.l0 k x1 x2 x11 x12 (decide ((rd x953001 x15) < 0)) x14 (wrap64 (x15 + 1)) x953000 x953001 x965000 x965001 x965002))) else (none)) else (none)) else (none)) else (none))) else (if x13 = true then (spec_l05Run.l1 k x2 x11 x12 x14 (wrap64 (2 * x11)) x965000 x965001 x965002) else (some (x965000, x965001, x965002, x12, (-1), true)))
def spec_l05Run.l1 : Nat → Int → Int → List (List Int) → Int → Int → List (List Int) → Int → List Int → Option ((List (List Int)) × Int × List Int × (List (List Int)) × Int × Bool)
 | 0, _, _, _, _, _, _, _, _ => none
 | k + 1, x2, x11, x12, x14, x16, x965000, x965001, x965002 => if (x12.length : Int) < x2 then (if x16 < (wrap64 (2 * x11)) then ((spec_l05Row.f k x965000 x965001 x965002 x16).bind fun t972 => (if t972 < 0 then (some (x965000, x965001, x965002, x12, x16, false)) else (spec_l05Run.j2 k x2 x11 x12 t972 x16 x965000 x965001 x965002))) else (spec_l05Run.j2 k x2 x11 x12 x14 x16 x965000 x965001 x965002)) else (some (x965000, x965001, x965002, x12, x16, false))
def spec_l05Run.j2 : Nat → Int → Int → List (List Int) → Int → Int → List (List Int) → Int → List Int → Option ((List (List Int)) × Int × List Int × (List (List Int)) × Int × Bool)
 | 0, _, _, _, _, _, _, _, _ => none
 | k + 1, x2, x11, x12, x14, x16, x965000, x965001, x965002 => if 0 ≤ x14 then (if x14 < (x965002.length : Int) then (if x12.length < 5864062014805 then ((some (x12 ++ [(([x16, rd x965002 x14] : List Int))] : List (List Int))).bind fun y977 => ((spec_l05Pivot.f x965000 x965001 x965002 x14 x16).bind fun bt980 => (if (rd x965002 x14) = (wrap64 (2 * x11)) then (some (bt980.1, bt980.2.1, bt980.2.2, y977, (-1), true)) else ((spec_l05Partner.f (rd x965002 x14) x11).bind fun t987 => (spec_l05Run.l1 k x2 x11 y977 x14 t987 bt980.1 bt980.2.1 bt980.2.2))))) else (none)) else (none)) else (none)
end
def spec_l05Run.f (k : Nat) (l0_0 : List (List Int)) (l0_1 : List Int) (l1 : List Int) (a2 : Int) : Option ((List (List Int)) × Int × List Int × (List (List Int)) × Int × Bool) := (spec_l05Begin.f k l0_0 l0_1 l1).bind fun bt954 => (spec_l05Run.l0 k l1 a2 (l0_1.length : Int) (([] : List (List Int))) false 0 0 l0_0 l0_1 bt954.1 bt954.2.1 bt954.2.2)
theorem spec_l05Run.mono_l : ∀ k, (∀ y0 y1 y2 y3 y4 y5 y6 y7 y8 y9 y10 y11, LeO (spec_l05Run.l0 k y0 y1 y2 y3 y4 y5 y6 y7 y8 y9 y10 y11) (spec_l05Run.l0 (k + 1) y0 y1 y2 y3 y4 y5 y6 y7 y8 y9 y10 y11)) ∧ (∀ y0 y1 y2 y3 y4 y5 y6 y7, LeO (spec_l05Run.l1 k y0 y1 y2 y3 y4 y5 y6 y7) (spec_l05Run.l1 (k + 1) y0 y1 y2 y3 y4 y5 y6 y7)) ∧ (∀ y0 y1 y2 y3 y4 y5 y6 y7, LeO (spec_l05Run.j2 k y0 y1 y2 y3 y4 y5 y6 y7) (spec_l05Run.j2 (k + 1) y0 y1 y2 y3 y4 y5 y6 y7))
 | 0 => ⟨fun _ _ _ _ _ _ _ _ _ _ _ _ r h => by simp [spec_l05Run.l0] at h, fun _ _ _ _ _ _ _ _ r h => by simp [spec_l05Run.l1] at h, fun _ _ _ _ _ _ _ _ r h => by simp [spec_l05Run.j2] at h⟩
 | k + 1 => by
  obtain ⟨ih0, ih1, ih2⟩ := spec_l05Run.mono_l k
  refine ⟨?_, ?_, ?_⟩
  ·intro y0 y1 y2 y3 y4 y5 y6 y7 y8 y9 y10 y11
   unfold spec_l05Run.l0
   repeat' first
   | (with_reducible exact ih0 _ _ _ _ _ _ _ _ _ _ _ _)
   | (with_reducible exact ih1 _ _ _ _ _ _ _ _)
   | (with_reducible exact ih2 _ _ _ _ _ _ _ _)
   | (with_reducible exact spec_l05Begin.mono _ _ _ _)
   | (with_reducible exact spec_l05Key.mono _ _ _ _ _ _ _ _)
   | (with_reducible exact spec_l05Row.mono _ _ _ _ _)
   | (with_reducible exact LeO.refl _)
   | (with_reducible exact LeO.none _)
   | (with_reducible refine LeO.ite ?_ ?_)
   | (with_reducible refine LeO.bind ?_ (fun _ => ?_))
   | exact ih0 _ _ _ _ _ _ _ _ _ _ _ _
   | exact ih1 _ _ _ _ _ _ _ _
   | exact ih2 _ _ _ _ _ _ _ _
   | exact spec_l05Begin.mono _ _ _ _
   | exact spec_l05Key.mono _ _ _ _ _ _ _ _
   | exact spec_l05Row.mono _ _ _ _ _
   | exact LeO.none _
   | refine LeO.ite ?_ ?_
   | refine LeO.bind ?_ (fun _ => ?_)
  ·intro y0 y1 y2 y3 y4 y5 y6 y7
   unfold spec_l05Run.l1
   repeat' first
   | (with_reducible exact ih0 _ _ _ _ _ _ _ _ _ _ _ _)
   | (with_reducible exact ih1 _ _ _ _ _ _ _ _)
   | (with_reducible exact ih2 _ _ _ _ _ _ _ _)
   | (with_reducible exact spec_l05Begin.mono _ _ _ _)
   | (with_reducible exact spec_l05Key.mono _ _ _ _ _ _ _ _)
   | (with_reducible exact spec_l05Row.mono _ _ _ _ _)
   | (with_reducible exact LeO.refl _)
   | (with_reducible exact LeO.none _)
   | (with_reducible refine LeO.ite ?_ ?_)
   | (with_reducible refine LeO.bind ?_ (fun _ => ?_))
   | exact ih0 _ _ _ _ _ _ _ _ _ _ _ _
   | exact ih1 _ _ _ _ _ _ _ _
   | exact ih2 _ _ _ _ _ _ _ _
   | exact spec_l05Begin.mono _ _ _ _
   | exact spec_l05Key.mono _ _ _ _ _ _ _ _
   | exact spec_l05Row.mono _ _ _ _ _
   | exact LeO.none _
   | refine LeO.ite ?_ ?_
   | refine LeO.bind ?_ (fun _ => ?_)
  ·intro y0 y1 y2 y3 y4 y5 y6 y7
   unfold spec_l05Run.j2
   repeat' first
   | (with_reducible exact ih0 _ _ _ _ _ _ _ _ _ _ _ _)
   | (with_reducible exact ih1 _ _ _ _ _ _ _ _)
   | (with_reducible exact ih2 _ _ _ _ _ _ _ _)
   | (with_reducible exact spec_l05Begin.mono _ _ _ _)
   | (with_reducible exact spec_l05Key.mono _ _ _ _ _ _ _ _)
   | (with_reducible exact spec_l05Row.mono _ _ _ _ _)
   | (with_reducible exact LeO.refl _)
   | (with_reducible exact LeO.none _)
   | (with_reducible refine LeO.ite ?_ ?_)
   | (with_reducible refine LeO.bind ?_ (fun _ => ?_))
   | exact ih0 _ _ _ _ _ _ _ _ _ _ _ _
   | exact ih1 _ _ _ _ _ _ _ _
   | exact ih2 _ _ _ _ _ _ _ _
   | exact spec_l05Begin.mono _ _ _ _
   | exact spec_l05Key.mono _ _ _ _ _ _ _ _
   | exact spec_l05Row.mono _ _ _ _ _
   | exact LeO.none _
   | refine LeO.ite ?_ ?_
   | refine LeO.bind ?_ (fun _ => ?_)
theorem spec_l05Run.mono : ∀ a0 a1 a2 a3 k, LeO (spec_l05Run.f k a0 a1 a2 a3) (spec_l05Run.f (k + 1) a0 a1 a2 a3) := by
 intro a0 a1 a2 a3 k
 obtain ⟨ih0, ih1, ih2⟩ := spec_l05Run.mono_l k
 unfold spec_l05Run.f
 repeat' first
   | (with_reducible exact ih0 _ _ _ _ _ _ _ _ _ _ _ _)
   | (with_reducible exact ih1 _ _ _ _ _ _ _ _)
   | (with_reducible exact ih2 _ _ _ _ _ _ _ _)
   | (with_reducible exact spec_l05Begin.mono _ _ _ _)
   | (with_reducible exact spec_l05Key.mono _ _ _ _ _ _ _ _)
   | (with_reducible exact spec_l05Row.mono _ _ _ _ _)
   | (with_reducible exact LeO.refl _)
   | (with_reducible exact LeO.none _)
   | (with_reducible refine LeO.ite ?_ ?_)
   | (with_reducible refine LeO.bind ?_ (fun _ => ?_))
   | exact ih0 _ _ _ _ _ _ _ _ _ _ _ _
   | exact ih1 _ _ _ _ _ _ _ _
   | exact ih2 _ _ _ _ _ _ _ _
   | exact spec_l05Begin.mono _ _ _ _
   | exact spec_l05Key.mono _ _ _ _ _ _ _ _
   | exact spec_l05Row.mono _ _ _ _ _
   | exact LeO.none _
   | refine LeO.ite ?_ ?_
   | refine LeO.bind ?_ (fun _ => ?_)
def spec_l05Run.T1 : Bool × List (List Nat × List Nat) := (true, [([], []), ([], []), ([0, 1], [0, 1]), ([], []), ([3], [3]), ([4], [4]), ([], []), ([], []), ([7, 2, 2, 0, 1, 2, 7], [2, 7]), ([5, 8, 0, 1, 2, 3, 4, 5, 7, 8], [5]), ([6, 9, 0, 1, 2, 3, 4, 5, 6, 7, 8, 9], [6])])
def spec_l05Run.B1 : List Nat := [0, 0, 3, 0, 8, 24, 0, 0, 135, 447, 1023]
theorem spec_l05Run.tab1 : rtab .any (opsOf Try.f86 1) = spec_l05Run.T1 := by kernel_rfl
theorem spec_l05Run.bits1 : waitsOk spec_l05Run.T1.2 spec_l05Run.B1 = true := by kernel_rfl
def spec_l05Run.T7 : Bool × List (List Nat × List Nat) := (true, [([], []), ([], []), ([], []), ([], []), ([], []), ([3, 4], [3, 4]), ([5], [5]), ([], []), ([], []), ([7, 8], [7, 8]), ([9], [9]), ([0, 1, 2, 6, 10], [0, 1, 2, 6, 10])])
def spec_l05Run.B7 : List Nat := [0, 0, 0, 0, 0, 24, 56, 0, 0, 384, 896, 2047]
theorem spec_l05Run.tab7 : rtab .any (opsOf Try.f86 7) = spec_l05Run.T7 := by kernel_rfl
theorem spec_l05Run.bits7 : waitsOk spec_l05Run.T7.2 spec_l05Run.B7 = true := by kernel_rfl
theorem spec_l05Run.calls (k : Nat) (A0_0 : Option Addr) (c0_0 : Nat) (l0_0 : List (List Int)) (A0_1 : Option Addr) (c0_1 : Nat) (l0_1 : List Int) (A1 : Option Addr) (c1 : Nat) (l1 : List Int) (a2 : Int) (r1 : List (List Int)) (r2 : Int) (r3 : List Int) (r4 : List (List Int)) (r5 : Int) (r6 : Bool) (w : World) (hr0_0 : Kd.C (Kd.slice 2 (Kd.int .i64)) w A0_0 l0_0.length l0_0) (hc0_0 : l0_0.length ≤ c0_0) (hr0_1 : Kd.C (Kd.int .i64) w A0_1 l0_1.length l0_1) (hc0_1 : l0_1.length ≤ c0_1) (hr1 : Kd.C (Kd.int .i64) w A1 l1.length l1) (hc1 : l1.length ≤ c1) (h : spec_l05Run.f k l0_0 l0_1 l1 a2 = some (r1, r2, r3, r4, r5, r6)) :
  Calls Try.prog 86 #[.agg #[.slice A0_0 l0_0.length c0_0, .slice A0_1 l0_1.length c0_1], .slice A1 l1.length c1, .int .i64 a2] w fun e w' => ∃ v0_ v2_ v3_ : Value, e = .returned (.tuple #[.agg #[v0_, .int .i64 r2, v2_], v3_, .int .i64 r5, .bool r6]) ∧ Kd.S (Kd.slice 2 (Kd.int .i64)) 23 w' w.heap.size (fun k_ => some k_ ≠ (v2_ : Value).ownBlock ∧ some k_ ≠ (v3_ : Value).ownBlock) v0_ r1 ∧ Kd.R (Kd.int .i64) 2 w' w.heap.size (fun _ => True) v2_ r3 ∧ Kd.S (Kd.slice 2 (Kd.int .i64)) 23 w' w.heap.size (fun k_ => some k_ ≠ (v0_ : Value).ownBlock ∧ some k_ ≠ (v2_ : Value).ownBlock) v3_ r4 ∧ Below w.heap.size w w' := by
 have hu29 := Try.underlying29
 have hu101 := Try.underlying101
 have HR0_0 := Aside0.mk hr0_0
 have HC0_0 := Aside0.mk hc0_0
 clear hr0_0 hc0_0
 have HR0_1 := Aside0.mk hr0_1
 have HC0_1 := Aside0.mk hc0_1
 clear hr0_1 hc0_1
 have HR1 := Aside0.mk hr1
 have HC1 := Aside0.mk hc1
 clear hr1 hc1
 have HB := Aside0.mk (Below.refl w.heap.size w)
 have H : ((spec_l05Begin.f k l0_0 l0_1 l1).bind fun bt954 => (spec_l05Run.l0 k l1 a2 (l0_1.length : Int) (([] : List (List Int))) false 0 0 l0_0 l0_1 bt954.1 bt954.2.1 bt954.2.2)) = some (r1, r2, r3, r4, r5, r6) := h
 clear h
 replace H := Option.bind_eq_some_iff.mp H
 obtain ⟨⟨t954, t957, t958⟩, A40, H⟩ := H
 replace H : (spec_l05Run.l0 k l1 a2 (l0_1.length : Int) (([] : List (List Int))) false 0 0 l0_0 l0_1 t954 t957 t958) = some (r1, r2, r3, r4, r5, r6) := H
 have A4 := Aside0.mk A40
 clear A40
 obtain ⟨y961, hy961⟩ : ∃ y_ : List (List Int), y_ = (([] : List (List Int))) := ⟨_, rfl⟩
 replace H : (spec_l05Run.l0 k l1 a2 (l0_1.length : Int) y961 false 0 0 l0_0 l0_1 t954 t957 t958) = some (r1, r2, r3, r4, r5, r6) := by first | (rw [hy961]; with_reducible exact H) | (have H2_ := (Option.bind_some _ _).symm.trans H; rw [hy961]; with_reducible exact H2_) | (have H2_ := (Option.bind_some _ _).symm.trans H; with_reducible exact H2_) | with_reducible exact H | (rw [hy961]; exact H) | exact H
 have Ny961 := Aside0.mk hy961
 clear hy961
 have H' := Aside0.mk H
 clear H
 go_enter Try.func86, Try.ntmps86
 try go_wp2_with (first | ((with_reducible refine gate_dst (N := 3) rfl ?_); refine box_event ?hg (N := 3) ?hd (cs := #[.slice A0_0 l0_0.length c0_0, .slice A0_1 l0_1.length c0_1]) (t := 29) ?hr ?_; (case hd => rfl); (case hg => rfl); (case hr => first | (go_simp; done) | (go_simp; rfl)); intro gb952 hg w5 hbox hb; have n0_ := Aside0.mk (bs_ hb); have n1_ := Aside0.mk (hbox); have n2_ := Aside0.mk ((by rw [hg]; exact bz_ : w.heap.size ≤ gb952)); have n3_ := Aside0.mk ((by rw [hg]; exact bz_ : w.heap.size ≤ gb952)); clear HB; have HB := n0_; have BK952 := n1_; have GW952 := n2_; have GE952 := n3_; clear n0_ n1_ n2_ n3_; clear hb hbox hg) | ((with_reducible refine gate_dst (N := 6) rfl ?_); refine box_event ?hg (N := 6) ?hd (cs := #[.slice none 0 0, .int .i64 0, .slice none 0 0]) (t := 101) ?hr ?_; (case hd => rfl); (case hg => rfl); (case hr => first | (go_simp; done) | (go_simp; rfl)); intro gb953 hg w6 hbox hb; have n0_ := Aside0.mk (bb_ BK952.out hb); have n1_ := Aside0.mk (bs_ hb); have n2_ := Aside0.mk (hbox); have n3_ := Aside0.mk ((by rw [hg]; exact bz_ : w.heap.size ≤ gb953)); have n4_ := Aside0.mk ((by rw [hg]; exact bz_ : w.heap.size ≤ gb953)); have n5_ := Aside0.mk ((by rw [hg]; exact lt_ BK952.out : gb952 ≠ gb953)); have n6_ := Aside0.mk ((by rw [hg]; exact gt_ BK952.out : gb953 ≠ gb952)); clear BK952; clear HB; have BK952 := n0_; have HB := n1_; have BK953 := n2_; have GW953 := n3_; have GE953 := n4_; have NB952_953 := n5_; have NB953_952 := n6_; clear n0_ n1_ n2_ n3_ n4_ n5_ n6_; clear hb hbox hg))
 have n0_ := Aside0.mk (blk_drew BK952.out)
 have n1_ := Aside0.mk (blk_drew BK953.out)
 have n2_ := Aside0.mk (below_drew1 HB.out)
 clear BK952
 clear BK953
 clear HB
 have BK952 := n0_
 have BK953 := n1_
 have HB := n2_
 clear n0_ n1_ n2_
 refine st_ (n := 11) (S := fun w' => w'.cell? ⟨gb952, 0, none⟩ = some (.slice A0_0 l0_0.length c0_0) ∧ w'.cell? ⟨gb952, 1, none⟩ = some (.slice A0_1 l0_1.length c0_1)) (ds := []) ⟨(blk_cell BK952.out 0).trans rfl, (blk_cell BK952.out 1).trans rfl⟩ (fun hHeld => ?_); refine with_tabW spec_l05Run.tab1 spec_l05Run.bits1 (fun HT_ HW_ => ?_)
 generalize w6.drew = w7 at BK952 BK953 HB hHeld ⊢
 refine pu_ 1 19 ?_; refine pu_ 3 21 ?_; refine tk_ 0 18 ?_; refine tk_ 4 22 ?_; refine pu_ 5 23 ?_
 refine join_ (σ := Value × Value × Value × Nat) 1 (fm 11 1023) (fun s_ => [(20, .agg #[s_.1, .int .i64 t957, s_.2.1]), (24, s_.2.2.1), (10, .pointer (some ⟨s_.2.2.2, 0, none⟩)), (11, .int .i64 (l0_1.length : Int))]) (fun s_ w' => (w'.cell? ⟨gb952, 0, none⟩ = some (.slice A0_0 l0_0.length c0_0) ∧ w'.cell? ⟨gb952, 1, none⟩ = some (.slice A0_1 l0_1.length c0_1)) ∧ (Kd.S (Kd.slice 2 (Kd.int .i64)) 23 w' w.heap.size (fun k_ => some k_ ≠ (s_.2.1 : Value).ownBlock ∧ some k_ ≠ (s_.2.2.1 : Value).ownBlock) s_.1 t954) ∧ (Kd.R (Kd.int .i64) 2 w' w.heap.size (fun _ => True) s_.2.1 t958) ∧ (Kd.S (Kd.slice 2 (Kd.int .i64)) 23 w' w.heap.size (fun k_ => some k_ ≠ (s_.1 : Value).ownBlock ∧ some k_ ≠ (s_.2.1 : Value).ownBlock) s_.2.2.1 y961) ∧ (w'.heap[gb952]? = some (.cells #[.slice A0_0 l0_0.length c0_0, .slice A0_1 l0_1.length c0_1] 29 (0, 0))) ∧ (w'.heap[gb953]? = some (.cells #[.slice none 0 0, .int .i64 0, .slice none 0 0] 101 (0, 0))) ∧ (w'.heap[s_.2.2.2]? = some (.cells #[s_.1, .int .i64 t957, s_.2.1] 101 (0, 0))) ∧ (w.heap.size ≤ s_.2.2.2) ∧ (w.heap.size ≤ s_.2.2.2) ∧ (gb952 ≠ s_.2.2.2) ∧ (s_.2.2.2 ≠ gb952) ∧ (gb953 ≠ s_.2.2.2) ∧ (s_.2.2.2 ≠ gb953) ∧ (Below w.heap.size w w')) ?_ ?_
 rotate_left
 ·intro hJ2_6_7_8
  refine join_ (σ := Value × Value × Value × Nat) 3 (fm 11 255) (fun s_ => [(20, .agg #[s_.1, .int .i64 t957, s_.2.1]), (24, s_.2.2.1), (10, .pointer (some ⟨s_.2.2.2, 0, none⟩))]) (fun s_ w' => (w'.cell? ⟨gb952, 0, none⟩ = some (.slice A0_0 l0_0.length c0_0) ∧ w'.cell? ⟨gb952, 1, none⟩ = some (.slice A0_1 l0_1.length c0_1)) ∧ (Kd.S (Kd.slice 2 (Kd.int .i64)) 23 w' w.heap.size (fun k_ => some k_ ≠ (s_.2.1 : Value).ownBlock ∧ some k_ ≠ (s_.2.2.1 : Value).ownBlock) s_.1 t954) ∧ (Kd.R (Kd.int .i64) 2 w' w.heap.size (fun _ => True) s_.2.1 t958) ∧ (Kd.S (Kd.slice 2 (Kd.int .i64)) 23 w' w.heap.size (fun k_ => some k_ ≠ (s_.1 : Value).ownBlock ∧ some k_ ≠ (s_.2.1 : Value).ownBlock) s_.2.2.1 y961) ∧ (w'.heap[gb952]? = some (.cells #[.slice A0_0 l0_0.length c0_0, .slice A0_1 l0_1.length c0_1] 29 (0, 0))) ∧ (w'.heap[gb953]? = some (.cells #[.slice none 0 0, .int .i64 0, .slice none 0 0] 101 (0, 0))) ∧ (w'.heap[s_.2.2.2]? = some (.cells #[.slice none 0 0, .int .i64 0, .slice none 0 0] 101 (0, 0))) ∧ (w.heap.size ≤ s_.2.2.2) ∧ (w.heap.size ≤ s_.2.2.2) ∧ (gb952 ≠ s_.2.2.2) ∧ (s_.2.2.2 ≠ gb952) ∧ (gb953 ≠ s_.2.2.2) ∧ (s_.2.2.2 ≠ gb953) ∧ (Below w.heap.size w w')) ?_ ?_
  rotate_left
  ·intro hJ2_6_7
   refine join_ (σ := Value × Value × Nat) 2 (fm 11 959) (fun s_ => [(20, .agg #[s_.1, .int .i64 t957, s_.2.1]), (10, .pointer (some ⟨s_.2.2, 0, none⟩)), (11, .int .i64 (l0_1.length : Int))]) (fun s_ w' => (w'.cell? ⟨gb952, 0, none⟩ = some (.slice A0_0 l0_0.length c0_0) ∧ w'.cell? ⟨gb952, 1, none⟩ = some (.slice A0_1 l0_1.length c0_1)) ∧ (Kd.S (Kd.slice 2 (Kd.int .i64)) 23 w' w.heap.size (fun k_ => some k_ ≠ (s_.2.1 : Value).ownBlock) s_.1 t954) ∧ (Kd.R (Kd.int .i64) 2 w' w.heap.size (fun _ => True) s_.2.1 t958) ∧ (w'.heap[gb952]? = some (.cells #[.slice A0_0 l0_0.length c0_0, .slice A0_1 l0_1.length c0_1] 29 (0, 0))) ∧ (w'.heap[gb953]? = some (.cells #[.slice none 0 0, .int .i64 0, .slice none 0 0] 101 (0, 0))) ∧ (w'.heap[s_.2.2]? = some (.cells #[s_.1, .int .i64 t957, s_.2.1] 101 (0, 0))) ∧ (w.heap.size ≤ s_.2.2) ∧ (w.heap.size ≤ s_.2.2) ∧ (gb952 ≠ s_.2.2) ∧ (s_.2.2 ≠ gb952) ∧ (gb953 ≠ s_.2.2) ∧ (s_.2.2 ≠ gb953) ∧ (Below w.heap.size w w')) ?_ ?_
   rotate_left
   ·intro hJ2_7_8
    refine join_ (σ := Value × Value × Value) 4 (fm 11 127) (fun s_ => [(20, .agg #[s_.1, .int .i64 t957, s_.2.1]), (24, s_.2.2)]) (fun s_ w' => (w'.cell? ⟨gb952, 0, none⟩ = some (.slice A0_0 l0_0.length c0_0) ∧ w'.cell? ⟨gb952, 1, none⟩ = some (.slice A0_1 l0_1.length c0_1)) ∧ (Kd.S (Kd.slice 2 (Kd.int .i64)) 23 w' w.heap.size (fun k_ => some k_ ≠ (s_.2.1 : Value).ownBlock ∧ some k_ ≠ (s_.2.2 : Value).ownBlock) s_.1 t954) ∧ (Kd.R (Kd.int .i64) 2 w' w.heap.size (fun _ => True) s_.2.1 t958) ∧ (Kd.S (Kd.slice 2 (Kd.int .i64)) 23 w' w.heap.size (fun k_ => some k_ ≠ (s_.1 : Value).ownBlock ∧ some k_ ≠ (s_.2.1 : Value).ownBlock) s_.2.2 y961) ∧ (w'.heap[gb952]? = some (.cells #[.slice A0_0 l0_0.length c0_0, .slice A0_1 l0_1.length c0_1] 29 (0, 0))) ∧ (w'.heap[gb953]? = some (.cells #[.slice none 0 0, .int .i64 0, .slice none 0 0] 101 (0, 0))) ∧ (Below w.heap.size w w')) ?_ ?_
    rotate_left
    ·intro hJ2_6
     refine join_ (σ := Value × Value × Nat) 4 (fm 11 191) (fun s_ => [(20, .agg #[s_.1, .int .i64 t957, s_.2.1]), (10, .pointer (some ⟨s_.2.2, 0, none⟩))]) (fun s_ w' => (w'.cell? ⟨gb952, 0, none⟩ = some (.slice A0_0 l0_0.length c0_0) ∧ w'.cell? ⟨gb952, 1, none⟩ = some (.slice A0_1 l0_1.length c0_1)) ∧ (Kd.S (Kd.slice 2 (Kd.int .i64)) 23 w' w.heap.size (fun k_ => some k_ ≠ (s_.2.1 : Value).ownBlock) s_.1 t954) ∧ (Kd.R (Kd.int .i64) 2 w' w.heap.size (fun _ => True) s_.2.1 t958) ∧ (w'.heap[gb952]? = some (.cells #[.slice A0_0 l0_0.length c0_0, .slice A0_1 l0_1.length c0_1] 29 (0, 0))) ∧ (w'.heap[gb953]? = some (.cells #[.slice none 0 0, .int .i64 0, .slice none 0 0] 101 (0, 0))) ∧ (w'.heap[s_.2.2]? = some (.cells #[.slice none 0 0, .int .i64 0, .slice none 0 0] 101 (0, 0))) ∧ (w.heap.size ≤ s_.2.2) ∧ (w.heap.size ≤ s_.2.2) ∧ (gb952 ≠ s_.2.2) ∧ (s_.2.2 ≠ gb952) ∧ (gb953 ≠ s_.2.2) ∧ (s_.2.2 ≠ gb953) ∧ (Below w.heap.size w w')) ?_ ?_
     rotate_left
     ·intro hJ2_7
      refine join_ (σ := Value × Nat) 4 (fm 11 251) (fun s_ => [(24, s_.1), (10, .pointer (some ⟨s_.2, 0, none⟩))]) (fun s_ w' => (w'.cell? ⟨gb952, 0, none⟩ = some (.slice A0_0 l0_0.length c0_0) ∧ w'.cell? ⟨gb952, 1, none⟩ = some (.slice A0_1 l0_1.length c0_1)) ∧ (Kd.S (Kd.slice 2 (Kd.int .i64)) 23 w' w.heap.size (fun _ => True) s_.1 y961) ∧ (w'.heap[gb952]? = some (.cells #[.slice A0_0 l0_0.length c0_0, .slice A0_1 l0_1.length c0_1] 29 (0, 0))) ∧ (w'.heap[gb953]? = some (.cells #[.slice none 0 0, .int .i64 0, .slice none 0 0] 101 (0, 0))) ∧ (w'.heap[s_.2]? = some (.cells #[.slice none 0 0, .int .i64 0, .slice none 0 0] 101 (0, 0))) ∧ (w.heap.size ≤ s_.2) ∧ (w.heap.size ≤ s_.2) ∧ (gb952 ≠ s_.2) ∧ (s_.2 ≠ gb952) ∧ (gb953 ≠ s_.2) ∧ (s_.2 ≠ gb953) ∧ (Below w.heap.size w w')) ?_ ?_
      rotate_left
      ·intro hJ6_7
       refine join_ (σ := Value × Value) 5 (fm 11 63) (fun s_ => [(20, .agg #[s_.1, .int .i64 t957, s_.2])]) (fun s_ w' => (w'.cell? ⟨gb952, 0, none⟩ = some (.slice A0_0 l0_0.length c0_0) ∧ w'.cell? ⟨gb952, 1, none⟩ = some (.slice A0_1 l0_1.length c0_1)) ∧ (Kd.S (Kd.slice 2 (Kd.int .i64)) 23 w' w.heap.size (fun k_ => some k_ ≠ (s_.2 : Value).ownBlock) s_.1 t954) ∧ (Kd.R (Kd.int .i64) 2 w' w.heap.size (fun _ => True) s_.2 t958) ∧ (w'.heap[gb952]? = some (.cells #[.slice A0_0 l0_0.length c0_0, .slice A0_1 l0_1.length c0_1] 29 (0, 0))) ∧ (w'.heap[gb953]? = some (.cells #[.slice none 0 0, .int .i64 0, .slice none 0 0] 101 (0, 0))) ∧ (Below w.heap.size w w')) ?_ ?_
       rotate_left
       ·intro hJ2
        refine join_ (σ := Value) 5 (fm 11 123) (fun s_ => [(24, s_)]) (fun s_ w' => (w'.cell? ⟨gb952, 0, none⟩ = some (.slice A0_0 l0_0.length c0_0) ∧ w'.cell? ⟨gb952, 1, none⟩ = some (.slice A0_1 l0_1.length c0_1)) ∧ (Kd.S (Kd.slice 2 (Kd.int .i64)) 23 w' w.heap.size (fun _ => True) s_ y961) ∧ (w'.heap[gb952]? = some (.cells #[.slice A0_0 l0_0.length c0_0, .slice A0_1 l0_1.length c0_1] 29 (0, 0))) ∧ (w'.heap[gb953]? = some (.cells #[.slice none 0 0, .int .i64 0, .slice none 0 0] 101 (0, 0))) ∧ (Below w.heap.size w w')) ?_ ?_
        rotate_left
        ·intro hJ6
         refine join_ (σ := Nat) 5 (fm 11 187) (fun s_ => [(10, .pointer (some ⟨s_, 0, none⟩))]) (fun s_ w' => (w'.cell? ⟨gb952, 0, none⟩ = some (.slice A0_0 l0_0.length c0_0) ∧ w'.cell? ⟨gb952, 1, none⟩ = some (.slice A0_1 l0_1.length c0_1)) ∧ (w'.heap[gb952]? = some (.cells #[.slice A0_0 l0_0.length c0_0, .slice A0_1 l0_1.length c0_1] 29 (0, 0))) ∧ (w'.heap[gb953]? = some (.cells #[.slice none 0 0, .int .i64 0, .slice none 0 0] 101 (0, 0))) ∧ (w'.heap[s_]? = some (.cells #[.slice none 0 0, .int .i64 0, .slice none 0 0] 101 (0, 0))) ∧ (w.heap.size ≤ s_) ∧ (w.heap.size ≤ s_) ∧ (gb952 ≠ s_) ∧ (s_ ≠ gb952) ∧ (gb953 ≠ s_) ∧ (s_ ≠ gb953) ∧ (Below w.heap.size w w')) ?_ ?_
         rotate_left
         ·intro hJ7
          refine three_ (i := 2) (j := 6) (k := 7) (Ni := some 20) (Nj := some 24) (Nk := some 10) (fm 11 63) (fm 11 123) (fm 11 187) rfl rfl rfl rfl rfl rfl (three_of HT_.out (by kernel_rfl)) (by decide) (by decide) (by decide) (fun K hK => ?_) (fun K hK => ?_) (fun K hK => ?_)
          ·skip
           refine goes_ Try.func116 (by kernel_rfl) rfl #[.agg #[.slice A0_0 l0_0.length c0_0, .slice A0_1 l0_1.length c0_1], .slice A1 l1.length c1] (by rfl) rfl rfl (by (try simp only [List.map_toArray, List.map_cons, List.map_nil]); first | done | rfl | (simp only [List.length_drop, List.length_take]; rfl)) ?_
           with_reducible refine (spec_l05Begin.calls k _ _ l0_0 _ _ l0_1 _ _ l1 t954 t957 t958 _ ?side1 ?side2 ?side3 ?side4 ?side5 ?side6 A4.out).mono ?_
           (case side1 => exact cb_ HR0_0.out HB.out)
           (case side2 => exact HC0_0.out)
           (case side3 => exact cb_ HR0_1.out HB.out)
           (case side4 => exact HC0_1.out)
           (case side5 => exact cb_ HR1.out HB.out)
           (case side6 => exact HC1.out)
           rintro e w8 ⟨v955, v959, rfl, ho0, ho1, hb⟩
           refine ⟨_, rfl, ?_⟩
           have n0_ := Aside0.mk (Kd.S_lower ho0 bz_)
           have n1_ := Aside0.mk (Kd.R_lower ho1 bz_)
           have n2_ := Aside0.mk (bb_ BK952.out hb)
           have n3_ := Aside0.mk (bb_ BK953.out hb)
           have n4_ := Aside0.mk (bs_ hb)
           clear BK952
           clear BK953
           clear HB
           have HO956 := n0_
           have HO960 := n1_
           have BK952 := n2_
           have BK953 := n3_
           have HB := n4_
           clear n0_ n1_ n2_ n3_ n4_
           (try clear hb)
           (try clear hb2)
           (try clear hk)
           (try clear hi)
           (try clear ho0)
           (try clear ho1)
           refine hK.out _ _ ⟨(blk_cell BK952.out 0).trans rfl, (blk_cell BK952.out 1).trans rfl⟩ (fun hHeld => ?_)
           clear hK K
           refine norm_ (a' := ?_) ?_ ?_
           rotate_left
           ·show Act.put _ (some 20) _ = _
            simp only [Act.put, List.setIfInBounds_toArray, List.set_cons_zero, List.set_cons_succ, i64_w, i32_w]
            rfl
           exact norm_ (by first | (simp only [putAll, Act.put, List.setIfInBounds_toArray, List.set_cons_zero, List.set_cons_succ]; done) | (simp only [putAll, Act.put, List.setIfInBounds_toArray, List.set_cons_zero, List.set_cons_succ]; rfl)) (hJ2 (v955, v959) _ ⟨hHeld, (so_ HO956.out), (ro_ HO960.out), bk_, bk_, hb_⟩)
          ·skip
           refine Kd.S_lit_step (Kd.slice 2 (Kd.int .i64)) _ 23 ?hg (N := 24) ?hd (xs := ([] : List (List Int))) (inner := []) (ok := fun _ => True) (okp := fun _ => True) ?hr ?hp (fun _ hk => hk) trivial (Below.refl _ _) (Nat.le_refl _) (by simp) ?_; (case hd => rfl); (case hg => rfl); (case hr => first | (go_simp; done) | (go_simp; rfl)); (case hp => exact (Reps.none _ _))
           intro v962 w8 ho9 hb hg_ hnew_
           clear hg_ hnew_
           (first | rw [← Ny961.out] at ho9 | (simp only [Int.reduceToNat] at ho9; rw [← Ny961.out] at ho9))
           have n0_ := Aside0.mk (Kd.S_lower ho9 bz_)
           have n1_ := Aside0.mk (bb_ BK952.out hb)
           have n2_ := Aside0.mk (bb_ BK953.out hb)
           have n3_ := Aside0.mk (bs_ hb)
           clear BK952
           clear BK953
           clear HB
           have HO963 := n0_
           have BK952 := n1_
           have BK953 := n2_
           have HB := n3_
           clear n0_ n1_ n2_ n3_
           clear hb ho9
           refine hK.out _ _ ⟨(blk_cell BK952.out 0).trans rfl, (blk_cell BK952.out 1).trans rfl⟩ (fun hHeld => ?_)
           clear hK K
           refine norm_ (a' := ?_) ?_ ?_
           rotate_left
           ·show Act.put _ (some 24) _ = _
            simp only [Act.put, List.setIfInBounds_toArray, List.set_cons_zero, List.set_cons_succ, i64_w, i32_w]
            rfl
           exact norm_ (by first | (simp only [putAll, Act.put, List.setIfInBounds_toArray, List.set_cons_zero, List.set_cons_succ]; done) | (simp only [putAll, Act.put, List.setIfInBounds_toArray, List.set_cons_zero, List.set_cons_succ]; rfl)) (hJ6 (v962) _ ⟨hHeld, (so_ HO963.out), bk_, bk_, hb_⟩)
          ·skip
           refine box_step ?hg (N := 10) ?hd (cs := #[.slice none 0 0, .int .i64 0, .slice none 0 0]) (t := 101) ?hr ?_; (case hd => rfl); (case hg => rfl); (case hr => first | (go_simp; done) | (go_simp; rfl))
           intro gb964 hg w8 hbox hb
           have n0_ := Aside0.mk (bb_ BK952.out hb)
           have n1_ := Aside0.mk (bb_ BK953.out hb)
           have n2_ := Aside0.mk (bs_ hb)
           have n3_ := Aside0.mk (hbox)
           have n4_ := Aside0.mk ((by rw [hg]; exact bz_ : w.heap.size ≤ gb964))
           have n5_ := Aside0.mk ((by rw [hg]; exact bz_ : w.heap.size ≤ gb964))
           have n6_ := Aside0.mk ((by rw [hg]; exact lt_ BK952.out : gb952 ≠ gb964))
           have n7_ := Aside0.mk ((by rw [hg]; exact gt_ BK952.out : gb964 ≠ gb952))
           have n8_ := Aside0.mk ((by rw [hg]; exact lt_ BK953.out : gb953 ≠ gb964))
           have n9_ := Aside0.mk ((by rw [hg]; exact gt_ BK953.out : gb964 ≠ gb953))
           clear BK952
           clear BK953
           clear HB
           have BK952 := n0_
           have BK953 := n1_
           have HB := n2_
           have BK964 := n3_
           have GW964 := n4_
           have GE964 := n5_
           have NB952_964 := n6_
           have NB964_952 := n7_
           have NB953_964 := n8_
           have NB964_953 := n9_
           clear n0_ n1_ n2_ n3_ n4_ n5_ n6_ n7_ n8_ n9_
           clear hb hbox hg
           refine hK.out _ _ ⟨(blk_cell BK952.out 0).trans rfl, (blk_cell BK952.out 1).trans rfl⟩ (fun hHeld => ?_)
           clear hK K
           refine norm_ (a' := ?_) ?_ ?_
           rotate_left
           ·show Act.put _ (some 10) _ = _
            simp only [Act.put, List.setIfInBounds_toArray, List.set_cons_zero, List.set_cons_succ, i64_w, i32_w]
            rfl
           exact norm_ (by first | (simp only [putAll, Act.put, List.setIfInBounds_toArray, List.set_cons_zero, List.set_cons_succ]; done) | (simp only [putAll, Act.put, List.setIfInBounds_toArray, List.set_cons_zero, List.set_cons_succ]; rfl)) (hJ7 (gb964) _ ⟨hHeld, bk_, bk_, bk_, GW964.out, GE964.out, NB952_964.out, NB964_952.out, NB953_964.out, NB964_953.out, hb_⟩)
         ·skip
          rintro gb964 w9 ⟨hS_, h0_, h1_, h2_, h3_, h4_, h5_, h6_, h7_, h8_, h9_⟩
          have n0_ : Aside0 (w9.heap[gb952]? = some (.cells #[.slice A0_0 l0_0.length c0_0, .slice A0_1 l0_1.length c0_1] 29 (0, 0))) := ⟨h0_⟩
          have n1_ : Aside0 (w9.heap[gb953]? = some (.cells #[.slice none 0 0, .int .i64 0, .slice none 0 0] 101 (0, 0))) := ⟨h1_⟩
          have n2_ : Aside0 (w9.heap[gb964]? = some (.cells #[.slice none 0 0, .int .i64 0, .slice none 0 0] 101 (0, 0))) := ⟨h2_⟩
          have n3_ : Aside0 (w.heap.size ≤ gb964) := ⟨h3_⟩
          have n4_ : Aside0 (w.heap.size ≤ gb964) := ⟨h4_⟩
          have n5_ : Aside0 (gb952 ≠ gb964) := ⟨h5_⟩
          have n6_ : Aside0 (gb964 ≠ gb952) := ⟨h6_⟩
          have n7_ : Aside0 (gb953 ≠ gb964) := ⟨h7_⟩
          have n8_ : Aside0 (gb964 ≠ gb953) := ⟨h8_⟩
          have n9_ : Aside0 (Below w.heap.size w w9) := ⟨h9_⟩
          clear BK952
          clear BK953
          clear HB
          clear h0_ h1_ h2_ h3_ h4_ h5_ h6_ h7_ h8_ h9_
          have BK952 := n0_
          have BK953 := n1_
          have BK964 := n2_
          have GW964 := n3_
          have GE964 := n4_
          have NB952_964 := n5_
          have NB964_952 := n6_
          have NB953_964 := n7_
          have NB964_953 := n8_
          have HB := n9_
          clear n0_ n1_ n2_ n3_ n4_ n5_ n6_ n7_ n8_ n9_
          have hHeld : w9.cell? ⟨gb952, 0, none⟩ = some (.slice A0_0 l0_0.length c0_0) ∧ w9.cell? ⟨gb952, 1, none⟩ = some (.slice A0_1 l0_1.length c0_1) := hS_
          refine norm_ (a' := ?_) ?_ ?_
          rotate_left
          ·simp only [putAll, Act.put, List.setIfInBounds_toArray, List.set_cons_zero, List.set_cons_succ]
           rfl
          refine two_ (i := 2) (j := 6) (Ni := some 20) (Nj := some 24) (fm 11 191) (fm 11 251) rfl rfl rfl rfl (two_of HT_.out (by kernel_rfl)) (by decide) (by decide) (fun K hK => ?_) (fun K hK => ?_)
          ·skip
           refine goes_ Try.func116 (by kernel_rfl) rfl #[.agg #[.slice A0_0 l0_0.length c0_0, .slice A0_1 l0_1.length c0_1], .slice A1 l1.length c1] (by rfl) rfl rfl (by (try simp only [List.map_toArray, List.map_cons, List.map_nil]); first | done | rfl | (simp only [List.length_drop, List.length_take]; rfl)) ?_
           with_reducible refine (spec_l05Begin.calls k _ _ l0_0 _ _ l0_1 _ _ l1 t954 t957 t958 _ ?side1 ?side2 ?side3 ?side4 ?side5 ?side6 A4.out).mono ?_
           (case side1 => exact cb_ HR0_0.out HB.out)
           (case side2 => exact HC0_0.out)
           (case side3 => exact cb_ HR0_1.out HB.out)
           (case side4 => exact HC0_1.out)
           (case side5 => exact cb_ HR1.out HB.out)
           (case side6 => exact HC1.out)
           rintro e w10 ⟨v955, v959, rfl, ho0, ho1, hb⟩
           refine ⟨_, rfl, ?_⟩
           have n0_ := Aside0.mk (Kd.S_lower ho0 bz_)
           have n1_ := Aside0.mk (Kd.R_lower ho1 bz_)
           have n2_ := Aside0.mk (bb_ BK952.out hb)
           have n3_ := Aside0.mk (bb_ BK953.out hb)
           have n4_ := Aside0.mk (bb_ BK964.out hb)
           have n5_ := Aside0.mk (bs_ hb)
           clear BK952
           clear BK953
           clear BK964
           clear HB
           have HO956 := n0_
           have HO960 := n1_
           have BK952 := n2_
           have BK953 := n3_
           have BK964 := n4_
           have HB := n5_
           clear n0_ n1_ n2_ n3_ n4_ n5_
           (try clear hb)
           (try clear hb2)
           (try clear hk)
           (try clear hi)
           (try clear ho0)
           (try clear ho1)
           refine hK.out _ _ ⟨(blk_cell BK952.out 0).trans rfl, (blk_cell BK952.out 1).trans rfl⟩ (fun hHeld => ?_)
           clear hK K
           refine norm_ (a' := ?_) ?_ ?_
           rotate_left
           ·show Act.put _ (some 20) _ = _
            simp only [Act.put, List.setIfInBounds_toArray, List.set_cons_zero, List.set_cons_succ, i64_w, i32_w]
            rfl
           exact norm_ (by first | (simp only [putAll, Act.put, List.setIfInBounds_toArray, List.set_cons_zero, List.set_cons_succ]; done) | (simp only [putAll, Act.put, List.setIfInBounds_toArray, List.set_cons_zero, List.set_cons_succ]; rfl)) (hJ2_7 (v955, v959, gb964) _ ⟨hHeld, (so_ HO956.out), (ro_ HO960.out), bk_, bk_, bk_, GW964.out, GE964.out, NB952_964.out, NB964_952.out, NB953_964.out, NB964_953.out, hb_⟩)
          ·skip
           refine Kd.S_lit_step (Kd.slice 2 (Kd.int .i64)) _ 23 ?hg (N := 24) ?hd (xs := ([] : List (List Int))) (inner := []) (ok := fun _ => True) (okp := fun _ => True) ?hr ?hp (fun _ hk => hk) trivial (Below.refl _ _) (Nat.le_refl _) (by simp) ?_; (case hd => rfl); (case hg => rfl); (case hr => first | (go_simp; done) | (go_simp; rfl)); (case hp => exact (Reps.none _ _))
           intro v962 w10 ho11 hb hg_ hnew_
           clear hg_ hnew_
           (first | rw [← Ny961.out] at ho11 | (simp only [Int.reduceToNat] at ho11; rw [← Ny961.out] at ho11))
           have n0_ := Aside0.mk (Kd.S_lower ho11 bz_)
           have n1_ := Aside0.mk (bb_ BK952.out hb)
           have n2_ := Aside0.mk (bb_ BK953.out hb)
           have n3_ := Aside0.mk (bb_ BK964.out hb)
           have n4_ := Aside0.mk (bs_ hb)
           clear BK952
           clear BK953
           clear BK964
           clear HB
           have HO963 := n0_
           have BK952 := n1_
           have BK953 := n2_
           have BK964 := n3_
           have HB := n4_
           clear n0_ n1_ n2_ n3_ n4_
           clear hb ho11
           refine hK.out _ _ ⟨(blk_cell BK952.out 0).trans rfl, (blk_cell BK952.out 1).trans rfl⟩ (fun hHeld => ?_)
           clear hK K
           refine norm_ (a' := ?_) ?_ ?_
           rotate_left
           ·show Act.put _ (some 24) _ = _
            simp only [Act.put, List.setIfInBounds_toArray, List.set_cons_zero, List.set_cons_succ, i64_w, i32_w]
            rfl
           exact norm_ (by first | (simp only [putAll, Act.put, List.setIfInBounds_toArray, List.set_cons_zero, List.set_cons_succ]; done) | (simp only [putAll, Act.put, List.setIfInBounds_toArray, List.set_cons_zero, List.set_cons_succ]; rfl)) (hJ6_7 (v962, gb964) _ ⟨hHeld, (so_ HO963.out), bk_, bk_, bk_, GW964.out, GE964.out, NB952_964.out, NB964_952.out, NB953_964.out, NB964_953.out, hb_⟩)
        ·skip
         rintro v962 w10 ⟨hS_, h0_, h1_, h2_, h3_⟩
         have n0_ : Aside0 (Kd.S (Kd.slice 2 (Kd.int .i64)) 23 w10 w.heap.size (fun _ => True) v962 y961) := ⟨h0_⟩
         have n1_ : Aside0 (w10.heap[gb952]? = some (.cells #[.slice A0_0 l0_0.length c0_0, .slice A0_1 l0_1.length c0_1] 29 (0, 0))) := ⟨h1_⟩
         have n2_ : Aside0 (w10.heap[gb953]? = some (.cells #[.slice none 0 0, .int .i64 0, .slice none 0 0] 101 (0, 0))) := ⟨h2_⟩
         have n3_ : Aside0 (Below w.heap.size w w10) := ⟨h3_⟩
         clear BK952
         clear BK953
         clear HB
         clear h0_ h1_ h2_ h3_
         have HO963 := n0_
         have BK952 := n1_
         have BK953 := n2_
         have HB := n3_
         clear n0_ n1_ n2_ n3_
         have hHeld : w10.cell? ⟨gb952, 0, none⟩ = some (.slice A0_0 l0_0.length c0_0) ∧ w10.cell? ⟨gb952, 1, none⟩ = some (.slice A0_1 l0_1.length c0_1) := hS_
         refine norm_ (a' := ?_) ?_ ?_
         rotate_left
         ·simp only [putAll, Act.put, List.setIfInBounds_toArray, List.set_cons_zero, List.set_cons_succ]
          rfl
         refine two_ (i := 2) (j := 7) (Ni := some 20) (Nj := some 10) (fm 11 127) (fm 11 251) rfl rfl rfl rfl (two_of HT_.out (by kernel_rfl)) (by decide) (by decide) (fun K hK => ?_) (fun K hK => ?_)
         ·skip
          refine goes_ Try.func116 (by kernel_rfl) rfl #[.agg #[.slice A0_0 l0_0.length c0_0, .slice A0_1 l0_1.length c0_1], .slice A1 l1.length c1] (by rfl) rfl rfl (by (try simp only [List.map_toArray, List.map_cons, List.map_nil]); first | done | rfl | (simp only [List.length_drop, List.length_take]; rfl)) ?_
          with_reducible refine (spec_l05Begin.calls k _ _ l0_0 _ _ l0_1 _ _ l1 t954 t957 t958 _ ?side1 ?side2 ?side3 ?side4 ?side5 ?side6 A4.out).mono ?_
          (case side1 => exact cb_ HR0_0.out HB.out)
          (case side2 => exact HC0_0.out)
          (case side3 => exact cb_ HR0_1.out HB.out)
          (case side4 => exact HC0_1.out)
          (case side5 => exact cb_ HR1.out HB.out)
          (case side6 => exact HC1.out)
          rintro e w11 ⟨v955, v959, rfl, ho0, ho1, hb⟩
          refine ⟨_, rfl, ?_⟩
          have n0_ := Aside0.mk (Kd.S_mono (Kd.S_told (Kd.S_told (Kd.S_old (so_ HO963.out) hb) (Kd.S_base ho0)) (Kd.R_base ho1)) (fun _ h_ => h_.1))
          have n1_ := Aside0.mk (Kd.S_lower (Kd.S_new' ho0 (Kd.S_lt (so_ HO963.out))) bz_)
          have n2_ := Aside0.mk (Kd.R_lower ho1 bz_)
          have n3_ := Aside0.mk (bb_ BK952.out hb)
          have n4_ := Aside0.mk (bb_ BK953.out hb)
          have n5_ := Aside0.mk (bs_ hb)
          clear HO963
          clear BK952
          clear BK953
          clear HB
          have HO963 := n0_
          have HO956 := n1_
          have HO960 := n2_
          have BK952 := n3_
          have BK953 := n4_
          have HB := n5_
          clear n0_ n1_ n2_ n3_ n4_ n5_
          (try clear hb)
          (try clear hb2)
          (try clear hk)
          (try clear hi)
          (try clear ho0)
          (try clear ho1)
          refine hK.out _ _ ⟨(blk_cell BK952.out 0).trans rfl, (blk_cell BK952.out 1).trans rfl⟩ (fun hHeld => ?_)
          clear hK K
          refine norm_ (a' := ?_) ?_ ?_
          rotate_left
          ·show Act.put _ (some 20) _ = _
           simp only [Act.put, List.setIfInBounds_toArray, List.set_cons_zero, List.set_cons_succ, i64_w, i32_w]
           rfl
          exact norm_ (by first | (simp only [putAll, Act.put, List.setIfInBounds_toArray, List.set_cons_zero, List.set_cons_succ]; done) | (simp only [putAll, Act.put, List.setIfInBounds_toArray, List.set_cons_zero, List.set_cons_succ]; rfl)) (hJ2_6 (v955, v959, v962) _ ⟨hHeld, (so_ HO956.out), (ro_ HO960.out), (by (with_reducible repeat (first | apply Kd.S_alloc | apply Kd.S_drewN | apply Kd.S_drew)); exact Kd.S_mono HO963.out (fun _ hk => ⟨hk.1.2, hk.2⟩)), bk_, bk_, hb_⟩)
         ·skip
          refine box_step ?hg (N := 10) ?hd (cs := #[.slice none 0 0, .int .i64 0, .slice none 0 0]) (t := 101) ?hr ?_; (case hd => rfl); (case hg => rfl); (case hr => first | (go_simp; done) | (go_simp; rfl))
          intro gb964 hg w11 hbox hb
          have n0_ := Aside0.mk (Kd.S_below (so_ HO963.out) hb)
          have n1_ := Aside0.mk (bb_ BK952.out hb)
          have n2_ := Aside0.mk (bb_ BK953.out hb)
          have n3_ := Aside0.mk (bs_ hb)
          have n4_ := Aside0.mk (hbox)
          have n5_ := Aside0.mk ((by rw [hg]; exact bz_ : w.heap.size ≤ gb964))
          have n6_ := Aside0.mk ((by rw [hg]; exact bz_ : w.heap.size ≤ gb964))
          have n7_ := Aside0.mk ((by rw [hg]; exact lt_ BK952.out : gb952 ≠ gb964))
          have n8_ := Aside0.mk ((by rw [hg]; exact gt_ BK952.out : gb964 ≠ gb952))
          have n9_ := Aside0.mk ((by rw [hg]; exact lt_ BK953.out : gb953 ≠ gb964))
          have n10_ := Aside0.mk ((by rw [hg]; exact gt_ BK953.out : gb964 ≠ gb953))
          clear HO963
          clear BK952
          clear BK953
          clear HB
          have HO963 := n0_
          have BK952 := n1_
          have BK953 := n2_
          have HB := n3_
          have BK964 := n4_
          have GW964 := n5_
          have GE964 := n6_
          have NB952_964 := n7_
          have NB964_952 := n8_
          have NB953_964 := n9_
          have NB964_953 := n10_
          clear n0_ n1_ n2_ n3_ n4_ n5_ n6_ n7_ n8_ n9_ n10_
          clear hb hbox hg
          refine hK.out _ _ ⟨(blk_cell BK952.out 0).trans rfl, (blk_cell BK952.out 1).trans rfl⟩ (fun hHeld => ?_)
          clear hK K
          refine norm_ (a' := ?_) ?_ ?_
          rotate_left
          ·show Act.put _ (some 10) _ = _
           simp only [Act.put, List.setIfInBounds_toArray, List.set_cons_zero, List.set_cons_succ, i64_w, i32_w]
           rfl
          exact norm_ (by first | (simp only [putAll, Act.put, List.setIfInBounds_toArray, List.set_cons_zero, List.set_cons_succ]; done) | (simp only [putAll, Act.put, List.setIfInBounds_toArray, List.set_cons_zero, List.set_cons_succ]; rfl)) (hJ6_7 (v962, gb964) _ ⟨hHeld, (so_ HO963.out), bk_, bk_, bk_, GW964.out, GE964.out, NB952_964.out, NB964_952.out, NB953_964.out, NB964_953.out, hb_⟩)
       ·skip
        rintro ⟨v955, v959⟩ w9 ⟨hS_, h0_, h1_, h2_, h3_, h4_⟩
        have n0_ : Aside0 (Kd.S (Kd.slice 2 (Kd.int .i64)) 23 w9 w.heap.size (fun k_ => some k_ ≠ (v959 : Value).ownBlock) v955 t954) := ⟨h0_⟩
        have n1_ : Aside0 (Kd.R (Kd.int .i64) 2 w9 w.heap.size (fun _ => True) v959 t958) := ⟨h1_⟩
        have n2_ : Aside0 (w9.heap[gb952]? = some (.cells #[.slice A0_0 l0_0.length c0_0, .slice A0_1 l0_1.length c0_1] 29 (0, 0))) := ⟨h2_⟩
        have n3_ : Aside0 (w9.heap[gb953]? = some (.cells #[.slice none 0 0, .int .i64 0, .slice none 0 0] 101 (0, 0))) := ⟨h3_⟩
        have n4_ : Aside0 (Below w.heap.size w w9) := ⟨h4_⟩
        clear BK952
        clear BK953
        clear HB
        clear h0_ h1_ h2_ h3_ h4_
        have HO956 := n0_
        have HO960 := n1_
        have BK952 := n2_
        have BK953 := n3_
        have HB := n4_
        clear n0_ n1_ n2_ n3_ n4_
        have hHeld : w9.cell? ⟨gb952, 0, none⟩ = some (.slice A0_0 l0_0.length c0_0) ∧ w9.cell? ⟨gb952, 1, none⟩ = some (.slice A0_1 l0_1.length c0_1) := hS_
        refine norm_ (a' := ?_) ?_ ?_
        rotate_left
        ·simp only [putAll, Act.put, List.setIfInBounds_toArray, List.set_cons_zero, List.set_cons_succ]
         rfl
        refine two_ (i := 6) (j := 7) (Ni := some 24) (Nj := some 10) (fm 11 127) (fm 11 191) rfl rfl rfl rfl (two_of HT_.out (by kernel_rfl)) (by decide) (by decide) (fun K hK => ?_) (fun K hK => ?_)
        ·skip
         refine Kd.S_lit_step (Kd.slice 2 (Kd.int .i64)) _ 23 ?hg (N := 24) ?hd (xs := ([] : List (List Int))) (inner := []) (ok := fun _ => True) (okp := fun _ => True) ?hr ?hp (fun _ hk => hk) trivial (Below.refl _ _) (Nat.le_refl _) (by simp) ?_; (case hd => rfl); (case hg => rfl); (case hr => first | (go_simp; done) | (go_simp; rfl)); (case hp => exact (Reps.none _ _))
         intro v962 w10 ho11 hb hg_ hnew_
         clear hg_ hnew_
         (first | rw [← Ny961.out] at ho11 | (simp only [Int.reduceToNat] at ho11; rw [← Ny961.out] at ho11))
         have n0_ := Aside0.mk (Kd.S_elder' (so_ HO956.out) (Kd.S_base ho11) hb)
         have n1_ := Aside0.mk (rb_ HO960.out hb)
         have n2_ := Aside0.mk (Kd.S_lower (Kd.S_new' (Kd.S_new' ho11 (Kd.S_lt (so_ HO956.out))) (Kd.R_lt (ro_ HO960.out))) bz_)
         have n3_ := Aside0.mk (bb_ BK952.out hb)
         have n4_ := Aside0.mk (bb_ BK953.out hb)
         have n5_ := Aside0.mk (bs_ hb)
         clear HO956
         clear HO960
         clear BK952
         clear BK953
         clear HB
         have HO956 := n0_
         have HO960 := n1_
         have HO963 := n2_
         have BK952 := n3_
         have BK953 := n4_
         have HB := n5_
         clear n0_ n1_ n2_ n3_ n4_ n5_
         clear hb ho11
         refine hK.out _ _ ⟨(blk_cell BK952.out 0).trans rfl, (blk_cell BK952.out 1).trans rfl⟩ (fun hHeld => ?_)
         clear hK K
         refine norm_ (a' := ?_) ?_ ?_
         rotate_left
         ·show Act.put _ (some 24) _ = _
          simp only [Act.put, List.setIfInBounds_toArray, List.set_cons_zero, List.set_cons_succ, i64_w, i32_w]
          rfl
         exact norm_ (by first | (simp only [putAll, Act.put, List.setIfInBounds_toArray, List.set_cons_zero, List.set_cons_succ]; done) | (simp only [putAll, Act.put, List.setIfInBounds_toArray, List.set_cons_zero, List.set_cons_succ]; rfl)) (hJ2_6 (v955, v959, v962) _ ⟨hHeld, (so_ HO956.out), (ro_ HO960.out), (by (with_reducible repeat (first | apply Kd.S_alloc | apply Kd.S_drewN | apply Kd.S_drew)); exact Kd.S_mono HO963.out (fun _ hk => ⟨hk.1.2, hk.2⟩)), bk_, bk_, hb_⟩)
        ·skip
         refine box_step ?hg (N := 10) ?hd (cs := #[.slice none 0 0, .int .i64 0, .slice none 0 0]) (t := 101) ?hr ?_; (case hd => rfl); (case hg => rfl); (case hr => first | (go_simp; done) | (go_simp; rfl))
         intro gb964 hg w10 hbox hb
         have n0_ := Aside0.mk (Kd.S_below (so_ HO956.out) hb)
         have n1_ := Aside0.mk (rb_ HO960.out hb)
         have n2_ := Aside0.mk (bb_ BK952.out hb)
         have n3_ := Aside0.mk (bb_ BK953.out hb)
         have n4_ := Aside0.mk (bs_ hb)
         have n5_ := Aside0.mk (hbox)
         have n6_ := Aside0.mk ((by rw [hg]; exact bz_ : w.heap.size ≤ gb964))
         have n7_ := Aside0.mk ((by rw [hg]; exact bz_ : w.heap.size ≤ gb964))
         have n8_ := Aside0.mk ((by rw [hg]; exact lt_ BK952.out : gb952 ≠ gb964))
         have n9_ := Aside0.mk ((by rw [hg]; exact gt_ BK952.out : gb964 ≠ gb952))
         have n10_ := Aside0.mk ((by rw [hg]; exact lt_ BK953.out : gb953 ≠ gb964))
         have n11_ := Aside0.mk ((by rw [hg]; exact gt_ BK953.out : gb964 ≠ gb953))
         clear HO956
         clear HO960
         clear BK952
         clear BK953
         clear HB
         have HO956 := n0_
         have HO960 := n1_
         have BK952 := n2_
         have BK953 := n3_
         have HB := n4_
         have BK964 := n5_
         have GW964 := n6_
         have GE964 := n7_
         have NB952_964 := n8_
         have NB964_952 := n9_
         have NB953_964 := n10_
         have NB964_953 := n11_
         clear n0_ n1_ n2_ n3_ n4_ n5_ n6_ n7_ n8_ n9_ n10_ n11_
         clear hb hbox hg
         refine hK.out _ _ ⟨(blk_cell BK952.out 0).trans rfl, (blk_cell BK952.out 1).trans rfl⟩ (fun hHeld => ?_)
         clear hK K
         refine norm_ (a' := ?_) ?_ ?_
         rotate_left
         ·show Act.put _ (some 10) _ = _
          simp only [Act.put, List.setIfInBounds_toArray, List.set_cons_zero, List.set_cons_succ, i64_w, i32_w]
          rfl
         exact norm_ (by first | (simp only [putAll, Act.put, List.setIfInBounds_toArray, List.set_cons_zero, List.set_cons_succ]; done) | (simp only [putAll, Act.put, List.setIfInBounds_toArray, List.set_cons_zero, List.set_cons_succ]; rfl)) (hJ2_7 (v955, v959, gb964) _ ⟨hHeld, (so_ HO956.out), (ro_ HO960.out), bk_, bk_, bk_, GW964.out, GE964.out, NB952_964.out, NB964_952.out, NB953_964.out, NB964_953.out, hb_⟩)
      ·skip
       rintro ⟨v962, gb964⟩ w11 ⟨hS_, h0_, h1_, h2_, h3_, h4_, h5_, h6_, h7_, h8_, h9_, h10_⟩
       have n0_ : Aside0 (Kd.S (Kd.slice 2 (Kd.int .i64)) 23 w11 w.heap.size (fun _ => True) v962 y961) := ⟨h0_⟩
       have n1_ : Aside0 (w11.heap[gb952]? = some (.cells #[.slice A0_0 l0_0.length c0_0, .slice A0_1 l0_1.length c0_1] 29 (0, 0))) := ⟨h1_⟩
       have n2_ : Aside0 (w11.heap[gb953]? = some (.cells #[.slice none 0 0, .int .i64 0, .slice none 0 0] 101 (0, 0))) := ⟨h2_⟩
       have n3_ : Aside0 (w11.heap[gb964]? = some (.cells #[.slice none 0 0, .int .i64 0, .slice none 0 0] 101 (0, 0))) := ⟨h3_⟩
       have n4_ : Aside0 (w.heap.size ≤ gb964) := ⟨h4_⟩
       have n5_ : Aside0 (w.heap.size ≤ gb964) := ⟨h5_⟩
       have n6_ : Aside0 (gb952 ≠ gb964) := ⟨h6_⟩
       have n7_ : Aside0 (gb964 ≠ gb952) := ⟨h7_⟩
       have n8_ : Aside0 (gb953 ≠ gb964) := ⟨h8_⟩
       have n9_ : Aside0 (gb964 ≠ gb953) := ⟨h9_⟩
       have n10_ : Aside0 (Below w.heap.size w w11) := ⟨h10_⟩
       clear BK952
       clear BK953
       clear HB
       clear h0_ h1_ h2_ h3_ h4_ h5_ h6_ h7_ h8_ h9_ h10_
       have HO963 := n0_
       have BK952 := n1_
       have BK953 := n2_
       have BK964 := n3_
       have GW964 := n4_
       have GE964 := n5_
       have NB952_964 := n6_
       have NB964_952 := n7_
       have NB953_964 := n8_
       have NB964_953 := n9_
       have HB := n10_
       clear n0_ n1_ n2_ n3_ n4_ n5_ n6_ n7_ n8_ n9_ n10_
       have hHeld : w11.cell? ⟨gb952, 0, none⟩ = some (.slice A0_0 l0_0.length c0_0) ∧ w11.cell? ⟨gb952, 1, none⟩ = some (.slice A0_1 l0_1.length c0_1) := hS_
       refine norm_ (a' := ?_) ?_ ?_
       rotate_left
       ·simp only [putAll, Act.put, List.setIfInBounds_toArray, List.set_cons_zero, List.set_cons_succ]
        rfl
       refine on_ 2 (some 20) (fun K hK => ?_)
       refine goes_ Try.func116 (by kernel_rfl) rfl #[.agg #[.slice A0_0 l0_0.length c0_0, .slice A0_1 l0_1.length c0_1], .slice A1 l1.length c1] (by rfl) rfl rfl (by (try simp only [List.map_toArray, List.map_cons, List.map_nil]); first | done | rfl | (simp only [List.length_drop, List.length_take]; rfl)) ?_
       with_reducible refine (spec_l05Begin.calls k _ _ l0_0 _ _ l0_1 _ _ l1 t954 t957 t958 _ ?side1 ?side2 ?side3 ?side4 ?side5 ?side6 A4.out).mono ?_
       (case side1 => exact cb_ HR0_0.out HB.out)
       (case side2 => exact HC0_0.out)
       (case side3 => exact cb_ HR0_1.out HB.out)
       (case side4 => exact HC0_1.out)
       (case side5 => exact cb_ HR1.out HB.out)
       (case side6 => exact HC1.out)
       rintro e w12 ⟨v955, v959, rfl, ho0, ho1, hb⟩
       refine ⟨_, rfl, ?_⟩
       have n0_ := Aside0.mk (Kd.S_mono (Kd.S_told (Kd.S_told (Kd.S_old (so_ HO963.out) hb) (Kd.S_base ho0)) (Kd.R_base ho1)) (fun _ h_ => h_.1))
       have n1_ := Aside0.mk (Kd.S_lower (Kd.S_new' ho0 (Kd.S_lt (so_ HO963.out))) bz_)
       have n2_ := Aside0.mk (Kd.R_lower ho1 bz_)
       have n3_ := Aside0.mk (bb_ BK952.out hb)
       have n4_ := Aside0.mk (bb_ BK953.out hb)
       have n5_ := Aside0.mk (bb_ BK964.out hb)
       have n6_ := Aside0.mk (bs_ hb)
       clear HO963
       clear BK952
       clear BK953
       clear BK964
       clear HB
       have HO963 := n0_
       have HO956 := n1_
       have HO960 := n2_
       have BK952 := n3_
       have BK953 := n4_
       have BK964 := n5_
       have HB := n6_
       clear n0_ n1_ n2_ n3_ n4_ n5_ n6_
       (try clear hb)
       (try clear hb2)
       (try clear hk)
       (try clear hi)
       (try clear ho0)
       (try clear ho1)
       refine hK.out _ _ ⟨(blk_cell BK952.out 0).trans rfl, (blk_cell BK952.out 1).trans rfl⟩ (fun hHeld => ?_)
       clear hK K
       refine norm_ (a' := ?_) ?_ ?_
       rotate_left
       ·show Act.put _ (some 20) _ = _
        simp only [Act.put, List.setIfInBounds_toArray, List.set_cons_zero, List.set_cons_succ, i64_w, i32_w]
        rfl
       exact norm_ (by first | (simp only [putAll, Act.put, List.setIfInBounds_toArray, List.set_cons_zero, List.set_cons_succ]; done) | (simp only [putAll, Act.put, List.setIfInBounds_toArray, List.set_cons_zero, List.set_cons_succ]; rfl)) (hJ2_6_7 (v955, v959, v962, gb964) _ ⟨hHeld, (so_ HO956.out), (ro_ HO960.out), (by (with_reducible repeat (first | apply Kd.S_alloc | apply Kd.S_drewN | apply Kd.S_drew)); exact Kd.S_mono HO963.out (fun _ hk => ⟨hk.1.2, hk.2⟩)), bk_, bk_, bk_, GW964.out, GE964.out, NB952_964.out, NB964_952.out, NB953_964.out, NB964_953.out, hb_⟩)
     ·skip
      rintro ⟨v955, v959, gb964⟩ w10 ⟨hS_, h0_, h1_, h2_, h3_, h4_, h5_, h6_, h7_, h8_, h9_, h10_, h11_⟩
      have n0_ : Aside0 (Kd.S (Kd.slice 2 (Kd.int .i64)) 23 w10 w.heap.size (fun k_ => some k_ ≠ (v959 : Value).ownBlock) v955 t954) := ⟨h0_⟩
      have n1_ : Aside0 (Kd.R (Kd.int .i64) 2 w10 w.heap.size (fun _ => True) v959 t958) := ⟨h1_⟩
      have n2_ : Aside0 (w10.heap[gb952]? = some (.cells #[.slice A0_0 l0_0.length c0_0, .slice A0_1 l0_1.length c0_1] 29 (0, 0))) := ⟨h2_⟩
      have n3_ : Aside0 (w10.heap[gb953]? = some (.cells #[.slice none 0 0, .int .i64 0, .slice none 0 0] 101 (0, 0))) := ⟨h3_⟩
      have n4_ : Aside0 (w10.heap[gb964]? = some (.cells #[.slice none 0 0, .int .i64 0, .slice none 0 0] 101 (0, 0))) := ⟨h4_⟩
      have n5_ : Aside0 (w.heap.size ≤ gb964) := ⟨h5_⟩
      have n6_ : Aside0 (w.heap.size ≤ gb964) := ⟨h6_⟩
      have n7_ : Aside0 (gb952 ≠ gb964) := ⟨h7_⟩
      have n8_ : Aside0 (gb964 ≠ gb952) := ⟨h8_⟩
      have n9_ : Aside0 (gb953 ≠ gb964) := ⟨h9_⟩
      have n10_ : Aside0 (gb964 ≠ gb953) := ⟨h10_⟩
      have n11_ : Aside0 (Below w.heap.size w w10) := ⟨h11_⟩
      clear BK952
      clear BK953
      clear HB
      clear h0_ h1_ h2_ h3_ h4_ h5_ h6_ h7_ h8_ h9_ h10_ h11_
      have HO956 := n0_
      have HO960 := n1_
      have BK952 := n2_
      have BK953 := n3_
      have BK964 := n4_
      have GW964 := n5_
      have GE964 := n6_
      have NB952_964 := n7_
      have NB964_952 := n8_
      have NB953_964 := n9_
      have NB964_953 := n10_
      have HB := n11_
      clear n0_ n1_ n2_ n3_ n4_ n5_ n6_ n7_ n8_ n9_ n10_ n11_
      have hHeld : w10.cell? ⟨gb952, 0, none⟩ = some (.slice A0_0 l0_0.length c0_0) ∧ w10.cell? ⟨gb952, 1, none⟩ = some (.slice A0_1 l0_1.length c0_1) := hS_
      refine norm_ (a' := ?_) ?_ ?_
      rotate_left
      ·simp only [putAll, Act.put, List.setIfInBounds_toArray, List.set_cons_zero, List.set_cons_succ]
       rfl
      refine two_ (i := 6) (j := 8) (Ni := some 24) (Nj := none) (fm 11 255) (fm 11 447) rfl rfl rfl rfl (two_of HT_.out (by kernel_rfl)) (by decide) (by decide) (fun K hK => ?_) (fun K hK => ?_)
      ·skip
       refine Kd.S_lit_step (Kd.slice 2 (Kd.int .i64)) _ 23 ?hg (N := 24) ?hd (xs := ([] : List (List Int))) (inner := []) (ok := fun _ => True) (okp := fun _ => True) ?hr ?hp (fun _ hk => hk) trivial (Below.refl _ _) (Nat.le_refl _) (by simp) ?_; (case hd => rfl); (case hg => rfl); (case hr => first | (go_simp; done) | (go_simp; rfl)); (case hp => exact (Reps.none _ _))
       intro v962 w11 ho12 hb hg_ hnew_
       clear hg_ hnew_
       (first | rw [← Ny961.out] at ho12 | (simp only [Int.reduceToNat] at ho12; rw [← Ny961.out] at ho12))
       have n0_ := Aside0.mk (Kd.S_elder' (so_ HO956.out) (Kd.S_base ho12) hb)
       have n1_ := Aside0.mk (rb_ HO960.out hb)
       have n2_ := Aside0.mk (Kd.S_lower (Kd.S_new' (Kd.S_new' ho12 (Kd.S_lt (so_ HO956.out))) (Kd.R_lt (ro_ HO960.out))) bz_)
       have n3_ := Aside0.mk (bb_ BK952.out hb)
       have n4_ := Aside0.mk (bb_ BK953.out hb)
       have n5_ := Aside0.mk (bb_ BK964.out hb)
       have n6_ := Aside0.mk (bs_ hb)
       clear HO956
       clear HO960
       clear BK952
       clear BK953
       clear BK964
       clear HB
       have HO956 := n0_
       have HO960 := n1_
       have HO963 := n2_
       have BK952 := n3_
       have BK953 := n4_
       have BK964 := n5_
       have HB := n6_
       clear n0_ n1_ n2_ n3_ n4_ n5_ n6_
       clear hb ho12
       refine hK.out _ _ ⟨(blk_cell BK952.out 0).trans rfl, (blk_cell BK952.out 1).trans rfl⟩ (fun hHeld => ?_)
       clear hK K
       refine norm_ (a' := ?_) ?_ ?_
       rotate_left
       ·show Act.put _ (some 24) _ = _
        simp only [Act.put, List.setIfInBounds_toArray, List.set_cons_zero, List.set_cons_succ, i64_w, i32_w]
        rfl
       exact norm_ (by first | (simp only [putAll, Act.put, List.setIfInBounds_toArray, List.set_cons_zero, List.set_cons_succ]; done) | (simp only [putAll, Act.put, List.setIfInBounds_toArray, List.set_cons_zero, List.set_cons_succ]; rfl)) (hJ2_6_7 (v955, v959, v962, gb964) _ ⟨hHeld, (so_ HO956.out), (ro_ HO960.out), (by (with_reducible repeat (first | apply Kd.S_alloc | apply Kd.S_drewN | apply Kd.S_drew)); exact Kd.S_mono HO963.out (fun _ hk => ⟨hk.1.2, hk.2⟩)), bk_, bk_, bk_, GW964.out, GE964.out, NB952_964.out, NB964_952.out, NB953_964.out, NB964_953.out, hb_⟩)
      ·skip
       have hs12 : w10.cell? ⟨gb964, 0, none⟩ = some (.slice none 0 0) := (blk_cell BK964.out 0).trans rfl
       have hfs12 := blk_frozen BK964.out 0
       have hns12_0 := NB952_964.out
       have hns12_1 := NB953_964.out
       have hms12_0 := NB964_952.out
       have hms12_1 := NB964_953.out
       have hs13 : w10.cell? ⟨gb964, 1, none⟩ = some (.int .i64 0) := (blk_cell BK964.out 1).trans rfl
       have hfs13 := blk_frozen BK964.out 1
       have hns13_0 := NB952_964.out
       have hns13_1 := NB953_964.out
       have hms13_0 := NB964_952.out
       have hms13_1 := NB964_953.out
       have hs15 : w10.cell? ⟨gb964, 2, none⟩ = some (.slice none 0 0) := (blk_cell BK964.out 2).trans rfl
       have hfs15 := blk_frozen BK964.out 2
       have hns15_0 := NB952_964.out
       have hns15_1 := NB953_964.out
       have hms15_0 := NB964_952.out
       have hms15_1 := NB964_953.out
       obtain ⟨Ao11, co11, eo_⟩ := Kd.S_slice HO956.out
       subst eo_
       obtain ⟨Ao14, co14, eo_⟩ := Kd.R_slice HO960.out
       subst eo_
       refine skip_ (w1 := ?_) (by rfl) rfl ?_ ?_
       rotate_left
       ·go_simp
        rfl
       refine hK.out _ _ ⟨((cell_far (p := ⟨gb964, _, none⟩) NB952_964.out _).trans (((cell_far (p := ⟨gb964, _, none⟩) NB952_964.out _).trans (((cell_far (p := ⟨gb964, _, none⟩) NB952_964.out _).trans (hHeld.1)))))), ((cell_far (p := ⟨gb964, _, none⟩) NB952_964.out _).trans (((cell_far (p := ⟨gb964, _, none⟩) NB952_964.out _).trans (((cell_far (p := ⟨gb964, _, none⟩) NB952_964.out _).trans (hHeld.2))))))⟩ (fun hHeld => ?_)
       clear hK K
       refine pu_ 9 11 ?_
       exact norm_ (by first | (simp only [putAll, Act.put, List.setIfInBounds_toArray, List.set_cons_zero, List.set_cons_succ]; done) | (simp only [putAll, Act.put, List.setIfInBounds_toArray, List.set_cons_zero, List.set_cons_succ]; rfl)) (hJ2_7_8 (.slice Ao11 t954.length co11, .slice Ao14 t958.length co14, gb964) _ ⟨hHeld, (by (with_reducible repeat (first | apply Kd.S_alloc | apply Kd.S_drewN | apply Kd.S_drew)); exact Kd.S_mono (Kd.S_far (p := ⟨gb964, 2, none⟩) (Kd.S_far (p := ⟨gb964, 1, none⟩) (Kd.S_far (p := ⟨gb964, 0, none⟩) (Kd.S_types HO956.out BK964.out (by decide)) (fun _ hk => hk.2) (.slice Ao11 t954.length co11)) (fun _ hk => hk.2) (.int .i64 t957)) (fun _ hk => hk.2) (.slice Ao14 t958.length co14)) (fun _ hk => hk.1)), (by (with_reducible repeat (first | apply Kd.R_alloc | apply Kd.R_drewN | apply Kd.R_drew)); exact Kd.R_mono (Kd.R_far (p := ⟨gb964, 2, none⟩) (Kd.R_far (p := ⟨gb964, 1, none⟩) (Kd.R_far (p := ⟨gb964, 0, none⟩) (Kd.R_types HO960.out BK964.out (by decide)) (fun _ hk => hk.2) (.slice Ao11 t954.length co11)) (fun _ hk => hk.2) (.int .i64 t957)) (fun _ hk => hk.2) (.slice Ao14 t958.length co14)) (fun _ hk => trivial)), (by (with_reducible repeat (first | refine blk_drewN ?_ _ | refine blk_drew ?_ | refine blk_alloc ?_ _)); refine blk_far ?_ NB952_964.out _; (with_reducible repeat (first | refine blk_drewN ?_ _ | refine blk_drew ?_ | refine blk_alloc ?_ _)); refine blk_far ?_ NB952_964.out _; (with_reducible repeat (first | refine blk_drewN ?_ _ | refine blk_drew ?_ | refine blk_alloc ?_ _)); refine blk_far ?_ NB952_964.out _; (with_reducible repeat (first | refine blk_drewN ?_ _ | refine blk_drew ?_ | refine blk_alloc ?_ _)); exact BK952.out), (by (with_reducible repeat (first | refine blk_drewN ?_ _ | refine blk_drew ?_ | refine blk_alloc ?_ _)); refine blk_far ?_ NB953_964.out _; (with_reducible repeat (first | refine blk_drewN ?_ _ | refine blk_drew ?_ | refine blk_alloc ?_ _)); refine blk_far ?_ NB953_964.out _; (with_reducible repeat (first | refine blk_drewN ?_ _ | refine blk_drew ?_ | refine blk_alloc ?_ _)); refine blk_far ?_ NB953_964.out _; (with_reducible repeat (first | refine blk_drewN ?_ _ | refine blk_drew ?_ | refine blk_alloc ?_ _)); exact BK953.out), (by (with_reducible repeat (first | refine blk_drewN ?_ _ | refine blk_drew ?_ | refine blk_alloc ?_ _)); refine blk_put (cs := #[.slice Ao11 t954.length co11, .int .i64 t957, .slice none 0 0]) ?_ 2 _ rfl; (with_reducible repeat (first | refine blk_drewN ?_ _ | refine blk_drew ?_ | refine blk_alloc ?_ _)); refine blk_put (cs := #[.slice Ao11 t954.length co11, .int .i64 0, .slice none 0 0]) ?_ 1 _ rfl; (with_reducible repeat (first | refine blk_drewN ?_ _ | refine blk_drew ?_ | refine blk_alloc ?_ _)); refine blk_put (cs := #[.slice none 0 0, .int .i64 0, .slice none 0 0]) ?_ 0 _ rfl; (with_reducible repeat (first | refine blk_drewN ?_ _ | refine blk_drew ?_ | refine blk_alloc ?_ _)); exact BK964.out), GW964.out, GE964.out, NB952_964.out, NB964_952.out, NB953_964.out, NB964_953.out, hb_⟩)
    ·skip
     rintro ⟨v955, v959, v962⟩ w11 ⟨hS_, h0_, h1_, h2_, h3_, h4_, h5_⟩
     have n0_ : Aside0 (Kd.S (Kd.slice 2 (Kd.int .i64)) 23 w11 w.heap.size (fun k_ => some k_ ≠ (v959 : Value).ownBlock ∧ some k_ ≠ (v962 : Value).ownBlock) v955 t954) := ⟨h0_⟩
     have n1_ : Aside0 (Kd.R (Kd.int .i64) 2 w11 w.heap.size (fun _ => True) v959 t958) := ⟨h1_⟩
     have n2_ : Aside0 (Kd.S (Kd.slice 2 (Kd.int .i64)) 23 w11 w.heap.size (fun k_ => some k_ ≠ (v955 : Value).ownBlock ∧ some k_ ≠ (v959 : Value).ownBlock) v962 y961) := ⟨h2_⟩
     have n3_ : Aside0 (w11.heap[gb952]? = some (.cells #[.slice A0_0 l0_0.length c0_0, .slice A0_1 l0_1.length c0_1] 29 (0, 0))) := ⟨h3_⟩
     have n4_ : Aside0 (w11.heap[gb953]? = some (.cells #[.slice none 0 0, .int .i64 0, .slice none 0 0] 101 (0, 0))) := ⟨h4_⟩
     have n5_ : Aside0 (Below w.heap.size w w11) := ⟨h5_⟩
     clear BK952
     clear BK953
     clear HB
     clear h0_ h1_ h2_ h3_ h4_ h5_
     have HO956 := n0_
     have HO960 := n1_
     have HO963 := n2_
     have BK952 := n3_
     have BK953 := n4_
     have HB := n5_
     clear n0_ n1_ n2_ n3_ n4_ n5_
     have hHeld : w11.cell? ⟨gb952, 0, none⟩ = some (.slice A0_0 l0_0.length c0_0) ∧ w11.cell? ⟨gb952, 1, none⟩ = some (.slice A0_1 l0_1.length c0_1) := hS_
     refine norm_ (a' := ?_) ?_ ?_
     rotate_left
     ·simp only [putAll, Act.put, List.setIfInBounds_toArray, List.set_cons_zero, List.set_cons_succ]
      rfl
     refine on_ 7 (some 10) (fun K hK => ?_)
     refine box_step ?hg (N := 10) ?hd (cs := #[.slice none 0 0, .int .i64 0, .slice none 0 0]) (t := 101) ?hr ?_; (case hd => rfl); (case hg => rfl); (case hr => first | (go_simp; done) | (go_simp; rfl))
     intro gb964 hg w12 hbox hb
     have n0_ := Aside0.mk (Kd.S_below (so_ HO956.out) hb)
     have n1_ := Aside0.mk (rb_ HO960.out hb)
     have n2_ := Aside0.mk (Kd.S_below (so_ HO963.out) hb)
     have n3_ := Aside0.mk (bb_ BK952.out hb)
     have n4_ := Aside0.mk (bb_ BK953.out hb)
     have n5_ := Aside0.mk (bs_ hb)
     have n6_ := Aside0.mk (hbox)
     have n7_ := Aside0.mk ((by rw [hg]; exact bz_ : w.heap.size ≤ gb964))
     have n8_ := Aside0.mk ((by rw [hg]; exact bz_ : w.heap.size ≤ gb964))
     have n9_ := Aside0.mk ((by rw [hg]; exact lt_ BK952.out : gb952 ≠ gb964))
     have n10_ := Aside0.mk ((by rw [hg]; exact gt_ BK952.out : gb964 ≠ gb952))
     have n11_ := Aside0.mk ((by rw [hg]; exact lt_ BK953.out : gb953 ≠ gb964))
     have n12_ := Aside0.mk ((by rw [hg]; exact gt_ BK953.out : gb964 ≠ gb953))
     clear HO956
     clear HO960
     clear HO963
     clear BK952
     clear BK953
     clear HB
     have HO956 := n0_
     have HO960 := n1_
     have HO963 := n2_
     have BK952 := n3_
     have BK953 := n4_
     have HB := n5_
     have BK964 := n6_
     have GW964 := n7_
     have GE964 := n8_
     have NB952_964 := n9_
     have NB964_952 := n10_
     have NB953_964 := n11_
     have NB964_953 := n12_
     clear n0_ n1_ n2_ n3_ n4_ n5_ n6_ n7_ n8_ n9_ n10_ n11_ n12_
     clear hb hbox hg
     refine hK.out _ _ ⟨(blk_cell BK952.out 0).trans rfl, (blk_cell BK952.out 1).trans rfl⟩ (fun hHeld => ?_)
     clear hK K
     refine norm_ (a' := ?_) ?_ ?_
     rotate_left
     ·show Act.put _ (some 10) _ = _
      simp only [Act.put, List.setIfInBounds_toArray, List.set_cons_zero, List.set_cons_succ, i64_w, i32_w]
      rfl
     exact norm_ (by first | (simp only [putAll, Act.put, List.setIfInBounds_toArray, List.set_cons_zero, List.set_cons_succ]; done) | (simp only [putAll, Act.put, List.setIfInBounds_toArray, List.set_cons_zero, List.set_cons_succ]; rfl)) (hJ2_6_7 (v955, v959, v962, gb964) _ ⟨hHeld, (so_ HO956.out), (ro_ HO960.out), (so_ HO963.out), bk_, bk_, bk_, GW964.out, GE964.out, NB952_964.out, NB964_952.out, NB953_964.out, NB964_953.out, hb_⟩)
   ·skip
    rintro ⟨v955, v959, gb964⟩ w15 ⟨hS_, h0_, h1_, h2_, h3_, h4_, h5_, h6_, h7_, h8_, h9_, h10_, h11_⟩
    have n0_ : Aside0 (Kd.S (Kd.slice 2 (Kd.int .i64)) 23 w15 w.heap.size (fun k_ => some k_ ≠ (v959 : Value).ownBlock) v955 t954) := ⟨h0_⟩
    have n1_ : Aside0 (Kd.R (Kd.int .i64) 2 w15 w.heap.size (fun _ => True) v959 t958) := ⟨h1_⟩
    have n2_ : Aside0 (w15.heap[gb952]? = some (.cells #[.slice A0_0 l0_0.length c0_0, .slice A0_1 l0_1.length c0_1] 29 (0, 0))) := ⟨h2_⟩
    have n3_ : Aside0 (w15.heap[gb953]? = some (.cells #[.slice none 0 0, .int .i64 0, .slice none 0 0] 101 (0, 0))) := ⟨h3_⟩
    have n4_ : Aside0 (w15.heap[gb964]? = some (.cells #[v955, .int .i64 t957, v959] 101 (0, 0))) := ⟨h4_⟩
    have n5_ : Aside0 (w.heap.size ≤ gb964) := ⟨h5_⟩
    have n6_ : Aside0 (w.heap.size ≤ gb964) := ⟨h6_⟩
    have n7_ : Aside0 (gb952 ≠ gb964) := ⟨h7_⟩
    have n8_ : Aside0 (gb964 ≠ gb952) := ⟨h8_⟩
    have n9_ : Aside0 (gb953 ≠ gb964) := ⟨h9_⟩
    have n10_ : Aside0 (gb964 ≠ gb953) := ⟨h10_⟩
    have n11_ : Aside0 (Below w.heap.size w w15) := ⟨h11_⟩
    clear BK952
    clear BK953
    clear HB
    clear h0_ h1_ h2_ h3_ h4_ h5_ h6_ h7_ h8_ h9_ h10_ h11_
    have HO956 := n0_
    have HO960 := n1_
    have BK952 := n2_
    have BK953 := n3_
    have BK964 := n4_
    have GW964 := n5_
    have GE964 := n6_
    have NB952_964 := n7_
    have NB964_952 := n8_
    have NB953_964 := n9_
    have NB964_953 := n10_
    have HB := n11_
    clear n0_ n1_ n2_ n3_ n4_ n5_ n6_ n7_ n8_ n9_ n10_ n11_
    have hHeld : w15.cell? ⟨gb952, 0, none⟩ = some (.slice A0_0 l0_0.length c0_0) ∧ w15.cell? ⟨gb952, 1, none⟩ = some (.slice A0_1 l0_1.length c0_1) := hS_
    refine norm_ (a' := ?_) ?_ ?_
    rotate_left
    ·simp only [putAll, Act.put, List.setIfInBounds_toArray, List.set_cons_zero, List.set_cons_succ]
     rfl
    refine on_ 6 (some 24) (fun K hK => ?_)
    refine Kd.S_lit_step (Kd.slice 2 (Kd.int .i64)) _ 23 ?hg (N := 24) ?hd (xs := ([] : List (List Int))) (inner := []) (ok := fun _ => True) (okp := fun _ => True) ?hr ?hp (fun _ hk => hk) trivial (Below.refl _ _) (Nat.le_refl _) (by simp) ?_; (case hd => rfl); (case hg => rfl); (case hr => first | (go_simp; done) | (go_simp; rfl)); (case hp => exact (Reps.none _ _))
    intro v962 w16 ho17 hb hg_ hnew_
    clear hg_ hnew_
    (first | rw [← Ny961.out] at ho17 | (simp only [Int.reduceToNat] at ho17; rw [← Ny961.out] at ho17))
    have n0_ := Aside0.mk (Kd.S_elder' (so_ HO956.out) (Kd.S_base ho17) hb)
    have n1_ := Aside0.mk (rb_ HO960.out hb)
    have n2_ := Aside0.mk (Kd.S_lower (Kd.S_new' (Kd.S_new' ho17 (Kd.S_lt (so_ HO956.out))) (Kd.R_lt (ro_ HO960.out))) bz_)
    have n3_ := Aside0.mk (bb_ BK952.out hb)
    have n4_ := Aside0.mk (bb_ BK953.out hb)
    have n5_ := Aside0.mk (bb_ BK964.out hb)
    have n6_ := Aside0.mk (bs_ hb)
    clear HO956
    clear HO960
    clear BK952
    clear BK953
    clear BK964
    clear HB
    have HO956 := n0_
    have HO960 := n1_
    have HO963 := n2_
    have BK952 := n3_
    have BK953 := n4_
    have BK964 := n5_
    have HB := n6_
    clear n0_ n1_ n2_ n3_ n4_ n5_ n6_
    clear hb ho17
    refine hK.out _ _ ⟨(blk_cell BK952.out 0).trans rfl, (blk_cell BK952.out 1).trans rfl⟩ (fun hHeld => ?_)
    clear hK K
    refine norm_ (a' := ?_) ?_ ?_
    rotate_left
    ·show Act.put _ (some 24) _ = _
     simp only [Act.put, List.setIfInBounds_toArray, List.set_cons_zero, List.set_cons_succ, i64_w, i32_w]
     rfl
    exact norm_ (by first | (simp only [putAll, Act.put, List.setIfInBounds_toArray, List.set_cons_zero, List.set_cons_succ]; done) | (simp only [putAll, Act.put, List.setIfInBounds_toArray, List.set_cons_zero, List.set_cons_succ]; rfl)) (hJ2_6_7_8 (v955, v959, v962, gb964) _ ⟨hHeld, (so_ HO956.out), (ro_ HO960.out), (by (with_reducible repeat (first | apply Kd.S_alloc | apply Kd.S_drewN | apply Kd.S_drew)); exact Kd.S_mono HO963.out (fun _ hk => ⟨hk.1.2, hk.2⟩)), bk_, bk_, bk_, GW964.out, GE964.out, NB952_964.out, NB964_952.out, NB953_964.out, NB964_953.out, hb_⟩)
  ·skip
   rintro ⟨v955, v959, v962, gb964⟩ w12 ⟨hS_, h0_, h1_, h2_, h3_, h4_, h5_, h6_, h7_, h8_, h9_, h10_, h11_, h12_⟩
   have n0_ : Aside0 (Kd.S (Kd.slice 2 (Kd.int .i64)) 23 w12 w.heap.size (fun k_ => some k_ ≠ (v959 : Value).ownBlock ∧ some k_ ≠ (v962 : Value).ownBlock) v955 t954) := ⟨h0_⟩
   have n1_ : Aside0 (Kd.R (Kd.int .i64) 2 w12 w.heap.size (fun _ => True) v959 t958) := ⟨h1_⟩
   have n2_ : Aside0 (Kd.S (Kd.slice 2 (Kd.int .i64)) 23 w12 w.heap.size (fun k_ => some k_ ≠ (v955 : Value).ownBlock ∧ some k_ ≠ (v959 : Value).ownBlock) v962 y961) := ⟨h2_⟩
   have n3_ : Aside0 (w12.heap[gb952]? = some (.cells #[.slice A0_0 l0_0.length c0_0, .slice A0_1 l0_1.length c0_1] 29 (0, 0))) := ⟨h3_⟩
   have n4_ : Aside0 (w12.heap[gb953]? = some (.cells #[.slice none 0 0, .int .i64 0, .slice none 0 0] 101 (0, 0))) := ⟨h4_⟩
   have n5_ : Aside0 (w12.heap[gb964]? = some (.cells #[.slice none 0 0, .int .i64 0, .slice none 0 0] 101 (0, 0))) := ⟨h5_⟩
   have n6_ : Aside0 (w.heap.size ≤ gb964) := ⟨h6_⟩
   have n7_ : Aside0 (w.heap.size ≤ gb964) := ⟨h7_⟩
   have n8_ : Aside0 (gb952 ≠ gb964) := ⟨h8_⟩
   have n9_ : Aside0 (gb964 ≠ gb952) := ⟨h9_⟩
   have n10_ : Aside0 (gb953 ≠ gb964) := ⟨h10_⟩
   have n11_ : Aside0 (gb964 ≠ gb953) := ⟨h11_⟩
   have n12_ : Aside0 (Below w.heap.size w w12) := ⟨h12_⟩
   clear BK952
   clear BK953
   clear HB
   clear h0_ h1_ h2_ h3_ h4_ h5_ h6_ h7_ h8_ h9_ h10_ h11_ h12_
   have HO956 := n0_
   have HO960 := n1_
   have HO963 := n2_
   have BK952 := n3_
   have BK953 := n4_
   have BK964 := n5_
   have GW964 := n6_
   have GE964 := n7_
   have NB952_964 := n8_
   have NB964_952 := n9_
   have NB953_964 := n10_
   have NB964_953 := n11_
   have HB := n12_
   clear n0_ n1_ n2_ n3_ n4_ n5_ n6_ n7_ n8_ n9_ n10_ n11_ n12_
   have hHeld : w12.cell? ⟨gb952, 0, none⟩ = some (.slice A0_0 l0_0.length c0_0) ∧ w12.cell? ⟨gb952, 1, none⟩ = some (.slice A0_1 l0_1.length c0_1) := hS_
   obtain ⟨Ao13, co13, eo13⟩ := Kd.S_slice HO956.out
   (first | subst eo13 | (injection eo13 with f1_ f2_ f3_; have f4_ := f1_.symm; have f5_ := f3_.symm; clear f1_ f2_ f3_; subst f4_; subst f5_))
   obtain ⟨Ao16, co16, eo16⟩ := Kd.R_slice HO960.out
   (first | subst eo16 | (injection eo16 with f1_ f2_ f3_; have f4_ := f1_.symm; have f5_ := f3_.symm; clear f1_ f2_ f3_; subst f4_; subst f5_))
   refine norm_ (a' := ?_) ?_ ?_
   rotate_left
   ·simp only [putAll, Act.put, List.setIfInBounds_toArray, List.set_cons_zero, List.set_cons_succ]
    rfl
   refine on_ 8 none (fun K hK => ?_)
   have hs14 : w12.cell? ⟨gb964, 0, none⟩ = some (.slice none 0 0) := (blk_cell BK964.out 0).trans rfl
   have hfs14 := blk_frozen BK964.out 0
   have hns14_0 := NB952_964.out
   have hns14_1 := NB953_964.out
   have hms14_0 := NB964_952.out
   have hms14_1 := NB964_953.out
   have hs15 : w12.cell? ⟨gb964, 1, none⟩ = some (.int .i64 0) := (blk_cell BK964.out 1).trans rfl
   have hfs15 := blk_frozen BK964.out 1
   have hns15_0 := NB952_964.out
   have hns15_1 := NB953_964.out
   have hms15_0 := NB964_952.out
   have hms15_1 := NB964_953.out
   have hs17 : w12.cell? ⟨gb964, 2, none⟩ = some (.slice none 0 0) := (blk_cell BK964.out 2).trans rfl
   have hfs17 := blk_frozen BK964.out 2
   have hns17_0 := NB952_964.out
   have hns17_1 := NB953_964.out
   have hms17_0 := NB964_952.out
   have hms17_1 := NB964_953.out
   refine skip_ (w1 := ?_) (by rfl) rfl ?_ ?_
   rotate_left
   ·go_simp
    rfl
   refine hK.out _ _ ⟨((cell_far (p := ⟨gb964, _, none⟩) NB952_964.out _).trans (((cell_far (p := ⟨gb964, _, none⟩) NB952_964.out _).trans (((cell_far (p := ⟨gb964, _, none⟩) NB952_964.out _).trans (hHeld.1)))))), ((cell_far (p := ⟨gb964, _, none⟩) NB952_964.out _).trans (((cell_far (p := ⟨gb964, _, none⟩) NB952_964.out _).trans (((cell_far (p := ⟨gb964, _, none⟩) NB952_964.out _).trans (hHeld.2))))))⟩ (fun hHeld => ?_)
   clear hK K
   refine pu_ 9 11 ?_
   exact norm_ (by first | (simp only [putAll, Act.put, List.setIfInBounds_toArray, List.set_cons_zero, List.set_cons_succ]; done) | (simp only [putAll, Act.put, List.setIfInBounds_toArray, List.set_cons_zero, List.set_cons_succ]; rfl)) (hJ2_6_7_8 (.slice Ao13 t954.length co13, .slice Ao16 t958.length co16, v962, gb964) _ ⟨hHeld, (by (with_reducible repeat (first | apply Kd.S_alloc | apply Kd.S_drewN | apply Kd.S_drew)); exact Kd.S_mono (Kd.S_far (p := ⟨gb964, 2, none⟩) (Kd.S_far (p := ⟨gb964, 1, none⟩) (Kd.S_far (p := ⟨gb964, 0, none⟩) (Kd.S_types HO956.out BK964.out (by decide)) (fun _ hk => hk.2) (.slice Ao13 t954.length co13)) (fun _ hk => hk.2) (.int .i64 t957)) (fun _ hk => hk.2) (.slice Ao16 t958.length co16)) (fun _ hk => ⟨hk.1.1, hk.1.2⟩)), (by (with_reducible repeat (first | apply Kd.R_alloc | apply Kd.R_drewN | apply Kd.R_drew)); exact Kd.R_mono (Kd.R_far (p := ⟨gb964, 2, none⟩) (Kd.R_far (p := ⟨gb964, 1, none⟩) (Kd.R_far (p := ⟨gb964, 0, none⟩) (Kd.R_types HO960.out BK964.out (by decide)) (fun _ hk => hk.2) (.slice Ao13 t954.length co13)) (fun _ hk => hk.2) (.int .i64 t957)) (fun _ hk => hk.2) (.slice Ao16 t958.length co16)) (fun _ hk => trivial)), (by (with_reducible repeat (first | apply Kd.S_alloc | apply Kd.S_drewN | apply Kd.S_drew)); exact Kd.S_mono (Kd.S_far (p := ⟨gb964, 2, none⟩) (Kd.S_far (p := ⟨gb964, 1, none⟩) (Kd.S_far (p := ⟨gb964, 0, none⟩) (Kd.S_types HO963.out BK964.out (by decide)) (fun _ hk => hk.2) (.slice Ao13 t954.length co13)) (fun _ hk => hk.2) (.int .i64 t957)) (fun _ hk => hk.2) (.slice Ao16 t958.length co16)) (fun _ hk => ⟨hk.1.1, hk.1.2⟩)), (by (with_reducible repeat (first | refine blk_drewN ?_ _ | refine blk_drew ?_ | refine blk_alloc ?_ _)); refine blk_far ?_ NB952_964.out _; (with_reducible repeat (first | refine blk_drewN ?_ _ | refine blk_drew ?_ | refine blk_alloc ?_ _)); refine blk_far ?_ NB952_964.out _; (with_reducible repeat (first | refine blk_drewN ?_ _ | refine blk_drew ?_ | refine blk_alloc ?_ _)); refine blk_far ?_ NB952_964.out _; (with_reducible repeat (first | refine blk_drewN ?_ _ | refine blk_drew ?_ | refine blk_alloc ?_ _)); exact BK952.out), (by (with_reducible repeat (first | refine blk_drewN ?_ _ | refine blk_drew ?_ | refine blk_alloc ?_ _)); refine blk_far ?_ NB953_964.out _; (with_reducible repeat (first | refine blk_drewN ?_ _ | refine blk_drew ?_ | refine blk_alloc ?_ _)); refine blk_far ?_ NB953_964.out _; (with_reducible repeat (first | refine blk_drewN ?_ _ | refine blk_drew ?_ | refine blk_alloc ?_ _)); refine blk_far ?_ NB953_964.out _; (with_reducible repeat (first | refine blk_drewN ?_ _ | refine blk_drew ?_ | refine blk_alloc ?_ _)); exact BK953.out), (by (with_reducible repeat (first | refine blk_drewN ?_ _ | refine blk_drew ?_ | refine blk_alloc ?_ _)); refine blk_put (cs := #[.slice Ao13 t954.length co13, .int .i64 t957, .slice none 0 0]) ?_ 2 _ rfl; (with_reducible repeat (first | refine blk_drewN ?_ _ | refine blk_drew ?_ | refine blk_alloc ?_ _)); refine blk_put (cs := #[.slice Ao13 t954.length co13, .int .i64 0, .slice none 0 0]) ?_ 1 _ rfl; (with_reducible repeat (first | refine blk_drewN ?_ _ | refine blk_drew ?_ | refine blk_alloc ?_ _)); refine blk_put (cs := #[.slice none 0 0, .int .i64 0, .slice none 0 0]) ?_ 0 _ rfl; (with_reducible repeat (first | refine blk_drewN ?_ _ | refine blk_drew ?_ | refine blk_alloc ?_ _)); exact BK964.out), GW964.out, GE964.out, NB952_964.out, NB964_952.out, NB953_964.out, NB964_953.out, hb_⟩)
 rintro ⟨v955, v959, v962, gb964⟩ w17 ⟨hS_, h0_, h1_, h2_, h3_, h4_, h5_, h6_, h7_, h8_, h9_, h10_, h11_, h12_⟩
 have n0_ : Aside0 (Kd.S (Kd.slice 2 (Kd.int .i64)) 23 w17 w.heap.size (fun k_ => some k_ ≠ (v959 : Value).ownBlock ∧ some k_ ≠ (v962 : Value).ownBlock) v955 t954) := ⟨h0_⟩
 have n1_ : Aside0 (Kd.R (Kd.int .i64) 2 w17 w.heap.size (fun _ => True) v959 t958) := ⟨h1_⟩
 have n2_ : Aside0 (Kd.S (Kd.slice 2 (Kd.int .i64)) 23 w17 w.heap.size (fun k_ => some k_ ≠ (v955 : Value).ownBlock ∧ some k_ ≠ (v959 : Value).ownBlock) v962 y961) := ⟨h2_⟩
 have n3_ : Aside0 (w17.heap[gb952]? = some (.cells #[.slice A0_0 l0_0.length c0_0, .slice A0_1 l0_1.length c0_1] 29 (0, 0))) := ⟨h3_⟩
 have n4_ : Aside0 (w17.heap[gb953]? = some (.cells #[.slice none 0 0, .int .i64 0, .slice none 0 0] 101 (0, 0))) := ⟨h4_⟩
 have n5_ : Aside0 (w17.heap[gb964]? = some (.cells #[v955, .int .i64 t957, v959] 101 (0, 0))) := ⟨h5_⟩
 have n6_ : Aside0 (w.heap.size ≤ gb964) := ⟨h6_⟩
 have n7_ : Aside0 (w.heap.size ≤ gb964) := ⟨h7_⟩
 have n8_ : Aside0 (gb952 ≠ gb964) := ⟨h8_⟩
 have n9_ : Aside0 (gb964 ≠ gb952) := ⟨h9_⟩
 have n10_ : Aside0 (gb953 ≠ gb964) := ⟨h10_⟩
 have n11_ : Aside0 (gb964 ≠ gb953) := ⟨h11_⟩
 have n12_ : Aside0 (Below w.heap.size w w17) := ⟨h12_⟩
 clear BK952
 clear BK953
 clear HB
 clear h0_ h1_ h2_ h3_ h4_ h5_ h6_ h7_ h8_ h9_ h10_ h11_ h12_
 have HO956 := n0_
 have HO960 := n1_
 have HO963 := n2_
 have BK952 := n3_
 have BK953 := n4_
 have BK964 := n5_
 have GW964 := n6_
 have GE964 := n7_
 have NB952_964 := n8_
 have NB964_952 := n9_
 have NB953_964 := n10_
 have NB964_953 := n11_
 have HB := n12_
 clear n0_ n1_ n2_ n3_ n4_ n5_ n6_ n7_ n8_ n9_ n10_ n11_ n12_
 have hHeld : w17.cell? ⟨gb952, 0, none⟩ = some (.slice A0_0 l0_0.length c0_0) ∧ w17.cell? ⟨gb952, 1, none⟩ = some (.slice A0_1 l0_1.length c0_1) := hS_
 refine norm_ (a' := ?_) ?_ ?_
 rotate_left
 ·simp only [putAll, Act.put, List.setIfInBounds_toArray, List.set_cons_zero, List.set_cons_succ]
  rfl
 refine pu_ 10 12 ?_
 refine done_ (done_of HT_.out (by kernel_rfl)) ?_
 try go_wp2
 go_loopg [13, 14, 15] k (fun kq v13 v14 v15 w' => ∃ (x13_1 : Bool) (x14_1 : Int) (x15_1 : Int), v13 = .bool x13_1 ∧ v14 = .int .i64 x14_1 ∧ v15 = .int .i64 x15_1 ∧ Aside0 (spec_l05Run.l0 kq l1 a2 (l0_1.length : Int) y961 x13_1 x14_1 x15_1 l0_0 l0_1 t954 t957 t958 = some (r1, r2, r3, r4, r5, r6)) ∧ Aside0 (kq ≤ k) ∧ Aside0 (Kd.S (Kd.slice 2 (Kd.int .i64)) 23 w' w.heap.size (fun k_ => some k_ ≠ (v955 : Value).ownBlock ∧ some k_ ≠ (v959 : Value).ownBlock) v962 y961) ∧ Aside0 (Kd.S (Kd.slice 2 (Kd.int .i64)) 23 w' w.heap.size (fun k_ => some k_ ≠ (v962 : Value).ownBlock ∧ some k_ ≠ (v959 : Value).ownBlock) v955 t954) ∧ Aside0 (Kd.R (Kd.int .i64) 2 w' w.heap.size (fun _ => True) v959 t958) ∧ Aside0 (w'.heap[gb952]? = some (.cells #[(.slice A0_0 l0_0.length c0_0), (.slice A0_1 l0_1.length c0_1)] 29 (0, 0))) ∧ Aside0 (w'.heap[gb953]? = some (.cells #[(.slice none 0 0), .int .i64 0, (.slice none 0 0)] 101 (0, 0))) ∧ Aside0 (w'.heap[gb964]? = some (.cells #[v955, .int .i64 t957, v959] 101 (0, 0))) ∧ Aside0 (Below w.heap.size w w'))
 case atStart => exact ⟨(false), (0), (0), rs_, rs_, rs_, H', ⟨Nat.le_refl _⟩, ⟨so_ HO963.out⟩, ⟨by (with_reducible repeat (first | apply Kd.S_alloc | apply Kd.S_drewN | apply Kd.S_drew)); exact Kd.S_mono HO956.out (fun _ hk => ⟨hk.2, hk.1⟩)⟩, ⟨ro_ HO960.out⟩, ⟨bk_⟩, ⟨bk_⟩, ⟨bk_⟩, ⟨hb_⟩⟩
 case round =>
  clear H'
  try clear c1
  try clear p2
  try clear c11
  obtain ⟨x13_1, x14_1, x15_1, rfl, rfl, rfl, HA, HK1, HO_12, HO_965000, HO_965002, BK952, BK953, BK964, HB⟩ := hrel
  cases gk with
  | zero => exact absurd HA.out (by simp [spec_l05Run.l0])
  | succ k1 =>
   have H := HA.out
   clear HA
   simp only [spec_l05Run.l0] at H
   by_cases c18 : x15_1 < (l0_1.length : Int)
   ·rw [if_pos c18] at H
    have c18b0 : decide (x15_1 < (l0_1.length : Int)) = true := decide_eq_true c18
    clear c18
    by_cases c19 : x13_1 = true
    ·subst c19
     have H1 : (if 0 ≤ x15_1 then (if x15_1 < (l1.length : Int) then (if 0 ≤ x14_1 then (if x14_1 < (l1.length : Int) then ((spec_l05Key.f k1 t954 t957 t958 x15_1 x14_1 (rd l1 x15_1) (rd l1 x14_1)).bind fun t967 => (if t967 = true then (spec_l05Run.l0 k1 l1 a2 (l0_1.length : Int) y961 true x15_1 (wrap64 (x15_1 + 1)) l0_0 l0_1 t954 t957 t958) else (spec_l05Run.l0 k1 l1 a2 (l0_1.length : Int) y961 true x14_1 (wrap64 (x15_1 + 1)) l0_0 l0_1 t954 t957 t958))) else (none)) else (none)) else (none)) else (none)) = some (r1, r2, r3, r4, r5, r6) := by rw [if_pos rfl] at H; exact H
     clear H
     have H := H1
     clear H1
     by_cases c20 : 0 ≤ x15_1
     ·rw [if_pos c20] at H
      have c20b0 : decide (0 ≤ x15_1) = true := decide_eq_true c20
      clear c20
      by_cases c21 : x15_1 < (l1.length : Int)
      ·rw [if_pos c21] at H
       have c21b0 : decide (x15_1 < (l1.length : Int)) = true := decide_eq_true c21
       clear c21
       by_cases c22 : 0 ≤ x14_1
       ·rw [if_pos c22] at H
        have c22b0 : decide (0 ≤ x14_1) = true := decide_eq_true c22
        clear c22
        by_cases c23 : x14_1 < (l1.length : Int)
        ·rw [if_pos c23] at H
         have c23b0 : decide (x14_1 < (l1.length : Int)) = true := decide_eq_true c23
         clear c23
         replace H := Option.bind_eq_some_iff.mp H
         obtain ⟨t967, A240, H⟩ := H
         replace H : (if t967 = true then (spec_l05Run.l0 k1 l1 a2 (l0_1.length : Int) y961 true x15_1 (wrap64 (x15_1 + 1)) l0_0 l0_1 t954 t957 t958) else (spec_l05Run.l0 k1 l1 a2 (l0_1.length : Int) y961 true x14_1 (wrap64 (x15_1 + 1)) l0_0 l0_1 t954 t957 t958)) = some (r1, r2, r3, r4, r5, r6) := H
         have A24 := Aside0.mk A240
         clear A240
         by_cases c25 : t967 = true
         ·subst c25
          have H1 : (spec_l05Run.l0 k1 l1 a2 (l0_1.length : Int) y961 true x15_1 (wrap64 (x15_1 + 1)) l0_0 l0_1 t954 t957 t958) = some (r1, r2, r3, r4, r5, r6) := by rw [if_pos rfl] at H; exact H
          clear H
          have H := H1
          clear H1
          have H' := Aside0.mk H
          clear H
          have hnb26 := NB952_953.out
          have hnc26 := NB953_952.out
          have hnb27 := NB952_964.out
          have hnc27 := NB964_952.out
          have hcz28_0 : wr.cell? ⟨gb952, 0, none⟩ = some (.slice A0_0 l0_0.length c0_0) := (blk_cell BK952.out 0).trans rfl
          have hcz28_1 : wr.cell? ⟨gb952, 1, none⟩ = some (.slice A0_1 l0_1.length c0_1) := (blk_cell BK952.out 1).trans rfl
          have hfz28_0 := blk_frozen BK952.out 0
          have hfz28_1 := blk_frozen BK952.out 1
          try go_wp2
          have n0_ := Aside0.mk (Kd.S_drew HO_12.out)
          have n1_ := Aside0.mk (Kd.S_drew HO_965000.out)
          have n2_ := Aside0.mk (Kd.R_drew HO_965002.out)
          have n3_ := Aside0.mk (blk_drew BK952.out)
          have n4_ := Aside0.mk (blk_drew BK953.out)
          have n5_ := Aside0.mk (blk_drew BK964.out)
          have n6_ := Aside0.mk (below_drew1 HB.out)
          clear HO_12
          clear HO_965000
          clear HO_965002
          clear BK952
          clear BK953
          clear BK964
          clear HB
          have HO_12 := n0_
          have HO_965000 := n1_
          have HO_965002 := n2_
          have BK952 := n3_
          have BK953 := n4_
          have BK964 := n5_
          have HB := n6_
          clear n0_ n1_ n2_ n3_ n4_ n5_ n6_
          have p965 : 0 ≤ (x15_1 : Int) := od_
          have q965 : x15_1 < (l1.length : Int) := od_
          obtain ⟨ad965, e965, hx965_0⟩ := Kd.at_int HR1.out x15_1 p965 q965
          have hw965_0 := hx965_0
          cases e965
          replace hx965_0 := (HB.out.cell (World.block_lt_of_cell? w _ hx965_0)).trans hx965_0
          replace p965 := eq_true p965
          replace q965 := eq_true q965
          have p966 : 0 ≤ (x14_1 : Int) := od_
          have q966 : x14_1 < (l1.length : Int) := od_
          obtain ⟨ad966, e966, hx966_0⟩ := Kd.at_int HR1.out x14_1 p966 q966
          have hw966_0 := hx966_0
          obtain rfl : ad965 = ad966 := (by injection e966)
          replace hx966_0 := (HB.out.cell (World.block_lt_of_cell? w _ hx966_0)).trans hx966_0
          replace p966 := eq_true p966
          replace q966 := eq_true q966
          obtain ⟨Ao30, co30, eo30⟩ := Kd.S_slice HO_965000.out
          (first | subst eo30 | (injection eo30 with f1_ f2_ f3_; have f4_ := f1_.symm; have f5_ := f3_.symm; clear f1_ f2_ f3_; subst f4_; subst f5_))
          obtain ⟨Ao31, co31, eo31⟩ := Kd.R_slice HO_965002.out
          (first | subst eo31 | (injection eo31 with f1_ f2_ f3_; have f4_ := f1_.symm; have f5_ := f3_.symm; clear f1_ f2_ f3_; subst f4_; subst f5_))
          refine st_ (n := 12) (S := fun w' => w'.cell? ⟨gb964, 0, none⟩ = some (.slice Ao30 t954.length co30) ∧ w'.cell? ⟨gb964, 1, none⟩ = some (.int .i64 t957) ∧ w'.cell? ⟨gb964, 2, none⟩ = some (.slice Ao31 t958.length co31) ∧ w'.cell? (ad965.add (x15_1).toNat) = some (.int .i64 (rd l1 x15_1)) ∧ w'.cell? (ad965.add (x14_1).toNat) = some (.int .i64 (rd l1 x14_1))) (ds := []) ⟨(blk_cell BK964.out 0).trans rfl, (blk_cell BK964.out 1).trans rfl, (blk_cell BK964.out 2).trans rfl, ((HB.out.cell (World.block_lt_of_cell? w _ hw965_0)).trans hw965_0), ((HB.out.cell (World.block_lt_of_cell? w _ hw966_0)).trans hw966_0)⟩ (fun hHeld => ?_); refine with_tabW spec_l05Run.tab7 spec_l05Run.bits7 (fun HT_ HW_ => ?_)
          generalize wr.drew = w29 at HO_12 HO_965000 HO_965002 BK952 BK953 BK964 HB hx965_0 hx966_0 hHeld ⊢
          refine pu_ 1 42 ?_; refine pu_ 2 43 ?_; refine pu_ 3 44 ?_; refine pu_ 4 45 ?_; refine pu_ 5 46 ?_; refine pu_ 7 48 ?_; refine pu_ 8 49 ?_; refine pu_ 9 50 ?_; refine tk_ 0 41 ?_; refine tk_ 6 47 ?_; refine tk_ 10 51 ?_
          refine on_ 11 (some 52) (fun K hK => ?_)
          refine goes_ Try.func117 (by kernel_rfl) rfl #[.agg #[.slice Ao30 t954.length co30, .int .i64 t957, .slice Ao31 t958.length co31], .int .i64 x15_1, .int .i64 x14_1, .int .i64 (rd l1 x15_1), .int .i64 (rd l1 x14_1)] (by rfl) rfl rfl (by (try simp only [List.map_toArray, List.map_cons, List.map_nil]); first | done | rfl | (simp only [List.length_drop, List.length_take]; rfl)) ?_
          with_reducible refine (spec_l05Key.calls k1 _ _ t954 t957 _ _ t958 x15_1 x14_1 (rd l1 x15_1) (rd l1 x14_1) true _ ?side1 ?side2 ?side3 ?side4 A24.out).mono ?_
          (case side1 => repeat (first | exact (Kd.S_reads' HO_965000.out).2.2 | (with_reducible refine Kd.C_alloc ?_ _) | (with_reducible refine Kd.C_drewN ?_ _) | (with_reducible refine Kd.C_drew ?_)))
          (case side2 => exact (Kd.S_reads' HO_965000.out).2.1)
          (case side3 => repeat (first | exact (Kd.R_reads' HO_965002.out).2.2 | (with_reducible refine Kd.C_alloc ?_ _) | (with_reducible refine Kd.C_drewN ?_ _) | (with_reducible refine Kd.C_drew ?_)))
          (case side4 => exact (Kd.R_reads' HO_965002.out).2.1)
          rintro e w32 ⟨rfl, hb⟩
          refine ⟨_, rfl, ?_⟩
          have n0_ := Aside0.mk (Kd.S_below (so_ HO_12.out) hb)
          have n1_ := Aside0.mk (Kd.S_below (so_ HO_965000.out) hb)
          have n2_ := Aside0.mk (rb_ HO_965002.out hb)
          have n3_ := Aside0.mk (bb_ BK952.out hb)
          have n4_ := Aside0.mk (bb_ BK953.out hb)
          have n5_ := Aside0.mk (bb_ BK964.out hb)
          have n6_ := Aside0.mk (bs_ hb)
          clear HO_12
          clear HO_965000
          clear HO_965002
          clear BK952
          clear BK953
          clear BK964
          clear HB
          have HO_12 := n0_
          have HO_965000 := n1_
          have HO_965002 := n2_
          have BK952 := n3_
          have BK953 := n4_
          have BK964 := n5_
          have HB := n6_
          clear n0_ n1_ n2_ n3_ n4_ n5_ n6_
          (try clear hb)
          (try clear hb2)
          (try clear hk)
          (try clear hi)
          refine hK.out _ _ ⟨(blk_cell BK964.out 0).trans rfl, (blk_cell BK964.out 1).trans rfl, (blk_cell BK964.out 2).trans rfl, ((HB.out.cell (World.block_lt_of_cell? w _ hw965_0)).trans hw965_0), ((HB.out.cell (World.block_lt_of_cell? w _ hw966_0)).trans hw966_0)⟩ (fun hHeld => ?_)
          clear hK K
          refine norm_ (a' := ?_) ?_ ?_
          rotate_left
          ·show Act.put _ (some 52) _ = _
           simp only [Act.put, List.setIfInBounds_toArray, List.set_cons_zero, List.set_cons_succ, i64_w, i32_w]
           rfl
          refine done_ (done_of HT_.out (by kernel_rfl)) ?_
          try go_wp2
          go_roundg k1
          case measure => have := HK1.out; omega
          case rel => exact ⟨(true), (x15_1), (wrap64 (x15_1 + 1)), rs_, rs_, rs_, H', ⟨by have := HK1.out; omega⟩, ⟨so_ HO_12.out⟩, ⟨so_ HO_965000.out⟩, ⟨ro_ HO_965002.out⟩, ⟨bk_⟩, ⟨bk_⟩, ⟨bk_⟩, ⟨hb_⟩⟩
         ·replace c25 := Bool.eq_false_iff.mpr c25
          subst c25
          have H1 : (spec_l05Run.l0 k1 l1 a2 (l0_1.length : Int) y961 true x14_1 (wrap64 (x15_1 + 1)) l0_0 l0_1 t954 t957 t958) = some (r1, r2, r3, r4, r5, r6) := by rw [if_neg (show ¬ (false = true) by decide)] at H; exact H
          clear H
          have H := H1
          clear H1
          have H' := Aside0.mk H
          clear H
          have hnb33 := NB952_953.out
          have hnc33 := NB953_952.out
          have hnb34 := NB952_964.out
          have hnc34 := NB964_952.out
          have hcz35_0 : wr.cell? ⟨gb952, 0, none⟩ = some (.slice A0_0 l0_0.length c0_0) := (blk_cell BK952.out 0).trans rfl
          have hcz35_1 : wr.cell? ⟨gb952, 1, none⟩ = some (.slice A0_1 l0_1.length c0_1) := (blk_cell BK952.out 1).trans rfl
          have hfz35_0 := blk_frozen BK952.out 0
          have hfz35_1 := blk_frozen BK952.out 1
          try go_wp2
          have n0_ := Aside0.mk (Kd.S_drew HO_12.out)
          have n1_ := Aside0.mk (Kd.S_drew HO_965000.out)
          have n2_ := Aside0.mk (Kd.R_drew HO_965002.out)
          have n3_ := Aside0.mk (blk_drew BK952.out)
          have n4_ := Aside0.mk (blk_drew BK953.out)
          have n5_ := Aside0.mk (blk_drew BK964.out)
          have n6_ := Aside0.mk (below_drew1 HB.out)
          clear HO_12
          clear HO_965000
          clear HO_965002
          clear BK952
          clear BK953
          clear BK964
          clear HB
          have HO_12 := n0_
          have HO_965000 := n1_
          have HO_965002 := n2_
          have BK952 := n3_
          have BK953 := n4_
          have BK964 := n5_
          have HB := n6_
          clear n0_ n1_ n2_ n3_ n4_ n5_ n6_
          have p965 : 0 ≤ (x15_1 : Int) := od_
          have q965 : x15_1 < (l1.length : Int) := od_
          obtain ⟨ad965, e965, hx965_0⟩ := Kd.at_int HR1.out x15_1 p965 q965
          have hw965_0 := hx965_0
          cases e965
          replace hx965_0 := (HB.out.cell (World.block_lt_of_cell? w _ hx965_0)).trans hx965_0
          replace p965 := eq_true p965
          replace q965 := eq_true q965
          have p966 : 0 ≤ (x14_1 : Int) := od_
          have q966 : x14_1 < (l1.length : Int) := od_
          obtain ⟨ad966, e966, hx966_0⟩ := Kd.at_int HR1.out x14_1 p966 q966
          have hw966_0 := hx966_0
          obtain rfl : ad965 = ad966 := (by injection e966)
          replace hx966_0 := (HB.out.cell (World.block_lt_of_cell? w _ hx966_0)).trans hx966_0
          replace p966 := eq_true p966
          replace q966 := eq_true q966
          obtain ⟨Ao37, co37, eo37⟩ := Kd.S_slice HO_965000.out
          (first | subst eo37 | (injection eo37 with f1_ f2_ f3_; have f4_ := f1_.symm; have f5_ := f3_.symm; clear f1_ f2_ f3_; subst f4_; subst f5_))
          obtain ⟨Ao38, co38, eo38⟩ := Kd.R_slice HO_965002.out
          (first | subst eo38 | (injection eo38 with f1_ f2_ f3_; have f4_ := f1_.symm; have f5_ := f3_.symm; clear f1_ f2_ f3_; subst f4_; subst f5_))
          refine st_ (n := 12) (S := fun w' => w'.cell? ⟨gb964, 0, none⟩ = some (.slice Ao37 t954.length co37) ∧ w'.cell? ⟨gb964, 1, none⟩ = some (.int .i64 t957) ∧ w'.cell? ⟨gb964, 2, none⟩ = some (.slice Ao38 t958.length co38) ∧ w'.cell? (ad965.add (x15_1).toNat) = some (.int .i64 (rd l1 x15_1)) ∧ w'.cell? (ad965.add (x14_1).toNat) = some (.int .i64 (rd l1 x14_1))) (ds := []) ⟨(blk_cell BK964.out 0).trans rfl, (blk_cell BK964.out 1).trans rfl, (blk_cell BK964.out 2).trans rfl, ((HB.out.cell (World.block_lt_of_cell? w _ hw965_0)).trans hw965_0), ((HB.out.cell (World.block_lt_of_cell? w _ hw966_0)).trans hw966_0)⟩ (fun hHeld => ?_); refine with_tabW spec_l05Run.tab7 spec_l05Run.bits7 (fun HT_ HW_ => ?_)
          generalize wr.drew = w36 at HO_12 HO_965000 HO_965002 BK952 BK953 BK964 HB hx965_0 hx966_0 hHeld ⊢
          refine pu_ 1 42 ?_; refine pu_ 2 43 ?_; refine pu_ 3 44 ?_; refine pu_ 4 45 ?_; refine pu_ 5 46 ?_; refine pu_ 7 48 ?_; refine pu_ 8 49 ?_; refine pu_ 9 50 ?_; refine tk_ 0 41 ?_; refine tk_ 6 47 ?_; refine tk_ 10 51 ?_
          refine on_ 11 (some 52) (fun K hK => ?_)
          refine goes_ Try.func117 (by kernel_rfl) rfl #[.agg #[.slice Ao37 t954.length co37, .int .i64 t957, .slice Ao38 t958.length co38], .int .i64 x15_1, .int .i64 x14_1, .int .i64 (rd l1 x15_1), .int .i64 (rd l1 x14_1)] (by rfl) rfl rfl (by (try simp only [List.map_toArray, List.map_cons, List.map_nil]); first | done | rfl | (simp only [List.length_drop, List.length_take]; rfl)) ?_
          with_reducible refine (spec_l05Key.calls k1 _ _ t954 t957 _ _ t958 x15_1 x14_1 (rd l1 x15_1) (rd l1 x14_1) false _ ?side1 ?side2 ?side3 ?side4 A24.out).mono ?_
          (case side1 => repeat (first | exact (Kd.S_reads' HO_965000.out).2.2 | (with_reducible refine Kd.C_alloc ?_ _) | (with_reducible refine Kd.C_drewN ?_ _) | (with_reducible refine Kd.C_drew ?_)))
          (case side2 => exact (Kd.S_reads' HO_965000.out).2.1)
          (case side3 => repeat (first | exact (Kd.R_reads' HO_965002.out).2.2 | (with_reducible refine Kd.C_alloc ?_ _) | (with_reducible refine Kd.C_drewN ?_ _) | (with_reducible refine Kd.C_drew ?_)))
          (case side4 => exact (Kd.R_reads' HO_965002.out).2.1)
          rintro e w39 ⟨rfl, hb⟩
          refine ⟨_, rfl, ?_⟩
          have n0_ := Aside0.mk (Kd.S_below (so_ HO_12.out) hb)
          have n1_ := Aside0.mk (Kd.S_below (so_ HO_965000.out) hb)
          have n2_ := Aside0.mk (rb_ HO_965002.out hb)
          have n3_ := Aside0.mk (bb_ BK952.out hb)
          have n4_ := Aside0.mk (bb_ BK953.out hb)
          have n5_ := Aside0.mk (bb_ BK964.out hb)
          have n6_ := Aside0.mk (bs_ hb)
          clear HO_12
          clear HO_965000
          clear HO_965002
          clear BK952
          clear BK953
          clear BK964
          clear HB
          have HO_12 := n0_
          have HO_965000 := n1_
          have HO_965002 := n2_
          have BK952 := n3_
          have BK953 := n4_
          have BK964 := n5_
          have HB := n6_
          clear n0_ n1_ n2_ n3_ n4_ n5_ n6_
          (try clear hb)
          (try clear hb2)
          (try clear hk)
          (try clear hi)
          refine hK.out _ _ ⟨(blk_cell BK964.out 0).trans rfl, (blk_cell BK964.out 1).trans rfl, (blk_cell BK964.out 2).trans rfl, ((HB.out.cell (World.block_lt_of_cell? w _ hw965_0)).trans hw965_0), ((HB.out.cell (World.block_lt_of_cell? w _ hw966_0)).trans hw966_0)⟩ (fun hHeld => ?_)
          clear hK K
          refine norm_ (a' := ?_) ?_ ?_
          rotate_left
          ·show Act.put _ (some 52) _ = _
           simp only [Act.put, List.setIfInBounds_toArray, List.set_cons_zero, List.set_cons_succ, i64_w, i32_w]
           rfl
          refine done_ (done_of HT_.out (by kernel_rfl)) ?_
          try go_wp2
          go_roundg k1
          case measure => have := HK1.out; omega
          case rel => exact ⟨(true), (x14_1), (wrap64 (x15_1 + 1)), rs_, rs_, rs_, H', ⟨by have := HK1.out; omega⟩, ⟨so_ HO_12.out⟩, ⟨so_ HO_965000.out⟩, ⟨ro_ HO_965002.out⟩, ⟨bk_⟩, ⟨bk_⟩, ⟨bk_⟩, ⟨hb_⟩⟩
        ·rw [if_neg c23] at H
         exact absurd H (by simp)
       ·rw [if_neg c22] at H
        exact absurd H (by simp)
      ·rw [if_neg c21] at H
       exact absurd H (by simp)
     ·rw [if_neg c20] at H
      exact absurd H (by simp)
    ·replace c19 := Bool.eq_false_iff.mpr c19
     subst c19
     have H1 : (if 0 ≤ x15_1 then (if x15_1 < (l1.length : Int) then (if 0 ≤ x14_1 then (if x14_1 < (l1.length : Int) then ((spec_l05Key.f k1 t954 t957 t958 x15_1 x14_1 (rd l1 x15_1) (rd l1 x14_1)).bind fun t971 => (if t971 = true then (spec_l05Run.l0 k1 l1 a2 (l0_1.length : Int) y961 (decide ((rd l0_1 x15_1) < 0)) x15_1 (wrap64 (x15_1 + 1)) l0_0 l0_1 t954 t957 t958) else (spec_l05Run.l0 k1 l1 a2 (l0_1.length : Int) y961 (decide ((rd l0_1 x15_1) < 0)) x14_1 (wrap64 (x15_1 + 1)) l0_0 l0_1 t954 t957 t958))) else (none)) else (none)) else (none)) else (none)) = some (r1, r2, r3, r4, r5, r6) := by rw [if_neg (show ¬ (false = true) by decide)] at H; exact H
     clear H
     have H := H1
     clear H1
     by_cases c40 : 0 ≤ x15_1
     ·rw [if_pos c40] at H
      have c40b0 : decide (0 ≤ x15_1) = true := decide_eq_true c40
      clear c40
      by_cases c41 : x15_1 < (l1.length : Int)
      ·rw [if_pos c41] at H
       have c41b0 : decide (x15_1 < (l1.length : Int)) = true := decide_eq_true c41
       clear c41
       by_cases c42 : 0 ≤ x14_1
       ·rw [if_pos c42] at H
        have c42b0 : decide (0 ≤ x14_1) = true := decide_eq_true c42
        clear c42
        by_cases c43 : x14_1 < (l1.length : Int)
        ·rw [if_pos c43] at H
         have c43b0 : decide (x14_1 < (l1.length : Int)) = true := decide_eq_true c43
         clear c43
         replace H := Option.bind_eq_some_iff.mp H
         obtain ⟨t971, A440, H⟩ := H
         replace H : (if t971 = true then (spec_l05Run.l0 k1 l1 a2 (l0_1.length : Int) y961 (decide ((rd l0_1 x15_1) < 0)) x15_1 (wrap64 (x15_1 + 1)) l0_0 l0_1 t954 t957 t958) else (spec_l05Run.l0 k1 l1 a2 (l0_1.length : Int) y961 (decide ((rd l0_1 x15_1) < 0)) x14_1 (wrap64 (x15_1 + 1)) l0_0 l0_1 t954 t957 t958)) = some (r1, r2, r3, r4, r5, r6) := H
         have A44 := Aside0.mk A440
         clear A440
         by_cases c45 : t971 = true
         ·subst c45
          have H1 : (spec_l05Run.l0 k1 l1 a2 (l0_1.length : Int) y961 (decide ((rd l0_1 x15_1) < 0)) x15_1 (wrap64 (x15_1 + 1)) l0_0 l0_1 t954 t957 t958) = some (r1, r2, r3, r4, r5, r6) := by rw [if_pos rfl] at H; exact H
          clear H
          have H := H1
          clear H1
          have H' := Aside0.mk H
          clear H
          have hnb46 := NB952_953.out
          have hnc46 := NB953_952.out
          have hnb47 := NB952_964.out
          have hnc47 := NB964_952.out
          have hcz48_0 : wr.cell? ⟨gb952, 0, none⟩ = some (.slice A0_0 l0_0.length c0_0) := (blk_cell BK952.out 0).trans rfl
          have hcz48_1 : wr.cell? ⟨gb952, 1, none⟩ = some (.slice A0_1 l0_1.length c0_1) := (blk_cell BK952.out 1).trans rfl
          have hfz48_0 := blk_frozen BK952.out 0
          have hfz48_1 := blk_frozen BK952.out 1
          have p968 : 0 ≤ (x15_1 : Int) := od_
          have q968 : x15_1 < (l0_1.length : Int) := od_
          obtain ⟨ad968, e968, hx968_0⟩ := Kd.at_int HR0_1.out x15_1 p968 q968
          cases e968
          replace hx968_0 := (HB.out.cell (World.block_lt_of_cell? w _ hx968_0)).trans hx968_0
          replace p968 := eq_true p968
          replace q968 := eq_true q968
          try go_wp2
          have n0_ := Aside0.mk (Kd.S_drew HO_12.out)
          have n1_ := Aside0.mk (Kd.S_drew HO_965000.out)
          have n2_ := Aside0.mk (Kd.R_drew HO_965002.out)
          have n3_ := Aside0.mk (blk_drew BK952.out)
          have n4_ := Aside0.mk (blk_drew BK953.out)
          have n5_ := Aside0.mk (blk_drew BK964.out)
          have n6_ := Aside0.mk (below_drew1 HB.out)
          clear HO_12
          clear HO_965000
          clear HO_965002
          clear BK952
          clear BK953
          clear BK964
          clear HB
          have HO_12 := n0_
          have HO_965000 := n1_
          have HO_965002 := n2_
          have BK952 := n3_
          have BK953 := n4_
          have BK964 := n5_
          have HB := n6_
          clear n0_ n1_ n2_ n3_ n4_ n5_ n6_
          have p969 : 0 ≤ (x15_1 : Int) := od_
          have q969 : x15_1 < (l1.length : Int) := od_
          obtain ⟨ad969, e969, hx969_0⟩ := Kd.at_int HR1.out x15_1 p969 q969
          have hw969_0 := hx969_0
          cases e969
          replace hx969_0 := (HB.out.cell (World.block_lt_of_cell? w _ hx969_0)).trans hx969_0
          replace p969 := eq_true p969
          replace q969 := eq_true q969
          have p970 : 0 ≤ (x14_1 : Int) := od_
          have q970 : x14_1 < (l1.length : Int) := od_
          obtain ⟨ad970, e970, hx970_0⟩ := Kd.at_int HR1.out x14_1 p970 q970
          have hw970_0 := hx970_0
          obtain rfl : ad969 = ad970 := (by injection e970)
          replace hx970_0 := (HB.out.cell (World.block_lt_of_cell? w _ hx970_0)).trans hx970_0
          replace p970 := eq_true p970
          replace q970 := eq_true q970
          obtain ⟨Ao50, co50, eo50⟩ := Kd.S_slice HO_965000.out
          (first | subst eo50 | (injection eo50 with f1_ f2_ f3_; have f4_ := f1_.symm; have f5_ := f3_.symm; clear f1_ f2_ f3_; subst f4_; subst f5_))
          obtain ⟨Ao51, co51, eo51⟩ := Kd.R_slice HO_965002.out
          (first | subst eo51 | (injection eo51 with f1_ f2_ f3_; have f4_ := f1_.symm; have f5_ := f3_.symm; clear f1_ f2_ f3_; subst f4_; subst f5_))
          refine st_ (n := 12) (S := fun w' => w'.cell? ⟨gb964, 0, none⟩ = some (.slice Ao50 t954.length co50) ∧ w'.cell? ⟨gb964, 1, none⟩ = some (.int .i64 t957) ∧ w'.cell? ⟨gb964, 2, none⟩ = some (.slice Ao51 t958.length co51) ∧ w'.cell? (ad969.add (x15_1).toNat) = some (.int .i64 (rd l1 x15_1)) ∧ w'.cell? (ad969.add (x14_1).toNat) = some (.int .i64 (rd l1 x14_1))) (ds := []) ⟨(blk_cell BK964.out 0).trans rfl, (blk_cell BK964.out 1).trans rfl, (blk_cell BK964.out 2).trans rfl, ((HB.out.cell (World.block_lt_of_cell? w _ hw969_0)).trans hw969_0), ((HB.out.cell (World.block_lt_of_cell? w _ hw970_0)).trans hw970_0)⟩ (fun hHeld => ?_); refine with_tabW spec_l05Run.tab7 spec_l05Run.bits7 (fun HT_ HW_ => ?_)
          generalize wr.drew = w49 at HO_12 HO_965000 HO_965002 BK952 BK953 BK964 HB hx969_0 hx970_0 hHeld ⊢
          refine pu_ 1 42 ?_; refine pu_ 2 43 ?_; refine pu_ 3 44 ?_; refine pu_ 4 45 ?_; refine pu_ 5 46 ?_; refine pu_ 7 48 ?_; refine pu_ 8 49 ?_; refine pu_ 9 50 ?_; refine tk_ 0 41 ?_; refine tk_ 6 47 ?_; refine tk_ 10 51 ?_
          refine on_ 11 (some 52) (fun K hK => ?_)
          refine goes_ Try.func117 (by kernel_rfl) rfl #[.agg #[.slice Ao50 t954.length co50, .int .i64 t957, .slice Ao51 t958.length co51], .int .i64 x15_1, .int .i64 x14_1, .int .i64 (rd l1 x15_1), .int .i64 (rd l1 x14_1)] (by rfl) rfl rfl (by (try simp only [List.map_toArray, List.map_cons, List.map_nil]); first | done | rfl | (simp only [List.length_drop, List.length_take]; rfl)) ?_
          with_reducible refine (spec_l05Key.calls k1 _ _ t954 t957 _ _ t958 x15_1 x14_1 (rd l1 x15_1) (rd l1 x14_1) true _ ?side1 ?side2 ?side3 ?side4 A44.out).mono ?_
          (case side1 => repeat (first | exact (Kd.S_reads' HO_965000.out).2.2 | (with_reducible refine Kd.C_alloc ?_ _) | (with_reducible refine Kd.C_drewN ?_ _) | (with_reducible refine Kd.C_drew ?_)))
          (case side2 => exact (Kd.S_reads' HO_965000.out).2.1)
          (case side3 => repeat (first | exact (Kd.R_reads' HO_965002.out).2.2 | (with_reducible refine Kd.C_alloc ?_ _) | (with_reducible refine Kd.C_drewN ?_ _) | (with_reducible refine Kd.C_drew ?_)))
          (case side4 => exact (Kd.R_reads' HO_965002.out).2.1)
          rintro e w52 ⟨rfl, hb⟩
          refine ⟨_, rfl, ?_⟩
          have n0_ := Aside0.mk (Kd.S_below (so_ HO_12.out) hb)
          have n1_ := Aside0.mk (Kd.S_below (so_ HO_965000.out) hb)
          have n2_ := Aside0.mk (rb_ HO_965002.out hb)
          have n3_ := Aside0.mk (bb_ BK952.out hb)
          have n4_ := Aside0.mk (bb_ BK953.out hb)
          have n5_ := Aside0.mk (bb_ BK964.out hb)
          have n6_ := Aside0.mk (bs_ hb)
          clear HO_12
          clear HO_965000
          clear HO_965002
          clear BK952
          clear BK953
          clear BK964
          clear HB
          have HO_12 := n0_
          have HO_965000 := n1_
          have HO_965002 := n2_
          have BK952 := n3_
          have BK953 := n4_
          have BK964 := n5_
          have HB := n6_
          clear n0_ n1_ n2_ n3_ n4_ n5_ n6_
          (try clear hb)
          (try clear hb2)
          (try clear hk)
          (try clear hi)
          refine hK.out _ _ ⟨(blk_cell BK964.out 0).trans rfl, (blk_cell BK964.out 1).trans rfl, (blk_cell BK964.out 2).trans rfl, ((HB.out.cell (World.block_lt_of_cell? w _ hw969_0)).trans hw969_0), ((HB.out.cell (World.block_lt_of_cell? w _ hw970_0)).trans hw970_0)⟩ (fun hHeld => ?_)
          clear hK K
          refine norm_ (a' := ?_) ?_ ?_
          rotate_left
          ·show Act.put _ (some 52) _ = _
           simp only [Act.put, List.setIfInBounds_toArray, List.set_cons_zero, List.set_cons_succ, i64_w, i32_w]
           rfl
          refine done_ (done_of HT_.out (by kernel_rfl)) ?_
          try go_wp2
          go_roundg k1
          case measure => have := HK1.out; omega
          case rel => exact ⟨(decide ((rd l0_1 x15_1) < 0)), (x15_1), (wrap64 (x15_1 + 1)), rs_, rs_, rs_, H', ⟨by have := HK1.out; omega⟩, ⟨so_ HO_12.out⟩, ⟨so_ HO_965000.out⟩, ⟨ro_ HO_965002.out⟩, ⟨bk_⟩, ⟨bk_⟩, ⟨bk_⟩, ⟨hb_⟩⟩
         ·replace c45 := Bool.eq_false_iff.mpr c45
          subst c45
          have H1 : (spec_l05Run.l0 k1 l1 a2 (l0_1.length : Int) y961 (decide ((rd l0_1 x15_1) < 0)) x14_1 (wrap64 (x15_1 + 1)) l0_0 l0_1 t954 t957 t958) = some (r1, r2, r3, r4, r5, r6) := by rw [if_neg (show ¬ (false = true) by decide)] at H; exact H
          clear H
          have H := H1
          clear H1
          have H' := Aside0.mk H
          clear H
          have hnb53 := NB952_953.out
          have hnc53 := NB953_952.out
          have hnb54 := NB952_964.out
          have hnc54 := NB964_952.out
          have hcz55_0 : wr.cell? ⟨gb952, 0, none⟩ = some (.slice A0_0 l0_0.length c0_0) := (blk_cell BK952.out 0).trans rfl
          have hcz55_1 : wr.cell? ⟨gb952, 1, none⟩ = some (.slice A0_1 l0_1.length c0_1) := (blk_cell BK952.out 1).trans rfl
          have hfz55_0 := blk_frozen BK952.out 0
          have hfz55_1 := blk_frozen BK952.out 1
          have p968 : 0 ≤ (x15_1 : Int) := od_
          have q968 : x15_1 < (l0_1.length : Int) := od_
          obtain ⟨ad968, e968, hx968_0⟩ := Kd.at_int HR0_1.out x15_1 p968 q968
          cases e968
          replace hx968_0 := (HB.out.cell (World.block_lt_of_cell? w _ hx968_0)).trans hx968_0
          replace p968 := eq_true p968
          replace q968 := eq_true q968
          try go_wp2
          have n0_ := Aside0.mk (Kd.S_drew HO_12.out)
          have n1_ := Aside0.mk (Kd.S_drew HO_965000.out)
          have n2_ := Aside0.mk (Kd.R_drew HO_965002.out)
          have n3_ := Aside0.mk (blk_drew BK952.out)
          have n4_ := Aside0.mk (blk_drew BK953.out)
          have n5_ := Aside0.mk (blk_drew BK964.out)
          have n6_ := Aside0.mk (below_drew1 HB.out)
          clear HO_12
          clear HO_965000
          clear HO_965002
          clear BK952
          clear BK953
          clear BK964
          clear HB
          have HO_12 := n0_
          have HO_965000 := n1_
          have HO_965002 := n2_
          have BK952 := n3_
          have BK953 := n4_
          have BK964 := n5_
          have HB := n6_
          clear n0_ n1_ n2_ n3_ n4_ n5_ n6_
          have p969 : 0 ≤ (x15_1 : Int) := od_
          have q969 : x15_1 < (l1.length : Int) := od_
          obtain ⟨ad969, e969, hx969_0⟩ := Kd.at_int HR1.out x15_1 p969 q969
          have hw969_0 := hx969_0
          cases e969
          replace hx969_0 := (HB.out.cell (World.block_lt_of_cell? w _ hx969_0)).trans hx969_0
          replace p969 := eq_true p969
          replace q969 := eq_true q969
          have p970 : 0 ≤ (x14_1 : Int) := od_
          have q970 : x14_1 < (l1.length : Int) := od_
          obtain ⟨ad970, e970, hx970_0⟩ := Kd.at_int HR1.out x14_1 p970 q970
          have hw970_0 := hx970_0
          obtain rfl : ad969 = ad970 := (by injection e970)
          replace hx970_0 := (HB.out.cell (World.block_lt_of_cell? w _ hx970_0)).trans hx970_0
          replace p970 := eq_true p970
          replace q970 := eq_true q970
          obtain ⟨Ao57, co57, eo57⟩ := Kd.S_slice HO_965000.out
          (first | subst eo57 | (injection eo57 with f1_ f2_ f3_; have f4_ := f1_.symm; have f5_ := f3_.symm; clear f1_ f2_ f3_; subst f4_; subst f5_))
          obtain ⟨Ao58, co58, eo58⟩ := Kd.R_slice HO_965002.out
          (first | subst eo58 | (injection eo58 with f1_ f2_ f3_; have f4_ := f1_.symm; have f5_ := f3_.symm; clear f1_ f2_ f3_; subst f4_; subst f5_))
          refine st_ (n := 12) (S := fun w' => w'.cell? ⟨gb964, 0, none⟩ = some (.slice Ao57 t954.length co57) ∧ w'.cell? ⟨gb964, 1, none⟩ = some (.int .i64 t957) ∧ w'.cell? ⟨gb964, 2, none⟩ = some (.slice Ao58 t958.length co58) ∧ w'.cell? (ad969.add (x15_1).toNat) = some (.int .i64 (rd l1 x15_1)) ∧ w'.cell? (ad969.add (x14_1).toNat) = some (.int .i64 (rd l1 x14_1))) (ds := []) ⟨(blk_cell BK964.out 0).trans rfl, (blk_cell BK964.out 1).trans rfl, (blk_cell BK964.out 2).trans rfl, ((HB.out.cell (World.block_lt_of_cell? w _ hw969_0)).trans hw969_0), ((HB.out.cell (World.block_lt_of_cell? w _ hw970_0)).trans hw970_0)⟩ (fun hHeld => ?_); refine with_tabW spec_l05Run.tab7 spec_l05Run.bits7 (fun HT_ HW_ => ?_)
          generalize wr.drew = w56 at HO_12 HO_965000 HO_965002 BK952 BK953 BK964 HB hx969_0 hx970_0 hHeld ⊢
          refine pu_ 1 42 ?_; refine pu_ 2 43 ?_; refine pu_ 3 44 ?_; refine pu_ 4 45 ?_; refine pu_ 5 46 ?_; refine pu_ 7 48 ?_; refine pu_ 8 49 ?_; refine pu_ 9 50 ?_; refine tk_ 0 41 ?_; refine tk_ 6 47 ?_; refine tk_ 10 51 ?_
          refine on_ 11 (some 52) (fun K hK => ?_)
          refine goes_ Try.func117 (by kernel_rfl) rfl #[.agg #[.slice Ao57 t954.length co57, .int .i64 t957, .slice Ao58 t958.length co58], .int .i64 x15_1, .int .i64 x14_1, .int .i64 (rd l1 x15_1), .int .i64 (rd l1 x14_1)] (by rfl) rfl rfl (by (try simp only [List.map_toArray, List.map_cons, List.map_nil]); first | done | rfl | (simp only [List.length_drop, List.length_take]; rfl)) ?_
          with_reducible refine (spec_l05Key.calls k1 _ _ t954 t957 _ _ t958 x15_1 x14_1 (rd l1 x15_1) (rd l1 x14_1) false _ ?side1 ?side2 ?side3 ?side4 A44.out).mono ?_
          (case side1 => repeat (first | exact (Kd.S_reads' HO_965000.out).2.2 | (with_reducible refine Kd.C_alloc ?_ _) | (with_reducible refine Kd.C_drewN ?_ _) | (with_reducible refine Kd.C_drew ?_)))
          (case side2 => exact (Kd.S_reads' HO_965000.out).2.1)
          (case side3 => repeat (first | exact (Kd.R_reads' HO_965002.out).2.2 | (with_reducible refine Kd.C_alloc ?_ _) | (with_reducible refine Kd.C_drewN ?_ _) | (with_reducible refine Kd.C_drew ?_)))
          (case side4 => exact (Kd.R_reads' HO_965002.out).2.1)
          rintro e w59 ⟨rfl, hb⟩
          refine ⟨_, rfl, ?_⟩
          have n0_ := Aside0.mk (Kd.S_below (so_ HO_12.out) hb)
          have n1_ := Aside0.mk (Kd.S_below (so_ HO_965000.out) hb)
          have n2_ := Aside0.mk (rb_ HO_965002.out hb)
          have n3_ := Aside0.mk (bb_ BK952.out hb)
          have n4_ := Aside0.mk (bb_ BK953.out hb)
          have n5_ := Aside0.mk (bb_ BK964.out hb)
          have n6_ := Aside0.mk (bs_ hb)
          clear HO_12
          clear HO_965000
          clear HO_965002
          clear BK952
          clear BK953
          clear BK964
          clear HB
          have HO_12 := n0_
          have HO_965000 := n1_
          have HO_965002 := n2_
          have BK952 := n3_
          have BK953 := n4_
          have BK964 := n5_
          have HB := n6_
          clear n0_ n1_ n2_ n3_ n4_ n5_ n6_
          (try clear hb)
          (try clear hb2)
          (try clear hk)
          (try clear hi)
          refine hK.out _ _ ⟨(blk_cell BK964.out 0).trans rfl, (blk_cell BK964.out 1).trans rfl, (blk_cell BK964.out 2).trans rfl, ((HB.out.cell (World.block_lt_of_cell? w _ hw969_0)).trans hw969_0), ((HB.out.cell (World.block_lt_of_cell? w _ hw970_0)).trans hw970_0)⟩ (fun hHeld => ?_)
          clear hK K
          refine norm_ (a' := ?_) ?_ ?_
          rotate_left
          ·show Act.put _ (some 52) _ = _
           simp only [Act.put, List.setIfInBounds_toArray, List.set_cons_zero, List.set_cons_succ, i64_w, i32_w]
           rfl
          refine done_ (done_of HT_.out (by kernel_rfl)) ?_
          try go_wp2
          go_roundg k1
          case measure => have := HK1.out; omega
          case rel => exact ⟨(decide ((rd l0_1 x15_1) < 0)), (x14_1), (wrap64 (x15_1 + 1)), rs_, rs_, rs_, H', ⟨by have := HK1.out; omega⟩, ⟨so_ HO_12.out⟩, ⟨so_ HO_965000.out⟩, ⟨ro_ HO_965002.out⟩, ⟨bk_⟩, ⟨bk_⟩, ⟨bk_⟩, ⟨hb_⟩⟩
        ·rw [if_neg c43] at H
         exact absurd H (by simp)
       ·rw [if_neg c42] at H
        exact absurd H (by simp)
      ·rw [if_neg c41] at H
       exact absurd H (by simp)
     ·rw [if_neg c40] at H
      exact absurd H (by simp)
   ·rw [if_neg c18] at H
    have c18b0 : decide (x15_1 < (l0_1.length : Int)) = false := decide_eq_false c18
    clear c18
    by_cases c60 : x13_1 = true
    ·subst c60
     have H1 : (spec_l05Run.l1 k1 a2 (l0_1.length : Int) y961 x14_1 (wrap64 (2 * (l0_1.length : Int))) t954 t957 t958) = some (r1, r2, r3, r4, r5, r6) := by rw [if_pos rfl] at H; exact H
     clear H
     have H := H1
     clear H1
     have H' := Aside0.mk H
     clear H
     have hnb61 := NB952_953.out
     have hnc61 := NB953_952.out
     have hnb62 := NB952_964.out
     have hnc62 := NB964_952.out
     have hcz63_0 : wr.cell? ⟨gb952, 0, none⟩ = some (.slice A0_0 l0_0.length c0_0) := (blk_cell BK952.out 0).trans rfl
     have hcz63_1 : wr.cell? ⟨gb952, 1, none⟩ = some (.slice A0_1 l0_1.length c0_1) := (blk_cell BK952.out 1).trans rfl
     have hfz63_0 := blk_frozen BK952.out 0
     have hfz63_1 := blk_frozen BK952.out 1
     go_wp2
     go_loopg [12, 14, 16] k1 (fun kq v12 v14 v16 w' => ∃ (x12_2 : List (List Int)) (x14_2 : Int) (x16_2 : Int) (x954001_2 : Int) (x965000_2 : List (List Int)) (x965001_2 : Int) (x965002_2 : List Int) (u965000 : Value) (u965002 : Value), v14 = .int .i64 x14_2 ∧ v16 = .int .i64 x16_2 ∧ Aside0 (spec_l05Run.l1 kq a2 (l0_1.length : Int) x12_2 x14_2 x16_2 x965000_2 x965001_2 x965002_2 = some (r1, r2, r3, r4, r5, r6)) ∧ Aside0 (kq ≤ k1) ∧ Aside0 (Kd.S (Kd.slice 2 (Kd.int .i64)) 23 w' w.heap.size (fun k_ => some k_ ≠ (u965000 : Value).ownBlock ∧ some k_ ≠ (u965002 : Value).ownBlock) v12 x12_2) ∧ Aside0 (Kd.S (Kd.slice 2 (Kd.int .i64)) 23 w' w.heap.size (fun k_ => some k_ ≠ (v12 : Value).ownBlock ∧ some k_ ≠ (u965002 : Value).ownBlock) u965000 x965000_2) ∧ Aside0 (Kd.R (Kd.int .i64) 2 w' w.heap.size (fun _ => True) u965002 x965002_2) ∧ Aside0 (w'.heap[gb952]? = some (.cells #[(.slice A0_0 l0_0.length c0_0), (.slice A0_1 l0_1.length c0_1)] 29 (0, 0))) ∧ Aside0 (w'.heap[gb953]? = some (.cells #[(.slice none 0 0), .int .i64 x954001_2, (.slice none 0 0)] 101 (0, 0))) ∧ Aside0 (w'.heap[gb964]? = some (.cells #[u965000, .int .i64 x965001_2, u965002] 101 (0, 0))) ∧ Aside0 (Below w.heap.size w w'))
     case atStart => exact ⟨(y961), (x14_1), (wrap64 (2 * (l0_1.length : Int))), (0), (t954), (t957), (t958), (v955), (v959), rs_, rs_, H', ⟨Nat.le_refl _⟩, ⟨so_ HO_12.out⟩, ⟨so_ HO_965000.out⟩, ⟨ro_ HO_965002.out⟩, ⟨bk_⟩, ⟨bk_⟩, ⟨bk_⟩, ⟨hb_⟩⟩
     case round =>
      clear H'
      try clear c1
      try clear c2
      try clear p2
      try clear c4
      try clear c5
      try clear c6
      try clear p6
      try clear p9
      try clear q9
      try clear hx9
      try clear c11
      try clear c18
      try clear c18b0
      try clear c19
      try clear c20
      try clear c21
      try clear c22
      try clear c23
      try clear c40
      try clear c40b0
      try clear c41
      try clear c41b0
      try clear c42
      try clear c42b0
      try clear c43
      try clear c43b0
      try clear c45
      try clear c46
      try clear c47
      try clear c53
      try clear c54
      try clear c60
      try clear c61
      try clear c62
      try clear hcz48_0
      try clear hcz48_1
      try clear hcz55_0
      try clear hcz55_1
      try clear hcz63_0
      try clear hcz63_1
      try clear hfz48_0
      try clear hfz48_1
      try clear hfz55_0
      try clear hfz55_1
      try clear hfz63_0
      try clear hfz63_1
      try clear hx968_0
      try clear hx969_0
      try clear hx970_0
      try clear p968
      try clear p969
      try clear p970
      try clear q968
      try clear q969
      try clear q970
      obtain ⟨x12_2, x14_2, x16_2, x954001_2, x965000_2, x965001_2, x965002_2, u965000, u965002, rfl, rfl, HA, HK2, HO_12, HO_965000, HO_965002, BK952, BK953, BK964, HB⟩ := hrel
      cases gk with
      | zero => exact absurd HA.out (by simp [spec_l05Run.l1])
      | succ k2 =>
       have H := HA.out
       clear HA
       simp only [spec_l05Run.l1] at H
       by_cases c64 : (x12_2.length : Int) < a2
       ·rw [if_pos c64] at H
        have c64b0 : decide ((x12_2.length : Int) < a2) = true := decide_eq_true c64
        clear c64
        have HC65 := Aside0.mk H
        clear H
        obtain ⟨Ao66, co66, eo66⟩ := Kd.S_slice HO_12.out
        subst eo66
        go_upto_if 67 with (fail)
        go_cut [14] (fun v14 wc => ∃ (kq : Nat) (x14_64 : Int) (x954001_64 : Int), v14 = .int .i64 x14_64 ∧ Aside0 (spec_l05Run.j2 kq a2 (l0_1.length : Int) x12_2 x14_64 x16_2 x965000_2 x965001_2 x965002_2 = some (r1, r2, r3, r4, r5, r6)) ∧ Aside0 (kq ≤ k2) ∧ Aside0 (Kd.S (Kd.slice 2 (Kd.int .i64)) 23 wc w.heap.size (fun k_ => some k_ ≠ (u965000 : Value).ownBlock ∧ some k_ ≠ (u965002 : Value).ownBlock) (.slice Ao66 x12_2.length co66) x12_2) ∧ Aside0 (Kd.S (Kd.slice 2 (Kd.int .i64)) 23 wc w.heap.size (fun k_ => some k_ ≠ ((.slice Ao66 x12_2.length co66) : Value).ownBlock ∧ some k_ ≠ (u965002 : Value).ownBlock) u965000 x965000_2) ∧ Aside0 (Kd.R (Kd.int .i64) 2 wc w.heap.size (fun _ => True) u965002 x965002_2) ∧ Aside0 (wc.heap[gb952]? = some (.cells #[(.slice A0_0 l0_0.length c0_0), (.slice A0_1 l0_1.length c0_1)] 29 (0, 0))) ∧ Aside0 (wc.heap[gb953]? = some (.cells #[(.slice none 0 0), .int .i64 x954001_64, (.slice none 0 0)] 101 (0, 0))) ∧ Aside0 (wc.heap[gb964]? = some (.cells #[u965000, .int .i64 x965001_2, u965002] 101 (0, 0))) ∧ Aside0 (Below w.heap.size w wc))
        case first =>
         have H := HC65.out
         clear HC65
         by_cases c67 : x16_2 < (wrap64 (2 * (l0_1.length : Int)))
         ·rw [if_pos c67] at H
          have c67b0 : decide (x16_2 < (wrap64 (2 * (l0_1.length : Int)))) = true := decide_eq_true c67
          clear c67
          (first | rw [c67b0] | (simp only [i64_w, i32_w]; rw [c67b0]) | skip)
          replace H := Option.bind_eq_some_iff.mp H
          obtain ⟨t972, A680, H⟩ := H
          replace H : (if t972 < 0 then (some (x965000_2, x965001_2, x965002_2, x12_2, x16_2, false)) else (spec_l05Run.j2 k2 a2 (l0_1.length : Int) x12_2 t972 x16_2 x965000_2 x965001_2 x965002_2)) = some (r1, r2, r3, r4, r5, r6) := H
          have A68 := Aside0.mk A680
          clear A680
          by_cases c69 : t972 < 0
          ·rw [if_pos c69] at H
           have c69b0 : decide (t972 < 0) = true := decide_eq_true c69
           clear c69
           simp only [Option.some.injEq, Prod.mk.injEq] at H
           obtain ⟨rfl, rfl, rfl, rfl, rfl, rfl⟩ := H
           have hnb70 := NB964_952.out
           have hnc70 := NB952_964.out
           have hnb71 := NB964_953.out
           have hnc71 := NB953_964.out
           have hcz72_0 : wr.cell? ⟨gb964, 0, none⟩ = some (u965000) := (blk_cell BK964.out 0).trans rfl
           have hcz72_1 : wr.cell? ⟨gb964, 1, none⟩ = some (.int .i64 x965001_2) := (blk_cell BK964.out 1).trans rfl
           have hcz72_2 : wr.cell? ⟨gb964, 2, none⟩ = some (u965002) := (blk_cell BK964.out 2).trans rfl
           have hfz72_0 := blk_frozen BK964.out 0
           have hfz72_1 := blk_frozen BK964.out 1
           have hfz72_2 := blk_frozen BK964.out 2
           obtain ⟨Ao73, co73, eo73⟩ := Kd.S_slice HO_965000.out
           subst eo73
           obtain ⟨Ao74, co74, eo74⟩ := Kd.R_slice HO_965002.out
           subst eo74
           go_wp2_with (first | ((with_reducible refine gate_callee (f := 118) rfl ?_); refine gL_ 70 Try.func118 #[.agg #[.slice Ao73 x965000_2.length co73, .int .i64 x965001_2, .slice Ao74 x965002_2.length co74], .int .i64 x16_2] ?_; (with_reducible refine (spec_l05Row.calls k2 _ _ x965000_2 x965001_2 _ _ x965002_2 x16_2 t972 _ ?side1 ?side2 ?side3 ?side4 A68.out).mono ?_); (case side1 => repeat (first | exact (Kd.S_reads' HO_965000.out).2.2 | (with_reducible refine Kd.C_alloc ?_ _) | (with_reducible refine Kd.C_drewN ?_ _) | (with_reducible refine Kd.C_drew ?_))); (case side2 => exact (Kd.S_reads' HO_965000.out).2.1); (case side3 => repeat (first | exact (Kd.R_reads' HO_965002.out).2.2 | (with_reducible refine Kd.C_alloc ?_ _) | (with_reducible refine Kd.C_drewN ?_ _) | (with_reducible refine Kd.C_drew ?_))); (case side4 => exact (Kd.R_reads' HO_965002.out).2.1); rintro e w75 ⟨rfl, hb⟩; refine ⟨_, rfl, ?_⟩; have n0_ := Aside0.mk (Kd.S_below (so_ HO_12.out) hb); have n1_ := Aside0.mk (Kd.S_below (so_ HO_965000.out) hb); have n2_ := Aside0.mk (rb_ HO_965002.out hb); have n3_ := Aside0.mk (bb_ BK952.out hb); have n4_ := Aside0.mk (bb_ BK953.out hb); have n5_ := Aside0.mk (bb_ BK964.out hb); have n6_ := Aside0.mk (bs_ hb); clear HO_12; clear HO_965000; clear HO_965002; clear BK952; clear BK953; clear BK964; clear HB; have HO_12 := n0_; have HO_965000 := n1_; have HO_965002 := n2_; have BK952 := n3_; have BK953 := n4_; have BK964 := n5_; have HB := n6_; clear n0_ n1_ n2_ n3_ n4_ n5_ n6_; (try clear hb); (try clear hb2); (try clear hk); (try clear hi); have hcz76_0 : w75.cell? ⟨gb964, 0, none⟩ = some (.slice Ao73 x965000_2.length co73) := (blk_cell BK964.out 0).trans rfl; have hcz76_1 : w75.cell? ⟨gb964, 1, none⟩ = some (.int .i64 x965001_2) := (blk_cell BK964.out 1).trans rfl; have hcz76_2 : w75.cell? ⟨gb964, 2, none⟩ = some (.slice Ao74 x965002_2.length co74) := (blk_cell BK964.out 2).trans rfl; have hfz76_0 := blk_frozen BK964.out 0; have hfz76_1 := blk_frozen BK964.out 1; have hfz76_2 := blk_frozen BK964.out 2; have hnb77 := NB953_952.out; have hnc77 := NB952_953.out; have hcz78_0 : w75.cell? ⟨gb953, 0, none⟩ = some (.slice none 0 0) := (blk_cell BK953.out 0).trans rfl; have hcz78_1 : w75.cell? ⟨gb953, 1, none⟩ = some (.int .i64 x954001_2) := (blk_cell BK953.out 1).trans rfl; have hcz78_2 : w75.cell? ⟨gb953, 2, none⟩ = some (.slice none 0 0) := (blk_cell BK953.out 2).trans rfl; have hfz78_0 := blk_frozen BK953.out 0; have hfz78_1 := blk_frozen BK953.out 1; have hfz78_2 := blk_frozen BK953.out 2))
           refine bodyPost_ret (results_list (rs := [.cell 6 101, .tmp 7, .tmp 8, .tmp 9]) rfl (by simp) (.cell gb953 101 #[.slice Ao73 x965000_2.length co73, .int .i64 x965001_2, .slice Ao74 x965002_2.length co74] (0, 0) _ rfl (by (with_reducible repeat (first | refine blk_drewN ?_ _ | refine blk_drew ?_ | refine blk_alloc ?_ _)); refine blk_put (cs := #[.slice Ao73 x965000_2.length co73, .int .i64 x965001_2, .slice none 0 0]) ?_ 2 _ rfl; (with_reducible repeat (first | refine blk_drewN ?_ _ | refine blk_drew ?_ | refine blk_alloc ?_ _)); refine blk_put (cs := #[.slice Ao73 x965000_2.length co73, .int .i64 x954001_2, .slice none 0 0]) ?_ 1 _ rfl; (with_reducible repeat (first | refine blk_drewN ?_ _ | refine blk_drew ?_ | refine blk_alloc ?_ _)); refine blk_put (cs := #[.slice none 0 0, .int .i64 x954001_2, .slice none 0 0]) ?_ 0 _ rfl; (with_reducible repeat (first | refine blk_drewN ?_ _ | refine blk_drew ?_ | refine blk_alloc ?_ _)); exact BK953.out) Try.underlying101 rfl (by kernel_rfl) (.tmp (.tmp (.tmp .nil))))) rfl ?_
           exact ⟨_, _, _, by first | rfl | (simp [errW_none, errW_some] <;> rfl) | (simp [*, errW_none, errW_some] <;> rfl), by (with_reducible repeat (first | apply Kd.S_alloc | apply Kd.S_drewN | apply Kd.S_drew)); exact Kd.S_mono (Kd.S_far (p := ⟨gb953, 2, none⟩) (Kd.S_far (p := ⟨gb953, 1, none⟩) (Kd.S_far (p := ⟨gb953, 0, none⟩) (Kd.S_types HO_965000.out BK953.out (by decide)) (fun _ hk => hk.2) (.slice Ao73 x965000_2.length co73)) (fun _ hk => hk.2) (.int .i64 x965001_2)) (fun _ hk => hk.2) (.slice Ao74 x965002_2.length co74)) (fun _ hk => ⟨hk.1.2, hk.1.1⟩), by (with_reducible repeat (first | apply Kd.R_alloc | apply Kd.R_drewN | apply Kd.R_drew)); exact Kd.R_mono (Kd.R_far (p := ⟨gb953, 2, none⟩) (Kd.R_far (p := ⟨gb953, 1, none⟩) (Kd.R_far (p := ⟨gb953, 0, none⟩) (Kd.R_types HO_965002.out BK953.out (by decide)) (fun _ hk => hk.2) (.slice Ao73 x965000_2.length co73)) (fun _ hk => hk.2) (.int .i64 x965001_2)) (fun _ hk => hk.2) (.slice Ao74 x965002_2.length co74)) (fun _ hk => trivial), by (with_reducible repeat (first | apply Kd.S_alloc | apply Kd.S_drewN | apply Kd.S_drew)); exact Kd.S_mono (Kd.S_far (p := ⟨gb953, 2, none⟩) (Kd.S_far (p := ⟨gb953, 1, none⟩) (Kd.S_far (p := ⟨gb953, 0, none⟩) (Kd.S_types HO_12.out BK953.out (by decide)) (fun _ hk => hk.2) (.slice Ao73 x965000_2.length co73)) (fun _ hk => hk.2) (.int .i64 x965001_2)) (fun _ hk => hk.2) (.slice Ao74 x965002_2.length co74)) (fun _ hk => ⟨hk.1.1, hk.1.2⟩), hb_⟩
          ·rw [if_neg c69] at H
           have c69b0 : decide (t972 < 0) = false := decide_eq_false c69
           clear c69
           have H' := Aside0.mk H
           clear H
           have hnb79 := NB964_952.out
           have hnc79 := NB952_964.out
           have hnb80 := NB964_953.out
           have hnc80 := NB953_964.out
           have hcz81_0 : wr.cell? ⟨gb964, 0, none⟩ = some (u965000) := (blk_cell BK964.out 0).trans rfl
           have hcz81_1 : wr.cell? ⟨gb964, 1, none⟩ = some (.int .i64 x965001_2) := (blk_cell BK964.out 1).trans rfl
           have hcz81_2 : wr.cell? ⟨gb964, 2, none⟩ = some (u965002) := (blk_cell BK964.out 2).trans rfl
           have hfz81_0 := blk_frozen BK964.out 0
           have hfz81_1 := blk_frozen BK964.out 1
           have hfz81_2 := blk_frozen BK964.out 2
           obtain ⟨Ao82, co82, eo82⟩ := Kd.S_slice HO_965000.out
           subst eo82
           obtain ⟨Ao83, co83, eo83⟩ := Kd.R_slice HO_965002.out
           subst eo83
           go_wp2_with (first | ((with_reducible refine gate_callee (f := 118) rfl ?_); refine gL_ 70 Try.func118 #[.agg #[.slice Ao82 x965000_2.length co82, .int .i64 x965001_2, .slice Ao83 x965002_2.length co83], .int .i64 x16_2] ?_; (with_reducible refine (spec_l05Row.calls k2 _ _ x965000_2 x965001_2 _ _ x965002_2 x16_2 t972 _ ?side1 ?side2 ?side3 ?side4 A68.out).mono ?_); (case side1 => repeat (first | exact (Kd.S_reads' HO_965000.out).2.2 | (with_reducible refine Kd.C_alloc ?_ _) | (with_reducible refine Kd.C_drewN ?_ _) | (with_reducible refine Kd.C_drew ?_))); (case side2 => exact (Kd.S_reads' HO_965000.out).2.1); (case side3 => repeat (first | exact (Kd.R_reads' HO_965002.out).2.2 | (with_reducible refine Kd.C_alloc ?_ _) | (with_reducible refine Kd.C_drewN ?_ _) | (with_reducible refine Kd.C_drew ?_))); (case side4 => exact (Kd.R_reads' HO_965002.out).2.1); rintro e w84 ⟨rfl, hb⟩; refine ⟨_, rfl, ?_⟩; have n0_ := Aside0.mk (Kd.S_below (so_ HO_12.out) hb); have n1_ := Aside0.mk (Kd.S_below (so_ HO_965000.out) hb); have n2_ := Aside0.mk (rb_ HO_965002.out hb); have n3_ := Aside0.mk (bb_ BK952.out hb); have n4_ := Aside0.mk (bb_ BK953.out hb); have n5_ := Aside0.mk (bb_ BK964.out hb); have n6_ := Aside0.mk (bs_ hb); clear HO_12; clear HO_965000; clear HO_965002; clear BK952; clear BK953; clear BK964; clear HB; have HO_12 := n0_; have HO_965000 := n1_; have HO_965002 := n2_; have BK952 := n3_; have BK953 := n4_; have BK964 := n5_; have HB := n6_; clear n0_ n1_ n2_ n3_ n4_ n5_ n6_; (try clear hb); (try clear hb2); (try clear hk); (try clear hi)))
           go_meet
           case rel => exact ⟨_, (t972), (x954001_2), rs_, H', ⟨by have := HK1.out; have := HK2.out; first | omega | exact Nat.le_refl _⟩, ⟨so_ HO_12.out⟩, ⟨so_ HO_965000.out⟩, ⟨ro_ HO_965002.out⟩, ⟨bk_⟩, ⟨bk_⟩, ⟨bk_⟩, ⟨hb_⟩⟩
         ·rw [if_neg c67] at H
          have c67b0 : decide (x16_2 < (wrap64 (2 * (l0_1.length : Int)))) = false := decide_eq_false c67
          clear c67
          (first | rw [c67b0] | (simp only [i64_w, i32_w]; rw [c67b0]) | skip)
          have H' := Aside0.mk H
          clear H
          go_wp2
          go_meet
          case rel => exact ⟨_, (x14_2), (x954001_2), rs_, H', ⟨by have := HK1.out; have := HK2.out; first | omega | exact Nat.le_refl _⟩, ⟨so_ HO_12.out⟩, ⟨so_ HO_965000.out⟩, ⟨ro_ HO_965002.out⟩, ⟨bk_⟩, ⟨bk_⟩, ⟨bk_⟩, ⟨hb_⟩⟩
        case rest =>
         clear HC65
         try clear c1
         try clear c2
         try clear p2
         try clear c4
         try clear c5
         try clear c6
         try clear p6
         try clear c7
         try clear c8
         try clear p9
         try clear q9
         try clear hx9
         try clear c11
         try clear c18
         try clear c18b0
         try clear c19
         try clear c20
         try clear c21
         try clear c22
         try clear c23
         try clear c40
         try clear c40b0
         try clear c41
         try clear c41b0
         try clear c42
         try clear c42b0
         try clear c43
         try clear c43b0
         try clear c45
         try clear c46
         try clear c47
         try clear c53
         try clear c54
         try clear c60
         try clear c61
         try clear c62
         try clear c64
         try clear c64b0
         try clear p64
         try clear c67
         try clear c67b0
         try clear c69
         try clear c69b0
         try clear c70
         try clear c71
         try clear c77
         try clear c79
         try clear c80
         try clear hcz48_0
         try clear hcz48_1
         try clear hcz55_0
         try clear hcz55_1
         try clear hcz63_0
         try clear hcz63_1
         try clear hcz72_0
         try clear hcz72_1
         try clear hcz72_2
         try clear hcz76_0
         try clear hcz76_1
         try clear hcz76_2
         try clear hcz78_0
         try clear hcz78_1
         try clear hcz78_2
         try clear hcz81_0
         try clear hcz81_1
         try clear hcz81_2
         try clear hfz48_0
         try clear hfz48_1
         try clear hfz55_0
         try clear hfz55_1
         try clear hfz63_0
         try clear hfz63_1
         try clear hfz72_0
         try clear hfz72_1
         try clear hfz72_2
         try clear hfz76_0
         try clear hfz76_1
         try clear hfz76_2
         try clear hfz78_0
         try clear hfz78_1
         try clear hfz78_2
         try clear hfz81_0
         try clear hfz81_1
         try clear hfz81_2
         try clear hx968_0
         try clear hx969_0
         try clear hx970_0
         try clear p2
         try clear p6
         try clear p9
         try clear p968
         try clear p969
         try clear p970
         try clear q9
         try clear q968
         try clear q969
         try clear q970
         obtain ⟨kq, x14_64, x954001_64, rfl, HA, HJ64, HO_12, HO_965000, HO_965002, BK952, BK953, BK964, HB⟩ := hcut
         cases kq with
         | zero => exact absurd HA.out (by simp [spec_l05Run.j2])
         | succ kj64 =>
          have H := HA.out
          clear HA
          simp only [spec_l05Run.j2] at H
          by_cases c85 : 0 ≤ x14_64
          ·rw [if_pos c85] at H
           have c85b0 : decide (0 ≤ x14_64) = true := decide_eq_true c85
           clear c85
           by_cases c86 : x14_64 < (x965002_2.length : Int)
           ·rw [if_pos c86] at H
            have c86b0 : decide (x14_64 < (x965002_2.length : Int)) = true := decide_eq_true c86
            clear c86
            obtain ⟨y974, hy974⟩ : ∃ y_ : List Int, y_ = (([x16_2, rd x965002_2 x14_64] : List Int)) := ⟨_, rfl⟩
            replace H : (if x12_2.length < 5864062014805 then ((some (x12_2 ++ [y974] : List (List Int))).bind fun y977 => ((spec_l05Pivot.f x965000_2 x965001_2 x965002_2 x14_64 x16_2).bind fun bt980 => (if (rd x965002_2 x14_64) = (wrap64 (2 * (l0_1.length : Int))) then (some (bt980.1, bt980.2.1, bt980.2.2, y977, (-1), true)) else ((spec_l05Partner.f (rd x965002_2 x14_64) (l0_1.length : Int)).bind fun t987 => (spec_l05Run.l1 kj64 a2 (l0_1.length : Int) y977 x14_64 t987 bt980.1 bt980.2.1 bt980.2.2))))) else (none)) = some (r1, r2, r3, r4, r5, r6) := by first | (rw [hy974]; with_reducible exact H) | (have H2_ := (Option.bind_some _ _).symm.trans H; rw [hy974]; with_reducible exact H2_) | (have H2_ := (Option.bind_some _ _).symm.trans H; with_reducible exact H2_) | with_reducible exact H | (rw [hy974]; exact H) | exact H
            have Ny974 := Aside0.mk hy974
            clear hy974
            by_cases c87 : x12_2.length < 5864062014805
            ·rw [if_pos c87] at H
             have LMc87 := Aside0.mk c87
             clear c87
             obtain ⟨y977, hy977⟩ : ∃ y_ : List (List Int), y_ = (x12_2 ++ [y974]) := ⟨_, rfl⟩
             replace H : ((spec_l05Pivot.f x965000_2 x965001_2 x965002_2 x14_64 x16_2).bind fun bt980 => (if (rd x965002_2 x14_64) = (wrap64 (2 * (l0_1.length : Int))) then (some (bt980.1, bt980.2.1, bt980.2.2, y977, (-1), true)) else ((spec_l05Partner.f (rd x965002_2 x14_64) (l0_1.length : Int)).bind fun t987 => (spec_l05Run.l1 kj64 a2 (l0_1.length : Int) y977 x14_64 t987 bt980.1 bt980.2.1 bt980.2.2)))) = some (r1, r2, r3, r4, r5, r6) := by first | (rw [hy977]; with_reducible exact H) | (have H2_ := (Option.bind_some _ _).symm.trans H; rw [hy977]; with_reducible exact H2_) | (have H2_ := (Option.bind_some _ _).symm.trans H; with_reducible exact H2_) | with_reducible exact H | (rw [hy977]; exact H) | exact H
             have Ny977 := Aside0.mk hy977
             clear hy977
             replace H := Option.bind_eq_some_iff.mp H
             obtain ⟨⟨t980, t983, t984⟩, A880, H⟩ := H
             replace H : (if (rd x965002_2 x14_64) = (wrap64 (2 * (l0_1.length : Int))) then (some (t980, t983, t984, y977, (-1), true)) else ((spec_l05Partner.f (rd x965002_2 x14_64) (l0_1.length : Int)).bind fun t987 => (spec_l05Run.l1 kj64 a2 (l0_1.length : Int) y977 x14_64 t987 t980 t983 t984))) = some (r1, r2, r3, r4, r5, r6) := H
             have A88 := Aside0.mk A880
             clear A880
             by_cases c89 : (rd x965002_2 x14_64) = (wrap64 (2 * (l0_1.length : Int)))
             ·rw [if_pos c89] at H
              have c89b0 : ((rd x965002_2 x14_64) == (wrap64 (2 * (l0_1.length : Int)))) = true := beq_iff_eq.mpr c89
              have c89b1 : ((rd x965002_2 x14_64) != (wrap64 (2 * (l0_1.length : Int)))) = false := bne_eq_false_iff_eq.mpr c89
              clear c89
              simp only [Option.some.injEq, Prod.mk.injEq] at H
              obtain ⟨rfl, rfl, rfl, rfl, rfl, rfl⟩ := H
              have hnb90 := NB964_952.out
              have hnc90 := NB952_964.out
              have hnb91 := NB964_953.out
              have hnc91 := NB953_964.out
              have hcz92_0 : wc.cell? ⟨gb964, 0, none⟩ = some (u965000) := (blk_cell BK964.out 0).trans rfl
              have hcz92_1 : wc.cell? ⟨gb964, 1, none⟩ = some (.int .i64 x965001_2) := (blk_cell BK964.out 1).trans rfl
              have hcz92_2 : wc.cell? ⟨gb964, 2, none⟩ = some (u965002) := (blk_cell BK964.out 2).trans rfl
              have hfz92_0 := blk_frozen BK964.out 0
              have hfz92_1 := blk_frozen BK964.out 1
              have hfz92_2 := blk_frozen BK964.out 2
              obtain ⟨Ao93, co93, eo93⟩ := Kd.R_slice HO_965002.out
              subst eo93
              have p973 : 0 ≤ (x14_64 : Int) := od_
              have q973 : x14_64 < (x965002_2.length : Int) := od_
              obtain ⟨ad973, e973, hx973_0⟩ := Kd.at_int (Kd.R_reads' HO_965002.out).2.2 x14_64 p973 q973
              cases e973
              replace p973 := eq_true p973
              replace q973 := eq_true q973
              go_wp2_with (first | ((with_reducible refine gate_dst (N := 84) rfl ?_); refine Kd.R_lit (Kd.int .i64) _ 2 ?hg (N := 84) ?hd (xs := ([x16_2, rd x965002_2 x14_64] : List Int)) (inner := [.int .i64 x16_2, .int .i64 (rd x965002_2 x14_64)]) (ok := fun _ => True) (okp := fun _ => True) ?hr ?hp (fun _ hk => hk) trivial (Below.refl _ _) (Nat.le_refl _) (by simp) ?_; (case hd => rfl); (case hg => rfl); (case hr => first | (go_simp; done) | (go_simp; rfl)); (case hp => exact (Reps.one (show Kd.M (Kd.int .i64) _ _ _ x16_2 [.int .i64 x16_2] from rfl) (Reps.one (show Kd.M (Kd.int .i64) _ _ _ (rd x965002_2 x14_64) [.int .i64 (rd x965002_2 x14_64)] from rfl) (Reps.none _ _)))); intro v975 w94 ho95 hb hg_ hnew_; clear hg_ hnew_; (first | rw [← Ny974.out] at ho95 | (simp only [Int.reduceToNat] at ho95; rw [← Ny974.out] at ho95)); have n0_ := Aside0.mk (Kd.S_elder' (so_ HO_12.out) (Kd.R_base ho95) hb); have n1_ := Aside0.mk (Kd.S_elder' (so_ HO_965000.out) (Kd.R_base ho95) hb); have n2_ := Aside0.mk (Kd.R_elder' (ro_ HO_965002.out) (Kd.R_base ho95) hb); have n3_ := Aside0.mk (Kd.R_lower (Kd.R_new' ho95 (Kd.R_lt (ro_ HO_965002.out))) bz_); have n4_ := Aside0.mk (bb_ BK952.out hb); have n5_ := Aside0.mk (bb_ BK953.out hb); have n6_ := Aside0.mk (bb_ BK964.out hb); have n7_ := Aside0.mk (bs_ hb); clear HO_12; clear HO_965000; clear HO_965002; clear BK952; clear BK953; clear BK964; clear HB; have HO_12 := n0_; have HO_965000 := n1_; have HO_965002 := n2_; have HO976 := n3_; have BK952 := n4_; have BK953 := n5_; have BK964 := n6_; have HB := n7_; clear n0_ n1_ n2_ n3_ n4_ n5_ n6_ n7_; clear hb ho95; obtain ⟨Ao97, co97, eo97⟩ := Kd.R_slice HO976.out; subst eo97) | ((with_reducible refine gate_builtin (b := .append) (xs := #[.tmp 81, .tmp 85]) rfl ?_); at_builtin; refine Kd.S_append (Kd.slice 2 (Kd.int .i64)) (w0 := w) w.heap.size rfl (.tmp 81) (.tmp 85) 22 23 (.slice none 0 0) 24 rfl Try.underlying22 info23 rfl (by decide) (by omega) (.slice Ao66 x12_2.length co66) x12_2 y974 [.slice Ao97 y974.length co97] (fun k_ => some k_ ≠ (u965000 : Value).ownBlock ∧ some k_ ≠ (.slice (some ad973) x965002_2.length co93 : Value).ownBlock) (fun k_ => some k_ = (.slice Ao97 y974.length co97 : Value).ownBlock) rfl rfl ?aP (fun k_ hk_ => ((Kd.R_mono (ok' := fun k_ => ((fun k_ => some k_ ≠ (u965000 : Value).ownBlock ∧ some k_ ≠ (.slice (some ad973) x965002_2.length co93 : Value).ownBlock)) k_ ∧ some k_ ≠ (.slice Ao66 x12_2.length co66 : Value).ownBlock) (Kd.R_apart' (Kd.R_apart' (HO976.out) (Kd.S_typed HO_965000.out) (by decide)) (Kd.S_typed HO_12.out) (by decide)) (fun k_ hk => ⟨⟨hk.1.2, hk.1.1.2⟩, hk.2⟩))).1 k_ hk_.symm) ?aF ?aO ?aB ?aS ?aL ?_; (case aP => exact Kd.M_row (Kd.R_mono (Kd.R_tight rfl (Kd.R_mono (ok' := fun k_ => ((fun k_ => some k_ ≠ (u965000 : Value).ownBlock ∧ some k_ ≠ (.slice (some ad973) x965002_2.length co93 : Value).ownBlock)) k_ ∧ some k_ ≠ (.slice Ao66 x12_2.length co66 : Value).ownBlock) (Kd.R_apart' (Kd.R_apart' (HO976.out) (Kd.S_typed HO_965000.out) (by decide)) (Kd.S_typed HO_12.out) (by decide)) (fun k_ hk => ⟨⟨hk.1.2, hk.1.1.2⟩, hk.2⟩))) (fun _ h_ => h_))); (case aB => exact hb_); (case aF => exact (fun k_ hk => ⟨Kd.fresh' (Kd.S_lt (so_ HO_965000.out)) k_ hk, Kd.fresh' (Kd.R_lt (ro_ HO_965002.out)) k_ hk⟩)); (case aO => exact (by (with_reducible repeat (first | apply Kd.S_alloc | apply Kd.S_drewN | apply Kd.S_drew)); exact Kd.S_mono HO_12.out (fun k_ hk => ⟨⟨hk.1.1, hk.1.2⟩, fun e_ => hk.2 e_⟩))); (case aS => exact bz_); (case aL => have := LMc87.out; omega); intro v978 w96 ho hb hg hat; rw [← Ny977.out] at ho; have n0_ := Aside0.mk (Kd.S_after (ok := (fun k_ => some k_ ≠ (.slice (some ad973) x965002_2.length co93 : Value).ownBlock ∧ some k_ ≠ (.slice Ao97 y974.length co97 : Value).ownBlock)) (by (with_reducible repeat (first | apply Kd.S_alloc | apply Kd.S_drewN | apply Kd.S_drew)); exact Kd.S_mono HO_965000.out (fun _ hk => ⟨⟨hk.1.2, hk.2⟩, hk.1.1⟩)) hg hat); have n1_ := Aside0.mk (Kd.R_over' (ro_ HO_965002.out) (Kd.S_typed (so_ HO_12.out)) (by decide) hg); have n2_ := Aside0.mk (bg_ BK952.out hg (Kd.S_ne HO_12.out BK952.out (by decide))); have n3_ := Aside0.mk (bg_ BK953.out hg (Kd.S_ne HO_12.out BK953.out (by decide))); have n4_ := Aside0.mk (bg_ BK964.out hg (Kd.S_ne HO_12.out BK964.out (by decide))); have n5_ := Aside0.mk (hb); have n6_ := Aside0.mk (ho); clear HO_965000; clear HO_965002; clear BK952; clear BK953; clear BK964; clear HB; clear HO_12; clear HO976; have HO_965000 := n0_; have HO_965002 := n1_; have BK952 := n2_; have BK953 := n3_; have BK964 := n4_; have HB := n5_; have HO979 := n6_; clear n0_ n1_ n2_ n3_ n4_ n5_ n6_; clear ho hb hg hat; have hcz98_0 : w96.cell? ⟨gb964, 0, none⟩ = some (u965000) := (blk_cell BK964.out 0).trans rfl; have hcz98_1 : w96.cell? ⟨gb964, 1, none⟩ = some (.int .i64 x965001_2) := (blk_cell BK964.out 1).trans rfl; have hcz98_2 : w96.cell? ⟨gb964, 2, none⟩ = some (.slice (some ad973) x965002_2.length co93) := (blk_cell BK964.out 2).trans rfl; have hfz98_0 := blk_frozen BK964.out 0; have hfz98_1 := blk_frozen BK964.out 1; have hfz98_2 := blk_frozen BK964.out 2; obtain ⟨Ao99, co99, eo99⟩ := Kd.S_slice HO_965000.out; subst eo99) | ((with_reducible refine gate_callee (f := 119) rfl ?_); refine gL_ 90 Try.func119 #[.agg #[.slice Ao99 x965000_2.length co99, .int .i64 x965001_2, .slice (some ad973) x965002_2.length co93], .int .i64 x14_64, .int .i64 x16_2] ?_; (with_reducible refine (spec_l05Pivot.calls _ _ x965000_2 x965001_2 _ _ x965002_2 x14_64 x16_2 t980 t983 t984 _ ?side1 ?side2 ?side3 ?side4 A88.out).mono ?_); (case side1 => repeat (first | exact (Kd.S_reads' HO_965000.out).2.2 | (with_reducible refine Kd.C_alloc ?_ _) | (with_reducible refine Kd.C_drewN ?_ _) | (with_reducible refine Kd.C_drew ?_))); (case side2 => exact (Kd.S_reads' HO_965000.out).2.1); (case side3 => repeat (first | exact (Kd.R_reads' HO_965002.out).2.2 | (with_reducible refine Kd.C_alloc ?_ _) | (with_reducible refine Kd.C_drewN ?_ _) | (with_reducible refine Kd.C_drew ?_))); (case side4 => exact (Kd.R_reads' HO_965002.out).2.1); rintro e w100 ⟨v981, v985, rfl, ho0, ho1, hb⟩; refine ⟨_, rfl, ?_⟩; have n0_ := Aside0.mk (Kd.S_mono (Kd.S_told (Kd.S_told (Kd.S_old (so_ HO_965000.out) hb) (Kd.S_base ho0)) (Kd.R_base ho1)) (fun _ h_ => h_.1)); have n1_ := Aside0.mk (Kd.R_elder' (ro_ HO_965002.out) (Kd.R_base ho1) hb); have n2_ := Aside0.mk (Kd.S_mono (Kd.S_told (Kd.S_told (Kd.S_old (so_ HO979.out) hb) (Kd.S_base ho0)) (Kd.R_base ho1)) (fun _ h_ => h_.1)); have n3_ := Aside0.mk (Kd.S_lower (Kd.S_new' (Kd.S_new' (Kd.S_new' ho0 (Kd.S_lt (so_ HO_965000.out))) (Kd.R_lt (ro_ HO_965002.out))) (Kd.S_lt (so_ HO979.out))) bz_); have n4_ := Aside0.mk (Kd.R_lower (Kd.R_new' ho1 (Kd.R_lt (ro_ HO_965002.out))) bz_); have n5_ := Aside0.mk (bb_ BK952.out hb); have n6_ := Aside0.mk (bb_ BK953.out hb); have n7_ := Aside0.mk (bb_ BK964.out hb); have n8_ := Aside0.mk (bs_ hb); clear HO_965000; clear HO_965002; clear HO979; clear BK952; clear BK953; clear BK964; clear HB; have HO_965000 := n0_; have HO_965002 := n1_; have HO979 := n2_; have HO982 := n3_; have HO986 := n4_; have BK952 := n5_; have BK953 := n6_; have BK964 := n7_; have HB := n8_; clear n0_ n1_ n2_ n3_ n4_ n5_ n6_ n7_ n8_; (try clear hb); (try clear hb2); (try clear hk); (try clear hi); (try clear ho0); (try clear ho1); obtain ⟨Ao101, co101, eo101⟩ := Kd.S_slice HO982.out; subst eo101; have hcz102_0 : w100.cell? ⟨gb964, 0, none⟩ = some (.slice Ao99 x965000_2.length co99) := (blk_cell BK964.out 0).trans rfl; have hcz102_1 : w100.cell? ⟨gb964, 1, none⟩ = some (.int .i64 x965001_2) := (blk_cell BK964.out 1).trans rfl; have hcz102_2 : w100.cell? ⟨gb964, 2, none⟩ = some (.slice (some ad973) x965002_2.length co93) := (blk_cell BK964.out 2).trans rfl; have hfz102_0 := blk_frozen BK964.out 0; have hfz102_1 := blk_frozen BK964.out 1; have hfz102_2 := blk_frozen BK964.out 2; obtain ⟨Ao103, co103, eo103⟩ := Kd.R_slice HO986.out; subst eo103; have hnb104 := NB953_952.out; have hnc104 := NB952_953.out; have hcz105_0 : w100.cell? ⟨gb953, 0, none⟩ = some (.slice none 0 0) := (blk_cell BK953.out 0).trans rfl; have hcz105_1 : w100.cell? ⟨gb953, 1, none⟩ = some (.int .i64 x954001_64) := (blk_cell BK953.out 1).trans rfl; have hcz105_2 : w100.cell? ⟨gb953, 2, none⟩ = some (.slice none 0 0) := (blk_cell BK953.out 2).trans rfl; have hfz105_0 := blk_frozen BK953.out 0; have hfz105_1 := blk_frozen BK953.out 1; have hfz105_2 := blk_frozen BK953.out 2))
              refine bodyPost_ret (results_list (rs := [.cell 6 101, .tmp 7, .tmp 8, .tmp 9]) rfl (by simp) (.cell gb953 101 #[.slice Ao101 t980.length co101, .int .i64 t983, .slice Ao103 t984.length co103] (0, 0) _ rfl (by (with_reducible repeat (first | refine blk_drewN ?_ _ | refine blk_drew ?_ | refine blk_alloc ?_ _)); refine blk_put (cs := #[.slice Ao101 t980.length co101, .int .i64 t983, .slice none 0 0]) ?_ 2 _ rfl; (with_reducible repeat (first | refine blk_drewN ?_ _ | refine blk_drew ?_ | refine blk_alloc ?_ _)); refine blk_put (cs := #[.slice Ao101 t980.length co101, .int .i64 x954001_64, .slice none 0 0]) ?_ 1 _ rfl; (with_reducible repeat (first | refine blk_drewN ?_ _ | refine blk_drew ?_ | refine blk_alloc ?_ _)); refine blk_put (cs := #[.slice none 0 0, .int .i64 x954001_64, .slice none 0 0]) ?_ 0 _ rfl; (with_reducible repeat (first | refine blk_drewN ?_ _ | refine blk_drew ?_ | refine blk_alloc ?_ _)); refine blk_far ?_ NB953_964.out _; (with_reducible repeat (first | refine blk_drewN ?_ _ | refine blk_drew ?_ | refine blk_alloc ?_ _)); refine blk_far ?_ NB953_964.out _; (with_reducible repeat (first | refine blk_drewN ?_ _ | refine blk_drew ?_ | refine blk_alloc ?_ _)); refine blk_far ?_ NB953_964.out _; (with_reducible repeat (first | refine blk_drewN ?_ _ | refine blk_drew ?_ | refine blk_alloc ?_ _)); exact BK953.out) Try.underlying101 rfl (by kernel_rfl) (.tmp (.tmp (.tmp .nil))))) rfl ?_
              exact ⟨_, _, _, by first | rfl | (simp [errW_none, errW_some] <;> rfl) | (simp [*, errW_none, errW_some] <;> rfl), by (with_reducible repeat (first | apply Kd.S_alloc | apply Kd.S_drewN | apply Kd.S_drew)); exact Kd.S_mono (Kd.S_far (p := ⟨gb953, 2, none⟩) (Kd.S_far (p := ⟨gb953, 1, none⟩) (Kd.S_far (p := ⟨gb953, 0, none⟩) (Kd.S_far (p := ⟨gb964, 2, none⟩) (Kd.S_far (p := ⟨gb964, 1, none⟩) (Kd.S_far (p := ⟨gb964, 0, none⟩) (Kd.S_types (Kd.S_types HO982.out BK964.out (by decide)) BK953.out (by decide)) (fun _ hk => hk.1.2) (.slice Ao101 t980.length co101)) (fun _ hk => hk.1.2) (.int .i64 t983)) (fun _ hk => hk.1.2) (.slice Ao103 t984.length co103)) (fun _ hk => hk.2) (.slice Ao101 t980.length co101)) (fun _ hk => hk.2) (.int .i64 t983)) (fun _ hk => hk.2) (.slice Ao103 t984.length co103)) (fun _ hk => ⟨hk.1.1.1.1.1, hk.1.1.2⟩), by (with_reducible repeat (first | apply Kd.R_alloc | apply Kd.R_drewN | apply Kd.R_drew)); exact Kd.R_mono (Kd.R_far (p := ⟨gb953, 2, none⟩) (Kd.R_far (p := ⟨gb953, 1, none⟩) (Kd.R_far (p := ⟨gb953, 0, none⟩) (Kd.R_far (p := ⟨gb964, 2, none⟩) (Kd.R_far (p := ⟨gb964, 1, none⟩) (Kd.R_far (p := ⟨gb964, 0, none⟩) (Kd.R_types (Kd.R_types HO986.out BK964.out (by decide)) BK953.out (by decide)) (fun _ hk => hk.1.2) (.slice Ao101 t980.length co101)) (fun _ hk => hk.1.2) (.int .i64 t983)) (fun _ hk => hk.1.2) (.slice Ao103 t984.length co103)) (fun _ hk => hk.2) (.slice Ao101 t980.length co101)) (fun _ hk => hk.2) (.int .i64 t983)) (fun _ hk => hk.2) (.slice Ao103 t984.length co103)) (fun _ hk => trivial), by (with_reducible repeat (first | apply Kd.S_alloc | apply Kd.S_drewN | apply Kd.S_drew)); exact Kd.S_mono (Kd.S_far (p := ⟨gb953, 2, none⟩) (Kd.S_far (p := ⟨gb953, 1, none⟩) (Kd.S_far (p := ⟨gb953, 0, none⟩) (Kd.S_far (p := ⟨gb964, 2, none⟩) (Kd.S_far (p := ⟨gb964, 1, none⟩) (Kd.S_far (p := ⟨gb964, 0, none⟩) (Kd.S_types (Kd.S_types HO979.out BK964.out (by decide)) BK953.out (by decide)) (fun _ hk => hk.1.2) (.slice Ao101 t980.length co101)) (fun _ hk => hk.1.2) (.int .i64 t983)) (fun _ hk => hk.1.2) (.slice Ao103 t984.length co103)) (fun _ hk => hk.2) (.slice Ao101 t980.length co101)) (fun _ hk => hk.2) (.int .i64 t983)) (fun _ hk => hk.2) (.slice Ao103 t984.length co103)) (fun _ hk => ⟨hk.1.1.1.2, hk.1.1.2⟩), hb_⟩
             ·rw [if_neg c89] at H
              have c89b0 : ((rd x965002_2 x14_64) == (wrap64 (2 * (l0_1.length : Int)))) = false := beq_eq_false_iff_ne.mpr c89
              have c89b1 : ((rd x965002_2 x14_64) != (wrap64 (2 * (l0_1.length : Int)))) = true := bne_iff_ne.mpr c89
              replace H := Option.bind_eq_some_iff.mp H
              obtain ⟨t987, A1060, H⟩ := H
              replace H : (spec_l05Run.l1 kj64 a2 (l0_1.length : Int) y977 x14_64 t987 t980 t983 t984) = some (r1, r2, r3, r4, r5, r6) := H
              have A106 := Aside0.mk A1060
              clear A1060
              have H' := Aside0.mk H
              clear H
              have hnb107 := NB964_952.out
              have hnc107 := NB952_964.out
              have hnb108 := NB964_953.out
              have hnc108 := NB953_964.out
              have hcz109_0 : wc.cell? ⟨gb964, 0, none⟩ = some (u965000) := (blk_cell BK964.out 0).trans rfl
              have hcz109_1 : wc.cell? ⟨gb964, 1, none⟩ = some (.int .i64 x965001_2) := (blk_cell BK964.out 1).trans rfl
              have hcz109_2 : wc.cell? ⟨gb964, 2, none⟩ = some (u965002) := (blk_cell BK964.out 2).trans rfl
              have hfz109_0 := blk_frozen BK964.out 0
              have hfz109_1 := blk_frozen BK964.out 1
              have hfz109_2 := blk_frozen BK964.out 2
              obtain ⟨Ao110, co110, eo110⟩ := Kd.R_slice HO_965002.out
              subst eo110
              have p973 : 0 ≤ (x14_64 : Int) := od_
              have q973 : x14_64 < (x965002_2.length : Int) := od_
              obtain ⟨ad973, e973, hx973_0⟩ := Kd.at_int (Kd.R_reads' HO_965002.out).2.2 x14_64 p973 q973
              cases e973
              replace p973 := eq_true p973
              replace q973 := eq_true q973
              go_wp2_with (first | ((with_reducible refine gate_dst (N := 84) rfl ?_); refine Kd.R_lit (Kd.int .i64) _ 2 ?hg (N := 84) ?hd (xs := ([x16_2, rd x965002_2 x14_64] : List Int)) (inner := [.int .i64 x16_2, .int .i64 (rd x965002_2 x14_64)]) (ok := fun _ => True) (okp := fun _ => True) ?hr ?hp (fun _ hk => hk) trivial (Below.refl _ _) (Nat.le_refl _) (by simp) ?_; (case hd => rfl); (case hg => rfl); (case hr => first | (go_simp; done) | (go_simp; rfl)); (case hp => exact (Reps.one (show Kd.M (Kd.int .i64) _ _ _ x16_2 [.int .i64 x16_2] from rfl) (Reps.one (show Kd.M (Kd.int .i64) _ _ _ (rd x965002_2 x14_64) [.int .i64 (rd x965002_2 x14_64)] from rfl) (Reps.none _ _)))); intro v975 w111 ho112 hb hg_ hnew_; clear hg_ hnew_; (first | rw [← Ny974.out] at ho112 | (simp only [Int.reduceToNat] at ho112; rw [← Ny974.out] at ho112)); have n0_ := Aside0.mk (Kd.S_elder' (so_ HO_12.out) (Kd.R_base ho112) hb); have n1_ := Aside0.mk (Kd.S_elder' (so_ HO_965000.out) (Kd.R_base ho112) hb); have n2_ := Aside0.mk (Kd.R_elder' (ro_ HO_965002.out) (Kd.R_base ho112) hb); have n3_ := Aside0.mk (Kd.R_lower (Kd.R_new' ho112 (Kd.R_lt (ro_ HO_965002.out))) bz_); have n4_ := Aside0.mk (bb_ BK952.out hb); have n5_ := Aside0.mk (bb_ BK953.out hb); have n6_ := Aside0.mk (bb_ BK964.out hb); have n7_ := Aside0.mk (bs_ hb); clear HO_12; clear HO_965000; clear HO_965002; clear BK952; clear BK953; clear BK964; clear HB; have HO_12 := n0_; have HO_965000 := n1_; have HO_965002 := n2_; have HO976 := n3_; have BK952 := n4_; have BK953 := n5_; have BK964 := n6_; have HB := n7_; clear n0_ n1_ n2_ n3_ n4_ n5_ n6_ n7_; clear hb ho112; obtain ⟨Ao114, co114, eo114⟩ := Kd.R_slice HO976.out; subst eo114) | ((with_reducible refine gate_builtin (b := .append) (xs := #[.tmp 81, .tmp 85]) rfl ?_); at_builtin; refine Kd.S_append (Kd.slice 2 (Kd.int .i64)) (w0 := w) w.heap.size rfl (.tmp 81) (.tmp 85) 22 23 (.slice none 0 0) 24 rfl Try.underlying22 info23 rfl (by decide) (by omega) (.slice Ao66 x12_2.length co66) x12_2 y974 [.slice Ao114 y974.length co114] (fun k_ => some k_ ≠ (u965000 : Value).ownBlock ∧ some k_ ≠ (.slice (some ad973) x965002_2.length co110 : Value).ownBlock) (fun k_ => some k_ = (.slice Ao114 y974.length co114 : Value).ownBlock) rfl rfl ?aP (fun k_ hk_ => ((Kd.R_mono (ok' := fun k_ => ((fun k_ => some k_ ≠ (u965000 : Value).ownBlock ∧ some k_ ≠ (.slice (some ad973) x965002_2.length co110 : Value).ownBlock)) k_ ∧ some k_ ≠ (.slice Ao66 x12_2.length co66 : Value).ownBlock) (Kd.R_apart' (Kd.R_apart' (HO976.out) (Kd.S_typed HO_965000.out) (by decide)) (Kd.S_typed HO_12.out) (by decide)) (fun k_ hk => ⟨⟨hk.1.2, hk.1.1.2⟩, hk.2⟩))).1 k_ hk_.symm) ?aF ?aO ?aB ?aS ?aL ?_; (case aP => exact Kd.M_row (Kd.R_mono (Kd.R_tight rfl (Kd.R_mono (ok' := fun k_ => ((fun k_ => some k_ ≠ (u965000 : Value).ownBlock ∧ some k_ ≠ (.slice (some ad973) x965002_2.length co110 : Value).ownBlock)) k_ ∧ some k_ ≠ (.slice Ao66 x12_2.length co66 : Value).ownBlock) (Kd.R_apart' (Kd.R_apart' (HO976.out) (Kd.S_typed HO_965000.out) (by decide)) (Kd.S_typed HO_12.out) (by decide)) (fun k_ hk => ⟨⟨hk.1.2, hk.1.1.2⟩, hk.2⟩))) (fun _ h_ => h_))); (case aB => exact hb_); (case aF => exact (fun k_ hk => ⟨Kd.fresh' (Kd.S_lt (so_ HO_965000.out)) k_ hk, Kd.fresh' (Kd.R_lt (ro_ HO_965002.out)) k_ hk⟩)); (case aO => exact (by (with_reducible repeat (first | apply Kd.S_alloc | apply Kd.S_drewN | apply Kd.S_drew)); exact Kd.S_mono HO_12.out (fun k_ hk => ⟨⟨hk.1.1, hk.1.2⟩, fun e_ => hk.2 e_⟩))); (case aS => exact bz_); (case aL => have := LMc87.out; omega); intro v978 w113 ho hb hg hat; rw [← Ny977.out] at ho; have n0_ := Aside0.mk (Kd.S_after (ok := (fun k_ => some k_ ≠ (.slice (some ad973) x965002_2.length co110 : Value).ownBlock ∧ some k_ ≠ (.slice Ao114 y974.length co114 : Value).ownBlock)) (by (with_reducible repeat (first | apply Kd.S_alloc | apply Kd.S_drewN | apply Kd.S_drew)); exact Kd.S_mono HO_965000.out (fun _ hk => ⟨⟨hk.1.2, hk.2⟩, hk.1.1⟩)) hg hat); have n1_ := Aside0.mk (Kd.R_over' (ro_ HO_965002.out) (Kd.S_typed (so_ HO_12.out)) (by decide) hg); have n2_ := Aside0.mk (bg_ BK952.out hg (Kd.S_ne HO_12.out BK952.out (by decide))); have n3_ := Aside0.mk (bg_ BK953.out hg (Kd.S_ne HO_12.out BK953.out (by decide))); have n4_ := Aside0.mk (bg_ BK964.out hg (Kd.S_ne HO_12.out BK964.out (by decide))); have n5_ := Aside0.mk (hb); have n6_ := Aside0.mk (ho); clear HO_965000; clear HO_965002; clear BK952; clear BK953; clear BK964; clear HB; clear HO_12; clear HO976; have HO_965000 := n0_; have HO_965002 := n1_; have BK952 := n2_; have BK953 := n3_; have BK964 := n4_; have HB := n5_; have HO979 := n6_; clear n0_ n1_ n2_ n3_ n4_ n5_ n6_; clear ho hb hg hat; have hcz115_0 : w113.cell? ⟨gb964, 0, none⟩ = some (u965000) := (blk_cell BK964.out 0).trans rfl; have hcz115_1 : w113.cell? ⟨gb964, 1, none⟩ = some (.int .i64 x965001_2) := (blk_cell BK964.out 1).trans rfl; have hcz115_2 : w113.cell? ⟨gb964, 2, none⟩ = some (.slice (some ad973) x965002_2.length co110) := (blk_cell BK964.out 2).trans rfl; have hfz115_0 := blk_frozen BK964.out 0; have hfz115_1 := blk_frozen BK964.out 1; have hfz115_2 := blk_frozen BK964.out 2; obtain ⟨Ao116, co116, eo116⟩ := Kd.S_slice HO_965000.out; subst eo116) | ((with_reducible refine gate_callee (f := 119) rfl ?_); refine gL_ 90 Try.func119 #[.agg #[.slice Ao116 x965000_2.length co116, .int .i64 x965001_2, .slice (some ad973) x965002_2.length co110], .int .i64 x14_64, .int .i64 x16_2] ?_; (with_reducible refine (spec_l05Pivot.calls _ _ x965000_2 x965001_2 _ _ x965002_2 x14_64 x16_2 t980 t983 t984 _ ?side1 ?side2 ?side3 ?side4 A88.out).mono ?_); (case side1 => repeat (first | exact (Kd.S_reads' HO_965000.out).2.2 | (with_reducible refine Kd.C_alloc ?_ _) | (with_reducible refine Kd.C_drewN ?_ _) | (with_reducible refine Kd.C_drew ?_))); (case side2 => exact (Kd.S_reads' HO_965000.out).2.1); (case side3 => repeat (first | exact (Kd.R_reads' HO_965002.out).2.2 | (with_reducible refine Kd.C_alloc ?_ _) | (with_reducible refine Kd.C_drewN ?_ _) | (with_reducible refine Kd.C_drew ?_))); (case side4 => exact (Kd.R_reads' HO_965002.out).2.1); rintro e w117 ⟨v981, v985, rfl, ho0, ho1, hb⟩; refine ⟨_, rfl, ?_⟩; have n0_ := Aside0.mk (Kd.S_mono (Kd.S_told (Kd.S_told (Kd.S_old (so_ HO_965000.out) hb) (Kd.S_base ho0)) (Kd.R_base ho1)) (fun _ h_ => h_.1)); have n1_ := Aside0.mk (Kd.R_elder' (ro_ HO_965002.out) (Kd.R_base ho1) hb); have n2_ := Aside0.mk (Kd.S_mono (Kd.S_told (Kd.S_told (Kd.S_old (so_ HO979.out) hb) (Kd.S_base ho0)) (Kd.R_base ho1)) (fun _ h_ => h_.1)); have n3_ := Aside0.mk (Kd.S_lower (Kd.S_new' (Kd.S_new' (Kd.S_new' ho0 (Kd.S_lt (so_ HO_965000.out))) (Kd.R_lt (ro_ HO_965002.out))) (Kd.S_lt (so_ HO979.out))) bz_); have n4_ := Aside0.mk (Kd.R_lower (Kd.R_new' ho1 (Kd.R_lt (ro_ HO_965002.out))) bz_); have n5_ := Aside0.mk (bb_ BK952.out hb); have n6_ := Aside0.mk (bb_ BK953.out hb); have n7_ := Aside0.mk (bb_ BK964.out hb); have n8_ := Aside0.mk (bs_ hb); clear HO_965000; clear HO_965002; clear HO979; clear BK952; clear BK953; clear BK964; clear HB; have HO_965000 := n0_; have HO_965002 := n1_; have HO979 := n2_; have HO982 := n3_; have HO986 := n4_; have BK952 := n5_; have BK953 := n6_; have BK964 := n7_; have HB := n8_; clear n0_ n1_ n2_ n3_ n4_ n5_ n6_ n7_ n8_; (try clear hb); (try clear hb2); (try clear hk); (try clear hi); (try clear ho0); (try clear ho1); obtain ⟨Ao118, co118, eo118⟩ := Kd.S_slice HO982.out; subst eo118; have hcz119_0 : w117.cell? ⟨gb964, 0, none⟩ = some (.slice Ao116 x965000_2.length co116) := (blk_cell BK964.out 0).trans rfl; have hcz119_1 : w117.cell? ⟨gb964, 1, none⟩ = some (.int .i64 x965001_2) := (blk_cell BK964.out 1).trans rfl; have hcz119_2 : w117.cell? ⟨gb964, 2, none⟩ = some (.slice (some ad973) x965002_2.length co110) := (blk_cell BK964.out 2).trans rfl; have hfz119_0 := blk_frozen BK964.out 0; have hfz119_1 := blk_frozen BK964.out 1; have hfz119_2 := blk_frozen BK964.out 2; obtain ⟨Ao120, co120, eo120⟩ := Kd.R_slice HO986.out; subst eo120) | ((with_reducible refine gate_callee (f := 120) rfl ?_); refine gL_ 99 Try.func120 #[.int .i64 (rd x965002_2 x14_64), .int .i64 (l0_1.length : Int)] ?_; (with_reducible refine (spec_l05Partner.calls (rd x965002_2 x14_64) (l0_1.length : Int) t987 _ A106.out).mono ?_); rintro e w' ⟨rfl, ⟨nd, rfl⟩⟩; refine ⟨_, rfl, ?_⟩))
              go_roundg kj64
              case measure => have := HK1.out; have := HK2.out; have := HJ64.out; omega
              case rel => exact ⟨(y977), (x14_64), (t987), (x954001_64), (t980), (t983), (t984), (.slice Ao118 t980.length co118), (.slice Ao120 t984.length co120), rs_, rs_, H', ⟨by have := HK1.out; have := HK2.out; have := HJ64.out; omega⟩, ⟨by (with_reducible repeat (first | apply Kd.S_alloc | apply Kd.S_drewN | apply Kd.S_drew)); exact Kd.S_mono (Kd.S_far (p := ⟨gb964, 2, none⟩) (Kd.S_far (p := ⟨gb964, 1, none⟩) (Kd.S_far (p := ⟨gb964, 0, none⟩) (Kd.S_types HO979.out BK964.out (by decide)) (fun _ hk => hk.2) (.slice Ao118 t980.length co118)) (fun _ hk => hk.2) (.int .i64 t983)) (fun _ hk => hk.2) (.slice Ao120 t984.length co120)) (fun _ hk => ⟨hk.1.1.2, hk.1.2⟩)⟩, ⟨by (with_reducible repeat (first | apply Kd.S_alloc | apply Kd.S_drewN | apply Kd.S_drew)); exact Kd.S_mono (Kd.S_far (p := ⟨gb964, 2, none⟩) (Kd.S_far (p := ⟨gb964, 1, none⟩) (Kd.S_far (p := ⟨gb964, 0, none⟩) (Kd.S_types HO982.out BK964.out (by decide)) (fun _ hk => hk.2) (.slice Ao118 t980.length co118)) (fun _ hk => hk.2) (.int .i64 t983)) (fun _ hk => hk.2) (.slice Ao120 t984.length co120)) (fun _ hk => ⟨hk.1.2, hk.1.1.1.1⟩)⟩, ⟨by (with_reducible repeat (first | apply Kd.R_alloc | apply Kd.R_drewN | apply Kd.R_drew)); exact Kd.R_mono (Kd.R_far (p := ⟨gb964, 2, none⟩) (Kd.R_far (p := ⟨gb964, 1, none⟩) (Kd.R_far (p := ⟨gb964, 0, none⟩) (Kd.R_types HO986.out BK964.out (by decide)) (fun _ hk => hk.2) (.slice Ao118 t980.length co118)) (fun _ hk => hk.2) (.int .i64 t983)) (fun _ hk => hk.2) (.slice Ao120 t984.length co120)) (fun _ hk => trivial)⟩, ⟨by (with_reducible repeat (first | refine blk_drewN ?_ _ | refine blk_drew ?_ | refine blk_alloc ?_ _)); refine blk_far ?_ NB952_964.out _; (with_reducible repeat (first | refine blk_drewN ?_ _ | refine blk_drew ?_ | refine blk_alloc ?_ _)); refine blk_far ?_ NB952_964.out _; (with_reducible repeat (first | refine blk_drewN ?_ _ | refine blk_drew ?_ | refine blk_alloc ?_ _)); refine blk_far ?_ NB952_964.out _; (with_reducible repeat (first | refine blk_drewN ?_ _ | refine blk_drew ?_ | refine blk_alloc ?_ _)); exact BK952.out⟩, ⟨by (with_reducible repeat (first | refine blk_drewN ?_ _ | refine blk_drew ?_ | refine blk_alloc ?_ _)); refine blk_far ?_ NB953_964.out _; (with_reducible repeat (first | refine blk_drewN ?_ _ | refine blk_drew ?_ | refine blk_alloc ?_ _)); refine blk_far ?_ NB953_964.out _; (with_reducible repeat (first | refine blk_drewN ?_ _ | refine blk_drew ?_ | refine blk_alloc ?_ _)); refine blk_far ?_ NB953_964.out _; (with_reducible repeat (first | refine blk_drewN ?_ _ | refine blk_drew ?_ | refine blk_alloc ?_ _)); exact BK953.out⟩, ⟨by (with_reducible repeat (first | refine blk_drewN ?_ _ | refine blk_drew ?_ | refine blk_alloc ?_ _)); refine blk_put (cs := #[.slice Ao118 t980.length co118, .int .i64 t983, .slice (some ad973) x965002_2.length co110]) ?_ 2 _ rfl; (with_reducible repeat (first | refine blk_drewN ?_ _ | refine blk_drew ?_ | refine blk_alloc ?_ _)); refine blk_put (cs := #[.slice Ao118 t980.length co118, .int .i64 x965001_2, .slice (some ad973) x965002_2.length co110]) ?_ 1 _ rfl; (with_reducible repeat (first | refine blk_drewN ?_ _ | refine blk_drew ?_ | refine blk_alloc ?_ _)); refine blk_put (cs := #[.slice Ao116 x965000_2.length co116, .int .i64 x965001_2, .slice (some ad973) x965002_2.length co110]) ?_ 0 _ rfl; (with_reducible repeat (first | refine blk_drewN ?_ _ | refine blk_drew ?_ | refine blk_alloc ?_ _)); exact BK964.out⟩, ⟨hb_⟩⟩
            ·rw [if_neg c87] at H
             exact absurd H (by simp)
           ·rw [if_neg c86] at H
            exact absurd H (by simp)
          ·rw [if_neg c85] at H
           exact absurd H (by simp)
       ·rw [if_neg c64] at H
        have c64b0 : decide ((x12_2.length : Int) < a2) = false := decide_eq_false c64
        clear c64
        simp only [Option.some.injEq, Prod.mk.injEq] at H
        obtain ⟨rfl, rfl, rfl, rfl, rfl, rfl⟩ := H
        obtain ⟨Ao121, co121, eo121⟩ := Kd.S_slice HO_12.out
        subst eo121
        have hnb122 := NB964_952.out
        have hnc122 := NB952_964.out
        have hnb123 := NB964_953.out
        have hnc123 := NB953_964.out
        have hcz124_0 : wr.cell? ⟨gb964, 0, none⟩ = some (u965000) := (blk_cell BK964.out 0).trans rfl
        have hcz124_1 : wr.cell? ⟨gb964, 1, none⟩ = some (.int .i64 x965001_2) := (blk_cell BK964.out 1).trans rfl
        have hcz124_2 : wr.cell? ⟨gb964, 2, none⟩ = some (u965002) := (blk_cell BK964.out 2).trans rfl
        have hfz124_0 := blk_frozen BK964.out 0
        have hfz124_1 := blk_frozen BK964.out 1
        have hfz124_2 := blk_frozen BK964.out 2
        obtain ⟨Ao125, co125, eo125⟩ := Kd.S_slice HO_965000.out
        subst eo125
        have hnb126 := NB953_952.out
        have hnc126 := NB952_953.out
        have hcz127_0 : wr.cell? ⟨gb953, 0, none⟩ = some (.slice none 0 0) := (blk_cell BK953.out 0).trans rfl
        have hcz127_1 : wr.cell? ⟨gb953, 1, none⟩ = some (.int .i64 x954001_2) := (blk_cell BK953.out 1).trans rfl
        have hcz127_2 : wr.cell? ⟨gb953, 2, none⟩ = some (.slice none 0 0) := (blk_cell BK953.out 2).trans rfl
        have hfz127_0 := blk_frozen BK953.out 0
        have hfz127_1 := blk_frozen BK953.out 1
        have hfz127_2 := blk_frozen BK953.out 2
        obtain ⟨Ao128, co128, eo128⟩ := Kd.R_slice HO_965002.out
        subst eo128
        go_wp2
        refine bodyPost_ret (results_list (rs := [.cell 6 101, .tmp 7, .tmp 8, .tmp 9]) rfl (by simp) (.cell gb953 101 #[.slice Ao125 x965000_2.length co125, .int .i64 x965001_2, .slice Ao128 x965002_2.length co128] (0, 0) _ rfl (by (with_reducible repeat (first | refine blk_drewN ?_ _ | refine blk_drew ?_ | refine blk_alloc ?_ _)); refine blk_put (cs := #[.slice Ao125 x965000_2.length co125, .int .i64 x965001_2, .slice none 0 0]) ?_ 2 _ rfl; (with_reducible repeat (first | refine blk_drewN ?_ _ | refine blk_drew ?_ | refine blk_alloc ?_ _)); refine blk_put (cs := #[.slice Ao125 x965000_2.length co125, .int .i64 x954001_2, .slice none 0 0]) ?_ 1 _ rfl; (with_reducible repeat (first | refine blk_drewN ?_ _ | refine blk_drew ?_ | refine blk_alloc ?_ _)); refine blk_put (cs := #[.slice none 0 0, .int .i64 x954001_2, .slice none 0 0]) ?_ 0 _ rfl; (with_reducible repeat (first | refine blk_drewN ?_ _ | refine blk_drew ?_ | refine blk_alloc ?_ _)); exact BK953.out) Try.underlying101 rfl (by kernel_rfl) (.tmp (.tmp (.tmp .nil))))) rfl ?_
        exact ⟨_, _, _, by first | rfl | (simp [errW_none, errW_some] <;> rfl) | (simp [*, errW_none, errW_some] <;> rfl), by (with_reducible repeat (first | apply Kd.S_alloc | apply Kd.S_drewN | apply Kd.S_drew)); exact Kd.S_mono (Kd.S_far (p := ⟨gb953, 2, none⟩) (Kd.S_far (p := ⟨gb953, 1, none⟩) (Kd.S_far (p := ⟨gb953, 0, none⟩) (Kd.S_types HO_965000.out BK953.out (by decide)) (fun _ hk => hk.2) (.slice Ao125 x965000_2.length co125)) (fun _ hk => hk.2) (.int .i64 x965001_2)) (fun _ hk => hk.2) (.slice Ao128 x965002_2.length co128)) (fun _ hk => ⟨hk.1.2, hk.1.1⟩), by (with_reducible repeat (first | apply Kd.R_alloc | apply Kd.R_drewN | apply Kd.R_drew)); exact Kd.R_mono (Kd.R_far (p := ⟨gb953, 2, none⟩) (Kd.R_far (p := ⟨gb953, 1, none⟩) (Kd.R_far (p := ⟨gb953, 0, none⟩) (Kd.R_types HO_965002.out BK953.out (by decide)) (fun _ hk => hk.2) (.slice Ao125 x965000_2.length co125)) (fun _ hk => hk.2) (.int .i64 x965001_2)) (fun _ hk => hk.2) (.slice Ao128 x965002_2.length co128)) (fun _ hk => trivial), by (with_reducible repeat (first | apply Kd.S_alloc | apply Kd.S_drewN | apply Kd.S_drew)); exact Kd.S_mono (Kd.S_far (p := ⟨gb953, 2, none⟩) (Kd.S_far (p := ⟨gb953, 1, none⟩) (Kd.S_far (p := ⟨gb953, 0, none⟩) (Kd.S_types HO_12.out BK953.out (by decide)) (fun _ hk => hk.2) (.slice Ao125 x965000_2.length co125)) (fun _ hk => hk.2) (.int .i64 x965001_2)) (fun _ hk => hk.2) (.slice Ao128 x965002_2.length co128)) (fun _ hk => ⟨hk.1.1, hk.1.2⟩), hb_⟩
    ·replace c60 := Bool.eq_false_iff.mpr c60
     subst c60
     have H1 : (some (t954, t957, t958, y961, (-1), true)) = some (r1, r2, r3, r4, r5, r6) := by rw [if_neg (show ¬ (false = true) by decide)] at H; exact H
     clear H
     have H := H1
     clear H1
     simp only [Option.some.injEq, Prod.mk.injEq] at H
     obtain ⟨rfl, rfl, rfl, rfl, rfl, rfl⟩ := H
     have hnb129 := NB952_953.out
     have hnc129 := NB953_952.out
     have hnb130 := NB952_964.out
     have hnc130 := NB964_952.out
     have hcz131_0 : wr.cell? ⟨gb952, 0, none⟩ = some (.slice A0_0 l0_0.length c0_0) := (blk_cell BK952.out 0).trans rfl
     have hcz131_1 : wr.cell? ⟨gb952, 1, none⟩ = some (.slice A0_1 l0_1.length c0_1) := (blk_cell BK952.out 1).trans rfl
     have hfz131_0 := blk_frozen BK952.out 0
     have hfz131_1 := blk_frozen BK952.out 1
     have hnb132 := NB964_953.out
     have hnc132 := NB953_964.out
     have hcz133_0 : wr.cell? ⟨gb964, 0, none⟩ = some (v955) := (blk_cell BK964.out 0).trans rfl
     have hcz133_1 : wr.cell? ⟨gb964, 1, none⟩ = some (.int .i64 t957) := (blk_cell BK964.out 1).trans rfl
     have hcz133_2 : wr.cell? ⟨gb964, 2, none⟩ = some (v959) := (blk_cell BK964.out 2).trans rfl
     have hfz133_0 := blk_frozen BK964.out 0
     have hfz133_1 := blk_frozen BK964.out 1
     have hfz133_2 := blk_frozen BK964.out 2
     obtain ⟨Ao134, co134, eo134⟩ := Kd.S_slice HO_965000.out
     subst eo134
     have hcz135_0 : wr.cell? ⟨gb953, 0, none⟩ = some (.slice none 0 0) := (blk_cell BK953.out 0).trans rfl
     have hcz135_1 : wr.cell? ⟨gb953, 1, none⟩ = some (.int .i64 0) := (blk_cell BK953.out 1).trans rfl
     have hcz135_2 : wr.cell? ⟨gb953, 2, none⟩ = some (.slice none 0 0) := (blk_cell BK953.out 2).trans rfl
     have hfz135_0 := blk_frozen BK953.out 0
     have hfz135_1 := blk_frozen BK953.out 1
     have hfz135_2 := blk_frozen BK953.out 2
     obtain ⟨Ao136, co136, eo136⟩ := Kd.R_slice HO_965002.out
     subst eo136
     go_wp2
     refine bodyPost_ret (results_list (rs := [.cell 6 101, .tmp 7, .tmp 8, .tmp 9]) rfl (by simp) (.cell gb953 101 #[.slice Ao134 t954.length co134, .int .i64 t957, .slice Ao136 t958.length co136] (0, 0) _ rfl (by (with_reducible repeat (first | refine blk_drewN ?_ _ | refine blk_drew ?_ | refine blk_alloc ?_ _)); refine blk_put (cs := #[.slice Ao134 t954.length co134, .int .i64 t957, .slice none 0 0]) ?_ 2 _ rfl; (with_reducible repeat (first | refine blk_drewN ?_ _ | refine blk_drew ?_ | refine blk_alloc ?_ _)); refine blk_put (cs := #[.slice Ao134 t954.length co134, .int .i64 0, .slice none 0 0]) ?_ 1 _ rfl; (with_reducible repeat (first | refine blk_drewN ?_ _ | refine blk_drew ?_ | refine blk_alloc ?_ _)); refine blk_put (cs := #[.slice none 0 0, .int .i64 0, .slice none 0 0]) ?_ 0 _ rfl; (with_reducible repeat (first | refine blk_drewN ?_ _ | refine blk_drew ?_ | refine blk_alloc ?_ _)); exact BK953.out) Try.underlying101 rfl (by kernel_rfl) (.tmp (.tmp (.tmp .nil))))) rfl ?_
     exact ⟨_, _, _, by first | rfl | (simp [errW_none, errW_some] <;> rfl) | (simp [*, errW_none, errW_some] <;> rfl), by (with_reducible repeat (first | apply Kd.S_alloc | apply Kd.S_drewN | apply Kd.S_drew)); exact Kd.S_mono (Kd.S_far (p := ⟨gb953, 2, none⟩) (Kd.S_far (p := ⟨gb953, 1, none⟩) (Kd.S_far (p := ⟨gb953, 0, none⟩) (Kd.S_types HO_965000.out BK953.out (by decide)) (fun _ hk => hk.2) (.slice Ao134 t954.length co134)) (fun _ hk => hk.2) (.int .i64 t957)) (fun _ hk => hk.2) (.slice Ao136 t958.length co136)) (fun _ hk => ⟨hk.1.2, hk.1.1⟩), by (with_reducible repeat (first | apply Kd.R_alloc | apply Kd.R_drewN | apply Kd.R_drew)); exact Kd.R_mono (Kd.R_far (p := ⟨gb953, 2, none⟩) (Kd.R_far (p := ⟨gb953, 1, none⟩) (Kd.R_far (p := ⟨gb953, 0, none⟩) (Kd.R_types HO_965002.out BK953.out (by decide)) (fun _ hk => hk.2) (.slice Ao134 t954.length co134)) (fun _ hk => hk.2) (.int .i64 t957)) (fun _ hk => hk.2) (.slice Ao136 t958.length co136)) (fun _ hk => trivial), by (with_reducible repeat (first | apply Kd.S_alloc | apply Kd.S_drewN | apply Kd.S_drew)); exact Kd.S_mono (Kd.S_far (p := ⟨gb953, 2, none⟩) (Kd.S_far (p := ⟨gb953, 1, none⟩) (Kd.S_far (p := ⟨gb953, 0, none⟩) (Kd.S_types HO_12.out BK953.out (by decide)) (fun _ hk => hk.2) (.slice Ao134 t954.length co134)) (fun _ hk => hk.2) (.int .i64 t957)) (fun _ hk => hk.2) (.slice Ao136 t958.length co136)) (fun _ hk => ⟨hk.1.1, hk.1.2⟩), hb_⟩
end Go.Proofs.Ythdoilfjcgickaa.Pr
end
