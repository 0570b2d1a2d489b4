/- Texts of one claim (the words of the kit's print that the claim uses, printed functions, and this session's own texts), joined in the order of their imports by this session's own program (merge.py). -/
import Derived.Test.YthdoilfjcgickaaRows
import Derived.WalkKit
import Derived.ProofKit
import Derived.OpenShut
import Derived.ShutString
import Derived.ChangeOld
import Derived.Below
import Derived.SizedLaws
import Derived.Test.YthdoilfjcgickaaJnFnExactLemkeRay0
import Derived.Test.YthdoilfjcgickaaJnFnExactLemkeRay1
import Derived.Test.YthdoilfjcgickaaJnFnExactLemkeRay2
import Derived.Test.YthdoilfjcgickaaJnFnExactLemkeRay3
import Derived.Test.YthdoilfjcgickaaJnFnExactLemkeRay4
set_option linter.unusedVariables false
set_option linter.unusedSimpArgs false
set_option maxHeartbeats 8000000
set_option maxRecDepth 100000
section
namespace Go.Proofs.Ythdoilfjcgickaa.Pr
open Go.RowKit Go.Proofs.YthdoilfjcgickaaW.PrintWords Go.Proofs.YthdoilfjcgickaaW.PrintLast Go.Proofs.YthdoilfjcgickaaW.PrintMore
attribute [local go_sem] max2_int min2_int max_two min_two max_three min_three max_four min_four
def laws_heldInt64SS.l0 : Nat → List (List Int) → Int → Int → Option (Int)
 | 0, _, _, _ => none
 | k + 1, x0, x1, x5 => if x5 < (x0.length : Int) then (if 0 ≤ x5 then ((laws_heldInt64S.f k (rd_L1 x0 x5) x1).bind fun t150 => (if t150 < 0 then (some (-1)) else (laws_heldInt64SS.l0 k x0 t150 (wrap64 (x5 + 1))))) else (none)) else (some x1)
def laws_heldInt64SS.f (k : Nat) (l0 : List (List Int)) (a1 : Int) : Option (Int) := laws_heldInt64SS.l0 k l0 a1 0
theorem laws_heldInt64SS.mono_l : ∀ k, (∀ y0 y1 y2, LeO (laws_heldInt64SS.l0 k y0 y1 y2) (laws_heldInt64SS.l0 (k + 1) y0 y1 y2))
 | 0 => fun _ _ _ r h => by simp [laws_heldInt64SS.l0] at h
 | k + 1 => by
  have ih0 := laws_heldInt64SS.mono_l k
  ·intro y0 y1 y2
   unfold laws_heldInt64SS.l0
   repeat' first
   | (with_reducible exact ih0 _ _ _)
   | (with_reducible exact laws_heldInt64S.mono _ _ _)
   | (with_reducible exact LeO.refl _)
   | (with_reducible exact LeO.none _)
   | (with_reducible refine LeO.ite ?_ ?_)
   | (with_reducible refine LeO.bind ?_ (fun _ => ?_))
   | exact ih0 _ _ _
   | exact laws_heldInt64S.mono _ _ _
   | exact LeO.none _
   | refine LeO.ite ?_ ?_
   | refine LeO.bind ?_ (fun _ => ?_)
theorem laws_heldInt64SS.mono : ∀ a0 a1 k, LeO (laws_heldInt64SS.f k a0 a1) (laws_heldInt64SS.f (k + 1) a0 a1) := by
 intro a0 a1 k
 have ih0 := laws_heldInt64SS.mono_l k
 unfold laws_heldInt64SS.f
 repeat' first
   | (with_reducible exact ih0 _ _ _)
   | (with_reducible exact laws_heldInt64S.mono _ _ _)
   | (with_reducible exact LeO.refl _)
   | (with_reducible exact LeO.none _)
   | (with_reducible refine LeO.ite ?_ ?_)
   | (with_reducible refine LeO.bind ?_ (fun _ => ?_))
   | exact ih0 _ _ _
   | exact laws_heldInt64S.mono _ _ _
   | exact LeO.none _
   | refine LeO.ite ?_ ?_
   | refine LeO.bind ?_ (fun _ => ?_)
theorem laws_heldInt64SS.calls (k : Nat) (A0 : Option Addr) (c0 : Nat) (l0 : List (List Int)) (a1 : Int) (r : Int) (w : World) (hr0 : Kd.C (Kd.slice 2 (Kd.int .i64)) w A0 l0.length l0) (hc0 : l0.length ≤ c0) (h : laws_heldInt64SS.f k l0 a1 = some r) :
  Calls Try.prog 23 #[.slice A0 l0.length c0, .int .i64 a1] w fun e w' => e = .returned (.int .i64 r) ∧ Drawn0 w w' := by
 have HR0 := Aside0.mk hr0
 have HC0 := Aside0.mk hc0
 clear hr0 hc0
 have H : (laws_heldInt64SS.l0 k l0 a1 0) = some r := h
 clear h
 have H' := Aside0.mk H
 clear H
 go_enter Try.func23, Try.ntmps23
 go_wp2
 go_loopg [1, 5] k (fun kq v1 v5 w' => ∃ (x1_1 : Int) (x5_1 : Int), v1 = .int .i64 x1_1 ∧ v5 = .int .i64 x5_1 ∧ Aside0 (laws_heldInt64SS.l0 kq l0 x1_1 x5_1 = some r) ∧ Aside0 (kq ≤ k) ∧ Drawn0 w w')
 case atStart => exact ⟨(a1), (0), rs_, rs_, H', ⟨Nat.le_refl _⟩, by repeat (first | exact Drawn0.refl _ | apply Drawn0.step)⟩
 case round =>
  clear H'
  try clear c2
  try clear p2
  obtain ⟨x1_1, x5_1, rfl, rfl, HA, HK1, ⟨m1, rfl⟩⟩ := hrel
  cases gk with
  | zero => exact absurd HA.out (by simp [laws_heldInt64SS.l0])
  | succ k1 =>
   have H := HA.out
   clear HA
   simp only [laws_heldInt64SS.l0] at H
   by_cases c3 : x5_1 < (l0.length : Int)
   ·rw [if_pos c3] at H
    have c3b0 : decide (x5_1 < (l0.length : Int)) = true := decide_eq_true c3
    clear c3
    by_cases c4 : 0 ≤ x5_1
    ·rw [if_pos c4] at H
     have c4b0 : decide (0 ≤ x5_1) = true := decide_eq_true c4
     clear c4
     replace H := Option.bind_eq_some_iff.mp H
     obtain ⟨t150, A50, H⟩ := H
     replace H : (if t150 < 0 then (some (-1)) else (laws_heldInt64SS.l0 k1 l0 t150 (wrap64 (x5_1 + 1)))) = some r := H
     have A5 := Aside0.mk A50
     clear A50
     by_cases c6 : t150 < 0
     ·rw [if_pos c6] at H
      have c6b0 : decide (t150 < 0) = true := decide_eq_true c6
      clear c6
      obtain rfl := Option.some.inj H
      have p149 : 0 ≤ (x5_1 : Int) := od_
      have q149 : x5_1 < (l0.length : Int) := od_
      obtain ⟨ad149, A149_0, c149_0, e149, hx149_0, hl149_0, hi149_0⟩ := at_L1 HR0.out x5_1 p149 q149
      cases e149
      have HR149_0 := Aside0.mk hi149_0
      have HC149_0 := Aside0.mk hl149_0
      clear hi149_0 hl149_0
      replace p149 := eq_true p149
      replace q149 := eq_true q149
      go_wp2_with (first | ((with_reducible refine gate_callee (f := 37) rfl ?_); refine gL_ 17 Try.func37 #[.slice A149_0 (rd_L1 l0 x5_1).length c149_0, .int .i64 x1_1] ?_; (with_reducible refine (laws_heldInt64S.calls k1 _ _ (rd_L1 l0 x5_1) x1_1 t150 _ ?side1 ?side2 A5.out).mono ?_); (case side1 => repeat (first | exact HR149_0.out | (with_reducible refine Kd.C_alloc ?_ _) | (with_reducible refine Kd.C_drewN ?_ _) | (with_reducible refine Kd.C_drew ?_))); (case side2 => exact HC149_0.out); rintro e w' ⟨rfl, ⟨nd, rfl⟩⟩; refine ⟨_, rfl, ?_⟩))
      go_ret
      exact ⟨by first | rfl | (simp; done) | (simp [*]; done), by repeat (first | exact Drawn0.refl _ | apply Drawn0.step)⟩
     ·rw [if_neg c6] at H
      have c6b0 : decide (t150 < 0) = false := decide_eq_false c6
      clear c6
      have H' := Aside0.mk H
      clear H
      have p149 : 0 ≤ (x5_1 : Int) := od_
      have q149 : x5_1 < (l0.length : Int) := od_
      obtain ⟨ad149, A149_0, c149_0, e149, hx149_0, hl149_0, hi149_0⟩ := at_L1 HR0.out x5_1 p149 q149
      cases e149
      have HR149_0 := Aside0.mk hi149_0
      have HC149_0 := Aside0.mk hl149_0
      clear hi149_0 hl149_0
      replace p149 := eq_true p149
      replace q149 := eq_true q149
      go_wp2_with (first | ((with_reducible refine gate_callee (f := 37) rfl ?_); refine gL_ 17 Try.func37 #[.slice A149_0 (rd_L1 l0 x5_1).length c149_0, .int .i64 x1_1] ?_; (with_reducible refine (laws_heldInt64S.calls k1 _ _ (rd_L1 l0 x5_1) x1_1 t150 _ ?side1 ?side2 A5.out).mono ?_); (case side1 => repeat (first | exact HR149_0.out | (with_reducible refine Kd.C_alloc ?_ _) | (with_reducible refine Kd.C_drewN ?_ _) | (with_reducible refine Kd.C_drew ?_))); (case side2 => exact HC149_0.out); rintro e w' ⟨rfl, ⟨nd, rfl⟩⟩; refine ⟨_, rfl, ?_⟩))
      go_roundg k1
      case measure => have := HK1.out; omega
      case rel => exact ⟨(t150), (wrap64 (x5_1 + 1)), rs_, rs_, H', ⟨by have := HK1.out; omega⟩, by repeat (first | exact Drawn0.refl _ | apply Drawn0.step)⟩
    ·rw [if_neg c4] at H
     exact absurd H (by simp)
   ·rw [if_neg c3] at H
    have c3b0 : decide (x5_1 < (l0.length : Int)) = false := decide_eq_false c3
    clear c3
    obtain rfl := Option.some.inj H
    go_wp2
    go_ret
    exact ⟨by first | rfl | (simp; done) | (simp [*]; done), by repeat (first | exact Drawn0.refl _ | apply Drawn0.step)⟩
def laws_eqFrac.f (a0_0 : Int) (a0_1 : Int) (a1_0 : Int) (a1_1 : Int) : Option (Bool) := if a0_0 = a1_0 then (if a0_1 = a1_1 then (some true) else (some false)) else (some false)
theorem laws_eqFrac.calls (a0_0 : Int) (a0_1 : Int) (a1_0 : Int) (a1_1 : Int) (r : Bool) (w : World) (h : laws_eqFrac.f a0_0 a0_1 a1_0 a1_1 = some r) :
  Calls Try.prog 52 #[.agg #[.int .i64 a0_0, .int .i64 a0_1], .agg #[.int .i64 a1_0, .int .i64 a1_1]] w fun e w' => e = .returned (.bool r) ∧ Below w.heap.size w w' := by
 have hu65 := Try.underlying65
 have HB := Aside0.mk (Below.refl w.heap.size w)
 have H : (if a0_0 = a1_0 then (if a0_1 = a1_1 then (some true) else (some false)) else (some false)) = some r := h
 clear h
 by_cases c3 : a0_0 = a1_0
 ·rw [if_pos c3] at H
  have c3b0 : (a0_0 == a1_0) = true := beq_iff_eq.mpr c3
  have c3b1 : (a0_0 != a1_0) = false := bne_eq_false_iff_eq.mpr c3
  clear c3
  by_cases c4 : a0_1 = a1_1
  ·rw [if_pos c4] at H
   have c4b0 : (a0_1 == a1_1) = true := beq_iff_eq.mpr c4
   have c4b1 : (a0_1 != a1_1) = false := bne_eq_false_iff_eq.mpr c4
   clear c4
   obtain rfl := Option.some.inj H
   go_enter Try.func52, Try.ntmps52
   go_wp2_with (first | ((with_reducible refine gate_dst (N := 2) rfl ?_); refine box_event ?hg (N := 2) ?hd (cs := #[.int .i64 a0_0, .int .i64 a0_1]) (t := 65) ?hr ?_; (case hd => rfl); (case hg => rfl); (case hr => first | (go_simp; done) | (go_simp; rfl)); intro gb154 hg w5 hbox hb; have n0_ := Aside0.mk (bs_ hb); have n1_ := Aside0.mk (hbox); have n2_ := Aside0.mk ((by rw [hg]; exact bz_ : w.heap.size ≤ gb154)); have n3_ := Aside0.mk ((by rw [hg]; exact bz_ : w.heap.size ≤ gb154)); clear HB; have HB := n0_; have BK154 := n1_; have GW154 := n2_; have GE154 := n3_; clear n0_ n1_ n2_ n3_; clear hb hbox hg) | ((with_reducible refine gate_dst (N := 3) rfl ?_); refine box_event ?hg (N := 3) ?hd (cs := #[.int .i64 a1_0, .int .i64 a1_1]) (t := 65) ?hr ?_; (case hd => rfl); (case hg => rfl); (case hr => first | (go_simp; done) | (go_simp; rfl)); intro gb155 hg w6 hbox hb; have n0_ := Aside0.mk (bb_ BK154.out hb); have n1_ := Aside0.mk (bs_ hb); have n2_ := Aside0.mk (hbox); have n3_ := Aside0.mk ((by rw [hg]; exact bz_ : w.heap.size ≤ gb155)); have n4_ := Aside0.mk ((by rw [hg]; exact bz_ : w.heap.size ≤ gb155)); have n5_ := Aside0.mk ((by rw [hg]; exact lt_ BK154.out : gb154 ≠ gb155)); have n6_ := Aside0.mk ((by rw [hg]; exact gt_ BK154.out : gb155 ≠ gb154)); clear BK154; clear HB; have BK154 := n0_; have HB := n1_; have BK155 := n2_; have GW155 := n3_; have GE155 := n4_; have NB154_155 := n5_; have NB155_154 := n6_; clear n0_ n1_ n2_ n3_ n4_ n5_ n6_; clear hb hbox hg; have hnb7 := NB154_155.out; have hnc7 := NB155_154.out; have hcz8_0 : w6.cell? ⟨gb154, 0, none⟩ = some (.int .i64 a0_0) := (blk_cell BK154.out 0).trans rfl; have hcz8_1 : w6.cell? ⟨gb154, 1, none⟩ = some (.int .i64 a0_1) := (blk_cell BK154.out 1).trans rfl; have hfz8_0 := blk_frozen BK154.out 0; have hfz8_1 := blk_frozen BK154.out 1; have hcz9_0 : w6.cell? ⟨gb155, 0, none⟩ = some (.int .i64 a1_0) := (blk_cell BK155.out 0).trans rfl; have hcz9_1 : w6.cell? ⟨gb155, 1, none⟩ = some (.int .i64 a1_1) := (blk_cell BK155.out 1).trans rfl; have hfz9_0 := blk_frozen BK155.out 0; have hfz9_1 := blk_frozen BK155.out 1))
   go_ret
   exact ⟨by first | rfl | (simp [errW_none, errW_some] <;> rfl) | (simp [*, errW_none, errW_some] <;> rfl), hb_⟩
  ·rw [if_neg c4] at H
   have c4b0 : (a0_1 == a1_1) = false := beq_eq_false_iff_ne.mpr c4
   have c4b1 : (a0_1 != a1_1) = true := bne_iff_ne.mpr c4
   obtain rfl := Option.some.inj H
   go_enter Try.func52, Try.ntmps52
   go_wp2_with (first | ((with_reducible refine gate_dst (N := 2) rfl ?_); refine box_event ?hg (N := 2) ?hd (cs := #[.int .i64 a0_0, .int .i64 a0_1]) (t := 65) ?hr ?_; (case hd => rfl); (case hg => rfl); (case hr => first | (go_simp; done) | (go_simp; rfl)); intro gb154 hg w10 hbox hb; have n0_ := Aside0.mk (bs_ hb); have n1_ := Aside0.mk (hbox); have n2_ := Aside0.mk ((by rw [hg]; exact bz_ : w.heap.size ≤ gb154)); have n3_ := Aside0.mk ((by rw [hg]; exact bz_ : w.heap.size ≤ gb154)); clear HB; have HB := n0_; have BK154 := n1_; have GW154 := n2_; have GE154 := n3_; clear n0_ n1_ n2_ n3_; clear hb hbox hg) | ((with_reducible refine gate_dst (N := 3) rfl ?_); refine box_event ?hg (N := 3) ?hd (cs := #[.int .i64 a1_0, .int .i64 a1_1]) (t := 65) ?hr ?_; (case hd => rfl); (case hg => rfl); (case hr => first | (go_simp; done) | (go_simp; rfl)); intro gb155 hg w11 hbox hb; have n0_ := Aside0.mk (bb_ BK154.out hb); have n1_ := Aside0.mk (bs_ hb); have n2_ := Aside0.mk (hbox); have n3_ := Aside0.mk ((by rw [hg]; exact bz_ : w.heap.size ≤ gb155)); have n4_ := Aside0.mk ((by rw [hg]; exact bz_ : w.heap.size ≤ gb155)); have n5_ := Aside0.mk ((by rw [hg]; exact lt_ BK154.out : gb154 ≠ gb155)); have n6_ := Aside0.mk ((by rw [hg]; exact gt_ BK154.out : gb155 ≠ gb154)); clear BK154; clear HB; have BK154 := n0_; have HB := n1_; have BK155 := n2_; have GW155 := n3_; have GE155 := n4_; have NB154_155 := n5_; have NB155_154 := n6_; clear n0_ n1_ n2_ n3_ n4_ n5_ n6_; clear hb hbox hg; have hnb12 := NB154_155.out; have hnc12 := NB155_154.out; have hcz13_0 : w11.cell? ⟨gb154, 0, none⟩ = some (.int .i64 a0_0) := (blk_cell BK154.out 0).trans rfl; have hcz13_1 : w11.cell? ⟨gb154, 1, none⟩ = some (.int .i64 a0_1) := (blk_cell BK154.out 1).trans rfl; have hfz13_0 := blk_frozen BK154.out 0; have hfz13_1 := blk_frozen BK154.out 1; have hcz14_0 : w11.cell? ⟨gb155, 0, none⟩ = some (.int .i64 a1_0) := (blk_cell BK155.out 0).trans rfl; have hcz14_1 : w11.cell? ⟨gb155, 1, none⟩ = some (.int .i64 a1_1) := (blk_cell BK155.out 1).trans rfl; have hfz14_0 := blk_frozen BK155.out 0; have hfz14_1 := blk_frozen BK155.out 1))
   go_ret
   exact ⟨by first | rfl | (simp [errW_none, errW_some] <;> rfl) | (simp [*, errW_none, errW_some] <;> rfl), hb_⟩
 ·rw [if_neg c3] at H
  have c3b0 : (a0_0 == a1_0) = false := beq_eq_false_iff_ne.mpr c3
  have c3b1 : (a0_0 != a1_0) = true := bne_iff_ne.mpr c3
  obtain rfl := Option.some.inj H
  go_enter Try.func52, Try.ntmps52
  go_wp2_with (first | ((with_reducible refine gate_dst (N := 2) rfl ?_); refine box_event ?hg (N := 2) ?hd (cs := #[.int .i64 a0_0, .int .i64 a0_1]) (t := 65) ?hr ?_; (case hd => rfl); (case hg => rfl); (case hr => first | (go_simp; done) | (go_simp; rfl)); intro gb154 hg w15 hbox hb; have n0_ := Aside0.mk (bs_ hb); have n1_ := Aside0.mk (hbox); have n2_ := Aside0.mk ((by rw [hg]; exact bz_ : w.heap.size ≤ gb154)); have n3_ := Aside0.mk ((by rw [hg]; exact bz_ : w.heap.size ≤ gb154)); clear HB; have HB := n0_; have BK154 := n1_; have GW154 := n2_; have GE154 := n3_; clear n0_ n1_ n2_ n3_; clear hb hbox hg) | ((with_reducible refine gate_dst (N := 3) rfl ?_); refine box_event ?hg (N := 3) ?hd (cs := #[.int .i64 a1_0, .int .i64 a1_1]) (t := 65) ?hr ?_; (case hd => rfl); (case hg => rfl); (case hr => first | (go_simp; done) | (go_simp; rfl)); intro gb155 hg w16 hbox hb; have n0_ := Aside0.mk (bb_ BK154.out hb); have n1_ := Aside0.mk (bs_ hb); have n2_ := Aside0.mk (hbox); have n3_ := Aside0.mk ((by rw [hg]; exact bz_ : w.heap.size ≤ gb155)); have n4_ := Aside0.mk ((by rw [hg]; exact bz_ : w.heap.size ≤ gb155)); have n5_ := Aside0.mk ((by rw [hg]; exact lt_ BK154.out : gb154 ≠ gb155)); have n6_ := Aside0.mk ((by rw [hg]; exact gt_ BK154.out : gb155 ≠ gb154)); clear BK154; clear HB; have BK154 := n0_; have HB := n1_; have BK155 := n2_; have GW155 := n3_; have GE155 := n4_; have NB154_155 := n5_; have NB155_154 := n6_; clear n0_ n1_ n2_ n3_ n4_ n5_ n6_; clear hb hbox hg; have hnb17 := NB154_155.out; have hnc17 := NB155_154.out; have hcz18_0 : w16.cell? ⟨gb154, 0, none⟩ = some (.int .i64 a0_0) := (blk_cell BK154.out 0).trans rfl; have hcz18_1 : w16.cell? ⟨gb154, 1, none⟩ = some (.int .i64 a0_1) := (blk_cell BK154.out 1).trans rfl; have hfz18_0 := blk_frozen BK154.out 0; have hfz18_1 := blk_frozen BK154.out 1; have hcz19_0 : w16.cell? ⟨gb155, 0, none⟩ = some (.int .i64 a1_0) := (blk_cell BK155.out 0).trans rfl; have hcz19_1 : w16.cell? ⟨gb155, 1, none⟩ = some (.int .i64 a1_1) := (blk_cell BK155.out 1).trans rfl; have hfz19_0 := blk_frozen BK155.out 0; have hfz19_1 := blk_frozen BK155.out 1))
  go_ret
  exact ⟨by first | rfl | (simp [errW_none, errW_some] <;> rfl) | (simp [*, errW_none, errW_some] <;> rfl), hb_⟩
def laws_eqFracS.l0 : Nat → List (S65) → List (S65) → Int → Option (Bool)
 | 0, _, _, _ => none
 | k + 1, x0, x1, x5 => if x5 < (x0.length : Int) then (if 0 ≤ x5 then (if x5 < (x1.length : Int) then ((laws_eqFrac.f ((rd_T65 x0 x5).f0) ((rd_T65 x0 x5).f1) ((rd_T65 x1 x5).f0) ((rd_T65 x1 x5).f1)).bind fun t158 => (if t158 = true then (laws_eqFracS.l0 k x0 x1 (wrap64 (x5 + 1))) else (some false))) else (none)) else (none)) else (some true)
def laws_eqFracS.f (k : Nat) (l0 : List (S65)) (l1 : List (S65)) : Option (Bool) := if (l0.length : Int) = (l1.length : Int) then (laws_eqFracS.l0 k l0 l1 0) else (some false)
theorem laws_eqFracS.mono_l : ∀ k, (∀ y0 y1 y2, LeO (laws_eqFracS.l0 k y0 y1 y2) (laws_eqFracS.l0 (k + 1) y0 y1 y2))
 | 0 => fun _ _ _ r h => by simp [laws_eqFracS.l0] at h
 | k + 1 => by
  have ih0 := laws_eqFracS.mono_l k
  ·intro y0 y1 y2
   unfold laws_eqFracS.l0
   repeat' first
   | (with_reducible exact ih0 _ _ _)
   | (with_reducible exact LeO.refl _)
   | (with_reducible exact LeO.none _)
   | (with_reducible refine LeO.ite ?_ ?_)
   | (with_reducible refine LeO.bind ?_ (fun _ => ?_))
   | exact ih0 _ _ _
   | exact LeO.none _
   | refine LeO.ite ?_ ?_
   | refine LeO.bind ?_ (fun _ => ?_)
theorem laws_eqFracS.mono : ∀ a0 a1 k, LeO (laws_eqFracS.f k a0 a1) (laws_eqFracS.f (k + 1) a0 a1) := by
 intro a0 a1 k
 have ih0 := laws_eqFracS.mono_l k
 unfold laws_eqFracS.f
 repeat' first
   | (with_reducible exact ih0 _ _ _)
   | (with_reducible exact LeO.refl _)
   | (with_reducible exact LeO.none _)
   | (with_reducible refine LeO.ite ?_ ?_)
   | (with_reducible refine LeO.bind ?_ (fun _ => ?_))
   | exact ih0 _ _ _
   | exact LeO.none _
   | refine LeO.ite ?_ ?_
   | refine LeO.bind ?_ (fun _ => ?_)
def laws_eqFracS.T6 : Bool × List (List Nat × List Nat) := (true, [([], []), ([], []), ([0, 1], [0, 1]), ([2], [2]), ([], []), ([], []), ([4, 5], [4, 5]), ([6], [6]), ([3, 7], [3, 7]), ([8], [8])])
def laws_eqFracS.B6 : List Nat := [0, 0, 3, 7, 0, 0, 48, 112, 255, 511]
theorem laws_eqFracS.tab6 : rtab .any (opsOf Try.f55 6) = laws_eqFracS.T6 := by kernel_rfl
theorem laws_eqFracS.bits6 : waitsOk laws_eqFracS.T6.2 laws_eqFracS.B6 = true := by kernel_rfl
theorem laws_eqFracS.calls (k : Nat) (A0 : Option Addr) (c0 : Nat) (l0 : List (S65)) (A1 : Option Addr) (c1 : Nat) (l1 : List (S65)) (r : Bool) (w : World) (hr0 : Kd.C k65 w A0 l0.length l0) (hc0 : l0.length ≤ c0) (hr1 : Kd.C k65 w A1 l1.length l1) (hc1 : l1.length ≤ c1) (h : laws_eqFracS.f k l0 l1 = some r) :
  Calls Try.prog 55 #[.slice A0 l0.length c0, .slice A1 l1.length c1] w fun e w' => e = .returned (.bool r) ∧ Below w.heap.size w w' := by
 have hu65 := Try.underlying65
 have HR0 := Aside0.mk hr0
 have HC0 := Aside0.mk hc0
 clear hr0 hc0
 have HR1 := Aside0.mk hr1
 have HC1 := Aside0.mk hc1
 clear hr1 hc1
 have HB := Aside0.mk (Below.refl w.heap.size w)
 have H : (if (l0.length : Int) = (l1.length : Int) then (laws_eqFracS.l0 k l0 l1 0) else (some false)) = some r := h
 clear h
 by_cases c3 : (l0.length : Int) = (l1.length : Int)
 ·rw [if_pos c3] at H
  have c3b0 : ((l0.length : Int) == (l1.length : Int)) = true := beq_iff_eq.mpr c3
  have c3b1 : ((l0.length : Int) != (l1.length : Int)) = false := bne_eq_false_iff_eq.mpr c3
  have c3b2 : (l0.length == l1.length) = true := by first | simpa using c3 | (simp at c3 ⊢; omega)
  clear c3
  have H' := Aside0.mk H
  clear H
  go_enter Try.func55, Try.ntmps55
  go_wp2
  go_loopg [5] k (fun kq v5 w' => ∃ (x5_1 : Int), v5 = .int .i64 x5_1 ∧ Aside0 (laws_eqFracS.l0 kq l0 l1 x5_1 = some r) ∧ Aside0 (kq ≤ k) ∧ Aside0 (Below w.heap.size w w'))
  case atStart => exact ⟨(0), rs_, H', ⟨Nat.le_refl _⟩, ⟨hb_⟩⟩
  case round =>
   clear H'
   try clear c1
   try clear p2
   try clear c3
   try clear c3b0
   try clear c3b1
   try clear c3b2
   obtain ⟨x5_1, rfl, HA, HK1, HB⟩ := hrel
   cases gk with
   | zero => exact absurd HA.out (by simp [laws_eqFracS.l0])
   | succ k1 =>
    have H := HA.out
    clear HA
    simp only [laws_eqFracS.l0] at H
    by_cases c4 : x5_1 < (l0.length : Int)
    ·rw [if_pos c4] at H
     have c4b0 : decide (x5_1 < (l0.length : Int)) = true := decide_eq_true c4
     clear c4
     by_cases c5 : 0 ≤ x5_1
     ·rw [if_pos c5] at H
      have c5b0 : decide (0 ≤ x5_1) = true := decide_eq_true c5
      clear c5
      by_cases c6 : x5_1 < (l1.length : Int)
      ·rw [if_pos c6] at H
       have c6b0 : decide (x5_1 < (l1.length : Int)) = true := decide_eq_true c6
       clear c6
       replace H := Option.bind_eq_some_iff.mp H
       obtain ⟨t158, A70, H⟩ := H
       replace H : (if t158 = true then (laws_eqFracS.l0 k1 l0 l1 (wrap64 (x5_1 + 1))) else (some false)) = some r := H
       have A7 := Aside0.mk A70
       clear A70
       by_cases c8 : t158 = true
       ·subst c8
        have H1 : (laws_eqFracS.l0 k1 l0 l1 (wrap64 (x5_1 + 1))) = some r := by rw [if_pos rfl] at H; exact H
        clear H
        have H := H1
        clear H1
        have H' := Aside0.mk H
        clear H
        try go_wp2
        have n0_ := Aside0.mk (below_drew1 HB.out)
        clear HB
        have HB := n0_
        clear n0_
        have p156 : 0 ≤ (x5_1 : Int) := od_
        have q156 : x5_1 < (l0.length : Int) := od_
        obtain ⟨ad156, e156, hx156_0, hx156_1⟩ := at_T65 HR0.out x5_1 p156 q156
        have hw156_1 := hx156_1
        have hw156_0 := hx156_0
        cases e156
        replace hx156_0 := (HB.out.cell (World.block_lt_of_cell? w _ hx156_0)).trans hx156_0
        replace hx156_1 := (HB.out.cell (World.block_lt_of_cell? w _ hx156_1)).trans hx156_1
        replace p156 := eq_true p156
        replace q156 := eq_true q156
        have p157 : 0 ≤ (x5_1 : Int) := od_
        have q157 : x5_1 < (l1.length : Int) := od_
        obtain ⟨ad157, e157, hx157_0, hx157_1⟩ := at_T65 HR1.out x5_1 p157 q157
        have hw157_1 := hx157_1
        have hw157_0 := hx157_0
        cases e157
        replace hx157_0 := (HB.out.cell (World.block_lt_of_cell? w _ hx157_0)).trans hx157_0
        replace hx157_1 := (HB.out.cell (World.block_lt_of_cell? w _ hx157_1)).trans hx157_1
        replace p157 := eq_true p157
        replace q157 := eq_true q157
        refine st_ (n := 10) (S := fun w' => w'.cell? (ad156.add ((x5_1).toNat * 2)) = some (.int .i64 ((rd_T65 l0 x5_1).f0)) ∧ w'.cell? ⟨(ad156.add ((x5_1).toNat * 2)).block, (ad156.add ((x5_1).toNat * 2)).off + 1, none⟩ = some (.int .i64 ((rd_T65 l0 x5_1).f1)) ∧ w'.cell? (ad157.add ((x5_1).toNat * 2)) = some (.int .i64 ((rd_T65 l1 x5_1).f0)) ∧ w'.cell? ⟨(ad157.add ((x5_1).toNat * 2)).block, (ad157.add ((x5_1).toNat * 2)).off + 1, none⟩ = some (.int .i64 ((rd_T65 l1 x5_1).f1))) (ds := []) ⟨((HB.out.cell (World.block_lt_of_cell? w _ hw156_0)).trans hw156_0), ((HB.out.cell (World.block_lt_of_cell? w _ hw156_1)).trans hw156_1), ((HB.out.cell (World.block_lt_of_cell? w _ hw157_0)).trans hw157_0), ((HB.out.cell (World.block_lt_of_cell? w _ hw157_1)).trans hw157_1)⟩ (fun hHeld => ?_); refine with_tabW laws_eqFracS.tab6 laws_eqFracS.bits6 (fun HT_ HW_ => ?_)
        generalize wr.drew = w9 at HB hx156_0 hx156_1 hx157_0 hx157_1 hHeld ⊢
        refine pu_ 0 17 ?_; refine pu_ 1 18 ?_; refine pu_ 2 19 ?_; refine pu_ 4 21 ?_; refine pu_ 5 22 ?_; refine pu_ 6 23 ?_; refine tk_ 3 20 ?_; refine tk_ 7 24 ?_
        refine on_ 8 (some 25) (fun K hK => ?_)
        refine goes_ Try.func52 (by kernel_rfl) rfl #[.agg #[.int .i64 ((rd_T65 l0 x5_1).f0), .int .i64 ((rd_T65 l0 x5_1).f1)], .agg #[.int .i64 ((rd_T65 l1 x5_1).f0), .int .i64 ((rd_T65 l1 x5_1).f1)]] (by rfl) rfl rfl (by (try simp only [List.map_toArray, List.map_cons, List.map_nil]); first | done | rfl | (simp only [List.length_drop, List.length_take]; rfl)) ?_
        with_reducible refine (laws_eqFrac.calls ((rd_T65 l0 x5_1).f0) ((rd_T65 l0 x5_1).f1) ((rd_T65 l1 x5_1).f0) ((rd_T65 l1 x5_1).f1) true _ A7.out).mono ?_
        rintro e w10 ⟨rfl, hb⟩
        refine ⟨_, rfl, ?_⟩
        have n0_ := Aside0.mk (bs_ hb)
        clear HB
        have HB := n0_
        clear n0_
        (try clear hb)
        (try clear hb2)
        (try clear hk)
        (try clear hi)
        refine hK.out _ _ ⟨((HB.out.cell (World.block_lt_of_cell? w _ hw156_0)).trans hw156_0), ((HB.out.cell (World.block_lt_of_cell? w _ hw156_1)).trans hw156_1), ((HB.out.cell (World.block_lt_of_cell? w _ hw157_0)).trans hw157_0), ((HB.out.cell (World.block_lt_of_cell? w _ hw157_1)).trans hw157_1)⟩ (fun hHeld => ?_)
        clear hK K
        refine norm_ (a' := ?_) ?_ ?_
        rotate_left
        ·show Act.put _ (some 25) _ = _
         simp only [Act.put, List.setIfInBounds_toArray, List.set_cons_zero, List.set_cons_succ, i64_w, i32_w]
         rfl
        refine pu_ 9 26 ?_
        refine done_ (done_of HT_.out (by kernel_rfl)) ?_
        try go_wp2
        go_roundg k1
        case measure => have := HK1.out; omega
        case rel => exact ⟨(wrap64 (x5_1 + 1)), rs_, H', ⟨by have := HK1.out; omega⟩, ⟨hb_⟩⟩
       ·replace c8 := Bool.eq_false_iff.mpr c8
        subst c8
        have H1 : (some false) = some r := by rw [if_neg (show ¬ (false = true) by decide)] at H; exact H
        clear H
        have H := H1
        clear H1
        obtain rfl := Option.some.inj H
        try go_wp2
        have n0_ := Aside0.mk (below_drew1 HB.out)
        clear HB
        have HB := n0_
        clear n0_
        have p156 : 0 ≤ (x5_1 : Int) := od_
        have q156 : x5_1 < (l0.length : Int) := od_
        obtain ⟨ad156, e156, hx156_0, hx156_1⟩ := at_T65 HR0.out x5_1 p156 q156
        have hw156_1 := hx156_1
        have hw156_0 := hx156_0
        cases e156
        replace hx156_0 := (HB.out.cell (World.block_lt_of_cell? w _ hx156_0)).trans hx156_0
        replace hx156_1 := (HB.out.cell (World.block_lt_of_cell? w _ hx156_1)).trans hx156_1
        replace p156 := eq_true p156
        replace q156 := eq_true q156
        have p157 : 0 ≤ (x5_1 : Int) := od_
        have q157 : x5_1 < (l1.length : Int) := od_
        obtain ⟨ad157, e157, hx157_0, hx157_1⟩ := at_T65 HR1.out x5_1 p157 q157
        have hw157_1 := hx157_1
        have hw157_0 := hx157_0
        cases e157
        replace hx157_0 := (HB.out.cell (World.block_lt_of_cell? w _ hx157_0)).trans hx157_0
        replace hx157_1 := (HB.out.cell (World.block_lt_of_cell? w _ hx157_1)).trans hx157_1
        replace p157 := eq_true p157
        replace q157 := eq_true q157
        refine st_ (n := 10) (S := fun w' => w'.cell? (ad156.add ((x5_1).toNat * 2)) = some (.int .i64 ((rd_T65 l0 x5_1).f0)) ∧ w'.cell? ⟨(ad156.add ((x5_1).toNat * 2)).block, (ad156.add ((x5_1).toNat * 2)).off + 1, none⟩ = some (.int .i64 ((rd_T65 l0 x5_1).f1)) ∧ w'.cell? (ad157.add ((x5_1).toNat * 2)) = some (.int .i64 ((rd_T65 l1 x5_1).f0)) ∧ w'.cell? ⟨(ad157.add ((x5_1).toNat * 2)).block, (ad157.add ((x5_1).toNat * 2)).off + 1, none⟩ = some (.int .i64 ((rd_T65 l1 x5_1).f1))) (ds := []) ⟨((HB.out.cell (World.block_lt_of_cell? w _ hw156_0)).trans hw156_0), ((HB.out.cell (World.block_lt_of_cell? w _ hw156_1)).trans hw156_1), ((HB.out.cell (World.block_lt_of_cell? w _ hw157_0)).trans hw157_0), ((HB.out.cell (World.block_lt_of_cell? w _ hw157_1)).trans hw157_1)⟩ (fun hHeld => ?_); refine with_tabW laws_eqFracS.tab6 laws_eqFracS.bits6 (fun HT_ HW_ => ?_)
        generalize wr.drew = w11 at HB hx156_0 hx156_1 hx157_0 hx157_1 hHeld ⊢
        refine pu_ 0 17 ?_; refine pu_ 1 18 ?_; refine pu_ 2 19 ?_; refine pu_ 4 21 ?_; refine pu_ 5 22 ?_; refine pu_ 6 23 ?_; refine tk_ 3 20 ?_; refine tk_ 7 24 ?_
        refine on_ 8 (some 25) (fun K hK => ?_)
        refine goes_ Try.func52 (by kernel_rfl) rfl #[.agg #[.int .i64 ((rd_T65 l0 x5_1).f0), .int .i64 ((rd_T65 l0 x5_1).f1)], .agg #[.int .i64 ((rd_T65 l1 x5_1).f0), .int .i64 ((rd_T65 l1 x5_1).f1)]] (by rfl) rfl rfl (by (try simp only [List.map_toArray, List.map_cons, List.map_nil]); first | done | rfl | (simp only [List.length_drop, List.length_take]; rfl)) ?_
        with_reducible refine (laws_eqFrac.calls ((rd_T65 l0 x5_1).f0) ((rd_T65 l0 x5_1).f1) ((rd_T65 l1 x5_1).f0) ((rd_T65 l1 x5_1).f1) false _ A7.out).mono ?_
        rintro e w12 ⟨rfl, hb⟩
        refine ⟨_, rfl, ?_⟩
        have n0_ := Aside0.mk (bs_ hb)
        clear HB
        have HB := n0_
        clear n0_
        (try clear hb)
        (try clear hb2)
        (try clear hk)
        (try clear hi)
        refine hK.out _ _ ⟨((HB.out.cell (World.block_lt_of_cell? w _ hw156_0)).trans hw156_0), ((HB.out.cell (World.block_lt_of_cell? w _ hw156_1)).trans hw156_1), ((HB.out.cell (World.block_lt_of_cell? w _ hw157_0)).trans hw157_0), ((HB.out.cell (World.block_lt_of_cell? w _ hw157_1)).trans hw157_1)⟩ (fun hHeld => ?_)
        clear hK K
        refine norm_ (a' := ?_) ?_ ?_
        rotate_left
        ·show Act.put _ (some 25) _ = _
         simp only [Act.put, List.setIfInBounds_toArray, List.set_cons_zero, List.set_cons_succ, i64_w, i32_w]
         rfl
        refine pu_ 9 26 ?_
        refine done_ (done_of HT_.out (by kernel_rfl)) ?_
        try go_wp2
        go_ret
        exact ⟨by first | rfl | (simp [errW_none, errW_some] <;> rfl) | (simp [*, errW_none, errW_some] <;> rfl), hb_⟩
      ·rw [if_neg c6] at H
       exact absurd H (by simp)
     ·rw [if_neg c5] at H
      exact absurd H (by simp)
    ·rw [if_neg c4] at H
     have c4b0 : decide (x5_1 < (l0.length : Int)) = false := decide_eq_false c4
     clear c4
     obtain rfl := Option.some.inj H
     go_wp2
     go_ret
     exact ⟨by first | rfl | (simp [errW_none, errW_some] <;> rfl) | (simp [*, errW_none, errW_some] <;> rfl), hb_⟩
 ·rw [if_neg c3] at H
  have c3b0 : ((l0.length : Int) == (l1.length : Int)) = false := beq_eq_false_iff_ne.mpr c3
  have c3b1 : ((l0.length : Int) != (l1.length : Int)) = true := bne_iff_ne.mpr c3
  have c3b2 : (l0.length == l1.length) = false := by first | simpa using c3 | (simp at c3 ⊢; omega)
  obtain rfl := Option.some.inj H
  go_enter Try.func55, Try.ntmps55
  go_wp2
  go_ret
  exact ⟨by first | rfl | (simp [errW_none, errW_some] <;> rfl) | (simp [*, errW_none, errW_some] <;> rfl), hb_⟩
end Go.Proofs.Ythdoilfjcgickaa.Pr
end
section
namespace Go.Proofs.Ythdoilfjcgickaa.Pr
open Go.RowKit Go.Proofs.YthdoilfjcgickaaW.PrintWords Go.Proofs.YthdoilfjcgickaaW.PrintLast Go.Proofs.YthdoilfjcgickaaW.PrintMore Go.Proofs.Ythdoilfjcgickaa.La Go.Proofs.Ythdoilfjcgickaa.Hm Go.Proofs.Ythdoilfjcgickaa.Lw
theorem laws_FnExactLemkeRay.walk (k : Nat) (A0_0 : Option Addr) (c0_0 : Nat) (l0_0 : List (List Int)) (A0_1 : Option Addr) (c0_1 : Nat) (l0_1 : List Int) (A1 : Option Addr) (c1 : Nat) (l1 : List Int) (t22 : Int) (s0 : List (S65)) (s1 : Int) (m1 : Int) (m2 : Int) (m3 : Int) (w : World) (hr0_0 : Kd.C (Kd.slice 2 (Kd.int .i64)) w A0_0 l0_0.length l0_0) (hc0_0 : l0_0.length ≤ c0_0) (hr0_1 : Kd.C (Kd.int .i64) w A0_1 l0_1.length l0_1) (hc0_1 : l0_1.length ≤ c0_1) (hr1 : Kd.C (Kd.int .i64) w A1 l1.length l1) (hc1 : l1.length ≤ c1) (h1 : ¬ (l1.length : Int) > 1048576) (h2 : laws_szProblem.f k l0_0 l0_1 1048576 = some t22) (h3 : ¬ t22 < 0) (h4 : laws_toProblem.f k l0_0 l0_1 = some (l0_0, l0_1)) (h5 : laws_toInt64S.f k l1 = some l1) (h6 : spec_LemkeRay.f k l0_0 l0_1 l1 = some (s0, s1)) (h7 : impl_LemkeRay.f k l0_0 l0_1 l1 = some (s0, s1)) (h8 : laws_eqFracS.f k s0 s0 = some true) (h9 : laws_eqProblem.f k l0_0 l0_1 l0_0 l0_1 = some true) (h10 : laws_eqInt64S.f k l1 l1 = some true) (h11 : m1 = 1 + (lens l0_0 : Int) + (l0_1.length : Int)) (h12 : 1 + (lens l0_0 : Int) + (l0_1.length : Int) ≤ 1099511627776) (h13 : l0_0.length ≤ 1099511627776) (h14 : ¬ m1 < 0) (h15 : 0 ≤ m1) (h16 : m2 = m1 + (l1.length : Int)) (h17 : m1 + (l1.length : Int) ≤ 1099511627776) (h18 : ¬ m2 < 0) (h19 : m3 = 1 + 2 * (s0.length : Int)) (h20 : 1 + 2 * (s0.length : Int) ≤ 1099511627776) (h21 : ¬ m3 < 0) (h22 : laws_heldFracS.f k ((cntF 1 s0.length)) 1 = some m3) :
  Calls Try.prog 14 #[.agg #[.slice A0_0 l0_0.length c0_0, .slice A0_1 l0_1.length c0_1], .slice A1 l1.length c1] w fun e w' => e = .returned (.bool true) ∧ Below w.heap.size w w' := by
 have HR0_0 := Aside0.mk hr0_0
 have HC0_0 := Aside0.mk hc0_0
 clear hr0_0 hc0_0
 have HR0_1 := Aside0.mk hr0_1
 have HC0_1 := Aside0.mk hc0_1
 clear hr0_1 hc0_1
 have HR1 := Aside0.mk hr1
 have HC1 := Aside0.mk hc1
 clear hr1 hc1
 have HB := Aside0.mk (Below.refl w.heap.size w)
 have H2' := Aside0.mk h2
 clear h2
 have H4' := Aside0.mk h4
 clear h4
 have H5' := Aside0.mk h5
 clear h5
 have H6' := Aside0.mk h6
 clear h6
 have H7' := Aside0.mk h7
 clear h7
 have H8' := Aside0.mk h8
 clear h8
 have H9' := Aside0.mk h9
 clear h9
 have H10' := Aside0.mk h10
 clear h10
 have H11' := Aside0.mk h11
 clear h11
 have H12' := Aside0.mk h12
 clear h12
 have H13' := Aside0.mk h13
 clear h13
 have H15' := Aside0.mk h15
 clear h15
 have H16' := Aside0.mk h16
 clear h16
 have H17' := Aside0.mk h17
 clear h17
 have H19' := Aside0.mk h19
 clear h19
 have H20' := Aside0.mk h20
 clear h20
 have H22' := Aside0.mk h22
 clear h22
 go_enter Try.func14, Try.ntmps14
 go_wp2_with (first | ((with_reducible refine gate_dst (N := 2) rfl ?_); refine box_event ?hg (N := 2) ?hd (cs := #[.slice A0_0 l0_0.length c0_0, .slice A0_1 l0_1.length c0_1]) (t := 25) ?hr ?_; (case hd => rfl); (case hg => rfl); (case hr => first | (go_simp; done) | (go_simp; rfl)); intro g2 hg w1 hbox hb; have Gg2 : Aside0 (g2 = w.heap.size) := ⟨hg⟩; have Kg2 := Aside0.mk (blk_lt hbox); clear hg; have n_HB := Aside0.mk (below_step HB.out hb); have NN1 : Aside0 (w.heap.size ≤ w1.heap.size) := ⟨hb.size⟩; clear HB; have HB := n_HB; clear n_HB; have Bg2 := Aside0.mk hbox; clear hb hbox; have hc2_0 : w1.cell? ⟨g2, 0, none⟩ = some (.slice A0_0 l0_0.length c0_0) := (blk_cell Bg2.out 0).trans rfl; have hf2_0 := blk_frozen Bg2.out 0; have hc2_1 : w1.cell? ⟨g2, 1, none⟩ = some (.slice A0_1 l0_1.length c0_1) := (blk_cell Bg2.out 1).trans rfl; have hf2_1 := blk_frozen Bg2.out 1) | ((with_reducible refine gate_callee (f := 15) rfl ?_); refine gL_ 22 Try.func15 #[.agg #[.slice A0_0 l0_0.length c0_0, .slice A0_1 l0_1.length c0_1], .int .i64 1048576] ?_; refine (laws_szProblem.calls k _ _ l0_0 _ _ l0_1 1048576 t22 _ ?s1 ?s2 ?s3 ?s4 H2'.out).mono ?_; (case s1 => exact Kd.C_below HR0_0.out HB.out); (case s2 => exact HC0_0.out); (case s3 => exact Kd.C_below HR0_1.out HB.out); (case s4 => exact HC0_1.out); rintro e w2 ⟨rfl, hb⟩; refine ⟨_, rfl, ?_⟩; have n_Bg2 := Aside0.mk (blk_below Bg2.out hb); have n_HB := Aside0.mk (below_step HB.out hb); have NN2 : Aside0 (w1.heap.size ≤ w2.heap.size) := ⟨hb.size⟩; clear hc2_0 hf2_0; clear hc2_1 hf2_1; clear Bg2 HB; have Bg2 := n_Bg2; have HB := n_HB; clear n_Bg2 n_HB; clear hb; have hc2_0 : w2.cell? ⟨g2, 0, none⟩ = some (.slice A0_0 l0_0.length c0_0) := (blk_cell Bg2.out 0).trans rfl; have hf2_0 := blk_frozen Bg2.out 0; have hc2_1 : w2.cell? ⟨g2, 1, none⟩ = some (.slice A0_1 l0_1.length c0_1) := (blk_cell Bg2.out 1).trans rfl; have hf2_1 := blk_frozen Bg2.out 1) | ((with_reducible refine gate_callee (f := 17) rfl ?_); refine gL_ 27 Try.func17 #[.agg #[.slice A0_0 l0_0.length c0_0, .slice A0_1 l0_1.length c0_1]] ?_; refine (laws_toProblem.calls k _ _ l0_0 _ _ l0_1 l0_0 l0_1 _ ?s1 ?s2 ?s3 ?s4 H4'.out).mono ?_; (case s1 => exact Kd.C_below HR0_0.out HB.out); (case s2 => exact HC0_0.out); (case s3 => exact Kd.C_below HR0_1.out HB.out); (case s4 => exact HC0_1.out); rintro e w3 ⟨v27_0, v27_1, rfl, ho0, ho1, hb⟩; refine ⟨_, rfl, ?_⟩; have nu0 := Aside0.mk (UP.of ho0 ho1 HB.out.size); have n_Bg2 := Aside0.mk (blk_below Bg2.out hb); have n_HB := Aside0.mk (below_step HB.out hb); have NN3 : Aside0 (w2.heap.size ≤ w3.heap.size) := ⟨hb.size⟩; clear hc2_0 hf2_0; clear hc2_1 hf2_1; clear Bg2 HB; have Bg2 := n_Bg2; have HB := n_HB; clear n_Bg2 n_HB; clear hb ho0 ho1; have U27 := nu0; clear nu0; obtain ⟨A27_0, c27_0, A27_1, c27_1, e0, e1⟩ := U27.out.slices; subst e0; subst e1) | ((with_reducible refine gate_callee (f := 44) rfl ?_); refine gL_ 29 Try.func44 #[.slice A1 l1.length c1] ?_; refine (laws_toInt64S.calls k _ _ l1 l1 _ ?s1 ?s2 H5'.out).mono ?_; (case s1 => exact Kd.C_below HR1.out HB.out); (case s2 => exact HC1.out); rintro e w4 ⟨v29_0, rfl, ho0, hb⟩; refine ⟨_, rfl, ?_⟩; have nu0 := Aside0.mk (UR.of ho0 HB.out.size); have n_U27 := Aside0.mk (U27.out.mvB (Frm.below hb)); have n_Bg2 := Aside0.mk (blk_below Bg2.out hb); have n_HB := Aside0.mk (below_step HB.out hb); have NN4 : Aside0 (w3.heap.size ≤ w4.heap.size) := ⟨hb.size⟩; clear U27 Bg2 HB; have U27 := n_U27; have Bg2 := n_Bg2; have HB := n_HB; clear n_U27 n_Bg2 n_HB; clear hb ho0; have U29_0 := nu0; clear nu0; obtain ⟨A29_0, c29_0, e0⟩ := Kd.R_slice U29_0.out; subst e0) | ((with_reducible refine gate_callee (f := 53) rfl ?_); refine gL_ 30 Try.func53 #[.agg #[.slice A27_0 l0_0.length c27_0, .slice A27_1 l0_1.length c27_1], .slice A29_0 l1.length c29_0] ?_; refine (spec_LemkeRay.calls k _ _ l0_0 _ _ l0_1 _ _ l1 s0 s1 _ ?s1 ?s2 ?s3 ?s4 ?s5 ?s6 H6'.out).mono ?_; (case s1 => exact U27.out.C0); (case s2 => exact U27.out.cap0); (case s3 => exact U27.out.C1); (case s4 => exact U27.out.cap1); (case s5 => exact UR.C U29_0.out); (case s6 => exact UR.cap U29_0.out); rintro e w5 ⟨v30_0, rfl, ho0, hb⟩; refine ⟨_, rfl, ?_⟩; have nu0 := Aside0.mk (UR.of ho0 HB.out.size); have n_U27 := Aside0.mk (U27.out.mvB (Frm.below hb)); have n_U29_0 := Aside0.mk (U29_0.out.mvB (Frm.below hb)); have n_Bg2 := Aside0.mk (blk_below Bg2.out hb); have n_HB := Aside0.mk (below_step HB.out hb); have NN5 : Aside0 (w4.heap.size ≤ w5.heap.size) := ⟨hb.size⟩; clear U27 U29_0 Bg2 HB; have U27 := n_U27; have U29_0 := n_U29_0; have Bg2 := n_Bg2; have HB := n_HB; clear n_U27 n_U29_0 n_Bg2 n_HB; clear hb ho0; have U30_0 := nu0; clear nu0; obtain ⟨A30_0, c30_0, e0⟩ := Kd.R_slice U30_0.out; subst e0; have hc2_0 : w5.cell? ⟨g2, 0, none⟩ = some (.slice A0_0 l0_0.length c0_0) := (blk_cell Bg2.out 0).trans rfl; have hf2_0 := blk_frozen Bg2.out 0; have hc2_1 : w5.cell? ⟨g2, 1, none⟩ = some (.slice A0_1 l0_1.length c0_1) := (blk_cell Bg2.out 1).trans rfl; have hf2_1 := blk_frozen Bg2.out 1) | ((with_reducible refine gate_callee (f := 17) rfl ?_); refine gL_ 34 Try.func17 #[.agg #[.slice A0_0 l0_0.length c0_0, .slice A0_1 l0_1.length c0_1]] ?_; refine (laws_toProblem.calls k _ _ l0_0 _ _ l0_1 l0_0 l0_1 _ ?s1 ?s2 ?s3 ?s4 H4'.out).mono ?_; (case s1 => exact Kd.C_below HR0_0.out HB.out); (case s2 => exact HC0_0.out); (case s3 => exact Kd.C_below HR0_1.out HB.out); (case s4 => exact HC0_1.out); rintro e w6 ⟨v34_0, v34_1, rfl, ho0, ho1, hb⟩; refine ⟨_, rfl, ?_⟩; have nu0 := Aside0.mk (UP.of ho0 ho1 HB.out.size); have n_U27 := Aside0.mk (U27.out.mvB (Frm.below hb)); have n_U29_0 := Aside0.mk (U29_0.out.mvB (Frm.below hb)); have n_U30_0 := Aside0.mk (U30_0.out.mvB (Frm.below hb)); have n_Bg2 := Aside0.mk (blk_below Bg2.out hb); have n_HB := Aside0.mk (below_step HB.out hb); have NN6 : Aside0 (w5.heap.size ≤ w6.heap.size) := ⟨hb.size⟩; clear hc2_0 hf2_0; clear hc2_1 hf2_1; clear U27 U29_0 U30_0 Bg2 HB; have U27 := n_U27; have U29_0 := n_U29_0; have U30_0 := n_U30_0; have Bg2 := n_Bg2; have HB := n_HB; clear n_U27 n_U29_0 n_U30_0 n_Bg2 n_HB; clear hb ho0 ho1; have U34 := nu0; clear nu0; obtain ⟨A34_0, c34_0, A34_1, c34_1, e0, e1⟩ := U34.out.slices; subst e0; subst e1) | ((with_reducible refine gate_dst (N := 8) rfl ?_); refine box_event ?hg (N := 8) ?hd (cs := #[.slice none 0 0, .slice none 0 0]) (t := 29) ?hr ?_; (case hd => rfl); (case hg => rfl); (case hr => first | (go_simp; done) | (go_simp; rfl)); intro g8 hg w7 hbox hb; have Gg8 : Aside0 (g8 = w6.heap.size) := ⟨hg⟩; have Kg8 := Aside0.mk (blk_lt hbox); clear hg; have n_U27 := Aside0.mk (U27.out.mvB (Frm.below hb)); have n_U29_0 := Aside0.mk (U29_0.out.mvB (Frm.below hb)); have n_U30_0 := Aside0.mk (U30_0.out.mvB (Frm.below hb)); have n_U34 := Aside0.mk (U34.out.mvB (Frm.below hb)); have n_Bg2 := Aside0.mk (blk_below Bg2.out hb); have n_HB := Aside0.mk (below_step HB.out hb); have NN7 : Aside0 (w6.heap.size ≤ w7.heap.size) := ⟨hb.size⟩; clear U27 U29_0 U30_0 U34 Bg2 HB; have U27 := n_U27; have U29_0 := n_U29_0; have U30_0 := n_U30_0; have U34 := n_U34; have Bg2 := n_Bg2; have HB := n_HB; clear n_U27 n_U29_0 n_U30_0 n_U34 n_Bg2 n_HB; have Bg8 := Aside0.mk hbox; clear hb hbox; have hc8_0 : w7.cell? ⟨g8, 0, none⟩ = some (.slice none 0 0) := (blk_cell Bg8.out 0).trans rfl; have hf8_0 := blk_frozen Bg8.out 0; have hc8_1 : w7.cell? ⟨g8, 1, none⟩ = some (.slice none 0 0) := (blk_cell Bg8.out 1).trans rfl; have hf8_1 := blk_frozen Bg8.out 1) | ((with_reducible refine gate_store (t := 29) (p := 8) rfl ?_); refine store_event (t := 29) (p := 8) (v := ?vo_w8) (w1 := ((w7.setCell ⟨g8, 0, none⟩ (.slice A34_0 l0_0.length c34_0)).setCell ⟨g8, 1, none⟩ (.slice A34_1 l0_1.length c34_1))) ?hg ?ho ?hn ?hr ?_; (case ho => rfl); (case hg => rfl); (case hn => rfl); (case hr => first | (go_simp; done) | (go_simp; rfl)); intro w8 hw; have hge : w.heap.size ≤ g8 := (by have := NN1.out; have := Gg2.out; have := Kg2.out; have := NN2.out; have := NN3.out; have := NN4.out; have := NN5.out; have := NN6.out; have := NN7.out; have := Gg8.out; have := Kg8.out; have := HB.out.size; omega); have hF : Frm w7 w8 g8 (g8 + 1) := (by rw [hw]; exact (Frm.trans (Frm.set _ _ _ _) (Frm.set _ _ _ _))); have nb := Aside0.mk (show w8.heap[g8]? = some (.cells #[.slice A34_0 l0_0.length c34_0, .slice A34_1 l0_1.length c34_1] 29 (0, 0)) from (by rw [hw]; exact (blk_put (blk_put Bg8.out 0 _ rfl) 1 _ rfl))); have n_U27 := Aside0.mk (U27.out.mv hF (by have := NN1.out; have := Gg2.out; have := Kg2.out; have := NN2.out; have := NN3.out; have := NN4.out; have := NN5.out; have := NN6.out; have := NN7.out; have := Gg8.out; have := Kg8.out; omega)); have n_U29_0 := Aside0.mk (U29_0.out.mv hF (by have := NN1.out; have := Gg2.out; have := Kg2.out; have := NN2.out; have := NN3.out; have := NN4.out; have := NN5.out; have := NN6.out; have := NN7.out; have := Gg8.out; have := Kg8.out; omega)); have n_U30_0 := Aside0.mk (U30_0.out.mv hF (by have := NN1.out; have := Gg2.out; have := Kg2.out; have := NN2.out; have := NN3.out; have := NN4.out; have := NN5.out; have := NN6.out; have := NN7.out; have := Gg8.out; have := Kg8.out; omega)); have n_U34 := Aside0.mk (U34.out.mv hF (by have := NN1.out; have := Gg2.out; have := Kg2.out; have := NN2.out; have := NN3.out; have := NN4.out; have := NN5.out; have := NN6.out; have := NN7.out; have := Gg8.out; have := Kg8.out; omega)); have n_Bg2 := Aside0.mk ((hF.same g2 (blk_lt Bg2.out) (by have := NN1.out; have := Gg2.out; have := Kg2.out; have := NN2.out; have := NN3.out; have := NN4.out; have := NN5.out; have := NN6.out; have := NN7.out; have := Gg8.out; have := Kg8.out; omega)).trans Bg2.out); have n_HB := Aside0.mk ((by rw [hw]; exact (below_set (below_set HB.out hge) hge) : Below w.heap.size w w8)); have NN8 : Aside0 (w7.heap.size ≤ w8.heap.size) := ⟨hF.size⟩; clear hc8_0 hf8_0; clear hc8_1 hf8_1; clear U27 U29_0 U30_0 U34 Bg2 HB; have U27 := n_U27; have U29_0 := n_U29_0; have U30_0 := n_U30_0; have U34 := n_U34; have Bg2 := n_Bg2; have HB := n_HB; clear n_U27 n_U29_0 n_U30_0 n_U34 n_Bg2 n_HB; clear Bg8; have Bg8 := nb; clear nb hF hge hw) | ((with_reducible refine gate_callee (f := 44) rfl ?_); refine gL_ 36 Try.func44 #[.slice A1 l1.length c1] ?_; refine (laws_toInt64S.calls k _ _ l1 l1 _ ?s1 ?s2 H5'.out).mono ?_; (case s1 => exact Kd.C_below HR1.out HB.out); (case s2 => exact HC1.out); rintro e w9 ⟨v36_0, rfl, ho0, hb⟩; refine ⟨_, rfl, ?_⟩; have nu0 := Aside0.mk (UR.of ho0 HB.out.size); have n_U27 := Aside0.mk (U27.out.mvB (Frm.below hb)); have n_U29_0 := Aside0.mk (U29_0.out.mvB (Frm.below hb)); have n_U30_0 := Aside0.mk (U30_0.out.mvB (Frm.below hb)); have n_U34 := Aside0.mk (U34.out.mvB (Frm.below hb)); have n_Bg2 := Aside0.mk (blk_below Bg2.out hb); have n_Bg8 := Aside0.mk (blk_below Bg8.out hb); have n_HB := Aside0.mk (below_step HB.out hb); have NN9 : Aside0 (w8.heap.size ≤ w9.heap.size) := ⟨hb.size⟩; clear U27 U29_0 U30_0 U34 Bg2 Bg8 HB; have U27 := n_U27; have U29_0 := n_U29_0; have U30_0 := n_U30_0; have U34 := n_U34; have Bg2 := n_Bg2; have Bg8 := n_Bg8; have HB := n_HB; clear n_U27 n_U29_0 n_U30_0 n_U34 n_Bg2 n_Bg8 n_HB; clear hb ho0; have U36_0 := nu0; clear nu0; obtain ⟨A36_0, c36_0, e0⟩ := Kd.R_slice U36_0.out; subst e0; have hc8_0 : w9.cell? ⟨g8, 0, none⟩ = some (.slice A34_0 l0_0.length c34_0) := (blk_cell Bg8.out 0).trans rfl; have hf8_0 := blk_frozen Bg8.out 0; have hc8_1 : w9.cell? ⟨g8, 1, none⟩ = some (.slice A34_1 l0_1.length c34_1) := (blk_cell Bg8.out 1).trans rfl; have hf8_1 := blk_frozen Bg8.out 1) | ((with_reducible refine gate_callee (f := 54) rfl ?_); refine gL_ 40 Try.func54 #[.agg #[.slice A34_0 l0_0.length c34_0, .slice A34_1 l0_1.length c34_1], .slice A36_0 l1.length c36_0] ?_; refine (impl_LemkeRay.calls k _ _ l0_0 _ _ l0_1 _ _ l1 s0 s1 _ ?s1 ?s2 ?s3 ?s4 ?s5 ?s6 H7'.out).mono ?_; (case s1 => exact U34.out.C0); (case s2 => exact U34.out.cap0); (case s3 => exact U34.out.C1); (case s4 => exact U34.out.cap1); (case s5 => exact UR.C U36_0.out); (case s6 => exact UR.cap U36_0.out); rintro e w10 ⟨v40_0, rfl, ho0, hb⟩; refine ⟨_, rfl, ?_⟩; have nu0 := Aside0.mk (UR.of ho0 HB.out.size); have n_U27 := Aside0.mk (U27.out.mvB (Frm.below hb)); have n_U29_0 := Aside0.mk (U29_0.out.mvB (Frm.below hb)); have n_U30_0 := Aside0.mk (U30_0.out.mvB (Frm.below hb)); have n_U34 := Aside0.mk (U34.out.mvB (Frm.below hb)); have n_U36_0 := Aside0.mk (U36_0.out.mvB (Frm.below hb)); have n_Bg2 := Aside0.mk (blk_below Bg2.out hb); have n_Bg8 := Aside0.mk (blk_below Bg8.out hb); have n_HB := Aside0.mk (below_step HB.out hb); have NN10 : Aside0 (w9.heap.size ≤ w10.heap.size) := ⟨hb.size⟩; clear hc8_0 hf8_0; clear hc8_1 hf8_1; clear U27 U29_0 U30_0 U34 U36_0 Bg2 Bg8 HB; have U27 := n_U27; have U29_0 := n_U29_0; have U30_0 := n_U30_0; have U34 := n_U34; have U36_0 := n_U36_0; have Bg2 := n_Bg2; have Bg8 := n_Bg8; have HB := n_HB; clear n_U27 n_U29_0 n_U30_0 n_U34 n_U36_0 n_Bg2 n_Bg8 n_HB; clear hb ho0; have U40_0 := nu0; clear nu0; obtain ⟨A40_0, c40_0, e0⟩ := Kd.R_slice U40_0.out; subst e0) | ((with_reducible refine gate_callee (f := 55) rfl ?_); refine gL_ 45 Try.func55 #[.slice A40_0 s0.length c40_0, .slice A30_0 s0.length c30_0] ?_; refine (laws_eqFracS.calls k _ _ s0 _ _ s0 true _ ?s1 ?s2 ?s3 ?s4 H8'.out).mono ?_; (case s1 => exact UR.C U40_0.out); (case s2 => exact UR.cap U40_0.out); (case s3 => exact UR.C U30_0.out); (case s4 => exact UR.cap U30_0.out); rintro e w11 ⟨rfl, hb⟩; refine ⟨_, rfl, ?_⟩; have n_U27 := Aside0.mk (U27.out.mvB (Frm.below hb)); have n_U29_0 := Aside0.mk (U29_0.out.mvB (Frm.below hb)); have n_U30_0 := Aside0.mk (U30_0.out.mvB (Frm.below hb)); have n_U34 := Aside0.mk (U34.out.mvB (Frm.below hb)); have n_U36_0 := Aside0.mk (U36_0.out.mvB (Frm.below hb)); have n_U40_0 := Aside0.mk (U40_0.out.mvB (Frm.below hb)); have n_Bg2 := Aside0.mk (blk_below Bg2.out hb); have n_Bg8 := Aside0.mk (blk_below Bg8.out hb); have n_HB := Aside0.mk (below_step HB.out hb); have NN11 : Aside0 (w10.heap.size ≤ w11.heap.size) := ⟨hb.size⟩; clear U27 U29_0 U30_0 U34 U36_0 U40_0 Bg2 Bg8 HB; have U27 := n_U27; have U29_0 := n_U29_0; have U30_0 := n_U30_0; have U34 := n_U34; have U36_0 := n_U36_0; have U40_0 := n_U40_0; have Bg2 := n_Bg2; have Bg8 := n_Bg8; have HB := n_HB; clear n_U27 n_U29_0 n_U30_0 n_U34 n_U36_0 n_U40_0 n_Bg2 n_Bg8 n_HB; clear hb))
 try go_wp2
 have hb : Below w11.heap.size w11 w11.drew := (Below.refl _ _).drew
 have n_U27 := Aside0.mk (U27.out.mvB (Frm.below hb))
 have n_U29_0 := Aside0.mk (U29_0.out.mvB (Frm.below hb))
 have n_U30_0 := Aside0.mk (U30_0.out.mvB (Frm.below hb))
 have n_U34 := Aside0.mk (U34.out.mvB (Frm.below hb))
 have n_U36_0 := Aside0.mk (U36_0.out.mvB (Frm.below hb))
 have n_U40_0 := Aside0.mk (U40_0.out.mvB (Frm.below hb))
 have n_Bg2 := Aside0.mk (blk_below Bg2.out hb)
 have n_Bg8 := Aside0.mk (blk_below Bg8.out hb)
 have n_HB := Aside0.mk (below_step HB.out hb)
 have NN12 : Aside0 (w11.heap.size ≤ w11.drew.heap.size) := ⟨hb.size⟩
 clear U27 U29_0 U30_0 U34 U36_0 U40_0 Bg2 Bg8 HB
 have U27 := n_U27
 have U29_0 := n_U29_0
 have U30_0 := n_U30_0
 have U34 := n_U34
 have U36_0 := n_U36_0
 have U40_0 := n_U40_0
 have Bg2 := n_Bg2
 have Bg8 := n_Bg8
 have HB := n_HB
 clear n_U27 n_U29_0 n_U30_0 n_U34 n_U36_0 n_U40_0 n_Bg2 n_Bg8 n_HB
 clear hb
 refine st_ (n := 5) (S := fun w' => w'.cell? ⟨g8, 0, none⟩ = some (.slice A34_0 l0_0.length c34_0) ∧ w'.cell? ⟨g8, 1, none⟩ = some (.slice A34_1 l0_1.length c34_1) ∧ w'.cell? ⟨g2, 0, none⟩ = some (.slice A0_0 l0_0.length c0_0) ∧ w'.cell? ⟨g2, 1, none⟩ = some (.slice A0_1 l0_1.length c0_1)) (ds := []) ⟨(blk_cell Bg8.out 0).trans rfl, (blk_cell Bg8.out 1).trans rfl, (blk_cell Bg2.out 0).trans rfl, (blk_cell Bg2.out 1).trans rfl⟩ (fun hHeld => ?_)
 generalize w11.drew = w12 at U27 U29_0 U30_0 U34 U36_0 U40_0 Bg2 Bg8 HB NN12 hHeld ⊢
 have hc2_0 : w12.cell? ⟨g2, 0, none⟩ = some (.slice A0_0 l0_0.length c0_0) := (blk_cell Bg2.out 0).trans rfl
 have hf2_0 := blk_frozen Bg2.out 0
 have hc2_1 : w12.cell? ⟨g2, 1, none⟩ = some (.slice A0_1 l0_1.length c0_1) := (blk_cell Bg2.out 1).trans rfl
 have hf2_1 := blk_frozen Bg2.out 1
 have hc8_0 : w12.cell? ⟨g8, 0, none⟩ = some (.slice A34_0 l0_0.length c34_0) := (blk_cell Bg8.out 0).trans rfl
 have hf8_0 := blk_frozen Bg8.out 0
 have hc8_1 : w12.cell? ⟨g8, 1, none⟩ = some (.slice A34_1 l0_1.length c34_1) := (blk_cell Bg8.out 1).trans rfl
 have hf8_1 := blk_frozen Bg8.out 1
 refine tk_ 0 52 ?_; refine tk_ 1 53 ?_
 refine on_ 2 (some 54) (fun K hK => ?_)
 refine goes_ Try.func17 (by kernel_rfl) rfl #[.agg #[.slice A0_0 l0_0.length c0_0, .slice A0_1 l0_1.length c0_1]] (by rfl) rfl rfl (by (try simp only [List.map_toArray, List.map_cons, List.map_nil]); first | done | rfl) ?_
 (refine (laws_toProblem.calls k _ _ l0_0 _ _ l0_1 l0_0 l0_1 _ ?s1 ?s2 ?s3 ?s4 H4'.out).mono ?_; (case s1 => exact Kd.C_below HR0_0.out HB.out); (case s2 => exact HC0_0.out); (case s3 => exact Kd.C_below HR0_1.out HB.out); (case s4 => exact HC0_1.out); rintro e w13 ⟨v54_0, v54_1, rfl, ho0, ho1, hb⟩; refine ⟨_, rfl, ?_⟩; have nu0 := Aside0.mk (UP.of ho0 ho1 HB.out.size); have n_U27 := Aside0.mk (U27.out.mvB (Frm.below hb)); have n_U29_0 := Aside0.mk (U29_0.out.mvB (Frm.below hb)); have n_U30_0 := Aside0.mk (U30_0.out.mvB (Frm.below hb)); have n_U34 := Aside0.mk (U34.out.mvB (Frm.below hb)); have n_U36_0 := Aside0.mk (U36_0.out.mvB (Frm.below hb)); have n_U40_0 := Aside0.mk (U40_0.out.mvB (Frm.below hb)); have n_Bg2 := Aside0.mk (blk_below Bg2.out hb); have n_Bg8 := Aside0.mk (blk_below Bg8.out hb); have n_HB := Aside0.mk (below_step HB.out hb); have NN13 : Aside0 (w12.heap.size ≤ w13.heap.size) := ⟨hb.size⟩; clear hc2_0 hf2_0; clear hc2_1 hf2_1; clear hc8_0 hf8_0; clear hc8_1 hf8_1; clear U27 U29_0 U30_0 U34 U36_0 U40_0 Bg2 Bg8 HB; have U27 := n_U27; have U29_0 := n_U29_0; have U30_0 := n_U30_0; have U34 := n_U34; have U36_0 := n_U36_0; have U40_0 := n_U40_0; have Bg2 := n_Bg2; have Bg8 := n_Bg8; have HB := n_HB; clear n_U27 n_U29_0 n_U30_0 n_U34 n_U36_0 n_U40_0 n_Bg2 n_Bg8 n_HB; clear hb ho0 ho1; have U54 := nu0; clear nu0; obtain ⟨A54_0, c54_0, A54_1, c54_1, e0, e1⟩ := U54.out.slices; subst e0; subst e1)
 refine hK.out _ _ ⟨(blk_cell Bg8.out 0).trans rfl, (blk_cell Bg8.out 1).trans rfl, (blk_cell Bg2.out 0).trans rfl, (blk_cell Bg2.out 1).trans rfl⟩ (fun hHeld => ?_)
 clear hK K
 refine norm_ (a' := ?_) ?_ ?_
 rotate_left
 ·show Act.put _ (some 54) _ = _
  simp only [Act.put, List.setIfInBounds_toArray, List.set_cons_zero, List.set_cons_succ, i64_w, i32_w]
  rfl
 refine on_ 3 (some 55) (fun K hK => ?_)
 refine goes_ Try.func20 (by kernel_rfl) rfl #[.agg #[.slice A34_0 l0_0.length c34_0, .slice A34_1 l0_1.length c34_1], .agg #[.slice A54_0 l0_0.length c54_0, .slice A54_1 l0_1.length c54_1]] (by rfl) rfl rfl (by (try simp only [List.map_toArray, List.map_cons, List.map_nil]); first | done | rfl) ?_
 (refine (laws_eqProblem.calls k _ _ l0_0 _ _ l0_1 _ _ l0_0 _ _ l0_1 true _ ?s1 ?s2 ?s3 ?s4 ?s5 ?s6 ?s7 ?s8 H9'.out).mono ?_; (case s1 => exact U34.out.C0); (case s2 => exact U34.out.cap0); (case s3 => exact U34.out.C1); (case s4 => exact U34.out.cap1); (case s5 => exact U54.out.C0); (case s6 => exact U54.out.cap0); (case s7 => exact U54.out.C1); (case s8 => exact U54.out.cap1); rintro e w14 ⟨rfl, hb⟩; refine ⟨_, rfl, ?_⟩; have n_U27 := Aside0.mk (U27.out.mvB (Frm.below hb)); have n_U29_0 := Aside0.mk (U29_0.out.mvB (Frm.below hb)); have n_U30_0 := Aside0.mk (U30_0.out.mvB (Frm.below hb)); have n_U34 := Aside0.mk (U34.out.mvB (Frm.below hb)); have n_U36_0 := Aside0.mk (U36_0.out.mvB (Frm.below hb)); have n_U40_0 := Aside0.mk (U40_0.out.mvB (Frm.below hb)); have n_U54 := Aside0.mk (U54.out.mvB (Frm.below hb)); have n_Bg2 := Aside0.mk (blk_below Bg2.out hb); have n_Bg8 := Aside0.mk (blk_below Bg8.out hb); have n_HB := Aside0.mk (below_step HB.out hb); have NN14 : Aside0 (w13.heap.size ≤ w14.heap.size) := ⟨hb.size⟩; clear U27 U29_0 U30_0 U34 U36_0 U40_0 U54 Bg2 Bg8 HB; have U27 := n_U27; have U29_0 := n_U29_0; have U30_0 := n_U30_0; have U34 := n_U34; have U36_0 := n_U36_0; have U40_0 := n_U40_0; have U54 := n_U54; have Bg2 := n_Bg2; have Bg8 := n_Bg8; have HB := n_HB; clear n_U27 n_U29_0 n_U30_0 n_U34 n_U36_0 n_U40_0 n_U54 n_Bg2 n_Bg8 n_HB; clear hb)
 refine hK.out _ _ ⟨(blk_cell Bg8.out 0).trans rfl, (blk_cell Bg8.out 1).trans rfl, (blk_cell Bg2.out 0).trans rfl, (blk_cell Bg2.out 1).trans rfl⟩ (fun hHeld => ?_)
 clear hK K
 refine norm_ (a' := ?_) ?_ ?_
 rotate_left
 ·show Act.put _ (some 55) _ = _
  simp only [Act.put, List.setIfInBounds_toArray, List.set_cons_zero, List.set_cons_succ, i64_w, i32_w]
  rfl
 refine pu_ 4 56 ?_
 refine done_ (by kernel_rfl) ?_
 go_wp2_with (first | ((with_reducible refine gate_callee (f := 44) rfl ?_); refine gL_ 59 Try.func44 #[.slice A1 l1.length c1] ?_; refine (laws_toInt64S.calls k _ _ l1 l1 _ ?s1 ?s2 H5'.out).mono ?_; (case s1 => exact Kd.C_below HR1.out HB.out); (case s2 => exact HC1.out); rintro e w15 ⟨v59_0, rfl, ho0, hb⟩; refine ⟨_, rfl, ?_⟩; have nu0 := Aside0.mk (UR.of ho0 HB.out.size); have n_U27 := Aside0.mk (U27.out.mvB (Frm.below hb)); have n_U29_0 := Aside0.mk (U29_0.out.mvB (Frm.below hb)); have n_U30_0 := Aside0.mk (U30_0.out.mvB (Frm.below hb)); have n_U34 := Aside0.mk (U34.out.mvB (Frm.below hb)); have n_U36_0 := Aside0.mk (U36_0.out.mvB (Frm.below hb)); have n_U40_0 := Aside0.mk (U40_0.out.mvB (Frm.below hb)); have n_U54 := Aside0.mk (U54.out.mvB (Frm.below hb)); have n_Bg2 := Aside0.mk (blk_below Bg2.out hb); have n_Bg8 := Aside0.mk (blk_below Bg8.out hb); have n_HB := Aside0.mk (below_step HB.out hb); have NN15 : Aside0 (w14.heap.size ≤ w15.heap.size) := ⟨hb.size⟩; clear U27 U29_0 U30_0 U34 U36_0 U40_0 U54 Bg2 Bg8 HB; have U27 := n_U27; have U29_0 := n_U29_0; have U30_0 := n_U30_0; have U34 := n_U34; have U36_0 := n_U36_0; have U40_0 := n_U40_0; have U54 := n_U54; have Bg2 := n_Bg2; have Bg8 := n_Bg8; have HB := n_HB; clear n_U27 n_U29_0 n_U30_0 n_U34 n_U36_0 n_U40_0 n_U54 n_Bg2 n_Bg8 n_HB; clear hb ho0; have U59_0 := nu0; clear nu0; obtain ⟨A59_0, c59_0, e0⟩ := Kd.R_slice U59_0.out; subst e0) | ((with_reducible refine gate_callee (f := 35) rfl ?_); refine gL_ 60 Try.func35 #[.slice A36_0 l1.length c36_0, .slice A59_0 l1.length c59_0] ?_; refine (laws_eqInt64S.calls k _ _ l1 _ _ l1 true _ ?s1 ?s2 ?s3 ?s4 H10'.out).mono ?_; (case s1 => exact UR.C U36_0.out); (case s2 => exact UR.cap U36_0.out); (case s3 => exact UR.C U59_0.out); (case s4 => exact UR.cap U59_0.out); rintro e w16 ⟨rfl, hb⟩; refine ⟨_, rfl, ?_⟩; have hb := hb.below; have n_U27 := Aside0.mk (U27.out.mvB (Frm.below hb)); have n_U29_0 := Aside0.mk (U29_0.out.mvB (Frm.below hb)); have n_U30_0 := Aside0.mk (U30_0.out.mvB (Frm.below hb)); have n_U34 := Aside0.mk (U34.out.mvB (Frm.below hb)); have n_U36_0 := Aside0.mk (U36_0.out.mvB (Frm.below hb)); have n_U40_0 := Aside0.mk (U40_0.out.mvB (Frm.below hb)); have n_U54 := Aside0.mk (U54.out.mvB (Frm.below hb)); have n_U59_0 := Aside0.mk (U59_0.out.mvB (Frm.below hb)); have n_Bg2 := Aside0.mk (blk_below Bg2.out hb); have n_Bg8 := Aside0.mk (blk_below Bg8.out hb); have n_HB := Aside0.mk (below_step HB.out hb); have NN16 : Aside0 (w15.heap.size ≤ w16.heap.size) := ⟨hb.size⟩; clear U27 U29_0 U30_0 U34 U36_0 U40_0 U54 U59_0 Bg2 Bg8 HB; have U27 := n_U27; have U29_0 := n_U29_0; have U30_0 := n_U30_0; have U34 := n_U34; have U36_0 := n_U36_0; have U40_0 := n_U40_0; have U54 := n_U54; have U59_0 := n_U59_0; have Bg2 := n_Bg2; have Bg8 := n_Bg8; have HB := n_HB; clear n_U27 n_U29_0 n_U30_0 n_U34 n_U36_0 n_U40_0 n_U54 n_U59_0 n_Bg2 n_Bg8 n_HB; clear hb; have hc8_0 : w16.cell? ⟨g8, 0, none⟩ = some (.slice A34_0 l0_0.length c34_0) := (blk_cell Bg8.out 0).trans rfl; have hf8_0 := blk_frozen Bg8.out 0; have hc8_1 : w16.cell? ⟨g8, 1, none⟩ = some (.slice A34_1 l0_1.length c34_1) := (blk_cell Bg8.out 1).trans rfl; have hf8_1 := blk_frozen Bg8.out 1) | ((with_reducible refine gate_callee (f := 21) rfl ?_); refine gL_ 64 Try.func21 #[.agg #[.slice A34_0 l0_0.length c34_0, .slice A34_1 l0_1.length c34_1], .int .i64 1] ?_; refine (mark_UP A34_0 c34_0 A34_1 c34_1 l0_0 l0_1 1 m1 HB.out U34.out (by decide) H12'.out H13'.out H11'.out (by have := NN1.out; have := Gg2.out; have := Kg2.out; have := NN2.out; have := NN3.out; have := NN4.out; have := NN5.out; have := NN6.out; have := NN7.out; have := Gg8.out; have := Kg8.out; have := NN8.out; have := NN9.out; have := NN10.out; have := NN11.out; have := NN12.out; have := NN13.out; have := NN14.out; have := NN15.out; have := NN16.out; omega)).mono ?_; rintro e w17 ⟨rfl, hU, hB', hF⟩; refine ⟨_, rfl, ?_⟩; have nu := Aside0.mk hU; have n_U27 := Aside0.mk (U27.out.mv hF (by have := NN1.out; have := Gg2.out; have := Kg2.out; have := NN2.out; have := NN3.out; have := NN4.out; have := NN5.out; have := NN6.out; have := NN7.out; have := Gg8.out; have := Kg8.out; have := NN8.out; have := NN9.out; have := NN10.out; have := NN11.out; have := NN12.out; have := NN13.out; have := NN14.out; have := NN15.out; have := NN16.out; omega)); have n_U29_0 := Aside0.mk (U29_0.out.mv hF (by have := NN1.out; have := Gg2.out; have := Kg2.out; have := NN2.out; have := NN3.out; have := NN4.out; have := NN5.out; have := NN6.out; have := NN7.out; have := Gg8.out; have := Kg8.out; have := NN8.out; have := NN9.out; have := NN10.out; have := NN11.out; have := NN12.out; have := NN13.out; have := NN14.out; have := NN15.out; have := NN16.out; omega)); have n_U30_0 := Aside0.mk (U30_0.out.mv hF (by have := NN1.out; have := Gg2.out; have := Kg2.out; have := NN2.out; have := NN3.out; have := NN4.out; have := NN5.out; have := NN6.out; have := NN7.out; have := Gg8.out; have := Kg8.out; have := NN8.out; have := NN9.out; have := NN10.out; have := NN11.out; have := NN12.out; have := NN13.out; have := NN14.out; have := NN15.out; have := NN16.out; omega)); have n_U36_0 := Aside0.mk (U36_0.out.mv hF (by have := NN1.out; have := Gg2.out; have := Kg2.out; have := NN2.out; have := NN3.out; have := NN4.out; have := NN5.out; have := NN6.out; have := NN7.out; have := Gg8.out; have := Kg8.out; have := NN8.out; have := NN9.out; have := NN10.out; have := NN11.out; have := NN12.out; have := NN13.out; have := NN14.out; have := NN15.out; have := NN16.out; omega)); have n_U40_0 := Aside0.mk (U40_0.out.mv hF (by have := NN1.out; have := Gg2.out; have := Kg2.out; have := NN2.out; have := NN3.out; have := NN4.out; have := NN5.out; have := NN6.out; have := NN7.out; have := Gg8.out; have := Kg8.out; have := NN8.out; have := NN9.out; have := NN10.out; have := NN11.out; have := NN12.out; have := NN13.out; have := NN14.out; have := NN15.out; have := NN16.out; omega)); have n_U54 := Aside0.mk (U54.out.mv hF (by have := NN1.out; have := Gg2.out; have := Kg2.out; have := NN2.out; have := NN3.out; have := NN4.out; have := NN5.out; have := NN6.out; have := NN7.out; have := Gg8.out; have := Kg8.out; have := NN8.out; have := NN9.out; have := NN10.out; have := NN11.out; have := NN12.out; have := NN13.out; have := NN14.out; have := NN15.out; have := NN16.out; omega)); have n_U59_0 := Aside0.mk (U59_0.out.mv hF (by have := NN1.out; have := Gg2.out; have := Kg2.out; have := NN2.out; have := NN3.out; have := NN4.out; have := NN5.out; have := NN6.out; have := NN7.out; have := Gg8.out; have := Kg8.out; have := NN8.out; have := NN9.out; have := NN10.out; have := NN11.out; have := NN12.out; have := NN13.out; have := NN14.out; have := NN15.out; have := NN16.out; omega)); have n_Bg2 := Aside0.mk ((hF.same g2 (blk_lt Bg2.out) (by have := NN1.out; have := Gg2.out; have := Kg2.out; have := NN2.out; have := NN3.out; have := NN4.out; have := NN5.out; have := NN6.out; have := NN7.out; have := Gg8.out; have := Kg8.out; have := NN8.out; have := NN9.out; have := NN10.out; have := NN11.out; have := NN12.out; have := NN13.out; have := NN14.out; have := NN15.out; have := NN16.out; omega)).trans Bg2.out); have n_Bg8 := Aside0.mk ((hF.same g8 (blk_lt Bg8.out) (by have := NN1.out; have := Gg2.out; have := Kg2.out; have := NN2.out; have := NN3.out; have := NN4.out; have := NN5.out; have := NN6.out; have := NN7.out; have := Gg8.out; have := Kg8.out; have := NN8.out; have := NN9.out; have := NN10.out; have := NN11.out; have := NN12.out; have := NN13.out; have := NN14.out; have := NN15.out; have := NN16.out; omega)).trans Bg8.out); have n_HB := Aside0.mk (hB'); have NN17 : Aside0 (w16.heap.size ≤ w17.heap.size) := ⟨hF.size⟩; clear hc8_0 hf8_0; clear hc8_1 hf8_1; clear U27 U29_0 U30_0 U36_0 U40_0 U54 U59_0 Bg2 Bg8 HB; have U27 := n_U27; have U29_0 := n_U29_0; have U30_0 := n_U30_0; have U36_0 := n_U36_0; have U40_0 := n_U40_0; have U54 := n_U54; have U59_0 := n_U59_0; have Bg2 := n_Bg2; have Bg8 := n_Bg8; have HB := n_HB; clear n_U27 n_U29_0 n_U30_0 n_U36_0 n_U40_0 n_U54 n_U59_0 n_Bg2 n_Bg8 n_HB; clear U34; have U34 := nu; clear nu hU hB' hF) | ((with_reducible refine gate_callee (f := 36) rfl ?_); refine gL_ 67 Try.func36 #[.slice A36_0 l1.length c36_0, .int .i64 m1] ?_; refine (mark_UR A36_0 c36_0 l1 _ m1 m2 HB.out U36_0.out H15'.out H17'.out H16'.out).mono ?_; rintro e w18 ⟨rfl, hU, hB', hF⟩; refine ⟨_, rfl, ?_⟩; have nu := Aside0.mk hU; have n_U27 := Aside0.mk (U27.out.mv hF (by have := NN1.out; have := Gg2.out; have := Kg2.out; have := NN2.out; have := NN3.out; have := NN4.out; have := NN5.out; have := NN6.out; have := NN7.out; have := Gg8.out; have := Kg8.out; have := NN8.out; have := NN9.out; have := NN10.out; have := NN11.out; have := NN12.out; have := NN13.out; have := NN14.out; have := NN15.out; have := NN16.out; have := NN17.out; omega)); have n_U29_0 := Aside0.mk (U29_0.out.mv hF (by have := NN1.out; have := Gg2.out; have := Kg2.out; have := NN2.out; have := NN3.out; have := NN4.out; have := NN5.out; have := NN6.out; have := NN7.out; have := Gg8.out; have := Kg8.out; have := NN8.out; have := NN9.out; have := NN10.out; have := NN11.out; have := NN12.out; have := NN13.out; have := NN14.out; have := NN15.out; have := NN16.out; have := NN17.out; omega)); have n_U30_0 := Aside0.mk (U30_0.out.mv hF (by have := NN1.out; have := Gg2.out; have := Kg2.out; have := NN2.out; have := NN3.out; have := NN4.out; have := NN5.out; have := NN6.out; have := NN7.out; have := Gg8.out; have := Kg8.out; have := NN8.out; have := NN9.out; have := NN10.out; have := NN11.out; have := NN12.out; have := NN13.out; have := NN14.out; have := NN15.out; have := NN16.out; have := NN17.out; omega)); have n_U34 := Aside0.mk (U34.out.mv hF (by have := NN1.out; have := Gg2.out; have := Kg2.out; have := NN2.out; have := NN3.out; have := NN4.out; have := NN5.out; have := NN6.out; have := NN7.out; have := Gg8.out; have := Kg8.out; have := NN8.out; have := NN9.out; have := NN10.out; have := NN11.out; have := NN12.out; have := NN13.out; have := NN14.out; have := NN15.out; have := NN16.out; have := NN17.out; omega)); have n_U40_0 := Aside0.mk (U40_0.out.mv hF (by have := NN1.out; have := Gg2.out; have := Kg2.out; have := NN2.out; have := NN3.out; have := NN4.out; have := NN5.out; have := NN6.out; have := NN7.out; have := Gg8.out; have := Kg8.out; have := NN8.out; have := NN9.out; have := NN10.out; have := NN11.out; have := NN12.out; have := NN13.out; have := NN14.out; have := NN15.out; have := NN16.out; have := NN17.out; omega)); have n_U54 := Aside0.mk (U54.out.mv hF (by have := NN1.out; have := Gg2.out; have := Kg2.out; have := NN2.out; have := NN3.out; have := NN4.out; have := NN5.out; have := NN6.out; have := NN7.out; have := Gg8.out; have := Kg8.out; have := NN8.out; have := NN9.out; have := NN10.out; have := NN11.out; have := NN12.out; have := NN13.out; have := NN14.out; have := NN15.out; have := NN16.out; have := NN17.out; omega)); have n_U59_0 := Aside0.mk (U59_0.out.mv hF (by have := NN1.out; have := Gg2.out; have := Kg2.out; have := NN2.out; have := NN3.out; have := NN4.out; have := NN5.out; have := NN6.out; have := NN7.out; have := Gg8.out; have := Kg8.out; have := NN8.out; have := NN9.out; have := NN10.out; have := NN11.out; have := NN12.out; have := NN13.out; have := NN14.out; have := NN15.out; have := NN16.out; have := NN17.out; omega)); have n_Bg2 := Aside0.mk ((hF.same g2 (blk_lt Bg2.out) (by have := NN1.out; have := Gg2.out; have := Kg2.out; have := NN2.out; have := NN3.out; have := NN4.out; have := NN5.out; have := NN6.out; have := NN7.out; have := Gg8.out; have := Kg8.out; have := NN8.out; have := NN9.out; have := NN10.out; have := NN11.out; have := NN12.out; have := NN13.out; have := NN14.out; have := NN15.out; have := NN16.out; have := NN17.out; omega)).trans Bg2.out); have n_Bg8 := Aside0.mk ((hF.same g8 (blk_lt Bg8.out) (by have := NN1.out; have := Gg2.out; have := Kg2.out; have := NN2.out; have := NN3.out; have := NN4.out; have := NN5.out; have := NN6.out; have := NN7.out; have := Gg8.out; have := Kg8.out; have := NN8.out; have := NN9.out; have := NN10.out; have := NN11.out; have := NN12.out; have := NN13.out; have := NN14.out; have := NN15.out; have := NN16.out; have := NN17.out; omega)).trans Bg8.out); have n_HB := Aside0.mk (hB'); have NN18 : Aside0 (w17.heap.size ≤ w18.heap.size) := ⟨hF.size⟩; clear U27 U29_0 U30_0 U34 U40_0 U54 U59_0 Bg2 Bg8 HB; have U27 := n_U27; have U29_0 := n_U29_0; have U30_0 := n_U30_0; have U34 := n_U34; have U40_0 := n_U40_0; have U54 := n_U54; have U59_0 := n_U59_0; have Bg2 := n_Bg2; have Bg8 := n_Bg8; have HB := n_HB; clear n_U27 n_U29_0 n_U30_0 n_U34 n_U40_0 n_U54 n_U59_0 n_Bg2 n_Bg8 n_HB; clear U36_0; have U36_0 := nu; clear nu hU hB' hF) | (go_at_call 55; refine (laws_eqFracS.calls k _ _ s0 _ _ s0 true _ ?s1 ?s2 ?s3 ?s4 H8'.out).mono ?_; (case s1 => exact UR.C U40_0.out); (case s2 => exact UR.cap U40_0.out); (case s3 => exact UR.C U30_0.out); (case s4 => exact UR.cap U30_0.out); rintro e w19 ⟨rfl, hb⟩; have n_U27 := Aside0.mk (U27.out.mvB (Frm.below hb)); have n_U29_0 := Aside0.mk (U29_0.out.mvB (Frm.below hb)); have n_U30_0 := Aside0.mk (U30_0.out.mvB (Frm.below hb)); have n_U34 := Aside0.mk (U34.out.mvB (Frm.below hb)); have n_U36_0 := Aside0.mk (U36_0.out.mvB (Frm.below hb)); have n_U40_0 := Aside0.mk (U40_0.out.mvB (Frm.below hb)); have n_U54 := Aside0.mk (U54.out.mvB (Frm.below hb)); have n_U59_0 := Aside0.mk (U59_0.out.mvB (Frm.below hb)); have n_Bg2 := Aside0.mk (blk_below Bg2.out hb); have n_Bg8 := Aside0.mk (blk_below Bg8.out hb); have n_HB := Aside0.mk (below_step HB.out hb); have NN19 : Aside0 (w18.heap.size ≤ w19.heap.size) := ⟨hb.size⟩; clear U27 U29_0 U30_0 U34 U36_0 U40_0 U54 U59_0 Bg2 Bg8 HB; have U27 := n_U27; have U29_0 := n_U29_0; have U30_0 := n_U30_0; have U34 := n_U34; have U36_0 := n_U36_0; have U40_0 := n_U40_0; have U54 := n_U54; have U59_0 := n_U59_0; have Bg2 := n_Bg2; have Bg8 := n_Bg8; have HB := n_HB; clear n_U27 n_U29_0 n_U30_0 n_U34 n_U36_0 n_U40_0 n_U54 n_U59_0 n_Bg2 n_Bg8 n_HB; clear hb) | ((with_reducible refine gate_callee (f := 56) rfl ?_); refine gL_ 83 Try.func56 #[.slice A40_0 s0.length c40_0, .int .i64 1] ?_; refine (mark_UF A40_0 c40_0 s0 _ 1 m3 HB.out U40_0.out (by decide) H20'.out H19'.out).mono ?_; rintro e w20 ⟨rfl, hU, hB', hF⟩; refine ⟨_, rfl, ?_⟩; have nu := Aside0.mk hU; have n_U27 := Aside0.mk (U27.out.mv hF (by have := NN1.out; have := Gg2.out; have := Kg2.out; have := NN2.out; have := NN3.out; have := NN4.out; have := NN5.out; have := NN6.out; have := NN7.out; have := Gg8.out; have := Kg8.out; have := NN8.out; have := NN9.out; have := NN10.out; have := NN11.out; have := NN12.out; have := NN13.out; have := NN14.out; have := NN15.out; have := NN16.out; have := NN17.out; have := NN18.out; have := NN19.out; omega)); have n_U29_0 := Aside0.mk (U29_0.out.mv hF (by have := NN1.out; have := Gg2.out; have := Kg2.out; have := NN2.out; have := NN3.out; have := NN4.out; have := NN5.out; have := NN6.out; have := NN7.out; have := Gg8.out; have := Kg8.out; have := NN8.out; have := NN9.out; have := NN10.out; have := NN11.out; have := NN12.out; have := NN13.out; have := NN14.out; have := NN15.out; have := NN16.out; have := NN17.out; have := NN18.out; have := NN19.out; omega)); have n_U30_0 := Aside0.mk (U30_0.out.mv hF (by have := NN1.out; have := Gg2.out; have := Kg2.out; have := NN2.out; have := NN3.out; have := NN4.out; have := NN5.out; have := NN6.out; have := NN7.out; have := Gg8.out; have := Kg8.out; have := NN8.out; have := NN9.out; have := NN10.out; have := NN11.out; have := NN12.out; have := NN13.out; have := NN14.out; have := NN15.out; have := NN16.out; have := NN17.out; have := NN18.out; have := NN19.out; omega)); have n_U34 := Aside0.mk (U34.out.mv hF (by have := NN1.out; have := Gg2.out; have := Kg2.out; have := NN2.out; have := NN3.out; have := NN4.out; have := NN5.out; have := NN6.out; have := NN7.out; have := Gg8.out; have := Kg8.out; have := NN8.out; have := NN9.out; have := NN10.out; have := NN11.out; have := NN12.out; have := NN13.out; have := NN14.out; have := NN15.out; have := NN16.out; have := NN17.out; have := NN18.out; have := NN19.out; omega)); have n_U36_0 := Aside0.mk (U36_0.out.mv hF (by have := NN1.out; have := Gg2.out; have := Kg2.out; have := NN2.out; have := NN3.out; have := NN4.out; have := NN5.out; have := NN6.out; have := NN7.out; have := Gg8.out; have := Kg8.out; have := NN8.out; have := NN9.out; have := NN10.out; have := NN11.out; have := NN12.out; have := NN13.out; have := NN14.out; have := NN15.out; have := NN16.out; have := NN17.out; have := NN18.out; have := NN19.out; omega)); have n_U54 := Aside0.mk (U54.out.mv hF (by have := NN1.out; have := Gg2.out; have := Kg2.out; have := NN2.out; have := NN3.out; have := NN4.out; have := NN5.out; have := NN6.out; have := NN7.out; have := Gg8.out; have := Kg8.out; have := NN8.out; have := NN9.out; have := NN10.out; have := NN11.out; have := NN12.out; have := NN13.out; have := NN14.out; have := NN15.out; have := NN16.out; have := NN17.out; have := NN18.out; have := NN19.out; omega)); have n_U59_0 := Aside0.mk (U59_0.out.mv hF (by have := NN1.out; have := Gg2.out; have := Kg2.out; have := NN2.out; have := NN3.out; have := NN4.out; have := NN5.out; have := NN6.out; have := NN7.out; have := Gg8.out; have := Kg8.out; have := NN8.out; have := NN9.out; have := NN10.out; have := NN11.out; have := NN12.out; have := NN13.out; have := NN14.out; have := NN15.out; have := NN16.out; have := NN17.out; have := NN18.out; have := NN19.out; omega)); have n_Bg2 := Aside0.mk ((hF.same g2 (blk_lt Bg2.out) (by have := NN1.out; have := Gg2.out; have := Kg2.out; have := NN2.out; have := NN3.out; have := NN4.out; have := NN5.out; have := NN6.out; have := NN7.out; have := Gg8.out; have := Kg8.out; have := NN8.out; have := NN9.out; have := NN10.out; have := NN11.out; have := NN12.out; have := NN13.out; have := NN14.out; have := NN15.out; have := NN16.out; have := NN17.out; have := NN18.out; have := NN19.out; omega)).trans Bg2.out); have n_Bg8 := Aside0.mk ((hF.same g8 (blk_lt Bg8.out) (by have := NN1.out; have := Gg2.out; have := Kg2.out; have := NN2.out; have := NN3.out; have := NN4.out; have := NN5.out; have := NN6.out; have := NN7.out; have := Gg8.out; have := Kg8.out; have := NN8.out; have := NN9.out; have := NN10.out; have := NN11.out; have := NN12.out; have := NN13.out; have := NN14.out; have := NN15.out; have := NN16.out; have := NN17.out; have := NN18.out; have := NN19.out; omega)).trans Bg8.out); have n_HB := Aside0.mk (hB'); have NN20 : Aside0 (w19.heap.size ≤ w20.heap.size) := ⟨hF.size⟩; clear U27 U29_0 U30_0 U34 U36_0 U54 U59_0 Bg2 Bg8 HB; have U27 := n_U27; have U29_0 := n_U29_0; have U30_0 := n_U30_0; have U34 := n_U34; have U36_0 := n_U36_0; have U54 := n_U54; have U59_0 := n_U59_0; have Bg2 := n_Bg2; have Bg8 := n_Bg8; have HB := n_HB; clear n_U27 n_U29_0 n_U30_0 n_U34 n_U36_0 n_U54 n_U59_0 n_Bg2 n_Bg8 n_HB; clear U40_0; have U40_0 := nu; clear nu hU hB' hF) | ((with_reducible refine gate_callee (f := 57) rfl ?_); refine gL_ 86 Try.func57 #[.slice A40_0 s0.length c40_0, .int .i64 1] ?_; have hcall := laws_heldFracS.calls k _ _ ((cntF 1 s0.length)) 1 m3 _ (UR.C U40_0.out) (UR.cap U40_0.out) H22'.out; simp only [marks_length, count_length, cntF_length] at hcall; refine hcall.mono ?_; clear hcall; rintro e w21 ⟨rfl, hb⟩; refine ⟨_, rfl, ?_⟩; have hb := hb.below; have n_U27 := Aside0.mk (U27.out.mvB (Frm.below hb)); have n_U29_0 := Aside0.mk (U29_0.out.mvB (Frm.below hb)); have n_U30_0 := Aside0.mk (U30_0.out.mvB (Frm.below hb)); have n_U34 := Aside0.mk (U34.out.mvB (Frm.below hb)); have n_U36_0 := Aside0.mk (U36_0.out.mvB (Frm.below hb)); have n_U40_0 := Aside0.mk (U40_0.out.mvB (Frm.below hb)); have n_U54 := Aside0.mk (U54.out.mvB (Frm.below hb)); have n_U59_0 := Aside0.mk (U59_0.out.mvB (Frm.below hb)); have n_Bg2 := Aside0.mk (blk_below Bg2.out hb); have n_Bg8 := Aside0.mk (blk_below Bg8.out hb); have n_HB := Aside0.mk (below_step HB.out hb); have NN21 : Aside0 (w20.heap.size ≤ w21.heap.size) := ⟨hb.size⟩; clear U27 U29_0 U30_0 U34 U36_0 U40_0 U54 U59_0 Bg2 Bg8 HB; have U27 := n_U27; have U29_0 := n_U29_0; have U30_0 := n_U30_0; have U34 := n_U34; have U36_0 := n_U36_0; have U40_0 := n_U40_0; have U54 := n_U54; have U59_0 := n_U59_0; have Bg2 := n_Bg2; have Bg8 := n_Bg8; have HB := n_HB; clear n_U27 n_U29_0 n_U30_0 n_U34 n_U36_0 n_U40_0 n_U54 n_U59_0 n_Bg2 n_Bg8 n_HB; clear hb; have hc2_0 : w21.cell? ⟨g2, 0, none⟩ = some (.slice A0_0 l0_0.length c0_0) := (blk_cell Bg2.out 0).trans rfl; have hf2_0 := blk_frozen Bg2.out 0; have hc2_1 : w21.cell? ⟨g2, 1, none⟩ = some (.slice A0_1 l0_1.length c0_1) := (blk_cell Bg2.out 1).trans rfl; have hf2_1 := blk_frozen Bg2.out 1) | ((with_reducible refine gate_callee (f := 17) rfl ?_); refine gL_ 94 Try.func17 #[.agg #[.slice A0_0 l0_0.length c0_0, .slice A0_1 l0_1.length c0_1]] ?_; refine (laws_toProblem.calls k _ _ l0_0 _ _ l0_1 l0_0 l0_1 _ ?s1 ?s2 ?s3 ?s4 H4'.out).mono ?_; (case s1 => exact Kd.C_below HR0_0.out HB.out); (case s2 => exact HC0_0.out); (case s3 => exact Kd.C_below HR0_1.out HB.out); (case s4 => exact HC0_1.out); rintro e w22 ⟨v94_0, v94_1, rfl, ho0, ho1, hb⟩; refine ⟨_, rfl, ?_⟩; have nu0 := Aside0.mk (UP.of ho0 ho1 HB.out.size); have n_U27 := Aside0.mk (U27.out.mvB (Frm.below hb)); have n_U29_0 := Aside0.mk (U29_0.out.mvB (Frm.below hb)); have n_U30_0 := Aside0.mk (U30_0.out.mvB (Frm.below hb)); have n_U34 := Aside0.mk (U34.out.mvB (Frm.below hb)); have n_U36_0 := Aside0.mk (U36_0.out.mvB (Frm.below hb)); have n_U40_0 := Aside0.mk (U40_0.out.mvB (Frm.below hb)); have n_U54 := Aside0.mk (U54.out.mvB (Frm.below hb)); have n_U59_0 := Aside0.mk (U59_0.out.mvB (Frm.below hb)); have n_Bg2 := Aside0.mk (blk_below Bg2.out hb); have n_Bg8 := Aside0.mk (blk_below Bg8.out hb); have n_HB := Aside0.mk (below_step HB.out hb); have NN22 : Aside0 (w21.heap.size ≤ w22.heap.size) := ⟨hb.size⟩; clear hc2_0 hf2_0; clear hc2_1 hf2_1; clear U27 U29_0 U30_0 U34 U36_0 U40_0 U54 U59_0 Bg2 Bg8 HB; have U27 := n_U27; have U29_0 := n_U29_0; have U30_0 := n_U30_0; have U34 := n_U34; have U36_0 := n_U36_0; have U40_0 := n_U40_0; have U54 := n_U54; have U59_0 := n_U59_0; have Bg2 := n_Bg2; have Bg8 := n_Bg8; have HB := n_HB; clear n_U27 n_U29_0 n_U30_0 n_U34 n_U36_0 n_U40_0 n_U54 n_U59_0 n_Bg2 n_Bg8 n_HB; clear hb ho0 ho1; have U94 := nu0; clear nu0; obtain ⟨A94_0, c94_0, A94_1, c94_1, e0, e1⟩ := U94.out.slices; subst e0; subst e1) | ((with_reducible refine gate_callee (f := 44) rfl ?_); refine gL_ 96 Try.func44 #[.slice A1 l1.length c1] ?_; refine (laws_toInt64S.calls k _ _ l1 l1 _ ?s1 ?s2 H5'.out).mono ?_; (case s1 => exact Kd.C_below HR1.out HB.out); (case s2 => exact HC1.out); rintro e w23 ⟨v96_0, rfl, ho0, hb⟩; refine ⟨_, rfl, ?_⟩; have nu0 := Aside0.mk (UR.of ho0 HB.out.size); have n_U27 := Aside0.mk (U27.out.mvB (Frm.below hb)); have n_U29_0 := Aside0.mk (U29_0.out.mvB (Frm.below hb)); have n_U30_0 := Aside0.mk (U30_0.out.mvB (Frm.below hb)); have n_U34 := Aside0.mk (U34.out.mvB (Frm.below hb)); have n_U36_0 := Aside0.mk (U36_0.out.mvB (Frm.below hb)); have n_U40_0 := Aside0.mk (U40_0.out.mvB (Frm.below hb)); have n_U54 := Aside0.mk (U54.out.mvB (Frm.below hb)); have n_U59_0 := Aside0.mk (U59_0.out.mvB (Frm.below hb)); have n_U94 := Aside0.mk (U94.out.mvB (Frm.below hb)); have n_Bg2 := Aside0.mk (blk_below Bg2.out hb); have n_Bg8 := Aside0.mk (blk_below Bg8.out hb); have n_HB := Aside0.mk (below_step HB.out hb); have NN23 : Aside0 (w22.heap.size ≤ w23.heap.size) := ⟨hb.size⟩; clear U27 U29_0 U30_0 U34 U36_0 U40_0 U54 U59_0 U94 Bg2 Bg8 HB; have U27 := n_U27; have U29_0 := n_U29_0; have U30_0 := n_U30_0; have U34 := n_U34; have U36_0 := n_U36_0; have U40_0 := n_U40_0; have U54 := n_U54; have U59_0 := n_U59_0; have U94 := n_U94; have Bg2 := n_Bg2; have Bg8 := n_Bg8; have HB := n_HB; clear n_U27 n_U29_0 n_U30_0 n_U34 n_U36_0 n_U40_0 n_U54 n_U59_0 n_U94 n_Bg2 n_Bg8 n_HB; clear hb ho0; have U96_0 := nu0; clear nu0; obtain ⟨A96_0, c96_0, e0⟩ := Kd.R_slice U96_0.out; subst e0) | ((with_reducible refine gate_callee (f := 54) rfl ?_); refine gL_ 97 Try.func54 #[.agg #[.slice A94_0 l0_0.length c94_0, .slice A94_1 l0_1.length c94_1], .slice A96_0 l1.length c96_0] ?_; refine (impl_LemkeRay.calls k _ _ l0_0 _ _ l0_1 _ _ l1 s0 s1 _ ?s1 ?s2 ?s3 ?s4 ?s5 ?s6 H7'.out).mono ?_; (case s1 => exact U94.out.C0); (case s2 => exact U94.out.cap0); (case s3 => exact U94.out.C1); (case s4 => exact U94.out.cap1); (case s5 => exact UR.C U96_0.out); (case s6 => exact UR.cap U96_0.out); rintro e w24 ⟨v97_0, rfl, ho0, hb⟩; refine ⟨_, rfl, ?_⟩; have nu0 := Aside0.mk (UR.of ho0 HB.out.size); have n_U27 := Aside0.mk (U27.out.mvB (Frm.below hb)); have n_U29_0 := Aside0.mk (U29_0.out.mvB (Frm.below hb)); have n_U30_0 := Aside0.mk (U30_0.out.mvB (Frm.below hb)); have n_U34 := Aside0.mk (U34.out.mvB (Frm.below hb)); have n_U36_0 := Aside0.mk (U36_0.out.mvB (Frm.below hb)); have n_U40_0 := Aside0.mk (U40_0.out.mvB (Frm.below hb)); have n_U54 := Aside0.mk (U54.out.mvB (Frm.below hb)); have n_U59_0 := Aside0.mk (U59_0.out.mvB (Frm.below hb)); have n_U94 := Aside0.mk (U94.out.mvB (Frm.below hb)); have n_U96_0 := Aside0.mk (U96_0.out.mvB (Frm.below hb)); have n_Bg2 := Aside0.mk (blk_below Bg2.out hb); have n_Bg8 := Aside0.mk (blk_below Bg8.out hb); have n_HB := Aside0.mk (below_step HB.out hb); have NN24 : Aside0 (w23.heap.size ≤ w24.heap.size) := ⟨hb.size⟩; clear U27 U29_0 U30_0 U34 U36_0 U40_0 U54 U59_0 U94 U96_0 Bg2 Bg8 HB; have U27 := n_U27; have U29_0 := n_U29_0; have U30_0 := n_U30_0; have U34 := n_U34; have U36_0 := n_U36_0; have U40_0 := n_U40_0; have U54 := n_U54; have U59_0 := n_U59_0; have U94 := n_U94; have U96_0 := n_U96_0; have Bg2 := n_Bg2; have Bg8 := n_Bg8; have HB := n_HB; clear n_U27 n_U29_0 n_U30_0 n_U34 n_U36_0 n_U40_0 n_U54 n_U59_0 n_U94 n_U96_0 n_Bg2 n_Bg8 n_HB; clear hb ho0; have U97_0 := nu0; clear nu0; obtain ⟨A97_0, c97_0, e0⟩ := Kd.R_slice U97_0.out; subst e0) | ((with_reducible refine gate_callee (f := 55) rfl ?_); refine gL_ 102 Try.func55 #[.slice A97_0 s0.length c97_0, .slice A30_0 s0.length c30_0] ?_; refine (laws_eqFracS.calls k _ _ s0 _ _ s0 true _ ?s1 ?s2 ?s3 ?s4 H8'.out).mono ?_; (case s1 => exact UR.C U97_0.out); (case s2 => exact UR.cap U97_0.out); (case s3 => exact UR.C U30_0.out); (case s4 => exact UR.cap U30_0.out); rintro e w25 ⟨rfl, hb⟩; refine ⟨_, rfl, ?_⟩; have n_U27 := Aside0.mk (U27.out.mvB (Frm.below hb)); have n_U29_0 := Aside0.mk (U29_0.out.mvB (Frm.below hb)); have n_U30_0 := Aside0.mk (U30_0.out.mvB (Frm.below hb)); have n_U34 := Aside0.mk (U34.out.mvB (Frm.below hb)); have n_U36_0 := Aside0.mk (U36_0.out.mvB (Frm.below hb)); have n_U40_0 := Aside0.mk (U40_0.out.mvB (Frm.below hb)); have n_U54 := Aside0.mk (U54.out.mvB (Frm.below hb)); have n_U59_0 := Aside0.mk (U59_0.out.mvB (Frm.below hb)); have n_U94 := Aside0.mk (U94.out.mvB (Frm.below hb)); have n_U96_0 := Aside0.mk (U96_0.out.mvB (Frm.below hb)); have n_U97_0 := Aside0.mk (U97_0.out.mvB (Frm.below hb)); have n_Bg2 := Aside0.mk (blk_below Bg2.out hb); have n_Bg8 := Aside0.mk (blk_below Bg8.out hb); have n_HB := Aside0.mk (below_step HB.out hb); have NN25 : Aside0 (w24.heap.size ≤ w25.heap.size) := ⟨hb.size⟩; clear U27 U29_0 U30_0 U34 U36_0 U40_0 U54 U59_0 U94 U96_0 U97_0 Bg2 Bg8 HB; have U27 := n_U27; have U29_0 := n_U29_0; have U30_0 := n_U30_0; have U34 := n_U34; have U36_0 := n_U36_0; have U40_0 := n_U40_0; have U54 := n_U54; have U59_0 := n_U59_0; have U94 := n_U94; have U96_0 := n_U96_0; have U97_0 := n_U97_0; have Bg2 := n_Bg2; have Bg8 := n_Bg8; have HB := n_HB; clear n_U27 n_U29_0 n_U30_0 n_U34 n_U36_0 n_U40_0 n_U54 n_U59_0 n_U94 n_U96_0 n_U97_0 n_Bg2 n_Bg8 n_HB; clear hb) | ((with_reducible refine gate_callee (f := 57) rfl ?_); refine gL_ 111 Try.func57 #[.slice A40_0 s0.length c40_0, .int .i64 1] ?_; have hcall := laws_heldFracS.calls k _ _ ((cntF 1 s0.length)) 1 m3 _ (UR.C U40_0.out) (UR.cap U40_0.out) H22'.out; simp only [marks_length, count_length, cntF_length] at hcall; refine hcall.mono ?_; clear hcall; rintro e w26 ⟨rfl, hb⟩; refine ⟨_, rfl, ?_⟩; have hb := hb.below; have n_U27 := Aside0.mk (U27.out.mvB (Frm.below hb)); have n_U29_0 := Aside0.mk (U29_0.out.mvB (Frm.below hb)); have n_U30_0 := Aside0.mk (U30_0.out.mvB (Frm.below hb)); have n_U34 := Aside0.mk (U34.out.mvB (Frm.below hb)); have n_U36_0 := Aside0.mk (U36_0.out.mvB (Frm.below hb)); have n_U40_0 := Aside0.mk (U40_0.out.mvB (Frm.below hb)); have n_U54 := Aside0.mk (U54.out.mvB (Frm.below hb)); have n_U59_0 := Aside0.mk (U59_0.out.mvB (Frm.below hb)); have n_U94 := Aside0.mk (U94.out.mvB (Frm.below hb)); have n_U96_0 := Aside0.mk (U96_0.out.mvB (Frm.below hb)); have n_U97_0 := Aside0.mk (U97_0.out.mvB (Frm.below hb)); have n_Bg2 := Aside0.mk (blk_below Bg2.out hb); have n_Bg8 := Aside0.mk (blk_below Bg8.out hb); have n_HB := Aside0.mk (below_step HB.out hb); have NN26 : Aside0 (w25.heap.size ≤ w26.heap.size) := ⟨hb.size⟩; clear U27 U29_0 U30_0 U34 U36_0 U40_0 U54 U59_0 U94 U96_0 U97_0 Bg2 Bg8 HB; have U27 := n_U27; have U29_0 := n_U29_0; have U30_0 := n_U30_0; have U34 := n_U34; have U36_0 := n_U36_0; have U40_0 := n_U40_0; have U54 := n_U54; have U59_0 := n_U59_0; have U94 := n_U94; have U96_0 := n_U96_0; have U97_0 := n_U97_0; have Bg2 := n_Bg2; have Bg8 := n_Bg8; have HB := n_HB; clear n_U27 n_U29_0 n_U30_0 n_U34 n_U36_0 n_U40_0 n_U54 n_U59_0 n_U94 n_U96_0 n_U97_0 n_Bg2 n_Bg8 n_HB; clear hb))
 go_ret
 exact ⟨rfl, HB.out⟩
theorem laws_FnExactLemkeRay.small0 (k : Nat) (A0_0 : Option Addr) (c0_0 : Nat) (l0_0 : List (List Int)) (A0_1 : Option Addr) (c0_1 : Nat) (l0_1 : List Int) (A1 : Option Addr) (c1 : Nat) (l1 : List Int)  (w : World) (hr0_0 : Kd.C (Kd.slice 2 (Kd.int .i64)) w A0_0 l0_0.length l0_0) (hc0_0 : l0_0.length ≤ c0_0) (hr0_1 : Kd.C (Kd.int .i64) w A0_1 l0_1.length l0_1) (hc0_1 : l0_1.length ≤ c0_1) (hr1 : Kd.C (Kd.int .i64) w A1 l1.length l1) (hc1 : l1.length ≤ c1) (h1 : (l1.length : Int) > 1048576) :
  Calls Try.prog 14 #[.agg #[.slice A0_0 l0_0.length c0_0, .slice A0_1 l0_1.length c0_1], .slice A1 l1.length c1] w fun e w' => e = .returned (.bool true) ∧ Below w.heap.size w w' := by
 have HR0_0 := Aside0.mk hr0_0
 have HC0_0 := Aside0.mk hc0_0
 clear hr0_0 hc0_0
 have HR0_1 := Aside0.mk hr0_1
 have HC0_1 := Aside0.mk hc0_1
 clear hr0_1 hc0_1
 have HR1 := Aside0.mk hr1
 have HC1 := Aside0.mk hc1
 clear hr1 hc1
 have HB := Aside0.mk (Below.refl w.heap.size w)
 go_enter Try.func14, Try.ntmps14
 go_wp2_with (first | ((with_reducible refine gate_dst (N := 2) rfl ?_); refine box_event ?hg (N := 2) ?hd (cs := #[.slice A0_0 l0_0.length c0_0, .slice A0_1 l0_1.length c0_1]) (t := 25) ?hr ?_; (case hd => rfl); (case hg => rfl); (case hr => first | (go_simp; done) | (go_simp; rfl)); intro g2 hg w1 hbox hb; have Gg2 : Aside0 (g2 = w.heap.size) := ⟨hg⟩; have Kg2 := Aside0.mk (blk_lt hbox); clear hg; have n_HB := Aside0.mk (below_step HB.out hb); have NN1 : Aside0 (w.heap.size ≤ w1.heap.size) := ⟨hb.size⟩; clear HB; have HB := n_HB; clear n_HB; have Bg2 := Aside0.mk hbox; clear hb hbox; have hc2_0 : w1.cell? ⟨g2, 0, none⟩ = some (.slice A0_0 l0_0.length c0_0) := (blk_cell Bg2.out 0).trans rfl; have hf2_0 := blk_frozen Bg2.out 0; have hc2_1 : w1.cell? ⟨g2, 1, none⟩ = some (.slice A0_1 l0_1.length c0_1) := (blk_cell Bg2.out 1).trans rfl; have hf2_1 := blk_frozen Bg2.out 1))
 go_ret
 exact ⟨rfl, HB.out⟩
theorem laws_FnExactLemkeRay.small1 (k : Nat) (A0_0 : Option Addr) (c0_0 : Nat) (l0_0 : List (List Int)) (A0_1 : Option Addr) (c0_1 : Nat) (l0_1 : List Int) (A1 : Option Addr) (c1 : Nat) (l1 : List Int) (t22 : Int) (w : World) (hr0_0 : Kd.C (Kd.slice 2 (Kd.int .i64)) w A0_0 l0_0.length l0_0) (hc0_0 : l0_0.length ≤ c0_0) (hr0_1 : Kd.C (Kd.int .i64) w A0_1 l0_1.length l0_1) (hc0_1 : l0_1.length ≤ c0_1) (hr1 : Kd.C (Kd.int .i64) w A1 l1.length l1) (hc1 : l1.length ≤ c1) (h1 : ¬ (l1.length : Int) > 1048576) (h2 : laws_szProblem.f k l0_0 l0_1 1048576 = some t22) (h3 : t22 < 0) :
  Calls Try.prog 14 #[.agg #[.slice A0_0 l0_0.length c0_0, .slice A0_1 l0_1.length c0_1], .slice A1 l1.length c1] w fun e w' => e = .returned (.bool true) ∧ Below w.heap.size w w' := by
 have HR0_0 := Aside0.mk hr0_0
 have HC0_0 := Aside0.mk hc0_0
 clear hr0_0 hc0_0
 have HR0_1 := Aside0.mk hr0_1
 have HC0_1 := Aside0.mk hc0_1
 clear hr0_1 hc0_1
 have HR1 := Aside0.mk hr1
 have HC1 := Aside0.mk hc1
 clear hr1 hc1
 have HB := Aside0.mk (Below.refl w.heap.size w)
 have H2' := Aside0.mk h2
 clear h2
 go_enter Try.func14, Try.ntmps14
 go_wp2_with (first | ((with_reducible refine gate_dst (N := 2) rfl ?_); refine box_event ?hg (N := 2) ?hd (cs := #[.slice A0_0 l0_0.length c0_0, .slice A0_1 l0_1.length c0_1]) (t := 25) ?hr ?_; (case hd => rfl); (case hg => rfl); (case hr => first | (go_simp; done) | (go_simp; rfl)); intro g2 hg w1 hbox hb; have Gg2 : Aside0 (g2 = w.heap.size) := ⟨hg⟩; have Kg2 := Aside0.mk (blk_lt hbox); clear hg; have n_HB := Aside0.mk (below_step HB.out hb); have NN1 : Aside0 (w.heap.size ≤ w1.heap.size) := ⟨hb.size⟩; clear HB; have HB := n_HB; clear n_HB; have Bg2 := Aside0.mk hbox; clear hb hbox; have hc2_0 : w1.cell? ⟨g2, 0, none⟩ = some (.slice A0_0 l0_0.length c0_0) := (blk_cell Bg2.out 0).trans rfl; have hf2_0 := blk_frozen Bg2.out 0; have hc2_1 : w1.cell? ⟨g2, 1, none⟩ = some (.slice A0_1 l0_1.length c0_1) := (blk_cell Bg2.out 1).trans rfl; have hf2_1 := blk_frozen Bg2.out 1) | ((with_reducible refine gate_callee (f := 15) rfl ?_); refine gL_ 22 Try.func15 #[.agg #[.slice A0_0 l0_0.length c0_0, .slice A0_1 l0_1.length c0_1], .int .i64 1048576] ?_; refine (laws_szProblem.calls k _ _ l0_0 _ _ l0_1 1048576 t22 _ ?s1 ?s2 ?s3 ?s4 H2'.out).mono ?_; (case s1 => exact Kd.C_below HR0_0.out HB.out); (case s2 => exact HC0_0.out); (case s3 => exact Kd.C_below HR0_1.out HB.out); (case s4 => exact HC0_1.out); rintro e w2 ⟨rfl, hb⟩; refine ⟨_, rfl, ?_⟩; have n_Bg2 := Aside0.mk (blk_below Bg2.out hb); have n_HB := Aside0.mk (below_step HB.out hb); have NN2 : Aside0 (w1.heap.size ≤ w2.heap.size) := ⟨hb.size⟩; clear hc2_0 hf2_0; clear hc2_1 hf2_1; clear Bg2 HB; have Bg2 := n_Bg2; have HB := n_HB; clear n_Bg2 n_HB; clear hb; have hc2_0 : w2.cell? ⟨g2, 0, none⟩ = some (.slice A0_0 l0_0.length c0_0) := (blk_cell Bg2.out 0).trans rfl; have hf2_0 := blk_frozen Bg2.out 0; have hc2_1 : w2.cell? ⟨g2, 1, none⟩ = some (.slice A0_1 l0_1.length c0_1) := (blk_cell Bg2.out 1).trans rfl; have hf2_1 := blk_frozen Bg2.out 1))
 go_ret
 exact ⟨rfl, HB.out⟩
def laws_FnExactLemkeRay.ok_walk (k : Nat) (l0_0 : List (List Int)) (l0_1 : List Int) (l1 : List Int) : Prop := ∃ (t22 : Int) (s0 : List (S65)) (s1 : Int) (m1 : Int) (m2 : Int) (m3 : Int), (¬ (l1.length : Int) > 1048576) ∧ (laws_szProblem.f k l0_0 l0_1 1048576 = some t22) ∧ (¬ t22 < 0) ∧ (laws_toProblem.f k l0_0 l0_1 = some (l0_0, l0_1)) ∧ (laws_toInt64S.f k l1 = some l1) ∧ (spec_LemkeRay.f k l0_0 l0_1 l1 = some (s0, s1)) ∧ (impl_LemkeRay.f k l0_0 l0_1 l1 = some (s0, s1)) ∧ (laws_eqFracS.f k s0 s0 = some true) ∧ (laws_eqProblem.f k l0_0 l0_1 l0_0 l0_1 = some true) ∧ (laws_eqInt64S.f k l1 l1 = some true) ∧ (m1 = 1 + (lens l0_0 : Int) + (l0_1.length : Int)) ∧ (1 + (lens l0_0 : Int) + (l0_1.length : Int) ≤ 1099511627776) ∧ (l0_0.length ≤ 1099511627776) ∧ (¬ m1 < 0) ∧ (0 ≤ m1) ∧ (m2 = m1 + (l1.length : Int)) ∧ (m1 + (l1.length : Int) ≤ 1099511627776) ∧ (¬ m2 < 0) ∧ (m3 = 1 + 2 * (s0.length : Int)) ∧ (1 + 2 * (s0.length : Int) ≤ 1099511627776) ∧ (¬ m3 < 0) ∧ (laws_heldFracS.f k ((cntF 1 s0.length)) 1 = some m3)
def laws_FnExactLemkeRay.ok_small0 (k : Nat) (l0_0 : List (List Int)) (l0_1 : List Int) (l1 : List Int) : Prop := ((l1.length : Int) > 1048576)
def laws_FnExactLemkeRay.ok_small1 (k : Nat) (l0_0 : List (List Int)) (l0_1 : List Int) (l1 : List Int) : Prop := ∃ (t22 : Int), (¬ (l1.length : Int) > 1048576) ∧ (laws_szProblem.f k l0_0 l0_1 1048576 = some t22) ∧ (t22 < 0)
open Classical in
noncomputable def laws_FnExactLemkeRay.f (k : Nat) (l0_0 : List (List Int)) (l0_1 : List Int) (l1 : List Int) : Option Bool := if laws_FnExactLemkeRay.ok_walk k l0_0 l0_1 l1 ∨ laws_FnExactLemkeRay.ok_small0 k l0_0 l0_1 l1 ∨ laws_FnExactLemkeRay.ok_small1 k l0_0 l0_1 l1 then some true else none
theorem laws_FnExactLemkeRay.calls (k : Nat) (A0_0 : Option Addr) (c0_0 : Nat) (l0_0 : List (List Int)) (A0_1 : Option Addr) (c0_1 : Nat) (l0_1 : List Int) (A1 : Option Addr) (c1 : Nat) (l1 : List Int) (r : Bool) (w : World) (hr0_0 : Kd.C (Kd.slice 2 (Kd.int .i64)) w A0_0 l0_0.length l0_0) (hc0_0 : l0_0.length ≤ c0_0) (hr0_1 : Kd.C (Kd.int .i64) w A0_1 l0_1.length l0_1) (hc0_1 : l0_1.length ≤ c0_1) (hr1 : Kd.C (Kd.int .i64) w A1 l1.length l1) (hc1 : l1.length ≤ c1) (h : laws_FnExactLemkeRay.f k l0_0 l0_1 l1 = some r) :
  Calls Try.prog 14 #[.agg #[.slice A0_0 l0_0.length c0_0, .slice A0_1 l0_1.length c0_1], .slice A1 l1.length c1] w fun e w' => e = .returned (.bool r) ∧ Below w.heap.size w w' := by
 unfold laws_FnExactLemkeRay.f at h
 split at h
 case isFalse => cases h
 rename_i hok
 cases h
 rcases hok with ⟨t22, s0, s1, m1, m2, m3, h1, h2, h3, h4, h5, h6, h7, h8, h9, h10, h11, h12, h13, h14, h15, h16, h17, h18, h19, h20, h21, h22⟩ | ⟨h1⟩ | ⟨t22, h1, h2, h3⟩
 ·exact laws_FnExactLemkeRay.walk k A0_0 c0_0 l0_0 A0_1 c0_1 l0_1 A1 c1 l1 t22 s0 s1 m1 m2 m3 w hr0_0 hc0_0 hr0_1 hc0_1 hr1 hc1 h1 h2 h3 h4 h5 h6 h7 h8 h9 h10 h11 h12 h13 h14 h15 h16 h17 h18 h19 h20 h21 h22
 ·exact laws_FnExactLemkeRay.small0 k A0_0 c0_0 l0_0 A0_1 c0_1 l0_1 A1 c1 l1  w hr0_0 hc0_0 hr0_1 hc0_1 hr1 hc1 h1
 ·exact laws_FnExactLemkeRay.small1 k A0_0 c0_0 l0_0 A0_1 c0_1 l0_1 A1 c1 l1 t22 w hr0_0 hc0_0 hr0_1 hc0_1 hr1 hc1 h1 h2 h3
end Go.Proofs.Ythdoilfjcgickaa.Pr
end
section
namespace Go.Proofs.Ythdoilfjcgickaa.Say
open Go.Proofs.Ythdoilfjcgickaa.Op Go.Proofs.Ythdoilfjcgickaa.Pr
def FnExactLemkeRay : Prop := ∀ (l0_0 : List (List Int)) (l0_1 : List Int) (l1 : List Int), GoodList (GoodList (GoodInt .i64)) l0_0 → GoodList (GoodInt .i64) l0_1 → GoodList (GoodInt .i64) l1 → ∃ k, laws_FnExactLemkeRay.f k l0_0 l0_1 l1 = some true
end Go.Proofs.Ythdoilfjcgickaa.Say
end
section
namespace Go.Proofs.Ythdoilfjcgickaa.Lsa
open Go.RowKit Go.Proofs.YthdoilfjcgickaaW.PrintWords Go.Proofs.YthdoilfjcgickaaW.PrintMore Go.Proofs.Ythdoilfjcgickaa.Ma Go.Proofs.Ythdoilfjcgickaa.Pr Go.Proofs.Ythdoilfjcgickaa.Dt Go.Proofs.Ythdoilfjcgickaa.Lk Go.Proofs.Ythdoilfjcgickaa.Lt Go.Proofs.Ythdoilfjcgickaa.Lq Go.Proofs.Ythdoilfjcgickaa.Lp
theorem rd1 (l : List (List Int)) (i : Nat) : rd_L1 l (i : Int) = l.getD i [] := by simp [rd_L1]
section
variable {n m : Nat} {T : Mat}
theorem at_rows {i : Nat} (hi : i < n) : rd_L1 (rowsM n m T) (i : Int) = rowN T i m := by rw [rd1, rowsM_at hi]
theorem at_num {i j : Nat} (hj : j < m) : rd (rowN T i m) (j : Int) = T i j := by rw [rd_nat, rowN_at hj]
theorem wB {x y : Int} (hx : Bnd x) (hy : Bnd y) : wrap64 (x * y) = x * y := by
 have := prodB hx hy
 exact w64 (by omega) (by omega)
theorem kl_cons {i k : Nat} {x y : Int} (c : Nat) (l : List Nat) : kl T i k x y (c :: l) = if T i c * y = T k c * x then kl T i k x y l else decide (T i c * y < T k c * x) := by
 rw [show kl T i k x y (c :: l) = (if T i c * y < T k c * x then true else if T k c * x < T i c * y then false else kl T i k x y l) from rfl]
 by_cases e : T i c * y = T k c * x
 ·rw [if_pos e, if_neg (by omega), if_neg (by omega)]
 ·rw [if_neg e]
  by_cases f : T i c * y < T k c * x
  ·rw [if_pos f]; simp [f]
  ·rw [if_neg f, if_pos (by omega)]; simp [f]
variable (hT : ∀ a c, a < n → c < m → Bnd (T a c)) (hm : n < m) (hn : n ≤ 1000) (hm2 : m ≤ 1000)
include hT hm hn hm2
theorem key_eq {i k : Nat} (hi : i < n) (hk : k < n) {a b : Int} (ha : Bnd a) (hb : Bnd b) (den : Int) (bs : List Int) : Ev (fun q => spec_l05Key.f q (rowsM n m T) den bs (i : Int) (k : Int) a b) (kl T i k a b (cols n m)) := by
 have loop : ∀ q j, j + q = n → ∀ x y : Int, Ev (fun f => spec_l05Key.l0 f (i : Int) (k : Int) a b (n : Int) x y (j : Int) (rowsM n m T) den bs) (if x = y then kl T i k a b (List.range' j q) else decide (x < y)) := by
  intro q
  induction q with
  | zero =>
   intro j hj x y
   refine evstep (fun f => by rw [spec_l05Key.l0]) (evneg (by omega) (evc ?_))
   by_cases e : x = y
   ·rw [if_pos e]; subst e; simp [List.range', kl]
   ·rw [if_neg e]
  | succ q ih =>
   intro j hj x y
   refine evstep (fun f => by rw [spec_l05Key.l0]) (evpos (by omega) ?_)
   by_cases e : x = y
   ·rw [at_rows hi, at_rows hk, rowN_len, rowN_len, rowsM_len]
    refine evpos e (evpos (by omega) (evpos (by omega) (evpos (by omega) (evpos (by omega) (evpos (by omega) (evpos (by omega) (evpos (by omega) ?_)))))))
    rw [at_num (by omega), at_num (by omega), wB (hT i j hi (by omega)) hb, wB (hT k j hk (by omega)) ha, w64 (x := (j : Int) + 1) (by omega) (by omega), if_pos e, List.range'_succ, kl_cons]
    exact ih (j + 1) (by omega) _ _
   ·rw [if_neg e]
    exact evneg e (evc rfl)
 unfold spec_l05Key.f
 rw [at_rows hi, at_rows hk, rowN_len, rowN_len, rowsM_len, w64 (x := (m : Int) - 1) (by omega) (by omega), show (m : Int) - 1 = ((m - 1 : Nat) : Int) from by omega]
 refine evpos (by omega) (evpos (by omega) (evpos (by omega) (evpos (by omega) (evpos (by omega) (evpos (by omega) (evpos (by omega) ?_))))))
 rw [at_num (by omega), at_num (by omega), wB (hT i _ hi (by omega)) hb, wB (hT k _ hk (by omega)) ha]
 have e : cols n m = (m - 1) :: List.range' 0 n := by unfold cols; rw [List.range_eq_range']
 rw [e, kl_cons]
 exact loop n 0 (by omega) _ _
def encR : Option Nat → Int
 | none => -1
 | some r => (r : Int)
theorem row_eq (s : TS) (hs : s.T = T) {v : Nat} (hv : v < m) (den : Int) (bs : List Int) : Ev (fun q => spec_l05Row.f q (rowsM n m T) den bs (v : Int)) (encR (rowB n m s (fun i => T i v))) := by
 have loop : ∀ q j, j + q = n → ∀ o : Option Nat, (∀ r, o = some r → r < n ∧ 0 < T r v) → Ev (fun f => spec_l05Row.l0 f (v : Int) (encR o) (j : Int) (rowsM n m T) den bs) (encR (lst (fun i => T i v) (fun i j => kl T i j (T i v) (T j v) (cols n m)) (List.range' j q) o)) := by
  intro q
  induction q with
  | zero =>
   intro j hj o ho
   exact evstep (fun f => by rw [spec_l05Row.l0]) (by rw [rowsM_len]; exact evneg (by omega) (evc rfl))
  | succ q ih =>
   intro j hj o ho
   refine evstep (fun f => by rw [spec_l05Row.l0]) ?_
   rw [at_rows (show j < n by omega), rowN_len, rowsM_len, at_num hv]
   refine evpos (by omega) (evpos (by omega) (evpos (by omega) (evpos (by omega) ?_)))
   rw [w64 (x := (j : Int) + 1) (by omega) (by omega), List.range'_succ]
   show Ev _ (encR (lst _ _ (List.range' (j + 1) q) (if 0 < T j v ∧ bet _ j o = true then some j else o)))
   by_cases c : 0 < T j v
   ·refine evpos (by omega) ?_
    cases o with
    | none =>
     rw [if_pos ⟨c, rfl⟩]
     exact evpos (by decide) (ih (j + 1) (by omega) (some j) (fun r hr => by cases hr; exact ⟨by omega, c⟩))
    | some r =>
     obtain ⟨hr, hr2⟩ := ho r rfl
     refine evneg (by show ¬ (r : Int) < 0; omega) (evpos (by show 0 ≤ (r : Int); omega) (evpos (by show (r : Int) < _; omega) ?_))
     show Ev (fun f => if (v : Int) < ((rd_L1 (rowsM n m T) (r : Int)).length : Int) then ((spec_l05Key.f f (rowsM n m T) den bs (j : Int) (r : Int) (T j v) (rd (rd_L1 (rowsM n m T) (r : Int)) (v : Int))).bind fun t951 => if t951 = true then _ else _) else _) _
     rw [at_rows hr, rowN_len, at_num hv]
     refine evpos (by omega) (evbind (key_eq hT hm hn hm2 (show j < n by omega) hr (hT j v (by omega) hv) (hT r v hr hv) den bs) ?_)
     by_cases d : kl T j r (T j v) (T r v) (cols n m) = true
     ·rw [if_pos ⟨c, d⟩]
      exact evpos d (ih (j + 1) (by omega) (some j) (fun r hr => by cases hr; exact ⟨by omega, c⟩))
     ·rw [if_neg (fun h => d h.2)]
      exact evneg d (ih (j + 1) (by omega) (some r) ho)
   ·rw [if_neg (fun h => c h.1)]
    exact evneg (by omega) (ih (j + 1) (by omega) o ho)
 unfold spec_l05Row.f
 have h := loop n 0 (by omega) none (fun r hr => by cases hr)
 unfold rowB
 rw [List.range_eq_range', hs]
 exact h
end
theorem enL_rows {n m : Nat} {T : Mat} {i j : Nat} (hi : i < n) (hj : j < m) : enL (rowsM n m T) i j = T i j := by
 unfold enL
 rw [rowsM_at hi, rowN_at hj]
theorem stT_congr {T T' : Mat} {n m r v : Nat} (h : ∀ i j, i < n → j < m → T i j = T' i j) (hr : r < n) (hv : v < m) (den : Int) {i j : Nat} (hi : i < n) (hj : j < m) : stT T den r v i j = stT T' den r v i j := by
 unfold stT stA evT
 rw [h r v hr hv, h r j hr hj, h i j hi hj, h i v hi hv]
theorem pivot_eq {n m : Nat} {s : TS} {r v : Nat} (hr : r < n) (hv : v < m) (hl : s.bs.length = n) (hn : n ≤ 1000) (hm2 : m ≤ 1000) (hd : s.den ≠ 0) : spec_l05Pivot.f (rowsM n m s.T) s.den s.bs (r : Int) (v : Int) = some (rowsM n m (s.step r v).T, (s.step r v).den, (s.step r v).bs) := by
 have h0 : ((rowsM n m s.T).headD []).length = m := by
  rw [show (rowsM n m s.T).headD [] = (rowsM n m s.T).getD 0 [] from by cases rowsM n m s.T <;> rfl, rowsM_at (by omega), rowN_len]
 unfold spec_l05Pivot.f
 rw [h0, rowsM_len, if_pos ⟨by omega, by omega, by omega, by omega, by omega, by
  rw [List.all_eq_true]
  intro x hx
  unfold rowsM at hx
  obtain ⟨a, _, rfl⟩ := List.mem_map.1 hx
  simp [rowN_len], hn, hm2, by omega, hd⟩]
 rw [Int.toNat_natCast, Int.toNat_natCast, rowsM_congr (Z := stT s.T s.den r v) (fun i j hi hj => stT_congr (fun i j hi hj => enL_rows hi hj) hr hv s.den hi hj)]
 have e : stD (enL (rowsM n m s.T)) r v = stD s.T r v := by unfold stD; rw [enL_rows hr hv]
 rw [e]; rfl
theorem begin_eq {n : Nat} {M : List (List Int)} {cv Q : List Int} (hM : M.length = n) (hQ : Q.length = n) (hr : ∀ x ∈ M, x.length = n) (hcv : cv.length = n) (hn : 0 < n) (hn2 : n ≤ 5) (hMb : ∀ i k, i < n → k < n → ((enL M) i k).natAbs ≤ 20) (hcb : ∀ i, i < n → 0 < cv.getD i 0 ∧ cv.getD i 0 ≤ 20) :
  Ev (fun k => spec_l05Begin.f k M Q cv) (rowsM n (2 * n + 2) (tab0 n (enL M) (fun i => cv.getD i 0) (fun i => Q.getD i 0)), 1, idl n) := by
 obtain ⟨T, hT⟩ : ∃ T, tab0 n (enL M) (fun i => cv.getD i 0) (fun i => Q.getD i 0) = T := ⟨_, rfl⟩
 rw [hT]
 have hid : ∀ i, (idl i).length = i := fun i => by simp [idl]
 have hidn : ∀ i, idl (i + 1) = idl i ++ [(i : Int)] := fun i => by unfold idl; rw [List.range_succ, List.map_append]; rfl
 have loop : ∀ q i, i + q = n → Ev (fun k => spec_l05Begin.l0 k cv (n : Int) (i : Int) M Q (rowsM i (2 * n + 2) T) 1 (idl i)) (rowsM n (2 * n + 2) T, 1, idl n) := by
  intro q
  induction q with
  | zero =>
   intro i hi
   obtain rfl : i = n := by omega
   exact evstep (fun k => by rw [spec_l05Begin.l0]) (evneg (by omega) (evc rfl))
  | succ q ih =>
   intro i hi
   refine evstep (fun k => by rw [spec_l05Begin.l0]) (evpos (by omega) ?_)
   have eln : (M.getD i []).length = n := hr _ (by rw [List.getD_eq_getElem?_getD, List.getElem?_eq_getElem (by omega)]; exact List.getElem_mem _)
   have loop2 : ∀ p j, j + p = n → Ev (fun k => spec_l05Begin.l2 k cv (n : Int) (i : Int) (rowN T i (n + j)) (j : Int) M Q (rowsM i (2 * n + 2) T) 1 (idl i)) (rowsM n (2 * n + 2) T, 1, idl n) := by
    intro p
    induction p with
    | zero =>
     intro j hj
     obtain rfl : j = n := by omega
     refine evstep (fun k => by rw [spec_l05Begin.l2]) ?_
     rw [rowN_len, rowsM_len, hid]
     refine evneg (by omega) (evpos (by omega) (evpos (by omega) (evpos (by omega) (evpos (by omega) (evsome rfl ?_)))))
     refine evpos (by omega) (evpos (by rw [List.length_append, rowN_len]; show j + j + 1 < _; omega) (evpos (by omega) (evpos (by omega) ?_)))
     have hc := hcb i (by omega)
     have e1 : T i (j + j) = - cv.getD i 0 := by rw [← hT]; unfold tab0; rw [if_neg (by omega), if_neg (by omega), if_pos (by omega)]
     have e2 : T i (j + j + 1) = Q.getD i 0 := by rw [← hT]; unfold tab0; rw [if_neg (by omega), if_neg (by omega), if_neg (by omega)]
     rw [rd_nat, rd_nat, w64 (x := -(cv.getD i 0)) (by omega) (by omega), ← e1, ← rowN_next, ← e2, ← rowN_next, w64 (x := (i : Int) + 1) (by omega) (by omega), ← hidn, show j + j + 1 + 1 = 2 * j + 2 from by omega, ← rowsM_next]
     exact ih (i + 1) (by omega)
    | succ p ihp =>
     intro j hj
     have hb := hMb i j (by omega) (by omega)
     have e1 : T i (n + j) = - (M.getD i []).getD j 0 := by rw [← hT]; unfold tab0; rw [if_neg (by omega), if_pos (by omega), show n + j - n = j from by omega]; rfl
     have hb2 : ((M.getD i []).getD j 0).natAbs ≤ 20 := hb
     refine evstep (fun k => by rw [spec_l05Begin.l2]) ?_
     rw [rd1, eln, rowN_len]
     refine evpos (by omega) (evpos (by omega) (evpos (by omega) (evpos (by omega) (evpos (by omega) (evpos (by omega) ?_)))))
     rw [rd_nat, w64 (x := -((M.getD i []).getD j 0)) (by omega) (by omega), ← e1, ← rowN_next, w64 (x := (j : Int) + 1) (by omega) (by omega)]
     exact ihp (j + 1) (by omega)
   have loop1 : ∀ p j, j + p = n → Ev (fun k => spec_l05Begin.l1 k cv (n : Int) (i : Int) (rowN T i j) (j : Int) M Q (rowsM i (2 * n + 2) T) 1 (idl i)) (rowsM n (2 * n + 2) T, 1, idl n) := by
    intro p
    induction p with
    | zero =>
     intro j hj
     obtain rfl : j = n := by omega
     refine evstep (fun k => by rw [spec_l05Begin.l1]) (evneg (by omega) ?_)
     exact loop2 j 0 (by omega)
    | succ p ihp =>
     intro j hj
     have e1 : T i j = if j = i then 1 else 0 := by rw [← hT]; unfold tab0; rw [if_pos (by omega)]
     refine evstep (fun k => by rw [spec_l05Begin.l1]) (evpos (by omega) ?_)
     rw [rowN_len, w64 (x := (j : Int) + 1) (by omega) (by omega)]
     by_cases c : j = i
     ·rw [if_pos c] at e1
      refine evpos (by omega) (evpos (by omega) ?_)
      rw [show rowN T i j ++ [1] = rowN T i (j + 1) from by rw [rowN_next, e1]]
      exact ihp (j + 1) (by omega)
     ·rw [if_neg c] at e1
      refine evneg (by omega) (evpos (by omega) ?_)
      rw [show rowN T i j ++ [0] = rowN T i (j + 1) from by rw [rowN_next, e1]]
      exact ihp (j + 1) (by omega)
   exact loop1 n 0 (by omega)
 unfold spec_l05Begin.f
 rw [hQ]
 exact loop n 0 (by omega)
end Go.Proofs.Ythdoilfjcgickaa.Lsa
end
section
namespace Go.Proofs.Ythdoilfjcgickaa.Lsa
open Go.RowKit Go.Proofs.YthdoilfjcgickaaW.PrintWords Go.Proofs.YthdoilfjcgickaaW.PrintMore Go.Proofs.Ythdoilfjcgickaa.Ma Go.Proofs.Ythdoilfjcgickaa.Pr Go.Proofs.Ythdoilfjcgickaa.Dt Go.Proofs.Ythdoilfjcgickaa.Lk Go.Proofs.Ythdoilfjcgickaa.Lt Go.Proofs.Ythdoilfjcgickaa.Lq Go.Proofs.Ythdoilfjcgickaa.Lp
def goS (n m : Nat) : Nat → TS → Nat → Nat → List (List Int) → TS × List (List Int) × Int × Bool
 | 0, s, v, r, st => (s, st, (v : Int), false)
 | q + 1, s, v, r, st =>
  if s.bs.getD r 0 = 2 * (n : Int) then (s.step r v, st ++ [[(v : Int), s.bs.getD r 0]], -1, true)
  else match rowB n m (s.step r v) (fun i => (s.step r v).T i (partner n (s.bs.getD r 0).toNat)) with
   | none => (s.step r v, st ++ [[(v : Int), s.bs.getD r 0]], (partner n (s.bs.getD r 0).toNat : Nat), false)
   | some r' => goS n m q (s.step r v) (partner n (s.bs.getD r 0).toNat) r' (st ++ [[(v : Int), s.bs.getD r 0]])
def runS (n : Nat) (M : Mat) (cv q : Nat → Int) (most : Nat) : TS × List (List Int) × Int × Bool :=
 if feas n q = true then (first n M cv q, [], -1, true)
 else match rowB n (2 * n + 2) (first n M cv q) cv with
  | none => (first n M cv q, [], -1, false)
  | some r => goS n (2 * n + 2) most (first n M cv q) (2 * n) r []
def encS (n m : Nat) (R : TS × List (List Int) × Int × Bool) : (List (List Int)) × Int × List Int × (List (List Int)) × Int × Bool := (rowsM n m R.1.T, R.1.den, R.1.bs, R.2.1, R.2.2.1, R.2.2.2)
theorem partner_lt {n l : Nat} (h : l < 2 * n) : partner n l < 2 * n := by unfold partner; split <;> omega
theorem spartner {n l : Nat} (hn : n ≤ 1000) (h : l < 2 * n) : spec_l05Partner.f (l : Int) (n : Int) = some ((partner n l : Nat) : Int) := by
 unfold spec_l05Partner.f partner
 by_cases c : l < n
 ·rw [if_pos (by omega), if_pos c, w64 (by omega) (by omega)]; rfl
 ·rw [if_neg (by omega), if_neg c, w64 (by omega) (by omega), show (l : Int) - (n : Int) = ((l - n : Nat) : Int) from by omega]
section
variable {n m : Nat} {A : Mat} (hn : n ≤ 5) (hn0 : 0 < n) (hm : m = 2 * n + 2) (hA : Small n m A) (most : Nat) (hmost : most ≤ 100000)
include hn hn0 hm hA hmost
theorem j2_eq : ∀ (q : Nat) (s : TS) (v r : Nat) (st : List (List Int)), Ok n m A s → st.length + (q + 1) = most → r < n → v < m - 1 → s.T r v ≠ 0 →
  Ev (fun k => spec_l05Run.j2 k (most : Int) (n : Int) st (r : Int) (v : Int) (rowsM n m s.T) s.den s.bs) (encS n m (goS n m (q + 1) s v r st)) := by
 intro q
 induction q with
 | zero =>
  intro s v r st hs hq hr hv hp
  obtain ⟨l, hl⟩ : ∃ l : Nat, s.bs.getD r 0 = (l : Int) := ⟨(s.bs.getD r 0).toNat, by have := hs.nn r hr; omega⟩
  have hlt : l < m - 1 := by have := hs.lt r hr; rw [hl] at this; simp only [Int.toNat_natCast] at this; omega
  refine evstep (fun k => by rw [spec_l05Run.j2]) ?_
  rw [rd_nat, hl]
  refine evpos (by omega) (evpos (by rw [hs.len]; omega) (evpos (by omega) (evsome rfl (evsome (pivot_eq hr (by omega) hs.len (by omega) (by omega) (by have := hs.tab.pos; omega)) ?_))))
  rw [w64 (x := 2 * (n : Int)) (by omega) (by omega)]
  unfold goS
  rw [hl]
  by_cases c : (l : Int) = 2 * (n : Int)
  ·rw [if_pos c]
   exact evpos c (evc rfl)
  ·rw [if_neg c]
   have hp2 := partner_lt (n := n) (l := l) (by omega)
   refine evneg c (evsome (spartner (by omega) (by omega)) (evstep (fun k => by rw [spec_l05Run.l1]) (evneg (by rw [List.length_append]; simp only [List.length_singleton]; omega) (evc ?_))))
   rw [Int.toNat_natCast]
   generalize rowB n m _ _ = o
   cases o <;> rfl
 | succ q ih =>
  intro s v r st hs hq hr hv hp
  obtain ⟨l, hl⟩ : ∃ l : Nat, s.bs.getD r 0 = (l : Int) := ⟨(s.bs.getD r 0).toNat, by have := hs.nn r hr; omega⟩
  have hlt : l < m - 1 := by have := hs.lt r hr; rw [hl] at this; simp only [Int.toNat_natCast] at this; omega
  have hs2 := hs.step hn hA hr (v := v) (by omega) hp
  refine evstep (fun k => by rw [spec_l05Run.j2]) ?_
  rw [rd_nat, hl]
  refine evpos (by omega) (evpos (by rw [hs.len]; omega) (evpos (by omega) (evsome rfl (evsome (pivot_eq hr (by omega) hs.len (by omega) (by omega) (by have := hs.tab.pos; omega)) ?_))))
  rw [w64 (x := 2 * (n : Int)) (by omega) (by omega)]
  unfold goS
  rw [hl]
  by_cases c : (l : Int) = 2 * (n : Int)
  ·rw [if_pos c]
   exact evpos c (evc rfl)
  ·rw [if_neg c]
   have hp2 := partner_lt (n := n) (l := l) (by omega)
   refine evneg c (evsome (spartner (by omega) (by omega)) (evstep (fun k => by rw [spec_l05Run.l1]) (evpos (by rw [List.length_append]; simp only [List.length_singleton]; omega) ?_)))
   rw [w64 (x := 2 * (n : Int)) (by omega) (by omega), Int.toNat_natCast]
   obtain ⟨v2, hv2⟩ : ∃ v2, partner n l = v2 := ⟨_, rfl⟩
   rw [hv2] at hp2 ⊢
   refine evpos (by omega) (evbind (row_eq (T := (s.step r v).T) (fun a c ha hc => hs2.abs hn hA ha hc) (by omega) (by omega) (by omega) (s.step r v) rfl (by omega) (s.step r v).den (s.step r v).bs) ?_)
   obtain ⟨o, ho⟩ : ∃ o, rowB n m (s.step r v) (fun i => (s.step r v).T i v2) = o := ⟨_, rfl⟩
   rw [ho]
   cases o with
   | none => exact evpos (by decide) (evc rfl)
   | some r2 =>
    have h2 := rowB_some ho
    refine evneg (by show ¬ (r2 : Int) < 0; omega) ?_
    exact ih (s.step r v) v2 r2 _ hs2 (by rw [List.length_append]; simp only [List.length_singleton]; omega) h2.1 (by omega) (by have := h2.2; omega)
end
theorem lst_app2 (bf : Nat → Int) (less : Nat → Nat → Bool) (l l' : List Nat) (o : Option Nat) : lst bf less (l ++ l') o = lst bf less l' (lst bf less l o) := by
 induction l generalizing o with
 | nil => rfl
 | cons x l ih => simp only [List.cons_append, lst]; exact ih _
theorem run_eq {M : List (List Int)} {Q cv : List Int} {n : Nat} (h : PC M Q cv n) (most : Nat) (hmost : most ≤ 100000) :
  Ev (fun k => spec_l05Run.f k M Q cv (most : Int)) (encS n (2 * n + 2) (runS n (enL M) (fun i => cv.getD i 0) (fun i => Q.getD i 0) most)) := by
 have hA := first_small (n := n) (M := enL M) (cv := fun i => cv.getD i 0) (q := fun i => Q.getD i 0) h.Mb (fun i hi => by have := h.cb i hi; omega) h.qb
 have hok := first_ok (n := n) (M := enL M) (cv := fun i => cv.getD i 0) (q := fun i => Q.getD i 0)
 have hn := h.le
 have hn0 := h.pos
 have hcl := h.lcv
 obtain ⟨s, hs⟩ : ∃ s, first n (enL M) (fun i => cv.getD i 0) (fun i => Q.getD i 0) = s := ⟨_, rfl⟩
 have hT : tab0 n (enL M) (fun i => cv.getD i 0) (fun i => Q.getD i 0) = s.T := by rw [← hs]; rfl
 have hT2 : ∀ a c, a < n → c < 2 * n + 2 → Bnd (s.T a c) := fun a c ha hc => by rw [← hs]; exact hok.abs hn hA ha hc
 have hcb : ∀ i, i < n → Bnd (cv.getD i 0) := fun i hi => by have := h.cb i hi; exact ⟨by omega, by omega⟩
 unfold spec_l05Run.f
 refine evbind (begin_eq h.lM h.lQ h.rows h.lcv h.pos h.le h.Mb h.cb) ?_
 rw [hT, h.lQ]
 have e1 : (1 : Int) = s.den := by rw [← hs]; rfl
 have e2 : idl n = s.bs := by rw [← hs]; rfl
 have ed : ((rowsM n (2 * n + 2) s.T, (1 : Int), idl n) : List (List Int) × Int × List Int) = (rowsM n (2 * n + 2) s.T, s.den, s.bs) := by rw [← e1, ← e2]
 rw [ed]
 unfold runS
 rw [hs]
 have loop : ∀ q i, i + q = n → ∀ (f : Bool) (r : Nat), f = (List.range i).any (fun j => decide (Q.getD j 0 < 0)) → r < n → (i = 0 → r = 0) → (0 < i → lst (fun i => cv.getD i 0) (fun i j => kl s.T i j (cv.getD i 0) (cv.getD j 0) (cols n (2 * n + 2))) (List.range i) none = some r) →
   Ev (fun k => spec_l05Run.l0 k cv (most : Int) (n : Int) [] f (r : Int) (i : Int) M Q (rowsM n (2 * n + 2) s.T) s.den s.bs) (encS n (2 * n + 2) (if feas n (fun i => Q.getD i 0) = true then (s, [], -1, true) else match rowB n (2 * n + 2) s (fun i => cv.getD i 0) with
    | none => (s, [], -1, false)
    | some r => goS n (2 * n + 2) most s (2 * n) r [])) := by
  intro q
  induction q with
  | zero =>
   intro i hi f r hf hr h0 h1
   obtain rfl : i = n := by omega
   refine evstep (fun k => by rw [spec_l05Run.l0]) (evneg (by rw [h.lQ]; omega) ?_)
   have hrow : rowB i (2 * i + 2) s (fun i => cv.getD i 0) = some r := h1 hn0
   have hfe : feas i (fun i => Q.getD i 0) = !f := by
    rw [hf]; unfold feas
    rw [List.not_any_eq_all_not]
    refine List.all_congr rfl (fun j => ?_)
    by_cases c : Q.getD j 0 < 0
    ·rw [decide_eq_true c, decide_eq_false (by show ¬ 0 ≤ Q.getD j 0; omega)]; rfl
    ·rw [decide_eq_false c, decide_eq_true (by show 0 ≤ Q.getD j 0; omega)]; rfl
   rw [hfe, hrow]
   cases f with
   | false =>
    rw [if_pos (show (!false) = true from rfl)]
    exact evneg (by decide) (evc rfl)
   | true =>
    rw [if_neg (by decide)]
    show Ev _ (encS i (2 * i + 2) (goS i (2 * i + 2) most s (2 * i) r []))
    refine evpos rfl ?_
    rw [w64 (x := 2 * (i : Int)) (by omega) (by omega), show (2 * (i : Int)) = ((2 * i : Nat) : Int) from by omega]
    cases most with
    | zero =>
     refine evstep (fun k => by rw [spec_l05Run.l1]) ?_
     exact (evneg (by show ¬ ((0 : Nat) : Int) < ((0 : Nat) : Int); omega) (evc rfl))
    | succ mm =>
     refine evstep (fun k => by rw [spec_l05Run.l1]) (evpos (by show ((0 : Nat) : Int) < ((mm + 1 : Nat) : Int); omega) (evneg (by rw [w64 (by omega) (by omega)]; omega) ?_))
     refine j2_eq hn hn0 rfl hA (mm + 1) hmost mm s (2 * i) r [] (by rw [← hs]; exact hok) (by simp) hr (by omega) ?_
     rw [← hT]; unfold tab0
     rw [if_neg (by omega), if_neg (by omega), if_pos rfl]
     have := (h.cb r hr).1
     show - cv.getD r 0 ≠ 0
     omega
  | succ q ih =>
   intro i hi f r hf hr h0 h1
   have hl := h.lQ
   have key := key_eq (T := s.T) hT2 (by omega) (by omega) (by omega) (show i < n by omega) hr (hcb i (by omega)) (hcb r hr) s.den s.bs
   obtain ⟨z, hz⟩ : ∃ z, kl s.T i r (cv.getD i 0) (cv.getD r 0) (cols n (2 * n + 2)) = z := ⟨_, rfl⟩
   rw [hz] at key
   have hnext : lst (fun i => cv.getD i 0) (fun i j => kl s.T i j (cv.getD i 0) (cv.getD j 0) (cols n (2 * n + 2))) (List.range (i + 1)) none = some (if z = true then i else r) := by
    rw [List.range_succ, lst_app2]
    by_cases c : i = 0
    ·subst c
     have := h0 rfl
     subst this
     simp only [List.range_zero, lst, bet]
     rw [if_pos ⟨(h.cb 0 hn0).1, trivial⟩]
     simp
    ·rw [h1 (by omega)]
     by_cases d : z = true
     ·rw [if_pos d]
      exact (if_pos ⟨(h.cb i (by omega)).1, hz.trans d⟩ : (if 0 < cv.getD i 0 ∧ kl s.T i r (cv.getD i 0) (cv.getD r 0) (cols n (2 * n + 2)) = true then some i else some r) = some i)
     ·rw [if_neg d]
      exact (if_neg (fun q => d (hz.symm.trans q.2)) : (if 0 < cv.getD i 0 ∧ kl s.T i r (cv.getD i 0) (cv.getD r 0) (cols n (2 * n + 2)) = true then some i else some r) = some r)
   refine evstep (fun k => by rw [spec_l05Run.l0]) (evpos (by rw [hl]; omega) ?_)
   have hw : wrap64 ((i : Int) + 1) = ((i + 1 : Nat) : Int) := by rw [w64 (by omega) (by omega)]; rfl
   have hfn : ∀ g : Bool, g = (f || decide (Q.getD i 0 < 0)) → g = (List.range (i + 1)).any (fun j => decide (Q.getD j 0 < 0)) := fun g hg => by rw [hg, List.range_succ, List.any_append, hf]; simp
   have step : ∀ g : Bool, g = (f || decide (Q.getD i 0 < 0)) → Ev (fun k => (spec_l05Key.f k (rowsM n (2 * n + 2) s.T) s.den s.bs (i : Int) (r : Int) (rd cv (i : Int)) (rd cv (r : Int))).bind fun t => if t = true then spec_l05Run.l0 k cv (most : Int) (n : Int) [] g (i : Int) (wrap64 ((i : Int) + 1)) M Q (rowsM n (2 * n + 2) s.T) s.den s.bs else spec_l05Run.l0 k cv (most : Int) (n : Int) [] g (r : Int) (wrap64 ((i : Int) + 1)) M Q (rowsM n (2 * n + 2) s.T) s.den s.bs) (encS n (2 * n + 2) (if feas n (fun i => Q.getD i 0) = true then (s, [], -1, true) else match rowB n (2 * n + 2) s (fun i => cv.getD i 0) with
    | none => (s, [], -1, false)
    | some r => goS n (2 * n + 2) most s (2 * n) r [])) := by
    intro g hg
    rw [rd_nat, rd_nat, hw]
    refine evbind key ?_
    by_cases d : z = true
    ·rw [if_pos d] at hnext
     exact evpos d (ih (i + 1) (by omega) g i (hfn g hg) (by omega) (fun e => by omega) (fun _ => hnext))
    ·rw [if_neg d] at hnext
     exact evneg d (ih (i + 1) (by omega) g r (hfn g hg) hr (fun e => by omega) (fun _ => hnext))
   by_cases cf : f = true
   ·refine evpos cf (evpos (by omega) (evpos (by omega) (evpos (by omega) (evpos (by omega) ?_))))
    exact step true (by rw [cf]; rfl)
   ·refine evneg cf (evpos (by omega) (evpos (by omega) (evpos (by omega) (evpos (by omega) ?_))))
    have e : decide (rd Q (i : Int) < 0) = (f || decide (Q.getD i 0 < 0)) := by rw [rd_nat]; cases f with | false => rfl | true => exact absurd rfl cf
    exact step _ e
 exact loop n 0 (by omega) false 0 rfl hn0 (fun _ => rfl) (fun e => by omega)
end Go.Proofs.Ythdoilfjcgickaa.Lsa
end
section
namespace Go.Proofs.Ythdoilfjcgickaa.Lsa
open Go.RowKit Go.Proofs.YthdoilfjcgickaaW.PrintWords Go.Proofs.YthdoilfjcgickaaW.PrintMore Go.Proofs.Ythdoilfjcgickaa.Ma Go.Proofs.Ythdoilfjcgickaa.Pr Go.Proofs.Ythdoilfjcgickaa.Dt Go.Proofs.Ythdoilfjcgickaa.Lk Go.Proofs.Ythdoilfjcgickaa.Lt Go.Proofs.Ythdoilfjcgickaa.Lq Go.Proofs.Ythdoilfjcgickaa.Lp
theorem goS_len (n m : Nat) : ∀ (q : Nat) (s : TS) (v r : Nat) (st : List (List Int)), st.length ≤ (goS n m q s v r st).2.1.length ∧ (0 < q → st.length < (goS n m q s v r st).2.1.length) := by
 intro q
 induction q with
 | zero => intro s v r st; exact ⟨Nat.le_refl _, fun h => absurd h (by omega)⟩
 | succ q ih =>
  intro s v r st
  suffices h : st.length < (goS n m (q + 1) s v r st).2.1.length from ⟨by omega, fun _ => h⟩
  unfold goS
  split
  ·simp
  ·generalize rowB n m _ _ = o
   cases o with
   | none => simp
   | some r' => have := (ih (s.step r v) (partner n (s.bs.getD r 0).toNat) r' (st ++ [[(v : Int), s.bs.getD r 0]])).1; simp at this ⊢; omega
def Rel (most : Nat) (R : TS × List (List Int) × Bool × Int × Int) (S : TS × List (List Int) × Int × Bool) : Prop :=
 (R.2.2.2.2 = 3 ∧ 200 < S.2.1.length) ∨ (R.2.2.2.2 = 0 ∧ S.2.1.length ≤ 200 ∧ S.1 = R.1 ∧ S.2.1 = R.2.1 ∧ S.2.2.2 = R.2.2.1 ∧ (most = 201 → R.2.2.1 = false → S.2.2.1 = R.2.2.2.1))
theorem go_rel (n m most : Nat) : ∀ (q : Nat) (s : TS) (v r : Nat) (st : List (List Int)), st.length + q = most → st.length ≤ 200 → Rel most (goI n m q s v r st) (goS n m q s v r st) := by
 intro q
 induction q with
 | zero => intro s v r st h1 h2; exact .inr ⟨rfl, h2, rfl, rfl, rfl, fun e => by omega⟩
 | succ q ih =>
  intro s v r st h1 h2
  by_cases c : st.length = 200
  ·have := (goS_len n m (q + 1) s v r st).2 (by omega)
   refine .inl ⟨?_, by omega⟩
   unfold goI
   rw [if_pos c]
  ·unfold goI goS
   rw [if_neg c]
   split
   ·exact .inr ⟨rfl, by simp; omega, rfl, rfl, rfl, fun _ e => by cases e⟩
   ·generalize rowB n m _ _ = o
    cases o with
    | none => exact .inr ⟨rfl, by simp; omega, rfl, rfl, rfl, fun _ _ => rfl⟩
    | some r' => exact ih _ _ _ _ (by simp; omega) (by simp; omega)
section
variable {M : List (List Int)} {Q cv : List Int} {n : Nat} (h : PC M Q cv n)
include h
theorem row0 : ∃ r, rowB n (2 * n + 2) (first n (enL M) (fun i => cv.getD i 0) (fun i => Q.getD i 0)) (fun i => cv.getD i 0) = some r := by
 cases e : rowB n (2 * n + 2) (first n (enL M) (fun i => cv.getD i 0) (fun i => Q.getD i 0)) (fun i => cv.getD i 0) with
 | none =>
  have h1 := rowB_none e 0 h.pos
  have h2 := (h.cb 0 h.pos).1
  exact absurd h1 (by show ¬ cv.getD 0 0 ≤ 0; omega)
 | some r => exact ⟨r, rfl⟩
theorem run_rel {most : Nat} : Rel most (runI n (enL M) (fun i => cv.getD i 0) (fun i => Q.getD i 0) most) (runS n (enL M) (fun i => cv.getD i 0) (fun i => Q.getD i 0) most) := by
 obtain ⟨r, hr⟩ := row0 h
 unfold runI runS
 split
 ·exact .inr ⟨rfl, by simp, rfl, rfl, rfl, fun _ e => by cases e⟩
 ·rw [hr]
  exact go_rel n _ most most _ _ _ [] (by simp) (by simp)
end
theorem code_eq (M : List (List Int)) (Q cv : List Int) (hQ : Q.length ≤ 1048576) (hcv : cv.length ≤ 1048576) : Ev (fun k => spec_l05Code.f k M Q cv) (lkCode M Q cv) := by
 classical
 have loop : ∀ q i, i + q = cv.length → Ev (fun k => spec_l05Code.l0 k cv (i : Int)) (if (cv.drop i).any badV = true then 2 else 0) := by
  intro q
  induction q with
  | zero =>
   intro i hi
   refine evstep (fun k => by rw [spec_l05Code.l0]) (evneg (by omega) (evc ?_))
   rw [List.drop_of_length_le (by omega)]; rfl
  | succ q ih =>
   intro i hi
   refine evstep (fun k => by rw [spec_l05Code.l0]) (evpos (by omega) (evpos (by omega) (evsome (Pb.sin_eq _ _ _) ?_)))
   rw [rd_nat, w64 (x := (i : Int) + 1) (by omega) (by omega), List.drop_eq_getElem_cons (show i < cv.length by omega), List.any_cons]
   have e : cv.getD i 0 = cv[i] := by rw [List.getD_eq_getElem?_getD, List.getElem?_eq_getElem (by omega)]; rfl
   rw [e]
   unfold badV
   by_cases c : 1 ≤ cv[i] ∧ cv[i] ≤ 20
   ·have d : (!(decide (1 ≤ cv[i]) && decide (cv[i] ≤ 20))) = false := by simp [c]
    rw [d, Bool.false_or]
    exact evpos (decide_eq_true c) (ih (i + 1) (by omega))
   ·have d : (!(decide (1 ≤ cv[i]) && decide (cv[i] ≤ 20))) = true := by
     rw [Bool.not_eq_true', Bool.and_eq_false_iff]
     by_cases c1 : 1 ≤ cv[i]
     ·right; exact decide_eq_false (fun c2 => c ⟨c1, c2⟩)
     ·left; exact decide_eq_false c1
    rw [d, Bool.true_or, if_pos rfl]
    exact evneg (by simpa using c) (evc rfl)
 unfold spec_l05Code.f lkCode
 refine evbind (Pb.spec_is M Q hQ (decide (Pb.POK M Q)) (by simp)) ?_
 rw [Pb.impl_is M Q (decide (Pb.POK M Q)) (by simp)]
 by_cases p : Pb.POK M Q
 ·rw [decide_eq_true p, if_pos rfl]
  refine evpos rfl ?_
  unfold cvB
  by_cases c : (cv.length : Int) = (Q.length : Int)
  ·refine evpos c ?_
   have := loop cv.length 0 (by omega)
   rw [List.drop_zero] at this
   rw [decide_eq_true c, Bool.true_and]
   cases hb : cv.any badV with
   | true => rw [hb] at this; exact this
   | false => rw [hb] at this; exact this
  ·refine evneg c (evc ?_)
   rw [decide_eq_false c]; rfl
 ·rw [decide_eq_false p, if_neg (by simp)]
  exact evneg (by decide) (evc rfl)
theorem spec_run {M : List (List Int)} {Q cv : List Int} (h : lkCode M Q cv = 0) (most : Nat) (hm : most ≤ 100000) : ∃ S : TS × List (List Int) × Int × Bool, Ev (fun k => spec_l05Run.f k M Q cv (most : Int)) (encS Q.length (2 * Q.length + 2) S) ∧ Rel most (lkR M Q cv most) S := ⟨_, run_eq (lkCode_pc h) most hm, run_rel (lkCode_pc h)⟩
end Go.Proofs.Ythdoilfjcgickaa.Lsa
end
section
namespace Go.Proofs.Ythdoilfjcgickaa.Fr
open Go.RowKit Go.Proofs.YthdoilfjcgickaaW.PrintWords Go.Proofs.YthdoilfjcgickaaW.PrintMore Go.Proofs.Ythdoilfjcgickaa.Ma Go.Proofs.Ythdoilfjcgickaa.Pr
def gc (a b : Int) : Int := (Int.gcd a b : Int)
def Big (x : Int) : Prop := -4611686018427387904 ≤ x ∧ x ≤ 4611686018427387904
theorem gc_zero (a : Int) : gc a 0 = if 0 ≤ a then a else -a := by
 unfold gc
 rw [Int.gcd_zero_right]
 split <;> omega
theorem gc_step (a b : Int) : gc a b = gc b (Int.tmod a b) := by
 unfold gc Int.gcd
 rw [Int.natAbs_tmod, Nat.gcd_comm, Nat.gcd_rec, Nat.gcd_comm]
theorem tmod_lt {a b : Int} (h : b ≠ 0) : (Int.tmod a b).natAbs < b.natAbs := by
 rw [Int.natAbs_tmod]
 exact Nat.mod_lt _ (by omega)
theorem abs_eq {a : Int} (h : Big a) : mx a (wrap64 (-a)) = if 0 ≤ a then a else -a := by
 unfold Big at h
 rw [w64 (by omega) (by omega)]
 unfold mx
 split <;> split <;> omega
theorem spec_loop : ∀ (n : Nat) (a b : Int), b.natAbs ≤ n → Big a → Big b → Ev (fun k => spec_l01Gcd.l0 k a b) (gc a b) := by
 intro n
 induction n with
 | zero =>
  intro a b hn ha hb
  obtain rfl : b = 0 := by omega
  refine evstep (fun k => by rw [spec_l01Gcd.l0]) (evpos rfl (evc ?_))
  rw [abs_eq ha, gc_zero]
 | succ n ih =>
  intro a b hn ha hb
  by_cases e : b = 0
  ·subst e
   refine evstep (fun k => by rw [spec_l01Gcd.l0]) (evpos rfl (evc ?_))
   rw [abs_eq ha, gc_zero]
  ·refine evstep (fun k => by rw [spec_l01Gcd.l0]) (evneg e ?_)
   have h := tmod_lt (a := a) e
   rw [gc_step]
   exact ih b (Int.tmod a b) (by omega) hb (by unfold Big at *; omega)
theorem spec_gcd (a b : Int) (ha : Big a) (hb : Big b) : Ev (fun k => spec_l01Gcd.f k a b) (gc a b) := spec_loop b.natAbs a b (Nat.le_refl _) ha hb
end Go.Proofs.Ythdoilfjcgickaa.Fr
end
section
namespace Go.Proofs.Ythdoilfjcgickaa.Fr
open Go.RowKit Go.Proofs.YthdoilfjcgickaaW.PrintWords Go.Proofs.YthdoilfjcgickaaW.PrintMore Go.Proofs.Ythdoilfjcgickaa.Ma Go.Proofs.Ythdoilfjcgickaa.Pr
theorem impl_loop : ∀ (n : Nat) (a b : Int), b.natAbs ≤ n → 0 ≤ a → 0 ≤ b → Ev (fun k => impl_common.l0 k a b) (gc a b) := by
 intro n
 induction n with
 | zero =>
  intro a b hn ha hb
  obtain rfl : b = 0 := by omega
  refine evstep (fun k => by rw [impl_common.l0]) (evpos rfl (evc ?_))
  rw [gc_zero, if_pos ha]
 | succ n ih =>
  intro a b hn ha hb
  by_cases e : b = 0
  ·subst e
   refine evstep (fun k => by rw [impl_common.l0]) (evpos rfl (evc ?_))
   rw [gc_zero, if_pos ha]
  ·refine evstep (fun k => by rw [impl_common.l0]) (evneg e ?_)
   have h := tmod_lt (a := a) e
   rw [gc_step]
   exact ih b (Int.tmod a b) (by omega) hb (Int.tmod_nonneg _ ha)
theorem gc_abs (a b : Int) : gc (if 0 ≤ a then a else -a) (if 0 ≤ b then b else -b) = gc a b := by
 unfold gc
 split <;> split <;> simp
theorem impl_gcd (a b : Int) (ha : Big a) (hb : Big b) : Ev (fun k => impl_common.f k a b) (gc a b) := by
 unfold impl_common.f impl_size.f
 refine evsome rfl (evsome rfl ?_)
 rw [abs_eq ha, abs_eq hb, ← gc_abs]
 exact impl_loop _ _ _ (Nat.le_refl _) (by split <;> omega) (by split <;> omega)
def isF (m a b : Int) : Bool := (decide (1 ≤ b) && decide (b ≤ m)) && ((decide (-m ≤ a) && decide (a ≤ m)) && (gc a b == 1))
theorem sin_b (n a b : Int) : spec_l01In.f n a b = some (decide (a ≤ n) && decide (n ≤ b)) := by
 unfold spec_l01In.f
 by_cases h : a ≤ n
 ·rw [if_pos (by omega)]; simp [h]
 ·rw [if_neg (by omega)]; simp [h]
theorem iin_b (n a b : Int) : impl_within.f n a b = some (decide (a ≤ n) && decide (n ≤ b)) := by
 unfold impl_within.f
 by_cases h : a ≤ n
 ·rw [if_pos (by omega)]; simp [h]
 ·rw [if_neg (by omega)]; simp [h]
theorem spec_isF (m a b : Int) (h0 : 0 ≤ m) (h1 : m ≤ 4611686018427387904) : Ev (fun k => spec_l01IsFrac.f k a b m) (isF m a b) := by
 unfold spec_l01IsFrac.f isF
 refine evsome (sin_b _ _ _) ?_
 cases c1 : (decide (1 ≤ b) && decide (b ≤ m)) with
 | false => exact evneg (by simp) (evc (by simp))
 | true =>
  refine evpos rfl (evsome (sin_b _ _ _) ?_)
  rw [w64 (by omega) (by omega)]
  cases c2 : (decide (-m ≤ a) && decide (a ≤ m)) with
  | false => exact evneg (by simp) (evc (by simp))
  | true =>
   simp only [Bool.and_eq_true, decide_eq_true_eq] at c1 c2
   refine evpos rfl (evbind (spec_gcd a b (by unfold Big; omega) (by unfold Big; omega)) (evc ?_))
   simp
theorem impl_isF (a b : Int) : Ev (fun k => impl_IsFrac.f k a b) (isF 1000000000 a b) := by
 unfold impl_IsFrac.f isF
 refine evsome (iin_b _ _ _) ?_
 cases c1 : (decide (1 ≤ b) && decide (b ≤ 1000000000)) with
 | false => exact evneg (by simp) (evc (by simp))
 | true =>
  refine evpos rfl ?_
  unfold impl_upTo.f
  rw [w64 (by omega) (by omega), iin_b]
  refine evsome rfl ?_
  cases c2 : (decide (-1000000000 ≤ a) && decide (a ≤ 1000000000)) with
  | false => exact evneg (by simp) (evc (by simp))
  | true =>
   simp only [Bool.and_eq_true, decide_eq_true_eq] at c1 c2
   refine evpos rfl (evbind (impl_gcd a b (by unfold Big; omega) (by unfold Big; omega)) (evc ?_))
   simp
end Go.Proofs.Ythdoilfjcgickaa.Fr
end
section
namespace Go.Proofs.Ythdoilfjcgickaa.Fr
open Go.RowKit Go.Proofs.YthdoilfjcgickaaW.PrintWords Go.Proofs.YthdoilfjcgickaaW.PrintMore Go.Proofs.Ythdoilfjcgickaa.Ma Go.Proofs.Ythdoilfjcgickaa.Pr
def fV (a d : Int) : Int × Int := (wrap64 (Int.tdiv a (gc a d)), wrap64 (Int.tdiv d (gc a d)))
def toldV (x : Int × Int) : Int × Int × Int := if isF 1000000000 x.1 x.2 = true then (x.1, x.2, 0) else (0, 0, 3)
def redV (a d : Int) : Int × Int × Int := toldV (fV a d)
theorem gc_pos {a d : Int} (hd : 0 < d) : 0 < gc a d := by
 unfold gc
 have : Int.gcd a d ≠ 0 := by rw [Ne, Int.gcd_eq_zero_iff]; intro h; omega
 omega
theorem red_eq (a d : Int) (ha : Big a) (hb : Big d) (hd : 0 < d) : Ev (fun k => impl_reduced.f k a d) (redV a d) := by
 have hg := gc_pos (a := a) hd
 unfold impl_reduced.f redV toldV fV
 refine evbind (impl_gcd a d ha hb) (evneg (by omega) (evneg (by omega) (evbind (impl_isF _ _) ?_)))
 by_cases c : isF 1000000000 (wrap64 (Int.tdiv a (gc a d))) (wrap64 (Int.tdiv d (gc a d))) = true
 ·exact evpos c (evc (congrArg some (if_pos c).symm))
 ·exact evneg c (evc (congrArg some (if_neg c).symm))
theorem sfrac_eq (a d : Int) (ha : Big a) (hb : Big d) (hd : 0 < d) : Ev (fun k => spec_l01Frac.f k a d) (fV a d) := by
 have hg := gc_pos (a := a) hd
 unfold spec_l01Frac.f fV
 exact evneg (by omega) (evbind (spec_gcd a d ha hb) (evneg (by omega) (evc rfl)))
theorem told_eq (x y : Int) : Ev (fun k => spec_l01Told.f k x y) (toldV (x, y)) := by
 unfold spec_l01Told.f toldV
 refine evbind (spec_isF 1000000000 x y (by decide) (by decide)) ?_
 by_cases c : isF 1000000000 x y = true
 ·exact evpos c (evc (congrArg some (if_pos c).symm))
 ·exact evneg c (evc (congrArg some (if_neg c).symm))
theorem redV_zero {d : Int} (hd : 0 < d) (h1 : d ≤ 4611686018427387904) : redV 0 d = (0, 1, 0) := by
 have e : gc 0 d = d := by unfold gc; rw [Int.gcd_zero_left]; omega
 unfold redV fV
 rw [e, Int.zero_tdiv, Int.tdiv_self (by omega), w64 (x := 0) (by omega) (by omega), w64 (x := 1) (by omega) (by omega)]
 unfold toldV
 exact if_pos (by decide)
theorem redV_one {d : Int} (hd : 0 < d) (h1 : d ≤ 4611686018427387904) : redV d d = (1, 1, 0) := by
 have e : gc d d = d := by unfold gc; rw [Int.gcd_self]; omega
 unfold redV fV
 rw [e, Int.tdiv_self (by omega), w64 (x := 1) (by omega) (by omega)]
 unfold toldV
 exact if_pos (by decide)
theorem told_zero : toldV (0, 1) = (0, 1, 0) := if_pos (by decide)
theorem told_one : toldV (1, 1) = (1, 1, 0) := if_pos (by decide)
end Go.Proofs.Ythdoilfjcgickaa.Fr
end
section
namespace Go.Proofs.Ythdoilfjcgickaa.Lsa
open Go.RowKit Go.Proofs.YthdoilfjcgickaaW.PrintWords Go.Proofs.YthdoilfjcgickaaW.PrintMore Go.Proofs.Ythdoilfjcgickaa.Ma Go.Proofs.Ythdoilfjcgickaa.Pr Go.Proofs.Ythdoilfjcgickaa.Dt Go.Proofs.Ythdoilfjcgickaa.Lk Go.Proofs.Ythdoilfjcgickaa.Lt Go.Proofs.Ythdoilfjcgickaa.Lq Go.Proofs.Ythdoilfjcgickaa.Lp Go.Proofs.Ythdoilfjcgickaa.Fr
def outL (f : Nat → Int × Int × Int) : Nat → Nat → List S65 → List S65 × Int
 | 0, _, acc => (acc, 0)
 | q + 1, x, acc => if (f x).2.2 = 0 then outL f q (x + 1) (acc ++ [⟨(f x).1, (f x).2.1⟩]) else ([], (f x).2.2)
theorem outL_len (f : Nat → Int × Int × Int) : ∀ q x acc, (outL f q x acc).1.length ≤ q + acc.length
 | 0, x, acc => by simp [outL]
 | q + 1, x, acc => by
  unfold outL
  split
  ·have := outL_len f q (x + 1) (acc ++ [⟨(f x).1, (f x).2.1⟩])
   simp at this ⊢; omega
  ·simp
theorem all_red (l : List Int) (d : Int) (hl : l.length ≤ 1000) (hd : 0 < d) (hb : Big d) (hx : ∀ i, i < l.length → Big (l.getD i 0)) : Ev (fun k => impl_allReduced.f k l d) (outL (fun x => redV (l.getD x 0) d) l.length 0 []) := by
 have loop : ∀ q x acc, x + q = l.length → acc.length ≤ x → Ev (fun k => impl_allReduced.l0 k d acc l (l.length : Int) (x : Int)) (outL (fun x => redV (l.getD x 0) d) q x acc) := by
  intro q
  induction q with
  | zero =>
   intro x acc h1 h2
   refine evstep (fun k => by rw [impl_allReduced.l0]) ?_
   exact evneg (by omega) (evc rfl)
  | succ q ih =>
   intro x acc h1 h2
   refine evstep (fun k => by rw [impl_allReduced.l0]) (evpos (by omega) (evpos (by omega) (evpos (by omega) ?_)))
   rw [rd_nat, w64 (x := (x : Int) + 1) (by omega) (by omega)]
   refine evbind (red_eq _ _ (hx x (by omega)) hb hd) ?_
   unfold outL
   by_cases c : (redV (l.getD x 0) d).2.2 = 0
   ·rw [if_pos c]
    exact evpos c (evpos (by omega) (ih (x + 1) _ (by omega) (by simp; omega)))
   ·rw [if_neg c]
    exact evneg c (evc rfl)
 exact loop l.length 0 [] (by omega) (Nat.le_refl _)
def lastB (s : TS) (ray x : Nat) : Nat → Option Int
 | 0 => none
 | i + 1 => if s.bs.getD i 0 = (x : Int) then some (wrap64 (-(s.T i ray))) else lastB s ray x i
theorem rayL_at (s : TS) (n ray x : Nat) (hx : x < 2 * n + 1) (hnn : ∀ i, i < n → 0 ≤ s.bs.getD i 0) : ∀ i, i ≤ n → (rayL s n ray i).getD x 0 = (lastB s ray x i).getD (if x = ray then s.den else 0)
 | 0, _ => by
  simp only [rayL, lastB, Option.getD_none]
  rw [List.getD_eq_getElem?_getD, List.getElem?_set]
  by_cases e : ray = x
  ·subst e; rw [if_pos rfl, if_pos (by simp; omega), if_pos rfl]; rfl
  ·rw [if_neg e, if_neg (Ne.symm e)]; simp [List.getElem?_replicate, hx]
 | i + 1, hi => by
  have ih := rayL_at s n ray x hx hnn i (by omega)
  have h0 := hnn i (by omega)
  simp only [rayL, lastB]
  rw [List.getD_eq_getElem?_getD, List.getElem?_set]
  by_cases e : s.bs.getD i 0 = (x : Int)
  ·rw [if_pos e, e, Int.toNat_natCast, if_pos rfl, if_pos (by rw [rayL_len]; exact hx)]; rfl
  ·rw [if_neg e, if_neg (by omega), ← List.getD_eq_getElem?_getD]
   exact ih
section
variable {n m : Nat} {s : TS} (hm : m = 2 * n + 2) (hn : n ≤ 5) (hn0 : 0 < n) (hT : ∀ a c, a < n → c < m → Bnd (s.T a c)) (hd : 0 < s.den) (hd2 : s.den ≤ 1920000000) (hl : s.bs.length = n) (hnn : ∀ i, i < n → 0 ≤ s.bs.getD i 0) {ray : Nat} (hr : ray < 2 * n + 1)
include hm hn hn0 hT hd hd2 hl hnn hr
theorem spec_ray (M : List (List Int)) (Q : List Int) (hQ : Q.length = n) : Ev (fun k => spec_LemkeRay.l0 k (ray : Int) [] 0 M Q (rowsM n m s.T) s.den s.bs) (outL (fun x => redV ((rayL s n ray n).getD x 0) s.den) (2 * n + 1) 0 []) := by
 have hbd : Big s.den := ⟨by omega, by omega⟩
 have neg : ∀ i, i < n → wrap64 (-(s.T i ray)) = -(s.T i ray) ∧ Big (-(s.T i ray)) := fun i hi => by
  have := hT i ray hi (by omega)
  unfold Bnd at this
  exact ⟨w64 (by omega) (by omega), by omega, by omega⟩
 have loop : ∀ q x acc, x + q = 2 * n + 1 → acc.length ≤ x → Ev (fun k => spec_LemkeRay.l0 k (ray : Int) acc (x : Int) M Q (rowsM n m s.T) s.den s.bs) (outL (fun x => redV ((rayL s n ray n).getD x 0) s.den) q x acc) := by
  intro q
  induction q with
  | zero =>
   intro x acc h1 h2
   refine evstep (fun k => by rw [spec_LemkeRay.l0]) ?_
   rw [hQ, w64 (x := 2 * (n : Int)) (by omega) (by omega)]
   exact evneg (by omega) (evc rfl)
  | succ q ih =>
   intro x acc h1 h2
   have fin : Ev (fun k => (spec_l01Told.f k (match lastB s ray x n with | some v => fV v s.den | none => if x = ray then (1, 1) else (0, 1)).1 (match lastB s ray x n with | some v => fV v s.den | none => if x = ray then (1, 1) else (0, 1)).2).bind fun bt1250 => (if bt1250.2.2 = 0 then (if acc.length < 8796093022208 then (spec_LemkeRay.l0 k (ray : Int) (acc ++ [(⟨bt1250.1, bt1250.2.1⟩ : S65)]) (wrap64 ((x : Int) + 1)) M Q (rowsM n m s.T) s.den s.bs) else (none)) else (some (([] : List (S65)), bt1250.2.2)))) (outL (fun x => redV ((rayL s n ray n).getD x 0) s.den) (q + 1) x acc) := by
    refine evbind (told_eq _ _) ?_
    have e : toldV (match lastB s ray x n with | some v => fV v s.den | none => if x = ray then (1, 1) else (0, 1)) = redV ((rayL s n ray n).getD x 0) s.den := by
     rw [rayL_at s n ray x (by omega) hnn n (Nat.le_refl _)]
     cases hb : lastB s ray x n with
     | some v => rfl
     | none =>
      by_cases c : x = ray
      ·show toldV (if x = ray then (1, 1) else (0, 1)) = redV (if x = ray then s.den else 0) s.den
       rw [if_pos c, if_pos c, told_one, redV_one hd (by omega)]
      ·show toldV (if x = ray then (1, 1) else (0, 1)) = redV (if x = ray then s.den else 0) s.den
       rw [if_neg c, if_neg c, told_zero, redV_zero hd (by omega)]
    rw [show (((match lastB s ray x n with | some v => fV v s.den | none => if x = ray then (1, 1) else (0, 1)) : Int × Int).1, ((match lastB s ray x n with | some v => fV v s.den | none => if x = ray then (1, 1) else (0, 1)) : Int × Int).2) = (match lastB s ray x n with | some v => fV v s.den | none => if x = ray then (1, 1) else (0, 1)) from rfl, e]
    unfold outL
    by_cases c : (redV ((rayL s n ray n).getD x 0) s.den).2.2 = 0
    ·rw [if_pos c]
     refine evpos c (evpos (by omega) ?_)
     rw [w64 (x := (x : Int) + 1) (by omega) (by omega)]
     exact ih (x + 1) _ (by omega) (by simp; omega)
    ·rw [if_neg c]
     exact evneg c (evc rfl)
   have inner : ∀ p i, i + p = n → ∀ o : Int × Int, o = (match lastB s ray x i with | some v => fV v s.den | none => if x = ray then (1, 1) else (0, 1)) → Ev (fun k => spec_LemkeRay.l1 k (ray : Int) acc (x : Int) (i : Int) M Q (rowsM n m s.T) s.den s.bs o.1 o.2) (outL (fun x => redV ((rayL s n ray n).getD x 0) s.den) (q + 1) x acc) := by
    intro p
    induction p with
    | zero =>
     intro i hi o ho
     obtain rfl : i = n := by omega
     subst ho
     refine evstep (fun k => by rw [spec_LemkeRay.l1]) (evneg (by rw [hl]; omega) ?_)
     exact fin
    | succ p ihp =>
     intro i hi o ho
     refine evstep (fun k => by rw [spec_LemkeRay.l1]) (evpos (by rw [hl]; omega) (evpos (by omega) ?_))
     rw [rd_nat, w64 (x := (i : Int) + 1) (by omega) (by omega)]
     by_cases c : s.bs.getD i 0 = (x : Int)
     ·refine evpos c (evpos (by rw [rowsM_len]; omega) (evpos (by omega) (evpos (by rw [at_rows (by omega), rowN_len]; omega) ?_)))
      rw [at_rows (show i < n by omega), at_num (by omega), (neg i (by omega)).1]
      refine evbind (sfrac_eq _ _ (neg i (by omega)).2 hbd hd) (ihp (i + 1) (by omega) _ ?_)
      simp only [lastB]
      rw [if_pos c, (neg i (by omega)).1]
     ·refine evneg c (ihp (i + 1) (by omega) o ?_)
      rw [ho]
      simp only [lastB]
      rw [if_neg c]
   refine evstep (fun k => by rw [spec_LemkeRay.l0]) ?_
   rw [hQ, w64 (x := 2 * (n : Int)) (by omega) (by omega)]
   refine evpos (by omega) ?_
   by_cases c : (x : Int) = (ray : Int)
   ·refine evpos c (evstep (fun k => by rw [spec_LemkeRay.j1]) ?_)
    exact inner n 0 (by omega) (1, 1) (by simp only [lastB]; rw [if_pos (by omega)])
   ·refine evneg c (evstep (fun k => by rw [spec_LemkeRay.j1]) ?_)
    exact inner n 0 (by omega) (0, 1) (by simp only [lastB]; rw [if_neg (by omega)])
 exact loop (2 * n + 1) 0 [] (by omega) (Nat.le_refl _)
theorem impl_ray : Ev (fun k => impl_allReduced.f k (rayL s n ray n) s.den) (outL (fun x => redV ((rayL s n ray n).getD x 0) s.den) (2 * n + 1) 0 []) := by
 have h := all_red (rayL s n ray n) s.den (by rw [rayL_len]; omega) hd ⟨by omega, by omega⟩ (fun x hx => ?_)
 ·rw [rayL_len] at h; exact h
 ·rw [rayL_len] at hx
  rw [rayL_at s n ray x hx hnn n (Nat.le_refl _)]
  have key : ∀ i, i ≤ n → Big ((lastB s ray x i).getD (if x = ray then s.den else 0)) := by
   intro i
   induction i with
   | zero =>
    intro _
    simp only [lastB, Option.getD_none]
    split
    ·exact ⟨by omega, by omega⟩
    ·exact ⟨by omega, by omega⟩
   | succ i ih =>
    intro hi
    simp only [lastB]
    split
    ·have := hT i ray (by omega) (by omega)
     unfold Bnd at this
     simp only [Option.getD_some]
     rw [w64 (by omega) (by omega)]
     exact ⟨by omega, by omega⟩
    ·exact ih (by omega)
  exact key n (Nat.le_refl _)
end
theorem ray_both (M : List (List Int)) (Q cv : List Int) (hQ : Q.length ≤ 1048576) (hcv : cv.length ≤ 1048576) : ∃ R : List S65 × Int, Ev (fun k => spec_LemkeRay.f k M Q cv) R ∧ Ev (fun k => impl_LemkeRay.f k M Q cv) R ∧ R.1.length ≤ 11 := by
 by_cases c : lkCode M Q cv = 0
 ·obtain ⟨S, h1, h2⟩ := spec_run c 201 (by omega)
  have hpc := lkCode_pc c
  obtain ⟨hok, hr0, hr1⟩ := lkR_ok hpc 201
  obtain ⟨R, hR⟩ : ∃ R, lkR M Q cv 201 = R := ⟨_, rfl⟩
  rw [hR] at h2 hok hr0 hr1
  have hA := first_small (n := Q.length) (M := enL M) (cv := fun i => cv.getD i 0) (q := fun i => Q.getD i 0) hpc.Mb (fun i hi => by have := hpc.cb i hi; omega) hpc.qb
  have hT : ∀ a c, a < Q.length → c < 2 * Q.length + 2 → Bnd (R.1.T a c) := fun a c ha hc => hok.abs hpc.le hA ha hc
  have hden := hok.den_le hpc.le hA
  unfold spec_LemkeRay.f impl_LemkeRay.f lrF
  rw [hR]
  rcases h2 with ⟨e1, e2⟩ | ⟨e1, e2, e3, e4, e5, e6⟩
  ·refine ⟨([], 3), ?_, ?_, by simp⟩
   ·refine evbind (code_eq M Q cv hQ hcv) (evpos c (evbind h1 ?_))
    exact evpos (by show (S.2.1.length : Int) > 200; omega) (evc rfl)
   ·refine evpos c (evneg (by rw [e1]; decide) (evc ?_))
    rw [e1]
  ·by_cases d : R.2.2.1 = true
   ·refine ⟨([], 4), ?_, ?_, by simp⟩
    ·refine evbind (code_eq M Q cv hQ hcv) (evpos c (evbind h1 (evneg (by show ¬ (S.2.1.length : Int) > 200; omega) ?_)))
     exact evpos (by show S.2.2.2 = true; rw [e5]; exact d) (evc rfl)
    ·exact evpos c (evpos e1 (evpos d (evc rfl)))
   ·obtain ⟨rn, hrn⟩ := Int.eq_ofNat_of_zero_le hr0
    have d' : R.2.2.1 = false := by cases h : R.2.2.1 with | true => exact absurd h d | false => rfl
    have hent := e6 rfl d'
    refine ⟨_, ?_, evpos c (evpos e1 (evneg d (impl_ray (s := R.1) rfl hpc.le hpc.pos hT hden.1 hden.2 hok.len hok.nn (show R.2.2.2.1.toNat < 2 * Q.length + 1 by omega)))), ?_⟩
    ·refine evbind (code_eq M Q cv hQ hcv) (evpos c (evbind h1 (evneg (by show ¬ (S.2.1.length : Int) > 200; omega) (evneg (by show ¬ S.2.2.2 = true; rw [e5]; exact d) ?_))))
     show Ev (fun k => spec_LemkeRay.l0 k S.2.2.1 [] 0 M Q (rowsM Q.length (2 * Q.length + 2) S.1.T) S.1.den S.1.bs) _
     rw [hent, e3, hrn, Int.toNat_natCast]
     exact spec_ray rfl hpc.le hpc.pos hT hden.1 hden.2 hok.len hok.nn (by omega) M Q rfl
    ·have := outL_len (fun x => redV ((rayL R.1 Q.length R.2.2.2.1.toNat Q.length).getD x 0) R.1.den) (2 * Q.length + 1) 0 []
     have := hpc.le
     simp at *; omega
 ·refine ⟨([], lkCode M Q cv), ?_, ?_, by simp⟩
  ·unfold spec_LemkeRay.f
   exact evbind (code_eq M Q cv hQ hcv) (evneg c (evc rfl))
  ·unfold impl_LemkeRay.f lrF
   exact evneg c (evc rfl)
end Go.Proofs.Ythdoilfjcgickaa.Lsa
end
section
namespace Go.Proofs.Ythdoilfjcgickaa.La
open Go.RowKit Go.Proofs.YthdoilfjcgickaaW.PrintWords Go.Proofs.YthdoilfjcgickaaW.PrintMore Go.Proofs.Ythdoilfjcgickaa.Ma Go.Proofs.Ythdoilfjcgickaa.Pr Go.Proofs.Ythdoilfjcgickaa.Hm
end Go.Proofs.Ythdoilfjcgickaa.La
end
section
namespace Go.Proofs.Ythdoilfjcgickaa.La
open Go.RowKit Go.Proofs.YthdoilfjcgickaaW.PrintWords Go.Proofs.YthdoilfjcgickaaW.PrintMore Go.Proofs.Ythdoilfjcgickaa.Ma Go.Proofs.Ythdoilfjcgickaa.Pr Go.Proofs.Ythdoilfjcgickaa.Hm Go.Proofs.Ythdoilfjcgickaa.Op
theorem szP2 {M : List (List Int)} {Q : List Int} (ga : GoodList (GoodList (GoodInt .i64)) M) (gb : GoodList (GoodInt .i64) Q) :
  ∃ t : Int, Ev (fun k => laws_szProblem.f k M Q 1048576) t ∧ t ≤ 1048576 ∧ (0 ≤ t → tot M ≤ 1048576 ∧ Q.length ≤ 1048576) := by
 have h1 := szSS M ga (n := 1048576) (by decide) (by decide)
 by_cases c : (1048576 : Int) < (tot M : Int)
 ·rw [if_pos c] at h1
  exact ⟨-1, by unfold laws_szProblem.f; exact evbind h1 (evpos (by decide) (evc rfl)), by decide, fun h => by omega⟩
 ·rw [if_neg c] at h1
  have h2 := sz_eq (l := Q) (n := 1048576 - (tot M : Int)) (by omega) (by omega) gb.1
  by_cases c2 : (1048576 : Int) - (tot M : Int) < (Q.length : Int)
  ·rw [if_pos c2] at h2
   exact ⟨-1, by unfold laws_szProblem.f; exact evbind h1 (evneg (by omega) (evsome h2 (evpos (by decide) (evc rfl)))), by decide, fun h => by omega⟩
  ·rw [if_neg c2] at h2
   exact ⟨_, by unfold laws_szProblem.f; exact evbind h1 (evneg (by omega) (evsome h2 (evneg (by omega) (evc rfl)))), by omega, fun _ => ⟨by omega, by omega⟩⟩
theorem fit_lensP {l : List (List Int)} (h : tot l ≤ 1048576) : lens l ≤ 1048576 := by unfold tot at h; omega
theorem toP {M : List (List Int)} {Q : List Int} (hM : Fit M) (hQ : Q.length ≤ 1048576) : Ev (fun k => laws_toProblem.f k M Q) (M, Q) := by
 unfold laws_toProblem.f
 exact evbind (fit_to hM) (evbind (toI Q hQ) (evc rfl))
theorem eqPr {M : List (List Int)} {Q : List Int} (hM : Fit M) (hQ : Q.length ≤ 1152921504606846976) : Ev (fun k => laws_eqProblem.f k M Q M Q) true := by
 unfold laws_eqProblem.f
 exact evbind (fit_eq hM) (evpos rfl (evbind (eqI_same Q hQ) (evpos rfl (evc rfl))))
end Go.Proofs.Ythdoilfjcgickaa.La
end
section
namespace Go.Proofs.Ythdoilfjcgickaa.La
open Go.RowKit Go.Proofs.YthdoilfjcgickaaW.PrintWords Go.Proofs.YthdoilfjcgickaaW.PrintMore Go.Proofs.Ythdoilfjcgickaa.Ma Go.Proofs.Ythdoilfjcgickaa.Pr Go.Proofs.Ythdoilfjcgickaa.Lw
theorem eqF (l : List S65) (hl : l.length ≤ 1048576) : Ev (fun k => laws_eqFracS.f k l l) true := by
 have key : ∀ (m i : Nat), i + m = l.length → Ev (fun k => laws_eqFracS.l0 k l l i) true := by
  intro m
  induction m with
  | zero =>
   intro i hi
   exact evstep (fun k => by rw [laws_eqFracS.l0]) (evneg (by omega) (evc rfl))
  | succ m ih =>
   intro i hi
   refine evstep (fun k => by rw [laws_eqFracS.l0]) (evpos (by omega) (evpos (by omega) (evpos (by omega) ?_)))
   unfold laws_eqFrac.f
   refine evsome (a := true) (by simp) (evpos rfl ?_)
   rw [w64 (by omega) (by omega)]
   exact ih (i + 1) (by omega)
 unfold laws_eqFracS.f
 exact evpos rfl (key l.length 0 (by omega))
theorem heldF (n : Int) (m : Nat) (hl : m ≤ 1099511627776) (h0 : 0 ≤ n) (h1 : n ≤ 1099511627776) : Ev (fun k => laws_heldFracS.f k (cntF n m) n) (n + 2 * m) := by
 have key : ∀ (j i : Nat), i + j = m → Ev (fun k => laws_heldFracS.l0 k (cntF n m) (n + 2 * i) i) (n + 2 * m) := by
  intro j
  induction j with
  | zero =>
   intro i hi
   refine evstep (fun k => by rw [laws_heldFracS.l0]) (evneg (by rw [cntF_length]; omega) (evc ?_))
   rw [show i = m from by omega]
  | succ j ih =>
   intro i hi
   have e : rd_T65 (cntF n m) (i : Int) = ⟨n + 2 * (i : Int), n + 2 * (i : Int) + 1⟩ := by
    have hi' : i < m := by omega
    simp [rd_T65, cntF, hi']
   refine evstep (fun k => by rw [laws_heldFracS.l0]) ?_
   rw [e, cntF_length, w64 (x := n + 2 * (i : Int) + 1) (by omega) (by omega), w64 (x := n + 2 * (i : Int) + 1 + 1) (by omega) (by omega), w64 (x := (i : Int) + 1) (by omega) (by omega)]
   refine evpos (by omega) (evpos (by omega) (evpos rfl (evpos rfl ?_)))
   have := ih (i + 1) (by omega)
   rw [show n + 2 * ((i + 1 : Nat) : Int) = n + 2 * i + 1 + 1 from by omega] at this
   exact this
 have := key m 0 (by omega)
 simpa [laws_heldFracS.f] using this
end Go.Proofs.Ythdoilfjcgickaa.La
end
section
namespace Go.Proofs.Ythdoilfjcgickaa.Pure
open Go.RowKit Go.Proofs.YthdoilfjcgickaaW.PrintWords Go.Proofs.YthdoilfjcgickaaW.PrintMore Go.Proofs.Ythdoilfjcgickaa.Ma Go.Proofs.Ythdoilfjcgickaa.Pr Go.Proofs.Ythdoilfjcgickaa.La Go.Proofs.Ythdoilfjcgickaa.Op
theorem FnExactLemkeRay : Say.FnExactLemkeRay := by
 intro M q c ga gb gc
 obtain ⟨t, ⟨k0, ht⟩, ht1, hf⟩ := szP2 ga gb
 by_cases cc : (c.length : Int) > 1048576
 ·refine ⟨0, ?_⟩
  unfold laws_FnExactLemkeRay.f
  rw [if_pos]
  exact .inr (.inl cc)
 by_cases c0 : t < 0
 ·refine ⟨k0, ?_⟩
  unfold laws_FnExactLemkeRay.f
  rw [if_pos]
  exact .inr (.inr ⟨t, cc, ht _ (Nat.le_refl _), c0⟩)
 ·obtain ⟨ta, tb⟩ := hf (by omega)
  have fa := fit_of ta
  have fl := fit_lensP ta
  have al := fa.len
  obtain ⟨R, ⟨k1, e1⟩, ⟨k2, e2⟩, hR⟩ := Lsa.ray_both M q c tb (by omega)
  obtain ⟨k3, e3⟩ := toP fa tb
  obtain ⟨k4, e4⟩ := toI c (by omega)
  obtain ⟨k5, e5⟩ := eqF R.1 (by omega)
  obtain ⟨k6, e6⟩ := eqPr (Q := q) fa (by omega)
  obtain ⟨k7, e7⟩ := eqI_same c (by omega)
  obtain ⟨k8, e8⟩ := heldF 1 R.1.length (by omega) (by decide) (by decide)
  refine ⟨k0 + k1 + k2 + k3 + k4 + k5 + k6 + k7 + k8, ?_⟩
  unfold laws_FnExactLemkeRay.f
  rw [if_pos]
  exact .inl ⟨t, R.1, R.2, _, _, _, cc, ht _ (by omega), c0, e3 _ (by omega), e4 _ (by omega), e1 _ (by omega), e2 _ (by omega), e5 _ (by omega), e6 _ (by omega), e7 _ (by omega), rfl, by omega, by omega, by omega, by omega, rfl, by omega, by omega, rfl, by omega, by omega, e8 _ (by omega)⟩
end Go.Proofs.Ythdoilfjcgickaa.Pure
end
section
namespace Go.Proofs.Ythdoilfjcgickaa.fnExactLemkeRay
open Go.ChangeShapes Go.WideShapes Go.ChangeAt Go.RowKit Go.Proofs.Ythdoilfjcgickaa.Op Go.Proofs.YthdoilfjcgickaaW.PrintWords
theorem own : ownKnob Try.prog.godebug = none := by kernel_rfl
theorem laidOut : laidOutB Try.prog = true := by kernel_rfl
theorem lifted (os : Os) (started : os.Started) (H : Type) (enc : TypeId × Value → H) :
  ReturnsInHanded {} Try.checked os 14 .any (Rows.fnExactLemkeRaySpec.pre6 enc Try.prog Try.f14 Rows.fnExactLemkeRayRow.domain false) (Rows.fnExactLemkeRaySpec.post enc Try.prog Try.f14 false true false false) := by
 refine returnsInHanded_of_change_sized (C := Try.checked) own started (by kernel_rfl) Try.func14
  (ChangeSpec.witness6 (enc := enc) (C := Try.checked) false ⟨#[], #[.agg #[.slice none 0 0, .slice none 0 0], .slice none 0 0], []⟩ 8 (by kernel_rfl) (by kernel_rfl) (by kernel_rfl) (by kernel_rfl)) ?_
 intro W base args ds gs before hval0 hW hcnd hsz0 _
 have hval : ∀ (j : Nat) t v, Try.f14.params[j]? = some t → args[j]? = some v → Value.okWide Try.prog W .any base t v := hval0
 have hW' := hW
 obtain ⟨p, q, hA0, hV, rfl, hfz, hnd⟩ := hW
 have hA : DataW.TrodAll enc Try.prog W 0 (fun _ => true) true Try.f14.params.toList args.toList ds p := hA0
 rw [Try.params14] at hA hval
 obtain ⟨v0, vs0, d0, ds0, p0, q0, hargs, rfl, rfl, h0, r0⟩ := trodAll_cons hA
 obtain ⟨v1, vs1, d1, ds1, p1, q1, rfl, rfl, rfl, h1, r1⟩ := trodAll_cons r0
 obtain ⟨rfl, rfl, rfl⟩ := trodAll_nil r1
 obtain rfl : args = #[v0, v1] := by cases args; simp_all
 obtain ⟨rfl, rfl⟩ := trodVars_none hV
 have k0 := h0
 have lt0 := trod_blocks k0
 obtain ⟨⟨x0_0, x0_1⟩, cs0, rfl, hk0, g0⟩ := arg_struct Try.underlying25 (opens_struct2 Try.underlying25 ⟨by kernel_rfl, by kernel_rfl⟩ ⟨by kernel_rfl, by kernel_rfl⟩ (by kernel_rfl) (opens_slice Try.underlying22 (by kernel_rfl) (opens_slice Try.underlying23 (by kernel_rfl) (opens_int Try.underlying2))) (opens_slice Try.underlying23 (by kernel_rfl) (opens_int Try.underlying2)) id (Kd.pair (Kd.slice 23 (Kd.slice 2 (Kd.int .i64))) (Kd.slice 2 (Kd.int .i64))) (fun _ _ _ h => h) (fun x => (GoodList (GoodList (GoodInt .i64))) x.1 ∧ (GoodList (GoodInt .i64)) x.2) (fun _ h0 h1 => ⟨h0, h1⟩)) (hval 0 25 v0 rfl rfl) h0
 obtain ⟨A0_0, c0_0, A0_1, c0_1, rfl, q0_0, r0_0, q0_1, r0_1⟩ := cells_slice_slice hk0
 have k1 := h1
 have lt1 := trod_blocks k1
 obtain ⟨A1, c1, l1, rfl, q1_0, r1_0, g1⟩ := arg_slice (d := (Kd.int .i64)) Try.underlying23 (by kernel_rfl) (opens_int Try.underlying2) (hval 1 23 v1 rfl rfl) h1
 obtain ⟨k, h⟩ := Pure.FnExactLemkeRay x0_0 x0_1 l1 g0.1 g0.2 g1
 clear hA0 hval0 hsz0
 refine (Pr.laws_FnExactLemkeRay.calls k A0_0 c0_0 x0_0 A0_1 c0_1 x0_1 A1 c1 l1 true W r0_0 q0_0 r0_1 q0_1 r1_0 q1_0 h).mono ?_
 rintro e W' ⟨rfl, bel0⟩
 have bel : Below W.heap.size W W' := by first | exact bel0 | exact bel0.below
 exact ⟨_, rfl, _, _, _, [], _, [], hW', trodAll_mk1 (shut_bool Try.underlying4 _), (trodAll_cons_mk (Below.trod laidOut (by kernel_rfl) (of_decide_eq_true (by kernel_rfl)) k0 bel lt0) (trodAll_cons_mk (Below.trod laidOut (by kernel_rfl) (of_decide_eq_true (by kernel_rfl)) k1 bel lt1) trodAll_mk0)), rfl, bel.frame _, fun h => by cases h⟩
theorem over : Rows.fnExactLemkeRayRow.holds Try.pinned (OpenSpec.ofChange Rows.fnExactLemkeRaySpec) :=
 OpenClaim.holds_of_wide 14 Try.f14 rfl rfl rfl rfl rfl rfl rfl ⟨rfl, rfl, rfl, rfl, rfl⟩ rfl rfl rfl rfl rfl (by kernel_rfl) Try.func14 (by kernel_rfl)
  (of_decide_eq_true (by kernel_rfl)) (by unfold Func.isWrapper; first | (rw [if_pos (by decide +kernel)]; kernel_rfl) | (rw [if_neg (by decide +kernel)]; exact ⟨rfl, rfl⟩))
  (fun os started H enc _ => lifted os started H enc)
theorem proved : Rows.FnExactLemkeRaySaid := over
#print axioms proved
end Go.Proofs.Ythdoilfjcgickaa.fnExactLemkeRay
namespace Go.Proofs.Ythdoilfjcgickaa
theorem fnExactLemkeRay_holds : Rows.FnExactLemkeRaySaid := fnExactLemkeRay.proved
end Go.Proofs.Ythdoilfjcgickaa
end
