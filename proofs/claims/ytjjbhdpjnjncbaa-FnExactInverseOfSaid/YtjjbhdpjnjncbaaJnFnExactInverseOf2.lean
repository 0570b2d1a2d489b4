/- Texts of one claim (the words of the kit's print that the claim uses, printed functions, and this session's own texts), joined in the order of their imports by this session's own program (merge.py). -/
import Derived.Test.YtjjbhdpjnjncbaaJnFnExactInverseOf0
import Derived.Test.YtjjbhdpjnjncbaaJnFnExactInverseOf1
set_option linter.unusedVariables false
set_option linter.unusedSimpArgs false
set_option maxHeartbeats 8000000
set_option maxRecDepth 100000
section
namespace Go.Proofs.Ytjjbhdpjnjncbaa.Pr
open Go.RowKit Go.Proofs.YtjjbhdpjnjncbaaW.PrintWords Go.Proofs.YtjjbhdpjnjncbaaW.PrintLast Go.Proofs.YtjjbhdpjnjncbaaW.PrintMore
attribute [local go_sem] max2_int min2_int max_two min_two max_three min_three max_four min_four
mutual
def spec_l01Solve.l0 : Nat → List (List Int) → List Int → List Int → Int → Option (List Int × Int)
 | 0, _, _, _, _ => none
 | k + 1, x0, x1, x6, x7 => if x7 < (x0.length : Int) then (spec_l01Solve.l1 k x0 x1 x6 x7 (([] : List (List Int))) 0) else ((spec_l01Det.f k x0).bind fun t1057 => (some (x6, t1057)))
def spec_l01Solve.l1 : Nat → List (List Int) → List Int → List Int → Int → List (List Int) → Int → Option (List Int × Int)
 | 0, _, _, _, _, _, _ => none
 | k + 1, x0, x1, x6, x7, x8, x9 => if x9 < (x0.length : Int) then (if 0 ≤ x9 then ((spec_l01Own.f (rd_L1 x0 x9)).bind fun t1062 => (if x9 < (x1.length : Int) then (if 0 ≤ x7 then (if x7 < (t1062.length : Int) then (if x8.length < 5864062014805 then (spec_l01Solve.l1 k x0 x1 x6 x7 (x8 ++ [(t1062.set (x7 : Int).toNat (rd x1 x9))]) (wrap64 (x9 + 1))) else (none)) else (none)) else (none)) else (none))) else (none)) else ((spec_l01Det.f k x8).bind fun t1070 => (if x6.length < 17592186044416 then (spec_l01Solve.l0 k x0 x1 (x6 ++ [t1070]) (wrap64 (x7 + 1))) else (none)))
end
def spec_l01Solve.f (k : Nat) (l0 : List (List Int)) (l1 : List Int) : Option (List Int × Int) := spec_l01Solve.l0 k l0 l1 (([] : List Int)) 0
theorem spec_l01Solve.mono_l : ∀ k, (∀ y0 y1 y2 y3, LeO (spec_l01Solve.l0 k y0 y1 y2 y3) (spec_l01Solve.l0 (k + 1) y0 y1 y2 y3)) ∧ (∀ y0 y1 y2 y3 y4 y5, LeO (spec_l01Solve.l1 k y0 y1 y2 y3 y4 y5) (spec_l01Solve.l1 (k + 1) y0 y1 y2 y3 y4 y5))
 | 0 => ⟨fun _ _ _ _ r h => by simp [spec_l01Solve.l0] at h, fun _ _ _ _ _ _ r h => by simp [spec_l01Solve.l1] at h⟩
 | k + 1 => by
  obtain ⟨ih0, ih1⟩ := spec_l01Solve.mono_l k
  refine ⟨?_, ?_⟩
  ·intro y0 y1 y2 y3
   unfold spec_l01Solve.l0
   repeat' first
   | (with_reducible exact ih0 _ _ _ _)
   | (with_reducible exact ih1 _ _ _ _ _ _)
   | (with_reducible exact spec_l01Det.mono _ _)
   | (with_reducible exact LeO.refl _)
   | (with_reducible exact LeO.none _)
   | (with_reducible refine LeO.ite ?_ ?_)
   | (with_reducible refine LeO.bind ?_ (fun _ => ?_))
   | exact ih0 _ _ _ _
   | exact ih1 _ _ _ _ _ _
   | exact spec_l01Det.mono _ _
   | exact LeO.none _
   | refine LeO.ite ?_ ?_
   | refine LeO.bind ?_ (fun _ => ?_)
  ·intro y0 y1 y2 y3 y4 y5
   unfold spec_l01Solve.l1
   repeat' first
   | (with_reducible exact ih0 _ _ _ _)
   | (with_reducible exact ih1 _ _ _ _ _ _)
   | (with_reducible exact spec_l01Det.mono _ _)
   | (with_reducible exact LeO.refl _)
   | (with_reducible exact LeO.none _)
   | (with_reducible refine LeO.ite ?_ ?_)
   | (with_reducible refine LeO.bind ?_ (fun _ => ?_))
   | exact ih0 _ _ _ _
   | exact ih1 _ _ _ _ _ _
   | exact spec_l01Det.mono _ _
   | exact LeO.none _
   | refine LeO.ite ?_ ?_
   | refine LeO.bind ?_ (fun _ => ?_)
theorem spec_l01Solve.mono : ∀ a0 a1 k, LeO (spec_l01Solve.f k a0 a1) (spec_l01Solve.f (k + 1) a0 a1) := by
 intro a0 a1 k
 obtain ⟨ih0, ih1⟩ := spec_l01Solve.mono_l k
 unfold spec_l01Solve.f
 repeat' first
   | (with_reducible exact ih0 _ _ _ _)
   | (with_reducible exact ih1 _ _ _ _ _ _)
   | (with_reducible exact spec_l01Det.mono _ _)
   | (with_reducible exact LeO.refl _)
   | (with_reducible exact LeO.none _)
   | (with_reducible refine LeO.ite ?_ ?_)
   | (with_reducible refine LeO.bind ?_ (fun _ => ?_))
   | exact ih0 _ _ _ _
   | exact ih1 _ _ _ _ _ _
   | exact spec_l01Det.mono _ _
   | exact LeO.none _
   | refine LeO.ite ?_ ?_
   | refine LeO.bind ?_ (fun _ => ?_)
theorem spec_l01Solve.calls (k : Nat) (A0 : Option Addr) (c0 : Nat) (l0 : List (List Int)) (A1 : Option Addr) (c1 : Nat) (l1 : List Int) (r1 : List Int) (r2 : Int) (w : World) (hr0 : Kd.C (Kd.slice 2 (Kd.int .i64)) w A0 l0.length l0) (hc0 : l0.length ≤ c0) (hr1 : Kd.C (Kd.int .i64) w A1 l1.length l1) (hc1 : l1.length ≤ c1) (h : spec_l01Solve.f k l0 l1 = some (r1, r2)) :
  Calls Try.prog 143 #[.slice A0 l0.length c0, .slice A1 l1.length c1] w fun e w' => ∃ v0_ : Value, e = .returned (.tuple #[v0_, .int .i64 r2]) ∧ Kd.R (Kd.int .i64) 2 w' w.heap.size (fun _ => True) v0_ r1 ∧ Below w.heap.size w w' := by
 have HR0 := Aside0.mk hr0
 have HC0 := Aside0.mk hc0
 clear hr0 hc0
 have HR1 := Aside0.mk hr1
 have HC1 := Aside0.mk hc1
 clear hr1 hc1
 have HB := Aside0.mk (Below.refl w.heap.size w)
 have H : (spec_l01Solve.l0 k l0 l1 (([] : List Int)) 0) = some (r1, r2) := h
 clear h
 obtain ⟨y1054, hy1054⟩ : ∃ y_ : List Int, y_ = (([] : List Int)) := ⟨_, rfl⟩
 replace H : (spec_l01Solve.l0 k l0 l1 y1054 0) = some (r1, r2) := by first | (rw [hy1054]; with_reducible exact H) | (have H2_ := (Option.bind_some _ _).symm.trans H; rw [hy1054]; with_reducible exact H2_) | (have H2_ := (Option.bind_some _ _).symm.trans H; with_reducible exact H2_) | with_reducible exact H | (rw [hy1054]; exact H) | exact H
 have Ny1054 := Aside0.mk hy1054
 clear hy1054
 have H' := Aside0.mk H
 clear H
 go_enter Try.func143, Try.ntmps143
 go_wp2_with (first | ((with_reducible refine gate_dst (N := 11) rfl ?_); refine Kd.R_lit (Kd.int .i64) _ 2 ?hg (N := 11) ?hd (xs := ([] : List Int)) (inner := []) (ok := fun _ => True) (okp := fun _ => True) ?hr ?hp (fun _ hk => hk) trivial (Below.refl _ _) (Nat.le_refl _) (by simp) ?_; (case hd => rfl); (case hg => rfl); (case hr => first | (go_simp; done) | (go_simp; rfl)); (case hp => exact (Reps.none _ _)); intro v1055 w3 ho4 hb hg_ hnew_; clear hg_ hnew_; (first | rw [← Ny1054.out] at ho4 | (simp only [Int.reduceToNat] at ho4; rw [← Ny1054.out] at ho4)); have n0_ := Aside0.mk (Kd.R_lower ho4 (below_size (by repeat (first | (with_reducible first | exact HB.out | apply below_alloc | apply pw_below_drewN | apply below_drew1) | exact HB.out)))); have n1_ := Aside0.mk (below_step (by repeat (first | (with_reducible first | exact HB.out | apply below_alloc | apply pw_below_drewN | apply below_drew1) | exact HB.out)) hb); clear HB; have HO1056 := n0_; have HB := n1_; clear n0_ n1_; clear hb ho4))
 go_loopg [6, 7] k (fun kq v6 v7 w' => ∃ (x6_1 : List Int) (x7_1 : Int), v7 = .int .i64 x7_1 ∧ Aside0 (spec_l01Solve.l0 kq l0 l1 x6_1 x7_1 = some (r1, r2)) ∧ Aside0 (kq ≤ k) ∧ Aside0 (Kd.R (Kd.int .i64) 2 w' w.heap.size (fun _ => True) v6 x6_1) ∧ Aside0 (Below w.heap.size w w'))
 case atStart => exact ⟨(y1054), (0), (by first | rfl | (simp; done) | (simp [*]; done)), H', ⟨Nat.le_refl _⟩, ⟨by (with_reducible repeat (first | apply Kd.R_alloc | apply Kd.R_drewN | apply Kd.R_drew)); exact HO1056.out⟩, ⟨by repeat (first | (with_reducible first | exact HB.out | apply below_alloc | apply pw_below_drewN | apply below_drew1) | exact HB.out)⟩⟩
 case round =>
  clear H'
  try clear c1
  try clear p2
  obtain ⟨x6_1, x7_1, rfl, HA, HK1, HO_6, HB⟩ := hrel
  cases gk with
  | zero => exact absurd HA.out (by simp [spec_l01Solve.l0])
  | succ k1 =>
   have H := HA.out
   clear HA
   simp only [spec_l01Solve.l0] at H
   by_cases c5 : x7_1 < (l0.length : Int)
   ·rw [if_pos c5] at H
    have c5b0 : decide (x7_1 < (l0.length : Int)) = true := decide_eq_true c5
    clear c5
    obtain ⟨y1058, hy1058⟩ : ∃ y_ : List (List Int), y_ = (([] : List (List Int))) := ⟨_, rfl⟩
    replace H : (spec_l01Solve.l1 k1 l0 l1 x6_1 x7_1 y1058 0) = some (r1, r2) := by first | (rw [hy1058]; with_reducible exact H) | (have H2_ := (Option.bind_some _ _).symm.trans H; rw [hy1058]; with_reducible exact H2_) | (have H2_ := (Option.bind_some _ _).symm.trans H; with_reducible exact H2_) | with_reducible exact H | (rw [hy1058]; exact H) | exact H
    have Ny1058 := Aside0.mk hy1058
    clear hy1058
    have H' := Aside0.mk H
    clear H
    go_wp2_with (first | ((with_reducible refine gate_dst (N := 18) rfl ?_); refine Kd.S_lit (Kd.slice 2 (Kd.int .i64)) _ 33 ?hg (N := 18) ?hd (xs := ([] : List (List Int))) (inner := []) (ok := fun _ => True) (okp := fun _ => True) ?hr ?hp (fun _ hk => hk) trivial (Below.refl _ _) (Nat.le_refl _) (by simp) ?_; (case hd => rfl); (case hg => rfl); (case hr => first | (go_simp; done) | (go_simp; rfl)); (case hp => exact (Reps.none _ _)); intro v1059 w6 ho7 hb hg_ hnew_; clear hg_ hnew_; (first | rw [← Ny1058.out] at ho7 | (simp only [Int.reduceToNat] at ho7; rw [← Ny1058.out] at ho7)); have n0_ := Aside0.mk (Kd.R_below (by (with_reducible repeat (first | apply Kd.R_alloc | apply Kd.R_drewN | apply Kd.R_drew)); exact HO_6.out) hb); have n1_ := Aside0.mk (Kd.S_lower (Kd.S_new' ho7 (Kd.R_lt (by (with_reducible repeat (first | apply Kd.R_alloc | apply Kd.R_drewN | apply Kd.R_drew)); exact HO_6.out))) (below_size (by repeat (first | (with_reducible first | exact HB.out | apply below_alloc | apply pw_below_drewN | apply below_drew1) | exact HB.out)))); have n2_ := Aside0.mk (below_step (by repeat (first | (with_reducible first | exact HB.out | apply below_alloc | apply pw_below_drewN | apply below_drew1) | exact HB.out)) hb); clear HO_6; clear HB; have HO_6 := n0_; have HO1060 := n1_; have HB := n2_; clear n0_ n1_ n2_; clear hb ho7))
    go_loopg [8, 9] k1 (fun kq v8 v9 w' => ∃ (x6_2 : List Int) (x8_2 : List (List Int)) (x9_2 : Int), v9 = .int .i64 x9_2 ∧ Aside0 (spec_l01Solve.l1 kq l0 l1 x6_2 x7_1 x8_2 x9_2 = some (r1, r2)) ∧ Aside0 (kq ≤ k1) ∧ Aside0 (Kd.R (Kd.int .i64) 2 w' w.heap.size (fun _ => True) u6 x6_2) ∧ Aside0 (Kd.S (Kd.slice 2 (Kd.int .i64)) 33 w' w.heap.size (fun k_ => some k_ ≠ (u6 : Value).ownBlock) v8 x8_2) ∧ Aside0 (Below w.heap.size w w'))
    case atStart => exact ⟨(x6_1), (y1058), (0), (by first | rfl | (simp; done) | (simp [*]; done)), H', ⟨Nat.le_refl _⟩, ⟨by (with_reducible repeat (first | apply Kd.R_alloc | apply Kd.R_drewN | apply Kd.R_drew)); exact HO_6.out⟩, ⟨by (with_reducible repeat (first | apply Kd.S_alloc | apply Kd.S_drewN | apply Kd.S_drew)); exact Kd.S_mono HO1060.out (fun _ hk => hk.2)⟩, ⟨by repeat (first | (with_reducible first | exact HB.out | apply below_alloc | apply pw_below_drewN | apply below_drew1) | exact HB.out)⟩⟩
    case round =>
     clear H'
     try clear c1
     try clear p2
     try clear c5
     try clear c5b0
     try clear p2
     obtain ⟨x6_2, x8_2, x9_2, rfl, HA, HK2, HO_6, HO_8, HB⟩ := hrel
     cases gk with
     | zero => exact absurd HA.out (by simp [spec_l01Solve.l1])
     | succ k2 =>
      have H := HA.out
      clear HA
      simp only [spec_l01Solve.l1] at H
      by_cases c8 : x9_2 < (l0.length : Int)
      ·rw [if_pos c8] at H
       have c8b0 : decide (x9_2 < (l0.length : Int)) = true := decide_eq_true c8
       clear c8
       by_cases c9 : 0 ≤ x9_2
       ·rw [if_pos c9] at H
        have c9b0 : decide (0 ≤ x9_2) = true := decide_eq_true c9
        clear c9
        replace H := Option.bind_eq_some_iff.mp H
        obtain ⟨t1062, A100, H⟩ := H
        replace H : (if x9_2 < (l1.length : Int) then (if 0 ≤ x7_1 then (if x7_1 < (t1062.length : Int) then (if x8_2.length < 5864062014805 then (spec_l01Solve.l1 k2 l0 l1 x6_2 x7_1 (x8_2 ++ [(t1062.set (x7_1 : Int).toNat (rd l1 x9_2))]) (wrap64 (x9_2 + 1))) else (none)) else (none)) else (none)) else (none)) = some (r1, r2) := H
        have A10 := Aside0.mk A100
        clear A100
        by_cases c11 : x9_2 < (l1.length : Int)
        ·rw [if_pos c11] at H
         have c11b0 : decide (x9_2 < (l1.length : Int)) = true := decide_eq_true c11
         clear c11
         by_cases c12 : 0 ≤ x7_1
         ·rw [if_pos c12] at H
          have c12b0 : decide (0 ≤ x7_1) = true := decide_eq_true c12
          clear c12
          by_cases c13 : x7_1 < (t1062.length : Int)
          ·rw [if_pos c13] at H
           have c13b0 : decide (x7_1 < (t1062.length : Int)) = true := decide_eq_true c13
           clear c13
           obtain ⟨y1066, hy1066⟩ : ∃ y_ : List Int, y_ = (t1062.set (x7_1 : Int).toNat (rd l1 x9_2)) := ⟨_, rfl⟩
           replace H : (if x8_2.length < 5864062014805 then (spec_l01Solve.l1 k2 l0 l1 x6_2 x7_1 (x8_2 ++ [y1066]) (wrap64 (x9_2 + 1))) else (none)) = some (r1, r2) := by first | (rw [hy1066]; with_reducible exact H) | (have H2_ := (Option.bind_some _ _).symm.trans H; rw [hy1066]; with_reducible exact H2_) | (have H2_ := (Option.bind_some _ _).symm.trans H; with_reducible exact H2_) | with_reducible exact H | (rw [hy1066]; exact H) | exact H
           have Ny1066 := Aside0.mk hy1066
           clear hy1066
           by_cases c15 : x8_2.length < 5864062014805
           ·rw [if_pos c15] at H
            have LMc15 := Aside0.mk c15
            clear c15
            obtain ⟨y1067, hy1067⟩ : ∃ y_ : List (List Int), y_ = (x8_2 ++ [y1066]) := ⟨_, rfl⟩
            replace H : (spec_l01Solve.l1 k2 l0 l1 x6_2 x7_1 y1067 (wrap64 (x9_2 + 1))) = some (r1, r2) := by first | (rw [hy1067]; with_reducible exact H) | (have H2_ := (Option.bind_some _ _).symm.trans H; rw [hy1067]; with_reducible exact H2_) | (have H2_ := (Option.bind_some _ _).symm.trans H; with_reducible exact H2_) | with_reducible exact H | (rw [hy1067]; exact H) | exact H
            have Ny1067 := Aside0.mk hy1067
            clear hy1067
            have H' := Aside0.mk H
            clear H
            have p1061 : 0 ≤ (x9_2 : Int) := of_decide_eq_true (by first | (with_reducible assumption) | assumption)
            have q1061 : x9_2 < (l0.length : Int) := of_decide_eq_true (by first | (with_reducible assumption) | assumption)
            obtain ⟨ad1061, A1061_0, c1061_0, e1061, hx1061_0, hl1061_0, hi1061_0⟩ := at_L1 HR0.out x9_2 p1061 q1061
            cases e1061
            replace hx1061_0 := (HB.out.cell (World.block_lt_of_cell? w _ hx1061_0)).trans hx1061_0
            have HR1061_0 := Aside0.mk hi1061_0
            have HC1061_0 := Aside0.mk hl1061_0
            clear hi1061_0 hl1061_0
            replace p1061 := eq_true p1061
            replace q1061 := eq_true q1061
            go_wp2_with (first | ((with_reducible refine gate_callee (f := 126) rfl ?_); refine goesL_ (some 29) rfl rfl Try.func126 (by kernel_rfl) rfl #[.slice A1061_0 (rd_L1 l0 x9_2).length c1061_0] rfl (by (try simp only [List.map_toArray, List.map_cons, List.map_nil]); first | done | rfl | (simp only [List.length_drop, List.length_take]; rfl)) ?_; (with_reducible refine (spec_l01Own.calls _ _ (rd_L1 l0 x9_2) t1062 _ ?side1 ?side2 A10.out).mono ?_); (case side1 => repeat (first | exact (Kd.C_below HR1061_0.out HB.out) | (with_reducible refine Kd.C_alloc ?_ _) | (with_reducible refine Kd.C_drewN ?_ _) | (with_reducible refine Kd.C_drew ?_))); (case side2 => exact HC1061_0.out); rintro e w16 ⟨v1063, rfl, ho0, hb⟩; refine ⟨_, rfl, ?_⟩; have n0_ := Aside0.mk (Kd.R_elder' (by (with_reducible repeat (first | apply Kd.R_alloc | apply Kd.R_drewN | apply Kd.R_drew)); exact HO_6.out) (Kd.R_base ho0) hb); have n1_ := Aside0.mk (Kd.S_elder' (by (with_reducible repeat (first | apply Kd.S_alloc | apply Kd.S_drewN | apply Kd.S_drew)); exact HO_8.out) (Kd.R_base ho0) hb); have n2_ := Aside0.mk (Kd.R_lower (Kd.R_new' ho0 (Kd.R_lt (by (with_reducible repeat (first | apply Kd.R_alloc | apply Kd.R_drewN | apply Kd.R_drew)); exact HO_6.out))) (below_size (by repeat (first | (with_reducible first | exact HB.out | apply below_alloc | apply pw_below_drewN | apply below_drew1) | exact HB.out)))); have n3_ := Aside0.mk (below_step (by repeat (first | (with_reducible first | exact HB.out | apply below_alloc | apply pw_below_drewN | apply below_drew1) | exact HB.out)) hb); clear HO_6; clear HO_8; clear HB; have HO_6 := n0_; have HO_8 := n1_; have HO1064 := n2_; have HB := n3_; clear n0_ n1_ n2_ n3_; (try clear hb); (try clear hb2); (try clear hk); (try clear hi); (try clear ho0); have p1065 : 0 ≤ (x9_2 : Int) := of_decide_eq_true (by first | (with_reducible assumption) | assumption); have q1065 : x9_2 < (l1.length : Int) := of_decide_eq_true (by first | (with_reducible assumption) | assumption); obtain ⟨ad1065, e1065, hx1065_0⟩ := Kd.at_int HR1.out x9_2 p1065 q1065; cases e1065; replace hx1065_0 := (HB.out.cell (World.block_lt_of_cell? w _ hx1065_0)).trans hx1065_0; replace p1065 := eq_true p1065; replace q1065 := eq_true q1065; have p14 : 0 ≤ (x7_1 : Int) := of_decide_eq_true (by first | (with_reducible assumption) | assumption); have q14 : (x7_1 : Int) < ((t1062.length : Int) : Int) := of_decide_eq_true (by first | (with_reducible assumption) | assumption); obtain ⟨go14, co14, eo14, gb14, gl14, cl14, HG14⟩ := Kd.R_form HO1064.out (by omega); (first | cases eo14 | (injection eo14 with ea_ en_ ec_; (first | subst ea_ | (injection ea_ with ea_; subst ea_)); subst ec_; clear en_)); have GB14 := Aside0.mk gb14; have GG14 := Aside0.mk HG14; clear gb14 gl14 HG14; obtain ⟨hx14_0, hf14_0⟩ := Kd.R_celln 0 HO1064.out (x7_1 : Int) p14 q14; replace p14 := eq_true p14; replace q14 := eq_true q14; have n_ := Aside0.mk (Kd.R_mono (ok' := (fun k_ => some k_ ≠ (u6 : Value).ownBlock)) HO1064.out (fun k_ hk => hk.2)); clear HO1064; have HO1064 := n_; clear n_; obtain ⟨hy17_, hz17_⟩ := Kd.R_celln 0 HO1064.out (x7_1 : Int) (of_decide_eq_true (by first | (with_reducible assumption) | assumption)) (of_decide_eq_true (by first | (with_reducible assumption) | assumption)); have HP17 := Kd.R_putg HO1064.out (x7_1 : Int) (rd l1 x9_2)) | ((with_reducible refine gate_store (t := 2) (p := 36) rfl ?_); refine store_event (t := 2) (p := 36) (v := ?vo_w18) (w1 := (w16.setCell ⟨go14, (x7_1 : Int).toNat, none⟩ (.int .i64 (rd l1 x9_2)))) ?hg ?ho ?hn ?hr ?_; (case ho => rfl); (case hg => rfl); (case hn => rfl); (case hr => first | (go_simp; done) | (go_simp; rfl)); intro w18 hw; have hg : w16.grownBy w18 (some go14) := (by rw [hw]; exact HP17.2); have hp_ : Kd.R (Kd.int .i64) 2 w18 w.heap.size (fun k_ => some k_ ≠ (u6 : Value).ownBlock) (.slice (some ⟨go14, 0, none⟩) t1062.length co14) y1066 := (by rw [hw, Ny1066.out]; exact HP17.1); clear HP17; have n0_ := Aside0.mk (Kd.R_after (v := (.slice (some ⟨go14, 0, none⟩) t1062.length co14)) (v1 := (.slice (some ⟨go14, 0, none⟩) t1062.length co14)) (ok := (fun _ => True)) (by (with_reducible repeat (first | apply Kd.R_alloc | apply Kd.R_drewN | apply Kd.R_drew)); exact HO_6.out) hg (.inl rfl)); have n1_ := Aside0.mk (Kd.S_after (v := (.slice (some ⟨go14, 0, none⟩) t1062.length co14)) (v1 := (.slice (some ⟨go14, 0, none⟩) t1062.length co14)) (ok := (fun k_ => some k_ ≠ (u6 : Value).ownBlock)) (by (with_reducible repeat (first | apply Kd.S_alloc | apply Kd.S_drewN | apply Kd.S_drew)); exact HO_8.out) hg (.inl rfl)); have n2_ := Aside0.mk (hp_); have n3_ := Aside0.mk ((by rw [hw]; exact below_set (HB.out) GB14.out : Below w.heap.size w w18)); clear HO_6; clear HO_8; clear HO1064; clear HB; have HO_6 := n0_; have HO_8 := n1_; have HO1064 := n2_; have HB := n3_; clear n0_ n1_ n2_ n3_; clear hg hw hp_) | ((with_reducible refine gate_builtin (b := .append) (xs := #[.tmp 37, .tmp 39]) rfl ?_); at_builtin; refine Kd.S_append (Kd.slice 2 (Kd.int .i64)) (w0 := w) w.heap.size rfl (.tmp 37) (.tmp 39) 22 33 (.slice none 0 0) 24 rfl Try.underlying22 info33 rfl (by decide) (by omega) u8 x8_2 y1066 [.slice (some ⟨go14, 0, none⟩) t1062.length co14] (fun k_ => some k_ ≠ (u6 : Value).ownBlock) (fun k_ => some k_ = (.slice (some ⟨go14, 0, none⟩) t1062.length co14 : Value).ownBlock) rfl rfl ?aP (fun k_ hk_ => ((Kd.R_mono (ok' := fun k_ => ((fun k_ => some k_ ≠ (u6 : Value).ownBlock)) k_ ∧ some k_ ≠ (u8 : Value).ownBlock) (Kd.R_apart' (HO1064.out) (Kd.S_typed HO_8.out) (by decide)) (fun k_ hk => ⟨hk.1, hk.2⟩))).1 k_ hk_.symm) ?aF ?aO ?aB ?aS ?aL ?_; (case aP => exact Kd.M_row (Kd.R_mono (Kd.R_tight rfl (Kd.R_mono (ok' := fun k_ => ((fun k_ => some k_ ≠ (u6 : Value).ownBlock)) k_ ∧ some k_ ≠ (u8 : Value).ownBlock) (Kd.R_apart' (HO1064.out) (Kd.S_typed HO_8.out) (by decide)) (fun k_ hk => ⟨hk.1, hk.2⟩))) (fun _ h_ => h_))); (case aB => exact (by repeat (first | (with_reducible first | exact HB.out | apply below_alloc | apply pw_below_drewN | apply below_drew1) | exact HB.out))); (case aF => exact (fun k_ hk => Kd.fresh' (Kd.R_lt (by (with_reducible repeat (first | apply Kd.R_alloc | apply Kd.R_drewN | apply Kd.R_drew)); exact HO_6.out)) k_ hk)); (case aO => exact (by (with_reducible repeat (first | apply Kd.S_alloc | apply Kd.S_drewN | apply Kd.S_drew)); exact Kd.S_mono HO_8.out (fun k_ hk => ⟨hk.1, fun e_ => hk.2 e_⟩))); (case aS => exact (below_size (by repeat (first | (with_reducible first | exact HB.out | apply below_alloc | apply pw_below_drewN | apply below_drew1) | exact HB.out)))); (case aL => have := LMc15.out; omega); intro v1068 w19 ho hb hg hat; rw [← Ny1067.out] at ho; have n0_ := Aside0.mk (Kd.R_over' (by (with_reducible repeat (first | apply Kd.R_alloc | apply Kd.R_drewN | apply Kd.R_drew)); exact HO_6.out) (Kd.S_typed (by (with_reducible repeat (first | apply Kd.S_alloc | apply Kd.S_drewN | apply Kd.S_drew)); exact HO_8.out)) (by decide) hg); have n1_ := Aside0.mk (hb); have n2_ := Aside0.mk (ho); clear HO_6; clear HB; clear HO_8; clear HO1064; have HO_6 := n0_; have HB := n1_; have HO1069 := n2_; clear n0_ n1_ n2_; clear ho hb hg hat))
            go_roundg k2
            case measure => have := HK1.out; have := HK2.out; omega
            case rel => exact ⟨(x6_2), (y1067), (wrap64 (x9_2 + 1)), (by first | rfl | (simp; done) | (simp [*]; done)), H', ⟨by have := HK1.out; have := HK2.out; omega⟩, ⟨by (with_reducible repeat (first | apply Kd.R_alloc | apply Kd.R_drewN | apply Kd.R_drew)); exact Kd.R_mono HO_6.out (fun _ hk => trivial)⟩, ⟨by (with_reducible repeat (first | apply Kd.S_alloc | apply Kd.S_drewN | apply Kd.S_drew)); exact HO1069.out⟩, ⟨by repeat (first | (with_reducible first | exact HB.out | apply below_alloc | apply pw_below_drewN | apply below_drew1) | exact HB.out)⟩⟩
           ·rw [if_neg c15] at H
            exact absurd H (by simp)
          ·rw [if_neg c13] at H
           exact absurd H (by simp)
         ·rw [if_neg c12] at H
          exact absurd H (by simp)
        ·rw [if_neg c11] at H
         exact absurd H (by simp)
       ·rw [if_neg c9] at H
        exact absurd H (by simp)
      ·rw [if_neg c8] at H
       have c8b0 : decide (x9_2 < (l0.length : Int)) = false := decide_eq_false c8
       clear c8
       replace H := Option.bind_eq_some_iff.mp H
       obtain ⟨t1070, A200, H⟩ := H
       replace H : (if x6_2.length < 17592186044416 then (spec_l01Solve.l0 k2 l0 l1 (x6_2 ++ [t1070]) (wrap64 (x7_1 + 1))) else (none)) = some (r1, r2) := H
       have A20 := Aside0.mk A200
       clear A200
       by_cases c21 : x6_2.length < 17592186044416
       ·rw [if_pos c21] at H
        have LMc21 := Aside0.mk c21
        clear c21
        obtain ⟨y1071, hy1071⟩ : ∃ y_ : List Int, y_ = (x6_2 ++ [t1070]) := ⟨_, rfl⟩
        replace H : (spec_l01Solve.l0 k2 l0 l1 y1071 (wrap64 (x7_1 + 1))) = some (r1, r2) := by first | (rw [hy1071]; with_reducible exact H) | (have H2_ := (Option.bind_some _ _).symm.trans H; rw [hy1071]; with_reducible exact H2_) | (have H2_ := (Option.bind_some _ _).symm.trans H; with_reducible exact H2_) | with_reducible exact H | (rw [hy1071]; exact H) | exact H
        have Ny1071 := Aside0.mk hy1071
        clear hy1071
        have H' := Aside0.mk H
        clear H
        obtain ⟨Ao22, co22, eo22⟩ := Kd.S_slice HO_8.out
        subst eo22
        go_wp2_with (first | ((with_reducible refine gate_callee (f := 88) rfl ?_); refine goesL_ (some 43) rfl rfl Try.func88 (by kernel_rfl) rfl #[.slice Ao22 x8_2.length co22] rfl (by (try simp only [List.map_toArray, List.map_cons, List.map_nil]); first | done | rfl | (simp only [List.length_drop, List.length_take]; rfl)) ?_; (with_reducible refine (spec_l01Det.calls k2 _ _ x8_2 t1070 _ ?side1 ?side2 A20.out).mono ?_); (case side1 => repeat (first | exact (Kd.S_reads' HO_8.out).2.2 | (with_reducible refine Kd.C_alloc ?_ _) | (with_reducible refine Kd.C_drewN ?_ _) | (with_reducible refine Kd.C_drew ?_))); (case side2 => exact (Kd.S_reads' HO_8.out).2.1); rintro e w23 ⟨rfl, hb⟩; refine ⟨_, rfl, ?_⟩; have n0_ := Aside0.mk (Kd.R_below (by (with_reducible repeat (first | apply Kd.R_alloc | apply Kd.R_drewN | apply Kd.R_drew)); exact HO_6.out) hb); have n1_ := Aside0.mk (Kd.S_below (by (with_reducible repeat (first | apply Kd.S_alloc | apply Kd.S_drewN | apply Kd.S_drew)); exact HO_8.out) hb); have n2_ := Aside0.mk (below_step (by repeat (first | (with_reducible first | exact HB.out | apply below_alloc | apply pw_below_drewN | apply below_drew1) | exact HB.out)) hb); clear HO_6; clear HO_8; clear HB; have HO_6 := n0_; have HO_8 := n1_; have HB := n2_; clear n0_ n1_ n2_; (try clear hb); (try clear hb2); (try clear hk); (try clear hi)) | ((with_reducible refine gate_builtin (b := .append) (xs := #[.tmp 41, .tmp 44]) rfl ?_); at_builtin; refine Kd.R_append (Kd.int .i64) (w0 := w) w.heap.size rfl (.tmp 41) (.tmp 44) 33 2 (.int .i64 0) 8 rfl Try.underlying33 info2 rfl (by decide) (by omega) u6 x6_2 t1070 [.int .i64 t1070] (fun _ => True) (fun _ => False) rfl rfl ?aP (fun _ hk => hk.elim) ?aF ?aO ?aB ?aS ?aL ?_; (case aP => exact rfl); (case aB => exact (by repeat (first | (with_reducible first | exact HB.out | apply below_alloc | apply pw_below_drewN | apply below_drew1) | exact HB.out))); (case aF => exact (fun _ _ => trivial)); (case aO => exact (by (with_reducible repeat (first | apply Kd.R_alloc | apply Kd.R_drewN | apply Kd.R_drew)); exact HO_6.out)); (case aS => exact (below_size (by repeat (first | (with_reducible first | exact HB.out | apply below_alloc | apply pw_below_drewN | apply below_drew1) | exact HB.out)))); (case aL => have := LMc21.out; omega); intro v1072 w24 ho hb hg hat; rw [← Ny1071.out] at ho; have n0_ := Aside0.mk (Kd.S_after (ok := (fun _ => True)) (by (with_reducible repeat (first | apply Kd.S_alloc | apply Kd.S_drewN | apply Kd.S_drew)); exact Kd.S_mono HO_8.out (fun _ hk => ⟨trivial, hk⟩)) hg hat); have n1_ := Aside0.mk (hb); have n2_ := Aside0.mk (ho); clear HO_8; clear HB; clear HO_6; have HO_8 := n0_; have HB := n1_; have HO1073 := n2_; clear n0_ n1_ n2_; clear ho hb hg hat))
        go_roundg k2
        case measure => have := HK1.out; have := HK2.out; omega
        case rel => exact ⟨(y1071), (wrap64 (x7_1 + 1)), (by first | rfl | (simp; done) | (simp [*]; done)), H', ⟨by have := HK1.out; have := HK2.out; omega⟩, ⟨by (with_reducible repeat (first | apply Kd.R_alloc | apply Kd.R_drewN | apply Kd.R_drew)); exact HO1073.out⟩, ⟨by repeat (first | (with_reducible first | exact HB.out | apply below_alloc | apply pw_below_drewN | apply below_drew1) | exact HB.out)⟩⟩
       ·rw [if_neg c21] at H
        exact absurd H (by simp)
   ·rw [if_neg c5] at H
    have c5b0 : decide (x7_1 < (l0.length : Int)) = false := decide_eq_false c5
    clear c5
    replace H := Option.bind_eq_some_iff.mp H
    obtain ⟨t1057, A250, H⟩ := H
    replace H : (some (x6_1, t1057)) = some (r1, r2) := H
    have A25 := Aside0.mk A250
    clear A250
    simp only [Option.some.injEq, Prod.mk.injEq] at H
    obtain ⟨rfl, rfl⟩ := H
    go_wp2_with (first | ((with_reducible refine gate_callee (f := 88) rfl ?_); refine goesL_ (some 48) rfl rfl Try.func88 (by kernel_rfl) rfl #[.slice A0 l0.length c0] rfl (by (try simp only [List.map_toArray, List.map_cons, List.map_nil]); first | done | rfl | (simp only [List.length_drop, List.length_take]; rfl)) ?_; (with_reducible refine (spec_l01Det.calls k1 _ _ l0 t1057 _ ?side1 ?side2 A25.out).mono ?_); (case side1 => repeat (first | exact (Kd.C_below HR0.out HB.out) | (with_reducible refine Kd.C_alloc ?_ _) | (with_reducible refine Kd.C_drewN ?_ _) | (with_reducible refine Kd.C_drew ?_))); (case side2 => exact HC0.out); rintro e w26 ⟨rfl, hb⟩; refine ⟨_, rfl, ?_⟩; have n0_ := Aside0.mk (Kd.R_below (by (with_reducible repeat (first | apply Kd.R_alloc | apply Kd.R_drewN | apply Kd.R_drew)); exact HO_6.out) hb); have n1_ := Aside0.mk (below_step (by repeat (first | (with_reducible first | exact HB.out | apply below_alloc | apply pw_below_drewN | apply below_drew1) | exact HB.out)) hb); clear HO_6; clear HB; have HO_6 := n0_; have HB := n1_; clear n0_ n1_; (try clear hb); (try clear hb2); (try clear hk); (try clear hi)))
    go_ret2
    exact ⟨_, by first | rfl | (simp [errW_none, errW_some] <;> rfl) | (simp [*, errW_none, errW_some] <;> rfl), by (with_reducible repeat (first | apply Kd.R_alloc | apply Kd.R_drewN | apply Kd.R_drew)); exact HO_6.out, by repeat (first | (with_reducible first | exact HB.out | apply below_alloc | apply pw_below_drewN | apply below_drew1) | exact HB.out)⟩
mutual
def spec_l04Pivot.j0 : Nat → Int → Int → List (List Int) → List Int → Int → Int → List (List Int) → List Int → Option (Int × (List (List Int)) × List Int × Bool)
 | 0, _, _, _, _, _, _, _, _ => none
 | k + 1, x1, x6, x7, x8, x9, x10, x1075000, x1075001 => spec_l04Pivot.l0 k x1 x6 x7 x8 x10 0 x1075000 x1075001 (wrap64 (x10 * x9)) (([] : List (List Int))) (([] : List Int))
def spec_l04Pivot.l0 : Nat → Int → Int → List (List Int) → List Int → Int → Int → List (List Int) → List Int → Int → List (List Int) → List Int → Option (Int × (List (List Int)) × List Int × Bool)
 | 0, _, _, _, _, _, _, _, _, _, _, _ => none
 | k + 1, x1, x6, x7, x8, x10, x12, x1075000, x1075001, x1087000, x1087001, x1087002 => if x12 < x6 then (if 0 ≤ x6 then (if (x6 : Int).toNat ≤ 35184372088832 then (if x1087001.length < 5864062014805 then (if 0 ≤ x12 then (if x12 < (x8.length : Int) then (if x1087002.length < 17592186044416 then (spec_l04Pivot.l0 k x1 x6 x7 x8 x10 (wrap64 (x12 + 1)) x1075000 x1075001 x1087000 (x1087001 ++ [(List.replicate (x6 : Int).toNat 0)]) (x1087002 ++ [wrap64 (x10 * (rd x8 x12))])) else (none)) else (none)) else (none)) else (none)) else (none)) else (none)) else (spec_l04Pivot.l1 k x1 x6 x7 x10 0 x1075000 x1075001 x1087000 x1087001 x1087002)
def spec_l04Pivot.l1 : Nat → Int → Int → List (List Int) → Int → Int → List (List Int) → List Int → Int → List (List Int) → List Int → Option (Int × (List (List Int)) × List Int × Bool)
 | 0, _, _, _, _, _, _, _, _, _, _ => none
 | k + 1, x1, x6, x7, x10, x13, x1075000, x1075001, x1087000, x1087001, x1087002 => if x13 < x6 then (if 0 ≤ x6 then (if (x6 : Int).toNat ≤ 35184372088832 then (spec_l04Pivot.l2 k x1 x6 x7 x10 x13 (List.replicate (x6 : Int).toNat 0) 0 x1075000 x1075001 x1087000 x1087001 x1087002) else (none)) else (none)) else (some (x1087000, x1087001, x1087002, true))
def spec_l04Pivot.l2 : Nat → Int → Int → List (List Int) → Int → Int → List Int → Int → List (List Int) → List Int → Int → List (List Int) → List Int → Option (Int × (List (List Int)) × List Int × Bool)
 | 0, _, _, _, _, _, _, _, _, _, _, _, _ => none
 | k + 1, x1, x6, x7, x10, x13, x14, x15, x1075000, x1075001, x1087000, x1087001, x1087002 => if x15 < x6 then (if 0 ≤ (IntKind.u64.wrap (x13)) then (if (Go.bits .and .i64 (shr .i64 x1 (IntKind.u64.wrap (x13))) 1) = 0 then (if 0 ≤ x15 then (if x15 < (x1075000.length : Int) then (if 0 ≤ x13 then (if x13 < ((rd_L1 x1075000 x15).length : Int) then (if x15 < (x14.length : Int) then (spec_l04Pivot.l2 k x1 x6 x7 x10 x13 (x14.set (x15 : Int).toNat (rd (rd_L1 x1075000 x15) x13)) (wrap64 (x15 + 1)) x1075000 x1075001 x1087000 x1087001 x1087002) else (none)) else (none)) else (none)) else (none)) else (none)) else (spec_l04Pivot.l2 k x1 x6 x7 x10 x13 x14 (wrap64 (x15 + 1)) x1075000 x1075001 x1087000 x1087001 x1087002)) else (none)) else (if 0 ≤ (IntKind.u64.wrap (x13)) then (if (Go.bits .and .i64 (shr .i64 x1 (IntKind.u64.wrap (x13))) 1) = 1 then (if 0 ≤ x13 then (if x13 < (x14.length : Int) then (spec_l04Pivot.j4 k x1 x6 x7 x10 x13 (x14.set (x13 : Int).toNat (-1)) x1075000 x1075001 x1087000 x1087001 x1087002) else (none)) else (none)) else (spec_l04Pivot.j4 k x1 x6 x7 x10 x13 x14 x1075000 x1075001 x1087000 x1087001 x1087002)) else (none))
def spec_l04Pivot.j4 : Nat → Int → Int → List (List Int) → Int → Int → List Int → List (List Int) → List Int → Int → List (List Int) → List Int → Option (Int × (List (List Int)) × List Int × Bool)
 | 0, _, _, _, _, _, _, _, _, _, _, _ => none
 | k + 1, x1, x6, x7, x10, x13, x14, x1075000, x1075001, x1087000, x1087001, x1087002 => (spec_l01Solve.f k x7 x14).bind fun bt1104 => (spec_l04Pivot.l3 k x1 x6 x7 x10 x13 bt1104.1 0 x1075000 x1075001 x1087000 x1087001 x1087002)
def spec_l04Pivot.l3 : Nat → Int → Int → List (List Int) → Int → Int → List Int → Int → List (List Int) → List Int → Int → List (List Int) → List Int → Option (Int × (List (List Int)) × List Int × Bool)
 | 0, _, _, _, _, _, _, _, _, _, _, _, _ => none
 | k + 1, x1, x6, x7, x10, x13, x16, x18, x1075000, x1075001, x1087000, x1087001, x1087002 => if x18 < x6 then (if 0 ≤ x18 then (if x18 < (x1087001.length : Int) then (if x18 < (x16.length : Int) then (if 0 ≤ x13 then (if x13 < ((rd_L1 x1087001 x18).length : Int) then (spec_l04Pivot.l3 k x1 x6 x7 x10 x13 x16 (wrap64 (x18 + 1)) x1075000 x1075001 x1087000 (x1087001.set (x18 : Int).toNat ((rd_L1 x1087001 x18).set (x13 : Int).toNat (wrap64 (x10 * (rd x16 x18))))) x1087002) else (none)) else (none)) else (none)) else (none)) else (none)) else (spec_l04Pivot.l1 k x1 x6 x7 x10 (wrap64 (x13 + 1)) x1075000 x1075001 x1087000 x1087001 x1087002)
end
def spec_l04Pivot.f (k : Nat) (l0_0 : List (List Int)) (l0_1 : List Int) (a1 : Int) : Option (Int × (List (List Int)) × List Int × Bool) := (spec_l01Columns.f k l0_0 a1).bind fun l9 => ((spec_l01Solve.f k l9 l0_1).bind fun bt1076 => (if bt1076.2 = 0 then (some (0, ([] : List (List Int)), ([] : List Int), false)) else (if bt1076.2 < 0 then (spec_l04Pivot.j0 k a1 (l0_1.length : Int) l9 bt1076.1 bt1076.2 (-1) l0_0 l0_1) else (spec_l04Pivot.j0 k a1 (l0_1.length : Int) l9 bt1076.1 bt1076.2 1 l0_0 l0_1))))
theorem spec_l04Pivot.mono_l : ∀ k, (∀ y0 y1 y2 y3 y4 y5 y6 y7, LeO (spec_l04Pivot.j0 k y0 y1 y2 y3 y4 y5 y6 y7) (spec_l04Pivot.j0 (k + 1) y0 y1 y2 y3 y4 y5 y6 y7)) ∧ (∀ y0 y1 y2 y3 y4 y5 y6 y7 y8 y9 y10, LeO (spec_l04Pivot.l0 k y0 y1 y2 y3 y4 y5 y6 y7 y8 y9 y10) (spec_l04Pivot.l0 (k + 1) y0 y1 y2 y3 y4 y5 y6 y7 y8 y9 y10)) ∧ (∀ y0 y1 y2 y3 y4 y5 y6 y7 y8 y9, LeO (spec_l04Pivot.l1 k y0 y1 y2 y3 y4 y5 y6 y7 y8 y9) (spec_l04Pivot.l1 (k + 1) y0 y1 y2 y3 y4 y5 y6 y7 y8 y9)) ∧ (∀ y0 y1 y2 y3 y4 y5 y6 y7 y8 y9 y10 y11, LeO (spec_l04Pivot.l2 k y0 y1 y2 y3 y4 y5 y6 y7 y8 y9 y10 y11) (spec_l04Pivot.l2 (k + 1) y0 y1 y2 y3 y4 y5 y6 y7 y8 y9 y10 y11)) ∧ (∀ y0 y1 y2 y3 y4 y5 y6 y7 y8 y9 y10, LeO (spec_l04Pivot.j4 k y0 y1 y2 y3 y4 y5 y6 y7 y8 y9 y10) (spec_l04Pivot.j4 (k + 1) y0 y1 y2 y3 y4 y5 y6 y7 y8 y9 y10)) ∧ (∀ y0 y1 y2 y3 y4 y5 y6 y7 y8 y9 y10 y11, LeO (spec_l04Pivot.l3 k y0 y1 y2 y3 y4 y5 y6 y7 y8 y9 y10 y11) (spec_l04Pivot.l3 (k + 1) y0 y1 y2 y3 y4 y5 y6 y7 y8 y9 y10 y11))
 | 0 => ⟨fun _ _ _ _ _ _ _ _ r h => by simp [spec_l04Pivot.j0] at h, fun _ _ _ _ _ _ _ _ _ _ _ r h => by simp [spec_l04Pivot.l0] at h, fun _ _ _ _ _ _ _ _ _ _ r h => by simp [spec_l04Pivot.l1] at h, fun _ _ _ _ _ _ _ _ _ _ _ _ r h => by simp [spec_l04Pivot.l2] at h, fun _ _ _ _ _ _ _ _ _ _ _ r h => by simp [spec_l04Pivot.j4] at h, fun _ _ _ _ _ _ _ _ _ _ _ _ r h => by simp [spec_l04Pivot.l3] at h⟩
 | k + 1 => by
  obtain ⟨ih0, ih1, ih2, ih3, ih4, ih5⟩ := spec_l04Pivot.mono_l k
  refine ⟨?_, ?_, ?_, ?_, ?_, ?_⟩
  ·intro y0 y1 y2 y3 y4 y5 y6 y7
   unfold spec_l04Pivot.j0
   repeat' first
   | (with_reducible exact ih0 _ _ _ _ _ _ _ _)
   | (with_reducible exact ih1 _ _ _ _ _ _ _ _ _ _ _)
   | (with_reducible exact ih2 _ _ _ _ _ _ _ _ _ _)
   | (with_reducible exact ih3 _ _ _ _ _ _ _ _ _ _ _ _)
   | (with_reducible exact ih4 _ _ _ _ _ _ _ _ _ _ _)
   | (with_reducible exact ih5 _ _ _ _ _ _ _ _ _ _ _ _)
   | (with_reducible exact spec_l01Columns.mono _ _ _)
   | (with_reducible exact spec_l01Solve.mono _ _ _)
   | (with_reducible exact LeO.refl _)
   | (with_reducible exact LeO.none _)
   | (with_reducible refine LeO.ite ?_ ?_)
   | (with_reducible refine LeO.bind ?_ (fun _ => ?_))
   | exact ih0 _ _ _ _ _ _ _ _
   | exact ih1 _ _ _ _ _ _ _ _ _ _ _
   | exact ih2 _ _ _ _ _ _ _ _ _ _
   | exact ih3 _ _ _ _ _ _ _ _ _ _ _ _
   | exact ih4 _ _ _ _ _ _ _ _ _ _ _
   | exact ih5 _ _ _ _ _ _ _ _ _ _ _ _
   | exact spec_l01Columns.mono _ _ _
   | exact spec_l01Solve.mono _ _ _
   | exact LeO.none _
   | refine LeO.ite ?_ ?_
   | refine LeO.bind ?_ (fun _ => ?_)
  ·intro y0 y1 y2 y3 y4 y5 y6 y7 y8 y9 y10
   unfold spec_l04Pivot.l0
   repeat' first
   | (with_reducible exact ih0 _ _ _ _ _ _ _ _)
   | (with_reducible exact ih1 _ _ _ _ _ _ _ _ _ _ _)
   | (with_reducible exact ih2 _ _ _ _ _ _ _ _ _ _)
   | (with_reducible exact ih3 _ _ _ _ _ _ _ _ _ _ _ _)
   | (with_reducible exact ih4 _ _ _ _ _ _ _ _ _ _ _)
   | (with_reducible exact ih5 _ _ _ _ _ _ _ _ _ _ _ _)
   | (with_reducible exact spec_l01Columns.mono _ _ _)
   | (with_reducible exact spec_l01Solve.mono _ _ _)
   | (with_reducible exact LeO.refl _)
   | (with_reducible exact LeO.none _)
   | (with_reducible refine LeO.ite ?_ ?_)
   | (with_reducible refine LeO.bind ?_ (fun _ => ?_))
   | exact ih0 _ _ _ _ _ _ _ _
   | exact ih1 _ _ _ _ _ _ _ _ _ _ _
   | exact ih2 _ _ _ _ _ _ _ _ _ _
   | exact ih3 _ _ _ _ _ _ _ _ _ _ _ _
   | exact ih4 _ _ _ _ _ _ _ _ _ _ _
   | exact ih5 _ _ _ _ _ _ _ _ _ _ _ _
   | exact spec_l01Columns.mono _ _ _
   | exact spec_l01Solve.mono _ _ _
   | exact LeO.none _
   | refine LeO.ite ?_ ?_
   | refine LeO.bind ?_ (fun _ => ?_)
  ·intro y0 y1 y2 y3 y4 y5 y6 y7 y8 y9
   unfold spec_l04Pivot.l1
   repeat' first
   | (with_reducible exact ih0 _ _ _ _ _ _ _ _)
   | (with_reducible exact ih1 _ _ _ _ _ _ _ _ _ _ _)
   | (with_reducible exact ih2 _ _ _ _ _ _ _ _ _ _)
   | (with_reducible exact ih3 _ _ _ _ _ _ _ _ _ _ _ _)
   | (with_reducible exact ih4 _ _ _ _ _ _ _ _ _ _ _)
   | (with_reducible exact ih5 _ _ _ _ _ _ _ _ _ _ _ _)
   | (with_reducible exact spec_l01Columns.mono _ _ _)
   | (with_reducible exact spec_l01Solve.mono _ _ _)
   | (with_reducible exact LeO.refl _)
   | (with_reducible exact LeO.none _)
   | (with_reducible refine LeO.ite ?_ ?_)
   | (with_reducible refine LeO.bind ?_ (fun _ => ?_))
   | exact ih0 _ _ _ _ _ _ _ _
   | exact ih1 _ _ _ _ _ _ _ _ _ _ _
   | exact ih2 _ _ _ _ _ _ _ _ _ _
   | exact ih3 _ _ _ _ _ _ _ _ _ _ _ _
   | exact ih4 _ _ _ _ _ _ _ _ _ _ _
   | exact ih5 _ _ _ _ _ _ _ _ _ _ _ _
   | exact spec_l01Columns.mono _ _ _
   | exact spec_l01Solve.mono _ _ _
   | exact LeO.none _
   | refine LeO.ite ?_ ?_
   | refine LeO.bind ?_ (fun _ => ?_)
  ·intro y0 y1 y2 y3 y4 y5 y6 y7 y8 y9 y10 y11
   unfold spec_l04Pivot.l2
   repeat' first
   | (with_reducible exact ih0 _ _ _ _ _ _ _ _)
   | (with_reducible exact ih1 _ _ _ _ _ _ _ _ _ _ _)
   | (with_reducible exact ih2 _ _ _ _ _ _ _ _ _ _)
   | (with_reducible exact ih3 _ _ _ _ _ _ _ _ _ _ _ _)
   | (with_reducible exact ih4 _ _ _ _ _ _ _ _ _ _ _)
   | (with_reducible exact ih5 _ _ _ _ _ _ _ _ _ _ _ _)
   | (with_reducible exact spec_l01Columns.mono _ _ _)
   | (with_reducible exact spec_l01Solve.mono _ _ _)
   | (with_reducible exact LeO.refl _)
   | (with_reducible exact LeO.none _)
   | (with_reducible refine LeO.ite ?_ ?_)
   | (with_reducible refine LeO.bind ?_ (fun _ => ?_))
   | exact ih0 _ _ _ _ _ _ _ _
   | exact ih1 _ _ _ _ _ _ _ _ _ _ _
   | exact ih2 _ _ _ _ _ _ _ _ _ _
   | exact ih3 _ _ _ _ _ _ _ _ _ _ _ _
   | exact ih4 _ _ _ _ _ _ _ _ _ _ _
   | exact ih5 _ _ _ _ _ _ _ _ _ _ _ _
   | exact spec_l01Columns.mono _ _ _
   | exact spec_l01Solve.mono _ _ _
   | exact LeO.none _
   | refine LeO.ite ?_ ?_
   | refine LeO.bind ?_ (fun _ => ?_)
  ·intro y0 y1 y2 y3 y4 y5 y6 y7 y8 y9 y10
   unfold spec_l04Pivot.j4
   repeat' first
   | (with_reducible exact ih0 _ _ _ _ _ _ _ _)
   | (with_reducible exact ih1 _ _ _ _ _ _ _ _ _ _ _)
   | (with_reducible exact ih2 _ _ _ _ _ _ _ _ _ _)
   | (with_reducible exact ih3 _ _ _ _ _ _ _ _ _ _ _ _)
   | (with_reducible exact ih4 _ _ _ _ _ _ _ _ _ _ _)
   | (with_reducible exact ih5 _ _ _ _ _ _ _ _ _ _ _ _)
   | (with_reducible exact spec_l01Columns.mono _ _ _)
   | (with_reducible exact spec_l01Solve.mono _ _ _)
   | (with_reducible exact LeO.refl _)
   | (with_reducible exact LeO.none _)
   | (with_reducible refine LeO.ite ?_ ?_)
   | (with_reducible refine LeO.bind ?_ (fun _ => ?_))
   | exact ih0 _ _ _ _ _ _ _ _
   | exact ih1 _ _ _ _ _ _ _ _ _ _ _
   | exact ih2 _ _ _ _ _ _ _ _ _ _
   | exact ih3 _ _ _ _ _ _ _ _ _ _ _ _
   | exact ih4 _ _ _ _ _ _ _ _ _ _ _
   | exact ih5 _ _ _ _ _ _ _ _ _ _ _ _
   | exact spec_l01Columns.mono _ _ _
   | exact spec_l01Solve.mono _ _ _
   | exact LeO.none _
   | refine LeO.ite ?_ ?_
   | refine LeO.bind ?_ (fun _ => ?_)
  ·intro y0 y1 y2 y3 y4 y5 y6 y7 y8 y9 y10 y11
   unfold spec_l04Pivot.l3
   repeat' first
   | (with_reducible exact ih0 _ _ _ _ _ _ _ _)
   | (with_reducible exact ih1 _ _ _ _ _ _ _ _ _ _ _)
   | (with_reducible exact ih2 _ _ _ _ _ _ _ _ _ _)
   | (with_reducible exact ih3 _ _ _ _ _ _ _ _ _ _ _ _)
   | (with_reducible exact ih4 _ _ _ _ _ _ _ _ _ _ _)
   | (with_reducible exact ih5 _ _ _ _ _ _ _ _ _ _ _ _)
   | (with_reducible exact spec_l01Columns.mono _ _ _)
   | (with_reducible exact spec_l01Solve.mono _ _ _)
   | (with_reducible exact LeO.refl _)
   | (with_reducible exact LeO.none _)
   | (with_reducible refine LeO.ite ?_ ?_)
   | (with_reducible refine LeO.bind ?_ (fun _ => ?_))
   | exact ih0 _ _ _ _ _ _ _ _
   | exact ih1 _ _ _ _ _ _ _ _ _ _ _
   | exact ih2 _ _ _ _ _ _ _ _ _ _
   | exact ih3 _ _ _ _ _ _ _ _ _ _ _ _
   | exact ih4 _ _ _ _ _ _ _ _ _ _ _
   | exact ih5 _ _ _ _ _ _ _ _ _ _ _ _
   | exact spec_l01Columns.mono _ _ _
   | exact spec_l01Solve.mono _ _ _
   | exact LeO.none _
   | refine LeO.ite ?_ ?_
   | refine LeO.bind ?_ (fun _ => ?_)
theorem spec_l04Pivot.mono : ∀ a0 a1 a2 k, LeO (spec_l04Pivot.f k a0 a1 a2) (spec_l04Pivot.f (k + 1) a0 a1 a2) := by
 intro a0 a1 a2 k
 obtain ⟨ih0, ih1, ih2, ih3, ih4, ih5⟩ := spec_l04Pivot.mono_l k
 unfold spec_l04Pivot.f
 repeat' first
   | (with_reducible exact ih0 _ _ _ _ _ _ _ _)
   | (with_reducible exact ih1 _ _ _ _ _ _ _ _ _ _ _)
   | (with_reducible exact ih2 _ _ _ _ _ _ _ _ _ _)
   | (with_reducible exact ih3 _ _ _ _ _ _ _ _ _ _ _ _)
   | (with_reducible exact ih4 _ _ _ _ _ _ _ _ _ _ _)
   | (with_reducible exact ih5 _ _ _ _ _ _ _ _ _ _ _ _)
   | (with_reducible exact spec_l01Columns.mono _ _ _)
   | (with_reducible exact spec_l01Solve.mono _ _ _)
   | (with_reducible exact LeO.refl _)
   | (with_reducible exact LeO.none _)
   | (with_reducible refine LeO.ite ?_ ?_)
   | (with_reducible refine LeO.bind ?_ (fun _ => ?_))
   | exact ih0 _ _ _ _ _ _ _ _
   | exact ih1 _ _ _ _ _ _ _ _ _ _ _
   | exact ih2 _ _ _ _ _ _ _ _ _ _
   | exact ih3 _ _ _ _ _ _ _ _ _ _ _ _
   | exact ih4 _ _ _ _ _ _ _ _ _ _ _
   | exact ih5 _ _ _ _ _ _ _ _ _ _ _ _
   | exact spec_l01Columns.mono _ _ _
   | exact spec_l01Solve.mono _ _ _
   | exact LeO.none _
   | refine LeO.ite ?_ ?_
   | refine LeO.bind ?_ (fun _ => ?_)
def spec_l04Pivot.T1 : Bool × List (List Nat × List Nat) := (true, [([], []), ([0], [0]), ([1], [1]), ([], []), ([3], [3]), ([], []), ([4, 5], [4, 5]), ([2, 6, 0, 1, 2], [2]), ([6, 7, 0, 1, 2, 3, 4, 5, 6, 7], [6])])
def spec_l04Pivot.B1 : List Nat := [0, 1, 3, 0, 8, 0, 56, 127, 255]
theorem spec_l04Pivot.tab1 : rtab .any (opsOf Try.f108 1) = spec_l04Pivot.T1 := by kernel_rfl
theorem spec_l04Pivot.bits1 : waitsOk spec_l04Pivot.T1.2 spec_l04Pivot.B1 = true := by kernel_rfl
def spec_l04Pivot.T12 : Bool × List (List Nat × List Nat) := (true, [([], []), ([0], [0]), ([], []), ([2, 2], [2]), ([3], [3]), ([1, 4], [1, 4]), ([0, 1, 2, 3, 4, 5], []), ([6, 5, 5, 0, 1, 2, 3, 4, 5], [5, 6])])
def spec_l04Pivot.B12 : List Nat := [0, 1, 0, 4, 12, 31, 63, 127]
theorem spec_l04Pivot.tab12 : rtab .any (opsOf Try.f108 12) = spec_l04Pivot.T12 := by kernel_rfl
theorem spec_l04Pivot.bits12 : waitsOk spec_l04Pivot.T12.2 spec_l04Pivot.B12 = true := by kernel_rfl
def spec_l04Pivot.T13 : Bool × List (List Nat × List Nat) := (true, [([], []), ([0], [0]), ([], []), ([], []), ([], []), ([3, 4], [3, 4]), ([5], [5]), ([2, 6], [2, 6]), ([7], [7]), ([1, 8], [1, 8]), ([0, 1, 2, 3, 4, 5, 6, 7, 8, 9], []), ([10, 9, 9, 0, 1, 2, 3, 4, 5, 6, 7, 8, 9], [9, 10])])
def spec_l04Pivot.B13 : List Nat := [0, 1, 0, 0, 0, 24, 56, 124, 252, 511, 1023, 2047]
theorem spec_l04Pivot.tab13 : rtab .any (opsOf Try.f108 13) = spec_l04Pivot.T13 := by kernel_rfl
theorem spec_l04Pivot.bits13 : waitsOk spec_l04Pivot.T13.2 spec_l04Pivot.B13 = true := by kernel_rfl
theorem spec_l04Pivot.calls (k : Nat) (A0_0 : Option Addr) (c0_0 : Nat) (l0_0 : List (List Int)) (A0_1 : Option Addr) (c0_1 : Nat) (l0_1 : List Int) (a1 : Int) (r1 : Int) (r2 : List (List Int)) (r3 : List Int) (r4 : Bool) (w : World) (hr0_0 : Kd.C (Kd.slice 2 (Kd.int .i64)) w A0_0 l0_0.length l0_0) (hc0_0 : l0_0.length ≤ c0_0) (hr0_1 : Kd.C (Kd.int .i64) w A0_1 l0_1.length l0_1) (hc0_1 : l0_1.length ≤ c0_1) (h : spec_l04Pivot.f k l0_0 l0_1 a1 = some (r1, r2, r3, r4)) :
  Calls Try.prog 108 #[.agg #[.slice A0_0 l0_0.length c0_0, .slice A0_1 l0_1.length c0_1], .int .i64 a1] w fun e w' => ∃ v1_ v2_ : Value, e = .returned (.tuple #[.agg #[.int .i64 r1, v1_, v2_], .bool r4]) ∧ Kd.S (Kd.slice 2 (Kd.int .i64)) 33 w' w.heap.size (fun k_ => some k_ ≠ (v2_ : Value).ownBlock) v1_ r2 ∧ Kd.R (Kd.int .i64) 2 w' w.heap.size (fun _ => True) v2_ r3 ∧ Below w.heap.size w w' := by
 have hu56 := Try.underlying56
 have hu86 := Try.underlying86
 have HR0_0 := Aside0.mk hr0_0
 have HC0_0 := Aside0.mk hc0_0
 clear hr0_0 hc0_0
 have HR0_1 := Aside0.mk hr0_1
 have HC0_1 := Aside0.mk hc0_1
 clear hr0_1 hc0_1
 have HB := Aside0.mk (Below.refl w.heap.size w)
 have H : ((spec_l01Columns.f k l0_0 a1).bind fun l9 => ((spec_l01Solve.f k l9 l0_1).bind fun bt1076 => (if bt1076.2 = 0 then (some (0, ([] : List (List Int)), ([] : List Int), false)) else (if bt1076.2 < 0 then (spec_l04Pivot.j0 k a1 (l0_1.length : Int) l9 bt1076.1 bt1076.2 (-1) l0_0 l0_1) else (spec_l04Pivot.j0 k a1 (l0_1.length : Int) l9 bt1076.1 bt1076.2 1 l0_0 l0_1))))) = some (r1, r2, r3, r4) := h
 clear h
 replace H := Option.bind_eq_some_iff.mp H
 obtain ⟨l9, A30, H⟩ := H
 replace H : ((spec_l01Solve.f k l9 l0_1).bind fun bt1076 => (if bt1076.2 = 0 then (some (0, ([] : List (List Int)), ([] : List Int), false)) else (if bt1076.2 < 0 then (spec_l04Pivot.j0 k a1 (l0_1.length : Int) l9 bt1076.1 bt1076.2 (-1) l0_0 l0_1) else (spec_l04Pivot.j0 k a1 (l0_1.length : Int) l9 bt1076.1 bt1076.2 1 l0_0 l0_1)))) = some (r1, r2, r3, r4) := H
 have A3 := Aside0.mk A30
 clear A30
 replace H := Option.bind_eq_some_iff.mp H
 obtain ⟨⟨t1076, t1077⟩, A40, H⟩ := H
 replace H : (if t1077 = 0 then (some (0, ([] : List (List Int)), ([] : List Int), false)) else (if t1077 < 0 then (spec_l04Pivot.j0 k a1 (l0_1.length : Int) l9 t1076 t1077 (-1) l0_0 l0_1) else (spec_l04Pivot.j0 k a1 (l0_1.length : Int) l9 t1076 t1077 1 l0_0 l0_1))) = some (r1, r2, r3, r4) := H
 have A4 := Aside0.mk A40
 clear A40
 by_cases c5 : t1077 = 0
 ·rw [if_pos c5] at H
  have c5b0 : (t1077 == 0) = true := beq_iff_eq.mpr c5
  have c5b1 : (t1077 != 0) = false := bne_eq_false_iff_eq.mpr c5
  clear c5
  simp only [Option.some.injEq, Prod.mk.injEq] at H
  obtain ⟨rfl, rfl, rfl, rfl⟩ := H
  go_enter Try.func108, Try.ntmps108
  try go_wp2_with (first | ((with_reducible refine gate_dst (N := 2) rfl ?_); refine box_event ?hg (N := 2) ?hd (cs := #[.slice A0_0 l0_0.length c0_0, .slice A0_1 l0_1.length c0_1]) (t := 56) ?hr ?_; (case hd => rfl); (case hg => rfl); (case hr => first | (go_simp; done) | (go_simp; rfl)); intro gb1074 hg w6 hbox hb; have n0_ := Aside0.mk (below_step (by repeat (first | (with_reducible first | exact HB.out | apply below_alloc | apply pw_below_drewN | apply below_drew1) | exact HB.out)) hb); have n1_ := Aside0.mk (hbox); have n2_ := Aside0.mk ((by rw [hg]; exact (below_size (by repeat (first | (with_reducible first | exact HB.out | apply below_alloc | apply pw_below_drewN | apply below_drew1) | exact HB.out))) : w.heap.size ≤ gb1074)); have n3_ := Aside0.mk ((by rw [hg]; exact (below_size (by repeat (first | (with_reducible first | exact HB.out | apply below_alloc | apply pw_below_drewN | apply below_drew1) | exact HB.out))) : w.heap.size ≤ gb1074)); clear HB; have HB := n0_; have BK1074 := n1_; have GW1074 := n2_; have GE1074 := n3_; clear n0_ n1_ n2_ n3_; clear hb hbox hg) | ((with_reducible refine gate_dst (N := 4) rfl ?_); refine box_event ?hg (N := 4) ?hd (cs := #[.int .i64 0, .slice none 0 0, .slice none 0 0]) (t := 86) ?hr ?_; (case hd => rfl); (case hg => rfl); (case hr => first | (go_simp; done) | (go_simp; rfl)); intro gb1075 hg w7 hbox hb; have n0_ := Aside0.mk (blk_below (g := gb1074) (o := .cells #[.slice A0_0 l0_0.length c0_0, .slice A0_1 l0_1.length c0_1] 56 (0, 0)) (by (with_reducible repeat (first | refine blk_drewN ?_ _ | refine blk_drew ?_ | refine blk_alloc ?_ _)); exact BK1074.out) hb); have n1_ := Aside0.mk (below_step (by repeat (first | (with_reducible first | exact HB.out | apply below_alloc | apply pw_below_drewN | apply below_drew1 | refine below_set ?_ GE1074.out) | exact HB.out)) hb); have n2_ := Aside0.mk (hbox); have n3_ := Aside0.mk ((by rw [hg]; exact (below_size (by repeat (first | (with_reducible first | exact HB.out | apply below_alloc | apply pw_below_drewN | apply below_drew1 | refine below_set ?_ GE1074.out) | exact HB.out))) : w.heap.size ≤ gb1075)); have n4_ := Aside0.mk ((by rw [hg]; exact (below_size (by repeat (first | (with_reducible first | exact HB.out | apply below_alloc | apply pw_below_drewN | apply below_drew1 | refine below_set ?_ GE1074.out) | exact HB.out))) : w.heap.size ≤ gb1075)); have n5_ := Aside0.mk ((by rw [hg]; exact Nat.ne_of_lt (blk_lt (g := gb1074) (o := .cells #[.slice A0_0 l0_0.length c0_0, .slice A0_1 l0_1.length c0_1] 56 (0, 0)) (by (with_reducible repeat (first | refine blk_drewN ?_ _ | refine blk_drew ?_ | refine blk_alloc ?_ _)); exact BK1074.out)) : gb1074 ≠ gb1075)); have n6_ := Aside0.mk ((by rw [hg]; exact Nat.ne_of_gt (blk_lt (g := gb1074) (o := .cells #[.slice A0_0 l0_0.length c0_0, .slice A0_1 l0_1.length c0_1] 56 (0, 0)) (by (with_reducible repeat (first | refine blk_drewN ?_ _ | refine blk_drew ?_ | refine blk_alloc ?_ _)); exact BK1074.out)) : gb1075 ≠ gb1074)); clear BK1074; clear HB; have BK1074 := n0_; have HB := n1_; have BK1075 := n2_; have GW1075 := n3_; have GE1075 := n4_; have NB1074_1075 := n5_; have NB1075_1074 := n6_; clear n0_ n1_ n2_ n3_ n4_ n5_ n6_; clear hb hbox hg))
  have n0_ := Aside0.mk (blk_drew BK1074.out)
  have n1_ := Aside0.mk (blk_drew BK1075.out)
  have n2_ := Aside0.mk (below_drew1 HB.out)
  clear BK1074
  clear BK1075
  clear HB
  have BK1074 := n0_
  have BK1075 := n1_
  have HB := n2_
  clear n0_ n1_ n2_
  refine start_ (n := 9) (S := fun w' => w'.cell? ⟨gb1074, 0, none⟩ = some (.slice A0_0 l0_0.length c0_0) ∧ w'.cell? ⟨gb1074, 1, none⟩ = some (.slice A0_1 l0_1.length c0_1)) (ds := []) #[false, false, false, false, false, false, false, false, false] (by kernel_rfl) rfl rfl ⟨(blk_cell BK1074.out 0).trans rfl, (blk_cell BK1074.out 1).trans rfl⟩ (fun hHeld => ?_); refine with_tabW spec_l04Pivot.tab1 spec_l04Pivot.bits1 (fun HT_ HW_ => ?_)
  generalize w7.drew = w8 at BK1074 BK1075 HB hHeld ⊢
  refine pure_ (i := 0) (N := some 20) (v := ?_) (a' := ?_) #[true, false, false, false, false, false, false, false, false] rfl rfl (any_of HT_.out (by kernel_rfl)) (fun _ _ _ h => h) (Or.inl ⟨by rfl, ?_⟩) ?_ ?_
  rotate_left
  ·intro w'
   go_simp
   with_reducible rfl
  rotate_left
  ·simp only [Act.put, List.setIfInBounds_toArray, List.set_cons_zero, List.set_cons_succ, i64_w, i32_w]
   rfl
  refine pure_ (i := 3) (N := some 23) (v := ?_) (a' := ?_) #[true, false, false, true, false, false, false, false, false] rfl rfl (any_of HT_.out (by kernel_rfl)) (fun _ _ _ h => h) (Or.inl ⟨by rfl, ?_⟩) ?_ ?_
  rotate_left
  ·intro w'
   go_simp
   with_reducible rfl
  rotate_left
  ·simp only [Act.put, List.setIfInBounds_toArray, List.set_cons_zero, List.set_cons_succ, i64_w, i32_w]
   rfl
  refine pure_ (i := 5) (N := some 25) (v := ?_) (a' := ?_) #[true, false, false, true, false, true, false, false, false] rfl rfl (any_of HT_.out (by kernel_rfl)) (fun _ _ _ h => h) (Or.inl ⟨by rfl, ?_⟩) ?_ ?_
  rotate_left
  ·intro w'
   go_simp
   with_reducible rfl
  rotate_left
  ·simp only [Act.put, List.setIfInBounds_toArray, List.set_cons_zero, List.set_cons_succ, i64_w, i32_w]
   rfl
  refine take_ (i := 1) (N := some 21) (v := ?_) (a' := ?_) #[true, true, false, true, false, true, false, false, false] rfl rfl (take_ofW HT_.out HW_.out (by kernel_rfl)) (fun _ _ _ h => h) (Or.inl ⟨by rfl, ?_⟩) hHeld ?_ ?_
  rotate_left
  ·rintro w' ⟨s0, s1⟩
   go_simp
   with_reducible rfl
  rotate_left
  ·simp only [Act.put, List.setIfInBounds_toArray, List.set_cons_zero, List.set_cons_succ, i64_w, i32_w]
   rfl
  refine pure_ (i := 2) (N := some 22) (v := ?_) (a' := ?_) #[true, true, true, true, false, true, false, false, false] rfl rfl (any_of HT_.out (by kernel_rfl)) (fun _ _ _ h => h) (Or.inl ⟨by rfl, ?_⟩) ?_ ?_
  rotate_left
  ·intro w'
   go_simp
   with_reducible rfl
  rotate_left
  ·simp only [Act.put, List.setIfInBounds_toArray, List.set_cons_zero, List.set_cons_succ, i64_w, i32_w]
   rfl
  refine take_ (i := 4) (N := some 24) (v := ?_) (a' := ?_) #[true, true, true, true, true, true, false, false, false] rfl rfl (take_ofW HT_.out HW_.out (by kernel_rfl)) (fun _ _ _ h => h) (Or.inl ⟨by rfl, ?_⟩) hHeld ?_ ?_
  rotate_left
  ·rintro w' ⟨s0, s1⟩
   go_simp
   with_reducible rfl
  rotate_left
  ·simp only [Act.put, List.setIfInBounds_toArray, List.set_cons_zero, List.set_cons_succ, i64_w, i32_w]
   rfl
  refine one_ (i := 6) (N := some 26) #[true, true, true, true, true, true, true, false, false] rfl rfl (one_of HT_.out (by kernel_rfl)) (by decide) (fun K hK => ?_)
  refine goes_ Try.func89 (by kernel_rfl) rfl #[.slice A0_0 l0_0.length c0_0, .int .i64 a1] (by rfl) rfl rfl (by (try simp only [List.map_toArray, List.map_cons, List.map_nil]); first | done | rfl | (simp only [List.length_drop, List.length_take]; rfl)) ?_
  with_reducible refine (spec_l01Columns.calls k _ _ l0_0 a1 l9 _ ?side1 ?side2 A3.out).mono ?_
  (case side1 => repeat (first | exact (Kd.C_below HR0_0.out HB.out) | (with_reducible refine Kd.C_alloc ?_ _) | (with_reducible refine Kd.C_drewN ?_ _) | (with_reducible refine Kd.C_drew ?_)))
  (case side2 => exact HC0_0.out)
  rintro e w9 ⟨v9_, rfl, ho0, hb⟩
  obtain ⟨A9, c9, e9_⟩ := Kd.S_slice ho0
  subst e9_
  refine ⟨_, rfl, ?_⟩
  have n0_ := Aside0.mk (Kd.S_lower ho0 (below_size (by repeat (first | (with_reducible first | exact HB.out | apply below_alloc | apply pw_below_drewN | apply below_drew1 | refine below_set ?_ GE1074.out | refine below_set ?_ GE1075.out) | exact HB.out))))
  have n1_ := Aside0.mk (blk_below (g := gb1074) (o := .cells #[.slice A0_0 l0_0.length c0_0, .slice A0_1 l0_1.length c0_1] 56 (0, 0)) (by (with_reducible repeat (first | refine blk_drewN ?_ _ | refine blk_drew ?_ | refine blk_alloc ?_ _)); exact BK1074.out) hb)
  have n2_ := Aside0.mk (blk_below (g := gb1075) (o := .cells #[.int .i64 0, .slice none 0 0, .slice none 0 0] 86 (0, 0)) (by (with_reducible repeat (first | refine blk_drewN ?_ _ | refine blk_drew ?_ | refine blk_alloc ?_ _)); exact BK1075.out) hb)
  have n3_ := Aside0.mk (below_step (by repeat (first | (with_reducible first | exact HB.out | apply below_alloc | apply pw_below_drewN | apply below_drew1 | refine below_set ?_ GE1074.out | refine below_set ?_ GE1075.out) | exact HB.out)) hb)
  clear BK1074
  clear BK1075
  clear HB
  have HR9 := n0_
  have BK1074 := n1_
  have BK1075 := n2_
  have HB := n3_
  clear n0_ n1_ n2_ n3_
  (try clear hb)
  (try clear hb2)
  (try clear hk)
  (try clear hi)
  (try clear ho0)
  refine hK.out _ _ ⟨(blk_cell BK1074.out 0).trans rfl, (blk_cell BK1074.out 1).trans rfl⟩ (fun hHeld => ?_)
  clear hK K
  refine norm_ (a' := ?_) ?_ ?_
  rotate_left
  ·show Act.put _ (some 26) _ = _
   simp only [Act.put, List.setIfInBounds_toArray, List.set_cons_zero, List.set_cons_succ, i64_w, i32_w]
   rfl
  refine pure_ (i := 7) (N := some 6) (v := ?_) (a' := ?_) #[true, true, true, true, true, true, true, true, false] rfl rfl (any_of HT_.out (by kernel_rfl)) (fun _ _ _ h => h) (Or.inl ⟨by rfl, ?_⟩) ?_ ?_
  rotate_left
  ·intro w'
   go_simp
   with_reducible rfl
  rotate_left
  ·simp only [Act.put, List.setIfInBounds_toArray, List.set_cons_zero, List.set_cons_succ, i64_w, i32_w]
   rfl
  refine pure_ (i := 8) (N := some 7) (v := ?_) (a' := ?_) #[true, true, true, true, true, true, true, true, true] rfl rfl (any_of HT_.out (by kernel_rfl)) (fun _ _ _ h => h) (Or.inl ⟨by rfl, ?_⟩) ?_ ?_
  rotate_left
  ·intro w'
   go_simp
   with_reducible rfl
  rotate_left
  ·simp only [Act.put, List.setIfInBounds_toArray, List.set_cons_zero, List.set_cons_succ, i64_w, i32_w]
   rfl
  refine done_ (done_of HT_.out (by kernel_rfl)) ?_
  have HBo0 := HB
  have HS9 := HR9
  have HR00 := HR0_0
  have HR01 := HR0_1
  clear HB HR9 HR0_0 HR0_1
  obtain ⟨wO, hwO⟩ : ∃ x : World, x = w := ⟨_, rfl⟩
  subst hwO
  obtain ⟨w, hw⟩ : ∃ x : World, x = w9 := ⟨_, rfl⟩
  have HB : Aside0 (Below w.heap.size w w9) := ⟨by rw [hw]; exact Below.refl _ _⟩
  have HBo : Aside0 (Below wO.heap.size wO w) := ⟨by rw [hw]; exact HBo0.out⟩
  have HR9 : Aside0 (Kd.C (Kd.slice 2 (Kd.int .i64)) w A9 l9.length l9) := ⟨by rw [hw]; exact (Kd.S_reads' HS9.out).2.2⟩
  have HC9 : Aside0 (l9.length ≤ c9) := ⟨(Kd.S_reads' HS9.out).2.1⟩
  have HR0_0 : Aside0 (Kd.C (Kd.slice 2 (Kd.int .i64)) w A0_0 l0_0.length l0_0) := ⟨by rw [hw]; exact Kd.C_below HR00.out HBo0.out⟩
  have HR0_1 : Aside0 (Kd.C (Kd.int .i64) w A0_1 l0_1.length l0_1) := ⟨by rw [hw]; exact Kd.C_below HR01.out HBo0.out⟩
  clear HBo0 HS9 HR00 HR01 hw
  have hnb10 := NB1074_1075.out
  have hnc10 := NB1075_1074.out
  have hcz11_0 : w9.cell? ⟨gb1074, 0, none⟩ = some (.slice A0_0 l0_0.length c0_0) := (blk_cell BK1074.out 0).trans rfl
  have hcz11_1 : w9.cell? ⟨gb1074, 1, none⟩ = some (.slice A0_1 l0_1.length c0_1) := (blk_cell BK1074.out 1).trans rfl
  have hfz11_0 := blk_frozen BK1074.out 0
  have hfz11_1 := blk_frozen BK1074.out 1
  try go_wp2_with (first | ((with_reducible refine gate_callee (f := 143) rfl ?_); refine goesL_ (some 31) rfl rfl Try.func143 (by kernel_rfl) rfl #[.slice A9 l9.length c9, .slice A0_1 l0_1.length c0_1] rfl (by (try simp only [List.map_toArray, List.map_cons, List.map_nil]); first | done | rfl | (simp only [List.length_drop, List.length_take]; rfl)) ?_; (with_reducible refine (spec_l01Solve.calls k _ _ l9 _ _ l0_1 t1076 t1077 _ ?side1 ?side2 ?side3 ?side4 A4.out).mono ?_); (case side1 => repeat (first | exact (Kd.C_below HR9.out HB.out) | (with_reducible refine Kd.C_alloc ?_ _) | (with_reducible refine Kd.C_drewN ?_ _) | (with_reducible refine Kd.C_drew ?_))); (case side2 => exact HC9.out); (case side3 => repeat (first | exact (Kd.C_below HR0_1.out HB.out) | (with_reducible refine Kd.C_alloc ?_ _) | (with_reducible refine Kd.C_drewN ?_ _) | (with_reducible refine Kd.C_drew ?_))); (case side4 => exact HC0_1.out); rintro e w12 ⟨v1078, rfl, ho0, hb⟩; refine ⟨_, rfl, ?_⟩; have n0_ := Aside0.mk (Kd.R_lower ho0 (below_size (by repeat (first | (with_reducible first | exact HB.out | apply below_alloc | apply pw_below_drewN | apply below_drew1 | refine below_set ?_ GE1074.out | refine below_set ?_ GE1075.out) | exact HB.out)))); have n1_ := Aside0.mk (blk_below (g := gb1074) (o := .cells #[.slice A0_0 l0_0.length c0_0, .slice A0_1 l0_1.length c0_1] 56 (0, 0)) (by (with_reducible repeat (first | refine blk_drewN ?_ _ | refine blk_drew ?_ | refine blk_alloc ?_ _)); exact BK1074.out) hb); have n2_ := Aside0.mk (blk_below (g := gb1075) (o := .cells #[.int .i64 0, .slice none 0 0, .slice none 0 0] 86 (0, 0)) (by (with_reducible repeat (first | refine blk_drewN ?_ _ | refine blk_drew ?_ | refine blk_alloc ?_ _)); exact BK1075.out) hb); have n3_ := Aside0.mk (below_step (by repeat (first | (with_reducible first | exact HB.out | apply below_alloc | apply pw_below_drewN | apply below_drew1 | refine below_set ?_ GE1074.out | refine below_set ?_ GE1075.out) | exact HB.out)) hb); clear BK1074; clear BK1075; clear HB; have HO1079 := n0_; have BK1074 := n1_; have BK1075 := n2_; have HB := n3_; clear n0_ n1_ n2_ n3_; (try clear hb); (try clear hb2); (try clear hk); (try clear hi); (try clear ho0); have hcz13_0 : w12.cell? ⟨gb1075, 0, none⟩ = some (.int .i64 0) := (blk_cell BK1075.out 0).trans rfl; have hcz13_1 : w12.cell? ⟨gb1075, 1, none⟩ = some (.slice none 0 0) := (blk_cell BK1075.out 1).trans rfl; have hcz13_2 : w12.cell? ⟨gb1075, 2, none⟩ = some (.slice none 0 0) := (blk_cell BK1075.out 2).trans rfl; have hfz13_0 := blk_frozen BK1075.out 0; have hfz13_1 := blk_frozen BK1075.out 1; have hfz13_2 := blk_frozen BK1075.out 2))
  have HB := Aside0.mk (below_step HBo.out HB.out)
  refine bodyPost_ret (results_ct rfl _ _ gb1075 86 #[.int .i64 0, .slice none 0 0, .slice none 0 0] (0, 0) _ rfl (by (with_reducible repeat (first | refine blk_drewN ?_ _ | refine blk_drew ?_ | refine blk_alloc ?_ _)); refine blk_put (cs := #[.int .i64 0, .slice none 0 0, .slice none 0 0]) ?_ 2 _ rfl; (with_reducible repeat (first | refine blk_drewN ?_ _ | refine blk_drew ?_ | refine blk_alloc ?_ _)); refine blk_put (cs := #[.int .i64 0, .slice none 0 0, .slice none 0 0]) ?_ 1 _ rfl; (with_reducible repeat (first | refine blk_drewN ?_ _ | refine blk_drew ?_ | refine blk_alloc ?_ _)); refine blk_put (cs := #[.int .i64 0, .slice none 0 0, .slice none 0 0]) ?_ 0 _ rfl; (with_reducible repeat (first | refine blk_drewN ?_ _ | refine blk_drew ?_ | refine blk_alloc ?_ _)); exact BK1075.out) Try.underlying86 rfl (by kernel_rfl)) rfl ?_
  exact ⟨_, _, by first | rfl | (simp [errW_none, errW_some] <;> rfl) | (simp [*, errW_none, errW_some] <;> rfl), by first | exact Kd.S_nil _ _ _ _ _ | exact Kd.N_nil _ _ _ _ _ | exact Kd.V_nil _ _ _ _ _ | exact Kd.Q_nil _ _ _ _ _ | exact Kd.R_nil _ _ _ _ _, by first | exact Kd.R_nil _ _ _ _ _ | exact Kd.N_nil _ _ _ _ _ | exact Kd.V_nil _ _ _ _ _ | exact Kd.Q_nil _ _ _ _ _ | exact Kd.S_nil _ _ _ _ _, by repeat (first | (with_reducible first | exact HB.out | apply below_alloc | apply pw_below_drewN | apply below_drew1 | refine below_set ?_ GE1074.out | refine below_set ?_ GE1075.out) | exact HB.out)⟩
 ·rw [if_neg c5] at H
  have c5b0 : (t1077 == 0) = false := beq_eq_false_iff_ne.mpr c5
  have c5b1 : (t1077 != 0) = true := bne_iff_ne.mpr c5
  have HC14 := Aside0.mk H
  clear H
  go_enter Try.func108, Try.ntmps108
  try go_wp2_with (first | ((with_reducible refine gate_dst (N := 2) rfl ?_); refine box_event ?hg (N := 2) ?hd (cs := #[.slice A0_0 l0_0.length c0_0, .slice A0_1 l0_1.length c0_1]) (t := 56) ?hr ?_; (case hd => rfl); (case hg => rfl); (case hr => first | (go_simp; done) | (go_simp; rfl)); intro gb1074 hg w15 hbox hb; have n0_ := Aside0.mk (below_step (by repeat (first | (with_reducible first | exact HB.out | apply below_alloc | apply pw_below_drewN | apply below_drew1) | exact HB.out)) hb); have n1_ := Aside0.mk (hbox); have n2_ := Aside0.mk ((by rw [hg]; exact (below_size (by repeat (first | (with_reducible first | exact HB.out | apply below_alloc | apply pw_below_drewN | apply below_drew1) | exact HB.out))) : w.heap.size ≤ gb1074)); have n3_ := Aside0.mk ((by rw [hg]; exact (below_size (by repeat (first | (with_reducible first | exact HB.out | apply below_alloc | apply pw_below_drewN | apply below_drew1) | exact HB.out))) : w.heap.size ≤ gb1074)); clear HB; have HB := n0_; have BK1074 := n1_; have GW1074 := n2_; have GE1074 := n3_; clear n0_ n1_ n2_ n3_; clear hb hbox hg) | ((with_reducible refine gate_dst (N := 4) rfl ?_); refine box_event ?hg (N := 4) ?hd (cs := #[.int .i64 0, .slice none 0 0, .slice none 0 0]) (t := 86) ?hr ?_; (case hd => rfl); (case hg => rfl); (case hr => first | (go_simp; done) | (go_simp; rfl)); intro gb1075 hg w16 hbox hb; have n0_ := Aside0.mk (blk_below (g := gb1074) (o := .cells #[.slice A0_0 l0_0.length c0_0, .slice A0_1 l0_1.length c0_1] 56 (0, 0)) (by (with_reducible repeat (first | refine blk_drewN ?_ _ | refine blk_drew ?_ | refine blk_alloc ?_ _)); exact BK1074.out) hb); have n1_ := Aside0.mk (below_step (by repeat (first | (with_reducible first | exact HB.out | apply below_alloc | apply pw_below_drewN | apply below_drew1 | refine below_set ?_ GE1074.out) | exact HB.out)) hb); have n2_ := Aside0.mk (hbox); have n3_ := Aside0.mk ((by rw [hg]; exact (below_size (by repeat (first | (with_reducible first | exact HB.out | apply below_alloc | apply pw_below_drewN | apply below_drew1 | refine below_set ?_ GE1074.out) | exact HB.out))) : w.heap.size ≤ gb1075)); have n4_ := Aside0.mk ((by rw [hg]; exact (below_size (by repeat (first | (with_reducible first | exact HB.out | apply below_alloc | apply pw_below_drewN | apply below_drew1 | refine below_set ?_ GE1074.out) | exact HB.out))) : w.heap.size ≤ gb1075)); have n5_ := Aside0.mk ((by rw [hg]; exact Nat.ne_of_lt (blk_lt (g := gb1074) (o := .cells #[.slice A0_0 l0_0.length c0_0, .slice A0_1 l0_1.length c0_1] 56 (0, 0)) (by (with_reducible repeat (first | refine blk_drewN ?_ _ | refine blk_drew ?_ | refine blk_alloc ?_ _)); exact BK1074.out)) : gb1074 ≠ gb1075)); have n6_ := Aside0.mk ((by rw [hg]; exact Nat.ne_of_gt (blk_lt (g := gb1074) (o := .cells #[.slice A0_0 l0_0.length c0_0, .slice A0_1 l0_1.length c0_1] 56 (0, 0)) (by (with_reducible repeat (first | refine blk_drewN ?_ _ | refine blk_drew ?_ | refine blk_alloc ?_ _)); exact BK1074.out)) : gb1075 ≠ gb1074)); clear BK1074; clear HB; have BK1074 := n0_; have HB := n1_; have BK1075 := n2_; have GW1075 := n3_; have GE1075 := n4_; have NB1074_1075 := n5_; have NB1075_1074 := n6_; clear n0_ n1_ n2_ n3_ n4_ n5_ n6_; clear hb hbox hg))
  have n0_ := Aside0.mk (blk_drew BK1074.out)
  have n1_ := Aside0.mk (blk_drew BK1075.out)
  have n2_ := Aside0.mk (below_drew1 HB.out)
  clear BK1074
  clear BK1075
  clear HB
  have BK1074 := n0_
  have BK1075 := n1_
  have HB := n2_
  clear n0_ n1_ n2_
  refine start_ (n := 9) (S := fun w' => w'.cell? ⟨gb1074, 0, none⟩ = some (.slice A0_0 l0_0.length c0_0) ∧ w'.cell? ⟨gb1074, 1, none⟩ = some (.slice A0_1 l0_1.length c0_1)) (ds := []) #[false, false, false, false, false, false, false, false, false] (by kernel_rfl) rfl rfl ⟨(blk_cell BK1074.out 0).trans rfl, (blk_cell BK1074.out 1).trans rfl⟩ (fun hHeld => ?_); refine with_tabW spec_l04Pivot.tab1 spec_l04Pivot.bits1 (fun HT_ HW_ => ?_)
  generalize w16.drew = w17 at BK1074 BK1075 HB hHeld ⊢
  refine pure_ (i := 0) (N := some 20) (v := ?_) (a' := ?_) #[true, false, false, false, false, false, false, false, false] rfl rfl (any_of HT_.out (by kernel_rfl)) (fun _ _ _ h => h) (Or.inl ⟨by rfl, ?_⟩) ?_ ?_
  rotate_left
  ·intro w'
   go_simp
   with_reducible rfl
  rotate_left
  ·simp only [Act.put, List.setIfInBounds_toArray, List.set_cons_zero, List.set_cons_succ, i64_w, i32_w]
   rfl
  refine pure_ (i := 3) (N := some 23) (v := ?_) (a' := ?_) #[true, false, false, true, false, false, false, false, false] rfl rfl (any_of HT_.out (by kernel_rfl)) (fun _ _ _ h => h) (Or.inl ⟨by rfl, ?_⟩) ?_ ?_
  rotate_left
  ·intro w'
   go_simp
   with_reducible rfl
  rotate_left
  ·simp only [Act.put, List.setIfInBounds_toArray, List.set_cons_zero, List.set_cons_succ, i64_w, i32_w]
   rfl
  refine pure_ (i := 5) (N := some 25) (v := ?_) (a' := ?_) #[true, false, false, true, false, true, false, false, false] rfl rfl (any_of HT_.out (by kernel_rfl)) (fun _ _ _ h => h) (Or.inl ⟨by rfl, ?_⟩) ?_ ?_
  rotate_left
  ·intro w'
   go_simp
   with_reducible rfl
  rotate_left
  ·simp only [Act.put, List.setIfInBounds_toArray, List.set_cons_zero, List.set_cons_succ, i64_w, i32_w]
   rfl
  refine take_ (i := 1) (N := some 21) (v := ?_) (a' := ?_) #[true, true, false, true, false, true, false, false, false] rfl rfl (take_ofW HT_.out HW_.out (by kernel_rfl)) (fun _ _ _ h => h) (Or.inl ⟨by rfl, ?_⟩) hHeld ?_ ?_
  rotate_left
  ·rintro w' ⟨s0, s1⟩
   go_simp
   with_reducible rfl
  rotate_left
  ·simp only [Act.put, List.setIfInBounds_toArray, List.set_cons_zero, List.set_cons_succ, i64_w, i32_w]
   rfl
  refine pure_ (i := 2) (N := some 22) (v := ?_) (a' := ?_) #[true, true, true, true, false, true, false, false, false] rfl rfl (any_of HT_.out (by kernel_rfl)) (fun _ _ _ h => h) (Or.inl ⟨by rfl, ?_⟩) ?_ ?_
  rotate_left
  ·intro w'
   go_simp
   with_reducible rfl
  rotate_left
  ·simp only [Act.put, List.setIfInBounds_toArray, List.set_cons_zero, List.set_cons_succ, i64_w, i32_w]
   rfl
  refine take_ (i := 4) (N := some 24) (v := ?_) (a' := ?_) #[true, true, true, true, true, true, false, false, false] rfl rfl (take_ofW HT_.out HW_.out (by kernel_rfl)) (fun _ _ _ h => h) (Or.inl ⟨by rfl, ?_⟩) hHeld ?_ ?_
  rotate_left
  ·rintro w' ⟨s0, s1⟩
   go_simp
   with_reducible rfl
  rotate_left
  ·simp only [Act.put, List.setIfInBounds_toArray, List.set_cons_zero, List.set_cons_succ, i64_w, i32_w]
   rfl
  refine one_ (i := 6) (N := some 26) #[true, true, true, true, true, true, true, false, false] rfl rfl (one_of HT_.out (by kernel_rfl)) (by decide) (fun K hK => ?_)
  refine goes_ Try.func89 (by kernel_rfl) rfl #[.slice A0_0 l0_0.length c0_0, .int .i64 a1] (by rfl) rfl rfl (by (try simp only [List.map_toArray, List.map_cons, List.map_nil]); first | done | rfl | (simp only [List.length_drop, List.length_take]; rfl)) ?_
  with_reducible refine (spec_l01Columns.calls k _ _ l0_0 a1 l9 _ ?side1 ?side2 A3.out).mono ?_
  (case side1 => repeat (first | exact (Kd.C_below HR0_0.out HB.out) | (with_reducible refine Kd.C_alloc ?_ _) | (with_reducible refine Kd.C_drewN ?_ _) | (with_reducible refine Kd.C_drew ?_)))
  (case side2 => exact HC0_0.out)
  rintro e w18 ⟨v9_, rfl, ho0, hb⟩
  obtain ⟨A9, c9, e9_⟩ := Kd.S_slice ho0
  subst e9_
  refine ⟨_, rfl, ?_⟩
  have n0_ := Aside0.mk (Kd.S_lower ho0 (below_size (by repeat (first | (with_reducible first | exact HB.out | apply below_alloc | apply pw_below_drewN | apply below_drew1 | refine below_set ?_ GE1074.out | refine below_set ?_ GE1075.out) | exact HB.out))))
  have n1_ := Aside0.mk (blk_below (g := gb1074) (o := .cells #[.slice A0_0 l0_0.length c0_0, .slice A0_1 l0_1.length c0_1] 56 (0, 0)) (by (with_reducible repeat (first | refine blk_drewN ?_ _ | refine blk_drew ?_ | refine blk_alloc ?_ _)); exact BK1074.out) hb)
  have n2_ := Aside0.mk (blk_below (g := gb1075) (o := .cells #[.int .i64 0, .slice none 0 0, .slice none 0 0] 86 (0, 0)) (by (with_reducible repeat (first | refine blk_drewN ?_ _ | refine blk_drew ?_ | refine blk_alloc ?_ _)); exact BK1075.out) hb)
  have n3_ := Aside0.mk (below_step (by repeat (first | (with_reducible first | exact HB.out | apply below_alloc | apply pw_below_drewN | apply below_drew1 | refine below_set ?_ GE1074.out | refine below_set ?_ GE1075.out) | exact HB.out)) hb)
  clear BK1074
  clear BK1075
  clear HB
  have HR9 := n0_
  have BK1074 := n1_
  have BK1075 := n2_
  have HB := n3_
  clear n0_ n1_ n2_ n3_
  (try clear hb)
  (try clear hb2)
  (try clear hk)
  (try clear hi)
  (try clear ho0)
  refine hK.out _ _ ⟨(blk_cell BK1074.out 0).trans rfl, (blk_cell BK1074.out 1).trans rfl⟩ (fun hHeld => ?_)
  clear hK K
  refine norm_ (a' := ?_) ?_ ?_
  rotate_left
  ·show Act.put _ (some 26) _ = _
   simp only [Act.put, List.setIfInBounds_toArray, List.set_cons_zero, List.set_cons_succ, i64_w, i32_w]
   rfl
  refine pure_ (i := 7) (N := some 6) (v := ?_) (a' := ?_) #[true, true, true, true, true, true, true, true, false] rfl rfl (any_of HT_.out (by kernel_rfl)) (fun _ _ _ h => h) (Or.inl ⟨by rfl, ?_⟩) ?_ ?_
  rotate_left
  ·intro w'
   go_simp
   with_reducible rfl
  rotate_left
  ·simp only [Act.put, List.setIfInBounds_toArray, List.set_cons_zero, List.set_cons_succ, i64_w, i32_w]
   rfl
  refine pure_ (i := 8) (N := some 7) (v := ?_) (a' := ?_) #[true, true, true, true, true, true, true, true, true] rfl rfl (any_of HT_.out (by kernel_rfl)) (fun _ _ _ h => h) (Or.inl ⟨by rfl, ?_⟩) ?_ ?_
  rotate_left
  ·intro w'
   go_simp
   with_reducible rfl
  rotate_left
  ·simp only [Act.put, List.setIfInBounds_toArray, List.set_cons_zero, List.set_cons_succ, i64_w, i32_w]
   rfl
  refine done_ (done_of HT_.out (by kernel_rfl)) ?_
  have HBo0 := HB
  have HS9 := HR9
  have HR00 := HR0_0
  have HR01 := HR0_1
  clear HB HR9 HR0_0 HR0_1
  obtain ⟨wO, hwO⟩ : ∃ x : World, x = w := ⟨_, rfl⟩
  subst hwO
  obtain ⟨w, hw⟩ : ∃ x : World, x = w18 := ⟨_, rfl⟩
  have HB : Aside0 (Below w.heap.size w w18) := ⟨by rw [hw]; exact Below.refl _ _⟩
  have HBo : Aside0 (Below wO.heap.size wO w) := ⟨by rw [hw]; exact HBo0.out⟩
  have HR9 : Aside0 (Kd.C (Kd.slice 2 (Kd.int .i64)) w A9 l9.length l9) := ⟨by rw [hw]; exact (Kd.S_reads' HS9.out).2.2⟩
  have HC9 : Aside0 (l9.length ≤ c9) := ⟨(Kd.S_reads' HS9.out).2.1⟩
  have HR0_0 : Aside0 (Kd.C (Kd.slice 2 (Kd.int .i64)) w A0_0 l0_0.length l0_0) := ⟨by rw [hw]; exact Kd.C_below HR00.out HBo0.out⟩
  have HR0_1 : Aside0 (Kd.C (Kd.int .i64) w A0_1 l0_1.length l0_1) := ⟨by rw [hw]; exact Kd.C_below HR01.out HBo0.out⟩
  clear HBo0 HS9 HR00 HR01 hw
  have hnb19 := NB1074_1075.out
  have hnc19 := NB1075_1074.out
  have hcz20_0 : w18.cell? ⟨gb1074, 0, none⟩ = some (.slice A0_0 l0_0.length c0_0) := (blk_cell BK1074.out 0).trans rfl
  have hcz20_1 : w18.cell? ⟨gb1074, 1, none⟩ = some (.slice A0_1 l0_1.length c0_1) := (blk_cell BK1074.out 1).trans rfl
  have hfz20_0 := blk_frozen BK1074.out 0
  have hfz20_1 := blk_frozen BK1074.out 1
  go_upto_if 38 with (first | ((with_reducible refine gate_callee (f := 143) rfl ?_); refine goesL_ (some 31) rfl rfl Try.func143 (by kernel_rfl) rfl #[.slice A9 l9.length c9, .slice A0_1 l0_1.length c0_1] rfl (by (try simp only [List.map_toArray, List.map_cons, List.map_nil]); first | done | rfl | (simp only [List.length_drop, List.length_take]; rfl)) ?_; (with_reducible refine (spec_l01Solve.calls k _ _ l9 _ _ l0_1 t1076 t1077 _ ?side1 ?side2 ?side3 ?side4 A4.out).mono ?_); (case side1 => repeat (first | exact (Kd.C_below HR9.out HB.out) | (with_reducible refine Kd.C_alloc ?_ _) | (with_reducible refine Kd.C_drewN ?_ _) | (with_reducible refine Kd.C_drew ?_))); (case side2 => exact HC9.out); (case side3 => repeat (first | exact (Kd.C_below HR0_1.out HB.out) | (with_reducible refine Kd.C_alloc ?_ _) | (with_reducible refine Kd.C_drewN ?_ _) | (with_reducible refine Kd.C_drew ?_))); (case side4 => exact HC0_1.out); rintro e w21 ⟨v1078, rfl, ho0, hb⟩; refine ⟨_, rfl, ?_⟩; have n0_ := Aside0.mk (Kd.R_lower ho0 (below_size (by repeat (first | (with_reducible first | exact HB.out | apply below_alloc | apply pw_below_drewN | apply below_drew1 | refine below_set ?_ GE1074.out | refine below_set ?_ GE1075.out) | exact HB.out)))); have n1_ := Aside0.mk (blk_below (g := gb1074) (o := .cells #[.slice A0_0 l0_0.length c0_0, .slice A0_1 l0_1.length c0_1] 56 (0, 0)) (by (with_reducible repeat (first | refine blk_drewN ?_ _ | refine blk_drew ?_ | refine blk_alloc ?_ _)); exact BK1074.out) hb); have n2_ := Aside0.mk (blk_below (g := gb1075) (o := .cells #[.int .i64 0, .slice none 0 0, .slice none 0 0] 86 (0, 0)) (by (with_reducible repeat (first | refine blk_drewN ?_ _ | refine blk_drew ?_ | refine blk_alloc ?_ _)); exact BK1075.out) hb); have n3_ := Aside0.mk (below_step (by repeat (first | (with_reducible first | exact HB.out | apply below_alloc | apply pw_below_drewN | apply below_drew1 | refine below_set ?_ GE1074.out | refine below_set ?_ GE1075.out) | exact HB.out)) hb); clear BK1074; clear BK1075; clear HB; have HO1079 := n0_; have BK1074 := n1_; have BK1075 := n2_; have HB := n3_; clear n0_ n1_ n2_ n3_; (try clear hb); (try clear hb2); (try clear hk); (try clear hi); (try clear ho0)))
  (try simp only [Act.put, List.setIfInBounds_toArray, List.set_cons_zero, List.set_cons_succ])
  go_cut [10] (fun v10 wc => ∃ (kq : Nat) (x10_13 : Int), v10 = .int .i64 x10_13 ∧ Aside0 (spec_l04Pivot.j0 kq a1 (l0_1.length : Int) l9 t1076 t1077 x10_13 l0_0 l0_1 = some (r1, r2, r3, r4)) ∧ Aside0 (kq ≤ k) ∧ Aside0 (Kd.R (Kd.int .i64) 2 wc w.heap.size (fun _ => True) v1078 t1076) ∧ Aside0 (wc.heap[gb1074]? = some (.cells #[(.slice A0_0 l0_0.length c0_0), (.slice A0_1 l0_1.length c0_1)] 56 (0, 0))) ∧ Aside0 (wc.heap[gb1075]? = some (.cells #[.int .i64 0, (.slice none 0 0), (.slice none 0 0)] 86 (0, 0))) ∧ Aside0 (Below w.heap.size w wc))
  case first =>
   have H := HC14.out
   clear HC14
   by_cases c22 : t1077 < 0
   ·rw [if_pos c22] at H
    have c22b0 : decide (t1077 < 0) = true := decide_eq_true c22
    clear c22
    (first | rw [c22b0] | (simp only [i64_w, i32_w]; rw [c22b0]) | skip)
    have H' := Aside0.mk H
    clear H
    go_wp2
    go_meet
    case rel => exact ⟨_, ((-1)), (by first | rfl | (simp; done) | (simp [*]; done)), H', ⟨by first | omega | exact Nat.le_refl _⟩, ⟨by (with_reducible repeat (first | apply Kd.R_alloc | apply Kd.R_drewN | apply Kd.R_drew)); exact HO1079.out⟩, ⟨by (with_reducible repeat (first | refine blk_drewN ?_ _ | refine blk_drew ?_ | refine blk_alloc ?_ _)); exact BK1074.out⟩, ⟨by (with_reducible repeat (first | refine blk_drewN ?_ _ | refine blk_drew ?_ | refine blk_alloc ?_ _)); exact BK1075.out⟩, ⟨by repeat (first | (with_reducible first | exact HB.out | apply below_alloc | apply pw_below_drewN | apply below_drew1 | refine below_set ?_ GE1074.out | refine below_set ?_ GE1075.out) | exact HB.out)⟩⟩
   ·rw [if_neg c22] at H
    have c22b0 : decide (t1077 < 0) = false := decide_eq_false c22
    clear c22
    (first | rw [c22b0] | (simp only [i64_w, i32_w]; rw [c22b0]) | skip)
    have H' := Aside0.mk H
    clear H
    go_wp2
    go_meet
    case rel => exact ⟨_, (1), (by first | rfl | (simp; done) | (simp [*]; done)), H', ⟨by first | omega | exact Nat.le_refl _⟩, ⟨by (with_reducible repeat (first | apply Kd.R_alloc | apply Kd.R_drewN | apply Kd.R_drew)); exact HO1079.out⟩, ⟨by (with_reducible repeat (first | refine blk_drewN ?_ _ | refine blk_drew ?_ | refine blk_alloc ?_ _)); exact BK1074.out⟩, ⟨by (with_reducible repeat (first | refine blk_drewN ?_ _ | refine blk_drew ?_ | refine blk_alloc ?_ _)); exact BK1075.out⟩, ⟨by repeat (first | (with_reducible first | exact HB.out | apply below_alloc | apply pw_below_drewN | apply below_drew1 | refine below_set ?_ GE1074.out | refine below_set ?_ GE1075.out) | exact HB.out)⟩⟩
  case rest =>
   clear HC14
   try clear c1
   try clear c2
   try clear p2
   try clear c5
   try clear c5b0
   try clear c5b1
   try clear c8
   try clear c9
   try clear c10
   try clear c14
   try clear c19
   try clear c22
   try clear c22b0
   try clear hcz11_0
   try clear hcz11_1
   try clear hcz13_0
   try clear hcz13_1
   try clear hcz13_2
   try clear hcz20_0
   try clear hcz20_1
   try clear hfz11_0
   try clear hfz11_1
   try clear hfz13_0
   try clear hfz13_1
   try clear hfz13_2
   try clear hfz20_0
   try clear hfz20_1
   obtain ⟨kq, x10_13, rfl, HA, HJ13, HO_8, BK1074, BK1075, HB⟩ := hcut
   cases kq with
   | zero => exact absurd HA.out (by simp [spec_l04Pivot.j0])
   | succ kj13 =>
    have H := HA.out
    clear HA
    simp only [spec_l04Pivot.j0] at H
    obtain ⟨y1080, hy1080⟩ : ∃ y_ : List (List Int), y_ = (([] : List (List Int))) := ⟨_, rfl⟩
    replace H : (spec_l04Pivot.l0 kj13 a1 (l0_1.length : Int) l9 t1076 x10_13 0 l0_0 l0_1 (wrap64 (x10_13 * t1077)) y1080 (([] : List Int))) = some (r1, r2, r3, r4) := by first | (rw [hy1080]; with_reducible exact H) | (have H2_ := (Option.bind_some _ _).symm.trans H; rw [hy1080]; with_reducible exact H2_) | (have H2_ := (Option.bind_some _ _).symm.trans H; with_reducible exact H2_) | with_reducible exact H | (rw [hy1080]; exact H) | exact H
    have Ny1080 := Aside0.mk hy1080
    clear hy1080
    obtain ⟨y1083, hy1083⟩ : ∃ y_ : List Int, y_ = (([] : List Int)) := ⟨_, rfl⟩
    replace H : (spec_l04Pivot.l0 kj13 a1 (l0_1.length : Int) l9 t1076 x10_13 0 l0_0 l0_1 (wrap64 (x10_13 * t1077)) y1080 y1083) = some (r1, r2, r3, r4) := by first | (rw [hy1083]; with_reducible exact H) | (have H2_ := (Option.bind_some _ _).symm.trans H; rw [hy1083]; with_reducible exact H2_) | (have H2_ := (Option.bind_some _ _).symm.trans H; with_reducible exact H2_) | with_reducible exact H | (rw [hy1083]; exact H) | exact H
    have Ny1083 := Aside0.mk hy1083
    clear hy1083
    have H' := Aside0.mk H
    clear H
    go_wp2_with (first | ((with_reducible refine gate_dst (N := 42) rfl ?_); refine Kd.S_lit (Kd.slice 2 (Kd.int .i64)) _ 33 ?hg (N := 42) ?hd (xs := ([] : List (List Int))) (inner := []) (ok := fun _ => True) (okp := fun _ => True) ?hr ?hp (fun _ hk => hk) trivial (Below.refl _ _) (Nat.le_refl _) (by simp) ?_; (case hd => rfl); (case hg => rfl); (case hr => first | (go_simp; done) | (go_simp; rfl)); (case hp => exact (Reps.none _ _)); intro v1081 w23 ho24 hb hg_ hnew_; clear hg_ hnew_; (first | rw [← Ny1080.out] at ho24 | (simp only [Int.reduceToNat] at ho24; rw [← Ny1080.out] at ho24)); have n0_ := Aside0.mk (Kd.R_below (by (with_reducible repeat (first | apply Kd.R_alloc | apply Kd.R_drewN | apply Kd.R_drew)); exact HO_8.out) hb); have n1_ := Aside0.mk (Kd.S_lower (Kd.S_new' ho24 (Kd.R_lt (by (with_reducible repeat (first | apply Kd.R_alloc | apply Kd.R_drewN | apply Kd.R_drew)); exact HO_8.out))) (below_size (by repeat (first | (with_reducible first | exact HB.out | apply below_alloc | apply pw_below_drewN | apply below_drew1 | refine below_set ?_ GE1074.out | refine below_set ?_ GE1075.out) | exact HB.out)))); have n2_ := Aside0.mk (blk_below (g := gb1074) (o := .cells #[.slice A0_0 l0_0.length c0_0, .slice A0_1 l0_1.length c0_1] 56 (0, 0)) (by (with_reducible repeat (first | refine blk_drewN ?_ _ | refine blk_drew ?_ | refine blk_alloc ?_ _)); exact BK1074.out) hb); have n3_ := Aside0.mk (blk_below (g := gb1075) (o := .cells #[.int .i64 0, .slice none 0 0, .slice none 0 0] 86 (0, 0)) (by (with_reducible repeat (first | refine blk_drewN ?_ _ | refine blk_drew ?_ | refine blk_alloc ?_ _)); exact BK1075.out) hb); have n4_ := Aside0.mk (below_step (by repeat (first | (with_reducible first | exact HB.out | apply below_alloc | apply pw_below_drewN | apply below_drew1 | refine below_set ?_ GE1074.out | refine below_set ?_ GE1075.out) | exact HB.out)) hb); clear HO_8; clear BK1074; clear BK1075; clear HB; have HO_8 := n0_; have HO1082 := n1_; have BK1074 := n2_; have BK1075 := n3_; have HB := n4_; clear n0_ n1_ n2_ n3_ n4_; clear hb ho24) | ((with_reducible refine gate_dst (N := 43) rfl ?_); refine Kd.R_lit (Kd.int .i64) _ 2 ?hg (N := 43) ?hd (xs := ([] : List Int)) (inner := []) (ok := fun _ => True) (okp := fun _ => True) ?hr ?hp (fun _ hk => hk) trivial (Below.refl _ _) (Nat.le_refl _) (by simp) ?_; (case hd => rfl); (case hg => rfl); (case hr => first | (go_simp; done) | (go_simp; rfl)); (case hp => exact (Reps.none _ _)); intro v1084 w25 ho26 hb hg_ hnew_; clear hg_ hnew_; (first | rw [← Ny1083.out] at ho26 | (simp only [Int.reduceToNat] at ho26; rw [← Ny1083.out] at ho26)); have n0_ := Aside0.mk (Kd.R_elder' (by (with_reducible repeat (first | apply Kd.R_alloc | apply Kd.R_drewN | apply Kd.R_drew)); exact HO_8.out) (Kd.R_base ho26) hb); have n1_ := Aside0.mk (Kd.S_elder' (by (with_reducible repeat (first | apply Kd.S_alloc | apply Kd.S_drewN | apply Kd.S_drew)); exact HO1082.out) (Kd.R_base ho26) hb); have n2_ := Aside0.mk (Kd.R_lower (Kd.R_new' ho26 (Kd.R_lt (by (with_reducible repeat (first | apply Kd.R_alloc | apply Kd.R_drewN | apply Kd.R_drew)); exact HO_8.out))) (below_size (by repeat (first | (with_reducible first | exact HB.out | apply below_alloc | apply pw_below_drewN | apply below_drew1 | refine below_set ?_ GE1074.out | refine below_set ?_ GE1075.out) | exact HB.out)))); have n3_ := Aside0.mk (blk_below (g := gb1074) (o := .cells #[.slice A0_0 l0_0.length c0_0, .slice A0_1 l0_1.length c0_1] 56 (0, 0)) (by (with_reducible repeat (first | refine blk_drewN ?_ _ | refine blk_drew ?_ | refine blk_alloc ?_ _)); exact BK1074.out) hb); have n4_ := Aside0.mk (blk_below (g := gb1075) (o := .cells #[.int .i64 0, .slice none 0 0, .slice none 0 0] 86 (0, 0)) (by (with_reducible repeat (first | refine blk_drewN ?_ _ | refine blk_drew ?_ | refine blk_alloc ?_ _)); exact BK1075.out) hb); have n5_ := Aside0.mk (below_step (by repeat (first | (with_reducible first | exact HB.out | apply below_alloc | apply pw_below_drewN | apply below_drew1 | refine below_set ?_ GE1074.out | refine below_set ?_ GE1075.out) | exact HB.out)) hb); clear HO_8; clear HO1082; clear BK1074; clear BK1075; clear HB; have HO_8 := n0_; have HO1082 := n1_; have HO1085 := n2_; have BK1074 := n3_; have BK1075 := n4_; have HB := n5_; clear n0_ n1_ n2_ n3_ n4_ n5_; clear hb ho26; obtain ⟨Ao27, co27, eo27⟩ := Kd.R_slice HO1085.out; subst eo27; obtain ⟨Ao28, co28, eo28⟩ := Kd.S_slice HO1082.out; subst eo28) | ((with_reducible refine gate_dst (N := 11) rfl ?_); refine box_event ?hg (N := 11) ?hd (cs := #[.int .i64 0, .slice none 0 0, .slice none 0 0]) (t := 86) ?hr ?_; (case hd => rfl); (case hg => rfl); (case hr => first | (go_simp; done) | (go_simp; rfl)); intro gb1086 hg w29 hbox hb; have n0_ := Aside0.mk (Kd.R_below (by (with_reducible repeat (first | apply Kd.R_alloc | apply Kd.R_drewN | apply Kd.R_drew)); exact HO_8.out) hb); have n1_ := Aside0.mk (Kd.S_below (by (with_reducible repeat (first | apply Kd.S_alloc | apply Kd.S_drewN | apply Kd.S_drew)); exact HO1082.out) hb); have n2_ := Aside0.mk (Kd.R_below (by (with_reducible repeat (first | apply Kd.R_alloc | apply Kd.R_drewN | apply Kd.R_drew)); exact HO1085.out) hb); have n3_ := Aside0.mk (blk_below (g := gb1074) (o := .cells #[.slice A0_0 l0_0.length c0_0, .slice A0_1 l0_1.length c0_1] 56 (0, 0)) (by (with_reducible repeat (first | refine blk_drewN ?_ _ | refine blk_drew ?_ | refine blk_alloc ?_ _)); exact BK1074.out) hb); have n4_ := Aside0.mk (blk_below (g := gb1075) (o := .cells #[.int .i64 0, .slice none 0 0, .slice none 0 0] 86 (0, 0)) (by (with_reducible repeat (first | refine blk_drewN ?_ _ | refine blk_drew ?_ | refine blk_alloc ?_ _)); exact BK1075.out) hb); have n5_ := Aside0.mk (below_step (by repeat (first | (with_reducible first | exact HB.out | apply below_alloc | apply pw_below_drewN | apply below_drew1 | refine below_set ?_ GE1074.out | refine below_set ?_ GE1075.out) | exact HB.out)) hb); have n6_ := Aside0.mk (hbox); have n7_ := Aside0.mk ((by rw [hg]; exact (below_size (by repeat (first | (with_reducible first | exact HB.out | apply below_alloc | apply pw_below_drewN | apply below_drew1 | refine below_set ?_ GE1074.out | refine below_set ?_ GE1075.out) | exact HB.out))) : w.heap.size ≤ gb1086)); have n8_ := Aside0.mk ((by rw [hg]; exact (below_size (by repeat (first | (with_reducible first | exact HB.out | apply below_alloc | apply pw_below_drewN | apply below_drew1 | refine below_set ?_ GE1074.out | refine below_set ?_ GE1075.out) | exact HB.out))) : w.heap.size ≤ gb1086)); have n9_ := Aside0.mk ((by rw [hg]; exact Nat.ne_of_lt (blk_lt (g := gb1074) (o := .cells #[.slice A0_0 l0_0.length c0_0, .slice A0_1 l0_1.length c0_1] 56 (0, 0)) (by (with_reducible repeat (first | refine blk_drewN ?_ _ | refine blk_drew ?_ | refine blk_alloc ?_ _)); exact BK1074.out)) : gb1074 ≠ gb1086)); have n10_ := Aside0.mk ((by rw [hg]; exact Nat.ne_of_gt (blk_lt (g := gb1074) (o := .cells #[.slice A0_0 l0_0.length c0_0, .slice A0_1 l0_1.length c0_1] 56 (0, 0)) (by (with_reducible repeat (first | refine blk_drewN ?_ _ | refine blk_drew ?_ | refine blk_alloc ?_ _)); exact BK1074.out)) : gb1086 ≠ gb1074)); have n11_ := Aside0.mk ((by rw [hg]; exact Nat.ne_of_lt (blk_lt (g := gb1075) (o := .cells #[.int .i64 0, .slice none 0 0, .slice none 0 0] 86 (0, 0)) (by (with_reducible repeat (first | refine blk_drewN ?_ _ | refine blk_drew ?_ | refine blk_alloc ?_ _)); exact BK1075.out)) : gb1075 ≠ gb1086)); have n12_ := Aside0.mk ((by rw [hg]; exact Nat.ne_of_gt (blk_lt (g := gb1075) (o := .cells #[.int .i64 0, .slice none 0 0, .slice none 0 0] 86 (0, 0)) (by (with_reducible repeat (first | refine blk_drewN ?_ _ | refine blk_drew ?_ | refine blk_alloc ?_ _)); exact BK1075.out)) : gb1086 ≠ gb1075)); clear HO_8; clear HO1082; clear HO1085; clear BK1074; clear BK1075; clear HB; have HO_8 := n0_; have HO1082 := n1_; have HO1085 := n2_; have BK1074 := n3_; have BK1075 := n4_; have HB := n5_; have BK1086 := n6_; have GW1086 := n7_; have GE1086 := n8_; have NB1074_1086 := n9_; have NB1086_1074 := n10_; have NB1075_1086 := n11_; have NB1086_1075 := n12_; clear n0_ n1_ n2_ n3_ n4_ n5_ n6_ n7_ n8_ n9_ n10_ n11_ n12_; clear hb hbox hg; have hnb30 := NB1086_1074.out; have hnc30 := NB1074_1086.out; have hnb31 := NB1086_1075.out; have hnc31 := NB1075_1086.out; have hcz32_0 : w29.cell? ⟨gb1086, 0, none⟩ = some (.int .i64 0) := (blk_cell BK1086.out 0).trans rfl; have hcz32_1 : w29.cell? ⟨gb1086, 1, none⟩ = some (.slice none 0 0) := (blk_cell BK1086.out 1).trans rfl; have hcz32_2 : w29.cell? ⟨gb1086, 2, none⟩ = some (.slice none 0 0) := (blk_cell BK1086.out 2).trans rfl; have hfz32_0 := blk_frozen BK1086.out 0; have hfz32_1 := blk_frozen BK1086.out 1; have hfz32_2 := blk_frozen BK1086.out 2))
    go_loopg [12] kj13 (fun kq v12 w' => ∃ (x12_2 : Int) (x1087001_2 : List (List Int)) (x1087002_2 : List Int) (u1087001 : Value) (u1087002 : Value), v12 = .int .i64 x12_2 ∧ Aside0 (spec_l04Pivot.l0 kq a1 (l0_1.length : Int) l9 t1076 x10_13 x12_2 l0_0 l0_1 (wrap64 (x10_13 * t1077)) x1087001_2 x1087002_2 = some (r1, r2, r3, r4)) ∧ Aside0 (kq ≤ kj13) ∧ Aside0 (Kd.R (Kd.int .i64) 2 w' w.heap.size (fun k_ => some k_ ≠ (u1087002 : Value).ownBlock) v1078 t1076) ∧ Aside0 (Kd.S (Kd.slice 2 (Kd.int .i64)) 33 w' w.heap.size (fun k_ => some k_ ≠ (v1078 : Value).ownBlock ∧ some k_ ≠ (u1087002 : Value).ownBlock) u1087001 x1087001_2) ∧ Aside0 (Kd.R (Kd.int .i64) 2 w' w.heap.size (fun k_ => some k_ ≠ (v1078 : Value).ownBlock) u1087002 x1087002_2) ∧ Aside0 (w'.heap[gb1074]? = some (.cells #[(.slice A0_0 l0_0.length c0_0), (.slice A0_1 l0_1.length c0_1)] 56 (0, 0))) ∧ Aside0 (w'.heap[gb1075]? = some (.cells #[.int .i64 0, (.slice none 0 0), (.slice none 0 0)] 86 (0, 0))) ∧ Aside0 (w'.heap[gb1086]? = some (.cells #[.int .i64 (wrap64 (x10_13 * t1077)), u1087001, u1087002] 86 (0, 0))) ∧ Aside0 (Below w.heap.size w w'))
    case atStart => exact ⟨(0), (y1080), (y1083), (.slice Ao28 y1080.length co28), (.slice Ao27 y1083.length co27), (by first | rfl | (simp; done) | (simp [*]; done)), H', ⟨Nat.le_refl _⟩, ⟨by (with_reducible repeat (first | apply Kd.R_alloc | apply Kd.R_drewN | apply Kd.R_drew)); exact Kd.R_mono (Kd.R_far (p := ⟨gb1086, 2, none⟩) (Kd.R_far (p := ⟨gb1086, 1, none⟩) (Kd.R_far (p := ⟨gb1086, 0, none⟩) (Kd.R_types HO_8.out BK1086.out (by decide)) (fun _ hk => hk.2) (.int .i64 (wrap64 (x10_13 * t1077)))) (fun _ hk => hk.2) (.slice Ao28 y1080.length co28)) (fun _ hk => hk.2) (.slice Ao27 y1083.length co27)) (fun _ hk => hk.1.2)⟩, ⟨by (with_reducible repeat (first | apply Kd.S_alloc | apply Kd.S_drewN | apply Kd.S_drew)); exact Kd.S_mono (Kd.S_far (p := ⟨gb1086, 2, none⟩) (Kd.S_far (p := ⟨gb1086, 1, none⟩) (Kd.S_far (p := ⟨gb1086, 0, none⟩) (Kd.S_types HO1082.out BK1086.out (by decide)) (fun _ hk => hk.2) (.int .i64 (wrap64 (x10_13 * t1077)))) (fun _ hk => hk.2) (.slice Ao28 y1080.length co28)) (fun _ hk => hk.2) (.slice Ao27 y1083.length co27)) (fun _ hk => ⟨hk.1.1.2, hk.1.2⟩)⟩, ⟨by (with_reducible repeat (first | apply Kd.R_alloc | apply Kd.R_drewN | apply Kd.R_drew)); exact Kd.R_mono (Kd.R_far (p := ⟨gb1086, 2, none⟩) (Kd.R_far (p := ⟨gb1086, 1, none⟩) (Kd.R_far (p := ⟨gb1086, 0, none⟩) (Kd.R_types HO1085.out BK1086.out (by decide)) (fun _ hk => hk.2) (.int .i64 (wrap64 (x10_13 * t1077)))) (fun _ hk => hk.2) (.slice Ao28 y1080.length co28)) (fun _ hk => hk.2) (.slice Ao27 y1083.length co27)) (fun _ hk => hk.1.2)⟩, ⟨by (with_reducible repeat (first | refine blk_drewN ?_ _ | refine blk_drew ?_ | refine blk_alloc ?_ _)); refine blk_far ?_ NB1074_1086.out _; (with_reducible repeat (first | refine blk_drewN ?_ _ | refine blk_drew ?_ | refine blk_alloc ?_ _)); refine blk_far ?_ NB1074_1086.out _; (with_reducible repeat (first | refine blk_drewN ?_ _ | refine blk_drew ?_ | refine blk_alloc ?_ _)); refine blk_far ?_ NB1074_1086.out _; (with_reducible repeat (first | refine blk_drewN ?_ _ | refine blk_drew ?_ | refine blk_alloc ?_ _)); exact BK1074.out⟩, ⟨by (with_reducible repeat (first | refine blk_drewN ?_ _ | refine blk_drew ?_ | refine blk_alloc ?_ _)); refine blk_far ?_ NB1075_1086.out _; (with_reducible repeat (first | refine blk_drewN ?_ _ | refine blk_drew ?_ | refine blk_alloc ?_ _)); refine blk_far ?_ NB1075_1086.out _; (with_reducible repeat (first | refine blk_drewN ?_ _ | refine blk_drew ?_ | refine blk_alloc ?_ _)); refine blk_far ?_ NB1075_1086.out _; (with_reducible repeat (first | refine blk_drewN ?_ _ | refine blk_drew ?_ | refine blk_alloc ?_ _)); exact BK1075.out⟩, ⟨by (with_reducible repeat (first | refine blk_drewN ?_ _ | refine blk_drew ?_ | refine blk_alloc ?_ _)); refine blk_put (cs := #[.int .i64 (wrap64 (x10_13 * t1077)), .slice Ao28 y1080.length co28, .slice none 0 0]) ?_ 2 _ rfl; (with_reducible repeat (first | refine blk_drewN ?_ _ | refine blk_drew ?_ | refine blk_alloc ?_ _)); refine blk_put (cs := #[.int .i64 (wrap64 (x10_13 * t1077)), .slice none 0 0, .slice none 0 0]) ?_ 1 _ rfl; (with_reducible repeat (first | refine blk_drewN ?_ _ | refine blk_drew ?_ | refine blk_alloc ?_ _)); refine blk_put (cs := #[.int .i64 0, .slice none 0 0, .slice none 0 0]) ?_ 0 _ rfl; (with_reducible repeat (first | refine blk_drewN ?_ _ | refine blk_drew ?_ | refine blk_alloc ?_ _)); exact BK1086.out⟩, ⟨by repeat (first | (with_reducible first | exact HB.out | apply below_alloc | apply pw_below_drewN | apply below_drew1 | refine below_set ?_ GE1074.out | refine below_set ?_ GE1075.out | refine below_set ?_ GE1086.out) | exact HB.out)⟩⟩
    case round =>
     clear H'
     try clear c1
     try clear c2
     try clear p2
     try clear c3
     try clear c5
     try clear c5b0
     try clear c5b1
     try clear p6
     try clear c8
     try clear c9
     try clear c10
     try clear c14
     try clear c19
     try clear c22
     try clear c22b0
     try clear c30
     try clear c31
     try clear hcz11_0
     try clear hcz11_1
     try clear hcz13_0
     try clear hcz13_1
     try clear hcz13_2
     try clear hcz20_0
     try clear hcz20_1
     try clear hcz32_0
     try clear hcz32_1
     try clear hcz32_2
     try clear hfz11_0
     try clear hfz11_1
     try clear hfz13_0
     try clear hfz13_1
     try clear hfz13_2
     try clear hfz20_0
     try clear hfz20_1
     try clear hfz32_0
     try clear hfz32_1
     try clear hfz32_2
     try clear p2
     obtain ⟨x12_2, x1087001_2, x1087002_2, u1087001, u1087002, rfl, HA, HK2, HO_8, HO_1087001, HO_1087002, BK1074, BK1075, BK1086, HB⟩ := hrel
     cases gk with
     | zero => exact absurd HA.out (by simp [spec_l04Pivot.l0])
     | succ k2 =>
      have H := HA.out
      clear HA
      simp only [spec_l04Pivot.l0] at H
      by_cases c33 : x12_2 < (l0_1.length : Int)
      ·rw [if_pos c33] at H
       have c33b0 : decide (x12_2 < (l0_1.length : Int)) = true := decide_eq_true c33
       clear c33
       by_cases c34 : 0 ≤ (l0_1.length : Int)
       ·rw [if_pos c34] at H
        have c34b0 := eq_true c34
        have c34b1 : decide (0 ≤ (l0_1.length : Int)) = true := decide_eq_true c34
        clear c34
        by_cases c35 : ((l0_1.length : Int) : Int).toNat ≤ 35184372088832
        ·rw [if_pos c35] at H
         have c35b0 := eq_true c35
         have c35b1 : decide (((l0_1.length : Int) : Int).toNat ≤ 35184372088832) = true := decide_eq_true c35
         clear c35
         obtain ⟨y1087, hy1087⟩ : ∃ y_ : List Int, y_ = (List.replicate ((l0_1.length : Int) : Int).toNat 0) := ⟨_, rfl⟩
         replace H : (if x1087001_2.length < 5864062014805 then (if 0 ≤ x12_2 then (if x12_2 < (t1076.length : Int) then (if x1087002_2.length < 17592186044416 then (spec_l04Pivot.l0 k2 a1 (l0_1.length : Int) l9 t1076 x10_13 (wrap64 (x12_2 + 1)) l0_0 l0_1 (wrap64 (x10_13 * t1077)) (x1087001_2 ++ [y1087]) (x1087002_2 ++ [wrap64 (x10_13 * (rd t1076 x12_2))])) else (none)) else (none)) else (none)) else (none)) = some (r1, r2, r3, r4) := by first | (rw [hy1087]; with_reducible exact H) | (have H2_ := (Option.bind_some _ _).symm.trans H; rw [hy1087]; with_reducible exact H2_) | (have H2_ := (Option.bind_some _ _).symm.trans H; with_reducible exact H2_) | with_reducible exact H | (rw [hy1087]; exact H) | exact H
         have Ny1087 := Aside0.mk hy1087
         clear hy1087
         by_cases c36 : x1087001_2.length < 5864062014805
         ·rw [if_pos c36] at H
          have LMc36 := Aside0.mk c36
          clear c36
          obtain ⟨y1090, hy1090⟩ : ∃ y_ : List (List Int), y_ = (x1087001_2 ++ [y1087]) := ⟨_, rfl⟩
          replace H : (if 0 ≤ x12_2 then (if x12_2 < (t1076.length : Int) then (if x1087002_2.length < 17592186044416 then (spec_l04Pivot.l0 k2 a1 (l0_1.length : Int) l9 t1076 x10_13 (wrap64 (x12_2 + 1)) l0_0 l0_1 (wrap64 (x10_13 * t1077)) y1090 (x1087002_2 ++ [wrap64 (x10_13 * (rd t1076 x12_2))])) else (none)) else (none)) else (none)) = some (r1, r2, r3, r4) := by first | (rw [hy1090]; with_reducible exact H) | (have H2_ := (Option.bind_some _ _).symm.trans H; rw [hy1090]; with_reducible exact H2_) | (have H2_ := (Option.bind_some _ _).symm.trans H; with_reducible exact H2_) | with_reducible exact H | (rw [hy1090]; exact H) | exact H
          have Ny1090 := Aside0.mk hy1090
          clear hy1090
          by_cases c37 : 0 ≤ x12_2
          ·rw [if_pos c37] at H
           have c37b0 : decide (0 ≤ x12_2) = true := decide_eq_true c37
           clear c37
           by_cases c38 : x12_2 < (t1076.length : Int)
           ·rw [if_pos c38] at H
            have c38b0 : decide (x12_2 < (t1076.length : Int)) = true := decide_eq_true c38
            clear c38
            by_cases c39 : x1087002_2.length < 17592186044416
            ·rw [if_pos c39] at H
             have LMc39 := Aside0.mk c39
             clear c39
             obtain ⟨y1094, hy1094⟩ : ∃ y_ : List Int, y_ = (x1087002_2 ++ [wrap64 (x10_13 * (rd t1076 x12_2))]) := ⟨_, rfl⟩
             replace H : (spec_l04Pivot.l0 k2 a1 (l0_1.length : Int) l9 t1076 x10_13 (wrap64 (x12_2 + 1)) l0_0 l0_1 (wrap64 (x10_13 * t1077)) y1090 y1094) = some (r1, r2, r3, r4) := by first | (rw [hy1094]; with_reducible exact H) | (have H2_ := (Option.bind_some _ _).symm.trans H; rw [hy1094]; with_reducible exact H2_) | (have H2_ := (Option.bind_some _ _).symm.trans H; with_reducible exact H2_) | with_reducible exact H | (rw [hy1094]; exact H) | exact H
             have Ny1094 := Aside0.mk hy1094
             clear hy1094
             have H' := Aside0.mk H
             clear H
             try go_wp2
             have n0_ := Aside0.mk (Kd.R_drew HO_8.out)
             have n1_ := Aside0.mk (Kd.S_drew HO_1087001.out)
             have n2_ := Aside0.mk (Kd.R_drew HO_1087002.out)
             have n3_ := Aside0.mk (blk_drew BK1074.out)
             have n4_ := Aside0.mk (blk_drew BK1075.out)
             have n5_ := Aside0.mk (blk_drew BK1086.out)
             have n6_ := Aside0.mk (below_drew1 HB.out)
             clear HO_8
             clear HO_1087001
             clear HO_1087002
             clear BK1074
             clear BK1075
             clear BK1086
             clear HB
             have HO_8 := n0_
             have HO_1087001 := n1_
             have HO_1087002 := n2_
             have BK1074 := n3_
             have BK1075 := n4_
             have BK1086 := n5_
             have HB := n6_
             clear n0_ n1_ n2_ n3_ n4_ n5_ n6_
             refine start_ (n := 8) (S := fun w' => w'.cell? ⟨gb1086, 0, none⟩ = some (.int .i64 (wrap64 (x10_13 * t1077))) ∧ w'.cell? ⟨gb1086, 1, none⟩ = some (u1087001) ∧ w'.cell? ⟨gb1086, 2, none⟩ = some (u1087002)) (ds := [7]) #[false, false, false, false, false, false, false, false] (by kernel_rfl) rfl rfl ⟨(blk_cell BK1086.out 0).trans rfl, (blk_cell BK1086.out 1).trans rfl, (blk_cell BK1086.out 2).trans rfl⟩ (fun hHeld => ?_); refine with_tabW spec_l04Pivot.tab12 spec_l04Pivot.bits12 (fun HT_ HW_ => ?_)
             generalize wr.drew = w40 at HO_8 HO_1087001 HO_1087002 BK1074 BK1075 BK1086 HB hHeld ⊢
             refine pure_ (i := 0) (N := some 50) (v := ?_) (a' := ?_) #[true, false, false, false, false, false, false, false] rfl rfl (any_of HT_.out (by kernel_rfl)) (fun _ _ _ h => h) (Or.inl ⟨by rfl, ?_⟩) ?_ ?_
             rotate_left
             ·intro w'
              go_simp
              with_reducible rfl
             rotate_left
             ·simp only [Act.put, List.setIfInBounds_toArray, List.set_cons_zero, List.set_cons_succ, i64_w, i32_w]
              rfl
             refine pure_ (i := 2) (N := some 52) (v := ?_) (a' := ?_) #[true, false, true, false, false, false, false, false] rfl rfl (any_of HT_.out (by kernel_rfl)) (fun _ _ _ h => h) (Or.inl ⟨by rfl, ?_⟩) ?_ ?_
             rotate_left
             ·intro w'
              go_simp
              with_reducible rfl
             rotate_left
             ·simp only [Act.put, List.setIfInBounds_toArray, List.set_cons_zero, List.set_cons_succ, i64_w, i32_w]
              rfl
             refine take_ (i := 1) (N := some 51) (v := ?_) (a' := ?_) #[true, true, true, false, false, false, false, false] rfl rfl (take_ofW HT_.out HW_.out (by kernel_rfl)) (fun _ _ _ h => h) (Or.inl ⟨by rfl, ?_⟩) hHeld ?_ ?_
             rotate_left
             ·rintro w' ⟨s0, s1, s2⟩
              go_simp
              with_reducible rfl
             rotate_left
             ·simp only [Act.put, List.setIfInBounds_toArray, List.set_cons_zero, List.set_cons_succ, i64_w, i32_w]
              rfl
             refine one_ (i := 3) (N := some 53) #[true, true, true, true, false, false, false, false] rfl rfl (one_of HT_.out (by kernel_rfl)) (by decide) (fun K hK => ?_)
             refine Kd.R_make_step (Kd.int .i64) _ 2 (by rfl) (N := 53) rfl 33 _ _ rfl (l0_1.length : Int) rfl rfl Try.underlying33 (.int .i64 0) 8 info2 rfl (by decide) (by omega) 0 (ok := fun _ => True) (okp := fun _ => True) rfl (fun _ hk => hk) trivial (of_decide_eq_true (by first | (with_reducible assumption) | assumption)) (Nat.le_trans (Nat.mul_le_mul_right _ (of_decide_eq_true (by first | (with_reducible assumption) | assumption) : (l0_1.length : Int).toNat ≤ 35184372088832)) (by omega)) (Below.refl _ _) (Nat.le_refl _) ?_
             intro v1088 w41 ho42 hb hg_ hnew_
             clear hg_ hnew_
             (first | rw [← Ny1087.out] at ho42 | (simp only [Int.reduceToNat] at ho42; rw [← Ny1087.out] at ho42))
             have n0_ := Aside0.mk (Kd.R_elder' (by (with_reducible repeat (first | apply Kd.R_alloc | apply Kd.R_drewN | apply Kd.R_drew)); exact HO_8.out) (Kd.R_base ho42) hb)
             have n1_ := Aside0.mk (Kd.S_elder' (by (with_reducible repeat (first | apply Kd.S_alloc | apply Kd.S_drewN | apply Kd.S_drew)); exact HO_1087001.out) (Kd.R_base ho42) hb)
             have n2_ := Aside0.mk (Kd.R_elder' (by (with_reducible repeat (first | apply Kd.R_alloc | apply Kd.R_drewN | apply Kd.R_drew)); exact HO_1087002.out) (Kd.R_base ho42) hb)
             have n3_ := Aside0.mk (Kd.R_lower (Kd.R_new' (Kd.R_new' ho42 (Kd.R_lt (by (with_reducible repeat (first | apply Kd.R_alloc | apply Kd.R_drewN | apply Kd.R_drew)); exact HO_8.out))) (Kd.R_lt (by (with_reducible repeat (first | apply Kd.R_alloc | apply Kd.R_drewN | apply Kd.R_drew)); exact HO_1087002.out))) (below_size (by repeat (first | (with_reducible first | exact HB.out | apply below_alloc | apply pw_below_drewN | apply below_drew1 | refine below_set ?_ GE1074.out | refine below_set ?_ GE1075.out | refine below_set ?_ GE1086.out) | exact HB.out))))
             have n4_ := Aside0.mk (blk_below (g := gb1074) (o := .cells #[.slice A0_0 l0_0.length c0_0, .slice A0_1 l0_1.length c0_1] 56 (0, 0)) (by (with_reducible repeat (first | refine blk_drewN ?_ _ | refine blk_drew ?_ | refine blk_alloc ?_ _)); exact BK1074.out) hb)
             have n5_ := Aside0.mk (blk_below (g := gb1075) (o := .cells #[.int .i64 0, .slice none 0 0, .slice none 0 0] 86 (0, 0)) (by (with_reducible repeat (first | refine blk_drewN ?_ _ | refine blk_drew ?_ | refine blk_alloc ?_ _)); exact BK1075.out) hb)
             have n6_ := Aside0.mk (blk_below (g := gb1086) (o := .cells #[.int .i64 (wrap64 (x10_13 * t1077)), u1087001, u1087002] 86 (0, 0)) (by (with_reducible repeat (first | refine blk_drewN ?_ _ | refine blk_drew ?_ | refine blk_alloc ?_ _)); exact BK1086.out) hb)
             have n7_ := Aside0.mk (below_step (by repeat (first | (with_reducible first | exact HB.out | apply below_alloc | apply pw_below_drewN | apply below_drew1 | refine below_set ?_ GE1074.out | refine below_set ?_ GE1075.out | refine below_set ?_ GE1086.out) | exact HB.out)) hb)
             clear HO_8
             clear HO_1087001
             clear HO_1087002
             clear BK1074
             clear BK1075
             clear BK1086
             clear HB
             have HO_8 := n0_
             have HO_1087001 := n1_
             have HO_1087002 := n2_
             have HO1089 := n3_
             have BK1074 := n4_
             have BK1075 := n5_
             have BK1086 := n6_
             have HB := n7_
             clear n0_ n1_ n2_ n3_ n4_ n5_ n6_ n7_
             clear hb ho42
             obtain ⟨Ao44, co44, eo44⟩ := Kd.R_slice HO1089.out
             (first | subst eo44 | (injection eo44 with f1_ f2_ f3_; have f4_ := f1_.symm; have f5_ := f3_.symm; clear f1_ f2_ f3_; subst f4_; subst f5_))
             refine hK.out _ _ ⟨(blk_cell BK1086.out 0).trans rfl, (blk_cell BK1086.out 1).trans rfl, (blk_cell BK1086.out 2).trans rfl⟩ (fun hHeld => ?_)
             clear hK K
             refine norm_ (a' := ?_) ?_ ?_
             rotate_left
             ·show Act.put _ (some 53) _ = _
              simp only [Act.put, List.setIfInBounds_toArray, List.set_cons_zero, List.set_cons_succ, i64_w, i32_w]
              rfl
             refine one_ (i := 4) (N := some 54) #[true, true, true, true, true, false, false, false] rfl rfl (one_of HT_.out (by kernel_rfl)) (by decide) (fun K hK => ?_)
             refine value_ (w1 := ?_) (v := ?_) (by rfl) rfl ?_ ?_
             rotate_left 2
             ·go_simp
              constructor
              ·rfl
              ·rfl
             refine hK.out _ _ ⟨(blk_cell (blk_alloc BK1086.out _) 0).trans rfl, (blk_cell (blk_alloc BK1086.out _) 1).trans rfl, (blk_cell (blk_alloc BK1086.out _) 2).trans rfl⟩ (fun hHeld => ?_)
             clear hK K
             refine norm_ (a' := ?_) ?_ ?_
             rotate_left
             ·show Act.put _ (some 54) _ = _
              simp only [Act.put, List.setIfInBounds_toArray, List.set_cons_zero, List.set_cons_succ, i64_w, i32_w]
              rfl
             refine one_ (i := 5) (N := some 55) #[true, true, true, true, true, true, false, false] rfl rfl (one_of HT_.out (by kernel_rfl)) (by decide) (fun K hK => ?_)
             refine Kd.S_append_step (Kd.slice 2 (Kd.int .i64)) (w0 := w) w.heap.size (by rfl) (.tmp 51) (.tmp 54) 22 33 (.slice none 0 0) 24 rfl Try.underlying22 info33 rfl (by decide) (by omega) u1087001 x1087001_2 y1087 [.slice Ao44 y1087.length co44] (fun k_ => some k_ ≠ (v1078 : Value).ownBlock ∧ some k_ ≠ (u1087002 : Value).ownBlock) (fun k_ => some k_ = (.slice Ao44 y1087.length co44 : Value).ownBlock) rfl rfl ?aP (fun k_ hk_ => ((Kd.R_mono (ok' := fun k_ => ((fun k_ => some k_ ≠ (v1078 : Value).ownBlock ∧ some k_ ≠ (u1087002 : Value).ownBlock)) k_ ∧ some k_ ≠ (u1087001 : Value).ownBlock) (Kd.R_apart' (HO1089.out) (Kd.S_typed HO_1087001.out) (by decide)) (fun k_ hk => ⟨⟨hk.1.1.2, hk.1.2⟩, hk.2⟩))).1 k_ hk_.symm) ?aF ?aO ?aB ?aS ?aL ?_
             (case aP => exact Kd.M_row (Kd.R_mono (Kd.R_tight rfl (Kd.R_mono (ok' := fun k_ => ((fun k_ => some k_ ≠ (v1078 : Value).ownBlock ∧ some k_ ≠ (u1087002 : Value).ownBlock)) k_ ∧ some k_ ≠ (u1087001 : Value).ownBlock) (Kd.R_apart' (HO1089.out) (Kd.S_typed HO_1087001.out) (by decide)) (fun k_ hk => ⟨⟨hk.1.1.2, hk.1.2⟩, hk.2⟩))) (fun _ h_ => h_)))
             (case aB => exact (by repeat (first | (with_reducible first | exact HB.out | apply below_alloc | apply pw_below_drewN | apply below_drew1 | refine below_set ?_ GE1074.out | refine below_set ?_ GE1075.out | refine below_set ?_ GE1086.out) | exact HB.out)))
             (case aF => exact (fun k_ hk => ⟨Kd.fresh' (Kd.R_lt (by (with_reducible repeat (first | apply Kd.R_alloc | apply Kd.R_drewN | apply Kd.R_drew)); exact HO_8.out)) k_ hk, Kd.fresh' (Kd.R_lt (by (with_reducible repeat (first | apply Kd.R_alloc | apply Kd.R_drewN | apply Kd.R_drew)); exact HO_1087002.out)) k_ hk⟩))
             (case aO => exact (by (with_reducible repeat (first | apply Kd.S_alloc | apply Kd.S_drewN | apply Kd.S_drew)); exact Kd.S_mono HO_1087001.out (fun k_ hk => ⟨⟨hk.1.1, hk.1.2⟩, fun e_ => hk.2 e_⟩)))
             (case aS => exact (below_size (by repeat (first | (with_reducible first | exact HB.out | apply below_alloc | apply pw_below_drewN | apply below_drew1 | refine below_set ?_ GE1074.out | refine below_set ?_ GE1075.out | refine below_set ?_ GE1086.out) | exact HB.out))))
             (case aL => have := LMc36.out; omega)
             intro v1091 w43 ho hb hg hat
             rw [← Ny1090.out] at ho
             have n0_ := Aside0.mk (Kd.R_over' (by (with_reducible repeat (first | apply Kd.R_alloc | apply Kd.R_drewN | apply Kd.R_drew)); exact HO_8.out) (Kd.S_typed (by (with_reducible repeat (first | apply Kd.S_alloc | apply Kd.S_drewN | apply Kd.S_drew)); exact HO_1087001.out)) (by decide) hg)
             have n1_ := Aside0.mk (Kd.R_over' (by (with_reducible repeat (first | apply Kd.R_alloc | apply Kd.R_drewN | apply Kd.R_drew)); exact HO_1087002.out) (Kd.S_typed (by (with_reducible repeat (first | apply Kd.S_alloc | apply Kd.S_drewN | apply Kd.S_drew)); exact HO_1087001.out)) (by decide) hg)
             have n2_ := Aside0.mk (blk_grown (g := gb1074) (o := .cells #[.slice A0_0 l0_0.length c0_0, .slice A0_1 l0_1.length c0_1] 56 (0, 0)) (by (with_reducible repeat (first | refine blk_drewN ?_ _ | refine blk_drew ?_ | refine blk_alloc ?_ _)); exact BK1074.out) hg (Kd.S_ne HO_1087001.out BK1074.out (by decide)))
             have n3_ := Aside0.mk (blk_grown (g := gb1075) (o := .cells #[.int .i64 0, .slice none 0 0, .slice none 0 0] 86 (0, 0)) (by (with_reducible repeat (first | refine blk_drewN ?_ _ | refine blk_drew ?_ | refine blk_alloc ?_ _)); exact BK1075.out) hg (Kd.S_ne HO_1087001.out BK1075.out (by decide)))
             have n4_ := Aside0.mk (blk_grown (g := gb1086) (o := .cells #[.int .i64 (wrap64 (x10_13 * t1077)), u1087001, u1087002] 86 (0, 0)) (by (with_reducible repeat (first | refine blk_drewN ?_ _ | refine blk_drew ?_ | refine blk_alloc ?_ _)); exact BK1086.out) hg (Kd.S_ne HO_1087001.out BK1086.out (by decide)))
             have n5_ := Aside0.mk (hb)
             have n6_ := Aside0.mk (ho)
             clear HO_8
             clear HO_1087002
             clear BK1074
             clear BK1075
             clear BK1086
             clear HB
             clear HO_1087001
             clear HO1089
             have HO_8 := n0_
             have HO_1087002 := n1_
             have BK1074 := n2_
             have BK1075 := n3_
             have BK1086 := n4_
             have HB := n5_
             have HO1092 := n6_
             clear n0_ n1_ n2_ n3_ n4_ n5_ n6_
             clear ho hb hg hat
             obtain ⟨Ao45, co45, eo45⟩ := Kd.S_slice HO1092.out
             (first | subst eo45 | (injection eo45 with f1_ f2_ f3_; have f4_ := f1_.symm; have f5_ := f3_.symm; clear f1_ f2_ f3_; subst f4_; subst f5_))
             refine hK.out _ _ ⟨(blk_cell BK1086.out 0).trans rfl, (blk_cell BK1086.out 1).trans rfl, (blk_cell BK1086.out 2).trans rfl⟩ (fun hHeld => ?_)
             clear hK K
             refine norm_ (a' := ?_) ?_ ?_
             rotate_left
             ·show Act.put _ (some 55) _ = _
              simp only [Act.put, List.setIfInBounds_toArray, List.set_cons_zero, List.set_cons_succ, i64_w, i32_w]
              rfl
             refine pure_ (i := 6) (N := some 56) (v := ?_) (a' := ?_) #[true, true, true, true, true, true, true, false] rfl rfl (any_of HT_.out (by kernel_rfl)) (fun _ _ _ h => h) (Or.inl ⟨by rfl, ?_⟩) ?_ ?_
             rotate_left
             ·intro w'
              go_simp
              with_reducible rfl
             rotate_left
             ·simp only [Act.put, List.setIfInBounds_toArray, List.set_cons_zero, List.set_cons_succ, i64_w, i32_w]
              rfl
             refine last_ (i := 7) (N := none) #[true, true, true, true, true, true, true, true] rfl rfl (one_of HT_.out (by kernel_rfl)) (by decide) (fun K hK => ?_)
             have hs46 : w43.cell? ⟨gb1086, 1, none⟩ = some (u1087001) := (blk_cell BK1086.out 1).trans rfl
             have hfs46 := blk_frozen BK1086.out 1
             have hns46_0 := NB1074_1086.out
             have hns46_1 := NB1075_1086.out
             have hms46_0 := NB1086_1074.out
             have hms46_1 := NB1086_1075.out
             refine skip_ (w1 := ?_) (by rfl) rfl ?_ ?_
             rotate_left
             ·go_simp
              rfl
             refine hK.out _ _ ?_
             clear hK K
             refine done_ (done_of HT_.out (by kernel_rfl)) ?_
             try go_wp2
             have n0_ : Aside0 (Kd.R (Kd.int .i64) 2 (w43.setCell ⟨gb1086, 1, none⟩ (.slice Ao45 y1090.length co45)) w.heap.size (fun k_ => some k_ ≠ (u1087002 : Value).ownBlock) v1078 t1076) := ⟨by (with_reducible repeat (first | apply Kd.R_alloc | apply Kd.R_drewN | apply Kd.R_drew)); exact Kd.R_mono (Kd.R_far (p := ⟨gb1086, 1, none⟩) (Kd.R_types HO_8.out BK1086.out (by decide)) (fun _ hk => hk.2) (.slice Ao45 y1090.length co45)) (fun _ hk => hk.1.1)⟩
             have n1_ : Aside0 (Kd.R (Kd.int .i64) 2 (w43.setCell ⟨gb1086, 1, none⟩ (.slice Ao45 y1090.length co45)) w.heap.size (fun k_ => some k_ ≠ (v1078 : Value).ownBlock) u1087002 x1087002_2) := ⟨by (with_reducible repeat (first | apply Kd.R_alloc | apply Kd.R_drewN | apply Kd.R_drew)); exact Kd.R_mono (Kd.R_far (p := ⟨gb1086, 1, none⟩) (Kd.R_types HO_1087002.out BK1086.out (by decide)) (fun _ hk => hk.2) (.slice Ao45 y1090.length co45)) (fun _ hk => hk.1.1)⟩
             have n2_ : Aside0 (Kd.S (Kd.slice 2 (Kd.int .i64)) 33 (w43.setCell ⟨gb1086, 1, none⟩ (.slice Ao45 y1090.length co45)) w.heap.size (fun k_ => some k_ ≠ (v1078 : Value).ownBlock ∧ some k_ ≠ (u1087002 : Value).ownBlock) (.slice Ao45 y1090.length co45) y1090) := ⟨by (with_reducible repeat (first | apply Kd.S_alloc | apply Kd.S_drewN | apply Kd.S_drew)); exact Kd.S_mono (Kd.S_far (p := ⟨gb1086, 1, none⟩) (Kd.S_types HO1092.out BK1086.out (by decide)) (fun _ hk => hk.2) (.slice Ao45 y1090.length co45)) (fun _ hk => ⟨hk.1.1, hk.1.2⟩)⟩
             have n3_ : Aside0 ((w43.setCell ⟨gb1086, 1, none⟩ (.slice Ao45 y1090.length co45)).heap[gb1074]? = some (.cells #[.slice A0_0 l0_0.length c0_0, .slice A0_1 l0_1.length c0_1] 56 (0, 0))) := ⟨by (with_reducible repeat (first | refine blk_drewN ?_ _ | refine blk_drew ?_ | refine blk_alloc ?_ _)); refine blk_far ?_ NB1074_1086.out _; (with_reducible repeat (first | refine blk_drewN ?_ _ | refine blk_drew ?_ | refine blk_alloc ?_ _)); exact BK1074.out⟩
             have n4_ : Aside0 ((w43.setCell ⟨gb1086, 1, none⟩ (.slice Ao45 y1090.length co45)).heap[gb1075]? = some (.cells #[.int .i64 0, .slice none 0 0, .slice none 0 0] 86 (0, 0))) := ⟨by (with_reducible repeat (first | refine blk_drewN ?_ _ | refine blk_drew ?_ | refine blk_alloc ?_ _)); refine blk_far ?_ NB1075_1086.out _; (with_reducible repeat (first | refine blk_drewN ?_ _ | refine blk_drew ?_ | refine blk_alloc ?_ _)); exact BK1075.out⟩
             have n5_ : Aside0 ((w43.setCell ⟨gb1086, 1, none⟩ (.slice Ao45 y1090.length co45)).heap[gb1086]? = some (.cells #[.int .i64 (wrap64 (x10_13 * t1077)), .slice Ao45 y1090.length co45, u1087002] 86 (0, 0))) := ⟨by (with_reducible repeat (first | refine blk_drewN ?_ _ | refine blk_drew ?_ | refine blk_alloc ?_ _)); refine blk_put (cs := #[.int .i64 (wrap64 (x10_13 * t1077)), u1087001, u1087002]) ?_ 1 _ rfl; (with_reducible repeat (first | refine blk_drewN ?_ _ | refine blk_drew ?_ | refine blk_alloc ?_ _)); exact BK1086.out⟩
             have n6_ : Aside0 (Below w.heap.size w (w43.setCell ⟨gb1086, 1, none⟩ (.slice Ao45 y1090.length co45))) := ⟨by repeat (first | (with_reducible first | exact HB.out | apply below_alloc | apply pw_below_drewN | apply below_drew1 | refine below_set ?_ GE1074.out | refine below_set ?_ GE1075.out | refine below_set ?_ GE1086.out) | exact HB.out)⟩
             (try clear HO_8)
             (try clear HO_1087002)
             (try clear HO1092)
             (try clear BK1074)
             (try clear BK1075)
             (try clear BK1086)
             (try clear HB)
             generalize (w43.setCell ⟨gb1086, 1, none⟩ (.slice Ao45 y1090.length co45)) = w47 at n0_ n1_ n2_ n3_ n4_ n5_ n6_ ⊢
             have HO_8 := n0_
             have HO_1087002 := n1_
             have HO1092 := n2_
             have BK1074 := n3_
             have BK1075 := n4_
             have BK1086 := n5_
             have HB := n6_
             clear n0_ n1_ n2_ n3_ n4_ n5_ n6_
             have n0_ := Aside0.mk (Kd.R_drew HO_8.out)
             have n1_ := Aside0.mk (Kd.R_drew HO_1087002.out)
             have n2_ := Aside0.mk (Kd.S_drew HO1092.out)
             have n3_ := Aside0.mk (blk_drew BK1074.out)
             have n4_ := Aside0.mk (blk_drew BK1075.out)
             have n5_ := Aside0.mk (blk_drew BK1086.out)
             have n6_ := Aside0.mk (below_drew1 HB.out)
             clear HO_8
             clear HO_1087002
             clear HO1092
             clear BK1074
             clear BK1075
             clear BK1086
             clear HB
             have HO_8 := n0_
             have HO_1087002 := n1_
             have HO1092 := n2_
             have BK1074 := n3_
             have BK1075 := n4_
             have BK1086 := n5_
             have HB := n6_
             clear n0_ n1_ n2_ n3_ n4_ n5_ n6_
             obtain ⟨Ao49, co49, eo49⟩ := Kd.R_slice HO_8.out
             (first | subst eo49 | (injection eo49 with f1_ f2_ f3_; have f4_ := f1_.symm; have f5_ := f3_.symm; clear f1_ f2_ f3_; subst f4_; subst f5_))
             have p1093 : 0 ≤ (x12_2 : Int) := of_decide_eq_true (by first | (with_reducible assumption) | assumption)
             have q1093 : x12_2 < (t1076.length : Int) := of_decide_eq_true (by first | (with_reducible assumption) | assumption)
             obtain ⟨ad1093, e1093, hx1093_0⟩ := Kd.at_int (Kd.R_reads' HO_8.out).2.2 x12_2 p1093 q1093
             cases e1093
             replace p1093 := eq_true p1093
             replace q1093 := eq_true q1093
             refine start_ (n := 12) (S := fun w' => w'.cell? ⟨gb1086, 0, none⟩ = some (.int .i64 (wrap64 (x10_13 * t1077))) ∧ w'.cell? ⟨gb1086, 1, none⟩ = some (.slice Ao45 y1090.length co45) ∧ w'.cell? ⟨gb1086, 2, none⟩ = some (u1087002) ∧ w'.cell? (ad1093.add (x12_2).toNat) = some (.int .i64 (rd t1076 x12_2))) (ds := [9, 11]) #[false, false, false, false, false, false, false, false, false, false, false, false] (by kernel_rfl) rfl rfl ⟨(blk_cell BK1086.out 0).trans rfl, (blk_cell BK1086.out 1).trans rfl, (blk_cell BK1086.out 2).trans rfl, hx1093_0⟩ (fun hHeld => ?_); refine with_tabW spec_l04Pivot.tab13 spec_l04Pivot.bits13 (fun HT_ HW_ => ?_)
             generalize w47.drew = w48 at HO_8 HO_1087002 HO1092 BK1074 BK1075 BK1086 HB hx1093_0 hHeld ⊢
             refine pure_ (i := 0) (N := some 57) (v := ?_) (a' := ?_) #[true, false, false, false, false, false, false, false, false, false, false, false] rfl rfl (any_of HT_.out (by kernel_rfl)) (fun _ _ _ h => h) (Or.inl ⟨by rfl, ?_⟩) ?_ ?_
             rotate_left
             ·intro w'
              go_simp
              with_reducible rfl
             rotate_left
             ·simp only [Act.put, List.setIfInBounds_toArray, List.set_cons_zero, List.set_cons_succ, i64_w, i32_w]
              rfl
             refine pure_ (i := 2) (N := some 59) (v := ?_) (a' := ?_) #[true, false, true, false, false, false, false, false, false, false, false, false] rfl rfl (any_of HT_.out (by kernel_rfl)) (fun _ _ _ h => h) (Or.inl ⟨by rfl, ?_⟩) ?_ ?_
             rotate_left
             ·intro w'
              go_simp
              with_reducible rfl
             rotate_left
             ·simp only [Act.put, List.setIfInBounds_toArray, List.set_cons_zero, List.set_cons_succ, i64_w, i32_w]
              rfl
             refine pure_ (i := 3) (N := some 60) (v := ?_) (a' := ?_) #[true, false, true, true, false, false, false, false, false, false, false, false] rfl rfl (any_of HT_.out (by kernel_rfl)) (fun _ _ _ h => h) (Or.inl ⟨by rfl, ?_⟩) ?_ ?_
             rotate_left
             ·intro w'
              go_simp
              with_reducible rfl
             rotate_left
             ·simp only [Act.put, List.setIfInBounds_toArray, List.set_cons_zero, List.set_cons_succ, i64_w, i32_w]
              rfl
             refine pure_ (i := 4) (N := some 61) (v := ?_) (a' := ?_) #[true, false, true, true, true, false, false, false, false, false, false, false] rfl rfl (any_of HT_.out (by kernel_rfl)) (fun _ _ _ h => h) (Or.inl ⟨by rfl, ?_⟩) ?_ ?_
             rotate_left
             ·intro w'
              go_simp
              with_reducible rfl
             rotate_left
             ·simp only [Act.put, List.setIfInBounds_toArray, List.set_cons_zero, List.set_cons_succ, i64_w, i32_w]
              rfl
             refine pure_ (i := 5) (N := some 62) (v := ?_) (a' := ?_) #[true, false, true, true, true, true, false, false, false, false, false, false] rfl rfl (any_of HT_.out (by kernel_rfl)) (fun _ _ _ h => h) (Or.inl ⟨by rfl, ?_⟩) ?_ ?_
             rotate_left
             ·intro w'
              go_simp
              with_reducible rfl
             rotate_left
             ·simp only [Act.put, List.setIfInBounds_toArray, List.set_cons_zero, List.set_cons_succ, i64_w, i32_w]
              rfl
             refine take_ (i := 1) (N := some 58) (v := ?_) (a' := ?_) #[true, true, true, true, true, true, false, false, false, false, false, false] rfl rfl (take_ofW HT_.out HW_.out (by kernel_rfl)) (fun _ _ _ h => h) (Or.inl ⟨by rfl, ?_⟩) hHeld ?_ ?_
             rotate_left
             ·rintro w' ⟨s0, s1, s2, s3⟩
              go_simp
              with_reducible rfl
             rotate_left
             ·simp only [Act.put, List.setIfInBounds_toArray, List.set_cons_zero, List.set_cons_succ, i64_w, i32_w]
              rfl
             refine take_ (i := 6) (N := some 63) (v := ?_) (a' := ?_) #[true, true, true, true, true, true, true, false, false, false, false, false] rfl rfl (take_ofW HT_.out HW_.out (by kernel_rfl)) (fun _ _ _ h => h) (Or.inl ⟨by rfl, ?_⟩) hHeld ?_ ?_
             rotate_left
             ·rintro w' ⟨s0, s1, s2, s3⟩
              go_simp
              with_reducible rfl
             rotate_left
             ·simp only [Act.put, List.setIfInBounds_toArray, List.set_cons_zero, List.set_cons_succ, i64_w, i32_w]
              rfl
             refine pure_ (i := 7) (N := some 64) (v := ?_) (a' := ?_) #[true, true, true, true, true, true, true, true, false, false, false, false] rfl rfl (any_of HT_.out (by kernel_rfl)) (fun _ _ _ h => h) (Or.inl ⟨by rfl, ?_⟩) ?_ ?_
             rotate_left
             ·intro w'
              go_simp
              with_reducible rfl
             rotate_left
             ·simp only [Act.put, List.setIfInBounds_toArray, List.set_cons_zero, List.set_cons_succ, i64_w, i32_w]
              rfl
             refine one_ (i := 8) (N := some 65) #[true, true, true, true, true, true, true, true, true, false, false, false] rfl rfl (one_of HT_.out (by kernel_rfl)) (by decide) (fun K hK => ?_)
             refine value_ (w1 := ?_) (v := ?_) (by rfl) rfl ?_ ?_
             rotate_left 2
             ·go_simp
              constructor
              ·rfl
              ·rfl
             refine hK.out _ _ ⟨(blk_cell (blk_alloc BK1086.out _) 0).trans rfl, (blk_cell (blk_alloc BK1086.out _) 1).trans rfl, (blk_cell (blk_alloc BK1086.out _) 2).trans rfl, (World.cell?_alloc_lt _ _ _ (World.block_lt_of_cell? _ _ (hHeld.2.2.2))).trans (hHeld.2.2.2)⟩ (fun hHeld => ?_)
             clear hK K
             refine norm_ (a' := ?_) ?_ ?_
             rotate_left
             ·show Act.put _ (some 65) _ = _
              simp only [Act.put, List.setIfInBounds_toArray, List.set_cons_zero, List.set_cons_succ, i64_w, i32_w]
              rfl
             refine last_ (i := 9) (N := some 66) #[true, true, true, true, true, true, true, true, true, true, false, false] rfl rfl (one_of HT_.out (by kernel_rfl)) (by decide) (fun K hK => ?_)
             refine Kd.R_append_step (Kd.int .i64) (w0 := w) w.heap.size (by rfl) (.tmp 58) (.tmp 65) 33 2 (.int .i64 0) 8 rfl Try.underlying33 info2 rfl (by decide) (by omega) u1087002 x1087002_2 (wrap64 (x10_13 * (rd t1076 x12_2))) [.int .i64 (wrap64 (x10_13 * (rd t1076 x12_2)))] (fun k_ => some k_ ≠ (.slice (some ad1093) t1076.length co49 : Value).ownBlock) (fun _ => False) rfl rfl ?aP (fun _ hk => hk.elim) ?aF ?aO ?aB ?aS ?aL ?_
             (case aP => exact rfl)
             (case aB => exact (by repeat (first | (with_reducible first | exact HB.out | apply below_alloc | apply pw_below_drewN | apply below_drew1 | refine below_set ?_ GE1074.out | refine below_set ?_ GE1075.out | refine below_set ?_ GE1086.out) | exact HB.out)))
             (case aF => exact (fun k_ hk => Kd.fresh' (Kd.R_lt (by (with_reducible repeat (first | apply Kd.R_alloc | apply Kd.R_drewN | apply Kd.R_drew)); exact HO_8.out)) k_ hk))
             (case aO => exact (by (with_reducible repeat (first | apply Kd.R_alloc | apply Kd.R_drewN | apply Kd.R_drew)); exact HO_1087002.out))
             (case aS => exact (below_size (by repeat (first | (with_reducible first | exact HB.out | apply below_alloc | apply pw_below_drewN | apply below_drew1 | refine below_set ?_ GE1074.out | refine below_set ?_ GE1075.out | refine below_set ?_ GE1086.out) | exact HB.out))))
             (case aL => have := LMc39.out; omega)
             intro v1095 w50 ho hb hg hat
             rw [← Ny1094.out] at ho
             have n0_ := Aside0.mk (Kd.R_after (ok := (fun _ => True)) (by (with_reducible repeat (first | apply Kd.R_alloc | apply Kd.R_drewN | apply Kd.R_drew)); exact Kd.R_mono HO_8.out (fun _ hk => ⟨trivial, hk⟩)) hg hat)
             have n1_ := Aside0.mk (blk_grown (g := gb1074) (o := .cells #[.slice A0_0 l0_0.length c0_0, .slice A0_1 l0_1.length c0_1] 56 (0, 0)) (by (with_reducible repeat (first | refine blk_drewN ?_ _ | refine blk_drew ?_ | refine blk_alloc ?_ _)); exact BK1074.out) hg (Kd.R_ne HO_1087002.out BK1074.out (by decide)))
             have n2_ := Aside0.mk (blk_grown (g := gb1075) (o := .cells #[.int .i64 0, .slice none 0 0, .slice none 0 0] 86 (0, 0)) (by (with_reducible repeat (first | refine blk_drewN ?_ _ | refine blk_drew ?_ | refine blk_alloc ?_ _)); exact BK1075.out) hg (Kd.R_ne HO_1087002.out BK1075.out (by decide)))
             have n3_ := Aside0.mk (blk_grown (g := gb1086) (o := .cells #[.int .i64 (wrap64 (x10_13 * t1077)), .slice Ao45 y1090.length co45, u1087002] 86 (0, 0)) (by (with_reducible repeat (first | refine blk_drewN ?_ _ | refine blk_drew ?_ | refine blk_alloc ?_ _)); exact BK1086.out) hg (Kd.R_ne HO_1087002.out BK1086.out (by decide)))
             have n4_ := Aside0.mk (Kd.S_after (ok := (fun k_ => some k_ ≠ (.slice (some ad1093) t1076.length co49 : Value).ownBlock)) (by (with_reducible repeat (first | apply Kd.S_alloc | apply Kd.S_drewN | apply Kd.S_drew)); exact HO1092.out) hg hat)
             have n5_ := Aside0.mk (hb)
             have n6_ := Aside0.mk (ho)
             clear HO_8
             clear BK1074
             clear BK1075
             clear BK1086
             clear HO1092
             clear HB
             clear HO_1087002
             have HO_8 := n0_
             have BK1074 := n1_
             have BK1075 := n2_
             have BK1086 := n3_
             have HO1092 := n4_
             have HB := n5_
             have HO1096 := n6_
             clear n0_ n1_ n2_ n3_ n4_ n5_ n6_
             clear ho hb hg hat
             obtain ⟨Ao51, co51, eo51⟩ := Kd.R_slice HO1096.out
             (first | subst eo51 | (injection eo51 with f1_ f2_ f3_; have f4_ := f1_.symm; have f5_ := f3_.symm; clear f1_ f2_ f3_; subst f4_; subst f5_))
             refine hK.out _ _ ?_
             clear hK K
             refine norm_ (a' := ?_) ?_ ?_
             rotate_left
             ·show Act.put _ (some 66) _ = _
              simp only [Act.put, List.setIfInBounds_toArray, List.set_cons_zero, List.set_cons_succ, i64_w, i32_w]
              rfl
             refine pure_ (i := 10) (N := some 67) (v := ?_) (a' := ?_) #[true, true, true, true, true, true, true, true, true, true, true, false] rfl rfl (any_of HT_.out (by kernel_rfl)) (fun _ _ _ h => h) (Or.inl ⟨by rfl, ?_⟩) ?_ ?_
             rotate_left
             ·intro w'
              go_simp
              with_reducible rfl
             rotate_left
             ·simp only [Act.put, List.setIfInBounds_toArray, List.set_cons_zero, List.set_cons_succ, i64_w, i32_w]
              rfl
             refine last_ (i := 11) (N := none) #[true, true, true, true, true, true, true, true, true, true, true, true] rfl rfl (one_of HT_.out (by kernel_rfl)) (by decide) (fun K hK => ?_)
             have hs52 : w50.cell? ⟨gb1086, 2, none⟩ = some (u1087002) := (blk_cell BK1086.out 2).trans rfl
             have hfs52 := blk_frozen BK1086.out 2
             have hns52_0 := NB1074_1086.out
             have hns52_1 := NB1075_1086.out
             have hms52_0 := NB1086_1074.out
             have hms52_1 := NB1086_1075.out
             refine skip_ (w1 := ?_) (by rfl) rfl ?_ ?_
             rotate_left
             ·go_simp
              rfl
             refine hK.out _ _ ?_
             clear hK K
             refine done_ (done_of HT_.out (by kernel_rfl)) ?_
             try go_wp2
             go_roundg k2
             case measure => have := HJ13.out; have := HK2.out; omega
             case rel => exact ⟨(wrap64 (x12_2 + 1)), (y1090), (y1094), (.slice Ao45 y1090.length co45), (.slice Ao51 y1094.length co51), (by first | rfl | (simp; done) | (simp [*]; done)), H', ⟨by have := HJ13.out; have := HK2.out; omega⟩, ⟨by (with_reducible repeat (first | apply Kd.R_alloc | apply Kd.R_drewN | apply Kd.R_drew)); exact Kd.R_mono (Kd.R_far (p := ⟨gb1086, 2, none⟩) (Kd.R_types HO_8.out BK1086.out (by decide)) (fun _ hk => hk.2) (.slice Ao51 y1094.length co51)) (fun _ hk => hk.1.2)⟩, ⟨by (with_reducible repeat (first | apply Kd.S_alloc | apply Kd.S_drewN | apply Kd.S_drew)); exact Kd.S_mono (Kd.S_far (p := ⟨gb1086, 2, none⟩) (Kd.S_types HO1092.out BK1086.out (by decide)) (fun _ hk => hk.2) (.slice Ao51 y1094.length co51)) (fun _ hk => ⟨hk.1.1, hk.1.2⟩)⟩, ⟨by (with_reducible repeat (first | apply Kd.R_alloc | apply Kd.R_drewN | apply Kd.R_drew)); exact Kd.R_mono (Kd.R_far (p := ⟨gb1086, 2, none⟩) (Kd.R_types HO1096.out BK1086.out (by decide)) (fun _ hk => hk.2) (.slice Ao51 y1094.length co51)) (fun _ hk => hk.1)⟩, ⟨by (with_reducible repeat (first | refine blk_drewN ?_ _ | refine blk_drew ?_ | refine blk_alloc ?_ _)); refine blk_far ?_ NB1074_1086.out _; (with_reducible repeat (first | refine blk_drewN ?_ _ | refine blk_drew ?_ | refine blk_alloc ?_ _)); exact BK1074.out⟩, ⟨by (with_reducible repeat (first | refine blk_drewN ?_ _ | refine blk_drew ?_ | refine blk_alloc ?_ _)); refine blk_far ?_ NB1075_1086.out _; (with_reducible repeat (first | refine blk_drewN ?_ _ | refine blk_drew ?_ | refine blk_alloc ?_ _)); exact BK1075.out⟩, ⟨by (with_reducible repeat (first | refine blk_drewN ?_ _ | refine blk_drew ?_ | refine blk_alloc ?_ _)); refine blk_put (cs := #[.int .i64 (wrap64 (x10_13 * t1077)), .slice Ao45 y1090.length co45, u1087002]) ?_ 2 _ rfl; (with_reducible repeat (first | refine blk_drewN ?_ _ | refine blk_drew ?_ | refine blk_alloc ?_ _)); exact BK1086.out⟩, ⟨by repeat (first | (with_reducible first | exact HB.out | apply below_alloc | apply pw_below_drewN | apply below_drew1 | refine below_set ?_ GE1074.out | refine below_set ?_ GE1075.out | refine below_set ?_ GE1086.out) | exact HB.out)⟩⟩
            ·rw [if_neg c39] at H
             exact absurd H (by simp)
           ·rw [if_neg c38] at H
            exact absurd H (by simp)
          ·rw [if_neg c37] at H
           exact absurd H (by simp)
         ·rw [if_neg c36] at H
          exact absurd H (by simp)
        ·rw [if_neg c35] at H
         exact absurd H (by simp)
       ·rw [if_neg c34] at H
        exact absurd H (by simp)
      ·rw [if_neg c33] at H
       have c33b0 : decide (x12_2 < (l0_1.length : Int)) = false := decide_eq_false c33
       clear c33
       have H' := Aside0.mk H
       clear H
       go_wp2
       go_loopg [13] k2 (fun kq v13 w' => ∃ (x13_3 : Int) (x1087001_3 : List (List Int)) (x1087002_3 : List Int) (u1087001 : Value) (u1087002 : Value), v13 = .int .i64 x13_3 ∧ Aside0 (spec_l04Pivot.l1 kq a1 (l0_1.length : Int) l9 x10_13 x13_3 l0_0 l0_1 (wrap64 (x10_13 * t1077)) x1087001_3 x1087002_3 = some (r1, r2, r3, r4)) ∧ Aside0 (kq ≤ k2) ∧ Aside0 (Kd.S (Kd.slice 2 (Kd.int .i64)) 33 w' w.heap.size (fun k_ => some k_ ≠ (u1087002 : Value).ownBlock) u1087001 x1087001_3) ∧ Aside0 (Kd.R (Kd.int .i64) 2 w' w.heap.size (fun _ => True) u1087002 x1087002_3) ∧ Aside0 (w'.heap[gb1074]? = some (.cells #[(.slice A0_0 l0_0.length c0_0), (.slice A0_1 l0_1.length c0_1)] 56 (0, 0))) ∧ Aside0 (w'.heap[gb1075]? = some (.cells #[.int .i64 0, (.slice none 0 0), (.slice none 0 0)] 86 (0, 0))) ∧ Aside0 (w'.heap[gb1086]? = some (.cells #[.int .i64 (wrap64 (x10_13 * t1077)), u1087001, u1087002] 86 (0, 0))) ∧ Aside0 (Below w.heap.size w w'))
       case atStart => exact ⟨(0), (x1087001_2), (x1087002_2), (u1087001), (u1087002), (by first | rfl | (simp; done) | (simp [*]; done)), H', ⟨Nat.le_refl _⟩, ⟨by (with_reducible repeat (first | apply Kd.S_alloc | apply Kd.S_drewN | apply Kd.S_drew)); exact Kd.S_mono HO_1087001.out (fun _ hk => hk.2)⟩, ⟨by (with_reducible repeat (first | apply Kd.R_alloc | apply Kd.R_drewN | apply Kd.R_drew)); exact Kd.R_mono HO_1087002.out (fun _ hk => trivial)⟩, ⟨by (with_reducible repeat (first | refine blk_drewN ?_ _ | refine blk_drew ?_ | refine blk_alloc ?_ _)); exact BK1074.out⟩, ⟨by (with_reducible repeat (first | refine blk_drewN ?_ _ | refine blk_drew ?_ | refine blk_alloc ?_ _)); exact BK1075.out⟩, ⟨by (with_reducible repeat (first | refine blk_drewN ?_ _ | refine blk_drew ?_ | refine blk_alloc ?_ _)); exact BK1086.out⟩, ⟨by repeat (first | (with_reducible first | exact HB.out | apply below_alloc | apply pw_below_drewN | apply below_drew1 | refine below_set ?_ GE1074.out | refine below_set ?_ GE1075.out | refine below_set ?_ GE1086.out) | exact HB.out)⟩⟩
       case round =>
        clear H'
        try clear c1
        try clear p1
        try clear q1
        try clear hx1
        try clear c2
        try clear p2
        try clear c3
        try clear c5
        try clear c5b0
        try clear c5b1
        try clear p6
        try clear c8
        try clear c9
        try clear c10
        try clear p10
        try clear q10
        try clear hx10
        try clear c14
        try clear c19
        try clear c22
        try clear c22b0
        try clear c30
        try clear c31
        try clear c33
        try clear c33b0
        try clear c34
        try clear c34b0
        try clear c34b1
        try clear c35
        try clear c35b0
        try clear c35b1
        try clear c36
        try clear c37
        try clear c37b0
        try clear c38
        try clear c38b0
        try clear c39
        try clear hcz11_0
        try clear hcz11_1
        try clear hcz13_0
        try clear hcz13_1
        try clear hcz13_2
        try clear hcz20_0
        try clear hcz20_1
        try clear hcz32_0
        try clear hcz32_1
        try clear hcz32_2
        try clear hfz11_0
        try clear hfz11_1
        try clear hfz13_0
        try clear hfz13_1
        try clear hfz13_2
        try clear hfz20_0
        try clear hfz20_1
        try clear hfz32_0
        try clear hfz32_1
        try clear hfz32_2
        try clear hx1093_0
        try clear p1093
        try clear p2
        try clear p6
        try clear q1093
        obtain ⟨x13_3, x1087001_3, x1087002_3, u1087001, u1087002, rfl, HA, HK3, HO_1087001, HO_1087002, BK1074, BK1075, BK1086, HB⟩ := hrel
        cases gk with
        | zero => exact absurd HA.out (by simp [spec_l04Pivot.l1])
        | succ k3 =>
         have H := HA.out
         clear HA
         simp only [spec_l04Pivot.l1] at H
         by_cases c53 : x13_3 < (l0_1.length : Int)
         ·rw [if_pos c53] at H
          have c53b0 : decide (x13_3 < (l0_1.length : Int)) = true := decide_eq_true c53
          clear c53
          by_cases c54 : 0 ≤ (l0_1.length : Int)
          ·rw [if_pos c54] at H
           have c54b0 := eq_true c54
           have c54b1 : decide (0 ≤ (l0_1.length : Int)) = true := decide_eq_true c54
           clear c54
           by_cases c55 : ((l0_1.length : Int) : Int).toNat ≤ 35184372088832
           ·rw [if_pos c55] at H
            have c55b0 := eq_true c55
            have c55b1 : decide (((l0_1.length : Int) : Int).toNat ≤ 35184372088832) = true := decide_eq_true c55
            clear c55
            obtain ⟨y1097, hy1097⟩ : ∃ y_ : List Int, y_ = (List.replicate ((l0_1.length : Int) : Int).toNat 0) := ⟨_, rfl⟩
            replace H : (spec_l04Pivot.l2 k3 a1 (l0_1.length : Int) l9 x10_13 x13_3 y1097 0 l0_0 l0_1 (wrap64 (x10_13 * t1077)) x1087001_3 x1087002_3) = some (r1, r2, r3, r4) := by first | (rw [hy1097]; with_reducible exact H) | (have H2_ := (Option.bind_some _ _).symm.trans H; rw [hy1097]; with_reducible exact H2_) | (have H2_ := (Option.bind_some _ _).symm.trans H; with_reducible exact H2_) | with_reducible exact H | (rw [hy1097]; exact H) | exact H
            have Ny1097 := Aside0.mk hy1097
            clear hy1097
            have H' := Aside0.mk H
            clear H
            go_wp2_with (first | ((with_reducible refine gate_dst (N := 74) rfl ?_); refine Kd.R_make (Kd.int .i64) _ 2 rfl (N := 74) rfl 33 _ _ rfl (l0_1.length : Int) rfl rfl Try.underlying33 (.int .i64 0) 8 info2 rfl (by decide) (by omega) 0 (ok := fun _ => True) (okp := fun _ => True) rfl (fun _ hk => hk) trivial (of_decide_eq_true (by first | (with_reducible assumption) | assumption)) (Nat.le_trans (Nat.mul_le_mul_right _ (of_decide_eq_true (by first | (with_reducible assumption) | assumption) : (l0_1.length : Int).toNat ≤ 35184372088832)) (by omega)) (Below.refl _ _) (Nat.le_refl _) ?_; intro v1098 w56 ho57 hb hg_ hnew_; clear hg_ hnew_; (first | rw [← Ny1097.out] at ho57 | (simp only [Int.reduceToNat] at ho57; rw [← Ny1097.out] at ho57)); have n0_ := Aside0.mk (Kd.S_elder' (by (with_reducible repeat (first | apply Kd.S_alloc | apply Kd.S_drewN | apply Kd.S_drew)); exact HO_1087001.out) (Kd.R_base ho57) hb); have n1_ := Aside0.mk (Kd.R_elder' (by (with_reducible repeat (first | apply Kd.R_alloc | apply Kd.R_drewN | apply Kd.R_drew)); exact HO_1087002.out) (Kd.R_base ho57) hb); have n2_ := Aside0.mk (Kd.R_lower (Kd.R_new' ho57 (Kd.R_lt (by (with_reducible repeat (first | apply Kd.R_alloc | apply Kd.R_drewN | apply Kd.R_drew)); exact HO_1087002.out))) (below_size (by repeat (first | (with_reducible first | exact HB.out | apply below_alloc | apply pw_below_drewN | apply below_drew1 | refine below_set ?_ GE1074.out | refine below_set ?_ GE1075.out | refine below_set ?_ GE1086.out) | exact HB.out)))); have n3_ := Aside0.mk (blk_below (g := gb1074) (o := .cells #[.slice A0_0 l0_0.length c0_0, .slice A0_1 l0_1.length c0_1] 56 (0, 0)) (by (with_reducible repeat (first | refine blk_drewN ?_ _ | refine blk_drew ?_ | refine blk_alloc ?_ _)); exact BK1074.out) hb); have n4_ := Aside0.mk (blk_below (g := gb1075) (o := .cells #[.int .i64 0, .slice none 0 0, .slice none 0 0] 86 (0, 0)) (by (with_reducible repeat (first | refine blk_drewN ?_ _ | refine blk_drew ?_ | refine blk_alloc ?_ _)); exact BK1075.out) hb); have n5_ := Aside0.mk (blk_below (g := gb1086) (o := .cells #[.int .i64 (wrap64 (x10_13 * t1077)), u1087001, u1087002] 86 (0, 0)) (by (with_reducible repeat (first | refine blk_drewN ?_ _ | refine blk_drew ?_ | refine blk_alloc ?_ _)); exact BK1086.out) hb); have n6_ := Aside0.mk (below_step (by repeat (first | (with_reducible first | exact HB.out | apply below_alloc | apply pw_below_drewN | apply below_drew1 | refine below_set ?_ GE1074.out | refine below_set ?_ GE1075.out | refine below_set ?_ GE1086.out) | exact HB.out)) hb); clear HO_1087001; clear HO_1087002; clear BK1074; clear BK1075; clear BK1086; clear HB; have HO_1087001 := n0_; have HO_1087002 := n1_; have HO1099 := n2_; have BK1074 := n3_; have BK1075 := n4_; have BK1086 := n5_; have HB := n6_; clear n0_ n1_ n2_ n3_ n4_ n5_ n6_; clear hb ho57))
            go_loopg [15] k3 (fun kq v15 w' => ∃ (x14_4 : List Int) (x15_4 : Int), v15 = .int .i64 x15_4 ∧ Aside0 (spec_l04Pivot.l2 kq a1 (l0_1.length : Int) l9 x10_13 x13_3 x14_4 x15_4 l0_0 l0_1 (wrap64 (x10_13 * t1077)) x1087001_3 x1087002_3 = some (r1, r2, r3, r4)) ∧ Aside0 (kq ≤ k3) ∧ Aside0 (Kd.R (Kd.int .i64) 2 w' w.heap.size (fun k_ => some k_ ≠ (u1087002 : Value).ownBlock) v1098 x14_4) ∧ Aside0 (Kd.S (Kd.slice 2 (Kd.int .i64)) 33 w' w.heap.size (fun k_ => some k_ ≠ (v1098 : Value).ownBlock ∧ some k_ ≠ (u1087002 : Value).ownBlock) u1087001 x1087001_3) ∧ Aside0 (Kd.R (Kd.int .i64) 2 w' w.heap.size (fun k_ => some k_ ≠ (v1098 : Value).ownBlock) u1087002 x1087002_3) ∧ Aside0 (w'.heap[gb1074]? = some (.cells #[(.slice A0_0 l0_0.length c0_0), (.slice A0_1 l0_1.length c0_1)] 56 (0, 0))) ∧ Aside0 (w'.heap[gb1075]? = some (.cells #[.int .i64 0, (.slice none 0 0), (.slice none 0 0)] 86 (0, 0))) ∧ Aside0 (w'.heap[gb1086]? = some (.cells #[.int .i64 (wrap64 (x10_13 * t1077)), u1087001, u1087002] 86 (0, 0))) ∧ Aside0 (Below w.heap.size w w'))
            case atStart => exact ⟨(y1097), (0), (by first | rfl | (simp; done) | (simp [*]; done)), H', ⟨Nat.le_refl _⟩, ⟨by (with_reducible repeat (first | apply Kd.R_alloc | apply Kd.R_drewN | apply Kd.R_drew)); exact Kd.R_mono HO1099.out (fun _ hk => hk.2)⟩, ⟨by (with_reducible repeat (first | apply Kd.S_alloc | apply Kd.S_drewN | apply Kd.S_drew)); exact Kd.S_mono HO_1087001.out (fun _ hk => ⟨hk.2, hk.1⟩)⟩, ⟨by (with_reducible repeat (first | apply Kd.R_alloc | apply Kd.R_drewN | apply Kd.R_drew)); exact Kd.R_mono HO_1087002.out (fun _ hk => hk.2)⟩, ⟨by (with_reducible repeat (first | refine blk_drewN ?_ _ | refine blk_drew ?_ | refine blk_alloc ?_ _)); exact BK1074.out⟩, ⟨by (with_reducible repeat (first | refine blk_drewN ?_ _ | refine blk_drew ?_ | refine blk_alloc ?_ _)); exact BK1075.out⟩, ⟨by (with_reducible repeat (first | refine blk_drewN ?_ _ | refine blk_drew ?_ | refine blk_alloc ?_ _)); exact BK1086.out⟩, ⟨by repeat (first | (with_reducible first | exact HB.out | apply below_alloc | apply pw_below_drewN | apply below_drew1 | refine below_set ?_ GE1074.out | refine below_set ?_ GE1075.out | refine below_set ?_ GE1086.out) | exact HB.out)⟩⟩
            case round =>
             clear H'
             try clear c1
             try clear p1
             try clear q1
             try clear hx1
             try clear c2
             try clear p2
             try clear c3
             try clear c5
             try clear c5b0
             try clear c5b1
             try clear p6
             try clear c8
             try clear c9
             try clear c10
             try clear p10
             try clear q10
             try clear hx10
             try clear c14
             try clear c19
             try clear c22
             try clear c22b0
             try clear c30
             try clear c31
             try clear c33
             try clear c33b0
             try clear c34
             try clear c34b0
             try clear c34b1
             try clear c35
             try clear c35b0
             try clear c35b1
             try clear c36
             try clear c37
             try clear c37b0
             try clear c38
             try clear c38b0
             try clear c39
             try clear c53
             try clear c53b0
             try clear c54
             try clear c54b0
             try clear c54b1
             try clear c55
             try clear c55b0
             try clear c55b1
             try clear hcz11_0
             try clear hcz11_1
             try clear hcz13_0
             try clear hcz13_1
             try clear hcz13_2
             try clear hcz20_0
             try clear hcz20_1
             try clear hcz32_0
             try clear hcz32_1
             try clear hcz32_2
             try clear hfz11_0
             try clear hfz11_1
             try clear hfz13_0
             try clear hfz13_1
             try clear hfz13_2
             try clear hfz20_0
             try clear hfz20_1
             try clear hfz32_0
             try clear hfz32_1
             try clear hfz32_2
             try clear hx1093_0
             try clear p1
             try clear p10
             try clear p1093
             try clear p2
             try clear p6
             try clear q1
             try clear q10
             try clear q1093
             obtain ⟨x14_4, x15_4, rfl, HA, HK4, HO_14, HO_1087001, HO_1087002, BK1074, BK1075, BK1086, HB⟩ := hrel
             cases gk with
             | zero => exact absurd HA.out (by simp [spec_l04Pivot.l2])
             | succ k4 =>
              have H := HA.out
              clear HA
              simp only [spec_l04Pivot.l2] at H
              by_cases c58 : x15_4 < (l0_1.length : Int)
              ·rw [if_pos c58] at H
               have c58b0 : decide (x15_4 < (l0_1.length : Int)) = true := decide_eq_true c58
               clear c58
               obtain ⟨ji59, hji59⟩ : ∃ j_ : Int, (IntKind.u64.wrap (x13_3)) = j_ := ⟨_, rfl⟩
               replace H : (if 0 ≤ (ji59) then (if (Go.bits .and .i64 (shr .i64 a1 (ji59)) 1) = 0 then (if 0 ≤ x15_4 then (if x15_4 < (l0_0.length : Int) then (if 0 ≤ x13_3 then (if x13_3 < ((rd_L1 l0_0 x15_4).length : Int) then (if x15_4 < (x14_4.length : Int) then (spec_l04Pivot.l2 k4 a1 (l0_1.length : Int) l9 x10_13 x13_3 (x14_4.set (x15_4 : Int).toNat (rd (rd_L1 l0_0 x15_4) x13_3)) (wrap64 (x15_4 + 1)) l0_0 l0_1 (wrap64 (x10_13 * t1077)) x1087001_3 x1087002_3) else (none)) else (none)) else (none)) else (none)) else (none)) else (spec_l04Pivot.l2 k4 a1 (l0_1.length : Int) l9 x10_13 x13_3 x14_4 (wrap64 (x15_4 + 1)) l0_0 l0_1 (wrap64 (x10_13 * t1077)) x1087001_3 x1087002_3)) else (none)) = some (r1, r2, r3, r4) := by first | (rw [hji59] at H; exact H) | (simp only [hji59] at H ⊢; exact H)
               by_cases c60 : 0 ≤ (ji59)
               ·rw [if_pos c60] at H
                have c60b0 := eq_true c60
                have c60b1 : decide (0 ≤ (ji59)) = true := decide_eq_true c60
                clear c60
                obtain ⟨ji61, hji61⟩ : ∃ j_ : Int, (shr .i64 a1 (ji59)) = j_ := ⟨_, rfl⟩
                replace H : (if (Go.bits .and .i64 (ji61) 1) = 0 then (if 0 ≤ x15_4 then (if x15_4 < (l0_0.length : Int) then (if 0 ≤ x13_3 then (if x13_3 < ((rd_L1 l0_0 x15_4).length : Int) then (if x15_4 < (x14_4.length : Int) then (spec_l04Pivot.l2 k4 a1 (l0_1.length : Int) l9 x10_13 x13_3 (x14_4.set (x15_4 : Int).toNat (rd (rd_L1 l0_0 x15_4) x13_3)) (wrap64 (x15_4 + 1)) l0_0 l0_1 (wrap64 (x10_13 * t1077)) x1087001_3 x1087002_3) else (none)) else (none)) else (none)) else (none)) else (none)) else (spec_l04Pivot.l2 k4 a1 (l0_1.length : Int) l9 x10_13 x13_3 x14_4 (wrap64 (x15_4 + 1)) l0_0 l0_1 (wrap64 (x10_13 * t1077)) x1087001_3 x1087002_3)) = some (r1, r2, r3, r4) := by first | (rw [hji61] at H; exact H) | (simp only [hji61] at H ⊢; exact H)
                have hji61_ : (a1 / 2 ^ min (ji59).toNat 64) = ji61 := hji61
                have hji61z : (ji59) ≤ 64 → (a1 / 2 ^ (ji59).toNat) = ji61 := shr_small hji61
                by_cases c62 : (Go.bits .and .i64 (ji61) 1) = 0
                ·rw [if_pos c62] at H
                 have c62b0 : ((Go.bits .and .i64 (ji61) 1) == 0) = true := beq_iff_eq.mpr c62
                 have c62b1 : ((Go.bits .and .i64 (ji61) 1) != 0) = false := bne_eq_false_iff_eq.mpr c62
                 clear c62
                 by_cases c63 : 0 ≤ x15_4
                 ·rw [if_pos c63] at H
                  have c63b0 : decide (0 ≤ x15_4) = true := decide_eq_true c63
                  clear c63
                  by_cases c64 : x15_4 < (l0_0.length : Int)
                  ·rw [if_pos c64] at H
                   have c64b0 : decide (x15_4 < (l0_0.length : Int)) = true := decide_eq_true c64
                   clear c64
                   by_cases c65 : 0 ≤ x13_3
                   ·rw [if_pos c65] at H
                    have c65b0 : decide (0 ≤ x13_3) = true := decide_eq_true c65
                    clear c65
                    by_cases c66 : x13_3 < ((rd_L1 l0_0 x15_4).length : Int)
                    ·rw [if_pos c66] at H
                     have c66b0 : decide (x13_3 < ((rd_L1 l0_0 x15_4).length : Int)) = true := decide_eq_true c66
                     clear c66
                     by_cases c67 : x15_4 < (x14_4.length : Int)
                     ·rw [if_pos c67] at H
                      have c67b0 : decide (x15_4 < (x14_4.length : Int)) = true := decide_eq_true c67
                      clear c67
                      obtain ⟨y1102, hy1102⟩ : ∃ y_ : List Int, y_ = (x14_4.set (x15_4 : Int).toNat (rd (rd_L1 l0_0 x15_4) x13_3)) := ⟨_, rfl⟩
                      replace H : (spec_l04Pivot.l2 k4 a1 (l0_1.length : Int) l9 x10_13 x13_3 y1102 (wrap64 (x15_4 + 1)) l0_0 l0_1 (wrap64 (x10_13 * t1077)) x1087001_3 x1087002_3) = some (r1, r2, r3, r4) := by first | (rw [hy1102]; with_reducible exact H) | (have H2_ := (Option.bind_some _ _).symm.trans H; rw [hy1102]; with_reducible exact H2_) | (have H2_ := (Option.bind_some _ _).symm.trans H; with_reducible exact H2_) | with_reducible exact H | (rw [hy1102]; exact H) | exact H
                      have Ny1102 := Aside0.mk hy1102
                      clear hy1102
                      have H' := Aside0.mk H
                      clear H
                      have hnb69 := NB1074_1075.out
                      have hnc69 := NB1075_1074.out
                      have hnb70 := NB1074_1086.out
                      have hnc70 := NB1086_1074.out
                      have hcz71_0 : wr.cell? ⟨gb1074, 0, none⟩ = some (.slice A0_0 l0_0.length c0_0) := (blk_cell BK1074.out 0).trans rfl
                      have hcz71_1 : wr.cell? ⟨gb1074, 1, none⟩ = some (.slice A0_1 l0_1.length c0_1) := (blk_cell BK1074.out 1).trans rfl
                      have hfz71_0 := blk_frozen BK1074.out 0
                      have hfz71_1 := blk_frozen BK1074.out 1
                      have p1100 : 0 ≤ (x15_4 : Int) := of_decide_eq_true (by first | (with_reducible assumption) | assumption)
                      have q1100 : x15_4 < (l0_0.length : Int) := of_decide_eq_true (by first | (with_reducible assumption) | assumption)
                      obtain ⟨ad1100, A1100_0, c1100_0, e1100, hx1100_0, hl1100_0, hi1100_0⟩ := at_L1 HR0_0.out x15_4 p1100 q1100
                      cases e1100
                      replace hx1100_0 := (HB.out.cell (World.block_lt_of_cell? w _ hx1100_0)).trans hx1100_0
                      have HR1100_0 := Aside0.mk hi1100_0
                      have HC1100_0 := Aside0.mk hl1100_0
                      clear hi1100_0 hl1100_0
                      replace p1100 := eq_true p1100
                      replace q1100 := eq_true q1100
                      have p1101 : 0 ≤ (x13_3 : Int) := of_decide_eq_true (by first | (with_reducible assumption) | assumption)
                      have q1101 : x13_3 < ((rd_L1 l0_0 x15_4).length : Int) := of_decide_eq_true (by first | (with_reducible assumption) | assumption)
                      obtain ⟨ad1101, e1101, hx1101_0⟩ := Kd.at_int HR1100_0.out x13_3 p1101 q1101
                      cases e1101
                      replace hx1101_0 := (HB.out.cell (World.block_lt_of_cell? w _ hx1101_0)).trans hx1101_0
                      replace p1101 := eq_true p1101
                      replace q1101 := eq_true q1101
                      have p68 : 0 ≤ (x15_4 : Int) := of_decide_eq_true (by first | (with_reducible assumption) | assumption)
                      have q68 : (x15_4 : Int) < ((x14_4.length : Int) : Int) := of_decide_eq_true (by first | (with_reducible assumption) | assumption)
                      obtain ⟨go68, co68, eo68, gb68, gl68, cl68, HG68⟩ := Kd.R_form HO_14.out (by omega)
                      (first | cases eo68 | (injection eo68 with ea_ en_ ec_; (first | subst ea_ | (injection ea_ with ea_; subst ea_)); subst ec_; clear en_))
                      have GB68 := Aside0.mk gb68
                      have GG68 := Aside0.mk HG68
                      clear gb68 gl68 HG68
                      obtain ⟨hx68_0, hf68_0⟩ := Kd.R_celln 0 HO_14.out (x15_4 : Int) p68 q68
                      replace p68 := eq_true p68
                      replace q68 := eq_true q68
                      have HP72 := Kd.R_putg HO_14.out (x15_4 : Int) (rd (rd_L1 l0_0 x15_4) x13_3)
                      go_wp2_with (first | ((with_reducible refine gate_store (t := 2) (p := 96) rfl ?_); refine store_event (t := 2) (p := 96) (v := ?vo_w73) (w1 := (wr.setCell ⟨go68, (x15_4 : Int).toNat, none⟩ (.int .i64 (rd (rd_L1 l0_0 x15_4) x13_3)))) ?hg ?ho ?hn ?hr ?_; (case ho => rfl); (case hg => rfl); (case hn => rfl); (case hr => first | (go_simp; done) | (go_simp; rfl)); intro w73 hw; have hg : wr.grownBy w73 (some go68) := (by rw [hw]; exact HP72.2); have hp_ : Kd.R (Kd.int .i64) 2 w73 w.heap.size (fun k_ => some k_ ≠ (u1087002 : Value).ownBlock) (.slice (some ⟨go68, 0, none⟩) x14_4.length co68) y1102 := (by rw [hw, Ny1102.out]; exact HP72.1); clear HP72; have n0_ := Aside0.mk (hp_); have n1_ := Aside0.mk (Kd.S_after (v := (.slice (some ⟨go68, 0, none⟩) x14_4.length co68)) (v1 := (.slice (some ⟨go68, 0, none⟩) x14_4.length co68)) (ok := (fun k_ => some k_ ≠ (u1087002 : Value).ownBlock)) (by (with_reducible repeat (first | apply Kd.S_alloc | apply Kd.S_drewN | apply Kd.S_drew)); exact Kd.S_mono HO_1087001.out (fun _ hk => ⟨hk.2, hk.1⟩)) hg (.inl rfl)); have n2_ := Aside0.mk (Kd.R_after (v := (.slice (some ⟨go68, 0, none⟩) x14_4.length co68)) (v1 := (.slice (some ⟨go68, 0, none⟩) x14_4.length co68)) (ok := (fun _ => True)) (by (with_reducible repeat (first | apply Kd.R_alloc | apply Kd.R_drewN | apply Kd.R_drew)); exact Kd.R_mono HO_1087002.out (fun _ hk => ⟨trivial, hk⟩)) hg (.inl rfl)); have n3_ := Aside0.mk (blk_grown (g := gb1074) (o := .cells #[.slice (some ad1100) l0_0.length c0_0, .slice A0_1 l0_1.length c0_1] 56 (0, 0)) (by (with_reducible repeat (first | refine blk_drewN ?_ _ | refine blk_drew ?_ | refine blk_alloc ?_ _)); exact BK1074.out) hg (Kd.R_ne HO_14.out BK1074.out (by decide))); have n4_ := Aside0.mk (blk_grown (g := gb1075) (o := .cells #[.int .i64 0, .slice none 0 0, .slice none 0 0] 86 (0, 0)) (by (with_reducible repeat (first | refine blk_drewN ?_ _ | refine blk_drew ?_ | refine blk_alloc ?_ _)); exact BK1075.out) hg (Kd.R_ne HO_14.out BK1075.out (by decide))); have n5_ := Aside0.mk (blk_grown (g := gb1086) (o := .cells #[.int .i64 (wrap64 (x10_13 * t1077)), u1087001, u1087002] 86 (0, 0)) (by (with_reducible repeat (first | refine blk_drewN ?_ _ | refine blk_drew ?_ | refine blk_alloc ?_ _)); exact BK1086.out) hg (Kd.R_ne HO_14.out BK1086.out (by decide))); have n6_ := Aside0.mk ((by rw [hw]; exact below_set (HB.out) GB68.out : Below w.heap.size w w73)); clear HO_14; clear HO_1087001; clear HO_1087002; clear BK1074; clear BK1075; clear BK1086; clear HB; have HO_14 := n0_; have HO_1087001 := n1_; have HO_1087002 := n2_; have BK1074 := n3_; have BK1075 := n4_; have BK1086 := n5_; have HB := n6_; clear n0_ n1_ n2_ n3_ n4_ n5_ n6_; clear hg hw hp_))
                      go_roundg k4
                      case measure => have := HJ13.out; have := HK2.out; have := HK3.out; have := HK4.out; omega
                      case rel => exact ⟨(y1102), (wrap64 (x15_4 + 1)), (by first | rfl | (simp; done) | (simp [*]; done)), H', ⟨by have := HJ13.out; have := HK2.out; have := HK3.out; have := HK4.out; omega⟩, ⟨by (with_reducible repeat (first | apply Kd.R_alloc | apply Kd.R_drewN | apply Kd.R_drew)); exact HO_14.out⟩, ⟨by (with_reducible repeat (first | apply Kd.S_alloc | apply Kd.S_drewN | apply Kd.S_drew)); exact Kd.S_mono HO_1087001.out (fun _ hk => ⟨hk.2, hk.1⟩)⟩, ⟨by (with_reducible repeat (first | apply Kd.R_alloc | apply Kd.R_drewN | apply Kd.R_drew)); exact Kd.R_mono HO_1087002.out (fun _ hk => hk.2)⟩, ⟨by (with_reducible repeat (first | refine blk_drewN ?_ _ | refine blk_drew ?_ | refine blk_alloc ?_ _)); exact BK1074.out⟩, ⟨by (with_reducible repeat (first | refine blk_drewN ?_ _ | refine blk_drew ?_ | refine blk_alloc ?_ _)); exact BK1075.out⟩, ⟨by (with_reducible repeat (first | refine blk_drewN ?_ _ | refine blk_drew ?_ | refine blk_alloc ?_ _)); exact BK1086.out⟩, ⟨by repeat (first | (with_reducible first | exact HB.out | apply below_alloc | apply pw_below_drewN | apply below_drew1 | refine below_set ?_ GE1074.out | refine below_set ?_ GE1075.out | refine below_set ?_ GE1086.out) | exact HB.out)⟩⟩
                     ·rw [if_neg c67] at H
                      exact absurd H (by simp)
                    ·rw [if_neg c66] at H
                     exact absurd H (by simp)
                   ·rw [if_neg c65] at H
                    exact absurd H (by simp)
                  ·rw [if_neg c64] at H
                   exact absurd H (by simp)
                 ·rw [if_neg c63] at H
                  exact absurd H (by simp)
                ·rw [if_neg c62] at H
                 have c62b0 : ((Go.bits .and .i64 (ji61) 1) == 0) = false := beq_eq_false_iff_ne.mpr c62
                 have c62b1 : ((Go.bits .and .i64 (ji61) 1) != 0) = true := bne_iff_ne.mpr c62
                 have H' := Aside0.mk H
                 clear H
                 go_wp2
                 go_roundg k4
                 case measure => have := HJ13.out; have := HK2.out; have := HK3.out; have := HK4.out; omega
                 case rel => exact ⟨(x14_4), (wrap64 (x15_4 + 1)), (by first | rfl | (simp; done) | (simp [*]; done)), H', ⟨by have := HJ13.out; have := HK2.out; have := HK3.out; have := HK4.out; omega⟩, ⟨by (with_reducible repeat (first | apply Kd.R_alloc | apply Kd.R_drewN | apply Kd.R_drew)); exact HO_14.out⟩, ⟨by (with_reducible repeat (first | apply Kd.S_alloc | apply Kd.S_drewN | apply Kd.S_drew)); exact HO_1087001.out⟩, ⟨by (with_reducible repeat (first | apply Kd.R_alloc | apply Kd.R_drewN | apply Kd.R_drew)); exact HO_1087002.out⟩, ⟨by (with_reducible repeat (first | refine blk_drewN ?_ _ | refine blk_drew ?_ | refine blk_alloc ?_ _)); exact BK1074.out⟩, ⟨by (with_reducible repeat (first | refine blk_drewN ?_ _ | refine blk_drew ?_ | refine blk_alloc ?_ _)); exact BK1075.out⟩, ⟨by (with_reducible repeat (first | refine blk_drewN ?_ _ | refine blk_drew ?_ | refine blk_alloc ?_ _)); exact BK1086.out⟩, ⟨by repeat (first | (with_reducible first | exact HB.out | apply below_alloc | apply pw_below_drewN | apply below_drew1 | refine below_set ?_ GE1074.out | refine below_set ?_ GE1075.out | refine below_set ?_ GE1086.out) | exact HB.out)⟩⟩
               ·rw [if_neg c60] at H
                exact absurd H (by simp)
              ·rw [if_neg c58] at H
               have c58b0 : decide (x15_4 < (l0_1.length : Int)) = false := decide_eq_false c58
               clear c58
               try clear hji59
               try clear hji59_
               try clear hji59z
               try clear hji59u
               try clear hji59v
               try clear hji59y
               try clear hji59x
               try clear hji59w
               obtain ⟨ji74, hji74⟩ : ∃ j_ : Int, (IntKind.u64.wrap (x13_3)) = j_ := ⟨_, rfl⟩
               replace H : (if 0 ≤ (ji74) then (if (Go.bits .and .i64 (shr .i64 a1 (ji74)) 1) = 1 then (if 0 ≤ x13_3 then (if x13_3 < (x14_4.length : Int) then (spec_l04Pivot.j4 k4 a1 (l0_1.length : Int) l9 x10_13 x13_3 (x14_4.set (x13_3 : Int).toNat (-1)) l0_0 l0_1 (wrap64 (x10_13 * t1077)) x1087001_3 x1087002_3) else (none)) else (none)) else (spec_l04Pivot.j4 k4 a1 (l0_1.length : Int) l9 x10_13 x13_3 x14_4 l0_0 l0_1 (wrap64 (x10_13 * t1077)) x1087001_3 x1087002_3)) else (none)) = some (r1, r2, r3, r4) := by first | (rw [hji74] at H; exact H) | (simp only [hji74] at H ⊢; exact H)
               by_cases c75 : 0 ≤ (ji74)
               ·rw [if_pos c75] at H
                have c75b0 := eq_true c75
                have c75b1 : decide (0 ≤ (ji74)) = true := decide_eq_true c75
                clear c75
                obtain ⟨ji76, hji76⟩ : ∃ j_ : Int, (shr .i64 a1 (ji74)) = j_ := ⟨_, rfl⟩
                replace H : (if (Go.bits .and .i64 (ji76) 1) = 1 then (if 0 ≤ x13_3 then (if x13_3 < (x14_4.length : Int) then (spec_l04Pivot.j4 k4 a1 (l0_1.length : Int) l9 x10_13 x13_3 (x14_4.set (x13_3 : Int).toNat (-1)) l0_0 l0_1 (wrap64 (x10_13 * t1077)) x1087001_3 x1087002_3) else (none)) else (none)) else (spec_l04Pivot.j4 k4 a1 (l0_1.length : Int) l9 x10_13 x13_3 x14_4 l0_0 l0_1 (wrap64 (x10_13 * t1077)) x1087001_3 x1087002_3)) = some (r1, r2, r3, r4) := by first | (rw [hji76] at H; exact H) | (simp only [hji76] at H ⊢; exact H)
                have hji76_ : (a1 / 2 ^ min (ji74).toNat 64) = ji76 := hji76
                have hji76z : (ji74) ≤ 64 → (a1 / 2 ^ (ji74).toNat) = ji76 := shr_small hji76
                have HC77 := Aside0.mk H
                clear H
                go_upto_if 102 with (fail)
                go_cut [] (fun wc => ∃ (kq : Nat) (x14_76 : List Int), Aside0 (spec_l04Pivot.j4 kq a1 (l0_1.length : Int) l9 x10_13 x13_3 x14_76 l0_0 l0_1 (wrap64 (x10_13 * t1077)) x1087001_3 x1087002_3 = some (r1, r2, r3, r4)) ∧ Aside0 (kq ≤ k4) ∧ Aside0 (Kd.R (Kd.int .i64) 2 wc w.heap.size (fun k_ => some k_ ≠ (u1087002 : Value).ownBlock) v1098 x14_76) ∧ Aside0 (Kd.S (Kd.slice 2 (Kd.int .i64)) 33 wc w.heap.size (fun k_ => some k_ ≠ (v1098 : Value).ownBlock ∧ some k_ ≠ (u1087002 : Value).ownBlock) u1087001 x1087001_3) ∧ Aside0 (Kd.R (Kd.int .i64) 2 wc w.heap.size (fun k_ => some k_ ≠ (v1098 : Value).ownBlock) u1087002 x1087002_3) ∧ Aside0 (wc.heap[gb1074]? = some (.cells #[(.slice A0_0 l0_0.length c0_0), (.slice A0_1 l0_1.length c0_1)] 56 (0, 0))) ∧ Aside0 (wc.heap[gb1075]? = some (.cells #[.int .i64 0, (.slice none 0 0), (.slice none 0 0)] 86 (0, 0))) ∧ Aside0 (wc.heap[gb1086]? = some (.cells #[.int .i64 (wrap64 (x10_13 * t1077)), u1087001, u1087002] 86 (0, 0))) ∧ Aside0 (Below w.heap.size w wc))
                case first =>
                 have H := HC77.out
                 clear HC77
                 by_cases c78 : (Go.bits .and .i64 (ji76) 1) = 1
                 ·rw [if_pos c78] at H
                  have c78b0 : ((Go.bits .and .i64 (ji76) 1) == 1) = true := beq_iff_eq.mpr c78
                  have c78b1 : ((Go.bits .and .i64 (ji76) 1) != 1) = false := bne_eq_false_iff_eq.mpr c78
                  clear c78
                  (first | rw [c78b0] | (simp only [i64_w, i32_w]; rw [c78b0]) | skip)
                  by_cases c79 : 0 ≤ x13_3
                  ·rw [if_pos c79] at H
                   have c79b0 : decide (0 ≤ x13_3) = true := decide_eq_true c79
                   clear c79
                   by_cases c80 : x13_3 < (x14_4.length : Int)
                   ·rw [if_pos c80] at H
                    have c80b0 : decide (x13_3 < (x14_4.length : Int)) = true := decide_eq_true c80
                    clear c80
                    obtain ⟨y1103, hy1103⟩ : ∃ y_ : List Int, y_ = (x14_4.set (x13_3 : Int).toNat (-1)) := ⟨_, rfl⟩
                    replace H : (spec_l04Pivot.j4 k4 a1 (l0_1.length : Int) l9 x10_13 x13_3 y1103 l0_0 l0_1 (wrap64 (x10_13 * t1077)) x1087001_3 x1087002_3) = some (r1, r2, r3, r4) := by first | (rw [hy1103]; with_reducible exact H) | (have H2_ := (Option.bind_some _ _).symm.trans H; rw [hy1103]; with_reducible exact H2_) | (have H2_ := (Option.bind_some _ _).symm.trans H; with_reducible exact H2_) | with_reducible exact H | (rw [hy1103]; exact H) | exact H
                    have Ny1103 := Aside0.mk hy1103
                    clear hy1103
                    have H' := Aside0.mk H
                    clear H
                    have p81 : 0 ≤ (x13_3 : Int) := of_decide_eq_true (by first | (with_reducible assumption) | assumption)
                    have q81 : (x13_3 : Int) < ((x14_4.length : Int) : Int) := of_decide_eq_true (by first | (with_reducible assumption) | assumption)
                    obtain ⟨go81, co81, eo81, gb81, gl81, cl81, HG81⟩ := Kd.R_form HO_14.out (by omega)
                    (first | cases eo81 | (injection eo81 with ea_ en_ ec_; (first | subst ea_ | (injection ea_ with ea_; subst ea_)); subst ec_; clear en_))
                    have GB81 := Aside0.mk gb81
                    have GG81 := Aside0.mk HG81
                    clear gb81 gl81 HG81
                    obtain ⟨hx81_0, hf81_0⟩ := Kd.R_celln 0 HO_14.out (x13_3 : Int) p81 q81
                    replace p81 := eq_true p81
                    replace q81 := eq_true q81
                    have HP82 := Kd.R_putg HO_14.out (x13_3 : Int) (-1)
                    go_wp2_with (first | ((with_reducible refine gate_store (t := 2) (p := 105) rfl ?_); refine store_event (t := 2) (p := 105) (v := ?vo_w83) (w1 := (wr.setCell ⟨go81, (x13_3 : Int).toNat, none⟩ (.int .i64 (-1)))) ?hg ?ho ?hn ?hr ?_; (case ho => rfl); (case hg => rfl); (case hn => rfl); (case hr => first | (go_simp; done) | (go_simp; rfl)); intro w83 hw; have hg : wr.grownBy w83 (some go81) := (by rw [hw]; exact HP82.2); have hp_ : Kd.R (Kd.int .i64) 2 w83 w.heap.size (fun k_ => some k_ ≠ (u1087002 : Value).ownBlock) (.slice (some ⟨go81, 0, none⟩) x14_4.length co81) y1103 := (by rw [hw, Ny1103.out]; exact HP82.1); clear HP82; have n0_ := Aside0.mk (hp_); have n1_ := Aside0.mk (Kd.S_after (v := (.slice (some ⟨go81, 0, none⟩) x14_4.length co81)) (v1 := (.slice (some ⟨go81, 0, none⟩) x14_4.length co81)) (ok := (fun k_ => some k_ ≠ (u1087002 : Value).ownBlock)) (by (with_reducible repeat (first | apply Kd.S_alloc | apply Kd.S_drewN | apply Kd.S_drew)); exact Kd.S_mono HO_1087001.out (fun _ hk => ⟨hk.2, hk.1⟩)) hg (.inl rfl)); have n2_ := Aside0.mk (Kd.R_after (v := (.slice (some ⟨go81, 0, none⟩) x14_4.length co81)) (v1 := (.slice (some ⟨go81, 0, none⟩) x14_4.length co81)) (ok := (fun _ => True)) (by (with_reducible repeat (first | apply Kd.R_alloc | apply Kd.R_drewN | apply Kd.R_drew)); exact Kd.R_mono HO_1087002.out (fun _ hk => ⟨trivial, hk⟩)) hg (.inl rfl)); have n3_ := Aside0.mk (blk_grown (g := gb1074) (o := .cells #[.slice A0_0 l0_0.length c0_0, .slice A0_1 l0_1.length c0_1] 56 (0, 0)) (by (with_reducible repeat (first | refine blk_drewN ?_ _ | refine blk_drew ?_ | refine blk_alloc ?_ _)); exact BK1074.out) hg (Kd.R_ne HO_14.out BK1074.out (by decide))); have n4_ := Aside0.mk (blk_grown (g := gb1075) (o := .cells #[.int .i64 0, .slice none 0 0, .slice none 0 0] 86 (0, 0)) (by (with_reducible repeat (first | refine blk_drewN ?_ _ | refine blk_drew ?_ | refine blk_alloc ?_ _)); exact BK1075.out) hg (Kd.R_ne HO_14.out BK1075.out (by decide))); have n5_ := Aside0.mk (blk_grown (g := gb1086) (o := .cells #[.int .i64 (wrap64 (x10_13 * t1077)), u1087001, u1087002] 86 (0, 0)) (by (with_reducible repeat (first | refine blk_drewN ?_ _ | refine blk_drew ?_ | refine blk_alloc ?_ _)); exact BK1086.out) hg (Kd.R_ne HO_14.out BK1086.out (by decide))); have n6_ := Aside0.mk ((by rw [hw]; exact below_set (HB.out) GB81.out : Below w.heap.size w w83)); clear HO_14; clear HO_1087001; clear HO_1087002; clear BK1074; clear BK1075; clear BK1086; clear HB; have HO_14 := n0_; have HO_1087001 := n1_; have HO_1087002 := n2_; have BK1074 := n3_; have BK1075 := n4_; have BK1086 := n5_; have HB := n6_; clear n0_ n1_ n2_ n3_ n4_ n5_ n6_; clear hg hw hp_))
                    go_meet
                    case rel => exact ⟨_, (y1103), H', ⟨by have := HJ13.out; have := HK2.out; have := HK3.out; have := HK4.out; first | omega | exact Nat.le_refl _⟩, ⟨by (with_reducible repeat (first | apply Kd.R_alloc | apply Kd.R_drewN | apply Kd.R_drew)); exact HO_14.out⟩, ⟨by (with_reducible repeat (first | apply Kd.S_alloc | apply Kd.S_drewN | apply Kd.S_drew)); exact Kd.S_mono HO_1087001.out (fun _ hk => ⟨hk.2, hk.1⟩)⟩, ⟨by (with_reducible repeat (first | apply Kd.R_alloc | apply Kd.R_drewN | apply Kd.R_drew)); exact Kd.R_mono HO_1087002.out (fun _ hk => hk.2)⟩, ⟨by (with_reducible repeat (first | refine blk_drewN ?_ _ | refine blk_drew ?_ | refine blk_alloc ?_ _)); exact BK1074.out⟩, ⟨by (with_reducible repeat (first | refine blk_drewN ?_ _ | refine blk_drew ?_ | refine blk_alloc ?_ _)); exact BK1075.out⟩, ⟨by (with_reducible repeat (first | refine blk_drewN ?_ _ | refine blk_drew ?_ | refine blk_alloc ?_ _)); exact BK1086.out⟩, ⟨by repeat (first | (with_reducible first | exact HB.out | apply below_alloc | apply pw_below_drewN | apply below_drew1 | refine below_set ?_ GE1074.out | refine below_set ?_ GE1075.out | refine below_set ?_ GE1086.out) | exact HB.out)⟩⟩
                   ·rw [if_neg c80] at H
                    exact absurd H (by simp)
                  ·rw [if_neg c79] at H
                   exact absurd H (by simp)
                 ·rw [if_neg c78] at H
                  have c78b0 : ((Go.bits .and .i64 (ji76) 1) == 1) = false := beq_eq_false_iff_ne.mpr c78
                  have c78b1 : ((Go.bits .and .i64 (ji76) 1) != 1) = true := bne_iff_ne.mpr c78
                  (first | rw [c78b0] | (simp only [i64_w, i32_w]; rw [c78b0]) | skip)
                  have H' := Aside0.mk H
                  clear H
                  go_wp2
                  go_meet
                  case rel => exact ⟨_, (x14_4), H', ⟨by have := HJ13.out; have := HK2.out; have := HK3.out; have := HK4.out; first | omega | exact Nat.le_refl _⟩, ⟨by (with_reducible repeat (first | apply Kd.R_alloc | apply Kd.R_drewN | apply Kd.R_drew)); exact HO_14.out⟩, ⟨by (with_reducible repeat (first | apply Kd.S_alloc | apply Kd.S_drewN | apply Kd.S_drew)); exact HO_1087001.out⟩, ⟨by (with_reducible repeat (first | apply Kd.R_alloc | apply Kd.R_drewN | apply Kd.R_drew)); exact HO_1087002.out⟩, ⟨by (with_reducible repeat (first | refine blk_drewN ?_ _ | refine blk_drew ?_ | refine blk_alloc ?_ _)); exact BK1074.out⟩, ⟨by (with_reducible repeat (first | refine blk_drewN ?_ _ | refine blk_drew ?_ | refine blk_alloc ?_ _)); exact BK1075.out⟩, ⟨by (with_reducible repeat (first | refine blk_drewN ?_ _ | refine blk_drew ?_ | refine blk_alloc ?_ _)); exact BK1086.out⟩, ⟨by repeat (first | (with_reducible first | exact HB.out | apply below_alloc | apply pw_below_drewN | apply below_drew1 | refine below_set ?_ GE1074.out | refine below_set ?_ GE1075.out | refine below_set ?_ GE1086.out) | exact HB.out)⟩⟩
                case rest =>
                 clear HC77
                 try clear c1
                 try clear p1
                 try clear q1
                 try clear hx1
                 try clear c2
                 try clear p2
                 try clear c3
                 try clear c5
                 try clear c5b0
                 try clear c5b1
                 try clear c6
                 try clear p6
                 try clear q6
                 try clear hx6
                 try clear hf6
                 try clear c7
                 try clear c8
                 try clear p8
                 try clear q8
                 try clear hx8
                 try clear hf8
                 try clear c9
                 try clear c10
                 try clear p10
                 try clear q10
                 try clear hx10
                 try clear c11
                 try clear p11
                 try clear q11
                 try clear hx11
                 try clear c14
                 try clear c19
                 try clear c22
                 try clear c22b0
                 try clear c30
                 try clear c31
                 try clear c33
                 try clear c33b0
                 try clear c34
                 try clear c34b0
                 try clear c34b1
                 try clear c35
                 try clear c35b0
                 try clear c35b1
                 try clear c36
                 try clear c37
                 try clear c37b0
                 try clear c38
                 try clear c38b0
                 try clear c39
                 try clear c53
                 try clear c53b0
                 try clear c54
                 try clear c54b0
                 try clear c54b1
                 try clear c55
                 try clear c55b0
                 try clear c55b1
                 try clear c58
                 try clear c58b0
                 try clear c60
                 try clear c60b0
                 try clear c60b1
                 try clear c62
                 try clear c62b0
                 try clear c62b1
                 try clear c63
                 try clear c63b0
                 try clear c64
                 try clear c64b0
                 try clear p64
                 try clear c65
                 try clear c65b0
                 try clear c66
                 try clear c66b0
                 try clear c67
                 try clear c67b0
                 try clear p68
                 try clear q68
                 try clear hx68
                 try clear hf68
                 try clear c69
                 try clear c70
                 try clear c75
                 try clear c75b0
                 try clear c75b1
                 try clear c78
                 try clear c78b0
                 try clear c78b1
                 try clear c79
                 try clear c79b0
                 try clear c80
                 try clear c80b0
                 try clear p81
                 try clear q81
                 try clear hx81
                 try clear hf81
                 try clear hcz11_0
                 try clear hcz11_1
                 try clear hcz13_0
                 try clear hcz13_1
                 try clear hcz13_2
                 try clear hcz20_0
                 try clear hcz20_1
                 try clear hcz32_0
                 try clear hcz32_1
                 try clear hcz32_2
                 try clear hcz71_0
                 try clear hcz71_1
                 try clear hfz11_0
                 try clear hfz11_1
                 try clear hfz13_0
                 try clear hfz13_1
                 try clear hfz13_2
                 try clear hfz20_0
                 try clear hfz20_1
                 try clear hfz32_0
                 try clear hfz32_1
                 try clear hfz32_2
                 try clear hfz71_0
                 try clear hfz71_1
                 try clear hx1093_0
                 try clear hx1100_0
                 try clear hx1101_0
                 try clear hx68_0
                 try clear hx81_0
                 try clear p1
                 try clear p10
                 try clear p1093
                 try clear p1100
                 try clear p1101
                 try clear p2
                 try clear p6
                 try clear p68
                 try clear p81
                 try clear q1
                 try clear q10
                 try clear q1093
                 try clear q1100
                 try clear q1101
                 try clear q68
                 try clear q81
                 obtain ⟨kq, x14_76, HA, HJ76, HO_14, HO_1087001, HO_1087002, BK1074, BK1075, BK1086, HB⟩ := hcut
                 cases kq with
                 | zero => exact absurd HA.out (by simp [spec_l04Pivot.j4])
                 | succ kj76 =>
                  have H := HA.out
                  clear HA
                  simp only [spec_l04Pivot.j4] at H
                  replace H := Option.bind_eq_some_iff.mp H
                  obtain ⟨⟨t1104, t1105⟩, A840, H⟩ := H
                  replace H : (spec_l04Pivot.l3 kj76 a1 (l0_1.length : Int) l9 x10_13 x13_3 t1104 0 l0_0 l0_1 (wrap64 (x10_13 * t1077)) x1087001_3 x1087002_3) = some (r1, r2, r3, r4) := H
                  have A84 := Aside0.mk A840
                  clear A840
                  have H' := Aside0.mk H
                  clear H
                  obtain ⟨Ao85, co85, eo85⟩ := Kd.R_slice HO_14.out
                  subst eo85
                  go_wp2_with (first | ((with_reducible refine gate_callee (f := 143) rfl ?_); refine goesL_ (some 109) rfl rfl Try.func143 (by kernel_rfl) rfl #[.slice A9 l9.length c9, .slice Ao85 x14_76.length co85] rfl (by (try simp only [List.map_toArray, List.map_cons, List.map_nil]); first | done | rfl | (simp only [List.length_drop, List.length_take]; rfl)) ?_; (with_reducible refine (spec_l01Solve.calls kj76 _ _ l9 _ _ x14_76 t1104 t1105 _ ?side1 ?side2 ?side3 ?side4 A84.out).mono ?_); (case side1 => repeat (first | exact (Kd.C_below HR9.out HB.out) | (with_reducible refine Kd.C_alloc ?_ _) | (with_reducible refine Kd.C_drewN ?_ _) | (with_reducible refine Kd.C_drew ?_))); (case side2 => exact HC9.out); (case side3 => repeat (first | exact (Kd.R_reads' HO_14.out).2.2 | (with_reducible refine Kd.C_alloc ?_ _) | (with_reducible refine Kd.C_drewN ?_ _) | (with_reducible refine Kd.C_drew ?_))); (case side4 => exact (Kd.R_reads' HO_14.out).2.1); rintro e w86 ⟨v1106, rfl, ho0, hb⟩; refine ⟨_, rfl, ?_⟩; have n0_ := Aside0.mk (Kd.R_elder' (by (with_reducible repeat (first | apply Kd.R_alloc | apply Kd.R_drewN | apply Kd.R_drew)); exact HO_14.out) (Kd.R_base ho0) hb); have n1_ := Aside0.mk (Kd.S_elder' (by (with_reducible repeat (first | apply Kd.S_alloc | apply Kd.S_drewN | apply Kd.S_drew)); exact HO_1087001.out) (Kd.R_base ho0) hb); have n2_ := Aside0.mk (Kd.R_elder' (by (with_reducible repeat (first | apply Kd.R_alloc | apply Kd.R_drewN | apply Kd.R_drew)); exact HO_1087002.out) (Kd.R_base ho0) hb); have n3_ := Aside0.mk (Kd.R_lower (Kd.R_new' (Kd.R_new' ho0 (Kd.R_lt (by (with_reducible repeat (first | apply Kd.R_alloc | apply Kd.R_drewN | apply Kd.R_drew)); exact HO_14.out))) (Kd.R_lt (by (with_reducible repeat (first | apply Kd.R_alloc | apply Kd.R_drewN | apply Kd.R_drew)); exact HO_1087002.out))) (below_size (by repeat (first | (with_reducible first | exact HB.out | apply below_alloc | apply pw_below_drewN | apply below_drew1 | refine below_set ?_ GE1074.out | refine below_set ?_ GE1075.out | refine below_set ?_ GE1086.out) | exact HB.out)))); have n4_ := Aside0.mk (blk_below (g := gb1074) (o := .cells #[.slice A0_0 l0_0.length c0_0, .slice A0_1 l0_1.length c0_1] 56 (0, 0)) (by (with_reducible repeat (first | refine blk_drewN ?_ _ | refine blk_drew ?_ | refine blk_alloc ?_ _)); exact BK1074.out) hb); have n5_ := Aside0.mk (blk_below (g := gb1075) (o := .cells #[.int .i64 0, .slice none 0 0, .slice none 0 0] 86 (0, 0)) (by (with_reducible repeat (first | refine blk_drewN ?_ _ | refine blk_drew ?_ | refine blk_alloc ?_ _)); exact BK1075.out) hb); have n6_ := Aside0.mk (blk_below (g := gb1086) (o := .cells #[.int .i64 (wrap64 (x10_13 * t1077)), u1087001, u1087002] 86 (0, 0)) (by (with_reducible repeat (first | refine blk_drewN ?_ _ | refine blk_drew ?_ | refine blk_alloc ?_ _)); exact BK1086.out) hb); have n7_ := Aside0.mk (below_step (by repeat (first | (with_reducible first | exact HB.out | apply below_alloc | apply pw_below_drewN | apply below_drew1 | refine below_set ?_ GE1074.out | refine below_set ?_ GE1075.out | refine below_set ?_ GE1086.out) | exact HB.out)) hb); clear HO_14; clear HO_1087001; clear HO_1087002; clear BK1074; clear BK1075; clear BK1086; clear HB; have HO_14 := n0_; have HO_1087001 := n1_; have HO_1087002 := n2_; have HO1107 := n3_; have BK1074 := n4_; have BK1075 := n5_; have BK1086 := n6_; have HB := n7_; clear n0_ n1_ n2_ n3_ n4_ n5_ n6_ n7_; (try clear hb); (try clear hb2); (try clear hk); (try clear hi); (try clear ho0)))
                  go_loopg [18] kj76 (fun kq v18 w' => ∃ (x16_6 : List Int) (x18_6 : Int) (x1087001_6 : List (List Int)) (x1087002_6 : List Int) (u1087001 : Value) (u1087002 : Value), v18 = .int .i64 x18_6 ∧ Aside0 (spec_l04Pivot.l3 kq a1 (l0_1.length : Int) l9 x10_13 x13_3 x16_6 x18_6 l0_0 l0_1 (wrap64 (x10_13 * t1077)) x1087001_6 x1087002_6 = some (r1, r2, r3, r4)) ∧ Aside0 (kq ≤ kj76) ∧ Aside0 (Kd.R (Kd.int .i64) 2 w' w.heap.size (fun k_ => some k_ ≠ (u1087002 : Value).ownBlock) v1106 x16_6) ∧ Aside0 (Kd.S (Kd.slice 2 (Kd.int .i64)) 33 w' w.heap.size (fun k_ => some k_ ≠ (v1106 : Value).ownBlock ∧ some k_ ≠ (u1087002 : Value).ownBlock) u1087001 x1087001_6) ∧ Aside0 (Kd.R (Kd.int .i64) 2 w' w.heap.size (fun k_ => some k_ ≠ (v1106 : Value).ownBlock) u1087002 x1087002_6) ∧ Aside0 (w'.heap[gb1074]? = some (.cells #[(.slice A0_0 l0_0.length c0_0), (.slice A0_1 l0_1.length c0_1)] 56 (0, 0))) ∧ Aside0 (w'.heap[gb1075]? = some (.cells #[.int .i64 0, (.slice none 0 0), (.slice none 0 0)] 86 (0, 0))) ∧ Aside0 (w'.heap[gb1086]? = some (.cells #[.int .i64 (wrap64 (x10_13 * t1077)), u1087001, u1087002] 86 (0, 0))) ∧ Aside0 (Below w.heap.size w w'))
                  case atStart => exact ⟨(t1104), (0), (x1087001_3), (x1087002_3), (u1087001), (u1087002), (by first | rfl | (simp; done) | (simp [*]; done)), H', ⟨Nat.le_refl _⟩, ⟨by (with_reducible repeat (first | apply Kd.R_alloc | apply Kd.R_drewN | apply Kd.R_drew)); exact Kd.R_mono HO1107.out (fun _ hk => hk.2)⟩, ⟨by (with_reducible repeat (first | apply Kd.S_alloc | apply Kd.S_drewN | apply Kd.S_drew)); exact Kd.S_mono HO_1087001.out (fun _ hk => ⟨hk.2, hk.1.2⟩)⟩, ⟨by (with_reducible repeat (first | apply Kd.R_alloc | apply Kd.R_drewN | apply Kd.R_drew)); exact Kd.R_mono HO_1087002.out (fun _ hk => hk.2)⟩, ⟨by (with_reducible repeat (first | refine blk_drewN ?_ _ | refine blk_drew ?_ | refine blk_alloc ?_ _)); exact BK1074.out⟩, ⟨by (with_reducible repeat (first | refine blk_drewN ?_ _ | refine blk_drew ?_ | refine blk_alloc ?_ _)); exact BK1075.out⟩, ⟨by (with_reducible repeat (first | refine blk_drewN ?_ _ | refine blk_drew ?_ | refine blk_alloc ?_ _)); exact BK1086.out⟩, ⟨by repeat (first | (with_reducible first | exact HB.out | apply below_alloc | apply pw_below_drewN | apply below_drew1 | refine below_set ?_ GE1074.out | refine below_set ?_ GE1075.out | refine below_set ?_ GE1086.out) | exact HB.out)⟩⟩
                  case round =>
                   clear H'
                   try clear c1
                   try clear p1
                   try clear q1
                   try clear hx1
                   try clear c2
                   try clear p2
                   try clear c3
                   try clear c5
                   try clear c5b0
                   try clear c5b1
                   try clear c6
                   try clear p6
                   try clear q6
                   try clear hx6
                   try clear hf6
                   try clear c7
                   try clear c8
                   try clear p8
                   try clear q8
                   try clear hx8
                   try clear hf8
                   try clear c9
                   try clear c10
                   try clear p10
                   try clear q10
                   try clear hx10
                   try clear c11
                   try clear p11
                   try clear q11
                   try clear hx11
                   try clear c14
                   try clear c19
                   try clear c22
                   try clear c22b0
                   try clear c30
                   try clear c31
                   try clear c33
                   try clear c33b0
                   try clear c34
                   try clear c34b0
                   try clear c34b1
                   try clear c35
                   try clear c35b0
                   try clear c35b1
                   try clear c36
                   try clear c37
                   try clear c37b0
                   try clear c38
                   try clear c38b0
                   try clear c39
                   try clear c53
                   try clear c53b0
                   try clear c54
                   try clear c54b0
                   try clear c54b1
                   try clear c55
                   try clear c55b0
                   try clear c55b1
                   try clear c58
                   try clear c58b0
                   try clear c60
                   try clear c60b0
                   try clear c60b1
                   try clear c62
                   try clear c62b0
                   try clear c62b1
                   try clear c63
                   try clear c63b0
                   try clear c64
                   try clear c64b0
                   try clear p64
                   try clear c65
                   try clear c65b0
                   try clear c66
                   try clear c66b0
                   try clear c67
                   try clear c67b0
                   try clear p68
                   try clear q68
                   try clear hx68
                   try clear hf68
                   try clear c69
                   try clear c70
                   try clear c75
                   try clear c75b0
                   try clear c75b1
                   try clear c78
                   try clear c78b0
                   try clear c78b1
                   try clear c79
                   try clear c79b0
                   try clear c80
                   try clear c80b0
                   try clear p81
                   try clear q81
                   try clear hx81
                   try clear hf81
                   try clear hcz11_0
                   try clear hcz11_1
                   try clear hcz13_0
                   try clear hcz13_1
                   try clear hcz13_2
                   try clear hcz20_0
                   try clear hcz20_1
                   try clear hcz32_0
                   try clear hcz32_1
                   try clear hcz32_2
                   try clear hcz71_0
                   try clear hcz71_1
                   try clear hfz11_0
                   try clear hfz11_1
                   try clear hfz13_0
                   try clear hfz13_1
                   try clear hfz13_2
                   try clear hfz20_0
                   try clear hfz20_1
                   try clear hfz32_0
                   try clear hfz32_1
                   try clear hfz32_2
                   try clear hfz71_0
                   try clear hfz71_1
                   try clear hx1093_0
                   try clear hx1100_0
                   try clear hx1101_0
                   try clear hx68_0
                   try clear hx81_0
                   try clear p1
                   try clear p10
                   try clear p1093
                   try clear p11
                   try clear p1100
                   try clear p1101
                   try clear p2
                   try clear p6
                   try clear p64
                   try clear p68
                   try clear p8
                   try clear p81
                   try clear q1
                   try clear q10
                   try clear q1093
                   try clear q11
                   try clear q1100
                   try clear q1101
                   try clear q6
                   try clear q68
                   try clear q8
                   try clear q81
                   obtain ⟨x16_6, x18_6, x1087001_6, x1087002_6, u1087001, u1087002, rfl, HA, HK6, HO_16, HO_1087001, HO_1087002, BK1074, BK1075, BK1086, HB⟩ := hrel
                   cases gk with
                   | zero => exact absurd HA.out (by simp [spec_l04Pivot.l3])
                   | succ k6 =>
                    have H := HA.out
                    clear HA
                    simp only [spec_l04Pivot.l3] at H
                    by_cases c87 : x18_6 < (l0_1.length : Int)
                    ·rw [if_pos c87] at H
                     have c87b0 : decide (x18_6 < (l0_1.length : Int)) = true := decide_eq_true c87
                     clear c87
                     by_cases c88 : 0 ≤ x18_6
                     ·rw [if_pos c88] at H
                      have c88b0 : decide (0 ≤ x18_6) = true := decide_eq_true c88
                      clear c88
                      by_cases c89 : x18_6 < (x1087001_6.length : Int)
                      ·rw [if_pos c89] at H
                       have c89b0 : decide (x18_6 < (x1087001_6.length : Int)) = true := decide_eq_true c89
                       clear c89
                       by_cases c90 : x18_6 < (x16_6.length : Int)
                       ·rw [if_pos c90] at H
                        have c90b0 : decide (x18_6 < (x16_6.length : Int)) = true := decide_eq_true c90
                        clear c90
                        by_cases c91 : 0 ≤ x13_3
                        ·rw [if_pos c91] at H
                         have c91b0 : decide (0 ≤ x13_3) = true := decide_eq_true c91
                         clear c91
                         by_cases c92 : x13_3 < ((rd_L1 x1087001_6 x18_6).length : Int)
                         ·rw [if_pos c92] at H
                          have c92b0 : decide (x13_3 < ((rd_L1 x1087001_6 x18_6).length : Int)) = true := decide_eq_true c92
                          clear c92
                          obtain ⟨y1110, hy1110⟩ : ∃ y_ : List Int, y_ = ((rd_L1 x1087001_6 x18_6).set (x13_3 : Int).toNat (wrap64 (x10_13 * (rd x16_6 x18_6)))) := ⟨_, rfl⟩
                          replace H : (spec_l04Pivot.l3 k6 a1 (l0_1.length : Int) l9 x10_13 x13_3 x16_6 (wrap64 (x18_6 + 1)) l0_0 l0_1 (wrap64 (x10_13 * t1077)) (x1087001_6.set (x18_6 : Int).toNat y1110) x1087002_6) = some (r1, r2, r3, r4) := by first | (rw [hy1110]; with_reducible exact H) | (have H2_ := (Option.bind_some _ _).symm.trans H; rw [hy1110]; with_reducible exact H2_) | (have H2_ := (Option.bind_some _ _).symm.trans H; with_reducible exact H2_) | with_reducible exact H | (rw [hy1110]; exact H) | exact H
                          have Ny1110 := Aside0.mk hy1110
                          clear hy1110
                          obtain ⟨y1112, hy1112⟩ : ∃ y_ : List (List Int), y_ = (x1087001_6.set (x18_6 : Int).toNat y1110) := ⟨_, rfl⟩
                          replace H : (spec_l04Pivot.l3 k6 a1 (l0_1.length : Int) l9 x10_13 x13_3 x16_6 (wrap64 (x18_6 + 1)) l0_0 l0_1 (wrap64 (x10_13 * t1077)) y1112 x1087002_6) = some (r1, r2, r3, r4) := by first | (rw [hy1112]; with_reducible exact H) | (have H2_ := (Option.bind_some _ _).symm.trans H; rw [hy1112]; with_reducible exact H2_) | (have H2_ := (Option.bind_some _ _).symm.trans H; with_reducible exact H2_) | with_reducible exact H | (rw [hy1112]; exact H) | exact H
                          have Ny1112 := Aside0.mk hy1112
                          clear hy1112
                          have H' := Aside0.mk H
                          clear H
                          have hnb94 := NB1086_1074.out
                          have hnc94 := NB1074_1086.out
                          have hnb95 := NB1086_1075.out
                          have hnc95 := NB1075_1086.out
                          have hcz96_0 : wr.cell? ⟨gb1086, 0, none⟩ = some (.int .i64 (wrap64 (x10_13 * t1077))) := (blk_cell BK1086.out 0).trans rfl
                          have hcz96_1 : wr.cell? ⟨gb1086, 1, none⟩ = some (u1087001) := (blk_cell BK1086.out 1).trans rfl
                          have hcz96_2 : wr.cell? ⟨gb1086, 2, none⟩ = some (u1087002) := (blk_cell BK1086.out 2).trans rfl
                          have hfz96_0 := blk_frozen BK1086.out 0
                          have hfz96_1 := blk_frozen BK1086.out 1
                          have hfz96_2 := blk_frozen BK1086.out 2
                          obtain ⟨Ao97, co97, eo97⟩ := Kd.S_slice HO_1087001.out
                          subst eo97
                          have p1108 : 0 ≤ (x18_6 : Int) := of_decide_eq_true (by first | (with_reducible assumption) | assumption)
                          have q1108 : x18_6 < (x1087001_6.length : Int) := of_decide_eq_true (by first | (with_reducible assumption) | assumption)
                          obtain ⟨ad1108, A1108_0, c1108_0, e1108, hx1108_0, hl1108_0, hi1108_0⟩ := at_L1 (Kd.S_reads' HO_1087001.out).2.2 x18_6 p1108 q1108
                          cases e1108
                          obtain ⟨ce1108, hce1108, hMe1108, hcc1108⟩ := Kd.S_get HO_1087001.out [] x18_6 p1108 (by first | exact q1108 | exact of_decide_eq_true (by first | (with_reducible assumption) | assumption) | (have e_ := (Kd.S_reads' HO_1087001.out).1; omega))
                          obtain ⟨ve1108_0, rfl, ge1108_0⟩ := hMe1108
                          have hv1108_0 := hcc1108 0 _ rfl
                          rw [Nat.add_zero, show ((Kd.slice 2 (Kd.int .i64))).sz = 1 from rfl, Nat.mul_one] at hv1108_0
                          replace hv1108_0 := Option.some.inj (hv1108_0.symm.trans hx1108_0)
                          rw [hv1108_0] at ge1108_0
                          have HL1108_0 := Aside0.mk (show Kd.R (Kd.int .i64) 2 _ _ _ _ (rd_L1 x1087001_6 x18_6) from ge1108_0)
                          clear hv1108_0 ge1108_0
                          have HX1108_0 := Aside0.mk hx1108_0
                          clear hcc1108 hce1108
                          have HR1108_0 := Aside0.mk hi1108_0
                          have HC1108_0 := Aside0.mk hl1108_0
                          clear hi1108_0 hl1108_0
                          replace p1108 := eq_true p1108
                          replace q1108 := eq_true q1108
                          obtain ⟨Ao98, co98, eo98⟩ := Kd.R_slice HO_16.out
                          subst eo98
                          have p1109 : 0 ≤ (x18_6 : Int) := of_decide_eq_true (by first | (with_reducible assumption) | assumption)
                          have q1109 : x18_6 < (x16_6.length : Int) := of_decide_eq_true (by first | (with_reducible assumption) | assumption)
                          obtain ⟨ad1109, e1109, hx1109_0⟩ := Kd.at_int (Kd.R_reads' HO_16.out).2.2 x18_6 p1109 q1109
                          cases e1109
                          replace p1109 := eq_true p1109
                          replace q1109 := eq_true q1109
                          have p93 : 0 ≤ (x13_3 : Int) := of_decide_eq_true (by first | (with_reducible assumption) | assumption)
                          have q93 : (x13_3 : Int) < (((rd_L1 x1087001_6 x18_6).length : Int) : Int) := of_decide_eq_true (by first | (with_reducible assumption) | assumption)
                          obtain ⟨go93, co93, eo93, gb93, gl93, cl93, HG93⟩ := Kd.R_form HL1108_0.out (by omega)
                          (first | cases eo93 | (injection eo93 with ea_ en_ ec_; (first | subst ea_ | (injection ea_ with ea_; subst ea_)); subst ec_; clear en_))
                          have GB93 := Aside0.mk gb93
                          have GG93 := Aside0.mk HG93
                          clear gb93 gl93 HG93
                          obtain ⟨hx93_0, hf93_0⟩ := Kd.R_celln 0 HL1108_0.out (x13_3 : Int) p93 q93
                          replace p93 := eq_true p93
                          replace q93 := eq_true q93
                          have hq99 : (x18_6 : Int) < (x1087001_6.length : Int) := (by have h_ : (x18_6 : Int) < ((x1087001_6.length : Int) : Int) := of_decide_eq_true (by first | (with_reducible assumption) | assumption); first | exact h_ | (have e_ := (Kd.S_reads' HO_1087001.out).1; omega) | simpa only [List.length_set, List.length_set] using h_)
                          obtain ⟨oki99, ce99, hcl99, hM99, hcc99, hok99, hbk99⟩ := Kd.S_borrow HO_1087001.out [] (x18_6 : Int) (of_decide_eq_true (by first | (with_reducible assumption) | assumption)) hq99
                          obtain ⟨ve99_0, rfl, ge99_0⟩ := hM99
                          have hv99 := hcc99 0 _ rfl
                          rw [Nat.add_zero, show ((Kd.slice 2 (Kd.int .i64))).sz = 1 from rfl, Nat.mul_one] at hv99
                          replace hv99 := Option.some.inj (hv99.symm.trans HX1108_0.out)
                          subst hv99
                          clear hcc99 hcl99
                          replace ge99_0 := (show Kd.R (Kd.int .i64) 2 _ _ _ _ (rd_L1 x1087001_6 x18_6) from ge99_0)
                          have HP99 := Kd.R_putg ge99_0 (x13_3 : Int) (wrap64 (x10_13 * (rd x16_6 x18_6)))
                          go_wp2_with (first | ((with_reducible refine gate_store (t := 2) (p := 130) rfl ?_); refine store_event (t := 2) (p := 130) (v := ?vo_w100) (w1 := (wr.setCell ⟨go93, (x13_3 : Int).toNat, none⟩ (.int .i64 (wrap64 (x10_13 * (rd x16_6 x18_6)))))) ?hg ?ho ?hn ?hr ?_; (case ho => rfl); (case hg => rfl); (case hn => rfl); (case hr => first | (go_simp; done) | (go_simp; rfl)); intro w100 hw; have hg : wr.grownBy w100 (some go93) := (by rw [hw]; exact HP99.2); have hz_ : Kd.R (Kd.int .i64) 2 w100 w.heap.size oki99 (.slice (some ⟨go93, 0, none⟩) (rd_L1 x1087001_6 x18_6).length c1108_0) y1110 := (by rw [hw, Ny1110.out]; exact HP99.1); have hp_ : Kd.S (Kd.slice 2 (Kd.int .i64)) 33 w100 w.heap.size (fun k_ => some k_ ≠ (.slice (some ad1109) x16_6.length co98 : Value).ownBlock ∧ some k_ ≠ (u1087002 : Value).ownBlock) (.slice (some ad1108) x1087001_6.length co97) y1112 := (by rw [Ny1112.out]; exact hbk99 hg (fun k_ e_ => by injection e_ with e_; subst e_; exact ge99_0.1 _ rfl) (Kd.M_row hz_)); have hm_ := Kd.R_mono hz_ hok99; clear HP99 hbk99; have n0_ := Aside0.mk (Kd.R_grown1 (by (with_reducible repeat (first | apply Kd.R_alloc | apply Kd.R_drewN | apply Kd.R_drew)); exact HO_16.out) rfl hg ((HL1108_0.out.1 _ rfl).1.1)); have n1_ := Aside0.mk (hp_); have n2_ := Aside0.mk (Kd.R_grown1 (by (with_reducible repeat (first | apply Kd.R_alloc | apply Kd.R_drewN | apply Kd.R_drew)); exact HO_1087002.out) rfl hg ((HL1108_0.out.1 _ rfl).1.2)); have n3_ := Aside0.mk (blk_grown (g := gb1074) (o := .cells #[.slice A0_0 l0_0.length c0_0, .slice A0_1 l0_1.length c0_1] 56 (0, 0)) (by (with_reducible repeat (first | refine blk_drewN ?_ _ | refine blk_drew ?_ | refine blk_alloc ?_ _)); exact BK1074.out) hg (Kd.R_ne HL1108_0.out BK1074.out (by decide))); have n4_ := Aside0.mk (blk_grown (g := gb1075) (o := .cells #[.int .i64 0, .slice none 0 0, .slice none 0 0] 86 (0, 0)) (by (with_reducible repeat (first | refine blk_drewN ?_ _ | refine blk_drew ?_ | refine blk_alloc ?_ _)); exact BK1075.out) hg (Kd.R_ne HL1108_0.out BK1075.out (by decide))); have n5_ := Aside0.mk (blk_grown (g := gb1086) (o := .cells #[.int .i64 (wrap64 (x10_13 * t1077)), .slice (some ad1108) x1087001_6.length co97, u1087002] 86 (0, 0)) (by (with_reducible repeat (first | refine blk_drewN ?_ _ | refine blk_drew ?_ | refine blk_alloc ?_ _)); exact BK1086.out) hg (Kd.R_ne HL1108_0.out BK1086.out (by decide))); have n6_ := Aside0.mk ((by rw [hw]; exact below_set (HB.out) GB93.out : Below w.heap.size w w100)); have n7_ := Aside0.mk (hm_); have n8_ := Aside0.mk ((Kd.R_reads' hm_).2.1); clear HO_16; clear HO_1087001; clear HO_1087002; clear BK1074; clear BK1075; clear BK1086; clear HB; clear HL1108_0; have HO_16 := n0_; have HO_1087001 := n1_; have HO_1087002 := n2_; have BK1074 := n3_; have BK1075 := n4_; have BK1086 := n5_; have HB := n6_; have HL1113 := n7_; have HC1111 := n8_; clear n0_ n1_ n2_ n3_ n4_ n5_ n6_ n7_ n8_; clear hg hw hp_ hz_ hm_ hok99))
                          go_roundg k6
                          case measure => have := HJ13.out; have := HK2.out; have := HK3.out; have := HK4.out; have := HJ76.out; have := HK6.out; omega
                          case rel => exact ⟨(x16_6), (wrap64 (x18_6 + 1)), (y1112), (x1087002_6), (.slice (some ad1108) x1087001_6.length co97), (u1087002), (by first | rfl | (simp; done) | (simp [*]; done)), H', ⟨by have := HJ13.out; have := HK2.out; have := HK3.out; have := HK4.out; have := HJ76.out; have := HK6.out; omega⟩, ⟨by (with_reducible repeat (first | apply Kd.R_alloc | apply Kd.R_drewN | apply Kd.R_drew)); exact HO_16.out⟩, ⟨by (with_reducible repeat (first | apply Kd.S_alloc | apply Kd.S_drewN | apply Kd.S_drew)); exact HO_1087001.out⟩, ⟨by (with_reducible repeat (first | apply Kd.R_alloc | apply Kd.R_drewN | apply Kd.R_drew)); exact HO_1087002.out⟩, ⟨by (with_reducible repeat (first | refine blk_drewN ?_ _ | refine blk_drew ?_ | refine blk_alloc ?_ _)); exact BK1074.out⟩, ⟨by (with_reducible repeat (first | refine blk_drewN ?_ _ | refine blk_drew ?_ | refine blk_alloc ?_ _)); exact BK1075.out⟩, ⟨by (with_reducible repeat (first | refine blk_drewN ?_ _ | refine blk_drew ?_ | refine blk_alloc ?_ _)); exact BK1086.out⟩, ⟨by repeat (first | (with_reducible first | exact HB.out | apply below_alloc | apply pw_below_drewN | apply below_drew1 | refine below_set ?_ GE1074.out | refine below_set ?_ GE1075.out | refine below_set ?_ GE1086.out) | exact HB.out)⟩⟩
                         ·rw [if_neg c92] at H
                          exact absurd H (by simp)
                        ·rw [if_neg c91] at H
                         exact absurd H (by simp)
                       ·rw [if_neg c90] at H
                        exact absurd H (by simp)
                      ·rw [if_neg c89] at H
                       exact absurd H (by simp)
                     ·rw [if_neg c88] at H
                      exact absurd H (by simp)
                    ·rw [if_neg c87] at H
                     have c87b0 : decide (x18_6 < (l0_1.length : Int)) = false := decide_eq_false c87
                     clear c87
                     have H' := Aside0.mk H
                     clear H
                     go_wp2
                     go_roundg k6
                     case measure => have := HJ13.out; have := HK2.out; have := HK3.out; have := HK4.out; have := HJ76.out; have := HK6.out; omega
                     case rel => exact ⟨(wrap64 (x13_3 + 1)), (x1087001_6), (x1087002_6), (u1087001), (u1087002), (by first | rfl | (simp; done) | (simp [*]; done)), H', ⟨by have := HJ13.out; have := HK2.out; have := HK3.out; have := HK4.out; have := HJ76.out; have := HK6.out; omega⟩, ⟨by (with_reducible repeat (first | apply Kd.S_alloc | apply Kd.S_drewN | apply Kd.S_drew)); exact Kd.S_mono HO_1087001.out (fun _ hk => hk.2)⟩, ⟨by (with_reducible repeat (first | apply Kd.R_alloc | apply Kd.R_drewN | apply Kd.R_drew)); exact Kd.R_mono HO_1087002.out (fun _ hk => trivial)⟩, ⟨by (with_reducible repeat (first | refine blk_drewN ?_ _ | refine blk_drew ?_ | refine blk_alloc ?_ _)); exact BK1074.out⟩, ⟨by (with_reducible repeat (first | refine blk_drewN ?_ _ | refine blk_drew ?_ | refine blk_alloc ?_ _)); exact BK1075.out⟩, ⟨by (with_reducible repeat (first | refine blk_drewN ?_ _ | refine blk_drew ?_ | refine blk_alloc ?_ _)); exact BK1086.out⟩, ⟨by repeat (first | (with_reducible first | exact HB.out | apply below_alloc | apply pw_below_drewN | apply below_drew1 | refine below_set ?_ GE1074.out | refine below_set ?_ GE1075.out | refine below_set ?_ GE1086.out) | exact HB.out)⟩⟩
               ·rw [if_neg c75] at H
                exact absurd H (by simp)
           ·rw [if_neg c55] at H
            exact absurd H (by simp)
          ·rw [if_neg c54] at H
           exact absurd H (by simp)
         ·rw [if_neg c53] at H
          have c53b0 : decide (x13_3 < (l0_1.length : Int)) = false := decide_eq_false c53
          clear c53
          simp only [Option.some.injEq, Prod.mk.injEq] at H
          obtain ⟨rfl, rfl, rfl, rfl⟩ := H
          have hnb101 := NB1086_1074.out
          have hnc101 := NB1074_1086.out
          have hnb102 := NB1086_1075.out
          have hnc102 := NB1075_1086.out
          have hcz103_0 : wr.cell? ⟨gb1086, 0, none⟩ = some (.int .i64 (wrap64 (x10_13 * t1077))) := (blk_cell BK1086.out 0).trans rfl
          have hcz103_1 : wr.cell? ⟨gb1086, 1, none⟩ = some (u1087001) := (blk_cell BK1086.out 1).trans rfl
          have hcz103_2 : wr.cell? ⟨gb1086, 2, none⟩ = some (u1087002) := (blk_cell BK1086.out 2).trans rfl
          have hfz103_0 := blk_frozen BK1086.out 0
          have hfz103_1 := blk_frozen BK1086.out 1
          have hfz103_2 := blk_frozen BK1086.out 2
          have hnb104 := NB1075_1074.out
          have hnc104 := NB1074_1075.out
          have hcz105_0 : wr.cell? ⟨gb1075, 0, none⟩ = some (.int .i64 0) := (blk_cell BK1075.out 0).trans rfl
          have hcz105_1 : wr.cell? ⟨gb1075, 1, none⟩ = some (.slice none 0 0) := (blk_cell BK1075.out 1).trans rfl
          have hcz105_2 : wr.cell? ⟨gb1075, 2, none⟩ = some (.slice none 0 0) := (blk_cell BK1075.out 2).trans rfl
          have hfz105_0 := blk_frozen BK1075.out 0
          have hfz105_1 := blk_frozen BK1075.out 1
          have hfz105_2 := blk_frozen BK1075.out 2
          obtain ⟨Ao106, co106, eo106⟩ := Kd.S_slice HO_1087001.out
          subst eo106
          obtain ⟨Ao107, co107, eo107⟩ := Kd.R_slice HO_1087002.out
          subst eo107
          go_wp2
          have HB := Aside0.mk (below_step HBo.out HB.out)
          have HO_1087002 := Aside0.mk (Kd.R_lower HO_1087002.out (below_size HBo.out))
          have HO_1087001 := Aside0.mk (Kd.S_lower HO_1087001.out (below_size HBo.out))
          refine bodyPost_ret (results_ct rfl _ _ gb1075 86 #[.int .i64 (wrap64 (x10_13 * t1077)), .slice Ao106 x1087001_3.length co106, .slice Ao107 x1087002_3.length co107] (0, 0) _ rfl (by (with_reducible repeat (first | refine blk_drewN ?_ _ | refine blk_drew ?_ | refine blk_alloc ?_ _)); refine blk_put (cs := #[.int .i64 (wrap64 (x10_13 * t1077)), .slice Ao106 x1087001_3.length co106, .slice none 0 0]) ?_ 2 _ rfl; (with_reducible repeat (first | refine blk_drewN ?_ _ | refine blk_drew ?_ | refine blk_alloc ?_ _)); refine blk_put (cs := #[.int .i64 (wrap64 (x10_13 * t1077)), .slice none 0 0, .slice none 0 0]) ?_ 1 _ rfl; (with_reducible repeat (first | refine blk_drewN ?_ _ | refine blk_drew ?_ | refine blk_alloc ?_ _)); refine blk_put (cs := #[.int .i64 0, .slice none 0 0, .slice none 0 0]) ?_ 0 _ rfl; (with_reducible repeat (first | refine blk_drewN ?_ _ | refine blk_drew ?_ | refine blk_alloc ?_ _)); exact BK1075.out) Try.underlying86 rfl (by kernel_rfl)) rfl ?_
          exact ⟨_, _, by first | rfl | (simp [errW_none, errW_some] <;> rfl) | (simp [*, errW_none, errW_some] <;> rfl), by (with_reducible repeat (first | apply Kd.S_alloc | apply Kd.S_drewN | apply Kd.S_drew)); exact Kd.S_mono (Kd.S_far (p := ⟨gb1075, 2, none⟩) (Kd.S_far (p := ⟨gb1075, 1, none⟩) (Kd.S_far (p := ⟨gb1075, 0, none⟩) (Kd.S_types HO_1087001.out BK1075.out (by decide)) (fun _ hk => hk.2) (.int .i64 (wrap64 (x10_13 * t1077)))) (fun _ hk => hk.2) (.slice Ao106 x1087001_3.length co106)) (fun _ hk => hk.2) (.slice Ao107 x1087002_3.length co107)) (fun _ hk => hk.1), by (with_reducible repeat (first | apply Kd.R_alloc | apply Kd.R_drewN | apply Kd.R_drew)); exact Kd.R_mono (Kd.R_far (p := ⟨gb1075, 2, none⟩) (Kd.R_far (p := ⟨gb1075, 1, none⟩) (Kd.R_far (p := ⟨gb1075, 0, none⟩) (Kd.R_types HO_1087002.out BK1075.out (by decide)) (fun _ hk => hk.2) (.int .i64 (wrap64 (x10_13 * t1077)))) (fun _ hk => hk.2) (.slice Ao106 x1087001_3.length co106)) (fun _ hk => hk.2) (.slice Ao107 x1087002_3.length co107)) (fun _ hk => trivial), by repeat (first | (with_reducible first | exact HB.out | apply below_alloc | apply pw_below_drewN | apply below_drew1 | refine below_set ?_ GE1074.out | refine below_set ?_ GE1075.out | refine below_set ?_ GE1086.out) | exact HB.out)⟩
end Go.Proofs.Ytjjbhdpjnjncbaa.Pr
end
