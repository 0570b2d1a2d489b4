/- Texts of one claim (the words of the kit's print that the claim uses, printed functions, and this session's own texts), joined in the order of their imports by this session's own program (merge.py). -/
import Derived.Test.YthdoilfjcgickaaJnFnExactPivotedProblem0
import Derived.Test.YthdoilfjcgickaaJnFnExactPivotedProblem2
set_option linter.unusedVariables false
set_option linter.unusedSimpArgs false
set_option maxHeartbeats 8000000
set_option maxRecDepth 100000
section
namespace Go.Proofs.Ythdoilfjcgickaa.Pr
open Go.RowKit Go.Proofs.YthdoilfjcgickaaW.PrintWords Go.Proofs.YthdoilfjcgickaaW.PrintLast Go.Proofs.YthdoilfjcgickaaW.PrintMore
attribute [local go_sem] max2_int min2_int max_two min_two max_three min_three max_four min_four
mutual
def spec_l01Columns.l0 : Nat → List (List Int) → Int → List (List Int) → Int → Option ((List (List Int)))
 | 0, _, _, _, _ => none
 | k + 1, x0, x1, x5, x6 => if x6 < (x0.length : Int) then (spec_l01Columns.l1 k x0 x1 x5 x6 (([] : List Int)) 0) else (some x5)
def spec_l01Columns.l1 : Nat → List (List Int) → Int → List (List Int) → Int → List Int → Int → Option ((List (List Int)))
 | 0, _, _, _, _, _, _ => none
 | k + 1, x0, x1, x5, x6, x7, x8 => if x8 < (x0.length : Int) then (if 0 ≤ (IntKind.u64.wrap (x8)) then (if (Go.bits .and .i64 (shr .i64 x1 (IntKind.u64.wrap (x8))) 1) = 1 then (if 0 ≤ x6 then (if x6 < (x0.length : Int) then (if 0 ≤ x8 then (if x8 < ((rd_L1 x0 x6).length : Int) then (if x7.length < 17592186044416 then (spec_l01Columns.l1 k x0 x1 x5 x6 (x7 ++ [wrap64 (-(rd (rd_L1 x0 x6) x8))]) (wrap64 (x8 + 1))) else (none)) else (none)) else (none)) else (none)) else (none)) else (if x6 = x8 then (if x7.length < 17592186044416 then (spec_l01Columns.l1 k x0 x1 x5 x6 (x7 ++ [1]) (wrap64 (x8 + 1))) else (none)) else (if x7.length < 17592186044416 then (spec_l01Columns.l1 k x0 x1 x5 x6 (x7 ++ [0]) (wrap64 (x8 + 1))) else (none)))) else (none)) else (if x5.length < 5864062014805 then (spec_l01Columns.l0 k x0 x1 (x5 ++ [x7]) (wrap64 (x6 + 1))) else (none))
end
def spec_l01Columns.f (k : Nat) (l0 : List (List Int)) (a1 : Int) : Option ((List (List Int))) := spec_l01Columns.l0 k l0 a1 (([] : List (List Int))) 0
theorem spec_l01Columns.mono_l : ∀ k, (∀ y0 y1 y2 y3, LeO (spec_l01Columns.l0 k y0 y1 y2 y3) (spec_l01Columns.l0 (k + 1) y0 y1 y2 y3)) ∧ (∀ y0 y1 y2 y3 y4 y5, LeO (spec_l01Columns.l1 k y0 y1 y2 y3 y4 y5) (spec_l01Columns.l1 (k + 1) y0 y1 y2 y3 y4 y5))
 | 0 => ⟨fun _ _ _ _ r h => by simp [spec_l01Columns.l0] at h, fun _ _ _ _ _ _ r h => by simp [spec_l01Columns.l1] at h⟩
 | k + 1 => by
  obtain ⟨ih0, ih1⟩ := spec_l01Columns.mono_l k
  refine ⟨?_, ?_⟩
  ·intro y0 y1 y2 y3
   unfold spec_l01Columns.l0
   repeat' first
   | (with_reducible exact ih0 _ _ _ _)
   | (with_reducible exact ih1 _ _ _ _ _ _)
   | (with_reducible exact LeO.refl _)
   | (with_reducible exact LeO.none _)
   | (with_reducible refine LeO.ite ?_ ?_)
   | (with_reducible refine LeO.bind ?_ (fun _ => ?_))
   | exact ih0 _ _ _ _
   | exact ih1 _ _ _ _ _ _
   | exact LeO.none _
   | refine LeO.ite ?_ ?_
   | refine LeO.bind ?_ (fun _ => ?_)
  ·intro y0 y1 y2 y3 y4 y5
   unfold spec_l01Columns.l1
   repeat' first
   | (with_reducible exact ih0 _ _ _ _)
   | (with_reducible exact ih1 _ _ _ _ _ _)
   | (with_reducible exact LeO.refl _)
   | (with_reducible exact LeO.none _)
   | (with_reducible refine LeO.ite ?_ ?_)
   | (with_reducible refine LeO.bind ?_ (fun _ => ?_))
   | exact ih0 _ _ _ _
   | exact ih1 _ _ _ _ _ _
   | exact LeO.none _
   | refine LeO.ite ?_ ?_
   | refine LeO.bind ?_ (fun _ => ?_)
theorem spec_l01Columns.mono : ∀ a0 a1 k, LeO (spec_l01Columns.f k a0 a1) (spec_l01Columns.f (k + 1) a0 a1) := by
 intro a0 a1 k
 obtain ⟨ih0, ih1⟩ := spec_l01Columns.mono_l k
 unfold spec_l01Columns.f
 repeat' first
   | (with_reducible exact ih0 _ _ _ _)
   | (with_reducible exact ih1 _ _ _ _ _ _)
   | (with_reducible exact LeO.refl _)
   | (with_reducible exact LeO.none _)
   | (with_reducible refine LeO.ite ?_ ?_)
   | (with_reducible refine LeO.bind ?_ (fun _ => ?_))
   | exact ih0 _ _ _ _
   | exact ih1 _ _ _ _ _ _
   | exact LeO.none _
   | refine LeO.ite ?_ ?_
   | refine LeO.bind ?_ (fun _ => ?_)
theorem spec_l01Columns.calls (k : Nat) (A0 : Option Addr) (c0 : Nat) (l0 : List (List Int)) (a1 : Int) (r : List (List Int)) (w : World) (hr0 : Kd.C (Kd.slice 2 (Kd.int .i64)) w A0 l0.length l0) (hc0 : l0.length ≤ c0) (h : spec_l01Columns.f k l0 a1 = some r) :
  Calls Try.prog 104 #[.slice A0 l0.length c0, .int .i64 a1] w fun e w' => ∃ v0_ : Value, e = .returned (v0_) ∧ Kd.S (Kd.slice 2 (Kd.int .i64)) 23 w' w.heap.size (fun _ => True) v0_ r ∧ Below w.heap.size w w' := by
 have HR0 := Aside0.mk hr0
 have HC0 := Aside0.mk hc0
 clear hr0 hc0
 have HB := Aside0.mk (Below.refl w.heap.size w)
 have H : (spec_l01Columns.l0 k l0 a1 (([] : List (List Int))) 0) = some r := h
 clear h
 obtain ⟨y221, hy221⟩ : ∃ y_ : List (List Int), y_ = (([] : List (List Int))) := ⟨_, rfl⟩
 replace H : (spec_l01Columns.l0 k l0 a1 y221 0) = some r := by first | (rw [hy221]; with_reducible exact H) | (have H2_ := (Option.bind_some _ _).symm.trans H; rw [hy221]; with_reducible exact H2_) | (have H2_ := (Option.bind_some _ _).symm.trans H; with_reducible exact H2_) | with_reducible exact H | (rw [hy221]; exact H) | exact H
 have Ny221 := Aside0.mk hy221
 clear hy221
 have H' := Aside0.mk H
 clear H
 go_enter Try.func104, Try.ntmps104
 go_wp2_with (first | ((with_reducible refine gate_dst (N := 9) rfl ?_); refine Kd.S_lit (Kd.slice 2 (Kd.int .i64)) _ 23 ?hg (N := 9) ?hd (xs := ([] : List (List Int))) (inner := []) (ok := fun _ => True) (okp := fun _ => True) ?hr ?hp (fun _ hk => hk) trivial (Below.refl _ _) (Nat.le_refl _) (by simp) ?_; (case hd => rfl); (case hg => rfl); (case hr => first | (go_simp; done) | (go_simp; rfl)); (case hp => exact (Reps.none _ _)); intro v222 w3 ho4 hb hg_ hnew_; clear hg_ hnew_; (first | rw [← Ny221.out] at ho4 | (simp only [Int.reduceToNat] at ho4; rw [← Ny221.out] at ho4)); have n0_ := Aside0.mk (Kd.S_lower ho4 bz_); have n1_ := Aside0.mk (bs_ hb); clear HB; have HO223 := n0_; have HB := n1_; clear n0_ n1_; clear hb ho4))
 go_loopg [5, 6] k (fun kq v5 v6 w' => ∃ (x5_1 : List (List Int)) (x6_1 : Int), v6 = .int .i64 x6_1 ∧ Aside0 (spec_l01Columns.l0 kq l0 a1 x5_1 x6_1 = some r) ∧ Aside0 (kq ≤ k) ∧ Aside0 (Kd.S (Kd.slice 2 (Kd.int .i64)) 23 w' w.heap.size (fun _ => True) v5 x5_1) ∧ Aside0 (Below w.heap.size w w'))
 case atStart => exact ⟨(y221), (0), (by first | rfl | (simp; done) | (simp [*]; done)), H', ⟨Nat.le_refl _⟩, ⟨so_ HO223.out⟩, ⟨hb_⟩⟩
 case round =>
  clear H'
  try clear c1
  try clear p2
  obtain ⟨x5_1, x6_1, rfl, HA, HK1, HO_5, HB⟩ := hrel
  cases gk with
  | zero => exact absurd HA.out (by simp [spec_l01Columns.l0])
  | succ k1 =>
   have H := HA.out
   clear HA
   simp only [spec_l01Columns.l0] at H
   by_cases c5 : x6_1 < (l0.length : Int)
   ·rw [if_pos c5] at H
    have c5b0 : decide (x6_1 < (l0.length : Int)) = true := decide_eq_true c5
    clear c5
    obtain ⟨y224, hy224⟩ : ∃ y_ : List Int, y_ = (([] : List Int)) := ⟨_, rfl⟩
    replace H : (spec_l01Columns.l1 k1 l0 a1 x5_1 x6_1 y224 0) = some r := by first | (rw [hy224]; with_reducible exact H) | (have H2_ := (Option.bind_some _ _).symm.trans H; rw [hy224]; with_reducible exact H2_) | (have H2_ := (Option.bind_some _ _).symm.trans H; with_reducible exact H2_) | with_reducible exact H | (rw [hy224]; exact H) | exact H
    have Ny224 := Aside0.mk hy224
    clear hy224
    have H' := Aside0.mk H
    clear H
    go_wp2_with (first | ((with_reducible refine gate_dst (N := 16) rfl ?_); refine Kd.R_lit (Kd.int .i64) _ 2 ?hg (N := 16) ?hd (xs := ([] : List Int)) (inner := []) (ok := fun _ => True) (okp := fun _ => True) ?hr ?hp (fun _ hk => hk) trivial (Below.refl _ _) (Nat.le_refl _) (by simp) ?_; (case hd => rfl); (case hg => rfl); (case hr => first | (go_simp; done) | (go_simp; rfl)); (case hp => exact (Reps.none _ _)); intro v225 w6 ho7 hb hg_ hnew_; clear hg_ hnew_; (first | rw [← Ny224.out] at ho7 | (simp only [Int.reduceToNat] at ho7; rw [← Ny224.out] at ho7)); have n0_ := Aside0.mk (Kd.S_elder' (so_ HO_5.out) (Kd.R_base ho7) hb); have n1_ := Aside0.mk (Kd.R_lower ho7 bz_); have n2_ := Aside0.mk (bs_ hb); clear HO_5; clear HB; have HO_5 := n0_; have HO226 := n1_; have HB := n2_; clear n0_ n1_ n2_; clear hb ho7))
    go_loopg [7, 8] k1 (fun kq v7 v8 w' => ∃ (x7_2 : List Int) (x8_2 : Int), v8 = .int .i64 x8_2 ∧ Aside0 (spec_l01Columns.l1 kq l0 a1 x5_1 x6_1 x7_2 x8_2 = some r) ∧ Aside0 (kq ≤ k1) ∧ Aside0 (Kd.S (Kd.slice 2 (Kd.int .i64)) 23 w' w.heap.size (fun k_ => some k_ ≠ (v7 : Value).ownBlock) u5 x5_1) ∧ Aside0 (Kd.R (Kd.int .i64) 2 w' w.heap.size (fun _ => True) v7 x7_2) ∧ Aside0 (Below w.heap.size w w'))
    case atStart => exact ⟨(y224), (0), (by first | rfl | (simp; done) | (simp [*]; done)), H', ⟨Nat.le_refl _⟩, ⟨by (with_reducible repeat (first | apply Kd.S_alloc | apply Kd.S_drewN | apply Kd.S_drew)); exact Kd.S_mono HO_5.out (fun _ hk => hk.2)⟩, ⟨ro_ HO226.out⟩, ⟨hb_⟩⟩
    case round =>
     clear H'
     try clear c1
     try clear p2
     try clear c5
     try clear c5b0
     try clear p2
     obtain ⟨x7_2, x8_2, rfl, HA, HK2, HO_5, HO_7, HB⟩ := hrel
     cases gk with
     | zero => exact absurd HA.out (by simp [spec_l01Columns.l1])
     | succ k2 =>
      have H := HA.out
      clear HA
      simp only [spec_l01Columns.l1] at H
      by_cases c8 : x8_2 < (l0.length : Int)
      ·rw [if_pos c8] at H
       have c8b0 : decide (x8_2 < (l0.length : Int)) = true := decide_eq_true c8
       clear c8
       obtain ⟨ji9, hji9⟩ : ∃ j_ : Int, (IntKind.u64.wrap (x8_2)) = j_ := ⟨_, rfl⟩
       replace H : (if 0 ≤ (ji9) then (if (Go.bits .and .i64 (shr .i64 a1 (ji9)) 1) = 1 then (if 0 ≤ x6_1 then (if x6_1 < (l0.length : Int) then (if 0 ≤ x8_2 then (if x8_2 < ((rd_L1 l0 x6_1).length : Int) then (if x7_2.length < 17592186044416 then (spec_l01Columns.l1 k2 l0 a1 x5_1 x6_1 (x7_2 ++ [wrap64 (-(rd (rd_L1 l0 x6_1) x8_2))]) (wrap64 (x8_2 + 1))) else (none)) else (none)) else (none)) else (none)) else (none)) else (if x6_1 = x8_2 then (if x7_2.length < 17592186044416 then (spec_l01Columns.l1 k2 l0 a1 x5_1 x6_1 (x7_2 ++ [1]) (wrap64 (x8_2 + 1))) else (none)) else (if x7_2.length < 17592186044416 then (spec_l01Columns.l1 k2 l0 a1 x5_1 x6_1 (x7_2 ++ [0]) (wrap64 (x8_2 + 1))) else (none)))) else (none)) = some r := by first | (rw [hji9] at H; exact H) | (simp only [hji9] at H ⊢; exact H)
       by_cases c10 : 0 ≤ (ji9)
       ·rw [if_pos c10] at H
        have c10b0 := eq_true c10
        have c10b1 : decide (0 ≤ (ji9)) = true := decide_eq_true c10
        clear c10
        obtain ⟨ji11, hji11⟩ : ∃ j_ : Int, (shr .i64 a1 (ji9)) = j_ := ⟨_, rfl⟩
        replace H : (if (Go.bits .and .i64 (ji11) 1) = 1 then (if 0 ≤ x6_1 then (if x6_1 < (l0.length : Int) then (if 0 ≤ x8_2 then (if x8_2 < ((rd_L1 l0 x6_1).length : Int) then (if x7_2.length < 17592186044416 then (spec_l01Columns.l1 k2 l0 a1 x5_1 x6_1 (x7_2 ++ [wrap64 (-(rd (rd_L1 l0 x6_1) x8_2))]) (wrap64 (x8_2 + 1))) else (none)) else (none)) else (none)) else (none)) else (none)) else (if x6_1 = x8_2 then (if x7_2.length < 17592186044416 then (spec_l01Columns.l1 k2 l0 a1 x5_1 x6_1 (x7_2 ++ [1]) (wrap64 (x8_2 + 1))) else (none)) else (if x7_2.length < 17592186044416 then (spec_l01Columns.l1 k2 l0 a1 x5_1 x6_1 (x7_2 ++ [0]) (wrap64 (x8_2 + 1))) else (none)))) = some r := by first | (rw [hji11] at H; exact H) | (simp only [hji11] at H ⊢; exact H)
        have hji11_ : (a1 / 2 ^ min (ji9).toNat 64) = ji11 := hji11
        have hji11z : (ji9) ≤ 64 → (a1 / 2 ^ (ji9).toNat) = ji11 := shr_small hji11
        by_cases c12 : (Go.bits .and .i64 (ji11) 1) = 1
        ·rw [if_pos c12] at H
         have c12b0 : ((Go.bits .and .i64 (ji11) 1) == 1) = true := beq_iff_eq.mpr c12
         have c12b1 : ((Go.bits .and .i64 (ji11) 1) != 1) = false := bne_eq_false_iff_eq.mpr c12
         clear c12
         by_cases c13 : 0 ≤ x6_1
         ·rw [if_pos c13] at H
          have c13b0 : decide (0 ≤ x6_1) = true := decide_eq_true c13
          clear c13
          by_cases c14 : x6_1 < (l0.length : Int)
          ·rw [if_pos c14] at H
           have c14b0 : decide (x6_1 < (l0.length : Int)) = true := decide_eq_true c14
           clear c14
           by_cases c15 : 0 ≤ x8_2
           ·rw [if_pos c15] at H
            have c15b0 : decide (0 ≤ x8_2) = true := decide_eq_true c15
            clear c15
            by_cases c16 : x8_2 < ((rd_L1 l0 x6_1).length : Int)
            ·rw [if_pos c16] at H
             have c16b0 : decide (x8_2 < ((rd_L1 l0 x6_1).length : Int)) = true := decide_eq_true c16
             clear c16
             by_cases c17 : x7_2.length < 17592186044416
             ·rw [if_pos c17] at H
              have LMc17 := Aside0.mk c17
              clear c17
              obtain ⟨y232, hy232⟩ : ∃ y_ : List Int, y_ = (x7_2 ++ [wrap64 (-(rd (rd_L1 l0 x6_1) x8_2))]) := ⟨_, rfl⟩
              replace H : (spec_l01Columns.l1 k2 l0 a1 x5_1 x6_1 y232 (wrap64 (x8_2 + 1))) = some r := by first | (rw [hy232]; with_reducible exact H) | (have H2_ := (Option.bind_some _ _).symm.trans H; rw [hy232]; with_reducible exact H2_) | (have H2_ := (Option.bind_some _ _).symm.trans H; with_reducible exact H2_) | with_reducible exact H | (rw [hy232]; exact H) | exact H
              have Ny232 := Aside0.mk hy232
              clear hy232
              have H' := Aside0.mk H
              clear H
              have p230 : 0 ≤ (x6_1 : Int) := of_decide_eq_true (by first | (with_reducible assumption) | assumption)
              have q230 : x6_1 < (l0.length : Int) := of_decide_eq_true (by first | (with_reducible assumption) | assumption)
              obtain ⟨ad230, A230_0, c230_0, e230, hx230_0, hl230_0, hi230_0⟩ := at_L1 HR0.out x6_1 p230 q230
              cases e230
              replace hx230_0 := (HB.out.cell (World.block_lt_of_cell? w _ hx230_0)).trans hx230_0
              have HR230_0 := Aside0.mk hi230_0
              have HC230_0 := Aside0.mk hl230_0
              clear hi230_0 hl230_0
              replace p230 := eq_true p230
              replace q230 := eq_true q230
              have p231 : 0 ≤ (x8_2 : Int) := of_decide_eq_true (by first | (with_reducible assumption) | assumption)
              have q231 : x8_2 < ((rd_L1 l0 x6_1).length : Int) := of_decide_eq_true (by first | (with_reducible assumption) | assumption)
              obtain ⟨ad231, e231, hx231_0⟩ := Kd.at_int HR230_0.out x8_2 p231 q231
              cases e231
              replace hx231_0 := (HB.out.cell (World.block_lt_of_cell? w _ hx231_0)).trans hx231_0
              replace p231 := eq_true p231
              replace q231 := eq_true q231
              go_wp2_with (first | ((with_reducible refine gate_builtin (b := .append) (xs := #[.tmp 33, .tmp 42]) rfl ?_); at_builtin; refine Kd.R_append (Kd.int .i64) (w0 := w) w.heap.size rfl (.tmp 33) (.tmp 42) 23 2 (.int .i64 0) 8 rfl Try.underlying23 info2 rfl (by decide) (by omega) u7 x7_2 (wrap64 (-(rd (rd_L1 l0 x6_1) x8_2))) [.int .i64 (wrap64 (-(rd (rd_L1 l0 x6_1) x8_2)))] (fun _ => True) (fun _ => False) rfl rfl ?aP (fun _ hk => hk.elim) ?aF ?aO ?aB ?aS ?aL ?_; (case aP => exact rfl); (case aB => exact hb_); (case aF => exact (fun _ _ => trivial)); (case aO => exact (ro_ HO_7.out)); (case aS => exact bz_); (case aL => have := LMc17.out; omega); intro v233 w18 ho hb hg hat; rw [← Ny232.out] at ho; have n0_ := Aside0.mk (Kd.S_after (ok := (fun _ => True)) (by (with_reducible repeat (first | apply Kd.S_alloc | apply Kd.S_drewN | apply Kd.S_drew)); exact Kd.S_mono HO_5.out (fun _ hk => ⟨trivial, hk⟩)) hg hat); have n1_ := Aside0.mk (hb); have n2_ := Aside0.mk (ho); clear HO_5; clear HB; clear HO_7; have HO_5 := n0_; have HB := n1_; have HO234 := n2_; clear n0_ n1_ n2_; clear ho hb hg hat))
              go_roundg k2
              case measure => have := HK1.out; have := HK2.out; omega
              case rel => exact ⟨(y232), (wrap64 (x8_2 + 1)), (by first | rfl | (simp; done) | (simp [*]; done)), H', ⟨by have := HK1.out; have := HK2.out; omega⟩, ⟨by (with_reducible repeat (first | apply Kd.S_alloc | apply Kd.S_drewN | apply Kd.S_drew)); exact Kd.S_mono HO_5.out (fun _ hk => hk.2)⟩, ⟨ro_ HO234.out⟩, ⟨hb_⟩⟩
             ·rw [if_neg c17] at H
              exact absurd H (by simp)
            ·rw [if_neg c16] at H
             exact absurd H (by simp)
           ·rw [if_neg c15] at H
            exact absurd H (by simp)
          ·rw [if_neg c14] at H
           exact absurd H (by simp)
         ·rw [if_neg c13] at H
          exact absurd H (by simp)
        ·rw [if_neg c12] at H
         have c12b0 : ((Go.bits .and .i64 (ji11) 1) == 1) = false := beq_eq_false_iff_ne.mpr c12
         have c12b1 : ((Go.bits .and .i64 (ji11) 1) != 1) = true := bne_iff_ne.mpr c12
         by_cases c19 : x6_1 = x8_2
         ·rw [if_pos c19] at H
          have c19b0 : (x6_1 == x8_2) = true := beq_iff_eq.mpr c19
          have c19b1 : (x6_1 != x8_2) = false := bne_eq_false_iff_eq.mpr c19
          clear c19
          by_cases c20 : x7_2.length < 17592186044416
          ·rw [if_pos c20] at H
           have LMc20 := Aside0.mk c20
           clear c20
           obtain ⟨y235, hy235⟩ : ∃ y_ : List Int, y_ = (x7_2 ++ [1]) := ⟨_, rfl⟩
           replace H : (spec_l01Columns.l1 k2 l0 a1 x5_1 x6_1 y235 (wrap64 (x8_2 + 1))) = some r := by first | (rw [hy235]; with_reducible exact H) | (have H2_ := (Option.bind_some _ _).symm.trans H; rw [hy235]; with_reducible exact H2_) | (have H2_ := (Option.bind_some _ _).symm.trans H; with_reducible exact H2_) | with_reducible exact H | (rw [hy235]; exact H) | exact H
           have Ny235 := Aside0.mk hy235
           clear hy235
           have H' := Aside0.mk H
           clear H
           go_wp2_with (first | ((with_reducible refine gate_builtin (b := .append) (xs := #[.tmp 48, .tmp 49]) rfl ?_); at_builtin; refine Kd.R_append (Kd.int .i64) (w0 := w) w.heap.size rfl (.tmp 48) (.tmp 49) 23 2 (.int .i64 0) 8 rfl Try.underlying23 info2 rfl (by decide) (by omega) u7 x7_2 1 [.int .i64 1] (fun _ => True) (fun _ => False) rfl rfl ?aP (fun _ hk => hk.elim) ?aF ?aO ?aB ?aS ?aL ?_; (case aP => exact rfl); (case aB => exact hb_); (case aF => exact (fun _ _ => trivial)); (case aO => exact (ro_ HO_7.out)); (case aS => exact bz_); (case aL => have := LMc20.out; omega); intro v236 w21 ho hb hg hat; rw [← Ny235.out] at ho; have n0_ := Aside0.mk (Kd.S_after (ok := (fun _ => True)) (by (with_reducible repeat (first | apply Kd.S_alloc | apply Kd.S_drewN | apply Kd.S_drew)); exact Kd.S_mono HO_5.out (fun _ hk => ⟨trivial, hk⟩)) hg hat); have n1_ := Aside0.mk (hb); have n2_ := Aside0.mk (ho); clear HO_5; clear HB; clear HO_7; have HO_5 := n0_; have HB := n1_; have HO237 := n2_; clear n0_ n1_ n2_; clear ho hb hg hat))
           go_roundg k2
           case measure => have := HK1.out; have := HK2.out; omega
           case rel => exact ⟨(y235), (wrap64 (x8_2 + 1)), (by first | rfl | (simp; done) | (simp [*]; done)), H', ⟨by have := HK1.out; have := HK2.out; omega⟩, ⟨by (with_reducible repeat (first | apply Kd.S_alloc | apply Kd.S_drewN | apply Kd.S_drew)); exact Kd.S_mono HO_5.out (fun _ hk => hk.2)⟩, ⟨ro_ HO237.out⟩, ⟨hb_⟩⟩
          ·rw [if_neg c20] at H
           exact absurd H (by simp)
         ·rw [if_neg c19] at H
          have c19b0 : (x6_1 == x8_2) = false := beq_eq_false_iff_ne.mpr c19
          have c19b1 : (x6_1 != x8_2) = true := bne_iff_ne.mpr c19
          by_cases c22 : x7_2.length < 17592186044416
          ·rw [if_pos c22] at H
           have LMc22 := Aside0.mk c22
           clear c22
           obtain ⟨y238, hy238⟩ : ∃ y_ : List Int, y_ = (x7_2 ++ [0]) := ⟨_, rfl⟩
           replace H : (spec_l01Columns.l1 k2 l0 a1 x5_1 x6_1 y238 (wrap64 (x8_2 + 1))) = some r := by first | (rw [hy238]; with_reducible exact H) | (have H2_ := (Option.bind_some _ _).symm.trans H; rw [hy238]; with_reducible exact H2_) | (have H2_ := (Option.bind_some _ _).symm.trans H; with_reducible exact H2_) | with_reducible exact H | (rw [hy238]; exact H) | exact H
           have Ny238 := Aside0.mk hy238
           clear hy238
           have H' := Aside0.mk H
           clear H
           go_wp2_with (first | ((with_reducible refine gate_builtin (b := .append) (xs := #[.tmp 23, .tmp 24]) rfl ?_); at_builtin; refine Kd.R_append (Kd.int .i64) (w0 := w) w.heap.size rfl (.tmp 23) (.tmp 24) 23 2 (.int .i64 0) 8 rfl Try.underlying23 info2 rfl (by decide) (by omega) u7 x7_2 0 [.int .i64 0] (fun _ => True) (fun _ => False) rfl rfl ?aP (fun _ hk => hk.elim) ?aF ?aO ?aB ?aS ?aL ?_; (case aP => exact rfl); (case aB => exact hb_); (case aF => exact (fun _ _ => trivial)); (case aO => exact (ro_ HO_7.out)); (case aS => exact bz_); (case aL => have := LMc22.out; omega); intro v239 w23 ho hb hg hat; rw [← Ny238.out] at ho; have n0_ := Aside0.mk (Kd.S_after (ok := (fun _ => True)) (by (with_reducible repeat (first | apply Kd.S_alloc | apply Kd.S_drewN | apply Kd.S_drew)); exact Kd.S_mono HO_5.out (fun _ hk => ⟨trivial, hk⟩)) hg hat); have n1_ := Aside0.mk (hb); have n2_ := Aside0.mk (ho); clear HO_5; clear HB; clear HO_7; have HO_5 := n0_; have HB := n1_; have HO240 := n2_; clear n0_ n1_ n2_; clear ho hb hg hat))
           go_roundg k2
           case measure => have := HK1.out; have := HK2.out; omega
           case rel => exact ⟨(y238), (wrap64 (x8_2 + 1)), (by first | rfl | (simp; done) | (simp [*]; done)), H', ⟨by have := HK1.out; have := HK2.out; omega⟩, ⟨by (with_reducible repeat (first | apply Kd.S_alloc | apply Kd.S_drewN | apply Kd.S_drew)); exact Kd.S_mono HO_5.out (fun _ hk => hk.2)⟩, ⟨ro_ HO240.out⟩, ⟨hb_⟩⟩
          ·rw [if_neg c22] at H
           exact absurd H (by simp)
       ·rw [if_neg c10] at H
        exact absurd H (by simp)
      ·rw [if_neg c8] at H
       have c8b0 : decide (x8_2 < (l0.length : Int)) = false := decide_eq_false c8
       clear c8
       by_cases c24 : x5_1.length < 5864062014805
       ·rw [if_pos c24] at H
        have LMc24 := Aside0.mk c24
        clear c24
        obtain ⟨y227, hy227⟩ : ∃ y_ : List (List Int), y_ = (x5_1 ++ [x7_2]) := ⟨_, rfl⟩
        replace H : (spec_l01Columns.l0 k2 l0 a1 y227 (wrap64 (x6_1 + 1))) = some r := by first | (rw [hy227]; with_reducible exact H) | (have H2_ := (Option.bind_some _ _).symm.trans H; rw [hy227]; with_reducible exact H2_) | (have H2_ := (Option.bind_some _ _).symm.trans H; with_reducible exact H2_) | with_reducible exact H | (rw [hy227]; exact H) | exact H
        have Ny227 := Aside0.mk hy227
        clear hy227
        have H' := Aside0.mk H
        clear H
        obtain ⟨Ao26, co26, eo26⟩ := Kd.R_slice HO_7.out
        subst eo26
        go_wp2_with (first | ((with_reducible refine gate_builtin (b := .append) (xs := #[.tmp 51, .tmp 53]) rfl ?_); at_builtin; refine Kd.S_append (Kd.slice 2 (Kd.int .i64)) (w0 := w) w.heap.size rfl (.tmp 51) (.tmp 53) 22 23 (.slice none 0 0) 24 rfl Try.underlying22 info23 rfl (by decide) (by omega) u5 x5_1 x7_2 [.slice Ao26 x7_2.length co26] (fun _ => True) (fun k_ => some k_ = (.slice Ao26 x7_2.length co26 : Value).ownBlock) rfl rfl ?aP (fun k_ hk_ => ((Kd.R_mono (ok' := fun k_ => ((fun _ => True)) k_ ∧ some k_ ≠ (u5 : Value).ownBlock) (Kd.R_apart' (HO_7.out) (Kd.S_typed HO_5.out) (by decide)) (fun k_ hk => ⟨trivial, hk.2⟩))).1 k_ hk_.symm) ?aF ?aO ?aB ?aS ?aL ?_; (case aP => exact Kd.M_row (Kd.R_mono (Kd.R_tight rfl (Kd.R_mono (ok' := fun k_ => ((fun _ => True)) k_ ∧ some k_ ≠ (u5 : Value).ownBlock) (Kd.R_apart' (HO_7.out) (Kd.S_typed HO_5.out) (by decide)) (fun k_ hk => ⟨trivial, hk.2⟩))) (fun _ h_ => h_))); (case aB => exact hb_); (case aF => exact (fun _ _ => trivial)); (case aO => exact (by (with_reducible repeat (first | apply Kd.S_alloc | apply Kd.S_drewN | apply Kd.S_drew)); exact Kd.S_mono HO_5.out (fun k_ hk => ⟨trivial, fun e_ => hk e_⟩))); (case aS => exact bz_); (case aL => have := LMc24.out; omega); intro v228 w25 ho hb hg hat; rw [← Ny227.out] at ho; have n0_ := Aside0.mk (hb); have n1_ := Aside0.mk (ho); clear HB; clear HO_5; clear HO_7; have HB := n0_; have HO229 := n1_; clear n0_ n1_; clear ho hb hg hat))
        go_roundg k2
        case measure => have := HK1.out; have := HK2.out; omega
        case rel => exact ⟨(y227), (wrap64 (x6_1 + 1)), (by first | rfl | (simp; done) | (simp [*]; done)), H', ⟨by have := HK1.out; have := HK2.out; omega⟩, ⟨so_ HO229.out⟩, ⟨hb_⟩⟩
       ·rw [if_neg c24] at H
        exact absurd H (by simp)
   ·rw [if_neg c5] at H
    have c5b0 : decide (x6_1 < (l0.length : Int)) = false := decide_eq_false c5
    clear c5
    obtain rfl := Option.some.inj H
    go_wp2
    go_ret
    exact ⟨_, by first | rfl | (simp [errW_none, errW_some] <;> rfl) | (simp [*, errW_none, errW_some] <;> rfl), so_ HO_5.out, hb_⟩
mutual
def spec_l04Pivot.j0 : Nat → Int → Int → List (List Int) → List Int → Int → Int → List (List Int) → List Int → Option (Int × (List (List Int)) × List Int × Bool)
 | 0, _, _, _, _, _, _, _, _ => none
 | k + 1, x1, x6, x7, x8, x9, x10, x242000, x242001 => spec_l04Pivot.l0 k x1 x6 x7 x8 x10 0 x242000 x242001 (wrap64 (x10 * x9)) (([] : List (List Int))) (([] : List Int))
def spec_l04Pivot.l0 : Nat → Int → Int → List (List Int) → List Int → Int → Int → List (List Int) → List Int → Int → List (List Int) → List Int → Option (Int × (List (List Int)) × List Int × Bool)
 | 0, _, _, _, _, _, _, _, _, _, _, _ => none
 | k + 1, x1, x6, x7, x8, x10, x12, x242000, x242001, x254000, x254001, x254002 => if x12 < x6 then (if 0 ≤ x6 then (if (x6 : Int).toNat ≤ 35184372088832 then (if x254001.length < 5864062014805 then (if 0 ≤ x12 then (if x12 < (x8.length : Int) then (if x254002.length < 17592186044416 then (spec_l04Pivot.l0 k x1 x6 x7 x8 x10 (wrap64 (x12 + 1)) x242000 x242001 x254000 (x254001 ++ [(List.replicate (x6 : Int).toNat 0)]) (x254002 ++ [wrap64 (x10 * (rd x8 x12))])) else (none)) else (none)) else (none)) else (none)) else (none)) else (none)) else (spec_l04Pivot.l1 k x1 x6 x7 x10 0 x242000 x242001 x254000 x254001 x254002)
def spec_l04Pivot.l1 : Nat → Int → Int → List (List Int) → Int → Int → List (List Int) → List Int → Int → List (List Int) → List Int → Option (Int × (List (List Int)) × List Int × Bool)
 | 0, _, _, _, _, _, _, _, _, _, _ => none
 | k + 1, x1, x6, x7, x10, x13, x242000, x242001, x254000, x254001, x254002 => if x13 < x6 then (if 0 ≤ x6 then (if (x6 : Int).toNat ≤ 35184372088832 then (spec_l04Pivot.l2 k x1 x6 x7 x10 x13 (List.replicate (x6 : Int).toNat 0) 0 x242000 x242001 x254000 x254001 x254002) else (none)) else (none)) else (some (x254000, x254001, x254002, true))
def spec_l04Pivot.l2 : Nat → Int → Int → List (List Int) → Int → Int → List Int → Int → List (List Int) → List Int → Int → List (List Int) → List Int → Option (Int × (List (List Int)) × List Int × Bool)
 | 0, _, _, _, _, _, _, _, _, _, _, _, _ => none
 | k + 1, x1, x6, x7, x10, x13, x14, x15, x242000, x242001, x254000, x254001, x254002 => if x15 < x6 then (if 0 ≤ (IntKind.u64.wrap (x13)) then (if (Go.bits .and .i64 (shr .i64 x1 (IntKind.u64.wrap (x13))) 1) = 0 then (if 0 ≤ x15 then (if x15 < (x242000.length : Int) then (if 0 ≤ x13 then (if x13 < ((rd_L1 x242000 x15).length : Int) then (if x15 < (x14.length : Int) then (spec_l04Pivot.l2 k x1 x6 x7 x10 x13 (x14.set (x15 : Int).toNat (rd (rd_L1 x242000 x15) x13)) (wrap64 (x15 + 1)) x242000 x242001 x254000 x254001 x254002) else (none)) else (none)) else (none)) else (none)) else (none)) else (spec_l04Pivot.l2 k x1 x6 x7 x10 x13 x14 (wrap64 (x15 + 1)) x242000 x242001 x254000 x254001 x254002)) else (none)) else (if 0 ≤ (IntKind.u64.wrap (x13)) then (if (Go.bits .and .i64 (shr .i64 x1 (IntKind.u64.wrap (x13))) 1) = 1 then (if 0 ≤ x13 then (if x13 < (x14.length : Int) then (spec_l04Pivot.j4 k x1 x6 x7 x10 x13 (x14.set (x13 : Int).toNat (-1)) x242000 x242001 x254000 x254001 x254002) else (none)) else (none)) else (spec_l04Pivot.j4 k x1 x6 x7 x10 x13 x14 x242000 x242001 x254000 x254001 x254002)) else (none))
def spec_l04Pivot.j4 : Nat → Int → Int → List (List Int) → Int → Int → List Int → List (List Int) → List Int → Int → List (List Int) → List Int → Option (Int × (List (List Int)) × List Int × Bool)
 | 0, _, _, _, _, _, _, _, _, _, _, _ => none
 | k + 1, x1, x6, x7, x10, x13, x14, x242000, x242001, x254000, x254001, x254002 => (spec_l01Solve.f k x7 x14).bind fun bt271 => (spec_l04Pivot.l3 k x1 x6 x7 x10 x13 bt271.1 0 x242000 x242001 x254000 x254001 x254002)
def spec_l04Pivot.l3 : Nat → Int → Int → List (List Int) → Int → Int → List Int → Int → List (List Int) → List Int → Int → List (List Int) → List Int → Option (Int × (List (List Int)) × List Int × Bool)
 | 0, _, _, _, _, _, _, _, _, _, _, _, _ => none
 | k + 1, x1, x6, x7, x10, x13, x16, x18, x242000, x242001, x254000, x254001, x254002 => if x18 < x6 then (if 0 ≤ x18 then (if x18 < (x254001.length : Int) then (if x18 < (x16.length : Int) then (if 0 ≤ x13 then (if x13 < ((rd_L1 x254001 x18).length : Int) then (spec_l04Pivot.l3 k x1 x6 x7 x10 x13 x16 (wrap64 (x18 + 1)) x242000 x242001 x254000 (x254001.set (x18 : Int).toNat ((rd_L1 x254001 x18).set (x13 : Int).toNat (wrap64 (x10 * (rd x16 x18))))) x254002) else (none)) else (none)) else (none)) else (none)) else (none)) else (spec_l04Pivot.l1 k x1 x6 x7 x10 (wrap64 (x13 + 1)) x242000 x242001 x254000 x254001 x254002)
end
def spec_l04Pivot.f (k : Nat) (l0_0 : List (List Int)) (l0_1 : List Int) (a1 : Int) : Option (Int × (List (List Int)) × List Int × Bool) := (spec_l01Columns.f k l0_0 a1).bind fun l9 => ((spec_l01Solve.f k l9 l0_1).bind fun bt243 => (if bt243.2 = 0 then (some (0, ([] : List (List Int)), ([] : List Int), false)) else (if bt243.2 < 0 then (spec_l04Pivot.j0 k a1 (l0_1.length : Int) l9 bt243.1 bt243.2 (-1) l0_0 l0_1) else (spec_l04Pivot.j0 k a1 (l0_1.length : Int) l9 bt243.1 bt243.2 1 l0_0 l0_1))))
theorem spec_l04Pivot.mono_l : ∀ k, (∀ y0 y1 y2 y3 y4 y5 y6 y7, LeO (spec_l04Pivot.j0 k y0 y1 y2 y3 y4 y5 y6 y7) (spec_l04Pivot.j0 (k + 1) y0 y1 y2 y3 y4 y5 y6 y7)) ∧ (∀ y0 y1 y2 y3 y4 y5 y6 y7 y8 y9 y10, LeO (spec_l04Pivot.l0 k y0 y1 y2 y3 y4 y5 y6 y7 y8 y9 y10) (spec_l04Pivot.l0 (k + 1) y0 y1 y2 y3 y4 y5 y6 y7 y8 y9 y10)) ∧ (∀ y0 y1 y2 y3 y4 y5 y6 y7 y8 y9, LeO (spec_l04Pivot.l1 k y0 y1 y2 y3 y4 y5 y6 y7 y8 y9) (spec_l04Pivot.l1 (k + 1) y0 y1 y2 y3 y4 y5 y6 y7 y8 y9)) ∧ (∀ y0 y1 y2 y3 y4 y5 y6 y7 y8 y9 y10 y11, LeO (spec_l04Pivot.l2 k y0 y1 y2 y3 y4 y5 y6 y7 y8 y9 y10 y11) (spec_l04Pivot.l2 (k + 1) y0 y1 y2 y3 y4 y5 y6 y7 y8 y9 y10 y11)) ∧ (∀ y0 y1 y2 y3 y4 y5 y6 y7 y8 y9 y10, LeO (spec_l04Pivot.j4 k y0 y1 y2 y3 y4 y5 y6 y7 y8 y9 y10) (spec_l04Pivot.j4 (k + 1) y0 y1 y2 y3 y4 y5 y6 y7 y8 y9 y10)) ∧ (∀ y0 y1 y2 y3 y4 y5 y6 y7 y8 y9 y10 y11, LeO (spec_l04Pivot.l3 k y0 y1 y2 y3 y4 y5 y6 y7 y8 y9 y10 y11) (spec_l04Pivot.l3 (k + 1) y0 y1 y2 y3 y4 y5 y6 y7 y8 y9 y10 y11))
 | 0 => ⟨fun _ _ _ _ _ _ _ _ r h => by simp [spec_l04Pivot.j0] at h, fun _ _ _ _ _ _ _ _ _ _ _ r h => by simp [spec_l04Pivot.l0] at h, fun _ _ _ _ _ _ _ _ _ _ r h => by simp [spec_l04Pivot.l1] at h, fun _ _ _ _ _ _ _ _ _ _ _ _ r h => by simp [spec_l04Pivot.l2] at h, fun _ _ _ _ _ _ _ _ _ _ _ r h => by simp [spec_l04Pivot.j4] at h, fun _ _ _ _ _ _ _ _ _ _ _ _ r h => by simp [spec_l04Pivot.l3] at h⟩
 | k + 1 => by
  obtain ⟨ih0, ih1, ih2, ih3, ih4, ih5⟩ := spec_l04Pivot.mono_l k
  refine ⟨?_, ?_, ?_, ?_, ?_, ?_⟩
  ·intro y0 y1 y2 y3 y4 y5 y6 y7
   unfold spec_l04Pivot.j0
   repeat' first
   | (with_reducible exact ih0 _ _ _ _ _ _ _ _)
   | (with_reducible exact ih1 _ _ _ _ _ _ _ _ _ _ _)
   | (with_reducible exact ih2 _ _ _ _ _ _ _ _ _ _)
   | (with_reducible exact ih3 _ _ _ _ _ _ _ _ _ _ _ _)
   | (with_reducible exact ih4 _ _ _ _ _ _ _ _ _ _ _)
   | (with_reducible exact ih5 _ _ _ _ _ _ _ _ _ _ _ _)
   | (with_reducible exact spec_l01Columns.mono _ _ _)
   | (with_reducible exact spec_l01Solve.mono _ _ _)
   | (with_reducible exact LeO.refl _)
   | (with_reducible exact LeO.none _)
   | (with_reducible refine LeO.ite ?_ ?_)
   | (with_reducible refine LeO.bind ?_ (fun _ => ?_))
   | exact ih0 _ _ _ _ _ _ _ _
   | exact ih1 _ _ _ _ _ _ _ _ _ _ _
   | exact ih2 _ _ _ _ _ _ _ _ _ _
   | exact ih3 _ _ _ _ _ _ _ _ _ _ _ _
   | exact ih4 _ _ _ _ _ _ _ _ _ _ _
   | exact ih5 _ _ _ _ _ _ _ _ _ _ _ _
   | exact spec_l01Columns.mono _ _ _
   | exact spec_l01Solve.mono _ _ _
   | exact LeO.none _
   | refine LeO.ite ?_ ?_
   | refine LeO.bind ?_ (fun _ => ?_)
  ·intro y0 y1 y2 y3 y4 y5 y6 y7 y8 y9 y10
   unfold spec_l04Pivot.l0
   repeat' first
   | (with_reducible exact ih0 _ _ _ _ _ _ _ _)
   | (with_reducible exact ih1 _ _ _ _ _ _ _ _ _ _ _)
   | (with_reducible exact ih2 _ _ _ _ _ _ _ _ _ _)
   | (with_reducible exact ih3 _ _ _ _ _ _ _ _ _ _ _ _)
   | (with_reducible exact ih4 _ _ _ _ _ _ _ _ _ _ _)
   | (with_reducible exact ih5 _ _ _ _ _ _ _ _ _ _ _ _)
   | (with_reducible exact spec_l01Columns.mono _ _ _)
   | (with_reducible exact spec_l01Solve.mono _ _ _)
   | (with_reducible exact LeO.refl _)
   | (with_reducible exact LeO.none _)
   | (with_reducible refine LeO.ite ?_ ?_)
   | (with_reducible refine LeO.bind ?_ (fun _ => ?_))
   | exact ih0 _ _ _ _ _ _ _ _
   | exact ih1 _ _ _ _ _ _ _ _ _ _ _
   | exact ih2 _ _ _ _ _ _ _ _ _ _
   | exact ih3 _ _ _ _ _ _ _ _ _ _ _ _
   | exact ih4 _ _ _ _ _ _ _ _ _ _ _
   | exact ih5 _ _ _ _ _ _ _ _ _ _ _ _
   | exact spec_l01Columns.mono _ _ _
   | exact spec_l01Solve.mono _ _ _
   | exact LeO.none _
   | refine LeO.ite ?_ ?_
   | refine LeO.bind ?_ (fun _ => ?_)
  ·intro y0 y1 y2 y3 y4 y5 y6 y7 y8 y9
   unfold spec_l04Pivot.l1
   repeat' first
   | (with_reducible exact ih0 _ _ _ _ _ _ _ _)
   | (with_reducible exact ih1 _ _ _ _ _ _ _ _ _ _ _)
   | (with_reducible exact ih2 _ _ _ _ _ _ _ _ _ _)
   | (with_reducible exact ih3 _ _ _ _ _ _ _ _ _ _ _ _)
   | (with_reducible exact ih4 _ _ _ _ _ _ _ _ _ _ _)
   | (with_reducible exact ih5 _ _ _ _ _ _ _ _ _ _ _ _)
   | (with_reducible exact spec_l01Columns.mono _ _ _)
   | (with_reducible exact spec_l01Solve.mono _ _ _)
   | (with_reducible exact LeO.refl _)
   | (with_reducible exact LeO.none _)
   | (with_reducible refine LeO.ite ?_ ?_)
   | (with_reducible refine LeO.bind ?_ (fun _ => ?_))
   | exact ih0 _ _ _ _ _ _ _ _
   | exact ih1 _ _ _ _ _ _ _ _ _ _ _
   | exact ih2 _ _ _ _ _ _ _ _ _ _
   | exact ih3 _ _ _ _ _ _ _ _ _ _ _ _
   | exact ih4 _ _ _ _ _ _ _ _ _ _ _
   | exact ih5 _ _ _ _ _ _ _ _ _ _ _ _
   | exact spec_l01Columns.mono _ _ _
   | exact spec_l01Solve.mono _ _ _
   | exact LeO.none _
   | refine LeO.ite ?_ ?_
   | refine LeO.bind ?_ (fun _ => ?_)
  ·intro y0 y1 y2 y3 y4 y5 y6 y7 y8 y9 y10 y11
   unfold spec_l04Pivot.l2
   repeat' first
   | (with_reducible exact ih0 _ _ _ _ _ _ _ _)
   | (with_reducible exact ih1 _ _ _ _ _ _ _ _ _ _ _)
   | (with_reducible exact ih2 _ _ _ _ _ _ _ _ _ _)
   | (with_reducible exact ih3 _ _ _ _ _ _ _ _ _ _ _ _)
   | (with_reducible exact ih4 _ _ _ _ _ _ _ _ _ _ _)
   | (with_reducible exact ih5 _ _ _ _ _ _ _ _ _ _ _ _)
   | (with_reducible exact spec_l01Columns.mono _ _ _)
   | (with_reducible exact spec_l01Solve.mono _ _ _)
   | (with_reducible exact LeO.refl _)
   | (with_reducible exact LeO.none _)
   | (with_reducible refine LeO.ite ?_ ?_)
   | (with_reducible refine LeO.bind ?_ (fun _ => ?_))
   | exact ih0 _ _ _ _ _ _ _ _
   | exact ih1 _ _ _ _ _ _ _ _ _ _ _
   | exact ih2 _ _ _ _ _ _ _ _ _ _
   | exact ih3 _ _ _ _ _ _ _ _ _ _ _ _
   | exact ih4 _ _ _ _ _ _ _ _ _ _ _
   | exact ih5 _ _ _ _ _ _ _ _ _ _ _ _
   | exact spec_l01Columns.mono _ _ _
   | exact spec_l01Solve.mono _ _ _
   | exact LeO.none _
   | refine LeO.ite ?_ ?_
   | refine LeO.bind ?_ (fun _ => ?_)
  ·intro y0 y1 y2 y3 y4 y5 y6 y7 y8 y9 y10
   unfold spec_l04Pivot.j4
   repeat' first
   | (with_reducible exact ih0 _ _ _ _ _ _ _ _)
   | (with_reducible exact ih1 _ _ _ _ _ _ _ _ _ _ _)
   | (with_reducible exact ih2 _ _ _ _ _ _ _ _ _ _)
   | (with_reducible exact ih3 _ _ _ _ _ _ _ _ _ _ _ _)
   | (with_reducible exact ih4 _ _ _ _ _ _ _ _ _ _ _)
   | (with_reducible exact ih5 _ _ _ _ _ _ _ _ _ _ _ _)
   | (with_reducible exact spec_l01Columns.mono _ _ _)
   | (with_reducible exact spec_l01Solve.mono _ _ _)
   | (with_reducible exact LeO.refl _)
   | (with_reducible exact LeO.none _)
   | (with_reducible refine LeO.ite ?_ ?_)
   | (with_reducible refine LeO.bind ?_ (fun _ => ?_))
   | exact ih0 _ _ _ _ _ _ _ _
   | exact ih1 _ _ _ _ _ _ _ _ _ _ _
   | exact ih2 _ _ _ _ _ _ _ _ _ _
   | exact ih3 _ _ _ _ _ _ _ _ _ _ _ _
   | exact ih4 _ _ _ _ _ _ _ _ _ _ _
   | exact ih5 _ _ _ _ _ _ _ _ _ _ _ _
   | exact spec_l01Columns.mono _ _ _
   | exact spec_l01Solve.mono _ _ _
   | exact LeO.none _
   | refine LeO.ite ?_ ?_
   | refine LeO.bind ?_ (fun _ => ?_)
  ·intro y0 y1 y2 y3 y4 y5 y6 y7 y8 y9 y10 y11
   unfold spec_l04Pivot.l3
   repeat' first
   | (with_reducible exact ih0 _ _ _ _ _ _ _ _)
   | (with_reducible exact ih1 _ _ _ _ _ _ _ _ _ _ _)
   | (with_reducible exact ih2 _ _ _ _ _ _ _ _ _ _)
   | (with_reducible exact ih3 _ _ _ _ _ _ _ _ _ _ _ _)
   | (with_reducible exact ih4 _ _ _ _ _ _ _ _ _ _ _)
   | (with_reducible exact ih5 _ _ _ _ _ _ _ _ _ _ _ _)
   | (with_reducible exact spec_l01Columns.mono _ _ _)
   | (with_reducible exact spec_l01Solve.mono _ _ _)
   | (with_reducible exact LeO.refl _)
   | (with_reducible exact LeO.none _)
   | (with_reducible refine LeO.ite ?_ ?_)
   | (with_reducible refine LeO.bind ?_ (fun _ => ?_))
   | exact ih0 _ _ _ _ _ _ _ _
   | exact ih1 _ _ _ _ _ _ _ _ _ _ _
   | exact ih2 _ _ _ _ _ _ _ _ _ _
   | exact ih3 _ _ _ _ _ _ _ _ _ _ _ _
   | exact ih4 _ _ _ _ _ _ _ _ _ _ _
   | exact ih5 _ _ _ _ _ _ _ _ _ _ _ _
   | exact spec_l01Columns.mono _ _ _
   | exact spec_l01Solve.mono _ _ _
   | exact LeO.none _
   | refine LeO.ite ?_ ?_
   | refine LeO.bind ?_ (fun _ => ?_)
theorem spec_l04Pivot.mono : ∀ a0 a1 a2 k, LeO (spec_l04Pivot.f k a0 a1 a2) (spec_l04Pivot.f (k + 1) a0 a1 a2) := by
 intro a0 a1 a2 k
 obtain ⟨ih0, ih1, ih2, ih3, ih4, ih5⟩ := spec_l04Pivot.mono_l k
 unfold spec_l04Pivot.f
 repeat' first
   | (with_reducible exact ih0 _ _ _ _ _ _ _ _)
   | (with_reducible exact ih1 _ _ _ _ _ _ _ _ _ _ _)
   | (with_reducible exact ih2 _ _ _ _ _ _ _ _ _ _)
   | (with_reducible exact ih3 _ _ _ _ _ _ _ _ _ _ _ _)
   | (with_reducible exact ih4 _ _ _ _ _ _ _ _ _ _ _)
   | (with_reducible exact ih5 _ _ _ _ _ _ _ _ _ _ _ _)
   | (with_reducible exact spec_l01Columns.mono _ _ _)
   | (with_reducible exact spec_l01Solve.mono _ _ _)
   | (with_reducible exact LeO.refl _)
   | (with_reducible exact LeO.none _)
   | (with_reducible refine LeO.ite ?_ ?_)
   | (with_reducible refine LeO.bind ?_ (fun _ => ?_))
   | exact ih0 _ _ _ _ _ _ _ _
   | exact ih1 _ _ _ _ _ _ _ _ _ _ _
   | exact ih2 _ _ _ _ _ _ _ _ _ _
   | exact ih3 _ _ _ _ _ _ _ _ _ _ _ _
   | exact ih4 _ _ _ _ _ _ _ _ _ _ _
   | exact ih5 _ _ _ _ _ _ _ _ _ _ _ _
   | exact spec_l01Columns.mono _ _ _
   | exact spec_l01Solve.mono _ _ _
   | exact LeO.none _
   | refine LeO.ite ?_ ?_
   | refine LeO.bind ?_ (fun _ => ?_)
def spec_l04Pivot.T1 : Bool × List (List Nat × List Nat) := (true, [([], []), ([0], [0]), ([1], [1]), ([], []), ([3], [3]), ([], []), ([4, 5], [4, 5]), ([2, 6, 0, 1, 2], [2]), ([6, 7, 0, 1, 2, 3, 4, 5, 6, 7], [6])])
def spec_l04Pivot.B1 : List Nat := [0, 1, 3, 0, 8, 0, 56, 127, 255]
theorem spec_l04Pivot.tab1 : rtab .any (opsOf Try.f75 1) = spec_l04Pivot.T1 := by kernel_rfl
theorem spec_l04Pivot.bits1 : waitsOk spec_l04Pivot.T1.2 spec_l04Pivot.B1 = true := by kernel_rfl
def spec_l04Pivot.T12 : Bool × List (List Nat × List Nat) := (true, [([], []), ([0], [0]), ([], []), ([2, 2], [2]), ([3], [3]), ([1, 4], [1, 4]), ([0, 1, 2, 3, 4, 5], []), ([6, 5, 5, 0, 1, 2, 3, 4, 5], [5, 6])])
def spec_l04Pivot.B12 : List Nat := [0, 1, 0, 4, 12, 31, 63, 127]
theorem spec_l04Pivot.tab12 : rtab .any (opsOf Try.f75 12) = spec_l04Pivot.T12 := by kernel_rfl
theorem spec_l04Pivot.bits12 : waitsOk spec_l04Pivot.T12.2 spec_l04Pivot.B12 = true := by kernel_rfl
def spec_l04Pivot.T13 : Bool × List (List Nat × List Nat) := (true, [([], []), ([0], [0]), ([], []), ([], []), ([], []), ([3, 4], [3, 4]), ([5], [5]), ([2, 6], [2, 6]), ([7], [7]), ([1, 8], [1, 8]), ([0, 1, 2, 3, 4, 5, 6, 7, 8, 9], []), ([10, 9, 9, 0, 1, 2, 3, 4, 5, 6, 7, 8, 9], [9, 10])])
def spec_l04Pivot.B13 : List Nat := [0, 1, 0, 0, 0, 24, 56, 124, 252, 511, 1023, 2047]
theorem spec_l04Pivot.tab13 : rtab .any (opsOf Try.f75 13) = spec_l04Pivot.T13 := by kernel_rfl
theorem spec_l04Pivot.bits13 : waitsOk spec_l04Pivot.T13.2 spec_l04Pivot.B13 = true := by kernel_rfl
theorem spec_l04Pivot.calls (k : Nat) (A0_0 : Option Addr) (c0_0 : Nat) (l0_0 : List (List Int)) (A0_1 : Option Addr) (c0_1 : Nat) (l0_1 : List Int) (a1 : Int) (r1 : Int) (r2 : List (List Int)) (r3 : List Int) (r4 : Bool) (w : World) (hr0_0 : Kd.C (Kd.slice 2 (Kd.int .i64)) w A0_0 l0_0.length l0_0) (hc0_0 : l0_0.length ≤ c0_0) (hr0_1 : Kd.C (Kd.int .i64) w A0_1 l0_1.length l0_1) (hc0_1 : l0_1.length ≤ c0_1) (h : spec_l04Pivot.f k l0_0 l0_1 a1 = some (r1, r2, r3, r4)) :
  Calls Try.prog 75 #[.agg #[.slice A0_0 l0_0.length c0_0, .slice A0_1 l0_1.length c0_1], .int .i64 a1] w fun e w' => ∃ v1_ v2_ : Value, e = .returned (.tuple #[.agg #[.int .i64 r1, v1_, v2_], .bool r4]) ∧ Kd.S (Kd.slice 2 (Kd.int .i64)) 23 w' w.heap.size (fun k_ => some k_ ≠ (v2_ : Value).ownBlock) v1_ r2 ∧ Kd.R (Kd.int .i64) 2 w' w.heap.size (fun _ => True) v2_ r3 ∧ Below w.heap.size w w' := by
 have hu29 := Try.underlying29
 have hu75 := Try.underlying75
 have HR0_0 := Aside0.mk hr0_0
 have HC0_0 := Aside0.mk hc0_0
 clear hr0_0 hc0_0
 have HR0_1 := Aside0.mk hr0_1
 have HC0_1 := Aside0.mk hc0_1
 clear hr0_1 hc0_1
 have HB := Aside0.mk (Below.refl w.heap.size w)
 have H : ((spec_l01Columns.f k l0_0 a1).bind fun l9 => ((spec_l01Solve.f k l9 l0_1).bind fun bt243 => (if bt243.2 = 0 then (some (0, ([] : List (List Int)), ([] : List Int), false)) else (if bt243.2 < 0 then (spec_l04Pivot.j0 k a1 (l0_1.length : Int) l9 bt243.1 bt243.2 (-1) l0_0 l0_1) else (spec_l04Pivot.j0 k a1 (l0_1.length : Int) l9 bt243.1 bt243.2 1 l0_0 l0_1))))) = some (r1, r2, r3, r4) := h
 clear h
 replace H := Option.bind_eq_some_iff.mp H
 obtain ⟨l9, A30, H⟩ := H
 replace H : ((spec_l01Solve.f k l9 l0_1).bind fun bt243 => (if bt243.2 = 0 then (some (0, ([] : List (List Int)), ([] : List Int), false)) else (if bt243.2 < 0 then (spec_l04Pivot.j0 k a1 (l0_1.length : Int) l9 bt243.1 bt243.2 (-1) l0_0 l0_1) else (spec_l04Pivot.j0 k a1 (l0_1.length : Int) l9 bt243.1 bt243.2 1 l0_0 l0_1)))) = some (r1, r2, r3, r4) := H
 have A3 := Aside0.mk A30
 clear A30
 replace H := Option.bind_eq_some_iff.mp H
 obtain ⟨⟨t243, t244⟩, A40, H⟩ := H
 replace H : (if t244 = 0 then (some (0, ([] : List (List Int)), ([] : List Int), false)) else (if t244 < 0 then (spec_l04Pivot.j0 k a1 (l0_1.length : Int) l9 t243 t244 (-1) l0_0 l0_1) else (spec_l04Pivot.j0 k a1 (l0_1.length : Int) l9 t243 t244 1 l0_0 l0_1))) = some (r1, r2, r3, r4) := H
 have A4 := Aside0.mk A40
 clear A40
 by_cases c5 : t244 = 0
 ·rw [if_pos c5] at H
  have c5b0 : (t244 == 0) = true := beq_iff_eq.mpr c5
  have c5b1 : (t244 != 0) = false := bne_eq_false_iff_eq.mpr c5
  clear c5
  simp only [Option.some.injEq, Prod.mk.injEq] at H
  obtain ⟨rfl, rfl, rfl, rfl⟩ := H
  go_enter Try.func75, Try.ntmps75
  try go_wp2_with (first | ((with_reducible refine gate_dst (N := 2) rfl ?_); refine box_event ?hg (N := 2) ?hd (cs := #[.slice A0_0 l0_0.length c0_0, .slice A0_1 l0_1.length c0_1]) (t := 29) ?hr ?_; (case hd => rfl); (case hg => rfl); (case hr => first | (go_simp; done) | (go_simp; rfl)); intro gb241 hg w6 hbox hb; have n0_ := Aside0.mk (bs_ hb); have n1_ := Aside0.mk (hbox); have n2_ := Aside0.mk ((by rw [hg]; exact bz_ : w.heap.size ≤ gb241)); have n3_ := Aside0.mk ((by rw [hg]; exact bz_ : w.heap.size ≤ gb241)); clear HB; have HB := n0_; have BK241 := n1_; have GW241 := n2_; have GE241 := n3_; clear n0_ n1_ n2_ n3_; clear hb hbox hg) | ((with_reducible refine gate_dst (N := 4) rfl ?_); refine box_event ?hg (N := 4) ?hd (cs := #[.int .i64 0, .slice none 0 0, .slice none 0 0]) (t := 75) ?hr ?_; (case hd => rfl); (case hg => rfl); (case hr => first | (go_simp; done) | (go_simp; rfl)); intro gb242 hg w7 hbox hb; have n0_ := Aside0.mk (bb_ BK241.out hb); have n1_ := Aside0.mk (bs_ hb); have n2_ := Aside0.mk (hbox); have n3_ := Aside0.mk ((by rw [hg]; exact bz_ : w.heap.size ≤ gb242)); have n4_ := Aside0.mk ((by rw [hg]; exact bz_ : w.heap.size ≤ gb242)); have n5_ := Aside0.mk ((by rw [hg]; exact lt_ BK241.out : gb241 ≠ gb242)); have n6_ := Aside0.mk ((by rw [hg]; exact gt_ BK241.out : gb242 ≠ gb241)); clear BK241; clear HB; have BK241 := n0_; have HB := n1_; have BK242 := n2_; have GW242 := n3_; have GE242 := n4_; have NB241_242 := n5_; have NB242_241 := n6_; clear n0_ n1_ n2_ n3_ n4_ n5_ n6_; clear hb hbox hg))
  have n0_ := Aside0.mk (blk_drew BK241.out)
  have n1_ := Aside0.mk (blk_drew BK242.out)
  have n2_ := Aside0.mk (below_drew1 HB.out)
  clear BK241
  clear BK242
  clear HB
  have BK241 := n0_
  have BK242 := n1_
  have HB := n2_
  clear n0_ n1_ n2_
  refine st_ (n := 9) (S := fun w' => w'.cell? ⟨gb241, 0, none⟩ = some (.slice A0_0 l0_0.length c0_0) ∧ w'.cell? ⟨gb241, 1, none⟩ = some (.slice A0_1 l0_1.length c0_1)) (ds := []) ⟨(blk_cell BK241.out 0).trans rfl, (blk_cell BK241.out 1).trans rfl⟩ (fun hHeld => ?_); refine with_tabW spec_l04Pivot.tab1 spec_l04Pivot.bits1 (fun HT_ HW_ => ?_)
  generalize w7.drew = w8 at BK241 BK242 HB hHeld ⊢
  refine pu_ 0 20 ?_; refine pu_ 3 23 ?_; refine pu_ 5 25 ?_; refine tk_ 1 21 ?_; refine pu_ 2 22 ?_; refine tk_ 4 24 ?_
  refine on_ 6 (some 26) (fun K hK => ?_)
  refine goes_ Try.func104 (by kernel_rfl) rfl #[.slice A0_0 l0_0.length c0_0, .int .i64 a1] (by rfl) rfl rfl (by (try simp only [List.map_toArray, List.map_cons, List.map_nil]); first | done | rfl | (simp only [List.length_drop, List.length_take]; rfl)) ?_
  with_reducible refine (spec_l01Columns.calls k _ _ l0_0 a1 l9 _ ?side1 ?side2 A3.out).mono ?_
  (case side1 => exact cb_ HR0_0.out HB.out)
  (case side2 => exact HC0_0.out)
  rintro e w9 ⟨v9_, rfl, ho0, hb⟩
  obtain ⟨A9, c9, e9_⟩ := Kd.S_slice ho0
  subst e9_
  refine ⟨_, rfl, ?_⟩
  have n0_ := Aside0.mk (Kd.S_lower ho0 bz_)
  have n1_ := Aside0.mk (bb_ BK241.out hb)
  have n2_ := Aside0.mk (bb_ BK242.out hb)
  have n3_ := Aside0.mk (bs_ hb)
  clear BK241
  clear BK242
  clear HB
  have HR9 := n0_
  have BK241 := n1_
  have BK242 := n2_
  have HB := n3_
  clear n0_ n1_ n2_ n3_
  (try clear hb)
  (try clear hb2)
  (try clear hk)
  (try clear hi)
  (try clear ho0)
  refine hK.out _ _ ⟨(blk_cell BK241.out 0).trans rfl, (blk_cell BK241.out 1).trans rfl⟩ (fun hHeld => ?_)
  clear hK K
  refine norm_ (a' := ?_) ?_ ?_
  rotate_left
  ·show Act.put _ (some 26) _ = _
   simp only [Act.put, List.setIfInBounds_toArray, List.set_cons_zero, List.set_cons_succ, i64_w, i32_w]
   rfl
  refine pu_ 7 6 ?_; refine pu_ 8 7 ?_
  refine done_ (done_of HT_.out (by kernel_rfl)) ?_
  have HBo0 := HB
  have HS9 := HR9
  have HR00 := HR0_0
  have HR01 := HR0_1
  clear HB HR9 HR0_0 HR0_1
  obtain ⟨wO, hwO⟩ : ∃ x : World, x = w := ⟨_, rfl⟩
  subst hwO
  obtain ⟨w, hw⟩ : ∃ x : World, x = w9 := ⟨_, rfl⟩
  have HB : Aside0 (Below w.heap.size w w9) := ⟨by rw [hw]; exact Below.refl _ _⟩
  have HBo : Aside0 (Below wO.heap.size wO w) := ⟨by rw [hw]; exact HBo0.out⟩
  have HR9 : Aside0 (Kd.C (Kd.slice 2 (Kd.int .i64)) w A9 l9.length l9) := ⟨by rw [hw]; exact (Kd.S_reads' HS9.out).2.2⟩
  have HC9 : Aside0 (l9.length ≤ c9) := ⟨(Kd.S_reads' HS9.out).2.1⟩
  have HR0_0 : Aside0 (Kd.C (Kd.slice 2 (Kd.int .i64)) w A0_0 l0_0.length l0_0) := ⟨by rw [hw]; exact Kd.C_below HR00.out HBo0.out⟩
  have HR0_1 : Aside0 (Kd.C (Kd.int .i64) w A0_1 l0_1.length l0_1) := ⟨by rw [hw]; exact Kd.C_below HR01.out HBo0.out⟩
  clear HBo0 HS9 HR00 HR01 hw
  have hnb10 := NB241_242.out
  have hnc10 := NB242_241.out
  have hcz11_0 : w9.cell? ⟨gb241, 0, none⟩ = some (.slice A0_0 l0_0.length c0_0) := (blk_cell BK241.out 0).trans rfl
  have hcz11_1 : w9.cell? ⟨gb241, 1, none⟩ = some (.slice A0_1 l0_1.length c0_1) := (blk_cell BK241.out 1).trans rfl
  have hfz11_0 := blk_frozen BK241.out 0
  have hfz11_1 := blk_frozen BK241.out 1
  try go_wp2_with (first | ((with_reducible refine gate_callee (f := 103) rfl ?_); refine goesL_ (some 31) rfl rfl Try.func103 (by kernel_rfl) rfl #[.slice A9 l9.length c9, .slice A0_1 l0_1.length c0_1] rfl (by (try simp only [List.map_toArray, List.map_cons, List.map_nil]); first | done | rfl | (simp only [List.length_drop, List.length_take]; rfl)) ?_; (with_reducible refine (spec_l01Solve.calls k _ _ l9 _ _ l0_1 t243 t244 _ ?side1 ?side2 ?side3 ?side4 A4.out).mono ?_); (case side1 => exact cb_ HR9.out HB.out); (case side2 => exact HC9.out); (case side3 => exact cb_ HR0_1.out HB.out); (case side4 => exact HC0_1.out); rintro e w12 ⟨v245, rfl, ho0, hb⟩; refine ⟨_, rfl, ?_⟩; have n0_ := Aside0.mk (Kd.R_lower ho0 bz_); have n1_ := Aside0.mk (bb_ BK241.out hb); have n2_ := Aside0.mk (bb_ BK242.out hb); have n3_ := Aside0.mk (bs_ hb); clear BK241; clear BK242; clear HB; have HO246 := n0_; have BK241 := n1_; have BK242 := n2_; have HB := n3_; clear n0_ n1_ n2_ n3_; (try clear hb); (try clear hb2); (try clear hk); (try clear hi); (try clear ho0); have hcz13_0 : w12.cell? ⟨gb242, 0, none⟩ = some (.int .i64 0) := (blk_cell BK242.out 0).trans rfl; have hcz13_1 : w12.cell? ⟨gb242, 1, none⟩ = some (.slice none 0 0) := (blk_cell BK242.out 1).trans rfl; have hcz13_2 : w12.cell? ⟨gb242, 2, none⟩ = some (.slice none 0 0) := (blk_cell BK242.out 2).trans rfl; have hfz13_0 := blk_frozen BK242.out 0; have hfz13_1 := blk_frozen BK242.out 1; have hfz13_2 := blk_frozen BK242.out 2))
  have HB := Aside0.mk (below_step HBo.out HB.out)
  refine bodyPost_ret (results_ct rfl _ _ gb242 75 #[.int .i64 0, .slice none 0 0, .slice none 0 0] (0, 0) _ rfl (by (with_reducible repeat (first | refine blk_drewN ?_ _ | refine blk_drew ?_ | refine blk_alloc ?_ _)); refine blk_put (cs := #[.int .i64 0, .slice none 0 0, .slice none 0 0]) ?_ 2 _ rfl; (with_reducible repeat (first | refine blk_drewN ?_ _ | refine blk_drew ?_ | refine blk_alloc ?_ _)); refine blk_put (cs := #[.int .i64 0, .slice none 0 0, .slice none 0 0]) ?_ 1 _ rfl; (with_reducible repeat (first | refine blk_drewN ?_ _ | refine blk_drew ?_ | refine blk_alloc ?_ _)); refine blk_put (cs := #[.int .i64 0, .slice none 0 0, .slice none 0 0]) ?_ 0 _ rfl; (with_reducible repeat (first | refine blk_drewN ?_ _ | refine blk_drew ?_ | refine blk_alloc ?_ _)); exact BK242.out) Try.underlying75 rfl (by kernel_rfl)) rfl ?_
  exact ⟨_, _, by first | rfl | (simp [errW_none, errW_some] <;> rfl) | (simp [*, errW_none, errW_some] <;> rfl), by first | exact Kd.S_nil _ _ _ _ _ | exact Kd.N_nil _ _ _ _ _ | exact Kd.V_nil _ _ _ _ _ | exact Kd.Q_nil _ _ _ _ _ | exact Kd.R_nil _ _ _ _ _, by first | exact Kd.R_nil _ _ _ _ _ | exact Kd.N_nil _ _ _ _ _ | exact Kd.V_nil _ _ _ _ _ | exact Kd.Q_nil _ _ _ _ _ | exact Kd.S_nil _ _ _ _ _, hb_⟩
 ·rw [if_neg c5] at H
  have c5b0 : (t244 == 0) = false := beq_eq_false_iff_ne.mpr c5
  have c5b1 : (t244 != 0) = true := bne_iff_ne.mpr c5
  have HC14 := Aside0.mk H
  clear H
  go_enter Try.func75, Try.ntmps75
  try go_wp2_with (first | ((with_reducible refine gate_dst (N := 2) rfl ?_); refine box_event ?hg (N := 2) ?hd (cs := #[.slice A0_0 l0_0.length c0_0, .slice A0_1 l0_1.length c0_1]) (t := 29) ?hr ?_; (case hd => rfl); (case hg => rfl); (case hr => first | (go_simp; done) | (go_simp; rfl)); intro gb241 hg w15 hbox hb; have n0_ := Aside0.mk (bs_ hb); have n1_ := Aside0.mk (hbox); have n2_ := Aside0.mk ((by rw [hg]; exact bz_ : w.heap.size ≤ gb241)); have n3_ := Aside0.mk ((by rw [hg]; exact bz_ : w.heap.size ≤ gb241)); clear HB; have HB := n0_; have BK241 := n1_; have GW241 := n2_; have GE241 := n3_; clear n0_ n1_ n2_ n3_; clear hb hbox hg) | ((with_reducible refine gate_dst (N := 4) rfl ?_); refine box_event ?hg (N := 4) ?hd (cs := #[.int .i64 0, .slice none 0 0, .slice none 0 0]) (t := 75) ?hr ?_; (case hd => rfl); (case hg => rfl); (case hr => first | (go_simp; done) | (go_simp; rfl)); intro gb242 hg w16 hbox hb; have n0_ := Aside0.mk (bb_ BK241.out hb); have n1_ := Aside0.mk (bs_ hb); have n2_ := Aside0.mk (hbox); have n3_ := Aside0.mk ((by rw [hg]; exact bz_ : w.heap.size ≤ gb242)); have n4_ := Aside0.mk ((by rw [hg]; exact bz_ : w.heap.size ≤ gb242)); have n5_ := Aside0.mk ((by rw [hg]; exact lt_ BK241.out : gb241 ≠ gb242)); have n6_ := Aside0.mk ((by rw [hg]; exact gt_ BK241.out : gb242 ≠ gb241)); clear BK241; clear HB; have BK241 := n0_; have HB := n1_; have BK242 := n2_; have GW242 := n3_; have GE242 := n4_; have NB241_242 := n5_; have NB242_241 := n6_; clear n0_ n1_ n2_ n3_ n4_ n5_ n6_; clear hb hbox hg))
  have n0_ := Aside0.mk (blk_drew BK241.out)
  have n1_ := Aside0.mk (blk_drew BK242.out)
  have n2_ := Aside0.mk (below_drew1 HB.out)
  clear BK241
  clear BK242
  clear HB
  have BK241 := n0_
  have BK242 := n1_
  have HB := n2_
  clear n0_ n1_ n2_
  refine st_ (n := 9) (S := fun w' => w'.cell? ⟨gb241, 0, none⟩ = some (.slice A0_0 l0_0.length c0_0) ∧ w'.cell? ⟨gb241, 1, none⟩ = some (.slice A0_1 l0_1.length c0_1)) (ds := []) ⟨(blk_cell BK241.out 0).trans rfl, (blk_cell BK241.out 1).trans rfl⟩ (fun hHeld => ?_); refine with_tabW spec_l04Pivot.tab1 spec_l04Pivot.bits1 (fun HT_ HW_ => ?_)
  generalize w16.drew = w17 at BK241 BK242 HB hHeld ⊢
  refine pu_ 0 20 ?_; refine pu_ 3 23 ?_; refine pu_ 5 25 ?_; refine tk_ 1 21 ?_; refine pu_ 2 22 ?_; refine tk_ 4 24 ?_
  refine on_ 6 (some 26) (fun K hK => ?_)
  refine goes_ Try.func104 (by kernel_rfl) rfl #[.slice A0_0 l0_0.length c0_0, .int .i64 a1] (by rfl) rfl rfl (by (try simp only [List.map_toArray, List.map_cons, List.map_nil]); first | done | rfl | (simp only [List.length_drop, List.length_take]; rfl)) ?_
  with_reducible refine (spec_l01Columns.calls k _ _ l0_0 a1 l9 _ ?side1 ?side2 A3.out).mono ?_
  (case side1 => exact cb_ HR0_0.out HB.out)
  (case side2 => exact HC0_0.out)
  rintro e w18 ⟨v9_, rfl, ho0, hb⟩
  obtain ⟨A9, c9, e9_⟩ := Kd.S_slice ho0
  subst e9_
  refine ⟨_, rfl, ?_⟩
  have n0_ := Aside0.mk (Kd.S_lower ho0 bz_)
  have n1_ := Aside0.mk (bb_ BK241.out hb)
  have n2_ := Aside0.mk (bb_ BK242.out hb)
  have n3_ := Aside0.mk (bs_ hb)
  clear BK241
  clear BK242
  clear HB
  have HR9 := n0_
  have BK241 := n1_
  have BK242 := n2_
  have HB := n3_
  clear n0_ n1_ n2_ n3_
  (try clear hb)
  (try clear hb2)
  (try clear hk)
  (try clear hi)
  (try clear ho0)
  refine hK.out _ _ ⟨(blk_cell BK241.out 0).trans rfl, (blk_cell BK241.out 1).trans rfl⟩ (fun hHeld => ?_)
  clear hK K
  refine norm_ (a' := ?_) ?_ ?_
  rotate_left
  ·show Act.put _ (some 26) _ = _
   simp only [Act.put, List.setIfInBounds_toArray, List.set_cons_zero, List.set_cons_succ, i64_w, i32_w]
   rfl
  refine pu_ 7 6 ?_; refine pu_ 8 7 ?_
  refine done_ (done_of HT_.out (by kernel_rfl)) ?_
  have HBo0 := HB
  have HS9 := HR9
  have HR00 := HR0_0
  have HR01 := HR0_1
  clear HB HR9 HR0_0 HR0_1
  obtain ⟨wO, hwO⟩ : ∃ x : World, x = w := ⟨_, rfl⟩
  subst hwO
  obtain ⟨w, hw⟩ : ∃ x : World, x = w18 := ⟨_, rfl⟩
  have HB : Aside0 (Below w.heap.size w w18) := ⟨by rw [hw]; exact Below.refl _ _⟩
  have HBo : Aside0 (Below wO.heap.size wO w) := ⟨by rw [hw]; exact HBo0.out⟩
  have HR9 : Aside0 (Kd.C (Kd.slice 2 (Kd.int .i64)) w A9 l9.length l9) := ⟨by rw [hw]; exact (Kd.S_reads' HS9.out).2.2⟩
  have HC9 : Aside0 (l9.length ≤ c9) := ⟨(Kd.S_reads' HS9.out).2.1⟩
  have HR0_0 : Aside0 (Kd.C (Kd.slice 2 (Kd.int .i64)) w A0_0 l0_0.length l0_0) := ⟨by rw [hw]; exact Kd.C_below HR00.out HBo0.out⟩
  have HR0_1 : Aside0 (Kd.C (Kd.int .i64) w A0_1 l0_1.length l0_1) := ⟨by rw [hw]; exact Kd.C_below HR01.out HBo0.out⟩
  clear HBo0 HS9 HR00 HR01 hw
  have hnb19 := NB241_242.out
  have hnc19 := NB242_241.out
  have hcz20_0 : w18.cell? ⟨gb241, 0, none⟩ = some (.slice A0_0 l0_0.length c0_0) := (blk_cell BK241.out 0).trans rfl
  have hcz20_1 : w18.cell? ⟨gb241, 1, none⟩ = some (.slice A0_1 l0_1.length c0_1) := (blk_cell BK241.out 1).trans rfl
  have hfz20_0 := blk_frozen BK241.out 0
  have hfz20_1 := blk_frozen BK241.out 1
  go_upto_if 38 with (first | ((with_reducible refine gate_callee (f := 103) rfl ?_); refine goesL_ (some 31) rfl rfl Try.func103 (by kernel_rfl) rfl #[.slice A9 l9.length c9, .slice A0_1 l0_1.length c0_1] rfl (by (try simp only [List.map_toArray, List.map_cons, List.map_nil]); first | done | rfl | (simp only [List.length_drop, List.length_take]; rfl)) ?_; (with_reducible refine (spec_l01Solve.calls k _ _ l9 _ _ l0_1 t243 t244 _ ?side1 ?side2 ?side3 ?side4 A4.out).mono ?_); (case side1 => exact cb_ HR9.out HB.out); (case side2 => exact HC9.out); (case side3 => exact cb_ HR0_1.out HB.out); (case side4 => exact HC0_1.out); rintro e w21 ⟨v245, rfl, ho0, hb⟩; refine ⟨_, rfl, ?_⟩; have n0_ := Aside0.mk (Kd.R_lower ho0 bz_); have n1_ := Aside0.mk (bb_ BK241.out hb); have n2_ := Aside0.mk (bb_ BK242.out hb); have n3_ := Aside0.mk (bs_ hb); clear BK241; clear BK242; clear HB; have HO246 := n0_; have BK241 := n1_; have BK242 := n2_; have HB := n3_; clear n0_ n1_ n2_ n3_; (try clear hb); (try clear hb2); (try clear hk); (try clear hi); (try clear ho0)))
  (try simp only [Act.put, List.setIfInBounds_toArray, List.set_cons_zero, List.set_cons_succ])
  go_cut [10] (fun v10 wc => ∃ (kq : Nat) (x10_13 : Int), v10 = .int .i64 x10_13 ∧ Aside0 (spec_l04Pivot.j0 kq a1 (l0_1.length : Int) l9 t243 t244 x10_13 l0_0 l0_1 = some (r1, r2, r3, r4)) ∧ Aside0 (kq ≤ k) ∧ Aside0 (Kd.R (Kd.int .i64) 2 wc w.heap.size (fun _ => True) v245 t243) ∧ Aside0 (wc.heap[gb241]? = some (.cells #[(.slice A0_0 l0_0.length c0_0), (.slice A0_1 l0_1.length c0_1)] 29 (0, 0))) ∧ Aside0 (wc.heap[gb242]? = some (.cells #[.int .i64 0, (.slice none 0 0), (.slice none 0 0)] 75 (0, 0))) ∧ Aside0 (Below w.heap.size w wc))
  case first =>
   have H := HC14.out
   clear HC14
   by_cases c22 : t244 < 0
   ·rw [if_pos c22] at H
    have c22b0 : decide (t244 < 0) = true := decide_eq_true c22
    clear c22
    (first | rw [c22b0] | (simp only [i64_w, i32_w]; rw [c22b0]) | skip)
    have H' := Aside0.mk H
    clear H
    go_wp2
    go_meet
    case rel => exact ⟨_, ((-1)), (by first | rfl | (simp; done) | (simp [*]; done)), H', ⟨by first | omega | exact Nat.le_refl _⟩, ⟨ro_ HO246.out⟩, ⟨bk_⟩, ⟨bk_⟩, ⟨hb_⟩⟩
   ·rw [if_neg c22] at H
    have c22b0 : decide (t244 < 0) = false := decide_eq_false c22
    clear c22
    (first | rw [c22b0] | (simp only [i64_w, i32_w]; rw [c22b0]) | skip)
    have H' := Aside0.mk H
    clear H
    go_wp2
    go_meet
    case rel => exact ⟨_, (1), (by first | rfl | (simp; done) | (simp [*]; done)), H', ⟨by first | omega | exact Nat.le_refl _⟩, ⟨ro_ HO246.out⟩, ⟨bk_⟩, ⟨bk_⟩, ⟨hb_⟩⟩
  case rest =>
   clear HC14
   try clear c1
   try clear c2
   try clear p2
   try clear c5
   try clear c5b0
   try clear c5b1
   try clear c7
   try clear c9
   try clear c10
   try clear c19
   try clear c22
   try clear c22b0
   try clear hcz11_0
   try clear hcz11_1
   try clear hcz13_0
   try clear hcz13_1
   try clear hcz13_2
   try clear hcz20_0
   try clear hcz20_1
   try clear hfz11_0
   try clear hfz11_1
   try clear hfz13_0
   try clear hfz13_1
   try clear hfz13_2
   try clear hfz20_0
   try clear hfz20_1
   obtain ⟨kq, x10_13, rfl, HA, HJ13, HO_8, BK241, BK242, HB⟩ := hcut
   cases kq with
   | zero => exact absurd HA.out (by simp [spec_l04Pivot.j0])
   | succ kj13 =>
    have H := HA.out
    clear HA
    simp only [spec_l04Pivot.j0] at H
    obtain ⟨y247, hy247⟩ : ∃ y_ : List (List Int), y_ = (([] : List (List Int))) := ⟨_, rfl⟩
    replace H : (spec_l04Pivot.l0 kj13 a1 (l0_1.length : Int) l9 t243 x10_13 0 l0_0 l0_1 (wrap64 (x10_13 * t244)) y247 (([] : List Int))) = some (r1, r2, r3, r4) := by first | (rw [hy247]; with_reducible exact H) | (have H2_ := (Option.bind_some _ _).symm.trans H; rw [hy247]; with_reducible exact H2_) | (have H2_ := (Option.bind_some _ _).symm.trans H; with_reducible exact H2_) | with_reducible exact H | (rw [hy247]; exact H) | exact H
    have Ny247 := Aside0.mk hy247
    clear hy247
    obtain ⟨y250, hy250⟩ : ∃ y_ : List Int, y_ = (([] : List Int)) := ⟨_, rfl⟩
    replace H : (spec_l04Pivot.l0 kj13 a1 (l0_1.length : Int) l9 t243 x10_13 0 l0_0 l0_1 (wrap64 (x10_13 * t244)) y247 y250) = some (r1, r2, r3, r4) := by first | (rw [hy250]; with_reducible exact H) | (have H2_ := (Option.bind_some _ _).symm.trans H; rw [hy250]; with_reducible exact H2_) | (have H2_ := (Option.bind_some _ _).symm.trans H; with_reducible exact H2_) | with_reducible exact H | (rw [hy250]; exact H) | exact H
    have Ny250 := Aside0.mk hy250
    clear hy250
    have H' := Aside0.mk H
    clear H
    go_wp2_with (first | ((with_reducible refine gate_dst (N := 42) rfl ?_); refine Kd.S_lit (Kd.slice 2 (Kd.int .i64)) _ 23 ?hg (N := 42) ?hd (xs := ([] : List (List Int))) (inner := []) (ok := fun _ => True) (okp := fun _ => True) ?hr ?hp (fun _ hk => hk) trivial (Below.refl _ _) (Nat.le_refl _) (by simp) ?_; (case hd => rfl); (case hg => rfl); (case hr => first | (go_simp; done) | (go_simp; rfl)); (case hp => exact (Reps.none _ _)); intro v248 w23 ho24 hb hg_ hnew_; clear hg_ hnew_; (first | rw [← Ny247.out] at ho24 | (simp only [Int.reduceToNat] at ho24; rw [← Ny247.out] at ho24)); have n0_ := Aside0.mk (rb_ HO_8.out hb); have n1_ := Aside0.mk (Kd.S_lower (Kd.S_new' ho24 (Kd.R_lt (ro_ HO_8.out))) bz_); have n2_ := Aside0.mk (bb_ BK241.out hb); have n3_ := Aside0.mk (bb_ BK242.out hb); have n4_ := Aside0.mk (bs_ hb); clear HO_8; clear BK241; clear BK242; clear HB; have HO_8 := n0_; have HO249 := n1_; have BK241 := n2_; have BK242 := n3_; have HB := n4_; clear n0_ n1_ n2_ n3_ n4_; clear hb ho24) | ((with_reducible refine gate_dst (N := 43) rfl ?_); refine Kd.R_lit (Kd.int .i64) _ 2 ?hg (N := 43) ?hd (xs := ([] : List Int)) (inner := []) (ok := fun _ => True) (okp := fun _ => True) ?hr ?hp (fun _ hk => hk) trivial (Below.refl _ _) (Nat.le_refl _) (by simp) ?_; (case hd => rfl); (case hg => rfl); (case hr => first | (go_simp; done) | (go_simp; rfl)); (case hp => exact (Reps.none _ _)); intro v251 w25 ho26 hb hg_ hnew_; clear hg_ hnew_; (first | rw [← Ny250.out] at ho26 | (simp only [Int.reduceToNat] at ho26; rw [← Ny250.out] at ho26)); have n0_ := Aside0.mk (Kd.R_elder' (ro_ HO_8.out) (Kd.R_base ho26) hb); have n1_ := Aside0.mk (Kd.S_elder' (so_ HO249.out) (Kd.R_base ho26) hb); have n2_ := Aside0.mk (Kd.R_lower (Kd.R_new' ho26 (Kd.R_lt (ro_ HO_8.out))) bz_); have n3_ := Aside0.mk (bb_ BK241.out hb); have n4_ := Aside0.mk (bb_ BK242.out hb); have n5_ := Aside0.mk (bs_ hb); clear HO_8; clear HO249; clear BK241; clear BK242; clear HB; have HO_8 := n0_; have HO249 := n1_; have HO252 := n2_; have BK241 := n3_; have BK242 := n4_; have HB := n5_; clear n0_ n1_ n2_ n3_ n4_ n5_; clear hb ho26; obtain ⟨Ao27, co27, eo27⟩ := Kd.R_slice HO252.out; subst eo27; obtain ⟨Ao28, co28, eo28⟩ := Kd.S_slice HO249.out; subst eo28) | ((with_reducible refine gate_dst (N := 11) rfl ?_); refine box_event ?hg (N := 11) ?hd (cs := #[.int .i64 0, .slice none 0 0, .slice none 0 0]) (t := 75) ?hr ?_; (case hd => rfl); (case hg => rfl); (case hr => first | (go_simp; done) | (go_simp; rfl)); intro gb253 hg w29 hbox hb; have n0_ := Aside0.mk (rb_ HO_8.out hb); have n1_ := Aside0.mk (Kd.S_below (so_ HO249.out) hb); have n2_ := Aside0.mk (rb_ HO252.out hb); have n3_ := Aside0.mk (bb_ BK241.out hb); have n4_ := Aside0.mk (bb_ BK242.out hb); have n5_ := Aside0.mk (bs_ hb); have n6_ := Aside0.mk (hbox); have n7_ := Aside0.mk ((by rw [hg]; exact bz_ : w.heap.size ≤ gb253)); have n8_ := Aside0.mk ((by rw [hg]; exact bz_ : w.heap.size ≤ gb253)); have n9_ := Aside0.mk ((by rw [hg]; exact lt_ BK241.out : gb241 ≠ gb253)); have n10_ := Aside0.mk ((by rw [hg]; exact gt_ BK241.out : gb253 ≠ gb241)); have n11_ := Aside0.mk ((by rw [hg]; exact lt_ BK242.out : gb242 ≠ gb253)); have n12_ := Aside0.mk ((by rw [hg]; exact gt_ BK242.out : gb253 ≠ gb242)); clear HO_8; clear HO249; clear HO252; clear BK241; clear BK242; clear HB; have HO_8 := n0_; have HO249 := n1_; have HO252 := n2_; have BK241 := n3_; have BK242 := n4_; have HB := n5_; have BK253 := n6_; have GW253 := n7_; have GE253 := n8_; have NB241_253 := n9_; have NB253_241 := n10_; have NB242_253 := n11_; have NB253_242 := n12_; clear n0_ n1_ n2_ n3_ n4_ n5_ n6_ n7_ n8_ n9_ n10_ n11_ n12_; clear hb hbox hg; have hnb30 := NB253_241.out; have hnc30 := NB241_253.out; have hnb31 := NB253_242.out; have hnc31 := NB242_253.out; have hcz32_0 : w29.cell? ⟨gb253, 0, none⟩ = some (.int .i64 0) := (blk_cell BK253.out 0).trans rfl; have hcz32_1 : w29.cell? ⟨gb253, 1, none⟩ = some (.slice none 0 0) := (blk_cell BK253.out 1).trans rfl; have hcz32_2 : w29.cell? ⟨gb253, 2, none⟩ = some (.slice none 0 0) := (blk_cell BK253.out 2).trans rfl; have hfz32_0 := blk_frozen BK253.out 0; have hfz32_1 := blk_frozen BK253.out 1; have hfz32_2 := blk_frozen BK253.out 2))
    go_loopg [12] kj13 (fun kq v12 w' => ∃ (x12_2 : Int) (x254001_2 : List (List Int)) (x254002_2 : List Int) (u254001 : Value) (u254002 : Value), v12 = .int .i64 x12_2 ∧ Aside0 (spec_l04Pivot.l0 kq a1 (l0_1.length : Int) l9 t243 x10_13 x12_2 l0_0 l0_1 (wrap64 (x10_13 * t244)) x254001_2 x254002_2 = some (r1, r2, r3, r4)) ∧ Aside0 (kq ≤ kj13) ∧ Aside0 (Kd.R (Kd.int .i64) 2 w' w.heap.size (fun k_ => some k_ ≠ (u254002 : Value).ownBlock) v245 t243) ∧ Aside0 (Kd.S (Kd.slice 2 (Kd.int .i64)) 23 w' w.heap.size (fun k_ => some k_ ≠ (v245 : Value).ownBlock ∧ some k_ ≠ (u254002 : Value).ownBlock) u254001 x254001_2) ∧ Aside0 (Kd.R (Kd.int .i64) 2 w' w.heap.size (fun k_ => some k_ ≠ (v245 : Value).ownBlock) u254002 x254002_2) ∧ Aside0 (w'.heap[gb241]? = some (.cells #[(.slice A0_0 l0_0.length c0_0), (.slice A0_1 l0_1.length c0_1)] 29 (0, 0))) ∧ Aside0 (w'.heap[gb242]? = some (.cells #[.int .i64 0, (.slice none 0 0), (.slice none 0 0)] 75 (0, 0))) ∧ Aside0 (w'.heap[gb253]? = some (.cells #[.int .i64 (wrap64 (x10_13 * t244)), u254001, u254002] 75 (0, 0))) ∧ Aside0 (Below w.heap.size w w'))
    case atStart => exact ⟨(0), (y247), (y250), (.slice Ao28 y247.length co28), (.slice Ao27 y250.length co27), (by first | rfl | (simp; done) | (simp [*]; done)), H', ⟨Nat.le_refl _⟩, ⟨by (with_reducible repeat (first | apply Kd.R_alloc | apply Kd.R_drewN | apply Kd.R_drew)); exact Kd.R_mono (Kd.R_far (p := ⟨gb253, 2, none⟩) (Kd.R_far (p := ⟨gb253, 1, none⟩) (Kd.R_far (p := ⟨gb253, 0, none⟩) (Kd.R_types HO_8.out BK253.out (by decide)) (fun _ hk => hk.2) (.int .i64 (wrap64 (x10_13 * t244)))) (fun _ hk => hk.2) (.slice Ao28 y247.length co28)) (fun _ hk => hk.2) (.slice Ao27 y250.length co27)) (fun _ hk => hk.1.2)⟩, ⟨by (with_reducible repeat (first | apply Kd.S_alloc | apply Kd.S_drewN | apply Kd.S_drew)); exact Kd.S_mono (Kd.S_far (p := ⟨gb253, 2, none⟩) (Kd.S_far (p := ⟨gb253, 1, none⟩) (Kd.S_far (p := ⟨gb253, 0, none⟩) (Kd.S_types HO249.out BK253.out (by decide)) (fun _ hk => hk.2) (.int .i64 (wrap64 (x10_13 * t244)))) (fun _ hk => hk.2) (.slice Ao28 y247.length co28)) (fun _ hk => hk.2) (.slice Ao27 y250.length co27)) (fun _ hk => ⟨hk.1.1.2, hk.1.2⟩)⟩, ⟨by (with_reducible repeat (first | apply Kd.R_alloc | apply Kd.R_drewN | apply Kd.R_drew)); exact Kd.R_mono (Kd.R_far (p := ⟨gb253, 2, none⟩) (Kd.R_far (p := ⟨gb253, 1, none⟩) (Kd.R_far (p := ⟨gb253, 0, none⟩) (Kd.R_types HO252.out BK253.out (by decide)) (fun _ hk => hk.2) (.int .i64 (wrap64 (x10_13 * t244)))) (fun _ hk => hk.2) (.slice Ao28 y247.length co28)) (fun _ hk => hk.2) (.slice Ao27 y250.length co27)) (fun _ hk => hk.1.2)⟩, ⟨by (with_reducible repeat (first | refine blk_drewN ?_ _ | refine blk_drew ?_ | refine blk_alloc ?_ _)); refine blk_far ?_ NB241_253.out _; (with_reducible repeat (first | refine blk_drewN ?_ _ | refine blk_drew ?_ | refine blk_alloc ?_ _)); refine blk_far ?_ NB241_253.out _; (with_reducible repeat (first | refine blk_drewN ?_ _ | refine blk_drew ?_ | refine blk_alloc ?_ _)); refine blk_far ?_ NB241_253.out _; (with_reducible repeat (first | refine blk_drewN ?_ _ | refine blk_drew ?_ | refine blk_alloc ?_ _)); exact BK241.out⟩, ⟨by (with_reducible repeat (first | refine blk_drewN ?_ _ | refine blk_drew ?_ | refine blk_alloc ?_ _)); refine blk_far ?_ NB242_253.out _; (with_reducible repeat (first | refine blk_drewN ?_ _ | refine blk_drew ?_ | refine blk_alloc ?_ _)); refine blk_far ?_ NB242_253.out _; (with_reducible repeat (first | refine blk_drewN ?_ _ | refine blk_drew ?_ | refine blk_alloc ?_ _)); refine blk_far ?_ NB242_253.out _; (with_reducible repeat (first | refine blk_drewN ?_ _ | refine blk_drew ?_ | refine blk_alloc ?_ _)); exact BK242.out⟩, ⟨by (with_reducible repeat (first | refine blk_drewN ?_ _ | refine blk_drew ?_ | refine blk_alloc ?_ _)); refine blk_put (cs := #[.int .i64 (wrap64 (x10_13 * t244)), .slice Ao28 y247.length co28, .slice none 0 0]) ?_ 2 _ rfl; (with_reducible repeat (first | refine blk_drewN ?_ _ | refine blk_drew ?_ | refine blk_alloc ?_ _)); refine blk_put (cs := #[.int .i64 (wrap64 (x10_13 * t244)), .slice none 0 0, .slice none 0 0]) ?_ 1 _ rfl; (with_reducible repeat (first | refine blk_drewN ?_ _ | refine blk_drew ?_ | refine blk_alloc ?_ _)); refine blk_put (cs := #[.int .i64 0, .slice none 0 0, .slice none 0 0]) ?_ 0 _ rfl; (with_reducible repeat (first | refine blk_drewN ?_ _ | refine blk_drew ?_ | refine blk_alloc ?_ _)); exact BK253.out⟩, ⟨hb_⟩⟩
    case round =>
     clear H'
     try clear c1
     try clear c2
     try clear p2
     try clear c3
     try clear c5
     try clear c5b0
     try clear c5b1
     try clear p6
     try clear c7
     try clear c9
     try clear c10
     try clear c19
     try clear c22
     try clear c22b0
     try clear c30
     try clear c31
     try clear hcz11_0
     try clear hcz11_1
     try clear hcz13_0
     try clear hcz13_1
     try clear hcz13_2
     try clear hcz20_0
     try clear hcz20_1
     try clear hcz32_0
     try clear hcz32_1
     try clear hcz32_2
     try clear hfz11_0
     try clear hfz11_1
     try clear hfz13_0
     try clear hfz13_1
     try clear hfz13_2
     try clear hfz20_0
     try clear hfz20_1
     try clear hfz32_0
     try clear hfz32_1
     try clear hfz32_2
     try clear p2
     obtain ⟨x12_2, x254001_2, x254002_2, u254001, u254002, rfl, HA, HK2, HO_8, HO_254001, HO_254002, BK241, BK242, BK253, HB⟩ := hrel
     cases gk with
     | zero => exact absurd HA.out (by simp [spec_l04Pivot.l0])
     | succ k2 =>
      have H := HA.out
      clear HA
      simp only [spec_l04Pivot.l0] at H
      by_cases c33 : x12_2 < (l0_1.length : Int)
      ·rw [if_pos c33] at H
       have c33b0 : decide (x12_2 < (l0_1.length : Int)) = true := decide_eq_true c33
       clear c33
       by_cases c34 : 0 ≤ (l0_1.length : Int)
       ·rw [if_pos c34] at H
        have c34b0 := eq_true c34
        have c34b1 : decide (0 ≤ (l0_1.length : Int)) = true := decide_eq_true c34
        clear c34
        by_cases c35 : ((l0_1.length : Int) : Int).toNat ≤ 35184372088832
        ·rw [if_pos c35] at H
         have c35b0 := eq_true c35
         have c35b1 : decide (((l0_1.length : Int) : Int).toNat ≤ 35184372088832) = true := decide_eq_true c35
         clear c35
         obtain ⟨y254, hy254⟩ : ∃ y_ : List Int, y_ = (List.replicate ((l0_1.length : Int) : Int).toNat 0) := ⟨_, rfl⟩
         replace H : (if x254001_2.length < 5864062014805 then (if 0 ≤ x12_2 then (if x12_2 < (t243.length : Int) then (if x254002_2.length < 17592186044416 then (spec_l04Pivot.l0 k2 a1 (l0_1.length : Int) l9 t243 x10_13 (wrap64 (x12_2 + 1)) l0_0 l0_1 (wrap64 (x10_13 * t244)) (x254001_2 ++ [y254]) (x254002_2 ++ [wrap64 (x10_13 * (rd t243 x12_2))])) else (none)) else (none)) else (none)) else (none)) = some (r1, r2, r3, r4) := by first | (rw [hy254]; with_reducible exact H) | (have H2_ := (Option.bind_some _ _).symm.trans H; rw [hy254]; with_reducible exact H2_) | (have H2_ := (Option.bind_some _ _).symm.trans H; with_reducible exact H2_) | with_reducible exact H | (rw [hy254]; exact H) | exact H
         have Ny254 := Aside0.mk hy254
         clear hy254
         by_cases c36 : x254001_2.length < 5864062014805
         ·rw [if_pos c36] at H
          have LMc36 := Aside0.mk c36
          clear c36
          obtain ⟨y257, hy257⟩ : ∃ y_ : List (List Int), y_ = (x254001_2 ++ [y254]) := ⟨_, rfl⟩
          replace H : (if 0 ≤ x12_2 then (if x12_2 < (t243.length : Int) then (if x254002_2.length < 17592186044416 then (spec_l04Pivot.l0 k2 a1 (l0_1.length : Int) l9 t243 x10_13 (wrap64 (x12_2 + 1)) l0_0 l0_1 (wrap64 (x10_13 * t244)) y257 (x254002_2 ++ [wrap64 (x10_13 * (rd t243 x12_2))])) else (none)) else (none)) else (none)) = some (r1, r2, r3, r4) := by first | (rw [hy257]; with_reducible exact H) | (have H2_ := (Option.bind_some _ _).symm.trans H; rw [hy257]; with_reducible exact H2_) | (have H2_ := (Option.bind_some _ _).symm.trans H; with_reducible exact H2_) | with_reducible exact H | (rw [hy257]; exact H) | exact H
          have Ny257 := Aside0.mk hy257
          clear hy257
          by_cases c37 : 0 ≤ x12_2
          ·rw [if_pos c37] at H
           have c37b0 : decide (0 ≤ x12_2) = true := decide_eq_true c37
           clear c37
           by_cases c38 : x12_2 < (t243.length : Int)
           ·rw [if_pos c38] at H
            have c38b0 : decide (x12_2 < (t243.length : Int)) = true := decide_eq_true c38
            clear c38
            by_cases c39 : x254002_2.length < 17592186044416
            ·rw [if_pos c39] at H
             have LMc39 := Aside0.mk c39
             clear c39
             obtain ⟨y261, hy261⟩ : ∃ y_ : List Int, y_ = (x254002_2 ++ [wrap64 (x10_13 * (rd t243 x12_2))]) := ⟨_, rfl⟩
             replace H : (spec_l04Pivot.l0 k2 a1 (l0_1.length : Int) l9 t243 x10_13 (wrap64 (x12_2 + 1)) l0_0 l0_1 (wrap64 (x10_13 * t244)) y257 y261) = some (r1, r2, r3, r4) := by first | (rw [hy261]; with_reducible exact H) | (have H2_ := (Option.bind_some _ _).symm.trans H; rw [hy261]; with_reducible exact H2_) | (have H2_ := (Option.bind_some _ _).symm.trans H; with_reducible exact H2_) | with_reducible exact H | (rw [hy261]; exact H) | exact H
             have Ny261 := Aside0.mk hy261
             clear hy261
             have H' := Aside0.mk H
             clear H
             try go_wp2
             have n0_ := Aside0.mk (Kd.R_drew HO_8.out)
             have n1_ := Aside0.mk (Kd.S_drew HO_254001.out)
             have n2_ := Aside0.mk (Kd.R_drew HO_254002.out)
             have n3_ := Aside0.mk (blk_drew BK241.out)
             have n4_ := Aside0.mk (blk_drew BK242.out)
             have n5_ := Aside0.mk (blk_drew BK253.out)
             have n6_ := Aside0.mk (below_drew1 HB.out)
             clear HO_8
             clear HO_254001
             clear HO_254002
             clear BK241
             clear BK242
             clear BK253
             clear HB
             have HO_8 := n0_
             have HO_254001 := n1_
             have HO_254002 := n2_
             have BK241 := n3_
             have BK242 := n4_
             have BK253 := n5_
             have HB := n6_
             clear n0_ n1_ n2_ n3_ n4_ n5_ n6_
             refine st_ (n := 8) (S := fun w' => w'.cell? ⟨gb253, 0, none⟩ = some (.int .i64 (wrap64 (x10_13 * t244))) ∧ w'.cell? ⟨gb253, 1, none⟩ = some (u254001) ∧ w'.cell? ⟨gb253, 2, none⟩ = some (u254002)) (ds := [7]) ⟨(blk_cell BK253.out 0).trans rfl, (blk_cell BK253.out 1).trans rfl, (blk_cell BK253.out 2).trans rfl⟩ (fun hHeld => ?_); refine with_tabW spec_l04Pivot.tab12 spec_l04Pivot.bits12 (fun HT_ HW_ => ?_)
             generalize wr.drew = w40 at HO_8 HO_254001 HO_254002 BK241 BK242 BK253 HB hHeld ⊢
             refine pu_ 0 50 ?_; refine pu_ 2 52 ?_; refine tk_ 1 51 ?_
             refine on_ 3 (some 53) (fun K hK => ?_)
             refine Kd.R_make_step (Kd.int .i64) _ 2 (by rfl) (N := 53) rfl 23 _ _ rfl (l0_1.length : Int) rfl rfl Try.underlying23 (.int .i64 0) 8 info2 rfl (by decide) (by omega) 0 (ok := fun _ => True) (okp := fun _ => True) rfl (fun _ hk => hk) trivial (of_decide_eq_true (by first | (with_reducible assumption) | assumption)) (Nat.le_trans (Nat.mul_le_mul_right _ (of_decide_eq_true (by first | (with_reducible assumption) | assumption) : (l0_1.length : Int).toNat ≤ 35184372088832)) (by omega)) (Below.refl _ _) (Nat.le_refl _) ?_
             intro v255 w41 ho42 hb hg_ hnew_
             clear hg_ hnew_
             (first | rw [← Ny254.out] at ho42 | (simp only [Int.reduceToNat] at ho42; rw [← Ny254.out] at ho42))
             have n0_ := Aside0.mk (Kd.R_elder' (ro_ HO_8.out) (Kd.R_base ho42) hb)
             have n1_ := Aside0.mk (Kd.S_elder' (so_ HO_254001.out) (Kd.R_base ho42) hb)
             have n2_ := Aside0.mk (Kd.R_elder' (ro_ HO_254002.out) (Kd.R_base ho42) hb)
             have n3_ := Aside0.mk (Kd.R_lower (Kd.R_new' (Kd.R_new' ho42 (Kd.R_lt (ro_ HO_8.out))) (Kd.R_lt (ro_ HO_254002.out))) bz_)
             have n4_ := Aside0.mk (bb_ BK241.out hb)
             have n5_ := Aside0.mk (bb_ BK242.out hb)
             have n6_ := Aside0.mk (bb_ BK253.out hb)
             have n7_ := Aside0.mk (bs_ hb)
             clear HO_8
             clear HO_254001
             clear HO_254002
             clear BK241
             clear BK242
             clear BK253
             clear HB
             have HO_8 := n0_
             have HO_254001 := n1_
             have HO_254002 := n2_
             have HO256 := n3_
             have BK241 := n4_
             have BK242 := n5_
             have BK253 := n6_
             have HB := n7_
             clear n0_ n1_ n2_ n3_ n4_ n5_ n6_ n7_
             clear hb ho42
             obtain ⟨Ao44, co44, eo44⟩ := Kd.R_slice HO256.out
             (first | subst eo44 | (injection eo44 with f1_ f2_ f3_; have f4_ := f1_.symm; have f5_ := f3_.symm; clear f1_ f2_ f3_; subst f4_; subst f5_))
             refine hK.out _ _ ⟨(blk_cell BK253.out 0).trans rfl, (blk_cell BK253.out 1).trans rfl, (blk_cell BK253.out 2).trans rfl⟩ (fun hHeld => ?_)
             clear hK K
             refine norm_ (a' := ?_) ?_ ?_
             rotate_left
             ·show Act.put _ (some 53) _ = _
              simp only [Act.put, List.setIfInBounds_toArray, List.set_cons_zero, List.set_cons_succ, i64_w, i32_w]
              rfl
             refine on_ 4 (some 54) (fun K hK => ?_)
             refine value_ (w1 := ?_) (v := ?_) (by rfl) rfl ?_ ?_
             rotate_left 2
             ·go_simp
              constructor
              ·rfl
              ·rfl
             refine hK.out _ _ ⟨(blk_cell (blk_alloc BK253.out _) 0).trans rfl, (blk_cell (blk_alloc BK253.out _) 1).trans rfl, (blk_cell (blk_alloc BK253.out _) 2).trans rfl⟩ (fun hHeld => ?_)
             clear hK K
             refine norm_ (a' := ?_) ?_ ?_
             rotate_left
             ·show Act.put _ (some 54) _ = _
              simp only [Act.put, List.setIfInBounds_toArray, List.set_cons_zero, List.set_cons_succ, i64_w, i32_w]
              rfl
             refine on_ 5 (some 55) (fun K hK => ?_)
             refine Kd.S_append_step (Kd.slice 2 (Kd.int .i64)) (w0 := w) w.heap.size (by rfl) (.tmp 51) (.tmp 54) 22 23 (.slice none 0 0) 24 rfl Try.underlying22 info23 rfl (by decide) (by omega) u254001 x254001_2 y254 [.slice Ao44 y254.length co44] (fun k_ => some k_ ≠ (v245 : Value).ownBlock ∧ some k_ ≠ (u254002 : Value).ownBlock) (fun k_ => some k_ = (.slice Ao44 y254.length co44 : Value).ownBlock) rfl rfl ?aP (fun k_ hk_ => ((Kd.R_mono (ok' := fun k_ => ((fun k_ => some k_ ≠ (v245 : Value).ownBlock ∧ some k_ ≠ (u254002 : Value).ownBlock)) k_ ∧ some k_ ≠ (u254001 : Value).ownBlock) (Kd.R_apart' (HO256.out) (Kd.S_typed HO_254001.out) (by decide)) (fun k_ hk => ⟨⟨hk.1.1.2, hk.1.2⟩, hk.2⟩))).1 k_ hk_.symm) ?aF ?aO ?aB ?aS ?aL ?_
             (case aP => exact Kd.M_row (Kd.R_mono (Kd.R_tight rfl (Kd.R_mono (ok' := fun k_ => ((fun k_ => some k_ ≠ (v245 : Value).ownBlock ∧ some k_ ≠ (u254002 : Value).ownBlock)) k_ ∧ some k_ ≠ (u254001 : Value).ownBlock) (Kd.R_apart' (HO256.out) (Kd.S_typed HO_254001.out) (by decide)) (fun k_ hk => ⟨⟨hk.1.1.2, hk.1.2⟩, hk.2⟩))) (fun _ h_ => h_)))
             (case aB => exact hb_)
             (case aF => exact (fun k_ hk => ⟨Kd.fresh' (Kd.R_lt (ro_ HO_8.out)) k_ hk, Kd.fresh' (Kd.R_lt (ro_ HO_254002.out)) k_ hk⟩))
             (case aO => exact (by (with_reducible repeat (first | apply Kd.S_alloc | apply Kd.S_drewN | apply Kd.S_drew)); exact Kd.S_mono HO_254001.out (fun k_ hk => ⟨⟨hk.1.1, hk.1.2⟩, fun e_ => hk.2 e_⟩)))
             (case aS => exact bz_)
             (case aL => have := LMc36.out; omega)
             intro v258 w43 ho hb hg hat
             rw [← Ny257.out] at ho
             have n0_ := Aside0.mk (Kd.R_over' (ro_ HO_8.out) (Kd.S_typed (so_ HO_254001.out)) (by decide) hg)
             have n1_ := Aside0.mk (Kd.R_over' (ro_ HO_254002.out) (Kd.S_typed (so_ HO_254001.out)) (by decide) hg)
             have n2_ := Aside0.mk (bg_ BK241.out hg (Kd.S_ne HO_254001.out BK241.out (by decide)))
             have n3_ := Aside0.mk (bg_ BK242.out hg (Kd.S_ne HO_254001.out BK242.out (by decide)))
             have n4_ := Aside0.mk (bg_ BK253.out hg (Kd.S_ne HO_254001.out BK253.out (by decide)))
             have n5_ := Aside0.mk (hb)
             have n6_ := Aside0.mk (ho)
             clear HO_8
             clear HO_254002
             clear BK241
             clear BK242
             clear BK253
             clear HB
             clear HO_254001
             clear HO256
             have HO_8 := n0_
             have HO_254002 := n1_
             have BK241 := n2_
             have BK242 := n3_
             have BK253 := n4_
             have HB := n5_
             have HO259 := n6_
             clear n0_ n1_ n2_ n3_ n4_ n5_ n6_
             clear ho hb hg hat
             obtain ⟨Ao45, co45, eo45⟩ := Kd.S_slice HO259.out
             (first | subst eo45 | (injection eo45 with f1_ f2_ f3_; have f4_ := f1_.symm; have f5_ := f3_.symm; clear f1_ f2_ f3_; subst f4_; subst f5_))
             refine hK.out _ _ ⟨(blk_cell BK253.out 0).trans rfl, (blk_cell BK253.out 1).trans rfl, (blk_cell BK253.out 2).trans rfl⟩ (fun hHeld => ?_)
             clear hK K
             refine norm_ (a' := ?_) ?_ ?_
             rotate_left
             ·show Act.put _ (some 55) _ = _
              simp only [Act.put, List.setIfInBounds_toArray, List.set_cons_zero, List.set_cons_succ, i64_w, i32_w]
              rfl
             refine pu_ 6 56 ?_
             refine la_ 7 none (fun K hK => ?_)
             have hs46 : w43.cell? ⟨gb253, 1, none⟩ = some (u254001) := (blk_cell BK253.out 1).trans rfl
             have hfs46 := blk_frozen BK253.out 1
             have hns46_0 := NB241_253.out
             have hns46_1 := NB242_253.out
             have hms46_0 := NB253_241.out
             have hms46_1 := NB253_242.out
             refine skip_ (w1 := ?_) (by rfl) rfl ?_ ?_
             rotate_left
             ·go_simp
              rfl
             refine hK.out _ _ ?_
             clear hK K
             refine done_ (done_of HT_.out (by kernel_rfl)) ?_
             try go_wp2
             have n0_ : Aside0 (Kd.R (Kd.int .i64) 2 (w43.setCell ⟨gb253, 1, none⟩ (.slice Ao45 y257.length co45)) w.heap.size (fun k_ => some k_ ≠ (u254002 : Value).ownBlock) v245 t243) := ⟨by (with_reducible repeat (first | apply Kd.R_alloc | apply Kd.R_drewN | apply Kd.R_drew)); exact Kd.R_mono (Kd.R_far (p := ⟨gb253, 1, none⟩) (Kd.R_types HO_8.out BK253.out (by decide)) (fun _ hk => hk.2) (.slice Ao45 y257.length co45)) (fun _ hk => hk.1.1)⟩
             have n1_ : Aside0 (Kd.R (Kd.int .i64) 2 (w43.setCell ⟨gb253, 1, none⟩ (.slice Ao45 y257.length co45)) w.heap.size (fun k_ => some k_ ≠ (v245 : Value).ownBlock) u254002 x254002_2) := ⟨by (with_reducible repeat (first | apply Kd.R_alloc | apply Kd.R_drewN | apply Kd.R_drew)); exact Kd.R_mono (Kd.R_far (p := ⟨gb253, 1, none⟩) (Kd.R_types HO_254002.out BK253.out (by decide)) (fun _ hk => hk.2) (.slice Ao45 y257.length co45)) (fun _ hk => hk.1.1)⟩
             have n2_ : Aside0 (Kd.S (Kd.slice 2 (Kd.int .i64)) 23 (w43.setCell ⟨gb253, 1, none⟩ (.slice Ao45 y257.length co45)) w.heap.size (fun k_ => some k_ ≠ (v245 : Value).ownBlock ∧ some k_ ≠ (u254002 : Value).ownBlock) (.slice Ao45 y257.length co45) y257) := ⟨by (with_reducible repeat (first | apply Kd.S_alloc | apply Kd.S_drewN | apply Kd.S_drew)); exact Kd.S_mono (Kd.S_far (p := ⟨gb253, 1, none⟩) (Kd.S_types HO259.out BK253.out (by decide)) (fun _ hk => hk.2) (.slice Ao45 y257.length co45)) (fun _ hk => ⟨hk.1.1, hk.1.2⟩)⟩
             have n3_ : Aside0 ((w43.setCell ⟨gb253, 1, none⟩ (.slice Ao45 y257.length co45)).heap[gb241]? = some (.cells #[.slice A0_0 l0_0.length c0_0, .slice A0_1 l0_1.length c0_1] 29 (0, 0))) := ⟨by (with_reducible repeat (first | refine blk_drewN ?_ _ | refine blk_drew ?_ | refine blk_alloc ?_ _)); refine blk_far ?_ NB241_253.out _; (with_reducible repeat (first | refine blk_drewN ?_ _ | refine blk_drew ?_ | refine blk_alloc ?_ _)); exact BK241.out⟩
             have n4_ : Aside0 ((w43.setCell ⟨gb253, 1, none⟩ (.slice Ao45 y257.length co45)).heap[gb242]? = some (.cells #[.int .i64 0, .slice none 0 0, .slice none 0 0] 75 (0, 0))) := ⟨by (with_reducible repeat (first | refine blk_drewN ?_ _ | refine blk_drew ?_ | refine blk_alloc ?_ _)); refine blk_far ?_ NB242_253.out _; (with_reducible repeat (first | refine blk_drewN ?_ _ | refine blk_drew ?_ | refine blk_alloc ?_ _)); exact BK242.out⟩
             have n5_ : Aside0 ((w43.setCell ⟨gb253, 1, none⟩ (.slice Ao45 y257.length co45)).heap[gb253]? = some (.cells #[.int .i64 (wrap64 (x10_13 * t244)), .slice Ao45 y257.length co45, u254002] 75 (0, 0))) := ⟨by (with_reducible repeat (first | refine blk_drewN ?_ _ | refine blk_drew ?_ | refine blk_alloc ?_ _)); refine blk_put (cs := #[.int .i64 (wrap64 (x10_13 * t244)), u254001, u254002]) ?_ 1 _ rfl; (with_reducible repeat (first | refine blk_drewN ?_ _ | refine blk_drew ?_ | refine blk_alloc ?_ _)); exact BK253.out⟩
             have n6_ : Aside0 (Below w.heap.size w (w43.setCell ⟨gb253, 1, none⟩ (.slice Ao45 y257.length co45))) := ⟨hb_⟩
             (try clear HO_8)
             (try clear HO_254002)
             (try clear HO259)
             (try clear BK241)
             (try clear BK242)
             (try clear BK253)
             (try clear HB)
             generalize (w43.setCell ⟨gb253, 1, none⟩ (.slice Ao45 y257.length co45)) = w47 at n0_ n1_ n2_ n3_ n4_ n5_ n6_ ⊢
             have HO_8 := n0_
             have HO_254002 := n1_
             have HO259 := n2_
             have BK241 := n3_
             have BK242 := n4_
             have BK253 := n5_
             have HB := n6_
             clear n0_ n1_ n2_ n3_ n4_ n5_ n6_
             have n0_ := Aside0.mk (Kd.R_drew HO_8.out)
             have n1_ := Aside0.mk (Kd.R_drew HO_254002.out)
             have n2_ := Aside0.mk (Kd.S_drew HO259.out)
             have n3_ := Aside0.mk (blk_drew BK241.out)
             have n4_ := Aside0.mk (blk_drew BK242.out)
             have n5_ := Aside0.mk (blk_drew BK253.out)
             have n6_ := Aside0.mk (below_drew1 HB.out)
             clear HO_8
             clear HO_254002
             clear HO259
             clear BK241
             clear BK242
             clear BK253
             clear HB
             have HO_8 := n0_
             have HO_254002 := n1_
             have HO259 := n2_
             have BK241 := n3_
             have BK242 := n4_
             have BK253 := n5_
             have HB := n6_
             clear n0_ n1_ n2_ n3_ n4_ n5_ n6_
             obtain ⟨Ao49, co49, eo49⟩ := Kd.R_slice HO_8.out
             (first | subst eo49 | (injection eo49 with f1_ f2_ f3_; have f4_ := f1_.symm; have f5_ := f3_.symm; clear f1_ f2_ f3_; subst f4_; subst f5_))
             have p260 : 0 ≤ (x12_2 : Int) := of_decide_eq_true (by first | (with_reducible assumption) | assumption)
             have q260 : x12_2 < (t243.length : Int) := of_decide_eq_true (by first | (with_reducible assumption) | assumption)
             obtain ⟨ad260, e260, hx260_0⟩ := Kd.at_int (Kd.R_reads' HO_8.out).2.2 x12_2 p260 q260
             cases e260
             replace p260 := eq_true p260
             replace q260 := eq_true q260
             refine st_ (n := 12) (S := fun w' => w'.cell? ⟨gb253, 0, none⟩ = some (.int .i64 (wrap64 (x10_13 * t244))) ∧ w'.cell? ⟨gb253, 1, none⟩ = some (.slice Ao45 y257.length co45) ∧ w'.cell? ⟨gb253, 2, none⟩ = some (u254002) ∧ w'.cell? (ad260.add (x12_2).toNat) = some (.int .i64 (rd t243 x12_2))) (ds := [9, 11]) ⟨(blk_cell BK253.out 0).trans rfl, (blk_cell BK253.out 1).trans rfl, (blk_cell BK253.out 2).trans rfl, hx260_0⟩ (fun hHeld => ?_); refine with_tabW spec_l04Pivot.tab13 spec_l04Pivot.bits13 (fun HT_ HW_ => ?_)
             generalize w47.drew = w48 at HO_8 HO_254002 HO259 BK241 BK242 BK253 HB hx260_0 hHeld ⊢
             refine pu_ 0 57 ?_; refine pu_ 2 59 ?_; refine pu_ 3 60 ?_; refine pu_ 4 61 ?_; refine pu_ 5 62 ?_; refine tk_ 1 58 ?_; refine tk_ 6 63 ?_; refine pu_ 7 64 ?_
             refine on_ 8 (some 65) (fun K hK => ?_)
             refine value_ (w1 := ?_) (v := ?_) (by rfl) rfl ?_ ?_
             rotate_left 2
             ·go_simp
              constructor
              ·rfl
              ·rfl
             refine hK.out _ _ ⟨(blk_cell (blk_alloc BK253.out _) 0).trans rfl, (blk_cell (blk_alloc BK253.out _) 1).trans rfl, (blk_cell (blk_alloc BK253.out _) 2).trans rfl, (World.cell?_alloc_lt _ _ _ (World.block_lt_of_cell? _ _ (hHeld.2.2.2))).trans (hHeld.2.2.2)⟩ (fun hHeld => ?_)
             clear hK K
             refine norm_ (a' := ?_) ?_ ?_
             rotate_left
             ·show Act.put _ (some 65) _ = _
              simp only [Act.put, List.setIfInBounds_toArray, List.set_cons_zero, List.set_cons_succ, i64_w, i32_w]
              rfl
             refine la_ 9 (some 66) (fun K hK => ?_)
             refine Kd.R_append_step (Kd.int .i64) (w0 := w) w.heap.size (by rfl) (.tmp 58) (.tmp 65) 23 2 (.int .i64 0) 8 rfl Try.underlying23 info2 rfl (by decide) (by omega) u254002 x254002_2 (wrap64 (x10_13 * (rd t243 x12_2))) [.int .i64 (wrap64 (x10_13 * (rd t243 x12_2)))] (fun k_ => some k_ ≠ (.slice (some ad260) t243.length co49 : Value).ownBlock) (fun _ => False) rfl rfl ?aP (fun _ hk => hk.elim) ?aF ?aO ?aB ?aS ?aL ?_
             (case aP => exact rfl)
             (case aB => exact hb_)
             (case aF => exact (fun k_ hk => Kd.fresh' (Kd.R_lt (ro_ HO_8.out)) k_ hk))
             (case aO => exact (ro_ HO_254002.out))
             (case aS => exact bz_)
             (case aL => have := LMc39.out; omega)
             intro v262 w50 ho hb hg hat
             rw [← Ny261.out] at ho
             have n0_ := Aside0.mk (Kd.R_after (ok := (fun _ => True)) (by (with_reducible repeat (first | apply Kd.R_alloc | apply Kd.R_drewN | apply Kd.R_drew)); exact Kd.R_mono HO_8.out (fun _ hk => ⟨trivial, hk⟩)) hg hat)
             have n1_ := Aside0.mk (bg_ BK241.out hg (Kd.R_ne HO_254002.out BK241.out (by decide)))
             have n2_ := Aside0.mk (bg_ BK242.out hg (Kd.R_ne HO_254002.out BK242.out (by decide)))
             have n3_ := Aside0.mk (bg_ BK253.out hg (Kd.R_ne HO_254002.out BK253.out (by decide)))
             have n4_ := Aside0.mk (Kd.S_after (ok := (fun k_ => some k_ ≠ (.slice (some ad260) t243.length co49 : Value).ownBlock)) (so_ HO259.out) hg hat)
             have n5_ := Aside0.mk (hb)
             have n6_ := Aside0.mk (ho)
             clear HO_8
             clear BK241
             clear BK242
             clear BK253
             clear HO259
             clear HB
             clear HO_254002
             have HO_8 := n0_
             have BK241 := n1_
             have BK242 := n2_
             have BK253 := n3_
             have HO259 := n4_
             have HB := n5_
             have HO263 := n6_
             clear n0_ n1_ n2_ n3_ n4_ n5_ n6_
             clear ho hb hg hat
             obtain ⟨Ao51, co51, eo51⟩ := Kd.R_slice HO263.out
             (first | subst eo51 | (injection eo51 with f1_ f2_ f3_; have f4_ := f1_.symm; have f5_ := f3_.symm; clear f1_ f2_ f3_; subst f4_; subst f5_))
             refine hK.out _ _ ?_
             clear hK K
             refine norm_ (a' := ?_) ?_ ?_
             rotate_left
             ·show Act.put _ (some 66) _ = _
              simp only [Act.put, List.setIfInBounds_toArray, List.set_cons_zero, List.set_cons_succ, i64_w, i32_w]
              rfl
             refine pu_ 10 67 ?_
             refine la_ 11 none (fun K hK => ?_)
             have hs52 : w50.cell? ⟨gb253, 2, none⟩ = some (u254002) := (blk_cell BK253.out 2).trans rfl
             have hfs52 := blk_frozen BK253.out 2
             have hns52_0 := NB241_253.out
             have hns52_1 := NB242_253.out
             have hms52_0 := NB253_241.out
             have hms52_1 := NB253_242.out
             refine skip_ (w1 := ?_) (by rfl) rfl ?_ ?_
             rotate_left
             ·go_simp
              rfl
             refine hK.out _ _ ?_
             clear hK K
             refine done_ (done_of HT_.out (by kernel_rfl)) ?_
             try go_wp2
             go_roundg k2
             case measure => have := HJ13.out; have := HK2.out; omega
             case rel => exact ⟨(wrap64 (x12_2 + 1)), (y257), (y261), (.slice Ao45 y257.length co45), (.slice Ao51 y261.length co51), (by first | rfl | (simp; done) | (simp [*]; done)), H', ⟨by have := HJ13.out; have := HK2.out; omega⟩, ⟨by (with_reducible repeat (first | apply Kd.R_alloc | apply Kd.R_drewN | apply Kd.R_drew)); exact Kd.R_mono (Kd.R_far (p := ⟨gb253, 2, none⟩) (Kd.R_types HO_8.out BK253.out (by decide)) (fun _ hk => hk.2) (.slice Ao51 y261.length co51)) (fun _ hk => hk.1.2)⟩, ⟨by (with_reducible repeat (first | apply Kd.S_alloc | apply Kd.S_drewN | apply Kd.S_drew)); exact Kd.S_mono (Kd.S_far (p := ⟨gb253, 2, none⟩) (Kd.S_types HO259.out BK253.out (by decide)) (fun _ hk => hk.2) (.slice Ao51 y261.length co51)) (fun _ hk => ⟨hk.1.1, hk.1.2⟩)⟩, ⟨by (with_reducible repeat (first | apply Kd.R_alloc | apply Kd.R_drewN | apply Kd.R_drew)); exact Kd.R_mono (Kd.R_far (p := ⟨gb253, 2, none⟩) (Kd.R_types HO263.out BK253.out (by decide)) (fun _ hk => hk.2) (.slice Ao51 y261.length co51)) (fun _ hk => hk.1)⟩, ⟨by (with_reducible repeat (first | refine blk_drewN ?_ _ | refine blk_drew ?_ | refine blk_alloc ?_ _)); refine blk_far ?_ NB241_253.out _; (with_reducible repeat (first | refine blk_drewN ?_ _ | refine blk_drew ?_ | refine blk_alloc ?_ _)); exact BK241.out⟩, ⟨by (with_reducible repeat (first | refine blk_drewN ?_ _ | refine blk_drew ?_ | refine blk_alloc ?_ _)); refine blk_far ?_ NB242_253.out _; (with_reducible repeat (first | refine blk_drewN ?_ _ | refine blk_drew ?_ | refine blk_alloc ?_ _)); exact BK242.out⟩, ⟨by (with_reducible repeat (first | refine blk_drewN ?_ _ | refine blk_drew ?_ | refine blk_alloc ?_ _)); refine blk_put (cs := #[.int .i64 (wrap64 (x10_13 * t244)), .slice Ao45 y257.length co45, u254002]) ?_ 2 _ rfl; (with_reducible repeat (first | refine blk_drewN ?_ _ | refine blk_drew ?_ | refine blk_alloc ?_ _)); exact BK253.out⟩, ⟨hb_⟩⟩
            ·rw [if_neg c39] at H
             exact absurd H (by simp)
           ·rw [if_neg c38] at H
            exact absurd H (by simp)
          ·rw [if_neg c37] at H
           exact absurd H (by simp)
         ·rw [if_neg c36] at H
          exact absurd H (by simp)
        ·rw [if_neg c35] at H
         exact absurd H (by simp)
       ·rw [if_neg c34] at H
        exact absurd H (by simp)
      ·rw [if_neg c33] at H
       have c33b0 : decide (x12_2 < (l0_1.length : Int)) = false := decide_eq_false c33
       clear c33
       have H' := Aside0.mk H
       clear H
       go_wp2
       go_loopg [13] k2 (fun kq v13 w' => ∃ (x13_3 : Int) (x254001_3 : List (List Int)) (x254002_3 : List Int) (u254001 : Value) (u254002 : Value), v13 = .int .i64 x13_3 ∧ Aside0 (spec_l04Pivot.l1 kq a1 (l0_1.length : Int) l9 x10_13 x13_3 l0_0 l0_1 (wrap64 (x10_13 * t244)) x254001_3 x254002_3 = some (r1, r2, r3, r4)) ∧ Aside0 (kq ≤ k2) ∧ Aside0 (Kd.S (Kd.slice 2 (Kd.int .i64)) 23 w' w.heap.size (fun k_ => some k_ ≠ (u254002 : Value).ownBlock) u254001 x254001_3) ∧ Aside0 (Kd.R (Kd.int .i64) 2 w' w.heap.size (fun _ => True) u254002 x254002_3) ∧ Aside0 (w'.heap[gb241]? = some (.cells #[(.slice A0_0 l0_0.length c0_0), (.slice A0_1 l0_1.length c0_1)] 29 (0, 0))) ∧ Aside0 (w'.heap[gb242]? = some (.cells #[.int .i64 0, (.slice none 0 0), (.slice none 0 0)] 75 (0, 0))) ∧ Aside0 (w'.heap[gb253]? = some (.cells #[.int .i64 (wrap64 (x10_13 * t244)), u254001, u254002] 75 (0, 0))) ∧ Aside0 (Below w.heap.size w w'))
       case atStart => exact ⟨(0), (x254001_2), (x254002_2), (u254001), (u254002), (by first | rfl | (simp; done) | (simp [*]; done)), H', ⟨Nat.le_refl _⟩, ⟨by (with_reducible repeat (first | apply Kd.S_alloc | apply Kd.S_drewN | apply Kd.S_drew)); exact Kd.S_mono HO_254001.out (fun _ hk => hk.2)⟩, ⟨by (with_reducible repeat (first | apply Kd.R_alloc | apply Kd.R_drewN | apply Kd.R_drew)); exact Kd.R_mono HO_254002.out (fun _ hk => trivial)⟩, ⟨bk_⟩, ⟨bk_⟩, ⟨bk_⟩, ⟨hb_⟩⟩
       case round =>
        clear H'
        try clear c1
        try clear c2
        try clear p2
        try clear q2
        try clear hx2
        try clear c3
        try clear c5
        try clear c5b0
        try clear c5b1
        try clear p6
        try clear c7
        try clear c9
        try clear c10
        try clear c19
        try clear c22
        try clear c22b0
        try clear p26
        try clear q26
        try clear hx26
        try clear c30
        try clear c31
        try clear c33
        try clear c33b0
        try clear c34
        try clear c34b0
        try clear c34b1
        try clear c35
        try clear c35b0
        try clear c35b1
        try clear c36
        try clear c37
        try clear c37b0
        try clear c38
        try clear c38b0
        try clear c39
        try clear hcz11_0
        try clear hcz11_1
        try clear hcz13_0
        try clear hcz13_1
        try clear hcz13_2
        try clear hcz20_0
        try clear hcz20_1
        try clear hcz32_0
        try clear hcz32_1
        try clear hcz32_2
        try clear hfz11_0
        try clear hfz11_1
        try clear hfz13_0
        try clear hfz13_1
        try clear hfz13_2
        try clear hfz20_0
        try clear hfz20_1
        try clear hfz32_0
        try clear hfz32_1
        try clear hfz32_2
        try clear hx260_0
        try clear p2
        try clear p260
        try clear p6
        try clear q260
        obtain ⟨x13_3, x254001_3, x254002_3, u254001, u254002, rfl, HA, HK3, HO_254001, HO_254002, BK241, BK242, BK253, HB⟩ := hrel
        cases gk with
        | zero => exact absurd HA.out (by simp [spec_l04Pivot.l1])
        | succ k3 =>
         have H := HA.out
         clear HA
         simp only [spec_l04Pivot.l1] at H
         by_cases c53 : x13_3 < (l0_1.length : Int)
         ·rw [if_pos c53] at H
          have c53b0 : decide (x13_3 < (l0_1.length : Int)) = true := decide_eq_true c53
          clear c53
          by_cases c54 : 0 ≤ (l0_1.length : Int)
          ·rw [if_pos c54] at H
           have c54b0 := eq_true c54
           have c54b1 : decide (0 ≤ (l0_1.length : Int)) = true := decide_eq_true c54
           clear c54
           by_cases c55 : ((l0_1.length : Int) : Int).toNat ≤ 35184372088832
           ·rw [if_pos c55] at H
            have c55b0 := eq_true c55
            have c55b1 : decide (((l0_1.length : Int) : Int).toNat ≤ 35184372088832) = true := decide_eq_true c55
            clear c55
            obtain ⟨y264, hy264⟩ : ∃ y_ : List Int, y_ = (List.replicate ((l0_1.length : Int) : Int).toNat 0) := ⟨_, rfl⟩
            replace H : (spec_l04Pivot.l2 k3 a1 (l0_1.length : Int) l9 x10_13 x13_3 y264 0 l0_0 l0_1 (wrap64 (x10_13 * t244)) x254001_3 x254002_3) = some (r1, r2, r3, r4) := by first | (rw [hy264]; with_reducible exact H) | (have H2_ := (Option.bind_some _ _).symm.trans H; rw [hy264]; with_reducible exact H2_) | (have H2_ := (Option.bind_some _ _).symm.trans H; with_reducible exact H2_) | with_reducible exact H | (rw [hy264]; exact H) | exact H
            have Ny264 := Aside0.mk hy264
            clear hy264
            have H' := Aside0.mk H
            clear H
            go_wp2_with (first | ((with_reducible refine gate_dst (N := 74) rfl ?_); refine Kd.R_make (Kd.int .i64) _ 2 rfl (N := 74) rfl 23 _ _ rfl (l0_1.length : Int) rfl rfl Try.underlying23 (.int .i64 0) 8 info2 rfl (by decide) (by omega) 0 (ok := fun _ => True) (okp := fun _ => True) rfl (fun _ hk => hk) trivial (of_decide_eq_true (by first | (with_reducible assumption) | assumption)) (Nat.le_trans (Nat.mul_le_mul_right _ (of_decide_eq_true (by first | (with_reducible assumption) | assumption) : (l0_1.length : Int).toNat ≤ 35184372088832)) (by omega)) (Below.refl _ _) (Nat.le_refl _) ?_; intro v265 w56 ho57 hb hg_ hnew_; clear hg_ hnew_; (first | rw [← Ny264.out] at ho57 | (simp only [Int.reduceToNat] at ho57; rw [← Ny264.out] at ho57)); have n0_ := Aside0.mk (Kd.S_elder' (so_ HO_254001.out) (Kd.R_base ho57) hb); have n1_ := Aside0.mk (Kd.R_elder' (ro_ HO_254002.out) (Kd.R_base ho57) hb); have n2_ := Aside0.mk (Kd.R_lower (Kd.R_new' ho57 (Kd.R_lt (ro_ HO_254002.out))) bz_); have n3_ := Aside0.mk (bb_ BK241.out hb); have n4_ := Aside0.mk (bb_ BK242.out hb); have n5_ := Aside0.mk (bb_ BK253.out hb); have n6_ := Aside0.mk (bs_ hb); clear HO_254001; clear HO_254002; clear BK241; clear BK242; clear BK253; clear HB; have HO_254001 := n0_; have HO_254002 := n1_; have HO266 := n2_; have BK241 := n3_; have BK242 := n4_; have BK253 := n5_; have HB := n6_; clear n0_ n1_ n2_ n3_ n4_ n5_ n6_; clear hb ho57))
            go_loopg [15] k3 (fun kq v15 w' => ∃ (x14_4 : List Int) (x15_4 : Int), v15 = .int .i64 x15_4 ∧ Aside0 (spec_l04Pivot.l2 kq a1 (l0_1.length : Int) l9 x10_13 x13_3 x14_4 x15_4 l0_0 l0_1 (wrap64 (x10_13 * t244)) x254001_3 x254002_3 = some (r1, r2, r3, r4)) ∧ Aside0 (kq ≤ k3) ∧ Aside0 (Kd.R (Kd.int .i64) 2 w' w.heap.size (fun k_ => some k_ ≠ (u254002 : Value).ownBlock) v265 x14_4) ∧ Aside0 (Kd.S (Kd.slice 2 (Kd.int .i64)) 23 w' w.heap.size (fun k_ => some k_ ≠ (v265 : Value).ownBlock ∧ some k_ ≠ (u254002 : Value).ownBlock) u254001 x254001_3) ∧ Aside0 (Kd.R (Kd.int .i64) 2 w' w.heap.size (fun k_ => some k_ ≠ (v265 : Value).ownBlock) u254002 x254002_3) ∧ Aside0 (w'.heap[gb241]? = some (.cells #[(.slice A0_0 l0_0.length c0_0), (.slice A0_1 l0_1.length c0_1)] 29 (0, 0))) ∧ Aside0 (w'.heap[gb242]? = some (.cells #[.int .i64 0, (.slice none 0 0), (.slice none 0 0)] 75 (0, 0))) ∧ Aside0 (w'.heap[gb253]? = some (.cells #[.int .i64 (wrap64 (x10_13 * t244)), u254001, u254002] 75 (0, 0))) ∧ Aside0 (Below w.heap.size w w'))
            case atStart => exact ⟨(y264), (0), (by first | rfl | (simp; done) | (simp [*]; done)), H', ⟨Nat.le_refl _⟩, ⟨by (with_reducible repeat (first | apply Kd.R_alloc | apply Kd.R_drewN | apply Kd.R_drew)); exact Kd.R_mono HO266.out (fun _ hk => hk.2)⟩, ⟨by (with_reducible repeat (first | apply Kd.S_alloc | apply Kd.S_drewN | apply Kd.S_drew)); exact Kd.S_mono HO_254001.out (fun _ hk => ⟨hk.2, hk.1⟩)⟩, ⟨by (with_reducible repeat (first | apply Kd.R_alloc | apply Kd.R_drewN | apply Kd.R_drew)); exact Kd.R_mono HO_254002.out (fun _ hk => hk.2)⟩, ⟨bk_⟩, ⟨bk_⟩, ⟨bk_⟩, ⟨hb_⟩⟩
            case round =>
             clear H'
             try clear c1
             try clear c2
             try clear p2
             try clear q2
             try clear hx2
             try clear c3
             try clear c5
             try clear c5b0
             try clear c5b1
             try clear p6
             try clear c7
             try clear c9
             try clear c10
             try clear c19
             try clear c22
             try clear c22b0
             try clear p26
             try clear q26
             try clear hx26
             try clear c30
             try clear c31
             try clear c33
             try clear c33b0
             try clear c34
             try clear c34b0
             try clear c34b1
             try clear c35
             try clear c35b0
             try clear c35b1
             try clear c36
             try clear c37
             try clear c37b0
             try clear c38
             try clear c38b0
             try clear c39
             try clear c53
             try clear c53b0
             try clear c54
             try clear c54b0
             try clear c54b1
             try clear c55
             try clear c55b0
             try clear c55b1
             try clear hcz11_0
             try clear hcz11_1
             try clear hcz13_0
             try clear hcz13_1
             try clear hcz13_2
             try clear hcz20_0
             try clear hcz20_1
             try clear hcz32_0
             try clear hcz32_1
             try clear hcz32_2
             try clear hfz11_0
             try clear hfz11_1
             try clear hfz13_0
             try clear hfz13_1
             try clear hfz13_2
             try clear hfz20_0
             try clear hfz20_1
             try clear hfz32_0
             try clear hfz32_1
             try clear hfz32_2
             try clear hx260_0
             try clear p2
             try clear p26
             try clear p260
             try clear p6
             try clear q2
             try clear q26
             try clear q260
             obtain ⟨x14_4, x15_4, rfl, HA, HK4, HO_14, HO_254001, HO_254002, BK241, BK242, BK253, HB⟩ := hrel
             cases gk with
             | zero => exact absurd HA.out (by simp [spec_l04Pivot.l2])
             | succ k4 =>
              have H := HA.out
              clear HA
              simp only [spec_l04Pivot.l2] at H
              by_cases c58 : x15_4 < (l0_1.length : Int)
              ·rw [if_pos c58] at H
               have c58b0 : decide (x15_4 < (l0_1.length : Int)) = true := decide_eq_true c58
               clear c58
               obtain ⟨ji59, hji59⟩ : ∃ j_ : Int, (IntKind.u64.wrap (x13_3)) = j_ := ⟨_, rfl⟩
               replace H : (if 0 ≤ (ji59) then (if (Go.bits .and .i64 (shr .i64 a1 (ji59)) 1) = 0 then (if 0 ≤ x15_4 then (if x15_4 < (l0_0.length : Int) then (if 0 ≤ x13_3 then (if x13_3 < ((rd_L1 l0_0 x15_4).length : Int) then (if x15_4 < (x14_4.length : Int) then (spec_l04Pivot.l2 k4 a1 (l0_1.length : Int) l9 x10_13 x13_3 (x14_4.set (x15_4 : Int).toNat (rd (rd_L1 l0_0 x15_4) x13_3)) (wrap64 (x15_4 + 1)) l0_0 l0_1 (wrap64 (x10_13 * t244)) x254001_3 x254002_3) else (none)) else (none)) else (none)) else (none)) else (none)) else (spec_l04Pivot.l2 k4 a1 (l0_1.length : Int) l9 x10_13 x13_3 x14_4 (wrap64 (x15_4 + 1)) l0_0 l0_1 (wrap64 (x10_13 * t244)) x254001_3 x254002_3)) else (none)) = some (r1, r2, r3, r4) := by first | (rw [hji59] at H; exact H) | (simp only [hji59] at H ⊢; exact H)
               by_cases c60 : 0 ≤ (ji59)
               ·rw [if_pos c60] at H
                have c60b0 := eq_true c60
                have c60b1 : decide (0 ≤ (ji59)) = true := decide_eq_true c60
                clear c60
                obtain ⟨ji61, hji61⟩ : ∃ j_ : Int, (shr .i64 a1 (ji59)) = j_ := ⟨_, rfl⟩
                replace H : (if (Go.bits .and .i64 (ji61) 1) = 0 then (if 0 ≤ x15_4 then (if x15_4 < (l0_0.length : Int) then (if 0 ≤ x13_3 then (if x13_3 < ((rd_L1 l0_0 x15_4).length : Int) then (if x15_4 < (x14_4.length : Int) then (spec_l04Pivot.l2 k4 a1 (l0_1.length : Int) l9 x10_13 x13_3 (x14_4.set (x15_4 : Int).toNat (rd (rd_L1 l0_0 x15_4) x13_3)) (wrap64 (x15_4 + 1)) l0_0 l0_1 (wrap64 (x10_13 * t244)) x254001_3 x254002_3) else (none)) else (none)) else (none)) else (none)) else (none)) else (spec_l04Pivot.l2 k4 a1 (l0_1.length : Int) l9 x10_13 x13_3 x14_4 (wrap64 (x15_4 + 1)) l0_0 l0_1 (wrap64 (x10_13 * t244)) x254001_3 x254002_3)) = some (r1, r2, r3, r4) := by first | (rw [hji61] at H; exact H) | (simp only [hji61] at H ⊢; exact H)
                have hji61_ : (a1 / 2 ^ min (ji59).toNat 64) = ji61 := hji61
                have hji61z : (ji59) ≤ 64 → (a1 / 2 ^ (ji59).toNat) = ji61 := shr_small hji61
                by_cases c62 : (Go.bits .and .i64 (ji61) 1) = 0
                ·rw [if_pos c62] at H
                 have c62b0 : ((Go.bits .and .i64 (ji61) 1) == 0) = true := beq_iff_eq.mpr c62
                 have c62b1 : ((Go.bits .and .i64 (ji61) 1) != 0) = false := bne_eq_false_iff_eq.mpr c62
                 clear c62
                 by_cases c63 : 0 ≤ x15_4
                 ·rw [if_pos c63] at H
                  have c63b0 : decide (0 ≤ x15_4) = true := decide_eq_true c63
                  clear c63
                  by_cases c64 : x15_4 < (l0_0.length : Int)
                  ·rw [if_pos c64] at H
                   have c64b0 : decide (x15_4 < (l0_0.length : Int)) = true := decide_eq_true c64
                   clear c64
                   by_cases c65 : 0 ≤ x13_3
                   ·rw [if_pos c65] at H
                    have c65b0 : decide (0 ≤ x13_3) = true := decide_eq_true c65
                    clear c65
                    by_cases c66 : x13_3 < ((rd_L1 l0_0 x15_4).length : Int)
                    ·rw [if_pos c66] at H
                     have c66b0 : decide (x13_3 < ((rd_L1 l0_0 x15_4).length : Int)) = true := decide_eq_true c66
                     clear c66
                     by_cases c67 : x15_4 < (x14_4.length : Int)
                     ·rw [if_pos c67] at H
                      have c67b0 : decide (x15_4 < (x14_4.length : Int)) = true := decide_eq_true c67
                      clear c67
                      obtain ⟨y269, hy269⟩ : ∃ y_ : List Int, y_ = (x14_4.set (x15_4 : Int).toNat (rd (rd_L1 l0_0 x15_4) x13_3)) := ⟨_, rfl⟩
                      replace H : (spec_l04Pivot.l2 k4 a1 (l0_1.length : Int) l9 x10_13 x13_3 y269 (wrap64 (x15_4 + 1)) l0_0 l0_1 (wrap64 (x10_13 * t244)) x254001_3 x254002_3) = some (r1, r2, r3, r4) := by first | (rw [hy269]; with_reducible exact H) | (have H2_ := (Option.bind_some _ _).symm.trans H; rw [hy269]; with_reducible exact H2_) | (have H2_ := (Option.bind_some _ _).symm.trans H; with_reducible exact H2_) | with_reducible exact H | (rw [hy269]; exact H) | exact H
                      have Ny269 := Aside0.mk hy269
                      clear hy269
                      have H' := Aside0.mk H
                      clear H
                      have hnb69 := NB241_242.out
                      have hnc69 := NB242_241.out
                      have hnb70 := NB241_253.out
                      have hnc70 := NB253_241.out
                      have hcz71_0 : wr.cell? ⟨gb241, 0, none⟩ = some (.slice A0_0 l0_0.length c0_0) := (blk_cell BK241.out 0).trans rfl
                      have hcz71_1 : wr.cell? ⟨gb241, 1, none⟩ = some (.slice A0_1 l0_1.length c0_1) := (blk_cell BK241.out 1).trans rfl
                      have hfz71_0 := blk_frozen BK241.out 0
                      have hfz71_1 := blk_frozen BK241.out 1
                      have p267 : 0 ≤ (x15_4 : Int) := of_decide_eq_true (by first | (with_reducible assumption) | assumption)
                      have q267 : x15_4 < (l0_0.length : Int) := of_decide_eq_true (by first | (with_reducible assumption) | assumption)
                      obtain ⟨ad267, A267_0, c267_0, e267, hx267_0, hl267_0, hi267_0⟩ := at_L1 HR0_0.out x15_4 p267 q267
                      cases e267
                      replace hx267_0 := (HB.out.cell (World.block_lt_of_cell? w _ hx267_0)).trans hx267_0
                      have HR267_0 := Aside0.mk hi267_0
                      have HC267_0 := Aside0.mk hl267_0
                      clear hi267_0 hl267_0
                      replace p267 := eq_true p267
                      replace q267 := eq_true q267
                      have p268 : 0 ≤ (x13_3 : Int) := of_decide_eq_true (by first | (with_reducible assumption) | assumption)
                      have q268 : x13_3 < ((rd_L1 l0_0 x15_4).length : Int) := of_decide_eq_true (by first | (with_reducible assumption) | assumption)
                      obtain ⟨ad268, e268, hx268_0⟩ := Kd.at_int HR267_0.out x13_3 p268 q268
                      cases e268
                      replace hx268_0 := (HB.out.cell (World.block_lt_of_cell? w _ hx268_0)).trans hx268_0
                      replace p268 := eq_true p268
                      replace q268 := eq_true q268
                      have p68 : 0 ≤ (x15_4 : Int) := of_decide_eq_true (by first | (with_reducible assumption) | assumption)
                      have q68 : (x15_4 : Int) < ((x14_4.length : Int) : Int) := of_decide_eq_true (by first | (with_reducible assumption) | assumption)
                      obtain ⟨go68, co68, eo68, gb68, gl68, cl68, HG68⟩ := Kd.R_form HO_14.out (by omega)
                      (first | cases eo68 | (injection eo68 with ea_ en_ ec_; (first | subst ea_ | (injection ea_ with ea_; subst ea_)); subst ec_; clear en_))
                      have GB68 := Aside0.mk gb68
                      have GG68 := Aside0.mk HG68
                      clear gb68 gl68 HG68
                      obtain ⟨hx68_0, hf68_0⟩ := Kd.R_celln 0 HO_14.out (x15_4 : Int) p68 q68
                      replace p68 := eq_true p68
                      replace q68 := eq_true q68
                      have HP72 := Kd.R_putg HO_14.out (x15_4 : Int) (rd (rd_L1 l0_0 x15_4) x13_3)
                      go_wp2_with (first | ((with_reducible refine gate_store (t := 2) (p := 96) rfl ?_); refine store_event (t := 2) (p := 96) (v := ?vo_w73) (w1 := (wr.setCell ⟨go68, (x15_4 : Int).toNat, none⟩ (.int .i64 (rd (rd_L1 l0_0 x15_4) x13_3)))) ?hg ?ho ?hn ?hr ?_; (case ho => rfl); (case hg => rfl); (case hn => rfl); (case hr => first | (go_simp; done) | (go_simp; rfl)); intro w73 hw; have hg : wr.grownBy w73 (some go68) := (by rw [hw]; exact HP72.2); have hp_ : Kd.R (Kd.int .i64) 2 w73 w.heap.size (fun k_ => some k_ ≠ (u254002 : Value).ownBlock) (.slice (some ⟨go68, 0, none⟩) x14_4.length co68) y269 := (by rw [hw, Ny269.out]; exact HP72.1); clear HP72; have n0_ := Aside0.mk (hp_); have n1_ := Aside0.mk (Kd.S_after (v := (.slice (some ⟨go68, 0, none⟩) x14_4.length co68)) (v1 := (.slice (some ⟨go68, 0, none⟩) x14_4.length co68)) (ok := (fun k_ => some k_ ≠ (u254002 : Value).ownBlock)) (by (with_reducible repeat (first | apply Kd.S_alloc | apply Kd.S_drewN | apply Kd.S_drew)); exact Kd.S_mono HO_254001.out (fun _ hk => ⟨hk.2, hk.1⟩)) hg (.inl rfl)); have n2_ := Aside0.mk (Kd.R_after (v := (.slice (some ⟨go68, 0, none⟩) x14_4.length co68)) (v1 := (.slice (some ⟨go68, 0, none⟩) x14_4.length co68)) (ok := (fun _ => True)) (by (with_reducible repeat (first | apply Kd.R_alloc | apply Kd.R_drewN | apply Kd.R_drew)); exact Kd.R_mono HO_254002.out (fun _ hk => ⟨trivial, hk⟩)) hg (.inl rfl)); have n3_ := Aside0.mk (bg_ BK241.out hg (Kd.R_ne HO_14.out BK241.out (by decide))); have n4_ := Aside0.mk (bg_ BK242.out hg (Kd.R_ne HO_14.out BK242.out (by decide))); have n5_ := Aside0.mk (bg_ BK253.out hg (Kd.R_ne HO_14.out BK253.out (by decide))); have n6_ := Aside0.mk ((by rw [hw]; exact below_set (HB.out) GB68.out : Below w.heap.size w w73)); clear HO_14; clear HO_254001; clear HO_254002; clear BK241; clear BK242; clear BK253; clear HB; have HO_14 := n0_; have HO_254001 := n1_; have HO_254002 := n2_; have BK241 := n3_; have BK242 := n4_; have BK253 := n5_; have HB := n6_; clear n0_ n1_ n2_ n3_ n4_ n5_ n6_; clear hg hw hp_))
                      go_roundg k4
                      case measure => have := HJ13.out; have := HK2.out; have := HK3.out; have := HK4.out; omega
                      case rel => exact ⟨(y269), (wrap64 (x15_4 + 1)), (by first | rfl | (simp; done) | (simp [*]; done)), H', ⟨by have := HJ13.out; have := HK2.out; have := HK3.out; have := HK4.out; omega⟩, ⟨ro_ HO_14.out⟩, ⟨by (with_reducible repeat (first | apply Kd.S_alloc | apply Kd.S_drewN | apply Kd.S_drew)); exact Kd.S_mono HO_254001.out (fun _ hk => ⟨hk.2, hk.1⟩)⟩, ⟨by (with_reducible repeat (first | apply Kd.R_alloc | apply Kd.R_drewN | apply Kd.R_drew)); exact Kd.R_mono HO_254002.out (fun _ hk => hk.2)⟩, ⟨bk_⟩, ⟨bk_⟩, ⟨bk_⟩, ⟨hb_⟩⟩
                     ·rw [if_neg c67] at H
                      exact absurd H (by simp)
                    ·rw [if_neg c66] at H
                     exact absurd H (by simp)
                   ·rw [if_neg c65] at H
                    exact absurd H (by simp)
                  ·rw [if_neg c64] at H
                   exact absurd H (by simp)
                 ·rw [if_neg c63] at H
                  exact absurd H (by simp)
                ·rw [if_neg c62] at H
                 have c62b0 : ((Go.bits .and .i64 (ji61) 1) == 0) = false := beq_eq_false_iff_ne.mpr c62
                 have c62b1 : ((Go.bits .and .i64 (ji61) 1) != 0) = true := bne_iff_ne.mpr c62
                 have H' := Aside0.mk H
                 clear H
                 go_wp2
                 go_roundg k4
                 case measure => have := HJ13.out; have := HK2.out; have := HK3.out; have := HK4.out; omega
                 case rel => exact ⟨(x14_4), (wrap64 (x15_4 + 1)), (by first | rfl | (simp; done) | (simp [*]; done)), H', ⟨by have := HJ13.out; have := HK2.out; have := HK3.out; have := HK4.out; omega⟩, ⟨ro_ HO_14.out⟩, ⟨so_ HO_254001.out⟩, ⟨ro_ HO_254002.out⟩, ⟨bk_⟩, ⟨bk_⟩, ⟨bk_⟩, ⟨hb_⟩⟩
               ·rw [if_neg c60] at H
                exact absurd H (by simp)
              ·rw [if_neg c58] at H
               have c58b0 : decide (x15_4 < (l0_1.length : Int)) = false := decide_eq_false c58
               clear c58
               try clear hji59
               try clear hji59_
               try clear hji59z
               try clear hji59u
               try clear hji59v
               try clear hji59y
               try clear hji59x
               try clear hji59w
               obtain ⟨ji74, hji74⟩ : ∃ j_ : Int, (IntKind.u64.wrap (x13_3)) = j_ := ⟨_, rfl⟩
               replace H : (if 0 ≤ (ji74) then (if (Go.bits .and .i64 (shr .i64 a1 (ji74)) 1) = 1 then (if 0 ≤ x13_3 then (if x13_3 < (x14_4.length : Int) then (spec_l04Pivot.j4 k4 a1 (l0_1.length : Int) l9 x10_13 x13_3 (x14_4.set (x13_3 : Int).toNat (-1)) l0_0 l0_1 (wrap64 (x10_13 * t244)) x254001_3 x254002_3) else (none)) else (none)) else (spec_l04Pivot.j4 k4 a1 (l0_1.length : Int) l9 x10_13 x13_3 x14_4 l0_0 l0_1 (wrap64 (x10_13 * t244)) x254001_3 x254002_3)) else (none)) = some (r1, r2, r3, r4) := by first | (rw [hji74] at H; exact H) | (simp only [hji74] at H ⊢; exact H)
               by_cases c75 : 0 ≤ (ji74)
               ·rw [if_pos c75] at H
                have c75b0 := eq_true c75
                have c75b1 : decide (0 ≤ (ji74)) = true := decide_eq_true c75
                clear c75
                obtain ⟨ji76, hji76⟩ : ∃ j_ : Int, (shr .i64 a1 (ji74)) = j_ := ⟨_, rfl⟩
                replace H : (if (Go.bits .and .i64 (ji76) 1) = 1 then (if 0 ≤ x13_3 then (if x13_3 < (x14_4.length : Int) then (spec_l04Pivot.j4 k4 a1 (l0_1.length : Int) l9 x10_13 x13_3 (x14_4.set (x13_3 : Int).toNat (-1)) l0_0 l0_1 (wrap64 (x10_13 * t244)) x254001_3 x254002_3) else (none)) else (none)) else (spec_l04Pivot.j4 k4 a1 (l0_1.length : Int) l9 x10_13 x13_3 x14_4 l0_0 l0_1 (wrap64 (x10_13 * t244)) x254001_3 x254002_3)) = some (r1, r2, r3, r4) := by first | (rw [hji76] at H; exact H) | (simp only [hji76] at H ⊢; exact H)
                have hji76_ : (a1 / 2 ^ min (ji74).toNat 64) = ji76 := hji76
                have hji76z : (ji74) ≤ 64 → (a1 / 2 ^ (ji74).toNat) = ji76 := shr_small hji76
                have HC77 := Aside0.mk H
                clear H
                go_upto_if 102 with (fail)
                go_cut [] (fun wc => ∃ (kq : Nat) (x14_76 : List Int), Aside0 (spec_l04Pivot.j4 kq a1 (l0_1.length : Int) l9 x10_13 x13_3 x14_76 l0_0 l0_1 (wrap64 (x10_13 * t244)) x254001_3 x254002_3 = some (r1, r2, r3, r4)) ∧ Aside0 (kq ≤ k4) ∧ Aside0 (Kd.R (Kd.int .i64) 2 wc w.heap.size (fun k_ => some k_ ≠ (u254002 : Value).ownBlock) v265 x14_76) ∧ Aside0 (Kd.S (Kd.slice 2 (Kd.int .i64)) 23 wc w.heap.size (fun k_ => some k_ ≠ (v265 : Value).ownBlock ∧ some k_ ≠ (u254002 : Value).ownBlock) u254001 x254001_3) ∧ Aside0 (Kd.R (Kd.int .i64) 2 wc w.heap.size (fun k_ => some k_ ≠ (v265 : Value).ownBlock) u254002 x254002_3) ∧ Aside0 (wc.heap[gb241]? = some (.cells #[(.slice A0_0 l0_0.length c0_0), (.slice A0_1 l0_1.length c0_1)] 29 (0, 0))) ∧ Aside0 (wc.heap[gb242]? = some (.cells #[.int .i64 0, (.slice none 0 0), (.slice none 0 0)] 75 (0, 0))) ∧ Aside0 (wc.heap[gb253]? = some (.cells #[.int .i64 (wrap64 (x10_13 * t244)), u254001, u254002] 75 (0, 0))) ∧ Aside0 (Below w.heap.size w wc))
                case first =>
                 have H := HC77.out
                 clear HC77
                 by_cases c78 : (Go.bits .and .i64 (ji76) 1) = 1
                 ·rw [if_pos c78] at H
                  have c78b0 : ((Go.bits .and .i64 (ji76) 1) == 1) = true := beq_iff_eq.mpr c78
                  have c78b1 : ((Go.bits .and .i64 (ji76) 1) != 1) = false := bne_eq_false_iff_eq.mpr c78
                  clear c78
                  (first | rw [c78b0] | (simp only [i64_w, i32_w]; rw [c78b0]) | skip)
                  by_cases c79 : 0 ≤ x13_3
                  ·rw [if_pos c79] at H
                   have c79b0 : decide (0 ≤ x13_3) = true := decide_eq_true c79
                   clear c79
                   by_cases c80 : x13_3 < (x14_4.length : Int)
                   ·rw [if_pos c80] at H
                    have c80b0 : decide (x13_3 < (x14_4.length : Int)) = true := decide_eq_true c80
                    clear c80
                    obtain ⟨y270, hy270⟩ : ∃ y_ : List Int, y_ = (x14_4.set (x13_3 : Int).toNat (-1)) := ⟨_, rfl⟩
                    replace H : (spec_l04Pivot.j4 k4 a1 (l0_1.length : Int) l9 x10_13 x13_3 y270 l0_0 l0_1 (wrap64 (x10_13 * t244)) x254001_3 x254002_3) = some (r1, r2, r3, r4) := by first | (rw [hy270]; with_reducible exact H) | (have H2_ := (Option.bind_some _ _).symm.trans H; rw [hy270]; with_reducible exact H2_) | (have H2_ := (Option.bind_some _ _).symm.trans H; with_reducible exact H2_) | with_reducible exact H | (rw [hy270]; exact H) | exact H
                    have Ny270 := Aside0.mk hy270
                    clear hy270
                    have H' := Aside0.mk H
                    clear H
                    have p81 : 0 ≤ (x13_3 : Int) := of_decide_eq_true (by first | (with_reducible assumption) | assumption)
                    have q81 : (x13_3 : Int) < ((x14_4.length : Int) : Int) := of_decide_eq_true (by first | (with_reducible assumption) | assumption)
                    obtain ⟨go81, co81, eo81, gb81, gl81, cl81, HG81⟩ := Kd.R_form HO_14.out (by omega)
                    (first | cases eo81 | (injection eo81 with ea_ en_ ec_; (first | subst ea_ | (injection ea_ with ea_; subst ea_)); subst ec_; clear en_))
                    have GB81 := Aside0.mk gb81
                    have GG81 := Aside0.mk HG81
                    clear gb81 gl81 HG81
                    obtain ⟨hx81_0, hf81_0⟩ := Kd.R_celln 0 HO_14.out (x13_3 : Int) p81 q81
                    replace p81 := eq_true p81
                    replace q81 := eq_true q81
                    have HP82 := Kd.R_putg HO_14.out (x13_3 : Int) (-1)
                    go_wp2_with (first | ((with_reducible refine gate_store (t := 2) (p := 105) rfl ?_); refine store_event (t := 2) (p := 105) (v := ?vo_w83) (w1 := (wr.setCell ⟨go81, (x13_3 : Int).toNat, none⟩ (.int .i64 (-1)))) ?hg ?ho ?hn ?hr ?_; (case ho => rfl); (case hg => rfl); (case hn => rfl); (case hr => first | (go_simp; done) | (go_simp; rfl)); intro w83 hw; have hg : wr.grownBy w83 (some go81) := (by rw [hw]; exact HP82.2); have hp_ : Kd.R (Kd.int .i64) 2 w83 w.heap.size (fun k_ => some k_ ≠ (u254002 : Value).ownBlock) (.slice (some ⟨go81, 0, none⟩) x14_4.length co81) y270 := (by rw [hw, Ny270.out]; exact HP82.1); clear HP82; have n0_ := Aside0.mk (hp_); have n1_ := Aside0.mk (Kd.S_after (v := (.slice (some ⟨go81, 0, none⟩) x14_4.length co81)) (v1 := (.slice (some ⟨go81, 0, none⟩) x14_4.length co81)) (ok := (fun k_ => some k_ ≠ (u254002 : Value).ownBlock)) (by (with_reducible repeat (first | apply Kd.S_alloc | apply Kd.S_drewN | apply Kd.S_drew)); exact Kd.S_mono HO_254001.out (fun _ hk => ⟨hk.2, hk.1⟩)) hg (.inl rfl)); have n2_ := Aside0.mk (Kd.R_after (v := (.slice (some ⟨go81, 0, none⟩) x14_4.length co81)) (v1 := (.slice (some ⟨go81, 0, none⟩) x14_4.length co81)) (ok := (fun _ => True)) (by (with_reducible repeat (first | apply Kd.R_alloc | apply Kd.R_drewN | apply Kd.R_drew)); exact Kd.R_mono HO_254002.out (fun _ hk => ⟨trivial, hk⟩)) hg (.inl rfl)); have n3_ := Aside0.mk (bg_ BK241.out hg (Kd.R_ne HO_14.out BK241.out (by decide))); have n4_ := Aside0.mk (bg_ BK242.out hg (Kd.R_ne HO_14.out BK242.out (by decide))); have n5_ := Aside0.mk (bg_ BK253.out hg (Kd.R_ne HO_14.out BK253.out (by decide))); have n6_ := Aside0.mk ((by rw [hw]; exact below_set (HB.out) GB81.out : Below w.heap.size w w83)); clear HO_14; clear HO_254001; clear HO_254002; clear BK241; clear BK242; clear BK253; clear HB; have HO_14 := n0_; have HO_254001 := n1_; have HO_254002 := n2_; have BK241 := n3_; have BK242 := n4_; have BK253 := n5_; have HB := n6_; clear n0_ n1_ n2_ n3_ n4_ n5_ n6_; clear hg hw hp_))
                    go_meet
                    case rel => exact ⟨_, (y270), H', ⟨by have := HJ13.out; have := HK2.out; have := HK3.out; have := HK4.out; first | omega | exact Nat.le_refl _⟩, ⟨ro_ HO_14.out⟩, ⟨by (with_reducible repeat (first | apply Kd.S_alloc | apply Kd.S_drewN | apply Kd.S_drew)); exact Kd.S_mono HO_254001.out (fun _ hk => ⟨hk.2, hk.1⟩)⟩, ⟨by (with_reducible repeat (first | apply Kd.R_alloc | apply Kd.R_drewN | apply Kd.R_drew)); exact Kd.R_mono HO_254002.out (fun _ hk => hk.2)⟩, ⟨bk_⟩, ⟨bk_⟩, ⟨bk_⟩, ⟨hb_⟩⟩
                   ·rw [if_neg c80] at H
                    exact absurd H (by simp)
                  ·rw [if_neg c79] at H
                   exact absurd H (by simp)
                 ·rw [if_neg c78] at H
                  have c78b0 : ((Go.bits .and .i64 (ji76) 1) == 1) = false := beq_eq_false_iff_ne.mpr c78
                  have c78b1 : ((Go.bits .and .i64 (ji76) 1) != 1) = true := bne_iff_ne.mpr c78
                  (first | rw [c78b0] | (simp only [i64_w, i32_w]; rw [c78b0]) | skip)
                  have H' := Aside0.mk H
                  clear H
                  go_wp2
                  go_meet
                  case rel => exact ⟨_, (x14_4), H', ⟨by have := HJ13.out; have := HK2.out; have := HK3.out; have := HK4.out; first | omega | exact Nat.le_refl _⟩, ⟨ro_ HO_14.out⟩, ⟨so_ HO_254001.out⟩, ⟨ro_ HO_254002.out⟩, ⟨bk_⟩, ⟨bk_⟩, ⟨bk_⟩, ⟨hb_⟩⟩
                case rest =>
                 clear HC77
                 try clear c1
                 try clear c2
                 try clear p2
                 try clear q2
                 try clear hx2
                 try clear c3
                 try clear c5
                 try clear c5b0
                 try clear c5b1
                 try clear c6
                 try clear p6
                 try clear q6
                 try clear hx6
                 try clear hf6
                 try clear c7
                 try clear c8
                 try clear p8
                 try clear q8
                 try clear hx8
                 try clear hf8
                 try clear c9
                 try clear c10
                 try clear c19
                 try clear c22
                 try clear c22b0
                 try clear c26
                 try clear p26
                 try clear q26
                 try clear hx26
                 try clear c30
                 try clear c31
                 try clear c33
                 try clear c33b0
                 try clear c34
                 try clear c34b0
                 try clear c34b1
                 try clear c35
                 try clear c35b0
                 try clear c35b1
                 try clear c36
                 try clear c37
                 try clear c37b0
                 try clear c38
                 try clear c38b0
                 try clear c39
                 try clear c53
                 try clear c53b0
                 try clear c54
                 try clear c54b0
                 try clear c54b1
                 try clear c55
                 try clear c55b0
                 try clear c55b1
                 try clear c58
                 try clear c58b0
                 try clear c60
                 try clear c60b0
                 try clear c60b1
                 try clear c62
                 try clear c62b0
                 try clear c62b1
                 try clear c63
                 try clear c63b0
                 try clear c64
                 try clear c64b0
                 try clear p64
                 try clear c65
                 try clear c65b0
                 try clear c66
                 try clear c66b0
                 try clear c67
                 try clear c67b0
                 try clear p68
                 try clear q68
                 try clear hx68
                 try clear hf68
                 try clear c69
                 try clear c70
                 try clear c75
                 try clear c75b0
                 try clear c75b1
                 try clear c78
                 try clear c78b0
                 try clear c78b1
                 try clear c79
                 try clear c79b0
                 try clear c80
                 try clear c80b0
                 try clear p81
                 try clear q81
                 try clear hx81
                 try clear hf81
                 try clear hcz11_0
                 try clear hcz11_1
                 try clear hcz13_0
                 try clear hcz13_1
                 try clear hcz13_2
                 try clear hcz20_0
                 try clear hcz20_1
                 try clear hcz32_0
                 try clear hcz32_1
                 try clear hcz32_2
                 try clear hcz71_0
                 try clear hcz71_1
                 try clear hfz11_0
                 try clear hfz11_1
                 try clear hfz13_0
                 try clear hfz13_1
                 try clear hfz13_2
                 try clear hfz20_0
                 try clear hfz20_1
                 try clear hfz32_0
                 try clear hfz32_1
                 try clear hfz32_2
                 try clear hfz71_0
                 try clear hfz71_1
                 try clear hx260_0
                 try clear hx267_0
                 try clear hx268_0
                 try clear hx68_0
                 try clear hx81_0
                 try clear p2
                 try clear p26
                 try clear p260
                 try clear p267
                 try clear p268
                 try clear p6
                 try clear p68
                 try clear p81
                 try clear q2
                 try clear q26
                 try clear q260
                 try clear q267
                 try clear q268
                 try clear q68
                 try clear q81
                 obtain ⟨kq, x14_76, HA, HJ76, HO_14, HO_254001, HO_254002, BK241, BK242, BK253, HB⟩ := hcut
                 cases kq with
                 | zero => exact absurd HA.out (by simp [spec_l04Pivot.j4])
                 | succ kj76 =>
                  have H := HA.out
                  clear HA
                  simp only [spec_l04Pivot.j4] at H
                  replace H := Option.bind_eq_some_iff.mp H
                  obtain ⟨⟨t271, t272⟩, A840, H⟩ := H
                  replace H : (spec_l04Pivot.l3 kj76 a1 (l0_1.length : Int) l9 x10_13 x13_3 t271 0 l0_0 l0_1 (wrap64 (x10_13 * t244)) x254001_3 x254002_3) = some (r1, r2, r3, r4) := H
                  have A84 := Aside0.mk A840
                  clear A840
                  have H' := Aside0.mk H
                  clear H
                  obtain ⟨Ao85, co85, eo85⟩ := Kd.R_slice HO_14.out
                  subst eo85
                  go_wp2_with (first | ((with_reducible refine gate_callee (f := 103) rfl ?_); refine goesL_ (some 109) rfl rfl Try.func103 (by kernel_rfl) rfl #[.slice A9 l9.length c9, .slice Ao85 x14_76.length co85] rfl (by (try simp only [List.map_toArray, List.map_cons, List.map_nil]); first | done | rfl | (simp only [List.length_drop, List.length_take]; rfl)) ?_; (with_reducible refine (spec_l01Solve.calls kj76 _ _ l9 _ _ x14_76 t271 t272 _ ?side1 ?side2 ?side3 ?side4 A84.out).mono ?_); (case side1 => exact cb_ HR9.out HB.out); (case side2 => exact HC9.out); (case side3 => repeat (first | exact (Kd.R_reads' HO_14.out).2.2 | (with_reducible refine Kd.C_alloc ?_ _) | (with_reducible refine Kd.C_drewN ?_ _) | (with_reducible refine Kd.C_drew ?_))); (case side4 => exact (Kd.R_reads' HO_14.out).2.1); rintro e w86 ⟨v273, rfl, ho0, hb⟩; refine ⟨_, rfl, ?_⟩; have n0_ := Aside0.mk (Kd.R_elder' (ro_ HO_14.out) (Kd.R_base ho0) hb); have n1_ := Aside0.mk (Kd.S_elder' (so_ HO_254001.out) (Kd.R_base ho0) hb); have n2_ := Aside0.mk (Kd.R_elder' (ro_ HO_254002.out) (Kd.R_base ho0) hb); have n3_ := Aside0.mk (Kd.R_lower (Kd.R_new' (Kd.R_new' ho0 (Kd.R_lt (ro_ HO_14.out))) (Kd.R_lt (ro_ HO_254002.out))) bz_); have n4_ := Aside0.mk (bb_ BK241.out hb); have n5_ := Aside0.mk (bb_ BK242.out hb); have n6_ := Aside0.mk (bb_ BK253.out hb); have n7_ := Aside0.mk (bs_ hb); clear HO_14; clear HO_254001; clear HO_254002; clear BK241; clear BK242; clear BK253; clear HB; have HO_14 := n0_; have HO_254001 := n1_; have HO_254002 := n2_; have HO274 := n3_; have BK241 := n4_; have BK242 := n5_; have BK253 := n6_; have HB := n7_; clear n0_ n1_ n2_ n3_ n4_ n5_ n6_ n7_; (try clear hb); (try clear hb2); (try clear hk); (try clear hi); (try clear ho0)))
                  go_loopg [18] kj76 (fun kq v18 w' => ∃ (x16_6 : List Int) (x18_6 : Int) (x254001_6 : List (List Int)) (x254002_6 : List Int) (u254001 : Value) (u254002 : Value), v18 = .int .i64 x18_6 ∧ Aside0 (spec_l04Pivot.l3 kq a1 (l0_1.length : Int) l9 x10_13 x13_3 x16_6 x18_6 l0_0 l0_1 (wrap64 (x10_13 * t244)) x254001_6 x254002_6 = some (r1, r2, r3, r4)) ∧ Aside0 (kq ≤ kj76) ∧ Aside0 (Kd.R (Kd.int .i64) 2 w' w.heap.size (fun k_ => some k_ ≠ (u254002 : Value).ownBlock) v273 x16_6) ∧ Aside0 (Kd.S (Kd.slice 2 (Kd.int .i64)) 23 w' w.heap.size (fun k_ => some k_ ≠ (v273 : Value).ownBlock ∧ some k_ ≠ (u254002 : Value).ownBlock) u254001 x254001_6) ∧ Aside0 (Kd.R (Kd.int .i64) 2 w' w.heap.size (fun k_ => some k_ ≠ (v273 : Value).ownBlock) u254002 x254002_6) ∧ Aside0 (w'.heap[gb241]? = some (.cells #[(.slice A0_0 l0_0.length c0_0), (.slice A0_1 l0_1.length c0_1)] 29 (0, 0))) ∧ Aside0 (w'.heap[gb242]? = some (.cells #[.int .i64 0, (.slice none 0 0), (.slice none 0 0)] 75 (0, 0))) ∧ Aside0 (w'.heap[gb253]? = some (.cells #[.int .i64 (wrap64 (x10_13 * t244)), u254001, u254002] 75 (0, 0))) ∧ Aside0 (Below w.heap.size w w'))
                  case atStart => exact ⟨(t271), (0), (x254001_3), (x254002_3), (u254001), (u254002), (by first | rfl | (simp; done) | (simp [*]; done)), H', ⟨Nat.le_refl _⟩, ⟨by (with_reducible repeat (first | apply Kd.R_alloc | apply Kd.R_drewN | apply Kd.R_drew)); exact Kd.R_mono HO274.out (fun _ hk => hk.2)⟩, ⟨by (with_reducible repeat (first | apply Kd.S_alloc | apply Kd.S_drewN | apply Kd.S_drew)); exact Kd.S_mono HO_254001.out (fun _ hk => ⟨hk.2, hk.1.2⟩)⟩, ⟨by (with_reducible repeat (first | apply Kd.R_alloc | apply Kd.R_drewN | apply Kd.R_drew)); exact Kd.R_mono HO_254002.out (fun _ hk => hk.2)⟩, ⟨bk_⟩, ⟨bk_⟩, ⟨bk_⟩, ⟨hb_⟩⟩
                  case round =>
                   clear H'
                   try clear c1
                   try clear c2
                   try clear p2
                   try clear q2
                   try clear hx2
                   try clear c3
                   try clear c5
                   try clear c5b0
                   try clear c5b1
                   try clear c6
                   try clear p6
                   try clear q6
                   try clear hx6
                   try clear hf6
                   try clear c7
                   try clear c8
                   try clear p8
                   try clear q8
                   try clear hx8
                   try clear hf8
                   try clear c9
                   try clear c10
                   try clear c19
                   try clear c22
                   try clear c22b0
                   try clear c26
                   try clear p26
                   try clear q26
                   try clear hx26
                   try clear c30
                   try clear c31
                   try clear c33
                   try clear c33b0
                   try clear c34
                   try clear c34b0
                   try clear c34b1
                   try clear c35
                   try clear c35b0
                   try clear c35b1
                   try clear c36
                   try clear c37
                   try clear c37b0
                   try clear c38
                   try clear c38b0
                   try clear c39
                   try clear c53
                   try clear c53b0
                   try clear c54
                   try clear c54b0
                   try clear c54b1
                   try clear c55
                   try clear c55b0
                   try clear c55b1
                   try clear c58
                   try clear c58b0
                   try clear c60
                   try clear c60b0
                   try clear c60b1
                   try clear c62
                   try clear c62b0
                   try clear c62b1
                   try clear c63
                   try clear c63b0
                   try clear c64
                   try clear c64b0
                   try clear p64
                   try clear c65
                   try clear c65b0
                   try clear c66
                   try clear c66b0
                   try clear c67
                   try clear c67b0
                   try clear p68
                   try clear q68
                   try clear hx68
                   try clear hf68
                   try clear c69
                   try clear c70
                   try clear c75
                   try clear c75b0
                   try clear c75b1
                   try clear c78
                   try clear c78b0
                   try clear c78b1
                   try clear c79
                   try clear c79b0
                   try clear c80
                   try clear c80b0
                   try clear p81
                   try clear q81
                   try clear hx81
                   try clear hf81
                   try clear hcz11_0
                   try clear hcz11_1
                   try clear hcz13_0
                   try clear hcz13_1
                   try clear hcz13_2
                   try clear hcz20_0
                   try clear hcz20_1
                   try clear hcz32_0
                   try clear hcz32_1
                   try clear hcz32_2
                   try clear hcz71_0
                   try clear hcz71_1
                   try clear hfz11_0
                   try clear hfz11_1
                   try clear hfz13_0
                   try clear hfz13_1
                   try clear hfz13_2
                   try clear hfz20_0
                   try clear hfz20_1
                   try clear hfz32_0
                   try clear hfz32_1
                   try clear hfz32_2
                   try clear hfz71_0
                   try clear hfz71_1
                   try clear hx260_0
                   try clear hx267_0
                   try clear hx268_0
                   try clear hx68_0
                   try clear hx81_0
                   try clear p2
                   try clear p26
                   try clear p260
                   try clear p267
                   try clear p268
                   try clear p6
                   try clear p64
                   try clear p68
                   try clear p8
                   try clear p81
                   try clear q2
                   try clear q26
                   try clear q260
                   try clear q267
                   try clear q268
                   try clear q6
                   try clear q68
                   try clear q8
                   try clear q81
                   obtain ⟨x16_6, x18_6, x254001_6, x254002_6, u254001, u254002, rfl, HA, HK6, HO_16, HO_254001, HO_254002, BK241, BK242, BK253, HB⟩ := hrel
                   cases gk with
                   | zero => exact absurd HA.out (by simp [spec_l04Pivot.l3])
                   | succ k6 =>
                    have H := HA.out
                    clear HA
                    simp only [spec_l04Pivot.l3] at H
                    by_cases c87 : x18_6 < (l0_1.length : Int)
                    ·rw [if_pos c87] at H
                     have c87b0 : decide (x18_6 < (l0_1.length : Int)) = true := decide_eq_true c87
                     clear c87
                     by_cases c88 : 0 ≤ x18_6
                     ·rw [if_pos c88] at H
                      have c88b0 : decide (0 ≤ x18_6) = true := decide_eq_true c88
                      clear c88
                      by_cases c89 : x18_6 < (x254001_6.length : Int)
                      ·rw [if_pos c89] at H
                       have c89b0 : decide (x18_6 < (x254001_6.length : Int)) = true := decide_eq_true c89
                       clear c89
                       by_cases c90 : x18_6 < (x16_6.length : Int)
                       ·rw [if_pos c90] at H
                        have c90b0 : decide (x18_6 < (x16_6.length : Int)) = true := decide_eq_true c90
                        clear c90
                        by_cases c91 : 0 ≤ x13_3
                        ·rw [if_pos c91] at H
                         have c91b0 : decide (0 ≤ x13_3) = true := decide_eq_true c91
                         clear c91
                         by_cases c92 : x13_3 < ((rd_L1 x254001_6 x18_6).length : Int)
                         ·rw [if_pos c92] at H
                          have c92b0 : decide (x13_3 < ((rd_L1 x254001_6 x18_6).length : Int)) = true := decide_eq_true c92
                          clear c92
                          obtain ⟨y277, hy277⟩ : ∃ y_ : List Int, y_ = ((rd_L1 x254001_6 x18_6).set (x13_3 : Int).toNat (wrap64 (x10_13 * (rd x16_6 x18_6)))) := ⟨_, rfl⟩
                          replace H : (spec_l04Pivot.l3 k6 a1 (l0_1.length : Int) l9 x10_13 x13_3 x16_6 (wrap64 (x18_6 + 1)) l0_0 l0_1 (wrap64 (x10_13 * t244)) (x254001_6.set (x18_6 : Int).toNat y277) x254002_6) = some (r1, r2, r3, r4) := by first | (rw [hy277]; with_reducible exact H) | (have H2_ := (Option.bind_some _ _).symm.trans H; rw [hy277]; with_reducible exact H2_) | (have H2_ := (Option.bind_some _ _).symm.trans H; with_reducible exact H2_) | with_reducible exact H | (rw [hy277]; exact H) | exact H
                          have Ny277 := Aside0.mk hy277
                          clear hy277
                          obtain ⟨y279, hy279⟩ : ∃ y_ : List (List Int), y_ = (x254001_6.set (x18_6 : Int).toNat y277) := ⟨_, rfl⟩
                          replace H : (spec_l04Pivot.l3 k6 a1 (l0_1.length : Int) l9 x10_13 x13_3 x16_6 (wrap64 (x18_6 + 1)) l0_0 l0_1 (wrap64 (x10_13 * t244)) y279 x254002_6) = some (r1, r2, r3, r4) := by first | (rw [hy279]; with_reducible exact H) | (have H2_ := (Option.bind_some _ _).symm.trans H; rw [hy279]; with_reducible exact H2_) | (have H2_ := (Option.bind_some _ _).symm.trans H; with_reducible exact H2_) | with_reducible exact H | (rw [hy279]; exact H) | exact H
                          have Ny279 := Aside0.mk hy279
                          clear hy279
                          have H' := Aside0.mk H
                          clear H
                          have hnb94 := NB253_241.out
                          have hnc94 := NB241_253.out
                          have hnb95 := NB253_242.out
                          have hnc95 := NB242_253.out
                          have hcz96_0 : wr.cell? ⟨gb253, 0, none⟩ = some (.int .i64 (wrap64 (x10_13 * t244))) := (blk_cell BK253.out 0).trans rfl
                          have hcz96_1 : wr.cell? ⟨gb253, 1, none⟩ = some (u254001) := (blk_cell BK253.out 1).trans rfl
                          have hcz96_2 : wr.cell? ⟨gb253, 2, none⟩ = some (u254002) := (blk_cell BK253.out 2).trans rfl
                          have hfz96_0 := blk_frozen BK253.out 0
                          have hfz96_1 := blk_frozen BK253.out 1
                          have hfz96_2 := blk_frozen BK253.out 2
                          obtain ⟨Ao97, co97, eo97⟩ := Kd.S_slice HO_254001.out
                          subst eo97
                          have p275 : 0 ≤ (x18_6 : Int) := of_decide_eq_true (by first | (with_reducible assumption) | assumption)
                          have q275 : x18_6 < (x254001_6.length : Int) := of_decide_eq_true (by first | (with_reducible assumption) | assumption)
                          obtain ⟨ad275, A275_0, c275_0, e275, hx275_0, hl275_0, hi275_0⟩ := at_L1 (Kd.S_reads' HO_254001.out).2.2 x18_6 p275 q275
                          cases e275
                          obtain ⟨ce275, hce275, hMe275, hcc275⟩ := Kd.S_get HO_254001.out [] x18_6 p275 (by first | exact q275 | exact of_decide_eq_true (by first | (with_reducible assumption) | assumption) | (have e_ := (Kd.S_reads' HO_254001.out).1; omega))
                          obtain ⟨ve275_0, rfl, ge275_0⟩ := hMe275
                          have hv275_0 := hcc275 0 _ rfl
                          rw [Nat.add_zero, show ((Kd.slice 2 (Kd.int .i64))).sz = 1 from rfl, Nat.mul_one] at hv275_0
                          replace hv275_0 := Option.some.inj (hv275_0.symm.trans hx275_0)
                          rw [hv275_0] at ge275_0
                          have HL275_0 := Aside0.mk (show Kd.R (Kd.int .i64) 2 _ _ _ _ (rd_L1 x254001_6 x18_6) from ge275_0)
                          clear hv275_0 ge275_0
                          have HX275_0 := Aside0.mk hx275_0
                          clear hcc275 hce275
                          have HR275_0 := Aside0.mk hi275_0
                          have HC275_0 := Aside0.mk hl275_0
                          clear hi275_0 hl275_0
                          replace p275 := eq_true p275
                          replace q275 := eq_true q275
                          obtain ⟨Ao98, co98, eo98⟩ := Kd.R_slice HO_16.out
                          subst eo98
                          have p276 : 0 ≤ (x18_6 : Int) := of_decide_eq_true (by first | (with_reducible assumption) | assumption)
                          have q276 : x18_6 < (x16_6.length : Int) := of_decide_eq_true (by first | (with_reducible assumption) | assumption)
                          obtain ⟨ad276, e276, hx276_0⟩ := Kd.at_int (Kd.R_reads' HO_16.out).2.2 x18_6 p276 q276
                          cases e276
                          replace p276 := eq_true p276
                          replace q276 := eq_true q276
                          have p93 : 0 ≤ (x13_3 : Int) := of_decide_eq_true (by first | (with_reducible assumption) | assumption)
                          have q93 : (x13_3 : Int) < (((rd_L1 x254001_6 x18_6).length : Int) : Int) := of_decide_eq_true (by first | (with_reducible assumption) | assumption)
                          obtain ⟨go93, co93, eo93, gb93, gl93, cl93, HG93⟩ := Kd.R_form HL275_0.out (by omega)
                          (first | cases eo93 | (injection eo93 with ea_ en_ ec_; (first | subst ea_ | (injection ea_ with ea_; subst ea_)); subst ec_; clear en_))
                          have GB93 := Aside0.mk gb93
                          have GG93 := Aside0.mk HG93
                          clear gb93 gl93 HG93
                          obtain ⟨hx93_0, hf93_0⟩ := Kd.R_celln 0 HL275_0.out (x13_3 : Int) p93 q93
                          replace p93 := eq_true p93
                          replace q93 := eq_true q93
                          have hq99 : (x18_6 : Int) < (x254001_6.length : Int) := (by have h_ : (x18_6 : Int) < ((x254001_6.length : Int) : Int) := of_decide_eq_true (by first | (with_reducible assumption) | assumption); first | exact h_ | (have e_ := (Kd.S_reads' HO_254001.out).1; omega) | simpa only [List.length_set, List.length_set] using h_)
                          obtain ⟨oki99, ce99, hcl99, hM99, hcc99, hok99, hbk99⟩ := Kd.S_borrow HO_254001.out [] (x18_6 : Int) (of_decide_eq_true (by first | (with_reducible assumption) | assumption)) hq99
                          obtain ⟨ve99_0, rfl, ge99_0⟩ := hM99
                          have hv99 := hcc99 0 _ rfl
                          rw [Nat.add_zero, show ((Kd.slice 2 (Kd.int .i64))).sz = 1 from rfl, Nat.mul_one] at hv99
                          replace hv99 := Option.some.inj (hv99.symm.trans HX275_0.out)
                          subst hv99
                          clear hcc99 hcl99
                          replace ge99_0 := (show Kd.R (Kd.int .i64) 2 _ _ _ _ (rd_L1 x254001_6 x18_6) from ge99_0)
                          have HP99 := Kd.R_putg ge99_0 (x13_3 : Int) (wrap64 (x10_13 * (rd x16_6 x18_6)))
                          go_wp2_with (first | ((with_reducible refine gate_store (t := 2) (p := 130) rfl ?_); refine store_event (t := 2) (p := 130) (v := ?vo_w100) (w1 := (wr.setCell ⟨go93, (x13_3 : Int).toNat, none⟩ (.int .i64 (wrap64 (x10_13 * (rd x16_6 x18_6)))))) ?hg ?ho ?hn ?hr ?_; (case ho => rfl); (case hg => rfl); (case hn => rfl); (case hr => first | (go_simp; done) | (go_simp; rfl)); intro w100 hw; have hg : wr.grownBy w100 (some go93) := (by rw [hw]; exact HP99.2); have hz_ : Kd.R (Kd.int .i64) 2 w100 w.heap.size oki99 (.slice (some ⟨go93, 0, none⟩) (rd_L1 x254001_6 x18_6).length c275_0) y277 := (by rw [hw, Ny277.out]; exact HP99.1); have hp_ : Kd.S (Kd.slice 2 (Kd.int .i64)) 23 w100 w.heap.size (fun k_ => some k_ ≠ (.slice (some ad276) x16_6.length co98 : Value).ownBlock ∧ some k_ ≠ (u254002 : Value).ownBlock) (.slice (some ad275) x254001_6.length co97) y279 := (by rw [Ny279.out]; exact hbk99 hg (fun k_ e_ => by injection e_ with e_; subst e_; exact ge99_0.1 _ rfl) (Kd.M_row hz_)); have hm_ := Kd.R_mono hz_ hok99; clear HP99 hbk99; have n0_ := Aside0.mk (Kd.R_grown1 (ro_ HO_16.out) rfl hg ((HL275_0.out.1 _ rfl).1.1)); have n1_ := Aside0.mk (hp_); have n2_ := Aside0.mk (Kd.R_grown1 (ro_ HO_254002.out) rfl hg ((HL275_0.out.1 _ rfl).1.2)); have n3_ := Aside0.mk (bg_ BK241.out hg (Kd.R_ne HL275_0.out BK241.out (by decide))); have n4_ := Aside0.mk (bg_ BK242.out hg (Kd.R_ne HL275_0.out BK242.out (by decide))); have n5_ := Aside0.mk (bg_ BK253.out hg (Kd.R_ne HL275_0.out BK253.out (by decide))); have n6_ := Aside0.mk ((by rw [hw]; exact below_set (HB.out) GB93.out : Below w.heap.size w w100)); have n7_ := Aside0.mk (hm_); have n8_ := Aside0.mk ((Kd.R_reads' hm_).2.1); clear HO_16; clear HO_254001; clear HO_254002; clear BK241; clear BK242; clear BK253; clear HB; clear HL275_0; have HO_16 := n0_; have HO_254001 := n1_; have HO_254002 := n2_; have BK241 := n3_; have BK242 := n4_; have BK253 := n5_; have HB := n6_; have HL280 := n7_; have HC278 := n8_; clear n0_ n1_ n2_ n3_ n4_ n5_ n6_ n7_ n8_; clear hg hw hp_ hz_ hm_ hok99))
                          go_roundg k6
                          case measure => have := HJ13.out; have := HK2.out; have := HK3.out; have := HK4.out; have := HJ76.out; have := HK6.out; omega
                          case rel => exact ⟨(x16_6), (wrap64 (x18_6 + 1)), (y279), (x254002_6), (.slice (some ad275) x254001_6.length co97), (u254002), (by first | rfl | (simp; done) | (simp [*]; done)), H', ⟨by have := HJ13.out; have := HK2.out; have := HK3.out; have := HK4.out; have := HJ76.out; have := HK6.out; omega⟩, ⟨ro_ HO_16.out⟩, ⟨so_ HO_254001.out⟩, ⟨ro_ HO_254002.out⟩, ⟨bk_⟩, ⟨bk_⟩, ⟨bk_⟩, ⟨hb_⟩⟩
                         ·rw [if_neg c92] at H
                          exact absurd H (by simp)
                        ·rw [if_neg c91] at H
                         exact absurd H (by simp)
                       ·rw [if_neg c90] at H
                        exact absurd H (by simp)
                      ·rw [if_neg c89] at H
                       exact absurd H (by simp)
                     ·rw [if_neg c88] at H
                      exact absurd H (by simp)
                    ·rw [if_neg c87] at H
                     have c87b0 : decide (x18_6 < (l0_1.length : Int)) = false := decide_eq_false c87
                     clear c87
                     have H' := Aside0.mk H
                     clear H
                     go_wp2
                     go_roundg k6
                     case measure => have := HJ13.out; have := HK2.out; have := HK3.out; have := HK4.out; have := HJ76.out; have := HK6.out; omega
                     case rel => exact ⟨(wrap64 (x13_3 + 1)), (x254001_6), (x254002_6), (u254001), (u254002), (by first | rfl | (simp; done) | (simp [*]; done)), H', ⟨by have := HJ13.out; have := HK2.out; have := HK3.out; have := HK4.out; have := HJ76.out; have := HK6.out; omega⟩, ⟨by (with_reducible repeat (first | apply Kd.S_alloc | apply Kd.S_drewN | apply Kd.S_drew)); exact Kd.S_mono HO_254001.out (fun _ hk => hk.2)⟩, ⟨by (with_reducible repeat (first | apply Kd.R_alloc | apply Kd.R_drewN | apply Kd.R_drew)); exact Kd.R_mono HO_254002.out (fun _ hk => trivial)⟩, ⟨bk_⟩, ⟨bk_⟩, ⟨bk_⟩, ⟨hb_⟩⟩
               ·rw [if_neg c75] at H
                exact absurd H (by simp)
           ·rw [if_neg c55] at H
            exact absurd H (by simp)
          ·rw [if_neg c54] at H
           exact absurd H (by simp)
         ·rw [if_neg c53] at H
          have c53b0 : decide (x13_3 < (l0_1.length : Int)) = false := decide_eq_false c53
          clear c53
          simp only [Option.some.injEq, Prod.mk.injEq] at H
          obtain ⟨rfl, rfl, rfl, rfl⟩ := H
          have hnb101 := NB253_241.out
          have hnc101 := NB241_253.out
          have hnb102 := NB253_242.out
          have hnc102 := NB242_253.out
          have hcz103_0 : wr.cell? ⟨gb253, 0, none⟩ = some (.int .i64 (wrap64 (x10_13 * t244))) := (blk_cell BK253.out 0).trans rfl
          have hcz103_1 : wr.cell? ⟨gb253, 1, none⟩ = some (u254001) := (blk_cell BK253.out 1).trans rfl
          have hcz103_2 : wr.cell? ⟨gb253, 2, none⟩ = some (u254002) := (blk_cell BK253.out 2).trans rfl
          have hfz103_0 := blk_frozen BK253.out 0
          have hfz103_1 := blk_frozen BK253.out 1
          have hfz103_2 := blk_frozen BK253.out 2
          have hnb104 := NB242_241.out
          have hnc104 := NB241_242.out
          have hcz105_0 : wr.cell? ⟨gb242, 0, none⟩ = some (.int .i64 0) := (blk_cell BK242.out 0).trans rfl
          have hcz105_1 : wr.cell? ⟨gb242, 1, none⟩ = some (.slice none 0 0) := (blk_cell BK242.out 1).trans rfl
          have hcz105_2 : wr.cell? ⟨gb242, 2, none⟩ = some (.slice none 0 0) := (blk_cell BK242.out 2).trans rfl
          have hfz105_0 := blk_frozen BK242.out 0
          have hfz105_1 := blk_frozen BK242.out 1
          have hfz105_2 := blk_frozen BK242.out 2
          obtain ⟨Ao106, co106, eo106⟩ := Kd.S_slice HO_254001.out
          subst eo106
          obtain ⟨Ao107, co107, eo107⟩ := Kd.R_slice HO_254002.out
          subst eo107
          go_wp2
          have HB := Aside0.mk (below_step HBo.out HB.out)
          have HO_254002 := Aside0.mk (Kd.R_lower HO_254002.out (below_size HBo.out))
          have HO_254001 := Aside0.mk (Kd.S_lower HO_254001.out (below_size HBo.out))
          refine bodyPost_ret (results_ct rfl _ _ gb242 75 #[.int .i64 (wrap64 (x10_13 * t244)), .slice Ao106 x254001_3.length co106, .slice Ao107 x254002_3.length co107] (0, 0) _ rfl (by (with_reducible repeat (first | refine blk_drewN ?_ _ | refine blk_drew ?_ | refine blk_alloc ?_ _)); refine blk_put (cs := #[.int .i64 (wrap64 (x10_13 * t244)), .slice Ao106 x254001_3.length co106, .slice none 0 0]) ?_ 2 _ rfl; (with_reducible repeat (first | refine blk_drewN ?_ _ | refine blk_drew ?_ | refine blk_alloc ?_ _)); refine blk_put (cs := #[.int .i64 (wrap64 (x10_13 * t244)), .slice none 0 0, .slice none 0 0]) ?_ 1 _ rfl; (with_reducible repeat (first | refine blk_drewN ?_ _ | refine blk_drew ?_ | refine blk_alloc ?_ _)); refine blk_put (cs := #[.int .i64 0, .slice none 0 0, .slice none 0 0]) ?_ 0 _ rfl; (with_reducible repeat (first | refine blk_drewN ?_ _ | refine blk_drew ?_ | refine blk_alloc ?_ _)); exact BK242.out) Try.underlying75 rfl (by kernel_rfl)) rfl ?_
          exact ⟨_, _, by first | rfl | (simp [errW_none, errW_some] <;> rfl) | (simp [*, errW_none, errW_some] <;> rfl), by (with_reducible repeat (first | apply Kd.S_alloc | apply Kd.S_drewN | apply Kd.S_drew)); exact Kd.S_mono (Kd.S_far (p := ⟨gb242, 2, none⟩) (Kd.S_far (p := ⟨gb242, 1, none⟩) (Kd.S_far (p := ⟨gb242, 0, none⟩) (Kd.S_types HO_254001.out BK242.out (by decide)) (fun _ hk => hk.2) (.int .i64 (wrap64 (x10_13 * t244)))) (fun _ hk => hk.2) (.slice Ao106 x254001_3.length co106)) (fun _ hk => hk.2) (.slice Ao107 x254002_3.length co107)) (fun _ hk => hk.1), by (with_reducible repeat (first | apply Kd.R_alloc | apply Kd.R_drewN | apply Kd.R_drew)); exact Kd.R_mono (Kd.R_far (p := ⟨gb242, 2, none⟩) (Kd.R_far (p := ⟨gb242, 1, none⟩) (Kd.R_far (p := ⟨gb242, 0, none⟩) (Kd.R_types HO_254002.out BK242.out (by decide)) (fun _ hk => hk.2) (.int .i64 (wrap64 (x10_13 * t244)))) (fun _ hk => hk.2) (.slice Ao106 x254001_3.length co106)) (fun _ hk => hk.2) (.slice Ao107 x254002_3.length co107)) (fun _ hk => trivial), hb_⟩
def spec_PivotOf.f (k : Nat) (l0_0 : List (List Int)) (l0_1 : List Int) (a1 : Int) : Option (Int × (List (List Int)) × List Int × Int) := (spec_l02Code.f k l0_0 l0_1 a1).bind fun t283 => (if t283 = 0 then ((spec_l04Pivot.f k l0_0 l0_1 a1).bind fun bt284 => (if bt284.2.2.2 = true then (some (bt284.1, bt284.2.1, bt284.2.2.1, 0)) else (some (0, ([] : List (List Int)), ([] : List Int), 5)))) else (some (0, ([] : List (List Int)), ([] : List Int), t283)))
theorem spec_PivotOf.mono : ∀ a0 a1 a2 k, LeO (spec_PivotOf.f k a0 a1 a2) (spec_PivotOf.f (k + 1) a0 a1 a2) := by
 intro a0 a1 a2 k
 unfold spec_PivotOf.f
 repeat' first
   | (with_reducible exact spec_l02Code.mono _ _ _ _)
   | (with_reducible exact spec_l04Pivot.mono _ _ _ _)
   | (with_reducible exact LeO.refl _)
   | (with_reducible exact LeO.none _)
   | (with_reducible refine LeO.ite ?_ ?_)
   | (with_reducible refine LeO.bind ?_ (fun _ => ?_))
   | exact spec_l02Code.mono _ _ _ _
   | exact spec_l04Pivot.mono _ _ _ _
   | exact LeO.none _
   | refine LeO.ite ?_ ?_
   | refine LeO.bind ?_ (fun _ => ?_)
theorem spec_PivotOf.calls (k : Nat) (A0_0 : Option Addr) (c0_0 : Nat) (l0_0 : List (List Int)) (A0_1 : Option Addr) (c0_1 : Nat) (l0_1 : List Int) (a1 : Int) (r1 : Int) (r2 : List (List Int)) (r3 : List Int) (r4 : Int) (w : World) (hr0_0 : Kd.C (Kd.slice 2 (Kd.int .i64)) w A0_0 l0_0.length l0_0) (hc0_0 : l0_0.length ≤ c0_0) (hr0_1 : Kd.C (Kd.int .i64) w A0_1 l0_1.length l0_1) (hc0_1 : l0_1.length ≤ c0_1) (h : spec_PivotOf.f k l0_0 l0_1 a1 = some (r1, r2, r3, r4)) :
  Calls Try.prog 60 #[.agg #[.slice A0_0 l0_0.length c0_0, .slice A0_1 l0_1.length c0_1], .int .i64 a1] w fun e w' => ∃ v1_ v2_ : Value, e = .returned (.tuple #[.agg #[.int .i64 r1, v1_, v2_], .int .i64 r4]) ∧ Kd.S (Kd.slice 2 (Kd.int .i64)) 23 w' w.heap.size (fun k_ => some k_ ≠ (v2_ : Value).ownBlock) v1_ r2 ∧ Kd.R (Kd.int .i64) 2 w' w.heap.size (fun _ => True) v2_ r3 ∧ Below w.heap.size w w' := by
 have hu29 := Try.underlying29
 have hu75 := Try.underlying75
 have HR0_0 := Aside0.mk hr0_0
 have HC0_0 := Aside0.mk hc0_0
 clear hr0_0 hc0_0
 have HR0_1 := Aside0.mk hr0_1
 have HC0_1 := Aside0.mk hc0_1
 clear hr0_1 hc0_1
 have HB := Aside0.mk (Below.refl w.heap.size w)
 have H : ((spec_l02Code.f k l0_0 l0_1 a1).bind fun t283 => (if t283 = 0 then ((spec_l04Pivot.f k l0_0 l0_1 a1).bind fun bt284 => (if bt284.2.2.2 = true then (some (bt284.1, bt284.2.1, bt284.2.2.1, 0)) else (some (0, ([] : List (List Int)), ([] : List Int), 5)))) else (some (0, ([] : List (List Int)), ([] : List Int), t283)))) = some (r1, r2, r3, r4) := h
 clear h
 replace H := Option.bind_eq_some_iff.mp H
 obtain ⟨t283, A30, H⟩ := H
 replace H : (if t283 = 0 then ((spec_l04Pivot.f k l0_0 l0_1 a1).bind fun bt284 => (if bt284.2.2.2 = true then (some (bt284.1, bt284.2.1, bt284.2.2.1, 0)) else (some (0, ([] : List (List Int)), ([] : List Int), 5)))) else (some (0, ([] : List (List Int)), ([] : List Int), t283))) = some (r1, r2, r3, r4) := H
 have A3 := Aside0.mk A30
 clear A30
 by_cases c4 : t283 = 0
 ·rw [if_pos c4] at H
  have c4b0 : (t283 == 0) = true := beq_iff_eq.mpr c4
  have c4b1 : (t283 != 0) = false := bne_eq_false_iff_eq.mpr c4
  clear c4
  replace H := Option.bind_eq_some_iff.mp H
  obtain ⟨⟨t284, t285, t288, t291⟩, A50, H⟩ := H
  replace H : (if t291 = true then (some (t284, t285, t288, 0)) else (some (0, ([] : List (List Int)), ([] : List Int), 5))) = some (r1, r2, r3, r4) := H
  have A5 := Aside0.mk A50
  clear A50
  by_cases c6 : t291 = true
  ·subst c6
   have H1 : (some (t284, t285, t288, 0)) = some (r1, r2, r3, r4) := by rw [if_pos rfl] at H; exact H
   clear H
   have H := H1
   clear H1
   simp only [Option.some.injEq, Prod.mk.injEq] at H
   obtain ⟨rfl, rfl, rfl, rfl⟩ := H
   go_enter Try.func60, Try.ntmps60
   go_wp2_with (first | ((with_reducible refine gate_dst (N := 2) rfl ?_); refine box_event ?hg (N := 2) ?hd (cs := #[.slice A0_0 l0_0.length c0_0, .slice A0_1 l0_1.length c0_1]) (t := 29) ?hr ?_; (case hd => rfl); (case hg => rfl); (case hr => first | (go_simp; done) | (go_simp; rfl)); intro gb281 hg w7 hbox hb; have n0_ := Aside0.mk (bs_ hb); have n1_ := Aside0.mk (hbox); have n2_ := Aside0.mk ((by rw [hg]; exact bz_ : w.heap.size ≤ gb281)); have n3_ := Aside0.mk ((by rw [hg]; exact bz_ : w.heap.size ≤ gb281)); clear HB; have HB := n0_; have BK281 := n1_; have GW281 := n2_; have GE281 := n3_; clear n0_ n1_ n2_ n3_; clear hb hbox hg) | ((with_reducible refine gate_dst (N := 4) rfl ?_); refine box_event ?hg (N := 4) ?hd (cs := #[.int .i64 0, .slice none 0 0, .slice none 0 0]) (t := 75) ?hr ?_; (case hd => rfl); (case hg => rfl); (case hr => first | (go_simp; done) | (go_simp; rfl)); intro gb282 hg w8 hbox hb; have n0_ := Aside0.mk (bb_ BK281.out hb); have n1_ := Aside0.mk (bs_ hb); have n2_ := Aside0.mk (hbox); have n3_ := Aside0.mk ((by rw [hg]; exact bz_ : w.heap.size ≤ gb282)); have n4_ := Aside0.mk ((by rw [hg]; exact bz_ : w.heap.size ≤ gb282)); have n5_ := Aside0.mk ((by rw [hg]; exact lt_ BK281.out : gb281 ≠ gb282)); have n6_ := Aside0.mk ((by rw [hg]; exact gt_ BK281.out : gb282 ≠ gb281)); clear BK281; clear HB; have BK281 := n0_; have HB := n1_; have BK282 := n2_; have GW282 := n3_; have GE282 := n4_; have NB281_282 := n5_; have NB282_281 := n6_; clear n0_ n1_ n2_ n3_ n4_ n5_ n6_; clear hb hbox hg; have hnb9 := NB281_282.out; have hnc9 := NB282_281.out; have hcz10_0 : w8.cell? ⟨gb281, 0, none⟩ = some (.slice A0_0 l0_0.length c0_0) := (blk_cell BK281.out 0).trans rfl; have hcz10_1 : w8.cell? ⟨gb281, 1, none⟩ = some (.slice A0_1 l0_1.length c0_1) := (blk_cell BK281.out 1).trans rfl; have hfz10_0 := blk_frozen BK281.out 0; have hfz10_1 := blk_frozen BK281.out 1) | ((with_reducible refine gate_callee (f := 74) rfl ?_); refine goesL_ (some 11) rfl rfl Try.func74 (by kernel_rfl) rfl #[.agg #[.slice A0_0 l0_0.length c0_0, .slice A0_1 l0_1.length c0_1], .int .i64 a1] rfl (by (try simp only [List.map_toArray, List.map_cons, List.map_nil]); first | done | rfl | (simp only [List.length_drop, List.length_take]; rfl)) ?_; (with_reducible refine (spec_l02Code.calls k _ _ l0_0 _ _ l0_1 a1 t283 _ ?side1 ?side2 ?side3 ?side4 A3.out).mono ?_); (case side1 => exact cb_ HR0_0.out HB.out); (case side2 => exact HC0_0.out); (case side3 => exact cb_ HR0_1.out HB.out); (case side4 => exact HC0_1.out); rintro e w11 ⟨rfl, hb⟩; refine ⟨_, rfl, ?_⟩; have n0_ := Aside0.mk (bb_ BK281.out hb); have n1_ := Aside0.mk (bb_ BK282.out hb); have n2_ := Aside0.mk (bs_ hb); clear BK281; clear BK282; clear HB; have BK281 := n0_; have BK282 := n1_; have HB := n2_; clear n0_ n1_ n2_; (try clear hb); (try clear hb2); (try clear hk); (try clear hi); have hcz12_0 : w11.cell? ⟨gb281, 0, none⟩ = some (.slice A0_0 l0_0.length c0_0) := (blk_cell BK281.out 0).trans rfl; have hcz12_1 : w11.cell? ⟨gb281, 1, none⟩ = some (.slice A0_1 l0_1.length c0_1) := (blk_cell BK281.out 1).trans rfl; have hfz12_0 := blk_frozen BK281.out 0; have hfz12_1 := blk_frozen BK281.out 1) | ((with_reducible refine gate_callee (f := 75) rfl ?_); refine goesL_ (some 19) rfl rfl Try.func75 (by kernel_rfl) rfl #[.agg #[.slice A0_0 l0_0.length c0_0, .slice A0_1 l0_1.length c0_1], .int .i64 a1] rfl (by (try simp only [List.map_toArray, List.map_cons, List.map_nil]); first | done | rfl | (simp only [List.length_drop, List.length_take]; rfl)) ?_; (with_reducible refine (spec_l04Pivot.calls k _ _ l0_0 _ _ l0_1 a1 t284 t285 t288 true _ ?side1 ?side2 ?side3 ?side4 A5.out).mono ?_); (case side1 => exact cb_ HR0_0.out HB.out); (case side2 => exact HC0_0.out); (case side3 => exact cb_ HR0_1.out HB.out); (case side4 => exact HC0_1.out); rintro e w13 ⟨v286, v289, rfl, ho0, ho1, hb⟩; refine ⟨_, rfl, ?_⟩; have n0_ := Aside0.mk (Kd.S_lower ho0 bz_); have n1_ := Aside0.mk (Kd.R_lower ho1 bz_); have n2_ := Aside0.mk (bb_ BK281.out hb); have n3_ := Aside0.mk (bb_ BK282.out hb); have n4_ := Aside0.mk (bs_ hb); clear BK281; clear BK282; clear HB; have HO287 := n0_; have HO290 := n1_; have BK281 := n2_; have BK282 := n3_; have HB := n4_; clear n0_ n1_ n2_ n3_ n4_; (try clear hb); (try clear hb2); (try clear hk); (try clear hi); (try clear ho0); (try clear ho1)) | ((with_reducible refine gate_dst (N := 7) rfl ?_); refine box_event ?hg (N := 7) ?hd (cs := #[.int .i64 0, .slice none 0 0, .slice none 0 0]) (t := 75) ?hr ?_; (case hd => rfl); (case hg => rfl); (case hr => first | (go_simp; done) | (go_simp; rfl)); intro gb292 hg w14 hbox hb; have n0_ := Aside0.mk (Kd.S_below (so_ HO287.out) hb); have n1_ := Aside0.mk (rb_ HO290.out hb); have n2_ := Aside0.mk (bb_ BK281.out hb); have n3_ := Aside0.mk (bb_ BK282.out hb); have n4_ := Aside0.mk (bs_ hb); have n5_ := Aside0.mk (hbox); have n6_ := Aside0.mk ((by rw [hg]; exact bz_ : w.heap.size ≤ gb292)); have n7_ := Aside0.mk ((by rw [hg]; exact bz_ : w.heap.size ≤ gb292)); have n8_ := Aside0.mk ((by rw [hg]; exact lt_ BK281.out : gb281 ≠ gb292)); have n9_ := Aside0.mk ((by rw [hg]; exact gt_ BK281.out : gb292 ≠ gb281)); have n10_ := Aside0.mk ((by rw [hg]; exact lt_ BK282.out : gb282 ≠ gb292)); have n11_ := Aside0.mk ((by rw [hg]; exact gt_ BK282.out : gb292 ≠ gb282)); clear HO287; clear HO290; clear BK281; clear BK282; clear HB; have HO287 := n0_; have HO290 := n1_; have BK281 := n2_; have BK282 := n3_; have HB := n4_; have BK292 := n5_; have GW292 := n6_; have GE292 := n7_; have NB281_292 := n8_; have NB292_281 := n9_; have NB282_292 := n10_; have NB292_282 := n11_; clear n0_ n1_ n2_ n3_ n4_ n5_ n6_ n7_ n8_ n9_ n10_ n11_; clear hb hbox hg; have hnb15 := NB292_281.out; have hnc15 := NB281_292.out; have hnb16 := NB292_282.out; have hnc16 := NB282_292.out; have hcz17_0 : w14.cell? ⟨gb292, 0, none⟩ = some (.int .i64 0) := (blk_cell BK292.out 0).trans rfl; have hcz17_1 : w14.cell? ⟨gb292, 1, none⟩ = some (.slice none 0 0) := (blk_cell BK292.out 1).trans rfl; have hcz17_2 : w14.cell? ⟨gb292, 2, none⟩ = some (.slice none 0 0) := (blk_cell BK292.out 2).trans rfl; have hfz17_0 := blk_frozen BK292.out 0; have hfz17_1 := blk_frozen BK292.out 1; have hfz17_2 := blk_frozen BK292.out 2; obtain ⟨Ao18, co18, eo18⟩ := Kd.S_slice HO287.out; subst eo18; obtain ⟨Ao19, co19, eo19⟩ := Kd.R_slice HO290.out; subst eo19; have hcz20_0 : w14.cell? ⟨gb282, 0, none⟩ = some (.int .i64 0) := (blk_cell BK282.out 0).trans rfl; have hcz20_1 : w14.cell? ⟨gb282, 1, none⟩ = some (.slice none 0 0) := (blk_cell BK282.out 1).trans rfl; have hcz20_2 : w14.cell? ⟨gb282, 2, none⟩ = some (.slice none 0 0) := (blk_cell BK282.out 2).trans rfl; have hfz20_0 := blk_frozen BK282.out 0; have hfz20_1 := blk_frozen BK282.out 1; have hfz20_2 := blk_frozen BK282.out 2))
   refine bodyPost_ret (results_ct rfl _ _ gb282 75 #[.int .i64 t284, .slice Ao18 t285.length co18, .slice Ao19 t288.length co19] (0, 0) _ rfl (by (with_reducible repeat (first | refine blk_drewN ?_ _ | refine blk_drew ?_ | refine blk_alloc ?_ _)); refine blk_put (cs := #[.int .i64 t284, .slice Ao18 t285.length co18, .slice none 0 0]) ?_ 2 _ rfl; (with_reducible repeat (first | refine blk_drewN ?_ _ | refine blk_drew ?_ | refine blk_alloc ?_ _)); refine blk_put (cs := #[.int .i64 t284, .slice none 0 0, .slice none 0 0]) ?_ 1 _ rfl; (with_reducible repeat (first | refine blk_drewN ?_ _ | refine blk_drew ?_ | refine blk_alloc ?_ _)); refine blk_put (cs := #[.int .i64 0, .slice none 0 0, .slice none 0 0]) ?_ 0 _ rfl; (with_reducible repeat (first | refine blk_drewN ?_ _ | refine blk_drew ?_ | refine blk_alloc ?_ _)); refine blk_far ?_ NB282_292.out _; (with_reducible repeat (first | refine blk_drewN ?_ _ | refine blk_drew ?_ | refine blk_alloc ?_ _)); refine blk_far ?_ NB282_292.out _; (with_reducible repeat (first | refine blk_drewN ?_ _ | refine blk_drew ?_ | refine blk_alloc ?_ _)); refine blk_far ?_ NB282_292.out _; (with_reducible repeat (first | refine blk_drewN ?_ _ | refine blk_drew ?_ | refine blk_alloc ?_ _)); exact BK282.out) Try.underlying75 rfl (by kernel_rfl)) rfl ?_
   exact ⟨_, _, by first | rfl | (simp [errW_none, errW_some] <;> rfl) | (simp [*, errW_none, errW_some] <;> rfl), by (with_reducible repeat (first | apply Kd.S_alloc | apply Kd.S_drewN | apply Kd.S_drew)); exact Kd.S_mono (Kd.S_far (p := ⟨gb282, 2, none⟩) (Kd.S_far (p := ⟨gb282, 1, none⟩) (Kd.S_far (p := ⟨gb282, 0, none⟩) (Kd.S_far (p := ⟨gb292, 2, none⟩) (Kd.S_far (p := ⟨gb292, 1, none⟩) (Kd.S_far (p := ⟨gb292, 0, none⟩) (Kd.S_types (Kd.S_types HO287.out BK292.out (by decide)) BK282.out (by decide)) (fun _ hk => hk.1.2) (.int .i64 t284)) (fun _ hk => hk.1.2) (.slice Ao18 t285.length co18)) (fun _ hk => hk.1.2) (.slice Ao19 t288.length co19)) (fun _ hk => hk.2) (.int .i64 t284)) (fun _ hk => hk.2) (.slice Ao18 t285.length co18)) (fun _ hk => hk.2) (.slice Ao19 t288.length co19)) (fun _ hk => hk.1.1), by (with_reducible repeat (first | apply Kd.R_alloc | apply Kd.R_drewN | apply Kd.R_drew)); exact Kd.R_mono (Kd.R_far (p := ⟨gb282, 2, none⟩) (Kd.R_far (p := ⟨gb282, 1, none⟩) (Kd.R_far (p := ⟨gb282, 0, none⟩) (Kd.R_far (p := ⟨gb292, 2, none⟩) (Kd.R_far (p := ⟨gb292, 1, none⟩) (Kd.R_far (p := ⟨gb292, 0, none⟩) (Kd.R_types (Kd.R_types HO290.out BK292.out (by decide)) BK282.out (by decide)) (fun _ hk => hk.1.2) (.int .i64 t284)) (fun _ hk => hk.1.2) (.slice Ao18 t285.length co18)) (fun _ hk => hk.1.2) (.slice Ao19 t288.length co19)) (fun _ hk => hk.2) (.int .i64 t284)) (fun _ hk => hk.2) (.slice Ao18 t285.length co18)) (fun _ hk => hk.2) (.slice Ao19 t288.length co19)) (fun _ hk => trivial), hb_⟩
  ·replace c6 := Bool.eq_false_iff.mpr c6
   subst c6
   have H1 : (some (0, ([] : List (List Int)), ([] : List Int), 5)) = some (r1, r2, r3, r4) := by rw [if_neg (show ¬ (false = true) by decide)] at H; exact H
   clear H
   have H := H1
   clear H1
   simp only [Option.some.injEq, Prod.mk.injEq] at H
   obtain ⟨rfl, rfl, rfl, rfl⟩ := H
   go_enter Try.func60, Try.ntmps60
   go_wp2_with (first | ((with_reducible refine gate_dst (N := 2) rfl ?_); refine box_event ?hg (N := 2) ?hd (cs := #[.slice A0_0 l0_0.length c0_0, .slice A0_1 l0_1.length c0_1]) (t := 29) ?hr ?_; (case hd => rfl); (case hg => rfl); (case hr => first | (go_simp; done) | (go_simp; rfl)); intro gb281 hg w21 hbox hb; have n0_ := Aside0.mk (bs_ hb); have n1_ := Aside0.mk (hbox); have n2_ := Aside0.mk ((by rw [hg]; exact bz_ : w.heap.size ≤ gb281)); have n3_ := Aside0.mk ((by rw [hg]; exact bz_ : w.heap.size ≤ gb281)); clear HB; have HB := n0_; have BK281 := n1_; have GW281 := n2_; have GE281 := n3_; clear n0_ n1_ n2_ n3_; clear hb hbox hg) | ((with_reducible refine gate_dst (N := 4) rfl ?_); refine box_event ?hg (N := 4) ?hd (cs := #[.int .i64 0, .slice none 0 0, .slice none 0 0]) (t := 75) ?hr ?_; (case hd => rfl); (case hg => rfl); (case hr => first | (go_simp; done) | (go_simp; rfl)); intro gb282 hg w22 hbox hb; have n0_ := Aside0.mk (bb_ BK281.out hb); have n1_ := Aside0.mk (bs_ hb); have n2_ := Aside0.mk (hbox); have n3_ := Aside0.mk ((by rw [hg]; exact bz_ : w.heap.size ≤ gb282)); have n4_ := Aside0.mk ((by rw [hg]; exact bz_ : w.heap.size ≤ gb282)); have n5_ := Aside0.mk ((by rw [hg]; exact lt_ BK281.out : gb281 ≠ gb282)); have n6_ := Aside0.mk ((by rw [hg]; exact gt_ BK281.out : gb282 ≠ gb281)); clear BK281; clear HB; have BK281 := n0_; have HB := n1_; have BK282 := n2_; have GW282 := n3_; have GE282 := n4_; have NB281_282 := n5_; have NB282_281 := n6_; clear n0_ n1_ n2_ n3_ n4_ n5_ n6_; clear hb hbox hg; have hnb23 := NB281_282.out; have hnc23 := NB282_281.out; have hcz24_0 : w22.cell? ⟨gb281, 0, none⟩ = some (.slice A0_0 l0_0.length c0_0) := (blk_cell BK281.out 0).trans rfl; have hcz24_1 : w22.cell? ⟨gb281, 1, none⟩ = some (.slice A0_1 l0_1.length c0_1) := (blk_cell BK281.out 1).trans rfl; have hfz24_0 := blk_frozen BK281.out 0; have hfz24_1 := blk_frozen BK281.out 1) | ((with_reducible refine gate_callee (f := 74) rfl ?_); refine goesL_ (some 11) rfl rfl Try.func74 (by kernel_rfl) rfl #[.agg #[.slice A0_0 l0_0.length c0_0, .slice A0_1 l0_1.length c0_1], .int .i64 a1] rfl (by (try simp only [List.map_toArray, List.map_cons, List.map_nil]); first | done | rfl | (simp only [List.length_drop, List.length_take]; rfl)) ?_; (with_reducible refine (spec_l02Code.calls k _ _ l0_0 _ _ l0_1 a1 t283 _ ?side1 ?side2 ?side3 ?side4 A3.out).mono ?_); (case side1 => exact cb_ HR0_0.out HB.out); (case side2 => exact HC0_0.out); (case side3 => exact cb_ HR0_1.out HB.out); (case side4 => exact HC0_1.out); rintro e w25 ⟨rfl, hb⟩; refine ⟨_, rfl, ?_⟩; have n0_ := Aside0.mk (bb_ BK281.out hb); have n1_ := Aside0.mk (bb_ BK282.out hb); have n2_ := Aside0.mk (bs_ hb); clear BK281; clear BK282; clear HB; have BK281 := n0_; have BK282 := n1_; have HB := n2_; clear n0_ n1_ n2_; (try clear hb); (try clear hb2); (try clear hk); (try clear hi); have hcz26_0 : w25.cell? ⟨gb281, 0, none⟩ = some (.slice A0_0 l0_0.length c0_0) := (blk_cell BK281.out 0).trans rfl; have hcz26_1 : w25.cell? ⟨gb281, 1, none⟩ = some (.slice A0_1 l0_1.length c0_1) := (blk_cell BK281.out 1).trans rfl; have hfz26_0 := blk_frozen BK281.out 0; have hfz26_1 := blk_frozen BK281.out 1) | ((with_reducible refine gate_callee (f := 75) rfl ?_); refine goesL_ (some 19) rfl rfl Try.func75 (by kernel_rfl) rfl #[.agg #[.slice A0_0 l0_0.length c0_0, .slice A0_1 l0_1.length c0_1], .int .i64 a1] rfl (by (try simp only [List.map_toArray, List.map_cons, List.map_nil]); first | done | rfl | (simp only [List.length_drop, List.length_take]; rfl)) ?_; (with_reducible refine (spec_l04Pivot.calls k _ _ l0_0 _ _ l0_1 a1 t284 t285 t288 false _ ?side1 ?side2 ?side3 ?side4 A5.out).mono ?_); (case side1 => exact cb_ HR0_0.out HB.out); (case side2 => exact HC0_0.out); (case side3 => exact cb_ HR0_1.out HB.out); (case side4 => exact HC0_1.out); rintro e w27 ⟨v286, v289, rfl, ho0, ho1, hb⟩; refine ⟨_, rfl, ?_⟩; have n0_ := Aside0.mk (Kd.S_lower ho0 bz_); have n1_ := Aside0.mk (Kd.R_lower ho1 bz_); have n2_ := Aside0.mk (bb_ BK281.out hb); have n3_ := Aside0.mk (bb_ BK282.out hb); have n4_ := Aside0.mk (bs_ hb); clear BK281; clear BK282; clear HB; have HO287 := n0_; have HO290 := n1_; have BK281 := n2_; have BK282 := n3_; have HB := n4_; clear n0_ n1_ n2_ n3_ n4_; (try clear hb); (try clear hb2); (try clear hk); (try clear hi); (try clear ho0); (try clear ho1)) | ((with_reducible refine gate_dst (N := 7) rfl ?_); refine box_event ?hg (N := 7) ?hd (cs := #[.int .i64 0, .slice none 0 0, .slice none 0 0]) (t := 75) ?hr ?_; (case hd => rfl); (case hg => rfl); (case hr => first | (go_simp; done) | (go_simp; rfl)); intro gb292 hg w28 hbox hb; have n0_ := Aside0.mk (Kd.S_below (so_ HO287.out) hb); have n1_ := Aside0.mk (rb_ HO290.out hb); have n2_ := Aside0.mk (bb_ BK281.out hb); have n3_ := Aside0.mk (bb_ BK282.out hb); have n4_ := Aside0.mk (bs_ hb); have n5_ := Aside0.mk (hbox); have n6_ := Aside0.mk ((by rw [hg]; exact bz_ : w.heap.size ≤ gb292)); have n7_ := Aside0.mk ((by rw [hg]; exact bz_ : w.heap.size ≤ gb292)); have n8_ := Aside0.mk ((by rw [hg]; exact lt_ BK281.out : gb281 ≠ gb292)); have n9_ := Aside0.mk ((by rw [hg]; exact gt_ BK281.out : gb292 ≠ gb281)); have n10_ := Aside0.mk ((by rw [hg]; exact lt_ BK282.out : gb282 ≠ gb292)); have n11_ := Aside0.mk ((by rw [hg]; exact gt_ BK282.out : gb292 ≠ gb282)); clear HO287; clear HO290; clear BK281; clear BK282; clear HB; have HO287 := n0_; have HO290 := n1_; have BK281 := n2_; have BK282 := n3_; have HB := n4_; have BK292 := n5_; have GW292 := n6_; have GE292 := n7_; have NB281_292 := n8_; have NB292_281 := n9_; have NB282_292 := n10_; have NB292_282 := n11_; clear n0_ n1_ n2_ n3_ n4_ n5_ n6_ n7_ n8_ n9_ n10_ n11_; clear hb hbox hg; have hnb29 := NB292_281.out; have hnc29 := NB281_292.out; have hnb30 := NB292_282.out; have hnc30 := NB282_292.out; have hcz31_0 : w28.cell? ⟨gb292, 0, none⟩ = some (.int .i64 0) := (blk_cell BK292.out 0).trans rfl; have hcz31_1 : w28.cell? ⟨gb292, 1, none⟩ = some (.slice none 0 0) := (blk_cell BK292.out 1).trans rfl; have hcz31_2 : w28.cell? ⟨gb292, 2, none⟩ = some (.slice none 0 0) := (blk_cell BK292.out 2).trans rfl; have hfz31_0 := blk_frozen BK292.out 0; have hfz31_1 := blk_frozen BK292.out 1; have hfz31_2 := blk_frozen BK292.out 2; obtain ⟨Ao32, co32, eo32⟩ := Kd.S_slice HO287.out; subst eo32; obtain ⟨Ao33, co33, eo33⟩ := Kd.R_slice HO290.out; subst eo33; have hcz34_0 : w28.cell? ⟨gb282, 0, none⟩ = some (.int .i64 0) := (blk_cell BK282.out 0).trans rfl; have hcz34_1 : w28.cell? ⟨gb282, 1, none⟩ = some (.slice none 0 0) := (blk_cell BK282.out 1).trans rfl; have hcz34_2 : w28.cell? ⟨gb282, 2, none⟩ = some (.slice none 0 0) := (blk_cell BK282.out 2).trans rfl; have hfz34_0 := blk_frozen BK282.out 0; have hfz34_1 := blk_frozen BK282.out 1; have hfz34_2 := blk_frozen BK282.out 2))
   refine bodyPost_ret (results_ct rfl _ _ gb282 75 #[.int .i64 0, .slice none 0 0, .slice none 0 0] (0, 0) _ rfl (by (with_reducible repeat (first | refine blk_drewN ?_ _ | refine blk_drew ?_ | refine blk_alloc ?_ _)); refine blk_put (cs := #[.int .i64 0, .slice none 0 0, .slice none 0 0]) ?_ 2 _ rfl; (with_reducible repeat (first | refine blk_drewN ?_ _ | refine blk_drew ?_ | refine blk_alloc ?_ _)); refine blk_put (cs := #[.int .i64 0, .slice none 0 0, .slice none 0 0]) ?_ 1 _ rfl; (with_reducible repeat (first | refine blk_drewN ?_ _ | refine blk_drew ?_ | refine blk_alloc ?_ _)); refine blk_put (cs := #[.int .i64 0, .slice none 0 0, .slice none 0 0]) ?_ 0 _ rfl; (with_reducible repeat (first | refine blk_drewN ?_ _ | refine blk_drew ?_ | refine blk_alloc ?_ _)); refine blk_far ?_ NB282_292.out _; (with_reducible repeat (first | refine blk_drewN ?_ _ | refine blk_drew ?_ | refine blk_alloc ?_ _)); refine blk_far ?_ NB282_292.out _; (with_reducible repeat (first | refine blk_drewN ?_ _ | refine blk_drew ?_ | refine blk_alloc ?_ _)); refine blk_far ?_ NB282_292.out _; (with_reducible repeat (first | refine blk_drewN ?_ _ | refine blk_drew ?_ | refine blk_alloc ?_ _)); exact BK282.out) Try.underlying75 rfl (by kernel_rfl)) rfl ?_
   exact ⟨_, _, by first | rfl | (simp [errW_none, errW_some] <;> rfl) | (simp [*, errW_none, errW_some] <;> rfl), by first | exact Kd.S_nil _ _ _ _ _ | exact Kd.N_nil _ _ _ _ _ | exact Kd.V_nil _ _ _ _ _ | exact Kd.Q_nil _ _ _ _ _ | exact Kd.R_nil _ _ _ _ _, by first | exact Kd.R_nil _ _ _ _ _ | exact Kd.N_nil _ _ _ _ _ | exact Kd.V_nil _ _ _ _ _ | exact Kd.Q_nil _ _ _ _ _ | exact Kd.S_nil _ _ _ _ _, hb_⟩
 ·rw [if_neg c4] at H
  have c4b0 : (t283 == 0) = false := beq_eq_false_iff_ne.mpr c4
  have c4b1 : (t283 != 0) = true := bne_iff_ne.mpr c4
  simp only [Option.some.injEq, Prod.mk.injEq] at H
  obtain ⟨rfl, rfl, rfl, rfl⟩ := H
  go_enter Try.func60, Try.ntmps60
  go_wp2_with (first | ((with_reducible refine gate_dst (N := 2) rfl ?_); refine box_event ?hg (N := 2) ?hd (cs := #[.slice A0_0 l0_0.length c0_0, .slice A0_1 l0_1.length c0_1]) (t := 29) ?hr ?_; (case hd => rfl); (case hg => rfl); (case hr => first | (go_simp; done) | (go_simp; rfl)); intro gb281 hg w35 hbox hb; have n0_ := Aside0.mk (bs_ hb); have n1_ := Aside0.mk (hbox); have n2_ := Aside0.mk ((by rw [hg]; exact bz_ : w.heap.size ≤ gb281)); have n3_ := Aside0.mk ((by rw [hg]; exact bz_ : w.heap.size ≤ gb281)); clear HB; have HB := n0_; have BK281 := n1_; have GW281 := n2_; have GE281 := n3_; clear n0_ n1_ n2_ n3_; clear hb hbox hg) | ((with_reducible refine gate_dst (N := 4) rfl ?_); refine box_event ?hg (N := 4) ?hd (cs := #[.int .i64 0, .slice none 0 0, .slice none 0 0]) (t := 75) ?hr ?_; (case hd => rfl); (case hg => rfl); (case hr => first | (go_simp; done) | (go_simp; rfl)); intro gb282 hg w36 hbox hb; have n0_ := Aside0.mk (bb_ BK281.out hb); have n1_ := Aside0.mk (bs_ hb); have n2_ := Aside0.mk (hbox); have n3_ := Aside0.mk ((by rw [hg]; exact bz_ : w.heap.size ≤ gb282)); have n4_ := Aside0.mk ((by rw [hg]; exact bz_ : w.heap.size ≤ gb282)); have n5_ := Aside0.mk ((by rw [hg]; exact lt_ BK281.out : gb281 ≠ gb282)); have n6_ := Aside0.mk ((by rw [hg]; exact gt_ BK281.out : gb282 ≠ gb281)); clear BK281; clear HB; have BK281 := n0_; have HB := n1_; have BK282 := n2_; have GW282 := n3_; have GE282 := n4_; have NB281_282 := n5_; have NB282_281 := n6_; clear n0_ n1_ n2_ n3_ n4_ n5_ n6_; clear hb hbox hg; have hnb37 := NB281_282.out; have hnc37 := NB282_281.out; have hcz38_0 : w36.cell? ⟨gb281, 0, none⟩ = some (.slice A0_0 l0_0.length c0_0) := (blk_cell BK281.out 0).trans rfl; have hcz38_1 : w36.cell? ⟨gb281, 1, none⟩ = some (.slice A0_1 l0_1.length c0_1) := (blk_cell BK281.out 1).trans rfl; have hfz38_0 := blk_frozen BK281.out 0; have hfz38_1 := blk_frozen BK281.out 1) | ((with_reducible refine gate_callee (f := 74) rfl ?_); refine goesL_ (some 11) rfl rfl Try.func74 (by kernel_rfl) rfl #[.agg #[.slice A0_0 l0_0.length c0_0, .slice A0_1 l0_1.length c0_1], .int .i64 a1] rfl (by (try simp only [List.map_toArray, List.map_cons, List.map_nil]); first | done | rfl | (simp only [List.length_drop, List.length_take]; rfl)) ?_; (with_reducible refine (spec_l02Code.calls k _ _ l0_0 _ _ l0_1 a1 t283 _ ?side1 ?side2 ?side3 ?side4 A3.out).mono ?_); (case side1 => exact cb_ HR0_0.out HB.out); (case side2 => exact HC0_0.out); (case side3 => exact cb_ HR0_1.out HB.out); (case side4 => exact HC0_1.out); rintro e w39 ⟨rfl, hb⟩; refine ⟨_, rfl, ?_⟩; have n0_ := Aside0.mk (bb_ BK281.out hb); have n1_ := Aside0.mk (bb_ BK282.out hb); have n2_ := Aside0.mk (bs_ hb); clear BK281; clear BK282; clear HB; have BK281 := n0_; have BK282 := n1_; have HB := n2_; clear n0_ n1_ n2_; (try clear hb); (try clear hb2); (try clear hk); (try clear hi); have hcz40_0 : w39.cell? ⟨gb282, 0, none⟩ = some (.int .i64 0) := (blk_cell BK282.out 0).trans rfl; have hcz40_1 : w39.cell? ⟨gb282, 1, none⟩ = some (.slice none 0 0) := (blk_cell BK282.out 1).trans rfl; have hcz40_2 : w39.cell? ⟨gb282, 2, none⟩ = some (.slice none 0 0) := (blk_cell BK282.out 2).trans rfl; have hfz40_0 := blk_frozen BK282.out 0; have hfz40_1 := blk_frozen BK282.out 1; have hfz40_2 := blk_frozen BK282.out 2))
  refine bodyPost_ret (results_ct rfl _ _ gb282 75 #[.int .i64 0, .slice none 0 0, .slice none 0 0] (0, 0) _ rfl (by (with_reducible repeat (first | refine blk_drewN ?_ _ | refine blk_drew ?_ | refine blk_alloc ?_ _)); refine blk_put (cs := #[.int .i64 0, .slice none 0 0, .slice none 0 0]) ?_ 2 _ rfl; (with_reducible repeat (first | refine blk_drewN ?_ _ | refine blk_drew ?_ | refine blk_alloc ?_ _)); refine blk_put (cs := #[.int .i64 0, .slice none 0 0, .slice none 0 0]) ?_ 1 _ rfl; (with_reducible repeat (first | refine blk_drewN ?_ _ | refine blk_drew ?_ | refine blk_alloc ?_ _)); refine blk_put (cs := #[.int .i64 0, .slice none 0 0, .slice none 0 0]) ?_ 0 _ rfl; (with_reducible repeat (first | refine blk_drewN ?_ _ | refine blk_drew ?_ | refine blk_alloc ?_ _)); exact BK282.out) Try.underlying75 rfl (by kernel_rfl)) rfl ?_
  exact ⟨_, _, by first | rfl | (simp [errW_none, errW_some] <;> rfl) | (simp [*, errW_none, errW_some] <;> rfl), by first | exact Kd.S_nil _ _ _ _ _ | exact Kd.N_nil _ _ _ _ _ | exact Kd.V_nil _ _ _ _ _ | exact Kd.Q_nil _ _ _ _ _ | exact Kd.R_nil _ _ _ _ _, by first | exact Kd.R_nil _ _ _ _ _ | exact Kd.N_nil _ _ _ _ _ | exact Kd.V_nil _ _ _ _ _ | exact Kd.Q_nil _ _ _ _ _ | exact Kd.S_nil _ _ _ _ _, hb_⟩
mutual
def spec_l04Whole.l0 : Nat → Int → Int → List (List Int) → List Int → Option (Bool)
 | 0, _, _, _, _ => none
 | k + 1, x3, x814000, x814001, x814002 => if x3 < (x814002.length : Int) then (if 0 ≤ x3 then (if x814000 = 0 then (none) else (if (Int.tmod (rd x814002 x3) x814000) = 0 then (spec_l04Whole.l1 k x3 0 x814000 x814001 x814002) else (some false))) else (none)) else (some true)
def spec_l04Whole.l1 : Nat → Int → Int → Int → List (List Int) → List Int → Option (Bool)
 | 0, _, _, _, _, _ => none
 | k + 1, x3, x4, x814000, x814001, x814002 => if x4 < (x814002.length : Int) then (if 0 ≤ x3 then (if x3 < (x814001.length : Int) then (if 0 ≤ x4 then (if x4 < ((rd_L1 x814001 x3).length : Int) then (if x814000 = 0 then (none) else (if (Int.tmod (rd (rd_L1 x814001 x3) x4) x814000) = 0 then (spec_l04Whole.l1 k x3 (wrap64 (x4 + 1)) x814000 x814001 x814002) else (some false))) else (none)) else (none)) else (none)) else (none)) else (spec_l04Whole.l0 k (wrap64 (x3 + 1)) x814000 x814001 x814002)
end
def spec_l04Whole.f (k : Nat) (a0_0 : Int) (l0_1 : List (List Int)) (l0_2 : List Int) : Option (Bool) := spec_l04Whole.l0 k 0 a0_0 l0_1 l0_2
theorem spec_l04Whole.mono_l : ∀ k, (∀ y0 y1 y2 y3, LeO (spec_l04Whole.l0 k y0 y1 y2 y3) (spec_l04Whole.l0 (k + 1) y0 y1 y2 y3)) ∧ (∀ y0 y1 y2 y3 y4, LeO (spec_l04Whole.l1 k y0 y1 y2 y3 y4) (spec_l04Whole.l1 (k + 1) y0 y1 y2 y3 y4))
 | 0 => ⟨fun _ _ _ _ r h => by simp [spec_l04Whole.l0] at h, fun _ _ _ _ _ r h => by simp [spec_l04Whole.l1] at h⟩
 | k + 1 => by
  obtain ⟨ih0, ih1⟩ := spec_l04Whole.mono_l k
  refine ⟨?_, ?_⟩
  ·intro y0 y1 y2 y3
   unfold spec_l04Whole.l0
   repeat' first
   | (with_reducible exact ih0 _ _ _ _)
   | (with_reducible exact ih1 _ _ _ _ _)
   | (with_reducible exact LeO.refl _)
   | (with_reducible exact LeO.none _)
   | (with_reducible refine LeO.ite ?_ ?_)
   | (with_reducible refine LeO.bind ?_ (fun _ => ?_))
   | exact ih0 _ _ _ _
   | exact ih1 _ _ _ _ _
   | exact LeO.none _
   | refine LeO.ite ?_ ?_
   | refine LeO.bind ?_ (fun _ => ?_)
  ·intro y0 y1 y2 y3 y4
   unfold spec_l04Whole.l1
   repeat' first
   | (with_reducible exact ih0 _ _ _ _)
   | (with_reducible exact ih1 _ _ _ _ _)
   | (with_reducible exact LeO.refl _)
   | (with_reducible exact LeO.none _)
   | (with_reducible refine LeO.ite ?_ ?_)
   | (with_reducible refine LeO.bind ?_ (fun _ => ?_))
   | exact ih0 _ _ _ _
   | exact ih1 _ _ _ _ _
   | exact LeO.none _
   | refine LeO.ite ?_ ?_
   | refine LeO.bind ?_ (fun _ => ?_)
theorem spec_l04Whole.mono : ∀ a0 a1 a2 k, LeO (spec_l04Whole.f k a0 a1 a2) (spec_l04Whole.f (k + 1) a0 a1 a2) := by
 intro a0 a1 a2 k
 obtain ⟨ih0, ih1⟩ := spec_l04Whole.mono_l k
 unfold spec_l04Whole.f
 repeat' first
   | (with_reducible exact ih0 _ _ _ _)
   | (with_reducible exact ih1 _ _ _ _ _)
   | (with_reducible exact LeO.refl _)
   | (with_reducible exact LeO.none _)
   | (with_reducible refine LeO.ite ?_ ?_)
   | (with_reducible refine LeO.bind ?_ (fun _ => ?_))
   | exact ih0 _ _ _ _
   | exact ih1 _ _ _ _ _
   | exact LeO.none _
   | refine LeO.ite ?_ ?_
   | refine LeO.bind ?_ (fun _ => ?_)
theorem spec_l04Whole.calls (k : Nat) (a0_0 : Int) (A0_1 : Option Addr) (c0_1 : Nat) (l0_1 : List (List Int)) (A0_2 : Option Addr) (c0_2 : Nat) (l0_2 : List Int) (r : Bool) (w : World) (hr0_1 : Kd.C (Kd.slice 2 (Kd.int .i64)) w A0_1 l0_1.length l0_1) (hc0_1 : l0_1.length ≤ c0_1) (hr0_2 : Kd.C (Kd.int .i64) w A0_2 l0_2.length l0_2) (hc0_2 : l0_2.length ≤ c0_2) (h : spec_l04Whole.f k a0_0 l0_1 l0_2 = some r) :
  Calls Try.prog 82 #[.agg #[.int .i64 a0_0, .slice A0_1 l0_1.length c0_1, .slice A0_2 l0_2.length c0_2]] w fun e w' => e = .returned (.bool r) ∧ Below w.heap.size w w' := by
 have hu75 := Try.underlying75
 have HR0_1 := Aside0.mk hr0_1
 have HC0_1 := Aside0.mk hc0_1
 clear hr0_1 hc0_1
 have HR0_2 := Aside0.mk hr0_2
 have HC0_2 := Aside0.mk hc0_2
 clear hr0_2 hc0_2
 have HB := Aside0.mk (Below.refl w.heap.size w)
 have H : (spec_l04Whole.l0 k 0 a0_0 l0_1 l0_2) = some r := h
 clear h
 have H' := Aside0.mk H
 clear H
 go_enter Try.func82, Try.ntmps82
 go_wp2_with (first | ((with_reducible refine gate_dst (N := 1) rfl ?_); refine box_event ?hg (N := 1) ?hd (cs := #[.int .i64 a0_0, .slice A0_1 l0_1.length c0_1, .slice A0_2 l0_2.length c0_2]) (t := 75) ?hr ?_; (case hd => rfl); (case hg => rfl); (case hr => first | (go_simp; done) | (go_simp; rfl)); intro gb813 hg w2 hbox hb; have n0_ := Aside0.mk (bs_ hb); have n1_ := Aside0.mk (hbox); have n2_ := Aside0.mk ((by rw [hg]; exact bz_ : w.heap.size ≤ gb813)); have n3_ := Aside0.mk ((by rw [hg]; exact bz_ : w.heap.size ≤ gb813)); clear HB; have HB := n0_; have BK813 := n1_; have GW813 := n2_; have GE813 := n3_; clear n0_ n1_ n2_ n3_; clear hb hbox hg))
 repeat (go_quiet (first | ((with_reducible refine gate_dst (N := 1) rfl ?_); refine box_event ?hg (N := 1) ?hd (cs := #[.int .i64 a0_0, .slice A0_1 l0_1.length c0_1, .slice A0_2 l0_2.length c0_2]) (t := 75) ?hr ?_; (case hd => rfl); (case hg => rfl); (case hr => first | (go_simp; done) | (go_simp; rfl)); intro gb813 hg w2 hbox hb; have n0_ := Aside0.mk (bs_ hb); have n1_ := Aside0.mk (hbox); have n2_ := Aside0.mk ((by rw [hg]; exact bz_ : w.heap.size ≤ gb813)); have n3_ := Aside0.mk ((by rw [hg]; exact bz_ : w.heap.size ≤ gb813)); clear HB; have HB := n0_; have BK813 := n1_; have GW813 := n2_; have GE813 := n3_; clear n0_ n1_ n2_ n3_; clear hb hbox hg)); try go_wp2_with (first | ((with_reducible refine gate_dst (N := 1) rfl ?_); refine box_event ?hg (N := 1) ?hd (cs := #[.int .i64 a0_0, .slice A0_1 l0_1.length c0_1, .slice A0_2 l0_2.length c0_2]) (t := 75) ?hr ?_; (case hd => rfl); (case hg => rfl); (case hr => first | (go_simp; done) | (go_simp; rfl)); intro gb813 hg w2 hbox hb; have n0_ := Aside0.mk (bs_ hb); have n1_ := Aside0.mk (hbox); have n2_ := Aside0.mk ((by rw [hg]; exact bz_ : w.heap.size ≤ gb813)); have n3_ := Aside0.mk ((by rw [hg]; exact bz_ : w.heap.size ≤ gb813)); clear HB; have HB := n0_; have BK813 := n1_; have GW813 := n2_; have GE813 := n3_; clear n0_ n1_ n2_ n3_; clear hb hbox hg)))
 go_loopg [3] k (fun kq v3 w' => ∃ (x3_1 : Int), v3 = .int .i64 x3_1 ∧ Aside0 (spec_l04Whole.l0 kq x3_1 a0_0 l0_1 l0_2 = some r) ∧ Aside0 (kq ≤ k) ∧ Aside0 (w'.heap[gb813]? = some (.cells #[.int .i64 a0_0, (.slice A0_1 l0_1.length c0_1), (.slice A0_2 l0_2.length c0_2)] 75 (0, 0))) ∧ Aside0 (Below w.heap.size w w'))
 case atStart => exact ⟨(0), (by first | rfl | (simp; done) | (simp [*]; done)), H', ⟨Nat.le_refl _⟩, ⟨bk_⟩, ⟨hb_⟩⟩
 case round =>
  clear H'
  try clear p2
  obtain ⟨x3_1, rfl, HA, HK1, BK813, HB⟩ := hrel
  cases gk with
  | zero => exact absurd HA.out (by simp [spec_l04Whole.l0])
  | succ k1 =>
   have H := HA.out
   clear HA
   simp only [spec_l04Whole.l0] at H
   by_cases c3 : x3_1 < (l0_2.length : Int)
   ·rw [if_pos c3] at H
    have c3b0 : decide (x3_1 < (l0_2.length : Int)) = true := decide_eq_true c3
    clear c3
    by_cases c4 : 0 ≤ x3_1
    ·rw [if_pos c4] at H
     have c4b0 : decide (0 ≤ x3_1) = true := decide_eq_true c4
     clear c4
     by_cases c5 : a0_0 = 0
     ·rw [if_pos c5] at H
      exact absurd H (by simp)
     ·rw [if_neg c5] at H
      have c5b0 : (a0_0 == 0) = false := beq_eq_false_iff_ne.mpr c5
      have c5b1 : (a0_0 != 0) = true := bne_iff_ne.mpr c5
      by_cases c6 : (Int.tmod (rd l0_2 x3_1) a0_0) = 0
      ·rw [if_pos c6] at H
       have c6b0 : ((Int.tmod (rd l0_2 x3_1) a0_0) == 0) = true := beq_iff_eq.mpr c6
       have c6b1 : ((Int.tmod (rd l0_2 x3_1) a0_0) != 0) = false := bne_eq_false_iff_eq.mpr c6
       clear c6
       have H' := Aside0.mk H
       clear H
       have hcz7_0 : wr.cell? ⟨gb813, 0, none⟩ = some (.int .i64 a0_0) := (blk_cell BK813.out 0).trans rfl
       have hcz7_1 : wr.cell? ⟨gb813, 1, none⟩ = some (.slice A0_1 l0_1.length c0_1) := (blk_cell BK813.out 1).trans rfl
       have hcz7_2 : wr.cell? ⟨gb813, 2, none⟩ = some (.slice A0_2 l0_2.length c0_2) := (blk_cell BK813.out 2).trans rfl
       have hfz7_0 := blk_frozen BK813.out 0
       have hfz7_1 := blk_frozen BK813.out 1
       have hfz7_2 := blk_frozen BK813.out 2
       have p814 : 0 ≤ (x3_1 : Int) := of_decide_eq_true (by first | (with_reducible assumption) | assumption)
       have q814 : x3_1 < (l0_2.length : Int) := of_decide_eq_true (by first | (with_reducible assumption) | assumption)
       obtain ⟨ad814, e814, hx814_0⟩ := Kd.at_int HR0_2.out x3_1 p814 q814
       cases e814
       replace hx814_0 := (HB.out.cell (World.block_lt_of_cell? w _ hx814_0)).trans hx814_0
       replace p814 := eq_true p814
       replace q814 := eq_true q814
       go_wp2
       repeat (go_quiet (fail); try go_wp2)
       go_loopg [4] k1 (fun kq v4 w' => ∃ (x4_2 : Int), v4 = .int .i64 x4_2 ∧ Aside0 (spec_l04Whole.l1 kq x3_1 x4_2 a0_0 l0_1 l0_2 = some r) ∧ Aside0 (kq ≤ k1) ∧ Aside0 (w'.heap[gb813]? = some (.cells #[.int .i64 a0_0, (.slice A0_1 l0_1.length c0_1), (.slice (some ad814) l0_2.length c0_2)] 75 (0, 0))) ∧ Aside0 (Below w.heap.size w w'))
       case atStart => exact ⟨(0), (by first | rfl | (simp; done) | (simp [*]; done)), H', ⟨Nat.le_refl _⟩, ⟨bk_⟩, ⟨hb_⟩⟩
       case round =>
        clear H'
        try clear p2
        try clear c3
        try clear c3b0
        try clear c4
        try clear c4b0
        try clear c5
        try clear c5b0
        try clear c5b1
        try clear c6
        try clear c6b0
        try clear c6b1
        try clear hcz7_0
        try clear hcz7_1
        try clear hcz7_2
        try clear hfz7_0
        try clear hfz7_1
        try clear hfz7_2
        try clear hx814_0
        try clear p2
        try clear p814
        try clear q814
        obtain ⟨x4_2, rfl, HA, HK2, BK813, HB⟩ := hrel
        cases gk with
        | zero => exact absurd HA.out (by simp [spec_l04Whole.l1])
        | succ k2 =>
         have H := HA.out
         clear HA
         simp only [spec_l04Whole.l1] at H
         by_cases c8 : x4_2 < (l0_2.length : Int)
         ·rw [if_pos c8] at H
          have c8b0 : decide (x4_2 < (l0_2.length : Int)) = true := decide_eq_true c8
          clear c8
          by_cases c9 : 0 ≤ x3_1
          ·rw [if_pos c9] at H
           have c9b0 : decide (0 ≤ x3_1) = true := decide_eq_true c9
           clear c9
           by_cases c10 : x3_1 < (l0_1.length : Int)
           ·rw [if_pos c10] at H
            have c10b0 : decide (x3_1 < (l0_1.length : Int)) = true := decide_eq_true c10
            clear c10
            by_cases c11 : 0 ≤ x4_2
            ·rw [if_pos c11] at H
             have c11b0 : decide (0 ≤ x4_2) = true := decide_eq_true c11
             clear c11
             by_cases c12 : x4_2 < ((rd_L1 l0_1 x3_1).length : Int)
             ·rw [if_pos c12] at H
              have c12b0 : decide (x4_2 < ((rd_L1 l0_1 x3_1).length : Int)) = true := decide_eq_true c12
              clear c12
              by_cases c13 : a0_0 = 0
              ·rw [if_pos c13] at H
               exact absurd H (by simp)
              ·rw [if_neg c13] at H
               have c13b0 : (a0_0 == 0) = false := beq_eq_false_iff_ne.mpr c13
               have c13b1 : (a0_0 != 0) = true := bne_iff_ne.mpr c13
               by_cases c14 : (Int.tmod (rd (rd_L1 l0_1 x3_1) x4_2) a0_0) = 0
               ·rw [if_pos c14] at H
                have c14b0 : ((Int.tmod (rd (rd_L1 l0_1 x3_1) x4_2) a0_0) == 0) = true := beq_iff_eq.mpr c14
                have c14b1 : ((Int.tmod (rd (rd_L1 l0_1 x3_1) x4_2) a0_0) != 0) = false := bne_eq_false_iff_eq.mpr c14
                clear c14
                have H' := Aside0.mk H
                clear H
                have hcz15_0 : wr.cell? ⟨gb813, 0, none⟩ = some (.int .i64 a0_0) := (blk_cell BK813.out 0).trans rfl
                have hcz15_1 : wr.cell? ⟨gb813, 1, none⟩ = some (.slice A0_1 l0_1.length c0_1) := (blk_cell BK813.out 1).trans rfl
                have hcz15_2 : wr.cell? ⟨gb813, 2, none⟩ = some (.slice (some ad814) l0_2.length c0_2) := (blk_cell BK813.out 2).trans rfl
                have hfz15_0 := blk_frozen BK813.out 0
                have hfz15_1 := blk_frozen BK813.out 1
                have hfz15_2 := blk_frozen BK813.out 2
                have p815 : 0 ≤ (x3_1 : Int) := of_decide_eq_true (by first | (with_reducible assumption) | assumption)
                have q815 : x3_1 < (l0_1.length : Int) := of_decide_eq_true (by first | (with_reducible assumption) | assumption)
                obtain ⟨ad815, A815_0, c815_0, e815, hx815_0, hl815_0, hi815_0⟩ := at_L1 HR0_1.out x3_1 p815 q815
                cases e815
                replace hx815_0 := (HB.out.cell (World.block_lt_of_cell? w _ hx815_0)).trans hx815_0
                have HR815_0 := Aside0.mk hi815_0
                have HC815_0 := Aside0.mk hl815_0
                clear hi815_0 hl815_0
                replace p815 := eq_true p815
                replace q815 := eq_true q815
                have p816 : 0 ≤ (x4_2 : Int) := of_decide_eq_true (by first | (with_reducible assumption) | assumption)
                have q816 : x4_2 < ((rd_L1 l0_1 x3_1).length : Int) := of_decide_eq_true (by first | (with_reducible assumption) | assumption)
                obtain ⟨ad816, e816, hx816_0⟩ := Kd.at_int HR815_0.out x4_2 p816 q816
                cases e816
                replace hx816_0 := (HB.out.cell (World.block_lt_of_cell? w _ hx816_0)).trans hx816_0
                replace p816 := eq_true p816
                replace q816 := eq_true q816
                go_wp2
                repeat (go_quiet (fail); try go_wp2)
                go_roundg k2
                case measure => have := HK1.out; have := HK2.out; omega
                case rel => exact ⟨(wrap64 (x4_2 + 1)), (by first | rfl | (simp; done) | (simp [*]; done)), H', ⟨by have := HK1.out; have := HK2.out; omega⟩, ⟨bk_⟩, ⟨hb_⟩⟩
               ·rw [if_neg c14] at H
                have c14b0 : ((Int.tmod (rd (rd_L1 l0_1 x3_1) x4_2) a0_0) == 0) = false := beq_eq_false_iff_ne.mpr c14
                have c14b1 : ((Int.tmod (rd (rd_L1 l0_1 x3_1) x4_2) a0_0) != 0) = true := bne_iff_ne.mpr c14
                obtain rfl := Option.some.inj H
                have hcz16_0 : wr.cell? ⟨gb813, 0, none⟩ = some (.int .i64 a0_0) := (blk_cell BK813.out 0).trans rfl
                have hcz16_1 : wr.cell? ⟨gb813, 1, none⟩ = some (.slice A0_1 l0_1.length c0_1) := (blk_cell BK813.out 1).trans rfl
                have hcz16_2 : wr.cell? ⟨gb813, 2, none⟩ = some (.slice (some ad814) l0_2.length c0_2) := (blk_cell BK813.out 2).trans rfl
                have hfz16_0 := blk_frozen BK813.out 0
                have hfz16_1 := blk_frozen BK813.out 1
                have hfz16_2 := blk_frozen BK813.out 2
                have p815 : 0 ≤ (x3_1 : Int) := of_decide_eq_true (by first | (with_reducible assumption) | assumption)
                have q815 : x3_1 < (l0_1.length : Int) := of_decide_eq_true (by first | (with_reducible assumption) | assumption)
                obtain ⟨ad815, A815_0, c815_0, e815, hx815_0, hl815_0, hi815_0⟩ := at_L1 HR0_1.out x3_1 p815 q815
                cases e815
                replace hx815_0 := (HB.out.cell (World.block_lt_of_cell? w _ hx815_0)).trans hx815_0
                have HR815_0 := Aside0.mk hi815_0
                have HC815_0 := Aside0.mk hl815_0
                clear hi815_0 hl815_0
                replace p815 := eq_true p815
                replace q815 := eq_true q815
                have p816 : 0 ≤ (x4_2 : Int) := of_decide_eq_true (by first | (with_reducible assumption) | assumption)
                have q816 : x4_2 < ((rd_L1 l0_1 x3_1).length : Int) := of_decide_eq_true (by first | (with_reducible assumption) | assumption)
                obtain ⟨ad816, e816, hx816_0⟩ := Kd.at_int HR815_0.out x4_2 p816 q816
                cases e816
                replace hx816_0 := (HB.out.cell (World.block_lt_of_cell? w _ hx816_0)).trans hx816_0
                replace p816 := eq_true p816
                replace q816 := eq_true q816
                go_wp2
                repeat (go_quiet (fail); try go_wp2)
                go_ret
                exact ⟨by first | rfl | (simp [errW_none, errW_some] <;> rfl) | (simp [*, errW_none, errW_some] <;> rfl), hb_⟩
             ·rw [if_neg c12] at H
              exact absurd H (by simp)
            ·rw [if_neg c11] at H
             exact absurd H (by simp)
           ·rw [if_neg c10] at H
            exact absurd H (by simp)
          ·rw [if_neg c9] at H
           exact absurd H (by simp)
         ·rw [if_neg c8] at H
          have c8b0 : decide (x4_2 < (l0_2.length : Int)) = false := decide_eq_false c8
          clear c8
          have H' := Aside0.mk H
          clear H
          have hcz17_0 : wr.cell? ⟨gb813, 0, none⟩ = some (.int .i64 a0_0) := (blk_cell BK813.out 0).trans rfl
          have hcz17_1 : wr.cell? ⟨gb813, 1, none⟩ = some (.slice A0_1 l0_1.length c0_1) := (blk_cell BK813.out 1).trans rfl
          have hcz17_2 : wr.cell? ⟨gb813, 2, none⟩ = some (.slice (some ad814) l0_2.length c0_2) := (blk_cell BK813.out 2).trans rfl
          have hfz17_0 := blk_frozen BK813.out 0
          have hfz17_1 := blk_frozen BK813.out 1
          have hfz17_2 := blk_frozen BK813.out 2
          go_wp2
          repeat (go_quiet (fail); try go_wp2)
          go_roundg k2
          case measure => have := HK1.out; have := HK2.out; omega
          case rel => exact ⟨(wrap64 (x3_1 + 1)), (by first | rfl | (simp; done) | (simp [*]; done)), H', ⟨by have := HK1.out; have := HK2.out; omega⟩, ⟨bk_⟩, ⟨hb_⟩⟩
      ·rw [if_neg c6] at H
       have c6b0 : ((Int.tmod (rd l0_2 x3_1) a0_0) == 0) = false := beq_eq_false_iff_ne.mpr c6
       have c6b1 : ((Int.tmod (rd l0_2 x3_1) a0_0) != 0) = true := bne_iff_ne.mpr c6
       obtain rfl := Option.some.inj H
       have hcz18_0 : wr.cell? ⟨gb813, 0, none⟩ = some (.int .i64 a0_0) := (blk_cell BK813.out 0).trans rfl
       have hcz18_1 : wr.cell? ⟨gb813, 1, none⟩ = some (.slice A0_1 l0_1.length c0_1) := (blk_cell BK813.out 1).trans rfl
       have hcz18_2 : wr.cell? ⟨gb813, 2, none⟩ = some (.slice A0_2 l0_2.length c0_2) := (blk_cell BK813.out 2).trans rfl
       have hfz18_0 := blk_frozen BK813.out 0
       have hfz18_1 := blk_frozen BK813.out 1
       have hfz18_2 := blk_frozen BK813.out 2
       have p814 : 0 ≤ (x3_1 : Int) := of_decide_eq_true (by first | (with_reducible assumption) | assumption)
       have q814 : x3_1 < (l0_2.length : Int) := of_decide_eq_true (by first | (with_reducible assumption) | assumption)
       obtain ⟨ad814, e814, hx814_0⟩ := Kd.at_int HR0_2.out x3_1 p814 q814
       cases e814
       replace hx814_0 := (HB.out.cell (World.block_lt_of_cell? w _ hx814_0)).trans hx814_0
       replace p814 := eq_true p814
       replace q814 := eq_true q814
       go_wp2
       repeat (go_quiet (fail); try go_wp2)
       go_ret
       exact ⟨by first | rfl | (simp [errW_none, errW_some] <;> rfl) | (simp [*, errW_none, errW_some] <;> rfl), hb_⟩
    ·rw [if_neg c4] at H
     exact absurd H (by simp)
   ·rw [if_neg c3] at H
    have c3b0 : decide (x3_1 < (l0_2.length : Int)) = false := decide_eq_false c3
    clear c3
    obtain rfl := Option.some.inj H
    have hcz19_0 : wr.cell? ⟨gb813, 0, none⟩ = some (.int .i64 a0_0) := (blk_cell BK813.out 0).trans rfl
    have hcz19_1 : wr.cell? ⟨gb813, 1, none⟩ = some (.slice A0_1 l0_1.length c0_1) := (blk_cell BK813.out 1).trans rfl
    have hcz19_2 : wr.cell? ⟨gb813, 2, none⟩ = some (.slice A0_2 l0_2.length c0_2) := (blk_cell BK813.out 2).trans rfl
    have hfz19_0 := blk_frozen BK813.out 0
    have hfz19_1 := blk_frozen BK813.out 1
    have hfz19_2 := blk_frozen BK813.out 2
    go_wp2
    repeat (go_quiet (fail); try go_wp2)
    go_ret
    exact ⟨by first | rfl | (simp [errW_none, errW_some] <;> rfl) | (simp [*, errW_none, errW_some] <;> rfl), hb_⟩
end Go.Proofs.Ythdoilfjcgickaa.Pr
end
