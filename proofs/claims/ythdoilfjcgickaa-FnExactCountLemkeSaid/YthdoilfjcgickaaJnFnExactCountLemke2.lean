/- Texts of one claim (the words of the kit's print that the claim uses, printed functions, and this session's own texts), joined in the order of their imports by this session's own program (merge.py). -/
import Derived.WalkLawsBesides
import Derived.Laws.CopyOwn
import Derived.Test.YthdoilfjcgickaaJnFnExactCountLemke0
import Derived.Test.YthdoilfjcgickaaJnFnExactCountLemke1
set_option linter.unusedVariables false
set_option linter.unusedSimpArgs false
set_option maxHeartbeats 8000000
set_option maxRecDepth 100000
section
namespace Go.Proofs.Ythdoilfjcgickaa.Pr
open Go.RowKit Go.Proofs.YthdoilfjcgickaaW.PrintWords Go.Proofs.YthdoilfjcgickaaW.PrintLast Go.Proofs.YthdoilfjcgickaaW.PrintMore
attribute [local go_sem] max2_int min2_int max_two min_two max_three min_three max_four min_four
mutual
def spec_l01Columns.l0 : Nat → List (List Int) → Int → List (List Int) → Int → Option ((List (List Int)))
 | 0, _, _, _, _ => none
 | k + 1, x0, x1, x5, x6 => if x6 < (x0.length : Int) then (spec_l01Columns.l1 k x0 x1 x5 x6 (([] : List Int)) 0) else (some x5)
def spec_l01Columns.l1 : Nat → List (List Int) → Int → List (List Int) → Int → List Int → Int → Option ((List (List Int)))
 | 0, _, _, _, _, _, _ => none
 | k + 1, x0, x1, x5, x6, x7, x8 => if x8 < (x0.length : Int) then (if 0 ≤ (IntKind.u64.wrap (x8)) then (if (Go.bits .and .i64 (shr .i64 x1 (IntKind.u64.wrap (x8))) 1) = 1 then (if 0 ≤ x6 then (if x6 < (x0.length : Int) then (if 0 ≤ x8 then (if x8 < ((rd_L1 x0 x6).length : Int) then (if x7.length < 17592186044416 then (spec_l01Columns.l1 k x0 x1 x5 x6 (x7 ++ [wrap64 (-(rd (rd_L1 x0 x6) x8))]) (wrap64 (x8 + 1))) else (none)) else (none)) else (none)) else (none)) else (none)) else (if x6 = x8 then (if x7.length < 17592186044416 then (spec_l01Columns.l1 k x0 x1 x5 x6 (x7 ++ [1]) (wrap64 (x8 + 1))) else (none)) else (if x7.length < 17592186044416 then (spec_l01Columns.l1 k x0 x1 x5 x6 (x7 ++ [0]) (wrap64 (x8 + 1))) else (none)))) else (none)) else (if x5.length < 5864062014805 then (spec_l01Columns.l0 k x0 x1 (x5 ++ [x7]) (wrap64 (x6 + 1))) else (none))
end
def spec_l01Columns.f (k : Nat) (l0 : List (List Int)) (a1 : Int) : Option ((List (List Int))) := spec_l01Columns.l0 k l0 a1 (([] : List (List Int))) 0
theorem spec_l01Columns.mono_l : ∀ k, (∀ y0 y1 y2 y3, LeO (spec_l01Columns.l0 k y0 y1 y2 y3) (spec_l01Columns.l0 (k + 1) y0 y1 y2 y3)) ∧ (∀ y0 y1 y2 y3 y4 y5, LeO (spec_l01Columns.l1 k y0 y1 y2 y3 y4 y5) (spec_l01Columns.l1 (k + 1) y0 y1 y2 y3 y4 y5))
 | 0 => ⟨fun _ _ _ _ r h => by simp [spec_l01Columns.l0] at h, fun _ _ _ _ _ _ r h => by simp [spec_l01Columns.l1] at h⟩
 | k + 1 => by
  obtain ⟨ih0, ih1⟩ := spec_l01Columns.mono_l k
  refine ⟨?_, ?_⟩
  ·intro y0 y1 y2 y3
   unfold spec_l01Columns.l0
   repeat' first
   | (with_reducible exact ih0 _ _ _ _)
   | (with_reducible exact ih1 _ _ _ _ _ _)
   | (with_reducible exact LeO.refl _)
   | (with_reducible exact LeO.none _)
   | (with_reducible refine LeO.ite ?_ ?_)
   | (with_reducible refine LeO.bind ?_ (fun _ => ?_))
   | exact ih0 _ _ _ _
   | exact ih1 _ _ _ _ _ _
   | exact LeO.none _
   | refine LeO.ite ?_ ?_
   | refine LeO.bind ?_ (fun _ => ?_)
  ·intro y0 y1 y2 y3 y4 y5
   unfold spec_l01Columns.l1
   repeat' first
   | (with_reducible exact ih0 _ _ _ _)
   | (with_reducible exact ih1 _ _ _ _ _ _)
   | (with_reducible exact LeO.refl _)
   | (with_reducible exact LeO.none _)
   | (with_reducible refine LeO.ite ?_ ?_)
   | (with_reducible refine LeO.bind ?_ (fun _ => ?_))
   | exact ih0 _ _ _ _
   | exact ih1 _ _ _ _ _ _
   | exact LeO.none _
   | refine LeO.ite ?_ ?_
   | refine LeO.bind ?_ (fun _ => ?_)
theorem spec_l01Columns.mono : ∀ a0 a1 k, LeO (spec_l01Columns.f k a0 a1) (spec_l01Columns.f (k + 1) a0 a1) := by
 intro a0 a1 k
 obtain ⟨ih0, ih1⟩ := spec_l01Columns.mono_l k
 unfold spec_l01Columns.f
 repeat' first
   | (with_reducible exact ih0 _ _ _ _)
   | (with_reducible exact ih1 _ _ _ _ _ _)
   | (with_reducible exact LeO.refl _)
   | (with_reducible exact LeO.none _)
   | (with_reducible refine LeO.ite ?_ ?_)
   | (with_reducible refine LeO.bind ?_ (fun _ => ?_))
   | exact ih0 _ _ _ _
   | exact ih1 _ _ _ _ _ _
   | exact LeO.none _
   | refine LeO.ite ?_ ?_
   | refine LeO.bind ?_ (fun _ => ?_)
theorem spec_l01Columns.calls (k : Nat) (A0 : Option Addr) (c0 : Nat) (l0 : List (List Int)) (a1 : Int) (r : List (List Int)) (w : World) (hr0 : Kd.C (Kd.slice 2 (Kd.int .i64)) w A0 l0.length l0) (hc0 : l0.length ≤ c0) (h : spec_l01Columns.f k l0 a1 = some r) :
  Calls Try.prog 104 #[.slice A0 l0.length c0, .int .i64 a1] w fun e w' => ∃ v0_ : Value, e = .returned (v0_) ∧ Kd.S (Kd.slice 2 (Kd.int .i64)) 23 w' w.heap.size (fun _ => True) v0_ r ∧ Below w.heap.size w w' := by
 have HR0 := Aside0.mk hr0
 have HC0 := Aside0.mk hc0
 clear hr0 hc0
 have HB := Aside0.mk (Below.refl w.heap.size w)
 have H : (spec_l01Columns.l0 k l0 a1 (([] : List (List Int))) 0) = some r := h
 clear h
 obtain ⟨y221, hy221⟩ : ∃ y_ : List (List Int), y_ = (([] : List (List Int))) := ⟨_, rfl⟩
 replace H : (spec_l01Columns.l0 k l0 a1 y221 0) = some r := by first | (rw [hy221]; with_reducible exact H) | (have H2_ := (Option.bind_some _ _).symm.trans H; rw [hy221]; with_reducible exact H2_) | (have H2_ := (Option.bind_some _ _).symm.trans H; with_reducible exact H2_) | with_reducible exact H | (rw [hy221]; exact H) | exact H
 have Ny221 := Aside0.mk hy221
 clear hy221
 have H' := Aside0.mk H
 clear H
 go_enter Try.func104, Try.ntmps104
 go_wp2_with (first | ((with_reducible refine gate_dst (N := 9) rfl ?_); refine Kd.S_lit (Kd.slice 2 (Kd.int .i64)) _ 23 ?hg (N := 9) ?hd (xs := ([] : List (List Int))) (inner := []) (ok := fun _ => True) (okp := fun _ => True) ?hr ?hp (fun _ hk => hk) trivial (Below.refl _ _) (Nat.le_refl _) (by simp) ?_; (case hd => rfl); (case hg => rfl); (case hr => first | (go_simp; done) | (go_simp; rfl)); (case hp => exact (Reps.none _ _)); intro v222 w3 ho4 hb hg_ hnew_; clear hg_ hnew_; (first | rw [← Ny221.out] at ho4 | (simp only [Int.reduceToNat] at ho4; rw [← Ny221.out] at ho4)); have n0_ := Aside0.mk (Kd.S_lower ho4 bz_); have n1_ := Aside0.mk (bs_ hb); clear HB; have HO223 := n0_; have HB := n1_; clear n0_ n1_; clear hb ho4))
 go_loopg [5, 6] k (fun kq v5 v6 w' => ∃ (x5_1 : List (List Int)) (x6_1 : Int), v6 = .int .i64 x6_1 ∧ Aside0 (spec_l01Columns.l0 kq l0 a1 x5_1 x6_1 = some r) ∧ Aside0 (kq ≤ k) ∧ Aside0 (Kd.S (Kd.slice 2 (Kd.int .i64)) 23 w' w.heap.size (fun _ => True) v5 x5_1) ∧ Aside0 (Below w.heap.size w w'))
 case atStart => exact ⟨(y221), (0), rs_, H', ⟨Nat.le_refl _⟩, ⟨so_ HO223.out⟩, ⟨hb_⟩⟩
 case round =>
  clear H'
  try clear c1
  try clear p2
  obtain ⟨x5_1, x6_1, rfl, HA, HK1, HO_5, HB⟩ := hrel
  cases gk with
  | zero => exact absurd HA.out (by simp [spec_l01Columns.l0])
  | succ k1 =>
   have H := HA.out
   clear HA
   simp only [spec_l01Columns.l0] at H
   by_cases c5 : x6_1 < (l0.length : Int)
   ·rw [if_pos c5] at H
    have c5b0 : decide (x6_1 < (l0.length : Int)) = true := decide_eq_true c5
    clear c5
    obtain ⟨y224, hy224⟩ : ∃ y_ : List Int, y_ = (([] : List Int)) := ⟨_, rfl⟩
    replace H : (spec_l01Columns.l1 k1 l0 a1 x5_1 x6_1 y224 0) = some r := by first | (rw [hy224]; with_reducible exact H) | (have H2_ := (Option.bind_some _ _).symm.trans H; rw [hy224]; with_reducible exact H2_) | (have H2_ := (Option.bind_some _ _).symm.trans H; with_reducible exact H2_) | with_reducible exact H | (rw [hy224]; exact H) | exact H
    have Ny224 := Aside0.mk hy224
    clear hy224
    have H' := Aside0.mk H
    clear H
    go_wp2_with (first | ((with_reducible refine gate_dst (N := 16) rfl ?_); refine Kd.R_lit (Kd.int .i64) _ 2 ?hg (N := 16) ?hd (xs := ([] : List Int)) (inner := []) (ok := fun _ => True) (okp := fun _ => True) ?hr ?hp (fun _ hk => hk) trivial (Below.refl _ _) (Nat.le_refl _) (by simp) ?_; (case hd => rfl); (case hg => rfl); (case hr => first | (go_simp; done) | (go_simp; rfl)); (case hp => exact (Reps.none _ _)); intro v225 w6 ho7 hb hg_ hnew_; clear hg_ hnew_; (first | rw [← Ny224.out] at ho7 | (simp only [Int.reduceToNat] at ho7; rw [← Ny224.out] at ho7)); have n0_ := Aside0.mk (Kd.S_elder' (so_ HO_5.out) (Kd.R_base ho7) hb); have n1_ := Aside0.mk (Kd.R_lower ho7 bz_); have n2_ := Aside0.mk (bs_ hb); clear HO_5; clear HB; have HO_5 := n0_; have HO226 := n1_; have HB := n2_; clear n0_ n1_ n2_; clear hb ho7))
    go_loopg [7, 8] k1 (fun kq v7 v8 w' => ∃ (x7_2 : List Int) (x8_2 : Int), v8 = .int .i64 x8_2 ∧ Aside0 (spec_l01Columns.l1 kq l0 a1 x5_1 x6_1 x7_2 x8_2 = some r) ∧ Aside0 (kq ≤ k1) ∧ Aside0 (Kd.S (Kd.slice 2 (Kd.int .i64)) 23 w' w.heap.size (fun k_ => some k_ ≠ (v7 : Value).ownBlock) u5 x5_1) ∧ Aside0 (Kd.R (Kd.int .i64) 2 w' w.heap.size (fun _ => True) v7 x7_2) ∧ Aside0 (Below w.heap.size w w'))
    case atStart => exact ⟨(y224), (0), rs_, H', ⟨Nat.le_refl _⟩, ⟨by (with_reducible repeat (first | apply Kd.S_alloc | apply Kd.S_drewN | apply Kd.S_drew)); exact Kd.S_mono HO_5.out (fun _ hk => hk.2)⟩, ⟨ro_ HO226.out⟩, ⟨hb_⟩⟩
    case round =>
     clear H'
     try clear c1
     try clear p2
     try clear c5
     try clear c5b0
     try clear p2
     obtain ⟨x7_2, x8_2, rfl, HA, HK2, HO_5, HO_7, HB⟩ := hrel
     cases gk with
     | zero => exact absurd HA.out (by simp [spec_l01Columns.l1])
     | succ k2 =>
      have H := HA.out
      clear HA
      simp only [spec_l01Columns.l1] at H
      by_cases c8 : x8_2 < (l0.length : Int)
      ·rw [if_pos c8] at H
       have c8b0 : decide (x8_2 < (l0.length : Int)) = true := decide_eq_true c8
       clear c8
       obtain ⟨ji9, hji9⟩ : ∃ j_ : Int, (IntKind.u64.wrap (x8_2)) = j_ := ⟨_, rfl⟩
       replace H : (if 0 ≤ (ji9) then (if (Go.bits .and .i64 (shr .i64 a1 (ji9)) 1) = 1 then (if 0 ≤ x6_1 then (if x6_1 < (l0.length : Int) then (if 0 ≤ x8_2 then (if x8_2 < ((rd_L1 l0 x6_1).length : Int) then (if x7_2.length < 17592186044416 then (spec_l01Columns.l1 k2 l0 a1 x5_1 x6_1 (x7_2 ++ [wrap64 (-(rd (rd_L1 l0 x6_1) x8_2))]) (wrap64 (x8_2 + 1))) else (none)) else (none)) else (none)) else (none)) else (none)) else (if x6_1 = x8_2 then (if x7_2.length < 17592186044416 then (spec_l01Columns.l1 k2 l0 a1 x5_1 x6_1 (x7_2 ++ [1]) (wrap64 (x8_2 + 1))) else (none)) else (if x7_2.length < 17592186044416 then (spec_l01Columns.l1 k2 l0 a1 x5_1 x6_1 (x7_2 ++ [0]) (wrap64 (x8_2 + 1))) else (none)))) else (none)) = some r := by first | (rw [hji9] at H; exact H) | (simp only [hji9] at H ⊢; exact H)
       by_cases c10 : 0 ≤ (ji9)
       ·rw [if_pos c10] at H
        have c10b0 := eq_true c10
        have c10b1 : decide (0 ≤ (ji9)) = true := decide_eq_true c10
        clear c10
        obtain ⟨ji11, hji11⟩ : ∃ j_ : Int, (shr .i64 a1 (ji9)) = j_ := ⟨_, rfl⟩
        replace H : (if (Go.bits .and .i64 (ji11) 1) = 1 then (if 0 ≤ x6_1 then (if x6_1 < (l0.length : Int) then (if 0 ≤ x8_2 then (if x8_2 < ((rd_L1 l0 x6_1).length : Int) then (if x7_2.length < 17592186044416 then (spec_l01Columns.l1 k2 l0 a1 x5_1 x6_1 (x7_2 ++ [wrap64 (-(rd (rd_L1 l0 x6_1) x8_2))]) (wrap64 (x8_2 + 1))) else (none)) else (none)) else (none)) else (none)) else (none)) else (if x6_1 = x8_2 then (if x7_2.length < 17592186044416 then (spec_l01Columns.l1 k2 l0 a1 x5_1 x6_1 (x7_2 ++ [1]) (wrap64 (x8_2 + 1))) else (none)) else (if x7_2.length < 17592186044416 then (spec_l01Columns.l1 k2 l0 a1 x5_1 x6_1 (x7_2 ++ [0]) (wrap64 (x8_2 + 1))) else (none)))) = some r := by first | (rw [hji11] at H; exact H) | (simp only [hji11] at H ⊢; exact H)
        have hji11_ : (a1 / 2 ^ min (ji9).toNat 64) = ji11 := hji11
        have hji11z : (ji9) ≤ 64 → (a1 / 2 ^ (ji9).toNat) = ji11 := shr_small hji11
        by_cases c12 : (Go.bits .and .i64 (ji11) 1) = 1
        ·rw [if_pos c12] at H
         have c12b0 : ((Go.bits .and .i64 (ji11) 1) == 1) = true := beq_iff_eq.mpr c12
         have c12b1 : ((Go.bits .and .i64 (ji11) 1) != 1) = false := bne_eq_false_iff_eq.mpr c12
         clear c12
         by_cases c13 : 0 ≤ x6_1
         ·rw [if_pos c13] at H
          have c13b0 : decide (0 ≤ x6_1) = true := decide_eq_true c13
          clear c13
          by_cases c14 : x6_1 < (l0.length : Int)
          ·rw [if_pos c14] at H
           have c14b0 : decide (x6_1 < (l0.length : Int)) = true := decide_eq_true c14
           clear c14
           by_cases c15 : 0 ≤ x8_2
           ·rw [if_pos c15] at H
            have c15b0 : decide (0 ≤ x8_2) = true := decide_eq_true c15
            clear c15
            by_cases c16 : x8_2 < ((rd_L1 l0 x6_1).length : Int)
            ·rw [if_pos c16] at H
             have c16b0 : decide (x8_2 < ((rd_L1 l0 x6_1).length : Int)) = true := decide_eq_true c16
             clear c16
             by_cases c17 : x7_2.length < 17592186044416
             ·rw [if_pos c17] at H
              have LMc17 := Aside0.mk c17
              clear c17
              obtain ⟨y232, hy232⟩ : ∃ y_ : List Int, y_ = (x7_2 ++ [wrap64 (-(rd (rd_L1 l0 x6_1) x8_2))]) := ⟨_, rfl⟩
              replace H : (spec_l01Columns.l1 k2 l0 a1 x5_1 x6_1 y232 (wrap64 (x8_2 + 1))) = some r := by first | (rw [hy232]; with_reducible exact H) | (have H2_ := (Option.bind_some _ _).symm.trans H; rw [hy232]; with_reducible exact H2_) | (have H2_ := (Option.bind_some _ _).symm.trans H; with_reducible exact H2_) | with_reducible exact H | (rw [hy232]; exact H) | exact H
              have Ny232 := Aside0.mk hy232
              clear hy232
              have H' := Aside0.mk H
              clear H
              have p230 : 0 ≤ (x6_1 : Int) := od_
              have q230 : x6_1 < (l0.length : Int) := od_
              obtain ⟨ad230, A230_0, c230_0, e230, hx230_0, hl230_0, hi230_0⟩ := at_L1 HR0.out x6_1 p230 q230
              cases e230
              replace hx230_0 := (HB.out.cell (World.block_lt_of_cell? w _ hx230_0)).trans hx230_0
              have HR230_0 := Aside0.mk hi230_0
              have HC230_0 := Aside0.mk hl230_0
              clear hi230_0 hl230_0
              replace p230 := eq_true p230
              replace q230 := eq_true q230
              have p231 : 0 ≤ (x8_2 : Int) := od_
              have q231 : x8_2 < ((rd_L1 l0 x6_1).length : Int) := od_
              obtain ⟨ad231, e231, hx231_0⟩ := Kd.at_int HR230_0.out x8_2 p231 q231
              cases e231
              replace hx231_0 := (HB.out.cell (World.block_lt_of_cell? w _ hx231_0)).trans hx231_0
              replace p231 := eq_true p231
              replace q231 := eq_true q231
              go_wp2_with (first | ((with_reducible refine gate_builtin (b := .append) (xs := #[.tmp 33, .tmp 42]) rfl ?_); at_builtin; refine Kd.R_append (Kd.int .i64) (w0 := w) w.heap.size rfl (.tmp 33) (.tmp 42) 23 2 (.int .i64 0) 8 rfl Try.underlying23 info2 rfl (by decide) (by omega) u7 x7_2 (wrap64 (-(rd (rd_L1 l0 x6_1) x8_2))) [.int .i64 (wrap64 (-(rd (rd_L1 l0 x6_1) x8_2)))] (fun _ => True) (fun _ => False) rfl rfl ?aP (fun _ hk => hk.elim) ?aF ?aO ?aB ?aS ?aL ?_; (case aP => exact rfl); (case aB => exact hb_); (case aF => exact (fun _ _ => trivial)); (case aO => exact (ro_ HO_7.out)); (case aS => exact bz_); (case aL => have := LMc17.out; omega); intro v233 w18 ho hb hg hat; rw [← Ny232.out] at ho; have n0_ := Aside0.mk (Kd.S_after (ok := (fun _ => True)) (by (with_reducible repeat (first | apply Kd.S_alloc | apply Kd.S_drewN | apply Kd.S_drew)); exact Kd.S_mono HO_5.out (fun _ hk => ⟨trivial, hk⟩)) hg hat); have n1_ := Aside0.mk (hb); have n2_ := Aside0.mk (ho); clear HO_5; clear HB; clear HO_7; have HO_5 := n0_; have HB := n1_; have HO234 := n2_; clear n0_ n1_ n2_; clear ho hb hg hat))
              go_roundg k2
              case measure => have := HK1.out; have := HK2.out; omega
              case rel => exact ⟨(y232), (wrap64 (x8_2 + 1)), rs_, H', ⟨by have := HK1.out; have := HK2.out; omega⟩, ⟨by (with_reducible repeat (first | apply Kd.S_alloc | apply Kd.S_drewN | apply Kd.S_drew)); exact Kd.S_mono HO_5.out (fun _ hk => hk.2)⟩, ⟨ro_ HO234.out⟩, ⟨hb_⟩⟩
             ·rw [if_neg c17] at H
              exact absurd H (by simp)
            ·rw [if_neg c16] at H
             exact absurd H (by simp)
           ·rw [if_neg c15] at H
            exact absurd H (by simp)
          ·rw [if_neg c14] at H
           exact absurd H (by simp)
         ·rw [if_neg c13] at H
          exact absurd H (by simp)
        ·rw [if_neg c12] at H
         have c12b0 : ((Go.bits .and .i64 (ji11) 1) == 1) = false := beq_eq_false_iff_ne.mpr c12
         have c12b1 : ((Go.bits .and .i64 (ji11) 1) != 1) = true := bne_iff_ne.mpr c12
         by_cases c19 : x6_1 = x8_2
         ·rw [if_pos c19] at H
          have c19b0 : (x6_1 == x8_2) = true := beq_iff_eq.mpr c19
          have c19b1 : (x6_1 != x8_2) = false := bne_eq_false_iff_eq.mpr c19
          clear c19
          by_cases c20 : x7_2.length < 17592186044416
          ·rw [if_pos c20] at H
           have LMc20 := Aside0.mk c20
           clear c20
           obtain ⟨y235, hy235⟩ : ∃ y_ : List Int, y_ = (x7_2 ++ [1]) := ⟨_, rfl⟩
           replace H : (spec_l01Columns.l1 k2 l0 a1 x5_1 x6_1 y235 (wrap64 (x8_2 + 1))) = some r := by first | (rw [hy235]; with_reducible exact H) | (have H2_ := (Option.bind_some _ _).symm.trans H; rw [hy235]; with_reducible exact H2_) | (have H2_ := (Option.bind_some _ _).symm.trans H; with_reducible exact H2_) | with_reducible exact H | (rw [hy235]; exact H) | exact H
           have Ny235 := Aside0.mk hy235
           clear hy235
           have H' := Aside0.mk H
           clear H
           go_wp2_with (first | ((with_reducible refine gate_builtin (b := .append) (xs := #[.tmp 48, .tmp 49]) rfl ?_); at_builtin; refine Kd.R_append (Kd.int .i64) (w0 := w) w.heap.size rfl (.tmp 48) (.tmp 49) 23 2 (.int .i64 0) 8 rfl Try.underlying23 info2 rfl (by decide) (by omega) u7 x7_2 1 [.int .i64 1] (fun _ => True) (fun _ => False) rfl rfl ?aP (fun _ hk => hk.elim) ?aF ?aO ?aB ?aS ?aL ?_; (case aP => exact rfl); (case aB => exact hb_); (case aF => exact (fun _ _ => trivial)); (case aO => exact (ro_ HO_7.out)); (case aS => exact bz_); (case aL => have := LMc20.out; omega); intro v236 w21 ho hb hg hat; rw [← Ny235.out] at ho; have n0_ := Aside0.mk (Kd.S_after (ok := (fun _ => True)) (by (with_reducible repeat (first | apply Kd.S_alloc | apply Kd.S_drewN | apply Kd.S_drew)); exact Kd.S_mono HO_5.out (fun _ hk => ⟨trivial, hk⟩)) hg hat); have n1_ := Aside0.mk (hb); have n2_ := Aside0.mk (ho); clear HO_5; clear HB; clear HO_7; have HO_5 := n0_; have HB := n1_; have HO237 := n2_; clear n0_ n1_ n2_; clear ho hb hg hat))
           go_roundg k2
           case measure => have := HK1.out; have := HK2.out; omega
           case rel => exact ⟨(y235), (wrap64 (x8_2 + 1)), rs_, H', ⟨by have := HK1.out; have := HK2.out; omega⟩, ⟨by (with_reducible repeat (first | apply Kd.S_alloc | apply Kd.S_drewN | apply Kd.S_drew)); exact Kd.S_mono HO_5.out (fun _ hk => hk.2)⟩, ⟨ro_ HO237.out⟩, ⟨hb_⟩⟩
          ·rw [if_neg c20] at H
           exact absurd H (by simp)
         ·rw [if_neg c19] at H
          have c19b0 : (x6_1 == x8_2) = false := beq_eq_false_iff_ne.mpr c19
          have c19b1 : (x6_1 != x8_2) = true := bne_iff_ne.mpr c19
          by_cases c22 : x7_2.length < 17592186044416
          ·rw [if_pos c22] at H
           have LMc22 := Aside0.mk c22
           clear c22
           obtain ⟨y238, hy238⟩ : ∃ y_ : List Int, y_ = (x7_2 ++ [0]) := ⟨_, rfl⟩
           replace H : (spec_l01Columns.l1 k2 l0 a1 x5_1 x6_1 y238 (wrap64 (x8_2 + 1))) = some r := by first | (rw [hy238]; with_reducible exact H) | (have H2_ := (Option.bind_some _ _).symm.trans H; rw [hy238]; with_reducible exact H2_) | (have H2_ := (Option.bind_some _ _).symm.trans H; with_reducible exact H2_) | with_reducible exact H | (rw [hy238]; exact H) | exact H
           have Ny238 := Aside0.mk hy238
           clear hy238
           have H' := Aside0.mk H
           clear H
           go_wp2_with (first | ((with_reducible refine gate_builtin (b := .append) (xs := #[.tmp 23, .tmp 24]) rfl ?_); at_builtin; refine Kd.R_append (Kd.int .i64) (w0 := w) w.heap.size rfl (.tmp 23) (.tmp 24) 23 2 (.int .i64 0) 8 rfl Try.underlying23 info2 rfl (by decide) (by omega) u7 x7_2 0 [.int .i64 0] (fun _ => True) (fun _ => False) rfl rfl ?aP (fun _ hk => hk.elim) ?aF ?aO ?aB ?aS ?aL ?_; (case aP => exact rfl); (case aB => exact hb_); (case aF => exact (fun _ _ => trivial)); (case aO => exact (ro_ HO_7.out)); (case aS => exact bz_); (case aL => have := LMc22.out; omega); intro v239 w23 ho hb hg hat; rw [← Ny238.out] at ho; have n0_ := Aside0.mk (Kd.S_after (ok := (fun _ => True)) (by (with_reducible repeat (first | apply Kd.S_alloc | apply Kd.S_drewN | apply Kd.S_drew)); exact Kd.S_mono HO_5.out (fun _ hk => ⟨trivial, hk⟩)) hg hat); have n1_ := Aside0.mk (hb); have n2_ := Aside0.mk (ho); clear HO_5; clear HB; clear HO_7; have HO_5 := n0_; have HB := n1_; have HO240 := n2_; clear n0_ n1_ n2_; clear ho hb hg hat))
           go_roundg k2
           case measure => have := HK1.out; have := HK2.out; omega
           case rel => exact ⟨(y238), (wrap64 (x8_2 + 1)), rs_, H', ⟨by have := HK1.out; have := HK2.out; omega⟩, ⟨by (with_reducible repeat (first | apply Kd.S_alloc | apply Kd.S_drewN | apply Kd.S_drew)); exact Kd.S_mono HO_5.out (fun _ hk => hk.2)⟩, ⟨ro_ HO240.out⟩, ⟨hb_⟩⟩
          ·rw [if_neg c22] at H
           exact absurd H (by simp)
       ·rw [if_neg c10] at H
        exact absurd H (by simp)
      ·rw [if_neg c8] at H
       have c8b0 : decide (x8_2 < (l0.length : Int)) = false := decide_eq_false c8
       clear c8
       by_cases c24 : x5_1.length < 5864062014805
       ·rw [if_pos c24] at H
        have LMc24 := Aside0.mk c24
        clear c24
        obtain ⟨y227, hy227⟩ : ∃ y_ : List (List Int), y_ = (x5_1 ++ [x7_2]) := ⟨_, rfl⟩
        replace H : (spec_l01Columns.l0 k2 l0 a1 y227 (wrap64 (x6_1 + 1))) = some r := by first | (rw [hy227]; with_reducible exact H) | (have H2_ := (Option.bind_some _ _).symm.trans H; rw [hy227]; with_reducible exact H2_) | (have H2_ := (Option.bind_some _ _).symm.trans H; with_reducible exact H2_) | with_reducible exact H | (rw [hy227]; exact H) | exact H
        have Ny227 := Aside0.mk hy227
        clear hy227
        have H' := Aside0.mk H
        clear H
        obtain ⟨Ao26, co26, eo26⟩ := Kd.R_slice HO_7.out
        subst eo26
        go_wp2_with (first | ((with_reducible refine gate_builtin (b := .append) (xs := #[.tmp 51, .tmp 53]) rfl ?_); at_builtin; refine Kd.S_append (Kd.slice 2 (Kd.int .i64)) (w0 := w) w.heap.size rfl (.tmp 51) (.tmp 53) 22 23 (.slice none 0 0) 24 rfl Try.underlying22 info23 rfl (by decide) (by omega) u5 x5_1 x7_2 [.slice Ao26 x7_2.length co26] (fun _ => True) (fun k_ => some k_ = (.slice Ao26 x7_2.length co26 : Value).ownBlock) rfl rfl ?aP (fun k_ hk_ => ((Kd.R_mono (ok' := fun k_ => ((fun _ => True)) k_ ∧ some k_ ≠ (u5 : Value).ownBlock) (Kd.R_apart' (HO_7.out) (Kd.S_typed HO_5.out) (by decide)) (fun k_ hk => ⟨trivial, hk.2⟩))).1 k_ hk_.symm) ?aF ?aO ?aB ?aS ?aL ?_; (case aP => exact Kd.M_row (Kd.R_mono (Kd.R_tight rfl (Kd.R_mono (ok' := fun k_ => ((fun _ => True)) k_ ∧ some k_ ≠ (u5 : Value).ownBlock) (Kd.R_apart' (HO_7.out) (Kd.S_typed HO_5.out) (by decide)) (fun k_ hk => ⟨trivial, hk.2⟩))) (fun _ h_ => h_))); (case aB => exact hb_); (case aF => exact (fun _ _ => trivial)); (case aO => exact (by (with_reducible repeat (first | apply Kd.S_alloc | apply Kd.S_drewN | apply Kd.S_drew)); exact Kd.S_mono HO_5.out (fun k_ hk => ⟨trivial, fun e_ => hk e_⟩))); (case aS => exact bz_); (case aL => have := LMc24.out; omega); intro v228 w25 ho hb hg hat; rw [← Ny227.out] at ho; have n0_ := Aside0.mk (hb); have n1_ := Aside0.mk (ho); clear HB; clear HO_5; clear HO_7; have HB := n0_; have HO229 := n1_; clear n0_ n1_; clear ho hb hg hat))
        go_roundg k2
        case measure => have := HK1.out; have := HK2.out; omega
        case rel => exact ⟨(y227), (wrap64 (x6_1 + 1)), rs_, H', ⟨by have := HK1.out; have := HK2.out; omega⟩, ⟨so_ HO229.out⟩, ⟨hb_⟩⟩
       ·rw [if_neg c24] at H
        exact absurd H (by simp)
   ·rw [if_neg c5] at H
    have c5b0 : decide (x6_1 < (l0.length : Int)) = false := decide_eq_false c5
    clear c5
    obtain rfl := Option.some.inj H
    go_wp2
    go_ret
    exact ⟨_, by first | rfl | (simp [errW_none, errW_some] <;> rfl) | (simp [*, errW_none, errW_some] <;> rfl), so_ HO_5.out, hb_⟩
end Go.Proofs.Ythdoilfjcgickaa.Pr
end
section
namespace Go.Proofs.Ythdoilfjcgickaa.Pr
open Go Go.RowKit Go.Proofs.YthdoilfjcgickaaW.PrintWords Go.Proofs.YthdoilfjcgickaaW.PrintLast Go.Proofs.YthdoilfjcgickaaW.PrintMore
theorem run_eql_slice_nil {P : Program} (w : World) (t e : TypeId) (a : Option Addr) (l c : Nat) (h : P.underlying t = some (.slice e)) : (binOp .eql t (.slice a l c) (.slice none 0 0)).run P w = .ok (.bool a.isNone) w := by
 simp only [binOp]
 simp [run_equal_slice_nil w t e a l c h]
def slices_Clone.f (l0 : List Int) : Option (List Int) := if l0.length ≤ 1099511627776 then some l0 else none
theorem slices_Clone.calls (A0 : Option Addr) (c0 : Nat) (l0 : List Int) (r : List Int) (w : World) (hr0 : Kd.C (Kd.int .i64) w A0 l0.length l0) (hc0 : l0.length ≤ c0) (h : slices_Clone.f l0 = some r) :
  Calls Try.prog 156 #[.slice A0 l0.length c0] w fun e w' => ∃ v0_ : Value, e = .returned (v0_) ∧ Kd.R (Kd.int .i64) 2 w' w.heap.size (fun _ => True) v0_ r ∧ Below w.heap.size w w' := by
 unfold slices_Clone.f at h
 split at h
 case isFalse => cases h
 rename_i hl
 cases h
 have hu := Try.underlying23
 have HR := Aside0.mk hr0
 have HL := Aside0.mk hl
 clear hc0 hl
 cases A0 with
 | none =>
  have h0 : l0 = [] := by
   cases l0 with
   | nil => rfl
   | cons a t => obtain ⟨ad, e, _⟩ := Kd.at_int hr0 0 (by simp) (by simp); cases e
  subst h0
  clear hr0 HR
  have he := run_eql_slice_nil (P := Try.prog) w 23 2 none 0 c0 hu
  go_enter Try.func156, Try.ntmps156
  go_wp2
  go_ret
  exact ⟨_, rfl, Kd.R_nil _ _ _ _ _, Below.refl _ _⟩
 | some ad =>
  clear hr0
  have he := run_eql_slice_nil (P := Try.prog) w 23 2 (some ad) l0.length c0 hu
  go_enter Try.func156, Try.ntmps156
  go_wp2_with (first | ((with_reducible refine gate_dst (N := 5) rfl ?_); refine Kd.R_lit (Kd.int .i64) _ 2 ?hg (N := 5) ?hd (xs := ([] : List Int)) (inner := []) (ok := fun _ => True) (okp := fun _ => True) ?hr ?hp (fun _ hk => hk) trivial (Below.refl _ _) (Nat.le_refl _) (by simp) ?_; (case hd => rfl); (case hg => rfl); (case hr => first | (go_simp; done) | (go_simp; rfl)); (case hp => exact (Reps.none _ _)); intro v1 w1 ho hb hg_ hat_; clear hg_ hat_; have HO := Aside0.mk ho; have HB := Aside0.mk hb; clear ho hb) | ((with_reducible refine gate_dst (N := 7) rfl ?_); (refine Kd.R_append_row (Value.int .i64) 0 (w0 := w) w.heap.size rfl (.tmp 5) (.tmp 6) 23 2 (.int .i64 0) 8 rfl Try.underlying23 info2 rfl (by decide) v1 [] l0 (some ad) l0.length c0 (fun _ => True) (by rfl) (by rfl) (fun _ _ => trivial) HO.out (Kd.C_below HR.out HB.out) HB.out HB.out.size (by have := HL.out; simp; omega) ?_; intro v2 w2 ho hb hg_ hat_; clear hg_ hat_; have HO2 := Aside0.mk ho; have HB2 := Aside0.mk hb; clear ho hb)))
  go_ret
  exact ⟨_, rfl, HO2.out, HB2.out⟩
end Go.Proofs.Ythdoilfjcgickaa.Pr
end
section
namespace Go.Proofs.Ythdoilfjcgickaa.Pr
open Go.RowKit Go.Proofs.YthdoilfjcgickaaW.PrintWords Go.Proofs.YthdoilfjcgickaaW.PrintLast Go.Proofs.YthdoilfjcgickaaW.PrintMore
attribute [local go_sem] max2_int min2_int max_two min_two max_three min_three max_four min_four
def impl_has.f (a0 : Int) (a1 : Int) : Option (Bool) := if 0 ≤ a1 then (some ((Go.bits .and .i64 (shr .i64 a0 a1) 1) == 1)) else (none)
theorem impl_has.calls (a0 : Int) (a1 : Int) (r : Bool) (w : World) (h : impl_has.f a0 a1 = some r) :
  Calls Try.prog 109 #[.int .i64 a0, .int .i64 a1] w fun e w' => e = .returned (.bool r) ∧ Drawn0 w w' := by
 have H : (if 0 ≤ a1 then (some ((Go.bits .and .i64 (shr .i64 a0 a1) 1) == 1)) else (none)) = some r := h
 clear h
 by_cases c3 : 0 ≤ a1
 ·rw [if_pos c3] at H
  have c3b0 := eq_true c3
  have c3b1 : decide (0 ≤ a1) = true := decide_eq_true c3
  clear c3
  obtain ⟨ji4, hji4⟩ : ∃ j_ : Int, (shr .i64 a0 a1) = j_ := ⟨_, rfl⟩
  replace H : (some ((Go.bits .and .i64 (ji4) 1) == 1)) = some r := by first | (rw [hji4] at H; exact H) | (simp only [hji4] at H ⊢; exact H)
  have hji4_ : (a0 / 2 ^ min a1.toNat 64) = ji4 := hji4
  have hji4z : a1 ≤ 64 → (a0 / 2 ^ a1.toNat) = ji4 := shr_small hji4
  obtain rfl := Option.some.inj H
  go_enter Try.func109, Try.ntmps109
  go_wp2
  go_ret
  exact ⟨by first | rfl | (simp; done) | (simp only [← hji4] <;> (first | rfl | simp)) | (simp [*]; done), by repeat (first | exact Drawn0.refl _ | apply Drawn0.step)⟩
 ·rw [if_neg c3] at H
  exact absurd H (by simp)
mutual
def impl_part.l0 : Nat → Int → Int → List (List Int) → List (List Int) → Int → Int → Option ((List (List Int)))
 | 0, _, _, _, _, _, _ => none
 | k + 1, x1, x2, x7, x13, x14, x15 => if x15 < x14 then (if 0 ≤ x15 then (if x15 < (x13.length : Int) then ((impl_has.f x1 x15).bind fun t566 => (if t566 = true then (impl_part.l1 k x1 x2 x7 ([] : List Int) x13 x14 x15 (rd_L1 x13 x15) ((rd_L1 x13 x15).length : Int) 0) else (impl_part.l0 k x1 x2 x7 x13 x14 (wrap64 (x15 + 1))))) else (none)) else (none)) else (some x7)
def impl_part.l1 : Nat → Int → Int → List (List Int) → List Int → List (List Int) → Int → Int → List Int → Int → Int → Option ((List (List Int)))
 | 0, _, _, _, _, _, _, _, _, _, _ => none
 | k + 1, x1, x2, x7, x10, x13, x14, x15, x24, x25, x26 => if x26 < x25 then (if 0 ≤ x26 then (if x26 < (x24.length : Int) then ((impl_has.f x2 x26).bind fun t568 => (if t568 = true then (if x10.length < 17592186044416 then (impl_part.l1 k x1 x2 x7 (x10 ++ [rd x24 x26]) x13 x14 x15 x24 x25 (wrap64 (x26 + 1))) else (none)) else (impl_part.l1 k x1 x2 x7 x10 x13 x14 x15 x24 x25 (wrap64 (x26 + 1))))) else (none)) else (none)) else (if x7.length < 5864062014805 then (impl_part.l0 k x1 x2 (x7 ++ [x10]) x13 x14 (wrap64 (x15 + 1))) else (none))
end
def impl_part.f (k : Nat) (l0 : List (List Int)) (a1 : Int) (a2 : Int) : Option ((List (List Int))) := impl_part.l0 k a1 a2 ([] : List (List Int)) l0 (l0.length : Int) 0
theorem impl_part.mono_l : ∀ k, (∀ y0 y1 y2 y3 y4 y5, LeO (impl_part.l0 k y0 y1 y2 y3 y4 y5) (impl_part.l0 (k + 1) y0 y1 y2 y3 y4 y5)) ∧ (∀ y0 y1 y2 y3 y4 y5 y6 y7 y8 y9, LeO (impl_part.l1 k y0 y1 y2 y3 y4 y5 y6 y7 y8 y9) (impl_part.l1 (k + 1) y0 y1 y2 y3 y4 y5 y6 y7 y8 y9))
 | 0 => ⟨fun _ _ _ _ _ _ r h => by simp [impl_part.l0] at h, fun _ _ _ _ _ _ _ _ _ _ r h => by simp [impl_part.l1] at h⟩
 | k + 1 => by
  obtain ⟨ih0, ih1⟩ := impl_part.mono_l k
  refine ⟨?_, ?_⟩
  ·intro y0 y1 y2 y3 y4 y5
   unfold impl_part.l0
   repeat' first
   | (with_reducible exact ih0 _ _ _ _ _ _)
   | (with_reducible exact ih1 _ _ _ _ _ _ _ _ _ _)
   | (with_reducible exact LeO.refl _)
   | (with_reducible exact LeO.none _)
   | (with_reducible refine LeO.ite ?_ ?_)
   | (with_reducible refine LeO.bind ?_ (fun _ => ?_))
   | exact ih0 _ _ _ _ _ _
   | exact ih1 _ _ _ _ _ _ _ _ _ _
   | exact LeO.none _
   | refine LeO.ite ?_ ?_
   | refine LeO.bind ?_ (fun _ => ?_)
  ·intro y0 y1 y2 y3 y4 y5 y6 y7 y8 y9
   unfold impl_part.l1
   repeat' first
   | (with_reducible exact ih0 _ _ _ _ _ _)
   | (with_reducible exact ih1 _ _ _ _ _ _ _ _ _ _)
   | (with_reducible exact LeO.refl _)
   | (with_reducible exact LeO.none _)
   | (with_reducible refine LeO.ite ?_ ?_)
   | (with_reducible refine LeO.bind ?_ (fun _ => ?_))
   | exact ih0 _ _ _ _ _ _
   | exact ih1 _ _ _ _ _ _ _ _ _ _
   | exact LeO.none _
   | refine LeO.ite ?_ ?_
   | refine LeO.bind ?_ (fun _ => ?_)
theorem impl_part.mono : ∀ a0 a1 a2 k, LeO (impl_part.f k a0 a1 a2) (impl_part.f (k + 1) a0 a1 a2) := by
 intro a0 a1 a2 k
 obtain ⟨ih0, ih1⟩ := impl_part.mono_l k
 unfold impl_part.f
 repeat' first
   | (with_reducible exact ih0 _ _ _ _ _ _)
   | (with_reducible exact ih1 _ _ _ _ _ _ _ _ _ _)
   | (with_reducible exact LeO.refl _)
   | (with_reducible exact LeO.none _)
   | (with_reducible refine LeO.ite ?_ ?_)
   | (with_reducible refine LeO.bind ?_ (fun _ => ?_))
   | exact ih0 _ _ _ _ _ _
   | exact ih1 _ _ _ _ _ _ _ _ _ _
   | exact LeO.none _
   | refine LeO.ite ?_ ?_
   | refine LeO.bind ?_ (fun _ => ?_)
theorem impl_part.calls (k : Nat) (A0 : Option Addr) (c0 : Nat) (l0 : List (List Int)) (a1 : Int) (a2 : Int) (r : List (List Int)) (w : World) (hr0 : Kd.C (Kd.slice 2 (Kd.int .i64)) w A0 l0.length l0) (hc0 : l0.length ≤ c0) (h : impl_part.f k l0 a1 a2 = some r) :
  Calls Try.prog 77 #[.slice A0 l0.length c0, .int .i64 a1, .int .i64 a2] w fun e w' => ∃ v0_ : Value, e = .returned (v0_) ∧ Kd.S (Kd.slice 2 (Kd.int .i64)) 23 w' w.heap.size (fun _ => True) v0_ r ∧ Below w.heap.size w w' := by
 have HR0 := Aside0.mk hr0
 have HC0 := Aside0.mk hc0
 clear hr0 hc0
 have HB := Aside0.mk (Below.refl w.heap.size w)
 have H : (impl_part.l0 k a1 a2 ([] : List (List Int)) l0 (l0.length : Int) 0) = some r := h
 clear h
 have H' := Aside0.mk H
 clear H
 go_enter Try.func77, Try.ntmps77
 go_wp2
 go_loopg [7, 15] k (fun kq v7 v15 w' => ∃ (x7_1 : List (List Int)) (x15_1 : Int), v15 = .int .i64 x15_1 ∧ Aside0 (impl_part.l0 kq a1 a2 x7_1 l0 (l0.length : Int) x15_1 = some r) ∧ Aside0 (kq ≤ k) ∧ Aside0 (Kd.S (Kd.slice 2 (Kd.int .i64)) 23 w' w.heap.size (fun _ => True) v7 x7_1) ∧ Aside0 (Below w.heap.size w w'))
 case atStart => exact ⟨(([] : List (List Int))), (0), rs_, H', ⟨Nat.le_refl _⟩, ⟨by first | exact Kd.S_nil _ _ _ _ _ | exact Kd.N_nil _ _ _ _ _ | exact Kd.V_nil _ _ _ _ _ | exact Kd.Q_nil _ _ _ _ _ | exact Kd.R_nil _ _ _ _ _⟩, ⟨hb_⟩⟩
 case round =>
  clear H'
  try clear p2
  obtain ⟨x7_1, x15_1, rfl, HA, HK1, HO_7, HB⟩ := hrel
  cases gk with
  | zero => exact absurd HA.out (by simp [impl_part.l0])
  | succ k1 =>
   have H := HA.out
   clear HA
   simp only [impl_part.l0] at H
   by_cases c4 : x15_1 < (l0.length : Int)
   ·rw [if_pos c4] at H
    have c4b0 : decide (x15_1 < (l0.length : Int)) = true := decide_eq_true c4
    clear c4
    by_cases c5 : 0 ≤ x15_1
    ·rw [if_pos c5] at H
     have c5b0 : decide (0 ≤ x15_1) = true := decide_eq_true c5
     clear c5
     by_cases c6 : x15_1 < (l0.length : Int)
     ·rw [if_pos c6] at H
      have c6b0 : decide (x15_1 < (l0.length : Int)) = true := decide_eq_true c6
      clear c6
      replace H := Option.bind_eq_some_iff.mp H
      obtain ⟨t566, A70, H⟩ := H
      replace H : (if t566 = true then (impl_part.l1 k1 a1 a2 x7_1 ([] : List Int) l0 (l0.length : Int) x15_1 (rd_L1 l0 x15_1) ((rd_L1 l0 x15_1).length : Int) 0) else (impl_part.l0 k1 a1 a2 x7_1 l0 (l0.length : Int) (wrap64 (x15_1 + 1)))) = some r := H
      have A7 := Aside0.mk A70
      clear A70
      by_cases c8 : t566 = true
      ·subst c8
       have H1 : (impl_part.l1 k1 a1 a2 x7_1 ([] : List Int) l0 (l0.length : Int) x15_1 (rd_L1 l0 x15_1) ((rd_L1 l0 x15_1).length : Int) 0) = some r := by rw [if_pos rfl] at H; exact H
       clear H
       have H := H1
       clear H1
       have H' := Aside0.mk H
       clear H
       have p565 : 0 ≤ (x15_1 : Int) := od_
       have q565 : x15_1 < (l0.length : Int) := od_
       obtain ⟨ad565, A565_0, c565_0, e565, hx565_0, hl565_0, hi565_0⟩ := at_L1 HR0.out x15_1 p565 q565
       cases e565
       replace hx565_0 := (HB.out.cell (World.block_lt_of_cell? w _ hx565_0)).trans hx565_0
       have HR565_0 := Aside0.mk hi565_0
       have HC565_0 := Aside0.mk hl565_0
       clear hi565_0 hl565_0
       replace p565 := eq_true p565
       replace q565 := eq_true q565
       go_wp2_with (first | ((with_reducible refine gate_callee (f := 109) rfl ?_); refine gL_ 22 Try.func109 #[.int .i64 a1, .int .i64 x15_1] ?_; (with_reducible refine (impl_has.calls a1 x15_1 true _ A7.out).mono ?_); rintro e w' ⟨rfl, ⟨nd, rfl⟩⟩; refine ⟨_, rfl, ?_⟩))
       go_loopg [10, 26] k1 (fun kq v10 v26 w' => ∃ (x10_2 : List Int) (x26_2 : Int), v26 = .int .i64 x26_2 ∧ Aside0 (impl_part.l1 kq a1 a2 x7_1 x10_2 l0 (l0.length : Int) x15_1 (rd_L1 l0 x15_1) ((rd_L1 l0 x15_1).length : Int) x26_2 = some r) ∧ Aside0 (kq ≤ k1) ∧ Aside0 (Kd.S (Kd.slice 2 (Kd.int .i64)) 23 w' w.heap.size (fun k_ => some k_ ≠ (v10 : Value).ownBlock) u7 x7_1) ∧ Aside0 (Kd.R (Kd.int .i64) 2 w' w.heap.size (fun _ => True) v10 x10_2) ∧ Aside0 (Below w.heap.size w w'))
       case atStart => exact ⟨(([] : List Int)), (0), rs_, H', ⟨Nat.le_refl _⟩, ⟨by (with_reducible repeat (first | apply Kd.S_alloc | apply Kd.S_drewN | apply Kd.S_drew)); exact Kd.S_mono HO_7.out (fun _ hk => (by simp [Value.ownBlock]))⟩, ⟨by first | exact Kd.R_nil _ _ _ _ _ | exact Kd.N_nil _ _ _ _ _ | exact Kd.V_nil _ _ _ _ _ | exact Kd.Q_nil _ _ _ _ _ | exact Kd.S_nil _ _ _ _ _⟩, ⟨hb_⟩⟩
       case round =>
        clear H'
        try clear c1
        try clear p2
        try clear c4
        try clear c4b0
        try clear c5
        try clear c5b0
        try clear p5
        try clear q5
        try clear hx5
        try clear c6
        try clear c6b0
        try clear p6
        try clear c7
        try clear c8
        try clear hx565_0
        try clear p2
        try clear p565
        try clear q565
        obtain ⟨x10_2, x26_2, rfl, HA, HK2, HO_7, HO_10, HB⟩ := hrel
        cases gk with
        | zero => exact absurd HA.out (by simp [impl_part.l1])
        | succ k2 =>
         have H := HA.out
         clear HA
         simp only [impl_part.l1] at H
         by_cases c9 : x26_2 < ((rd_L1 l0 x15_1).length : Int)
         ·rw [if_pos c9] at H
          have c9b0 : decide (x26_2 < ((rd_L1 l0 x15_1).length : Int)) = true := decide_eq_true c9
          clear c9
          by_cases c10 : 0 ≤ x26_2
          ·rw [if_pos c10] at H
           have c10b0 : decide (0 ≤ x26_2) = true := decide_eq_true c10
           clear c10
           by_cases c11 : x26_2 < ((rd_L1 l0 x15_1).length : Int)
           ·rw [if_pos c11] at H
            have c11b0 : decide (x26_2 < ((rd_L1 l0 x15_1).length : Int)) = true := decide_eq_true c11
            clear c11
            replace H := Option.bind_eq_some_iff.mp H
            obtain ⟨t568, A120, H⟩ := H
            replace H : (if t568 = true then (if x10_2.length < 17592186044416 then (impl_part.l1 k2 a1 a2 x7_1 (x10_2 ++ [rd (rd_L1 l0 x15_1) x26_2]) l0 (l0.length : Int) x15_1 (rd_L1 l0 x15_1) ((rd_L1 l0 x15_1).length : Int) (wrap64 (x26_2 + 1))) else (none)) else (impl_part.l1 k2 a1 a2 x7_1 x10_2 l0 (l0.length : Int) x15_1 (rd_L1 l0 x15_1) ((rd_L1 l0 x15_1).length : Int) (wrap64 (x26_2 + 1)))) = some r := H
            have A12 := Aside0.mk A120
            clear A120
            by_cases c13 : t568 = true
            ·subst c13
             have H1 : (if x10_2.length < 17592186044416 then (impl_part.l1 k2 a1 a2 x7_1 (x10_2 ++ [rd (rd_L1 l0 x15_1) x26_2]) l0 (l0.length : Int) x15_1 (rd_L1 l0 x15_1) ((rd_L1 l0 x15_1).length : Int) (wrap64 (x26_2 + 1))) else (none)) = some r := by rw [if_pos rfl] at H; exact H
             clear H
             have H := H1
             clear H1
             by_cases c14 : x10_2.length < 17592186044416
             ·rw [if_pos c14] at H
              have LMc14 := Aside0.mk c14
              clear c14
              obtain ⟨y569, hy569⟩ : ∃ y_ : List Int, y_ = (x10_2 ++ [rd (rd_L1 l0 x15_1) x26_2]) := ⟨_, rfl⟩
              replace H : (impl_part.l1 k2 a1 a2 x7_1 y569 l0 (l0.length : Int) x15_1 (rd_L1 l0 x15_1) ((rd_L1 l0 x15_1).length : Int) (wrap64 (x26_2 + 1))) = some r := by first | (rw [hy569]; with_reducible exact H) | (have H2_ := (Option.bind_some _ _).symm.trans H; rw [hy569]; with_reducible exact H2_) | (have H2_ := (Option.bind_some _ _).symm.trans H; with_reducible exact H2_) | with_reducible exact H | (rw [hy569]; exact H) | exact H
              have Ny569 := Aside0.mk hy569
              clear hy569
              have H' := Aside0.mk H
              clear H
              have p567 : 0 ≤ (x26_2 : Int) := od_
              have q567 : x26_2 < ((rd_L1 l0 x15_1).length : Int) := od_
              obtain ⟨ad567, e567, hx567_0⟩ := Kd.at_int HR565_0.out x26_2 p567 q567
              cases e567
              replace hx567_0 := (HB.out.cell (World.block_lt_of_cell? w _ hx567_0)).trans hx567_0
              replace p567 := eq_true p567
              replace q567 := eq_true q567
              go_wp2_with (first | ((with_reducible refine gate_callee (f := 109) rfl ?_); refine gL_ 33 Try.func109 #[.int .i64 a2, .int .i64 x26_2] ?_; (with_reducible refine (impl_has.calls a2 x26_2 true _ A12.out).mono ?_); rintro e w' ⟨rfl, ⟨nd, rfl⟩⟩; refine ⟨_, rfl, ?_⟩) | ((with_reducible refine gate_builtin (b := .append) (xs := #[.tmp 34, .tmp 36]) rfl ?_); at_builtin; refine Kd.R_append (Kd.int .i64) (w0 := w) w.heap.size rfl (.tmp 34) (.tmp 36) 23 2 (.int .i64 0) 8 rfl Try.underlying23 info2 rfl (by decide) (by omega) u10 x10_2 (rd (rd_L1 l0 x15_1) x26_2) [.int .i64 (rd (rd_L1 l0 x15_1) x26_2)] (fun _ => True) (fun _ => False) rfl rfl ?aP (fun _ hk => hk.elim) ?aF ?aO ?aB ?aS ?aL ?_; (case aP => exact rfl); (case aB => exact hb_); (case aF => exact (fun _ _ => trivial)); (case aO => exact (ro_ HO_10.out)); (case aS => exact bz_); (case aL => have := LMc14.out; omega); intro v570 w15 ho hb hg hat; rw [← Ny569.out] at ho; have n0_ := Aside0.mk (Kd.S_after (ok := (fun _ => True)) (by (with_reducible repeat (first | apply Kd.S_alloc | apply Kd.S_drewN | apply Kd.S_drew)); exact Kd.S_mono HO_7.out (fun _ hk => ⟨trivial, hk⟩)) hg hat); have n1_ := Aside0.mk (hb); have n2_ := Aside0.mk (ho); clear HO_7; clear HB; clear HO_10; have HO_7 := n0_; have HB := n1_; have HO571 := n2_; clear n0_ n1_ n2_; clear ho hb hg hat))
              go_roundg k2
              case measure => have := HK1.out; have := HK2.out; omega
              case rel => exact ⟨(y569), (wrap64 (x26_2 + 1)), rs_, H', ⟨by have := HK1.out; have := HK2.out; omega⟩, ⟨by (with_reducible repeat (first | apply Kd.S_alloc | apply Kd.S_drewN | apply Kd.S_drew)); exact Kd.S_mono HO_7.out (fun _ hk => hk.2)⟩, ⟨ro_ HO571.out⟩, ⟨hb_⟩⟩
             ·rw [if_neg c14] at H
              exact absurd H (by simp)
            ·replace c13 := Bool.eq_false_iff.mpr c13
             subst c13
             have H1 : (impl_part.l1 k2 a1 a2 x7_1 x10_2 l0 (l0.length : Int) x15_1 (rd_L1 l0 x15_1) ((rd_L1 l0 x15_1).length : Int) (wrap64 (x26_2 + 1))) = some r := by rw [if_neg (show ¬ (false = true) by decide)] at H; exact H
             clear H
             have H := H1
             clear H1
             have H' := Aside0.mk H
             clear H
             have p567 : 0 ≤ (x26_2 : Int) := od_
             have q567 : x26_2 < ((rd_L1 l0 x15_1).length : Int) := od_
             obtain ⟨ad567, e567, hx567_0⟩ := Kd.at_int HR565_0.out x26_2 p567 q567
             cases e567
             replace hx567_0 := (HB.out.cell (World.block_lt_of_cell? w _ hx567_0)).trans hx567_0
             replace p567 := eq_true p567
             replace q567 := eq_true q567
             go_wp2_with (first | ((with_reducible refine gate_callee (f := 109) rfl ?_); refine gL_ 33 Try.func109 #[.int .i64 a2, .int .i64 x26_2] ?_; (with_reducible refine (impl_has.calls a2 x26_2 false _ A12.out).mono ?_); rintro e w' ⟨rfl, ⟨nd, rfl⟩⟩; refine ⟨_, rfl, ?_⟩))
             go_roundg k2
             case measure => have := HK1.out; have := HK2.out; omega
             case rel => exact ⟨(x10_2), (wrap64 (x26_2 + 1)), rs_, H', ⟨by have := HK1.out; have := HK2.out; omega⟩, ⟨so_ HO_7.out⟩, ⟨ro_ HO_10.out⟩, ⟨hb_⟩⟩
           ·rw [if_neg c11] at H
            exact absurd H (by simp)
          ·rw [if_neg c10] at H
           exact absurd H (by simp)
         ·rw [if_neg c9] at H
          have c9b0 : decide (x26_2 < ((rd_L1 l0 x15_1).length : Int)) = false := decide_eq_false c9
          clear c9
          by_cases c16 : x7_1.length < 5864062014805
          ·rw [if_pos c16] at H
           have LMc16 := Aside0.mk c16
           clear c16
           obtain ⟨y572, hy572⟩ : ∃ y_ : List (List Int), y_ = (x7_1 ++ [x10_2]) := ⟨_, rfl⟩
           replace H : (impl_part.l0 k2 a1 a2 y572 l0 (l0.length : Int) (wrap64 (x15_1 + 1))) = some r := by first | (rw [hy572]; with_reducible exact H) | (have H2_ := (Option.bind_some _ _).symm.trans H; rw [hy572]; with_reducible exact H2_) | (have H2_ := (Option.bind_some _ _).symm.trans H; with_reducible exact H2_) | with_reducible exact H | (rw [hy572]; exact H) | exact H
           have Ny572 := Aside0.mk hy572
           clear hy572
           have H' := Aside0.mk H
           clear H
           obtain ⟨Ao18, co18, eo18⟩ := Kd.R_slice HO_10.out
           subst eo18
           go_wp2_with (first | ((with_reducible refine gate_builtin (b := .append) (xs := #[.tmp 39, .tmp 41]) rfl ?_); at_builtin; refine Kd.S_append (Kd.slice 2 (Kd.int .i64)) (w0 := w) w.heap.size rfl (.tmp 39) (.tmp 41) 22 23 (.slice none 0 0) 24 rfl Try.underlying22 info23 rfl (by decide) (by omega) u7 x7_1 x10_2 [.slice Ao18 x10_2.length co18] (fun _ => True) (fun k_ => some k_ = (.slice Ao18 x10_2.length co18 : Value).ownBlock) rfl rfl ?aP (fun k_ hk_ => ((Kd.R_mono (ok' := fun k_ => ((fun _ => True)) k_ ∧ some k_ ≠ (u7 : Value).ownBlock) (Kd.R_apart' (HO_10.out) (Kd.S_typed HO_7.out) (by decide)) (fun k_ hk => ⟨trivial, hk.2⟩))).1 k_ hk_.symm) ?aF ?aO ?aB ?aS ?aL ?_; (case aP => exact Kd.M_row (Kd.R_mono (Kd.R_tight rfl (Kd.R_mono (ok' := fun k_ => ((fun _ => True)) k_ ∧ some k_ ≠ (u7 : Value).ownBlock) (Kd.R_apart' (HO_10.out) (Kd.S_typed HO_7.out) (by decide)) (fun k_ hk => ⟨trivial, hk.2⟩))) (fun _ h_ => h_))); (case aB => exact hb_); (case aF => exact (fun _ _ => trivial)); (case aO => exact (by (with_reducible repeat (first | apply Kd.S_alloc | apply Kd.S_drewN | apply Kd.S_drew)); exact Kd.S_mono HO_7.out (fun k_ hk => ⟨trivial, fun e_ => hk e_⟩))); (case aS => exact bz_); (case aL => have := LMc16.out; omega); intro v573 w17 ho hb hg hat; rw [← Ny572.out] at ho; have n0_ := Aside0.mk (hb); have n1_ := Aside0.mk (ho); clear HB; clear HO_7; clear HO_10; have HB := n0_; have HO574 := n1_; clear n0_ n1_; clear ho hb hg hat))
           go_roundg k2
           case measure => have := HK1.out; have := HK2.out; omega
           case rel => exact ⟨(y572), (wrap64 (x15_1 + 1)), rs_, H', ⟨by have := HK1.out; have := HK2.out; omega⟩, ⟨so_ HO574.out⟩, ⟨hb_⟩⟩
          ·rw [if_neg c16] at H
           exact absurd H (by simp)
      ·replace c8 := Bool.eq_false_iff.mpr c8
       subst c8
       have H1 : (impl_part.l0 k1 a1 a2 x7_1 l0 (l0.length : Int) (wrap64 (x15_1 + 1))) = some r := by rw [if_neg (show ¬ (false = true) by decide)] at H; exact H
       clear H
       have H := H1
       clear H1
       have H' := Aside0.mk H
       clear H
       have p565 : 0 ≤ (x15_1 : Int) := od_
       have q565 : x15_1 < (l0.length : Int) := od_
       obtain ⟨ad565, A565_0, c565_0, e565, hx565_0, hl565_0, hi565_0⟩ := at_L1 HR0.out x15_1 p565 q565
       cases e565
       replace hx565_0 := (HB.out.cell (World.block_lt_of_cell? w _ hx565_0)).trans hx565_0
       have HR565_0 := Aside0.mk hi565_0
       have HC565_0 := Aside0.mk hl565_0
       clear hi565_0 hl565_0
       replace p565 := eq_true p565
       replace q565 := eq_true q565
       go_wp2_with (first | ((with_reducible refine gate_callee (f := 109) rfl ?_); refine gL_ 22 Try.func109 #[.int .i64 a1, .int .i64 x15_1] ?_; (with_reducible refine (impl_has.calls a1 x15_1 false _ A7.out).mono ?_); rintro e w' ⟨rfl, ⟨nd, rfl⟩⟩; refine ⟨_, rfl, ?_⟩))
       go_roundg k1
       case measure => have := HK1.out; omega
       case rel => exact ⟨(x7_1), (wrap64 (x15_1 + 1)), rs_, H', ⟨by have := HK1.out; omega⟩, ⟨so_ HO_7.out⟩, ⟨hb_⟩⟩
     ·rw [if_neg c6] at H
      exact absurd H (by simp)
    ·rw [if_neg c5] at H
     exact absurd H (by simp)
   ·rw [if_neg c4] at H
    have c4b0 : decide (x15_1 < (l0.length : Int)) = false := decide_eq_false c4
    clear c4
    obtain rfl := Option.some.inj H
    go_wp2
    go_ret
    exact ⟨_, by first | rfl | (simp [errW_none, errW_some] <;> rfl) | (simp [*, errW_none, errW_some] <;> rfl), so_ HO_7.out, hb_⟩
end Go.Proofs.Ythdoilfjcgickaa.Pr
end
section
namespace Go.Proofs.Ythdoilfjcgickaa.Cz
open Go.RowKit Go.Proofs.YthdoilfjcgickaaW.PrintWords Go.Proofs.YthdoilfjcgickaaW.PrintMore Go.Proofs.Ythdoilfjcgickaa.Ma Go.Proofs.Ythdoilfjcgickaa.Pr Go.Proofs.Ythdoilfjcgickaa.Dt Go.Proofs.Ythdoilfjcgickaa.Bz Go.Proofs.Ythdoilfjcgickaa.Un
def en (l : List (List Int)) : Mat := fun i j => (l.getD i []).getD j 0
structure Sq (n : Nat) (l : List (List Int)) : Prop where
 len : l.length = n
 row : ∀ i, i < n → (l.getD i []).length = n
 num : ∀ i j, i < n → j < n → (en l i j).natAbs ≤ 20
theorem rdL1 (l : List (List Int)) (i : Nat) : rd_L1 l (i : Int) = l.getD i [] := by simp [rd_L1]
def rw1 (m : Nat) (f : Nat → Int) : List Int := (List.range m).map f
def mk (r m : Nat) (f : Nat → Nat → Int) : List (List Int) := (List.range r).map fun i => rw1 m (f i)
section
variable {n : Nat} {l : List (List Int)} (h : Sq n l) (hn : n ≤ 5) (s : Int)
include h hn
end
end Go.Proofs.Ythdoilfjcgickaa.Cz
end
section
namespace Go.Proofs.Ythdoilfjcgickaa.Pr
open Go.RowKit Go.Proofs.YthdoilfjcgickaaW.PrintWords Go.Proofs.YthdoilfjcgickaaW.PrintLast Go.Proofs.YthdoilfjcgickaaW.PrintMore
attribute [local go_sem] max2_int min2_int max_two min_two max_three min_three max_four min_four
def spec_l01In.f (a0 : Int) (a1 : Int) (a2 : Int) : Option (Bool) := if a0 ≥ a1 then (some (decide (a0 ≤ a2))) else (some false)
theorem spec_l01In.calls (a0 : Int) (a1 : Int) (a2 : Int) (r : Bool) (w : World) (h : spec_l01In.f a0 a1 a2 = some r) :
  Calls Try.prog 91 #[.int .i64 a0, .int .i64 a1, .int .i64 a2] w fun e w' => e = .returned (.bool r) ∧ Drawn0 w w' := by
 have H : (if a0 ≥ a1 then (some (decide (a0 ≤ a2))) else (some false)) = some r := h
 clear h
 by_cases c4 : a0 ≥ a1
 ·rw [if_pos c4] at H
  have c4b0 : decide (a1 ≤ a0) = true := decide_eq_true c4
  clear c4
  obtain rfl := Option.some.inj H
  go_enter Try.func91, Try.ntmps91
  go_wp2
  go_ret
  exact ⟨by first | rfl | (simp; done) | (simp [*]; done), by repeat (first | exact Drawn0.refl _ | apply Drawn0.step)⟩
 ·rw [if_neg c4] at H
  have c4b0 : decide (a1 ≤ a0) = false := decide_eq_false c4
  clear c4
  obtain rfl := Option.some.inj H
  go_enter Try.func91, Try.ntmps91
  go_wp2
  go_ret
  exact ⟨by first | rfl | (simp; done) | (simp [*]; done), by repeat (first | exact Drawn0.refl _ | apply Drawn0.step)⟩
mutual
def spec_l01Matrix.j0 : Nat → List (List Int) → Int → Bool → Option (Bool)
 | 0, _, _, _ => none
 | k + 1, x0, x3, x13 => if x13 = true then (some false) else (spec_l01Matrix.l0 k x0 x3 0)
def spec_l01Matrix.l0 : Nat → List (List Int) → Int → Int → Option (Bool)
 | 0, _, _, _ => none
 | k + 1, x0, x3, x4 => if x4 < x3 then (if 0 ≤ x4 then (if x4 < (x0.length : Int) then (if ((rd_L1 x0 x4).length : Int) = x3 then (spec_l01Matrix.l1 k x0 x3 x4 0) else (some false)) else (none)) else (none)) else (some true)
def spec_l01Matrix.l1 : Nat → List (List Int) → Int → Int → Int → Option (Bool)
 | 0, _, _, _, _ => none
 | k + 1, x0, x3, x4, x5 => if x5 < x3 then (if 0 ≤ x4 then (if x4 < (x0.length : Int) then (if 0 ≤ x5 then (if x5 < ((rd_L1 x0 x4).length : Int) then ((spec_l01In.f (rd (rd_L1 x0 x4) x5) (-20) 20).bind fun t166 => (if t166 = true then (spec_l01Matrix.l1 k x0 x3 x4 (wrap64 (x5 + 1))) else (some false))) else (none)) else (none)) else (none)) else (none)) else (spec_l01Matrix.l0 k x0 x3 (wrap64 (x4 + 1)))
end
def spec_l01Matrix.f (k : Nat) (l0 : List (List Int)) : Option (Bool) := if (l0.length : Int) < 1 then (spec_l01Matrix.j0 k l0 (l0.length : Int) true) else (spec_l01Matrix.j0 k l0 (l0.length : Int) (decide ((l0.length : Int) > 5)))
theorem spec_l01Matrix.mono_l : ∀ k, (∀ y0 y1 y2, LeO (spec_l01Matrix.j0 k y0 y1 y2) (spec_l01Matrix.j0 (k + 1) y0 y1 y2)) ∧ (∀ y0 y1 y2, LeO (spec_l01Matrix.l0 k y0 y1 y2) (spec_l01Matrix.l0 (k + 1) y0 y1 y2)) ∧ (∀ y0 y1 y2 y3, LeO (spec_l01Matrix.l1 k y0 y1 y2 y3) (spec_l01Matrix.l1 (k + 1) y0 y1 y2 y3))
 | 0 => ⟨fun _ _ _ r h => by simp [spec_l01Matrix.j0] at h, fun _ _ _ r h => by simp [spec_l01Matrix.l0] at h, fun _ _ _ _ r h => by simp [spec_l01Matrix.l1] at h⟩
 | k + 1 => by
  obtain ⟨ih0, ih1, ih2⟩ := spec_l01Matrix.mono_l k
  refine ⟨?_, ?_, ?_⟩
  ·intro y0 y1 y2
   unfold spec_l01Matrix.j0
   repeat' first
   | (with_reducible exact ih0 _ _ _)
   | (with_reducible exact ih1 _ _ _)
   | (with_reducible exact ih2 _ _ _ _)
   | (with_reducible exact LeO.refl _)
   | (with_reducible exact LeO.none _)
   | (with_reducible refine LeO.ite ?_ ?_)
   | (with_reducible refine LeO.bind ?_ (fun _ => ?_))
   | exact ih0 _ _ _
   | exact ih1 _ _ _
   | exact ih2 _ _ _ _
   | exact LeO.none _
   | refine LeO.ite ?_ ?_
   | refine LeO.bind ?_ (fun _ => ?_)
  ·intro y0 y1 y2
   unfold spec_l01Matrix.l0
   repeat' first
   | (with_reducible exact ih0 _ _ _)
   | (with_reducible exact ih1 _ _ _)
   | (with_reducible exact ih2 _ _ _ _)
   | (with_reducible exact LeO.refl _)
   | (with_reducible exact LeO.none _)
   | (with_reducible refine LeO.ite ?_ ?_)
   | (with_reducible refine LeO.bind ?_ (fun _ => ?_))
   | exact ih0 _ _ _
   | exact ih1 _ _ _
   | exact ih2 _ _ _ _
   | exact LeO.none _
   | refine LeO.ite ?_ ?_
   | refine LeO.bind ?_ (fun _ => ?_)
  ·intro y0 y1 y2 y3
   unfold spec_l01Matrix.l1
   repeat' first
   | (with_reducible exact ih0 _ _ _)
   | (with_reducible exact ih1 _ _ _)
   | (with_reducible exact ih2 _ _ _ _)
   | (with_reducible exact LeO.refl _)
   | (with_reducible exact LeO.none _)
   | (with_reducible refine LeO.ite ?_ ?_)
   | (with_reducible refine LeO.bind ?_ (fun _ => ?_))
   | exact ih0 _ _ _
   | exact ih1 _ _ _
   | exact ih2 _ _ _ _
   | exact LeO.none _
   | refine LeO.ite ?_ ?_
   | refine LeO.bind ?_ (fun _ => ?_)
theorem spec_l01Matrix.mono : ∀ a0 k, LeO (spec_l01Matrix.f k a0) (spec_l01Matrix.f (k + 1) a0) := by
 intro a0 k
 obtain ⟨ih0, ih1, ih2⟩ := spec_l01Matrix.mono_l k
 unfold spec_l01Matrix.f
 repeat' first
   | (with_reducible exact ih0 _ _ _)
   | (with_reducible exact ih1 _ _ _)
   | (with_reducible exact ih2 _ _ _ _)
   | (with_reducible exact LeO.refl _)
   | (with_reducible exact LeO.none _)
   | (with_reducible refine LeO.ite ?_ ?_)
   | (with_reducible refine LeO.bind ?_ (fun _ => ?_))
   | exact ih0 _ _ _
   | exact ih1 _ _ _
   | exact ih2 _ _ _ _
   | exact LeO.none _
   | refine LeO.ite ?_ ?_
   | refine LeO.bind ?_ (fun _ => ?_)
theorem spec_l01Matrix.calls (k : Nat) (A0 : Option Addr) (c0 : Nat) (l0 : List (List Int)) (r : Bool) (w : World) (hr0 : Kd.C (Kd.slice 2 (Kd.int .i64)) w A0 l0.length l0) (hc0 : l0.length ≤ c0) (h : spec_l01Matrix.f k l0 = some r) :
  Calls Try.prog 102 #[.slice A0 l0.length c0] w fun e w' => e = .returned (.bool r) ∧ Drawn0 w w' := by
 have HR0 := Aside0.mk hr0
 have HC0 := Aside0.mk hc0
 clear hr0 hc0
 have H : (if (l0.length : Int) < 1 then (spec_l01Matrix.j0 k l0 (l0.length : Int) true) else (spec_l01Matrix.j0 k l0 (l0.length : Int) (decide ((l0.length : Int) > 5)))) = some r := h
 clear h
 have HC2 := Aside0.mk H
 clear H
 go_enter Try.func102, Try.ntmps102
 go_upto_region 2 with (fail)
 go_cut [13] (fun v13 wc => ∃ (kq : Nat) (x13_1 : Bool), v13 = .bool x13_1 ∧ Aside0 (spec_l01Matrix.j0 kq l0 (l0.length : Int) x13_1 = some r) ∧ Aside0 (kq ≤ k) ∧ Drawn0 w wc)
 case first =>
  have H := HC2.out
  clear HC2
  by_cases c3 : (l0.length : Int) < 1
  ·rw [if_pos c3] at H
   have c3b0 : decide ((l0.length : Int) < 1) = true := decide_eq_true c3
   have c3b1 : decide (l0.length < 1) = true := decide_eq_true (by omega)
   clear c3
   (first | rw [c3b0] | (simp only [i64_w, i32_w]; rw [c3b0]) | skip)
   have H' := Aside0.mk H
   clear H
   go_wp2
   go_meet
   case rel => exact ⟨_, (true), rs_, H', ⟨by first | omega | exact Nat.le_refl _⟩, by repeat (first | exact Drawn0.refl _ | apply Drawn0.step)⟩
  ·rw [if_neg c3] at H
   have c3b0 : decide ((l0.length : Int) < 1) = false := decide_eq_false c3
   have c3b1 : decide (l0.length < 1) = false := decide_eq_false (by omega)
   clear c3
   (first | rw [c3b0] | (simp only [i64_w, i32_w]; rw [c3b0]) | skip)
   have H' := Aside0.mk H
   clear H
   go_wp2
   go_meet
   case rel => exact ⟨_, (decide ((l0.length : Int) > 5)), rs_, H', ⟨by first | omega | exact Nat.le_refl _⟩, by repeat (first | exact Drawn0.refl _ | apply Drawn0.step)⟩
 case rest =>
  clear HC2
  try clear c1
  try clear p2
  try clear c3
  try clear c3b0
  try clear c3b1
  obtain ⟨kq, x13_1, rfl, HA, HJ1, ⟨mc1, rfl⟩⟩ := hcut
  cases kq with
  | zero => exact absurd HA.out (by simp [spec_l01Matrix.j0])
  | succ kj1 =>
   have H := HA.out
   clear HA
   simp only [spec_l01Matrix.j0] at H
   by_cases c4 : x13_1 = true
   ·subst c4
    have H1 : (some false) = some r := by rw [if_pos rfl] at H; exact H
    clear H
    have H := H1
    clear H1
    obtain rfl := Option.some.inj H
    go_wp2
    go_ret
    exact ⟨by first | rfl | (simp; done) | (simp [*]; done), by repeat (first | exact Drawn0.refl _ | apply Drawn0.step)⟩
   ·replace c4 := Bool.eq_false_iff.mpr c4
    subst c4
    have H1 : (spec_l01Matrix.l0 kj1 l0 (l0.length : Int) 0) = some r := by rw [if_neg (show ¬ (false = true) by decide)] at H; exact H
    clear H
    have H := H1
    clear H1
    have H' := Aside0.mk H
    clear H
    go_wp2
    go_loopg [4] kj1 (fun kq v4 w' => ∃ (x4_2 : Int), v4 = .int .i64 x4_2 ∧ Aside0 (spec_l01Matrix.l0 kq l0 (l0.length : Int) x4_2 = some r) ∧ Aside0 (kq ≤ kj1) ∧ Drawn0 w w')
    case atStart => exact ⟨(0), rs_, H', ⟨Nat.le_refl _⟩, by repeat (first | exact Drawn0.refl _ | apply Drawn0.step)⟩
    case round =>
     clear H'
     try clear c1
     try clear p2
     try clear c3
     try clear c3b0
     try clear c3b1
     try clear c4
     try clear p2
     obtain ⟨x4_2, rfl, HA, HK2, ⟨m2, rfl⟩⟩ := hrel
     cases gk with
     | zero => exact absurd HA.out (by simp [spec_l01Matrix.l0])
     | succ k2 =>
      have H := HA.out
      clear HA
      simp only [spec_l01Matrix.l0] at H
      by_cases c5 : x4_2 < (l0.length : Int)
      ·rw [if_pos c5] at H
       have c5b0 : decide (x4_2 < (l0.length : Int)) = true := decide_eq_true c5
       clear c5
       by_cases c6 : 0 ≤ x4_2
       ·rw [if_pos c6] at H
        have c6b0 : decide (0 ≤ x4_2) = true := decide_eq_true c6
        clear c6
        by_cases c7 : x4_2 < (l0.length : Int)
        ·rw [if_pos c7] at H
         have c7b0 : decide (x4_2 < (l0.length : Int)) = true := decide_eq_true c7
         clear c7
         by_cases c8 : ((rd_L1 l0 x4_2).length : Int) = (l0.length : Int)
         ·rw [if_pos c8] at H
          have c8b0 : (((rd_L1 l0 x4_2).length : Int) == (l0.length : Int)) = true := beq_iff_eq.mpr c8
          have c8b1 : (((rd_L1 l0 x4_2).length : Int) != (l0.length : Int)) = false := bne_eq_false_iff_eq.mpr c8
          have c8b2 : ((rd_L1 l0 x4_2).length == l0.length) = true := by first | simpa using c8 | (simp at c8 ⊢; omega)
          clear c8
          have H' := Aside0.mk H
          clear H
          have p163 : 0 ≤ (x4_2 : Int) := od_
          have q163 : x4_2 < (l0.length : Int) := od_
          obtain ⟨ad163, A163_0, c163_0, e163, hx163_0, hl163_0, hi163_0⟩ := at_L1 HR0.out x4_2 p163 q163
          cases e163
          have HR163_0 := Aside0.mk hi163_0
          have HC163_0 := Aside0.mk hl163_0
          clear hi163_0 hl163_0
          replace p163 := eq_true p163
          replace q163 := eq_true q163
          go_wp2
          go_loopg [5] k2 (fun kq v5 w' => ∃ (x5_3 : Int), v5 = .int .i64 x5_3 ∧ Aside0 (spec_l01Matrix.l1 kq l0 (l0.length : Int) x4_2 x5_3 = some r) ∧ Aside0 (kq ≤ k2) ∧ Drawn0 w w')
          case atStart => exact ⟨(0), rs_, H', ⟨Nat.le_refl _⟩, by repeat (first | exact Drawn0.refl _ | apply Drawn0.step)⟩
          case round =>
           clear H'
           try clear c1
           try clear p1
           try clear q1
           try clear hx1
           try clear p2
           try clear c3
           try clear c3b0
           try clear c3b1
           try clear c4
           try clear c5
           try clear c5b0
           try clear c6
           try clear c6b0
           try clear c7
           try clear c7b0
           try clear c8
           try clear c8b0
           try clear c8b1
           try clear c8b2
           try clear hx163_0
           try clear p163
           try clear p2
           try clear q163
           obtain ⟨x5_3, rfl, HA, HK3, ⟨m3, rfl⟩⟩ := hrel
           cases gk with
           | zero => exact absurd HA.out (by simp [spec_l01Matrix.l1])
           | succ k3 =>
            have H := HA.out
            clear HA
            simp only [spec_l01Matrix.l1] at H
            by_cases c9 : x5_3 < (l0.length : Int)
            ·rw [if_pos c9] at H
             have c9b0 : decide (x5_3 < (l0.length : Int)) = true := decide_eq_true c9
             clear c9
             by_cases c10 : 0 ≤ x4_2
             ·rw [if_pos c10] at H
              have c10b0 : decide (0 ≤ x4_2) = true := decide_eq_true c10
              clear c10
              by_cases c11 : x4_2 < (l0.length : Int)
              ·rw [if_pos c11] at H
               have c11b0 : decide (x4_2 < (l0.length : Int)) = true := decide_eq_true c11
               clear c11
               by_cases c12 : 0 ≤ x5_3
               ·rw [if_pos c12] at H
                have c12b0 : decide (0 ≤ x5_3) = true := decide_eq_true c12
                clear c12
                by_cases c13 : x5_3 < ((rd_L1 l0 x4_2).length : Int)
                ·rw [if_pos c13] at H
                 have c13b0 : decide (x5_3 < ((rd_L1 l0 x4_2).length : Int)) = true := decide_eq_true c13
                 clear c13
                 replace H := Option.bind_eq_some_iff.mp H
                 obtain ⟨t166, A140, H⟩ := H
                 replace H : (if t166 = true then (spec_l01Matrix.l1 k3 l0 (l0.length : Int) x4_2 (wrap64 (x5_3 + 1))) else (some false)) = some r := H
                 have A14 := Aside0.mk A140
                 clear A140
                 by_cases c15 : t166 = true
                 ·subst c15
                  have H1 : (spec_l01Matrix.l1 k3 l0 (l0.length : Int) x4_2 (wrap64 (x5_3 + 1))) = some r := by rw [if_pos rfl] at H; exact H
                  clear H
                  have H := H1
                  clear H1
                  have H' := Aside0.mk H
                  clear H
                  have p164 : 0 ≤ (x4_2 : Int) := od_
                  have q164 : x4_2 < (l0.length : Int) := od_
                  obtain ⟨ad164, A164_0, c164_0, e164, hx164_0, hl164_0, hi164_0⟩ := at_L1 HR0.out x4_2 p164 q164
                  obtain rfl : ad163 = ad164 := (by injection e164)
                  have HR164_0 := Aside0.mk hi164_0
                  have HC164_0 := Aside0.mk hl164_0
                  clear hi164_0 hl164_0
                  replace p164 := eq_true p164
                  replace q164 := eq_true q164
                  have p165 : 0 ≤ (x5_3 : Int) := od_
                  have q165 : x5_3 < ((rd_L1 l0 x4_2).length : Int) := od_
                  obtain ⟨ad165, e165, hx165_0⟩ := Kd.at_int HR164_0.out x5_3 p165 q165
                  cases e165
                  replace p165 := eq_true p165
                  replace q165 := eq_true q165
                  go_wp2_with (first | ((with_reducible refine gate_callee (f := 91) rfl ?_); refine gL_ 38 Try.func91 #[.int .i64 (rd (rd_L1 l0 x4_2) x5_3), .int .i64 (-20), .int .i64 20] ?_; (with_reducible refine (spec_l01In.calls (rd (rd_L1 l0 x4_2) x5_3) (-20) 20 true _ A14.out).mono ?_); rintro e w' ⟨rfl, ⟨nd, rfl⟩⟩; refine ⟨_, rfl, ?_⟩))
                  go_roundg k3
                  case measure => have := HJ1.out; have := HK2.out; have := HK3.out; omega
                  case rel => exact ⟨(wrap64 (x5_3 + 1)), rs_, H', ⟨by have := HJ1.out; have := HK2.out; have := HK3.out; omega⟩, by repeat (first | exact Drawn0.refl _ | apply Drawn0.step)⟩
                 ·replace c15 := Bool.eq_false_iff.mpr c15
                  subst c15
                  have H1 : (some false) = some r := by rw [if_neg (show ¬ (false = true) by decide)] at H; exact H
                  clear H
                  have H := H1
                  clear H1
                  obtain rfl := Option.some.inj H
                  have p164 : 0 ≤ (x4_2 : Int) := od_
                  have q164 : x4_2 < (l0.length : Int) := od_
                  obtain ⟨ad164, A164_0, c164_0, e164, hx164_0, hl164_0, hi164_0⟩ := at_L1 HR0.out x4_2 p164 q164
                  obtain rfl : ad163 = ad164 := (by injection e164)
                  have HR164_0 := Aside0.mk hi164_0
                  have HC164_0 := Aside0.mk hl164_0
                  clear hi164_0 hl164_0
                  replace p164 := eq_true p164
                  replace q164 := eq_true q164
                  have p165 : 0 ≤ (x5_3 : Int) := od_
                  have q165 : x5_3 < ((rd_L1 l0 x4_2).length : Int) := od_
                  obtain ⟨ad165, e165, hx165_0⟩ := Kd.at_int HR164_0.out x5_3 p165 q165
                  cases e165
                  replace p165 := eq_true p165
                  replace q165 := eq_true q165
                  go_wp2_with (first | ((with_reducible refine gate_callee (f := 91) rfl ?_); refine gL_ 38 Try.func91 #[.int .i64 (rd (rd_L1 l0 x4_2) x5_3), .int .i64 (-20), .int .i64 20] ?_; (with_reducible refine (spec_l01In.calls (rd (rd_L1 l0 x4_2) x5_3) (-20) 20 false _ A14.out).mono ?_); rintro e w' ⟨rfl, ⟨nd, rfl⟩⟩; refine ⟨_, rfl, ?_⟩))
                  go_ret
                  exact ⟨by first | rfl | (simp; done) | (simp [*]; done), by repeat (first | exact Drawn0.refl _ | apply Drawn0.step)⟩
                ·rw [if_neg c13] at H
                 exact absurd H (by simp)
               ·rw [if_neg c12] at H
                exact absurd H (by simp)
              ·rw [if_neg c11] at H
               exact absurd H (by simp)
             ·rw [if_neg c10] at H
              exact absurd H (by simp)
            ·rw [if_neg c9] at H
             have c9b0 : decide (x5_3 < (l0.length : Int)) = false := decide_eq_false c9
             clear c9
             have H' := Aside0.mk H
             clear H
             go_wp2
             go_roundg k3
             case measure => have := HJ1.out; have := HK2.out; have := HK3.out; omega
             case rel => exact ⟨(wrap64 (x4_2 + 1)), rs_, H', ⟨by have := HJ1.out; have := HK2.out; have := HK3.out; omega⟩, by repeat (first | exact Drawn0.refl _ | apply Drawn0.step)⟩
         ·rw [if_neg c8] at H
          have c8b0 : (((rd_L1 l0 x4_2).length : Int) == (l0.length : Int)) = false := beq_eq_false_iff_ne.mpr c8
          have c8b1 : (((rd_L1 l0 x4_2).length : Int) != (l0.length : Int)) = true := bne_iff_ne.mpr c8
          have c8b2 : ((rd_L1 l0 x4_2).length == l0.length) = false := by first | simpa using c8 | (simp at c8 ⊢; omega)
          obtain rfl := Option.some.inj H
          have p163 : 0 ≤ (x4_2 : Int) := od_
          have q163 : x4_2 < (l0.length : Int) := od_
          obtain ⟨ad163, A163_0, c163_0, e163, hx163_0, hl163_0, hi163_0⟩ := at_L1 HR0.out x4_2 p163 q163
          cases e163
          have HR163_0 := Aside0.mk hi163_0
          have HC163_0 := Aside0.mk hl163_0
          clear hi163_0 hl163_0
          replace p163 := eq_true p163
          replace q163 := eq_true q163
          go_wp2
          go_ret
          exact ⟨by first | rfl | (simp; done) | (simp [*]; done), by repeat (first | exact Drawn0.refl _ | apply Drawn0.step)⟩
        ·rw [if_neg c7] at H
         exact absurd H (by simp)
       ·rw [if_neg c6] at H
        exact absurd H (by simp)
      ·rw [if_neg c5] at H
       have c5b0 : decide (x4_2 < (l0.length : Int)) = false := decide_eq_false c5
       clear c5
       obtain rfl := Option.some.inj H
       go_wp2
       go_ret
       exact ⟨by first | rfl | (simp; done) | (simp [*]; done), by repeat (first | exact Drawn0.refl _ | apply Drawn0.step)⟩
mutual
def spec_l01Is.j0 : Nat → Bool → List (List Int) → List Int → Option (Bool)
 | 0, _, _, _ => none
 | k + 1, x16, x168000, x168001 => if x16 = true then (some false) else (spec_l01Is.l0 k 0 x168000 x168001)
def spec_l01Is.l0 : Nat → Int → List (List Int) → List Int → Option (Bool)
 | 0, _, _, _ => none
 | k + 1, x3, x168000, x168001 => if x3 < (x168001.length : Int) then (if 0 ≤ x3 then ((spec_l01In.f (rd x168001 x3) (-100) 100).bind fun t170 => (if t170 = true then (spec_l01Is.l0 k (wrap64 (x3 + 1)) x168000 x168001) else (some false))) else (none)) else (some true)
end
def spec_l01Is.f (k : Nat) (l0_0 : List (List Int)) (l0_1 : List Int) : Option (Bool) := (spec_l01Matrix.f k l0_0).bind fun t168 => (if t168 = true then (spec_l01Is.j0 k ((l0_1.length : Int) != (l0_0.length : Int)) l0_0 l0_1) else (spec_l01Is.j0 k true l0_0 l0_1))
theorem spec_l01Is.mono_l : ∀ k, (∀ y0 y1 y2, LeO (spec_l01Is.j0 k y0 y1 y2) (spec_l01Is.j0 (k + 1) y0 y1 y2)) ∧ (∀ y0 y1 y2, LeO (spec_l01Is.l0 k y0 y1 y2) (spec_l01Is.l0 (k + 1) y0 y1 y2))
 | 0 => ⟨fun _ _ _ r h => by simp [spec_l01Is.j0] at h, fun _ _ _ r h => by simp [spec_l01Is.l0] at h⟩
 | k + 1 => by
  obtain ⟨ih0, ih1⟩ := spec_l01Is.mono_l k
  refine ⟨?_, ?_⟩
  ·intro y0 y1 y2
   unfold spec_l01Is.j0
   repeat' first
   | (with_reducible exact ih0 _ _ _)
   | (with_reducible exact ih1 _ _ _)
   | (with_reducible exact spec_l01Matrix.mono _ _)
   | (with_reducible exact LeO.refl _)
   | (with_reducible exact LeO.none _)
   | (with_reducible refine LeO.ite ?_ ?_)
   | (with_reducible refine LeO.bind ?_ (fun _ => ?_))
   | exact ih0 _ _ _
   | exact ih1 _ _ _
   | exact spec_l01Matrix.mono _ _
   | exact LeO.none _
   | refine LeO.ite ?_ ?_
   | refine LeO.bind ?_ (fun _ => ?_)
  ·intro y0 y1 y2
   unfold spec_l01Is.l0
   repeat' first
   | (with_reducible exact ih0 _ _ _)
   | (with_reducible exact ih1 _ _ _)
   | (with_reducible exact spec_l01Matrix.mono _ _)
   | (with_reducible exact LeO.refl _)
   | (with_reducible exact LeO.none _)
   | (with_reducible refine LeO.ite ?_ ?_)
   | (with_reducible refine LeO.bind ?_ (fun _ => ?_))
   | exact ih0 _ _ _
   | exact ih1 _ _ _
   | exact spec_l01Matrix.mono _ _
   | exact LeO.none _
   | refine LeO.ite ?_ ?_
   | refine LeO.bind ?_ (fun _ => ?_)
theorem spec_l01Is.mono : ∀ a0 a1 k, LeO (spec_l01Is.f k a0 a1) (spec_l01Is.f (k + 1) a0 a1) := by
 intro a0 a1 k
 obtain ⟨ih0, ih1⟩ := spec_l01Is.mono_l k
 unfold spec_l01Is.f
 repeat' first
   | (with_reducible exact ih0 _ _ _)
   | (with_reducible exact ih1 _ _ _)
   | (with_reducible exact spec_l01Matrix.mono _ _)
   | (with_reducible exact LeO.refl _)
   | (with_reducible exact LeO.none _)
   | (with_reducible refine LeO.ite ?_ ?_)
   | (with_reducible refine LeO.bind ?_ (fun _ => ?_))
   | exact ih0 _ _ _
   | exact ih1 _ _ _
   | exact spec_l01Matrix.mono _ _
   | exact LeO.none _
   | refine LeO.ite ?_ ?_
   | refine LeO.bind ?_ (fun _ => ?_)
theorem spec_l01Is.calls (k : Nat) (A0_0 : Option Addr) (c0_0 : Nat) (l0_0 : List (List Int)) (A0_1 : Option Addr) (c0_1 : Nat) (l0_1 : List Int) (r : Bool) (w : World) (hr0_0 : Kd.C (Kd.slice 2 (Kd.int .i64)) w A0_0 l0_0.length l0_0) (hc0_0 : l0_0.length ≤ c0_0) (hr0_1 : Kd.C (Kd.int .i64) w A0_1 l0_1.length l0_1) (hc0_1 : l0_1.length ≤ c0_1) (h : spec_l01Is.f k l0_0 l0_1 = some r) :
  Calls Try.prog 66 #[.agg #[.slice A0_0 l0_0.length c0_0, .slice A0_1 l0_1.length c0_1]] w fun e w' => e = .returned (.bool r) ∧ Below w.heap.size w w' := by
 have hu29 := Try.underlying29
 have HR0_0 := Aside0.mk hr0_0
 have HC0_0 := Aside0.mk hc0_0
 clear hr0_0 hc0_0
 have HR0_1 := Aside0.mk hr0_1
 have HC0_1 := Aside0.mk hc0_1
 clear hr0_1 hc0_1
 have HB := Aside0.mk (Below.refl w.heap.size w)
 have H : ((spec_l01Matrix.f k l0_0).bind fun t168 => (if t168 = true then (spec_l01Is.j0 k ((l0_1.length : Int) != (l0_0.length : Int)) l0_0 l0_1) else (spec_l01Is.j0 k true l0_0 l0_1))) = some r := h
 clear h
 have HC2 := Aside0.mk H
 clear H
 go_enter Try.func66, Try.ntmps66
 go_upto_region 1 with (first | ((with_reducible refine gate_dst (N := 1) rfl ?_); (try (refine gate_guard (by rfl) ?_; dsimp only)); refine box_event ?hg (N := 1) ?hd (cs := #[.slice A0_0 l0_0.length c0_0, .slice A0_1 l0_1.length c0_1]) (t := 29) ?hr ?_; (case hd => rfl); (case hg => rfl); (case hr => first | (go_simp; done) | (go_simp; rfl)); intro gb167 hg w3 hbox hb; have n0_ := Aside0.mk (bs_ hb); have n1_ := Aside0.mk (hbox); have n2_ := Aside0.mk ((by rw [hg]; exact bz_ : w.heap.size ≤ gb167)); have n3_ := Aside0.mk ((by rw [hg]; exact bz_ : w.heap.size ≤ gb167)); clear HB; have HB := n0_; have BK167 := n1_; have GW167 := n2_; have GE167 := n3_; clear n0_ n1_ n2_ n3_; clear hb hbox hg))
 (try simp only [Act.put, List.setIfInBounds_toArray, List.set_cons_zero, List.set_cons_succ])
 go_cut [16] (fun v16 wc => ∃ (kq : Nat) (x16_1 : Bool), v16 = .bool x16_1 ∧ Aside0 (spec_l01Is.j0 kq x16_1 l0_0 l0_1 = some r) ∧ Aside0 (kq ≤ k) ∧ Aside0 (wc.heap[gb167]? = some (.cells #[(.slice A0_0 l0_0.length c0_0), (.slice A0_1 l0_1.length c0_1)] 29 (0, 0))) ∧ Aside0 (Below w.heap.size w wc))
 case first =>
  have H := HC2.out
  clear HC2
  replace H := Option.bind_eq_some_iff.mp H
  obtain ⟨t168, A40, H⟩ := H
  replace H : (if t168 = true then (spec_l01Is.j0 k ((l0_1.length : Int) != (l0_0.length : Int)) l0_0 l0_1) else (spec_l01Is.j0 k true l0_0 l0_1)) = some r := H
  have A4 := Aside0.mk A40
  clear A40
  by_cases c5 : t168 = true
  ·subst c5
   have H1 : (spec_l01Is.j0 k ((l0_1.length : Int) != (l0_0.length : Int)) l0_0 l0_1) = some r := by rw [if_pos rfl] at H; exact H
   clear H
   have H := H1
   clear H1
   have H' := Aside0.mk H
   clear H
   have hcz6_0 : w3.cell? ⟨gb167, 0, none⟩ = some (.slice A0_0 l0_0.length c0_0) := (blk_cell BK167.out 0).trans rfl
   have hcz6_1 : w3.cell? ⟨gb167, 1, none⟩ = some (.slice A0_1 l0_1.length c0_1) := (blk_cell BK167.out 1).trans rfl
   have hfz6_0 := blk_frozen BK167.out 0
   have hfz6_1 := blk_frozen BK167.out 1
   go_wp2_with (first | ((with_reducible refine gate_callee (f := 102) rfl ?_); refine gL_ 6 Try.func102 #[.slice A0_0 l0_0.length c0_0] ?_; (with_reducible refine (spec_l01Matrix.calls k _ _ l0_0 true _ ?side1 ?side2 A4.out).mono ?_); (case side1 => exact cb_ HR0_0.out HB.out); (case side2 => exact HC0_0.out); rintro e w' ⟨rfl, ⟨nd, rfl⟩⟩; refine ⟨_, rfl, ?_⟩))
   go_meet
   case rel => exact ⟨_, (((l0_1.length : Int) != (l0_0.length : Int))), rs_, H', ⟨by first | omega | exact Nat.le_refl _⟩, ⟨bk_⟩, ⟨hb_⟩⟩
  ·replace c5 := Bool.eq_false_iff.mpr c5
   subst c5
   have H1 : (spec_l01Is.j0 k true l0_0 l0_1) = some r := by rw [if_neg (show ¬ (false = true) by decide)] at H; exact H
   clear H
   have H := H1
   clear H1
   have H' := Aside0.mk H
   clear H
   have hcz7_0 : w3.cell? ⟨gb167, 0, none⟩ = some (.slice A0_0 l0_0.length c0_0) := (blk_cell BK167.out 0).trans rfl
   have hcz7_1 : w3.cell? ⟨gb167, 1, none⟩ = some (.slice A0_1 l0_1.length c0_1) := (blk_cell BK167.out 1).trans rfl
   have hfz7_0 := blk_frozen BK167.out 0
   have hfz7_1 := blk_frozen BK167.out 1
   go_wp2_with (first | ((with_reducible refine gate_callee (f := 102) rfl ?_); refine gL_ 6 Try.func102 #[.slice A0_0 l0_0.length c0_0] ?_; (with_reducible refine (spec_l01Matrix.calls k _ _ l0_0 false _ ?side1 ?side2 A4.out).mono ?_); (case side1 => exact cb_ HR0_0.out HB.out); (case side2 => exact HC0_0.out); rintro e w' ⟨rfl, ⟨nd, rfl⟩⟩; refine ⟨_, rfl, ?_⟩))
   go_meet
   case rel => exact ⟨_, (true), rs_, H', ⟨by first | omega | exact Nat.le_refl _⟩, ⟨bk_⟩, ⟨hb_⟩⟩
 case rest =>
  clear HC2
  try clear c1
  try clear p2
  try clear c5
  try clear c6
  try clear hcz6_0
  try clear hcz6_1
  try clear hcz7_0
  try clear hcz7_1
  try clear hfz6_0
  try clear hfz6_1
  try clear hfz7_0
  try clear hfz7_1
  obtain ⟨kq, x16_1, rfl, HA, HJ1, BK167, HB⟩ := hcut
  cases kq with
  | zero => exact absurd HA.out (by simp [spec_l01Is.j0])
  | succ kj1 =>
   have H := HA.out
   clear HA
   simp only [spec_l01Is.j0] at H
   by_cases c8 : x16_1 = true
   ·subst c8
    have H1 : (some false) = some r := by rw [if_pos rfl] at H; exact H
    clear H
    have H := H1
    clear H1
    obtain rfl := Option.some.inj H
    go_wp2
    go_ret
    exact ⟨by first | rfl | (simp [errW_none, errW_some] <;> rfl) | (simp [*, errW_none, errW_some] <;> rfl), hb_⟩
   ·replace c8 := Bool.eq_false_iff.mpr c8
    subst c8
    have H1 : (spec_l01Is.l0 kj1 0 l0_0 l0_1) = some r := by rw [if_neg (show ¬ (false = true) by decide)] at H; exact H
    clear H
    have H := H1
    clear H1
    have H' := Aside0.mk H
    clear H
    go_wp2
    go_loopg [3] kj1 (fun kq v3 w' => ∃ (x3_2 : Int), v3 = .int .i64 x3_2 ∧ Aside0 (spec_l01Is.l0 kq x3_2 l0_0 l0_1 = some r) ∧ Aside0 (kq ≤ kj1) ∧ Aside0 (w'.heap[gb167]? = some (.cells #[(.slice A0_0 l0_0.length c0_0), (.slice A0_1 l0_1.length c0_1)] 29 (0, 0))) ∧ Aside0 (Below w.heap.size w w'))
    case atStart => exact ⟨(0), rs_, H', ⟨Nat.le_refl _⟩, ⟨bk_⟩, ⟨hb_⟩⟩
    case round =>
     clear H'
     try clear c1
     try clear p2
     try clear c5
     try clear c6
     try clear c8
     try clear hcz6_0
     try clear hcz6_1
     try clear hcz7_0
     try clear hcz7_1
     try clear hfz6_0
     try clear hfz6_1
     try clear hfz7_0
     try clear hfz7_1
     try clear p2
     obtain ⟨x3_2, rfl, HA, HK2, BK167, HB⟩ := hrel
     cases gk with
     | zero => exact absurd HA.out (by simp [spec_l01Is.l0])
     | succ k2 =>
      have H := HA.out
      clear HA
      simp only [spec_l01Is.l0] at H
      by_cases c9 : x3_2 < (l0_1.length : Int)
      ·rw [if_pos c9] at H
       have c9b0 : decide (x3_2 < (l0_1.length : Int)) = true := decide_eq_true c9
       clear c9
       by_cases c10 : 0 ≤ x3_2
       ·rw [if_pos c10] at H
        have c10b0 : decide (0 ≤ x3_2) = true := decide_eq_true c10
        clear c10
        replace H := Option.bind_eq_some_iff.mp H
        obtain ⟨t170, A110, H⟩ := H
        replace H : (if t170 = true then (spec_l01Is.l0 k2 (wrap64 (x3_2 + 1)) l0_0 l0_1) else (some false)) = some r := H
        have A11 := Aside0.mk A110
        clear A110
        by_cases c12 : t170 = true
        ·subst c12
         have H1 : (spec_l01Is.l0 k2 (wrap64 (x3_2 + 1)) l0_0 l0_1) = some r := by rw [if_pos rfl] at H; exact H
         clear H
         have H := H1
         clear H1
         have H' := Aside0.mk H
         clear H
         have hcz13_0 : wr.cell? ⟨gb167, 0, none⟩ = some (.slice A0_0 l0_0.length c0_0) := (blk_cell BK167.out 0).trans rfl
         have hcz13_1 : wr.cell? ⟨gb167, 1, none⟩ = some (.slice A0_1 l0_1.length c0_1) := (blk_cell BK167.out 1).trans rfl
         have hfz13_0 := blk_frozen BK167.out 0
         have hfz13_1 := blk_frozen BK167.out 1
         have p169 : 0 ≤ (x3_2 : Int) := od_
         have q169 : x3_2 < (l0_1.length : Int) := od_
         obtain ⟨ad169, e169, hx169_0⟩ := Kd.at_int HR0_1.out x3_2 p169 q169
         cases e169
         replace hx169_0 := (HB.out.cell (World.block_lt_of_cell? w _ hx169_0)).trans hx169_0
         replace p169 := eq_true p169
         replace q169 := eq_true q169
         go_wp2_with (first | ((with_reducible refine gate_callee (f := 91) rfl ?_); refine gL_ 29 Try.func91 #[.int .i64 (rd l0_1 x3_2), .int .i64 (-100), .int .i64 100] ?_; (with_reducible refine (spec_l01In.calls (rd l0_1 x3_2) (-100) 100 true _ A11.out).mono ?_); rintro e w' ⟨rfl, ⟨nd, rfl⟩⟩; refine ⟨_, rfl, ?_⟩))
         go_roundg k2
         case measure => have := HJ1.out; have := HK2.out; omega
         case rel => exact ⟨(wrap64 (x3_2 + 1)), rs_, H', ⟨by have := HJ1.out; have := HK2.out; omega⟩, ⟨bk_⟩, ⟨hb_⟩⟩
        ·replace c12 := Bool.eq_false_iff.mpr c12
         subst c12
         have H1 : (some false) = some r := by rw [if_neg (show ¬ (false = true) by decide)] at H; exact H
         clear H
         have H := H1
         clear H1
         obtain rfl := Option.some.inj H
         have hcz14_0 : wr.cell? ⟨gb167, 0, none⟩ = some (.slice A0_0 l0_0.length c0_0) := (blk_cell BK167.out 0).trans rfl
         have hcz14_1 : wr.cell? ⟨gb167, 1, none⟩ = some (.slice A0_1 l0_1.length c0_1) := (blk_cell BK167.out 1).trans rfl
         have hfz14_0 := blk_frozen BK167.out 0
         have hfz14_1 := blk_frozen BK167.out 1
         have p169 : 0 ≤ (x3_2 : Int) := od_
         have q169 : x3_2 < (l0_1.length : Int) := od_
         obtain ⟨ad169, e169, hx169_0⟩ := Kd.at_int HR0_1.out x3_2 p169 q169
         cases e169
         replace hx169_0 := (HB.out.cell (World.block_lt_of_cell? w _ hx169_0)).trans hx169_0
         replace p169 := eq_true p169
         replace q169 := eq_true q169
         go_wp2_with (first | ((with_reducible refine gate_callee (f := 91) rfl ?_); refine gL_ 29 Try.func91 #[.int .i64 (rd l0_1 x3_2), .int .i64 (-100), .int .i64 100] ?_; (with_reducible refine (spec_l01In.calls (rd l0_1 x3_2) (-100) 100 false _ A11.out).mono ?_); rintro e w' ⟨rfl, ⟨nd, rfl⟩⟩; refine ⟨_, rfl, ?_⟩))
         go_ret
         exact ⟨by first | rfl | (simp [errW_none, errW_some] <;> rfl) | (simp [*, errW_none, errW_some] <;> rfl), hb_⟩
       ·rw [if_neg c10] at H
        exact absurd H (by simp)
      ·rw [if_neg c9] at H
       have c9b0 : decide (x3_2 < (l0_1.length : Int)) = false := decide_eq_false c9
       clear c9
       obtain rfl := Option.some.inj H
       have hcz15_0 : wr.cell? ⟨gb167, 0, none⟩ = some (.slice A0_0 l0_0.length c0_0) := (blk_cell BK167.out 0).trans rfl
       have hcz15_1 : wr.cell? ⟨gb167, 1, none⟩ = some (.slice A0_1 l0_1.length c0_1) := (blk_cell BK167.out 1).trans rfl
       have hfz15_0 := blk_frozen BK167.out 0
       have hfz15_1 := blk_frozen BK167.out 1
       go_wp2
       go_ret
       exact ⟨by first | rfl | (simp [errW_none, errW_some] <;> rfl) | (simp [*, errW_none, errW_some] <;> rfl), hb_⟩
end Go.Proofs.Ythdoilfjcgickaa.Pr
end
section
namespace Go.Proofs.Ythdoilfjcgickaa.Pb
open Go.RowKit Go.Proofs.YthdoilfjcgickaaW.PrintWords Go.Proofs.YthdoilfjcgickaaW.PrintMore Go.Proofs.Ythdoilfjcgickaa.Ma Go.Proofs.Ythdoilfjcgickaa.Pr Go.Proofs.Ythdoilfjcgickaa.Dt Go.Proofs.Ythdoilfjcgickaa.Bz Go.Proofs.Ythdoilfjcgickaa.Cz
theorem sin_eq (x a b : Int) : spec_l01In.f x a b = some (decide (a ≤ x ∧ x ≤ b)) := by
 unfold spec_l01In.f
 by_cases h : x ≥ a
 ·rw [if_pos h]; congr 1; rw [Bool.eq_iff_iff]; simp; omega
 ·rw [if_neg h]; congr 1; rw [Bool.eq_iff_iff]; simp; omega
theorem head_step {P : Nat → Prop} {i d : Nat} (h : i < d) : (∀ j, i ≤ j → j < d → P j) ↔ P i ∧ ∀ j, i + 1 ≤ j → j < d → P j :=
 ⟨fun q => ⟨q i (Nat.le_refl _) h, fun j h1 h2 => q j (by omega) h2⟩, fun q j h1 h2 => by
  by_cases e : j = i
  ·subst e; exact q.1
  ·exact q.2 j (by omega) h2⟩
theorem no_iff {b : Bool} {p : Prop} (h : b = true ↔ p) (hp : ¬ p) : b = false := by
 cases b with
 | false => rfl
 | true => exact absurd (h.1 rfl) hp
def N20 (x : Int) : Prop := -20 ≤ x ∧ x ≤ 20
def N100 (x : Int) : Prop := -100 ≤ x ∧ x ≤ 100
def RowM (M : List (List Int)) (i : Nat) : Prop := (M.getD i []).length = M.length ∧ ∀ j, 0 ≤ j → j < M.length → N20 (en M i j)
structure MatOK (M : List (List Int)) : Prop where
 n1 : 1 ≤ M.length
 n5 : M.length ≤ 5
 rows : ∀ i, 0 ≤ i → i < M.length → RowM M i
structure POK (M : List (List Int)) (q : List Int) : Prop where
 mat : MatOK M
 len : q.length = M.length
 num : ∀ i, 0 ≤ i → i < q.length → N100 (q.getD i 0)
section
variable {M : List (List Int)} (hM : M.length ≤ 5)
include hM
theorem spec_mrows : ∀ m i, i + m = M.length → ∀ t : Bool, (t = true ↔ ∀ u, i ≤ u → u < M.length → RowM M u) → Ev (fun k => spec_l01Matrix.l0 k M (M.length : Int) i) t := by
 intro m
 induction m with
 | zero =>
  intro i hi t ht
  obtain rfl : t = true := ht.2 (fun u h1 h2 => by omega)
  exact evstep (fun k => by rw [spec_l01Matrix.l0]) (evneg (by omega) (evc rfl))
 | succ m ih =>
  intro i hi t ht
  have hs := head_step (P := RowM M) (i := i) (d := M.length) (by omega)
  have ht2 := ht.trans hs
  refine evstep (fun k => by rw [spec_l01Matrix.l0]) (evpos (by omega) (evpos (by omega) (evpos (by omega) ?_)))
  rw [rdL1]
  by_cases c : (M.getD i []).length = M.length
  ·refine evpos (by omega) ?_
   have cols : ∀ p j, j + p = M.length → ∀ t : Bool, (t = true ↔ (∀ v, j ≤ v → v < M.length → N20 (en M i v)) ∧ ∀ u, i + 1 ≤ u → u < M.length → RowM M u) → Ev (fun k => spec_l01Matrix.l1 k M (M.length : Int) i j) t := by
    intro p
    induction p with
    | zero =>
     intro j hj t ht
     refine evstep (fun k => by rw [spec_l01Matrix.l1]) (evneg (by omega) ?_)
     rw [w64 (x := (i : Int) + 1) (by omega) (by omega)]
     exact ih (i + 1) (by omega) t (ht.trans ⟨fun h => h.2, fun h => ⟨fun v h1 h2 => by omega, h⟩⟩)
    | succ p ihp =>
     intro j hj t ht
     have hs2 := head_step (P := fun v => N20 (en M i v)) (i := j) (d := M.length) (by omega)
     refine evstep (fun k => by rw [spec_l01Matrix.l1]) ?_
     rw [rdL1]
     refine evpos (by omega) (evpos (by omega) (evpos (by omega) (evpos (by omega) (evpos (by omega) (evsome (sin_eq _ _ _) ?_)))))
     rw [rd_nat, show (M.getD i []).getD j 0 = en M i j from rfl, w64 (x := (j : Int) + 1) (by omega) (by omega)]
     by_cases d : -20 ≤ en M i j ∧ en M i j ≤ 20
     ·exact evpos (decide_eq_true d) (ihp (j + 1) (by omega) t (ht.trans ⟨fun h => ⟨(hs2.1 h.1).2, h.2⟩, fun h => ⟨hs2.2 ⟨d, h.1⟩, h.2⟩⟩))
     ·rw [no_iff ht (fun h => d ((hs2.1 h.1).1))]
      exact evneg (by simpa using d) (evc rfl)
   exact cols M.length 0 (by omega) t (ht2.trans ⟨fun h => ⟨fun v h1 h2 => h.1.2 v h1 h2, h.2⟩, fun h => ⟨⟨c, fun v h1 h2 => h.1 v h1 h2⟩, h.2⟩⟩)
  ·rw [no_iff ht2 (fun h => c h.1.1)]
   exact evneg (by omega) (evc rfl)
end
theorem spec_mat (M : List (List Int)) (t : Bool) (ht : t = true ↔ MatOK M) : Ev (fun k => spec_l01Matrix.f k M) t := by
 unfold spec_l01Matrix.f
 by_cases c1 : (M.length : Int) < 1
 ·rw [no_iff ht (fun h => by have := h.n1; omega)]
  exact evpos c1 (evstep (fun k => by rw [spec_l01Matrix.j0]) (evpos rfl (evc rfl)))
 ·refine evneg c1 (evstep (fun k => by rw [spec_l01Matrix.j0]) ?_)
  by_cases c2 : (M.length : Int) > 5
  ·rw [no_iff ht (fun h => by have := h.n5; omega)]
   exact evpos (decide_eq_true c2) (evc rfl)
  ·refine evneg (by simpa using c2) ?_
   exact spec_mrows (by omega) M.length 0 (by omega) t (ht.trans ⟨fun h => h.rows, fun h => ⟨by omega, by omega, h⟩⟩)
open Classical in
theorem spec_is (M : List (List Int)) (q : List Int) (hq : q.length ≤ 1048576) (t : Bool) (ht : t = true ↔ POK M q) : Ev (fun k => spec_l01Is.f k M q) t := by
 unfold spec_l01Is.f
 refine evbind (spec_mat M (decide (MatOK M)) (by simp)) ?_
 by_cases m : MatOK M
 ·refine evpos (by simpa using m) (evstep (fun k => by rw [spec_l01Is.j0]) ?_)
  by_cases c : q.length = M.length
  ·refine evneg (by simp [c]) ?_
   have loop : ∀ p i, i + p = q.length → ∀ t : Bool, (t = true ↔ ∀ u, i ≤ u → u < q.length → N100 (q.getD u 0)) → Ev (fun k => spec_l01Is.l0 k i M q) t := by
    intro p
    induction p with
    | zero =>
     intro i hi t ht
     obtain rfl : t = true := ht.2 (fun u h1 h2 => by omega)
     exact evstep (fun k => by rw [spec_l01Is.l0]) (evneg (by omega) (evc rfl))
    | succ p ih =>
     intro i hi t ht
     have hs := head_step (P := fun u => N100 (q.getD u 0)) (i := i) (d := q.length) (by omega)
     refine evstep (fun k => by rw [spec_l01Is.l0]) (evpos (by omega) (evpos (by omega) (evsome (sin_eq _ _ _) ?_)))
     rw [rd_nat, w64 (x := (i : Int) + 1) (by omega) (by omega)]
     by_cases d : -100 ≤ q.getD i 0 ∧ q.getD i 0 ≤ 100
     ·exact evpos (decide_eq_true d) (ih (i + 1) (by omega) t (ht.trans (hs.trans ⟨fun h => h.2, fun h => ⟨d, h⟩⟩)))
     ·rw [no_iff (ht.trans hs) (fun h => d h.1)]
      exact evneg (by simpa using d) (evc rfl)
   exact loop q.length 0 (by omega) t (ht.trans ⟨fun h => h.num, fun h => ⟨m, c, h⟩⟩)
  ·rw [no_iff ht (fun h => c h.len)]
   exact evpos (by simp; omega) (evc rfl)
 ·rw [no_iff ht (fun h => m h.mat)]
  exact evneg (by simpa using m) (evstep (fun k => by rw [spec_l01Is.j0]) (evpos rfl (evc rfl)))
theorem any_false {α : Type} (p : α → Bool) (l : List α) : l.any p = false ↔ ∀ i (h : i < l.length), p l[i] = false := by
 rw [List.any_eq_false]
 constructor
 ·intro h i hi
  have := h l[i] (List.getElem_mem hi)
  simpa using this
 ·intro h x hx
  obtain ⟨i, hi, rfl⟩ := List.getElem_of_mem hx
  simp [h i hi]
theorem badU_iff (a n : Int) : badU a n = false ↔ -a ≤ n ∧ n ≤ a := by unfold badU; simp
theorem any_badU (a : Int) (l : List Int) : l.any (badU a) = false ↔ ∀ i, 0 ≤ i → i < l.length → -a ≤ l.getD i 0 ∧ l.getD i 0 ≤ a := by
 rw [any_false]
 constructor
 ·intro h i _ hi
  have := (badU_iff a _).1 (h i hi)
  simpa [hi] using this
 ·intro h i hi
  have := h i (Nat.zero_le _) hi
  exact (badU_iff a _).2 (by simpa [hi] using this)
theorem gD {M : List (List Int)} {i : Nat} (h : i < M.length) : M.getD i [] = M[i] := by simp [h]
open Classical in
theorem impl_mat (M : List (List Int)) : impl_IsMatrix.f M = some (decide (MatOK M)) := by
 unfold impl_IsMatrix.f
 congr 1
 rw [Bool.eq_iff_iff]
 simp only [Bool.and_eq_true, decide_eq_true_eq, Bool.not_eq_true']
 rw [any_false, any_false]
 constructor
 ·rintro ⟨⟨h1, h2⟩, h3⟩
  refine ⟨by omega, by omega, fun i _ hi => ?_⟩
  have r1 := h2 i hi
  have r2 := h3 i hi
  unfold badL at r1
  unfold badM at r2
  have e : M[i].length = M.length := by simp at r1; omega
  refine ⟨by rw [gD hi]; exact e, fun j _ hj => ?_⟩
  have := (any_badU 20 M[i]).1 r2 j (Nat.zero_le _) (by omega)
  rw [← gD hi] at this
  exact this
 ·intro h
  refine ⟨⟨⟨by have := h.n1; omega, by have := h.n5; omega⟩, fun i hi => ?_⟩, fun i hi => ?_⟩
  ·have := (h.rows i (Nat.zero_le _) hi).1
   rw [gD hi] at this
   unfold badL; simp [this]
  ·have := h.rows i (Nat.zero_le _) hi
   unfold badM
   refine (any_badU 20 M[i]).2 (fun j h0 hj => ?_)
   have e := this.1
   rw [gD hi] at e
   have := this.2 j h0 (by omega)
   unfold N20 en at this
   rwa [gD hi] at this
open Classical in
theorem impl_is (M : List (List Int)) (q : List Int) (t : Bool) (ht : t = true ↔ POK M q) : impl_IsProblem.f M q = some t := by
 unfold impl_IsProblem.f
 rw [impl_mat, Option.bind_some]
 by_cases m : MatOK M
 ·rw [if_pos (by simpa using m)]
  by_cases c : q.length = M.length
  ·rw [if_pos (by omega)]
   unfold impl_allUpTo.f
   rw [if_pos (by decide), Option.bind_some]
   congr 1
   rw [Bool.eq_iff_iff, ht, Bool.not_eq_true', any_badU]
   exact ⟨fun h => ⟨m, c, h⟩, fun h => h.num⟩
  ·rw [if_neg (by omega), no_iff ht (fun h => c h.len)]
 ·rw [if_neg (by simpa using m), no_iff ht (fun h => m h.mat)]
end Go.Proofs.Ythdoilfjcgickaa.Pb
end
section
namespace Go.Proofs.Ythdoilfjcgickaa.Pr
open Go.RowKit Go.Proofs.YthdoilfjcgickaaW.PrintWords Go.Proofs.YthdoilfjcgickaaW.PrintLast Go.Proofs.YthdoilfjcgickaaW.PrintMore Go.Proofs.Ythdoilfjcgickaa.Ma Go.Proofs.Ythdoilfjcgickaa.Dt Go.Proofs.Ythdoilfjcgickaa.Lk Go.Proofs.Ythdoilfjcgickaa.Lt Go.Proofs.Ythdoilfjcgickaa.Lq
def badV (n : Int) : Bool := !(decide (1 ≤ n) && decide (n ≤ 20))
def cvB (n : Int) (cv : List Int) : Bool := decide ((cv.length : Int) = n) && !(cv.any badV)
def lkCode (M : List (List Int)) (Q cv : List Int) : Int := if impl_IsProblem.f M Q = some true then (if cvB (Q.length : Int) cv = true then 0 else 2) else 1
def lkR (M : List (List Int)) (Q cv : List Int) (most : Nat) : TS × List (List Int) × Bool × Int × Int := runI Q.length (enL M) (fun i => cv.getD i 0) (fun i => Q.getD i 0) most
theorem isP_ok {M : List (List Int)} {Q : List Int} (h : impl_IsProblem.f M Q = some true) : Pb.POK M Q := by
 classical
 have := Pb.impl_is M Q (decide (Pb.POK M Q)) (by simp)
 rw [h] at this
 injection this with this
 exact of_decide_eq_true this.symm
structure PC (M : List (List Int)) (Q cv : List Int) (n : Nat) : Prop where
 lM : M.length = n
 lQ : Q.length = n
 rows : ∀ x ∈ M, x.length = n
 pos : 0 < n
 le : n ≤ 5
 lcv : cv.length = n
 Mb : ∀ i k, i < n → k < n → ((enL M) i k).natAbs ≤ 20
 cb : ∀ i, i < n → 0 < cv.getD i 0 ∧ cv.getD i 0 ≤ 20
 qb : ∀ i, i < n → (Q.getD i 0).natAbs ≤ 100
theorem pc_of {M : List (List Int)} {Q cv : List Int} (h : Pb.POK M Q) (hc : cvB (Q.length : Int) cv = true) : PC M Q cv Q.length := by
 unfold cvB at hc
 rw [Bool.and_eq_true] at hc
 obtain ⟨h1, h2⟩ := hc
 have hl : (cv.length : Int) = (Q.length : Int) := of_decide_eq_true h1
 have ha : cv.any badV = false := by simpa using h2
 have hml : M.length = Q.length := h.len.symm
 refine ⟨hml, rfl, fun x hx => ?_, by have := h.mat.n1; omega, by have := h.mat.n5; omega, by omega, fun i k hi hk => ?_, fun i hi => ?_, fun i hi => ?_⟩
 ·obtain ⟨i, hi, rfl⟩ := List.mem_iff_getElem.1 hx
  have := (h.mat.rows i (Nat.zero_le _) hi).1
  rw [List.getD_eq_getElem?_getD, List.getElem?_eq_getElem hi, Option.getD_some] at this
  omega
 ·have := (h.mat.rows i (Nat.zero_le _) (by omega)).2 k (Nat.zero_le _) (by omega)
  unfold Pb.N20 at this
  show (((M.getD i []).getD k 0)).natAbs ≤ 20
  change -20 ≤ ((M.getD i []).getD k 0) ∧ ((M.getD i []).getD k 0) ≤ 20 at this
  omega
 ·have hi' : i < cv.length := by omega
  have := (Pb.any_false badV cv).1 ha i hi'
  unfold badV at this
  rw [List.getD_eq_getElem?_getD, List.getElem?_eq_getElem hi', Option.getD_some]
  simp at this
  omega
 ·have := h.num i (Nat.zero_le _) hi
  unfold Pb.N100 at this
  omega
theorem lkCode_pc {M : List (List Int)} {Q cv : List Int} (h : lkCode M Q cv = 0) : PC M Q cv Q.length := by
 unfold lkCode at h
 by_cases h1 : impl_IsProblem.f M Q = some true
 ·rw [if_pos h1] at h
  by_cases h2 : cvB (Q.length : Int) cv = true
  ·exact pc_of (isP_ok h1) h2
  ·rw [if_neg h2] at h; cases h
 ·rw [if_neg h1] at h; cases h
end Go.Proofs.Ythdoilfjcgickaa.Pr
end
section
namespace Go.Proofs.Ythdoilfjcgickaa.Pr
open Go.RowKit Go.Proofs.YthdoilfjcgickaaW.PrintWords Go.Proofs.YthdoilfjcgickaaW.PrintLast Go.Proofs.YthdoilfjcgickaaW.PrintMore Go.Proofs.Ythdoilfjcgickaa.Ma Go.Proofs.Ythdoilfjcgickaa.Dt Go.Proofs.Ythdoilfjcgickaa.Lk Go.Proofs.Ythdoilfjcgickaa.Lt Go.Proofs.Ythdoilfjcgickaa.Lq
theorem within2_f (n a b : Int) : impl_within.f n a b = some (decide (a ≤ n ∧ n ≤ b)) := by
 unfold impl_within.f
 by_cases h : a ≤ n
 ·rw [if_pos (by omega)]; simp [h]
 ·rw [if_neg (by omega)]; simp [h]
end Go.Proofs.Ythdoilfjcgickaa.Pr
end
section
namespace Go.Proofs.Ythdoilfjcgickaa.Pr
open Go.RowKit Go.Proofs.YthdoilfjcgickaaW.PrintWords Go.Proofs.YthdoilfjcgickaaW.PrintLast Go.Proofs.YthdoilfjcgickaaW.PrintMore
attribute [local go_sem] max2_int min2_int max_two min_two max_three min_three max_four min_four
def bits_Mul64.f (a0 : Int) (a1 : Int) : Option (Int × Int) := some (IntKind.u64.wrap ((IntKind.u64.wrap ((IntKind.u64.wrap ((a0 / 4294967296) * (a1 / 4294967296))) + ((IntKind.u64.wrap ((IntKind.u64.wrap ((a0 / 4294967296) * (Go.bits .and .u64 a1 4294967295))) + ((IntKind.u64.wrap ((Go.bits .and .u64 a0 4294967295) * (Go.bits .and .u64 a1 4294967295))) / 4294967296))) / 4294967296))) + ((IntKind.u64.wrap ((Go.bits .and .u64 (IntKind.u64.wrap ((IntKind.u64.wrap ((a0 / 4294967296) * (Go.bits .and .u64 a1 4294967295))) + ((IntKind.u64.wrap ((Go.bits .and .u64 a0 4294967295) * (Go.bits .and .u64 a1 4294967295))) / 4294967296))) 4294967295) + (IntKind.u64.wrap ((Go.bits .and .u64 a0 4294967295) * (a1 / 4294967296))))) / 4294967296)), IntKind.u64.wrap (a0 * a1))
theorem bits_Mul64.calls (a0 : Int) (a1 : Int) (r1 : Int) (r2 : Int) (w : World) (h : bits_Mul64.f a0 a1 = some (r1, r2)) :
  Calls Try.prog 152 #[.int .u64 a0, .int .u64 a1] w fun e w' => e = .returned (.tuple #[.int .u64 r1, .int .u64 r2]) ∧ Drawn0 w w' := by
 have H : (some (IntKind.u64.wrap ((IntKind.u64.wrap ((IntKind.u64.wrap ((a0 / 4294967296) * (a1 / 4294967296))) + ((IntKind.u64.wrap ((IntKind.u64.wrap ((a0 / 4294967296) * (Go.bits .and .u64 a1 4294967295))) + ((IntKind.u64.wrap ((Go.bits .and .u64 a0 4294967295) * (Go.bits .and .u64 a1 4294967295))) / 4294967296))) / 4294967296))) + ((IntKind.u64.wrap ((Go.bits .and .u64 (IntKind.u64.wrap ((IntKind.u64.wrap ((a0 / 4294967296) * (Go.bits .and .u64 a1 4294967295))) + ((IntKind.u64.wrap ((Go.bits .and .u64 a0 4294967295) * (Go.bits .and .u64 a1 4294967295))) / 4294967296))) 4294967295) + (IntKind.u64.wrap ((Go.bits .and .u64 a0 4294967295) * (a1 / 4294967296))))) / 4294967296)), IntKind.u64.wrap (a0 * a1))) = some (r1, r2) := h
 clear h
 simp only [Option.some.injEq, Prod.mk.injEq] at H
 obtain ⟨rfl, rfl⟩ := H
 go_enter Try.func152, Try.ntmps152
 go_wp2
 go_ret2
 exact ⟨by first | rfl | (simp; done) | (simp [*]; done), by repeat (first | exact Drawn0.refl _ | apply Drawn0.step)⟩
def bits_Mul.f (a0 : Int) (a1 : Int) : Option (Int × Int) := (bits_Mul64.f a0 a1).bind fun bt1128 => (some (bt1128.1, bt1128.2))
theorem bits_Mul.calls (a0 : Int) (a1 : Int) (r1 : Int) (r2 : Int) (w : World) (h : bits_Mul.f a0 a1 = some (r1, r2)) :
  Calls Try.prog 122 #[.int .u64 a0, .int .u64 a1] w fun e w' => e = .returned (.tuple #[.int .u64 r1, .int .u64 r2]) ∧ Drawn0 w w' := by
 have H : ((bits_Mul64.f a0 a1).bind fun bt1128 => (some (bt1128.1, bt1128.2))) = some (r1, r2) := h
 clear h
 replace H := Option.bind_eq_some_iff.mp H
 obtain ⟨⟨t1128, t1129⟩, A30, H⟩ := H
 replace H : (some (t1128, t1129)) = some (r1, r2) := H
 have A3 := Aside0.mk A30
 clear A30
 simp only [Option.some.injEq, Prod.mk.injEq] at H
 obtain ⟨rfl, rfl⟩ := H
 go_enter Try.func122, Try.ntmps122
 go_wp2_with (first | ((with_reducible refine gate_callee (f := 152) rfl ?_); refine goesL_ (some 25) rfl rfl Try.func152 (by kernel_rfl) rfl #[.int .u64 a0, .int .u64 a1] rfl (by (try simp only [List.map_toArray, List.map_cons, List.map_nil]); first | done | rfl | (simp only [List.length_drop, List.length_take]; rfl)) ?_; (with_reducible refine (bits_Mul64.calls a0 a1 t1128 t1129 _ A3.out).mono ?_); rintro e w' ⟨rfl, ⟨nd, rfl⟩⟩; refine ⟨_, rfl, ?_⟩))
 go_ret2
 exact ⟨by first | rfl | (simp; done) | (simp [*]; done), by repeat (first | exact Drawn0.refl _ | apply Drawn0.step)⟩
end Go.Proofs.Ythdoilfjcgickaa.Pr
end
section
namespace Go.Proofs.Ythdoilfjcgickaa.Pr
open Go.RowKit Go.Proofs.YthdoilfjcgickaaW.PrintWords Go.Proofs.YthdoilfjcgickaaW.PrintLast Go.Proofs.YthdoilfjcgickaaW.PrintMore
theorem mul_one (n : Int) (h0 : 0 ≤ n) (h1 : n ≤ 1048576) : bits_Mul.f 1 n = some (0, n) := by
 have e1 : Go.bits .and .u64 n 4294967295 = n := by
  obtain ⟨m, rfl⟩ := Int.eq_ofNat_of_zero_le h0
  have : m ≤ 1048576 := by omega
  show IntKind.u64.wrap ((BitVec.ofInt 64 (m : Int) &&& BitVec.ofInt 64 4294967295).toNat : Int) = (m : Int)
  rw [show (BitVec.ofInt 64 (m : Int) &&& BitVec.ofInt 64 4294967295) = BitVec.ofNat 64 m from ?_]
  ·rw [BitVec.toNat_ofNat, Nat.mod_eq_of_lt (by omega : m < 2 ^ 64)]
   exact Ma.u64w h0 (by omega)
  ·apply BitVec.eq_of_toNat_eq
   simp only [BitVec.toNat_and, BitVec.ofInt_natCast, BitVec.toNat_ofNat]
   rw [Nat.mod_eq_of_lt (by omega : m < 2 ^ 64), show (BitVec.ofInt 64 4294967295).toNat = 2 ^ 32 - 1 from rfl, Nat.and_two_pow_sub_one_eq_mod, Nat.mod_eq_of_lt (by omega)]
 have e2 : Go.bits .and .u64 1 4294967295 = 1 := by decide
 have e3 : Go.bits .and .u64 0 4294967295 = 0 := by decide
 have d0 : n / 4294967296 = 0 := by omega
 have d1 : (1 : Int) / 4294967296 = 0 := by decide
 have w0 : IntKind.u64.wrap 0 = 0 := by decide
 have wn : IntKind.u64.wrap n = n := Ma.u64w h0 (by omega)
 unfold bits_Mul.f bits_Mul64.f
 simp only [e1, e2, d0, d1, Int.mul_zero, Int.zero_mul, Int.one_mul, w0, wn, Int.zero_add, Int.add_zero, Int.mul_one, e3, Option.bind_some]
 simp [w0]
def slices_Repeat.f (l0 : List Int) (a1 : Int) : Option (List Int) := if l0.length = 1 ∧ 0 ≤ a1 ∧ a1 ≤ 1048576 then some (List.replicate a1.toNat (rd l0 0)) else none
theorem take_more {α : Type} (v : α) (cur : List α) (k m : Nat) (h : cur.take k = List.replicate k v) (hk : k ≤ cur.length) (hm : m ≤ k) : (splice cur k (List.replicate m v)).take (k + m) = List.replicate (k + m) v := by
 unfold splice
 rw [h, ← List.append_assoc, List.replicate_append_replicate, List.take_append_of_le_length (by simp), List.take_of_length_le (by simp)]
theorem row_own {v : Int} {w : World} {base g n cap : Nat} {cur : List Value} (hb : base ≤ g) (hg : w.heap[g]? = some (.cells cur.toArray 2 (0, 0))) (hn : n ≤ cap) (hc : cap ≤ maxLen) (hl : cur.length = cap) (ht : cur.take n = List.replicate n (.int .i64 v)) :
  Kd.R (Kd.int .i64) 2 w base (fun _ => True) (.slice (some ⟨g, 0, none⟩) n cap) (List.replicate n v) :=
 Kd.R_of_own ⟨by simp [encs], .inr ⟨g, cap, cur.toArray, by simp, hb, hg, by simpa using hn, hc, by simpa using hl, by simp [encs, ht]⟩⟩ (fun _ _ => trivial)
theorem cells_same {w : World} {g k m e : Nat} {cur : List Value} {v : Value} (hg : w.heap[g]? = some (.cells cur.toArray e (0, 0))) (hk : k ≤ cur.length) (ht : cur.take k = List.replicate k v) (hm : m ≤ k) (j : Nat) (u : Value) (hj : (List.replicate m v)[j]? = some u) : w.cell? ((⟨g, 0, none⟩ : Addr).add j) = some u := by
 obtain ⟨hjm, e⟩ := List.getElem?_eq_some_iff.1 hj
 rw [List.length_replicate] at hjm
 rw [List.getElem_replicate] at e
 subst e
 have h1 : (cur.take k)[j]? = some v := by rw [ht, List.getElem?_replicate, if_pos (by omega)]
 rw [List.getElem?_take, if_pos (by omega)] at h1
 have ha : ((⟨g, 0, none⟩ : Addr).add j) = ⟨g, j, none⟩ := by unfold Addr.add; split <;> simp_all
 rw [ha]
 simp [World.cell?, hg, h1]
theorem min_one {n : Nat} (h : 0 < n) : 1 = Nat.min 1 n := (Nat.min_eq_left (by omega : 1 ≤ n)).symm
theorem cell_one {w : World} {ad : Addr} {v : Value} (j : Nat) (u : Value) (hj : [v][j]? = some u) (h : w.cell? (ad.add (Int.toNat 0)) = some v) : w.cell? (ad.add j) = some u := by
 cases j with
 | zero => simp at hj; subst hj; exact h
 | succ j => simp at hj
theorem made_row {w : World} {base n : Nat} {v : Value} (h : Kd.R (Kd.int .i64) 2 w base (fun _ => True) v (List.replicate n 0)) :
  ∃ A c, v = .slice A n c ∧ n ≤ c ∧ (0 < n → ∃ g cur, A = some ⟨g, 0, none⟩ ∧ base ≤ g ∧ w.heap[g]? = some (.cells (List.toArray cur) 2 (0, 0)) ∧ c ≤ maxLen ∧ cur.length = c) := by
 have ho := Kd.own_of_R h
 rw [List.length_replicate] at ho
 rcases ho.2 with ⟨rfl, rfl⟩ | ⟨g, cap, cur, rfl, hb, hg, h1, h2, h3, h4⟩
 ·exact ⟨none, 0, rfl, Nat.le_refl _, fun h => absurd h (by omega)⟩
 ·exact ⟨_, cap, rfl, h1, fun _ => ⟨g, cur.toList, rfl, hb, by simpa using hg, h2, by simpa using h3⟩⟩
theorem slices_Repeat.calls (A0 : Option Addr) (c0 : Nat) (l0 : List Int) (a1 : Int) (r : List Int) (w : World) (hr0 : Kd.C (Kd.int .i64) w A0 l0.length l0) (hc0 : l0.length ≤ c0) (h : slices_Repeat.f l0 a1 = some r) :
  Calls Try.prog 93 #[.slice A0 l0.length c0, .int .i64 a1] w fun e w' => ∃ v0_ : Value, e = .returned (v0_) ∧ Kd.R (Kd.int .i64) 2 w' w.heap.size (fun _ => True) v0_ r ∧ Below w.heap.size w w' := by
 unfold slices_Repeat.f at h
 split at h
 case isFalse => cases h
 rename_i hh
 obtain ⟨h1, h2, h3⟩ := hh
 obtain ⟨n, rfl⟩ := Int.eq_ofNat_of_zero_le h2
 injection h with h
 rw [Int.toNat_natCast] at h
 obtain ⟨ad, rfl, hx⟩ := Kd.at_int hr0 0 (by omega) (by omega)
 rw [h1]
 have HM := Aside0.mk (mul_one n h2 h3)
 have HX := Aside0.mk hx
 clear hx hr0 hc0
 generalize rd l0 0 = v at h HX
 subst h
 have HN := Aside0.mk h3
 have wu : IntKind.u64.wrap (n : Int) = n := Ma.u64w h2 (by omega)
 have w2 : IntKind.i64.wrap (n : Int) = n := IntWalk.i64_in _ (by omega)
 have hgt : ¬ (9223372036854775807 : Int) < n := by omega
 clear h1 h3
 by_cases hn : n = 0
 ·subst hn
  clear wu w2 hgt h2
  go_enter Try.func93, Try.ntmps93
  go_wp2_with fail
  refine (bits_Mul.calls 1 0 _ _ _ HM.out).mono ?_
  rintro e w1 ⟨rfl, hb1⟩
  have HB := Aside0.mk hb1
  clear hb1
  go_wp2_with (first | ((with_reducible refine gate_dst (N := 30) rfl ?_); refine Kd.R_make (Kd.int .i64) _ 2 rfl (N := 30) rfl 23 _ _ rfl (0 : Int) rfl rfl Try.underlying23 (.int .i64 0) 8 info2 rfl (by decide) (by omega) 0 (ok := fun _ => True) (okp := fun _ => True) rfl (fun _ hk => hk) trivial (by omega) (by have := HN.out; omega) (Below.refl _ _) (Nat.le_refl _) ?_; intro v104 w4 ho5 hb hg_ hnew_; clear hg_ hnew_; obtain ⟨A4, c4, rfl, hc4, hrow⟩ := made_row (n := 0) ho5; have HO := Aside0.mk ho5; have HB4 := Aside0.mk hb; clear ho5 hb hrow hc4) | ((with_reducible refine gate_dst (N := 33) rfl ?_); refine wpList_copy_nothing rfl (.tmp 31) (.tmp 32) 23 23 rfl 2 Try.underlying23 rfl _ _ _ _ _ _ (by rfl) (by rfl) (by simp) ?_))
  go_loopg [8] 0 (fun kq v8 w' => v8 = .int .i64 0 ∧ w' = w4)
  case atStart => exact ⟨rfl, rfl⟩
  case round =>
   obtain ⟨rfl, rfl⟩ := hrel
   go_wp2
   go_ret
   exact ⟨_, rfl, Kd.R_lower HO.out HB.out.below.size, HB.out.below.trans (HB4.out.mono HB.out.below.size)⟩
 ·have hpos : 0 < n := by omega
  go_enter Try.func93, Try.ntmps93
  go_wp2_with fail
  refine (bits_Mul.calls 1 n _ _ _ HM.out).mono ?_
  rintro e w1 ⟨rfl, hb1⟩
  have HB := Aside0.mk hb1
  clear hb1
  go_wp2_with (first | ((with_reducible refine gate_dst (N := 30) rfl ?_); refine Kd.R_make (Kd.int .i64) _ 2 rfl (N := 30) rfl 23 _ _ rfl (n : Int) rfl rfl Try.underlying23 (.int .i64 0) 8 info2 rfl (by decide) (by omega) 0 (ok := fun _ => True) (okp := fun _ => True) rfl (fun _ hk => hk) trivial (by omega) (by have := HN.out; omega) (Below.refl _ _) (Nat.le_refl _) ?_; intro v104 w4 ho5 hb hg_ hnew_; clear hg_ hnew_; rw [Int.toNat_natCast] at ho5; obtain ⟨A4, c4, rfl, hc4, hrow⟩ := made_row ho5; obtain ⟨g, cur, rfl, hg1, hg2, hcm, hcl⟩ := hrow (by omega); have HB4 := Aside0.mk hb; have HG2 := Aside0.mk hg2; have HG1 := Aside0.mk hg1; have HCM := Aside0.mk hcm; have HCL := Aside0.mk hcl; have HC4 := Aside0.mk hc4; clear ho5 hb hrow hg1 hg2 hcm hcl hc4) | ((with_reducible refine gate_dst (N := 33) rfl ?_); go_loud (refine wpList_copy_splice rfl (.tmp 31) (.tmp 32) 23 23 rfl 2 Try.underlying23 rfl _ _ _ _ _ _ (by rfl) (by rfl) g 0 cur 2 HG2.out [.int .i64 v] (min_one hpos) (fun _ => ⟨by rfl, ad, by rfl, fun j u hj => cell_one j u hj ((HB.out.below.trans (HB4.out.mono HB.out.below.size)).cell (World.block_lt_of_cell? w _ HX.out) |>.trans HX.out)⟩) (by have := HCL.out; have := HC4.out; simp; omega) (by simp [Value.oneCell']) w.heap.size w (HB.out.below.trans (HB4.out.mono HB.out.below.size)) (by have := HB.out.below.size; have := HG1.out; omega) ?_; intro w5 HG5 HB6; obtain ⟨cur5, hcur5⟩ : ∃ c, c = splice cur 0 [Value.int .i64 v] := ⟨_, rfl⟩; have hl5 : cur5.length = c4 := (by rw [hcur5, length_splice _ _ _ (by have := HCL.out; have := HC4.out; simp; omega), HCL.out]); have ht5 : cur5.take 1 = List.replicate 1 (Value.int .i64 v) := (by rw [hcur5]; simp [splice]); have HG6 : Aside0 (w5.heap[g]? = some (.cells cur5.toArray 2 (0, 0))) := (by rw [hcur5]; exact ⟨HG5⟩); have HL := Aside0.mk hl5; have HT := Aside0.mk ht5; have HB7 := Aside0.mk HB6; clear HG5 hcur5 hl5 ht5 HB6 HG2)))
  have HG0 := Aside0.mk (show w.heap.size ≤ g by have := HB.out.below.size; have := HG1.out; omega)
  clear HG1 HB4 HX HB
  go_loopg [8] n (fun kq v8 w' => ∃ (x8 : Nat) (cur8 : List Value), v8 = .int .i64 (x8 : Int) ∧ Aside0 (1 ≤ x8) ∧ Aside0 (x8 ≤ n) ∧ Aside0 (n - x8 ≤ kq) ∧ Aside0 (cur8.length = c4) ∧ Aside0 (cur8.take x8 = List.replicate x8 (.int .i64 v)) ∧ Aside0 (w'.heap[g]? = some (.cells cur8.toArray 2 (0, 0))) ∧ Aside0 (Below w.heap.size w w'))
  case atStart => exact ⟨1, cur5, rfl, ⟨Nat.le_refl _⟩, ⟨by omega⟩, ⟨by omega⟩, HL, HT, HG6, HB7⟩
  case round =>
   obtain ⟨x8, cur8, rfl, X1, X2, X3, XL, XT, XG, XB⟩ := hrel
   by_cases hlt : x8 < n
   ·have k1 : (x8 : Int) < (n : Int) := by omega
    have k2 : (0 : Int) ≤ (x8 : Int) := by omega
    have k3 : (x8 : Int) ≤ (n : Int) := by omega
    have k4 : x8 ≤ n := by omega
    have k5 : x8 ≤ c4 := by have := HC4.out; omega
    have k6 : (x8 : Int) ≤ (c4 : Int) := by omega
    have k7 : ¬ c4 = x8 := by have := HC4.out; omega
    have k8 : ¬ x8 = 0 := by have := X1.out; omega
    have k9 : IntKind.i64.wrap ((x8 : Int) + (Nat.min x8 (n - x8) : Nat)) = ((x8 + Nat.min x8 (n - x8) : Nat) : Int) := by
     have : Nat.min x8 (n - x8) ≤ n := Nat.le_trans (Nat.min_le_right _ _) (by omega)
     rw [IntWalk.i64_in _ (by have := HN.out; omega)]; omega
    go_wp2
    have XB1 : Below w.heap.size w wr.drew := XB.out.drew
    have XG1 : Aside0 (wr.drew.heap[g]? = some (.cells cur8.toArray 2 (0, 0))) := XG
    obtain ⟨cs, hcs⟩ : ∃ c, c = List.replicate (Nat.min x8 (n - x8)) (Value.int .i64 v) := ⟨_, rfl⟩
    have XS := Aside0.mk hcs
    clear hcs
    have XC : Aside0 (∀ j u, cs[j]? = some u → wr.drew.cell? ((⟨g, 0, none⟩ : Addr).add j) = some u) := ⟨fun j u hj => cells_same XG1.out (by rw [XL.out]; omega) XT.out (Nat.min_le_left _ _) j u (by rw [XS.out] at hj; exact hj)⟩
    have XF : Aside0 (x8 + cs.length ≤ cur8.length) := ⟨by rw [XS.out, XL.out, List.length_replicate]; have := HC4.out; have : Nat.min x8 (n - x8) ≤ n - x8 := Nat.min_le_right _ _; omega⟩
    have XO : Aside0 (∀ u ∈ cs, u.oneCell' = true) := ⟨fun u hu => by rw [XS.out] at hu; rw [List.eq_of_mem_replicate hu]; rfl⟩
    have XN : Aside0 (cs.length = Nat.min x8 (n - x8)) := ⟨by rw [XS.out]; simp⟩
    have XM : Aside0 (0 < Nat.min x8 (n - x8)) := ⟨by have := X1.out; exact Nat.lt_min.2 ⟨by omega, by omega⟩⟩
    have XM2 : Aside0 (Nat.min x8 (n - x8) ≤ n - x8) := ⟨Nat.min_le_right _ _⟩
    go_region_law (refine step_copy_splice rfl (.tmp 41) (.tmp 44) 23 23 rfl 2 Try.underlying23 rfl (some ⟨g, x8, none⟩) (some ⟨g, 0, none⟩) (n - x8) (c4 - x8) x8 c4 (by simp [Act.eval, Act.put]) (by simp [Act.eval, Act.put]) g x8 cur8 2 XG1.out cs XN.out (fun _ => ⟨rfl, ⟨g, 0, none⟩, rfl, XC.out⟩) XF.out XO.out w.heap.size w XB1 HG0.out ?_; intro w6 hg6 hb6; rw [XN.out])
    go_wp2
    go_roundg (n - (x8 + Nat.min x8 (n - x8)))
    case measure => have := XM.out; have := X3.out; omega
    case rel => exact ⟨x8 + Nat.min x8 (n - x8), splice cur8 x8 cs, by first | rfl | simp [k9], ⟨by have := X1.out; omega⟩, ⟨by have := XM2.out; omega⟩, ⟨Nat.le_refl _⟩, ⟨by rw [length_splice _ _ _ XF.out, XL.out]⟩, ⟨by rw [XS.out]; exact take_more _ _ _ _ XT.out (by rw [XL.out]; omega) (Nat.min_le_left _ _)⟩, ⟨hg6⟩, ⟨hb6⟩⟩
   ·obtain rfl : x8 = n := by have := X2.out; omega
    go_wp2
    go_ret
    exact ⟨_, rfl, row_own HG0.out XG.out HC4.out HCM.out XL.out XT.out, XB.out⟩
end Go.Proofs.Ythdoilfjcgickaa.Pr
end
section
namespace Go.Proofs.Ythdoilfjcgickaa.Pr
open Go.RowKit Go.Proofs.YthdoilfjcgickaaW.PrintWords Go.Proofs.YthdoilfjcgickaaW.PrintLast Go.Proofs.YthdoilfjcgickaaW.PrintMore Go.Proofs.Ythdoilfjcgickaa.Ma Go.Proofs.Ythdoilfjcgickaa.Dt Go.Proofs.Ythdoilfjcgickaa.Lk Go.Proofs.Ythdoilfjcgickaa.Lt Go.Proofs.Ythdoilfjcgickaa.Lq
def carr (most : Int) : Nat → List Int → List Int × Bool
 | 0, c => (c, false)
 | i + 1, c => if c.getD i 0 = most then carr most i (c.set i 1) else (c.set i (c.getD i 0 + 1), true)
theorem carr_succ (most : Int) (i : Nat) (c : List Int) : carr most (i + 1) c = if c.getD i 0 = most then carr most i (c.set i 1) else (c.set i (c.getD i 0 + 1), true) := rfl
def cntI (M : List (List Int)) (Q : List Int) (most : Int) : Nat → List Int → Int → Int → Option (Int × Int × Int)
  | 0, _, _, _ => none
  | k + 1, c, so, ra =>
    if (lkR M Q c 201).2.2.2.2 = 0 then
      (if (carr most Q.length c).2 = true then cntI M Q most k (carr most Q.length c).1 (if (lkR M Q c 201).2.2.1 = true then wrap64 (so + 1) else so) (if (lkR M Q c 201).2.2.1 = true then ra else wrap64 (ra + 1))
       else some (if (lkR M Q c 201).2.2.1 = true then wrap64 (so + 1) else so, if (lkR M Q c 201).2.2.1 = true then ra else wrap64 (ra + 1), 0))
    else some (0, 0, (lkR M Q c 201).2.2.2.2)
theorem cntI_mono (M : List (List Int)) (Q : List Int) (most : Int) : ∀ k c so ra, LeO (cntI M Q most k c so ra) (cntI M Q most (k + 1) c so ra)
 | 0, _, _, _ => fun r h => by cases h
 | k + 1, c, so, ra => by
  rw [cntI]
  conv => arg 2; rw [cntI]
  exact LeO.ite (LeO.ite (cntI_mono M Q most k _ _ _) (LeO.refl _)) (LeO.refl _)
def impl_CountLemke.f (k : Nat) (l0_0 : List (List Int)) (l0_1 : List Int) (a1 : Int) : Option (Int × Int × Int) := if impl_IsProblem.f l0_0 l0_1 = some true then (if (1 ≤ a1 ∧ a1 ≤ 3) ∧ l0_1.length ≤ 4 then cntI l0_0 l0_1 a1 k (List.replicate l0_1.length 1) 0 0 else some (0, 0, 2)) else some (0, 0, 1)
structure Cov (n : Nat) (most : Int) (c : List Int) : Prop where
 len : c.length = n
 num : ∀ x ∈ c, 1 ≤ x ∧ x ≤ most
theorem Cov.set {n : Nat} {most : Int} {c : List Int} (h : Cov n most c) {i : Nat} {x : Int} (hx : 1 ≤ x ∧ x ≤ most) : Cov n most (c.set i x) :=
 ⟨by rw [List.length_set]; exact h.len, fun y hy => by
  rcases List.mem_or_eq_of_mem_set hy with h1 | h1
  ·exact h.num y h1
  ·rw [h1]; exact hx⟩
theorem Cov.get {n : Nat} {most : Int} {c : List Int} (h : Cov n most c) {i : Nat} (hi : i < n) : 1 ≤ c.getD i 0 ∧ c.getD i 0 ≤ most := by
 have hl := h.len
 rw [List.getD_eq_getElem?_getD, List.getElem?_eq_getElem (by omega)]
 exact h.num _ (List.getElem_mem _)
theorem Cov.cvB {n : Nat} {most : Int} {c : List Int} (h : Cov n most c) (hm : most ≤ 20) : cvB (n : Int) c = true := by
 unfold Pr.cvB
 rw [Bool.and_eq_true]
 refine ⟨decide_eq_true (by rw [h.len]), ?_⟩
 rw [Bool.not_eq_true', (Pb.any_false badV c)]
 intro i hi
 have := h.num _ (List.getElem_mem hi)
 unfold badV
 rw [decide_eq_true this.1, decide_eq_true (show c[i] ≤ 20 by omega)]; rfl
theorem impl_CountLemke.mono : ∀ a0 a1 a2 k, LeO (impl_CountLemke.f k a0 a1 a2) (impl_CountLemke.f (k + 1) a0 a1 a2) := by
 intro a0 a1 a2 k
 unfold impl_CountLemke.f
 exact LeO.ite (LeO.ite (cntI_mono _ _ _ _ _ _ _) (LeO.refl _)) (LeO.refl _)
theorem impl_CountLemke.calls (k : Nat) (A0_0 : Option Addr) (c0_0 : Nat) (l0_0 : List (List Int)) (A0_1 : Option Addr) (c0_1 : Nat) (l0_1 : List Int) (a1 : Int) (r1 : Int) (r2 : Int) (r3 : Int) (w : World) (hr0_0 : Kd.C (Kd.slice 2 (Kd.int .i64)) w A0_0 l0_0.length l0_0) (hc0_0 : l0_0.length ≤ c0_0) (hr0_1 : Kd.C (Kd.int .i64) w A0_1 l0_1.length l0_1) (hc0_1 : l0_1.length ≤ c0_1) (h : impl_CountLemke.f k l0_0 l0_1 a1 = some (r1, r2, r3)) :
    Calls Try.prog 49 #[.agg #[.slice A0_0 l0_0.length c0_0, .slice A0_1 l0_1.length c0_1], .int .i64 a1] w fun e w' => e = .returned (.tuple #[.int .i64 r1, .int .i64 r2, .int .i64 r3]) ∧ Below w.heap.size w w' := by
  have HB := Aside0.mk (Below.refl w.heap.size w)
  obtain ⟨b, hb⟩ : ∃ b, impl_IsProblem.f l0_0 l0_1 = some b := by
    classical
    exact ⟨_, Pb.impl_is l0_0 l0_1 (decide (Pb.POK l0_0 l0_1)) (by simp)⟩
  have hip := fun W (hw : Below w.heap.size w W) => impl_IsProblem.calls A0_0 c0_0 l0_0 A0_1 c0_1 l0_1 b W (Kd.C_below hr0_0 hw) hc0_0 (Kd.C_below hr0_1 hw) hc0_1 hb
  have HIP := Aside0.mk hip
  have hrun : b = true → ∀ (A2 : Option Addr) (c2 : Nat) (cv : List Int), Cov l0_1.length a1 cv → a1 ≤ 20 → ∀ W, Below w.heap.size w W → Kd.C (Kd.int .i64) W A2 cv.length cv → cv.length ≤ c2 → _ := fun hbt A2 c2 cv hcv h20 W hw hC2 hc2 =>
    run_calls A0_0 c0_0 l0_0 A0_1 c0_1 l0_1 A2 c2 cv 201 W l0_1.length (Kd.C_below hr0_0 hw) (Kd.C_below hr0_1 hw) hC2 hc0_0 hc0_1 hc2 (pc_of (isP_ok (hb.trans (by rw [hbt]))) (hcv.cvB h20)).lM rfl (pc_of (isP_ok (hb.trans (by rw [hbt]))) (hcv.cvB h20)).rows (pc_of (isP_ok (hb.trans (by rw [hbt]))) (hcv.cvB h20)).pos (pc_of (isP_ok (hb.trans (by rw [hbt]))) (hcv.cvB h20)).le (pc_of (isP_ok (hb.trans (by rw [hbt]))) (hcv.cvB h20)).lcv (pc_of (isP_ok (hb.trans (by rw [hbt]))) (hcv.cvB h20)).Mb (pc_of (isP_ok (hb.trans (by rw [hbt]))) (hcv.cvB h20)).cb (pc_of (isP_ok (hb.trans (by rw [hbt]))) (hcv.cvB h20)).qb (lkR l0_0 l0_1 cv 201) (by unfold lkR; rfl)
  have HRUN := Aside0.mk hrun
  unfold impl_CountLemke.f at h
  rw [hb] at h
  have hpos : b = true → 0 < l0_1.length := fun hbt => by
    have := (isP_ok (hb.trans (by rw [hbt]))).mat.n1
    have := (isP_ok (hb.trans (by rw [hbt]))).len
    omega
  have HPOS := Aside0.mk hpos
  clear hip hrun hr0_0 hc0_0 hr0_1 hc0_1 hb hpos
  obtain ⟨F, hF⟩ : ∃ F : List Int → TS × List (List Int) × Bool × Int × Int, F = fun c => lkR l0_0 l0_1 c 201 := ⟨_, rfl⟩
  have HF := Aside0.mk hF
  clear hF
  obtain ⟨G, hG⟩ : ∃ G : Nat → List Int → Int → Int → Option (Int × Int × Int), G = cntI l0_0 l0_1 a1 := ⟨_, rfl⟩
  have hgs : ∀ k c so ra, G (k + 1) c so ra = if (F c).2.2.2.2 = 0 then
      (if (carr a1 l0_1.length c).2 = true then G k (carr a1 l0_1.length c).1 (if (F c).2.2.1 = true then wrap64 (so + 1) else so) (if (F c).2.2.1 = true then ra else wrap64 (ra + 1))
       else some (if (F c).2.2.1 = true then wrap64 (so + 1) else so, if (F c).2.2.1 = true then ra else wrap64 (ra + 1), 0))
    else some (0, 0, (F c).2.2.2.2) := fun k c so ra => by rw [hG, HF.out]; rfl
  have hg0 : ∀ c so ra, G 0 c so ra = none := fun c so ra => by rw [hG]; rfl
  have HGS := Aside0.mk hgs
  have HG0 := Aside0.mk hg0
  rw [← hG] at h
  clear hG hgs hg0
  have hrun2 : b = true → ∀ (A2 : Option Addr) (c2 : Nat) (cv : List Int), Cov l0_1.length a1 cv → a1 ≤ 20 → ∀ W, Below w.heap.size w W → Kd.C (Kd.int .i64) W A2 cv.length cv → cv.length ≤ c2 → Calls Try.prog 94 #[.agg #[.slice A0_0 l0_0.length c0_0, .slice A0_1 l0_1.length c0_1], .slice A2 cv.length c2, .int .i64 201] W fun e w' => ∃ p, e = .returned (.pointer (some ⟨p, 0, none⟩)) ∧ PlE W w' p l0_1.length (2 * l0_1.length + 2) (F cv).1 (F cv).2.1 (F cv).2.2.1 (F cv).2.2.2.1 (F cv).2.2.2.2 ∧ Below W.heap.size W w' := fun hbt A2 c2 cv hcv h20 W hw hC2 hc2 => by
    have h := HRUN.out hbt A2 c2 cv hcv h20 W hw hC2 hc2
    rw [HF.out]
    exact h
  have HR2 := Aside0.mk hrun2
  clear hrun2 HRUN HF
  generalize l0_0.length = m0 at HIP HR2 ⊢
  obtain ⟨n, hn⟩ : ∃ n, l0_1.length = n := ⟨_, rfl⟩
  rw [hn] at HIP HR2 HGS HPOS h ⊢
  clear hn
  have H := Aside0.mk h
  clear h
  go_enter Try.func49, Try.ntmps49
  go_wp2_with (first | ((with_reducible refine gate_dst (N := 2) rfl ?_); refine box_event ?hg (N := 2) ?hd (cs := #[.slice A0_0 m0 c0_0, .slice A0_1 n c0_1]) (t := 29) ?hr ?_; (case hd => rfl); (case hg => rfl); (case hr => first | (go_simp; done) | (go_simp; rfl)); intro g2 hg w2 hbox hb; replace HB := Aside0.mk (below_step HB.out hb); have B2 := Aside0.mk hbox; have hz0 := cz_ B2 0; have hz1 := cz_ B2 1; clear hb hbox hg))
  refine (HIP.out w2 HB.out).mono ?_
  rintro e w3 ⟨rfl, hb⟩
  replace HB := Aside0.mk (below_step HB.out hb)
  replace B2 := Aside0.mk (blk_below B2.out hb)
  clear hb hz0 hz1 HIP
  cases b with
  | false =>
    have e := H.out
    rw [if_neg (by simp)] at e
    injection e with e
    injection e with e1 e
    injection e with e2 e3
    subst e1 e2 e3
    clear H HR2
    go_wp2
    go_ret3
    exact ⟨rfl, HB.out⟩
  | true =>
    have e := H.out
    rw [if_pos rfl] at e
    have H2 := Aside0.mk e
    clear H e
    obtain ⟨z, hz⟩ : ∃ z, decide (1 ≤ a1 ∧ a1 ≤ 3) = z := ⟨_, rfl⟩
    have HW := Aside0.mk ((within2_f a1 1 3).trans (by rw [hz]))
    have HZ := Aside0.mk hz
    have HP0 := Aside0.mk (HPOS.out rfl)
    clear hz HPOS
    go_wp2_with fail
    refine (impl_within.calls a1 1 3 z _ HW.out).mono ?_
    rintro e w4 ⟨rfl, ⟨nd, rfl⟩⟩
    replace HB := Aside0.mk (below_step HB.out (pw_below_drewN (Below.refl w3.heap.size w3) nd))
    replace B2 := Aside0.mk (blk_below B2.out (pw_below_drewN (Below.refl w3.heap.size w3) nd))
    clear HW
    generalize w3.drewN nd = w4 at HB B2 ⊢
    have hz1 := cz_ B2 1
    cases z with
    | false =>
      have e := H2.out
      rw [if_neg (fun q => of_decide_eq_false HZ.out q.1)] at e
      injection e with e
      injection e with e1 e
      injection e with e2 e3
      subst e1 e2 e3
      clear H2 HR2
      go_wp2
      go_ret3
      exact ⟨rfl, HB.out⟩
    | true =>
      have hk := of_decide_eq_true HZ.out
      by_cases h4 : n ≤ 4
      · have h4z : decide (4 < (n : Int)) = false := decide_eq_false (by omega)
        have h4y : ¬ (4 : Int) < (n : Int) := by omega
        have e := H2.out
        rw [if_pos ⟨hk, h4⟩] at e
        have H3 := Aside0.mk e
        have HN := Aside0.mk h4
        have HK := Aside0.mk hk
        clear H2 e h4 hk HZ
        go_wp2_with (first | ((with_reducible refine gate_dst (N := 26) rfl ?_); refine Kd.R_lit (Kd.int .i64) (w0 := w4) w4.heap.size 2 ?hg (N := 26) ?hd (xs := [(1 : Int)]) (inner := [.int .i64 1]) (ok := fun _ => True) (okp := fun _ => True) ?hr ?hp (fun _ hk => hk) trivial (Below.refl _ _) (Nat.le_refl _) (by simp) ?_; (case hd => rfl); (case hg => rfl); (case hr => first | (go_simp; done) | (go_simp; rfl)); (case hp => exact Reps.one rfl (Reps.none _ _)); intro v26 w5 hr hb hg_ hat_; clear hg_ hat_; have HR26 := Aside0.mk hr; replace HB := Aside0.mk (below_step HB.out hb); replace B2 := Aside0.mk (blk_below B2.out hb); clear hr hb hz1; obtain ⟨A26, c26, e26⟩ := Kd.R_slice HR26.out; subst e26; have hz1 := cz_ B2 1))
        have HRD := (Kd.R_reads' HR26.out)
        refine (slices_Repeat.calls A26 c26 [1] (n : Int) (List.replicate n 1) w5 HRD.2.2 HRD.2.1 (by unfold slices_Repeat.f; rw [if_pos ⟨rfl, by omega, by have := HN.out; omega⟩, Int.toNat_natCast]; rfl)).mono ?_
        clear HRD
        rintro e w6 ⟨v9, rfl, hR9, hb⟩
        have HR9 := Aside0.mk (Kd.R_lower hR9 HB.out.size)
        replace HB := Aside0.mk (below_step HB.out hb)
        replace B2 := Aside0.mk (blk_below B2.out hb)
        have HCV : Aside0 (Cov n a1 (List.replicate n 1)) := ⟨⟨List.length_replicate, fun x hx => by rw [(List.mem_replicate.1 hx).2]; exact ⟨Int.le_refl _, HK.out.1⟩⟩⟩
        obtain ⟨g9, c9, e9, _, _, _⟩ := Kd.R_form hR9 (by rw [List.length_replicate]; exact HP0.out)
        rw [List.length_replicate] at e9
        subst e9
        clear hR9 hb hz1 HR26
        go_wp2
        go_loopg [7, 8] k (fun gg v7 v8 wr => ∃ (c : List Int) (so ra : Int), v7 = .int .i64 so ∧ v8 = .int .i64 ra ∧ Aside0 (G gg c so ra = some (r1, r2, r3)) ∧ Aside0 (Cov n a1 c) ∧ Aside0 (Kd.R (Kd.int .i64) 2 wr w.heap.size (fun _ => True) (.slice (some ⟨g9, 0, none⟩) n c9) c) ∧ Aside0 (Below w.heap.size w wr) ∧ Aside0 (wr.heap[g2]? = some (.cells #[.slice A0_0 m0 c0_0, .slice A0_1 n c0_1] 29 (0, 0))))
        case atStart => exact ⟨List.replicate n 1, 0, 0, rfl, rfl, H3, HCV, HR9, HB, B2⟩
        case round =>
          clear H3 HCV HR9 HB B2
          obtain ⟨c, so, ra, rfl, rfl, HA, HCV, HR, HB, B2⟩ := hrel
          cases gk with
          | zero => exact absurd HA.out (by rw [HG0.out]; simp)
          | succ k1 =>
            have hrun := HR2.out (by first | exact rfl | trivial) (some ⟨g9, 0, none⟩) c9 c HCV.out (by have := HK.out; omega) wr HB.out (Kd.R_reads' HR.out).2.2 (by rw [HCV.out.len]; exact (Kd.R_reads' HR.out).2.1)
            rw [HCV.out.len] at hrun
            have hgs := HA.out
            rw [HGS.out] at hgs
            obtain ⟨R, hR⟩ : ∃ R, F c = R := ⟨_, rfl⟩
            rw [hR] at hrun hgs
            obtain ⟨s, st, sv, ray, cR⟩ := R
            simp only at hrun hgs
            have HRUN := Aside0.mk hrun
            have HE := Aside0.mk hgs
            have hz0 := cz_ B2 0
            have hz1 := cz_ B2 1
            clear hrun hgs hR HA
            go_wp2_with fail
            refine HRUN.out.mono ?_
            rintro e w7 ⟨p, rfl, hP, hb⟩
            replace HB := Aside0.mk (below_step HB.out hb)
            replace B2 := Aside0.mk (blk_below B2.out hb)
            replace HR := Aside0.mk (Kd.R_below HR.out hb)
            have hq : w7.cell? ⟨p, 2, none⟩ = some (.bool sv) ∧ w7.cell? ⟨p, 4, none⟩ = some (.int .i64 cR) := by
              obtain ⟨lo, hi, t, u1, h1, h2, h3, hT, hBp, hS⟩ := hP
              exact ⟨cz_ ⟨hBp⟩ 2, cz_ ⟨hBp⟩ 4⟩
            obtain ⟨hq2, hq4⟩ := hq
            clear hP hb hz0 hz1 HRUN
            by_cases hc0 : cR = 0
            · subst hc0
              have hn1 : wrap64 ((n : Int) - 1) = (n : Int) - 1 := by have := HN.out; have := HP0.out; exact w64 (by omega) (by omega)
              have HN1 := Aside0.mk hn1
              have e := HE.out
              rw [if_pos rfl] at e
              cases sv
              all_goals
                simp only [reduceIte, Bool.false_eq_true] at e
                have HE2 := Aside0.mk e
                clear HE e
                go_wp2
                clear hq2 hq4
                go_loopg [11] n (fun gg v11 wr => ∃ (j : Nat) (c' : List Int), j ≤ n ∧ j ≤ gg ∧ v11 = .int .i64 ((j : Int) - 1) ∧ Aside0 (Cov n a1 c') ∧ Aside0 (carr a1 j c' = carr a1 n c) ∧ Aside0 (Kd.R (Kd.int .i64) 2 wr w.heap.size (fun _ => True) (.slice (some ⟨g9, 0, none⟩) n c9) c') ∧ Aside0 (Below w.heap.size w wr) ∧ Aside0 (wr.heap[g2]? = some (.cells #[.slice A0_0 m0 c0_0, .slice A0_1 n c0_1] 29 (0, 0))))
                case atStart => exact ⟨n, c, Nat.le_refl _, Nat.le_refl _, by first | rfl | (rw [HN1.out]) | (simp [HN1.out]), HCV, ⟨rfl⟩, HR, HB, B2⟩
                case round =>
                  clear HCV HR HB B2 hn1
                  obtain ⟨j, c', hj, hg, rfl, HCV, HCA, HR, HB, B2⟩ := hrel
                  have HG := Aside0.mk hg
                  have HJ := Aside0.mk hj
                  clear hg hj
                  cases j with
                  | zero =>
                    have hm1 : ((0 : Nat) : Int) - 1 = -1 := rfl
                    have e := HE2.out
                    rw [← HCA.out] at e
                    simp only [carr, Bool.false_eq_true, reduceIte] at e
                    injection e with e
                    injection e with e1 e
                    injection e with e2 e3
                    subst e1 e2 e3
                    clear HE2
                    go_wp2
                    go_ret3
                    exact ⟨rfl, HB.out⟩
                  | succ j =>
                    have hji : ((j + 1 : Nat) : Int) - 1 = (j : Int) := by omega
                    have h0j : (0 : Int) ≤ (j : Int) := by omega
                    have hjn : (j : Int) < (n : Int) := by have := HJ.out; omega
                    have hjneg : ¬ (j : Int) < 0 := by omega
                    have hat := Kd.R_celln 0 HR.out (j : Int) (by omega) hjn
                    rw [Int.toNat_natCast] at hat
                    have hcell : wr.cell? ⟨g9, j, none⟩ = some (.int .i64 (c'.getD j 0)) := by simpa [rdOf] using hat.1
                    have hfr := hat.2
                    have hwj : wrap64 ((j : Int) - 1) = (j : Int) - 1 := by have := HN.out; have := HJ.out; exact w64 (by omega) (by omega)
                    have HWJ := Aside0.mk hwj
                    clear hat
                    rw [hji]
                    obtain ⟨x, hx⟩ : ∃ x, c'.getD j 0 = x := ⟨_, rfl⟩
                    rw [hx] at hcell
                    have HX := Aside0.mk hx
                    clear hx
                    by_cases hxm : x = a1
                    · have hxb : (x == a1) = true := by simp [hxm]
                      have hca2 : carr a1 j (c'.set j 1) = carr a1 n c := by
                        have hca := HCA.out
                        rw [carr_succ] at hca
                        rw [if_pos (HX.out.trans hxm)] at hca
                        exact hca
                      clear hxm
                      go_wp2
                      have hput := Kd.R_putg HR.out (j : Int) 1
                      rw [Int.toNat_natCast] at hput
                      have hg9 := Kd.R_base HR.out g9 (by simp [Value.ownBlock])
                      go_roundg j
                      case measure => have := HG.out; omega
                      case rel => exact ⟨j, c'.set j 1, by have := HJ.out; omega, Nat.le_refl _, by first | rfl | (rw [HWJ.out]) | (simp [HWJ.out]), ⟨HCV.out.set ⟨Int.le_refl _, HK.out.1⟩⟩, ⟨hca2⟩, ⟨hput.1⟩, ⟨HB.out.setCell hg9 _⟩, ⟨blk_grown B2.out hput.2 (Kd.R_ne HR.out B2.out (by decide))⟩⟩
                    · have hxb : (x == a1) = false := by simpa using hxm
                      have hcv := HCV.out.get (i := j) (by have := HJ.out; omega)
                      have e := HE2.out
                      have hca := HCA.out
                      rw [carr_succ] at hca
                      rw [if_neg (fun q => hxm (HX.out.symm.trans q))] at hca
                      rw [← hca] at e
                      simp only [reduceIte] at e
                      have HE3 := Aside0.mk e
                      have hwx : wrap64 (x + 1) = x + 1 := by rw [HX.out] at hcv; have := HK.out; exact w64 (by omega) (by omega)
                      have HC2 : Aside0 (Cov n a1 (c'.set j (x + 1))) := ⟨HCV.out.set ⟨by rw [HX.out] at hcv; omega, by rw [HX.out] at hcv; omega⟩⟩
                      clear hcv e hca HE2 hxm HCV
                      go_wp2
                      have hput := Kd.R_putg HR.out (j : Int) (x + 1)
                      rw [Int.toNat_natCast] at hput
                      have hg9 := Kd.R_base HR.out g9 (by simp [Value.ownBlock])
                      go_roundg k1
                      case measure => omega
                      case rel => exact ⟨c'.set j (x + 1), _, _, rfl, rfl, ⟨by have e := HE3.out; rw [HX.out] at e; exact e⟩, HC2, ⟨hput.1⟩, ⟨HB.out.setCell hg9 _⟩, ⟨blk_grown B2.out hput.2 (Kd.R_ne HR.out B2.out (by decide))⟩⟩
            · have hcb : (cR == 0) = false := by simpa using hc0
              have e := HE.out
              rw [if_neg hc0] at e
              injection e with e
              injection e with e1 e
              injection e with e2 e3
              subst e1 e2 e3
              clear HE
              go_wp2
              replace HB := Aside0.mk (below_step HB.out (below_drew (Below.refl w7.heap.size w7)))
              refine st_ (n := 7) (S := fun w' => w'.cell? ⟨p, 4, none⟩ = some (.int .i64 cR)) (ds := []) hq4 (fun hHeld => ?_)
              generalize w7.drew = w8 at HB hHeld ⊢
              refine pu_ 0 42 ?_; refine pu_ 1 43 ?_; refine pu_ 2 44 ?_; refine tk_ 3 45 ?_; refine pu_ 4 4 ?_; refine pu_ 5 5 ?_; refine pu_ 6 6 ?_
              refine done_ (by kernel_rfl) ?_
              go_wp2
              go_ret3
              exact ⟨rfl, HB.out⟩
      · have h4z : decide (4 < (n : Int)) = true := decide_eq_true (by omega)
        have h4y : (4 : Int) < (n : Int) := by omega
        have e := H2.out
        rw [if_neg (fun q => h4 q.2)] at e
        injection e with e
        injection e with e1 e
        injection e with e2 e3
        subst e1 e2 e3
        clear H2 HR2 h4 hk
        go_wp2
        go_ret3
        exact ⟨rfl, HB.out⟩
end Go.Proofs.Ythdoilfjcgickaa.Pr
end
section
namespace Go.Proofs.Ythdoilfjcgickaa.Pr
open Go.RowKit Go.Proofs.YthdoilfjcgickaaW.PrintWords Go.Proofs.YthdoilfjcgickaaW.PrintLast Go.Proofs.YthdoilfjcgickaaW.PrintMore
attribute [local go_sem] max2_int min2_int max_two min_two max_three min_three max_four min_four
mutual
def spec_l05Begin.l0 : Nat → List Int → Int → Int → List (List Int) → List Int → List (List Int) → Int → List Int → Option ((List (List Int)) × Int × List Int)
 | 0, _, _, _, _, _, _, _, _ => none
 | k + 1, x1, x6, x7, x894000, x894001, x896000, x896001, x896002 => if x7 < x6 then (spec_l05Begin.l1 k x1 x6 x7 (([] : List Int)) 0 x894000 x894001 x896000 x896001 x896002) else (some (x896000, x896001, x896002))
def spec_l05Begin.l1 : Nat → List Int → Int → Int → List Int → Int → List (List Int) → List Int → List (List Int) → Int → List Int → Option ((List (List Int)) × Int × List Int)
 | 0, _, _, _, _, _, _, _, _, _, _ => none
 | k + 1, x1, x6, x7, x8, x9, x894000, x894001, x896000, x896001, x896002 => if x9 < x6 then (if x9 = x7 then (if x8.length < 17592186044416 then (spec_l05Begin.l1 k x1 x6 x7 (x8 ++ [1]) (wrap64 (x9 + 1)) x894000 x894001 x896000 x896001 x896002) else (none)) else (if x8.length < 17592186044416 then (spec_l05Begin.l1 k x1 x6 x7 (x8 ++ [0]) (wrap64 (x9 + 1)) x894000 x894001 x896000 x896001 x896002) else (none))) else (spec_l05Begin.l2 k x1 x6 x7 x8 0 x894000 x894001 x896000 x896001 x896002)
def spec_l05Begin.l2 : Nat → List Int → Int → Int → List Int → Int → List (List Int) → List Int → List (List Int) → Int → List Int → Option ((List (List Int)) × Int × List Int)
 | 0, _, _, _, _, _, _, _, _, _, _ => none
 | k + 1, x1, x6, x7, x8, x10, x894000, x894001, x896000, x896001, x896002 => if x10 < x6 then (if 0 ≤ x7 then (if x7 < (x894000.length : Int) then (if 0 ≤ x10 then (if x10 < ((rd_L1 x894000 x7).length : Int) then (if x8.length < 17592186044416 then (spec_l05Begin.l2 k x1 x6 x7 (x8 ++ [wrap64 (-(rd (rd_L1 x894000 x7) x10))]) (wrap64 (x10 + 1)) x894000 x894001 x896000 x896001 x896002) else (none)) else (none)) else (none)) else (none)) else (none)) else (if (x1.length : Int) > 0 then (if 0 ≤ x7 then (if x7 < (x1.length : Int) then (if x8.length < 17592186044416 then ((some (x8 ++ [wrap64 (-(rd x1 x7))] : List Int)).bind fun y911 => (if x7 < (x894001.length : Int) then (if y911.length < 17592186044416 then (if x896000.length < 5864062014805 then (if x896002.length < 17592186044416 then (spec_l05Begin.l0 k x1 x6 (wrap64 (x7 + 1)) x894000 x894001 (x896000 ++ [(y911 ++ [rd x894001 x7])]) x896001 (x896002 ++ [x7])) else (none)) else (none)) else (none)) else (none))) else (none)) else (none)) else (none)) else (if 0 ≤ x7 then (if x7 < (x894001.length : Int) then (if x8.length < 17592186044416 then (if x896000.length < 5864062014805 then (if x896002.length < 17592186044416 then (spec_l05Begin.l0 k x1 x6 (wrap64 (x7 + 1)) x894000 x894001 (x896000 ++ [(x8 ++ [rd x894001 x7])]) x896001 (x896002 ++ [x7])) else (none)) else (none)) else (none)) else (none)) else (none)))
end
def spec_l05Begin.f (k : Nat) (l0_0 : List (List Int)) (l0_1 : List Int) (l1 : List Int) : Option ((List (List Int)) × Int × List Int) := spec_l05Begin.l0 k l1 (l0_1.length : Int) 0 l0_0 l0_1 ([] : List (List Int)) 1 ([] : List Int)
theorem spec_l05Begin.mono_l : ∀ k, (∀ y0 y1 y2 y3 y4 y5 y6 y7, LeO (spec_l05Begin.l0 k y0 y1 y2 y3 y4 y5 y6 y7) (spec_l05Begin.l0 (k + 1) y0 y1 y2 y3 y4 y5 y6 y7)) ∧ (∀ y0 y1 y2 y3 y4 y5 y6 y7 y8 y9, LeO (spec_l05Begin.l1 k y0 y1 y2 y3 y4 y5 y6 y7 y8 y9) (spec_l05Begin.l1 (k + 1) y0 y1 y2 y3 y4 y5 y6 y7 y8 y9)) ∧ (∀ y0 y1 y2 y3 y4 y5 y6 y7 y8 y9, LeO (spec_l05Begin.l2 k y0 y1 y2 y3 y4 y5 y6 y7 y8 y9) (spec_l05Begin.l2 (k + 1) y0 y1 y2 y3 y4 y5 y6 y7 y8 y9))
 | 0 => ⟨fun _ _ _ _ _ _ _ _ r h => by simp [spec_l05Begin.l0] at h, fun _ _ _ _ _ _ _ _ _ _ r h => by simp [spec_l05Begin.l1] at h, fun _ _ _ _ _ _ _ _ _ _ r h => by simp [spec_l05Begin.l2] at h⟩
 | k + 1 => by
  obtain ⟨ih0, ih1, ih2⟩ := spec_l05Begin.mono_l k
  refine ⟨?_, ?_, ?_⟩
  ·intro y0 y1 y2 y3 y4 y5 y6 y7
   unfold spec_l05Begin.l0
   repeat' first
   | (with_reducible exact ih0 _ _ _ _ _ _ _ _)
   | (with_reducible exact ih1 _ _ _ _ _ _ _ _ _ _)
   | (with_reducible exact ih2 _ _ _ _ _ _ _ _ _ _)
   | (with_reducible exact LeO.refl _)
   | (with_reducible exact LeO.none _)
   | (with_reducible refine LeO.ite ?_ ?_)
   | (with_reducible refine LeO.bind ?_ (fun _ => ?_))
   | exact ih0 _ _ _ _ _ _ _ _
   | exact ih1 _ _ _ _ _ _ _ _ _ _
   | exact ih2 _ _ _ _ _ _ _ _ _ _
   | exact LeO.none _
   | refine LeO.ite ?_ ?_
   | refine LeO.bind ?_ (fun _ => ?_)
  ·intro y0 y1 y2 y3 y4 y5 y6 y7 y8 y9
   unfold spec_l05Begin.l1
   repeat' first
   | (with_reducible exact ih0 _ _ _ _ _ _ _ _)
   | (with_reducible exact ih1 _ _ _ _ _ _ _ _ _ _)
   | (with_reducible exact ih2 _ _ _ _ _ _ _ _ _ _)
   | (with_reducible exact LeO.refl _)
   | (with_reducible exact LeO.none _)
   | (with_reducible refine LeO.ite ?_ ?_)
   | (with_reducible refine LeO.bind ?_ (fun _ => ?_))
   | exact ih0 _ _ _ _ _ _ _ _
   | exact ih1 _ _ _ _ _ _ _ _ _ _
   | exact ih2 _ _ _ _ _ _ _ _ _ _
   | exact LeO.none _
   | refine LeO.ite ?_ ?_
   | refine LeO.bind ?_ (fun _ => ?_)
  ·intro y0 y1 y2 y3 y4 y5 y6 y7 y8 y9
   unfold spec_l05Begin.l2
   repeat' first
   | (with_reducible exact ih0 _ _ _ _ _ _ _ _)
   | (with_reducible exact ih1 _ _ _ _ _ _ _ _ _ _)
   | (with_reducible exact ih2 _ _ _ _ _ _ _ _ _ _)
   | (with_reducible exact LeO.refl _)
   | (with_reducible exact LeO.none _)
   | (with_reducible refine LeO.ite ?_ ?_)
   | (with_reducible refine LeO.bind ?_ (fun _ => ?_))
   | exact ih0 _ _ _ _ _ _ _ _
   | exact ih1 _ _ _ _ _ _ _ _ _ _
   | exact ih2 _ _ _ _ _ _ _ _ _ _
   | exact LeO.none _
   | refine LeO.ite ?_ ?_
   | refine LeO.bind ?_ (fun _ => ?_)
theorem spec_l05Begin.mono : ∀ a0 a1 a2 k, LeO (spec_l05Begin.f k a0 a1 a2) (spec_l05Begin.f (k + 1) a0 a1 a2) := by
 intro a0 a1 a2 k
 obtain ⟨ih0, ih1, ih2⟩ := spec_l05Begin.mono_l k
 unfold spec_l05Begin.f
 repeat' first
   | (with_reducible exact ih0 _ _ _ _ _ _ _ _)
   | (with_reducible exact ih1 _ _ _ _ _ _ _ _ _ _)
   | (with_reducible exact ih2 _ _ _ _ _ _ _ _ _ _)
   | (with_reducible exact LeO.refl _)
   | (with_reducible exact LeO.none _)
   | (with_reducible refine LeO.ite ?_ ?_)
   | (with_reducible refine LeO.bind ?_ (fun _ => ?_))
   | exact ih0 _ _ _ _ _ _ _ _
   | exact ih1 _ _ _ _ _ _ _ _ _ _
   | exact ih2 _ _ _ _ _ _ _ _ _ _
   | exact LeO.none _
   | refine LeO.ite ?_ ?_
   | refine LeO.bind ?_ (fun _ => ?_)
def spec_l05Begin.T18 : Bool × List (List Nat × List Nat) := (true, [([], []), ([0], [0]), ([], []), ([], []), ([3], [3]), ([], []), ([4, 5], [4, 5]), ([6], [6]), ([7], [7]), ([2, 8], [2, 8]), ([9], [9]), ([1, 10, 9], [1, 10]), ([0, 1, 2, 3, 4, 5, 6, 7, 8, 9, 10, 11], []), ([12, 11, 11, 0, 1, 2, 3, 4, 5, 6, 7, 8, 9, 10, 11], [11, 12])])
def spec_l05Begin.B18 : List Nat := [0, 1, 0, 0, 8, 0, 56, 120, 248, 508, 1020, 2047, 4095, 8191]
theorem spec_l05Begin.tab18 : rtab .any (opsOf Try.f116 18) = spec_l05Begin.T18 := by kernel_rfl
theorem spec_l05Begin.bits18 : waitsOk spec_l05Begin.T18.2 spec_l05Begin.B18 = true := by kernel_rfl
theorem spec_l05Begin.calls (k : Nat) (A0_0 : Option Addr) (c0_0 : Nat) (l0_0 : List (List Int)) (A0_1 : Option Addr) (c0_1 : Nat) (l0_1 : List Int) (A1 : Option Addr) (c1 : Nat) (l1 : List Int) (r1 : List (List Int)) (r2 : Int) (r3 : List Int) (w : World) (hr0_0 : Kd.C (Kd.slice 2 (Kd.int .i64)) w A0_0 l0_0.length l0_0) (hc0_0 : l0_0.length ≤ c0_0) (hr0_1 : Kd.C (Kd.int .i64) w A0_1 l0_1.length l0_1) (hc0_1 : l0_1.length ≤ c0_1) (hr1 : Kd.C (Kd.int .i64) w A1 l1.length l1) (hc1 : l1.length ≤ c1) (h : spec_l05Begin.f k l0_0 l0_1 l1 = some (r1, r2, r3)) :
  Calls Try.prog 116 #[.agg #[.slice A0_0 l0_0.length c0_0, .slice A0_1 l0_1.length c0_1], .slice A1 l1.length c1] w fun e w' => ∃ v0_ v2_ : Value, e = .returned (.agg #[v0_, .int .i64 r2, v2_]) ∧ Kd.S (Kd.slice 2 (Kd.int .i64)) 23 w' w.heap.size (fun k_ => some k_ ≠ (v2_ : Value).ownBlock) v0_ r1 ∧ Kd.R (Kd.int .i64) 2 w' w.heap.size (fun _ => True) v2_ r3 ∧ Below w.heap.size w w' := by
 have hu29 := Try.underlying29
 have hu101 := Try.underlying101
 have HR0_0 := Aside0.mk hr0_0
 have HC0_0 := Aside0.mk hc0_0
 clear hr0_0 hc0_0
 have HR0_1 := Aside0.mk hr0_1
 have HC0_1 := Aside0.mk hc0_1
 clear hr0_1 hc0_1
 have HR1 := Aside0.mk hr1
 have HC1 := Aside0.mk hc1
 clear hr1 hc1
 have HB := Aside0.mk (Below.refl w.heap.size w)
 have H : (spec_l05Begin.l0 k l1 (l0_1.length : Int) 0 l0_0 l0_1 ([] : List (List Int)) 1 ([] : List Int)) = some (r1, r2, r3) := h
 clear h
 have H' := Aside0.mk H
 clear H
 go_enter Try.func116, Try.ntmps116
 try go_wp2_with (first | ((with_reducible refine gate_dst (N := 2) rfl ?_); refine box_event ?hg (N := 2) ?hd (cs := #[.slice A0_0 l0_0.length c0_0, .slice A0_1 l0_1.length c0_1]) (t := 29) ?hr ?_; (case hd => rfl); (case hg => rfl); (case hr => first | (go_simp; done) | (go_simp; rfl)); intro gb893 hg w3 hbox hb; have n0_ := Aside0.mk (bs_ hb); have n1_ := Aside0.mk (hbox); have n2_ := Aside0.mk ((by rw [hg]; exact bz_ : w.heap.size ≤ gb893)); have n3_ := Aside0.mk ((by rw [hg]; exact bz_ : w.heap.size ≤ gb893)); clear HB; have HB := n0_; have BK893 := n1_; have GW893 := n2_; have GE893 := n3_; clear n0_ n1_ n2_ n3_; clear hb hbox hg) | ((with_reducible refine gate_dst (N := 4) rfl ?_); refine box_event ?hg (N := 4) ?hd (cs := #[.slice none 0 0, .int .i64 0, .slice none 0 0]) (t := 101) ?hr ?_; (case hd => rfl); (case hg => rfl); (case hr => first | (go_simp; done) | (go_simp; rfl)); intro gb894 hg w4 hbox hb; have n0_ := Aside0.mk (bb_ BK893.out hb); have n1_ := Aside0.mk (bs_ hb); have n2_ := Aside0.mk (hbox); have n3_ := Aside0.mk ((by rw [hg]; exact bz_ : w.heap.size ≤ gb894)); have n4_ := Aside0.mk ((by rw [hg]; exact bz_ : w.heap.size ≤ gb894)); have n5_ := Aside0.mk ((by rw [hg]; exact lt_ BK893.out : gb893 ≠ gb894)); have n6_ := Aside0.mk ((by rw [hg]; exact gt_ BK893.out : gb894 ≠ gb893)); clear BK893; clear HB; have BK893 := n0_; have HB := n1_; have BK894 := n2_; have GW894 := n3_; have GE894 := n4_; have NB893_894 := n5_; have NB894_893 := n6_; clear n0_ n1_ n2_ n3_ n4_ n5_ n6_; clear hb hbox hg))
 have n0_ := Aside0.mk (blk_drew BK893.out)
 have n1_ := Aside0.mk (blk_drew BK894.out)
 have n2_ := Aside0.mk (below_drew1 HB.out)
 clear BK893
 clear BK894
 clear HB
 have BK893 := n0_
 have BK894 := n1_
 have HB := n2_
 clear n0_ n1_ n2_
 refine st_ (n := 7) (S := fun w' => w'.cell? ⟨gb893, 0, none⟩ = some (.slice A0_0 l0_0.length c0_0) ∧ w'.cell? ⟨gb893, 1, none⟩ = some (.slice A0_1 l0_1.length c0_1)) (ds := []) ⟨(blk_cell BK893.out 0).trans rfl, (blk_cell BK893.out 1).trans rfl⟩ (fun hHeld => ?_)
 generalize w4.drew = w5 at BK893 BK894 HB hHeld ⊢
 refine pu_ 0 11 ?_; refine pu_ 1 12 ?_; refine tk_ 2 13 ?_; refine pu_ 3 14 ?_
 refine on_ 4 (some 5) (fun K hK => ?_)
 refine box_step ?hg (N := 5) ?hd (cs := #[.slice none 0 0, .int .i64 0, .slice none 0 0]) (t := 101) ?hr ?_; (case hd => rfl); (case hg => rfl); (case hr => first | (go_simp; done) | (go_simp; rfl))
 intro gb895 hg w6 hbox hb
 have n0_ := Aside0.mk (bb_ BK893.out hb)
 have n1_ := Aside0.mk (bb_ BK894.out hb)
 have n2_ := Aside0.mk (bs_ hb)
 have n3_ := Aside0.mk (hbox)
 have n4_ := Aside0.mk ((by rw [hg]; exact bz_ : w.heap.size ≤ gb895))
 have n5_ := Aside0.mk ((by rw [hg]; exact bz_ : w.heap.size ≤ gb895))
 have n6_ := Aside0.mk ((by rw [hg]; exact lt_ BK893.out : gb893 ≠ gb895))
 have n7_ := Aside0.mk ((by rw [hg]; exact gt_ BK893.out : gb895 ≠ gb893))
 have n8_ := Aside0.mk ((by rw [hg]; exact lt_ BK894.out : gb894 ≠ gb895))
 have n9_ := Aside0.mk ((by rw [hg]; exact gt_ BK894.out : gb895 ≠ gb894))
 clear BK893
 clear BK894
 clear HB
 have BK893 := n0_
 have BK894 := n1_
 have HB := n2_
 have BK895 := n3_
 have GW895 := n4_
 have GE895 := n5_
 have NB893_895 := n6_
 have NB895_893 := n7_
 have NB894_895 := n8_
 have NB895_894 := n9_
 clear n0_ n1_ n2_ n3_ n4_ n5_ n6_ n7_ n8_ n9_
 clear hb hbox hg
 refine hK.out _ _ ⟨(blk_cell BK893.out 0).trans rfl, (blk_cell BK893.out 1).trans rfl⟩ (fun hHeld => ?_)
 clear hK K
 refine norm_ (a' := ?_) ?_ ?_
 rotate_left
 ·show Act.put _ (some 5) _ = _
  simp only [Act.put, List.setIfInBounds_toArray, List.set_cons_zero, List.set_cons_succ, i64_w, i32_w]
  rfl
 refine on_ 5 none (fun K hK => ?_)
 have hs7 : w6.cell? ⟨gb895, 0, none⟩ = some (.slice none 0 0) := (blk_cell BK895.out 0).trans rfl
 have hfs7 := blk_frozen BK895.out 0
 have hns7_0 := NB893_895.out
 have hns7_1 := NB894_895.out
 have hms7_0 := NB895_893.out
 have hms7_1 := NB895_894.out
 have hs8 : w6.cell? ⟨gb895, 1, none⟩ = some (.int .i64 0) := (blk_cell BK895.out 1).trans rfl
 have hfs8 := blk_frozen BK895.out 1
 have hns8_0 := NB893_895.out
 have hns8_1 := NB894_895.out
 have hms8_0 := NB895_893.out
 have hms8_1 := NB895_894.out
 have hs9 : w6.cell? ⟨gb895, 2, none⟩ = some (.slice none 0 0) := (blk_cell BK895.out 2).trans rfl
 have hfs9 := blk_frozen BK895.out 2
 have hns9_0 := NB893_895.out
 have hns9_1 := NB894_895.out
 have hms9_0 := NB895_893.out
 have hms9_1 := NB895_894.out
 refine skip_ (w1 := ?_) (by rfl) rfl ?_ ?_
 rotate_left
 ·go_simp
  rfl
 refine hK.out _ _ ⟨((cell_far (p := ⟨gb895, _, none⟩) NB893_895.out _).trans (((cell_far (p := ⟨gb895, _, none⟩) NB893_895.out _).trans (((cell_far (p := ⟨gb895, _, none⟩) NB893_895.out _).trans (hHeld.1)))))), ((cell_far (p := ⟨gb895, _, none⟩) NB893_895.out _).trans (((cell_far (p := ⟨gb895, _, none⟩) NB893_895.out _).trans (((cell_far (p := ⟨gb895, _, none⟩) NB893_895.out _).trans (hHeld.2))))))⟩ (fun hHeld => ?_)
 clear hK K
 refine pu_ 6 6 ?_
 refine done_ (by kernel_rfl) ?_
 try go_wp2
 go_loopg [7] k (fun kq v7 w' => ∃ (x7_1 : Int) (x896000_1 : List (List Int)) (x896002_1 : List Int) (u896000 : Value) (u896002 : Value), v7 = .int .i64 x7_1 ∧ Aside0 (spec_l05Begin.l0 kq l1 (l0_1.length : Int) x7_1 l0_0 l0_1 x896000_1 1 x896002_1 = some (r1, r2, r3)) ∧ Aside0 (kq ≤ k) ∧ Aside0 (Kd.S (Kd.slice 2 (Kd.int .i64)) 23 w' w.heap.size (fun k_ => some k_ ≠ (u896002 : Value).ownBlock) u896000 x896000_1) ∧ Aside0 (Kd.R (Kd.int .i64) 2 w' w.heap.size (fun _ => True) u896002 x896002_1) ∧ Aside0 (w'.heap[gb893]? = some (.cells #[(.slice A0_0 l0_0.length c0_0), (.slice A0_1 l0_1.length c0_1)] 29 (0, 0))) ∧ Aside0 (w'.heap[gb894]? = some (.cells #[(.slice none 0 0), .int .i64 0, (.slice none 0 0)] 101 (0, 0))) ∧ Aside0 (w'.heap[gb895]? = some (.cells #[u896000, .int .i64 1, u896002] 101 (0, 0))) ∧ Aside0 (Below w.heap.size w w'))
 case atStart => exact ⟨(0), (([] : List (List Int))), (([] : List Int)), (.slice none 0 0), (.slice none 0 0), rs_, H', ⟨Nat.le_refl _⟩, ⟨by first | exact Kd.S_nil _ _ _ _ _ | exact Kd.N_nil _ _ _ _ _ | exact Kd.V_nil _ _ _ _ _ | exact Kd.Q_nil _ _ _ _ _ | exact Kd.R_nil _ _ _ _ _⟩, ⟨by first | exact Kd.R_nil _ _ _ _ _ | exact Kd.N_nil _ _ _ _ _ | exact Kd.V_nil _ _ _ _ _ | exact Kd.Q_nil _ _ _ _ _ | exact Kd.S_nil _ _ _ _ _⟩, ⟨by (with_reducible repeat (first | refine blk_drewN ?_ _ | refine blk_drew ?_ | refine blk_alloc ?_ _)); refine blk_far ?_ NB893_895.out _; (with_reducible repeat (first | refine blk_drewN ?_ _ | refine blk_drew ?_ | refine blk_alloc ?_ _)); refine blk_far ?_ NB893_895.out _; (with_reducible repeat (first | refine blk_drewN ?_ _ | refine blk_drew ?_ | refine blk_alloc ?_ _)); refine blk_far ?_ NB893_895.out _; (with_reducible repeat (first | refine blk_drewN ?_ _ | refine blk_drew ?_ | refine blk_alloc ?_ _)); exact BK893.out⟩, ⟨by (with_reducible repeat (first | refine blk_drewN ?_ _ | refine blk_drew ?_ | refine blk_alloc ?_ _)); refine blk_far ?_ NB894_895.out _; (with_reducible repeat (first | refine blk_drewN ?_ _ | refine blk_drew ?_ | refine blk_alloc ?_ _)); refine blk_far ?_ NB894_895.out _; (with_reducible repeat (first | refine blk_drewN ?_ _ | refine blk_drew ?_ | refine blk_alloc ?_ _)); refine blk_far ?_ NB894_895.out _; (with_reducible repeat (first | refine blk_drewN ?_ _ | refine blk_drew ?_ | refine blk_alloc ?_ _)); exact BK894.out⟩, ⟨by (with_reducible repeat (first | refine blk_drewN ?_ _ | refine blk_drew ?_ | refine blk_alloc ?_ _)); refine blk_put (cs := #[.slice none 0 0, .int .i64 1, .slice none 0 0]) ?_ 2 _ rfl; (with_reducible repeat (first | refine blk_drewN ?_ _ | refine blk_drew ?_ | refine blk_alloc ?_ _)); refine blk_put (cs := #[.slice none 0 0, .int .i64 0, .slice none 0 0]) ?_ 1 _ rfl; (with_reducible repeat (first | refine blk_drewN ?_ _ | refine blk_drew ?_ | refine blk_alloc ?_ _)); refine blk_put (cs := #[.slice none 0 0, .int .i64 0, .slice none 0 0]) ?_ 0 _ rfl; (with_reducible repeat (first | refine blk_drewN ?_ _ | refine blk_drew ?_ | refine blk_alloc ?_ _)); exact BK895.out⟩, ⟨hb_⟩⟩
 case round =>
  clear H'
  try clear c1
  try clear p2
  obtain ⟨x7_1, x896000_1, x896002_1, u896000, u896002, rfl, HA, HK1, HO_896000, HO_896002, BK893, BK894, BK895, HB⟩ := hrel
  cases gk with
  | zero => exact absurd HA.out (by simp [spec_l05Begin.l0])
  | succ k1 =>
   have H := HA.out
   clear HA
   simp only [spec_l05Begin.l0] at H
   by_cases c10 : x7_1 < (l0_1.length : Int)
   ·rw [if_pos c10] at H
    have c10b0 : decide (x7_1 < (l0_1.length : Int)) = true := decide_eq_true c10
    clear c10
    obtain ⟨y896, hy896⟩ : ∃ y_ : List Int, y_ = (([] : List Int)) := ⟨_, rfl⟩
    replace H : (spec_l05Begin.l1 k1 l1 (l0_1.length : Int) x7_1 y896 0 l0_0 l0_1 x896000_1 1 x896002_1) = some (r1, r2, r3) := by first | (rw [hy896]; with_reducible exact H) | (have H2_ := (Option.bind_some _ _).symm.trans H; rw [hy896]; with_reducible exact H2_) | (have H2_ := (Option.bind_some _ _).symm.trans H; with_reducible exact H2_) | with_reducible exact H | (rw [hy896]; exact H) | exact H
    have Ny896 := Aside0.mk hy896
    clear hy896
    have H' := Aside0.mk H
    clear H
    go_wp2_with (first | ((with_reducible refine gate_dst (N := 20) rfl ?_); refine Kd.R_lit (Kd.int .i64) _ 2 ?hg (N := 20) ?hd (xs := ([] : List Int)) (inner := []) (ok := fun _ => True) (okp := fun _ => True) ?hr ?hp (fun _ hk => hk) trivial (Below.refl _ _) (Nat.le_refl _) (by simp) ?_; (case hd => rfl); (case hg => rfl); (case hr => first | (go_simp; done) | (go_simp; rfl)); (case hp => exact (Reps.none _ _)); intro v897 w11 ho12 hb hg_ hnew_; clear hg_ hnew_; (first | rw [← Ny896.out] at ho12 | (simp only [Int.reduceToNat] at ho12; rw [← Ny896.out] at ho12)); have n0_ := Aside0.mk (Kd.S_elder' (so_ HO_896000.out) (Kd.R_base ho12) hb); have n1_ := Aside0.mk (Kd.R_elder' (ro_ HO_896002.out) (Kd.R_base ho12) hb); have n2_ := Aside0.mk (Kd.R_lower (Kd.R_new' ho12 (Kd.R_lt (ro_ HO_896002.out))) bz_); have n3_ := Aside0.mk (bb_ BK893.out hb); have n4_ := Aside0.mk (bb_ BK894.out hb); have n5_ := Aside0.mk (bb_ BK895.out hb); have n6_ := Aside0.mk (bs_ hb); clear HO_896000; clear HO_896002; clear BK893; clear BK894; clear BK895; clear HB; have HO_896000 := n0_; have HO_896002 := n1_; have HO898 := n2_; have BK893 := n3_; have BK894 := n4_; have BK895 := n5_; have HB := n6_; clear n0_ n1_ n2_ n3_ n4_ n5_ n6_; clear hb ho12))
    go_loopg [8, 9] k1 (fun kq v8 v9 w' => ∃ (x8_2 : List Int) (x9_2 : Int), v9 = .int .i64 x9_2 ∧ Aside0 (spec_l05Begin.l1 kq l1 (l0_1.length : Int) x7_1 x8_2 x9_2 l0_0 l0_1 x896000_1 1 x896002_1 = some (r1, r2, r3)) ∧ Aside0 (kq ≤ k1) ∧ Aside0 (Kd.R (Kd.int .i64) 2 w' w.heap.size (fun k_ => some k_ ≠ (u896002 : Value).ownBlock) v8 x8_2) ∧ Aside0 (Kd.S (Kd.slice 2 (Kd.int .i64)) 23 w' w.heap.size (fun k_ => some k_ ≠ (v8 : Value).ownBlock ∧ some k_ ≠ (u896002 : Value).ownBlock) u896000 x896000_1) ∧ Aside0 (Kd.R (Kd.int .i64) 2 w' w.heap.size (fun k_ => some k_ ≠ (v8 : Value).ownBlock) u896002 x896002_1) ∧ Aside0 (w'.heap[gb893]? = some (.cells #[(.slice A0_0 l0_0.length c0_0), (.slice A0_1 l0_1.length c0_1)] 29 (0, 0))) ∧ Aside0 (w'.heap[gb894]? = some (.cells #[(.slice none 0 0), .int .i64 0, (.slice none 0 0)] 101 (0, 0))) ∧ Aside0 (w'.heap[gb895]? = some (.cells #[u896000, .int .i64 1, u896002] 101 (0, 0))) ∧ Aside0 (Below w.heap.size w w'))
    case atStart => exact ⟨(y896), (0), rs_, H', ⟨Nat.le_refl _⟩, ⟨by (with_reducible repeat (first | apply Kd.R_alloc | apply Kd.R_drewN | apply Kd.R_drew)); exact Kd.R_mono HO898.out (fun _ hk => hk.2)⟩, ⟨by (with_reducible repeat (first | apply Kd.S_alloc | apply Kd.S_drewN | apply Kd.S_drew)); exact Kd.S_mono HO_896000.out (fun _ hk => ⟨hk.2, hk.1⟩)⟩, ⟨by (with_reducible repeat (first | apply Kd.R_alloc | apply Kd.R_drewN | apply Kd.R_drew)); exact Kd.R_mono HO_896002.out (fun _ hk => hk.2)⟩, ⟨bk_⟩, ⟨bk_⟩, ⟨bk_⟩, ⟨hb_⟩⟩
    case round =>
     clear H'
     try clear c1
     try clear p2
     try clear c10
     try clear c10b0
     try clear c11
     try clear p2
     obtain ⟨x8_2, x9_2, rfl, HA, HK2, HO_8, HO_896000, HO_896002, BK893, BK894, BK895, HB⟩ := hrel
     cases gk with
     | zero => exact absurd HA.out (by simp [spec_l05Begin.l1])
     | succ k2 =>
      have H := HA.out
      clear HA
      simp only [spec_l05Begin.l1] at H
      by_cases c13 : x9_2 < (l0_1.length : Int)
      ·rw [if_pos c13] at H
       have c13b0 : decide (x9_2 < (l0_1.length : Int)) = true := decide_eq_true c13
       clear c13
       by_cases c14 : x9_2 = x7_1
       ·rw [if_pos c14] at H
        have c14b0 : (x9_2 == x7_1) = true := beq_iff_eq.mpr c14
        have c14b1 : (x9_2 != x7_1) = false := bne_eq_false_iff_eq.mpr c14
        clear c14
        by_cases c15 : x8_2.length < 17592186044416
        ·rw [if_pos c15] at H
         have LMc15 := Aside0.mk c15
         clear c15
         obtain ⟨y899, hy899⟩ : ∃ y_ : List Int, y_ = (x8_2 ++ [1]) := ⟨_, rfl⟩
         replace H : (spec_l05Begin.l1 k2 l1 (l0_1.length : Int) x7_1 y899 (wrap64 (x9_2 + 1)) l0_0 l0_1 x896000_1 1 x896002_1) = some (r1, r2, r3) := by first | (rw [hy899]; with_reducible exact H) | (have H2_ := (Option.bind_some _ _).symm.trans H; rw [hy899]; with_reducible exact H2_) | (have H2_ := (Option.bind_some _ _).symm.trans H; with_reducible exact H2_) | with_reducible exact H | (rw [hy899]; exact H) | exact H
         have Ny899 := Aside0.mk hy899
         clear hy899
         have H' := Aside0.mk H
         clear H
         go_wp2_with (first | ((with_reducible refine gate_builtin (b := .append) (xs := #[.tmp 29, .tmp 30]) rfl ?_); at_builtin; refine Kd.R_append (Kd.int .i64) (w0 := w) w.heap.size rfl (.tmp 29) (.tmp 30) 23 2 (.int .i64 0) 8 rfl Try.underlying23 info2 rfl (by decide) (by omega) u8 x8_2 1 [.int .i64 1] (fun k_ => some k_ ≠ (u896002 : Value).ownBlock) (fun _ => False) rfl rfl ?aP (fun _ hk => hk.elim) ?aF ?aO ?aB ?aS ?aL ?_; (case aP => exact rfl); (case aB => exact hb_); (case aF => exact (fun k_ hk => Kd.fresh' (Kd.R_lt (ro_ HO_896002.out)) k_ hk)); (case aO => exact (ro_ HO_8.out)); (case aS => exact bz_); (case aL => have := LMc15.out; omega); intro v900 w16 ho hb hg hat; rw [← Ny899.out] at ho; have n0_ := Aside0.mk (Kd.S_after (ok := (fun k_ => some k_ ≠ (u896002 : Value).ownBlock)) (by (with_reducible repeat (first | apply Kd.S_alloc | apply Kd.S_drewN | apply Kd.S_drew)); exact Kd.S_mono HO_896000.out (fun _ hk => ⟨hk.2, hk.1⟩)) hg hat); have n1_ := Aside0.mk (Kd.R_after (ok := (fun _ => True)) (by (with_reducible repeat (first | apply Kd.R_alloc | apply Kd.R_drewN | apply Kd.R_drew)); exact Kd.R_mono HO_896002.out (fun _ hk => ⟨trivial, hk⟩)) hg hat); have n2_ := Aside0.mk (bg_ BK893.out hg (Kd.R_ne HO_8.out BK893.out (by decide))); have n3_ := Aside0.mk (bg_ BK894.out hg (Kd.R_ne HO_8.out BK894.out (by decide))); have n4_ := Aside0.mk (bg_ BK895.out hg (Kd.R_ne HO_8.out BK895.out (by decide))); have n5_ := Aside0.mk (hb); have n6_ := Aside0.mk (ho); clear HO_896000; clear HO_896002; clear BK893; clear BK894; clear BK895; clear HB; clear HO_8; have HO_896000 := n0_; have HO_896002 := n1_; have BK893 := n2_; have BK894 := n3_; have BK895 := n4_; have HB := n5_; have HO901 := n6_; clear n0_ n1_ n2_ n3_ n4_ n5_ n6_; clear ho hb hg hat))
         go_roundg k2
         case measure => have := HK1.out; have := HK2.out; omega
         case rel => exact ⟨(y899), (wrap64 (x9_2 + 1)), rs_, H', ⟨by have := HK1.out; have := HK2.out; omega⟩, ⟨ro_ HO901.out⟩, ⟨by (with_reducible repeat (first | apply Kd.S_alloc | apply Kd.S_drewN | apply Kd.S_drew)); exact Kd.S_mono HO_896000.out (fun _ hk => ⟨hk.2, hk.1⟩)⟩, ⟨by (with_reducible repeat (first | apply Kd.R_alloc | apply Kd.R_drewN | apply Kd.R_drew)); exact Kd.R_mono HO_896002.out (fun _ hk => hk.2)⟩, ⟨bk_⟩, ⟨bk_⟩, ⟨bk_⟩, ⟨hb_⟩⟩
        ·rw [if_neg c15] at H
         exact absurd H (by simp)
       ·rw [if_neg c14] at H
        have c14b0 : (x9_2 == x7_1) = false := beq_eq_false_iff_ne.mpr c14
        have c14b1 : (x9_2 != x7_1) = true := bne_iff_ne.mpr c14
        by_cases c17 : x8_2.length < 17592186044416
        ·rw [if_pos c17] at H
         have LMc17 := Aside0.mk c17
         clear c17
         obtain ⟨y902, hy902⟩ : ∃ y_ : List Int, y_ = (x8_2 ++ [0]) := ⟨_, rfl⟩
         replace H : (spec_l05Begin.l1 k2 l1 (l0_1.length : Int) x7_1 y902 (wrap64 (x9_2 + 1)) l0_0 l0_1 x896000_1 1 x896002_1) = some (r1, r2, r3) := by first | (rw [hy902]; with_reducible exact H) | (have H2_ := (Option.bind_some _ _).symm.trans H; rw [hy902]; with_reducible exact H2_) | (have H2_ := (Option.bind_some _ _).symm.trans H; with_reducible exact H2_) | with_reducible exact H | (rw [hy902]; exact H) | exact H
         have Ny902 := Aside0.mk hy902
         clear hy902
         have H' := Aside0.mk H
         clear H
         go_wp2_with (first | ((with_reducible refine gate_builtin (b := .append) (xs := #[.tmp 32, .tmp 33]) rfl ?_); at_builtin; refine Kd.R_append (Kd.int .i64) (w0 := w) w.heap.size rfl (.tmp 32) (.tmp 33) 23 2 (.int .i64 0) 8 rfl Try.underlying23 info2 rfl (by decide) (by omega) u8 x8_2 0 [.int .i64 0] (fun k_ => some k_ ≠ (u896002 : Value).ownBlock) (fun _ => False) rfl rfl ?aP (fun _ hk => hk.elim) ?aF ?aO ?aB ?aS ?aL ?_; (case aP => exact rfl); (case aB => exact hb_); (case aF => exact (fun k_ hk => Kd.fresh' (Kd.R_lt (ro_ HO_896002.out)) k_ hk)); (case aO => exact (ro_ HO_8.out)); (case aS => exact bz_); (case aL => have := LMc17.out; omega); intro v903 w18 ho hb hg hat; rw [← Ny902.out] at ho; have n0_ := Aside0.mk (Kd.S_after (ok := (fun k_ => some k_ ≠ (u896002 : Value).ownBlock)) (by (with_reducible repeat (first | apply Kd.S_alloc | apply Kd.S_drewN | apply Kd.S_drew)); exact Kd.S_mono HO_896000.out (fun _ hk => ⟨hk.2, hk.1⟩)) hg hat); have n1_ := Aside0.mk (Kd.R_after (ok := (fun _ => True)) (by (with_reducible repeat (first | apply Kd.R_alloc | apply Kd.R_drewN | apply Kd.R_drew)); exact Kd.R_mono HO_896002.out (fun _ hk => ⟨trivial, hk⟩)) hg hat); have n2_ := Aside0.mk (bg_ BK893.out hg (Kd.R_ne HO_8.out BK893.out (by decide))); have n3_ := Aside0.mk (bg_ BK894.out hg (Kd.R_ne HO_8.out BK894.out (by decide))); have n4_ := Aside0.mk (bg_ BK895.out hg (Kd.R_ne HO_8.out BK895.out (by decide))); have n5_ := Aside0.mk (hb); have n6_ := Aside0.mk (ho); clear HO_896000; clear HO_896002; clear BK893; clear BK894; clear BK895; clear HB; clear HO_8; have HO_896000 := n0_; have HO_896002 := n1_; have BK893 := n2_; have BK894 := n3_; have BK895 := n4_; have HB := n5_; have HO904 := n6_; clear n0_ n1_ n2_ n3_ n4_ n5_ n6_; clear ho hb hg hat))
         go_roundg k2
         case measure => have := HK1.out; have := HK2.out; omega
         case rel => exact ⟨(y902), (wrap64 (x9_2 + 1)), rs_, H', ⟨by have := HK1.out; have := HK2.out; omega⟩, ⟨ro_ HO904.out⟩, ⟨by (with_reducible repeat (first | apply Kd.S_alloc | apply Kd.S_drewN | apply Kd.S_drew)); exact Kd.S_mono HO_896000.out (fun _ hk => ⟨hk.2, hk.1⟩)⟩, ⟨by (with_reducible repeat (first | apply Kd.R_alloc | apply Kd.R_drewN | apply Kd.R_drew)); exact Kd.R_mono HO_896002.out (fun _ hk => hk.2)⟩, ⟨bk_⟩, ⟨bk_⟩, ⟨bk_⟩, ⟨hb_⟩⟩
        ·rw [if_neg c17] at H
         exact absurd H (by simp)
      ·rw [if_neg c13] at H
       have c13b0 : decide (x9_2 < (l0_1.length : Int)) = false := decide_eq_false c13
       clear c13
       have H' := Aside0.mk H
       clear H
       go_wp2
       go_loopg [8, 10] k2 (fun kq v8 v10 w' => ∃ (x8_3 : List Int) (x10_3 : Int), v10 = .int .i64 x10_3 ∧ Aside0 (spec_l05Begin.l2 kq l1 (l0_1.length : Int) x7_1 x8_3 x10_3 l0_0 l0_1 x896000_1 1 x896002_1 = some (r1, r2, r3)) ∧ Aside0 (kq ≤ k2) ∧ Aside0 (Kd.R (Kd.int .i64) 2 w' w.heap.size (fun k_ => some k_ ≠ (u896002 : Value).ownBlock) v8 x8_3) ∧ Aside0 (Kd.S (Kd.slice 2 (Kd.int .i64)) 23 w' w.heap.size (fun k_ => some k_ ≠ (v8 : Value).ownBlock ∧ some k_ ≠ (u896002 : Value).ownBlock) u896000 x896000_1) ∧ Aside0 (Kd.R (Kd.int .i64) 2 w' w.heap.size (fun k_ => some k_ ≠ (v8 : Value).ownBlock) u896002 x896002_1) ∧ Aside0 (w'.heap[gb893]? = some (.cells #[(.slice A0_0 l0_0.length c0_0), (.slice A0_1 l0_1.length c0_1)] 29 (0, 0))) ∧ Aside0 (w'.heap[gb894]? = some (.cells #[(.slice none 0 0), .int .i64 0, (.slice none 0 0)] 101 (0, 0))) ∧ Aside0 (w'.heap[gb895]? = some (.cells #[u896000, .int .i64 1, u896002] 101 (0, 0))) ∧ Aside0 (Below w.heap.size w w'))
       case atStart => exact ⟨(x8_2), (0), rs_, H', ⟨Nat.le_refl _⟩, ⟨ro_ HO_8.out⟩, ⟨so_ HO_896000.out⟩, ⟨ro_ HO_896002.out⟩, ⟨bk_⟩, ⟨bk_⟩, ⟨bk_⟩, ⟨hb_⟩⟩
       case round =>
        clear H'
        try clear c1
        try clear p2
        try clear p6
        try clear c10
        try clear c10b0
        try clear c11
        try clear c13
        try clear c13b0
        try clear c14
        try clear c14b0
        try clear c14b1
        try clear c15
        try clear c17
        try clear p2
        obtain ⟨x8_3, x10_3, rfl, HA, HK3, HO_8, HO_896000, HO_896002, BK893, BK894, BK895, HB⟩ := hrel
        cases gk with
        | zero => exact absurd HA.out (by simp [spec_l05Begin.l2])
        | succ k3 =>
         have H := HA.out
         clear HA
         simp only [spec_l05Begin.l2] at H
         by_cases c19 : x10_3 < (l0_1.length : Int)
         ·rw [if_pos c19] at H
          have c19b0 : decide (x10_3 < (l0_1.length : Int)) = true := decide_eq_true c19
          clear c19
          by_cases c20 : 0 ≤ x7_1
          ·rw [if_pos c20] at H
           have c20b0 : decide (0 ≤ x7_1) = true := decide_eq_true c20
           clear c20
           by_cases c21 : x7_1 < (l0_0.length : Int)
           ·rw [if_pos c21] at H
            have c21b0 : decide (x7_1 < (l0_0.length : Int)) = true := decide_eq_true c21
            clear c21
            by_cases c22 : 0 ≤ x10_3
            ·rw [if_pos c22] at H
             have c22b0 : decide (0 ≤ x10_3) = true := decide_eq_true c22
             clear c22
             by_cases c23 : x10_3 < ((rd_L1 l0_0 x7_1).length : Int)
             ·rw [if_pos c23] at H
              have c23b0 : decide (x10_3 < ((rd_L1 l0_0 x7_1).length : Int)) = true := decide_eq_true c23
              clear c23
              by_cases c24 : x8_3.length < 17592186044416
              ·rw [if_pos c24] at H
               have LMc24 := Aside0.mk c24
               clear c24
               obtain ⟨y907, hy907⟩ : ∃ y_ : List Int, y_ = (x8_3 ++ [wrap64 (-(rd (rd_L1 l0_0 x7_1) x10_3))]) := ⟨_, rfl⟩
               replace H : (spec_l05Begin.l2 k3 l1 (l0_1.length : Int) x7_1 y907 (wrap64 (x10_3 + 1)) l0_0 l0_1 x896000_1 1 x896002_1) = some (r1, r2, r3) := by first | (rw [hy907]; with_reducible exact H) | (have H2_ := (Option.bind_some _ _).symm.trans H; rw [hy907]; with_reducible exact H2_) | (have H2_ := (Option.bind_some _ _).symm.trans H; with_reducible exact H2_) | with_reducible exact H | (rw [hy907]; exact H) | exact H
               have Ny907 := Aside0.mk hy907
               clear hy907
               have H' := Aside0.mk H
               clear H
               have hnb25 := NB893_894.out
               have hnc25 := NB894_893.out
               have hnb26 := NB893_895.out
               have hnc26 := NB895_893.out
               have hcz27_0 : wr.cell? ⟨gb893, 0, none⟩ = some (.slice A0_0 l0_0.length c0_0) := (blk_cell BK893.out 0).trans rfl
               have hcz27_1 : wr.cell? ⟨gb893, 1, none⟩ = some (.slice A0_1 l0_1.length c0_1) := (blk_cell BK893.out 1).trans rfl
               have hfz27_0 := blk_frozen BK893.out 0
               have hfz27_1 := blk_frozen BK893.out 1
               have p905 : 0 ≤ (x7_1 : Int) := od_
               have q905 : x7_1 < (l0_0.length : Int) := od_
               obtain ⟨ad905, A905_0, c905_0, e905, hx905_0, hl905_0, hi905_0⟩ := at_L1 HR0_0.out x7_1 p905 q905
               cases e905
               replace hx905_0 := (HB.out.cell (World.block_lt_of_cell? w _ hx905_0)).trans hx905_0
               have HR905_0 := Aside0.mk hi905_0
               have HC905_0 := Aside0.mk hl905_0
               clear hi905_0 hl905_0
               replace p905 := eq_true p905
               replace q905 := eq_true q905
               have p906 : 0 ≤ (x10_3 : Int) := od_
               have q906 : x10_3 < ((rd_L1 l0_0 x7_1).length : Int) := od_
               obtain ⟨ad906, e906, hx906_0⟩ := Kd.at_int HR905_0.out x10_3 p906 q906
               cases e906
               replace hx906_0 := (HB.out.cell (World.block_lt_of_cell? w _ hx906_0)).trans hx906_0
               replace p906 := eq_true p906
               replace q906 := eq_true q906
               go_wp2_with (first | ((with_reducible refine gate_builtin (b := .append) (xs := #[.tmp 40, .tmp 50]) rfl ?_); at_builtin; refine Kd.R_append (Kd.int .i64) (w0 := w) w.heap.size rfl (.tmp 40) (.tmp 50) 23 2 (.int .i64 0) 8 rfl Try.underlying23 info2 rfl (by decide) (by omega) u8 x8_3 (wrap64 (-(rd (rd_L1 l0_0 x7_1) x10_3))) [.int .i64 (wrap64 (-(rd (rd_L1 l0_0 x7_1) x10_3)))] (fun k_ => some k_ ≠ (u896002 : Value).ownBlock) (fun _ => False) rfl rfl ?aP (fun _ hk => hk.elim) ?aF ?aO ?aB ?aS ?aL ?_; (case aP => exact rfl); (case aB => exact hb_); (case aF => exact (fun k_ hk => Kd.fresh' (Kd.R_lt (ro_ HO_896002.out)) k_ hk)); (case aO => exact (ro_ HO_8.out)); (case aS => exact bz_); (case aL => have := LMc24.out; omega); intro v908 w28 ho hb hg hat; rw [← Ny907.out] at ho; have n0_ := Aside0.mk (Kd.S_after (ok := (fun k_ => some k_ ≠ (u896002 : Value).ownBlock)) (by (with_reducible repeat (first | apply Kd.S_alloc | apply Kd.S_drewN | apply Kd.S_drew)); exact Kd.S_mono HO_896000.out (fun _ hk => ⟨hk.2, hk.1⟩)) hg hat); have n1_ := Aside0.mk (Kd.R_after (ok := (fun _ => True)) (by (with_reducible repeat (first | apply Kd.R_alloc | apply Kd.R_drewN | apply Kd.R_drew)); exact Kd.R_mono HO_896002.out (fun _ hk => ⟨trivial, hk⟩)) hg hat); have n2_ := Aside0.mk (bg_ BK893.out hg (Kd.R_ne HO_8.out BK893.out (by decide))); have n3_ := Aside0.mk (bg_ BK894.out hg (Kd.R_ne HO_8.out BK894.out (by decide))); have n4_ := Aside0.mk (bg_ BK895.out hg (Kd.R_ne HO_8.out BK895.out (by decide))); have n5_ := Aside0.mk (hb); have n6_ := Aside0.mk (ho); clear HO_896000; clear HO_896002; clear BK893; clear BK894; clear BK895; clear HB; clear HO_8; have HO_896000 := n0_; have HO_896002 := n1_; have BK893 := n2_; have BK894 := n3_; have BK895 := n4_; have HB := n5_; have HO909 := n6_; clear n0_ n1_ n2_ n3_ n4_ n5_ n6_; clear ho hb hg hat))
               go_roundg k3
               case measure => have := HK1.out; have := HK2.out; have := HK3.out; omega
               case rel => exact ⟨(y907), (wrap64 (x10_3 + 1)), rs_, H', ⟨by have := HK1.out; have := HK2.out; have := HK3.out; omega⟩, ⟨ro_ HO909.out⟩, ⟨by (with_reducible repeat (first | apply Kd.S_alloc | apply Kd.S_drewN | apply Kd.S_drew)); exact Kd.S_mono HO_896000.out (fun _ hk => ⟨hk.2, hk.1⟩)⟩, ⟨by (with_reducible repeat (first | apply Kd.R_alloc | apply Kd.R_drewN | apply Kd.R_drew)); exact Kd.R_mono HO_896002.out (fun _ hk => hk.2)⟩, ⟨bk_⟩, ⟨bk_⟩, ⟨bk_⟩, ⟨hb_⟩⟩
              ·rw [if_neg c24] at H
               exact absurd H (by simp)
             ·rw [if_neg c23] at H
              exact absurd H (by simp)
            ·rw [if_neg c22] at H
             exact absurd H (by simp)
           ·rw [if_neg c21] at H
            exact absurd H (by simp)
          ·rw [if_neg c20] at H
           exact absurd H (by simp)
         ·rw [if_neg c19] at H
          have c19b0 : decide (x10_3 < (l0_1.length : Int)) = false := decide_eq_false c19
          clear c19
          by_cases c29 : (l1.length : Int) > 0
          ·rw [if_pos c29] at H
           have c29b0 : decide (0 < (l1.length : Int)) = true := decide_eq_true c29
           have c29b1 : decide (0 < l1.length) = true := decide_eq_true (by omega)
           clear c29
           by_cases c30 : 0 ≤ x7_1
           ·rw [if_pos c30] at H
            have c30b0 : decide (0 ≤ x7_1) = true := decide_eq_true c30
            clear c30
            by_cases c31 : x7_1 < (l1.length : Int)
            ·rw [if_pos c31] at H
             have c31b0 : decide (x7_1 < (l1.length : Int)) = true := decide_eq_true c31
             clear c31
             by_cases c32 : x8_3.length < 17592186044416
             ·rw [if_pos c32] at H
              have LMc32 := Aside0.mk c32
              clear c32
              obtain ⟨y911, hy911⟩ : ∃ y_ : List Int, y_ = (x8_3 ++ [wrap64 (-(rd l1 x7_1))]) := ⟨_, rfl⟩
              replace H : (if x7_1 < (l0_1.length : Int) then (if y911.length < 17592186044416 then (if x896000_1.length < 5864062014805 then (if x896002_1.length < 17592186044416 then (spec_l05Begin.l0 k3 l1 (l0_1.length : Int) (wrap64 (x7_1 + 1)) l0_0 l0_1 (x896000_1 ++ [(y911 ++ [rd l0_1 x7_1])]) 1 (x896002_1 ++ [x7_1])) else (none)) else (none)) else (none)) else (none)) = some (r1, r2, r3) := by first | (rw [hy911]; with_reducible exact H) | (have H2_ := (Option.bind_some _ _).symm.trans H; rw [hy911]; with_reducible exact H2_) | (have H2_ := (Option.bind_some _ _).symm.trans H; with_reducible exact H2_) | with_reducible exact H | (rw [hy911]; exact H) | exact H
              have Ny911 := Aside0.mk hy911
              clear hy911
              by_cases c33 : x7_1 < (l0_1.length : Int)
              ·rw [if_pos c33] at H
               have c33b0 : decide (x7_1 < (l0_1.length : Int)) = true := decide_eq_true c33
               clear c33
               by_cases c34 : y911.length < 17592186044416
               ·rw [if_pos c34] at H
                have LMc34 := Aside0.mk c34
                clear c34
                obtain ⟨y915, hy915⟩ : ∃ y_ : List Int, y_ = (y911 ++ [rd l0_1 x7_1]) := ⟨_, rfl⟩
                replace H : (if x896000_1.length < 5864062014805 then (if x896002_1.length < 17592186044416 then (spec_l05Begin.l0 k3 l1 (l0_1.length : Int) (wrap64 (x7_1 + 1)) l0_0 l0_1 (x896000_1 ++ [y915]) 1 (x896002_1 ++ [x7_1])) else (none)) else (none)) = some (r1, r2, r3) := by first | (rw [hy915]; with_reducible exact H) | (have H2_ := (Option.bind_some _ _).symm.trans H; rw [hy915]; with_reducible exact H2_) | (have H2_ := (Option.bind_some _ _).symm.trans H; with_reducible exact H2_) | with_reducible exact H | (rw [hy915]; exact H) | exact H
                have Ny915 := Aside0.mk hy915
                clear hy915
                by_cases c35 : x896000_1.length < 5864062014805
                ·rw [if_pos c35] at H
                 have LMc35 := Aside0.mk c35
                 clear c35
                 obtain ⟨y918, hy918⟩ : ∃ y_ : List (List Int), y_ = (x896000_1 ++ [y915]) := ⟨_, rfl⟩
                 replace H : (if x896002_1.length < 17592186044416 then (spec_l05Begin.l0 k3 l1 (l0_1.length : Int) (wrap64 (x7_1 + 1)) l0_0 l0_1 y918 1 (x896002_1 ++ [x7_1])) else (none)) = some (r1, r2, r3) := by first | (rw [hy918]; with_reducible exact H) | (have H2_ := (Option.bind_some _ _).symm.trans H; rw [hy918]; with_reducible exact H2_) | (have H2_ := (Option.bind_some _ _).symm.trans H; with_reducible exact H2_) | with_reducible exact H | (rw [hy918]; exact H) | exact H
                 have Ny918 := Aside0.mk hy918
                 clear hy918
                 by_cases c36 : x896002_1.length < 17592186044416
                 ·rw [if_pos c36] at H
                  have LMc36 := Aside0.mk c36
                  clear c36
                  obtain ⟨y921, hy921⟩ : ∃ y_ : List Int, y_ = (x896002_1 ++ [x7_1]) := ⟨_, rfl⟩
                  replace H : (spec_l05Begin.l0 k3 l1 (l0_1.length : Int) (wrap64 (x7_1 + 1)) l0_0 l0_1 y918 1 y921) = some (r1, r2, r3) := by first | (rw [hy921]; with_reducible exact H) | (have H2_ := (Option.bind_some _ _).symm.trans H; rw [hy921]; with_reducible exact H2_) | (have H2_ := (Option.bind_some _ _).symm.trans H; with_reducible exact H2_) | with_reducible exact H | (rw [hy921]; exact H) | exact H
                  have Ny921 := Aside0.mk hy921
                  clear hy921
                  have H' := Aside0.mk H
                  clear H
                  have p910 : 0 ≤ (x7_1 : Int) := od_
                  have q910 : x7_1 < (l1.length : Int) := od_
                  obtain ⟨ad910, e910, hx910_0⟩ := Kd.at_int HR1.out x7_1 p910 q910
                  cases e910
                  replace hx910_0 := (HB.out.cell (World.block_lt_of_cell? w _ hx910_0)).trans hx910_0
                  replace p910 := eq_true p910
                  replace q910 := eq_true q910
                  try go_wp2_with (first | ((with_reducible refine gate_builtin (b := .append) (xs := #[.tmp 55, .tmp 61]) rfl ?_); at_builtin; refine Kd.R_append (Kd.int .i64) (w0 := w) w.heap.size rfl (.tmp 55) (.tmp 61) 23 2 (.int .i64 0) 8 rfl Try.underlying23 info2 rfl (by decide) (by omega) u8 x8_3 (wrap64 (-(rd l1 x7_1))) [.int .i64 (wrap64 (-(rd l1 x7_1)))] (fun k_ => some k_ ≠ (u896002 : Value).ownBlock) (fun _ => False) rfl rfl ?aP (fun _ hk => hk.elim) ?aF ?aO ?aB ?aS ?aL ?_; (case aP => exact rfl); (case aB => exact hb_); (case aF => exact (fun k_ hk => Kd.fresh' (Kd.R_lt (ro_ HO_896002.out)) k_ hk)); (case aO => exact (ro_ HO_8.out)); (case aS => exact bz_); (case aL => have := LMc32.out; omega); intro v912 w37 ho hb hg hat; rw [← Ny911.out] at ho; have n0_ := Aside0.mk (Kd.S_after (ok := (fun k_ => some k_ ≠ (u896002 : Value).ownBlock)) (by (with_reducible repeat (first | apply Kd.S_alloc | apply Kd.S_drewN | apply Kd.S_drew)); exact Kd.S_mono HO_896000.out (fun _ hk => ⟨hk.2, hk.1⟩)) hg hat); have n1_ := Aside0.mk (Kd.R_after (ok := (fun _ => True)) (by (with_reducible repeat (first | apply Kd.R_alloc | apply Kd.R_drewN | apply Kd.R_drew)); exact Kd.R_mono HO_896002.out (fun _ hk => ⟨trivial, hk⟩)) hg hat); have n2_ := Aside0.mk (bg_ BK893.out hg (Kd.R_ne HO_8.out BK893.out (by decide))); have n3_ := Aside0.mk (bg_ BK894.out hg (Kd.R_ne HO_8.out BK894.out (by decide))); have n4_ := Aside0.mk (bg_ BK895.out hg (Kd.R_ne HO_8.out BK895.out (by decide))); have n5_ := Aside0.mk (hb); have n6_ := Aside0.mk (ho); clear HO_896000; clear HO_896002; clear BK893; clear BK894; clear BK895; clear HB; clear HO_8; have HO_896000 := n0_; have HO_896002 := n1_; have BK893 := n2_; have BK894 := n3_; have BK895 := n4_; have HB := n5_; have HO913 := n6_; clear n0_ n1_ n2_ n3_ n4_ n5_ n6_; clear ho hb hg hat))
                  have n0_ := Aside0.mk (Kd.S_drew HO_896000.out)
                  have n1_ := Aside0.mk (Kd.R_drew HO_896002.out)
                  have n2_ := Aside0.mk (Kd.R_drew HO913.out)
                  have n3_ := Aside0.mk (blk_drew BK893.out)
                  have n4_ := Aside0.mk (blk_drew BK894.out)
                  have n5_ := Aside0.mk (blk_drew BK895.out)
                  have n6_ := Aside0.mk (below_drew1 HB.out)
                  clear HO_896000
                  clear HO_896002
                  clear HO913
                  clear BK893
                  clear BK894
                  clear BK895
                  clear HB
                  have HO_896000 := n0_
                  have HO_896002 := n1_
                  have HO913 := n2_
                  have BK893 := n3_
                  have BK894 := n4_
                  have BK895 := n5_
                  have HB := n6_
                  clear n0_ n1_ n2_ n3_ n4_ n5_ n6_
                  have p914 : 0 ≤ (x7_1 : Int) := od_
                  have q914 : x7_1 < (l0_1.length : Int) := od_
                  obtain ⟨ad914, e914, hx914_0⟩ := Kd.at_int HR0_1.out x7_1 p914 q914
                  have hw914_0 := hx914_0
                  cases e914
                  replace hx914_0 := (HB.out.cell (World.block_lt_of_cell? w _ hx914_0)).trans hx914_0
                  replace p914 := eq_true p914
                  replace q914 := eq_true q914
                  refine st_ (n := 14) (S := fun w' => w'.cell? ⟨gb895, 0, none⟩ = some (u896000) ∧ w'.cell? ⟨gb895, 1, none⟩ = some (.int .i64 1) ∧ w'.cell? ⟨gb895, 2, none⟩ = some (u896002) ∧ w'.cell? ⟨gb893, 0, none⟩ = some (.slice A0_0 l0_0.length c0_0) ∧ w'.cell? ⟨gb893, 1, none⟩ = some (.slice (some ad914) l0_1.length c0_1) ∧ w'.cell? (ad914.add (x7_1).toNat) = some (.int .i64 (rd l0_1 x7_1))) (ds := [13]) ⟨(blk_cell BK895.out 0).trans rfl, (blk_cell BK895.out 1).trans rfl, (blk_cell BK895.out 2).trans rfl, (blk_cell BK893.out 0).trans rfl, (blk_cell BK893.out 1).trans rfl, ((HB.out.cell (World.block_lt_of_cell? w _ hw914_0)).trans hw914_0)⟩ (fun hHeld => ?_); refine with_tabW spec_l05Begin.tab18 spec_l05Begin.bits18 (fun HT_ HW_ => ?_)
                  generalize w37.drew = w38 at HO_896000 HO_896002 HO913 BK893 BK894 BK895 HB hx914_0 hHeld ⊢
                  refine pu_ 0 63 ?_; refine pu_ 2 65 ?_; refine pu_ 3 66 ?_; refine pu_ 5 68 ?_; refine tk_ 1 64 ?_; refine tk_ 4 67 ?_; refine pu_ 6 69 ?_; refine tk_ 7 70 ?_
                  refine on_ 8 (some 71) (fun K hK => ?_)
                  refine value_ (w1 := ?_) (v := ?_) (by rfl) rfl ?_ ?_
                  rotate_left 2
                  ·go_simp
                   constructor
                   ·rfl
                   ·rfl
                  refine hK.out _ _ ⟨(blk_cell (blk_alloc BK895.out _) 0).trans rfl, (blk_cell (blk_alloc BK895.out _) 1).trans rfl, (blk_cell (blk_alloc BK895.out _) 2).trans rfl, (blk_cell (blk_alloc BK893.out _) 0).trans rfl, (blk_cell (blk_alloc BK893.out _) 1).trans rfl, (World.cell?_alloc_lt _ _ _ (World.block_lt_of_cell? _ _ (((HB.out.cell (World.block_lt_of_cell? w _ hw914_0)).trans hw914_0)))).trans (((HB.out.cell (World.block_lt_of_cell? w _ hw914_0)).trans hw914_0))⟩ (fun hHeld => ?_)
                  clear hK K
                  refine norm_ (a' := ?_) ?_ ?_
                  rotate_left
                  ·show Act.put _ (some 71) _ = _
                   simp only [Act.put, List.setIfInBounds_toArray, List.set_cons_zero, List.set_cons_succ, i64_w, i32_w]
                   rfl
                  refine on_ 9 (some 72) (fun K hK => ?_)
                  refine Kd.R_append_step (Kd.int .i64) (w0 := w) w.heap.size (by rfl) (.tmp 65) (.tmp 71) 23 2 (.int .i64 0) 8 rfl Try.underlying23 info2 rfl (by decide) (by omega) v912 y911 (rd l0_1 x7_1) [.int .i64 (rd l0_1 x7_1)] (fun k_ => some k_ ≠ (u896002 : Value).ownBlock) (fun _ => False) rfl rfl ?aP (fun _ hk => hk.elim) ?aF ?aO ?aB ?aS ?aL ?_
                  (case aP => exact rfl)
                  (case aB => exact hb_)
                  (case aF => exact (fun k_ hk => Kd.fresh' (Kd.R_lt (ro_ HO_896002.out)) k_ hk))
                  (case aO => exact (ro_ HO913.out))
                  (case aS => exact bz_)
                  (case aL => have := LMc34.out; omega)
                  intro v916 w39 ho hb hg hat
                  rw [← Ny915.out] at ho
                  have n0_ := Aside0.mk (Kd.S_after (ok := (fun k_ => some k_ ≠ (u896002 : Value).ownBlock)) (so_ HO_896000.out) hg hat)
                  have n1_ := Aside0.mk (Kd.R_after (ok := (fun _ => True)) (ro_ HO_896002.out) hg hat)
                  have n2_ := Aside0.mk (bg_ BK893.out hg (Kd.R_ne HO913.out BK893.out (by decide)))
                  have n3_ := Aside0.mk (bg_ BK894.out hg (Kd.R_ne HO913.out BK894.out (by decide)))
                  have n4_ := Aside0.mk (bg_ BK895.out hg (Kd.R_ne HO913.out BK895.out (by decide)))
                  have n5_ := Aside0.mk (hb)
                  have n6_ := Aside0.mk (ho)
                  clear HO_896000
                  clear HO_896002
                  clear BK893
                  clear BK894
                  clear BK895
                  clear HB
                  clear HO913
                  have HO_896000 := n0_
                  have HO_896002 := n1_
                  have BK893 := n2_
                  have BK894 := n3_
                  have BK895 := n4_
                  have HB := n5_
                  have HO917 := n6_
                  clear n0_ n1_ n2_ n3_ n4_ n5_ n6_
                  clear ho hb hg hat
                  obtain ⟨Ao41, co41, eo41⟩ := Kd.R_slice HO917.out
                  (first | subst eo41 | (injection eo41 with f1_ f2_ f3_; have f4_ := f1_.symm; have f5_ := f3_.symm; clear f1_ f2_ f3_; subst f4_; subst f5_))
                  refine hK.out _ _ ⟨(blk_cell BK895.out 0).trans rfl, (blk_cell BK895.out 1).trans rfl, (blk_cell BK895.out 2).trans rfl, (blk_cell BK893.out 0).trans rfl, (blk_cell BK893.out 1).trans rfl, ((HB.out.cell (World.block_lt_of_cell? w _ hw914_0)).trans hw914_0)⟩ (fun hHeld => ?_)
                  clear hK K
                  refine norm_ (a' := ?_) ?_ ?_
                  rotate_left
                  ·show Act.put _ (some 72) _ = _
                   simp only [Act.put, List.setIfInBounds_toArray, List.set_cons_zero, List.set_cons_succ, i64_w, i32_w]
                   rfl
                  refine on_ 10 (some 73) (fun K hK => ?_)
                  refine value_ (w1 := ?_) (v := ?_) (by rfl) rfl ?_ ?_
                  rotate_left 2
                  ·go_simp
                   constructor
                   ·rfl
                   ·rfl
                  refine hK.out _ _ ⟨(blk_cell (blk_alloc BK895.out _) 0).trans rfl, (blk_cell (blk_alloc BK895.out _) 1).trans rfl, (blk_cell (blk_alloc BK895.out _) 2).trans rfl, (blk_cell (blk_alloc BK893.out _) 0).trans rfl, (blk_cell (blk_alloc BK893.out _) 1).trans rfl, (World.cell?_alloc_lt _ _ _ (World.block_lt_of_cell? _ _ (((HB.out.cell (World.block_lt_of_cell? w _ hw914_0)).trans hw914_0)))).trans (((HB.out.cell (World.block_lt_of_cell? w _ hw914_0)).trans hw914_0))⟩ (fun hHeld => ?_)
                  clear hK K
                  refine norm_ (a' := ?_) ?_ ?_
                  rotate_left
                  ·show Act.put _ (some 73) _ = _
                   simp only [Act.put, List.setIfInBounds_toArray, List.set_cons_zero, List.set_cons_succ, i64_w, i32_w]
                   rfl
                  refine on_ 11 (some 74) (fun K hK => ?_)
                  refine Kd.S_append_step (Kd.slice 2 (Kd.int .i64)) (w0 := w) w.heap.size (by rfl) (.tmp 64) (.tmp 73) 22 23 (.slice none 0 0) 24 rfl Try.underlying22 info23 rfl (by decide) (by omega) u896000 x896000_1 y915 [.slice Ao41 y915.length co41] (fun k_ => some k_ ≠ (u896002 : Value).ownBlock) (fun k_ => some k_ = (.slice Ao41 y915.length co41 : Value).ownBlock) rfl rfl ?aP (fun k_ hk_ => ((Kd.R_mono (ok' := fun k_ => ((fun k_ => some k_ ≠ (u896002 : Value).ownBlock)) k_ ∧ some k_ ≠ (u896000 : Value).ownBlock) (Kd.R_apart' (HO917.out) (Kd.S_typed HO_896000.out) (by decide)) (fun k_ hk => ⟨hk.1, hk.2⟩))).1 k_ hk_.symm) ?aF ?aO ?aB ?aS ?aL ?_
                  (case aP => exact Kd.M_row (Kd.R_mono (Kd.R_tight rfl (Kd.R_mono (ok' := fun k_ => ((fun k_ => some k_ ≠ (u896002 : Value).ownBlock)) k_ ∧ some k_ ≠ (u896000 : Value).ownBlock) (Kd.R_apart' (HO917.out) (Kd.S_typed HO_896000.out) (by decide)) (fun k_ hk => ⟨hk.1, hk.2⟩))) (fun _ h_ => h_)))
                  (case aB => exact hb_)
                  (case aF => exact (fun k_ hk => Kd.fresh' (Kd.R_lt (ro_ HO_896002.out)) k_ hk))
                  (case aO => exact (by (with_reducible repeat (first | apply Kd.S_alloc | apply Kd.S_drewN | apply Kd.S_drew)); exact Kd.S_mono HO_896000.out (fun k_ hk => ⟨hk.1, fun e_ => hk.2 e_⟩)))
                  (case aS => exact bz_)
                  (case aL => have := LMc35.out; omega)
                  intro v919 w40 ho hb hg hat
                  rw [← Ny918.out] at ho
                  have n0_ := Aside0.mk (Kd.R_over' (ro_ HO_896002.out) (Kd.S_typed (so_ HO_896000.out)) (by decide) hg)
                  have n1_ := Aside0.mk (bg_ BK893.out hg (Kd.S_ne HO_896000.out BK893.out (by decide)))
                  have n2_ := Aside0.mk (bg_ BK894.out hg (Kd.S_ne HO_896000.out BK894.out (by decide)))
                  have n3_ := Aside0.mk (bg_ BK895.out hg (Kd.S_ne HO_896000.out BK895.out (by decide)))
                  have n4_ := Aside0.mk (hb)
                  have n5_ := Aside0.mk (ho)
                  clear HO_896002
                  clear BK893
                  clear BK894
                  clear BK895
                  clear HB
                  clear HO_896000
                  clear HO917
                  have HO_896002 := n0_
                  have BK893 := n1_
                  have BK894 := n2_
                  have BK895 := n3_
                  have HB := n4_
                  have HO920 := n5_
                  clear n0_ n1_ n2_ n3_ n4_ n5_
                  clear ho hb hg hat
                  obtain ⟨Ao42, co42, eo42⟩ := Kd.S_slice HO920.out
                  (first | subst eo42 | (injection eo42 with f1_ f2_ f3_; have f4_ := f1_.symm; have f5_ := f3_.symm; clear f1_ f2_ f3_; subst f4_; subst f5_))
                  refine hK.out _ _ ⟨(blk_cell BK895.out 0).trans rfl, (blk_cell BK895.out 1).trans rfl, (blk_cell BK895.out 2).trans rfl, (blk_cell BK893.out 0).trans rfl, (blk_cell BK893.out 1).trans rfl, ((HB.out.cell (World.block_lt_of_cell? w _ hw914_0)).trans hw914_0)⟩ (fun hHeld => ?_)
                  clear hK K
                  refine norm_ (a' := ?_) ?_ ?_
                  rotate_left
                  ·show Act.put _ (some 74) _ = _
                   simp only [Act.put, List.setIfInBounds_toArray, List.set_cons_zero, List.set_cons_succ, i64_w, i32_w]
                   rfl
                  refine pu_ 12 75 ?_
                  refine la_ 13 none (fun K hK => ?_)
                  have hs43 : w40.cell? ⟨gb895, 0, none⟩ = some (u896000) := (blk_cell BK895.out 0).trans rfl
                  have hfs43 := blk_frozen BK895.out 0
                  have hns43_0 := NB893_895.out
                  have hns43_1 := NB894_895.out
                  have hms43_0 := NB895_893.out
                  have hms43_1 := NB895_894.out
                  refine skip_ (w1 := ?_) (by rfl) rfl ?_ ?_
                  rotate_left
                  ·go_simp
                   rfl
                  refine hK.out _ _ ?_
                  clear hK K
                  refine done_ (done_of HT_.out (by kernel_rfl)) ?_
                  have hnb44 := NB895_893.out
                  have hnc44 := NB893_895.out
                  have hnb45 := NB895_894.out
                  have hnc45 := NB894_895.out
                  have hcz46_0 : w40.cell? ⟨gb895, 0, none⟩ = some (u896000) := (blk_cell BK895.out 0).trans rfl
                  have hcz46_1 : w40.cell? ⟨gb895, 1, none⟩ = some (.int .i64 1) := (blk_cell BK895.out 1).trans rfl
                  have hcz46_2 : w40.cell? ⟨gb895, 2, none⟩ = some (u896002) := (blk_cell BK895.out 2).trans rfl
                  have hfz46_0 := blk_frozen BK895.out 0
                  have hfz46_1 := blk_frozen BK895.out 1
                  have hfz46_2 := blk_frozen BK895.out 2
                  try go_wp2_with (first | ((with_reducible refine gate_builtin (b := .append) (xs := #[.tmp 77, .tmp 79]) rfl ?_); at_builtin; refine Kd.R_append (Kd.int .i64) (w0 := w) w.heap.size rfl (.tmp 77) (.tmp 79) 23 2 (.int .i64 0) 8 rfl Try.underlying23 info2 rfl (by decide) (by omega) u896002 x896002_1 x7_1 [.int .i64 x7_1] (fun _ => True) (fun _ => False) rfl (by first | (go_simp; done) | (go_simp; rfl)) ?aP (fun _ hk => hk.elim) ?aF ?aO ?aB ?aS ?aL ?_; (case aP => exact rfl); (case aB => exact hb_); (case aF => exact (fun _ _ => trivial)); (case aO => exact (by (with_reducible repeat (first | apply Kd.R_alloc | apply Kd.R_drewN | apply Kd.R_drew)); exact Kd.R_mono (Kd.R_far (p := ⟨gb895, 0, none⟩) (Kd.R_types HO_896002.out BK895.out (by decide)) (fun _ hk => hk.2) (.slice Ao42 y918.length co42)) (fun _ hk => trivial))); (case aS => exact bz_); (case aL => have := LMc36.out; omega); intro v922 w47 ho hb hg hat; rw [← Ny921.out] at ho; have n0_ := Aside0.mk (blk_grown (g := gb893) (o := .cells #[.slice A0_0 l0_0.length c0_0, .slice (some ad914) l0_1.length c0_1] 29 (0, 0)) (by (with_reducible repeat (first | refine blk_drewN ?_ _ | refine blk_drew ?_ | refine blk_alloc ?_ _)); refine blk_far ?_ NB893_895.out _; (with_reducible repeat (first | refine blk_drewN ?_ _ | refine blk_drew ?_ | refine blk_alloc ?_ _)); exact BK893.out) hg (Kd.R_ne HO_896002.out BK893.out (by decide))); have n1_ := Aside0.mk (blk_grown (g := gb894) (o := .cells #[.slice none 0 0, .int .i64 0, .slice none 0 0] 101 (0, 0)) (by (with_reducible repeat (first | refine blk_drewN ?_ _ | refine blk_drew ?_ | refine blk_alloc ?_ _)); refine blk_far ?_ NB894_895.out _; (with_reducible repeat (first | refine blk_drewN ?_ _ | refine blk_drew ?_ | refine blk_alloc ?_ _)); exact BK894.out) hg (Kd.R_ne HO_896002.out BK894.out (by decide))); have n2_ := Aside0.mk (blk_grown (g := gb895) (o := .cells #[.slice Ao42 y918.length co42, .int .i64 1, u896002] 101 (0, 0)) (by (with_reducible repeat (first | refine blk_drewN ?_ _ | refine blk_drew ?_ | refine blk_alloc ?_ _)); refine blk_put (cs := #[u896000, .int .i64 1, u896002]) ?_ 0 _ rfl; (with_reducible repeat (first | refine blk_drewN ?_ _ | refine blk_drew ?_ | refine blk_alloc ?_ _)); exact BK895.out) hg (Kd.R_ne HO_896002.out BK895.out (by decide))); have n3_ := Aside0.mk (Kd.S_after (ok := (fun _ => True)) (by (with_reducible repeat (first | apply Kd.S_alloc | apply Kd.S_drewN | apply Kd.S_drew)); exact Kd.S_mono (Kd.S_far (p := ⟨gb895, 0, none⟩) (Kd.S_types HO920.out BK895.out (by decide)) (fun _ hk => hk.2) (.slice Ao42 y918.length co42)) (fun _ hk => ⟨trivial, hk.1⟩)) hg hat); have n4_ := Aside0.mk (hb); have n5_ := Aside0.mk (ho); clear BK893; clear BK894; clear BK895; clear HO920; clear HB; clear HO_896002; have BK893 := n0_; have BK894 := n1_; have BK895 := n2_; have HO920 := n3_; have HB := n4_; have HO923 := n5_; clear n0_ n1_ n2_ n3_ n4_ n5_; clear ho hb hg hat; obtain ⟨Ao48, co48, eo48⟩ := Kd.R_slice HO923.out; subst eo48; have hcz49_0 : w47.cell? ⟨gb895, 0, none⟩ = some (.slice Ao42 y918.length co42) := (blk_cell BK895.out 0).trans rfl; have hcz49_1 : w47.cell? ⟨gb895, 1, none⟩ = some (.int .i64 1) := (blk_cell BK895.out 1).trans rfl; have hcz49_2 : w47.cell? ⟨gb895, 2, none⟩ = some (u896002) := (blk_cell BK895.out 2).trans rfl; have hfz49_0 := blk_frozen BK895.out 0; have hfz49_1 := blk_frozen BK895.out 1; have hfz49_2 := blk_frozen BK895.out 2))
                  go_roundg k3
                  case measure => have := HK1.out; have := HK2.out; have := HK3.out; omega
                  case rel => exact ⟨(wrap64 (x7_1 + 1)), (y918), (y921), (.slice Ao42 y918.length co42), (.slice Ao48 y921.length co48), rs_, H', ⟨by have := HK1.out; have := HK2.out; have := HK3.out; omega⟩, ⟨by (with_reducible repeat (first | apply Kd.S_alloc | apply Kd.S_drewN | apply Kd.S_drew)); exact Kd.S_mono (Kd.S_far (p := ⟨gb895, 2, none⟩) (Kd.S_types HO920.out BK895.out (by decide)) (fun _ hk => hk.2) (.slice Ao48 y921.length co48)) (fun _ hk => hk.1.2)⟩, ⟨by (with_reducible repeat (first | apply Kd.R_alloc | apply Kd.R_drewN | apply Kd.R_drew)); exact Kd.R_mono (Kd.R_far (p := ⟨gb895, 2, none⟩) (Kd.R_types HO923.out BK895.out (by decide)) (fun _ hk => hk.2) (.slice Ao48 y921.length co48)) (fun _ hk => trivial)⟩, ⟨by (with_reducible repeat (first | refine blk_drewN ?_ _ | refine blk_drew ?_ | refine blk_alloc ?_ _)); refine blk_far ?_ NB893_895.out _; (with_reducible repeat (first | refine blk_drewN ?_ _ | refine blk_drew ?_ | refine blk_alloc ?_ _)); exact BK893.out⟩, ⟨by (with_reducible repeat (first | refine blk_drewN ?_ _ | refine blk_drew ?_ | refine blk_alloc ?_ _)); refine blk_far ?_ NB894_895.out _; (with_reducible repeat (first | refine blk_drewN ?_ _ | refine blk_drew ?_ | refine blk_alloc ?_ _)); exact BK894.out⟩, ⟨by (with_reducible repeat (first | refine blk_drewN ?_ _ | refine blk_drew ?_ | refine blk_alloc ?_ _)); refine blk_put (cs := #[.slice Ao42 y918.length co42, .int .i64 1, u896002]) ?_ 2 _ rfl; (with_reducible repeat (first | refine blk_drewN ?_ _ | refine blk_drew ?_ | refine blk_alloc ?_ _)); exact BK895.out⟩, ⟨hb_⟩⟩
                 ·rw [if_neg c36] at H
                  exact absurd H (by simp)
                ·rw [if_neg c35] at H
                 exact absurd H (by simp)
               ·rw [if_neg c34] at H
                exact absurd H (by simp)
              ·rw [if_neg c33] at H
               exact absurd H (by simp)
             ·rw [if_neg c32] at H
              exact absurd H (by simp)
            ·rw [if_neg c31] at H
             exact absurd H (by simp)
           ·rw [if_neg c30] at H
            exact absurd H (by simp)
          ·rw [if_neg c29] at H
           have c29b0 : decide (0 < (l1.length : Int)) = false := decide_eq_false c29
           have c29b1 : decide (0 < l1.length) = false := decide_eq_false (by omega)
           clear c29
           by_cases c50 : 0 ≤ x7_1
           ·rw [if_pos c50] at H
            have c50b0 : decide (0 ≤ x7_1) = true := decide_eq_true c50
            clear c50
            by_cases c51 : x7_1 < (l0_1.length : Int)
            ·rw [if_pos c51] at H
             have c51b0 : decide (x7_1 < (l0_1.length : Int)) = true := decide_eq_true c51
             clear c51
             by_cases c52 : x8_3.length < 17592186044416
             ·rw [if_pos c52] at H
              have LMc52 := Aside0.mk c52
              clear c52
              obtain ⟨y925, hy925⟩ : ∃ y_ : List Int, y_ = (x8_3 ++ [rd l0_1 x7_1]) := ⟨_, rfl⟩
              replace H : (if x896000_1.length < 5864062014805 then (if x896002_1.length < 17592186044416 then (spec_l05Begin.l0 k3 l1 (l0_1.length : Int) (wrap64 (x7_1 + 1)) l0_0 l0_1 (x896000_1 ++ [y925]) 1 (x896002_1 ++ [x7_1])) else (none)) else (none)) = some (r1, r2, r3) := by first | (rw [hy925]; with_reducible exact H) | (have H2_ := (Option.bind_some _ _).symm.trans H; rw [hy925]; with_reducible exact H2_) | (have H2_ := (Option.bind_some _ _).symm.trans H; with_reducible exact H2_) | with_reducible exact H | (rw [hy925]; exact H) | exact H
              have Ny925 := Aside0.mk hy925
              clear hy925
              by_cases c53 : x896000_1.length < 5864062014805
              ·rw [if_pos c53] at H
               have LMc53 := Aside0.mk c53
               clear c53
               obtain ⟨y928, hy928⟩ : ∃ y_ : List (List Int), y_ = (x896000_1 ++ [y925]) := ⟨_, rfl⟩
               replace H : (if x896002_1.length < 17592186044416 then (spec_l05Begin.l0 k3 l1 (l0_1.length : Int) (wrap64 (x7_1 + 1)) l0_0 l0_1 y928 1 (x896002_1 ++ [x7_1])) else (none)) = some (r1, r2, r3) := by first | (rw [hy928]; with_reducible exact H) | (have H2_ := (Option.bind_some _ _).symm.trans H; rw [hy928]; with_reducible exact H2_) | (have H2_ := (Option.bind_some _ _).symm.trans H; with_reducible exact H2_) | with_reducible exact H | (rw [hy928]; exact H) | exact H
               have Ny928 := Aside0.mk hy928
               clear hy928
               by_cases c54 : x896002_1.length < 17592186044416
               ·rw [if_pos c54] at H
                have LMc54 := Aside0.mk c54
                clear c54
                obtain ⟨y931, hy931⟩ : ∃ y_ : List Int, y_ = (x896002_1 ++ [x7_1]) := ⟨_, rfl⟩
                replace H : (spec_l05Begin.l0 k3 l1 (l0_1.length : Int) (wrap64 (x7_1 + 1)) l0_0 l0_1 y928 1 y931) = some (r1, r2, r3) := by first | (rw [hy931]; with_reducible exact H) | (have H2_ := (Option.bind_some _ _).symm.trans H; rw [hy931]; with_reducible exact H2_) | (have H2_ := (Option.bind_some _ _).symm.trans H; with_reducible exact H2_) | with_reducible exact H | (rw [hy931]; exact H) | exact H
                have Ny931 := Aside0.mk hy931
                clear hy931
                have H' := Aside0.mk H
                clear H
                try go_wp2
                have n0_ := Aside0.mk (Kd.R_drew HO_8.out)
                have n1_ := Aside0.mk (Kd.S_drew HO_896000.out)
                have n2_ := Aside0.mk (Kd.R_drew HO_896002.out)
                have n3_ := Aside0.mk (blk_drew BK893.out)
                have n4_ := Aside0.mk (blk_drew BK894.out)
                have n5_ := Aside0.mk (blk_drew BK895.out)
                have n6_ := Aside0.mk (below_drew1 HB.out)
                clear HO_8
                clear HO_896000
                clear HO_896002
                clear BK893
                clear BK894
                clear BK895
                clear HB
                have HO_8 := n0_
                have HO_896000 := n1_
                have HO_896002 := n2_
                have BK893 := n3_
                have BK894 := n4_
                have BK895 := n5_
                have HB := n6_
                clear n0_ n1_ n2_ n3_ n4_ n5_ n6_
                have p924 : 0 ≤ (x7_1 : Int) := od_
                have q924 : x7_1 < (l0_1.length : Int) := od_
                obtain ⟨ad924, e924, hx924_0⟩ := Kd.at_int HR0_1.out x7_1 p924 q924
                have hw924_0 := hx924_0
                cases e924
                replace hx924_0 := (HB.out.cell (World.block_lt_of_cell? w _ hx924_0)).trans hx924_0
                replace p924 := eq_true p924
                replace q924 := eq_true q924
                refine st_ (n := 14) (S := fun w' => w'.cell? ⟨gb895, 0, none⟩ = some (u896000) ∧ w'.cell? ⟨gb895, 1, none⟩ = some (.int .i64 1) ∧ w'.cell? ⟨gb895, 2, none⟩ = some (u896002) ∧ w'.cell? ⟨gb893, 0, none⟩ = some (.slice A0_0 l0_0.length c0_0) ∧ w'.cell? ⟨gb893, 1, none⟩ = some (.slice (some ad924) l0_1.length c0_1) ∧ w'.cell? (ad924.add (x7_1).toNat) = some (.int .i64 (rd l0_1 x7_1))) (ds := [13]) ⟨(blk_cell BK895.out 0).trans rfl, (blk_cell BK895.out 1).trans rfl, (blk_cell BK895.out 2).trans rfl, (blk_cell BK893.out 0).trans rfl, (blk_cell BK893.out 1).trans rfl, ((HB.out.cell (World.block_lt_of_cell? w _ hw924_0)).trans hw924_0)⟩ (fun hHeld => ?_); refine with_tabW spec_l05Begin.tab18 spec_l05Begin.bits18 (fun HT_ HW_ => ?_)
                generalize wr.drew = w55 at HO_8 HO_896000 HO_896002 BK893 BK894 BK895 HB hx924_0 hHeld ⊢
                refine pu_ 0 63 ?_; refine pu_ 2 65 ?_; refine pu_ 3 66 ?_; refine pu_ 5 68 ?_; refine tk_ 1 64 ?_; refine tk_ 4 67 ?_; refine pu_ 6 69 ?_; refine tk_ 7 70 ?_
                refine on_ 8 (some 71) (fun K hK => ?_)
                refine value_ (w1 := ?_) (v := ?_) (by rfl) rfl ?_ ?_
                rotate_left 2
                ·go_simp
                 constructor
                 ·rfl
                 ·rfl
                refine hK.out _ _ ⟨(blk_cell (blk_alloc BK895.out _) 0).trans rfl, (blk_cell (blk_alloc BK895.out _) 1).trans rfl, (blk_cell (blk_alloc BK895.out _) 2).trans rfl, (blk_cell (blk_alloc BK893.out _) 0).trans rfl, (blk_cell (blk_alloc BK893.out _) 1).trans rfl, (World.cell?_alloc_lt _ _ _ (World.block_lt_of_cell? _ _ (((HB.out.cell (World.block_lt_of_cell? w _ hw924_0)).trans hw924_0)))).trans (((HB.out.cell (World.block_lt_of_cell? w _ hw924_0)).trans hw924_0))⟩ (fun hHeld => ?_)
                clear hK K
                refine norm_ (a' := ?_) ?_ ?_
                rotate_left
                ·show Act.put _ (some 71) _ = _
                 simp only [Act.put, List.setIfInBounds_toArray, List.set_cons_zero, List.set_cons_succ, i64_w, i32_w]
                 rfl
                refine on_ 9 (some 72) (fun K hK => ?_)
                refine Kd.R_append_step (Kd.int .i64) (w0 := w) w.heap.size (by rfl) (.tmp 65) (.tmp 71) 23 2 (.int .i64 0) 8 rfl Try.underlying23 info2 rfl (by decide) (by omega) u8 x8_3 (rd l0_1 x7_1) [.int .i64 (rd l0_1 x7_1)] (fun k_ => some k_ ≠ (u896002 : Value).ownBlock) (fun _ => False) rfl rfl ?aP (fun _ hk => hk.elim) ?aF ?aO ?aB ?aS ?aL ?_
                (case aP => exact rfl)
                (case aB => exact hb_)
                (case aF => exact (fun k_ hk => Kd.fresh' (Kd.R_lt (ro_ HO_896002.out)) k_ hk))
                (case aO => exact (ro_ HO_8.out))
                (case aS => exact bz_)
                (case aL => have := LMc52.out; omega)
                intro v926 w56 ho hb hg hat
                rw [← Ny925.out] at ho
                have n0_ := Aside0.mk (Kd.S_after (ok := (fun k_ => some k_ ≠ (u896002 : Value).ownBlock)) (by (with_reducible repeat (first | apply Kd.S_alloc | apply Kd.S_drewN | apply Kd.S_drew)); exact Kd.S_mono HO_896000.out (fun _ hk => ⟨hk.2, hk.1⟩)) hg hat)
                have n1_ := Aside0.mk (Kd.R_after (ok := (fun _ => True)) (by (with_reducible repeat (first | apply Kd.R_alloc | apply Kd.R_drewN | apply Kd.R_drew)); exact Kd.R_mono HO_896002.out (fun _ hk => ⟨trivial, hk⟩)) hg hat)
                have n2_ := Aside0.mk (bg_ BK893.out hg (Kd.R_ne HO_8.out BK893.out (by decide)))
                have n3_ := Aside0.mk (bg_ BK894.out hg (Kd.R_ne HO_8.out BK894.out (by decide)))
                have n4_ := Aside0.mk (bg_ BK895.out hg (Kd.R_ne HO_8.out BK895.out (by decide)))
                have n5_ := Aside0.mk (hb)
                have n6_ := Aside0.mk (ho)
                clear HO_896000
                clear HO_896002
                clear BK893
                clear BK894
                clear BK895
                clear HB
                clear HO_8
                have HO_896000 := n0_
                have HO_896002 := n1_
                have BK893 := n2_
                have BK894 := n3_
                have BK895 := n4_
                have HB := n5_
                have HO927 := n6_
                clear n0_ n1_ n2_ n3_ n4_ n5_ n6_
                clear ho hb hg hat
                obtain ⟨Ao58, co58, eo58⟩ := Kd.R_slice HO927.out
                (first | subst eo58 | (injection eo58 with f1_ f2_ f3_; have f4_ := f1_.symm; have f5_ := f3_.symm; clear f1_ f2_ f3_; subst f4_; subst f5_))
                refine hK.out _ _ ⟨(blk_cell BK895.out 0).trans rfl, (blk_cell BK895.out 1).trans rfl, (blk_cell BK895.out 2).trans rfl, (blk_cell BK893.out 0).trans rfl, (blk_cell BK893.out 1).trans rfl, ((HB.out.cell (World.block_lt_of_cell? w _ hw924_0)).trans hw924_0)⟩ (fun hHeld => ?_)
                clear hK K
                refine norm_ (a' := ?_) ?_ ?_
                rotate_left
                ·show Act.put _ (some 72) _ = _
                 simp only [Act.put, List.setIfInBounds_toArray, List.set_cons_zero, List.set_cons_succ, i64_w, i32_w]
                 rfl
                refine on_ 10 (some 73) (fun K hK => ?_)
                refine value_ (w1 := ?_) (v := ?_) (by rfl) rfl ?_ ?_
                rotate_left 2
                ·go_simp
                 constructor
                 ·rfl
                 ·rfl
                refine hK.out _ _ ⟨(blk_cell (blk_alloc BK895.out _) 0).trans rfl, (blk_cell (blk_alloc BK895.out _) 1).trans rfl, (blk_cell (blk_alloc BK895.out _) 2).trans rfl, (blk_cell (blk_alloc BK893.out _) 0).trans rfl, (blk_cell (blk_alloc BK893.out _) 1).trans rfl, (World.cell?_alloc_lt _ _ _ (World.block_lt_of_cell? _ _ (((HB.out.cell (World.block_lt_of_cell? w _ hw924_0)).trans hw924_0)))).trans (((HB.out.cell (World.block_lt_of_cell? w _ hw924_0)).trans hw924_0))⟩ (fun hHeld => ?_)
                clear hK K
                refine norm_ (a' := ?_) ?_ ?_
                rotate_left
                ·show Act.put _ (some 73) _ = _
                 simp only [Act.put, List.setIfInBounds_toArray, List.set_cons_zero, List.set_cons_succ, i64_w, i32_w]
                 rfl
                refine on_ 11 (some 74) (fun K hK => ?_)
                refine Kd.S_append_step (Kd.slice 2 (Kd.int .i64)) (w0 := w) w.heap.size (by rfl) (.tmp 64) (.tmp 73) 22 23 (.slice none 0 0) 24 rfl Try.underlying22 info23 rfl (by decide) (by omega) u896000 x896000_1 y925 [.slice Ao58 y925.length co58] (fun k_ => some k_ ≠ (u896002 : Value).ownBlock) (fun k_ => some k_ = (.slice Ao58 y925.length co58 : Value).ownBlock) rfl rfl ?aP (fun k_ hk_ => ((Kd.R_mono (ok' := fun k_ => ((fun k_ => some k_ ≠ (u896002 : Value).ownBlock)) k_ ∧ some k_ ≠ (u896000 : Value).ownBlock) (Kd.R_apart' (HO927.out) (Kd.S_typed HO_896000.out) (by decide)) (fun k_ hk => ⟨hk.1, hk.2⟩))).1 k_ hk_.symm) ?aF ?aO ?aB ?aS ?aL ?_
                (case aP => exact Kd.M_row (Kd.R_mono (Kd.R_tight rfl (Kd.R_mono (ok' := fun k_ => ((fun k_ => some k_ ≠ (u896002 : Value).ownBlock)) k_ ∧ some k_ ≠ (u896000 : Value).ownBlock) (Kd.R_apart' (HO927.out) (Kd.S_typed HO_896000.out) (by decide)) (fun k_ hk => ⟨hk.1, hk.2⟩))) (fun _ h_ => h_)))
                (case aB => exact hb_)
                (case aF => exact (fun k_ hk => Kd.fresh' (Kd.R_lt (ro_ HO_896002.out)) k_ hk))
                (case aO => exact (by (with_reducible repeat (first | apply Kd.S_alloc | apply Kd.S_drewN | apply Kd.S_drew)); exact Kd.S_mono HO_896000.out (fun k_ hk => ⟨hk.1, fun e_ => hk.2 e_⟩)))
                (case aS => exact bz_)
                (case aL => have := LMc53.out; omega)
                intro v929 w57 ho hb hg hat
                rw [← Ny928.out] at ho
                have n0_ := Aside0.mk (Kd.R_over' (ro_ HO_896002.out) (Kd.S_typed (so_ HO_896000.out)) (by decide) hg)
                have n1_ := Aside0.mk (bg_ BK893.out hg (Kd.S_ne HO_896000.out BK893.out (by decide)))
                have n2_ := Aside0.mk (bg_ BK894.out hg (Kd.S_ne HO_896000.out BK894.out (by decide)))
                have n3_ := Aside0.mk (bg_ BK895.out hg (Kd.S_ne HO_896000.out BK895.out (by decide)))
                have n4_ := Aside0.mk (hb)
                have n5_ := Aside0.mk (ho)
                clear HO_896002
                clear BK893
                clear BK894
                clear BK895
                clear HB
                clear HO_896000
                clear HO927
                have HO_896002 := n0_
                have BK893 := n1_
                have BK894 := n2_
                have BK895 := n3_
                have HB := n4_
                have HO930 := n5_
                clear n0_ n1_ n2_ n3_ n4_ n5_
                clear ho hb hg hat
                obtain ⟨Ao59, co59, eo59⟩ := Kd.S_slice HO930.out
                (first | subst eo59 | (injection eo59 with f1_ f2_ f3_; have f4_ := f1_.symm; have f5_ := f3_.symm; clear f1_ f2_ f3_; subst f4_; subst f5_))
                refine hK.out _ _ ⟨(blk_cell BK895.out 0).trans rfl, (blk_cell BK895.out 1).trans rfl, (blk_cell BK895.out 2).trans rfl, (blk_cell BK893.out 0).trans rfl, (blk_cell BK893.out 1).trans rfl, ((HB.out.cell (World.block_lt_of_cell? w _ hw924_0)).trans hw924_0)⟩ (fun hHeld => ?_)
                clear hK K
                refine norm_ (a' := ?_) ?_ ?_
                rotate_left
                ·show Act.put _ (some 74) _ = _
                 simp only [Act.put, List.setIfInBounds_toArray, List.set_cons_zero, List.set_cons_succ, i64_w, i32_w]
                 rfl
                refine pu_ 12 75 ?_
                refine la_ 13 none (fun K hK => ?_)
                have hs60 : w57.cell? ⟨gb895, 0, none⟩ = some (u896000) := (blk_cell BK895.out 0).trans rfl
                have hfs60 := blk_frozen BK895.out 0
                have hns60_0 := NB893_895.out
                have hns60_1 := NB894_895.out
                have hms60_0 := NB895_893.out
                have hms60_1 := NB895_894.out
                refine skip_ (w1 := ?_) (by rfl) rfl ?_ ?_
                rotate_left
                ·go_simp
                 rfl
                refine hK.out _ _ ?_
                clear hK K
                refine done_ (done_of HT_.out (by kernel_rfl)) ?_
                have hnb61 := NB895_893.out
                have hnc61 := NB893_895.out
                have hnb62 := NB895_894.out
                have hnc62 := NB894_895.out
                have hcz63_0 : w57.cell? ⟨gb895, 0, none⟩ = some (u896000) := (blk_cell BK895.out 0).trans rfl
                have hcz63_1 : w57.cell? ⟨gb895, 1, none⟩ = some (.int .i64 1) := (blk_cell BK895.out 1).trans rfl
                have hcz63_2 : w57.cell? ⟨gb895, 2, none⟩ = some (u896002) := (blk_cell BK895.out 2).trans rfl
                have hfz63_0 := blk_frozen BK895.out 0
                have hfz63_1 := blk_frozen BK895.out 1
                have hfz63_2 := blk_frozen BK895.out 2
                try go_wp2_with (first | ((with_reducible refine gate_builtin (b := .append) (xs := #[.tmp 77, .tmp 79]) rfl ?_); at_builtin; refine Kd.R_append (Kd.int .i64) (w0 := w) w.heap.size rfl (.tmp 77) (.tmp 79) 23 2 (.int .i64 0) 8 rfl Try.underlying23 info2 rfl (by decide) (by omega) u896002 x896002_1 x7_1 [.int .i64 x7_1] (fun _ => True) (fun _ => False) rfl (by first | (go_simp; done) | (go_simp; rfl)) ?aP (fun _ hk => hk.elim) ?aF ?aO ?aB ?aS ?aL ?_; (case aP => exact rfl); (case aB => exact hb_); (case aF => exact (fun _ _ => trivial)); (case aO => exact (by (with_reducible repeat (first | apply Kd.R_alloc | apply Kd.R_drewN | apply Kd.R_drew)); exact Kd.R_mono (Kd.R_far (p := ⟨gb895, 0, none⟩) (Kd.R_types HO_896002.out BK895.out (by decide)) (fun _ hk => hk.2) (.slice Ao59 y928.length co59)) (fun _ hk => trivial))); (case aS => exact bz_); (case aL => have := LMc54.out; omega); intro v932 w64 ho hb hg hat; rw [← Ny931.out] at ho; have n0_ := Aside0.mk (blk_grown (g := gb893) (o := .cells #[.slice A0_0 l0_0.length c0_0, .slice (some ad924) l0_1.length c0_1] 29 (0, 0)) (by (with_reducible repeat (first | refine blk_drewN ?_ _ | refine blk_drew ?_ | refine blk_alloc ?_ _)); refine blk_far ?_ NB893_895.out _; (with_reducible repeat (first | refine blk_drewN ?_ _ | refine blk_drew ?_ | refine blk_alloc ?_ _)); exact BK893.out) hg (Kd.R_ne HO_896002.out BK893.out (by decide))); have n1_ := Aside0.mk (blk_grown (g := gb894) (o := .cells #[.slice none 0 0, .int .i64 0, .slice none 0 0] 101 (0, 0)) (by (with_reducible repeat (first | refine blk_drewN ?_ _ | refine blk_drew ?_ | refine blk_alloc ?_ _)); refine blk_far ?_ NB894_895.out _; (with_reducible repeat (first | refine blk_drewN ?_ _ | refine blk_drew ?_ | refine blk_alloc ?_ _)); exact BK894.out) hg (Kd.R_ne HO_896002.out BK894.out (by decide))); have n2_ := Aside0.mk (blk_grown (g := gb895) (o := .cells #[.slice Ao59 y928.length co59, .int .i64 1, u896002] 101 (0, 0)) (by (with_reducible repeat (first | refine blk_drewN ?_ _ | refine blk_drew ?_ | refine blk_alloc ?_ _)); refine blk_put (cs := #[u896000, .int .i64 1, u896002]) ?_ 0 _ rfl; (with_reducible repeat (first | refine blk_drewN ?_ _ | refine blk_drew ?_ | refine blk_alloc ?_ _)); exact BK895.out) hg (Kd.R_ne HO_896002.out BK895.out (by decide))); have n3_ := Aside0.mk (Kd.S_after (ok := (fun _ => True)) (by (with_reducible repeat (first | apply Kd.S_alloc | apply Kd.S_drewN | apply Kd.S_drew)); exact Kd.S_mono (Kd.S_far (p := ⟨gb895, 0, none⟩) (Kd.S_types HO930.out BK895.out (by decide)) (fun _ hk => hk.2) (.slice Ao59 y928.length co59)) (fun _ hk => ⟨trivial, hk.1⟩)) hg hat); have n4_ := Aside0.mk (hb); have n5_ := Aside0.mk (ho); clear BK893; clear BK894; clear BK895; clear HO930; clear HB; clear HO_896002; have BK893 := n0_; have BK894 := n1_; have BK895 := n2_; have HO930 := n3_; have HB := n4_; have HO933 := n5_; clear n0_ n1_ n2_ n3_ n4_ n5_; clear ho hb hg hat; obtain ⟨Ao65, co65, eo65⟩ := Kd.R_slice HO933.out; subst eo65; have hcz66_0 : w64.cell? ⟨gb895, 0, none⟩ = some (.slice Ao59 y928.length co59) := (blk_cell BK895.out 0).trans rfl; have hcz66_1 : w64.cell? ⟨gb895, 1, none⟩ = some (.int .i64 1) := (blk_cell BK895.out 1).trans rfl; have hcz66_2 : w64.cell? ⟨gb895, 2, none⟩ = some (u896002) := (blk_cell BK895.out 2).trans rfl; have hfz66_0 := blk_frozen BK895.out 0; have hfz66_1 := blk_frozen BK895.out 1; have hfz66_2 := blk_frozen BK895.out 2))
                go_roundg k3
                case measure => have := HK1.out; have := HK2.out; have := HK3.out; omega
                case rel => exact ⟨(wrap64 (x7_1 + 1)), (y928), (y931), (.slice Ao59 y928.length co59), (.slice Ao65 y931.length co65), rs_, H', ⟨by have := HK1.out; have := HK2.out; have := HK3.out; omega⟩, ⟨by (with_reducible repeat (first | apply Kd.S_alloc | apply Kd.S_drewN | apply Kd.S_drew)); exact Kd.S_mono (Kd.S_far (p := ⟨gb895, 2, none⟩) (Kd.S_types HO930.out BK895.out (by decide)) (fun _ hk => hk.2) (.slice Ao65 y931.length co65)) (fun _ hk => hk.1.2)⟩, ⟨by (with_reducible repeat (first | apply Kd.R_alloc | apply Kd.R_drewN | apply Kd.R_drew)); exact Kd.R_mono (Kd.R_far (p := ⟨gb895, 2, none⟩) (Kd.R_types HO933.out BK895.out (by decide)) (fun _ hk => hk.2) (.slice Ao65 y931.length co65)) (fun _ hk => trivial)⟩, ⟨by (with_reducible repeat (first | refine blk_drewN ?_ _ | refine blk_drew ?_ | refine blk_alloc ?_ _)); refine blk_far ?_ NB893_895.out _; (with_reducible repeat (first | refine blk_drewN ?_ _ | refine blk_drew ?_ | refine blk_alloc ?_ _)); exact BK893.out⟩, ⟨by (with_reducible repeat (first | refine blk_drewN ?_ _ | refine blk_drew ?_ | refine blk_alloc ?_ _)); refine blk_far ?_ NB894_895.out _; (with_reducible repeat (first | refine blk_drewN ?_ _ | refine blk_drew ?_ | refine blk_alloc ?_ _)); exact BK894.out⟩, ⟨by (with_reducible repeat (first | refine blk_drewN ?_ _ | refine blk_drew ?_ | refine blk_alloc ?_ _)); refine blk_put (cs := #[.slice Ao59 y928.length co59, .int .i64 1, u896002]) ?_ 2 _ rfl; (with_reducible repeat (first | refine blk_drewN ?_ _ | refine blk_drew ?_ | refine blk_alloc ?_ _)); exact BK895.out⟩, ⟨hb_⟩⟩
               ·rw [if_neg c54] at H
                exact absurd H (by simp)
              ·rw [if_neg c53] at H
               exact absurd H (by simp)
             ·rw [if_neg c52] at H
              exact absurd H (by simp)
            ·rw [if_neg c51] at H
             exact absurd H (by simp)
           ·rw [if_neg c50] at H
            exact absurd H (by simp)
   ·rw [if_neg c10] at H
    have c10b0 : decide (x7_1 < (l0_1.length : Int)) = false := decide_eq_false c10
    clear c10
    simp only [Option.some.injEq, Prod.mk.injEq] at H
    obtain ⟨rfl, rfl, rfl⟩ := H
    have hnb67 := NB895_893.out
    have hnc67 := NB893_895.out
    have hnb68 := NB895_894.out
    have hnc68 := NB894_895.out
    have hcz69_0 : wr.cell? ⟨gb895, 0, none⟩ = some (u896000) := (blk_cell BK895.out 0).trans rfl
    have hcz69_1 : wr.cell? ⟨gb895, 1, none⟩ = some (.int .i64 1) := (blk_cell BK895.out 1).trans rfl
    have hcz69_2 : wr.cell? ⟨gb895, 2, none⟩ = some (u896002) := (blk_cell BK895.out 2).trans rfl
    have hfz69_0 := blk_frozen BK895.out 0
    have hfz69_1 := blk_frozen BK895.out 1
    have hfz69_2 := blk_frozen BK895.out 2
    obtain ⟨Ao70, co70, eo70⟩ := Kd.S_slice HO_896000.out
    subst eo70
    have hnb71 := NB894_893.out
    have hnc71 := NB893_894.out
    have hcz72_0 : wr.cell? ⟨gb894, 0, none⟩ = some (.slice none 0 0) := (blk_cell BK894.out 0).trans rfl
    have hcz72_1 : wr.cell? ⟨gb894, 1, none⟩ = some (.int .i64 0) := (blk_cell BK894.out 1).trans rfl
    have hcz72_2 : wr.cell? ⟨gb894, 2, none⟩ = some (.slice none 0 0) := (blk_cell BK894.out 2).trans rfl
    have hfz72_0 := blk_frozen BK894.out 0
    have hfz72_1 := blk_frozen BK894.out 1
    have hfz72_2 := blk_frozen BK894.out 2
    obtain ⟨Ao73, co73, eo73⟩ := Kd.R_slice HO_896002.out
    subst eo73
    go_wp2
    refine bodyPost_ret (results_cell_row rfl _ _ gb894 101 #[.slice Ao70 x896000_1.length co70, .int .i64 1, .slice Ao73 x896002_1.length co73] (0, 0) _ rfl (by (with_reducible repeat (first | refine blk_drewN ?_ _ | refine blk_drew ?_ | refine blk_alloc ?_ _)); refine blk_put (cs := #[.slice Ao70 x896000_1.length co70, .int .i64 1, .slice none 0 0]) ?_ 2 _ rfl; (with_reducible repeat (first | refine blk_drewN ?_ _ | refine blk_drew ?_ | refine blk_alloc ?_ _)); refine blk_put (cs := #[.slice Ao70 x896000_1.length co70, .int .i64 0, .slice none 0 0]) ?_ 1 _ rfl; (with_reducible repeat (first | refine blk_drewN ?_ _ | refine blk_drew ?_ | refine blk_alloc ?_ _)); refine blk_put (cs := #[.slice none 0 0, .int .i64 0, .slice none 0 0]) ?_ 0 _ rfl; (with_reducible repeat (first | refine blk_drewN ?_ _ | refine blk_drew ?_ | refine blk_alloc ?_ _)); exact BK894.out) Try.underlying101 rfl (by kernel_rfl)) rfl ?_
    exact ⟨_, _, by first | rfl | (simp [errW_none, errW_some] <;> rfl) | (simp [*, errW_none, errW_some] <;> rfl), by (with_reducible repeat (first | apply Kd.S_alloc | apply Kd.S_drewN | apply Kd.S_drew)); exact Kd.S_mono (Kd.S_far (p := ⟨gb894, 2, none⟩) (Kd.S_far (p := ⟨gb894, 1, none⟩) (Kd.S_far (p := ⟨gb894, 0, none⟩) (Kd.S_types HO_896000.out BK894.out (by decide)) (fun _ hk => hk.2) (.slice Ao70 x896000_1.length co70)) (fun _ hk => hk.2) (.int .i64 1)) (fun _ hk => hk.2) (.slice Ao73 x896002_1.length co73)) (fun _ hk => hk.1), by (with_reducible repeat (first | apply Kd.R_alloc | apply Kd.R_drewN | apply Kd.R_drew)); exact Kd.R_mono (Kd.R_far (p := ⟨gb894, 2, none⟩) (Kd.R_far (p := ⟨gb894, 1, none⟩) (Kd.R_far (p := ⟨gb894, 0, none⟩) (Kd.R_types HO_896002.out BK894.out (by decide)) (fun _ hk => hk.2) (.slice Ao70 x896000_1.length co70)) (fun _ hk => hk.2) (.int .i64 1)) (fun _ hk => hk.2) (.slice Ao73 x896002_1.length co73)) (fun _ hk => trivial), hb_⟩
def spec_l05Key.l0 : Nat → Int → Int → Int → Int → Int → Int → Int → Int → List (List Int) → Int → List Int → Option (Bool)
 | 0, _, _, _, _, _, _, _, _, _, _, _ => none
 | k + 1, x1, x2, x3, x4, x11, x13, x14, x15, x935000, x935001, x935002 => if x15 < x11 then (if x13 = x14 then (if 0 ≤ x1 then (if x1 < (x935000.length : Int) then (if 0 ≤ x15 then (if x15 < ((rd_L1 x935000 x1).length : Int) then (if 0 ≤ x2 then (if x2 < (x935000.length : Int) then (if x15 < ((rd_L1 x935000 x2).length : Int) then (spec_l05Key.l0 k x1 x2 x3 x4 x11 (wrap64 ((rd (rd_L1 x935000 x1) x15) * x4)) (wrap64 ((rd (rd_L1 x935000 x2) x15) * x3)) (wrap64 (x15 + 1)) x935000 x935001 x935002) else (none)) else (none)) else (none)) else (none)) else (none)) else (none)) else (none)) else (some (decide (x13 < x14)))) else (some (decide (x13 < x14)))
def spec_l05Key.f (k : Nat) (l0_0 : List (List Int)) (a0_1 : Int) (l0_2 : List Int) (a1 : Int) (a2 : Int) (a3 : Int) (a4 : Int) : Option (Bool) := if 0 ≤ a1 then (if a1 < (l0_0.length : Int) then (if 0 ≤ (wrap64 (((rd_L1 l0_0 a1).length : Int) - 1)) then (if (wrap64 (((rd_L1 l0_0 a1).length : Int) - 1)) < ((rd_L1 l0_0 a1).length : Int) then (if 0 ≤ a2 then (if a2 < (l0_0.length : Int) then (if (wrap64 (((rd_L1 l0_0 a1).length : Int) - 1)) < ((rd_L1 l0_0 a2).length : Int) then (spec_l05Key.l0 k a1 a2 a3 a4 (l0_0.length : Int) (wrap64 ((rd (rd_L1 l0_0 a1) (wrap64 (((rd_L1 l0_0 a1).length : Int) - 1))) * a4)) (wrap64 ((rd (rd_L1 l0_0 a2) (wrap64 (((rd_L1 l0_0 a1).length : Int) - 1))) * a3)) 0 l0_0 a0_1 l0_2) else (none)) else (none)) else (none)) else (none)) else (none)) else (none)) else (none)
theorem spec_l05Key.mono_l : ∀ k, (∀ y0 y1 y2 y3 y4 y5 y6 y7 y8 y9 y10, LeO (spec_l05Key.l0 k y0 y1 y2 y3 y4 y5 y6 y7 y8 y9 y10) (spec_l05Key.l0 (k + 1) y0 y1 y2 y3 y4 y5 y6 y7 y8 y9 y10))
 | 0 => fun _ _ _ _ _ _ _ _ _ _ _ r h => by simp [spec_l05Key.l0] at h
 | k + 1 => by
  have ih0 := spec_l05Key.mono_l k
  ·intro y0 y1 y2 y3 y4 y5 y6 y7 y8 y9 y10
   unfold spec_l05Key.l0
   repeat' first
   | (with_reducible exact ih0 _ _ _ _ _ _ _ _ _ _ _)
   | (with_reducible exact LeO.refl _)
   | (with_reducible exact LeO.none _)
   | (with_reducible refine LeO.ite ?_ ?_)
   | (with_reducible refine LeO.bind ?_ (fun _ => ?_))
   | exact ih0 _ _ _ _ _ _ _ _ _ _ _
   | exact LeO.none _
   | refine LeO.ite ?_ ?_
   | refine LeO.bind ?_ (fun _ => ?_)
theorem spec_l05Key.mono : ∀ a0 a1 a2 a3 a4 a5 a6 k, LeO (spec_l05Key.f k a0 a1 a2 a3 a4 a5 a6) (spec_l05Key.f (k + 1) a0 a1 a2 a3 a4 a5 a6) := by
 intro a0 a1 a2 a3 a4 a5 a6 k
 have ih0 := spec_l05Key.mono_l k
 unfold spec_l05Key.f
 repeat' first
   | (with_reducible exact ih0 _ _ _ _ _ _ _ _ _ _ _)
   | (with_reducible exact LeO.refl _)
   | (with_reducible exact LeO.none _)
   | (with_reducible refine LeO.ite ?_ ?_)
   | (with_reducible refine LeO.bind ?_ (fun _ => ?_))
   | exact ih0 _ _ _ _ _ _ _ _ _ _ _
   | exact LeO.none _
   | refine LeO.ite ?_ ?_
   | refine LeO.bind ?_ (fun _ => ?_)
theorem spec_l05Key.calls (k : Nat) (A0_0 : Option Addr) (c0_0 : Nat) (l0_0 : List (List Int)) (a0_1 : Int) (A0_2 : Option Addr) (c0_2 : Nat) (l0_2 : List Int) (a1 : Int) (a2 : Int) (a3 : Int) (a4 : Int) (r : Bool) (w : World) (hr0_0 : Kd.C (Kd.slice 2 (Kd.int .i64)) w A0_0 l0_0.length l0_0) (hc0_0 : l0_0.length ≤ c0_0) (hr0_2 : Kd.C (Kd.int .i64) w A0_2 l0_2.length l0_2) (hc0_2 : l0_2.length ≤ c0_2) (h : spec_l05Key.f k l0_0 a0_1 l0_2 a1 a2 a3 a4 = some r) :
  Calls Try.prog 117 #[.agg #[.slice A0_0 l0_0.length c0_0, .int .i64 a0_1, .slice A0_2 l0_2.length c0_2], .int .i64 a1, .int .i64 a2, .int .i64 a3, .int .i64 a4] w fun e w' => e = .returned (.bool r) ∧ Below w.heap.size w w' := by
 have hu101 := Try.underlying101
 have HR0_0 := Aside0.mk hr0_0
 have HC0_0 := Aside0.mk hc0_0
 clear hr0_0 hc0_0
 have HR0_2 := Aside0.mk hr0_2
 have HC0_2 := Aside0.mk hc0_2
 clear hr0_2 hc0_2
 have HB := Aside0.mk (Below.refl w.heap.size w)
 have H : (if 0 ≤ a1 then (if a1 < (l0_0.length : Int) then (if 0 ≤ (wrap64 (((rd_L1 l0_0 a1).length : Int) - 1)) then (if (wrap64 (((rd_L1 l0_0 a1).length : Int) - 1)) < ((rd_L1 l0_0 a1).length : Int) then (if 0 ≤ a2 then (if a2 < (l0_0.length : Int) then (if (wrap64 (((rd_L1 l0_0 a1).length : Int) - 1)) < ((rd_L1 l0_0 a2).length : Int) then (spec_l05Key.l0 k a1 a2 a3 a4 (l0_0.length : Int) (wrap64 ((rd (rd_L1 l0_0 a1) (wrap64 (((rd_L1 l0_0 a1).length : Int) - 1))) * a4)) (wrap64 ((rd (rd_L1 l0_0 a2) (wrap64 (((rd_L1 l0_0 a1).length : Int) - 1))) * a3)) 0 l0_0 a0_1 l0_2) else (none)) else (none)) else (none)) else (none)) else (none)) else (none)) else (none)) = some r := h
 clear h
 by_cases c6 : 0 ≤ a1
 ·rw [if_pos c6] at H
  have c6b0 : decide (0 ≤ a1) = true := decide_eq_true c6
  clear c6
  by_cases c7 : a1 < (l0_0.length : Int)
  ·rw [if_pos c7] at H
   have c7b0 : decide (a1 < (l0_0.length : Int)) = true := decide_eq_true c7
   clear c7
   obtain ⟨ji8, hji8⟩ : ∃ j_ : Int, (wrap64 (((rd_L1 l0_0 a1).length : Int) - 1)) = j_ := ⟨_, rfl⟩
   replace H : (if 0 ≤ (ji8) then (if (ji8) < ((rd_L1 l0_0 a1).length : Int) then (if 0 ≤ a2 then (if a2 < (l0_0.length : Int) then (if (ji8) < ((rd_L1 l0_0 a2).length : Int) then (spec_l05Key.l0 k a1 a2 a3 a4 (l0_0.length : Int) (wrap64 ((rd (rd_L1 l0_0 a1) (ji8)) * a4)) (wrap64 ((rd (rd_L1 l0_0 a2) (ji8)) * a3)) 0 l0_0 a0_1 l0_2) else (none)) else (none)) else (none)) else (none)) else (none)) = some r := by first | (rw [hji8] at H; exact H) | (simp only [hji8] at H ⊢; exact H)
   have hji8w : (IntKind.i64.wrap (((rd_L1 l0_0 a1).length : Int) - 1)) = ji8 := (i64_w _).trans hji8
   by_cases c9 : 0 ≤ (ji8)
   ·rw [if_pos c9] at H
    have c9b0 : decide (0 ≤ (ji8)) = true := decide_eq_true c9
    clear c9
    by_cases c10 : (ji8) < ((rd_L1 l0_0 a1).length : Int)
    ·rw [if_pos c10] at H
     have c10b0 : decide ((ji8) < ((rd_L1 l0_0 a1).length : Int)) = true := decide_eq_true c10
     clear c10
     by_cases c11 : 0 ≤ a2
     ·rw [if_pos c11] at H
      have c11b0 : decide (0 ≤ a2) = true := decide_eq_true c11
      clear c11
      by_cases c12 : a2 < (l0_0.length : Int)
      ·rw [if_pos c12] at H
       have c12b0 : decide (a2 < (l0_0.length : Int)) = true := decide_eq_true c12
       clear c12
       by_cases c13 : (ji8) < ((rd_L1 l0_0 a2).length : Int)
       ·rw [if_pos c13] at H
        have c13b0 : decide ((ji8) < ((rd_L1 l0_0 a2).length : Int)) = true := decide_eq_true c13
        clear c13
        have H' := Aside0.mk H
        clear H
        go_enter Try.func117, Try.ntmps117
        go_wp2_with (first | ((with_reducible refine gate_dst (N := 5) rfl ?_); refine box_event ?hg (N := 5) ?hd (cs := #[.slice A0_0 l0_0.length c0_0, .int .i64 a0_1, .slice A0_2 l0_2.length c0_2]) (t := 101) ?hr ?_; (case hd => rfl); (case hg => rfl); (case hr => first | (go_simp; done) | (go_simp; rfl)); intro gb934 hg w14 hbox hb; have n0_ := Aside0.mk (bs_ hb); have n1_ := Aside0.mk (hbox); have n2_ := Aside0.mk ((by rw [hg]; exact bz_ : w.heap.size ≤ gb934)); have n3_ := Aside0.mk ((by rw [hg]; exact bz_ : w.heap.size ≤ gb934)); clear HB; have HB := n0_; have BK934 := n1_; have GW934 := n2_; have GE934 := n3_; clear n0_ n1_ n2_ n3_; clear hb hbox hg; have hcz15_0 : w14.cell? ⟨gb934, 0, none⟩ = some (.slice A0_0 l0_0.length c0_0) := (blk_cell BK934.out 0).trans rfl; have hcz15_1 : w14.cell? ⟨gb934, 1, none⟩ = some (.int .i64 a0_1) := (blk_cell BK934.out 1).trans rfl; have hcz15_2 : w14.cell? ⟨gb934, 2, none⟩ = some (.slice A0_2 l0_2.length c0_2) := (blk_cell BK934.out 2).trans rfl; have hfz15_0 := blk_frozen BK934.out 0; have hfz15_1 := blk_frozen BK934.out 1; have hfz15_2 := blk_frozen BK934.out 2; have p935 : 0 ≤ (a1 : Int) := od_; have q935 : a1 < (l0_0.length : Int) := od_; obtain ⟨ad935, A935_0, c935_0, e935, hx935_0, hl935_0, hi935_0⟩ := at_L1 HR0_0.out a1 p935 q935; cases e935; replace hx935_0 := (HB.out.cell (World.block_lt_of_cell? w _ hx935_0)).trans hx935_0; have HR935_0 := Aside0.mk hi935_0; have HC935_0 := Aside0.mk hl935_0; clear hi935_0 hl935_0; replace p935 := eq_true p935; replace q935 := eq_true q935; have p936 : 0 ≤ (a1 : Int) := od_; have q936 : a1 < (l0_0.length : Int) := od_; obtain ⟨ad936, A936_0, c936_0, e936, hx936_0, hl936_0, hi936_0⟩ := at_L1 HR0_0.out a1 p936 q936; obtain rfl : ad935 = ad936 := (by injection e936); replace hx936_0 := (HB.out.cell (World.block_lt_of_cell? w _ hx936_0)).trans hx936_0; have HR936_0 := Aside0.mk hi936_0; have HC936_0 := Aside0.mk hl936_0; clear hi936_0 hl936_0; replace p936 := eq_true p936; replace q936 := eq_true q936; have ea_ := Option.some.inj (hx935_0.symm.trans hx936_0); injection ea_ with ea_ en_ ec_; subst ea_; subst ec_; clear en_; have p937 : 0 ≤ ((ji8) : Int) := od_; have q937 : (ji8) < ((rd_L1 l0_0 a1).length : Int) := od_; obtain ⟨ad937, e937, hx937_0⟩ := Kd.at_int HR936_0.out (ji8) p937 q937; cases e937; replace hx937_0 := (HB.out.cell (World.block_lt_of_cell? w _ hx937_0)).trans hx937_0; replace p937 := eq_true p937; replace q937 := eq_true q937; have p938 : 0 ≤ (a2 : Int) := od_; have q938 : a2 < (l0_0.length : Int) := od_; obtain ⟨ad938, A938_0, c938_0, e938, hx938_0, hl938_0, hi938_0⟩ := at_L1 HR0_0.out a2 p938 q938; obtain rfl : ad935 = ad938 := (by injection e938); replace hx938_0 := (HB.out.cell (World.block_lt_of_cell? w _ hx938_0)).trans hx938_0; have HR938_0 := Aside0.mk hi938_0; have HC938_0 := Aside0.mk hl938_0; clear hi938_0 hl938_0; replace p938 := eq_true p938; replace q938 := eq_true q938; have p939 : 0 ≤ ((ji8) : Int) := od_; have q939 : (ji8) < ((rd_L1 l0_0 a2).length : Int) := od_; obtain ⟨ad939, e939, hx939_0⟩ := Kd.at_int HR938_0.out (ji8) p939 q939; cases e939; replace hx939_0 := (HB.out.cell (World.block_lt_of_cell? w _ hx939_0)).trans hx939_0; replace p939 := eq_true p939; replace q939 := eq_true q939))
        repeat (go_quiet (first | ((with_reducible refine gate_dst (N := 5) rfl ?_); refine box_event ?hg (N := 5) ?hd (cs := #[.slice A0_0 l0_0.length c0_0, .int .i64 a0_1, .slice A0_2 l0_2.length c0_2]) (t := 101) ?hr ?_; (case hd => rfl); (case hg => rfl); (case hr => first | (go_simp; done) | (go_simp; rfl)); intro gb934 hg w14 hbox hb; have n0_ := Aside0.mk (bs_ hb); have n1_ := Aside0.mk (hbox); have n2_ := Aside0.mk ((by rw [hg]; exact bz_ : w.heap.size ≤ gb934)); have n3_ := Aside0.mk ((by rw [hg]; exact bz_ : w.heap.size ≤ gb934)); clear HB; have HB := n0_; have BK934 := n1_; have GW934 := n2_; have GE934 := n3_; clear n0_ n1_ n2_ n3_; clear hb hbox hg; have hcz15_0 : w14.cell? ⟨gb934, 0, none⟩ = some (.slice A0_0 l0_0.length c0_0) := (blk_cell BK934.out 0).trans rfl; have hcz15_1 : w14.cell? ⟨gb934, 1, none⟩ = some (.int .i64 a0_1) := (blk_cell BK934.out 1).trans rfl; have hcz15_2 : w14.cell? ⟨gb934, 2, none⟩ = some (.slice A0_2 l0_2.length c0_2) := (blk_cell BK934.out 2).trans rfl; have hfz15_0 := blk_frozen BK934.out 0; have hfz15_1 := blk_frozen BK934.out 1; have hfz15_2 := blk_frozen BK934.out 2; have p935 : 0 ≤ (a1 : Int) := od_; have q935 : a1 < (l0_0.length : Int) := od_; obtain ⟨ad935, A935_0, c935_0, e935, hx935_0, hl935_0, hi935_0⟩ := at_L1 HR0_0.out a1 p935 q935; cases e935; replace hx935_0 := (HB.out.cell (World.block_lt_of_cell? w _ hx935_0)).trans hx935_0; have HR935_0 := Aside0.mk hi935_0; have HC935_0 := Aside0.mk hl935_0; clear hi935_0 hl935_0; replace p935 := eq_true p935; replace q935 := eq_true q935; have p936 : 0 ≤ (a1 : Int) := od_; have q936 : a1 < (l0_0.length : Int) := od_; obtain ⟨ad936, A936_0, c936_0, e936, hx936_0, hl936_0, hi936_0⟩ := at_L1 HR0_0.out a1 p936 q936; obtain rfl : ad935 = ad936 := (by injection e936); replace hx936_0 := (HB.out.cell (World.block_lt_of_cell? w _ hx936_0)).trans hx936_0; have HR936_0 := Aside0.mk hi936_0; have HC936_0 := Aside0.mk hl936_0; clear hi936_0 hl936_0; replace p936 := eq_true p936; replace q936 := eq_true q936; have ea_ := Option.some.inj (hx935_0.symm.trans hx936_0); injection ea_ with ea_ en_ ec_; subst ea_; subst ec_; clear en_; have p937 : 0 ≤ ((ji8) : Int) := od_; have q937 : (ji8) < ((rd_L1 l0_0 a1).length : Int) := od_; obtain ⟨ad937, e937, hx937_0⟩ := Kd.at_int HR936_0.out (ji8) p937 q937; cases e937; replace hx937_0 := (HB.out.cell (World.block_lt_of_cell? w _ hx937_0)).trans hx937_0; replace p937 := eq_true p937; replace q937 := eq_true q937; have p938 : 0 ≤ (a2 : Int) := od_; have q938 : a2 < (l0_0.length : Int) := od_; obtain ⟨ad938, A938_0, c938_0, e938, hx938_0, hl938_0, hi938_0⟩ := at_L1 HR0_0.out a2 p938 q938; obtain rfl : ad935 = ad938 := (by injection e938); replace hx938_0 := (HB.out.cell (World.block_lt_of_cell? w _ hx938_0)).trans hx938_0; have HR938_0 := Aside0.mk hi938_0; have HC938_0 := Aside0.mk hl938_0; clear hi938_0 hl938_0; replace p938 := eq_true p938; replace q938 := eq_true q938; have p939 : 0 ≤ ((ji8) : Int) := od_; have q939 : (ji8) < ((rd_L1 l0_0 a2).length : Int) := od_; obtain ⟨ad939, e939, hx939_0⟩ := Kd.at_int HR938_0.out (ji8) p939 q939; cases e939; replace hx939_0 := (HB.out.cell (World.block_lt_of_cell? w _ hx939_0)).trans hx939_0; replace p939 := eq_true p939; replace q939 := eq_true q939)); try go_wp2_with (first | ((with_reducible refine gate_dst (N := 5) rfl ?_); refine box_event ?hg (N := 5) ?hd (cs := #[.slice A0_0 l0_0.length c0_0, .int .i64 a0_1, .slice A0_2 l0_2.length c0_2]) (t := 101) ?hr ?_; (case hd => rfl); (case hg => rfl); (case hr => first | (go_simp; done) | (go_simp; rfl)); intro gb934 hg w14 hbox hb; have n0_ := Aside0.mk (bs_ hb); have n1_ := Aside0.mk (hbox); have n2_ := Aside0.mk ((by rw [hg]; exact bz_ : w.heap.size ≤ gb934)); have n3_ := Aside0.mk ((by rw [hg]; exact bz_ : w.heap.size ≤ gb934)); clear HB; have HB := n0_; have BK934 := n1_; have GW934 := n2_; have GE934 := n3_; clear n0_ n1_ n2_ n3_; clear hb hbox hg; have hcz15_0 : w14.cell? ⟨gb934, 0, none⟩ = some (.slice A0_0 l0_0.length c0_0) := (blk_cell BK934.out 0).trans rfl; have hcz15_1 : w14.cell? ⟨gb934, 1, none⟩ = some (.int .i64 a0_1) := (blk_cell BK934.out 1).trans rfl; have hcz15_2 : w14.cell? ⟨gb934, 2, none⟩ = some (.slice A0_2 l0_2.length c0_2) := (blk_cell BK934.out 2).trans rfl; have hfz15_0 := blk_frozen BK934.out 0; have hfz15_1 := blk_frozen BK934.out 1; have hfz15_2 := blk_frozen BK934.out 2; have p935 : 0 ≤ (a1 : Int) := od_; have q935 : a1 < (l0_0.length : Int) := od_; obtain ⟨ad935, A935_0, c935_0, e935, hx935_0, hl935_0, hi935_0⟩ := at_L1 HR0_0.out a1 p935 q935; cases e935; replace hx935_0 := (HB.out.cell (World.block_lt_of_cell? w _ hx935_0)).trans hx935_0; have HR935_0 := Aside0.mk hi935_0; have HC935_0 := Aside0.mk hl935_0; clear hi935_0 hl935_0; replace p935 := eq_true p935; replace q935 := eq_true q935; have p936 : 0 ≤ (a1 : Int) := od_; have q936 : a1 < (l0_0.length : Int) := od_; obtain ⟨ad936, A936_0, c936_0, e936, hx936_0, hl936_0, hi936_0⟩ := at_L1 HR0_0.out a1 p936 q936; obtain rfl : ad935 = ad936 := (by injection e936); replace hx936_0 := (HB.out.cell (World.block_lt_of_cell? w _ hx936_0)).trans hx936_0; have HR936_0 := Aside0.mk hi936_0; have HC936_0 := Aside0.mk hl936_0; clear hi936_0 hl936_0; replace p936 := eq_true p936; replace q936 := eq_true q936; have ea_ := Option.some.inj (hx935_0.symm.trans hx936_0); injection ea_ with ea_ en_ ec_; subst ea_; subst ec_; clear en_; have p937 : 0 ≤ ((ji8) : Int) := od_; have q937 : (ji8) < ((rd_L1 l0_0 a1).length : Int) := od_; obtain ⟨ad937, e937, hx937_0⟩ := Kd.at_int HR936_0.out (ji8) p937 q937; cases e937; replace hx937_0 := (HB.out.cell (World.block_lt_of_cell? w _ hx937_0)).trans hx937_0; replace p937 := eq_true p937; replace q937 := eq_true q937; have p938 : 0 ≤ (a2 : Int) := od_; have q938 : a2 < (l0_0.length : Int) := od_; obtain ⟨ad938, A938_0, c938_0, e938, hx938_0, hl938_0, hi938_0⟩ := at_L1 HR0_0.out a2 p938 q938; obtain rfl : ad935 = ad938 := (by injection e938); replace hx938_0 := (HB.out.cell (World.block_lt_of_cell? w _ hx938_0)).trans hx938_0; have HR938_0 := Aside0.mk hi938_0; have HC938_0 := Aside0.mk hl938_0; clear hi938_0 hl938_0; replace p938 := eq_true p938; replace q938 := eq_true q938; have p939 : 0 ≤ ((ji8) : Int) := od_; have q939 : (ji8) < ((rd_L1 l0_0 a2).length : Int) := od_; obtain ⟨ad939, e939, hx939_0⟩ := Kd.at_int HR938_0.out (ji8) p939 q939; cases e939; replace hx939_0 := (HB.out.cell (World.block_lt_of_cell? w _ hx939_0)).trans hx939_0; replace p939 := eq_true p939; replace q939 := eq_true q939)))
        go_loopg [13, 14, 15] k (fun kq v13 v14 v15 w' => ∃ (x13_1 : Int) (x14_1 : Int) (x15_1 : Int), v13 = .int .i64 x13_1 ∧ v14 = .int .i64 x14_1 ∧ v15 = .int .i64 x15_1 ∧ Aside0 (spec_l05Key.l0 kq a1 a2 a3 a4 (l0_0.length : Int) x13_1 x14_1 x15_1 l0_0 a0_1 l0_2 = some r) ∧ Aside0 (kq ≤ k) ∧ Aside0 (w'.heap[gb934]? = some (.cells #[(.slice (some ad935) l0_0.length c0_0), .int .i64 a0_1, (.slice A0_2 l0_2.length c0_2)] 101 (0, 0))) ∧ Aside0 (Below w.heap.size w w'))
        case atStart => exact ⟨(wrap64 ((rd (rd_L1 l0_0 a1) (ji8)) * a4)), (wrap64 ((rd (rd_L1 l0_0 a2) (ji8)) * a3)), (0), (by first | rfl | (simp; done) | (simp only [← hji8] <;> (first | rfl | simp)) | (simp [*]; done)), (by first | rfl | (simp; done) | (simp only [← hji8] <;> (first | rfl | simp)) | (simp [*]; done)), rs_, H', ⟨Nat.le_refl _⟩, ⟨bk_⟩, ⟨hb_⟩⟩
        case round =>
         clear H'
         try clear c1
         try clear p2
         try clear c6
         try clear c6b0
         try clear p6
         try clear c7
         try clear c7b0
         try clear c9
         try clear c9b0
         try clear p9
         try clear q9
         try clear hx9
         try clear c10
         try clear c10b0
         try clear c11
         try clear c11b0
         try clear c12
         try clear c12b0
         try clear c13
         try clear c13b0
         try clear hcz15_0
         try clear hcz15_1
         try clear hcz15_2
         try clear hfz15_0
         try clear hfz15_1
         try clear hfz15_2
         try clear hx935_0
         try clear hx936_0
         try clear hx937_0
         try clear hx938_0
         try clear hx939_0
         try clear p935
         try clear p936
         try clear p937
         try clear p938
         try clear p939
         try clear q935
         try clear q936
         try clear q937
         try clear q938
         try clear q939
         obtain ⟨x13_1, x14_1, x15_1, rfl, rfl, rfl, HA, HK1, BK934, HB⟩ := hrel
         cases gk with
         | zero => exact absurd HA.out (by simp [spec_l05Key.l0])
         | succ k1 =>
          have H := HA.out
          clear HA
          simp only [spec_l05Key.l0] at H
          by_cases c16 : x15_1 < (l0_0.length : Int)
          ·rw [if_pos c16] at H
           have c16b0 : decide (x15_1 < (l0_0.length : Int)) = true := decide_eq_true c16
           clear c16
           by_cases c17 : x13_1 = x14_1
           ·rw [if_pos c17] at H
            have c17b0 : (x13_1 == x14_1) = true := beq_iff_eq.mpr c17
            have c17b1 : (x13_1 != x14_1) = false := bne_eq_false_iff_eq.mpr c17
            clear c17
            by_cases c18 : 0 ≤ a1
            ·rw [if_pos c18] at H
             have c18b0 : decide (0 ≤ a1) = true := decide_eq_true c18
             clear c18
             by_cases c19 : a1 < (l0_0.length : Int)
             ·rw [if_pos c19] at H
              have c19b0 : decide (a1 < (l0_0.length : Int)) = true := decide_eq_true c19
              clear c19
              by_cases c20 : 0 ≤ x15_1
              ·rw [if_pos c20] at H
               have c20b0 : decide (0 ≤ x15_1) = true := decide_eq_true c20
               clear c20
               by_cases c21 : x15_1 < ((rd_L1 l0_0 a1).length : Int)
               ·rw [if_pos c21] at H
                have c21b0 : decide (x15_1 < ((rd_L1 l0_0 a1).length : Int)) = true := decide_eq_true c21
                clear c21
                by_cases c22 : 0 ≤ a2
                ·rw [if_pos c22] at H
                 have c22b0 : decide (0 ≤ a2) = true := decide_eq_true c22
                 clear c22
                 by_cases c23 : a2 < (l0_0.length : Int)
                 ·rw [if_pos c23] at H
                  have c23b0 : decide (a2 < (l0_0.length : Int)) = true := decide_eq_true c23
                  clear c23
                  by_cases c24 : x15_1 < ((rd_L1 l0_0 a2).length : Int)
                  ·rw [if_pos c24] at H
                   have c24b0 : decide (x15_1 < ((rd_L1 l0_0 a2).length : Int)) = true := decide_eq_true c24
                   clear c24
                   have H' := Aside0.mk H
                   clear H
                   have hcz25_0 : wr.cell? ⟨gb934, 0, none⟩ = some (.slice (some ad935) l0_0.length c0_0) := (blk_cell BK934.out 0).trans rfl
                   have hcz25_1 : wr.cell? ⟨gb934, 1, none⟩ = some (.int .i64 a0_1) := (blk_cell BK934.out 1).trans rfl
                   have hcz25_2 : wr.cell? ⟨gb934, 2, none⟩ = some (.slice A0_2 l0_2.length c0_2) := (blk_cell BK934.out 2).trans rfl
                   have hfz25_0 := blk_frozen BK934.out 0
                   have hfz25_1 := blk_frozen BK934.out 1
                   have hfz25_2 := blk_frozen BK934.out 2
                   have p940 : 0 ≤ (a1 : Int) := od_
                   have q940 : a1 < (l0_0.length : Int) := od_
                   obtain ⟨ad940, A940_0, c940_0, e940, hx940_0, hl940_0, hi940_0⟩ := at_L1 HR0_0.out a1 p940 q940
                   obtain rfl : ad935 = ad940 := (by injection e940)
                   replace hx940_0 := (HB.out.cell (World.block_lt_of_cell? w _ hx940_0)).trans hx940_0
                   have HR940_0 := Aside0.mk hi940_0
                   have HC940_0 := Aside0.mk hl940_0
                   clear hi940_0 hl940_0
                   replace p940 := eq_true p940
                   replace q940 := eq_true q940
                   have p941 : 0 ≤ (x15_1 : Int) := od_
                   have q941 : x15_1 < ((rd_L1 l0_0 a1).length : Int) := od_
                   obtain ⟨ad941, e941, hx941_0⟩ := Kd.at_int HR940_0.out x15_1 p941 q941
                   cases e941
                   replace hx941_0 := (HB.out.cell (World.block_lt_of_cell? w _ hx941_0)).trans hx941_0
                   replace p941 := eq_true p941
                   replace q941 := eq_true q941
                   have p942 : 0 ≤ (a2 : Int) := od_
                   have q942 : a2 < (l0_0.length : Int) := od_
                   obtain ⟨ad942, A942_0, c942_0, e942, hx942_0, hl942_0, hi942_0⟩ := at_L1 HR0_0.out a2 p942 q942
                   obtain rfl : ad935 = ad942 := (by injection e942)
                   replace hx942_0 := (HB.out.cell (World.block_lt_of_cell? w _ hx942_0)).trans hx942_0
                   have HR942_0 := Aside0.mk hi942_0
                   have HC942_0 := Aside0.mk hl942_0
                   clear hi942_0 hl942_0
                   replace p942 := eq_true p942
                   replace q942 := eq_true q942
                   have p943 : 0 ≤ (x15_1 : Int) := od_
                   have q943 : x15_1 < ((rd_L1 l0_0 a2).length : Int) := od_
                   obtain ⟨ad943, e943, hx943_0⟩ := Kd.at_int HR942_0.out x15_1 p943 q943
                   cases e943
                   replace hx943_0 := (HB.out.cell (World.block_lt_of_cell? w _ hx943_0)).trans hx943_0
                   replace p943 := eq_true p943
                   replace q943 := eq_true q943
                   go_wp2
                   repeat (go_quiet (fail); try go_wp2)
                   go_roundg k1
                   case measure => have := HK1.out; omega
                   case rel => exact ⟨(wrap64 ((rd (rd_L1 l0_0 a1) x15_1) * a4)), (wrap64 ((rd (rd_L1 l0_0 a2) x15_1) * a3)), (wrap64 (x15_1 + 1)), rs_, rs_, rs_, H', ⟨by have := HK1.out; omega⟩, ⟨bk_⟩, ⟨hb_⟩⟩
                  ·rw [if_neg c24] at H
                   exact absurd H (by simp)
                 ·rw [if_neg c23] at H
                  exact absurd H (by simp)
                ·rw [if_neg c22] at H
                 exact absurd H (by simp)
               ·rw [if_neg c21] at H
                exact absurd H (by simp)
              ·rw [if_neg c20] at H
               exact absurd H (by simp)
             ·rw [if_neg c19] at H
              exact absurd H (by simp)
            ·rw [if_neg c18] at H
             exact absurd H (by simp)
           ·rw [if_neg c17] at H
            have c17b0 : (x13_1 == x14_1) = false := beq_eq_false_iff_ne.mpr c17
            have c17b1 : (x13_1 != x14_1) = true := bne_iff_ne.mpr c17
            obtain rfl := Option.some.inj H
            go_wp2
            repeat (go_quiet (fail); try go_wp2)
            go_ret
            exact ⟨by first | rfl | (simp [errW_none, errW_some] <;> rfl) | (simp only [← hji8]; first | rfl | (simp [errW_none, errW_some] <;> rfl)) | (simp [*, errW_none, errW_some] <;> rfl), hb_⟩
          ·rw [if_neg c16] at H
           have c16b0 : decide (x15_1 < (l0_0.length : Int)) = false := decide_eq_false c16
           clear c16
           obtain rfl := Option.some.inj H
           go_wp2
           repeat (go_quiet (fail); try go_wp2)
           go_ret
           exact ⟨by first | rfl | (simp [errW_none, errW_some] <;> rfl) | (simp only [← hji8]; first | rfl | (simp [errW_none, errW_some] <;> rfl)) | (simp [*, errW_none, errW_some] <;> rfl), hb_⟩
       ·rw [if_neg c13] at H
        exact absurd H (by simp)
      ·rw [if_neg c12] at H
       exact absurd H (by simp)
     ·rw [if_neg c11] at H
      exact absurd H (by simp)
    ·rw [if_neg c10] at H
     exact absurd H (by simp)
   ·rw [if_neg c9] at H
    exact absurd H (by simp)
  ·rw [if_neg c7] at H
   exact absurd H (by simp)
 ·rw [if_neg c6] at H
  exact absurd H (by simp)
def spec_l05Row.l0 : Nat → Int → Int → Int → List (List Int) → Int → List Int → Option (Int)
 | 0, _, _, _, _, _, _ => none
 | k + 1, x1, x5, x6, x945000, x945001, x945002 => if x6 < (x945000.length : Int) then (if 0 ≤ x6 then (if 0 ≤ x1 then (if x1 < ((rd_L1 x945000 x6).length : Int) then (if (rd (rd_L1 x945000 x6) x1) > 0 then (if x5 < 0 then (spec_l05Row.l0 k x1 x6 (wrap64 (x6 + 1)) x945000 x945001 x945002) else (if 0 ≤ x5 then (if x5 < (x945000.length : Int) then (if x1 < ((rd_L1 x945000 x5).length : Int) then ((spec_l05Key.f k x945000 x945001 x945002 x6 x5 (rd (rd_L1 x945000 x6) x1) (rd (rd_L1 x945000 x5) x1)).bind fun t951 => (if t951 = true then (spec_l05Row.l0 k x1 x6 (wrap64 (x6 + 1)) x945000 x945001 x945002) else (spec_l05Row.l0 k x1 x5 (wrap64 (x6 + 1)) x945000 x945001 x945002))) else (none)) else (none)) else (none))) else (spec_l05Row.l0 k x1 x5 (wrap64 (x6 + 1)) x945000 x945001 x945002)) else (none)) else (none)) else (none)) else (some x5)
def spec_l05Row.f (k : Nat) (l0_0 : List (List Int)) (a0_1 : Int) (l0_2 : List Int) (a1 : Int) : Option (Int) := spec_l05Row.l0 k a1 (-1) 0 l0_0 a0_1 l0_2
theorem spec_l05Row.mono_l : ∀ k, (∀ y0 y1 y2 y3 y4 y5, LeO (spec_l05Row.l0 k y0 y1 y2 y3 y4 y5) (spec_l05Row.l0 (k + 1) y0 y1 y2 y3 y4 y5))
 | 0 => fun _ _ _ _ _ _ r h => by simp [spec_l05Row.l0] at h
 | k + 1 => by
  have ih0 := spec_l05Row.mono_l k
  ·intro y0 y1 y2 y3 y4 y5
   unfold spec_l05Row.l0
   repeat' first
   | (with_reducible exact ih0 _ _ _ _ _ _)
   | (with_reducible exact spec_l05Key.mono _ _ _ _ _ _ _ _)
   | (with_reducible exact LeO.refl _)
   | (with_reducible exact LeO.none _)
   | (with_reducible refine LeO.ite ?_ ?_)
   | (with_reducible refine LeO.bind ?_ (fun _ => ?_))
   | exact ih0 _ _ _ _ _ _
   | exact spec_l05Key.mono _ _ _ _ _ _ _ _
   | exact LeO.none _
   | refine LeO.ite ?_ ?_
   | refine LeO.bind ?_ (fun _ => ?_)
theorem spec_l05Row.mono : ∀ a0 a1 a2 a3 k, LeO (spec_l05Row.f k a0 a1 a2 a3) (spec_l05Row.f (k + 1) a0 a1 a2 a3) := by
 intro a0 a1 a2 a3 k
 have ih0 := spec_l05Row.mono_l k
 unfold spec_l05Row.f
 repeat' first
   | (with_reducible exact ih0 _ _ _ _ _ _)
   | (with_reducible exact spec_l05Key.mono _ _ _ _ _ _ _ _)
   | (with_reducible exact LeO.refl _)
   | (with_reducible exact LeO.none _)
   | (with_reducible refine LeO.ite ?_ ?_)
   | (with_reducible refine LeO.bind ?_ (fun _ => ?_))
   | exact ih0 _ _ _ _ _ _
   | exact spec_l05Key.mono _ _ _ _ _ _ _ _
   | exact LeO.none _
   | refine LeO.ite ?_ ?_
   | refine LeO.bind ?_ (fun _ => ?_)
def spec_l05Row.T5 : Bool × List (List Nat × List Nat) := (true, [([], []), ([0], [0]), ([], []), ([1, 2], [1, 2]), ([3], [3]), ([], []), ([4, 5], [4, 5]), ([6], [6]), ([7], [7]), ([8], [8]), ([9], [9]), ([10, 9], [9, 10]), ([11, 9, 9], [9, 11]), ([12], [12]), ([12], [12]), ([12], [12]), ([12], [12]), ([16, 12], [12, 16]), ([12], [12]), ([17, 18, 12], [12, 17, 18]), ([19, 12], [12, 19]), ([12], [12]), ([20, 21, 12], [12, 20, 21]), ([22, 12], [12, 22]), ([12], [12]), ([24, 12], [12, 24]), ([12], [12]), ([25, 26, 12], [12, 25, 26]), ([27, 12], [12, 27]), ([12], [12]), ([28, 29, 12], [12, 28, 29]), ([30, 12], [12, 30]), ([13, 14, 15, 23, 31, 12, 12], [12, 13, 14, 15, 23, 31]), ([12, 32, 9], [9, 12, 32]), ([9, 33], [9, 33])])
def spec_l05Row.B5 : List Nat := [0, 1, 0, 7, 15, 0, 63, 127, 255, 511, 1023, 2047, 4095, 8191, 8191, 8191, 8191, 73727, 8191, 466943, 991231, 8191, 4136959, 8331263, 8191, 16785407, 8191, 117448703, 251666431, 8191, 1056972799, 2130714623, 4294967295, 8589934591, 17179869183]
theorem spec_l05Row.tab5 : rtab .any (opsOf Try.f118 5) = spec_l05Row.T5 := by kernel_rfl
theorem spec_l05Row.bits5 : waitsOk spec_l05Row.T5.2 spec_l05Row.B5 = true := by kernel_rfl
theorem spec_l05Row.calls (k : Nat) (A0_0 : Option Addr) (c0_0 : Nat) (l0_0 : List (List Int)) (a0_1 : Int) (A0_2 : Option Addr) (c0_2 : Nat) (l0_2 : List Int) (a1 : Int) (r : Int) (w : World) (hr0_0 : Kd.C (Kd.slice 2 (Kd.int .i64)) w A0_0 l0_0.length l0_0) (hc0_0 : l0_0.length ≤ c0_0) (hr0_2 : Kd.C (Kd.int .i64) w A0_2 l0_2.length l0_2) (hc0_2 : l0_2.length ≤ c0_2) (h : spec_l05Row.f k l0_0 a0_1 l0_2 a1 = some r) :
  Calls Try.prog 118 #[.agg #[.slice A0_0 l0_0.length c0_0, .int .i64 a0_1, .slice A0_2 l0_2.length c0_2], .int .i64 a1] w fun e w' => e = .returned (.int .i64 r) ∧ Below w.heap.size w w' := by
 have hu101 := Try.underlying101
 have HR0_0 := Aside0.mk hr0_0
 have HC0_0 := Aside0.mk hc0_0
 clear hr0_0 hc0_0
 have HR0_2 := Aside0.mk hr0_2
 have HC0_2 := Aside0.mk hc0_2
 clear hr0_2 hc0_2
 have HB := Aside0.mk (Below.refl w.heap.size w)
 have H : (spec_l05Row.l0 k a1 (-1) 0 l0_0 a0_1 l0_2) = some r := h
 clear h
 have H' := Aside0.mk H
 clear H
 go_enter Try.func118, Try.ntmps118
 go_wp2_with (first | ((with_reducible refine gate_dst (N := 2) rfl ?_); refine box_event ?hg (N := 2) ?hd (cs := #[.slice A0_0 l0_0.length c0_0, .int .i64 a0_1, .slice A0_2 l0_2.length c0_2]) (t := 101) ?hr ?_; (case hd => rfl); (case hg => rfl); (case hr => first | (go_simp; done) | (go_simp; rfl)); intro gb944 hg w3 hbox hb; have n0_ := Aside0.mk (bs_ hb); have n1_ := Aside0.mk (hbox); have n2_ := Aside0.mk ((by rw [hg]; exact bz_ : w.heap.size ≤ gb944)); have n3_ := Aside0.mk ((by rw [hg]; exact bz_ : w.heap.size ≤ gb944)); clear HB; have HB := n0_; have BK944 := n1_; have GW944 := n2_; have GE944 := n3_; clear n0_ n1_ n2_ n3_; clear hb hbox hg))
 go_loopg [5, 6] k (fun kq v5 v6 w' => ∃ (x5_1 : Int) (x6_1 : Int), v5 = .int .i64 x5_1 ∧ v6 = .int .i64 x6_1 ∧ Aside0 (spec_l05Row.l0 kq a1 x5_1 x6_1 l0_0 a0_1 l0_2 = some r) ∧ Aside0 (kq ≤ k) ∧ Aside0 (w'.heap[gb944]? = some (.cells #[(.slice A0_0 l0_0.length c0_0), .int .i64 a0_1, (.slice A0_2 l0_2.length c0_2)] 101 (0, 0))) ∧ Aside0 (Below w.heap.size w w'))
 case atStart => exact ⟨((-1)), (0), rs_, rs_, H', ⟨Nat.le_refl _⟩, ⟨bk_⟩, ⟨hb_⟩⟩
 case round =>
  clear H'
  try clear c1
  try clear p2
  obtain ⟨x5_1, x6_1, rfl, rfl, HA, HK1, BK944, HB⟩ := hrel
  cases gk with
  | zero => exact absurd HA.out (by simp [spec_l05Row.l0])
  | succ k1 =>
   have H := HA.out
   clear HA
   simp only [spec_l05Row.l0] at H
   by_cases c4 : x6_1 < (l0_0.length : Int)
   ·rw [if_pos c4] at H
    have c4b0 : decide (x6_1 < (l0_0.length : Int)) = true := decide_eq_true c4
    clear c4
    by_cases c5 : 0 ≤ x6_1
    ·rw [if_pos c5] at H
     have c5b0 : decide (0 ≤ x6_1) = true := decide_eq_true c5
     clear c5
     by_cases c6 : 0 ≤ a1
     ·rw [if_pos c6] at H
      have c6b0 : decide (0 ≤ a1) = true := decide_eq_true c6
      clear c6
      by_cases c7 : a1 < ((rd_L1 l0_0 x6_1).length : Int)
      ·rw [if_pos c7] at H
       have c7b0 : decide (a1 < ((rd_L1 l0_0 x6_1).length : Int)) = true := decide_eq_true c7
       clear c7
       by_cases c8 : (rd (rd_L1 l0_0 x6_1) a1) > 0
       ·rw [if_pos c8] at H
        have c8b0 : decide (0 < (rd (rd_L1 l0_0 x6_1) a1)) = true := decide_eq_true c8
        clear c8
        by_cases c9 : x5_1 < 0
        ·rw [if_pos c9] at H
         have c9b0 : decide (x5_1 < 0) = true := decide_eq_true c9
         clear c9
         have H' := Aside0.mk H
         clear H
         have hcz10_0 : wr.cell? ⟨gb944, 0, none⟩ = some (.slice A0_0 l0_0.length c0_0) := (blk_cell BK944.out 0).trans rfl
         have hcz10_1 : wr.cell? ⟨gb944, 1, none⟩ = some (.int .i64 a0_1) := (blk_cell BK944.out 1).trans rfl
         have hcz10_2 : wr.cell? ⟨gb944, 2, none⟩ = some (.slice A0_2 l0_2.length c0_2) := (blk_cell BK944.out 2).trans rfl
         have hfz10_0 := blk_frozen BK944.out 0
         have hfz10_1 := blk_frozen BK944.out 1
         have hfz10_2 := blk_frozen BK944.out 2
         try go_wp2
         have n0_ := Aside0.mk (blk_drew BK944.out)
         have n1_ := Aside0.mk (below_drew1 HB.out)
         clear BK944
         clear HB
         have BK944 := n0_
         have HB := n1_
         clear n0_ n1_
         have p945 : 0 ≤ (x6_1 : Int) := od_
         have q945 : x6_1 < (l0_0.length : Int) := od_
         obtain ⟨ad945, A945_0, c945_0, e945, hx945_0, hl945_0, hi945_0⟩ := at_L1 HR0_0.out x6_1 p945 q945
         have hw945_0 := hx945_0
         cases e945
         replace hx945_0 := (HB.out.cell (World.block_lt_of_cell? w _ hx945_0)).trans hx945_0
         have HR945_0 := Aside0.mk hi945_0
         have HC945_0 := Aside0.mk hl945_0
         clear hi945_0 hl945_0
         replace p945 := eq_true p945
         replace q945 := eq_true q945
         have p946 : 0 ≤ (a1 : Int) := od_
         have q946 : a1 < ((rd_L1 l0_0 x6_1).length : Int) := od_
         obtain ⟨ad946, e946, hx946_0⟩ := Kd.at_int HR945_0.out a1 p946 q946
         have hw946_0 := hx946_0
         cases e946
         replace hx946_0 := (HB.out.cell (World.block_lt_of_cell? w _ hx946_0)).trans hx946_0
         replace p946 := eq_true p946
         replace q946 := eq_true q946
         refine st_ (n := 35) (S := fun w' => w'.cell? ⟨gb944, 0, none⟩ = some (.slice (some ad945) l0_0.length c0_0) ∧ w'.cell? ⟨gb944, 1, none⟩ = some (.int .i64 a0_1) ∧ w'.cell? ⟨gb944, 2, none⟩ = some (.slice A0_2 l0_2.length c0_2) ∧ w'.cell? (ad945.add (x6_1).toNat) = some (.slice (some ad946) (rd_L1 l0_0 x6_1).length c945_0) ∧ w'.cell? (ad946.add (a1).toNat) = some (.int .i64 (rd (rd_L1 l0_0 x6_1) a1))) (ds := []) ⟨(blk_cell BK944.out 0).trans rfl, (blk_cell BK944.out 1).trans rfl, (blk_cell BK944.out 2).trans rfl, ((HB.out.cell (World.block_lt_of_cell? w _ hw945_0)).trans hw945_0), ((HB.out.cell (World.block_lt_of_cell? w _ hw946_0)).trans hw946_0)⟩ (fun hHeld => ?_); refine with_tabW spec_l05Row.tab5 spec_l05Row.bits5 (fun HT_ HW_ => ?_)
         generalize wr.drew = w11 at BK944 HB HR945_0 hx945_0 hx946_0 hHeld ⊢
         refine pu_ 0 14 ?_; refine pu_ 2 16 ?_; refine pu_ 5 19 ?_; refine tk_ 1 15 ?_; refine pu_ 3 17 ?_; refine tk_ 4 18 ?_; refine pu_ 6 20 ?_; refine tk_ 7 21 ?_; refine pu_ 8 22 ?_; refine pu_ 9 23 ?_; refine pu_ 10 24 ?_; refine pu_ 11 25 ?_; refine pu_ 12 26 ?_; refine pn_ 13 27 ?_; refine pn_ 14 28 ?_; refine pn_ 15 29 ?_; refine pn_ 16 30 ?_; refine pn_ 17 31 ?_; refine pn_ 18 32 ?_; refine pn_ 19 33 ?_; refine pn_ 20 34 ?_; refine pn_ 21 35 ?_; refine pn_ 22 36 ?_; refine pn_ 23 37 ?_; refine pn_ 24 38 ?_; refine pn_ 25 39 ?_; refine pn_ 26 40 ?_; refine pn_ 27 41 ?_; refine pn_ 28 42 ?_; refine pn_ 29 43 ?_; refine pn_ 30 44 ?_; refine pn_ 31 45 ?_; refine pn_ 32 46 ?_; refine pu_ 33 47 ?_; refine pu_ 34 48 ?_
         refine done_ (done_of HT_.out (by kernel_rfl)) ?_
         try go_wp2
         go_roundg k1
         case measure => have := HK1.out; omega
         case rel => exact ⟨(x6_1), (wrap64 (x6_1 + 1)), rs_, rs_, H', ⟨by have := HK1.out; omega⟩, ⟨bk_⟩, ⟨hb_⟩⟩
        ·rw [if_neg c9] at H
         have c9b0 : decide (x5_1 < 0) = false := decide_eq_false c9
         clear c9
         by_cases c12 : 0 ≤ x5_1
         ·rw [if_pos c12] at H
          have c12b0 : decide (0 ≤ x5_1) = true := decide_eq_true c12
          clear c12
          by_cases c13 : x5_1 < (l0_0.length : Int)
          ·rw [if_pos c13] at H
           have c13b0 : decide (x5_1 < (l0_0.length : Int)) = true := decide_eq_true c13
           clear c13
           by_cases c14 : a1 < ((rd_L1 l0_0 x5_1).length : Int)
           ·rw [if_pos c14] at H
            have c14b0 : decide (a1 < ((rd_L1 l0_0 x5_1).length : Int)) = true := decide_eq_true c14
            clear c14
            replace H := Option.bind_eq_some_iff.mp H
            obtain ⟨t951, A150, H⟩ := H
            replace H : (if t951 = true then (spec_l05Row.l0 k1 a1 x6_1 (wrap64 (x6_1 + 1)) l0_0 a0_1 l0_2) else (spec_l05Row.l0 k1 a1 x5_1 (wrap64 (x6_1 + 1)) l0_0 a0_1 l0_2)) = some r := H
            have A15 := Aside0.mk A150
            clear A150
            by_cases c16 : t951 = true
            ·subst c16
             have H1 : (spec_l05Row.l0 k1 a1 x6_1 (wrap64 (x6_1 + 1)) l0_0 a0_1 l0_2) = some r := by rw [if_pos rfl] at H; exact H
             clear H
             have H := H1
             clear H1
             have H' := Aside0.mk H
             clear H
             have hcz17_0 : wr.cell? ⟨gb944, 0, none⟩ = some (.slice A0_0 l0_0.length c0_0) := (blk_cell BK944.out 0).trans rfl
             have hcz17_1 : wr.cell? ⟨gb944, 1, none⟩ = some (.int .i64 a0_1) := (blk_cell BK944.out 1).trans rfl
             have hcz17_2 : wr.cell? ⟨gb944, 2, none⟩ = some (.slice A0_2 l0_2.length c0_2) := (blk_cell BK944.out 2).trans rfl
             have hfz17_0 := blk_frozen BK944.out 0
             have hfz17_1 := blk_frozen BK944.out 1
             have hfz17_2 := blk_frozen BK944.out 2
             try go_wp2
             have n0_ := Aside0.mk (blk_drew BK944.out)
             have n1_ := Aside0.mk (below_drew1 HB.out)
             clear BK944
             clear HB
             have BK944 := n0_
             have HB := n1_
             clear n0_ n1_
             have p945 : 0 ≤ (x6_1 : Int) := od_
             have q945 : x6_1 < (l0_0.length : Int) := od_
             obtain ⟨ad945, A945_0, c945_0, e945, hx945_0, hl945_0, hi945_0⟩ := at_L1 HR0_0.out x6_1 p945 q945
             have hw945_0 := hx945_0
             cases e945
             replace hx945_0 := (HB.out.cell (World.block_lt_of_cell? w _ hx945_0)).trans hx945_0
             have HR945_0 := Aside0.mk hi945_0
             have HC945_0 := Aside0.mk hl945_0
             clear hi945_0 hl945_0
             replace p945 := eq_true p945
             replace q945 := eq_true q945
             have p946 : 0 ≤ (a1 : Int) := od_
             have q946 : a1 < ((rd_L1 l0_0 x6_1).length : Int) := od_
             obtain ⟨ad946, e946, hx946_0⟩ := Kd.at_int HR945_0.out a1 p946 q946
             have hw946_0 := hx946_0
             cases e946
             replace hx946_0 := (HB.out.cell (World.block_lt_of_cell? w _ hx946_0)).trans hx946_0
             replace p946 := eq_true p946
             replace q946 := eq_true q946
             have p947 : 0 ≤ (x6_1 : Int) := od_
             have q947 : x6_1 < (l0_0.length : Int) := od_
             obtain ⟨ad947, A947_0, c947_0, e947, hx947_0, hl947_0, hi947_0⟩ := at_L1 HR0_0.out x6_1 p947 q947
             have hw947_0 := hx947_0
             obtain rfl : ad945 = ad947 := (by injection e947)
             replace hx947_0 := (HB.out.cell (World.block_lt_of_cell? w _ hx947_0)).trans hx947_0
             have HR947_0 := Aside0.mk hi947_0
             have HC947_0 := Aside0.mk hl947_0
             clear hi947_0 hl947_0
             replace p947 := eq_true p947
             replace q947 := eq_true q947
             have ea_ := Option.some.inj (hx945_0.symm.trans hx947_0)
             injection ea_ with ea_ en_ ec_
             subst ea_
             subst ec_
             clear en_
             have p948 : 0 ≤ (a1 : Int) := od_
             have q948 : a1 < ((rd_L1 l0_0 x6_1).length : Int) := od_
             obtain ⟨ad948, e948, hx948_0⟩ := Kd.at_int HR947_0.out a1 p948 q948
             have hw948_0 := hx948_0
             cases e948
             replace hx948_0 := (HB.out.cell (World.block_lt_of_cell? w _ hx948_0)).trans hx948_0
             replace p948 := eq_true p948
             replace q948 := eq_true q948
             have p949 : 0 ≤ (x5_1 : Int) := od_
             have q949 : x5_1 < (l0_0.length : Int) := od_
             obtain ⟨ad949, A949_0, c949_0, e949, hx949_0, hl949_0, hi949_0⟩ := at_L1 HR0_0.out x5_1 p949 q949
             have hw949_0 := hx949_0
             obtain rfl : ad945 = ad949 := (by injection e949)
             replace hx949_0 := (HB.out.cell (World.block_lt_of_cell? w _ hx949_0)).trans hx949_0
             have HR949_0 := Aside0.mk hi949_0
             have HC949_0 := Aside0.mk hl949_0
             clear hi949_0 hl949_0
             replace p949 := eq_true p949
             replace q949 := eq_true q949
             have p950 : 0 ≤ (a1 : Int) := od_
             have q950 : a1 < ((rd_L1 l0_0 x5_1).length : Int) := od_
             obtain ⟨ad950, e950, hx950_0⟩ := Kd.at_int HR949_0.out a1 p950 q950
             have hw950_0 := hx950_0
             cases e950
             replace hx950_0 := (HB.out.cell (World.block_lt_of_cell? w _ hx950_0)).trans hx950_0
             replace p950 := eq_true p950
             replace q950 := eq_true q950
             refine st_ (n := 35) (S := fun w' => w'.cell? ⟨gb944, 0, none⟩ = some (.slice (some ad945) l0_0.length c0_0) ∧ w'.cell? ⟨gb944, 1, none⟩ = some (.int .i64 a0_1) ∧ w'.cell? ⟨gb944, 2, none⟩ = some (.slice A0_2 l0_2.length c0_2) ∧ w'.cell? (ad945.add (x6_1).toNat) = some (.slice (some ad946) (rd_L1 l0_0 x6_1).length c945_0) ∧ w'.cell? (ad946.add (a1).toNat) = some (.int .i64 (rd (rd_L1 l0_0 x6_1) a1)) ∧ w'.cell? (ad945.add (x6_1).toNat) = some (.slice (some ad946) (rd_L1 l0_0 x6_1).length c945_0) ∧ w'.cell? (ad946.add (a1).toNat) = some (.int .i64 (rd (rd_L1 l0_0 x6_1) a1)) ∧ w'.cell? (ad945.add (x5_1).toNat) = some (.slice (some ad950) (rd_L1 l0_0 x5_1).length c949_0) ∧ w'.cell? (ad950.add (a1).toNat) = some (.int .i64 (rd (rd_L1 l0_0 x5_1) a1))) (ds := []) ⟨(blk_cell BK944.out 0).trans rfl, (blk_cell BK944.out 1).trans rfl, (blk_cell BK944.out 2).trans rfl, ((HB.out.cell (World.block_lt_of_cell? w _ hw945_0)).trans hw945_0), ((HB.out.cell (World.block_lt_of_cell? w _ hw946_0)).trans hw946_0), ((HB.out.cell (World.block_lt_of_cell? w _ hw947_0)).trans hw947_0), ((HB.out.cell (World.block_lt_of_cell? w _ hw948_0)).trans hw948_0), ((HB.out.cell (World.block_lt_of_cell? w _ hw949_0)).trans hw949_0), ((HB.out.cell (World.block_lt_of_cell? w _ hw950_0)).trans hw950_0)⟩ (fun hHeld => ?_); refine with_tabW spec_l05Row.tab5 spec_l05Row.bits5 (fun HT_ HW_ => ?_)
             generalize wr.drew = w18 at BK944 HB HR945_0 HR947_0 HR949_0 hx945_0 hx946_0 hx947_0 hx948_0 hx949_0 hx950_0 hHeld ⊢
             refine pu_ 0 14 ?_; refine pu_ 2 16 ?_; refine pu_ 5 19 ?_; refine tk_ 1 15 ?_; refine pu_ 3 17 ?_; refine tk_ 4 18 ?_; refine pu_ 6 20 ?_; refine tk_ 7 21 ?_; refine pu_ 8 22 ?_; refine pu_ 9 23 ?_; refine pu_ 10 24 ?_; refine pu_ 11 25 ?_; refine pu_ 12 26 ?_; refine pu_ 14 28 ?_; refine pu_ 15 29 ?_; refine pu_ 16 30 ?_; refine pu_ 18 32 ?_; refine pu_ 21 35 ?_; refine pu_ 24 38 ?_; refine pu_ 26 40 ?_; refine pu_ 29 43 ?_; refine tk_ 13 27 ?_; refine tk_ 17 31 ?_; refine pu_ 19 33 ?_; refine tk_ 20 34 ?_; refine pu_ 22 36 ?_; refine tk_ 23 37 ?_; refine tk_ 25 39 ?_; refine pu_ 27 41 ?_; refine tk_ 28 42 ?_; refine pu_ 30 44 ?_; refine tk_ 31 45 ?_
             refine on_ 32 (some 46) (fun K hK => ?_)
             refine goes_ Try.func117 (by kernel_rfl) rfl #[.agg #[.slice (some ad945) l0_0.length c0_0, .int .i64 a0_1, .slice A0_2 l0_2.length c0_2], .int .i64 x6_1, .int .i64 x5_1, .int .i64 (rd (rd_L1 l0_0 x6_1) a1), .int .i64 (rd (rd_L1 l0_0 x5_1) a1)] (by rfl) rfl rfl (by (try simp only [List.map_toArray, List.map_cons, List.map_nil]); first | done | rfl | (simp only [List.length_drop, List.length_take]; rfl)) ?_
             with_reducible refine (spec_l05Key.calls k1 _ _ l0_0 a0_1 _ _ l0_2 x6_1 x5_1 (rd (rd_L1 l0_0 x6_1) a1) (rd (rd_L1 l0_0 x5_1) a1) true _ ?side1 ?side2 ?side3 ?side4 A15.out).mono ?_
             (case side1 => exact cb_ HR0_0.out HB.out)
             (case side2 => exact HC0_0.out)
             (case side3 => exact cb_ HR0_2.out HB.out)
             (case side4 => exact HC0_2.out)
             rintro e w19 ⟨rfl, hb⟩
             refine ⟨_, rfl, ?_⟩
             have n0_ := Aside0.mk (bb_ BK944.out hb)
             have n1_ := Aside0.mk (bs_ hb)
             clear BK944
             clear HB
             have BK944 := n0_
             have HB := n1_
             clear n0_ n1_
             (try clear hb)
             (try clear hb2)
             (try clear hk)
             (try clear hi)
             refine hK.out _ _ ⟨(blk_cell BK944.out 0).trans rfl, (blk_cell BK944.out 1).trans rfl, (blk_cell BK944.out 2).trans rfl, ((HB.out.cell (World.block_lt_of_cell? w _ hw945_0)).trans hw945_0), ((HB.out.cell (World.block_lt_of_cell? w _ hw946_0)).trans hw946_0), ((HB.out.cell (World.block_lt_of_cell? w _ hw947_0)).trans hw947_0), ((HB.out.cell (World.block_lt_of_cell? w _ hw948_0)).trans hw948_0), ((HB.out.cell (World.block_lt_of_cell? w _ hw949_0)).trans hw949_0), ((HB.out.cell (World.block_lt_of_cell? w _ hw950_0)).trans hw950_0)⟩ (fun hHeld => ?_)
             clear hK K
             refine norm_ (a' := ?_) ?_ ?_
             rotate_left
             ·show Act.put _ (some 46) _ = _
              simp only [Act.put, List.setIfInBounds_toArray, List.set_cons_zero, List.set_cons_succ, i64_w, i32_w]
              rfl
             refine pu_ 33 47 ?_; refine pu_ 34 48 ?_
             refine done_ (done_of HT_.out (by kernel_rfl)) ?_
             try go_wp2
             go_roundg k1
             case measure => have := HK1.out; omega
             case rel => exact ⟨(x6_1), (wrap64 (x6_1 + 1)), rs_, rs_, H', ⟨by have := HK1.out; omega⟩, ⟨bk_⟩, ⟨hb_⟩⟩
            ·replace c16 := Bool.eq_false_iff.mpr c16
             subst c16
             have H1 : (spec_l05Row.l0 k1 a1 x5_1 (wrap64 (x6_1 + 1)) l0_0 a0_1 l0_2) = some r := by rw [if_neg (show ¬ (false = true) by decide)] at H; exact H
             clear H
             have H := H1
             clear H1
             have H' := Aside0.mk H
             clear H
             have hcz20_0 : wr.cell? ⟨gb944, 0, none⟩ = some (.slice A0_0 l0_0.length c0_0) := (blk_cell BK944.out 0).trans rfl
             have hcz20_1 : wr.cell? ⟨gb944, 1, none⟩ = some (.int .i64 a0_1) := (blk_cell BK944.out 1).trans rfl
             have hcz20_2 : wr.cell? ⟨gb944, 2, none⟩ = some (.slice A0_2 l0_2.length c0_2) := (blk_cell BK944.out 2).trans rfl
             have hfz20_0 := blk_frozen BK944.out 0
             have hfz20_1 := blk_frozen BK944.out 1
             have hfz20_2 := blk_frozen BK944.out 2
             try go_wp2
             have n0_ := Aside0.mk (blk_drew BK944.out)
             have n1_ := Aside0.mk (below_drew1 HB.out)
             clear BK944
             clear HB
             have BK944 := n0_
             have HB := n1_
             clear n0_ n1_
             have p945 : 0 ≤ (x6_1 : Int) := od_
             have q945 : x6_1 < (l0_0.length : Int) := od_
             obtain ⟨ad945, A945_0, c945_0, e945, hx945_0, hl945_0, hi945_0⟩ := at_L1 HR0_0.out x6_1 p945 q945
             have hw945_0 := hx945_0
             cases e945
             replace hx945_0 := (HB.out.cell (World.block_lt_of_cell? w _ hx945_0)).trans hx945_0
             have HR945_0 := Aside0.mk hi945_0
             have HC945_0 := Aside0.mk hl945_0
             clear hi945_0 hl945_0
             replace p945 := eq_true p945
             replace q945 := eq_true q945
             have p946 : 0 ≤ (a1 : Int) := od_
             have q946 : a1 < ((rd_L1 l0_0 x6_1).length : Int) := od_
             obtain ⟨ad946, e946, hx946_0⟩ := Kd.at_int HR945_0.out a1 p946 q946
             have hw946_0 := hx946_0
             cases e946
             replace hx946_0 := (HB.out.cell (World.block_lt_of_cell? w _ hx946_0)).trans hx946_0
             replace p946 := eq_true p946
             replace q946 := eq_true q946
             have p947 : 0 ≤ (x6_1 : Int) := od_
             have q947 : x6_1 < (l0_0.length : Int) := od_
             obtain ⟨ad947, A947_0, c947_0, e947, hx947_0, hl947_0, hi947_0⟩ := at_L1 HR0_0.out x6_1 p947 q947
             have hw947_0 := hx947_0
             obtain rfl : ad945 = ad947 := (by injection e947)
             replace hx947_0 := (HB.out.cell (World.block_lt_of_cell? w _ hx947_0)).trans hx947_0
             have HR947_0 := Aside0.mk hi947_0
             have HC947_0 := Aside0.mk hl947_0
             clear hi947_0 hl947_0
             replace p947 := eq_true p947
             replace q947 := eq_true q947
             have ea_ := Option.some.inj (hx945_0.symm.trans hx947_0)
             injection ea_ with ea_ en_ ec_
             subst ea_
             subst ec_
             clear en_
             have p948 : 0 ≤ (a1 : Int) := od_
             have q948 : a1 < ((rd_L1 l0_0 x6_1).length : Int) := od_
             obtain ⟨ad948, e948, hx948_0⟩ := Kd.at_int HR947_0.out a1 p948 q948
             have hw948_0 := hx948_0
             cases e948
             replace hx948_0 := (HB.out.cell (World.block_lt_of_cell? w _ hx948_0)).trans hx948_0
             replace p948 := eq_true p948
             replace q948 := eq_true q948
             have p949 : 0 ≤ (x5_1 : Int) := od_
             have q949 : x5_1 < (l0_0.length : Int) := od_
             obtain ⟨ad949, A949_0, c949_0, e949, hx949_0, hl949_0, hi949_0⟩ := at_L1 HR0_0.out x5_1 p949 q949
             have hw949_0 := hx949_0
             obtain rfl : ad945 = ad949 := (by injection e949)
             replace hx949_0 := (HB.out.cell (World.block_lt_of_cell? w _ hx949_0)).trans hx949_0
             have HR949_0 := Aside0.mk hi949_0
             have HC949_0 := Aside0.mk hl949_0
             clear hi949_0 hl949_0
             replace p949 := eq_true p949
             replace q949 := eq_true q949
             have p950 : 0 ≤ (a1 : Int) := od_
             have q950 : a1 < ((rd_L1 l0_0 x5_1).length : Int) := od_
             obtain ⟨ad950, e950, hx950_0⟩ := Kd.at_int HR949_0.out a1 p950 q950
             have hw950_0 := hx950_0
             cases e950
             replace hx950_0 := (HB.out.cell (World.block_lt_of_cell? w _ hx950_0)).trans hx950_0
             replace p950 := eq_true p950
             replace q950 := eq_true q950
             refine st_ (n := 35) (S := fun w' => w'.cell? ⟨gb944, 0, none⟩ = some (.slice (some ad945) l0_0.length c0_0) ∧ w'.cell? ⟨gb944, 1, none⟩ = some (.int .i64 a0_1) ∧ w'.cell? ⟨gb944, 2, none⟩ = some (.slice A0_2 l0_2.length c0_2) ∧ w'.cell? (ad945.add (x6_1).toNat) = some (.slice (some ad946) (rd_L1 l0_0 x6_1).length c945_0) ∧ w'.cell? (ad946.add (a1).toNat) = some (.int .i64 (rd (rd_L1 l0_0 x6_1) a1)) ∧ w'.cell? (ad945.add (x6_1).toNat) = some (.slice (some ad946) (rd_L1 l0_0 x6_1).length c945_0) ∧ w'.cell? (ad946.add (a1).toNat) = some (.int .i64 (rd (rd_L1 l0_0 x6_1) a1)) ∧ w'.cell? (ad945.add (x5_1).toNat) = some (.slice (some ad950) (rd_L1 l0_0 x5_1).length c949_0) ∧ w'.cell? (ad950.add (a1).toNat) = some (.int .i64 (rd (rd_L1 l0_0 x5_1) a1))) (ds := []) ⟨(blk_cell BK944.out 0).trans rfl, (blk_cell BK944.out 1).trans rfl, (blk_cell BK944.out 2).trans rfl, ((HB.out.cell (World.block_lt_of_cell? w _ hw945_0)).trans hw945_0), ((HB.out.cell (World.block_lt_of_cell? w _ hw946_0)).trans hw946_0), ((HB.out.cell (World.block_lt_of_cell? w _ hw947_0)).trans hw947_0), ((HB.out.cell (World.block_lt_of_cell? w _ hw948_0)).trans hw948_0), ((HB.out.cell (World.block_lt_of_cell? w _ hw949_0)).trans hw949_0), ((HB.out.cell (World.block_lt_of_cell? w _ hw950_0)).trans hw950_0)⟩ (fun hHeld => ?_); refine with_tabW spec_l05Row.tab5 spec_l05Row.bits5 (fun HT_ HW_ => ?_)
             generalize wr.drew = w21 at BK944 HB HR945_0 HR947_0 HR949_0 hx945_0 hx946_0 hx947_0 hx948_0 hx949_0 hx950_0 hHeld ⊢
             refine pu_ 0 14 ?_; refine pu_ 2 16 ?_; refine pu_ 5 19 ?_; refine tk_ 1 15 ?_; refine pu_ 3 17 ?_; refine tk_ 4 18 ?_; refine pu_ 6 20 ?_; refine tk_ 7 21 ?_; refine pu_ 8 22 ?_; refine pu_ 9 23 ?_; refine pu_ 10 24 ?_; refine pu_ 11 25 ?_; refine pu_ 12 26 ?_; refine pu_ 14 28 ?_; refine pu_ 15 29 ?_; refine pu_ 16 30 ?_; refine pu_ 18 32 ?_; refine pu_ 21 35 ?_; refine pu_ 24 38 ?_; refine pu_ 26 40 ?_; refine pu_ 29 43 ?_; refine tk_ 13 27 ?_; refine tk_ 17 31 ?_; refine pu_ 19 33 ?_; refine tk_ 20 34 ?_; refine pu_ 22 36 ?_; refine tk_ 23 37 ?_; refine tk_ 25 39 ?_; refine pu_ 27 41 ?_; refine tk_ 28 42 ?_; refine pu_ 30 44 ?_; refine tk_ 31 45 ?_
             refine on_ 32 (some 46) (fun K hK => ?_)
             refine goes_ Try.func117 (by kernel_rfl) rfl #[.agg #[.slice (some ad945) l0_0.length c0_0, .int .i64 a0_1, .slice A0_2 l0_2.length c0_2], .int .i64 x6_1, .int .i64 x5_1, .int .i64 (rd (rd_L1 l0_0 x6_1) a1), .int .i64 (rd (rd_L1 l0_0 x5_1) a1)] (by rfl) rfl rfl (by (try simp only [List.map_toArray, List.map_cons, List.map_nil]); first | done | rfl | (simp only [List.length_drop, List.length_take]; rfl)) ?_
             with_reducible refine (spec_l05Key.calls k1 _ _ l0_0 a0_1 _ _ l0_2 x6_1 x5_1 (rd (rd_L1 l0_0 x6_1) a1) (rd (rd_L1 l0_0 x5_1) a1) false _ ?side1 ?side2 ?side3 ?side4 A15.out).mono ?_
             (case side1 => exact cb_ HR0_0.out HB.out)
             (case side2 => exact HC0_0.out)
             (case side3 => exact cb_ HR0_2.out HB.out)
             (case side4 => exact HC0_2.out)
             rintro e w22 ⟨rfl, hb⟩
             refine ⟨_, rfl, ?_⟩
             have n0_ := Aside0.mk (bb_ BK944.out hb)
             have n1_ := Aside0.mk (bs_ hb)
             clear BK944
             clear HB
             have BK944 := n0_
             have HB := n1_
             clear n0_ n1_
             (try clear hb)
             (try clear hb2)
             (try clear hk)
             (try clear hi)
             refine hK.out _ _ ⟨(blk_cell BK944.out 0).trans rfl, (blk_cell BK944.out 1).trans rfl, (blk_cell BK944.out 2).trans rfl, ((HB.out.cell (World.block_lt_of_cell? w _ hw945_0)).trans hw945_0), ((HB.out.cell (World.block_lt_of_cell? w _ hw946_0)).trans hw946_0), ((HB.out.cell (World.block_lt_of_cell? w _ hw947_0)).trans hw947_0), ((HB.out.cell (World.block_lt_of_cell? w _ hw948_0)).trans hw948_0), ((HB.out.cell (World.block_lt_of_cell? w _ hw949_0)).trans hw949_0), ((HB.out.cell (World.block_lt_of_cell? w _ hw950_0)).trans hw950_0)⟩ (fun hHeld => ?_)
             clear hK K
             refine norm_ (a' := ?_) ?_ ?_
             rotate_left
             ·show Act.put _ (some 46) _ = _
              simp only [Act.put, List.setIfInBounds_toArray, List.set_cons_zero, List.set_cons_succ, i64_w, i32_w]
              rfl
             refine pu_ 33 47 ?_; refine pu_ 34 48 ?_
             refine done_ (done_of HT_.out (by kernel_rfl)) ?_
             try go_wp2
             go_roundg k1
             case measure => have := HK1.out; omega
             case rel => exact ⟨(x5_1), (wrap64 (x6_1 + 1)), rs_, rs_, H', ⟨by have := HK1.out; omega⟩, ⟨bk_⟩, ⟨hb_⟩⟩
           ·rw [if_neg c14] at H
            exact absurd H (by simp)
          ·rw [if_neg c13] at H
           exact absurd H (by simp)
         ·rw [if_neg c12] at H
          exact absurd H (by simp)
       ·rw [if_neg c8] at H
        have c8b0 : decide (0 < (rd (rd_L1 l0_0 x6_1) a1)) = false := decide_eq_false c8
        clear c8
        have H' := Aside0.mk H
        clear H
        have hcz23_0 : wr.cell? ⟨gb944, 0, none⟩ = some (.slice A0_0 l0_0.length c0_0) := (blk_cell BK944.out 0).trans rfl
        have hcz23_1 : wr.cell? ⟨gb944, 1, none⟩ = some (.int .i64 a0_1) := (blk_cell BK944.out 1).trans rfl
        have hcz23_2 : wr.cell? ⟨gb944, 2, none⟩ = some (.slice A0_2 l0_2.length c0_2) := (blk_cell BK944.out 2).trans rfl
        have hfz23_0 := blk_frozen BK944.out 0
        have hfz23_1 := blk_frozen BK944.out 1
        have hfz23_2 := blk_frozen BK944.out 2
        try go_wp2
        have n0_ := Aside0.mk (blk_drew BK944.out)
        have n1_ := Aside0.mk (below_drew1 HB.out)
        clear BK944
        clear HB
        have BK944 := n0_
        have HB := n1_
        clear n0_ n1_
        have p945 : 0 ≤ (x6_1 : Int) := od_
        have q945 : x6_1 < (l0_0.length : Int) := od_
        obtain ⟨ad945, A945_0, c945_0, e945, hx945_0, hl945_0, hi945_0⟩ := at_L1 HR0_0.out x6_1 p945 q945
        have hw945_0 := hx945_0
        cases e945
        replace hx945_0 := (HB.out.cell (World.block_lt_of_cell? w _ hx945_0)).trans hx945_0
        have HR945_0 := Aside0.mk hi945_0
        have HC945_0 := Aside0.mk hl945_0
        clear hi945_0 hl945_0
        replace p945 := eq_true p945
        replace q945 := eq_true q945
        have p946 : 0 ≤ (a1 : Int) := od_
        have q946 : a1 < ((rd_L1 l0_0 x6_1).length : Int) := od_
        obtain ⟨ad946, e946, hx946_0⟩ := Kd.at_int HR945_0.out a1 p946 q946
        have hw946_0 := hx946_0
        cases e946
        replace hx946_0 := (HB.out.cell (World.block_lt_of_cell? w _ hx946_0)).trans hx946_0
        replace p946 := eq_true p946
        replace q946 := eq_true q946
        refine st_ (n := 35) (S := fun w' => w'.cell? ⟨gb944, 0, none⟩ = some (.slice (some ad945) l0_0.length c0_0) ∧ w'.cell? ⟨gb944, 1, none⟩ = some (.int .i64 a0_1) ∧ w'.cell? ⟨gb944, 2, none⟩ = some (.slice A0_2 l0_2.length c0_2) ∧ w'.cell? (ad945.add (x6_1).toNat) = some (.slice (some ad946) (rd_L1 l0_0 x6_1).length c945_0) ∧ w'.cell? (ad946.add (a1).toNat) = some (.int .i64 (rd (rd_L1 l0_0 x6_1) a1))) (ds := []) ⟨(blk_cell BK944.out 0).trans rfl, (blk_cell BK944.out 1).trans rfl, (blk_cell BK944.out 2).trans rfl, ((HB.out.cell (World.block_lt_of_cell? w _ hw945_0)).trans hw945_0), ((HB.out.cell (World.block_lt_of_cell? w _ hw946_0)).trans hw946_0)⟩ (fun hHeld => ?_); refine with_tabW spec_l05Row.tab5 spec_l05Row.bits5 (fun HT_ HW_ => ?_)
        generalize wr.drew = w24 at BK944 HB HR945_0 hx945_0 hx946_0 hHeld ⊢
        refine pu_ 0 14 ?_; refine pu_ 2 16 ?_; refine pu_ 5 19 ?_; refine tk_ 1 15 ?_; refine pu_ 3 17 ?_; refine tk_ 4 18 ?_; refine pu_ 6 20 ?_; refine tk_ 7 21 ?_; refine pu_ 8 22 ?_; refine pu_ 9 23 ?_; refine pn_ 10 24 ?_; refine pn_ 11 25 ?_; refine pn_ 12 26 ?_; refine pn_ 13 27 ?_; refine pn_ 14 28 ?_; refine pn_ 15 29 ?_; refine pn_ 16 30 ?_; refine pn_ 17 31 ?_; refine pn_ 18 32 ?_; refine pn_ 19 33 ?_; refine pn_ 20 34 ?_; refine pn_ 21 35 ?_; refine pn_ 22 36 ?_; refine pn_ 23 37 ?_; refine pn_ 24 38 ?_; refine pn_ 25 39 ?_; refine pn_ 26 40 ?_; refine pn_ 27 41 ?_; refine pn_ 28 42 ?_; refine pn_ 29 43 ?_; refine pn_ 30 44 ?_; refine pn_ 31 45 ?_; refine pn_ 32 46 ?_; refine pn_ 33 47 ?_; refine pu_ 34 48 ?_
        refine done_ (done_of HT_.out (by kernel_rfl)) ?_
        try go_wp2
        go_roundg k1
        case measure => have := HK1.out; omega
        case rel => exact ⟨(x5_1), (wrap64 (x6_1 + 1)), rs_, rs_, H', ⟨by have := HK1.out; omega⟩, ⟨bk_⟩, ⟨hb_⟩⟩
      ·rw [if_neg c7] at H
       exact absurd H (by simp)
     ·rw [if_neg c6] at H
      exact absurd H (by simp)
    ·rw [if_neg c5] at H
     exact absurd H (by simp)
   ·rw [if_neg c4] at H
    have c4b0 : decide (x6_1 < (l0_0.length : Int)) = false := decide_eq_false c4
    clear c4
    obtain rfl := Option.some.inj H
    have hcz25_0 : wr.cell? ⟨gb944, 0, none⟩ = some (.slice A0_0 l0_0.length c0_0) := (blk_cell BK944.out 0).trans rfl
    have hcz25_1 : wr.cell? ⟨gb944, 1, none⟩ = some (.int .i64 a0_1) := (blk_cell BK944.out 1).trans rfl
    have hcz25_2 : wr.cell? ⟨gb944, 2, none⟩ = some (.slice A0_2 l0_2.length c0_2) := (blk_cell BK944.out 2).trans rfl
    have hfz25_0 := blk_frozen BK944.out 0
    have hfz25_1 := blk_frozen BK944.out 1
    have hfz25_2 := blk_frozen BK944.out 2
    go_wp2
    go_ret
    exact ⟨by first | rfl | (simp [errW_none, errW_some] <;> rfl) | (simp [*, errW_none, errW_some] <;> rfl), hb_⟩
def spec_l05Partner.f (a0 : Int) (a1 : Int) : Option (Int) := if a0 < a1 then (some (wrap64 (a0 + a1))) else (some (wrap64 (a0 - a1)))
theorem spec_l05Partner.calls (a0 : Int) (a1 : Int) (r : Int) (w : World) (h : spec_l05Partner.f a0 a1 = some r) :
  Calls Try.prog 120 #[.int .i64 a0, .int .i64 a1] w fun e w' => e = .returned (.int .i64 r) ∧ Drawn0 w w' := by
 have H : (if a0 < a1 then (some (wrap64 (a0 + a1))) else (some (wrap64 (a0 - a1)))) = some r := h
 clear h
 by_cases c3 : a0 < a1
 ·rw [if_pos c3] at H
  have c3b0 : decide (a0 < a1) = true := decide_eq_true c3
  clear c3
  obtain rfl := Option.some.inj H
  go_enter Try.func120, Try.ntmps120
  go_wp2
  go_ret
  exact ⟨by first | rfl | (simp; done) | (simp [*]; done), by repeat (first | exact Drawn0.refl _ | apply Drawn0.step)⟩
 ·rw [if_neg c3] at H
  have c3b0 : decide (a0 < a1) = false := decide_eq_false c3
  clear c3
  obtain rfl := Option.some.inj H
  go_enter Try.func120, Try.ntmps120
  go_wp2
  go_ret
  exact ⟨by first | rfl | (simp; done) | (simp [*]; done), by repeat (first | exact Drawn0.refl _ | apply Drawn0.step)⟩
end Go.Proofs.Ythdoilfjcgickaa.Pr
end
