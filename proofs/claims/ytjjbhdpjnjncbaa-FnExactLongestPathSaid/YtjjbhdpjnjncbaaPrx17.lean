/- The plain functions of this seat, each with the proof that the call of the Go function comes to just its answer. Conditions: as each theorem says. Written by this session's own program over the print of the kit. -/
import Derived.Test.YtjjbhdpjnjncbaaPrx0
namespace Go.Proofs.Ytjjbhdpjnjncbaa.Pr
open Go.RowKit Go.Proofs.YtjjbhdpjnjncbaaW.PrintWords Go.Proofs.YtjjbhdpjnjncbaaW.PrintLast Go.Proofs.YtjjbhdpjnjncbaaW.PrintMore
attribute [local go_sem] max2_int min2_int max_two min_two max_three min_three max_four min_four   -- for this text's walks alone
set_option linter.unusedVariables false
set_option linter.unusedSimpArgs false

/-! ### spec_l06Heights: function 74 -/
mutual
def spec_l06Heights.l0 : Nat → Int → List Int → List Bool → Int → Bool → Int → List Int → Option (List Int × Bool)
  | 0, _, _, _, _, _, _, _ => none
  | k + 1, x4, x5, x6, x7, x8, x305000, x305001 => if x8 = true then (spec_l06Heights.l1 k x4 x5 x6 x7 false 0 x305000 x305001) else (some (x5, (x7 == x4)))
def spec_l06Heights.l1 : Nat → Int → List Int → List Bool → Int → Bool → Int → Int → List Int → Option (List Int × Bool)
  | 0, _, _, _, _, _, _, _, _ => none
  | k + 1, x4, x5, x6, x7, x8, x9, x305000, x305001 => if x9 < x4 then (if 0 ≤ x9 then (if x9 < (x6.length : Int) then (spec_l06Heights.l2 k x4 x5 x6 x7 x8 x9 (!(rdOf false x6 x9)) 0 0 x305000 x305001) else (none)) else (none)) else (spec_l06Heights.l0 k x4 x5 x6 x7 x8 x305000 x305001)
def spec_l06Heights.l2 : Nat → Int → List Int → List Bool → Int → Bool → Int → Bool → Int → Int → Int → List Int → Option (List Int × Bool)
  | 0, _, _, _, _, _, _, _, _, _, _, _ => none
  | k + 1, x4, x5, x6, x7, x8, x9, x10, x11, x12, x305000, x305001 => if x12 < x305000 then (if 0 ≤ (IntKind.u64.wrap (x12)) then (if 0 ≤ x9 then (if x9 < (x305001.length : Int) then (if (Go.bits .and .i64 (rd x305001 x9) (shl .i64 1 (IntKind.u64.wrap (x12)))) = 0 then (spec_l06Heights.l2 k x4 x5 x6 x7 x8 x9 x10 x11 (wrap64 (x12 + 1)) x305000 x305001) else (if x10 = true then (if 0 ≤ (Go.bits .xor .i64 x9 (shl .i64 1 (IntKind.u64.wrap (x12)))) then (if (Go.bits .xor .i64 x9 (shl .i64 1 (IntKind.u64.wrap (x12)))) < (x6.length : Int) then (if (Go.bits .xor .i64 x9 (shl .i64 1 (IntKind.u64.wrap (x12)))) < (x5.length : Int) then (spec_l06Heights.l2 k x4 x5 x6 x7 x8 x9 (rdOf false x6 (Go.bits .xor .i64 x9 (shl .i64 1 (IntKind.u64.wrap (x12))))) (mx x11 (wrap64 ((rd x5 (Go.bits .xor .i64 x9 (shl .i64 1 (IntKind.u64.wrap (x12))))) + 1))) (wrap64 (x12 + 1)) x305000 x305001) else (none)) else (none)) else (none)) else (if 0 ≤ (Go.bits .xor .i64 x9 (shl .i64 1 (IntKind.u64.wrap (x12)))) then (if (Go.bits .xor .i64 x9 (shl .i64 1 (IntKind.u64.wrap (x12)))) < (x5.length : Int) then (spec_l06Heights.l2 k x4 x5 x6 x7 x8 x9 false (mx x11 (wrap64 ((rd x5 (Go.bits .xor .i64 x9 (shl .i64 1 (IntKind.u64.wrap (x12))))) + 1))) (wrap64 (x12 + 1)) x305000 x305001) else (none)) else (none)))) else (none)) else (none)) else (none)) else (if x10 = true then (if 0 ≤ x9 then (if x9 < (x6.length : Int) then (if x9 < (x5.length : Int) then (spec_l06Heights.l1 k x4 (x5.set (x9 : Int).toNat x11) (x6.set (x9 : Int).toNat true) (wrap64 (x7 + 1)) true (wrap64 (x9 + 1)) x305000 x305001) else (none)) else (none)) else (none)) else (spec_l06Heights.l1 k x4 x5 x6 x7 x8 (wrap64 (x9 + 1)) x305000 x305001))
end
def spec_l06Heights.f (k : Nat) (a0_0 : Int) (l0_1 : List Int) : Option (List Int × Bool) := if 0 ≤ (l0_1.length : Int) then (if ((l0_1.length : Int) : Int).toNat ≤ 35184372088832 then (if ((l0_1.length : Int) : Int).toNat ≤ 281474976710656 then (spec_l06Heights.l0 k (l0_1.length : Int) (List.replicate ((l0_1.length : Int) : Int).toNat 0) (List.replicate ((l0_1.length : Int) : Int).toNat false) 0 true a0_0 l0_1) else (none)) else (none)) else (none)
theorem spec_l06Heights.mono_l : ∀ k, (∀ y0 y1 y2 y3 y4 y5 y6, LeO (spec_l06Heights.l0 k y0 y1 y2 y3 y4 y5 y6) (spec_l06Heights.l0 (k + 1) y0 y1 y2 y3 y4 y5 y6)) ∧ (∀ y0 y1 y2 y3 y4 y5 y6 y7, LeO (spec_l06Heights.l1 k y0 y1 y2 y3 y4 y5 y6 y7) (spec_l06Heights.l1 (k + 1) y0 y1 y2 y3 y4 y5 y6 y7)) ∧ (∀ y0 y1 y2 y3 y4 y5 y6 y7 y8 y9 y10, LeO (spec_l06Heights.l2 k y0 y1 y2 y3 y4 y5 y6 y7 y8 y9 y10) (spec_l06Heights.l2 (k + 1) y0 y1 y2 y3 y4 y5 y6 y7 y8 y9 y10))
  | 0 => ⟨fun _ _ _ _ _ _ _ r h => by simp [spec_l06Heights.l0] at h, fun _ _ _ _ _ _ _ _ r h => by simp [spec_l06Heights.l1] at h, fun _ _ _ _ _ _ _ _ _ _ _ r h => by simp [spec_l06Heights.l2] at h⟩
  | k + 1 => by
    obtain ⟨ih0, ih1, ih2⟩ := spec_l06Heights.mono_l k
    refine ⟨?_, ?_, ?_⟩
    · intro y0 y1 y2 y3 y4 y5 y6
      unfold spec_l06Heights.l0
      repeat' first
      | (with_reducible exact ih0 _ _ _ _ _ _ _)
      | (with_reducible exact ih1 _ _ _ _ _ _ _ _)
      | (with_reducible exact ih2 _ _ _ _ _ _ _ _ _ _ _)
      | (with_reducible exact LeO.refl _)
      | (with_reducible exact LeO.none _)
      | (with_reducible refine LeO.ite ?_ ?_)
      | (with_reducible refine LeO.bind ?_ (fun _ => ?_))
      | exact ih0 _ _ _ _ _ _ _
      | exact ih1 _ _ _ _ _ _ _ _
      | exact ih2 _ _ _ _ _ _ _ _ _ _ _
      | exact LeO.none _
      | refine LeO.ite ?_ ?_
      | refine LeO.bind ?_ (fun _ => ?_)
    · intro y0 y1 y2 y3 y4 y5 y6 y7
      unfold spec_l06Heights.l1
      repeat' first
      | (with_reducible exact ih0 _ _ _ _ _ _ _)
      | (with_reducible exact ih1 _ _ _ _ _ _ _ _)
      | (with_reducible exact ih2 _ _ _ _ _ _ _ _ _ _ _)
      | (with_reducible exact LeO.refl _)
      | (with_reducible exact LeO.none _)
      | (with_reducible refine LeO.ite ?_ ?_)
      | (with_reducible refine LeO.bind ?_ (fun _ => ?_))
      | exact ih0 _ _ _ _ _ _ _
      | exact ih1 _ _ _ _ _ _ _ _
      | exact ih2 _ _ _ _ _ _ _ _ _ _ _
      | exact LeO.none _
      | refine LeO.ite ?_ ?_
      | refine LeO.bind ?_ (fun _ => ?_)
    · intro y0 y1 y2 y3 y4 y5 y6 y7 y8 y9 y10
      unfold spec_l06Heights.l2
      repeat' first
      | (with_reducible exact ih0 _ _ _ _ _ _ _)
      | (with_reducible exact ih1 _ _ _ _ _ _ _ _)
      | (with_reducible exact ih2 _ _ _ _ _ _ _ _ _ _ _)
      | (with_reducible exact LeO.refl _)
      | (with_reducible exact LeO.none _)
      | (with_reducible refine LeO.ite ?_ ?_)
      | (with_reducible refine LeO.bind ?_ (fun _ => ?_))
      | exact ih0 _ _ _ _ _ _ _
      | exact ih1 _ _ _ _ _ _ _ _
      | exact ih2 _ _ _ _ _ _ _ _ _ _ _
      | exact LeO.none _
      | refine LeO.ite ?_ ?_
      | refine LeO.bind ?_ (fun _ => ?_)
theorem spec_l06Heights.mono : ∀ a0 a1 k, LeO (spec_l06Heights.f k a0 a1) (spec_l06Heights.f (k + 1) a0 a1) := by
  intro a0 a1 k
  obtain ⟨ih0, ih1, ih2⟩ := spec_l06Heights.mono_l k
  unfold spec_l06Heights.f
  repeat' first
      | (with_reducible exact ih0 _ _ _ _ _ _ _)
      | (with_reducible exact ih1 _ _ _ _ _ _ _ _)
      | (with_reducible exact ih2 _ _ _ _ _ _ _ _ _ _ _)
      | (with_reducible exact LeO.refl _)
      | (with_reducible exact LeO.none _)
      | (with_reducible refine LeO.ite ?_ ?_)
      | (with_reducible refine LeO.bind ?_ (fun _ => ?_))
      | exact ih0 _ _ _ _ _ _ _
      | exact ih1 _ _ _ _ _ _ _ _
      | exact ih2 _ _ _ _ _ _ _ _ _ _ _
      | exact LeO.none _
      | refine LeO.ite ?_ ?_
      | refine LeO.bind ?_ (fun _ => ?_)
set_option maxHeartbeats 8000000 in
set_option maxRecDepth 100000 in
theorem spec_l06Heights.calls (k : Nat) (a0_0 : Int) (A0_1 : Option Addr) (c0_1 : Nat) (l0_1 : List Int) (r1 : List Int) (r2 : Bool) (w : World) (hr0_1 : Kd.C (Kd.int .i64) w A0_1 l0_1.length l0_1) (hc0_1 : l0_1.length ≤ c0_1) (h : spec_l06Heights.f k a0_0 l0_1 = some (r1, r2)) :
    Calls Try.prog 74 #[.agg #[.int .i64 a0_0, .slice A0_1 l0_1.length c0_1]] w fun e w' => ∃ v0_ : Value, e = .returned (.tuple #[v0_, .bool r2]) ∧ Kd.R (Kd.int .i64) 2 w' w.heap.size (fun _ => True) v0_ r1 ∧ Below w.heap.size w w' := by
  have hu39 := Try.underlying39
  have HR0_1 := Aside0.mk hr0_1
  have HC0_1 := Aside0.mk hc0_1
  clear hr0_1 hc0_1
  have HB := Aside0.mk (Below.refl w.heap.size w)
  have H : (if 0 ≤ (l0_1.length : Int) then (if ((l0_1.length : Int) : Int).toNat ≤ 35184372088832 then (if ((l0_1.length : Int) : Int).toNat ≤ 281474976710656 then (spec_l06Heights.l0 k (l0_1.length : Int) (List.replicate ((l0_1.length : Int) : Int).toNat 0) (List.replicate ((l0_1.length : Int) : Int).toNat false) 0 true a0_0 l0_1) else (none)) else (none)) else (none)) = some (r1, r2) := h
  clear h
  by_cases c2 : 0 ≤ (l0_1.length : Int)
  · rw [if_pos c2] at H
    have c2b0 := eq_true c2
    have c2b1 : decide (0 ≤ (l0_1.length : Int)) = true := decide_eq_true c2
    clear c2
    by_cases c3 : ((l0_1.length : Int) : Int).toNat ≤ 35184372088832
    · rw [if_pos c3] at H
      have c3b0 := eq_true c3
      have c3b1 : decide (((l0_1.length : Int) : Int).toNat ≤ 35184372088832) = true := decide_eq_true c3
      clear c3
      obtain ⟨y305, hy305⟩ : ∃ y_ : List Int, y_ = (List.replicate ((l0_1.length : Int) : Int).toNat 0) := ⟨_, rfl⟩
      replace H : (if ((l0_1.length : Int) : Int).toNat ≤ 281474976710656 then (spec_l06Heights.l0 k (l0_1.length : Int) y305 (List.replicate ((l0_1.length : Int) : Int).toNat false) 0 true a0_0 l0_1) else (none)) = some (r1, r2) := by first | (rw [hy305]; with_reducible exact H) | (have H2_ := (Option.bind_some _ _).symm.trans H; rw [hy305]; with_reducible exact H2_) | (have H2_ := (Option.bind_some _ _).symm.trans H; with_reducible exact H2_) | with_reducible exact H | (rw [hy305]; exact H) | exact H
      have Ny305 := Aside0.mk hy305
      clear hy305
      by_cases c4 : ((l0_1.length : Int) : Int).toNat ≤ 281474976710656
      · rw [if_pos c4] at H
        have c4b0 := eq_true c4
        have c4b1 : decide (((l0_1.length : Int) : Int).toNat ≤ 281474976710656) = true := decide_eq_true c4
        clear c4
        obtain ⟨y308, hy308⟩ : ∃ y_ : List Bool, y_ = (List.replicate ((l0_1.length : Int) : Int).toNat false) := ⟨_, rfl⟩
        replace H : (spec_l06Heights.l0 k (l0_1.length : Int) y305 y308 0 true a0_0 l0_1) = some (r1, r2) := by first | (rw [hy308]; with_reducible exact H) | (have H2_ := (Option.bind_some _ _).symm.trans H; rw [hy308]; with_reducible exact H2_) | (have H2_ := (Option.bind_some _ _).symm.trans H; with_reducible exact H2_) | with_reducible exact H | (rw [hy308]; exact H) | exact H
        have Ny308 := Aside0.mk hy308
        clear hy308
        have H' := Aside0.mk H
        clear H
        go_enter Try.func74, Try.ntmps74
        try go_wp2_with (first | ((with_reducible refine gate_dst (N := 1) rfl ?_); refine box_event ?hg (N := 1) ?hd (cs := #[.int .i64 a0_0, .slice A0_1 l0_1.length c0_1]) (t := 39) ?hr ?_; (case hd => rfl); (case hg => rfl); (case hr => first | (go_simp; done) | (go_simp; rfl)); intro gb304 hg w5 hbox hb; have n0_ := Aside0.mk (below_step (by repeat (first | (with_reducible first | exact HB.out | apply below_alloc | apply pw_below_drewN | apply below_drew1) | exact HB.out)) hb); have n1_ := Aside0.mk (hbox); have n2_ := Aside0.mk ((by rw [hg]; exact (below_size (by repeat (first | (with_reducible first | exact HB.out | apply below_alloc | apply pw_below_drewN | apply below_drew1) | exact HB.out))) : w.heap.size ≤ gb304)); have n3_ := Aside0.mk ((by rw [hg]; exact (below_size (by repeat (first | (with_reducible first | exact HB.out | apply below_alloc | apply pw_below_drewN | apply below_drew1) | exact HB.out))) : w.heap.size ≤ gb304)); clear HB; have HB := n0_; have BK304 := n1_; have GW304 := n2_; have GE304 := n3_; clear n0_ n1_ n2_ n3_; clear hb hbox hg; have hcz6_0 : w5.cell? ⟨gb304, 0, none⟩ = some (.int .i64 a0_0) := (blk_cell BK304.out 0).trans rfl; have hcz6_1 : w5.cell? ⟨gb304, 1, none⟩ = some (.slice A0_1 l0_1.length c0_1) := (blk_cell BK304.out 1).trans rfl; have hfz6_0 := blk_frozen BK304.out 0; have hfz6_1 := blk_frozen BK304.out 1))
        have n0_ := Aside0.mk (blk_drew BK304.out)
        have n1_ := Aside0.mk (below_drew1 HB.out)
        clear BK304
        clear HB
        have BK304 := n0_
        have HB := n1_
        clear n0_ n1_
        refine start_ (n := 7) (S := fun w' => True) (ds := []) #[false, false, false, false, false, false, false] (by kernel_rfl) rfl rfl trivial (fun hHeld => ?_)
        generalize w5.drew = w7 at BK304 HB hHeld ⊢
        refine pure_ (i := 0) (N := some 17) (v := ?_) (a' := ?_) #[true, false, false, false, false, false, false] rfl rfl (by kernel_rfl) (fun _ _ _ h => h) (Or.inl ⟨by rfl, ?_⟩) ?_ ?_
        rotate_left
        · intro w'
          go_simp
          with_reducible rfl
        rotate_left
        · simp only [Act.put, List.setIfInBounds_toArray, List.set_cons_zero, List.set_cons_succ, i64_w, i32_w]
          rfl
        refine pure_ (i := 2) (N := some 19) (v := ?_) (a' := ?_) #[true, false, true, false, false, false, false] rfl rfl (by kernel_rfl) (fun _ _ _ h => h) (Or.inl ⟨by rfl, ?_⟩) ?_ ?_
        rotate_left
        · intro w'
          go_simp
          with_reducible rfl
        rotate_left
        · simp only [Act.put, List.setIfInBounds_toArray, List.set_cons_zero, List.set_cons_succ, i64_w, i32_w]
          rfl
        refine join_ (σ := Value × Value) 2 #[true, true, true, true, true, false, false] (fun s_ => [(18, s_.1), (20, s_.2), (5, s_.1)]) (fun s_ w' => (Kd.R (Kd.int .i64) 2 w' w.heap.size (fun _ => True) s_.1 y305) ∧ (Kd.R Kd.bool 4 w' w.heap.size (fun _ => True) s_.2 y308) ∧ (w'.heap[gb304]? = some (.cells #[.int .i64 a0_0, .slice A0_1 l0_1.length c0_1] 39 (0, 0))) ∧ (Below w.heap.size w w')) ?_ ?_
        rotate_left
        · intro hCont
          refine two_ (i := 1) (j := 3) (Ni := some 18) (Nj := some 20) #[true, true, true, false, false, false, false] #[true, false, true, true, false, false, false] rfl rfl rfl rfl (by kernel_rfl) (by decide) (by decide) (fun K hK => ?_) (fun K hK => ?_)
          · skip
            refine Kd.R_make_step (Kd.int .i64) _ 2 (by rfl) (N := 18) rfl 33 _ _ rfl (l0_1.length : Int) rfl rfl Try.underlying33 (.int .i64 0) 8 info2 rfl (by decide) (by omega) 0 (ok := fun _ => True) (okp := fun _ => True) rfl (fun _ hk => hk) trivial (of_decide_eq_true (by first | (with_reducible assumption) | assumption)) (Nat.le_trans (Nat.mul_le_mul_right _ (of_decide_eq_true (by first | (with_reducible assumption) | assumption) : (l0_1.length : Int).toNat ≤ 35184372088832)) (by omega)) (Below.refl _ _) (Nat.le_refl _) ?_
            intro v306 w8 ho9 hb hg_ hnew_
            clear hg_ hnew_
            (first | rw [← Ny305.out] at ho9 | (simp only [Int.reduceToNat] at ho9; rw [← Ny305.out] at ho9))
            have n0_ := Aside0.mk (Kd.R_lower ho9 (below_size (by repeat (first | (with_reducible first | exact HB.out | apply below_alloc | apply pw_below_drewN | apply below_drew1 | refine below_set ?_ GE304.out) | exact HB.out))))
            have n1_ := Aside0.mk (blk_below (g := gb304) (o := .cells #[.int .i64 a0_0, .slice A0_1 l0_1.length c0_1] 39 (0, 0)) (by (with_reducible repeat (first | refine blk_drewN ?_ _ | refine blk_drew ?_ | refine blk_alloc ?_ _)); exact BK304.out) hb)
            have n2_ := Aside0.mk (below_step (by repeat (first | (with_reducible first | exact HB.out | apply below_alloc | apply pw_below_drewN | apply below_drew1 | refine below_set ?_ GE304.out) | exact HB.out)) hb)
            clear BK304
            clear HB
            have HO307 := n0_
            have BK304 := n1_
            have HB := n2_
            clear n0_ n1_ n2_
            clear hb ho9
            refine hK.out _ _ trivial (fun hHeld => ?_)
            clear hK K
            refine norm_ (a' := ?_) ?_ ?_
            rotate_left
            · show Act.put _ (some 18) _ = _
              simp only [Act.put, List.setIfInBounds_toArray, List.set_cons_zero, List.set_cons_succ, i64_w, i32_w]
              rfl
            refine pure_ (i := 4) (N := some 5) (v := ?_) (a' := ?_) #[true, true, true, false, true, false, false] rfl rfl (by kernel_rfl) (fun _ _ _ h => h) (Or.inl ⟨by rfl, ?_⟩) ?_ ?_
            rotate_left
            · intro w'
              go_simp
              with_reducible rfl
            rotate_left
            · simp only [Act.put, List.setIfInBounds_toArray, List.set_cons_zero, List.set_cons_succ, i64_w, i32_w]
              rfl
            refine one_ (i := 3) (N := some 20) #[true, true, true, true, true, false, false] rfl rfl (by kernel_rfl) (by decide) (fun K hK => ?_)
            refine Kd.R_make_step Kd.bool _ 4 (by rfl) (N := 20) rfl 141 _ _ rfl (l0_1.length : Int) rfl rfl Try.underlying141 (.bool false) 1 info4 rfl (by decide) (by omega) false (ok := fun _ => True) (okp := fun _ => True) rfl (fun _ hk => hk) trivial (of_decide_eq_true (by first | (with_reducible assumption) | assumption)) (Nat.le_trans (Nat.mul_le_mul_right _ (of_decide_eq_true (by first | (with_reducible assumption) | assumption) : (l0_1.length : Int).toNat ≤ 281474976710656)) (by omega)) (Below.refl _ _) (Nat.le_refl _) ?_
            intro v309 w10 ho11 hb hg_ hnew_
            clear hg_ hnew_
            (first | rw [← Ny308.out] at ho11 | (simp only [Int.reduceToNat] at ho11; rw [← Ny308.out] at ho11))
            have n0_ := Aside0.mk (Kd.R_below (by (with_reducible repeat (first | apply Kd.R_alloc | apply Kd.R_drewN | apply Kd.R_drew)); exact HO307.out) hb)
            have n1_ := Aside0.mk (Kd.R_lower ho11 (below_size (by repeat (first | (with_reducible first | exact HB.out | apply below_alloc | apply pw_below_drewN | apply below_drew1 | refine below_set ?_ GE304.out) | exact HB.out))))
            have n2_ := Aside0.mk (blk_below (g := gb304) (o := .cells #[.int .i64 a0_0, .slice A0_1 l0_1.length c0_1] 39 (0, 0)) (by (with_reducible repeat (first | refine blk_drewN ?_ _ | refine blk_drew ?_ | refine blk_alloc ?_ _)); exact BK304.out) hb)
            have n3_ := Aside0.mk (below_step (by repeat (first | (with_reducible first | exact HB.out | apply below_alloc | apply pw_below_drewN | apply below_drew1 | refine below_set ?_ GE304.out) | exact HB.out)) hb)
            clear HO307
            clear BK304
            clear HB
            have HO307 := n0_
            have HO310 := n1_
            have BK304 := n2_
            have HB := n3_
            clear n0_ n1_ n2_ n3_
            clear hb ho11
            refine hK.out _ _ trivial (fun hHeld => ?_)
            clear hK K
            refine norm_ (a' := ?_) ?_ ?_
            rotate_left
            · show Act.put _ (some 20) _ = _
              simp only [Act.put, List.setIfInBounds_toArray, List.set_cons_zero, List.set_cons_succ, i64_w, i32_w]
              rfl
            exact norm_ (by simp only [putAll, Act.put, List.setIfInBounds_toArray, List.set_cons_zero, List.set_cons_succ]) (hCont (v306, v309) _ ⟨(by (with_reducible repeat (first | apply Kd.R_alloc | apply Kd.R_drewN | apply Kd.R_drew)); exact HO307.out), (by (with_reducible repeat (first | apply Kd.R_alloc | apply Kd.R_drewN | apply Kd.R_drew)); exact HO310.out), (by (with_reducible repeat (first | refine blk_drewN ?_ _ | refine blk_drew ?_ | refine blk_alloc ?_ _)); exact BK304.out), (by repeat (first | (with_reducible first | exact HB.out | apply below_alloc | apply pw_below_drewN | apply below_drew1 | refine below_set ?_ GE304.out) | exact HB.out))⟩)
          · skip
            refine Kd.R_make_step Kd.bool _ 4 (by rfl) (N := 20) rfl 141 _ _ rfl (l0_1.length : Int) rfl rfl Try.underlying141 (.bool false) 1 info4 rfl (by decide) (by omega) false (ok := fun _ => True) (okp := fun _ => True) rfl (fun _ hk => hk) trivial (of_decide_eq_true (by first | (with_reducible assumption) | assumption)) (Nat.le_trans (Nat.mul_le_mul_right _ (of_decide_eq_true (by first | (with_reducible assumption) | assumption) : (l0_1.length : Int).toNat ≤ 281474976710656)) (by omega)) (Below.refl _ _) (Nat.le_refl _) ?_
            intro v309 w8 ho9 hb hg_ hnew_
            clear hg_ hnew_
            (first | rw [← Ny308.out] at ho9 | (simp only [Int.reduceToNat] at ho9; rw [← Ny308.out] at ho9))
            have n0_ := Aside0.mk (Kd.R_lower ho9 (below_size (by repeat (first | (with_reducible first | exact HB.out | apply below_alloc | apply pw_below_drewN | apply below_drew1 | refine below_set ?_ GE304.out) | exact HB.out))))
            have n1_ := Aside0.mk (blk_below (g := gb304) (o := .cells #[.int .i64 a0_0, .slice A0_1 l0_1.length c0_1] 39 (0, 0)) (by (with_reducible repeat (first | refine blk_drewN ?_ _ | refine blk_drew ?_ | refine blk_alloc ?_ _)); exact BK304.out) hb)
            have n2_ := Aside0.mk (below_step (by repeat (first | (with_reducible first | exact HB.out | apply below_alloc | apply pw_below_drewN | apply below_drew1 | refine below_set ?_ GE304.out) | exact HB.out)) hb)
            clear BK304
            clear HB
            have HO310 := n0_
            have BK304 := n1_
            have HB := n2_
            clear n0_ n1_ n2_
            clear hb ho9
            refine hK.out _ _ trivial (fun hHeld => ?_)
            clear hK K
            refine norm_ (a' := ?_) ?_ ?_
            rotate_left
            · show Act.put _ (some 20) _ = _
              simp only [Act.put, List.setIfInBounds_toArray, List.set_cons_zero, List.set_cons_succ, i64_w, i32_w]
              rfl
            refine one_ (i := 1) (N := some 18) #[true, true, true, true, false, false, false] rfl rfl (by kernel_rfl) (by decide) (fun K hK => ?_)
            refine Kd.R_make_step (Kd.int .i64) _ 2 (by rfl) (N := 18) rfl 33 _ _ rfl (l0_1.length : Int) rfl rfl Try.underlying33 (.int .i64 0) 8 info2 rfl (by decide) (by omega) 0 (ok := fun _ => True) (okp := fun _ => True) rfl (fun _ hk => hk) trivial (of_decide_eq_true (by first | (with_reducible assumption) | assumption)) (Nat.le_trans (Nat.mul_le_mul_right _ (of_decide_eq_true (by first | (with_reducible assumption) | assumption) : (l0_1.length : Int).toNat ≤ 35184372088832)) (by omega)) (Below.refl _ _) (Nat.le_refl _) ?_
            intro v306 w10 ho11 hb hg_ hnew_
            clear hg_ hnew_
            (first | rw [← Ny305.out] at ho11 | (simp only [Int.reduceToNat] at ho11; rw [← Ny305.out] at ho11))
            have n0_ := Aside0.mk (Kd.R_below (by (with_reducible repeat (first | apply Kd.R_alloc | apply Kd.R_drewN | apply Kd.R_drew)); exact HO310.out) hb)
            have n1_ := Aside0.mk (Kd.R_lower ho11 (below_size (by repeat (first | (with_reducible first | exact HB.out | apply below_alloc | apply pw_below_drewN | apply below_drew1 | refine below_set ?_ GE304.out) | exact HB.out))))
            have n2_ := Aside0.mk (blk_below (g := gb304) (o := .cells #[.int .i64 a0_0, .slice A0_1 l0_1.length c0_1] 39 (0, 0)) (by (with_reducible repeat (first | refine blk_drewN ?_ _ | refine blk_drew ?_ | refine blk_alloc ?_ _)); exact BK304.out) hb)
            have n3_ := Aside0.mk (below_step (by repeat (first | (with_reducible first | exact HB.out | apply below_alloc | apply pw_below_drewN | apply below_drew1 | refine below_set ?_ GE304.out) | exact HB.out)) hb)
            clear HO310
            clear BK304
            clear HB
            have HO310 := n0_
            have HO307 := n1_
            have BK304 := n2_
            have HB := n3_
            clear n0_ n1_ n2_ n3_
            clear hb ho11
            refine hK.out _ _ trivial (fun hHeld => ?_)
            clear hK K
            refine norm_ (a' := ?_) ?_ ?_
            rotate_left
            · show Act.put _ (some 18) _ = _
              simp only [Act.put, List.setIfInBounds_toArray, List.set_cons_zero, List.set_cons_succ, i64_w, i32_w]
              rfl
            refine pure_ (i := 4) (N := some 5) (v := ?_) (a' := ?_) #[true, true, true, true, true, false, false] rfl rfl (by kernel_rfl) (fun _ _ _ h => h) (Or.inl ⟨by rfl, ?_⟩) ?_ ?_
            rotate_left
            · intro w'
              go_simp
              with_reducible rfl
            rotate_left
            · simp only [Act.put, List.setIfInBounds_toArray, List.set_cons_zero, List.set_cons_succ, i64_w, i32_w]
              rfl
            exact norm_ (by simp only [putAll, Act.put, List.setIfInBounds_toArray, List.set_cons_zero, List.set_cons_succ]) (hCont (v306, v309) _ ⟨(by (with_reducible repeat (first | apply Kd.R_alloc | apply Kd.R_drewN | apply Kd.R_drew)); exact HO307.out), (by (with_reducible repeat (first | apply Kd.R_alloc | apply Kd.R_drewN | apply Kd.R_drew)); exact HO310.out), (by (with_reducible repeat (first | refine blk_drewN ?_ _ | refine blk_drew ?_ | refine blk_alloc ?_ _)); exact BK304.out), (by repeat (first | (with_reducible first | exact HB.out | apply below_alloc | apply pw_below_drewN | apply below_drew1 | refine below_set ?_ GE304.out) | exact HB.out))⟩)
        rintro ⟨v306, v309⟩ w12 ⟨h0_, h1_, h2_, h3_⟩
        have n0_ : Aside0 (Kd.R (Kd.int .i64) 2 w12 w.heap.size (fun _ => True) v306 y305) := ⟨h0_⟩
        have n1_ : Aside0 (Kd.R Kd.bool 4 w12 w.heap.size (fun _ => True) v309 y308) := ⟨h1_⟩
        have n2_ : Aside0 (w12.heap[gb304]? = some (.cells #[.int .i64 a0_0, .slice A0_1 l0_1.length c0_1] 39 (0, 0))) := ⟨h2_⟩
        have n3_ : Aside0 (Below w.heap.size w w12) := ⟨h3_⟩
        clear BK304
        clear HB
        clear h0_ h1_ h2_ h3_
        have HO307 := n0_
        have HO310 := n1_
        have BK304 := n2_
        have HB := n3_
        clear n0_ n1_ n2_ n3_
        have hHeld := trivial
        refine norm_ (a' := ?_) ?_ ?_
        rotate_left
        · simp only [putAll, Act.put, List.setIfInBounds_toArray, List.set_cons_zero, List.set_cons_succ]
          rfl
        refine pure_ (i := 5) (N := some 6) (v := ?_) (a' := ?_) #[true, true, true, true, true, true, false] rfl rfl (by kernel_rfl) (fun _ _ _ h => h) (Or.inl ⟨by rfl, ?_⟩) ?_ ?_
        rotate_left
        · intro w'
          go_simp
          with_reducible rfl
        rotate_left
        · simp only [Act.put, List.setIfInBounds_toArray, List.set_cons_zero, List.set_cons_succ, i64_w, i32_w]
          rfl
        refine pure_ (i := 6) (N := some 7) (v := ?_) (a' := ?_) #[true, true, true, true, true, true, true] rfl rfl (by kernel_rfl) (fun _ _ _ h => h) (Or.inl ⟨by rfl, ?_⟩) ?_ ?_
        rotate_left
        · intro w'
          go_simp
          with_reducible rfl
        rotate_left
        · simp only [Act.put, List.setIfInBounds_toArray, List.set_cons_zero, List.set_cons_succ, i64_w, i32_w]
          rfl
        refine done_ (by kernel_rfl) ?_
        try go_wp2
        go_loopg [7, 8] k (fun kq v7 v8 w' => ∃ (x5_1 : List Int) (x6_1 : List Bool) (x7_1 : Int) (x8_1 : Bool), v7 = .int .i64 x7_1 ∧ v8 = .bool x8_1 ∧ Aside0 (spec_l06Heights.l0 kq (l0_1.length : Int) x5_1 x6_1 x7_1 x8_1 a0_0 l0_1 = some (r1, r2)) ∧ Aside0 (kq ≤ k) ∧ Aside0 (Kd.R (Kd.int .i64) 2 w' w.heap.size (fun _ => True) v306 x5_1) ∧ Aside0 (Kd.R Kd.bool 4 w' w.heap.size (fun _ => True) v309 x6_1) ∧ Aside0 (w'.heap[gb304]? = some (.cells #[.int .i64 a0_0, (.slice A0_1 l0_1.length c0_1)] 39 (0, 0))) ∧ Aside0 (Below w.heap.size w w'))
        case atStart => exact ⟨(y305), (y308), (0), (true), (by first | rfl | (simp; done) | (simp [*]; done)), (by first | rfl | (simp; done) | (simp [*]; done)), H', ⟨Nat.le_refl _⟩, ⟨by (with_reducible repeat (first | apply Kd.R_alloc | apply Kd.R_drewN | apply Kd.R_drew)); exact HO307.out⟩, ⟨by (with_reducible repeat (first | apply Kd.R_alloc | apply Kd.R_drewN | apply Kd.R_drew)); exact HO310.out⟩, ⟨by (with_reducible repeat (first | refine blk_drewN ?_ _ | refine blk_drew ?_ | refine blk_alloc ?_ _)); exact BK304.out⟩, ⟨by repeat (first | (with_reducible first | exact HB.out | apply below_alloc | apply pw_below_drewN | apply below_drew1 | refine below_set ?_ GE304.out) | exact HB.out)⟩⟩
        case round =>
          clear H'
          try clear c2
          try clear c2b0
          try clear c2b1
          try clear p2
          try clear c3
          try clear c3b0
          try clear c3b1
          try clear c4
          try clear c4b0
          try clear c4b1
          try clear c7
          try clear hcz6_0
          try clear hcz6_1
          try clear hfz6_0
          try clear hfz6_1
          obtain ⟨x5_1, x6_1, x7_1, x8_1, rfl, rfl, HA, HK1, HO_5, HO_6, BK304, HB⟩ := hrel
          cases gk with
          | zero => exact absurd HA.out (by simp [spec_l06Heights.l0])
          | succ k1 =>
            have H := HA.out
            clear HA
            simp only [spec_l06Heights.l0] at H
            by_cases c13 : x8_1 = true
            · subst c13
              have H1 : (spec_l06Heights.l1 k1 (l0_1.length : Int) x5_1 x6_1 x7_1 false 0 a0_0 l0_1) = some (r1, r2) := by rw [if_pos rfl] at H; exact H
              clear H
              have H := H1
              clear H1
              have H' := Aside0.mk H
              clear H
              go_wp2
              go_loopg [7, 8, 9] k1 (fun kq v7 v8 v9 w' => ∃ (x5_2 : List Int) (x6_2 : List Bool) (x7_2 : Int) (x8_2 : Bool) (x9_2 : Int), v7 = .int .i64 x7_2 ∧ v8 = .bool x8_2 ∧ v9 = .int .i64 x9_2 ∧ Aside0 (spec_l06Heights.l1 kq (l0_1.length : Int) x5_2 x6_2 x7_2 x8_2 x9_2 a0_0 l0_1 = some (r1, r2)) ∧ Aside0 (kq ≤ k1) ∧ Aside0 (Kd.R (Kd.int .i64) 2 w' w.heap.size (fun _ => True) v306 x5_2) ∧ Aside0 (Kd.R Kd.bool 4 w' w.heap.size (fun _ => True) v309 x6_2) ∧ Aside0 (w'.heap[gb304]? = some (.cells #[.int .i64 a0_0, (.slice A0_1 l0_1.length c0_1)] 39 (0, 0))) ∧ Aside0 (Below w.heap.size w w'))
              case atStart => exact ⟨(x5_1), (x6_1), (x7_1), (false), (0), (by first | rfl | (simp; done) | (simp [*]; done)), (by first | rfl | (simp; done) | (simp [*]; done)), (by first | rfl | (simp; done) | (simp [*]; done)), H', ⟨Nat.le_refl _⟩, ⟨by (with_reducible repeat (first | apply Kd.R_alloc | apply Kd.R_drewN | apply Kd.R_drew)); exact HO_5.out⟩, ⟨by (with_reducible repeat (first | apply Kd.R_alloc | apply Kd.R_drewN | apply Kd.R_drew)); exact HO_6.out⟩, ⟨by (with_reducible repeat (first | refine blk_drewN ?_ _ | refine blk_drew ?_ | refine blk_alloc ?_ _)); exact BK304.out⟩, ⟨by repeat (first | (with_reducible first | exact HB.out | apply below_alloc | apply pw_below_drewN | apply below_drew1 | refine below_set ?_ GE304.out) | exact HB.out)⟩⟩
              case round =>
                clear H'
                try clear c1
                try clear c2
                try clear c2b0
                try clear c2b1
                try clear p2
                try clear c3
                try clear c3b0
                try clear c3b1
                try clear c4
                try clear c4b0
                try clear c4b1
                try clear c7
                try clear c13
                try clear hcz6_0
                try clear hcz6_1
                try clear hfz6_0
                try clear hfz6_1
                try clear p2
                obtain ⟨x5_2, x6_2, x7_2, x8_2, x9_2, rfl, rfl, rfl, HA, HK2, HO_5, HO_6, BK304, HB⟩ := hrel
                cases gk with
                | zero => exact absurd HA.out (by simp [spec_l06Heights.l1])
                | succ k2 =>
                  have H := HA.out
                  clear HA
                  simp only [spec_l06Heights.l1] at H
                  by_cases c14 : x9_2 < (l0_1.length : Int)
                  · rw [if_pos c14] at H
                    have c14b0 : decide (x9_2 < (l0_1.length : Int)) = true := decide_eq_true c14
                    clear c14
                    by_cases c15 : 0 ≤ x9_2
                    · rw [if_pos c15] at H
                      have c15b0 : decide (0 ≤ x9_2) = true := decide_eq_true c15
                      clear c15
                      by_cases c16 : x9_2 < (x6_2.length : Int)
                      · rw [if_pos c16] at H
                        have c16b0 : decide (x9_2 < (x6_2.length : Int)) = true := decide_eq_true c16
                        clear c16
                        have H' := Aside0.mk H
                        clear H
                        obtain ⟨Ao17, co17, eo17⟩ := Kd.R_slice HO_6.out
                        subst eo17
                        have p311 : 0 ≤ (x9_2 : Int) := of_decide_eq_true (by first | (with_reducible assumption) | assumption)
                        have q311 : x9_2 < (x6_2.length : Int) := of_decide_eq_true (by first | (with_reducible assumption) | assumption)
                        obtain ⟨ad311, e311, hx311_0⟩ := Kd.at_bool (Kd.R_reads' HO_6.out).2.2 x9_2 p311 q311
                        cases e311
                        replace p311 := eq_true p311
                        replace q311 := eq_true q311
                        go_wp2
                        go_loopg [10, 11, 12] k2 (fun kq v10 v11 v12 w' => ∃ (x10_3 : Bool) (x11_3 : Int) (x12_3 : Int), v10 = .bool x10_3 ∧ v11 = .int .i64 x11_3 ∧ v12 = .int .i64 x12_3 ∧ Aside0 (spec_l06Heights.l2 kq (l0_1.length : Int) x5_2 x6_2 x7_2 x8_2 x9_2 x10_3 x11_3 x12_3 a0_0 l0_1 = some (r1, r2)) ∧ Aside0 (kq ≤ k2) ∧ Aside0 (Kd.R (Kd.int .i64) 2 w' w.heap.size (fun _ => True) v306 x5_2) ∧ Aside0 (Kd.R Kd.bool 4 w' w.heap.size (fun _ => True) (.slice (some ad311) x6_2.length co17) x6_2) ∧ Aside0 (w'.heap[gb304]? = some (.cells #[.int .i64 a0_0, (.slice A0_1 l0_1.length c0_1)] 39 (0, 0))) ∧ Aside0 (Below w.heap.size w w'))
                        case atStart => exact ⟨(!(rdOf false x6_2 x9_2)), (0), (0), (by first | rfl | (simp; done) | (simp [*]; done)), (by first | rfl | (simp; done) | (simp [*]; done)), (by first | rfl | (simp; done) | (simp [*]; done)), H', ⟨Nat.le_refl _⟩, ⟨by (with_reducible repeat (first | apply Kd.R_alloc | apply Kd.R_drewN | apply Kd.R_drew)); exact HO_5.out⟩, ⟨by (with_reducible repeat (first | apply Kd.R_alloc | apply Kd.R_drewN | apply Kd.R_drew)); exact HO_6.out⟩, ⟨by (with_reducible repeat (first | refine blk_drewN ?_ _ | refine blk_drew ?_ | refine blk_alloc ?_ _)); exact BK304.out⟩, ⟨by repeat (first | (with_reducible first | exact HB.out | apply below_alloc | apply pw_below_drewN | apply below_drew1 | refine below_set ?_ GE304.out) | exact HB.out)⟩⟩
                        case round =>
                          clear H'
                          try clear c1
                          try clear c2
                          try clear c2b0
                          try clear c2b1
                          try clear p2
                          try clear c3
                          try clear c3b0
                          try clear c3b1
                          try clear p3
                          try clear q3
                          try clear hx3
                          try clear c4
                          try clear c4b0
                          try clear c4b1
                          try clear c7
                          try clear c13
                          try clear c14
                          try clear c14b0
                          try clear c15
                          try clear c15b0
                          try clear c16
                          try clear c16b0
                          try clear hcz6_0
                          try clear hcz6_1
                          try clear hfz6_0
                          try clear hfz6_1
                          try clear hx311_0
                          try clear p2
                          try clear p311
                          try clear q311
                          obtain ⟨x10_3, x11_3, x12_3, rfl, rfl, rfl, HA, HK3, HO_5, HO_6, BK304, HB⟩ := hrel
                          cases gk with
                          | zero => exact absurd HA.out (by simp [spec_l06Heights.l2])
                          | succ k3 =>
                            have H := HA.out
                            clear HA
                            simp only [spec_l06Heights.l2] at H
                            by_cases c18 : x12_3 < a0_0
                            · rw [if_pos c18] at H
                              have c18b0 : decide (x12_3 < a0_0) = true := decide_eq_true c18
                              clear c18
                              obtain ⟨ji19, hji19⟩ : ∃ j_ : Int, (IntKind.u64.wrap (x12_3)) = j_ := ⟨_, rfl⟩
                              replace H : (if 0 ≤ (ji19) then (if 0 ≤ x9_2 then (if x9_2 < (l0_1.length : Int) then (if (Go.bits .and .i64 (rd l0_1 x9_2) (shl .i64 1 (ji19))) = 0 then (spec_l06Heights.l2 k3 (l0_1.length : Int) x5_2 x6_2 x7_2 x8_2 x9_2 x10_3 x11_3 (wrap64 (x12_3 + 1)) a0_0 l0_1) else (if x10_3 = true then (if 0 ≤ (Go.bits .xor .i64 x9_2 (shl .i64 1 (ji19))) then (if (Go.bits .xor .i64 x9_2 (shl .i64 1 (ji19))) < (x6_2.length : Int) then (if (Go.bits .xor .i64 x9_2 (shl .i64 1 (ji19))) < (x5_2.length : Int) then (spec_l06Heights.l2 k3 (l0_1.length : Int) x5_2 x6_2 x7_2 x8_2 x9_2 (rdOf false x6_2 (Go.bits .xor .i64 x9_2 (shl .i64 1 (ji19)))) (mx x11_3 (wrap64 ((rd x5_2 (Go.bits .xor .i64 x9_2 (shl .i64 1 (ji19)))) + 1))) (wrap64 (x12_3 + 1)) a0_0 l0_1) else (none)) else (none)) else (none)) else (if 0 ≤ (Go.bits .xor .i64 x9_2 (shl .i64 1 (ji19))) then (if (Go.bits .xor .i64 x9_2 (shl .i64 1 (ji19))) < (x5_2.length : Int) then (spec_l06Heights.l2 k3 (l0_1.length : Int) x5_2 x6_2 x7_2 x8_2 x9_2 false (mx x11_3 (wrap64 ((rd x5_2 (Go.bits .xor .i64 x9_2 (shl .i64 1 (ji19)))) + 1))) (wrap64 (x12_3 + 1)) a0_0 l0_1) else (none)) else (none)))) else (none)) else (none)) else (none)) = some (r1, r2) := by first | (rw [hji19] at H; exact H) | (simp only [hji19] at H ⊢; exact H)
                              by_cases c20 : 0 ≤ (ji19)
                              · rw [if_pos c20] at H
                                have c20b0 := eq_true c20
                                have c20b1 : decide (0 ≤ (ji19)) = true := decide_eq_true c20
                                clear c20
                                obtain ⟨ji21, hji21⟩ : ∃ j_ : Int, (shl .i64 1 (ji19)) = j_ := ⟨_, rfl⟩
                                replace H : (if 0 ≤ x9_2 then (if x9_2 < (l0_1.length : Int) then (if (Go.bits .and .i64 (rd l0_1 x9_2) (ji21)) = 0 then (spec_l06Heights.l2 k3 (l0_1.length : Int) x5_2 x6_2 x7_2 x8_2 x9_2 x10_3 x11_3 (wrap64 (x12_3 + 1)) a0_0 l0_1) else (if x10_3 = true then (if 0 ≤ (Go.bits .xor .i64 x9_2 (ji21)) then (if (Go.bits .xor .i64 x9_2 (ji21)) < (x6_2.length : Int) then (if (Go.bits .xor .i64 x9_2 (ji21)) < (x5_2.length : Int) then (spec_l06Heights.l2 k3 (l0_1.length : Int) x5_2 x6_2 x7_2 x8_2 x9_2 (rdOf false x6_2 (Go.bits .xor .i64 x9_2 (ji21))) (mx x11_3 (wrap64 ((rd x5_2 (Go.bits .xor .i64 x9_2 (ji21))) + 1))) (wrap64 (x12_3 + 1)) a0_0 l0_1) else (none)) else (none)) else (none)) else (if 0 ≤ (Go.bits .xor .i64 x9_2 (ji21)) then (if (Go.bits .xor .i64 x9_2 (ji21)) < (x5_2.length : Int) then (spec_l06Heights.l2 k3 (l0_1.length : Int) x5_2 x6_2 x7_2 x8_2 x9_2 false (mx x11_3 (wrap64 ((rd x5_2 (Go.bits .xor .i64 x9_2 (ji21))) + 1))) (wrap64 (x12_3 + 1)) a0_0 l0_1) else (none)) else (none)))) else (none)) else (none)) = some (r1, r2) := by first | (rw [hji21] at H; exact H) | (simp only [hji21] at H ⊢; exact H)
                                have hji21_ : (IntKind.i64.wrap (1 * 2 ^ min (ji19).toNat 64)) = ji21 := hji21
                                have hji21z : (ji19) ≤ 64 → (IntKind.i64.wrap (1 * 2 ^ (ji19).toNat)) = ji21 := shl_small hji21
                                have hji21u : (IntKind.i64.wrap (2 ^ min (ji19).toNat 64)) = ji21 := by have h_ := hji21_; rw [Int.one_mul] at h_; exact h_
                                have hji21v : (ji19) ≤ 64 → (IntKind.i64.wrap (2 ^ (ji19).toNat)) = ji21 := fun hle_ => by have h_ := hji21z hle_; rw [Int.one_mul] at h_; exact h_
                                have hji21y : (wrap64 (1 * 2 ^ min (ji19).toNat 64)) = ji21 := (i64_w _).symm.trans hji21_
                                have hji21x : (ji19) ≤ 64 → (wrap64 (1 * 2 ^ (ji19).toNat)) = ji21 := fun h_ => (i64_w _).symm.trans (hji21z h_)
                                by_cases c22 : 0 ≤ x9_2
                                · rw [if_pos c22] at H
                                  have c22b0 : decide (0 ≤ x9_2) = true := decide_eq_true c22
                                  clear c22
                                  by_cases c23 : x9_2 < (l0_1.length : Int)
                                  · rw [if_pos c23] at H
                                    have c23b0 : decide (x9_2 < (l0_1.length : Int)) = true := decide_eq_true c23
                                    clear c23
                                    by_cases c24 : (Go.bits .and .i64 (rd l0_1 x9_2) (ji21)) = 0
                                    · rw [if_pos c24] at H
                                      have c24b0 : ((Go.bits .and .i64 (rd l0_1 x9_2) (ji21)) == 0) = true := beq_iff_eq.mpr c24
                                      have c24b1 : ((Go.bits .and .i64 (rd l0_1 x9_2) (ji21)) != 0) = false := bne_eq_false_iff_eq.mpr c24
                                      clear c24
                                      have H' := Aside0.mk H
                                      clear H
                                      have hcz25_0 : wr.cell? ⟨gb304, 0, none⟩ = some (.int .i64 a0_0) := (blk_cell BK304.out 0).trans rfl
                                      have hcz25_1 : wr.cell? ⟨gb304, 1, none⟩ = some (.slice A0_1 l0_1.length c0_1) := (blk_cell BK304.out 1).trans rfl
                                      have hfz25_0 := blk_frozen BK304.out 0
                                      have hfz25_1 := blk_frozen BK304.out 1
                                      have p312 : 0 ≤ (x9_2 : Int) := of_decide_eq_true (by first | (with_reducible assumption) | assumption)
                                      have q312 : x9_2 < (l0_1.length : Int) := of_decide_eq_true (by first | (with_reducible assumption) | assumption)
                                      obtain ⟨ad312, e312, hx312_0⟩ := Kd.at_int HR0_1.out x9_2 p312 q312
                                      cases e312
                                      replace hx312_0 := (HB.out.cell (World.block_lt_of_cell? w _ hx312_0)).trans hx312_0
                                      replace p312 := eq_true p312
                                      replace q312 := eq_true q312
                                      go_wp2
                                      go_roundg k3
                                      case measure => have := HK1.out; have := HK2.out; have := HK3.out; omega
                                      case rel => exact ⟨(x10_3), (x11_3), (wrap64 (x12_3 + 1)), (by first | rfl | (simp; done) | (simp [*]; done)), (by first | rfl | (simp; done) | (simp [*]; done)), (by first | rfl | (simp; done) | (simp [*]; done)), H', ⟨by have := HK1.out; have := HK2.out; have := HK3.out; omega⟩, ⟨by (with_reducible repeat (first | apply Kd.R_alloc | apply Kd.R_drewN | apply Kd.R_drew)); exact HO_5.out⟩, ⟨by (with_reducible repeat (first | apply Kd.R_alloc | apply Kd.R_drewN | apply Kd.R_drew)); exact HO_6.out⟩, ⟨by (with_reducible repeat (first | refine blk_drewN ?_ _ | refine blk_drew ?_ | refine blk_alloc ?_ _)); exact BK304.out⟩, ⟨by repeat (first | (with_reducible first | exact HB.out | apply below_alloc | apply pw_below_drewN | apply below_drew1 | refine below_set ?_ GE304.out) | exact HB.out)⟩⟩
                                    · rw [if_neg c24] at H
                                      have c24b0 : ((Go.bits .and .i64 (rd l0_1 x9_2) (ji21)) == 0) = false := beq_eq_false_iff_ne.mpr c24
                                      have c24b1 : ((Go.bits .and .i64 (rd l0_1 x9_2) (ji21)) != 0) = true := bne_iff_ne.mpr c24
                                      by_cases c26 : x10_3 = true
                                      · subst c26
                                        have H1 : (if 0 ≤ (Go.bits .xor .i64 x9_2 (ji21)) then (if (Go.bits .xor .i64 x9_2 (ji21)) < (x6_2.length : Int) then (if (Go.bits .xor .i64 x9_2 (ji21)) < (x5_2.length : Int) then (spec_l06Heights.l2 k3 (l0_1.length : Int) x5_2 x6_2 x7_2 x8_2 x9_2 (rdOf false x6_2 (Go.bits .xor .i64 x9_2 (ji21))) (mx x11_3 (wrap64 ((rd x5_2 (Go.bits .xor .i64 x9_2 (ji21))) + 1))) (wrap64 (x12_3 + 1)) a0_0 l0_1) else (none)) else (none)) else (none)) = some (r1, r2) := by rw [if_pos rfl] at H; exact H
                                        clear H
                                        have H := H1
                                        clear H1
                                        by_cases c27 : 0 ≤ (Go.bits .xor .i64 x9_2 (ji21))
                                        · rw [if_pos c27] at H
                                          have c27b0 : decide (0 ≤ (Go.bits .xor .i64 x9_2 (ji21))) = true := decide_eq_true c27
                                          clear c27
                                          by_cases c28 : (Go.bits .xor .i64 x9_2 (ji21)) < (x6_2.length : Int)
                                          · rw [if_pos c28] at H
                                            have c28b0 : decide ((Go.bits .xor .i64 x9_2 (ji21)) < (x6_2.length : Int)) = true := decide_eq_true c28
                                            clear c28
                                            by_cases c29 : (Go.bits .xor .i64 x9_2 (ji21)) < (x5_2.length : Int)
                                            · rw [if_pos c29] at H
                                              have c29b0 : decide ((Go.bits .xor .i64 x9_2 (ji21)) < (x5_2.length : Int)) = true := decide_eq_true c29
                                              clear c29
                                              obtain ⟨ji30, hji30⟩ : ∃ j_ : Int, (mx x11_3 (wrap64 ((rd x5_2 (Go.bits .xor .i64 x9_2 (ji21))) + 1))) = j_ := ⟨_, rfl⟩
                                              replace H : (spec_l06Heights.l2 k3 (l0_1.length : Int) x5_2 x6_2 x7_2 x8_2 x9_2 (rdOf false x6_2 (Go.bits .xor .i64 x9_2 (ji21))) ji30 (wrap64 (x12_3 + 1)) a0_0 l0_1) = some (r1, r2) := by first | (rw [hji30] at H; exact H) | (simp only [hji30] at H ⊢; exact H)
                                              have hji30_ : (if x11_3 < (wrap64 ((rd x5_2 (Go.bits .xor .i64 x9_2 (ji21))) + 1)) then (wrap64 ((rd x5_2 (Go.bits .xor .i64 x9_2 (ji21))) + 1)) else x11_3) = ji30 := hji30
                                              have H' := Aside0.mk H
                                              clear H
                                              have hcz31_0 : wr.cell? ⟨gb304, 0, none⟩ = some (.int .i64 a0_0) := (blk_cell BK304.out 0).trans rfl
                                              have hcz31_1 : wr.cell? ⟨gb304, 1, none⟩ = some (.slice A0_1 l0_1.length c0_1) := (blk_cell BK304.out 1).trans rfl
                                              have hfz31_0 := blk_frozen BK304.out 0
                                              have hfz31_1 := blk_frozen BK304.out 1
                                              have p312 : 0 ≤ (x9_2 : Int) := of_decide_eq_true (by first | (with_reducible assumption) | assumption)
                                              have q312 : x9_2 < (l0_1.length : Int) := of_decide_eq_true (by first | (with_reducible assumption) | assumption)
                                              obtain ⟨ad312, e312, hx312_0⟩ := Kd.at_int HR0_1.out x9_2 p312 q312
                                              cases e312
                                              replace hx312_0 := (HB.out.cell (World.block_lt_of_cell? w _ hx312_0)).trans hx312_0
                                              replace p312 := eq_true p312
                                              replace q312 := eq_true q312
                                              have p313 : 0 ≤ ((Go.bits .xor .i64 x9_2 (ji21)) : Int) := of_decide_eq_true (by first | (with_reducible assumption) | assumption)
                                              have q313 : (Go.bits .xor .i64 x9_2 (ji21)) < (x6_2.length : Int) := of_decide_eq_true (by first | (with_reducible assumption) | assumption)
                                              obtain ⟨ad313, e313, hx313_0⟩ := Kd.at_bool (Kd.R_reads' HO_6.out).2.2 (Go.bits .xor .i64 x9_2 (ji21)) p313 q313
                                              obtain rfl : ad311 = ad313 := (by injection e313)
                                              replace p313 := eq_true p313
                                              replace q313 := eq_true q313
                                              obtain ⟨Ao32, co32, eo32⟩ := Kd.R_slice HO_5.out
                                              subst eo32
                                              have p314 : 0 ≤ ((Go.bits .xor .i64 x9_2 (ji21)) : Int) := of_decide_eq_true (by first | (with_reducible assumption) | assumption)
                                              have q314 : (Go.bits .xor .i64 x9_2 (ji21)) < (x5_2.length : Int) := of_decide_eq_true (by first | (with_reducible assumption) | assumption)
                                              obtain ⟨ad314, e314, hx314_0⟩ := Kd.at_int (Kd.R_reads' HO_5.out).2.2 (Go.bits .xor .i64 x9_2 (ji21)) p314 q314
                                              cases e314
                                              replace p314 := eq_true p314
                                              replace q314 := eq_true q314
                                              go_wp2
                                              go_roundg k3
                                              case measure => have := HK1.out; have := HK2.out; have := HK3.out; omega
                                              case rel => exact ⟨(rdOf false x6_2 (Go.bits .xor .i64 x9_2 (ji21))), (ji30), (wrap64 (x12_3 + 1)), (by first | rfl | (simp; done) | (simp only [← hji21] <;> (first | rfl | simp)) | (simp [*]; done)), (by first | rfl | (simp; done) | (simp only [← hji30] <;> (first | rfl | simp)) | (simp [*]; done)), (by first | rfl | (simp; done) | (simp [*]; done)), H', ⟨by have := HK1.out; have := HK2.out; have := HK3.out; omega⟩, ⟨by (with_reducible repeat (first | apply Kd.R_alloc | apply Kd.R_drewN | apply Kd.R_drew)); exact HO_5.out⟩, ⟨by (with_reducible repeat (first | apply Kd.R_alloc | apply Kd.R_drewN | apply Kd.R_drew)); exact HO_6.out⟩, ⟨by (with_reducible repeat (first | refine blk_drewN ?_ _ | refine blk_drew ?_ | refine blk_alloc ?_ _)); exact BK304.out⟩, ⟨by repeat (first | (with_reducible first | exact HB.out | apply below_alloc | apply pw_below_drewN | apply below_drew1 | refine below_set ?_ GE304.out) | exact HB.out)⟩⟩
                                            · rw [if_neg c29] at H
                                              exact absurd H (by simp)
                                          · rw [if_neg c28] at H
                                            exact absurd H (by simp)
                                        · rw [if_neg c27] at H
                                          exact absurd H (by simp)
                                      · replace c26 := Bool.eq_false_iff.mpr c26
                                        subst c26
                                        have H1 : (if 0 ≤ (Go.bits .xor .i64 x9_2 (ji21)) then (if (Go.bits .xor .i64 x9_2 (ji21)) < (x5_2.length : Int) then (spec_l06Heights.l2 k3 (l0_1.length : Int) x5_2 x6_2 x7_2 x8_2 x9_2 false (mx x11_3 (wrap64 ((rd x5_2 (Go.bits .xor .i64 x9_2 (ji21))) + 1))) (wrap64 (x12_3 + 1)) a0_0 l0_1) else (none)) else (none)) = some (r1, r2) := by rw [if_neg (show ¬ (false = true) by decide)] at H; exact H
                                        clear H
                                        have H := H1
                                        clear H1
                                        by_cases c33 : 0 ≤ (Go.bits .xor .i64 x9_2 (ji21))
                                        · rw [if_pos c33] at H
                                          have c33b0 : decide (0 ≤ (Go.bits .xor .i64 x9_2 (ji21))) = true := decide_eq_true c33
                                          clear c33
                                          by_cases c34 : (Go.bits .xor .i64 x9_2 (ji21)) < (x5_2.length : Int)
                                          · rw [if_pos c34] at H
                                            have c34b0 : decide ((Go.bits .xor .i64 x9_2 (ji21)) < (x5_2.length : Int)) = true := decide_eq_true c34
                                            clear c34
                                            try clear hji30
                                            try clear hji30_
                                            try clear hji30z
                                            try clear hji30u
                                            try clear hji30v
                                            try clear hji30y
                                            try clear hji30x
                                            try clear hji30w
                                            obtain ⟨ji35, hji35⟩ : ∃ j_ : Int, (mx x11_3 (wrap64 ((rd x5_2 (Go.bits .xor .i64 x9_2 (ji21))) + 1))) = j_ := ⟨_, rfl⟩
                                            replace H : (spec_l06Heights.l2 k3 (l0_1.length : Int) x5_2 x6_2 x7_2 x8_2 x9_2 false ji35 (wrap64 (x12_3 + 1)) a0_0 l0_1) = some (r1, r2) := by first | (rw [hji35] at H; exact H) | (simp only [hji35] at H ⊢; exact H)
                                            have hji35_ : (if x11_3 < (wrap64 ((rd x5_2 (Go.bits .xor .i64 x9_2 (ji21))) + 1)) then (wrap64 ((rd x5_2 (Go.bits .xor .i64 x9_2 (ji21))) + 1)) else x11_3) = ji35 := hji35
                                            have H' := Aside0.mk H
                                            clear H
                                            have hcz36_0 : wr.cell? ⟨gb304, 0, none⟩ = some (.int .i64 a0_0) := (blk_cell BK304.out 0).trans rfl
                                            have hcz36_1 : wr.cell? ⟨gb304, 1, none⟩ = some (.slice A0_1 l0_1.length c0_1) := (blk_cell BK304.out 1).trans rfl
                                            have hfz36_0 := blk_frozen BK304.out 0
                                            have hfz36_1 := blk_frozen BK304.out 1
                                            have p312 : 0 ≤ (x9_2 : Int) := of_decide_eq_true (by first | (with_reducible assumption) | assumption)
                                            have q312 : x9_2 < (l0_1.length : Int) := of_decide_eq_true (by first | (with_reducible assumption) | assumption)
                                            obtain ⟨ad312, e312, hx312_0⟩ := Kd.at_int HR0_1.out x9_2 p312 q312
                                            cases e312
                                            replace hx312_0 := (HB.out.cell (World.block_lt_of_cell? w _ hx312_0)).trans hx312_0
                                            replace p312 := eq_true p312
                                            replace q312 := eq_true q312
                                            obtain ⟨Ao37, co37, eo37⟩ := Kd.R_slice HO_5.out
                                            subst eo37
                                            have p315 : 0 ≤ ((Go.bits .xor .i64 x9_2 (ji21)) : Int) := of_decide_eq_true (by first | (with_reducible assumption) | assumption)
                                            have q315 : (Go.bits .xor .i64 x9_2 (ji21)) < (x5_2.length : Int) := of_decide_eq_true (by first | (with_reducible assumption) | assumption)
                                            obtain ⟨ad315, e315, hx315_0⟩ := Kd.at_int (Kd.R_reads' HO_5.out).2.2 (Go.bits .xor .i64 x9_2 (ji21)) p315 q315
                                            cases e315
                                            replace p315 := eq_true p315
                                            replace q315 := eq_true q315
                                            go_wp2
                                            go_roundg k3
                                            case measure => have := HK1.out; have := HK2.out; have := HK3.out; omega
                                            case rel => exact ⟨(false), (ji35), (wrap64 (x12_3 + 1)), (by first | rfl | (simp; done) | (simp [*]; done)), (by first | rfl | (simp; done) | (simp only [← hji35] <;> (first | rfl | simp)) | (simp [*]; done)), (by first | rfl | (simp; done) | (simp [*]; done)), H', ⟨by have := HK1.out; have := HK2.out; have := HK3.out; omega⟩, ⟨by (with_reducible repeat (first | apply Kd.R_alloc | apply Kd.R_drewN | apply Kd.R_drew)); exact HO_5.out⟩, ⟨by (with_reducible repeat (first | apply Kd.R_alloc | apply Kd.R_drewN | apply Kd.R_drew)); exact HO_6.out⟩, ⟨by (with_reducible repeat (first | refine blk_drewN ?_ _ | refine blk_drew ?_ | refine blk_alloc ?_ _)); exact BK304.out⟩, ⟨by repeat (first | (with_reducible first | exact HB.out | apply below_alloc | apply pw_below_drewN | apply below_drew1 | refine below_set ?_ GE304.out) | exact HB.out)⟩⟩
                                          · rw [if_neg c34] at H
                                            exact absurd H (by simp)
                                        · rw [if_neg c33] at H
                                          exact absurd H (by simp)
                                  · rw [if_neg c23] at H
                                    exact absurd H (by simp)
                                · rw [if_neg c22] at H
                                  exact absurd H (by simp)
                              · rw [if_neg c20] at H
                                exact absurd H (by simp)
                            · rw [if_neg c18] at H
                              have c18b0 : decide (x12_3 < a0_0) = false := decide_eq_false c18
                              clear c18
                              by_cases c38 : x10_3 = true
                              · subst c38
                                have H1 : (if 0 ≤ x9_2 then (if x9_2 < (x6_2.length : Int) then (if x9_2 < (x5_2.length : Int) then (spec_l06Heights.l1 k3 (l0_1.length : Int) (x5_2.set (x9_2 : Int).toNat x11_3) (x6_2.set (x9_2 : Int).toNat true) (wrap64 (x7_2 + 1)) true (wrap64 (x9_2 + 1)) a0_0 l0_1) else (none)) else (none)) else (none)) = some (r1, r2) := by rw [if_pos rfl] at H; exact H
                                clear H
                                have H := H1
                                clear H1
                                by_cases c39 : 0 ≤ x9_2
                                · rw [if_pos c39] at H
                                  have c39b0 : decide (0 ≤ x9_2) = true := decide_eq_true c39
                                  clear c39
                                  by_cases c40 : x9_2 < (x6_2.length : Int)
                                  · rw [if_pos c40] at H
                                    have c40b0 : decide (x9_2 < (x6_2.length : Int)) = true := decide_eq_true c40
                                    clear c40
                                    obtain ⟨y316, hy316⟩ : ∃ y_ : List Bool, y_ = (x6_2.set (x9_2 : Int).toNat true) := ⟨_, rfl⟩
                                    replace H : (if x9_2 < (x5_2.length : Int) then (spec_l06Heights.l1 k3 (l0_1.length : Int) (x5_2.set (x9_2 : Int).toNat x11_3) y316 (wrap64 (x7_2 + 1)) true (wrap64 (x9_2 + 1)) a0_0 l0_1) else (none)) = some (r1, r2) := by first | (rw [hy316]; with_reducible exact H) | (have H2_ := (Option.bind_some _ _).symm.trans H; rw [hy316]; with_reducible exact H2_) | (have H2_ := (Option.bind_some _ _).symm.trans H; with_reducible exact H2_) | with_reducible exact H | (rw [hy316]; exact H) | exact H
                                    have Ny316 := Aside0.mk hy316
                                    clear hy316
                                    by_cases c42 : x9_2 < (x5_2.length : Int)
                                    · rw [if_pos c42] at H
                                      have c42b0 : decide (x9_2 < (x5_2.length : Int)) = true := decide_eq_true c42
                                      clear c42
                                      obtain ⟨y317, hy317⟩ : ∃ y_ : List Int, y_ = (x5_2.set (x9_2 : Int).toNat x11_3) := ⟨_, rfl⟩
                                      replace H : (spec_l06Heights.l1 k3 (l0_1.length : Int) y317 y316 (wrap64 (x7_2 + 1)) true (wrap64 (x9_2 + 1)) a0_0 l0_1) = some (r1, r2) := by first | (rw [hy317]; with_reducible exact H) | (have H2_ := (Option.bind_some _ _).symm.trans H; rw [hy317]; with_reducible exact H2_) | (have H2_ := (Option.bind_some _ _).symm.trans H; with_reducible exact H2_) | with_reducible exact H | (rw [hy317]; exact H) | exact H
                                      have Ny317 := Aside0.mk hy317
                                      clear hy317
                                      have H' := Aside0.mk H
                                      clear H
                                      have hcz44_0 : wr.cell? ⟨gb304, 0, none⟩ = some (.int .i64 a0_0) := (blk_cell BK304.out 0).trans rfl
                                      have hcz44_1 : wr.cell? ⟨gb304, 1, none⟩ = some (.slice A0_1 l0_1.length c0_1) := (blk_cell BK304.out 1).trans rfl
                                      have hfz44_0 := blk_frozen BK304.out 0
                                      have hfz44_1 := blk_frozen BK304.out 1
                                      have p41 : 0 ≤ (x9_2 : Int) := of_decide_eq_true (by first | (with_reducible assumption) | assumption)
                                      have q41 : (x9_2 : Int) < ((x6_2.length : Int) : Int) := of_decide_eq_true (by first | (with_reducible assumption) | assumption)
                                      obtain ⟨go41, co41, eo41, gb41, gl41, cl41, HG41⟩ := Kd.R_form HO_6.out (by omega)
                                      (first | cases eo41 | (injection eo41 with ea_ en_ ec_; (first | subst ea_ | (injection ea_ with ea_; subst ea_)); subst ec_; clear en_))
                                      have GB41 := Aside0.mk gb41
                                      have GG41 := Aside0.mk HG41
                                      clear gb41 gl41 HG41
                                      (first | simp only [add_plain] at hx311_0 | skip)
                                      (first | simp only [add_plain] at hx313_0 | skip)
                                      obtain ⟨hx41_0, hf41_0⟩ := Kd.R_celln false HO_6.out (x9_2 : Int) p41 q41
                                      replace p41 := eq_true p41
                                      replace q41 := eq_true q41
                                      have HP45 := Kd.R_putg HO_6.out (x9_2 : Int) true
                                      go_wp2_with (first | ((with_reducible refine gate_store (t := 4) (p := 70) rfl ?_); refine store_event (t := 4) (p := 70) (v := ?vo_w46) (w1 := (wr.setCell ⟨go41, (x9_2 : Int).toNat, none⟩ (.bool true))) ?hg ?ho ?hn ?hr ?_; (case ho => rfl); (case hg => rfl); (case hn => rfl); (case hr => first | (go_simp; done) | (go_simp; rfl)); intro w46 hw; have hg : wr.grownBy w46 (some go41) := (by rw [hw]; exact HP45.2); have hp_ : Kd.R Kd.bool 4 w46 w.heap.size (fun _ => True) (.slice (some ⟨go41, 0, none⟩) x6_2.length co17) y316 := (by rw [hw, Ny316.out]; exact HP45.1); clear HP45; have n0_ := Aside0.mk (Kd.R_over' (v := (.slice (some ⟨go41, 0, none⟩) x6_2.length co17)) (by (with_reducible repeat (first | apply Kd.R_alloc | apply Kd.R_drewN | apply Kd.R_drew)); exact HO_5.out) (Kd.R_typed HO_6.out) (by decide) hg); have n1_ := Aside0.mk (hp_); have n2_ := Aside0.mk (blk_grown (g := gb304) (o := .cells #[.int .i64 a0_0, .slice A0_1 l0_1.length c0_1] 39 (0, 0)) (by (with_reducible repeat (first | refine blk_drewN ?_ _ | refine blk_drew ?_ | refine blk_alloc ?_ _)); exact BK304.out) hg (Kd.R_ne HO_6.out BK304.out (by decide))); have n3_ := Aside0.mk ((by rw [hw]; exact below_set (HB.out) GB41.out : Below w.heap.size w w46)); clear HO_5; clear HO_6; clear BK304; clear HB; have HO_5 := n0_; have HO_6 := n1_; have BK304 := n2_; have HB := n3_; clear n0_ n1_ n2_ n3_; clear hg hw hp_; have p43 : 0 ≤ (x9_2 : Int) := of_decide_eq_true (by first | (with_reducible assumption) | assumption); have q43 : (x9_2 : Int) < ((x5_2.length : Int) : Int) := of_decide_eq_true (by first | (with_reducible assumption) | assumption); obtain ⟨go43, co43, eo43, gb43, gl43, cl43, HG43⟩ := Kd.R_form HO_5.out (by omega); (first | cases eo43 | (injection eo43 with ea_ en_ ec_; (first | subst ea_ | (injection ea_ with ea_; subst ea_)); subst ec_; clear en_)); have GB43 := Aside0.mk gb43; have GG43 := Aside0.mk HG43; clear gb43 gl43 HG43; obtain ⟨hx43_0, hf43_0⟩ := Kd.R_celln 0 HO_5.out (x9_2 : Int) p43 q43; replace p43 := eq_true p43; replace q43 := eq_true q43; obtain ⟨hy47_, hz47_⟩ := Kd.R_celln 0 HO_5.out (x9_2 : Int) (of_decide_eq_true (by first | (with_reducible assumption) | assumption)) (of_decide_eq_true (by first | (with_reducible assumption) | assumption)); have HP47 := Kd.R_putg HO_5.out (x9_2 : Int) x11_3) | ((with_reducible refine gate_store (t := 2) (p := 74) rfl ?_); refine store_event (t := 2) (p := 74) (v := ?vo_w48) (w1 := (w46.setCell ⟨go43, (x9_2 : Int).toNat, none⟩ (.int .i64 x11_3))) ?hg ?ho ?hn ?hr ?_; (case ho => rfl); (case hg => rfl); (case hn => rfl); (case hr => first | (go_simp; done) | (go_simp; rfl)); intro w48 hw; have hg : w46.grownBy w48 (some go43) := (by rw [hw]; exact HP47.2); have hp_ : Kd.R (Kd.int .i64) 2 w48 w.heap.size (fun _ => True) (.slice (some ⟨go43, 0, none⟩) x5_2.length co43) y317 := (by rw [hw, Ny317.out]; exact HP47.1); clear HP47; have n0_ := Aside0.mk (hp_); have n1_ := Aside0.mk (Kd.R_over' (v := (.slice (some ⟨go43, 0, none⟩) x5_2.length co43)) (by (with_reducible repeat (first | apply Kd.R_alloc | apply Kd.R_drewN | apply Kd.R_drew)); exact HO_6.out) (Kd.R_typed HO_5.out) (by decide) hg); have n2_ := Aside0.mk (blk_grown (g := gb304) (o := .cells #[.int .i64 a0_0, .slice A0_1 l0_1.length c0_1] 39 (0, 0)) (by (with_reducible repeat (first | refine blk_drewN ?_ _ | refine blk_drew ?_ | refine blk_alloc ?_ _)); exact BK304.out) hg (Kd.R_ne HO_5.out BK304.out (by decide))); have n3_ := Aside0.mk ((by rw [hw]; exact below_set (HB.out) GB43.out : Below w.heap.size w w48)); clear HO_5; clear HO_6; clear BK304; clear HB; have HO_5 := n0_; have HO_6 := n1_; have BK304 := n2_; have HB := n3_; clear n0_ n1_ n2_ n3_; clear hg hw hp_))
                                      go_roundg k3
                                      case measure => have := HK1.out; have := HK2.out; have := HK3.out; omega
                                      case rel => exact ⟨(y317), (y316), (wrap64 (x7_2 + 1)), (true), (wrap64 (x9_2 + 1)), (by first | rfl | (simp; done) | (simp [*]; done)), (by first | rfl | (simp; done) | (simp [*]; done)), (by first | rfl | (simp; done) | (simp [*]; done)), H', ⟨by have := HK1.out; have := HK2.out; have := HK3.out; omega⟩, ⟨by (with_reducible repeat (first | apply Kd.R_alloc | apply Kd.R_drewN | apply Kd.R_drew)); exact HO_5.out⟩, ⟨by (with_reducible repeat (first | apply Kd.R_alloc | apply Kd.R_drewN | apply Kd.R_drew)); exact HO_6.out⟩, ⟨by (with_reducible repeat (first | refine blk_drewN ?_ _ | refine blk_drew ?_ | refine blk_alloc ?_ _)); exact BK304.out⟩, ⟨by repeat (first | (with_reducible first | exact HB.out | apply below_alloc | apply pw_below_drewN | apply below_drew1 | refine below_set ?_ GE304.out) | exact HB.out)⟩⟩
                                    · rw [if_neg c42] at H
                                      exact absurd H (by simp)
                                  · rw [if_neg c40] at H
                                    exact absurd H (by simp)
                                · rw [if_neg c39] at H
                                  exact absurd H (by simp)
                              · replace c38 := Bool.eq_false_iff.mpr c38
                                subst c38
                                have H1 : (spec_l06Heights.l1 k3 (l0_1.length : Int) x5_2 x6_2 x7_2 x8_2 (wrap64 (x9_2 + 1)) a0_0 l0_1) = some (r1, r2) := by rw [if_neg (show ¬ (false = true) by decide)] at H; exact H
                                clear H
                                have H := H1
                                clear H1
                                have H' := Aside0.mk H
                                clear H
                                have hcz49_0 : wr.cell? ⟨gb304, 0, none⟩ = some (.int .i64 a0_0) := (blk_cell BK304.out 0).trans rfl
                                have hcz49_1 : wr.cell? ⟨gb304, 1, none⟩ = some (.slice A0_1 l0_1.length c0_1) := (blk_cell BK304.out 1).trans rfl
                                have hfz49_0 := blk_frozen BK304.out 0
                                have hfz49_1 := blk_frozen BK304.out 1
                                go_wp2
                                go_roundg k3
                                case measure => have := HK1.out; have := HK2.out; have := HK3.out; omega
                                case rel => exact ⟨(x5_2), (x6_2), (x7_2), (x8_2), (wrap64 (x9_2 + 1)), (by first | rfl | (simp; done) | (simp [*]; done)), (by first | rfl | (simp; done) | (simp [*]; done)), (by first | rfl | (simp; done) | (simp [*]; done)), H', ⟨by have := HK1.out; have := HK2.out; have := HK3.out; omega⟩, ⟨by (with_reducible repeat (first | apply Kd.R_alloc | apply Kd.R_drewN | apply Kd.R_drew)); exact HO_5.out⟩, ⟨by (with_reducible repeat (first | apply Kd.R_alloc | apply Kd.R_drewN | apply Kd.R_drew)); exact HO_6.out⟩, ⟨by (with_reducible repeat (first | refine blk_drewN ?_ _ | refine blk_drew ?_ | refine blk_alloc ?_ _)); exact BK304.out⟩, ⟨by repeat (first | (with_reducible first | exact HB.out | apply below_alloc | apply pw_below_drewN | apply below_drew1 | refine below_set ?_ GE304.out) | exact HB.out)⟩⟩
                      · rw [if_neg c16] at H
                        exact absurd H (by simp)
                    · rw [if_neg c15] at H
                      exact absurd H (by simp)
                  · rw [if_neg c14] at H
                    have c14b0 : decide (x9_2 < (l0_1.length : Int)) = false := decide_eq_false c14
                    clear c14
                    have H' := Aside0.mk H
                    clear H
                    go_wp2
                    go_roundg k2
                    case measure => have := HK1.out; have := HK2.out; omega
                    case rel => exact ⟨(x5_2), (x6_2), (x7_2), (x8_2), (by first | rfl | (simp; done) | (simp [*]; done)), (by first | rfl | (simp; done) | (simp [*]; done)), H', ⟨by have := HK1.out; have := HK2.out; omega⟩, ⟨by (with_reducible repeat (first | apply Kd.R_alloc | apply Kd.R_drewN | apply Kd.R_drew)); exact HO_5.out⟩, ⟨by (with_reducible repeat (first | apply Kd.R_alloc | apply Kd.R_drewN | apply Kd.R_drew)); exact HO_6.out⟩, ⟨by (with_reducible repeat (first | refine blk_drewN ?_ _ | refine blk_drew ?_ | refine blk_alloc ?_ _)); exact BK304.out⟩, ⟨by repeat (first | (with_reducible first | exact HB.out | apply below_alloc | apply pw_below_drewN | apply below_drew1 | refine below_set ?_ GE304.out) | exact HB.out)⟩⟩
            · replace c13 := Bool.eq_false_iff.mpr c13
              subst c13
              have H1 : (some (x5_1, (x7_1 == (l0_1.length : Int)))) = some (r1, r2) := by rw [if_neg (show ¬ (false = true) by decide)] at H; exact H
              clear H
              have H := H1
              clear H1
              simp only [Option.some.injEq, Prod.mk.injEq] at H
              obtain ⟨rfl, rfl⟩ := H
              go_wp2
              go_ret2
              exact ⟨_, by first | rfl | (simp [errW_none, errW_some] <;> rfl) | (simp [*, errW_none, errW_some] <;> rfl), by (with_reducible repeat (first | apply Kd.R_alloc | apply Kd.R_drewN | apply Kd.R_drew)); exact HO_5.out, by repeat (first | (with_reducible first | exact HB.out | apply below_alloc | apply pw_below_drewN | apply below_drew1 | refine below_set ?_ GE304.out) | exact HB.out)⟩
      · rw [if_neg c4] at H
        exact absurd H (by simp)
    · rw [if_neg c3] at H
      exact absurd H (by simp)
  · rw [if_neg c2] at H
    exact absurd H (by simp)

end Go.Proofs.Ytjjbhdpjnjncbaa.Pr
