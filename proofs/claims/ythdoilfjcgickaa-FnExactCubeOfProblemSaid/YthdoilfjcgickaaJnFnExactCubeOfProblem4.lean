/- Texts of one claim (the words of the kit's print that the claim uses, printed functions, and this session's own texts), joined in the order of their imports by this session's own program (merge.py). -/
import Derived.Test.YthdoilfjcgickaaRows
import Derived.WalkKit
import Derived.ProofKit
import Derived.OpenShut
import Derived.ShutString
import Derived.ChangeOld
import Derived.Below
import Derived.SizedLaws
import Derived.Test.YthdoilfjcgickaaJnFnExactCubeOfProblem0
import Derived.Test.YthdoilfjcgickaaJnFnExactCubeOfProblem1
import Derived.Test.YthdoilfjcgickaaJnFnExactCubeOfProblem2
import Derived.Test.YthdoilfjcgickaaJnFnExactCubeOfProblem3
set_option linter.unusedVariables false
set_option linter.unusedSimpArgs false
set_option maxHeartbeats 8000000
set_option maxRecDepth 100000
section
namespace Go.Proofs.Ythdoilfjcgickaa.Pr
open Go.RowKit Go.Proofs.YthdoilfjcgickaaW.PrintWords Go.Proofs.YthdoilfjcgickaaW.PrintLast Go.Proofs.YthdoilfjcgickaaW.PrintMore
attribute [local go_sem] max2_int min2_int max_two min_two max_three min_three max_four min_four
def spec_l08Code.f (k : Nat) (l0_0 : List (List Int)) (l0_1 : List Int) (a1 : Int) (a2 : Int) : Option (Int) := (spec_l01Is.f k l0_0 l0_1).bind fun t625 => (if t625 = true then (if 0 ≤ (IntKind.u64.wrap ((l0_1.length : Int))) then ((spec_l01In.f a1 0 (wrap64 ((shl .i64 1 (IntKind.u64.wrap ((l0_1.length : Int)))) - 1))).bind fun t626 => (if t626 = true then ((spec_l01In.f a2 0 3).bind fun t627 => (if t627 = true then (some 0) else (some 2))) else (some 2))) else (none)) else (some 1))
theorem spec_l08Code.mono : ∀ a0 a1 a2 a3 k, LeO (spec_l08Code.f k a0 a1 a2 a3) (spec_l08Code.f (k + 1) a0 a1 a2 a3) := by
 intro a0 a1 a2 a3 k
 unfold spec_l08Code.f
 repeat' first
   | (with_reducible exact spec_l01Is.mono _ _ _)
   | (with_reducible exact LeO.refl _)
   | (with_reducible exact LeO.none _)
   | (with_reducible refine LeO.ite ?_ ?_)
   | (with_reducible refine LeO.bind ?_ (fun _ => ?_))
   | exact spec_l01Is.mono _ _ _
   | exact LeO.none _
   | refine LeO.ite ?_ ?_
   | refine LeO.bind ?_ (fun _ => ?_)
theorem spec_l08Code.calls (k : Nat) (A0_0 : Option Addr) (c0_0 : Nat) (l0_0 : List (List Int)) (A0_1 : Option Addr) (c0_1 : Nat) (l0_1 : List Int) (a1 : Int) (a2 : Int) (r : Int) (w : World) (hr0_0 : Kd.C (Kd.slice 2 (Kd.int .i64)) w A0_0 l0_0.length l0_0) (hc0_0 : l0_0.length ≤ c0_0) (hr0_1 : Kd.C (Kd.int .i64) w A0_1 l0_1.length l0_1) (hc0_1 : l0_1.length ≤ c0_1) (h : spec_l08Code.f k l0_0 l0_1 a1 a2 = some r) :
  Calls Try.prog 78 #[.agg #[.slice A0_0 l0_0.length c0_0, .slice A0_1 l0_1.length c0_1], .int .i64 a1, .int .i64 a2] w fun e w' => e = .returned (.int .i64 r) ∧ Below w.heap.size w w' := by
 have hu29 := Try.underlying29
 have HR0_0 := Aside0.mk hr0_0
 have HC0_0 := Aside0.mk hc0_0
 clear hr0_0 hc0_0
 have HR0_1 := Aside0.mk hr0_1
 have HC0_1 := Aside0.mk hc0_1
 clear hr0_1 hc0_1
 have HB := Aside0.mk (Below.refl w.heap.size w)
 have H : ((spec_l01Is.f k l0_0 l0_1).bind fun t625 => (if t625 = true then (if 0 ≤ (IntKind.u64.wrap ((l0_1.length : Int))) then ((spec_l01In.f a1 0 (wrap64 ((shl .i64 1 (IntKind.u64.wrap ((l0_1.length : Int)))) - 1))).bind fun t626 => (if t626 = true then ((spec_l01In.f a2 0 3).bind fun t627 => (if t627 = true then (some 0) else (some 2))) else (some 2))) else (none)) else (some 1))) = some r := h
 clear h
 replace H := Option.bind_eq_some_iff.mp H
 obtain ⟨t625, A40, H⟩ := H
 replace H : (if t625 = true then (if 0 ≤ (IntKind.u64.wrap ((l0_1.length : Int))) then ((spec_l01In.f a1 0 (wrap64 ((shl .i64 1 (IntKind.u64.wrap ((l0_1.length : Int)))) - 1))).bind fun t626 => (if t626 = true then ((spec_l01In.f a2 0 3).bind fun t627 => (if t627 = true then (some 0) else (some 2))) else (some 2))) else (none)) else (some 1)) = some r := H
 have A4 := Aside0.mk A40
 clear A40
 by_cases c5 : t625 = true
 ·subst c5
  have H1 : (if 0 ≤ (IntKind.u64.wrap ((l0_1.length : Int))) then ((spec_l01In.f a1 0 (wrap64 ((shl .i64 1 (IntKind.u64.wrap ((l0_1.length : Int)))) - 1))).bind fun t626 => (if t626 = true then ((spec_l01In.f a2 0 3).bind fun t627 => (if t627 = true then (some 0) else (some 2))) else (some 2))) else (none)) = some r := by rw [if_pos rfl] at H; exact H
  clear H
  have H := H1
  clear H1
  obtain ⟨ji6, hji6⟩ : ∃ j_ : Int, (IntKind.u64.wrap ((l0_1.length : Int))) = j_ := ⟨_, rfl⟩
  replace H : (if 0 ≤ (ji6) then ((spec_l01In.f a1 0 (wrap64 ((shl .i64 1 (ji6)) - 1))).bind fun t626 => (if t626 = true then ((spec_l01In.f a2 0 3).bind fun t627 => (if t627 = true then (some 0) else (some 2))) else (some 2))) else (none)) = some r := by first | (rw [hji6] at H; exact H) | (simp only [hji6] at H ⊢; exact H)
  (try rw [hji6] at A4)
  by_cases c7 : 0 ≤ (ji6)
  ·rw [if_pos c7] at H
   have c7b0 := eq_true c7
   have c7b1 : decide (0 ≤ (ji6)) = true := decide_eq_true c7
   clear c7
   obtain ⟨ji8, hji8⟩ : ∃ j_ : Int, (shl .i64 1 (ji6)) = j_ := ⟨_, rfl⟩
   replace H : ((spec_l01In.f a1 0 (wrap64 ((ji8) - 1))).bind fun t626 => (if t626 = true then ((spec_l01In.f a2 0 3).bind fun t627 => (if t627 = true then (some 0) else (some 2))) else (some 2))) = some r := by first | (rw [hji8] at H; exact H) | (simp only [hji8] at H ⊢; exact H)
   (try rw [hji8] at A4)
   have hji8_ : (IntKind.i64.wrap (1 * 2 ^ min (ji6).toNat 64)) = ji8 := hji8
   have hji8z : (ji6) ≤ 64 → (IntKind.i64.wrap (1 * 2 ^ (ji6).toNat)) = ji8 := shl_small hji8
   have hji8u : (IntKind.i64.wrap (2 ^ min (ji6).toNat 64)) = ji8 := by have h_ := hji8_; rw [Int.one_mul] at h_; exact h_
   have hji8v : (ji6) ≤ 64 → (IntKind.i64.wrap (2 ^ (ji6).toNat)) = ji8 := fun hle_ => by have h_ := hji8z hle_; rw [Int.one_mul] at h_; exact h_
   have hji8y : (wrap64 (1 * 2 ^ min (ji6).toNat 64)) = ji8 := (i64_w _).symm.trans hji8_
   have hji8x : (ji6) ≤ 64 → (wrap64 (1 * 2 ^ (ji6).toNat)) = ji8 := fun h_ => (i64_w _).symm.trans (hji8z h_)
   replace H := Option.bind_eq_some_iff.mp H
   obtain ⟨t626, A90, H⟩ := H
   replace H : (if t626 = true then ((spec_l01In.f a2 0 3).bind fun t627 => (if t627 = true then (some 0) else (some 2))) else (some 2)) = some r := H
   have A9 := Aside0.mk A90
   clear A90
   by_cases c10 : t626 = true
   ·subst c10
    have H1 : ((spec_l01In.f a2 0 3).bind fun t627 => (if t627 = true then (some 0) else (some 2))) = some r := by rw [if_pos rfl] at H; exact H
    clear H
    have H := H1
    clear H1
    replace H := Option.bind_eq_some_iff.mp H
    obtain ⟨t627, A110, H⟩ := H
    replace H : (if t627 = true then (some 0) else (some 2)) = some r := H
    have A11 := Aside0.mk A110
    clear A110
    by_cases c12 : t627 = true
    ·subst c12
     have H1 : (some 0) = some r := by rw [if_pos rfl] at H; exact H
     clear H
     have H := H1
     clear H1
     obtain rfl := Option.some.inj H
     go_enter Try.func78, Try.ntmps78
     go_wp2_with (first | ((with_reducible refine gate_dst (N := 3) rfl ?_); refine box_event ?hg (N := 3) ?hd (cs := #[.slice A0_0 l0_0.length c0_0, .slice A0_1 l0_1.length c0_1]) (t := 29) ?hr ?_; (case hd => rfl); (case hg => rfl); (case hr => first | (go_simp; done) | (go_simp; rfl)); intro gb624 hg w13 hbox hb; have n0_ := Aside0.mk (bs_ hb); have n1_ := Aside0.mk (hbox); have n2_ := Aside0.mk ((by rw [hg]; exact bz_ : w.heap.size ≤ gb624)); have n3_ := Aside0.mk ((by rw [hg]; exact bz_ : w.heap.size ≤ gb624)); clear HB; have HB := n0_; have BK624 := n1_; have GW624 := n2_; have GE624 := n3_; clear n0_ n1_ n2_ n3_; clear hb hbox hg; have hcz14_0 : w13.cell? ⟨gb624, 0, none⟩ = some (.slice A0_0 l0_0.length c0_0) := (blk_cell BK624.out 0).trans rfl; have hcz14_1 : w13.cell? ⟨gb624, 1, none⟩ = some (.slice A0_1 l0_1.length c0_1) := (blk_cell BK624.out 1).trans rfl; have hfz14_0 := blk_frozen BK624.out 0; have hfz14_1 := blk_frozen BK624.out 1) | ((with_reducible refine gate_callee (f := 66) rfl ?_); refine goesL_ (some 9) rfl rfl Try.func66 (by kernel_rfl) rfl #[.agg #[.slice A0_0 l0_0.length c0_0, .slice A0_1 l0_1.length c0_1]] rfl (by (try simp only [List.map_toArray, List.map_cons, List.map_nil]); first | done | rfl | (simp only [List.length_drop, List.length_take]; rfl)) ?_; (with_reducible refine (spec_l01Is.calls k _ _ l0_0 _ _ l0_1 true _ ?side1 ?side2 ?side3 ?side4 A4.out).mono ?_); (case side1 => exact cb_ HR0_0.out HB.out); (case side2 => exact HC0_0.out); (case side3 => exact cb_ HR0_1.out HB.out); (case side4 => exact HC0_1.out); rintro e w15 ⟨rfl, hb⟩; refine ⟨_, rfl, ?_⟩; have n0_ := Aside0.mk (bb_ BK624.out hb); have n1_ := Aside0.mk (bs_ hb); clear BK624; clear HB; have BK624 := n0_; have HB := n1_; clear n0_ n1_; (try clear hb); (try clear hb2); (try clear hk); (try clear hi); have hcz16_0 : w15.cell? ⟨gb624, 0, none⟩ = some (.slice A0_0 l0_0.length c0_0) := (blk_cell BK624.out 0).trans rfl; have hcz16_1 : w15.cell? ⟨gb624, 1, none⟩ = some (.slice A0_1 l0_1.length c0_1) := (blk_cell BK624.out 1).trans rfl; have hfz16_0 := blk_frozen BK624.out 0; have hfz16_1 := blk_frozen BK624.out 1) | ((with_reducible refine gate_callee (f := 91) rfl ?_); refine goesL_ (some 19) rfl rfl Try.func91 (by kernel_rfl) rfl #[.int .i64 a1, .int .i64 0, .int .i64 (wrap64 ((ji8) - 1))] rfl (by (try simp only [List.map_toArray, List.map_cons, List.map_nil]); first | done | (simp only [hji8]; rfl) | rfl | (simp only [List.length_drop, List.length_take]; rfl)) ?_; (with_reducible refine (spec_l01In.calls a1 0 (wrap64 ((ji8) - 1)) true _ A9.out).mono ?_); rintro e w' ⟨rfl, ⟨nd, rfl⟩⟩; refine ⟨_, rfl, ?_⟩) | (go_at_call 91; (with_reducible refine (spec_l01In.calls a2 0 3 true _ A11.out).mono ?_); rintro e w' ⟨rfl, ⟨nd, rfl⟩⟩))
     go_ret
     exact ⟨by first | rfl | (simp [errW_none, errW_some] <;> rfl) | (simp only [← hji6, ← hji8]; first | rfl | (simp [errW_none, errW_some] <;> rfl)) | (simp [*, errW_none, errW_some] <;> rfl), hb_⟩
    ·replace c12 := Bool.eq_false_iff.mpr c12
     subst c12
     have H1 : (some 2) = some r := by rw [if_neg (show ¬ (false = true) by decide)] at H; exact H
     clear H
     have H := H1
     clear H1
     obtain rfl := Option.some.inj H
     go_enter Try.func78, Try.ntmps78
     go_wp2_with (first | ((with_reducible refine gate_dst (N := 3) rfl ?_); refine box_event ?hg (N := 3) ?hd (cs := #[.slice A0_0 l0_0.length c0_0, .slice A0_1 l0_1.length c0_1]) (t := 29) ?hr ?_; (case hd => rfl); (case hg => rfl); (case hr => first | (go_simp; done) | (go_simp; rfl)); intro gb624 hg w17 hbox hb; have n0_ := Aside0.mk (bs_ hb); have n1_ := Aside0.mk (hbox); have n2_ := Aside0.mk ((by rw [hg]; exact bz_ : w.heap.size ≤ gb624)); have n3_ := Aside0.mk ((by rw [hg]; exact bz_ : w.heap.size ≤ gb624)); clear HB; have HB := n0_; have BK624 := n1_; have GW624 := n2_; have GE624 := n3_; clear n0_ n1_ n2_ n3_; clear hb hbox hg; have hcz18_0 : w17.cell? ⟨gb624, 0, none⟩ = some (.slice A0_0 l0_0.length c0_0) := (blk_cell BK624.out 0).trans rfl; have hcz18_1 : w17.cell? ⟨gb624, 1, none⟩ = some (.slice A0_1 l0_1.length c0_1) := (blk_cell BK624.out 1).trans rfl; have hfz18_0 := blk_frozen BK624.out 0; have hfz18_1 := blk_frozen BK624.out 1) | ((with_reducible refine gate_callee (f := 66) rfl ?_); refine goesL_ (some 9) rfl rfl Try.func66 (by kernel_rfl) rfl #[.agg #[.slice A0_0 l0_0.length c0_0, .slice A0_1 l0_1.length c0_1]] rfl (by (try simp only [List.map_toArray, List.map_cons, List.map_nil]); first | done | rfl | (simp only [List.length_drop, List.length_take]; rfl)) ?_; (with_reducible refine (spec_l01Is.calls k _ _ l0_0 _ _ l0_1 true _ ?side1 ?side2 ?side3 ?side4 A4.out).mono ?_); (case side1 => exact cb_ HR0_0.out HB.out); (case side2 => exact HC0_0.out); (case side3 => exact cb_ HR0_1.out HB.out); (case side4 => exact HC0_1.out); rintro e w19 ⟨rfl, hb⟩; refine ⟨_, rfl, ?_⟩; have n0_ := Aside0.mk (bb_ BK624.out hb); have n1_ := Aside0.mk (bs_ hb); clear BK624; clear HB; have BK624 := n0_; have HB := n1_; clear n0_ n1_; (try clear hb); (try clear hb2); (try clear hk); (try clear hi); have hcz20_0 : w19.cell? ⟨gb624, 0, none⟩ = some (.slice A0_0 l0_0.length c0_0) := (blk_cell BK624.out 0).trans rfl; have hcz20_1 : w19.cell? ⟨gb624, 1, none⟩ = some (.slice A0_1 l0_1.length c0_1) := (blk_cell BK624.out 1).trans rfl; have hfz20_0 := blk_frozen BK624.out 0; have hfz20_1 := blk_frozen BK624.out 1) | ((with_reducible refine gate_callee (f := 91) rfl ?_); refine goesL_ (some 19) rfl rfl Try.func91 (by kernel_rfl) rfl #[.int .i64 a1, .int .i64 0, .int .i64 (wrap64 ((ji8) - 1))] rfl (by (try simp only [List.map_toArray, List.map_cons, List.map_nil]); first | done | (simp only [hji8]; rfl) | rfl | (simp only [List.length_drop, List.length_take]; rfl)) ?_; (with_reducible refine (spec_l01In.calls a1 0 (wrap64 ((ji8) - 1)) true _ A9.out).mono ?_); rintro e w' ⟨rfl, ⟨nd, rfl⟩⟩; refine ⟨_, rfl, ?_⟩) | (go_at_call 91; (with_reducible refine (spec_l01In.calls a2 0 3 false _ A11.out).mono ?_); rintro e w' ⟨rfl, ⟨nd, rfl⟩⟩))
     go_ret
     exact ⟨by first | rfl | (simp [errW_none, errW_some] <;> rfl) | (simp only [← hji6, ← hji8]; first | rfl | (simp [errW_none, errW_some] <;> rfl)) | (simp [*, errW_none, errW_some] <;> rfl), hb_⟩
   ·replace c10 := Bool.eq_false_iff.mpr c10
    subst c10
    have H1 : (some 2) = some r := by rw [if_neg (show ¬ (false = true) by decide)] at H; exact H
    clear H
    have H := H1
    clear H1
    obtain rfl := Option.some.inj H
    go_enter Try.func78, Try.ntmps78
    go_wp2_with (first | ((with_reducible refine gate_dst (N := 3) rfl ?_); refine box_event ?hg (N := 3) ?hd (cs := #[.slice A0_0 l0_0.length c0_0, .slice A0_1 l0_1.length c0_1]) (t := 29) ?hr ?_; (case hd => rfl); (case hg => rfl); (case hr => first | (go_simp; done) | (go_simp; rfl)); intro gb624 hg w21 hbox hb; have n0_ := Aside0.mk (bs_ hb); have n1_ := Aside0.mk (hbox); have n2_ := Aside0.mk ((by rw [hg]; exact bz_ : w.heap.size ≤ gb624)); have n3_ := Aside0.mk ((by rw [hg]; exact bz_ : w.heap.size ≤ gb624)); clear HB; have HB := n0_; have BK624 := n1_; have GW624 := n2_; have GE624 := n3_; clear n0_ n1_ n2_ n3_; clear hb hbox hg; have hcz22_0 : w21.cell? ⟨gb624, 0, none⟩ = some (.slice A0_0 l0_0.length c0_0) := (blk_cell BK624.out 0).trans rfl; have hcz22_1 : w21.cell? ⟨gb624, 1, none⟩ = some (.slice A0_1 l0_1.length c0_1) := (blk_cell BK624.out 1).trans rfl; have hfz22_0 := blk_frozen BK624.out 0; have hfz22_1 := blk_frozen BK624.out 1) | ((with_reducible refine gate_callee (f := 66) rfl ?_); refine goesL_ (some 9) rfl rfl Try.func66 (by kernel_rfl) rfl #[.agg #[.slice A0_0 l0_0.length c0_0, .slice A0_1 l0_1.length c0_1]] rfl (by (try simp only [List.map_toArray, List.map_cons, List.map_nil]); first | done | rfl | (simp only [List.length_drop, List.length_take]; rfl)) ?_; (with_reducible refine (spec_l01Is.calls k _ _ l0_0 _ _ l0_1 true _ ?side1 ?side2 ?side3 ?side4 A4.out).mono ?_); (case side1 => exact cb_ HR0_0.out HB.out); (case side2 => exact HC0_0.out); (case side3 => exact cb_ HR0_1.out HB.out); (case side4 => exact HC0_1.out); rintro e w23 ⟨rfl, hb⟩; refine ⟨_, rfl, ?_⟩; have n0_ := Aside0.mk (bb_ BK624.out hb); have n1_ := Aside0.mk (bs_ hb); clear BK624; clear HB; have BK624 := n0_; have HB := n1_; clear n0_ n1_; (try clear hb); (try clear hb2); (try clear hk); (try clear hi); have hcz24_0 : w23.cell? ⟨gb624, 0, none⟩ = some (.slice A0_0 l0_0.length c0_0) := (blk_cell BK624.out 0).trans rfl; have hcz24_1 : w23.cell? ⟨gb624, 1, none⟩ = some (.slice A0_1 l0_1.length c0_1) := (blk_cell BK624.out 1).trans rfl; have hfz24_0 := blk_frozen BK624.out 0; have hfz24_1 := blk_frozen BK624.out 1) | ((with_reducible refine gate_callee (f := 91) rfl ?_); refine goesL_ (some 19) rfl rfl Try.func91 (by kernel_rfl) rfl #[.int .i64 a1, .int .i64 0, .int .i64 (wrap64 ((ji8) - 1))] rfl (by (try simp only [List.map_toArray, List.map_cons, List.map_nil]); first | done | (simp only [hji8]; rfl) | rfl | (simp only [List.length_drop, List.length_take]; rfl)) ?_; (with_reducible refine (spec_l01In.calls a1 0 (wrap64 ((ji8) - 1)) false _ A9.out).mono ?_); rintro e w' ⟨rfl, ⟨nd, rfl⟩⟩; refine ⟨_, rfl, ?_⟩))
    go_ret
    exact ⟨by first | rfl | (simp [errW_none, errW_some] <;> rfl) | (simp only [← hji6, ← hji8]; first | rfl | (simp [errW_none, errW_some] <;> rfl)) | (simp [*, errW_none, errW_some] <;> rfl), hb_⟩
  ·rw [if_neg c7] at H
   exact absurd H (by simp)
 ·replace c5 := Bool.eq_false_iff.mpr c5
  subst c5
  have H1 : (some 1) = some r := by rw [if_neg (show ¬ (false = true) by decide)] at H; exact H
  clear H
  have H := H1
  clear H1
  obtain rfl := Option.some.inj H
  go_enter Try.func78, Try.ntmps78
  go_wp2_with (first | ((with_reducible refine gate_dst (N := 3) rfl ?_); refine box_event ?hg (N := 3) ?hd (cs := #[.slice A0_0 l0_0.length c0_0, .slice A0_1 l0_1.length c0_1]) (t := 29) ?hr ?_; (case hd => rfl); (case hg => rfl); (case hr => first | (go_simp; done) | (go_simp; rfl)); intro gb624 hg w25 hbox hb; have n0_ := Aside0.mk (bs_ hb); have n1_ := Aside0.mk (hbox); have n2_ := Aside0.mk ((by rw [hg]; exact bz_ : w.heap.size ≤ gb624)); have n3_ := Aside0.mk ((by rw [hg]; exact bz_ : w.heap.size ≤ gb624)); clear HB; have HB := n0_; have BK624 := n1_; have GW624 := n2_; have GE624 := n3_; clear n0_ n1_ n2_ n3_; clear hb hbox hg; have hcz26_0 : w25.cell? ⟨gb624, 0, none⟩ = some (.slice A0_0 l0_0.length c0_0) := (blk_cell BK624.out 0).trans rfl; have hcz26_1 : w25.cell? ⟨gb624, 1, none⟩ = some (.slice A0_1 l0_1.length c0_1) := (blk_cell BK624.out 1).trans rfl; have hfz26_0 := blk_frozen BK624.out 0; have hfz26_1 := blk_frozen BK624.out 1) | ((with_reducible refine gate_callee (f := 66) rfl ?_); refine goesL_ (some 9) rfl rfl Try.func66 (by kernel_rfl) rfl #[.agg #[.slice A0_0 l0_0.length c0_0, .slice A0_1 l0_1.length c0_1]] rfl (by (try simp only [List.map_toArray, List.map_cons, List.map_nil]); first | done | rfl | (simp only [List.length_drop, List.length_take]; rfl)) ?_; (with_reducible refine (spec_l01Is.calls k _ _ l0_0 _ _ l0_1 false _ ?side1 ?side2 ?side3 ?side4 A4.out).mono ?_); (case side1 => exact cb_ HR0_0.out HB.out); (case side2 => exact HC0_0.out); (case side3 => exact cb_ HR0_1.out HB.out); (case side4 => exact HC0_1.out); rintro e w27 ⟨rfl, hb⟩; refine ⟨_, rfl, ?_⟩; have n0_ := Aside0.mk (bb_ BK624.out hb); have n1_ := Aside0.mk (bs_ hb); clear BK624; clear HB; have BK624 := n0_; have HB := n1_; clear n0_ n1_; (try clear hb); (try clear hb2); (try clear hk); (try clear hi)))
  go_ret
  exact ⟨by first | rfl | (simp [errW_none, errW_some] <;> rfl) | (simp [*, errW_none, errW_some] <;> rfl), hb_⟩
def spec_l08Less.f (a0_0 : Int) (a0_1 : Int) : Option (Bool) := some (decide (a0_0 < 0))
theorem spec_l08Less.calls (a0_0 : Int) (a0_1 : Int) (r : Bool) (w : World) (h : spec_l08Less.f a0_0 a0_1 = some r) :
  Calls Try.prog 146 #[.agg #[.int .i64 a0_0, .int .i64 a0_1]] w fun e w' => e = .returned (.bool r) ∧ Below w.heap.size w w' := by
 have hu65 := Try.underlying65
 have HB := Aside0.mk (Below.refl w.heap.size w)
 have H : (some (decide (a0_0 < 0))) = some r := h
 clear h
 obtain rfl := Option.some.inj H
 go_enter Try.func146, Try.ntmps146
 go_wp2_with (first | ((with_reducible refine gate_dst (N := 1) rfl ?_); refine box_event ?hg (N := 1) ?hd (cs := #[.int .i64 a0_0, .int .i64 a0_1]) (t := 65) ?hr ?_; (case hd => rfl); (case hg => rfl); (case hr => first | (go_simp; done) | (go_simp; rfl)); intro gb628 hg w2 hbox hb; have n0_ := Aside0.mk (bs_ hb); have n1_ := Aside0.mk (hbox); have n2_ := Aside0.mk ((by rw [hg]; exact bz_ : w.heap.size ≤ gb628)); have n3_ := Aside0.mk ((by rw [hg]; exact bz_ : w.heap.size ≤ gb628)); clear HB; have HB := n0_; have BK628 := n1_; have GW628 := n2_; have GE628 := n3_; clear n0_ n1_ n2_ n3_; clear hb hbox hg; have hcz3_0 : w2.cell? ⟨gb628, 0, none⟩ = some (.int .i64 a0_0) := (blk_cell BK628.out 0).trans rfl; have hcz3_1 : w2.cell? ⟨gb628, 1, none⟩ = some (.int .i64 a0_1) := (blk_cell BK628.out 1).trans rfl; have hfz3_0 := blk_frozen BK628.out 0; have hfz3_1 := blk_frozen BK628.out 1))
 go_ret
 exact ⟨by first | rfl | (simp [errW_none, errW_some] <;> rfl) | (simp [*, errW_none, errW_some] <;> rfl), hb_⟩
def spec_l01Less.f (a0_0 : Int) (a0_1 : Int) (a1_0 : Int) (a1_1 : Int) : Option (Bool) := some (decide ((wrap64 (a0_0 * a1_1)) < (wrap64 (a1_0 * a0_1))))
theorem spec_l01Less.calls (a0_0 : Int) (a0_1 : Int) (a1_0 : Int) (a1_1 : Int) (r : Bool) (w : World) (h : spec_l01Less.f a0_0 a0_1 a1_0 a1_1 = some r) :
  Calls Try.prog 147 #[.agg #[.int .i64 a0_0, .int .i64 a0_1], .agg #[.int .i64 a1_0, .int .i64 a1_1]] w fun e w' => e = .returned (.bool r) ∧ Below w.heap.size w w' := by
 have hu65 := Try.underlying65
 have HB := Aside0.mk (Below.refl w.heap.size w)
 have H : (some (decide ((wrap64 (a0_0 * a1_1)) < (wrap64 (a1_0 * a0_1))))) = some r := h
 clear h
 obtain rfl := Option.some.inj H
 go_enter Try.func147, Try.ntmps147
 go_wp2_with (first | ((with_reducible refine gate_dst (N := 2) rfl ?_); refine box_event ?hg (N := 2) ?hd (cs := #[.int .i64 a0_0, .int .i64 a0_1]) (t := 65) ?hr ?_; (case hd => rfl); (case hg => rfl); (case hr => first | (go_simp; done) | (go_simp; rfl)); intro gb629 hg w3 hbox hb; have n0_ := Aside0.mk (bs_ hb); have n1_ := Aside0.mk (hbox); have n2_ := Aside0.mk ((by rw [hg]; exact bz_ : w.heap.size ≤ gb629)); have n3_ := Aside0.mk ((by rw [hg]; exact bz_ : w.heap.size ≤ gb629)); clear HB; have HB := n0_; have BK629 := n1_; have GW629 := n2_; have GE629 := n3_; clear n0_ n1_ n2_ n3_; clear hb hbox hg) | ((with_reducible refine gate_dst (N := 3) rfl ?_); refine box_event ?hg (N := 3) ?hd (cs := #[.int .i64 a1_0, .int .i64 a1_1]) (t := 65) ?hr ?_; (case hd => rfl); (case hg => rfl); (case hr => first | (go_simp; done) | (go_simp; rfl)); intro gb630 hg w4 hbox hb; have n0_ := Aside0.mk (bb_ BK629.out hb); have n1_ := Aside0.mk (bs_ hb); have n2_ := Aside0.mk (hbox); have n3_ := Aside0.mk ((by rw [hg]; exact bz_ : w.heap.size ≤ gb630)); have n4_ := Aside0.mk ((by rw [hg]; exact bz_ : w.heap.size ≤ gb630)); have n5_ := Aside0.mk ((by rw [hg]; exact lt_ BK629.out : gb629 ≠ gb630)); have n6_ := Aside0.mk ((by rw [hg]; exact gt_ BK629.out : gb630 ≠ gb629)); clear BK629; clear HB; have BK629 := n0_; have HB := n1_; have BK630 := n2_; have GW630 := n3_; have GE630 := n4_; have NB629_630 := n5_; have NB630_629 := n6_; clear n0_ n1_ n2_ n3_ n4_ n5_ n6_; clear hb hbox hg; have hnb5 := NB629_630.out; have hnc5 := NB630_629.out; have hcz6_0 : w4.cell? ⟨gb629, 0, none⟩ = some (.int .i64 a0_0) := (blk_cell BK629.out 0).trans rfl; have hcz6_1 : w4.cell? ⟨gb629, 1, none⟩ = some (.int .i64 a0_1) := (blk_cell BK629.out 1).trans rfl; have hfz6_0 := blk_frozen BK629.out 0; have hfz6_1 := blk_frozen BK629.out 1; have hcz7_0 : w4.cell? ⟨gb630, 0, none⟩ = some (.int .i64 a1_0) := (blk_cell BK630.out 0).trans rfl; have hcz7_1 : w4.cell? ⟨gb630, 1, none⟩ = some (.int .i64 a1_1) := (blk_cell BK630.out 1).trans rfl; have hfz7_0 := blk_frozen BK630.out 0; have hfz7_1 := blk_frozen BK630.out 1))
 go_ret
 exact ⟨by first | rfl | (simp [errW_none, errW_some] <;> rfl) | (simp [*, errW_none, errW_some] <;> rfl), hb_⟩
def spec_l08Step.l0 : Nat → Int → Int → List (S65) → Int → Int → Int → Int → Int → Option (Int × Bool × Bool)
 | 0, _, _, _, _, _, _, _, _ => none
 | k + 1, x1, x2, x9, x11, x12, x13, x14, x15 => if x15 < (x9.length : Int) then (if 0 ≤ x15 then ((spec_l08Less.f ((rd_T65 x9 x15).f0) ((rd_T65 x9 x15).f1)).bind fun t637 => (if t637 = true then (if x11 < 0 then (if x13 < 0 then (if 0 ≤ (IntKind.u64.wrap (x15)) then (spec_l08Step.l0 k x1 x2 x9 x15 x15 x15 (Go.bits .or .i64 x14 (shl .i64 1 (IntKind.u64.wrap (x15)))) (wrap64 (x15 + 1))) else (none)) else (if 0 ≤ x13 then (if x13 < (x9.length : Int) then ((spec_l01Less.f ((rd_T65 x9 x15).f0) ((rd_T65 x9 x15).f1) ((rd_T65 x9 x13).f0) ((rd_T65 x9 x13).f1)).bind fun t640 => (if t640 = true then (if 0 ≤ (IntKind.u64.wrap (x15)) then (spec_l08Step.l0 k x1 x2 x9 x15 x15 x15 (Go.bits .or .i64 x14 (shl .i64 1 (IntKind.u64.wrap (x15)))) (wrap64 (x15 + 1))) else (none)) else (if 0 ≤ (IntKind.u64.wrap (x15)) then (spec_l08Step.l0 k x1 x2 x9 x15 x15 x13 (Go.bits .or .i64 x14 (shl .i64 1 (IntKind.u64.wrap (x15)))) (wrap64 (x15 + 1))) else (none)))) else (none)) else (none))) else (if x13 < 0 then (if 0 ≤ (IntKind.u64.wrap (x15)) then (spec_l08Step.l0 k x1 x2 x9 x11 x15 x15 (Go.bits .or .i64 x14 (shl .i64 1 (IntKind.u64.wrap (x15)))) (wrap64 (x15 + 1))) else (none)) else (if 0 ≤ x13 then (if x13 < (x9.length : Int) then ((spec_l01Less.f ((rd_T65 x9 x15).f0) ((rd_T65 x9 x15).f1) ((rd_T65 x9 x13).f0) ((rd_T65 x9 x13).f1)).bind fun t643 => (if t643 = true then (if 0 ≤ (IntKind.u64.wrap (x15)) then (spec_l08Step.l0 k x1 x2 x9 x11 x15 x15 (Go.bits .or .i64 x14 (shl .i64 1 (IntKind.u64.wrap (x15)))) (wrap64 (x15 + 1))) else (none)) else (if 0 ≤ (IntKind.u64.wrap (x15)) then (spec_l08Step.l0 k x1 x2 x9 x11 x15 x13 (Go.bits .or .i64 x14 (shl .i64 1 (IntKind.u64.wrap (x15)))) (wrap64 (x15 + 1))) else (none)))) else (none)) else (none)))) else (spec_l08Step.l0 k x1 x2 x9 x11 x12 x13 x14 (wrap64 (x15 + 1))))) else (none)) else (if x11 < 0 then (some (x1, false, true)) else (if x2 = 0 then (if 0 ≤ (IntKind.u64.wrap (x11)) then (some (Go.bits .xor .i64 x1 (shl .i64 1 (IntKind.u64.wrap (x11))), true, true)) else (none)) else (if x2 = 1 then (if 0 ≤ (IntKind.u64.wrap (x12)) then (some (Go.bits .xor .i64 x1 (shl .i64 1 (IntKind.u64.wrap (x12))), true, true)) else (none)) else (if x2 = 2 then (if 0 ≤ (IntKind.u64.wrap (x13)) then (some (Go.bits .xor .i64 x1 (shl .i64 1 (IntKind.u64.wrap (x13))), true, true)) else (none)) else (some (Go.bits .xor .i64 x1 x14, true, true))))))
def spec_l08Step.f (k : Nat) (l0_0 : List (List Int)) (l0_1 : List Int) (a1 : Int) (a2 : Int) : Option (Int × Bool × Bool) := (spec_l01Point.f k l0_0 l0_1 a1).bind fun bt632 => (if bt632.2 = true then (spec_l08Step.l0 k a1 a2 bt632.1 (-1) (-1) (-1) 0 0) else (some (a1, false, false)))
theorem spec_l08Step.mono_l : ∀ k, (∀ y0 y1 y2 y3 y4 y5 y6 y7, LeO (spec_l08Step.l0 k y0 y1 y2 y3 y4 y5 y6 y7) (spec_l08Step.l0 (k + 1) y0 y1 y2 y3 y4 y5 y6 y7))
 | 0 => fun _ _ _ _ _ _ _ _ r h => by simp [spec_l08Step.l0] at h
 | k + 1 => by
  have ih0 := spec_l08Step.mono_l k
  ·intro y0 y1 y2 y3 y4 y5 y6 y7
   unfold spec_l08Step.l0
   repeat' first
   | (with_reducible exact ih0 _ _ _ _ _ _ _ _)
   | (with_reducible exact spec_l01Point.mono _ _ _ _)
   | (with_reducible exact LeO.refl _)
   | (with_reducible exact LeO.none _)
   | (with_reducible refine LeO.ite ?_ ?_)
   | (with_reducible refine LeO.bind ?_ (fun _ => ?_))
   | exact ih0 _ _ _ _ _ _ _ _
   | exact spec_l01Point.mono _ _ _ _
   | exact LeO.none _
   | refine LeO.ite ?_ ?_
   | refine LeO.bind ?_ (fun _ => ?_)
theorem spec_l08Step.mono : ∀ a0 a1 a2 a3 k, LeO (spec_l08Step.f k a0 a1 a2 a3) (spec_l08Step.f (k + 1) a0 a1 a2 a3) := by
 intro a0 a1 a2 a3 k
 have ih0 := spec_l08Step.mono_l k
 unfold spec_l08Step.f
 repeat' first
   | (with_reducible exact ih0 _ _ _ _ _ _ _ _)
   | (with_reducible exact spec_l01Point.mono _ _ _ _)
   | (with_reducible exact LeO.refl _)
   | (with_reducible exact LeO.none _)
   | (with_reducible refine LeO.ite ?_ ?_)
   | (with_reducible refine LeO.bind ?_ (fun _ => ?_))
   | exact ih0 _ _ _ _ _ _ _ _
   | exact spec_l01Point.mono _ _ _ _
   | exact LeO.none _
   | refine LeO.ite ?_ ?_
   | refine LeO.bind ?_ (fun _ => ?_)
def spec_l08Step.T12 : Bool × List (List Nat × List Nat) := (true, [([], []), ([0], [0]), ([1], [1]), ([2], [2]), ([2], [2]), ([3, 4, 2], [2, 3, 4]), ([5, 2], [2, 5]), ([2], [2]), ([2], [2]), ([7, 8, 2], [2, 7, 8]), ([9, 2], [2, 9]), ([6, 10, 2, 2], [2, 6, 10]), ([2, 11], [2, 11])])
def spec_l08Step.B12 : List Nat := [0, 1, 3, 7, 7, 31, 63, 7, 7, 391, 903, 2047, 4095]
theorem spec_l08Step.tab12 : rtab .any (opsOf Try.f111 12) = spec_l08Step.T12 := by kernel_rfl
theorem spec_l08Step.bits12 : waitsOk spec_l08Step.T12.2 spec_l08Step.B12 = true := by kernel_rfl
theorem spec_l08Step.calls (k : Nat) (A0_0 : Option Addr) (c0_0 : Nat) (l0_0 : List (List Int)) (A0_1 : Option Addr) (c0_1 : Nat) (l0_1 : List Int) (a1 : Int) (a2 : Int) (r1 : Int) (r2 : Bool) (r3 : Bool) (w : World) (hr0_0 : Kd.C (Kd.slice 2 (Kd.int .i64)) w A0_0 l0_0.length l0_0) (hc0_0 : l0_0.length ≤ c0_0) (hr0_1 : Kd.C (Kd.int .i64) w A0_1 l0_1.length l0_1) (hc0_1 : l0_1.length ≤ c0_1) (h : spec_l08Step.f k l0_0 l0_1 a1 a2 = some (r1, r2, r3)) :
  Calls Try.prog 111 #[.agg #[.slice A0_0 l0_0.length c0_0, .slice A0_1 l0_1.length c0_1], .int .i64 a1, .int .i64 a2] w fun e w' => e = .returned (.tuple #[.int .i64 r1, .bool r2, .bool r3]) ∧ Below w.heap.size w w' := by
 have hu29 := Try.underlying29
 have hu65 := Try.underlying65
 have HR0_0 := Aside0.mk hr0_0
 have HC0_0 := Aside0.mk hc0_0
 clear hr0_0 hc0_0
 have HR0_1 := Aside0.mk hr0_1
 have HC0_1 := Aside0.mk hc0_1
 clear hr0_1 hc0_1
 have HB := Aside0.mk (Below.refl w.heap.size w)
 have H : ((spec_l01Point.f k l0_0 l0_1 a1).bind fun bt632 => (if bt632.2 = true then (spec_l08Step.l0 k a1 a2 bt632.1 (-1) (-1) (-1) 0 0) else (some (a1, false, false)))) = some (r1, r2, r3) := h
 clear h
 replace H := Option.bind_eq_some_iff.mp H
 obtain ⟨⟨t632, t635⟩, A40, H⟩ := H
 replace H : (if t635 = true then (spec_l08Step.l0 k a1 a2 t632 (-1) (-1) (-1) 0 0) else (some (a1, false, false))) = some (r1, r2, r3) := H
 have A4 := Aside0.mk A40
 clear A40
 by_cases c5 : t635 = true
 ·subst c5
  have H1 : (spec_l08Step.l0 k a1 a2 t632 (-1) (-1) (-1) 0 0) = some (r1, r2, r3) := by rw [if_pos rfl] at H; exact H
  clear H
  have H := H1
  clear H1
  have H' := Aside0.mk H
  clear H
  go_enter Try.func111, Try.ntmps111
  go_wp2_with (first | ((with_reducible refine gate_dst (N := 3) rfl ?_); refine box_event ?hg (N := 3) ?hd (cs := #[.slice A0_0 l0_0.length c0_0, .slice A0_1 l0_1.length c0_1]) (t := 29) ?hr ?_; (case hd => rfl); (case hg => rfl); (case hr => first | (go_simp; done) | (go_simp; rfl)); intro gb631 hg w6 hbox hb; have n0_ := Aside0.mk (bs_ hb); have n1_ := Aside0.mk (hbox); have n2_ := Aside0.mk ((by rw [hg]; exact bz_ : w.heap.size ≤ gb631)); have n3_ := Aside0.mk ((by rw [hg]; exact bz_ : w.heap.size ≤ gb631)); clear HB; have HB := n0_; have BK631 := n1_; have GW631 := n2_; have GE631 := n3_; clear n0_ n1_ n2_ n3_; clear hb hbox hg; have hcz7_0 : w6.cell? ⟨gb631, 0, none⟩ = some (.slice A0_0 l0_0.length c0_0) := (blk_cell BK631.out 0).trans rfl; have hcz7_1 : w6.cell? ⟨gb631, 1, none⟩ = some (.slice A0_1 l0_1.length c0_1) := (blk_cell BK631.out 1).trans rfl; have hfz7_0 := blk_frozen BK631.out 0; have hfz7_1 := blk_frozen BK631.out 1) | ((with_reducible refine gate_callee (f := 67) rfl ?_); refine goesL_ (some 19) rfl rfl Try.func67 (by kernel_rfl) rfl #[.agg #[.slice A0_0 l0_0.length c0_0, .slice A0_1 l0_1.length c0_1], .int .i64 a1] rfl (by (try simp only [List.map_toArray, List.map_cons, List.map_nil]); first | done | rfl | (simp only [List.length_drop, List.length_take]; rfl)) ?_; (with_reducible refine (spec_l01Point.calls k _ _ l0_0 _ _ l0_1 a1 t632 true _ ?side1 ?side2 ?side3 ?side4 A4.out).mono ?_); (case side1 => exact cb_ HR0_0.out HB.out); (case side2 => exact HC0_0.out); (case side3 => exact cb_ HR0_1.out HB.out); (case side4 => exact HC0_1.out); rintro e w8 ⟨v633, rfl, ho0, hb⟩; refine ⟨_, rfl, ?_⟩; have n0_ := Aside0.mk (Kd.R_lower ho0 bz_); have n1_ := Aside0.mk (bb_ BK631.out hb); have n2_ := Aside0.mk (bs_ hb); clear BK631; clear HB; have HO634 := n0_; have BK631 := n1_; have HB := n2_; clear n0_ n1_ n2_; (try clear hb); (try clear hb2); (try clear hk); (try clear hi); (try clear ho0)))
  go_loopg [11, 12, 13, 14, 15] k (fun kq v11 v12 v13 v14 v15 w' => ∃ (x11_1 : Int) (x12_1 : Int) (x13_1 : Int) (x14_1 : Int) (x15_1 : Int), v11 = .int .i64 x11_1 ∧ v12 = .int .i64 x12_1 ∧ v13 = .int .i64 x13_1 ∧ v14 = .int .i64 x14_1 ∧ v15 = .int .i64 x15_1 ∧ Aside0 (spec_l08Step.l0 kq a1 a2 t632 x11_1 x12_1 x13_1 x14_1 x15_1 = some (r1, r2, r3)) ∧ Aside0 (kq ≤ k) ∧ Aside0 (Kd.R k65 65 w' w.heap.size (fun _ => True) v633 t632) ∧ Aside0 (w'.heap[gb631]? = some (.cells #[(.slice A0_0 l0_0.length c0_0), (.slice A0_1 l0_1.length c0_1)] 29 (0, 0))) ∧ Aside0 (Below w.heap.size w w'))
  case atStart => exact ⟨((-1)), ((-1)), ((-1)), (0), (0), (by first | rfl | (simp; done) | (simp [*]; done)), (by first | rfl | (simp; done) | (simp [*]; done)), (by first | rfl | (simp; done) | (simp [*]; done)), (by first | rfl | (simp; done) | (simp [*]; done)), (by first | rfl | (simp; done) | (simp [*]; done)), H', ⟨Nat.le_refl _⟩, ⟨ro_ HO634.out⟩, ⟨bk_⟩, ⟨hb_⟩⟩
  case round =>
   clear H'
   try clear c1
   try clear p2
   try clear c5
   try clear c6
   try clear hcz7_0
   try clear hcz7_1
   try clear hfz7_0
   try clear hfz7_1
   obtain ⟨x11_1, x12_1, x13_1, x14_1, x15_1, rfl, rfl, rfl, rfl, rfl, HA, HK1, HO_9, BK631, HB⟩ := hrel
   cases gk with
   | zero => exact absurd HA.out (by simp [spec_l08Step.l0])
   | succ k1 =>
    have H := HA.out
    clear HA
    simp only [spec_l08Step.l0] at H
    by_cases c9 : x15_1 < (t632.length : Int)
    ·rw [if_pos c9] at H
     have c9b0 : decide (x15_1 < (t632.length : Int)) = true := decide_eq_true c9
     clear c9
     by_cases c10 : 0 ≤ x15_1
     ·rw [if_pos c10] at H
      have c10b0 : decide (0 ≤ x15_1) = true := decide_eq_true c10
      clear c10
      replace H := Option.bind_eq_some_iff.mp H
      obtain ⟨t637, A110, H⟩ := H
      replace H : (if t637 = true then (if x11_1 < 0 then (if x13_1 < 0 then (if 0 ≤ (IntKind.u64.wrap (x15_1)) then (spec_l08Step.l0 k1 a1 a2 t632 x15_1 x15_1 x15_1 (Go.bits .or .i64 x14_1 (shl .i64 1 (IntKind.u64.wrap (x15_1)))) (wrap64 (x15_1 + 1))) else (none)) else (if 0 ≤ x13_1 then (if x13_1 < (t632.length : Int) then ((spec_l01Less.f ((rd_T65 t632 x15_1).f0) ((rd_T65 t632 x15_1).f1) ((rd_T65 t632 x13_1).f0) ((rd_T65 t632 x13_1).f1)).bind fun t640 => (if t640 = true then (if 0 ≤ (IntKind.u64.wrap (x15_1)) then (spec_l08Step.l0 k1 a1 a2 t632 x15_1 x15_1 x15_1 (Go.bits .or .i64 x14_1 (shl .i64 1 (IntKind.u64.wrap (x15_1)))) (wrap64 (x15_1 + 1))) else (none)) else (if 0 ≤ (IntKind.u64.wrap (x15_1)) then (spec_l08Step.l0 k1 a1 a2 t632 x15_1 x15_1 x13_1 (Go.bits .or .i64 x14_1 (shl .i64 1 (IntKind.u64.wrap (x15_1)))) (wrap64 (x15_1 + 1))) else (none)))) else (none)) else (none))) else (if x13_1 < 0 then (if 0 ≤ (IntKind.u64.wrap (x15_1)) then (spec_l08Step.l0 k1 a1 a2 t632 x11_1 x15_1 x15_1 (Go.bits .or .i64 x14_1 (shl .i64 1 (IntKind.u64.wrap (x15_1)))) (wrap64 (x15_1 + 1))) else (none)) else (if 0 ≤ x13_1 then (if x13_1 < (t632.length : Int) then ((spec_l01Less.f ((rd_T65 t632 x15_1).f0) ((rd_T65 t632 x15_1).f1) ((rd_T65 t632 x13_1).f0) ((rd_T65 t632 x13_1).f1)).bind fun t643 => (if t643 = true then (if 0 ≤ (IntKind.u64.wrap (x15_1)) then (spec_l08Step.l0 k1 a1 a2 t632 x11_1 x15_1 x15_1 (Go.bits .or .i64 x14_1 (shl .i64 1 (IntKind.u64.wrap (x15_1)))) (wrap64 (x15_1 + 1))) else (none)) else (if 0 ≤ (IntKind.u64.wrap (x15_1)) then (spec_l08Step.l0 k1 a1 a2 t632 x11_1 x15_1 x13_1 (Go.bits .or .i64 x14_1 (shl .i64 1 (IntKind.u64.wrap (x15_1)))) (wrap64 (x15_1 + 1))) else (none)))) else (none)) else (none)))) else (spec_l08Step.l0 k1 a1 a2 t632 x11_1 x12_1 x13_1 x14_1 (wrap64 (x15_1 + 1)))) = some (r1, r2, r3) := H
      have A11 := Aside0.mk A110
      clear A110
      by_cases c12 : t637 = true
      ·subst c12
       have H1 : (if x11_1 < 0 then (if x13_1 < 0 then (if 0 ≤ (IntKind.u64.wrap (x15_1)) then (spec_l08Step.l0 k1 a1 a2 t632 x15_1 x15_1 x15_1 (Go.bits .or .i64 x14_1 (shl .i64 1 (IntKind.u64.wrap (x15_1)))) (wrap64 (x15_1 + 1))) else (none)) else (if 0 ≤ x13_1 then (if x13_1 < (t632.length : Int) then ((spec_l01Less.f ((rd_T65 t632 x15_1).f0) ((rd_T65 t632 x15_1).f1) ((rd_T65 t632 x13_1).f0) ((rd_T65 t632 x13_1).f1)).bind fun t640 => (if t640 = true then (if 0 ≤ (IntKind.u64.wrap (x15_1)) then (spec_l08Step.l0 k1 a1 a2 t632 x15_1 x15_1 x15_1 (Go.bits .or .i64 x14_1 (shl .i64 1 (IntKind.u64.wrap (x15_1)))) (wrap64 (x15_1 + 1))) else (none)) else (if 0 ≤ (IntKind.u64.wrap (x15_1)) then (spec_l08Step.l0 k1 a1 a2 t632 x15_1 x15_1 x13_1 (Go.bits .or .i64 x14_1 (shl .i64 1 (IntKind.u64.wrap (x15_1)))) (wrap64 (x15_1 + 1))) else (none)))) else (none)) else (none))) else (if x13_1 < 0 then (if 0 ≤ (IntKind.u64.wrap (x15_1)) then (spec_l08Step.l0 k1 a1 a2 t632 x11_1 x15_1 x15_1 (Go.bits .or .i64 x14_1 (shl .i64 1 (IntKind.u64.wrap (x15_1)))) (wrap64 (x15_1 + 1))) else (none)) else (if 0 ≤ x13_1 then (if x13_1 < (t632.length : Int) then ((spec_l01Less.f ((rd_T65 t632 x15_1).f0) ((rd_T65 t632 x15_1).f1) ((rd_T65 t632 x13_1).f0) ((rd_T65 t632 x13_1).f1)).bind fun t643 => (if t643 = true then (if 0 ≤ (IntKind.u64.wrap (x15_1)) then (spec_l08Step.l0 k1 a1 a2 t632 x11_1 x15_1 x15_1 (Go.bits .or .i64 x14_1 (shl .i64 1 (IntKind.u64.wrap (x15_1)))) (wrap64 (x15_1 + 1))) else (none)) else (if 0 ≤ (IntKind.u64.wrap (x15_1)) then (spec_l08Step.l0 k1 a1 a2 t632 x11_1 x15_1 x13_1 (Go.bits .or .i64 x14_1 (shl .i64 1 (IntKind.u64.wrap (x15_1)))) (wrap64 (x15_1 + 1))) else (none)))) else (none)) else (none)))) = some (r1, r2, r3) := by rw [if_pos rfl] at H; exact H
       clear H
       have H := H1
       clear H1
       by_cases c13 : x11_1 < 0
       ·rw [if_pos c13] at H
        have c13b0 : decide (x11_1 < 0) = true := decide_eq_true c13
        clear c13
        by_cases c14 : x13_1 < 0
        ·rw [if_pos c14] at H
         have c14b0 : decide (x13_1 < 0) = true := decide_eq_true c14
         clear c14
         obtain ⟨ji15, hji15⟩ : ∃ j_ : Int, (IntKind.u64.wrap (x15_1)) = j_ := ⟨_, rfl⟩
         replace H : (if 0 ≤ (ji15) then (spec_l08Step.l0 k1 a1 a2 t632 x15_1 x15_1 x15_1 (Go.bits .or .i64 x14_1 (shl .i64 1 (ji15))) (wrap64 (x15_1 + 1))) else (none)) = some (r1, r2, r3) := by first | (rw [hji15] at H; exact H) | (simp only [hji15] at H ⊢; exact H)
         (try rw [hji15] at A11)
         by_cases c16 : 0 ≤ (ji15)
         ·rw [if_pos c16] at H
          have c16b0 := eq_true c16
          have c16b1 : decide (0 ≤ (ji15)) = true := decide_eq_true c16
          clear c16
          obtain ⟨ji17, hji17⟩ : ∃ j_ : Int, (shl .i64 1 (ji15)) = j_ := ⟨_, rfl⟩
          replace H : (spec_l08Step.l0 k1 a1 a2 t632 x15_1 x15_1 x15_1 (Go.bits .or .i64 x14_1 (ji17)) (wrap64 (x15_1 + 1))) = some (r1, r2, r3) := by first | (rw [hji17] at H; exact H) | (simp only [hji17] at H ⊢; exact H)
          (try rw [hji17] at A11)
          have hji17_ : (IntKind.i64.wrap (1 * 2 ^ min (ji15).toNat 64)) = ji17 := hji17
          have hji17z : (ji15) ≤ 64 → (IntKind.i64.wrap (1 * 2 ^ (ji15).toNat)) = ji17 := shl_small hji17
          have hji17u : (IntKind.i64.wrap (2 ^ min (ji15).toNat 64)) = ji17 := by have h_ := hji17_; rw [Int.one_mul] at h_; exact h_
          have hji17v : (ji15) ≤ 64 → (IntKind.i64.wrap (2 ^ (ji15).toNat)) = ji17 := fun hle_ => by have h_ := hji17z hle_; rw [Int.one_mul] at h_; exact h_
          have hji17y : (wrap64 (1 * 2 ^ min (ji15).toNat 64)) = ji17 := (i64_w _).symm.trans hji17_
          have hji17x : (ji15) ≤ 64 → (wrap64 (1 * 2 ^ (ji15).toNat)) = ji17 := fun h_ => (i64_w _).symm.trans (hji17z h_)
          have H' := Aside0.mk H
          clear H
          obtain ⟨Ao18, co18, eo18⟩ := Kd.R_slice HO_9.out
          subst eo18
          have p636 : 0 ≤ (x15_1 : Int) := of_decide_eq_true (by first | (with_reducible assumption) | assumption)
          have q636 : x15_1 < (t632.length : Int) := of_decide_eq_true (by first | (with_reducible assumption) | assumption)
          obtain ⟨ad636, e636, hx636_0, hx636_1⟩ := at_T65 (Kd.R_reads' HO_9.out).2.2 x15_1 p636 q636
          cases e636
          replace p636 := eq_true p636
          replace q636 := eq_true q636
          try go_wp2_with (first | ((with_reducible refine gate_callee (f := 146) rfl ?_); refine goesL_ (some 35) rfl rfl Try.func146 (by kernel_rfl) rfl #[.agg #[.int .i64 ((rd_T65 t632 x15_1).f0), .int .i64 ((rd_T65 t632 x15_1).f1)]] rfl (by (try simp only [List.map_toArray, List.map_cons, List.map_nil]); first | done | rfl | (simp only [List.length_drop, List.length_take]; rfl)) ?_; (with_reducible refine (spec_l08Less.calls ((rd_T65 t632 x15_1).f0) ((rd_T65 t632 x15_1).f1) true _ A11.out).mono ?_); rintro e w19 ⟨rfl, hb⟩; refine ⟨_, rfl, ?_⟩; have n0_ := Aside0.mk (rb_ HO_9.out hb); have n1_ := Aside0.mk (bb_ BK631.out hb); have n2_ := Aside0.mk (bs_ hb); clear HO_9; clear BK631; clear HB; have HO_9 := n0_; have BK631 := n1_; have HB := n2_; clear n0_ n1_ n2_; (try clear hb); (try clear hb2); (try clear hk); (try clear hi)))
          have n0_ := Aside0.mk (Kd.R_drew HO_9.out)
          have n1_ := Aside0.mk (blk_drew BK631.out)
          have n2_ := Aside0.mk (below_drew1 HB.out)
          clear HO_9
          clear BK631
          clear HB
          have HO_9 := n0_
          have BK631 := n1_
          have HB := n2_
          clear n0_ n1_ n2_
          refine st_ (n := 13) (S := fun w' => True) (ds := []) trivial (fun hHeld => ?_); refine with_tabW spec_l08Step.tab12 spec_l08Step.bits12 (fun HT_ HW_ => ?_)
          generalize w19.drew = w20 at HO_9 BK631 HB hHeld ⊢
          refine pu_ 0 41 ?_; refine pu_ 1 42 ?_; refine pu_ 2 43 ?_; refine pn_ 3 44 ?_; refine pn_ 4 45 ?_; refine pn_ 5 46 ?_; refine pn_ 6 47 ?_; refine pn_ 7 48 ?_; refine pn_ 8 49 ?_; refine pn_ 9 50 ?_; refine pn_ 10 51 ?_; refine pn_ 11 52 ?_; refine pu_ 12 53 ?_
          refine done_ (done_of HT_.out (by kernel_rfl)) ?_
          try go_wp2
          go_roundg k1
          case measure => have := HK1.out; omega
          case rel => exact ⟨(x15_1), (x15_1), (x15_1), (Go.bits .or .i64 x14_1 (ji17)), (wrap64 (x15_1 + 1)), (by first | rfl | (simp; done) | (simp [*]; done)), (by first | rfl | (simp; done) | (simp [*]; done)), (by first | rfl | (simp; done) | (simp [*]; done)), (by first | rfl | (simp; done) | (simp only [← hji17] <;> (first | rfl | simp)) | (simp [*]; done)), (by first | rfl | (simp; done) | (simp [*]; done)), H', ⟨by have := HK1.out; omega⟩, ⟨ro_ HO_9.out⟩, ⟨bk_⟩, ⟨hb_⟩⟩
         ·rw [if_neg c16] at H
          exact absurd H (by simp)
        ·rw [if_neg c14] at H
         have c14b0 : decide (x13_1 < 0) = false := decide_eq_false c14
         clear c14
         by_cases c21 : 0 ≤ x13_1
         ·rw [if_pos c21] at H
          have c21b0 : decide (0 ≤ x13_1) = true := decide_eq_true c21
          clear c21
          by_cases c22 : x13_1 < (t632.length : Int)
          ·rw [if_pos c22] at H
           have c22b0 : decide (x13_1 < (t632.length : Int)) = true := decide_eq_true c22
           clear c22
           replace H := Option.bind_eq_some_iff.mp H
           obtain ⟨t640, A230, H⟩ := H
           replace H : (if t640 = true then (if 0 ≤ (IntKind.u64.wrap (x15_1)) then (spec_l08Step.l0 k1 a1 a2 t632 x15_1 x15_1 x15_1 (Go.bits .or .i64 x14_1 (shl .i64 1 (IntKind.u64.wrap (x15_1)))) (wrap64 (x15_1 + 1))) else (none)) else (if 0 ≤ (IntKind.u64.wrap (x15_1)) then (spec_l08Step.l0 k1 a1 a2 t632 x15_1 x15_1 x13_1 (Go.bits .or .i64 x14_1 (shl .i64 1 (IntKind.u64.wrap (x15_1)))) (wrap64 (x15_1 + 1))) else (none))) = some (r1, r2, r3) := H
           have A23 := Aside0.mk A230
           clear A230
           by_cases c24 : t640 = true
           ·subst c24
            have H1 : (if 0 ≤ (IntKind.u64.wrap (x15_1)) then (spec_l08Step.l0 k1 a1 a2 t632 x15_1 x15_1 x15_1 (Go.bits .or .i64 x14_1 (shl .i64 1 (IntKind.u64.wrap (x15_1)))) (wrap64 (x15_1 + 1))) else (none)) = some (r1, r2, r3) := by rw [if_pos rfl] at H; exact H
            clear H
            have H := H1
            clear H1
            try clear hji15
            try clear hji15_
            try clear hji15z
            try clear hji15u
            try clear hji15v
            try clear hji15y
            try clear hji15x
            try clear hji15w
            obtain ⟨ji25, hji25⟩ : ∃ j_ : Int, (IntKind.u64.wrap (x15_1)) = j_ := ⟨_, rfl⟩
            replace H : (if 0 ≤ (ji25) then (spec_l08Step.l0 k1 a1 a2 t632 x15_1 x15_1 x15_1 (Go.bits .or .i64 x14_1 (shl .i64 1 (ji25))) (wrap64 (x15_1 + 1))) else (none)) = some (r1, r2, r3) := by first | (rw [hji25] at H; exact H) | (simp only [hji25] at H ⊢; exact H)
            (try rw [hji25] at A11)
            (try rw [hji25] at A23)
            by_cases c26 : 0 ≤ (ji25)
            ·rw [if_pos c26] at H
             have c26b0 := eq_true c26
             have c26b1 : decide (0 ≤ (ji25)) = true := decide_eq_true c26
             clear c26
             obtain ⟨ji27, hji27⟩ : ∃ j_ : Int, (shl .i64 1 (ji25)) = j_ := ⟨_, rfl⟩
             replace H : (spec_l08Step.l0 k1 a1 a2 t632 x15_1 x15_1 x15_1 (Go.bits .or .i64 x14_1 (ji27)) (wrap64 (x15_1 + 1))) = some (r1, r2, r3) := by first | (rw [hji27] at H; exact H) | (simp only [hji27] at H ⊢; exact H)
             (try rw [hji27] at A11)
             (try rw [hji27] at A23)
             have hji27_ : (IntKind.i64.wrap (1 * 2 ^ min (ji25).toNat 64)) = ji27 := hji27
             have hji27z : (ji25) ≤ 64 → (IntKind.i64.wrap (1 * 2 ^ (ji25).toNat)) = ji27 := shl_small hji27
             have hji27u : (IntKind.i64.wrap (2 ^ min (ji25).toNat 64)) = ji27 := by have h_ := hji27_; rw [Int.one_mul] at h_; exact h_
             have hji27v : (ji25) ≤ 64 → (IntKind.i64.wrap (2 ^ (ji25).toNat)) = ji27 := fun hle_ => by have h_ := hji27z hle_; rw [Int.one_mul] at h_; exact h_
             have hji27y : (wrap64 (1 * 2 ^ min (ji25).toNat 64)) = ji27 := (i64_w _).symm.trans hji27_
             have hji27x : (ji25) ≤ 64 → (wrap64 (1 * 2 ^ (ji25).toNat)) = ji27 := fun h_ => (i64_w _).symm.trans (hji27z h_)
             have H' := Aside0.mk H
             clear H
             obtain ⟨Ao28, co28, eo28⟩ := Kd.R_slice HO_9.out
             subst eo28
             have p636 : 0 ≤ (x15_1 : Int) := of_decide_eq_true (by first | (with_reducible assumption) | assumption)
             have q636 : x15_1 < (t632.length : Int) := of_decide_eq_true (by first | (with_reducible assumption) | assumption)
             obtain ⟨ad636, e636, hx636_0, hx636_1⟩ := at_T65 (Kd.R_reads' HO_9.out).2.2 x15_1 p636 q636
             cases e636
             replace p636 := eq_true p636
             replace q636 := eq_true q636
             try go_wp2_with (first | ((with_reducible refine gate_callee (f := 146) rfl ?_); refine goesL_ (some 35) rfl rfl Try.func146 (by kernel_rfl) rfl #[.agg #[.int .i64 ((rd_T65 t632 x15_1).f0), .int .i64 ((rd_T65 t632 x15_1).f1)]] rfl (by (try simp only [List.map_toArray, List.map_cons, List.map_nil]); first | done | rfl | (simp only [List.length_drop, List.length_take]; rfl)) ?_; (with_reducible refine (spec_l08Less.calls ((rd_T65 t632 x15_1).f0) ((rd_T65 t632 x15_1).f1) true _ A11.out).mono ?_); rintro e w29 ⟨rfl, hb⟩; refine ⟨_, rfl, ?_⟩; have n0_ := Aside0.mk (rb_ HO_9.out hb); have n1_ := Aside0.mk (bb_ BK631.out hb); have n2_ := Aside0.mk (bs_ hb); clear HO_9; clear BK631; clear HB; have HO_9 := n0_; have BK631 := n1_; have HB := n2_; clear n0_ n1_ n2_; (try clear hb); (try clear hb2); (try clear hk); (try clear hi)))
             have n0_ := Aside0.mk (Kd.R_drew HO_9.out)
             have n1_ := Aside0.mk (blk_drew BK631.out)
             have n2_ := Aside0.mk (below_drew1 HB.out)
             clear HO_9
             clear BK631
             clear HB
             have HO_9 := n0_
             have BK631 := n1_
             have HB := n2_
             clear n0_ n1_ n2_
             have p638 : 0 ≤ (x15_1 : Int) := of_decide_eq_true (by first | (with_reducible assumption) | assumption)
             have q638 : x15_1 < (t632.length : Int) := of_decide_eq_true (by first | (with_reducible assumption) | assumption)
             obtain ⟨ad638, e638, hx638_0, hx638_1⟩ := at_T65 (Kd.R_reads' HO_9.out).2.2 x15_1 p638 q638
             obtain rfl : ad636 = ad638 := (by injection e638)
             replace p638 := eq_true p638
             replace q638 := eq_true q638
             have p639 : 0 ≤ (x13_1 : Int) := of_decide_eq_true (by first | (with_reducible assumption) | assumption)
             have q639 : x13_1 < (t632.length : Int) := of_decide_eq_true (by first | (with_reducible assumption) | assumption)
             obtain ⟨ad639, e639, hx639_0, hx639_1⟩ := at_T65 (Kd.R_reads' HO_9.out).2.2 x13_1 p639 q639
             obtain rfl : ad636 = ad639 := (by injection e639)
             replace p639 := eq_true p639
             replace q639 := eq_true q639
             refine st_ (n := 13) (S := fun w' => w'.cell? (ad636.add ((x15_1).toNat * 2)) = some (.int .i64 ((rd_T65 t632 x15_1).f0)) ∧ w'.cell? ⟨(ad636.add ((x15_1).toNat * 2)).block, (ad636.add ((x15_1).toNat * 2)).off + 1, none⟩ = some (.int .i64 ((rd_T65 t632 x15_1).f1)) ∧ w'.cell? (ad636.add ((x13_1).toNat * 2)) = some (.int .i64 ((rd_T65 t632 x13_1).f0)) ∧ w'.cell? ⟨(ad636.add ((x13_1).toNat * 2)).block, (ad636.add ((x13_1).toNat * 2)).off + 1, none⟩ = some (.int .i64 ((rd_T65 t632 x13_1).f1))) (ds := []) ⟨hx638_0, hx638_1, hx639_0, hx639_1⟩ (fun hHeld => ?_); refine with_tabW spec_l08Step.tab12 spec_l08Step.bits12 (fun HT_ HW_ => ?_)
             generalize w29.drew = w30 at HO_9 BK631 HB hx638_0 hx638_1 hx639_0 hx639_1 hHeld ⊢
             refine pu_ 0 41 ?_; refine pu_ 1 42 ?_; refine pu_ 2 43 ?_; refine pu_ 3 44 ?_; refine pu_ 4 45 ?_; refine pu_ 5 46 ?_; refine pu_ 7 48 ?_; refine pu_ 8 49 ?_; refine pu_ 9 50 ?_; refine tk_ 6 47 ?_; refine tk_ 10 51 ?_
             refine on_ 11 (some 52) (fun K hK => ?_)
             refine goes_ Try.func147 (by kernel_rfl) rfl #[.agg #[.int .i64 ((rd_T65 t632 x15_1).f0), .int .i64 ((rd_T65 t632 x15_1).f1)], .agg #[.int .i64 ((rd_T65 t632 x13_1).f0), .int .i64 ((rd_T65 t632 x13_1).f1)]] (by rfl) rfl rfl (by (try simp only [List.map_toArray, List.map_cons, List.map_nil]); first | done | rfl | (simp only [List.length_drop, List.length_take]; rfl)) ?_
             with_reducible refine (spec_l01Less.calls ((rd_T65 t632 x15_1).f0) ((rd_T65 t632 x15_1).f1) ((rd_T65 t632 x13_1).f0) ((rd_T65 t632 x13_1).f1) true _ A23.out).mono ?_
             rintro e w31 ⟨rfl, hb⟩
             have HS0_ := (hb.cell (World.block_lt_of_cell? _ _ (hHeld.1))).trans (hHeld.1)
             have HS1_ := (hb.cell (World.block_lt_of_cell? _ _ (hHeld.2.1))).trans (hHeld.2.1)
             have HS2_ := (hb.cell (World.block_lt_of_cell? _ _ (hHeld.2.2.1))).trans (hHeld.2.2.1)
             have HS3_ := (hb.cell (World.block_lt_of_cell? _ _ (hHeld.2.2.2))).trans (hHeld.2.2.2)
             refine ⟨_, rfl, ?_⟩
             have n0_ := Aside0.mk (rb_ HO_9.out hb)
             have n1_ := Aside0.mk (bb_ BK631.out hb)
             have n2_ := Aside0.mk (bs_ hb)
             clear HO_9
             clear BK631
             clear HB
             have HO_9 := n0_
             have BK631 := n1_
             have HB := n2_
             clear n0_ n1_ n2_
             (try clear hb)
             (try clear hb2)
             (try clear hk)
             (try clear hi)
             refine hK.out _ _ ⟨HS0_, HS1_, HS2_, HS3_⟩ (fun hHeld => ?_)
             clear hK K
             refine norm_ (a' := ?_) ?_ ?_
             rotate_left
             ·show Act.put _ (some 52) _ = _
              simp only [Act.put, List.setIfInBounds_toArray, List.set_cons_zero, List.set_cons_succ, i64_w, i32_w]
              rfl
             refine pu_ 12 53 ?_
             refine done_ (done_of HT_.out (by kernel_rfl)) ?_
             try go_wp2
             go_roundg k1
             case measure => have := HK1.out; omega
             case rel => exact ⟨(x15_1), (x15_1), (x15_1), (Go.bits .or .i64 x14_1 (ji27)), (wrap64 (x15_1 + 1)), (by first | rfl | (simp; done) | (simp [*]; done)), (by first | rfl | (simp; done) | (simp [*]; done)), (by first | rfl | (simp; done) | (simp [*]; done)), (by first | rfl | (simp; done) | (simp only [← hji27] <;> (first | rfl | simp)) | (simp [*]; done)), (by first | rfl | (simp; done) | (simp [*]; done)), H', ⟨by have := HK1.out; omega⟩, ⟨ro_ HO_9.out⟩, ⟨bk_⟩, ⟨hb_⟩⟩
            ·rw [if_neg c26] at H
             exact absurd H (by simp)
           ·replace c24 := Bool.eq_false_iff.mpr c24
            subst c24
            have H1 : (if 0 ≤ (IntKind.u64.wrap (x15_1)) then (spec_l08Step.l0 k1 a1 a2 t632 x15_1 x15_1 x13_1 (Go.bits .or .i64 x14_1 (shl .i64 1 (IntKind.u64.wrap (x15_1)))) (wrap64 (x15_1 + 1))) else (none)) = some (r1, r2, r3) := by rw [if_neg (show ¬ (false = true) by decide)] at H; exact H
            clear H
            have H := H1
            clear H1
            try clear hji15
            try clear hji15_
            try clear hji15z
            try clear hji15u
            try clear hji15v
            try clear hji15y
            try clear hji15x
            try clear hji15w
            try clear hji25
            try clear hji25_
            try clear hji25z
            try clear hji25u
            try clear hji25v
            try clear hji25y
            try clear hji25x
            try clear hji25w
            obtain ⟨ji32, hji32⟩ : ∃ j_ : Int, (IntKind.u64.wrap (x15_1)) = j_ := ⟨_, rfl⟩
            replace H : (if 0 ≤ (ji32) then (spec_l08Step.l0 k1 a1 a2 t632 x15_1 x15_1 x13_1 (Go.bits .or .i64 x14_1 (shl .i64 1 (ji32))) (wrap64 (x15_1 + 1))) else (none)) = some (r1, r2, r3) := by first | (rw [hji32] at H; exact H) | (simp only [hji32] at H ⊢; exact H)
            (try rw [hji32] at A11)
            (try rw [hji32] at A23)
            by_cases c33 : 0 ≤ (ji32)
            ·rw [if_pos c33] at H
             have c33b0 := eq_true c33
             have c33b1 : decide (0 ≤ (ji32)) = true := decide_eq_true c33
             clear c33
             obtain ⟨ji34, hji34⟩ : ∃ j_ : Int, (shl .i64 1 (ji32)) = j_ := ⟨_, rfl⟩
             replace H : (spec_l08Step.l0 k1 a1 a2 t632 x15_1 x15_1 x13_1 (Go.bits .or .i64 x14_1 (ji34)) (wrap64 (x15_1 + 1))) = some (r1, r2, r3) := by first | (rw [hji34] at H; exact H) | (simp only [hji34] at H ⊢; exact H)
             (try rw [hji34] at A11)
             (try rw [hji34] at A23)
             have hji34_ : (IntKind.i64.wrap (1 * 2 ^ min (ji32).toNat 64)) = ji34 := hji34
             have hji34z : (ji32) ≤ 64 → (IntKind.i64.wrap (1 * 2 ^ (ji32).toNat)) = ji34 := shl_small hji34
             have hji34u : (IntKind.i64.wrap (2 ^ min (ji32).toNat 64)) = ji34 := by have h_ := hji34_; rw [Int.one_mul] at h_; exact h_
             have hji34v : (ji32) ≤ 64 → (IntKind.i64.wrap (2 ^ (ji32).toNat)) = ji34 := fun hle_ => by have h_ := hji34z hle_; rw [Int.one_mul] at h_; exact h_
             have hji34y : (wrap64 (1 * 2 ^ min (ji32).toNat 64)) = ji34 := (i64_w _).symm.trans hji34_
             have hji34x : (ji32) ≤ 64 → (wrap64 (1 * 2 ^ (ji32).toNat)) = ji34 := fun h_ => (i64_w _).symm.trans (hji34z h_)
             have H' := Aside0.mk H
             clear H
             obtain ⟨Ao35, co35, eo35⟩ := Kd.R_slice HO_9.out
             subst eo35
             have p636 : 0 ≤ (x15_1 : Int) := of_decide_eq_true (by first | (with_reducible assumption) | assumption)
             have q636 : x15_1 < (t632.length : Int) := of_decide_eq_true (by first | (with_reducible assumption) | assumption)
             obtain ⟨ad636, e636, hx636_0, hx636_1⟩ := at_T65 (Kd.R_reads' HO_9.out).2.2 x15_1 p636 q636
             cases e636
             replace p636 := eq_true p636
             replace q636 := eq_true q636
             try go_wp2_with (first | ((with_reducible refine gate_callee (f := 146) rfl ?_); refine goesL_ (some 35) rfl rfl Try.func146 (by kernel_rfl) rfl #[.agg #[.int .i64 ((rd_T65 t632 x15_1).f0), .int .i64 ((rd_T65 t632 x15_1).f1)]] rfl (by (try simp only [List.map_toArray, List.map_cons, List.map_nil]); first | done | rfl | (simp only [List.length_drop, List.length_take]; rfl)) ?_; (with_reducible refine (spec_l08Less.calls ((rd_T65 t632 x15_1).f0) ((rd_T65 t632 x15_1).f1) true _ A11.out).mono ?_); rintro e w36 ⟨rfl, hb⟩; refine ⟨_, rfl, ?_⟩; have n0_ := Aside0.mk (rb_ HO_9.out hb); have n1_ := Aside0.mk (bb_ BK631.out hb); have n2_ := Aside0.mk (bs_ hb); clear HO_9; clear BK631; clear HB; have HO_9 := n0_; have BK631 := n1_; have HB := n2_; clear n0_ n1_ n2_; (try clear hb); (try clear hb2); (try clear hk); (try clear hi)))
             have n0_ := Aside0.mk (Kd.R_drew HO_9.out)
             have n1_ := Aside0.mk (blk_drew BK631.out)
             have n2_ := Aside0.mk (below_drew1 HB.out)
             clear HO_9
             clear BK631
             clear HB
             have HO_9 := n0_
             have BK631 := n1_
             have HB := n2_
             clear n0_ n1_ n2_
             have p638 : 0 ≤ (x15_1 : Int) := of_decide_eq_true (by first | (with_reducible assumption) | assumption)
             have q638 : x15_1 < (t632.length : Int) := of_decide_eq_true (by first | (with_reducible assumption) | assumption)
             obtain ⟨ad638, e638, hx638_0, hx638_1⟩ := at_T65 (Kd.R_reads' HO_9.out).2.2 x15_1 p638 q638
             obtain rfl : ad636 = ad638 := (by injection e638)
             replace p638 := eq_true p638
             replace q638 := eq_true q638
             have p639 : 0 ≤ (x13_1 : Int) := of_decide_eq_true (by first | (with_reducible assumption) | assumption)
             have q639 : x13_1 < (t632.length : Int) := of_decide_eq_true (by first | (with_reducible assumption) | assumption)
             obtain ⟨ad639, e639, hx639_0, hx639_1⟩ := at_T65 (Kd.R_reads' HO_9.out).2.2 x13_1 p639 q639
             obtain rfl : ad636 = ad639 := (by injection e639)
             replace p639 := eq_true p639
             replace q639 := eq_true q639
             refine st_ (n := 13) (S := fun w' => w'.cell? (ad636.add ((x15_1).toNat * 2)) = some (.int .i64 ((rd_T65 t632 x15_1).f0)) ∧ w'.cell? ⟨(ad636.add ((x15_1).toNat * 2)).block, (ad636.add ((x15_1).toNat * 2)).off + 1, none⟩ = some (.int .i64 ((rd_T65 t632 x15_1).f1)) ∧ w'.cell? (ad636.add ((x13_1).toNat * 2)) = some (.int .i64 ((rd_T65 t632 x13_1).f0)) ∧ w'.cell? ⟨(ad636.add ((x13_1).toNat * 2)).block, (ad636.add ((x13_1).toNat * 2)).off + 1, none⟩ = some (.int .i64 ((rd_T65 t632 x13_1).f1))) (ds := []) ⟨hx638_0, hx638_1, hx639_0, hx639_1⟩ (fun hHeld => ?_); refine with_tabW spec_l08Step.tab12 spec_l08Step.bits12 (fun HT_ HW_ => ?_)
             generalize w36.drew = w37 at HO_9 BK631 HB hx638_0 hx638_1 hx639_0 hx639_1 hHeld ⊢
             refine pu_ 0 41 ?_; refine pu_ 1 42 ?_; refine pu_ 2 43 ?_; refine pu_ 3 44 ?_; refine pu_ 4 45 ?_; refine pu_ 5 46 ?_; refine pu_ 7 48 ?_; refine pu_ 8 49 ?_; refine pu_ 9 50 ?_; refine tk_ 6 47 ?_; refine tk_ 10 51 ?_
             refine on_ 11 (some 52) (fun K hK => ?_)
             refine goes_ Try.func147 (by kernel_rfl) rfl #[.agg #[.int .i64 ((rd_T65 t632 x15_1).f0), .int .i64 ((rd_T65 t632 x15_1).f1)], .agg #[.int .i64 ((rd_T65 t632 x13_1).f0), .int .i64 ((rd_T65 t632 x13_1).f1)]] (by rfl) rfl rfl (by (try simp only [List.map_toArray, List.map_cons, List.map_nil]); first | done | rfl | (simp only [List.length_drop, List.length_take]; rfl)) ?_
             with_reducible refine (spec_l01Less.calls ((rd_T65 t632 x15_1).f0) ((rd_T65 t632 x15_1).f1) ((rd_T65 t632 x13_1).f0) ((rd_T65 t632 x13_1).f1) false _ A23.out).mono ?_
             rintro e w38 ⟨rfl, hb⟩
             have HS0_ := (hb.cell (World.block_lt_of_cell? _ _ (hHeld.1))).trans (hHeld.1)
             have HS1_ := (hb.cell (World.block_lt_of_cell? _ _ (hHeld.2.1))).trans (hHeld.2.1)
             have HS2_ := (hb.cell (World.block_lt_of_cell? _ _ (hHeld.2.2.1))).trans (hHeld.2.2.1)
             have HS3_ := (hb.cell (World.block_lt_of_cell? _ _ (hHeld.2.2.2))).trans (hHeld.2.2.2)
             refine ⟨_, rfl, ?_⟩
             have n0_ := Aside0.mk (rb_ HO_9.out hb)
             have n1_ := Aside0.mk (bb_ BK631.out hb)
             have n2_ := Aside0.mk (bs_ hb)
             clear HO_9
             clear BK631
             clear HB
             have HO_9 := n0_
             have BK631 := n1_
             have HB := n2_
             clear n0_ n1_ n2_
             (try clear hb)
             (try clear hb2)
             (try clear hk)
             (try clear hi)
             refine hK.out _ _ ⟨HS0_, HS1_, HS2_, HS3_⟩ (fun hHeld => ?_)
             clear hK K
             refine norm_ (a' := ?_) ?_ ?_
             rotate_left
             ·show Act.put _ (some 52) _ = _
              simp only [Act.put, List.setIfInBounds_toArray, List.set_cons_zero, List.set_cons_succ, i64_w, i32_w]
              rfl
             refine pu_ 12 53 ?_
             refine done_ (done_of HT_.out (by kernel_rfl)) ?_
             try go_wp2
             go_roundg k1
             case measure => have := HK1.out; omega
             case rel => exact ⟨(x15_1), (x15_1), (x13_1), (Go.bits .or .i64 x14_1 (ji34)), (wrap64 (x15_1 + 1)), (by first | rfl | (simp; done) | (simp [*]; done)), (by first | rfl | (simp; done) | (simp [*]; done)), (by first | rfl | (simp; done) | (simp [*]; done)), (by first | rfl | (simp; done) | (simp only [← hji34] <;> (first | rfl | simp)) | (simp [*]; done)), (by first | rfl | (simp; done) | (simp [*]; done)), H', ⟨by have := HK1.out; omega⟩, ⟨ro_ HO_9.out⟩, ⟨bk_⟩, ⟨hb_⟩⟩
            ·rw [if_neg c33] at H
             exact absurd H (by simp)
          ·rw [if_neg c22] at H
           exact absurd H (by simp)
         ·rw [if_neg c21] at H
          exact absurd H (by simp)
       ·rw [if_neg c13] at H
        have c13b0 : decide (x11_1 < 0) = false := decide_eq_false c13
        clear c13
        by_cases c39 : x13_1 < 0
        ·rw [if_pos c39] at H
         have c39b0 : decide (x13_1 < 0) = true := decide_eq_true c39
         clear c39
         try clear hji15
         try clear hji15_
         try clear hji15z
         try clear hji15u
         try clear hji15v
         try clear hji15y
         try clear hji15x
         try clear hji15w
         try clear hji25
         try clear hji25_
         try clear hji25z
         try clear hji25u
         try clear hji25v
         try clear hji25y
         try clear hji25x
         try clear hji25w
         try clear hji32
         try clear hji32_
         try clear hji32z
         try clear hji32u
         try clear hji32v
         try clear hji32y
         try clear hji32x
         try clear hji32w
         obtain ⟨ji40, hji40⟩ : ∃ j_ : Int, (IntKind.u64.wrap (x15_1)) = j_ := ⟨_, rfl⟩
         replace H : (if 0 ≤ (ji40) then (spec_l08Step.l0 k1 a1 a2 t632 x11_1 x15_1 x15_1 (Go.bits .or .i64 x14_1 (shl .i64 1 (ji40))) (wrap64 (x15_1 + 1))) else (none)) = some (r1, r2, r3) := by first | (rw [hji40] at H; exact H) | (simp only [hji40] at H ⊢; exact H)
         (try rw [hji40] at A11)
         by_cases c41 : 0 ≤ (ji40)
         ·rw [if_pos c41] at H
          have c41b0 := eq_true c41
          have c41b1 : decide (0 ≤ (ji40)) = true := decide_eq_true c41
          clear c41
          obtain ⟨ji42, hji42⟩ : ∃ j_ : Int, (shl .i64 1 (ji40)) = j_ := ⟨_, rfl⟩
          replace H : (spec_l08Step.l0 k1 a1 a2 t632 x11_1 x15_1 x15_1 (Go.bits .or .i64 x14_1 (ji42)) (wrap64 (x15_1 + 1))) = some (r1, r2, r3) := by first | (rw [hji42] at H; exact H) | (simp only [hji42] at H ⊢; exact H)
          (try rw [hji42] at A11)
          have hji42_ : (IntKind.i64.wrap (1 * 2 ^ min (ji40).toNat 64)) = ji42 := hji42
          have hji42z : (ji40) ≤ 64 → (IntKind.i64.wrap (1 * 2 ^ (ji40).toNat)) = ji42 := shl_small hji42
          have hji42u : (IntKind.i64.wrap (2 ^ min (ji40).toNat 64)) = ji42 := by have h_ := hji42_; rw [Int.one_mul] at h_; exact h_
          have hji42v : (ji40) ≤ 64 → (IntKind.i64.wrap (2 ^ (ji40).toNat)) = ji42 := fun hle_ => by have h_ := hji42z hle_; rw [Int.one_mul] at h_; exact h_
          have hji42y : (wrap64 (1 * 2 ^ min (ji40).toNat 64)) = ji42 := (i64_w _).symm.trans hji42_
          have hji42x : (ji40) ≤ 64 → (wrap64 (1 * 2 ^ (ji40).toNat)) = ji42 := fun h_ => (i64_w _).symm.trans (hji42z h_)
          have H' := Aside0.mk H
          clear H
          obtain ⟨Ao43, co43, eo43⟩ := Kd.R_slice HO_9.out
          subst eo43
          have p636 : 0 ≤ (x15_1 : Int) := of_decide_eq_true (by first | (with_reducible assumption) | assumption)
          have q636 : x15_1 < (t632.length : Int) := of_decide_eq_true (by first | (with_reducible assumption) | assumption)
          obtain ⟨ad636, e636, hx636_0, hx636_1⟩ := at_T65 (Kd.R_reads' HO_9.out).2.2 x15_1 p636 q636
          cases e636
          replace p636 := eq_true p636
          replace q636 := eq_true q636
          try go_wp2_with (first | ((with_reducible refine gate_callee (f := 146) rfl ?_); refine goesL_ (some 35) rfl rfl Try.func146 (by kernel_rfl) rfl #[.agg #[.int .i64 ((rd_T65 t632 x15_1).f0), .int .i64 ((rd_T65 t632 x15_1).f1)]] rfl (by (try simp only [List.map_toArray, List.map_cons, List.map_nil]); first | done | rfl | (simp only [List.length_drop, List.length_take]; rfl)) ?_; (with_reducible refine (spec_l08Less.calls ((rd_T65 t632 x15_1).f0) ((rd_T65 t632 x15_1).f1) true _ A11.out).mono ?_); rintro e w44 ⟨rfl, hb⟩; refine ⟨_, rfl, ?_⟩; have n0_ := Aside0.mk (rb_ HO_9.out hb); have n1_ := Aside0.mk (bb_ BK631.out hb); have n2_ := Aside0.mk (bs_ hb); clear HO_9; clear BK631; clear HB; have HO_9 := n0_; have BK631 := n1_; have HB := n2_; clear n0_ n1_ n2_; (try clear hb); (try clear hb2); (try clear hk); (try clear hi)))
          have n0_ := Aside0.mk (Kd.R_drew HO_9.out)
          have n1_ := Aside0.mk (blk_drew BK631.out)
          have n2_ := Aside0.mk (below_drew1 HB.out)
          clear HO_9
          clear BK631
          clear HB
          have HO_9 := n0_
          have BK631 := n1_
          have HB := n2_
          clear n0_ n1_ n2_
          refine st_ (n := 13) (S := fun w' => True) (ds := []) trivial (fun hHeld => ?_); refine with_tabW spec_l08Step.tab12 spec_l08Step.bits12 (fun HT_ HW_ => ?_)
          generalize w44.drew = w45 at HO_9 BK631 HB hHeld ⊢
          refine pu_ 0 41 ?_; refine pu_ 1 42 ?_; refine pu_ 2 43 ?_; refine pn_ 3 44 ?_; refine pn_ 4 45 ?_; refine pn_ 5 46 ?_; refine pn_ 6 47 ?_; refine pn_ 7 48 ?_; refine pn_ 8 49 ?_; refine pn_ 9 50 ?_; refine pn_ 10 51 ?_; refine pn_ 11 52 ?_; refine pu_ 12 53 ?_
          refine done_ (done_of HT_.out (by kernel_rfl)) ?_
          try go_wp2
          go_roundg k1
          case measure => have := HK1.out; omega
          case rel => exact ⟨(x11_1), (x15_1), (x15_1), (Go.bits .or .i64 x14_1 (ji42)), (wrap64 (x15_1 + 1)), (by first | rfl | (simp; done) | (simp [*]; done)), (by first | rfl | (simp; done) | (simp [*]; done)), (by first | rfl | (simp; done) | (simp [*]; done)), (by first | rfl | (simp; done) | (simp only [← hji42] <;> (first | rfl | simp)) | (simp [*]; done)), (by first | rfl | (simp; done) | (simp [*]; done)), H', ⟨by have := HK1.out; omega⟩, ⟨ro_ HO_9.out⟩, ⟨bk_⟩, ⟨hb_⟩⟩
         ·rw [if_neg c41] at H
          exact absurd H (by simp)
        ·rw [if_neg c39] at H
         have c39b0 : decide (x13_1 < 0) = false := decide_eq_false c39
         clear c39
         by_cases c46 : 0 ≤ x13_1
         ·rw [if_pos c46] at H
          have c46b0 : decide (0 ≤ x13_1) = true := decide_eq_true c46
          clear c46
          by_cases c47 : x13_1 < (t632.length : Int)
          ·rw [if_pos c47] at H
           have c47b0 : decide (x13_1 < (t632.length : Int)) = true := decide_eq_true c47
           clear c47
           replace H := Option.bind_eq_some_iff.mp H
           obtain ⟨t643, A480, H⟩ := H
           replace H : (if t643 = true then (if 0 ≤ (IntKind.u64.wrap (x15_1)) then (spec_l08Step.l0 k1 a1 a2 t632 x11_1 x15_1 x15_1 (Go.bits .or .i64 x14_1 (shl .i64 1 (IntKind.u64.wrap (x15_1)))) (wrap64 (x15_1 + 1))) else (none)) else (if 0 ≤ (IntKind.u64.wrap (x15_1)) then (spec_l08Step.l0 k1 a1 a2 t632 x11_1 x15_1 x13_1 (Go.bits .or .i64 x14_1 (shl .i64 1 (IntKind.u64.wrap (x15_1)))) (wrap64 (x15_1 + 1))) else (none))) = some (r1, r2, r3) := H
           have A48 := Aside0.mk A480
           clear A480
           by_cases c49 : t643 = true
           ·subst c49
            have H1 : (if 0 ≤ (IntKind.u64.wrap (x15_1)) then (spec_l08Step.l0 k1 a1 a2 t632 x11_1 x15_1 x15_1 (Go.bits .or .i64 x14_1 (shl .i64 1 (IntKind.u64.wrap (x15_1)))) (wrap64 (x15_1 + 1))) else (none)) = some (r1, r2, r3) := by rw [if_pos rfl] at H; exact H
            clear H
            have H := H1
            clear H1
            try clear hji15
            try clear hji15_
            try clear hji15z
            try clear hji15u
            try clear hji15v
            try clear hji15y
            try clear hji15x
            try clear hji15w
            try clear hji25
            try clear hji25_
            try clear hji25z
            try clear hji25u
            try clear hji25v
            try clear hji25y
            try clear hji25x
            try clear hji25w
            try clear hji32
            try clear hji32_
            try clear hji32z
            try clear hji32u
            try clear hji32v
            try clear hji32y
            try clear hji32x
            try clear hji32w
            try clear hji40
            try clear hji40_
            try clear hji40z
            try clear hji40u
            try clear hji40v
            try clear hji40y
            try clear hji40x
            try clear hji40w
            obtain ⟨ji50, hji50⟩ : ∃ j_ : Int, (IntKind.u64.wrap (x15_1)) = j_ := ⟨_, rfl⟩
            replace H : (if 0 ≤ (ji50) then (spec_l08Step.l0 k1 a1 a2 t632 x11_1 x15_1 x15_1 (Go.bits .or .i64 x14_1 (shl .i64 1 (ji50))) (wrap64 (x15_1 + 1))) else (none)) = some (r1, r2, r3) := by first | (rw [hji50] at H; exact H) | (simp only [hji50] at H ⊢; exact H)
            (try rw [hji50] at A11)
            (try rw [hji50] at A48)
            by_cases c51 : 0 ≤ (ji50)
            ·rw [if_pos c51] at H
             have c51b0 := eq_true c51
             have c51b1 : decide (0 ≤ (ji50)) = true := decide_eq_true c51
             clear c51
             obtain ⟨ji52, hji52⟩ : ∃ j_ : Int, (shl .i64 1 (ji50)) = j_ := ⟨_, rfl⟩
             replace H : (spec_l08Step.l0 k1 a1 a2 t632 x11_1 x15_1 x15_1 (Go.bits .or .i64 x14_1 (ji52)) (wrap64 (x15_1 + 1))) = some (r1, r2, r3) := by first | (rw [hji52] at H; exact H) | (simp only [hji52] at H ⊢; exact H)
             (try rw [hji52] at A11)
             (try rw [hji52] at A48)
             have hji52_ : (IntKind.i64.wrap (1 * 2 ^ min (ji50).toNat 64)) = ji52 := hji52
             have hji52z : (ji50) ≤ 64 → (IntKind.i64.wrap (1 * 2 ^ (ji50).toNat)) = ji52 := shl_small hji52
             have hji52u : (IntKind.i64.wrap (2 ^ min (ji50).toNat 64)) = ji52 := by have h_ := hji52_; rw [Int.one_mul] at h_; exact h_
             have hji52v : (ji50) ≤ 64 → (IntKind.i64.wrap (2 ^ (ji50).toNat)) = ji52 := fun hle_ => by have h_ := hji52z hle_; rw [Int.one_mul] at h_; exact h_
             have hji52y : (wrap64 (1 * 2 ^ min (ji50).toNat 64)) = ji52 := (i64_w _).symm.trans hji52_
             have hji52x : (ji50) ≤ 64 → (wrap64 (1 * 2 ^ (ji50).toNat)) = ji52 := fun h_ => (i64_w _).symm.trans (hji52z h_)
             have H' := Aside0.mk H
             clear H
             obtain ⟨Ao53, co53, eo53⟩ := Kd.R_slice HO_9.out
             subst eo53
             have p636 : 0 ≤ (x15_1 : Int) := of_decide_eq_true (by first | (with_reducible assumption) | assumption)
             have q636 : x15_1 < (t632.length : Int) := of_decide_eq_true (by first | (with_reducible assumption) | assumption)
             obtain ⟨ad636, e636, hx636_0, hx636_1⟩ := at_T65 (Kd.R_reads' HO_9.out).2.2 x15_1 p636 q636
             cases e636
             replace p636 := eq_true p636
             replace q636 := eq_true q636
             try go_wp2_with (first | ((with_reducible refine gate_callee (f := 146) rfl ?_); refine goesL_ (some 35) rfl rfl Try.func146 (by kernel_rfl) rfl #[.agg #[.int .i64 ((rd_T65 t632 x15_1).f0), .int .i64 ((rd_T65 t632 x15_1).f1)]] rfl (by (try simp only [List.map_toArray, List.map_cons, List.map_nil]); first | done | rfl | (simp only [List.length_drop, List.length_take]; rfl)) ?_; (with_reducible refine (spec_l08Less.calls ((rd_T65 t632 x15_1).f0) ((rd_T65 t632 x15_1).f1) true _ A11.out).mono ?_); rintro e w54 ⟨rfl, hb⟩; refine ⟨_, rfl, ?_⟩; have n0_ := Aside0.mk (rb_ HO_9.out hb); have n1_ := Aside0.mk (bb_ BK631.out hb); have n2_ := Aside0.mk (bs_ hb); clear HO_9; clear BK631; clear HB; have HO_9 := n0_; have BK631 := n1_; have HB := n2_; clear n0_ n1_ n2_; (try clear hb); (try clear hb2); (try clear hk); (try clear hi)))
             have n0_ := Aside0.mk (Kd.R_drew HO_9.out)
             have n1_ := Aside0.mk (blk_drew BK631.out)
             have n2_ := Aside0.mk (below_drew1 HB.out)
             clear HO_9
             clear BK631
             clear HB
             have HO_9 := n0_
             have BK631 := n1_
             have HB := n2_
             clear n0_ n1_ n2_
             have p641 : 0 ≤ (x15_1 : Int) := of_decide_eq_true (by first | (with_reducible assumption) | assumption)
             have q641 : x15_1 < (t632.length : Int) := of_decide_eq_true (by first | (with_reducible assumption) | assumption)
             obtain ⟨ad641, e641, hx641_0, hx641_1⟩ := at_T65 (Kd.R_reads' HO_9.out).2.2 x15_1 p641 q641
             obtain rfl : ad636 = ad641 := (by injection e641)
             replace p641 := eq_true p641
             replace q641 := eq_true q641
             have p642 : 0 ≤ (x13_1 : Int) := of_decide_eq_true (by first | (with_reducible assumption) | assumption)
             have q642 : x13_1 < (t632.length : Int) := of_decide_eq_true (by first | (with_reducible assumption) | assumption)
             obtain ⟨ad642, e642, hx642_0, hx642_1⟩ := at_T65 (Kd.R_reads' HO_9.out).2.2 x13_1 p642 q642
             obtain rfl : ad636 = ad642 := (by injection e642)
             replace p642 := eq_true p642
             replace q642 := eq_true q642
             refine st_ (n := 13) (S := fun w' => w'.cell? (ad636.add ((x15_1).toNat * 2)) = some (.int .i64 ((rd_T65 t632 x15_1).f0)) ∧ w'.cell? ⟨(ad636.add ((x15_1).toNat * 2)).block, (ad636.add ((x15_1).toNat * 2)).off + 1, none⟩ = some (.int .i64 ((rd_T65 t632 x15_1).f1)) ∧ w'.cell? (ad636.add ((x13_1).toNat * 2)) = some (.int .i64 ((rd_T65 t632 x13_1).f0)) ∧ w'.cell? ⟨(ad636.add ((x13_1).toNat * 2)).block, (ad636.add ((x13_1).toNat * 2)).off + 1, none⟩ = some (.int .i64 ((rd_T65 t632 x13_1).f1))) (ds := []) ⟨hx641_0, hx641_1, hx642_0, hx642_1⟩ (fun hHeld => ?_); refine with_tabW spec_l08Step.tab12 spec_l08Step.bits12 (fun HT_ HW_ => ?_)
             generalize w54.drew = w55 at HO_9 BK631 HB hx641_0 hx641_1 hx642_0 hx642_1 hHeld ⊢
             refine pu_ 0 41 ?_; refine pu_ 1 42 ?_; refine pu_ 2 43 ?_; refine pu_ 3 44 ?_; refine pu_ 4 45 ?_; refine pu_ 5 46 ?_; refine pu_ 7 48 ?_; refine pu_ 8 49 ?_; refine pu_ 9 50 ?_; refine tk_ 6 47 ?_; refine tk_ 10 51 ?_
             refine on_ 11 (some 52) (fun K hK => ?_)
             refine goes_ Try.func147 (by kernel_rfl) rfl #[.agg #[.int .i64 ((rd_T65 t632 x15_1).f0), .int .i64 ((rd_T65 t632 x15_1).f1)], .agg #[.int .i64 ((rd_T65 t632 x13_1).f0), .int .i64 ((rd_T65 t632 x13_1).f1)]] (by rfl) rfl rfl (by (try simp only [List.map_toArray, List.map_cons, List.map_nil]); first | done | rfl | (simp only [List.length_drop, List.length_take]; rfl)) ?_
             with_reducible refine (spec_l01Less.calls ((rd_T65 t632 x15_1).f0) ((rd_T65 t632 x15_1).f1) ((rd_T65 t632 x13_1).f0) ((rd_T65 t632 x13_1).f1) true _ A48.out).mono ?_
             rintro e w56 ⟨rfl, hb⟩
             have HS0_ := (hb.cell (World.block_lt_of_cell? _ _ (hHeld.1))).trans (hHeld.1)
             have HS1_ := (hb.cell (World.block_lt_of_cell? _ _ (hHeld.2.1))).trans (hHeld.2.1)
             have HS2_ := (hb.cell (World.block_lt_of_cell? _ _ (hHeld.2.2.1))).trans (hHeld.2.2.1)
             have HS3_ := (hb.cell (World.block_lt_of_cell? _ _ (hHeld.2.2.2))).trans (hHeld.2.2.2)
             refine ⟨_, rfl, ?_⟩
             have n0_ := Aside0.mk (rb_ HO_9.out hb)
             have n1_ := Aside0.mk (bb_ BK631.out hb)
             have n2_ := Aside0.mk (bs_ hb)
             clear HO_9
             clear BK631
             clear HB
             have HO_9 := n0_
             have BK631 := n1_
             have HB := n2_
             clear n0_ n1_ n2_
             (try clear hb)
             (try clear hb2)
             (try clear hk)
             (try clear hi)
             refine hK.out _ _ ⟨HS0_, HS1_, HS2_, HS3_⟩ (fun hHeld => ?_)
             clear hK K
             refine norm_ (a' := ?_) ?_ ?_
             rotate_left
             ·show Act.put _ (some 52) _ = _
              simp only [Act.put, List.setIfInBounds_toArray, List.set_cons_zero, List.set_cons_succ, i64_w, i32_w]
              rfl
             refine pu_ 12 53 ?_
             refine done_ (done_of HT_.out (by kernel_rfl)) ?_
             try go_wp2
             go_roundg k1
             case measure => have := HK1.out; omega
             case rel => exact ⟨(x11_1), (x15_1), (x15_1), (Go.bits .or .i64 x14_1 (ji52)), (wrap64 (x15_1 + 1)), (by first | rfl | (simp; done) | (simp [*]; done)), (by first | rfl | (simp; done) | (simp [*]; done)), (by first | rfl | (simp; done) | (simp [*]; done)), (by first | rfl | (simp; done) | (simp only [← hji52] <;> (first | rfl | simp)) | (simp [*]; done)), (by first | rfl | (simp; done) | (simp [*]; done)), H', ⟨by have := HK1.out; omega⟩, ⟨ro_ HO_9.out⟩, ⟨bk_⟩, ⟨hb_⟩⟩
            ·rw [if_neg c51] at H
             exact absurd H (by simp)
           ·replace c49 := Bool.eq_false_iff.mpr c49
            subst c49
            have H1 : (if 0 ≤ (IntKind.u64.wrap (x15_1)) then (spec_l08Step.l0 k1 a1 a2 t632 x11_1 x15_1 x13_1 (Go.bits .or .i64 x14_1 (shl .i64 1 (IntKind.u64.wrap (x15_1)))) (wrap64 (x15_1 + 1))) else (none)) = some (r1, r2, r3) := by rw [if_neg (show ¬ (false = true) by decide)] at H; exact H
            clear H
            have H := H1
            clear H1
            try clear hji15
            try clear hji15_
            try clear hji15z
            try clear hji15u
            try clear hji15v
            try clear hji15y
            try clear hji15x
            try clear hji15w
            try clear hji25
            try clear hji25_
            try clear hji25z
            try clear hji25u
            try clear hji25v
            try clear hji25y
            try clear hji25x
            try clear hji25w
            try clear hji32
            try clear hji32_
            try clear hji32z
            try clear hji32u
            try clear hji32v
            try clear hji32y
            try clear hji32x
            try clear hji32w
            try clear hji40
            try clear hji40_
            try clear hji40z
            try clear hji40u
            try clear hji40v
            try clear hji40y
            try clear hji40x
            try clear hji40w
            try clear hji50
            try clear hji50_
            try clear hji50z
            try clear hji50u
            try clear hji50v
            try clear hji50y
            try clear hji50x
            try clear hji50w
            obtain ⟨ji57, hji57⟩ : ∃ j_ : Int, (IntKind.u64.wrap (x15_1)) = j_ := ⟨_, rfl⟩
            replace H : (if 0 ≤ (ji57) then (spec_l08Step.l0 k1 a1 a2 t632 x11_1 x15_1 x13_1 (Go.bits .or .i64 x14_1 (shl .i64 1 (ji57))) (wrap64 (x15_1 + 1))) else (none)) = some (r1, r2, r3) := by first | (rw [hji57] at H; exact H) | (simp only [hji57] at H ⊢; exact H)
            (try rw [hji57] at A11)
            (try rw [hji57] at A48)
            by_cases c58 : 0 ≤ (ji57)
            ·rw [if_pos c58] at H
             have c58b0 := eq_true c58
             have c58b1 : decide (0 ≤ (ji57)) = true := decide_eq_true c58
             clear c58
             obtain ⟨ji59, hji59⟩ : ∃ j_ : Int, (shl .i64 1 (ji57)) = j_ := ⟨_, rfl⟩
             replace H : (spec_l08Step.l0 k1 a1 a2 t632 x11_1 x15_1 x13_1 (Go.bits .or .i64 x14_1 (ji59)) (wrap64 (x15_1 + 1))) = some (r1, r2, r3) := by first | (rw [hji59] at H; exact H) | (simp only [hji59] at H ⊢; exact H)
             (try rw [hji59] at A11)
             (try rw [hji59] at A48)
             have hji59_ : (IntKind.i64.wrap (1 * 2 ^ min (ji57).toNat 64)) = ji59 := hji59
             have hji59z : (ji57) ≤ 64 → (IntKind.i64.wrap (1 * 2 ^ (ji57).toNat)) = ji59 := shl_small hji59
             have hji59u : (IntKind.i64.wrap (2 ^ min (ji57).toNat 64)) = ji59 := by have h_ := hji59_; rw [Int.one_mul] at h_; exact h_
             have hji59v : (ji57) ≤ 64 → (IntKind.i64.wrap (2 ^ (ji57).toNat)) = ji59 := fun hle_ => by have h_ := hji59z hle_; rw [Int.one_mul] at h_; exact h_
             have hji59y : (wrap64 (1 * 2 ^ min (ji57).toNat 64)) = ji59 := (i64_w _).symm.trans hji59_
             have hji59x : (ji57) ≤ 64 → (wrap64 (1 * 2 ^ (ji57).toNat)) = ji59 := fun h_ => (i64_w _).symm.trans (hji59z h_)
             have H' := Aside0.mk H
             clear H
             obtain ⟨Ao60, co60, eo60⟩ := Kd.R_slice HO_9.out
             subst eo60
             have p636 : 0 ≤ (x15_1 : Int) := of_decide_eq_true (by first | (with_reducible assumption) | assumption)
             have q636 : x15_1 < (t632.length : Int) := of_decide_eq_true (by first | (with_reducible assumption) | assumption)
             obtain ⟨ad636, e636, hx636_0, hx636_1⟩ := at_T65 (Kd.R_reads' HO_9.out).2.2 x15_1 p636 q636
             cases e636
             replace p636 := eq_true p636
             replace q636 := eq_true q636
             try go_wp2_with (first | ((with_reducible refine gate_callee (f := 146) rfl ?_); refine goesL_ (some 35) rfl rfl Try.func146 (by kernel_rfl) rfl #[.agg #[.int .i64 ((rd_T65 t632 x15_1).f0), .int .i64 ((rd_T65 t632 x15_1).f1)]] rfl (by (try simp only [List.map_toArray, List.map_cons, List.map_nil]); first | done | rfl | (simp only [List.length_drop, List.length_take]; rfl)) ?_; (with_reducible refine (spec_l08Less.calls ((rd_T65 t632 x15_1).f0) ((rd_T65 t632 x15_1).f1) true _ A11.out).mono ?_); rintro e w61 ⟨rfl, hb⟩; refine ⟨_, rfl, ?_⟩; have n0_ := Aside0.mk (rb_ HO_9.out hb); have n1_ := Aside0.mk (bb_ BK631.out hb); have n2_ := Aside0.mk (bs_ hb); clear HO_9; clear BK631; clear HB; have HO_9 := n0_; have BK631 := n1_; have HB := n2_; clear n0_ n1_ n2_; (try clear hb); (try clear hb2); (try clear hk); (try clear hi)))
             have n0_ := Aside0.mk (Kd.R_drew HO_9.out)
             have n1_ := Aside0.mk (blk_drew BK631.out)
             have n2_ := Aside0.mk (below_drew1 HB.out)
             clear HO_9
             clear BK631
             clear HB
             have HO_9 := n0_
             have BK631 := n1_
             have HB := n2_
             clear n0_ n1_ n2_
             have p641 : 0 ≤ (x15_1 : Int) := of_decide_eq_true (by first | (with_reducible assumption) | assumption)
             have q641 : x15_1 < (t632.length : Int) := of_decide_eq_true (by first | (with_reducible assumption) | assumption)
             obtain ⟨ad641, e641, hx641_0, hx641_1⟩ := at_T65 (Kd.R_reads' HO_9.out).2.2 x15_1 p641 q641
             obtain rfl : ad636 = ad641 := (by injection e641)
             replace p641 := eq_true p641
             replace q641 := eq_true q641
             have p642 : 0 ≤ (x13_1 : Int) := of_decide_eq_true (by first | (with_reducible assumption) | assumption)
             have q642 : x13_1 < (t632.length : Int) := of_decide_eq_true (by first | (with_reducible assumption) | assumption)
             obtain ⟨ad642, e642, hx642_0, hx642_1⟩ := at_T65 (Kd.R_reads' HO_9.out).2.2 x13_1 p642 q642
             obtain rfl : ad636 = ad642 := (by injection e642)
             replace p642 := eq_true p642
             replace q642 := eq_true q642
             refine st_ (n := 13) (S := fun w' => w'.cell? (ad636.add ((x15_1).toNat * 2)) = some (.int .i64 ((rd_T65 t632 x15_1).f0)) ∧ w'.cell? ⟨(ad636.add ((x15_1).toNat * 2)).block, (ad636.add ((x15_1).toNat * 2)).off + 1, none⟩ = some (.int .i64 ((rd_T65 t632 x15_1).f1)) ∧ w'.cell? (ad636.add ((x13_1).toNat * 2)) = some (.int .i64 ((rd_T65 t632 x13_1).f0)) ∧ w'.cell? ⟨(ad636.add ((x13_1).toNat * 2)).block, (ad636.add ((x13_1).toNat * 2)).off + 1, none⟩ = some (.int .i64 ((rd_T65 t632 x13_1).f1))) (ds := []) ⟨hx641_0, hx641_1, hx642_0, hx642_1⟩ (fun hHeld => ?_); refine with_tabW spec_l08Step.tab12 spec_l08Step.bits12 (fun HT_ HW_ => ?_)
             generalize w61.drew = w62 at HO_9 BK631 HB hx641_0 hx641_1 hx642_0 hx642_1 hHeld ⊢
             refine pu_ 0 41 ?_; refine pu_ 1 42 ?_; refine pu_ 2 43 ?_; refine pu_ 3 44 ?_; refine pu_ 4 45 ?_; refine pu_ 5 46 ?_; refine pu_ 7 48 ?_; refine pu_ 8 49 ?_; refine pu_ 9 50 ?_; refine tk_ 6 47 ?_; refine tk_ 10 51 ?_
             refine on_ 11 (some 52) (fun K hK => ?_)
             refine goes_ Try.func147 (by kernel_rfl) rfl #[.agg #[.int .i64 ((rd_T65 t632 x15_1).f0), .int .i64 ((rd_T65 t632 x15_1).f1)], .agg #[.int .i64 ((rd_T65 t632 x13_1).f0), .int .i64 ((rd_T65 t632 x13_1).f1)]] (by rfl) rfl rfl (by (try simp only [List.map_toArray, List.map_cons, List.map_nil]); first | done | rfl | (simp only [List.length_drop, List.length_take]; rfl)) ?_
             with_reducible refine (spec_l01Less.calls ((rd_T65 t632 x15_1).f0) ((rd_T65 t632 x15_1).f1) ((rd_T65 t632 x13_1).f0) ((rd_T65 t632 x13_1).f1) false _ A48.out).mono ?_
             rintro e w63 ⟨rfl, hb⟩
             have HS0_ := (hb.cell (World.block_lt_of_cell? _ _ (hHeld.1))).trans (hHeld.1)
             have HS1_ := (hb.cell (World.block_lt_of_cell? _ _ (hHeld.2.1))).trans (hHeld.2.1)
             have HS2_ := (hb.cell (World.block_lt_of_cell? _ _ (hHeld.2.2.1))).trans (hHeld.2.2.1)
             have HS3_ := (hb.cell (World.block_lt_of_cell? _ _ (hHeld.2.2.2))).trans (hHeld.2.2.2)
             refine ⟨_, rfl, ?_⟩
             have n0_ := Aside0.mk (rb_ HO_9.out hb)
             have n1_ := Aside0.mk (bb_ BK631.out hb)
             have n2_ := Aside0.mk (bs_ hb)
             clear HO_9
             clear BK631
             clear HB
             have HO_9 := n0_
             have BK631 := n1_
             have HB := n2_
             clear n0_ n1_ n2_
             (try clear hb)
             (try clear hb2)
             (try clear hk)
             (try clear hi)
             refine hK.out _ _ ⟨HS0_, HS1_, HS2_, HS3_⟩ (fun hHeld => ?_)
             clear hK K
             refine norm_ (a' := ?_) ?_ ?_
             rotate_left
             ·show Act.put _ (some 52) _ = _
              simp only [Act.put, List.setIfInBounds_toArray, List.set_cons_zero, List.set_cons_succ, i64_w, i32_w]
              rfl
             refine pu_ 12 53 ?_
             refine done_ (done_of HT_.out (by kernel_rfl)) ?_
             try go_wp2
             go_roundg k1
             case measure => have := HK1.out; omega
             case rel => exact ⟨(x11_1), (x15_1), (x13_1), (Go.bits .or .i64 x14_1 (ji59)), (wrap64 (x15_1 + 1)), (by first | rfl | (simp; done) | (simp [*]; done)), (by first | rfl | (simp; done) | (simp [*]; done)), (by first | rfl | (simp; done) | (simp [*]; done)), (by first | rfl | (simp; done) | (simp only [← hji59] <;> (first | rfl | simp)) | (simp [*]; done)), (by first | rfl | (simp; done) | (simp [*]; done)), H', ⟨by have := HK1.out; omega⟩, ⟨ro_ HO_9.out⟩, ⟨bk_⟩, ⟨hb_⟩⟩
            ·rw [if_neg c58] at H
             exact absurd H (by simp)
          ·rw [if_neg c47] at H
           exact absurd H (by simp)
         ·rw [if_neg c46] at H
          exact absurd H (by simp)
      ·replace c12 := Bool.eq_false_iff.mpr c12
       subst c12
       have H1 : (spec_l08Step.l0 k1 a1 a2 t632 x11_1 x12_1 x13_1 x14_1 (wrap64 (x15_1 + 1))) = some (r1, r2, r3) := by rw [if_neg (show ¬ (false = true) by decide)] at H; exact H
       clear H
       have H := H1
       clear H1
       have H' := Aside0.mk H
       clear H
       obtain ⟨Ao64, co64, eo64⟩ := Kd.R_slice HO_9.out
       subst eo64
       have p636 : 0 ≤ (x15_1 : Int) := of_decide_eq_true (by first | (with_reducible assumption) | assumption)
       have q636 : x15_1 < (t632.length : Int) := of_decide_eq_true (by first | (with_reducible assumption) | assumption)
       obtain ⟨ad636, e636, hx636_0, hx636_1⟩ := at_T65 (Kd.R_reads' HO_9.out).2.2 x15_1 p636 q636
       cases e636
       replace p636 := eq_true p636
       replace q636 := eq_true q636
       go_wp2_with (first | ((with_reducible refine gate_callee (f := 146) rfl ?_); refine goesL_ (some 35) rfl rfl Try.func146 (by kernel_rfl) rfl #[.agg #[.int .i64 ((rd_T65 t632 x15_1).f0), .int .i64 ((rd_T65 t632 x15_1).f1)]] rfl (by (try simp only [List.map_toArray, List.map_cons, List.map_nil]); first | done | rfl | (simp only [List.length_drop, List.length_take]; rfl)) ?_; (with_reducible refine (spec_l08Less.calls ((rd_T65 t632 x15_1).f0) ((rd_T65 t632 x15_1).f1) false _ A11.out).mono ?_); rintro e w65 ⟨rfl, hb⟩; refine ⟨_, rfl, ?_⟩; have n0_ := Aside0.mk (rb_ HO_9.out hb); have n1_ := Aside0.mk (bb_ BK631.out hb); have n2_ := Aside0.mk (bs_ hb); clear HO_9; clear BK631; clear HB; have HO_9 := n0_; have BK631 := n1_; have HB := n2_; clear n0_ n1_ n2_; (try clear hb); (try clear hb2); (try clear hk); (try clear hi)))
       go_roundg k1
       case measure => have := HK1.out; omega
       case rel => exact ⟨(x11_1), (x12_1), (x13_1), (x14_1), (wrap64 (x15_1 + 1)), (by first | rfl | (simp; done) | (simp [*]; done)), (by first | rfl | (simp; done) | (simp [*]; done)), (by first | rfl | (simp; done) | (simp [*]; done)), (by first | rfl | (simp; done) | (simp [*]; done)), (by first | rfl | (simp; done) | (simp [*]; done)), H', ⟨by have := HK1.out; omega⟩, ⟨ro_ HO_9.out⟩, ⟨bk_⟩, ⟨hb_⟩⟩
     ·rw [if_neg c10] at H
      exact absurd H (by simp)
    ·rw [if_neg c9] at H
     have c9b0 : decide (x15_1 < (t632.length : Int)) = false := decide_eq_false c9
     clear c9
     by_cases c66 : x11_1 < 0
     ·rw [if_pos c66] at H
      have c66b0 : decide (x11_1 < 0) = true := decide_eq_true c66
      clear c66
      simp only [Option.some.injEq, Prod.mk.injEq] at H
      obtain ⟨rfl, rfl, rfl⟩ := H
      obtain ⟨Ao67, co67, eo67⟩ := Kd.R_slice HO_9.out
      subst eo67
      go_wp2
      go_ret3
      exact ⟨by first | rfl | (simp [errW_none, errW_some] <;> rfl) | (simp [*, errW_none, errW_some] <;> rfl), hb_⟩
     ·rw [if_neg c66] at H
      have c66b0 : decide (x11_1 < 0) = false := decide_eq_false c66
      clear c66
      by_cases c68 : a2 = 0
      ·rw [if_pos c68] at H
       have c68b0 : (a2 == 0) = true := beq_iff_eq.mpr c68
       have c68b1 : (a2 != 0) = false := bne_eq_false_iff_eq.mpr c68
       clear c68
       obtain ⟨ji69, hji69⟩ : ∃ j_ : Int, (IntKind.u64.wrap (x11_1)) = j_ := ⟨_, rfl⟩
       replace H : (if 0 ≤ (ji69) then (some (Go.bits .xor .i64 a1 (shl .i64 1 (ji69)), true, true)) else (none)) = some (r1, r2, r3) := by first | (rw [hji69] at H; exact H) | (simp only [hji69] at H ⊢; exact H)
       by_cases c70 : 0 ≤ (ji69)
       ·rw [if_pos c70] at H
        have c70b0 := eq_true c70
        have c70b1 : decide (0 ≤ (ji69)) = true := decide_eq_true c70
        clear c70
        obtain ⟨ji71, hji71⟩ : ∃ j_ : Int, (shl .i64 1 (ji69)) = j_ := ⟨_, rfl⟩
        replace H : (some (Go.bits .xor .i64 a1 (ji71), true, true)) = some (r1, r2, r3) := by first | (rw [hji71] at H; exact H) | (simp only [hji71] at H ⊢; exact H)
        have hji71_ : (IntKind.i64.wrap (1 * 2 ^ min (ji69).toNat 64)) = ji71 := hji71
        have hji71z : (ji69) ≤ 64 → (IntKind.i64.wrap (1 * 2 ^ (ji69).toNat)) = ji71 := shl_small hji71
        have hji71u : (IntKind.i64.wrap (2 ^ min (ji69).toNat 64)) = ji71 := by have h_ := hji71_; rw [Int.one_mul] at h_; exact h_
        have hji71v : (ji69) ≤ 64 → (IntKind.i64.wrap (2 ^ (ji69).toNat)) = ji71 := fun hle_ => by have h_ := hji71z hle_; rw [Int.one_mul] at h_; exact h_
        have hji71y : (wrap64 (1 * 2 ^ min (ji69).toNat 64)) = ji71 := (i64_w _).symm.trans hji71_
        have hji71x : (ji69) ≤ 64 → (wrap64 (1 * 2 ^ (ji69).toNat)) = ji71 := fun h_ => (i64_w _).symm.trans (hji71z h_)
        simp only [Option.some.injEq, Prod.mk.injEq] at H
        obtain ⟨rfl, rfl, rfl⟩ := H
        obtain ⟨Ao72, co72, eo72⟩ := Kd.R_slice HO_9.out
        subst eo72
        go_wp2
        go_ret3
        exact ⟨by first | rfl | (simp [errW_none, errW_some] <;> rfl) | (simp only [← hji69, ← hji71]; first | rfl | (simp [errW_none, errW_some] <;> rfl)) | (simp [*, errW_none, errW_some] <;> rfl), hb_⟩
       ·rw [if_neg c70] at H
        exact absurd H (by simp)
      ·rw [if_neg c68] at H
       have c68b0 : (a2 == 0) = false := beq_eq_false_iff_ne.mpr c68
       have c68b1 : (a2 != 0) = true := bne_iff_ne.mpr c68
       by_cases c73 : a2 = 1
       ·rw [if_pos c73] at H
        have c73b0 : (a2 == 1) = true := beq_iff_eq.mpr c73
        have c73b1 : (a2 != 1) = false := bne_eq_false_iff_eq.mpr c73
        clear c73
        obtain ⟨ji74, hji74⟩ : ∃ j_ : Int, (IntKind.u64.wrap (x12_1)) = j_ := ⟨_, rfl⟩
        replace H : (if 0 ≤ (ji74) then (some (Go.bits .xor .i64 a1 (shl .i64 1 (ji74)), true, true)) else (none)) = some (r1, r2, r3) := by first | (rw [hji74] at H; exact H) | (simp only [hji74] at H ⊢; exact H)
        by_cases c75 : 0 ≤ (ji74)
        ·rw [if_pos c75] at H
         have c75b0 := eq_true c75
         have c75b1 : decide (0 ≤ (ji74)) = true := decide_eq_true c75
         clear c75
         obtain ⟨ji76, hji76⟩ : ∃ j_ : Int, (shl .i64 1 (ji74)) = j_ := ⟨_, rfl⟩
         replace H : (some (Go.bits .xor .i64 a1 (ji76), true, true)) = some (r1, r2, r3) := by first | (rw [hji76] at H; exact H) | (simp only [hji76] at H ⊢; exact H)
         have hji76_ : (IntKind.i64.wrap (1 * 2 ^ min (ji74).toNat 64)) = ji76 := hji76
         have hji76z : (ji74) ≤ 64 → (IntKind.i64.wrap (1 * 2 ^ (ji74).toNat)) = ji76 := shl_small hji76
         have hji76u : (IntKind.i64.wrap (2 ^ min (ji74).toNat 64)) = ji76 := by have h_ := hji76_; rw [Int.one_mul] at h_; exact h_
         have hji76v : (ji74) ≤ 64 → (IntKind.i64.wrap (2 ^ (ji74).toNat)) = ji76 := fun hle_ => by have h_ := hji76z hle_; rw [Int.one_mul] at h_; exact h_
         have hji76y : (wrap64 (1 * 2 ^ min (ji74).toNat 64)) = ji76 := (i64_w _).symm.trans hji76_
         have hji76x : (ji74) ≤ 64 → (wrap64 (1 * 2 ^ (ji74).toNat)) = ji76 := fun h_ => (i64_w _).symm.trans (hji76z h_)
         simp only [Option.some.injEq, Prod.mk.injEq] at H
         obtain ⟨rfl, rfl, rfl⟩ := H
         obtain ⟨Ao77, co77, eo77⟩ := Kd.R_slice HO_9.out
         subst eo77
         go_wp2
         go_ret3
         exact ⟨by first | rfl | (simp [errW_none, errW_some] <;> rfl) | (simp only [← hji74, ← hji76]; first | rfl | (simp [errW_none, errW_some] <;> rfl)) | (simp [*, errW_none, errW_some] <;> rfl), hb_⟩
        ·rw [if_neg c75] at H
         exact absurd H (by simp)
       ·rw [if_neg c73] at H
        have c73b0 : (a2 == 1) = false := beq_eq_false_iff_ne.mpr c73
        have c73b1 : (a2 != 1) = true := bne_iff_ne.mpr c73
        by_cases c78 : a2 = 2
        ·rw [if_pos c78] at H
         have c78b0 : (a2 == 2) = true := beq_iff_eq.mpr c78
         have c78b1 : (a2 != 2) = false := bne_eq_false_iff_eq.mpr c78
         clear c78
         obtain ⟨ji79, hji79⟩ : ∃ j_ : Int, (IntKind.u64.wrap (x13_1)) = j_ := ⟨_, rfl⟩
         replace H : (if 0 ≤ (ji79) then (some (Go.bits .xor .i64 a1 (shl .i64 1 (ji79)), true, true)) else (none)) = some (r1, r2, r3) := by first | (rw [hji79] at H; exact H) | (simp only [hji79] at H ⊢; exact H)
         by_cases c80 : 0 ≤ (ji79)
         ·rw [if_pos c80] at H
          have c80b0 := eq_true c80
          have c80b1 : decide (0 ≤ (ji79)) = true := decide_eq_true c80
          clear c80
          obtain ⟨ji81, hji81⟩ : ∃ j_ : Int, (shl .i64 1 (ji79)) = j_ := ⟨_, rfl⟩
          replace H : (some (Go.bits .xor .i64 a1 (ji81), true, true)) = some (r1, r2, r3) := by first | (rw [hji81] at H; exact H) | (simp only [hji81] at H ⊢; exact H)
          have hji81_ : (IntKind.i64.wrap (1 * 2 ^ min (ji79).toNat 64)) = ji81 := hji81
          have hji81z : (ji79) ≤ 64 → (IntKind.i64.wrap (1 * 2 ^ (ji79).toNat)) = ji81 := shl_small hji81
          have hji81u : (IntKind.i64.wrap (2 ^ min (ji79).toNat 64)) = ji81 := by have h_ := hji81_; rw [Int.one_mul] at h_; exact h_
          have hji81v : (ji79) ≤ 64 → (IntKind.i64.wrap (2 ^ (ji79).toNat)) = ji81 := fun hle_ => by have h_ := hji81z hle_; rw [Int.one_mul] at h_; exact h_
          have hji81y : (wrap64 (1 * 2 ^ min (ji79).toNat 64)) = ji81 := (i64_w _).symm.trans hji81_
          have hji81x : (ji79) ≤ 64 → (wrap64 (1 * 2 ^ (ji79).toNat)) = ji81 := fun h_ => (i64_w _).symm.trans (hji81z h_)
          simp only [Option.some.injEq, Prod.mk.injEq] at H
          obtain ⟨rfl, rfl, rfl⟩ := H
          obtain ⟨Ao82, co82, eo82⟩ := Kd.R_slice HO_9.out
          subst eo82
          go_wp2
          go_ret3
          exact ⟨by first | rfl | (simp [errW_none, errW_some] <;> rfl) | (simp only [← hji79, ← hji81]; first | rfl | (simp [errW_none, errW_some] <;> rfl)) | (simp [*, errW_none, errW_some] <;> rfl), hb_⟩
         ·rw [if_neg c80] at H
          exact absurd H (by simp)
        ·rw [if_neg c78] at H
         have c78b0 : (a2 == 2) = false := beq_eq_false_iff_ne.mpr c78
         have c78b1 : (a2 != 2) = true := bne_iff_ne.mpr c78
         simp only [Option.some.injEq, Prod.mk.injEq] at H
         obtain ⟨rfl, rfl, rfl⟩ := H
         obtain ⟨Ao83, co83, eo83⟩ := Kd.R_slice HO_9.out
         subst eo83
         go_wp2
         go_ret3
         exact ⟨by first | rfl | (simp [errW_none, errW_some] <;> rfl) | (simp [*, errW_none, errW_some] <;> rfl), hb_⟩
 ·replace c5 := Bool.eq_false_iff.mpr c5
  subst c5
  have H1 : (some (a1, false, false)) = some (r1, r2, r3) := by rw [if_neg (show ¬ (false = true) by decide)] at H; exact H
  clear H
  have H := H1
  clear H1
  simp only [Option.some.injEq, Prod.mk.injEq] at H
  obtain ⟨rfl, rfl, rfl⟩ := H
  go_enter Try.func111, Try.ntmps111
  go_wp2_with (first | ((with_reducible refine gate_dst (N := 3) rfl ?_); refine box_event ?hg (N := 3) ?hd (cs := #[.slice A0_0 l0_0.length c0_0, .slice A0_1 l0_1.length c0_1]) (t := 29) ?hr ?_; (case hd => rfl); (case hg => rfl); (case hr => first | (go_simp; done) | (go_simp; rfl)); intro gb631 hg w84 hbox hb; have n0_ := Aside0.mk (bs_ hb); have n1_ := Aside0.mk (hbox); have n2_ := Aside0.mk ((by rw [hg]; exact bz_ : w.heap.size ≤ gb631)); have n3_ := Aside0.mk ((by rw [hg]; exact bz_ : w.heap.size ≤ gb631)); clear HB; have HB := n0_; have BK631 := n1_; have GW631 := n2_; have GE631 := n3_; clear n0_ n1_ n2_ n3_; clear hb hbox hg; have hcz85_0 : w84.cell? ⟨gb631, 0, none⟩ = some (.slice A0_0 l0_0.length c0_0) := (blk_cell BK631.out 0).trans rfl; have hcz85_1 : w84.cell? ⟨gb631, 1, none⟩ = some (.slice A0_1 l0_1.length c0_1) := (blk_cell BK631.out 1).trans rfl; have hfz85_0 := blk_frozen BK631.out 0; have hfz85_1 := blk_frozen BK631.out 1) | ((with_reducible refine gate_callee (f := 67) rfl ?_); refine goesL_ (some 19) rfl rfl Try.func67 (by kernel_rfl) rfl #[.agg #[.slice A0_0 l0_0.length c0_0, .slice A0_1 l0_1.length c0_1], .int .i64 a1] rfl (by (try simp only [List.map_toArray, List.map_cons, List.map_nil]); first | done | rfl | (simp only [List.length_drop, List.length_take]; rfl)) ?_; (with_reducible refine (spec_l01Point.calls k _ _ l0_0 _ _ l0_1 a1 t632 false _ ?side1 ?side2 ?side3 ?side4 A4.out).mono ?_); (case side1 => exact cb_ HR0_0.out HB.out); (case side2 => exact HC0_0.out); (case side3 => exact cb_ HR0_1.out HB.out); (case side4 => exact HC0_1.out); rintro e w86 ⟨v633, rfl, ho0, hb⟩; refine ⟨_, rfl, ?_⟩; have n0_ := Aside0.mk (Kd.R_lower ho0 bz_); have n1_ := Aside0.mk (bb_ BK631.out hb); have n2_ := Aside0.mk (bs_ hb); clear BK631; clear HB; have HO634 := n0_; have BK631 := n1_; have HB := n2_; clear n0_ n1_ n2_; (try clear hb); (try clear hb2); (try clear hk); (try clear hi); (try clear ho0)))
  go_ret3
  exact ⟨by first | rfl | (simp [errW_none, errW_some] <;> rfl) | (simp [*, errW_none, errW_some] <;> rfl), hb_⟩
def impl_ruleCode.f (l0_0 : List (List Int)) (l0_1 : List Int) (a1 : Int) (a2 : Int) : Option (Int) := (impl_setCode.f l0_0 l0_1 a1).bind fun t666 => (if t666 = 0 then ((impl_within.f a2 0 3).bind fun t667 => (if t667 = true then (some 0) else (some 2))) else (some t666))
theorem impl_ruleCode.calls (A0_0 : Option Addr) (c0_0 : Nat) (l0_0 : List (List Int)) (A0_1 : Option Addr) (c0_1 : Nat) (l0_1 : List Int) (a1 : Int) (a2 : Int) (r : Int) (w : World) (hr0_0 : Kd.C (Kd.slice 2 (Kd.int .i64)) w A0_0 l0_0.length l0_0) (hc0_0 : l0_0.length ≤ c0_0) (hr0_1 : Kd.C (Kd.int .i64) w A0_1 l0_1.length l0_1) (hc0_1 : l0_1.length ≤ c0_1) (h : impl_ruleCode.f l0_0 l0_1 a1 a2 = some r) :
  Calls Try.prog 80 #[.agg #[.slice A0_0 l0_0.length c0_0, .slice A0_1 l0_1.length c0_1], .int .i64 a1, .int .i64 a2] w fun e w' => e = .returned (.int .i64 r) ∧ Below w.heap.size w w' := by
 have hu29 := Try.underlying29
 have HR0_0 := Aside0.mk hr0_0
 have HC0_0 := Aside0.mk hc0_0
 clear hr0_0 hc0_0
 have HR0_1 := Aside0.mk hr0_1
 have HC0_1 := Aside0.mk hc0_1
 clear hr0_1 hc0_1
 have HB := Aside0.mk (Below.refl w.heap.size w)
 have H : ((impl_setCode.f l0_0 l0_1 a1).bind fun t666 => (if t666 = 0 then ((impl_within.f a2 0 3).bind fun t667 => (if t667 = true then (some 0) else (some 2))) else (some t666))) = some r := h
 clear h
 replace H := Option.bind_eq_some_iff.mp H
 obtain ⟨t666, A40, H⟩ := H
 replace H : (if t666 = 0 then ((impl_within.f a2 0 3).bind fun t667 => (if t667 = true then (some 0) else (some 2))) else (some t666)) = some r := H
 have A4 := Aside0.mk A40
 clear A40
 by_cases c5 : t666 = 0
 ·rw [if_pos c5] at H
  have c5b0 : (t666 == 0) = true := beq_iff_eq.mpr c5
  have c5b1 : (t666 != 0) = false := bne_eq_false_iff_eq.mpr c5
  clear c5
  replace H := Option.bind_eq_some_iff.mp H
  obtain ⟨t667, A60, H⟩ := H
  replace H : (if t667 = true then (some 0) else (some 2)) = some r := H
  have A6 := Aside0.mk A60
  clear A60
  by_cases c7 : t667 = true
  ·subst c7
   have H1 : (some 0) = some r := by rw [if_pos rfl] at H; exact H
   clear H
   have H := H1
   clear H1
   obtain rfl := Option.some.inj H
   go_enter Try.func80, Try.ntmps80
   go_wp2_with (first | ((with_reducible refine gate_dst (N := 3) rfl ?_); refine box_event ?hg (N := 3) ?hd (cs := #[.slice A0_0 l0_0.length c0_0, .slice A0_1 l0_1.length c0_1]) (t := 29) ?hr ?_; (case hd => rfl); (case hg => rfl); (case hr => first | (go_simp; done) | (go_simp; rfl)); intro gb665 hg w8 hbox hb; have n0_ := Aside0.mk (bs_ hb); have n1_ := Aside0.mk (hbox); have n2_ := Aside0.mk ((by rw [hg]; exact bz_ : w.heap.size ≤ gb665)); have n3_ := Aside0.mk ((by rw [hg]; exact bz_ : w.heap.size ≤ gb665)); clear HB; have HB := n0_; have BK665 := n1_; have GW665 := n2_; have GE665 := n3_; clear n0_ n1_ n2_ n3_; clear hb hbox hg; have hcz9_0 : w8.cell? ⟨gb665, 0, none⟩ = some (.slice A0_0 l0_0.length c0_0) := (blk_cell BK665.out 0).trans rfl; have hcz9_1 : w8.cell? ⟨gb665, 1, none⟩ = some (.slice A0_1 l0_1.length c0_1) := (blk_cell BK665.out 1).trans rfl; have hfz9_0 := blk_frozen BK665.out 0; have hfz9_1 := blk_frozen BK665.out 1) | ((with_reducible refine gate_callee (f := 76) rfl ?_); refine goesL_ (some 10) rfl rfl Try.func76 (by kernel_rfl) rfl #[.agg #[.slice A0_0 l0_0.length c0_0, .slice A0_1 l0_1.length c0_1], .int .i64 a1] rfl (by (try simp only [List.map_toArray, List.map_cons, List.map_nil]); first | done | rfl | (simp only [List.length_drop, List.length_take]; rfl)) ?_; (with_reducible refine (impl_setCode.calls _ _ l0_0 _ _ l0_1 a1 t666 _ ?side1 ?side2 ?side3 ?side4 A4.out).mono ?_); (case side1 => exact cb_ HR0_0.out HB.out); (case side2 => exact HC0_0.out); (case side3 => exact cb_ HR0_1.out HB.out); (case side4 => exact HC0_1.out); rintro e w10 ⟨rfl, hb⟩; refine ⟨_, rfl, ?_⟩; have n0_ := Aside0.mk (bb_ BK665.out hb); have n1_ := Aside0.mk (bs_ hb); clear BK665; clear HB; have BK665 := n0_; have HB := n1_; clear n0_ n1_; (try clear hb); (try clear hb2); (try clear hk); (try clear hi)) | ((with_reducible refine gate_callee (f := 92) rfl ?_); refine goesL_ (some 15) rfl rfl Try.func92 (by kernel_rfl) rfl #[.int .i64 a2, .int .i64 0, .int .i64 3] rfl (by (try simp only [List.map_toArray, List.map_cons, List.map_nil]); first | done | rfl | (simp only [List.length_drop, List.length_take]; rfl)) ?_; (with_reducible refine (impl_within.calls a2 0 3 true _ A6.out).mono ?_); rintro e w' ⟨rfl, ⟨nd, rfl⟩⟩; refine ⟨_, rfl, ?_⟩))
   go_ret
   exact ⟨by first | rfl | (simp [errW_none, errW_some] <;> rfl) | (simp [*, errW_none, errW_some] <;> rfl), hb_⟩
  ·replace c7 := Bool.eq_false_iff.mpr c7
   subst c7
   have H1 : (some 2) = some r := by rw [if_neg (show ¬ (false = true) by decide)] at H; exact H
   clear H
   have H := H1
   clear H1
   obtain rfl := Option.some.inj H
   go_enter Try.func80, Try.ntmps80
   go_wp2_with (first | ((with_reducible refine gate_dst (N := 3) rfl ?_); refine box_event ?hg (N := 3) ?hd (cs := #[.slice A0_0 l0_0.length c0_0, .slice A0_1 l0_1.length c0_1]) (t := 29) ?hr ?_; (case hd => rfl); (case hg => rfl); (case hr => first | (go_simp; done) | (go_simp; rfl)); intro gb665 hg w11 hbox hb; have n0_ := Aside0.mk (bs_ hb); have n1_ := Aside0.mk (hbox); have n2_ := Aside0.mk ((by rw [hg]; exact bz_ : w.heap.size ≤ gb665)); have n3_ := Aside0.mk ((by rw [hg]; exact bz_ : w.heap.size ≤ gb665)); clear HB; have HB := n0_; have BK665 := n1_; have GW665 := n2_; have GE665 := n3_; clear n0_ n1_ n2_ n3_; clear hb hbox hg; have hcz12_0 : w11.cell? ⟨gb665, 0, none⟩ = some (.slice A0_0 l0_0.length c0_0) := (blk_cell BK665.out 0).trans rfl; have hcz12_1 : w11.cell? ⟨gb665, 1, none⟩ = some (.slice A0_1 l0_1.length c0_1) := (blk_cell BK665.out 1).trans rfl; have hfz12_0 := blk_frozen BK665.out 0; have hfz12_1 := blk_frozen BK665.out 1) | ((with_reducible refine gate_callee (f := 76) rfl ?_); refine goesL_ (some 10) rfl rfl Try.func76 (by kernel_rfl) rfl #[.agg #[.slice A0_0 l0_0.length c0_0, .slice A0_1 l0_1.length c0_1], .int .i64 a1] rfl (by (try simp only [List.map_toArray, List.map_cons, List.map_nil]); first | done | rfl | (simp only [List.length_drop, List.length_take]; rfl)) ?_; (with_reducible refine (impl_setCode.calls _ _ l0_0 _ _ l0_1 a1 t666 _ ?side1 ?side2 ?side3 ?side4 A4.out).mono ?_); (case side1 => exact cb_ HR0_0.out HB.out); (case side2 => exact HC0_0.out); (case side3 => exact cb_ HR0_1.out HB.out); (case side4 => exact HC0_1.out); rintro e w13 ⟨rfl, hb⟩; refine ⟨_, rfl, ?_⟩; have n0_ := Aside0.mk (bb_ BK665.out hb); have n1_ := Aside0.mk (bs_ hb); clear BK665; clear HB; have BK665 := n0_; have HB := n1_; clear n0_ n1_; (try clear hb); (try clear hb2); (try clear hk); (try clear hi)) | ((with_reducible refine gate_callee (f := 92) rfl ?_); refine goesL_ (some 15) rfl rfl Try.func92 (by kernel_rfl) rfl #[.int .i64 a2, .int .i64 0, .int .i64 3] rfl (by (try simp only [List.map_toArray, List.map_cons, List.map_nil]); first | done | rfl | (simp only [List.length_drop, List.length_take]; rfl)) ?_; (with_reducible refine (impl_within.calls a2 0 3 false _ A6.out).mono ?_); rintro e w' ⟨rfl, ⟨nd, rfl⟩⟩; refine ⟨_, rfl, ?_⟩))
   go_ret
   exact ⟨by first | rfl | (simp [errW_none, errW_some] <;> rfl) | (simp [*, errW_none, errW_some] <;> rfl), hb_⟩
 ·rw [if_neg c5] at H
  have c5b0 : (t666 == 0) = false := beq_eq_false_iff_ne.mpr c5
  have c5b1 : (t666 != 0) = true := bne_iff_ne.mpr c5
  obtain rfl := Option.some.inj H
  go_enter Try.func80, Try.ntmps80
  go_wp2_with (first | ((with_reducible refine gate_dst (N := 3) rfl ?_); refine box_event ?hg (N := 3) ?hd (cs := #[.slice A0_0 l0_0.length c0_0, .slice A0_1 l0_1.length c0_1]) (t := 29) ?hr ?_; (case hd => rfl); (case hg => rfl); (case hr => first | (go_simp; done) | (go_simp; rfl)); intro gb665 hg w14 hbox hb; have n0_ := Aside0.mk (bs_ hb); have n1_ := Aside0.mk (hbox); have n2_ := Aside0.mk ((by rw [hg]; exact bz_ : w.heap.size ≤ gb665)); have n3_ := Aside0.mk ((by rw [hg]; exact bz_ : w.heap.size ≤ gb665)); clear HB; have HB := n0_; have BK665 := n1_; have GW665 := n2_; have GE665 := n3_; clear n0_ n1_ n2_ n3_; clear hb hbox hg; have hcz15_0 : w14.cell? ⟨gb665, 0, none⟩ = some (.slice A0_0 l0_0.length c0_0) := (blk_cell BK665.out 0).trans rfl; have hcz15_1 : w14.cell? ⟨gb665, 1, none⟩ = some (.slice A0_1 l0_1.length c0_1) := (blk_cell BK665.out 1).trans rfl; have hfz15_0 := blk_frozen BK665.out 0; have hfz15_1 := blk_frozen BK665.out 1) | ((with_reducible refine gate_callee (f := 76) rfl ?_); refine goesL_ (some 10) rfl rfl Try.func76 (by kernel_rfl) rfl #[.agg #[.slice A0_0 l0_0.length c0_0, .slice A0_1 l0_1.length c0_1], .int .i64 a1] rfl (by (try simp only [List.map_toArray, List.map_cons, List.map_nil]); first | done | rfl | (simp only [List.length_drop, List.length_take]; rfl)) ?_; (with_reducible refine (impl_setCode.calls _ _ l0_0 _ _ l0_1 a1 t666 _ ?side1 ?side2 ?side3 ?side4 A4.out).mono ?_); (case side1 => exact cb_ HR0_0.out HB.out); (case side2 => exact HC0_0.out); (case side3 => exact cb_ HR0_1.out HB.out); (case side4 => exact HC0_1.out); rintro e w16 ⟨rfl, hb⟩; refine ⟨_, rfl, ?_⟩; have n0_ := Aside0.mk (bb_ BK665.out hb); have n1_ := Aside0.mk (bs_ hb); clear BK665; clear HB; have BK665 := n0_; have HB := n1_; clear n0_ n1_; (try clear hb); (try clear hb2); (try clear hk); (try clear hi)))
  go_ret
  exact ⟨by first | rfl | (simp [errW_none, errW_some] <;> rfl) | (simp [*, errW_none, errW_some] <;> rfl), hb_⟩
end Go.Proofs.Ythdoilfjcgickaa.Pr
end
section
namespace Go.Proofs.Ythdoilfjcgickaa.Er
open Go.RowKit Go.Proofs.YthdoilfjcgickaaW.PrintWords Go.Proofs.YthdoilfjcgickaaW.PrintMore Go.Proofs.Ythdoilfjcgickaa.Ma Go.Proofs.Ythdoilfjcgickaa.Pr Go.Proofs.Ythdoilfjcgickaa.Dt Go.Proofs.Ythdoilfjcgickaa.Bz Go.Proofs.Ythdoilfjcgickaa.Un Go.Proofs.Ythdoilfjcgickaa.Cz Go.Proofs.Ythdoilfjcgickaa.Pb Go.Proofs.Ythdoilfjcgickaa.Mn Go.Proofs.Ythdoilfjcgickaa.Sv
open Go.Proofs.Ythdoilfjcgickaa.Fr (gc spec_gcd Big)
abbrev T := S65
def fr (p d : Int) : T := ⟨Int.tdiv p (gc p d), Int.tdiv d (gc p d)⟩
def Sm (x : Int) : Prop := -1920000000 ≤ x ∧ x ≤ 1920000000
theorem fr_facts {p d : Int} (hp : Sm p) (h1 : 1 ≤ d) (hd : Sm d) : ∃ g : Int, 1 ≤ g ∧ gc p d = g ∧ p = g * (fr p d).f0 ∧ d = g * (fr p d).f1 ∧ 1 ≤ (fr p d).f1 ∧ (fr p d).f1 ≤ 1920000000 ∧ Sm (fr p d).f0 := by
 unfold Sm at *
 have h0 : 0 < Int.gcd p d := Int.gcd_pos_of_ne_zero_right p (by omega)
 have hg : 1 ≤ gc p d := by unfold gc; omega
 have d1 : gc p d ∣ p := Int.gcd_dvd_left p d
 have d2 : gc p d ∣ d := Int.gcd_dvd_right p d
 generalize hgg : gc p d = g at *
 obtain ⟨a, ha⟩ := d1
 obtain ⟨b, hb⟩ := d2
 have e1 : Int.tdiv p g = a := by rw [ha]; exact Int.mul_tdiv_cancel_left a (by omega)
 have e2 : Int.tdiv d g = b := by rw [hb]; exact Int.mul_tdiv_cancel_left b (by omega)
 have fb : (fr p d).f0 = a ∧ (fr p d).f1 = b := by unfold fr; rw [hgg]; exact ⟨e1, e2⟩
 rw [fb.1, fb.2]
 have b1 : 1 ≤ b := by
  by_cases q : 1 ≤ b
  ·exact q
  ·have : g * b ≤ 0 := Int.mul_nonpos_of_nonneg_of_nonpos (by omega) (by omega)
   omega
 have b2 : b ≤ d := by
  have : 1 * b ≤ g * b := Int.mul_le_mul_of_nonneg_right hg (by omega)
  omega
 have a1 : a.natAbs ≤ p.natAbs := by
  rw [ha, Int.natAbs_mul]
  have : 1 * a.natAbs ≤ g.natAbs * a.natAbs := Nat.mul_le_mul_right _ (by omega)
  omega
 exact ⟨g, hg, rfl, ha, hb, b1, by omega, by omega⟩
theorem fr_neg {p d : Int} (hp : Sm p) (h1 : 1 ≤ d) (hd : Sm d) : (fr p d).f0 < 0 ↔ p < 0 := by
 obtain ⟨g, hg, _, e1, _⟩ := fr_facts hp h1 hd
 generalize (fr p d).f0 = a at e1
 subst e1
 constructor
 ·intro h; exact Int.mul_neg_of_pos_of_neg (by omega) h
 ·intro h
  by_cases q : a < 0
  ·exact q
  ·have : 0 ≤ g * a := Int.mul_nonneg (by omega) (by omega)
   omega
theorem spec_frac {x D : Int} (hx : Sm x) (hD : Sm D) (h0 : D ≠ 0) : Ev (fun k => spec_l01Frac.f k x D) ((fr (sgn D * x) (if D < 0 then - D else D)).f0, (fr (sgn D * x) (if D < 0 then - D else D)).f1) := by
 unfold spec_l01Frac.f
 have hh := hx; have hDD := hD
 unfold Sm at hh hDD
 by_cases c : D < 0
 ·have e : sgn D * x = -x := by unfold sgn; rw [if_pos c]; omega
  rw [e, if_pos c]
  obtain ⟨g, hg, hgc, e1, e2, e3, e4, e5⟩ := fr_facts (p := -x) (d := -D) (by unfold Sm; omega) (by omega) (by unfold Sm; omega)
  unfold Sm at e5
  refine evpos c ?_
  rw [w64 (x := -x) (by omega) (by omega), w64 (x := -D) (by omega) (by omega)]
  refine evbind (spec_gcd (-x) (-D) (by unfold Big; omega) (by unfold Big; omega)) ?_
  rw [hgc]
  refine evneg (by omega) ?_
  have f0 : Int.tdiv (-x) g = (fr (-x) (-D)).f0 := by unfold fr; rw [hgc]
  have f1 : Int.tdiv (-D) g = (fr (-x) (-D)).f1 := by unfold fr; rw [hgc]
  rw [f0, f1, w64 (x := (fr (-x) (-D)).f0) (by omega) (by omega), w64 (x := (fr (-x) (-D)).f1) (by omega) (by omega)]
  exact evc rfl
 ·have e : sgn D * x = x := by unfold sgn; rw [if_neg c, if_pos (by omega)]; omega
  rw [e, if_neg c]
  obtain ⟨g, hg, hgc, e1, e2, e3, e4, e5⟩ := fr_facts (p := x) (d := D) hx (by omega) hD
  unfold Sm at e5
  refine evneg c ?_
  refine evbind (spec_gcd x D (by unfold Big; omega) (by unfold Big; omega)) ?_
  rw [hgc]
  refine evneg (by omega) ?_
  have f0 : Int.tdiv x g = (fr x D).f0 := by unfold fr; rw [hgc]
  have f1 : Int.tdiv D g = (fr x D).f1 := by unfold fr; rw [hgc]
  rw [f0, f1, w64 (x := (fr x D).f0) (by omega) (by omega), w64 (x := (fr x D).f1) (by omega) (by omega)]
  exact evc rfl
structure St where
 f : Int
 la : Int
 le : Int
 al : Nat
def nx (P : Nat → Int) (i : Nat) (σ : St) : St := if P i < 0 then ⟨if σ.f < 0 then (i : Int) else σ.f, i, if σ.le < 0 then (i : Int) else if P i < P σ.le.toNat then (i : Int) else σ.le, σ.al ||| 2 ^ i⟩ else σ
def st (P : Nat → Int) : Nat → St
 | 0 => ⟨-1, -1, -1, 0⟩
 | i + 1 => nx P i (st P i)
structure Inv (P : Nat → Int) (i : Nat) (σ : St) : Prop where
 none_ : σ.f < 0 → σ.f = -1 ∧ σ.la = -1 ∧ σ.le = -1 ∧ σ.al = 0 ∧ ∀ j, j < i → ¬ P j < 0
 some_ : ¬ σ.f < 0 → σ.f < i ∧ 0 ≤ σ.la ∧ σ.la < i ∧ 0 ≤ σ.le ∧ σ.le < i ∧ σ.al ≠ 0
 lt : σ.al < 2 ^ i
theorem st_inv (P : Nat → Int) : ∀ i, Inv P i (st P i)
 | 0 => ⟨fun _ => ⟨rfl, rfl, rfl, rfl, fun j hj => by omega⟩, fun h => absurd (show (-1 : Int) < 0 by decide) h, show 0 < 2 ^ 0 by decide⟩
 | i + 1 => by
  have h := st_inv P i
  show Inv P (i + 1) (nx P i (st P i))
  generalize st P i = σ at h ⊢
  have hp : (2 : Nat) ^ (i + 1) = 2 ^ i + 2 ^ i := by rw [Nat.pow_succ]; omega
  have hpos : 0 < (2 : Nat) ^ i := Nat.pow_pos (by decide)
  have hlt := h.lt
  unfold nx
  by_cases c : P i < 0
  ·rw [if_pos c]
   refine ⟨fun q => ?_, fun q => ?_, ?_⟩
   ·simp only at q
    split at q <;> omega
   ·refine ⟨?_, by simp, by simp; omega, ?_, ?_, ?_⟩
    ·simp only
     split
     ·omega
     ·next d => have := (h.some_ d).1; omega
    ·simp only
     split
     ·omega
     ·split <;> omega
    ·simp only
     split
     ·omega
     ·next d =>
      have hf : ¬ σ.f < 0 := fun z => d (by have := (h.none_ z).2.2.1; omega)
      have := (h.some_ hf).2.2.2.2.1
      split <;> omega
    ·simp only
     have : 2 ^ i ≤ σ.al ||| 2 ^ i := Nat.right_le_or
     omega
   ·simp only
    exact Nat.or_lt_two_pow (by omega) (by omega)
  ·rw [if_neg c]
   refine ⟨fun q => ?_, fun q => ?_, by omega⟩
   ·obtain ⟨a, b, d, e, f⟩ := h.none_ q
    refine ⟨a, b, d, e, fun j hj => ?_⟩
    by_cases z : j = i
    ·subst z; exact c
    ·exact f j (by omega)
   ·obtain ⟨a, b, d, e, f, g⟩ := h.some_ q
    exact ⟨by omega, b, by omega, e, by omega, g⟩
theorem or_pow {A i : Nat} (hA : A < 2 ^ i) (hi : i ≤ 5) : Go.bits .or .i64 (A : Int) (shl .i64 1 (i : Int)) = ((A ||| 2 ^ i : Nat) : Int) := by
 rw [shl_one (by omega) (by omega), Int.toNat_natCast]
 have h1 : (2 : Nat) ^ i < 2 ^ 63 := Nat.pow_lt_pow_right (by decide) (by omega)
 exact or_nat (by omega) h1
section
variable {n : Nat} (hn : n ≤ 5) (P : Nat → Int)
include hn
end
end Go.Proofs.Ythdoilfjcgickaa.Er
end
section
namespace Go.Proofs.Ythdoilfjcgickaa.Er
open Go.RowKit Go.Proofs.YthdoilfjcgickaaW.PrintWords Go.Proofs.YthdoilfjcgickaaW.PrintMore Go.Proofs.Ythdoilfjcgickaa.Ma Go.Proofs.Ythdoilfjcgickaa.Pr Go.Proofs.Ythdoilfjcgickaa.Dt Go.Proofs.Ythdoilfjcgickaa.Bz Go.Proofs.Ythdoilfjcgickaa.Un Go.Proofs.Ythdoilfjcgickaa.Cz Go.Proofs.Ythdoilfjcgickaa.Pb Go.Proofs.Ythdoilfjcgickaa.Mn Go.Proofs.Ythdoilfjcgickaa.Sv
def ab (d : Int) : Int := if d < 0 then - d else d
section
variable {n : Nat} {l : List (List Int)} (h : Sq n l) (hn : n ≤ 5) (s : Int) (x : List Int) (hx : ∀ r, r < n → (x.getD r 0).natAbs ≤ 100) (hxl : x.length = n)
include h hn hx hxl
theorem P_sm (i : Nat) : Sm (sgn (det n (colM (bB s) (en l))) * dc n (colM (bB s) (en l)) x i) := by
 have b := dc_b h hn s x hx i
 have _h := hxl
 unfold Sm sgn
 split
 ·omega
 ·split <;> omega
theorem spec_point : Ev (fun k => spec_l01Point.f k l x s) (if det n (colM (bB s) (en l)) = 0 then ([], false) else ((List.range n).map fun i => fr (sgn (det n (colM (bB s) (en l))) * dc n (colM (bB s) (en l)) x i) (ab (det n (colM (bB s) (en l)))), true)) := by
 unfold spec_l01Point.f
 refine evbind (spec_cols h hn s) (evbind (spec_solve h hn s x hx hxl) ?_)
 have db := D_b h hn s
 by_cases d : det n (colM (bB s) (en l)) = 0
 ·rw [if_pos d]; exact evpos d (evc rfl)
 ·rw [if_neg d]
  refine evneg d ?_
  have loop : ∀ q i, i + q = n → Ev (fun k => spec_l01Point.l0 k ((List.range n).map (dc n (colM (bB s) (en l)) x)) (det n (colM (bB s) (en l))) ((List.range i).map fun i => fr (sgn (det n (colM (bB s) (en l))) * dc n (colM (bB s) (en l)) x i) (ab (det n (colM (bB s) (en l))))) i) ((List.range n).map fun i => fr (sgn (det n (colM (bB s) (en l))) * dc n (colM (bB s) (en l)) x i) (ab (det n (colM (bB s) (en l)))), true) := by
   intro q
   induction q with
   | zero =>
    intro i hi
    obtain rfl : i = n := by omega
    exact evstep (fun k => by rw [spec_l01Point.l0]) (evneg (by simp) (evc rfl))
   | succ q ih =>
    intro i hi
    have nx := ih (i + 1) (by omega)
    rw [List.range_succ, List.map_append] at nx
    refine evstep (fun k => by rw [spec_l01Point.l0]) (evpos (by simp; omega) (evpos (by omega) ?_))
    rw [rd_nat, show ((List.range n).map (dc n (colM (bB s) (en l)) x)).getD i 0 = dc n (colM (bB s) (en l)) x i from by simp [show i < n by omega], w64 (x := (i : Int) + 1) (by omega) (by omega)]
    refine evbind (spec_frac (x := dc n (colM (bB s) (en l)) x i) (D := det n (colM (bB s) (en l))) (by unfold Sm; exact dc_b h hn s x hx i) (by unfold Sm; exact db) d) ?_
    refine evpos (by rw [List.length_map, List.length_range]; omega) ?_
    exact nx
  exact loop n 0 (by omega)
end
theorem POK.small {M : List (List Int)} {Q : List Int} (p : POK M Q) (r : Nat) (hr : r < M.length) : (Q.getD r 0).natAbs ≤ 100 := by
 have := p.num r (Nat.zero_le _) (by have := p.len; omega)
 unfold N100 at this
 omega
end Go.Proofs.Ythdoilfjcgickaa.Er
end
section
namespace Go.Proofs.Ythdoilfjcgickaa.Cu
open Go.RowKit Go.Proofs.YthdoilfjcgickaaW.PrintWords Go.Proofs.YthdoilfjcgickaaW.PrintMore Go.Proofs.Ythdoilfjcgickaa.Ma Go.Proofs.Ythdoilfjcgickaa.Pr
def at_ (l : List Int) (v : Nat) : Int := l.getD v 0
def Edge (l : List Int) (v j : Nat) : Prop := bB (at_ l v) j ≠ bB (at_ l (v ^^^ 2 ^ j)) j
def VOK (d : Nat) (l : List Int) (v : Nat) : Prop := 0 ≤ at_ l v ∧ at_ l v ≤ (l.length : Int) - 1 ∧ ∀ j, j < d → Edge l v j
def CubeOK (d : Nat) (l : List Int) : Prop := 1 ≤ d ∧ d ≤ 5 ∧ l.length = 2 ^ d ∧ ∀ v, v < l.length → VOK d l v
theorem pow_le {d : Nat} (h : d ≤ 5) : 2 ^ d ≤ 32 := Nat.pow_le_pow_right (n := 2) (by decide) h
theorem pow_lt63 {i : Nat} (h : i < 63) : 2 ^ i < 2 ^ 63 := Nat.pow_lt_pow_right (by decide) h
theorem within_eq (x a b : Int) : spec_l01In.f x a b = some (decide (a ≤ x ∧ x ≤ b)) := by
 unfold spec_l01In.f
 by_cases h : a ≤ x
 ·rw [if_pos (by omega)]; simp [h]
 ·rw [if_neg (by omega)]; simp [h]
theorem iwithin_eq (x a b : Int) : impl_within.f x a b = some (decide (a ≤ x ∧ x ≤ b)) := by
 unfold impl_within.f
 by_cases h : a ≤ x
 ·rw [if_pos (by omega)]; simp [h]
 ·rw [if_neg (by omega)]; simp [h]
theorem has_eq (x : Int) {i : Nat} (h : i < 64) : impl_has.f x (i : Int) = some (bB x i) := by
 unfold impl_has.f
 rw [if_pos (by omega), shr_and_one x h]
 cases bB x i <;> rfl
theorem xor_pow {v i : Nat} (hv : v < 2 ^ 63) (hi : i < 63) : Go.bits .xor .i64 (v : Int) (shl .i64 1 (i : Int)) = ((v ^^^ 2 ^ i : Nat) : Int) := by
 rw [shl_one (by omega) (by omega), Int.toNat_natCast]
 exact xor_nat hv (pow_lt63 hi)
theorem and_shl (x : Int) {i : Nat} (hi : i < 63) : Go.bits .and .i64 x (shl .i64 1 (i : Int)) = if bB x i = true then 2 ^ i else 0 := by
 rw [shl_one (by omega) (by omega), Int.toNat_natCast]
 have e2 : ((2 ^ i : Nat) : Int) = 2 ^ i := by simp
 rw [e2]
 exact and_pow x hi
theorem and_same (x y : Int) {i : Nat} (hi : i < 63) : Go.bits .and .i64 x (shl .i64 1 (i : Int)) = Go.bits .and .i64 y (shl .i64 1 (i : Int)) ↔ bB x i = bB y i := by
 rw [and_shl x hi, and_shl y hi]
 have hp : (2 : Int) ^ i ≠ 0 := Int.ne_of_gt (Int.pow_pos (by decide))
 cases bB x i <;> cases bB y i <;> simp [hp, Ne.symm hp]
theorem split_head {P : Nat → Prop} {i d : Nat} (h : i < d) : (∀ j, i ≤ j → j < d → P j) ↔ P i ∧ ∀ j, i + 1 ≤ j → j < d → P j :=
 ⟨fun f => ⟨f i (Nat.le_refl _) h, fun j h1 h2 => f j (by omega) h2⟩, fun ⟨a, f⟩ j h1 h2 => by
  by_cases e : i = j
  ·subst e; exact a
  ·exact f j (by omega) h2⟩
theorem bool_iff {b : Bool} {p : Prop} (h : b = true ↔ p) (hp : ¬ p) : b = false := by
 cases b
 ·rfl
 ·exact absurd (h.1 rfl) hp
theorem xor_lt {d : Nat} {l : List Int} (hn : l.length = 2 ^ d) {v i : Nat} (hv : v < l.length) (hi : i < d) : v ^^^ 2 ^ i < l.length := by
 rw [hn] at hv ⊢
 exact Nat.xor_lt_two_pow hv (Nat.pow_lt_pow_right (by decide) hi)
section
variable {d : Nat} {l : List Int} (hd : d ≤ 5) (hn : l.length = 2 ^ d)
include hd hn
theorem len32 : l.length ≤ 32 := by rw [hn]; exact pow_le hd
theorem spec_in (v : Nat) (hv : v < l.length) (next : ∀ b, (b = true ↔ ∀ u, v + 1 ≤ u → u < l.length → VOK d l u) → Ev (fun k => spec_l06Is.l0 k ((v + 1 : Nat) : Int) d l) b) :
  ∀ m i, i + m = d → ∀ b, (b = true ↔ (∀ j, i ≤ j → j < d → Edge l v j) ∧ ∀ u, v + 1 ≤ u → u < l.length → VOK d l u) → Ev (fun k => spec_l06Is.l1 k v i d l) b := by
 have h32 := len32 hd hn
 intro m
 induction m with
 | zero =>
  intro i hi b hb
  refine evstep (fun k => by rw [spec_l06Is.l1]) ?_
  refine evneg (by omega) ?_
  rw [w64 (by omega) (by omega)]
  exact next b (hb.trans ⟨fun h => h.2, fun h => ⟨fun j h1 h2 => by omega, h⟩⟩)
 | succ m ih =>
  intro i hi b hb
  have hid : i < d := by omega
  have hx := xor_lt hn hv hid
  refine evstep (fun k => by rw [spec_l06Is.l1]) ?_
  refine evpos (by omega) ?_
  rw [u64w (by omega) (by omega), xor_pow (by omega) (by omega)]
  refine evpos (by omega) (evpos (by omega) (evpos (by omega) (evpos (by omega) (evpos (by omega) ?_))))
  rw [split_head hid, and_assoc] at hb
  rw [rd_nat, rd_nat]
  by_cases e : bB (at_ l v) i = bB (at_ l (v ^^^ 2 ^ i)) i
  ·refine evpos ((and_same _ _ (by omega)).2 e) ?_
   rw [bool_iff hb (fun h => h.1 e)]
   exact evc rfl
  ·refine evneg (fun h => e ((and_same _ _ (by omega)).1 h)) ?_
   rw [w64 (by omega) (by omega)]
   exact ih (i + 1) (by omega) b (hb.trans ⟨fun h => h.2, fun h => ⟨e, h⟩⟩)
theorem spec_out : ∀ m v, v + m = l.length → ∀ b, (b = true ↔ ∀ u, v ≤ u → u < l.length → VOK d l u) → Ev (fun k => spec_l06Is.l0 k v d l) b := by
 have h32 := len32 hd hn
 intro m
 induction m with
 | zero =>
  intro v hv b hb
  refine evstep (fun k => by rw [spec_l06Is.l0]) ?_
  refine evneg (by omega) ?_
  rw [hb.2 (fun u h1 h2 => by omega)]
  exact evc rfl
 | succ m ih =>
  intro v hv b hb
  have hlt : v < l.length := by omega
  refine evstep (fun k => by rw [spec_l06Is.l0]) ?_
  refine evpos (by omega) (evpos (by omega) (evsome (within_eq _ _ _) ?_))
  rw [w64 (by omega) (by omega), rd_nat]
  rw [split_head hlt] at hb
  by_cases e : 0 ≤ at_ l v ∧ at_ l v ≤ (l.length : Int) - 1
  ·refine evpos (by simpa [at_] using e) ?_
   refine spec_in hd hn v hlt (ih (v + 1) (by omega)) d 0 (by omega) b (hb.trans ?_)
   exact ⟨fun h => ⟨fun j _ hj => h.1.2.2 j hj, h.2⟩, fun h => ⟨⟨e.1, e.2, fun j hj => h.1 j (Nat.zero_le _) hj⟩, h.2⟩⟩
  ·refine evneg (by simpa [at_] using e) ?_
   rw [bool_iff hb (fun h => e ⟨h.1.1, h.1.2.1⟩)]
   exact evc rfl
theorem impl_in (v : Nat) (hv : v < l.length) (next : ∀ b, (b = true ↔ ∀ u, v + 1 ≤ u → u < l.length → VOK d l u) → Ev (fun k => impl_IsCube.l0 k l (l.length : Int) ((v + 1 : Nat) : Int) d l) b) :
  ∀ m i, i + m = d → ∀ b, (b = true ↔ (∀ j, i ≤ j → j < d → Edge l v j) ∧ ∀ u, v + 1 ≤ u → u < l.length → VOK d l u) → Ev (fun k => impl_IsCube.l1 k v (at_ l v) l (l.length : Int) v d i d l) b := by
 have h32 := len32 hd hn
 intro m
 induction m with
 | zero =>
  intro i hi b hb
  refine evstep (fun k => by rw [impl_IsCube.l1]) ?_
  refine evneg (by omega) ?_
  rw [w64 (by omega) (by omega)]
  exact next b (hb.trans ⟨fun h => h.2, fun h => ⟨fun j h1 h2 => by omega, h⟩⟩)
 | succ m ih =>
  intro i hi b hb
  have hid : i < d := by omega
  have hx := xor_lt hn hv hid
  refine evstep (fun k => by rw [impl_IsCube.l1]) ?_
  refine evpos (by omega) (evsome (has_eq _ (by omega)) ?_)
  rw [xor_pow (by omega) (by omega)]
  refine evpos (by omega) (evpos (by omega) (evpos (by omega) ?_))
  rw [rd_nat]
  refine evsome (has_eq _ (by omega)) ?_
  rw [split_head hid, and_assoc] at hb
  by_cases e : bB (at_ l v) i = bB (at_ l (v ^^^ 2 ^ i)) i
  ·refine evpos (by simpa [at_] using e) ?_
   rw [bool_iff hb (fun h => h.1 e)]
   exact evc rfl
  ·refine evneg (by simpa [at_] using e) ?_
   rw [w64 (by omega) (by omega)]
   exact ih (i + 1) (by omega) b (hb.trans ⟨fun h => h.2, fun h => ⟨e, h⟩⟩)
theorem impl_out : ∀ m v, v + m = l.length → ∀ b, (b = true ↔ ∀ u, v ≤ u → u < l.length → VOK d l u) → Ev (fun k => impl_IsCube.l0 k l (l.length : Int) v d l) b := by
 have h32 := len32 hd hn
 intro m
 induction m with
 | zero =>
  intro v hv b hb
  refine evstep (fun k => by rw [impl_IsCube.l0]) ?_
  refine evneg (by omega) ?_
  rw [hb.2 (fun u h1 h2 => by omega)]
  exact evc rfl
 | succ m ih =>
  intro v hv b hb
  have hlt : v < l.length := by omega
  refine evstep (fun k => by rw [impl_IsCube.l0]) ?_
  refine evpos (by omega) (evpos (by omega) (evpos (by omega) (evsome (iwithin_eq _ _ _) ?_)))
  rw [w64 (by omega) (by omega), rd_nat]
  rw [split_head hlt] at hb
  by_cases e : 0 ≤ at_ l v ∧ at_ l v ≤ (l.length : Int) - 1
  ·refine evpos (by simpa [at_] using e) ?_
   refine impl_in hd hn v hlt (ih (v + 1) (by omega)) d 0 (by omega) b (hb.trans ?_)
   exact ⟨fun h => ⟨fun j _ hj => h.1.2.2 j hj, h.2⟩, fun h => ⟨⟨e.1, e.2, fun j hj => h.1 j (Nat.zero_le _) hj⟩, h.2⟩⟩
  ·refine evneg (by simpa [at_] using e) ?_
   rw [bool_iff hb (fun h => e ⟨h.1.1, h.1.2.1⟩)]
   exact evc rfl
end
theorem small {d : Nat} (hd : d ≤ 5) {x : Nat} (h : x < 2 ^ d) : x < 2 ^ 63 := by have := pow_le hd; omega
theorem len_test (d : Nat) (l : List Int) (hd : d ≤ 5) : ((l.length : Int) != shl .i64 1 (d : Int)) = decide (l.length ≠ 2 ^ d) := by
 rw [shl_one (by omega) (by omega), Int.toNat_natCast, Bool.eq_iff_iff]
 simp only [bne_iff_ne, decide_eq_true_eq, ne_eq]
 exact ⟨fun h e => h (by exact_mod_cast e), fun h e => h (by exact_mod_cast e)⟩
def IsC (d : Int) (l : List Int) : Prop := 0 ≤ d ∧ CubeOK d.toNat l
theorem spec_is (d : Int) (l : List Int) (b : Bool) (hb : b = true ↔ IsC d l) : Ev (fun k => spec_l06Is.f k d l) b := by
 unfold spec_l06Is.f
 refine evsome (within_eq _ _ _) ?_
 by_cases h : 1 ≤ d ∧ d ≤ 5
 ·refine evpos (by simpa using h) ?_
  rw [u64w (by omega) (by omega)]
  refine evpos (by omega) (evstep (fun k => by rw [spec_l06Is.j0]) ?_)
  obtain ⟨n, rfl⟩ := Int.eq_ofNat_of_zero_le (show 0 ≤ d by omega)
  rw [len_test n l (by omega)]
  by_cases e : l.length = 2 ^ n
  ·refine evneg (by simpa using e) ?_
   refine spec_out (by omega) e l.length 0 (by omega) b (hb.trans ?_)
   exact ⟨fun k u _ hu => k.2.2.2.2 u hu, fun k => ⟨by omega, by simp only [Int.toNat_natCast]; omega, by simp only [Int.toNat_natCast]; omega, e, fun v hv => k v (Nat.zero_le _) hv⟩⟩
  ·refine evpos (by simpa using e) ?_
   rw [bool_iff hb (fun k => e k.2.2.2.1)]
   exact evc rfl
 ·refine evneg (by simpa using h) (evstep (fun k => by rw [spec_l06Is.j0]) (evpos rfl ?_))
  rw [bool_iff hb (fun k => h (by have := k.2.1; have := k.2.2.1; have := k.1; omega))]
  exact evc rfl
theorem impl_is (d : Int) (l : List Int) (b : Bool) (hb : b = true ↔ IsC d l) : Ev (fun k => impl_IsCube.f k d l) b := by
 unfold impl_IsCube.f
 refine evsome (iwithin_eq _ _ _) ?_
 by_cases h : 1 ≤ d ∧ d ≤ 5
 ·refine evpos (by simpa using h) (evpos (by omega) (evstep (fun k => by rw [impl_IsCube.j0]) ?_))
  obtain ⟨n, rfl⟩ := Int.eq_ofNat_of_zero_le (show 0 ≤ d by omega)
  rw [len_test n l (by omega)]
  by_cases e : l.length = 2 ^ n
  ·refine evneg (by simpa using e) ?_
   refine impl_out (by omega) e l.length 0 (by omega) b (hb.trans ?_)
   exact ⟨fun k u _ hu => k.2.2.2.2 u hu, fun k => ⟨by omega, by simp only [Int.toNat_natCast]; omega, by simp only [Int.toNat_natCast]; omega, e, fun v hv => k v (Nat.zero_le _) hv⟩⟩
  ·refine evpos (by simpa using e) ?_
   rw [bool_iff hb (fun k => e k.2.2.2.1)]
   exact evc rfl
 ·refine evneg (by simpa using h) (evstep (fun k => by rw [impl_IsCube.j0]) (evpos rfl ?_))
  rw [bool_iff hb (fun k => h (by have := k.2.1; have := k.2.2.1; have := k.1; omega))]
  exact evc rfl
end Go.Proofs.Ythdoilfjcgickaa.Cu
end
section
namespace Go.Proofs.Ythdoilfjcgickaa.Sl
open Go.RowKit Go.Proofs.YthdoilfjcgickaaW.PrintWords Go.Proofs.YthdoilfjcgickaaW.PrintMore Go.Proofs.Ythdoilfjcgickaa.Ma Go.Proofs.Ythdoilfjcgickaa.Pr
theorem index_loop (xs : List Int) (a : Int) (hx : xs.length ≤ 1048576) : ∀ m i, i + m = xs.length → ∃ r : Int, Ev (fun k => slices_Index_int64_int64.l0 k xs a (xs.length : Int) (i : Nat)) r ∧ (0 ≤ r ↔ a ∈ xs.drop i) := by
 intro m
 induction m with
 | zero =>
  intro i hi
  refine ⟨-1, ?_, by rw [List.drop_of_length_le (by omega)]; simp⟩
  refine evstep (fun k => by rw [slices_Index_int64_int64.l0]) ?_
  exact evneg (by omega) (evc rfl)
 | succ m ih =>
  intro i hi
  have hlt : i < xs.length := by omega
  have e1 : xs.getD i 0 = xs[i] := by simp [hlt]
  by_cases c : a = xs[i]
  ·refine ⟨i, ?_, by rw [List.drop_eq_getElem_cons hlt, List.mem_cons]; exact ⟨fun _ => .inl c, fun _ => by omega⟩⟩
   refine evstep (fun k => by rw [slices_Index_int64_int64.l0]) (evpos (by omega) (evpos (by omega) (evpos (by omega) ?_)))
   rw [rd_nat, e1]
   exact evpos c (evc rfl)
  ·obtain ⟨r, hr, hi'⟩ := ih (i + 1) (by omega)
   refine ⟨r, ?_, by rw [hi', List.drop_eq_getElem_cons hlt, List.mem_cons]; exact ⟨.inr, fun h => h.elim (fun e => absurd e c) id⟩⟩
   refine evstep (fun k => by rw [slices_Index_int64_int64.l0]) (evpos (by omega) (evpos (by omega) (evpos (by omega) ?_)))
   rw [rd_nat, e1, w64 (by omega) (by omega)]
   exact evneg c hr
theorem contains_eq (xs : List Int) (a : Int) (hx : xs.length ≤ 1048576) : Ev (fun k => slices_Contains_int64_int64.f k xs a) (decide (a ∈ xs)) := by
 obtain ⟨r, hr, hi⟩ := index_loop xs a hx xs.length 0 (by omega)
 rw [List.drop_zero] at hi
 unfold slices_Contains_int64_int64.f slices_Index_int64_int64.f
 refine evbind hr (evc ?_)
 have : decide (r ≥ 0) = decide (a ∈ xs) := by rw [decide_eq_decide]; exact hi
 rw [this]
end Go.Proofs.Ythdoilfjcgickaa.Sl
end
section
namespace Go.Proofs.Ythdoilfjcgickaa.Pc
open Go.RowKit Go.Proofs.YthdoilfjcgickaaW.PrintWords Go.Proofs.YthdoilfjcgickaaW.PrintMore Go.Proofs.Ythdoilfjcgickaa.Ma Go.Proofs.Ythdoilfjcgickaa.Pr Go.Proofs.Ythdoilfjcgickaa.Dt Go.Proofs.Ythdoilfjcgickaa.Bz Go.Proofs.Ythdoilfjcgickaa.Un Go.Proofs.Ythdoilfjcgickaa.Cz Go.Proofs.Ythdoilfjcgickaa.Pb Go.Proofs.Ythdoilfjcgickaa.Mn Go.Proofs.Ythdoilfjcgickaa.Sv Go.Proofs.Ythdoilfjcgickaa.Er
theorem fr_zero {p d : Int} (hp : Sm p) (h1 : 1 ≤ d) (hd : Sm d) : (fr p d).f0 = 0 ↔ p = 0 := by
 obtain ⟨g, g1, _, e, _⟩ := fr_facts hp h1 hd
 constructor
 ·intro h; rw [e, h, Int.mul_zero]
 ·intro h
  subst h
  unfold fr
  show Int.tdiv 0 (Fr.gc 0 d) = 0
  exact Int.zero_tdiv _
section
variable {n : Nat} {l : List (List Int)} (h : Sq n l) (hn : n ≤ 5) (Q : List Int) (hx : ∀ r, r < n → (Q.getD r 0).natAbs ≤ 100) (hQ : Q.length = n)
def dS (n : Nat) (l : List (List Int)) (s : Int) : Int := det n (colM (bB s) (en l))
def pS (n : Nat) (l : List (List Int)) (Q : List Int) (s : Int) (i : Nat) : Int := sgn (dS n l s) * dc n (colM (bB s) (en l)) Q i
def bad (n : Nat) (l : List (List Int)) (Q : List Int) (s : Int) : Prop := dS n l s = 0 ∨ ∃ i, i < n ∧ pS n l Q s i = 0
open Classical in
noncomputable def goC (n : Nat) (l : List (List Int)) (Q : List Int) : Nat → Nat → List Int → Int × List Int × Int
 | 0, _, out => if Cu.IsC n out then (n, out, 0) else (0, [], 5)
 | q + 1, s, out => if bad n l Q (s : Int) then (0, [], 5) else goC n l Q q (s + 1) (out ++ [((st (pS n l Q (s : Int)) n).al : Int)])
include h hn hx hQ
theorem impl_cube (hp : 0 < n) : ∀ (q s : Nat) (out : List Int), s + q = 2 ^ n → out.length = s → Ev (fun k => impl_CubeOfProblem.l0 k ((2 ^ n : Nat) : Int) (s : Int) l Q (n : Int) out) (goC n l Q q s out) := by
 have hpw : 2 ^ n ≤ 2 ^ 5 := Nat.pow_le_pow_right (by decide) hn
 intro q
 induction q with
 | zero =>
  intro s out hs hl
  refine evstep (fun k => by rw [impl_CubeOfProblem.l0]) (evneg (by omega) ?_)
  classical
  refine evbind (Cu.impl_is (n : Int) out (decide (Cu.IsC n out)) (by simp)) ?_
  unfold goC
  by_cases c : Cu.IsC n out
  ·rw [if_pos c]; exact evpos (by simpa using c) (evc rfl)
  ·rw [if_neg c]; exact evneg (by simpa using c) (evc rfl)
 | succ q ih =>
  intro s out hs hl
  refine evstep (fun k => by rw [impl_CubeOfProblem.l0]) (evpos (by omega) ?_)
  have si := impl_solve h hn (s : Int) Q hx Q hQ hQ hp
  unfold solR at si
  unfold goC
  classical
  by_cases d : dS n l (s : Int) = 0
  ·rw [if_pos (show bad n l Q (s : Int) from .inl d)]
   unfold dS at d
   rw [if_pos d] at si
   unfold impl_Problem_point.f
   refine evbind (evbind si (evc rfl)) (evneg (by simp) ?_)
   refine evstep (fun k => by rw [impl_CubeOfProblem.j1]) ?_
   exact evpos rfl (evc rfl)
  ·have d' := d
   unfold dS at d'
   rw [if_neg d'] at si
   unfold impl_Problem_point.f
   refine evbind (evbind si (evc rfl)) (evpos rfl ?_)
   dsimp only
   have epts : ((List.range n).map fun i => sgn (det n (colM (bB (s : Int)) (en l))) * dc n (colM (bB (s : Int)) (en l)) Q i) = (List.range n).map (pS n l Q (s : Int)) := rfl
   rw [epts]
   refine evbind (Sl.contains_eq _ 0 (by simp; omega)) ?_
   refine evstep (fun k => by rw [impl_CubeOfProblem.j1]) ?_
   by_cases z : ∃ i, i < n ∧ pS n l Q (s : Int) i = 0
   ·rw [if_pos (show bad n l Q (s : Int) from .inr z)]
    refine evpos (decide_eq_true ?_) (evc rfl)
    obtain ⟨i, hi, e⟩ := z
    exact List.mem_map.2 ⟨i, List.mem_range.2 hi, e⟩
   ·rw [if_neg (show ¬ bad n l Q (s : Int) from fun hb => hb.elim d z)]
    refine evneg (fun hc => z ?_) ?_
    ·obtain ⟨i, hi, e⟩ := List.mem_map.1 (of_decide_eq_true hc)
     exact ⟨i, List.mem_range.1 hi, e⟩
    ·have nx := ih (s + 1) (out ++ [((st (pS n l Q (s : Int)) n).al : Int)]) (by omega) (by simp [hl])
     have go : ∀ p i, i + p = n → Ev (fun k => impl_CubeOfProblem.l1 k ((st (pS n l Q (s : Int)) i).al : Int) ((2 ^ n : Nat) : Int) (s : Int) ((List.range n).map (pS n l Q (s : Int))) (n : Int) (i : Int) l Q (n : Int) out) (goC n l Q q (s + 1) (out ++ [((st (pS n l Q (s : Int)) n).al : Int)])) := by
      intro p
      induction p with
      | zero =>
       intro i hi
       obtain rfl : i = n := by omega
       refine evstep (fun k => by rw [impl_CubeOfProblem.l1]) (evneg (by omega) (evpos (by omega) ?_))
       rw [w64 (x := (s : Int) + 1) (by omega) (by omega)]
       exact nx
      | succ p ihp =>
       intro i hi
       have nx2 := ihp (i + 1) (by omega)
       refine evstep (fun k => by rw [impl_CubeOfProblem.l1]) (evpos (by omega) (evpos (by omega) (evpos (by simp; omega) ?_)))
       rw [rd_nat, show ((List.range n).map (pS n l Q (s : Int))).getD i 0 = pS n l Q (s : Int) i from by simp [show i < n by omega], w64 (x := (i : Int) + 1) (by omega) (by omega)]
       have inv := (st_inv (pS n l Q (s : Int)) i).lt
       have e : st (pS n l Q (s : Int)) (i + 1) = Er.nx (pS n l Q (s : Int)) i (st (pS n l Q (s : Int)) i) := rfl
       by_cases c : pS n l Q (s : Int) i < 0
       ·refine evpos c ?_
        rw [or_pow inv (by omega)]
        rw [e] at nx2
        unfold Er.nx at nx2
        rw [if_pos c] at nx2
        exact nx2
       ·refine evneg c ?_
        rw [e] at nx2
        unfold Er.nx at nx2
        rw [if_neg c] at nx2
        exact nx2
     have := go n 0 (by omega)
     rw [show (((List.range n).map (pS n l Q (s : Int))).length : Int) = (n : Int) from by simp]
     exact this
theorem spec_cube : ∀ (q s : Nat) (out : List Int), s + q = 2 ^ n → out.length = s → Ev (fun k => spec_CubeOfProblem.l0 k (n : Int) (s : Int) l Q (n : Int) out) (goC n l Q q s out) := by
 have hpw : 2 ^ n ≤ 2 ^ 5 := Nat.pow_le_pow_right (by decide) hn
 have hu : IntKind.u64.wrap (n : Int) = (n : Int) := u64w (by omega) (by omega)
 have hsh : shl .i64 1 (n : Int) = ((2 ^ n : Nat) : Int) := by rw [shl_one (by omega) (by omega), Int.toNat_natCast]
 intro q
 induction q with
 | zero =>
  intro s out hs hl
  refine evstep (fun k => by rw [spec_CubeOfProblem.l0]) (evpos (by omega) ?_)
  rw [hu, hsh]
  classical
  refine evneg (by omega) (evbind (Cu.spec_is (n : Int) out (decide (Cu.IsC n out)) (by simp)) ?_)
  unfold goC
  by_cases c : Cu.IsC n out
  ·rw [if_pos c]; exact evpos (by simpa using c) (evc rfl)
  ·rw [if_neg c]; exact evneg (by simpa using c) (evc rfl)
 | succ q ih =>
  intro s out hs hl
  refine evstep (fun k => by rw [spec_CubeOfProblem.l0]) (evpos (by omega) ?_)
  rw [hu, hsh]
  refine evpos (by omega) (evbind (spec_point h hn (s : Int) Q hx hQ) ?_)
  unfold goC
  classical
  by_cases d : dS n l (s : Int) = 0
  ·rw [if_pos (show bad n l Q (s : Int) from .inl d)]
   unfold dS at d
   rw [if_pos d]
   exact evneg (by simp) (evc rfl)
  ·have d' := d
   unfold dS at d'
   rw [if_neg d']
   refine evpos rfl ?_
   dsimp only
   have db : -1920000000 ≤ dS n l (s : Int) ∧ dS n l (s : Int) ≤ 1920000000 := D_b h hn (s : Int)
   have da : 1 ≤ ab (dS n l (s : Int)) ∧ Sm (ab (dS n l (s : Int))) := by
    unfold ab Sm
    split <;> omega
   have pm : ∀ i, Sm (pS n l Q (s : Int) i) := P_sm h hn (s : Int) Q hx hQ
   have epts : ((List.range n).map fun i => fr (sgn (det n (colM (bB (s : Int)) (en l))) * dc n (colM (bB (s : Int)) (en l)) Q i) (ab (det n (colM (bB (s : Int)) (en l))))) = (List.range n).map fun i => fr (pS n l Q (s : Int) i) (ab (dS n l (s : Int))) := rfl
   rw [epts]
   have gd (i : Nat) (hi : i < n) : rd_T65 ((List.range n).map fun i => fr (pS n l Q (s : Int) i) (ab (dS n l (s : Int)))) (i : Int) = fr (pS n l Q (s : Int) i) (ab (dS n l (s : Int))) := by
    unfold rd_T65; simp [hi]
   have nx := ih (s + 1) (out ++ [((st (pS n l Q (s : Int)) n).al : Int)]) (by omega) (by simp [hl])
   have go : ∀ p i, i + p = n → (¬ ∃ j, j < i ∧ pS n l Q (s : Int) j = 0) → Ev (fun k => spec_CubeOfProblem.l1 k (n : Int) (s : Int) ((List.range n).map fun i => fr (pS n l Q (s : Int) i) (ab (dS n l (s : Int)))) ((st (pS n l Q (s : Int)) i).al : Int) (i : Int) l Q (n : Int) out) (if bad n l Q (s : Int) then (0, [], 5) else goC n l Q q (s + 1) (out ++ [((st (pS n l Q (s : Int)) n).al : Int)])) := by
    intro p
    induction p with
    | zero =>
     intro i hi hz
     obtain rfl : i = n := by omega
     rw [if_neg (show ¬ bad i l Q (s : Int) from fun hb => hb.elim d hz)]
     refine evstep (fun k => by rw [spec_CubeOfProblem.l1]) (evneg (by omega) (evpos (by omega) ?_))
     rw [w64 (x := (s : Int) + 1) (by omega) (by omega)]
     exact nx
    | succ p ihp =>
     intro i hi hz
     refine evstep (fun k => by rw [spec_CubeOfProblem.l1]) (evpos (by omega) (evpos (by omega) (evpos (by simp; omega) ?_)))
     rw [gd i (by omega), w64 (x := (i : Int) + 1) (by omega) (by omega)]
     by_cases z : pS n l Q (s : Int) i = 0
     ·rw [if_pos (show bad n l Q (s : Int) from .inr ⟨i, by omega, z⟩)]
      exact evpos ((fr_zero (pm i) da.1 da.2).2 z) (evc rfl)
     ·refine evneg (fun q => z ((fr_zero (pm i) da.1 da.2).1 q)) ?_
      have nx2 := ihp (i + 1) (by omega) (fun ⟨j, hj, e⟩ => by
       by_cases c : j = i
       ·subst c; exact z e
       ·exact hz ⟨j, by omega, e⟩)
      have hui : IntKind.u64.wrap (i : Int) = (i : Int) := u64w (by omega) (by omega)
      have inv := (st_inv (pS n l Q (s : Int)) i).lt
      have e : st (pS n l Q (s : Int)) (i + 1) = Er.nx (pS n l Q (s : Int)) i (st (pS n l Q (s : Int)) i) := rfl
      rw [e] at nx2
      unfold Er.nx at nx2
      by_cases c : pS n l Q (s : Int) i < 0
      ·refine evpos ((fr_neg (pm i) da.1 da.2).2 c) (evpos (by omega) ?_)
       rw [hui, or_pow inv (by omega)]
       rw [if_pos c] at nx2
       exact nx2
      ·refine evneg (fun q => c ((fr_neg (pm i) da.1 da.2).1 q)) ?_
       rw [if_neg c] at nx2
       exact nx2
   exact go n 0 (by omega) (fun ⟨j, hj, _⟩ => by omega)
end
theorem goC_len {n : Nat} (hn : n ≤ 5) (l : List (List Int)) (Q : List Int) : ∀ (q s : Nat) (out : List Int), s + q = 2 ^ n → out.length = s → (goC n l Q q s out).2.1.length ≤ 32 := by
 have hpw : 2 ^ n ≤ 2 ^ 5 := Nat.pow_le_pow_right (by decide) hn
 intro q
 induction q with
 | zero =>
  intro s out hs hl
  unfold goC
  split
  ·show out.length ≤ 32; omega
  ·show ([] : List Int).length ≤ 32; simp
 | succ q ih =>
  intro s out hs hl
  unfold goC
  split
  ·show ([] : List Int).length ≤ 32; simp
  ·exact ih _ _ (by omega) (by simp [hl])
theorem small {M : List (List Int)} {Q : List Int} (p : POK M Q) (r : Nat) (hr : r < M.length) : (Q.getD r 0).natAbs ≤ 100 := by
 have := p.num r (Nat.zero_le _) (by have := p.len; omega)
 unfold N100 at this
 omega
theorem cube (M : List (List Int)) (Q : List Int) (hQ : Q.length ≤ 1048576) : ∃ R : Int × List Int × Int, Ev (fun k => spec_CubeOfProblem.f k M Q) R ∧ Ev (fun k => impl_CubeOfProblem.f k M Q) R ∧ R.2.1.length ≤ 32 := by
 classical
 have is := Pb.impl_is M Q (decide (POK M Q)) (by simp)
 have ss := Pb.spec_is M Q hQ (decide (POK M Q)) (by simp)
 unfold spec_CubeOfProblem.f impl_CubeOfProblem.f
 by_cases p : POK M Q
 ·have hq := p.len; have h5 := p.mat.n5
  have ea : impl_Problem_all.f M Q = some ((2 ^ M.length : Nat) : Int) := by
   unfold impl_Problem_all.f
   rw [hq, shl_one (by omega) (by omega), Int.toNat_natCast]
  refine ⟨goC M.length M Q (2 ^ M.length) 0 [], evbind ss (evpos (by simpa using p) ?_), evsome is (evpos (by simpa using p) (evsome ea ?_)), goC_len h5 M Q _ 0 [] (by omega) rfl⟩
  ·have := spec_cube p.mat.sq h5 Q (small p) hq (2 ^ M.length) 0 [] (by omega) rfl
   rw [hq]; exact this
  ·have := impl_cube p.mat.sq h5 Q (small p) hq p.mat.n1 (2 ^ M.length) 0 [] (by omega) rfl
   rw [hq]; exact this
 ·exact ⟨(0, [], 1), evbind ss (evneg (by simpa using p) (evc rfl)), evsome is (evneg (by simpa using p) (evc rfl)), by simp⟩
end Go.Proofs.Ythdoilfjcgickaa.Pc
end
section
namespace Go.Proofs.Ythdoilfjcgickaa.Pr
open Go.RowKit Go.Proofs.YthdoilfjcgickaaW.PrintWords Go.Proofs.YthdoilfjcgickaaW.PrintLast Go.Proofs.YthdoilfjcgickaaW.PrintMore
attribute [local go_sem] max2_int min2_int max_two min_two max_three min_three max_four min_four
def laws_heldInt64SS.l0 : Nat → List (List Int) → Int → Int → Option (Int)
 | 0, _, _, _ => none
 | k + 1, x0, x1, x5 => if x5 < (x0.length : Int) then (if 0 ≤ x5 then ((laws_heldInt64S.f k (rd_L1 x0 x5) x1).bind fun t150 => (if t150 < 0 then (some (-1)) else (laws_heldInt64SS.l0 k x0 t150 (wrap64 (x5 + 1))))) else (none)) else (some x1)
def laws_heldInt64SS.f (k : Nat) (l0 : List (List Int)) (a1 : Int) : Option (Int) := laws_heldInt64SS.l0 k l0 a1 0
theorem laws_heldInt64SS.mono_l : ∀ k, (∀ y0 y1 y2, LeO (laws_heldInt64SS.l0 k y0 y1 y2) (laws_heldInt64SS.l0 (k + 1) y0 y1 y2))
 | 0 => fun _ _ _ r h => by simp [laws_heldInt64SS.l0] at h
 | k + 1 => by
  have ih0 := laws_heldInt64SS.mono_l k
  ·intro y0 y1 y2
   unfold laws_heldInt64SS.l0
   repeat' first
   | (with_reducible exact ih0 _ _ _)
   | (with_reducible exact laws_heldInt64S.mono _ _ _)
   | (with_reducible exact LeO.refl _)
   | (with_reducible exact LeO.none _)
   | (with_reducible refine LeO.ite ?_ ?_)
   | (with_reducible refine LeO.bind ?_ (fun _ => ?_))
   | exact ih0 _ _ _
   | exact laws_heldInt64S.mono _ _ _
   | exact LeO.none _
   | refine LeO.ite ?_ ?_
   | refine LeO.bind ?_ (fun _ => ?_)
theorem laws_heldInt64SS.mono : ∀ a0 a1 k, LeO (laws_heldInt64SS.f k a0 a1) (laws_heldInt64SS.f (k + 1) a0 a1) := by
 intro a0 a1 k
 have ih0 := laws_heldInt64SS.mono_l k
 unfold laws_heldInt64SS.f
 repeat' first
   | (with_reducible exact ih0 _ _ _)
   | (with_reducible exact laws_heldInt64S.mono _ _ _)
   | (with_reducible exact LeO.refl _)
   | (with_reducible exact LeO.none _)
   | (with_reducible refine LeO.ite ?_ ?_)
   | (with_reducible refine LeO.bind ?_ (fun _ => ?_))
   | exact ih0 _ _ _
   | exact laws_heldInt64S.mono _ _ _
   | exact LeO.none _
   | refine LeO.ite ?_ ?_
   | refine LeO.bind ?_ (fun _ => ?_)
theorem laws_heldInt64SS.calls (k : Nat) (A0 : Option Addr) (c0 : Nat) (l0 : List (List Int)) (a1 : Int) (r : Int) (w : World) (hr0 : Kd.C (Kd.slice 2 (Kd.int .i64)) w A0 l0.length l0) (hc0 : l0.length ≤ c0) (h : laws_heldInt64SS.f k l0 a1 = some r) :
  Calls Try.prog 23 #[.slice A0 l0.length c0, .int .i64 a1] w fun e w' => e = .returned (.int .i64 r) ∧ Drawn0 w w' := by
 have HR0 := Aside0.mk hr0
 have HC0 := Aside0.mk hc0
 clear hr0 hc0
 have H : (laws_heldInt64SS.l0 k l0 a1 0) = some r := h
 clear h
 have H' := Aside0.mk H
 clear H
 go_enter Try.func23, Try.ntmps23
 go_wp2
 go_loopg [1, 5] k (fun kq v1 v5 w' => ∃ (x1_1 : Int) (x5_1 : Int), v1 = .int .i64 x1_1 ∧ v5 = .int .i64 x5_1 ∧ Aside0 (laws_heldInt64SS.l0 kq l0 x1_1 x5_1 = some r) ∧ Aside0 (kq ≤ k) ∧ Drawn0 w w')
 case atStart => exact ⟨(a1), (0), (by first | rfl | (simp; done) | (simp [*]; done)), (by first | rfl | (simp; done) | (simp [*]; done)), H', ⟨Nat.le_refl _⟩, by repeat (first | exact Drawn0.refl _ | apply Drawn0.step)⟩
 case round =>
  clear H'
  try clear c2
  try clear p2
  obtain ⟨x1_1, x5_1, rfl, rfl, HA, HK1, ⟨m1, rfl⟩⟩ := hrel
  cases gk with
  | zero => exact absurd HA.out (by simp [laws_heldInt64SS.l0])
  | succ k1 =>
   have H := HA.out
   clear HA
   simp only [laws_heldInt64SS.l0] at H
   by_cases c3 : x5_1 < (l0.length : Int)
   ·rw [if_pos c3] at H
    have c3b0 : decide (x5_1 < (l0.length : Int)) = true := decide_eq_true c3
    clear c3
    by_cases c4 : 0 ≤ x5_1
    ·rw [if_pos c4] at H
     have c4b0 : decide (0 ≤ x5_1) = true := decide_eq_true c4
     clear c4
     replace H := Option.bind_eq_some_iff.mp H
     obtain ⟨t150, A50, H⟩ := H
     replace H : (if t150 < 0 then (some (-1)) else (laws_heldInt64SS.l0 k1 l0 t150 (wrap64 (x5_1 + 1)))) = some r := H
     have A5 := Aside0.mk A50
     clear A50
     by_cases c6 : t150 < 0
     ·rw [if_pos c6] at H
      have c6b0 : decide (t150 < 0) = true := decide_eq_true c6
      clear c6
      obtain rfl := Option.some.inj H
      have p149 : 0 ≤ (x5_1 : Int) := of_decide_eq_true (by first | (with_reducible assumption) | assumption)
      have q149 : x5_1 < (l0.length : Int) := of_decide_eq_true (by first | (with_reducible assumption) | assumption)
      obtain ⟨ad149, A149_0, c149_0, e149, hx149_0, hl149_0, hi149_0⟩ := at_L1 HR0.out x5_1 p149 q149
      cases e149
      have HR149_0 := Aside0.mk hi149_0
      have HC149_0 := Aside0.mk hl149_0
      clear hi149_0 hl149_0
      replace p149 := eq_true p149
      replace q149 := eq_true q149
      go_wp2_with (first | ((with_reducible refine gate_callee (f := 37) rfl ?_); refine goesL_ (some 17) rfl rfl Try.func37 (by kernel_rfl) rfl #[.slice A149_0 (rd_L1 l0 x5_1).length c149_0, .int .i64 x1_1] rfl (by (try simp only [List.map_toArray, List.map_cons, List.map_nil]); first | done | rfl | (simp only [List.length_drop, List.length_take]; rfl)) ?_; (with_reducible refine (laws_heldInt64S.calls k1 _ _ (rd_L1 l0 x5_1) x1_1 t150 _ ?side1 ?side2 A5.out).mono ?_); (case side1 => repeat (first | exact HR149_0.out | (with_reducible refine Kd.C_alloc ?_ _) | (with_reducible refine Kd.C_drewN ?_ _) | (with_reducible refine Kd.C_drew ?_))); (case side2 => exact HC149_0.out); rintro e w' ⟨rfl, ⟨nd, rfl⟩⟩; refine ⟨_, rfl, ?_⟩))
      go_ret
      exact ⟨by first | rfl | (simp; done) | (simp [*]; done), by repeat (first | exact Drawn0.refl _ | apply Drawn0.step)⟩
     ·rw [if_neg c6] at H
      have c6b0 : decide (t150 < 0) = false := decide_eq_false c6
      clear c6
      have H' := Aside0.mk H
      clear H
      have p149 : 0 ≤ (x5_1 : Int) := of_decide_eq_true (by first | (with_reducible assumption) | assumption)
      have q149 : x5_1 < (l0.length : Int) := of_decide_eq_true (by first | (with_reducible assumption) | assumption)
      obtain ⟨ad149, A149_0, c149_0, e149, hx149_0, hl149_0, hi149_0⟩ := at_L1 HR0.out x5_1 p149 q149
      cases e149
      have HR149_0 := Aside0.mk hi149_0
      have HC149_0 := Aside0.mk hl149_0
      clear hi149_0 hl149_0
      replace p149 := eq_true p149
      replace q149 := eq_true q149
      go_wp2_with (first | ((with_reducible refine gate_callee (f := 37) rfl ?_); refine goesL_ (some 17) rfl rfl Try.func37 (by kernel_rfl) rfl #[.slice A149_0 (rd_L1 l0 x5_1).length c149_0, .int .i64 x1_1] rfl (by (try simp only [List.map_toArray, List.map_cons, List.map_nil]); first | done | rfl | (simp only [List.length_drop, List.length_take]; rfl)) ?_; (with_reducible refine (laws_heldInt64S.calls k1 _ _ (rd_L1 l0 x5_1) x1_1 t150 _ ?side1 ?side2 A5.out).mono ?_); (case side1 => repeat (first | exact HR149_0.out | (with_reducible refine Kd.C_alloc ?_ _) | (with_reducible refine Kd.C_drewN ?_ _) | (with_reducible refine Kd.C_drew ?_))); (case side2 => exact HC149_0.out); rintro e w' ⟨rfl, ⟨nd, rfl⟩⟩; refine ⟨_, rfl, ?_⟩))
      go_roundg k1
      case measure => have := HK1.out; omega
      case rel => exact ⟨(t150), (wrap64 (x5_1 + 1)), (by first | rfl | (simp; done) | (simp [*]; done)), (by first | rfl | (simp; done) | (simp [*]; done)), H', ⟨by have := HK1.out; omega⟩, by repeat (first | exact Drawn0.refl _ | apply Drawn0.step)⟩
    ·rw [if_neg c4] at H
     exact absurd H (by simp)
   ·rw [if_neg c3] at H
    have c3b0 : decide (x5_1 < (l0.length : Int)) = false := decide_eq_false c3
    clear c3
    obtain rfl := Option.some.inj H
    go_wp2
    go_ret
    exact ⟨by first | rfl | (simp; done) | (simp [*]; done), by repeat (first | exact Drawn0.refl _ | apply Drawn0.step)⟩
end Go.Proofs.Ythdoilfjcgickaa.Pr
end
section
namespace Go.Proofs.Ythdoilfjcgickaa.La
open Go.RowKit Go.Proofs.YthdoilfjcgickaaW.PrintWords Go.Proofs.YthdoilfjcgickaaW.PrintMore Go.Proofs.Ythdoilfjcgickaa.Ma Go.Proofs.Ythdoilfjcgickaa.Pr Go.Proofs.Ythdoilfjcgickaa.Hm
end Go.Proofs.Ythdoilfjcgickaa.La
end
section
namespace Go.Proofs.Ythdoilfjcgickaa.La
open Go.RowKit Go.Proofs.YthdoilfjcgickaaW.PrintWords Go.Proofs.YthdoilfjcgickaaW.PrintMore Go.Proofs.Ythdoilfjcgickaa.Ma Go.Proofs.Ythdoilfjcgickaa.Pr Go.Proofs.Ythdoilfjcgickaa.Hm Go.Proofs.Ythdoilfjcgickaa.Op
theorem szP2 {M : List (List Int)} {Q : List Int} (ga : GoodList (GoodList (GoodInt .i64)) M) (gb : GoodList (GoodInt .i64) Q) :
  ∃ t : Int, Ev (fun k => laws_szProblem.f k M Q 1048576) t ∧ t ≤ 1048576 ∧ (0 ≤ t → tot M ≤ 1048576 ∧ Q.length ≤ 1048576) := by
 have h1 := szSS M ga (n := 1048576) (by decide) (by decide)
 by_cases c : (1048576 : Int) < (tot M : Int)
 ·rw [if_pos c] at h1
  exact ⟨-1, by unfold laws_szProblem.f; exact evbind h1 (evpos (by decide) (evc rfl)), by decide, fun h => by omega⟩
 ·rw [if_neg c] at h1
  have h2 := sz_eq (l := Q) (n := 1048576 - (tot M : Int)) (by omega) (by omega) gb.1
  by_cases c2 : (1048576 : Int) - (tot M : Int) < (Q.length : Int)
  ·rw [if_pos c2] at h2
   exact ⟨-1, by unfold laws_szProblem.f; exact evbind h1 (evneg (by omega) (evsome h2 (evpos (by decide) (evc rfl)))), by decide, fun h => by omega⟩
  ·rw [if_neg c2] at h2
   exact ⟨_, by unfold laws_szProblem.f; exact evbind h1 (evneg (by omega) (evsome h2 (evneg (by omega) (evc rfl)))), by omega, fun _ => ⟨by omega, by omega⟩⟩
theorem fit_lensP {l : List (List Int)} (h : tot l ≤ 1048576) : lens l ≤ 1048576 := by unfold tot at h; omega
theorem toP {M : List (List Int)} {Q : List Int} (hM : Fit M) (hQ : Q.length ≤ 1048576) : Ev (fun k => laws_toProblem.f k M Q) (M, Q) := by
 unfold laws_toProblem.f
 exact evbind (fit_to hM) (evbind (toI Q hQ) (evc rfl))
theorem eqPr {M : List (List Int)} {Q : List Int} (hM : Fit M) (hQ : Q.length ≤ 1152921504606846976) : Ev (fun k => laws_eqProblem.f k M Q M Q) true := by
 unfold laws_eqProblem.f
 exact evbind (fit_eq hM) (evpos rfl (evbind (eqI_same Q hQ) (evpos rfl (evc rfl))))
end Go.Proofs.Ythdoilfjcgickaa.La
end
section
namespace Go.Proofs.Ythdoilfjcgickaa.Pure
open Go.RowKit Go.Proofs.YthdoilfjcgickaaW.PrintWords Go.Proofs.YthdoilfjcgickaaW.PrintMore Go.Proofs.Ythdoilfjcgickaa.Ma Go.Proofs.Ythdoilfjcgickaa.Pr Go.Proofs.Ythdoilfjcgickaa.La Go.Proofs.Ythdoilfjcgickaa.Op
theorem FnExactCubeOfProblem : Say.FnExactCubeOfProblem := by
 intro M q ga gb
 obtain ⟨t, ⟨k0, ht⟩, ht1, hf⟩ := szP2 ga gb
 by_cases c0 : t < 0
 ·refine ⟨k0, ?_⟩
  unfold laws_FnExactCubeOfProblem.f
  rw [if_pos]
  exact .inr ⟨t, ht _ (Nat.le_refl _), c0⟩
 ·obtain ⟨ta, tb⟩ := hf (by omega)
  have fa := fit_of ta
  have fl := fit_lensP ta
  have al := fa.len
  obtain ⟨R, ⟨k1, e1⟩, ⟨k2, e2⟩, hR⟩ := Pc.cube M q tb
  obtain ⟨k3, e3⟩ := toP fa tb
  obtain ⟨k5, e5⟩ : Ev (fun k => laws_eqCube.f k R.1 R.2.1 R.1 R.2.1) true := by
   unfold laws_eqCube.f
   exact evpos rfl (evbind (eqI_same R.2.1 (by omega)) (evpos rfl (evc rfl)))
  obtain ⟨k6, e6⟩ := eqPr (Q := q) fa (by omega)
  obtain ⟨k8, e8⟩ : Ev (fun k => laws_heldCube.f k R.1 (count 1 R.2.1.length) 1) (1 + R.2.1.length) := by
   unfold laws_heldCube.f
   exact evbind (heldI 1 R.2.1.length (by omega) (by decide) (by decide)) (evneg (by omega) (evc rfl))
  refine ⟨k0 + k1 + k2 + k3 + k5 + k6 + k8, ?_⟩
  unfold laws_FnExactCubeOfProblem.f
  rw [if_pos]
  exact .inl ⟨t, R.1, R.2.1, R.2.2, _, _, ht _ (by omega), c0, e3 _ (by omega), e1 _ (by omega), e2 _ (by omega), e5 _ (by omega), e6 _ (by omega), rfl, by omega, by omega, by omega, rfl, by omega, by omega, e8 _ (by omega)⟩
end Go.Proofs.Ythdoilfjcgickaa.Pure
end
section
namespace Go.Proofs.Ythdoilfjcgickaa.fnExactCubeOfProblem
open Go.ChangeShapes Go.WideShapes Go.ChangeAt Go.RowKit Go.Proofs.Ythdoilfjcgickaa.Op Go.Proofs.YthdoilfjcgickaaW.PrintWords
theorem own : ownKnob Try.prog.godebug = none := by kernel_rfl
theorem laidOut : laidOutB Try.prog = true := by kernel_rfl
theorem lifted (os : Os) (started : os.Started) (H : Type) (enc : TypeId × Value → H) :
  ReturnsInHanded {} Try.checked os 4 .any (Rows.fnExactCubeOfProblemSpec.pre6 enc Try.prog Try.f4 Rows.fnExactCubeOfProblemRow.domain false) (Rows.fnExactCubeOfProblemSpec.post enc Try.prog Try.f4 false true false false) := by
 refine returnsInHanded_of_change_sized (C := Try.checked) own started (by kernel_rfl) Try.func4
  (ChangeSpec.witness6 (enc := enc) (C := Try.checked) false ⟨#[], #[.agg #[.slice none 0 0, .slice none 0 0]], []⟩ 8 (by kernel_rfl) (by kernel_rfl) (by kernel_rfl) (by kernel_rfl)) ?_
 intro W base args ds gs before hval0 hW hcnd hsz0 _
 have hval : ∀ (j : Nat) t v, Try.f4.params[j]? = some t → args[j]? = some v → Value.okWide Try.prog W .any base t v := hval0
 have hW' := hW
 obtain ⟨p, q, hA0, hV, rfl, hfz, hnd⟩ := hW
 have hA : DataW.TrodAll enc Try.prog W 0 (fun _ => true) true Try.f4.params.toList args.toList ds p := hA0
 rw [Try.params4] at hA hval
 obtain ⟨v0, vs0, d0, ds0, p0, q0, hargs, rfl, rfl, h0, r0⟩ := trodAll_cons hA
 obtain ⟨rfl, rfl, rfl⟩ := trodAll_nil r0
 obtain rfl : args = #[v0] := by cases args; simp_all
 obtain ⟨rfl, rfl⟩ := trodVars_none hV
 have k0 := h0
 have lt0 := trod_blocks k0
 obtain ⟨⟨x0_0, x0_1⟩, cs0, rfl, hk0, g0⟩ := arg_struct Try.underlying25 (opens_struct2 Try.underlying25 ⟨by kernel_rfl, by kernel_rfl⟩ ⟨by kernel_rfl, by kernel_rfl⟩ (by kernel_rfl) (opens_slice Try.underlying22 (by kernel_rfl) (opens_slice Try.underlying23 (by kernel_rfl) (opens_int Try.underlying2))) (opens_slice Try.underlying23 (by kernel_rfl) (opens_int Try.underlying2)) id (Kd.pair (Kd.slice 23 (Kd.slice 2 (Kd.int .i64))) (Kd.slice 2 (Kd.int .i64))) (fun _ _ _ h => h) (fun x => (GoodList (GoodList (GoodInt .i64))) x.1 ∧ (GoodList (GoodInt .i64)) x.2) (fun _ h0 h1 => ⟨h0, h1⟩)) (hval 0 25 v0 rfl rfl) h0
 obtain ⟨A0_0, c0_0, A0_1, c0_1, rfl, q0_0, r0_0, q0_1, r0_1⟩ := cells_slice_slice hk0
 obtain ⟨k, h⟩ := Pure.FnExactCubeOfProblem x0_0 x0_1 g0.1 g0.2
 clear hA0 hval0 hsz0
 refine (Pr.laws_FnExactCubeOfProblem.calls k A0_0 c0_0 x0_0 A0_1 c0_1 x0_1 true W r0_0 q0_0 r0_1 q0_1 h).mono ?_
 rintro e W' ⟨rfl, bel0⟩
 have bel : Below W.heap.size W W' := by first | exact bel0 | exact bel0.below
 exact ⟨_, rfl, _, _, _, [], _, [], hW', trodAll_mk1 (shut_bool Try.underlying4 _), (trodAll_cons_mk (Below.trod laidOut (by kernel_rfl) (of_decide_eq_true (by kernel_rfl)) k0 bel lt0) trodAll_mk0), rfl, bel.frame _, fun h => by cases h⟩
theorem over : Rows.fnExactCubeOfProblemRow.holds Try.pinned (OpenSpec.ofChange Rows.fnExactCubeOfProblemSpec) :=
 OpenClaim.holds_of_wide 4 Try.f4 rfl rfl rfl rfl rfl rfl rfl ⟨rfl, rfl, rfl, rfl, rfl⟩ rfl rfl rfl rfl rfl (by kernel_rfl) Try.func4 (by kernel_rfl)
  (of_decide_eq_true (by kernel_rfl)) (by unfold Func.isWrapper; first | (rw [if_pos (by decide +kernel)]; kernel_rfl) | (rw [if_neg (by decide +kernel)]; exact ⟨rfl, rfl⟩))
  (fun os started H enc _ => lifted os started H enc)
theorem proved : Rows.FnExactCubeOfProblemSaid := over
#print axioms proved
end Go.Proofs.Ythdoilfjcgickaa.fnExactCubeOfProblem
namespace Go.Proofs.Ythdoilfjcgickaa
theorem fnExactCubeOfProblem_holds : Rows.FnExactCubeOfProblemSaid := fnExactCubeOfProblem.proved
end Go.Proofs.Ythdoilfjcgickaa
end
