/- The plain functions of this seat, each with the proof that the call of the Go function comes to just its answer. Conditions: as each theorem says. Written by this session's own program over the print of the kit. -/
import Derived.Test.YtlnoidhaoinpbaaPrx0
import Derived.Test.YtlnoidhaoinpbaaPrx1
import Derived.Test.YtlnoidhaoinpbaaPrx2
import Derived.Test.YtlnoidhaoinpbaaPrx3
import Derived.Test.YtlnoidhaoinpbaaPrx39
import Derived.Test.YtlnoidhaoinpbaaPrx41
namespace Go.Proofs.Ytlnoidhaoinpbaa.Pr
open Go.RowKit Go.Proofs.YtlnoidhaoinpbaaW.PrintWords Go.Proofs.YtlnoidhaoinpbaaW.PrintLast Go.Proofs.YtlnoidhaoinpbaaW.PrintMore
attribute [local go_sem] max2_int min2_int max_two min_two max_three min_three max_four min_four   -- for this text's walks alone
set_option linter.unusedVariables false
set_option linter.unusedSimpArgs false

/-! ### laws_FnExactFaceOf: function 13 -/
mutual
def laws_FnExactFaceOf.j0 : Nat → Int → Int → Int → Int → Bool → Int → List Int → Int → List Int → Int → List Int → Int → List Int → Option (Bool)
  | 0, _, _, _, _, _, _, _, _, _, _, _, _, _ => none
  | k + 1, x1, x2, x9, x12, x48, x715000, x715001, x726000, x726001, x731000, x731001, x737000, x737001 => if x48 = true then (some false) else ((laws_toCube.f k x715000 x715001).bind fun bt738 => ((laws_eqCube.f k x731000 x731001 bt738.1 bt738.2).bind fun t742 => (if t742 = true then ((laws_markCube.f k x731000 x731001 1).bind fun bt743 => (if bt743.1 < 0 then (laws_FnExactFaceOf.j1 k x1 x2 x9 true x715000 x715001 x726000 x726001 x737000 x737001) else ((laws_eqCube.f k x737000 x737001 x726000 x726001).bind fun t745 => (if t745 = true then (laws_FnExactFaceOf.j1 k x1 x2 x9 (x12 != x9) x715000 x715001 x726000 x726001 x737000 x737001) else (laws_FnExactFaceOf.j1 k x1 x2 x9 true x715000 x715001 x726000 x726001 x737000 x737001))))) else (some false))))
def laws_FnExactFaceOf.j1 : Nat → Int → Int → Int → Bool → Int → List Int → Int → List Int → Int → List Int → Option (Bool)
  | 0, _, _, _, _, _, _, _, _, _, _ => none
  | k + 1, x1, x2, x9, x69, x715000, x715001, x726000, x726001, x737000, x737001 => if x69 = true then (some false) else ((laws_markCube.f k x737000 x737001 1).bind fun bt746 => ((laws_heldCube.f k x737000 bt746.2 1).bind fun t748 => (if t748 < 0 then (some false) else (if t748 = bt746.1 then ((laws_toCube.f k x715000 x715001).bind fun bt749 => ((impl_FaceOf.f k bt749.1 bt749.2 x1 x2).bind fun bt753 => ((laws_eqCube.f k bt753.1 bt753.2.1 x726000 x726001).bind fun t759 => (if t759 = true then (laws_FnExactFaceOf.j2 k bt746.1 (bt753.2.2 != x9) x737000 bt746.2) else (laws_FnExactFaceOf.j2 k bt746.1 true x737000 bt746.2))))) else (some false)))))
def laws_FnExactFaceOf.j2 : Nat → Int → Bool → Int → List Int → Option (Bool)
  | 0, _, _, _, _ => none
  | k + 1, x14, x97, x737000, x737001 => if x97 = true then (some false) else ((laws_heldCube.f k x737000 x737001 1).bind fun t760 => (if t760 < 0 then (some false) else (if t760 = x14 then (some true) else (some false))))
end
def laws_FnExactFaceOf.f (k : Nat) (a0_0 : Int) (l0_1 : List Int) (a1 : Int) (a2 : Int) : Option (Bool) := (laws_szCube.f a0_0 l0_1 1048576).bind fun t715 => (if t715 < 0 then (some true) else ((laws_toCube.f k a0_0 l0_1).bind fun bt716 => ((spec_FaceOf.f k bt716.1 bt716.2 a1 a2).bind fun bt720 => ((laws_toCube.f k a0_0 l0_1).bind fun bt726 => ((impl_FaceOf.f k bt726.1 bt726.2 a1 a2).bind fun bt731 => ((laws_eqCube.f k bt731.1 bt731.2.1 bt720.1 bt720.2.1).bind fun t737 => (if t737 = true then (laws_FnExactFaceOf.j0 k a1 a2 bt720.2.2 bt731.2.2 (bt731.2.2 != bt720.2.2) a0_0 l0_1 bt720.1 bt720.2.1 bt726.1 bt726.2 bt731.1 bt731.2.1) else (laws_FnExactFaceOf.j0 k a1 a2 bt720.2.2 bt731.2.2 true a0_0 l0_1 bt720.1 bt720.2.1 bt726.1 bt726.2 bt731.1 bt731.2.1))))))))
theorem laws_FnExactFaceOf.mono_l : ∀ k, (∀ y0 y1 y2 y3 y4 y5 y6 y7 y8 y9 y10 y11 y12, LeO (laws_FnExactFaceOf.j0 k y0 y1 y2 y3 y4 y5 y6 y7 y8 y9 y10 y11 y12) (laws_FnExactFaceOf.j0 (k + 1) y0 y1 y2 y3 y4 y5 y6 y7 y8 y9 y10 y11 y12)) ∧ (∀ y0 y1 y2 y3 y4 y5 y6 y7 y8 y9, LeO (laws_FnExactFaceOf.j1 k y0 y1 y2 y3 y4 y5 y6 y7 y8 y9) (laws_FnExactFaceOf.j1 (k + 1) y0 y1 y2 y3 y4 y5 y6 y7 y8 y9)) ∧ (∀ y0 y1 y2 y3, LeO (laws_FnExactFaceOf.j2 k y0 y1 y2 y3) (laws_FnExactFaceOf.j2 (k + 1) y0 y1 y2 y3))
  | 0 => ⟨fun _ _ _ _ _ _ _ _ _ _ _ _ _ r h => by simp [laws_FnExactFaceOf.j0] at h, fun _ _ _ _ _ _ _ _ _ _ r h => by simp [laws_FnExactFaceOf.j1] at h, fun _ _ _ _ r h => by simp [laws_FnExactFaceOf.j2] at h⟩
  | k + 1 => by
    obtain ⟨ih0, ih1, ih2⟩ := laws_FnExactFaceOf.mono_l k
    refine ⟨?_, ?_, ?_⟩
    · intro y0 y1 y2 y3 y4 y5 y6 y7 y8 y9 y10 y11 y12
      unfold laws_FnExactFaceOf.j0
      repeat' first
      | (with_reducible exact ih0 _ _ _ _ _ _ _ _ _ _ _ _ _)
      | (with_reducible exact ih1 _ _ _ _ _ _ _ _ _ _)
      | (with_reducible exact ih2 _ _ _ _)
      | (with_reducible exact impl_FaceOf.mono _ _ _ _ _)
      | (with_reducible exact laws_eqCube.mono _ _ _ _ _)
      | (with_reducible exact laws_heldCube.mono _ _ _ _)
      | (with_reducible exact laws_markCube.mono _ _ _ _)
      | (with_reducible exact laws_toCube.mono _ _ _)
      | (with_reducible exact spec_FaceOf.mono _ _ _ _ _)
      | (with_reducible exact LeO.refl _)
      | (with_reducible exact LeO.none _)
      | (with_reducible refine LeO.ite ?_ ?_)
      | (with_reducible refine LeO.bind ?_ (fun _ => ?_))
      | exact ih0 _ _ _ _ _ _ _ _ _ _ _ _ _
      | exact ih1 _ _ _ _ _ _ _ _ _ _
      | exact ih2 _ _ _ _
      | exact impl_FaceOf.mono _ _ _ _ _
      | exact laws_eqCube.mono _ _ _ _ _
      | exact laws_heldCube.mono _ _ _ _
      | exact laws_markCube.mono _ _ _ _
      | exact laws_toCube.mono _ _ _
      | exact spec_FaceOf.mono _ _ _ _ _
      | exact LeO.none _
      | refine LeO.ite ?_ ?_
      | refine LeO.bind ?_ (fun _ => ?_)
    · intro y0 y1 y2 y3 y4 y5 y6 y7 y8 y9
      unfold laws_FnExactFaceOf.j1
      repeat' first
      | (with_reducible exact ih0 _ _ _ _ _ _ _ _ _ _ _ _ _)
      | (with_reducible exact ih1 _ _ _ _ _ _ _ _ _ _)
      | (with_reducible exact ih2 _ _ _ _)
      | (with_reducible exact impl_FaceOf.mono _ _ _ _ _)
      | (with_reducible exact laws_eqCube.mono _ _ _ _ _)
      | (with_reducible exact laws_heldCube.mono _ _ _ _)
      | (with_reducible exact laws_markCube.mono _ _ _ _)
      | (with_reducible exact laws_toCube.mono _ _ _)
      | (with_reducible exact spec_FaceOf.mono _ _ _ _ _)
      | (with_reducible exact LeO.refl _)
      | (with_reducible exact LeO.none _)
      | (with_reducible refine LeO.ite ?_ ?_)
      | (with_reducible refine LeO.bind ?_ (fun _ => ?_))
      | exact ih0 _ _ _ _ _ _ _ _ _ _ _ _ _
      | exact ih1 _ _ _ _ _ _ _ _ _ _
      | exact ih2 _ _ _ _
      | exact impl_FaceOf.mono _ _ _ _ _
      | exact laws_eqCube.mono _ _ _ _ _
      | exact laws_heldCube.mono _ _ _ _
      | exact laws_markCube.mono _ _ _ _
      | exact laws_toCube.mono _ _ _
      | exact spec_FaceOf.mono _ _ _ _ _
      | exact LeO.none _
      | refine LeO.ite ?_ ?_
      | refine LeO.bind ?_ (fun _ => ?_)
    · intro y0 y1 y2 y3
      unfold laws_FnExactFaceOf.j2
      repeat' first
      | (with_reducible exact ih0 _ _ _ _ _ _ _ _ _ _ _ _ _)
      | (with_reducible exact ih1 _ _ _ _ _ _ _ _ _ _)
      | (with_reducible exact ih2 _ _ _ _)
      | (with_reducible exact impl_FaceOf.mono _ _ _ _ _)
      | (with_reducible exact laws_eqCube.mono _ _ _ _ _)
      | (with_reducible exact laws_heldCube.mono _ _ _ _)
      | (with_reducible exact laws_markCube.mono _ _ _ _)
      | (with_reducible exact laws_toCube.mono _ _ _)
      | (with_reducible exact spec_FaceOf.mono _ _ _ _ _)
      | (with_reducible exact LeO.refl _)
      | (with_reducible exact LeO.none _)
      | (with_reducible refine LeO.ite ?_ ?_)
      | (with_reducible refine LeO.bind ?_ (fun _ => ?_))
      | exact ih0 _ _ _ _ _ _ _ _ _ _ _ _ _
      | exact ih1 _ _ _ _ _ _ _ _ _ _
      | exact ih2 _ _ _ _
      | exact impl_FaceOf.mono _ _ _ _ _
      | exact laws_eqCube.mono _ _ _ _ _
      | exact laws_heldCube.mono _ _ _ _
      | exact laws_markCube.mono _ _ _ _
      | exact laws_toCube.mono _ _ _
      | exact spec_FaceOf.mono _ _ _ _ _
      | exact LeO.none _
      | refine LeO.ite ?_ ?_
      | refine LeO.bind ?_ (fun _ => ?_)
theorem laws_FnExactFaceOf.mono : ∀ a0 a1 a2 a3 k, LeO (laws_FnExactFaceOf.f k a0 a1 a2 a3) (laws_FnExactFaceOf.f (k + 1) a0 a1 a2 a3) := by
  intro a0 a1 a2 a3 k
  obtain ⟨ih0, ih1, ih2⟩ := laws_FnExactFaceOf.mono_l k
  unfold laws_FnExactFaceOf.f
  repeat' first
      | (with_reducible exact ih0 _ _ _ _ _ _ _ _ _ _ _ _ _)
      | (with_reducible exact ih1 _ _ _ _ _ _ _ _ _ _)
      | (with_reducible exact ih2 _ _ _ _)
      | (with_reducible exact impl_FaceOf.mono _ _ _ _ _)
      | (with_reducible exact laws_eqCube.mono _ _ _ _ _)
      | (with_reducible exact laws_heldCube.mono _ _ _ _)
      | (with_reducible exact laws_markCube.mono _ _ _ _)
      | (with_reducible exact laws_toCube.mono _ _ _)
      | (with_reducible exact spec_FaceOf.mono _ _ _ _ _)
      | (with_reducible exact LeO.refl _)
      | (with_reducible exact LeO.none _)
      | (with_reducible refine LeO.ite ?_ ?_)
      | (with_reducible refine LeO.bind ?_ (fun _ => ?_))
      | exact ih0 _ _ _ _ _ _ _ _ _ _ _ _ _
      | exact ih1 _ _ _ _ _ _ _ _ _ _
      | exact ih2 _ _ _ _
      | exact impl_FaceOf.mono _ _ _ _ _
      | exact laws_eqCube.mono _ _ _ _ _
      | exact laws_heldCube.mono _ _ _ _
      | exact laws_markCube.mono _ _ _ _
      | exact laws_toCube.mono _ _ _
      | exact spec_FaceOf.mono _ _ _ _ _
      | exact LeO.none _
      | refine LeO.ite ?_ ?_
      | refine LeO.bind ?_ (fun _ => ?_)
set_option maxHeartbeats 8000000 in
set_option maxRecDepth 100000 in
theorem laws_FnExactFaceOf.calls (k : Nat) (a0_0 : Int) (A0_1 : Option Addr) (c0_1 : Nat) (l0_1 : List Int) (a1 : Int) (a2 : Int) (r : Bool) (w : World) (hr0_1 : Kd.C (Kd.int .i64) w A0_1 l0_1.length l0_1) (hc0_1 : l0_1.length ≤ c0_1) (h : laws_FnExactFaceOf.f k a0_0 l0_1 a1 a2 = some r) :
    Calls Try.prog 13 #[.agg #[.int .i64 a0_0, .slice A0_1 l0_1.length c0_1], .int .i64 a1, .int .i64 a2] w fun e w' => e = .returned (.bool r) ∧ Below w.heap.size w w' := by
  have hu24 := Try.underlying24
  have hu27 := Try.underlying27
  have HR0_1 := Aside0.mk hr0_1
  have HC0_1 := Aside0.mk hc0_1
  clear hr0_1 hc0_1
  have HB := Aside0.mk (Below.refl w.heap.size w)
  have H : ((laws_szCube.f a0_0 l0_1 1048576).bind fun t715 => (if t715 < 0 then (some true) else ((laws_toCube.f k a0_0 l0_1).bind fun bt716 => ((spec_FaceOf.f k bt716.1 bt716.2 a1 a2).bind fun bt720 => ((laws_toCube.f k a0_0 l0_1).bind fun bt726 => ((impl_FaceOf.f k bt726.1 bt726.2 a1 a2).bind fun bt731 => ((laws_eqCube.f k bt731.1 bt731.2.1 bt720.1 bt720.2.1).bind fun t737 => (if t737 = true then (laws_FnExactFaceOf.j0 k a1 a2 bt720.2.2 bt731.2.2 (bt731.2.2 != bt720.2.2) a0_0 l0_1 bt720.1 bt720.2.1 bt726.1 bt726.2 bt731.1 bt731.2.1) else (laws_FnExactFaceOf.j0 k a1 a2 bt720.2.2 bt731.2.2 true a0_0 l0_1 bt720.1 bt720.2.1 bt726.1 bt726.2 bt731.1 bt731.2.1))))))))) = some r := h
  clear h
  replace H := Option.bind_eq_some_iff.mp H
  obtain ⟨t715, A40, H⟩ := H
  replace H : (if t715 < 0 then (some true) else ((laws_toCube.f k a0_0 l0_1).bind fun bt716 => ((spec_FaceOf.f k bt716.1 bt716.2 a1 a2).bind fun bt720 => ((laws_toCube.f k a0_0 l0_1).bind fun bt726 => ((impl_FaceOf.f k bt726.1 bt726.2 a1 a2).bind fun bt731 => ((laws_eqCube.f k bt731.1 bt731.2.1 bt720.1 bt720.2.1).bind fun t737 => (if t737 = true then (laws_FnExactFaceOf.j0 k a1 a2 bt720.2.2 bt731.2.2 (bt731.2.2 != bt720.2.2) a0_0 l0_1 bt720.1 bt720.2.1 bt726.1 bt726.2 bt731.1 bt731.2.1) else (laws_FnExactFaceOf.j0 k a1 a2 bt720.2.2 bt731.2.2 true a0_0 l0_1 bt720.1 bt720.2.1 bt726.1 bt726.2 bt731.1 bt731.2.1)))))))) = some r := H
  have A4 := Aside0.mk A40
  clear A40
  by_cases c5 : t715 < 0
  · rw [if_pos c5] at H
    have c5b0 : decide (t715 < 0) = true := decide_eq_true c5
    clear c5
    obtain rfl := Option.some.inj H
    go_enter Try.func13, Try.ntmps13
    go_wp2_with (first | ((with_reducible refine gate_dst (N := 3) rfl ?_); refine box_event ?hg (N := 3) ?hd (cs := #[.int .i64 a0_0, .slice A0_1 l0_1.length c0_1]) (t := 24) ?hr ?_; (case hd => rfl); (case hg => rfl); (case hr => first | (go_simp; done) | (go_simp; rfl)); intro gb714 hg w6 hbox hb; have n0_ := Aside0.mk (below_step (by repeat (first | (with_reducible first | exact HB.out | apply below_alloc | apply pw_below_drewN | apply below_drew1) | exact HB.out)) hb); have n1_ := Aside0.mk (hbox); have n2_ := Aside0.mk ((by rw [hg]; exact (below_size (by repeat (first | (with_reducible first | exact HB.out | apply below_alloc | apply pw_below_drewN | apply below_drew1) | exact HB.out))) : w.heap.size ≤ gb714)); have n3_ := Aside0.mk ((by rw [hg]; exact (below_size (by repeat (first | (with_reducible first | exact HB.out | apply below_alloc | apply pw_below_drewN | apply below_drew1) | exact HB.out))) : w.heap.size ≤ gb714)); clear HB; have HB := n0_; have BK714 := n1_; have GW714 := n2_; have GE714 := n3_; clear n0_ n1_ n2_ n3_; clear hb hbox hg; have hcz7_0 : w6.cell? ⟨gb714, 0, none⟩ = some (.int .i64 a0_0) := (blk_cell BK714.out 0).trans rfl; have hcz7_1 : w6.cell? ⟨gb714, 1, none⟩ = some (.slice A0_1 l0_1.length c0_1) := (blk_cell BK714.out 1).trans rfl; have hfz7_0 := blk_frozen BK714.out 0; have hfz7_1 := blk_frozen BK714.out 1) | ((with_reducible refine gate_callee (f := 15) rfl ?_); refine goesL_ (some 20) rfl rfl Try.func15 (by kernel_rfl) rfl #[.agg #[.int .i64 a0_0, .slice A0_1 l0_1.length c0_1], .int .i64 1048576] rfl (by (try simp only [List.map_toArray, List.map_cons, List.map_nil]); first | done | rfl | (simp only [List.length_drop, List.length_take]; rfl)) ?_; (with_reducible refine (laws_szCube.calls a0_0 _ _ l0_1 1048576 t715 _ ?side1 ?side2 A4.out).mono ?_); (case side1 => repeat (first | exact (Kd.C_below HR0_1.out HB.out) | (with_reducible refine Kd.C_alloc ?_ _) | (with_reducible refine Kd.C_drewN ?_ _) | (with_reducible refine Kd.C_drew ?_))); (case side2 => exact HC0_1.out); rintro e w8 ⟨rfl, hb⟩; refine ⟨_, rfl, ?_⟩; have n0_ := Aside0.mk (blk_below (g := gb714) (o := .cells #[.int .i64 a0_0, .slice A0_1 l0_1.length c0_1] 24 (0, 0)) (by (with_reducible repeat (first | refine blk_drewN ?_ _ | refine blk_drew ?_ | refine blk_alloc ?_ _)); exact BK714.out) hb); have n1_ := Aside0.mk (below_step (by repeat (first | (with_reducible first | exact HB.out | apply below_alloc | apply pw_below_drewN | apply below_drew1 | refine below_set ?_ GE714.out) | exact HB.out)) hb); clear BK714; clear HB; have BK714 := n0_; have HB := n1_; clear n0_ n1_; (try clear hb); (try clear hb2); (try clear hk); (try clear hi)))
    go_ret
    exact ⟨by first | rfl | (simp [errW_none, errW_some] <;> rfl) | (simp [*, errW_none, errW_some] <;> rfl), by repeat (first | (with_reducible first | exact HB.out | apply below_alloc | apply pw_below_drewN | apply below_drew1 | refine below_set ?_ GE714.out) | exact HB.out)⟩
  · rw [if_neg c5] at H
    have c5b0 : decide (t715 < 0) = false := decide_eq_false c5
    clear c5
    replace H := Option.bind_eq_some_iff.mp H
    obtain ⟨⟨t716, t717⟩, A90, H⟩ := H
    replace H : ((spec_FaceOf.f k t716 t717 a1 a2).bind fun bt720 => ((laws_toCube.f k a0_0 l0_1).bind fun bt726 => ((impl_FaceOf.f k bt726.1 bt726.2 a1 a2).bind fun bt731 => ((laws_eqCube.f k bt731.1 bt731.2.1 bt720.1 bt720.2.1).bind fun t737 => (if t737 = true then (laws_FnExactFaceOf.j0 k a1 a2 bt720.2.2 bt731.2.2 (bt731.2.2 != bt720.2.2) a0_0 l0_1 bt720.1 bt720.2.1 bt726.1 bt726.2 bt731.1 bt731.2.1) else (laws_FnExactFaceOf.j0 k a1 a2 bt720.2.2 bt731.2.2 true a0_0 l0_1 bt720.1 bt720.2.1 bt726.1 bt726.2 bt731.1 bt731.2.1)))))) = some r := H
    have A9 := Aside0.mk A90
    clear A90
    replace H := Option.bind_eq_some_iff.mp H
    obtain ⟨⟨t720, t721, t724⟩, A100, H⟩ := H
    replace H : ((laws_toCube.f k a0_0 l0_1).bind fun bt726 => ((impl_FaceOf.f k bt726.1 bt726.2 a1 a2).bind fun bt731 => ((laws_eqCube.f k bt731.1 bt731.2.1 t720 t721).bind fun t737 => (if t737 = true then (laws_FnExactFaceOf.j0 k a1 a2 t724 bt731.2.2 (bt731.2.2 != t724) a0_0 l0_1 t720 t721 bt726.1 bt726.2 bt731.1 bt731.2.1) else (laws_FnExactFaceOf.j0 k a1 a2 t724 bt731.2.2 true a0_0 l0_1 t720 t721 bt726.1 bt726.2 bt731.1 bt731.2.1))))) = some r := H
    have A10 := Aside0.mk A100
    clear A100
    replace H := Option.bind_eq_some_iff.mp H
    obtain ⟨⟨t726, t727⟩, A110, H⟩ := H
    replace H : ((impl_FaceOf.f k t726 t727 a1 a2).bind fun bt731 => ((laws_eqCube.f k bt731.1 bt731.2.1 t720 t721).bind fun t737 => (if t737 = true then (laws_FnExactFaceOf.j0 k a1 a2 t724 bt731.2.2 (bt731.2.2 != t724) a0_0 l0_1 t720 t721 t726 t727 bt731.1 bt731.2.1) else (laws_FnExactFaceOf.j0 k a1 a2 t724 bt731.2.2 true a0_0 l0_1 t720 t721 t726 t727 bt731.1 bt731.2.1)))) = some r := H
    have A11 := Aside0.mk A110
    clear A110
    replace H := Option.bind_eq_some_iff.mp H
    obtain ⟨⟨t731, t732, t735⟩, A120, H⟩ := H
    replace H : ((laws_eqCube.f k t731 t732 t720 t721).bind fun t737 => (if t737 = true then (laws_FnExactFaceOf.j0 k a1 a2 t724 t735 (t735 != t724) a0_0 l0_1 t720 t721 t726 t727 t731 t732) else (laws_FnExactFaceOf.j0 k a1 a2 t724 t735 true a0_0 l0_1 t720 t721 t726 t727 t731 t732))) = some r := H
    have A12 := Aside0.mk A120
    clear A120
    have HC13 := Aside0.mk H
    clear H
    go_enter Try.func13, Try.ntmps13
    go_upto_region 8 with (first | ((with_reducible refine gate_dst (N := 3) rfl ?_); refine box_event ?hg (N := 3) ?hd (cs := #[.int .i64 a0_0, .slice A0_1 l0_1.length c0_1]) (t := 24) ?hr ?_; (case hd => rfl); (case hg => rfl); (case hr => first | (go_simp; done) | (go_simp; rfl)); intro gb714 hg w14 hbox hb; have n0_ := Aside0.mk (below_step (by repeat (first | (with_reducible first | exact HB.out | apply below_alloc | apply pw_below_drewN | apply below_drew1) | exact HB.out)) hb); have n1_ := Aside0.mk (hbox); have n2_ := Aside0.mk ((by rw [hg]; exact (below_size (by repeat (first | (with_reducible first | exact HB.out | apply below_alloc | apply pw_below_drewN | apply below_drew1) | exact HB.out))) : w.heap.size ≤ gb714)); have n3_ := Aside0.mk ((by rw [hg]; exact (below_size (by repeat (first | (with_reducible first | exact HB.out | apply below_alloc | apply pw_below_drewN | apply below_drew1) | exact HB.out))) : w.heap.size ≤ gb714)); clear HB; have HB := n0_; have BK714 := n1_; have GW714 := n2_; have GE714 := n3_; clear n0_ n1_ n2_ n3_; clear hb hbox hg; have hcz15_0 : w14.cell? ⟨gb714, 0, none⟩ = some (.int .i64 a0_0) := (blk_cell BK714.out 0).trans rfl; have hcz15_1 : w14.cell? ⟨gb714, 1, none⟩ = some (.slice A0_1 l0_1.length c0_1) := (blk_cell BK714.out 1).trans rfl; have hfz15_0 := blk_frozen BK714.out 0; have hfz15_1 := blk_frozen BK714.out 1) | ((with_reducible refine gate_callee (f := 15) rfl ?_); refine goesL_ (some 20) rfl rfl Try.func15 (by kernel_rfl) rfl #[.agg #[.int .i64 a0_0, .slice A0_1 l0_1.length c0_1], .int .i64 1048576] rfl (by (try simp only [List.map_toArray, List.map_cons, List.map_nil]); first | done | rfl | (simp only [List.length_drop, List.length_take]; rfl)) ?_; (with_reducible refine (laws_szCube.calls a0_0 _ _ l0_1 1048576 t715 _ ?side1 ?side2 A4.out).mono ?_); (case side1 => repeat (first | exact (Kd.C_below HR0_1.out HB.out) | (with_reducible refine Kd.C_alloc ?_ _) | (with_reducible refine Kd.C_drewN ?_ _) | (with_reducible refine Kd.C_drew ?_))); (case side2 => exact HC0_1.out); rintro e w16 ⟨rfl, hb⟩; refine ⟨_, rfl, ?_⟩; have n0_ := Aside0.mk (blk_below (g := gb714) (o := .cells #[.int .i64 a0_0, .slice A0_1 l0_1.length c0_1] 24 (0, 0)) (by (with_reducible repeat (first | refine blk_drewN ?_ _ | refine blk_drew ?_ | refine blk_alloc ?_ _)); exact BK714.out) hb); have n1_ := Aside0.mk (below_step (by repeat (first | (with_reducible first | exact HB.out | apply below_alloc | apply pw_below_drewN | apply below_drew1 | refine below_set ?_ GE714.out) | exact HB.out)) hb); clear BK714; clear HB; have BK714 := n0_; have HB := n1_; clear n0_ n1_; (try clear hb); (try clear hb2); (try clear hk); (try clear hi); have hcz17_0 : w16.cell? ⟨gb714, 0, none⟩ = some (.int .i64 a0_0) := (blk_cell BK714.out 0).trans rfl; have hcz17_1 : w16.cell? ⟨gb714, 1, none⟩ = some (.slice A0_1 l0_1.length c0_1) := (blk_cell BK714.out 1).trans rfl; have hfz17_0 := blk_frozen BK714.out 0; have hfz17_1 := blk_frozen BK714.out 1) | ((with_reducible refine gate_callee (f := 17) rfl ?_); refine goesL_ (some 25) rfl rfl Try.func17 (by kernel_rfl) rfl #[.agg #[.int .i64 a0_0, .slice A0_1 l0_1.length c0_1]] rfl (by (try simp only [List.map_toArray, List.map_cons, List.map_nil]); first | done | rfl | (simp only [List.length_drop, List.length_take]; rfl)) ?_; (with_reducible refine (laws_toCube.calls k a0_0 _ _ l0_1 t716 t717 _ ?side1 ?side2 A9.out).mono ?_); (case side1 => repeat (first | exact (Kd.C_below HR0_1.out HB.out) | (with_reducible refine Kd.C_alloc ?_ _) | (with_reducible refine Kd.C_drewN ?_ _) | (with_reducible refine Kd.C_drew ?_))); (case side2 => exact HC0_1.out); rintro e w18 ⟨v718, rfl, ho0, hb⟩; refine ⟨_, rfl, ?_⟩; have n0_ := Aside0.mk (Kd.R_lower ho0 (below_size (by repeat (first | (with_reducible first | exact HB.out | apply below_alloc | apply pw_below_drewN | apply below_drew1 | refine below_set ?_ GE714.out) | exact HB.out)))); have n1_ := Aside0.mk (blk_below (g := gb714) (o := .cells #[.int .i64 a0_0, .slice A0_1 l0_1.length c0_1] 24 (0, 0)) (by (with_reducible repeat (first | refine blk_drewN ?_ _ | refine blk_drew ?_ | refine blk_alloc ?_ _)); exact BK714.out) hb); have n2_ := Aside0.mk (below_step (by repeat (first | (with_reducible first | exact HB.out | apply below_alloc | apply pw_below_drewN | apply below_drew1 | refine below_set ?_ GE714.out) | exact HB.out)) hb); clear BK714; clear HB; have HO719 := n0_; have BK714 := n1_; have HB := n2_; clear n0_ n1_ n2_; (try clear hb); (try clear hb2); (try clear hk); (try clear hi); (try clear ho0); obtain ⟨Ao19, co19, eo19⟩ := Kd.R_slice HO719.out; subst eo19) | ((with_reducible refine gate_callee (f := 49) rfl ?_); refine goesL_ (some 28) rfl rfl Try.func49 (by kernel_rfl) rfl #[.agg #[.int .i64 t716, .slice Ao19 t717.length co19], .int .i64 a1, .int .i64 a2] rfl (by (try simp only [List.map_toArray, List.map_cons, List.map_nil]); first | done | rfl | (simp only [List.length_drop, List.length_take]; rfl)) ?_; (with_reducible refine (spec_FaceOf.calls k t716 _ _ t717 a1 a2 t720 t721 t724 _ ?side1 ?side2 A10.out).mono ?_); (case side1 => repeat (first | exact (Kd.R_reads' HO719.out).2.2 | (with_reducible refine Kd.C_alloc ?_ _) | (with_reducible refine Kd.C_drewN ?_ _) | (with_reducible refine Kd.C_drew ?_))); (case side2 => exact (Kd.R_reads' HO719.out).2.1); rintro e w20 ⟨v722, rfl, ho0, hb⟩; refine ⟨_, rfl, ?_⟩; have n0_ := Aside0.mk (Kd.R_elder' (by (with_reducible repeat (first | apply Kd.R_alloc | apply Kd.R_drewN | apply Kd.R_drew)); exact HO719.out) (Kd.R_base ho0) hb); have n1_ := Aside0.mk (Kd.R_lower (Kd.R_new' ho0 (Kd.R_lt (by (with_reducible repeat (first | apply Kd.R_alloc | apply Kd.R_drewN | apply Kd.R_drew)); exact HO719.out))) (below_size (by repeat (first | (with_reducible first | exact HB.out | apply below_alloc | apply pw_below_drewN | apply below_drew1 | refine below_set ?_ GE714.out) | exact HB.out)))); have n2_ := Aside0.mk (blk_below (g := gb714) (o := .cells #[.int .i64 a0_0, .slice A0_1 l0_1.length c0_1] 24 (0, 0)) (by (with_reducible repeat (first | refine blk_drewN ?_ _ | refine blk_drew ?_ | refine blk_alloc ?_ _)); exact BK714.out) hb); have n3_ := Aside0.mk (below_step (by repeat (first | (with_reducible first | exact HB.out | apply below_alloc | apply pw_below_drewN | apply below_drew1 | refine below_set ?_ GE714.out) | exact HB.out)) hb); clear HO719; clear BK714; clear HB; have HO719 := n0_; have HO723 := n1_; have BK714 := n2_; have HB := n3_; clear n0_ n1_ n2_ n3_; (try clear hb); (try clear hb2); (try clear hk); (try clear hi); (try clear ho0)) | ((with_reducible refine gate_dst (N := 8) rfl ?_); refine box_event ?hg (N := 8) ?hd (cs := #[.int .i64 0, .slice none 0 0]) (t := 27) ?hr ?_; (case hd => rfl); (case hg => rfl); (case hr => first | (go_simp; done) | (go_simp; rfl)); intro gb725 hg w21 hbox hb; have n0_ := Aside0.mk (Kd.R_below (by (with_reducible repeat (first | apply Kd.R_alloc | apply Kd.R_drewN | apply Kd.R_drew)); exact HO719.out) hb); have n1_ := Aside0.mk (Kd.R_below (by (with_reducible repeat (first | apply Kd.R_alloc | apply Kd.R_drewN | apply Kd.R_drew)); exact HO723.out) hb); have n2_ := Aside0.mk (blk_below (g := gb714) (o := .cells #[.int .i64 a0_0, .slice A0_1 l0_1.length c0_1] 24 (0, 0)) (by (with_reducible repeat (first | refine blk_drewN ?_ _ | refine blk_drew ?_ | refine blk_alloc ?_ _)); exact BK714.out) hb); have n3_ := Aside0.mk (below_step (by repeat (first | (with_reducible first | exact HB.out | apply below_alloc | apply pw_below_drewN | apply below_drew1 | refine below_set ?_ GE714.out) | exact HB.out)) hb); have n4_ := Aside0.mk (hbox); have n5_ := Aside0.mk ((by rw [hg]; exact (below_size (by repeat (first | (with_reducible first | exact HB.out | apply below_alloc | apply pw_below_drewN | apply below_drew1 | refine below_set ?_ GE714.out) | exact HB.out))) : w.heap.size ≤ gb725)); have n6_ := Aside0.mk ((by rw [hg]; exact (below_size (by repeat (first | (with_reducible first | exact HB.out | apply below_alloc | apply pw_below_drewN | apply below_drew1 | refine below_set ?_ GE714.out) | exact HB.out))) : w.heap.size ≤ gb725)); have n7_ := Aside0.mk ((by rw [hg]; exact Nat.ne_of_lt (blk_lt (g := gb714) (o := .cells #[.int .i64 a0_0, .slice A0_1 l0_1.length c0_1] 24 (0, 0)) (by (with_reducible repeat (first | refine blk_drewN ?_ _ | refine blk_drew ?_ | refine blk_alloc ?_ _)); exact BK714.out)) : gb714 ≠ gb725)); have n8_ := Aside0.mk ((by rw [hg]; exact Nat.ne_of_gt (blk_lt (g := gb714) (o := .cells #[.int .i64 a0_0, .slice A0_1 l0_1.length c0_1] 24 (0, 0)) (by (with_reducible repeat (first | refine blk_drewN ?_ _ | refine blk_drew ?_ | refine blk_alloc ?_ _)); exact BK714.out)) : gb725 ≠ gb714)); clear HO719; clear HO723; clear BK714; clear HB; have HO719 := n0_; have HO723 := n1_; have BK714 := n2_; have HB := n3_; have BK725 := n4_; have GW725 := n5_; have GE725 := n6_; have NB714_725 := n7_; have NB725_714 := n8_; clear n0_ n1_ n2_ n3_ n4_ n5_ n6_ n7_ n8_; clear hb hbox hg; have hnb22 := NB725_714.out; have hnc22 := NB714_725.out; have hcz23_0 : w21.cell? ⟨gb725, 0, none⟩ = some (.int .i64 0) := (blk_cell BK725.out 0).trans rfl; have hcz23_1 : w21.cell? ⟨gb725, 1, none⟩ = some (.slice none 0 0) := (blk_cell BK725.out 1).trans rfl; have hfz23_0 := blk_frozen BK725.out 0; have hfz23_1 := blk_frozen BK725.out 1; obtain ⟨Ao24, co24, eo24⟩ := Kd.R_slice HO723.out; subst eo24; have hcz25_0 : w21.cell? ⟨gb714, 0, none⟩ = some (.int .i64 a0_0) := (blk_cell BK714.out 0).trans rfl; have hcz25_1 : w21.cell? ⟨gb714, 1, none⟩ = some (.slice A0_1 l0_1.length c0_1) := (blk_cell BK714.out 1).trans rfl; have hfz25_0 := blk_frozen BK714.out 0; have hfz25_1 := blk_frozen BK714.out 1) | ((with_reducible refine gate_callee (f := 17) rfl ?_); refine goesL_ (some 32) rfl rfl Try.func17 (by kernel_rfl) rfl #[.agg #[.int .i64 a0_0, .slice A0_1 l0_1.length c0_1]] rfl (by (try simp only [List.map_toArray, List.map_cons, List.map_nil]); first | done | rfl | (simp only [List.length_drop, List.length_take]; rfl)) ?_; (with_reducible refine (laws_toCube.calls k a0_0 _ _ l0_1 t726 t727 _ ?side1 ?side2 A11.out).mono ?_); (case side1 => exact Kd.C_below HR0_1.out (by repeat (first | (with_reducible first | exact HB.out | apply below_alloc | apply pw_below_drewN | apply below_drew1 | refine below_set ?_ GE714.out | refine below_set ?_ GE725.out) | exact HB.out))); (case side2 => exact HC0_1.out); rintro e w26 ⟨v728, rfl, ho0, hb⟩; refine ⟨_, rfl, ?_⟩; have n0_ := Aside0.mk (Kd.R_elder' (by (with_reducible repeat (first | apply Kd.R_alloc | apply Kd.R_drewN | apply Kd.R_drew)); exact (Kd.R_mono (Kd.R_far (p := ⟨gb725, 1, none⟩) (Kd.R_far (p := ⟨gb725, 0, none⟩) (Kd.R_types HO719.out BK725.out (by decide)) (fun _ hk => hk.2) (.int .i64 t720)) (fun _ hk => hk.2) (.slice Ao24 t721.length co24)) (fun _ h_ => h_.1))) (Kd.R_base ho0) hb); have n1_ := Aside0.mk (Kd.R_elder' (by (with_reducible repeat (first | apply Kd.R_alloc | apply Kd.R_drewN | apply Kd.R_drew)); exact (Kd.R_mono (Kd.R_far (p := ⟨gb725, 1, none⟩) (Kd.R_far (p := ⟨gb725, 0, none⟩) (Kd.R_types HO723.out BK725.out (by decide)) (fun _ hk => hk.2) (.int .i64 t720)) (fun _ hk => hk.2) (.slice Ao24 t721.length co24)) (fun _ h_ => h_.1))) (Kd.R_base ho0) hb); have n2_ := Aside0.mk (Kd.R_lower (Kd.R_new' (Kd.R_new' ho0 (Kd.R_lt (by (with_reducible repeat (first | apply Kd.R_alloc | apply Kd.R_drewN | apply Kd.R_drew)); exact (Kd.R_mono (Kd.R_far (p := ⟨gb725, 1, none⟩) (Kd.R_far (p := ⟨gb725, 0, none⟩) (Kd.R_types HO719.out BK725.out (by decide)) (fun _ hk => hk.2) (.int .i64 t720)) (fun _ hk => hk.2) (.slice Ao24 t721.length co24)) (fun _ h_ => h_.1))))) (Kd.R_lt (by (with_reducible repeat (first | apply Kd.R_alloc | apply Kd.R_drewN | apply Kd.R_drew)); exact (Kd.R_mono (Kd.R_far (p := ⟨gb725, 1, none⟩) (Kd.R_far (p := ⟨gb725, 0, none⟩) (Kd.R_types HO723.out BK725.out (by decide)) (fun _ hk => hk.2) (.int .i64 t720)) (fun _ hk => hk.2) (.slice Ao24 t721.length co24)) (fun _ h_ => h_.1))))) (below_size (by repeat (first | (with_reducible first | exact HB.out | apply below_alloc | apply pw_below_drewN | apply below_drew1 | refine below_set ?_ GE714.out | refine below_set ?_ GE725.out) | exact HB.out)))); have n3_ := Aside0.mk (blk_below (g := gb714) (o := .cells #[.int .i64 a0_0, .slice A0_1 l0_1.length c0_1] 24 (0, 0)) (by (with_reducible repeat (first | refine blk_drewN ?_ _ | refine blk_drew ?_ | refine blk_alloc ?_ _)); refine blk_far ?_ NB714_725.out _; (with_reducible repeat (first | refine blk_drewN ?_ _ | refine blk_drew ?_ | refine blk_alloc ?_ _)); refine blk_far ?_ NB714_725.out _; (with_reducible repeat (first | refine blk_drewN ?_ _ | refine blk_drew ?_ | refine blk_alloc ?_ _)); exact BK714.out) hb); have n4_ := Aside0.mk (blk_below (g := gb725) (o := .cells #[.int .i64 t720, .slice Ao24 t721.length co24] 27 (0, 0)) (by (with_reducible repeat (first | refine blk_drewN ?_ _ | refine blk_drew ?_ | refine blk_alloc ?_ _)); refine blk_put (cs := #[.int .i64 t720, .slice none 0 0]) ?_ 1 _ rfl; (with_reducible repeat (first | refine blk_drewN ?_ _ | refine blk_drew ?_ | refine blk_alloc ?_ _)); refine blk_put (cs := #[.int .i64 0, .slice none 0 0]) ?_ 0 _ rfl; (with_reducible repeat (first | refine blk_drewN ?_ _ | refine blk_drew ?_ | refine blk_alloc ?_ _)); exact BK725.out) hb); have n5_ := Aside0.mk (below_step (by repeat (first | (with_reducible first | exact HB.out | apply below_alloc | apply pw_below_drewN | apply below_drew1 | refine below_set ?_ GE714.out | refine below_set ?_ GE725.out) | exact HB.out)) hb); clear HO719; clear HO723; clear BK714; clear BK725; clear HB; have HO719 := n0_; have HO723 := n1_; have HO729 := n2_; have BK714 := n3_; have BK725 := n4_; have HB := n5_; clear n0_ n1_ n2_ n3_ n4_ n5_; (try clear hb); (try clear hb2); (try clear hk); (try clear hi); (try clear ho0)) | ((with_reducible refine gate_dst (N := 10) rfl ?_); refine box_event ?hg (N := 10) ?hd (cs := #[.int .i64 0, .slice none 0 0]) (t := 27) ?hr ?_; (case hd => rfl); (case hg => rfl); (case hr => first | (go_simp; done) | (go_simp; rfl)); intro gb730 hg w27 hbox hb; have n0_ := Aside0.mk (Kd.R_below (by (with_reducible repeat (first | apply Kd.R_alloc | apply Kd.R_drewN | apply Kd.R_drew)); exact HO719.out) hb); have n1_ := Aside0.mk (Kd.R_below (by (with_reducible repeat (first | apply Kd.R_alloc | apply Kd.R_drewN | apply Kd.R_drew)); exact HO723.out) hb); have n2_ := Aside0.mk (Kd.R_below (by (with_reducible repeat (first | apply Kd.R_alloc | apply Kd.R_drewN | apply Kd.R_drew)); exact HO729.out) hb); have n3_ := Aside0.mk (blk_below (g := gb714) (o := .cells #[.int .i64 a0_0, .slice A0_1 l0_1.length c0_1] 24 (0, 0)) (by (with_reducible repeat (first | refine blk_drewN ?_ _ | refine blk_drew ?_ | refine blk_alloc ?_ _)); exact BK714.out) hb); have n4_ := Aside0.mk (blk_below (g := gb725) (o := .cells #[.int .i64 t720, .slice Ao24 t721.length co24] 27 (0, 0)) (by (with_reducible repeat (first | refine blk_drewN ?_ _ | refine blk_drew ?_ | refine blk_alloc ?_ _)); exact BK725.out) hb); have n5_ := Aside0.mk (below_step (by repeat (first | (with_reducible first | exact HB.out | apply below_alloc | apply pw_below_drewN | apply below_drew1 | refine below_set ?_ GE714.out | refine below_set ?_ GE725.out) | exact HB.out)) hb); have n6_ := Aside0.mk (hbox); have n7_ := Aside0.mk ((by rw [hg]; exact (below_size (by repeat (first | (with_reducible first | exact HB.out | apply below_alloc | apply pw_below_drewN | apply below_drew1 | refine below_set ?_ GE714.out | refine below_set ?_ GE725.out) | exact HB.out))) : w.heap.size ≤ gb730)); have n8_ := Aside0.mk ((by rw [hg]; exact (below_size (by repeat (first | (with_reducible first | exact HB.out | apply below_alloc | apply pw_below_drewN | apply below_drew1 | refine below_set ?_ GE714.out | refine below_set ?_ GE725.out) | exact HB.out))) : w.heap.size ≤ gb730)); have n9_ := Aside0.mk ((by rw [hg]; exact Nat.ne_of_lt (blk_lt (g := gb714) (o := .cells #[.int .i64 a0_0, .slice A0_1 l0_1.length c0_1] 24 (0, 0)) (by (with_reducible repeat (first | refine blk_drewN ?_ _ | refine blk_drew ?_ | refine blk_alloc ?_ _)); exact BK714.out)) : gb714 ≠ gb730)); have n10_ := Aside0.mk ((by rw [hg]; exact Nat.ne_of_gt (blk_lt (g := gb714) (o := .cells #[.int .i64 a0_0, .slice A0_1 l0_1.length c0_1] 24 (0, 0)) (by (with_reducible repeat (first | refine blk_drewN ?_ _ | refine blk_drew ?_ | refine blk_alloc ?_ _)); exact BK714.out)) : gb730 ≠ gb714)); have n11_ := Aside0.mk ((by rw [hg]; exact Nat.ne_of_lt (blk_lt (g := gb725) (o := .cells #[.int .i64 t720, .slice Ao24 t721.length co24] 27 (0, 0)) (by (with_reducible repeat (first | refine blk_drewN ?_ _ | refine blk_drew ?_ | refine blk_alloc ?_ _)); exact BK725.out)) : gb725 ≠ gb730)); have n12_ := Aside0.mk ((by rw [hg]; exact Nat.ne_of_gt (blk_lt (g := gb725) (o := .cells #[.int .i64 t720, .slice Ao24 t721.length co24] 27 (0, 0)) (by (with_reducible repeat (first | refine blk_drewN ?_ _ | refine blk_drew ?_ | refine blk_alloc ?_ _)); exact BK725.out)) : gb730 ≠ gb725)); clear HO719; clear HO723; clear HO729; clear BK714; clear BK725; clear HB; have HO719 := n0_; have HO723 := n1_; have HO729 := n2_; have BK714 := n3_; have BK725 := n4_; have HB := n5_; have BK730 := n6_; have GW730 := n7_; have GE730 := n8_; have NB714_730 := n9_; have NB730_714 := n10_; have NB725_730 := n11_; have NB730_725 := n12_; clear n0_ n1_ n2_ n3_ n4_ n5_ n6_ n7_ n8_ n9_ n10_ n11_ n12_; clear hb hbox hg; have hnb28 := NB730_714.out; have hnc28 := NB714_730.out; have hnb29 := NB730_725.out; have hnc29 := NB725_730.out; have hcz30_0 : w27.cell? ⟨gb730, 0, none⟩ = some (.int .i64 0) := (blk_cell BK730.out 0).trans rfl; have hcz30_1 : w27.cell? ⟨gb730, 1, none⟩ = some (.slice none 0 0) := (blk_cell BK730.out 1).trans rfl; have hfz30_0 := blk_frozen BK730.out 0; have hfz30_1 := blk_frozen BK730.out 1; obtain ⟨Ao31, co31, eo31⟩ := Kd.R_slice HO729.out; subst eo31) | ((with_reducible refine gate_callee (f := 50) rfl ?_); refine goesL_ (some 37) rfl rfl Try.func50 (by kernel_rfl) rfl #[.agg #[.int .i64 t726, .slice Ao31 t727.length co31], .int .i64 a1, .int .i64 a2] rfl (by (try simp only [List.map_toArray, List.map_cons, List.map_nil]); first | done | rfl | (simp only [List.length_drop, List.length_take]; rfl)) ?_; (with_reducible refine (impl_FaceOf.calls k t726 _ _ t727 a1 a2 t731 t732 t735 _ ?side1 ?side2 A12.out).mono ?_); (case side1 => refine (Kd.R_reads' (e := 2) (base := w.heap.size) (ok := fun k_ => ((True ∧ some k_ ≠ (.slice Ao19 t717.length co19 : Value).ownBlock) ∧ some k_ ≠ (.slice Ao24 t721.length co24 : Value).ownBlock)) (n := t727.length) (c := co31) ?_).2.2; exact (by (with_reducible repeat (first | apply Kd.R_alloc | apply Kd.R_drewN | apply Kd.R_drew)); exact (Kd.R_mono (Kd.R_far (p := ⟨gb730, 1, none⟩) (Kd.R_far (p := ⟨gb730, 0, none⟩) (Kd.R_types HO729.out BK730.out (by decide)) (fun _ hk => hk.2) (.int .i64 t726)) (fun _ hk => hk.2) (.slice Ao31 t727.length co31)) (fun _ h_ => h_.1)))); (case side2 => exact (Kd.R_reads' HO729.out).2.1); rintro e w32 ⟨v733, rfl, ho0, hb⟩; refine ⟨_, rfl, ?_⟩; have n0_ := Aside0.mk (Kd.R_elder' (by (with_reducible repeat (first | apply Kd.R_alloc | apply Kd.R_drewN | apply Kd.R_drew)); exact (Kd.R_mono (Kd.R_far (p := ⟨gb730, 1, none⟩) (Kd.R_far (p := ⟨gb730, 0, none⟩) (Kd.R_types HO719.out BK730.out (by decide)) (fun _ hk => hk.2) (.int .i64 t726)) (fun _ hk => hk.2) (.slice Ao31 t727.length co31)) (fun _ h_ => h_.1))) (Kd.R_base ho0) hb); have n1_ := Aside0.mk (Kd.R_elder' (by (with_reducible repeat (first | apply Kd.R_alloc | apply Kd.R_drewN | apply Kd.R_drew)); exact (Kd.R_mono (Kd.R_far (p := ⟨gb730, 1, none⟩) (Kd.R_far (p := ⟨gb730, 0, none⟩) (Kd.R_types HO723.out BK730.out (by decide)) (fun _ hk => hk.2) (.int .i64 t726)) (fun _ hk => hk.2) (.slice Ao31 t727.length co31)) (fun _ h_ => h_.1))) (Kd.R_base ho0) hb); have n2_ := Aside0.mk (Kd.R_elder' (by (with_reducible repeat (first | apply Kd.R_alloc | apply Kd.R_drewN | apply Kd.R_drew)); exact (Kd.R_mono (Kd.R_far (p := ⟨gb730, 1, none⟩) (Kd.R_far (p := ⟨gb730, 0, none⟩) (Kd.R_types HO729.out BK730.out (by decide)) (fun _ hk => hk.2) (.int .i64 t726)) (fun _ hk => hk.2) (.slice Ao31 t727.length co31)) (fun _ h_ => h_.1))) (Kd.R_base ho0) hb); have n3_ := Aside0.mk (Kd.R_lower (Kd.R_new' (Kd.R_new' (Kd.R_new' ho0 (Kd.R_lt (by (with_reducible repeat (first | apply Kd.R_alloc | apply Kd.R_drewN | apply Kd.R_drew)); exact (Kd.R_mono (Kd.R_far (p := ⟨gb730, 1, none⟩) (Kd.R_far (p := ⟨gb730, 0, none⟩) (Kd.R_types HO719.out BK730.out (by decide)) (fun _ hk => hk.2) (.int .i64 t726)) (fun _ hk => hk.2) (.slice Ao31 t727.length co31)) (fun _ h_ => h_.1))))) (Kd.R_lt (by (with_reducible repeat (first | apply Kd.R_alloc | apply Kd.R_drewN | apply Kd.R_drew)); exact (Kd.R_mono (Kd.R_far (p := ⟨gb730, 1, none⟩) (Kd.R_far (p := ⟨gb730, 0, none⟩) (Kd.R_types HO723.out BK730.out (by decide)) (fun _ hk => hk.2) (.int .i64 t726)) (fun _ hk => hk.2) (.slice Ao31 t727.length co31)) (fun _ h_ => h_.1))))) (Kd.R_lt (by (with_reducible repeat (first | apply Kd.R_alloc | apply Kd.R_drewN | apply Kd.R_drew)); exact (Kd.R_mono (Kd.R_far (p := ⟨gb730, 1, none⟩) (Kd.R_far (p := ⟨gb730, 0, none⟩) (Kd.R_types HO729.out BK730.out (by decide)) (fun _ hk => hk.2) (.int .i64 t726)) (fun _ hk => hk.2) (.slice Ao31 t727.length co31)) (fun _ h_ => h_.1))))) (below_size (by repeat (first | (with_reducible first | exact HB.out | apply below_alloc | apply pw_below_drewN | apply below_drew1 | refine below_set ?_ GE714.out | refine below_set ?_ GE725.out | refine below_set ?_ GE730.out) | exact HB.out)))); have n4_ := Aside0.mk (blk_below (g := gb714) (o := .cells #[.int .i64 a0_0, .slice A0_1 l0_1.length c0_1] 24 (0, 0)) (by (with_reducible repeat (first | refine blk_drewN ?_ _ | refine blk_drew ?_ | refine blk_alloc ?_ _)); refine blk_far ?_ NB714_730.out _; (with_reducible repeat (first | refine blk_drewN ?_ _ | refine blk_drew ?_ | refine blk_alloc ?_ _)); refine blk_far ?_ NB714_730.out _; (with_reducible repeat (first | refine blk_drewN ?_ _ | refine blk_drew ?_ | refine blk_alloc ?_ _)); exact BK714.out) hb); have n5_ := Aside0.mk (blk_below (g := gb725) (o := .cells #[.int .i64 t720, .slice Ao24 t721.length co24] 27 (0, 0)) (by (with_reducible repeat (first | refine blk_drewN ?_ _ | refine blk_drew ?_ | refine blk_alloc ?_ _)); refine blk_far ?_ NB725_730.out _; (with_reducible repeat (first | refine blk_drewN ?_ _ | refine blk_drew ?_ | refine blk_alloc ?_ _)); refine blk_far ?_ NB725_730.out _; (with_reducible repeat (first | refine blk_drewN ?_ _ | refine blk_drew ?_ | refine blk_alloc ?_ _)); exact BK725.out) hb); have n6_ := Aside0.mk (blk_below (g := gb730) (o := .cells #[.int .i64 t726, .slice Ao31 t727.length co31] 27 (0, 0)) (by (with_reducible repeat (first | refine blk_drewN ?_ _ | refine blk_drew ?_ | refine blk_alloc ?_ _)); refine blk_put (cs := #[.int .i64 t726, .slice none 0 0]) ?_ 1 _ rfl; (with_reducible repeat (first | refine blk_drewN ?_ _ | refine blk_drew ?_ | refine blk_alloc ?_ _)); refine blk_put (cs := #[.int .i64 0, .slice none 0 0]) ?_ 0 _ rfl; (with_reducible repeat (first | refine blk_drewN ?_ _ | refine blk_drew ?_ | refine blk_alloc ?_ _)); exact BK730.out) hb); have n7_ := Aside0.mk (below_step (by repeat (first | (with_reducible first | exact HB.out | apply below_alloc | apply pw_below_drewN | apply below_drew1 | refine below_set ?_ GE714.out | refine below_set ?_ GE725.out | refine below_set ?_ GE730.out) | exact HB.out)) hb); clear HO719; clear HO723; clear HO729; clear BK714; clear BK725; clear BK730; clear HB; have HO719 := n0_; have HO723 := n1_; have HO729 := n2_; have HO734 := n3_; have BK714 := n4_; have BK725 := n5_; have BK730 := n6_; have HB := n7_; clear n0_ n1_ n2_ n3_ n4_ n5_ n6_ n7_; (try clear hb); (try clear hb2); (try clear hk); (try clear hi); (try clear ho0)) | ((with_reducible refine gate_dst (N := 11) rfl ?_); refine box_event ?hg (N := 11) ?hd (cs := #[.int .i64 0, .slice none 0 0]) (t := 27) ?hr ?_; (case hd => rfl); (case hg => rfl); (case hr => first | (go_simp; done) | (go_simp; rfl)); intro gb736 hg w33 hbox hb; have n0_ := Aside0.mk (Kd.R_below (by (with_reducible repeat (first | apply Kd.R_alloc | apply Kd.R_drewN | apply Kd.R_drew)); exact HO719.out) hb); have n1_ := Aside0.mk (Kd.R_below (by (with_reducible repeat (first | apply Kd.R_alloc | apply Kd.R_drewN | apply Kd.R_drew)); exact HO723.out) hb); have n2_ := Aside0.mk (Kd.R_below (by (with_reducible repeat (first | apply Kd.R_alloc | apply Kd.R_drewN | apply Kd.R_drew)); exact HO729.out) hb); have n3_ := Aside0.mk (Kd.R_below (by (with_reducible repeat (first | apply Kd.R_alloc | apply Kd.R_drewN | apply Kd.R_drew)); exact HO734.out) hb); have n4_ := Aside0.mk (blk_below (g := gb714) (o := .cells #[.int .i64 a0_0, .slice A0_1 l0_1.length c0_1] 24 (0, 0)) (by (with_reducible repeat (first | refine blk_drewN ?_ _ | refine blk_drew ?_ | refine blk_alloc ?_ _)); exact BK714.out) hb); have n5_ := Aside0.mk (blk_below (g := gb725) (o := .cells #[.int .i64 t720, .slice Ao24 t721.length co24] 27 (0, 0)) (by (with_reducible repeat (first | refine blk_drewN ?_ _ | refine blk_drew ?_ | refine blk_alloc ?_ _)); exact BK725.out) hb); have n6_ := Aside0.mk (blk_below (g := gb730) (o := .cells #[.int .i64 t726, .slice Ao31 t727.length co31] 27 (0, 0)) (by (with_reducible repeat (first | refine blk_drewN ?_ _ | refine blk_drew ?_ | refine blk_alloc ?_ _)); exact BK730.out) hb); have n7_ := Aside0.mk (below_step (by repeat (first | (with_reducible first | exact HB.out | apply below_alloc | apply pw_below_drewN | apply below_drew1 | refine below_set ?_ GE714.out | refine below_set ?_ GE725.out | refine below_set ?_ GE730.out) | exact HB.out)) hb); have n8_ := Aside0.mk (hbox); have n9_ := Aside0.mk ((by rw [hg]; exact (below_size (by repeat (first | (with_reducible first | exact HB.out | apply below_alloc | apply pw_below_drewN | apply below_drew1 | refine below_set ?_ GE714.out | refine below_set ?_ GE725.out | refine below_set ?_ GE730.out) | exact HB.out))) : w.heap.size ≤ gb736)); have n10_ := Aside0.mk ((by rw [hg]; exact (below_size (by repeat (first | (with_reducible first | exact HB.out | apply below_alloc | apply pw_below_drewN | apply below_drew1 | refine below_set ?_ GE714.out | refine below_set ?_ GE725.out | refine below_set ?_ GE730.out) | exact HB.out))) : w.heap.size ≤ gb736)); have n11_ := Aside0.mk ((by rw [hg]; exact Nat.ne_of_lt (blk_lt (g := gb714) (o := .cells #[.int .i64 a0_0, .slice A0_1 l0_1.length c0_1] 24 (0, 0)) (by (with_reducible repeat (first | refine blk_drewN ?_ _ | refine blk_drew ?_ | refine blk_alloc ?_ _)); exact BK714.out)) : gb714 ≠ gb736)); have n12_ := Aside0.mk ((by rw [hg]; exact Nat.ne_of_gt (blk_lt (g := gb714) (o := .cells #[.int .i64 a0_0, .slice A0_1 l0_1.length c0_1] 24 (0, 0)) (by (with_reducible repeat (first | refine blk_drewN ?_ _ | refine blk_drew ?_ | refine blk_alloc ?_ _)); exact BK714.out)) : gb736 ≠ gb714)); have n13_ := Aside0.mk ((by rw [hg]; exact Nat.ne_of_lt (blk_lt (g := gb725) (o := .cells #[.int .i64 t720, .slice Ao24 t721.length co24] 27 (0, 0)) (by (with_reducible repeat (first | refine blk_drewN ?_ _ | refine blk_drew ?_ | refine blk_alloc ?_ _)); exact BK725.out)) : gb725 ≠ gb736)); have n14_ := Aside0.mk ((by rw [hg]; exact Nat.ne_of_gt (blk_lt (g := gb725) (o := .cells #[.int .i64 t720, .slice Ao24 t721.length co24] 27 (0, 0)) (by (with_reducible repeat (first | refine blk_drewN ?_ _ | refine blk_drew ?_ | refine blk_alloc ?_ _)); exact BK725.out)) : gb736 ≠ gb725)); have n15_ := Aside0.mk ((by rw [hg]; exact Nat.ne_of_lt (blk_lt (g := gb730) (o := .cells #[.int .i64 t726, .slice Ao31 t727.length co31] 27 (0, 0)) (by (with_reducible repeat (first | refine blk_drewN ?_ _ | refine blk_drew ?_ | refine blk_alloc ?_ _)); exact BK730.out)) : gb730 ≠ gb736)); have n16_ := Aside0.mk ((by rw [hg]; exact Nat.ne_of_gt (blk_lt (g := gb730) (o := .cells #[.int .i64 t726, .slice Ao31 t727.length co31] 27 (0, 0)) (by (with_reducible repeat (first | refine blk_drewN ?_ _ | refine blk_drew ?_ | refine blk_alloc ?_ _)); exact BK730.out)) : gb736 ≠ gb730)); clear HO719; clear HO723; clear HO729; clear HO734; clear BK714; clear BK725; clear BK730; clear HB; have HO719 := n0_; have HO723 := n1_; have HO729 := n2_; have HO734 := n3_; have BK714 := n4_; have BK725 := n5_; have BK730 := n6_; have HB := n7_; have BK736 := n8_; have GW736 := n9_; have GE736 := n10_; have NB714_736 := n11_; have NB736_714 := n12_; have NB725_736 := n13_; have NB736_725 := n14_; have NB730_736 := n15_; have NB736_730 := n16_; clear n0_ n1_ n2_ n3_ n4_ n5_ n6_ n7_ n8_ n9_ n10_ n11_ n12_ n13_ n14_ n15_ n16_; clear hb hbox hg; have hnb34 := NB736_714.out; have hnc34 := NB714_736.out; have hnb35 := NB736_725.out; have hnc35 := NB725_736.out; have hnb36 := NB736_730.out; have hnc36 := NB730_736.out; have hcz37_0 : w33.cell? ⟨gb736, 0, none⟩ = some (.int .i64 0) := (blk_cell BK736.out 0).trans rfl; have hcz37_1 : w33.cell? ⟨gb736, 1, none⟩ = some (.slice none 0 0) := (blk_cell BK736.out 1).trans rfl; have hfz37_0 := blk_frozen BK736.out 0; have hfz37_1 := blk_frozen BK736.out 1; obtain ⟨Ao38, co38, eo38⟩ := Kd.R_slice HO734.out; subst eo38))
    (try simp only [Act.put, List.setIfInBounds_toArray, List.set_cons_zero, List.set_cons_succ])
    go_cut [48] (fun v48 wc => ∃ (kq : Nat) (x48_12 : Bool), v48 = .bool x48_12 ∧ Aside0 (laws_FnExactFaceOf.j0 kq a1 a2 t724 t735 x48_12 a0_0 l0_1 t720 t721 t726 t727 t731 t732 = some r) ∧ Aside0 (kq ≤ k) ∧ Aside0 (Kd.R (Kd.int .i64) 2 wc w.heap.size (fun k_ => some k_ ≠ ((.slice Ao31 t727.length co31) : Value).ownBlock ∧ some k_ ≠ ((.slice Ao38 t732.length co38) : Value).ownBlock) (.slice Ao24 t721.length co24) t721) ∧ Aside0 (Kd.R (Kd.int .i64) 2 wc w.heap.size (fun k_ => some k_ ≠ ((.slice Ao24 t721.length co24) : Value).ownBlock ∧ some k_ ≠ ((.slice Ao38 t732.length co38) : Value).ownBlock) (.slice Ao31 t727.length co31) t727) ∧ Aside0 (Kd.R (Kd.int .i64) 2 wc w.heap.size (fun k_ => some k_ ≠ ((.slice Ao24 t721.length co24) : Value).ownBlock ∧ some k_ ≠ ((.slice Ao31 t727.length co31) : Value).ownBlock) (.slice Ao38 t732.length co38) t732) ∧ Aside0 (wc.heap[gb714]? = some (.cells #[.int .i64 a0_0, (.slice A0_1 l0_1.length c0_1)] 24 (0, 0))) ∧ Aside0 (wc.heap[gb725]? = some (.cells #[.int .i64 t720, (.slice Ao24 t721.length co24)] 27 (0, 0))) ∧ Aside0 (wc.heap[gb730]? = some (.cells #[.int .i64 t726, (.slice Ao31 t727.length co31)] 27 (0, 0))) ∧ Aside0 (wc.heap[gb736]? = some (.cells #[.int .i64 t731, (.slice Ao38 t732.length co38)] 27 (0, 0))) ∧ Aside0 (Below w.heap.size w wc))
    case first =>
      have H := HC13.out
      clear HC13
      replace H := Option.bind_eq_some_iff.mp H
      obtain ⟨t737, A390, H⟩ := H
      replace H : (if t737 = true then (laws_FnExactFaceOf.j0 k a1 a2 t724 t735 (t735 != t724) a0_0 l0_1 t720 t721 t726 t727 t731 t732) else (laws_FnExactFaceOf.j0 k a1 a2 t724 t735 true a0_0 l0_1 t720 t721 t726 t727 t731 t732)) = some r := H
      have A39 := Aside0.mk A390
      clear A390
      by_cases c40 : t737 = true
      · subst c40
        have H1 : (laws_FnExactFaceOf.j0 k a1 a2 t724 t735 (t735 != t724) a0_0 l0_1 t720 t721 t726 t727 t731 t732) = some r := by rw [if_pos rfl] at H; exact H
        clear H
        have H := H1
        clear H1
        have H' := Aside0.mk H
        clear H
        have hnb41 := NB736_714.out
        have hnc41 := NB714_736.out
        have hnb42 := NB736_725.out
        have hnc42 := NB725_736.out
        have hnb43 := NB736_730.out
        have hnc43 := NB730_736.out
        have hcz44_0 : w33.cell? ⟨gb736, 0, none⟩ = some (.int .i64 0) := (blk_cell BK736.out 0).trans rfl
        have hcz44_1 : w33.cell? ⟨gb736, 1, none⟩ = some (.slice none 0 0) := (blk_cell BK736.out 1).trans rfl
        have hfz44_0 := blk_frozen BK736.out 0
        have hfz44_1 := blk_frozen BK736.out 1
        have hnb45 := NB725_714.out
        have hnc45 := NB714_725.out
        have hnb46 := NB725_730.out
        have hnc46 := NB730_725.out
        have hcz47_0 : w33.cell? ⟨gb725, 0, none⟩ = some (.int .i64 t720) := (blk_cell BK725.out 0).trans rfl
        have hcz47_1 : w33.cell? ⟨gb725, 1, none⟩ = some (.slice Ao24 t721.length co24) := (blk_cell BK725.out 1).trans rfl
        have hfz47_0 := blk_frozen BK725.out 0
        have hfz47_1 := blk_frozen BK725.out 1
        go_wp2_with (first | ((with_reducible refine gate_callee (f := 19) rfl ?_); refine goesL_ (some 42) rfl rfl Try.func19 (by kernel_rfl) rfl #[.agg #[.int .i64 t731, .slice Ao38 t732.length co38], .agg #[.int .i64 t720, .slice Ao24 t721.length co24]] rfl (by (try simp only [List.map_toArray, List.map_cons, List.map_nil]); first | done | rfl | (simp only [List.length_drop, List.length_take]; rfl)) ?_; (with_reducible refine (laws_eqCube.calls k t731 _ _ t732 t720 _ _ t721 true _ ?side1 ?side2 ?side3 ?side4 A39.out).mono ?_); (case side1 => refine (Kd.R_reads' (e := 2) (base := w.heap.size) (ok := fun k_ => (((True ∧ some k_ ≠ (.slice Ao19 t717.length co19 : Value).ownBlock) ∧ some k_ ≠ (.slice Ao24 t721.length co24 : Value).ownBlock) ∧ some k_ ≠ (.slice Ao31 t727.length co31 : Value).ownBlock)) (n := t732.length) (c := co38) ?_).2.2; exact (by (with_reducible repeat (first | apply Kd.R_alloc | apply Kd.R_drewN | apply Kd.R_drew)); exact (Kd.R_mono (Kd.R_far (p := ⟨gb736, 1, none⟩) (Kd.R_far (p := ⟨gb736, 0, none⟩) (Kd.R_types HO734.out BK736.out (by decide)) (fun _ hk => hk.2) (.int .i64 t731)) (fun _ hk => hk.2) (.slice Ao38 t732.length co38)) (fun _ h_ => h_.1)))); (case side2 => exact (Kd.R_reads' HO734.out).2.1); (case side3 => refine (Kd.R_reads' (e := 2) (base := w.heap.size) (ok := fun k_ => (((True ∧ some k_ ≠ (.slice Ao19 t717.length co19 : Value).ownBlock) ∧ some k_ ≠ (.slice Ao31 t727.length co31 : Value).ownBlock) ∧ some k_ ≠ (.slice Ao38 t732.length co38 : Value).ownBlock)) (n := t721.length) (c := co24) ?_).2.2; exact (by (with_reducible repeat (first | apply Kd.R_alloc | apply Kd.R_drewN | apply Kd.R_drew)); exact (Kd.R_mono (Kd.R_far (p := ⟨gb736, 1, none⟩) (Kd.R_far (p := ⟨gb736, 0, none⟩) (Kd.R_types HO723.out BK736.out (by decide)) (fun _ hk => hk.2) (.int .i64 t731)) (fun _ hk => hk.2) (.slice Ao38 t732.length co38)) (fun _ h_ => h_.1)))); (case side4 => exact (Kd.R_reads' HO723.out).2.1); rintro e w48 ⟨rfl, hb⟩; refine ⟨_, rfl, ?_⟩; have n0_ := Aside0.mk (Kd.R_below (by (with_reducible repeat (first | apply Kd.R_alloc | apply Kd.R_drewN | apply Kd.R_drew)); exact (Kd.R_mono (Kd.R_far (p := ⟨gb736, 1, none⟩) (Kd.R_far (p := ⟨gb736, 0, none⟩) (Kd.R_types HO719.out BK736.out (by decide)) (fun _ hk => hk.2) (.int .i64 t731)) (fun _ hk => hk.2) (.slice Ao38 t732.length co38)) (fun _ h_ => h_.1))) hb); have n1_ := Aside0.mk (Kd.R_below (by (with_reducible repeat (first | apply Kd.R_alloc | apply Kd.R_drewN | apply Kd.R_drew)); exact (Kd.R_mono (Kd.R_far (p := ⟨gb736, 1, none⟩) (Kd.R_far (p := ⟨gb736, 0, none⟩) (Kd.R_types HO723.out BK736.out (by decide)) (fun _ hk => hk.2) (.int .i64 t731)) (fun _ hk => hk.2) (.slice Ao38 t732.length co38)) (fun _ h_ => h_.1))) hb); have n2_ := Aside0.mk (Kd.R_below (by (with_reducible repeat (first | apply Kd.R_alloc | apply Kd.R_drewN | apply Kd.R_drew)); exact (Kd.R_mono (Kd.R_far (p := ⟨gb736, 1, none⟩) (Kd.R_far (p := ⟨gb736, 0, none⟩) (Kd.R_types HO729.out BK736.out (by decide)) (fun _ hk => hk.2) (.int .i64 t731)) (fun _ hk => hk.2) (.slice Ao38 t732.length co38)) (fun _ h_ => h_.1))) hb); have n3_ := Aside0.mk (Kd.R_below (by (with_reducible repeat (first | apply Kd.R_alloc | apply Kd.R_drewN | apply Kd.R_drew)); exact (Kd.R_mono (Kd.R_far (p := ⟨gb736, 1, none⟩) (Kd.R_far (p := ⟨gb736, 0, none⟩) (Kd.R_types HO734.out BK736.out (by decide)) (fun _ hk => hk.2) (.int .i64 t731)) (fun _ hk => hk.2) (.slice Ao38 t732.length co38)) (fun _ h_ => h_.1))) hb); have n4_ := Aside0.mk (blk_below (g := gb714) (o := .cells #[.int .i64 a0_0, .slice A0_1 l0_1.length c0_1] 24 (0, 0)) (by (with_reducible repeat (first | refine blk_drewN ?_ _ | refine blk_drew ?_ | refine blk_alloc ?_ _)); refine blk_far ?_ NB714_736.out _; (with_reducible repeat (first | refine blk_drewN ?_ _ | refine blk_drew ?_ | refine blk_alloc ?_ _)); refine blk_far ?_ NB714_736.out _; (with_reducible repeat (first | refine blk_drewN ?_ _ | refine blk_drew ?_ | refine blk_alloc ?_ _)); exact BK714.out) hb); have n5_ := Aside0.mk (blk_below (g := gb725) (o := .cells #[.int .i64 t720, .slice Ao24 t721.length co24] 27 (0, 0)) (by (with_reducible repeat (first | refine blk_drewN ?_ _ | refine blk_drew ?_ | refine blk_alloc ?_ _)); refine blk_far ?_ NB725_736.out _; (with_reducible repeat (first | refine blk_drewN ?_ _ | refine blk_drew ?_ | refine blk_alloc ?_ _)); refine blk_far ?_ NB725_736.out _; (with_reducible repeat (first | refine blk_drewN ?_ _ | refine blk_drew ?_ | refine blk_alloc ?_ _)); exact BK725.out) hb); have n6_ := Aside0.mk (blk_below (g := gb730) (o := .cells #[.int .i64 t726, .slice Ao31 t727.length co31] 27 (0, 0)) (by (with_reducible repeat (first | refine blk_drewN ?_ _ | refine blk_drew ?_ | refine blk_alloc ?_ _)); refine blk_far ?_ NB730_736.out _; (with_reducible repeat (first | refine blk_drewN ?_ _ | refine blk_drew ?_ | refine blk_alloc ?_ _)); refine blk_far ?_ NB730_736.out _; (with_reducible repeat (first | refine blk_drewN ?_ _ | refine blk_drew ?_ | refine blk_alloc ?_ _)); exact BK730.out) hb); have n7_ := Aside0.mk (blk_below (g := gb736) (o := .cells #[.int .i64 t731, .slice Ao38 t732.length co38] 27 (0, 0)) (by (with_reducible repeat (first | refine blk_drewN ?_ _ | refine blk_drew ?_ | refine blk_alloc ?_ _)); refine blk_put (cs := #[.int .i64 t731, .slice none 0 0]) ?_ 1 _ rfl; (with_reducible repeat (first | refine blk_drewN ?_ _ | refine blk_drew ?_ | refine blk_alloc ?_ _)); refine blk_put (cs := #[.int .i64 0, .slice none 0 0]) ?_ 0 _ rfl; (with_reducible repeat (first | refine blk_drewN ?_ _ | refine blk_drew ?_ | refine blk_alloc ?_ _)); exact BK736.out) hb); have n8_ := Aside0.mk (below_step (by repeat (first | (with_reducible first | exact HB.out | apply below_alloc | apply pw_below_drewN | apply below_drew1 | refine below_set ?_ GE714.out | refine below_set ?_ GE725.out | refine below_set ?_ GE730.out | refine below_set ?_ GE736.out) | exact HB.out)) hb); clear HO719; clear HO723; clear HO729; clear HO734; clear BK714; clear BK725; clear BK730; clear BK736; clear HB; have HO719 := n0_; have HO723 := n1_; have HO729 := n2_; have HO734 := n3_; have BK714 := n4_; have BK725 := n5_; have BK730 := n6_; have BK736 := n7_; have HB := n8_; clear n0_ n1_ n2_ n3_ n4_ n5_ n6_ n7_ n8_; (try clear hb); (try clear hb2); (try clear hk); (try clear hi)))
        go_meet
        case rel => exact ⟨_, ((t735 != t724)), (by first | rfl | (simp; done) | (simp [*]; done)), H', ⟨by first | omega | exact Nat.le_refl _⟩, ⟨by (with_reducible repeat (first | apply Kd.R_alloc | apply Kd.R_drewN | apply Kd.R_drew)); exact Kd.R_mono HO723.out (fun _ hk => ⟨hk.1.2, hk.2⟩)⟩, ⟨by (with_reducible repeat (first | apply Kd.R_alloc | apply Kd.R_drewN | apply Kd.R_drew)); exact Kd.R_mono HO729.out (fun _ hk => ⟨hk.1.2, hk.2⟩)⟩, ⟨by (with_reducible repeat (first | apply Kd.R_alloc | apply Kd.R_drewN | apply Kd.R_drew)); exact Kd.R_mono HO734.out (fun _ hk => ⟨hk.1.2, hk.2⟩)⟩, ⟨by (with_reducible repeat (first | refine blk_drewN ?_ _ | refine blk_drew ?_ | refine blk_alloc ?_ _)); exact BK714.out⟩, ⟨by (with_reducible repeat (first | refine blk_drewN ?_ _ | refine blk_drew ?_ | refine blk_alloc ?_ _)); exact BK725.out⟩, ⟨by (with_reducible repeat (first | refine blk_drewN ?_ _ | refine blk_drew ?_ | refine blk_alloc ?_ _)); exact BK730.out⟩, ⟨by (with_reducible repeat (first | refine blk_drewN ?_ _ | refine blk_drew ?_ | refine blk_alloc ?_ _)); exact BK736.out⟩, ⟨by repeat (first | (with_reducible first | exact HB.out | apply below_alloc | apply pw_below_drewN | apply below_drew1 | refine below_set ?_ GE714.out | refine below_set ?_ GE725.out | refine below_set ?_ GE730.out | refine below_set ?_ GE736.out) | exact HB.out)⟩⟩
      · replace c40 := Bool.eq_false_iff.mpr c40
        subst c40
        have H1 : (laws_FnExactFaceOf.j0 k a1 a2 t724 t735 true a0_0 l0_1 t720 t721 t726 t727 t731 t732) = some r := by rw [if_neg (show ¬ (false = true) by decide)] at H; exact H
        clear H
        have H := H1
        clear H1
        have H' := Aside0.mk H
        clear H
        have hnb49 := NB736_714.out
        have hnc49 := NB714_736.out
        have hnb50 := NB736_725.out
        have hnc50 := NB725_736.out
        have hnb51 := NB736_730.out
        have hnc51 := NB730_736.out
        have hcz52_0 : w33.cell? ⟨gb736, 0, none⟩ = some (.int .i64 0) := (blk_cell BK736.out 0).trans rfl
        have hcz52_1 : w33.cell? ⟨gb736, 1, none⟩ = some (.slice none 0 0) := (blk_cell BK736.out 1).trans rfl
        have hfz52_0 := blk_frozen BK736.out 0
        have hfz52_1 := blk_frozen BK736.out 1
        have hnb53 := NB725_714.out
        have hnc53 := NB714_725.out
        have hnb54 := NB725_730.out
        have hnc54 := NB730_725.out
        have hcz55_0 : w33.cell? ⟨gb725, 0, none⟩ = some (.int .i64 t720) := (blk_cell BK725.out 0).trans rfl
        have hcz55_1 : w33.cell? ⟨gb725, 1, none⟩ = some (.slice Ao24 t721.length co24) := (blk_cell BK725.out 1).trans rfl
        have hfz55_0 := blk_frozen BK725.out 0
        have hfz55_1 := blk_frozen BK725.out 1
        go_wp2_with (first | ((with_reducible refine gate_callee (f := 19) rfl ?_); refine goesL_ (some 42) rfl rfl Try.func19 (by kernel_rfl) rfl #[.agg #[.int .i64 t731, .slice Ao38 t732.length co38], .agg #[.int .i64 t720, .slice Ao24 t721.length co24]] rfl (by (try simp only [List.map_toArray, List.map_cons, List.map_nil]); first | done | rfl | (simp only [List.length_drop, List.length_take]; rfl)) ?_; (with_reducible refine (laws_eqCube.calls k t731 _ _ t732 t720 _ _ t721 false _ ?side1 ?side2 ?side3 ?side4 A39.out).mono ?_); (case side1 => refine (Kd.R_reads' (e := 2) (base := w.heap.size) (ok := fun k_ => (((True ∧ some k_ ≠ (.slice Ao19 t717.length co19 : Value).ownBlock) ∧ some k_ ≠ (.slice Ao24 t721.length co24 : Value).ownBlock) ∧ some k_ ≠ (.slice Ao31 t727.length co31 : Value).ownBlock)) (n := t732.length) (c := co38) ?_).2.2; exact (by (with_reducible repeat (first | apply Kd.R_alloc | apply Kd.R_drewN | apply Kd.R_drew)); exact (Kd.R_mono (Kd.R_far (p := ⟨gb736, 1, none⟩) (Kd.R_far (p := ⟨gb736, 0, none⟩) (Kd.R_types HO734.out BK736.out (by decide)) (fun _ hk => hk.2) (.int .i64 t731)) (fun _ hk => hk.2) (.slice Ao38 t732.length co38)) (fun _ h_ => h_.1)))); (case side2 => exact (Kd.R_reads' HO734.out).2.1); (case side3 => refine (Kd.R_reads' (e := 2) (base := w.heap.size) (ok := fun k_ => (((True ∧ some k_ ≠ (.slice Ao19 t717.length co19 : Value).ownBlock) ∧ some k_ ≠ (.slice Ao31 t727.length co31 : Value).ownBlock) ∧ some k_ ≠ (.slice Ao38 t732.length co38 : Value).ownBlock)) (n := t721.length) (c := co24) ?_).2.2; exact (by (with_reducible repeat (first | apply Kd.R_alloc | apply Kd.R_drewN | apply Kd.R_drew)); exact (Kd.R_mono (Kd.R_far (p := ⟨gb736, 1, none⟩) (Kd.R_far (p := ⟨gb736, 0, none⟩) (Kd.R_types HO723.out BK736.out (by decide)) (fun _ hk => hk.2) (.int .i64 t731)) (fun _ hk => hk.2) (.slice Ao38 t732.length co38)) (fun _ h_ => h_.1)))); (case side4 => exact (Kd.R_reads' HO723.out).2.1); rintro e w56 ⟨rfl, hb⟩; refine ⟨_, rfl, ?_⟩; have n0_ := Aside0.mk (Kd.R_below (by (with_reducible repeat (first | apply Kd.R_alloc | apply Kd.R_drewN | apply Kd.R_drew)); exact (Kd.R_mono (Kd.R_far (p := ⟨gb736, 1, none⟩) (Kd.R_far (p := ⟨gb736, 0, none⟩) (Kd.R_types HO719.out BK736.out (by decide)) (fun _ hk => hk.2) (.int .i64 t731)) (fun _ hk => hk.2) (.slice Ao38 t732.length co38)) (fun _ h_ => h_.1))) hb); have n1_ := Aside0.mk (Kd.R_below (by (with_reducible repeat (first | apply Kd.R_alloc | apply Kd.R_drewN | apply Kd.R_drew)); exact (Kd.R_mono (Kd.R_far (p := ⟨gb736, 1, none⟩) (Kd.R_far (p := ⟨gb736, 0, none⟩) (Kd.R_types HO723.out BK736.out (by decide)) (fun _ hk => hk.2) (.int .i64 t731)) (fun _ hk => hk.2) (.slice Ao38 t732.length co38)) (fun _ h_ => h_.1))) hb); have n2_ := Aside0.mk (Kd.R_below (by (with_reducible repeat (first | apply Kd.R_alloc | apply Kd.R_drewN | apply Kd.R_drew)); exact (Kd.R_mono (Kd.R_far (p := ⟨gb736, 1, none⟩) (Kd.R_far (p := ⟨gb736, 0, none⟩) (Kd.R_types HO729.out BK736.out (by decide)) (fun _ hk => hk.2) (.int .i64 t731)) (fun _ hk => hk.2) (.slice Ao38 t732.length co38)) (fun _ h_ => h_.1))) hb); have n3_ := Aside0.mk (Kd.R_below (by (with_reducible repeat (first | apply Kd.R_alloc | apply Kd.R_drewN | apply Kd.R_drew)); exact (Kd.R_mono (Kd.R_far (p := ⟨gb736, 1, none⟩) (Kd.R_far (p := ⟨gb736, 0, none⟩) (Kd.R_types HO734.out BK736.out (by decide)) (fun _ hk => hk.2) (.int .i64 t731)) (fun _ hk => hk.2) (.slice Ao38 t732.length co38)) (fun _ h_ => h_.1))) hb); have n4_ := Aside0.mk (blk_below (g := gb714) (o := .cells #[.int .i64 a0_0, .slice A0_1 l0_1.length c0_1] 24 (0, 0)) (by (with_reducible repeat (first | refine blk_drewN ?_ _ | refine blk_drew ?_ | refine blk_alloc ?_ _)); refine blk_far ?_ NB714_736.out _; (with_reducible repeat (first | refine blk_drewN ?_ _ | refine blk_drew ?_ | refine blk_alloc ?_ _)); refine blk_far ?_ NB714_736.out _; (with_reducible repeat (first | refine blk_drewN ?_ _ | refine blk_drew ?_ | refine blk_alloc ?_ _)); exact BK714.out) hb); have n5_ := Aside0.mk (blk_below (g := gb725) (o := .cells #[.int .i64 t720, .slice Ao24 t721.length co24] 27 (0, 0)) (by (with_reducible repeat (first | refine blk_drewN ?_ _ | refine blk_drew ?_ | refine blk_alloc ?_ _)); refine blk_far ?_ NB725_736.out _; (with_reducible repeat (first | refine blk_drewN ?_ _ | refine blk_drew ?_ | refine blk_alloc ?_ _)); refine blk_far ?_ NB725_736.out _; (with_reducible repeat (first | refine blk_drewN ?_ _ | refine blk_drew ?_ | refine blk_alloc ?_ _)); exact BK725.out) hb); have n6_ := Aside0.mk (blk_below (g := gb730) (o := .cells #[.int .i64 t726, .slice Ao31 t727.length co31] 27 (0, 0)) (by (with_reducible repeat (first | refine blk_drewN ?_ _ | refine blk_drew ?_ | refine blk_alloc ?_ _)); refine blk_far ?_ NB730_736.out _; (with_reducible repeat (first | refine blk_drewN ?_ _ | refine blk_drew ?_ | refine blk_alloc ?_ _)); refine blk_far ?_ NB730_736.out _; (with_reducible repeat (first | refine blk_drewN ?_ _ | refine blk_drew ?_ | refine blk_alloc ?_ _)); exact BK730.out) hb); have n7_ := Aside0.mk (blk_below (g := gb736) (o := .cells #[.int .i64 t731, .slice Ao38 t732.length co38] 27 (0, 0)) (by (with_reducible repeat (first | refine blk_drewN ?_ _ | refine blk_drew ?_ | refine blk_alloc ?_ _)); refine blk_put (cs := #[.int .i64 t731, .slice none 0 0]) ?_ 1 _ rfl; (with_reducible repeat (first | refine blk_drewN ?_ _ | refine blk_drew ?_ | refine blk_alloc ?_ _)); refine blk_put (cs := #[.int .i64 0, .slice none 0 0]) ?_ 0 _ rfl; (with_reducible repeat (first | refine blk_drewN ?_ _ | refine blk_drew ?_ | refine blk_alloc ?_ _)); exact BK736.out) hb); have n8_ := Aside0.mk (below_step (by repeat (first | (with_reducible first | exact HB.out | apply below_alloc | apply pw_below_drewN | apply below_drew1 | refine below_set ?_ GE714.out | refine below_set ?_ GE725.out | refine below_set ?_ GE730.out | refine below_set ?_ GE736.out) | exact HB.out)) hb); clear HO719; clear HO723; clear HO729; clear HO734; clear BK714; clear BK725; clear BK730; clear BK736; clear HB; have HO719 := n0_; have HO723 := n1_; have HO729 := n2_; have HO734 := n3_; have BK714 := n4_; have BK725 := n5_; have BK730 := n6_; have BK736 := n7_; have HB := n8_; clear n0_ n1_ n2_ n3_ n4_ n5_ n6_ n7_ n8_; (try clear hb); (try clear hb2); (try clear hk); (try clear hi)))
        go_meet
        case rel => exact ⟨_, (true), (by first | rfl | (simp; done) | (simp [*]; done)), H', ⟨by first | omega | exact Nat.le_refl _⟩, ⟨by (with_reducible repeat (first | apply Kd.R_alloc | apply Kd.R_drewN | apply Kd.R_drew)); exact Kd.R_mono HO723.out (fun _ hk => ⟨hk.1.2, hk.2⟩)⟩, ⟨by (with_reducible repeat (first | apply Kd.R_alloc | apply Kd.R_drewN | apply Kd.R_drew)); exact Kd.R_mono HO729.out (fun _ hk => ⟨hk.1.2, hk.2⟩)⟩, ⟨by (with_reducible repeat (first | apply Kd.R_alloc | apply Kd.R_drewN | apply Kd.R_drew)); exact Kd.R_mono HO734.out (fun _ hk => ⟨hk.1.2, hk.2⟩)⟩, ⟨by (with_reducible repeat (first | refine blk_drewN ?_ _ | refine blk_drew ?_ | refine blk_alloc ?_ _)); exact BK714.out⟩, ⟨by (with_reducible repeat (first | refine blk_drewN ?_ _ | refine blk_drew ?_ | refine blk_alloc ?_ _)); exact BK725.out⟩, ⟨by (with_reducible repeat (first | refine blk_drewN ?_ _ | refine blk_drew ?_ | refine blk_alloc ?_ _)); exact BK730.out⟩, ⟨by (with_reducible repeat (first | refine blk_drewN ?_ _ | refine blk_drew ?_ | refine blk_alloc ?_ _)); exact BK736.out⟩, ⟨by repeat (first | (with_reducible first | exact HB.out | apply below_alloc | apply pw_below_drewN | apply below_drew1 | refine below_set ?_ GE714.out | refine below_set ?_ GE725.out | refine below_set ?_ GE730.out | refine below_set ?_ GE736.out) | exact HB.out)⟩⟩
    case rest =>
      clear HC13
      try clear c1
      try clear c2
      try clear p2
      try clear c3
      try clear c4
      try clear c5
      try clear c5b0
      try clear c13
      try clear c15
      try clear c17
      try clear c19
      try clear c22
      try clear c28
      try clear c29
      try clear c34
      try clear c35
      try clear c36
      try clear c40
      try clear c41
      try clear c42
      try clear c43
      try clear c45
      try clear c46
      try clear c49
      try clear c50
      try clear c51
      try clear c53
      try clear c54
      try clear hcz15_0
      try clear hcz15_1
      try clear hcz17_0
      try clear hcz17_1
      try clear hcz23_0
      try clear hcz23_1
      try clear hcz25_0
      try clear hcz25_1
      try clear hcz30_0
      try clear hcz30_1
      try clear hcz37_0
      try clear hcz37_1
      try clear hcz44_0
      try clear hcz44_1
      try clear hcz47_0
      try clear hcz47_1
      try clear hcz52_0
      try clear hcz52_1
      try clear hcz55_0
      try clear hcz55_1
      try clear hcz7_0
      try clear hcz7_1
      try clear hfz15_0
      try clear hfz15_1
      try clear hfz17_0
      try clear hfz17_1
      try clear hfz23_0
      try clear hfz23_1
      try clear hfz25_0
      try clear hfz25_1
      try clear hfz30_0
      try clear hfz30_1
      try clear hfz37_0
      try clear hfz37_1
      try clear hfz44_0
      try clear hfz44_1
      try clear hfz47_0
      try clear hfz47_1
      try clear hfz52_0
      try clear hfz52_1
      try clear hfz55_0
      try clear hfz55_1
      try clear hfz7_0
      try clear hfz7_1
      obtain ⟨kq, x48_12, rfl, HA, HJ12, HO_726001, HO_731001, HO_737001, BK714, BK725, BK730, BK736, HB⟩ := hcut
      cases kq with
      | zero => exact absurd HA.out (by simp [laws_FnExactFaceOf.j0])
      | succ kj12 =>
        have H := HA.out
        clear HA
        simp only [laws_FnExactFaceOf.j0] at H
        by_cases c57 : x48_12 = true
        · subst c57
          have H1 : (some false) = some r := by rw [if_pos rfl] at H; exact H
          clear H
          have H := H1
          clear H1
          obtain rfl := Option.some.inj H
          go_wp2
          go_ret
          exact ⟨by first | rfl | (simp [errW_none, errW_some] <;> rfl) | (simp [*, errW_none, errW_some] <;> rfl), by repeat (first | (with_reducible first | exact HB.out | apply below_alloc | apply pw_below_drewN | apply below_drew1 | refine below_set ?_ GE714.out | refine below_set ?_ GE725.out | refine below_set ?_ GE730.out | refine below_set ?_ GE736.out) | exact HB.out)⟩
        · replace c57 := Bool.eq_false_iff.mpr c57
          subst c57
          have H1 : ((laws_toCube.f kj12 a0_0 l0_1).bind fun bt738 => ((laws_eqCube.f kj12 t726 t727 bt738.1 bt738.2).bind fun t742 => (if t742 = true then ((laws_markCube.f kj12 t726 t727 1).bind fun bt743 => (if bt743.1 < 0 then (laws_FnExactFaceOf.j1 kj12 a1 a2 t724 true a0_0 l0_1 t720 t721 t731 t732) else ((laws_eqCube.f kj12 t731 t732 t720 t721).bind fun t745 => (if t745 = true then (laws_FnExactFaceOf.j1 kj12 a1 a2 t724 (t735 != t724) a0_0 l0_1 t720 t721 t731 t732) else (laws_FnExactFaceOf.j1 kj12 a1 a2 t724 true a0_0 l0_1 t720 t721 t731 t732))))) else (some false)))) = some r := by rw [if_neg (show ¬ (false = true) by decide)] at H; exact H
          clear H
          have H := H1
          clear H1
          replace H := Option.bind_eq_some_iff.mp H
          obtain ⟨⟨t738, t739⟩, A580, H⟩ := H
          replace H : ((laws_eqCube.f kj12 t726 t727 t738 t739).bind fun t742 => (if t742 = true then ((laws_markCube.f kj12 t726 t727 1).bind fun bt743 => (if bt743.1 < 0 then (laws_FnExactFaceOf.j1 kj12 a1 a2 t724 true a0_0 l0_1 t720 t721 t731 t732) else ((laws_eqCube.f kj12 t731 t732 t720 t721).bind fun t745 => (if t745 = true then (laws_FnExactFaceOf.j1 kj12 a1 a2 t724 (t735 != t724) a0_0 l0_1 t720 t721 t731 t732) else (laws_FnExactFaceOf.j1 kj12 a1 a2 t724 true a0_0 l0_1 t720 t721 t731 t732))))) else (some false))) = some r := H
          have A58 := Aside0.mk A580
          clear A580
          replace H := Option.bind_eq_some_iff.mp H
          obtain ⟨t742, A590, H⟩ := H
          replace H : (if t742 = true then ((laws_markCube.f kj12 t726 t727 1).bind fun bt743 => (if bt743.1 < 0 then (laws_FnExactFaceOf.j1 kj12 a1 a2 t724 true a0_0 l0_1 t720 t721 t731 t732) else ((laws_eqCube.f kj12 t731 t732 t720 t721).bind fun t745 => (if t745 = true then (laws_FnExactFaceOf.j1 kj12 a1 a2 t724 (t735 != t724) a0_0 l0_1 t720 t721 t731 t732) else (laws_FnExactFaceOf.j1 kj12 a1 a2 t724 true a0_0 l0_1 t720 t721 t731 t732))))) else (some false)) = some r := H
          have A59 := Aside0.mk A590
          clear A590
          by_cases c60 : t742 = true
          · subst c60
            have H1 : ((laws_markCube.f kj12 t726 t727 1).bind fun bt743 => (if bt743.1 < 0 then (laws_FnExactFaceOf.j1 kj12 a1 a2 t724 true a0_0 l0_1 t720 t721 t731 t732) else ((laws_eqCube.f kj12 t731 t732 t720 t721).bind fun t745 => (if t745 = true then (laws_FnExactFaceOf.j1 kj12 a1 a2 t724 (t735 != t724) a0_0 l0_1 t720 t721 t731 t732) else (laws_FnExactFaceOf.j1 kj12 a1 a2 t724 true a0_0 l0_1 t720 t721 t731 t732))))) = some r := by rw [if_pos rfl] at H; exact H
            clear H
            have H := H1
            clear H1
            replace H := Option.bind_eq_some_iff.mp H
            obtain ⟨⟨t743, t744⟩, A610, H⟩ := H
            replace H : (if t743 < 0 then (laws_FnExactFaceOf.j1 kj12 a1 a2 t724 true a0_0 l0_1 t720 t721 t731 t732) else ((laws_eqCube.f kj12 t731 t732 t720 t721).bind fun t745 => (if t745 = true then (laws_FnExactFaceOf.j1 kj12 a1 a2 t724 (t735 != t724) a0_0 l0_1 t720 t721 t731 t732) else (laws_FnExactFaceOf.j1 kj12 a1 a2 t724 true a0_0 l0_1 t720 t721 t731 t732)))) = some r := H
            have A61 := Aside0.mk A610
            clear A610
            have HC62 := Aside0.mk H
            clear H
            try go_wp2
            have n0_ := Aside0.mk (Kd.R_drew HO_726001.out)
            have n1_ := Aside0.mk (Kd.R_drew HO_731001.out)
            have n2_ := Aside0.mk (Kd.R_drew HO_737001.out)
            have n3_ := Aside0.mk (blk_drew BK714.out)
            have n4_ := Aside0.mk (blk_drew BK725.out)
            have n5_ := Aside0.mk (blk_drew BK730.out)
            have n6_ := Aside0.mk (blk_drew BK736.out)
            have n7_ := Aside0.mk (below_drew1 HB.out)
            clear HO_726001
            clear HO_731001
            clear HO_737001
            clear BK714
            clear BK725
            clear BK730
            clear BK736
            clear HB
            have HO_726001 := n0_
            have HO_731001 := n1_
            have HO_737001 := n2_
            have BK714 := n3_
            have BK725 := n4_
            have BK730 := n5_
            have BK736 := n6_
            have HB := n7_
            clear n0_ n1_ n2_ n3_ n4_ n5_ n6_ n7_
            refine start_ (n := 5) (S := fun w' => w'.cell? ⟨gb730, 0, none⟩ = some (.int .i64 t726) ∧ w'.cell? ⟨gb730, 1, none⟩ = some (.slice Ao31 t727.length co31) ∧ w'.cell? ⟨gb714, 0, none⟩ = some (.int .i64 a0_0) ∧ w'.cell? ⟨gb714, 1, none⟩ = some (.slice A0_1 l0_1.length c0_1)) (ds := []) #[false, false, false, false, false] (by kernel_rfl) rfl rfl ⟨(blk_cell BK730.out 0).trans rfl, (blk_cell BK730.out 1).trans rfl, (blk_cell BK714.out 0).trans rfl, (blk_cell BK714.out 1).trans rfl⟩ (fun hHeld => ?_)
            generalize wc.drew = w63 at HO_726001 HO_731001 HO_737001 BK714 BK725 BK730 BK736 HB hHeld ⊢
            refine take_ (i := 0) (N := some 49) (v := ?_) (a' := ?_) #[true, false, false, false, false] rfl rfl (by kernel_rfl) (fun _ _ _ h => h) (Or.inl ⟨by rfl, ?_⟩) hHeld ?_ ?_
            rotate_left
            · rintro w' ⟨s0, s1, s2, s3⟩
              go_simp
              with_reducible rfl
            rotate_left
            · simp only [Act.put, List.setIfInBounds_toArray, List.set_cons_zero, List.set_cons_succ, i64_w, i32_w]
              rfl
            refine take_ (i := 1) (N := some 50) (v := ?_) (a' := ?_) #[true, true, false, false, false] rfl rfl (by kernel_rfl) (fun _ _ _ h => h) (Or.inl ⟨by rfl, ?_⟩) hHeld ?_ ?_
            rotate_left
            · rintro w' ⟨s0, s1, s2, s3⟩
              go_simp
              with_reducible rfl
            rotate_left
            · simp only [Act.put, List.setIfInBounds_toArray, List.set_cons_zero, List.set_cons_succ, i64_w, i32_w]
              rfl
            refine one_ (i := 2) (N := some 51) #[true, true, true, false, false] rfl rfl (by kernel_rfl) (by decide) (fun K hK => ?_)
            refine goes_ Try.func17 (by kernel_rfl) rfl #[.agg #[.int .i64 a0_0, .slice A0_1 l0_1.length c0_1]] (by rfl) rfl rfl (by (try simp only [List.map_toArray, List.map_cons, List.map_nil]); first | done | rfl | (simp only [List.length_drop, List.length_take]; rfl)) ?_
            with_reducible refine (laws_toCube.calls kj12 a0_0 _ _ l0_1 t738 t739 _ ?side1 ?side2 A58.out).mono ?_
            (case side1 => repeat (first | exact (Kd.C_below HR0_1.out HB.out) | (with_reducible refine Kd.C_alloc ?_ _) | (with_reducible refine Kd.C_drewN ?_ _) | (with_reducible refine Kd.C_drew ?_)))
            (case side2 => exact HC0_1.out)
            rintro e w64 ⟨v740, rfl, ho0, hb⟩
            refine ⟨_, rfl, ?_⟩
            have n0_ := Aside0.mk (Kd.R_elder' (by (with_reducible repeat (first | apply Kd.R_alloc | apply Kd.R_drewN | apply Kd.R_drew)); exact HO_726001.out) (Kd.R_base ho0) hb)
            have n1_ := Aside0.mk (Kd.R_elder' (by (with_reducible repeat (first | apply Kd.R_alloc | apply Kd.R_drewN | apply Kd.R_drew)); exact HO_731001.out) (Kd.R_base ho0) hb)
            have n2_ := Aside0.mk (Kd.R_elder' (by (with_reducible repeat (first | apply Kd.R_alloc | apply Kd.R_drewN | apply Kd.R_drew)); exact HO_737001.out) (Kd.R_base ho0) hb)
            have n3_ := Aside0.mk (Kd.R_lower (Kd.R_new' (Kd.R_new' (Kd.R_new' ho0 (Kd.R_lt (by (with_reducible repeat (first | apply Kd.R_alloc | apply Kd.R_drewN | apply Kd.R_drew)); exact HO_726001.out))) (Kd.R_lt (by (with_reducible repeat (first | apply Kd.R_alloc | apply Kd.R_drewN | apply Kd.R_drew)); exact HO_731001.out))) (Kd.R_lt (by (with_reducible repeat (first | apply Kd.R_alloc | apply Kd.R_drewN | apply Kd.R_drew)); exact HO_737001.out))) (below_size (by repeat (first | (with_reducible first | exact HB.out | apply below_alloc | apply pw_below_drewN | apply below_drew1 | refine below_set ?_ GE714.out | refine below_set ?_ GE725.out | refine below_set ?_ GE730.out | refine below_set ?_ GE736.out) | exact HB.out))))
            have n4_ := Aside0.mk (blk_below (g := gb714) (o := .cells #[.int .i64 a0_0, .slice A0_1 l0_1.length c0_1] 24 (0, 0)) (by (with_reducible repeat (first | refine blk_drewN ?_ _ | refine blk_drew ?_ | refine blk_alloc ?_ _)); exact BK714.out) hb)
            have n5_ := Aside0.mk (blk_below (g := gb725) (o := .cells #[.int .i64 t720, .slice Ao24 t721.length co24] 27 (0, 0)) (by (with_reducible repeat (first | refine blk_drewN ?_ _ | refine blk_drew ?_ | refine blk_alloc ?_ _)); exact BK725.out) hb)
            have n6_ := Aside0.mk (blk_below (g := gb730) (o := .cells #[.int .i64 t726, .slice Ao31 t727.length co31] 27 (0, 0)) (by (with_reducible repeat (first | refine blk_drewN ?_ _ | refine blk_drew ?_ | refine blk_alloc ?_ _)); exact BK730.out) hb)
            have n7_ := Aside0.mk (blk_below (g := gb736) (o := .cells #[.int .i64 t731, .slice Ao38 t732.length co38] 27 (0, 0)) (by (with_reducible repeat (first | refine blk_drewN ?_ _ | refine blk_drew ?_ | refine blk_alloc ?_ _)); exact BK736.out) hb)
            have n8_ := Aside0.mk (below_step (by repeat (first | (with_reducible first | exact HB.out | apply below_alloc | apply pw_below_drewN | apply below_drew1 | refine below_set ?_ GE714.out | refine below_set ?_ GE725.out | refine below_set ?_ GE730.out | refine below_set ?_ GE736.out) | exact HB.out)) hb)
            clear HO_726001
            clear HO_731001
            clear HO_737001
            clear BK714
            clear BK725
            clear BK730
            clear BK736
            clear HB
            have HO_726001 := n0_
            have HO_731001 := n1_
            have HO_737001 := n2_
            have HO741 := n3_
            have BK714 := n4_
            have BK725 := n5_
            have BK730 := n6_
            have BK736 := n7_
            have HB := n8_
            clear n0_ n1_ n2_ n3_ n4_ n5_ n6_ n7_ n8_
            (try clear hb)
            (try clear hb2)
            (try clear hk)
            (try clear hi)
            (try clear ho0)
            obtain ⟨Ao65, co65, eo65⟩ := Kd.R_slice HO741.out
            (first | subst eo65 | (injection eo65 with f1_ f2_ f3_; have f4_ := f1_.symm; have f5_ := f3_.symm; clear f1_ f2_ f3_; subst f4_; subst f5_))
            refine hK.out _ _ ⟨(blk_cell BK730.out 0).trans rfl, (blk_cell BK730.out 1).trans rfl, (blk_cell BK714.out 0).trans rfl, (blk_cell BK714.out 1).trans rfl⟩ (fun hHeld => ?_)
            clear hK K
            refine norm_ (a' := ?_) ?_ ?_
            rotate_left
            · show Act.put _ (some 51) _ = _
              simp only [Act.put, List.setIfInBounds_toArray, List.set_cons_zero, List.set_cons_succ, i64_w, i32_w]
              rfl
            refine one_ (i := 3) (N := some 52) #[true, true, true, true, false] rfl rfl (by kernel_rfl) (by decide) (fun K hK => ?_)
            refine goes_ Try.func19 (by kernel_rfl) rfl #[.agg #[.int .i64 t726, .slice Ao31 t727.length co31], .agg #[.int .i64 t738, .slice Ao65 t739.length co65]] (by rfl) rfl rfl (by (try simp only [List.map_toArray, List.map_cons, List.map_nil]); first | done | rfl | (simp only [List.length_drop, List.length_take]; rfl)) ?_
            with_reducible refine (laws_eqCube.calls kj12 t726 _ _ t727 t738 _ _ t739 true _ ?side1 ?side2 ?side3 ?side4 A59.out).mono ?_
            (case side1 => repeat (first | exact (Kd.R_reads' HO_731001.out).2.2 | (with_reducible refine Kd.C_alloc ?_ _) | (with_reducible refine Kd.C_drewN ?_ _) | (with_reducible refine Kd.C_drew ?_)))
            (case side2 => exact (Kd.R_reads' HO_731001.out).2.1)
            (case side3 => repeat (first | exact (Kd.R_reads' HO741.out).2.2 | (with_reducible refine Kd.C_alloc ?_ _) | (with_reducible refine Kd.C_drewN ?_ _) | (with_reducible refine Kd.C_drew ?_)))
            (case side4 => exact (Kd.R_reads' HO741.out).2.1)
            rintro e w66 ⟨rfl, hb⟩
            refine ⟨_, rfl, ?_⟩
            have n0_ := Aside0.mk (Kd.R_below (by (with_reducible repeat (first | apply Kd.R_alloc | apply Kd.R_drewN | apply Kd.R_drew)); exact HO_726001.out) hb)
            have n1_ := Aside0.mk (Kd.R_below (by (with_reducible repeat (first | apply Kd.R_alloc | apply Kd.R_drewN | apply Kd.R_drew)); exact HO_731001.out) hb)
            have n2_ := Aside0.mk (Kd.R_below (by (with_reducible repeat (first | apply Kd.R_alloc | apply Kd.R_drewN | apply Kd.R_drew)); exact HO_737001.out) hb)
            have n3_ := Aside0.mk (Kd.R_below (by (with_reducible repeat (first | apply Kd.R_alloc | apply Kd.R_drewN | apply Kd.R_drew)); exact HO741.out) hb)
            have n4_ := Aside0.mk (blk_below (g := gb714) (o := .cells #[.int .i64 a0_0, .slice A0_1 l0_1.length c0_1] 24 (0, 0)) (by (with_reducible repeat (first | refine blk_drewN ?_ _ | refine blk_drew ?_ | refine blk_alloc ?_ _)); exact BK714.out) hb)
            have n5_ := Aside0.mk (blk_below (g := gb725) (o := .cells #[.int .i64 t720, .slice Ao24 t721.length co24] 27 (0, 0)) (by (with_reducible repeat (first | refine blk_drewN ?_ _ | refine blk_drew ?_ | refine blk_alloc ?_ _)); exact BK725.out) hb)
            have n6_ := Aside0.mk (blk_below (g := gb730) (o := .cells #[.int .i64 t726, .slice Ao31 t727.length co31] 27 (0, 0)) (by (with_reducible repeat (first | refine blk_drewN ?_ _ | refine blk_drew ?_ | refine blk_alloc ?_ _)); exact BK730.out) hb)
            have n7_ := Aside0.mk (blk_below (g := gb736) (o := .cells #[.int .i64 t731, .slice Ao38 t732.length co38] 27 (0, 0)) (by (with_reducible repeat (first | refine blk_drewN ?_ _ | refine blk_drew ?_ | refine blk_alloc ?_ _)); exact BK736.out) hb)
            have n8_ := Aside0.mk (below_step (by repeat (first | (with_reducible first | exact HB.out | apply below_alloc | apply pw_below_drewN | apply below_drew1 | refine below_set ?_ GE714.out | refine below_set ?_ GE725.out | refine below_set ?_ GE730.out | refine below_set ?_ GE736.out) | exact HB.out)) hb)
            clear HO_726001
            clear HO_731001
            clear HO_737001
            clear HO741
            clear BK714
            clear BK725
            clear BK730
            clear BK736
            clear HB
            have HO_726001 := n0_
            have HO_731001 := n1_
            have HO_737001 := n2_
            have HO741 := n3_
            have BK714 := n4_
            have BK725 := n5_
            have BK730 := n6_
            have BK736 := n7_
            have HB := n8_
            clear n0_ n1_ n2_ n3_ n4_ n5_ n6_ n7_ n8_
            (try clear hb)
            (try clear hb2)
            (try clear hk)
            (try clear hi)
            refine hK.out _ _ ⟨(blk_cell BK730.out 0).trans rfl, (blk_cell BK730.out 1).trans rfl, (blk_cell BK714.out 0).trans rfl, (blk_cell BK714.out 1).trans rfl⟩ (fun hHeld => ?_)
            clear hK K
            refine norm_ (a' := ?_) ?_ ?_
            rotate_left
            · show Act.put _ (some 52) _ = _
              simp only [Act.put, List.setIfInBounds_toArray, List.set_cons_zero, List.set_cons_succ, i64_w, i32_w]
              rfl
            refine pure_ (i := 4) (N := some 53) (v := ?_) (a' := ?_) #[true, true, true, true, true] rfl rfl (by kernel_rfl) (fun _ _ _ h => h) (Or.inl ⟨by rfl, ?_⟩) ?_ ?_
            rotate_left
            · intro w'
              go_simp
              with_reducible rfl
            rotate_left
            · simp only [Act.put, List.setIfInBounds_toArray, List.set_cons_zero, List.set_cons_succ, i64_w, i32_w]
              rfl
            refine done_ (by kernel_rfl) ?_
            have hnb67 := NB730_714.out
            have hnc67 := NB714_730.out
            have hnb68 := NB730_725.out
            have hnc68 := NB725_730.out
            have hnb69 := NB730_736.out
            have hnc69 := NB736_730.out
            have hcz70_0 : w66.cell? ⟨gb730, 0, none⟩ = some (.int .i64 t726) := (blk_cell BK730.out 0).trans rfl
            have hcz70_1 : w66.cell? ⟨gb730, 1, none⟩ = some (.slice Ao31 t727.length co31) := (blk_cell BK730.out 1).trans rfl
            have hfz70_0 := blk_frozen BK730.out 0
            have hfz70_1 := blk_frozen BK730.out 1
            go_upto_region 14 with (first | ((with_reducible refine gate_callee (f := 27) rfl ?_); refine goesL_ (some 56) rfl rfl Try.func27 (by kernel_rfl) rfl #[.agg #[.int .i64 t726, .slice Ao31 t727.length co31], .int .i64 1] rfl (by (try simp only [List.map_toArray, List.map_cons, List.map_nil]); first | done | rfl | (simp only [List.length_drop, List.length_take]; rfl)) ?_; (with_reducible refine (laws_markCube.calls kj12 t726 (fun k_ => some k_ = (.slice Ao31 t727.length co31 : Value).ownBlock) (.slice Ao31 t727.length co31) t727 1 t743 t744 w _ ?side1 ?side2 A61.out).mono ?_); (case side1 => repeat (first | (with_reducible first | exact HB.out | apply below_alloc | apply pw_below_drewN | apply below_drew1 | refine below_set ?_ GE714.out | refine below_set ?_ GE725.out | refine below_set ?_ GE730.out | refine below_set ?_ GE736.out) | exact HB.out)); (case side2 => exact Kd.R_tight rfl HO_731001.out); rintro e w71 ⟨rfl, hy0, hb, hkp⟩; refine ⟨_, rfl, ?_⟩; have n0_ := Aside0.mk (Kd.R_mono (ok' := fun k_ => some k_ ≠ (.slice Ao31 t727.length co31 : Value).ownBlock ∧ some k_ ≠ (.slice Ao38 t732.length co38 : Value).ownBlock ∧ some k_ ≠ (.slice Ao65 t739.length co65 : Value).ownBlock) (Kd.R_keptB (HO_726001.out) hkp (fun k_ hk_ hs_ => (hk_.1.1) hs_)) (fun k_ hk_ => ⟨hk_.1.1.1, hk_.1.1.2, hk_.1.2⟩)); have n1_ := Aside0.mk (Kd.R_reok rfl hy0 (fun k_ e_ => HO_731001.out.1 k_ e_)); have n2_ := Aside0.mk (Kd.R_mono (ok' := fun k_ => some k_ ≠ (.slice Ao24 t721.length co24 : Value).ownBlock ∧ some k_ ≠ (.slice Ao31 t727.length co31 : Value).ownBlock ∧ some k_ ≠ (.slice Ao65 t739.length co65 : Value).ownBlock) (Kd.R_keptB (HO_737001.out) hkp (fun k_ hk_ hs_ => (hk_.1.2) hs_)) (fun k_ hk_ => ⟨hk_.1.1.1, hk_.1.1.2, hk_.1.2⟩)); have n3_ := Aside0.mk (blk_kept (by (with_reducible repeat (first | refine blk_drewN ?_ _ | refine blk_drew ?_ | refine blk_alloc ?_ _)); exact BK714.out) hkp (fun hs_ => (fun e_ => (Kd.R_ne HO_731001.out BK714.out (by decide)) e_) hs_)); have n4_ := Aside0.mk (blk_kept (by (with_reducible repeat (first | refine blk_drewN ?_ _ | refine blk_drew ?_ | refine blk_alloc ?_ _)); exact BK725.out) hkp (fun hs_ => (fun e_ => (Kd.R_ne HO_731001.out BK725.out (by decide)) e_) hs_)); have n5_ := Aside0.mk (blk_kept (by (with_reducible repeat (first | refine blk_drewN ?_ _ | refine blk_drew ?_ | refine blk_alloc ?_ _)); exact BK730.out) hkp (fun hs_ => (fun e_ => (Kd.R_ne HO_731001.out BK730.out (by decide)) e_) hs_)); have n6_ := Aside0.mk (blk_kept (by (with_reducible repeat (first | refine blk_drewN ?_ _ | refine blk_drew ?_ | refine blk_alloc ?_ _)); exact BK736.out) hkp (fun hs_ => (fun e_ => (Kd.R_ne HO_731001.out BK736.out (by decide)) e_) hs_)); have n7_ := Aside0.mk (Kd.R_mono (ok' := fun k_ => some k_ ≠ (.slice Ao24 t721.length co24 : Value).ownBlock ∧ some k_ ≠ (.slice Ao31 t727.length co31 : Value).ownBlock ∧ some k_ ≠ (.slice Ao38 t732.length co38 : Value).ownBlock) (Kd.R_keptB (HO741.out) hkp (fun k_ hk_ hs_ => (hk_.1.2) hs_)) (fun k_ hk_ => ⟨hk_.1.1.1.2, hk_.1.1.2, hk_.1.2⟩)); have n8_ := Aside0.mk (hb); clear HO_726001; clear HO_731001; clear HO_737001; clear BK714; clear BK725; clear BK730; clear BK736; clear HO741; clear HB; have HO_726001 := n0_; have HO_731001 := n1_; have HO_737001 := n2_; have BK714 := n3_; have BK725 := n4_; have BK730 := n5_; have BK736 := n6_; have HO741 := n7_; have HB := n8_; clear n0_ n1_ n2_ n3_ n4_ n5_ n6_ n7_ n8_; (try clear hb); (try clear hkp); (try clear hy0)))
            (try simp only [Act.put, List.setIfInBounds_toArray, List.set_cons_zero, List.set_cons_succ])
            go_cut [69] (fun v69 wc => ∃ (kq : Nat) (x69_61 : Bool), v69 = .bool x69_61 ∧ Aside0 (laws_FnExactFaceOf.j1 kq a1 a2 t724 x69_61 a0_0 l0_1 t720 t721 t731 t732 = some r) ∧ Aside0 (kq ≤ kj12) ∧ Aside0 (Kd.R (Kd.int .i64) 2 wc w.heap.size (fun k_ => some k_ ≠ ((.slice Ao31 t727.length co31) : Value).ownBlock ∧ some k_ ≠ ((.slice Ao38 t732.length co38) : Value).ownBlock) (.slice Ao24 t721.length co24) t721) ∧ Aside0 (Kd.R (Kd.int .i64) 2 wc w.heap.size (fun k_ => some k_ ≠ ((.slice Ao24 t721.length co24) : Value).ownBlock ∧ some k_ ≠ ((.slice Ao38 t732.length co38) : Value).ownBlock) (.slice Ao31 t727.length co31) t744) ∧ Aside0 (Kd.R (Kd.int .i64) 2 wc w.heap.size (fun k_ => some k_ ≠ ((.slice Ao24 t721.length co24) : Value).ownBlock ∧ some k_ ≠ ((.slice Ao31 t727.length co31) : Value).ownBlock) (.slice Ao38 t732.length co38) t732) ∧ Aside0 (wc.heap[gb714]? = some (.cells #[.int .i64 a0_0, (.slice A0_1 l0_1.length c0_1)] 24 (0, 0))) ∧ Aside0 (wc.heap[gb725]? = some (.cells #[.int .i64 t720, (.slice Ao24 t721.length co24)] 27 (0, 0))) ∧ Aside0 (wc.heap[gb730]? = some (.cells #[.int .i64 t726, (.slice Ao31 t727.length co31)] 27 (0, 0))) ∧ Aside0 (wc.heap[gb736]? = some (.cells #[.int .i64 t731, (.slice Ao38 t732.length co38)] 27 (0, 0))) ∧ Aside0 (Below w.heap.size w wc))
            case first =>
              have H := HC62.out
              clear HC62
              by_cases c72 : t743 < 0
              · rw [if_pos c72] at H
                have c72b0 : decide (t743 < 0) = true := decide_eq_true c72
                clear c72
                (first | rw [c72b0] | (simp only [i64_w, i32_w]; rw [c72b0]) | skip)
                have H' := Aside0.mk H
                clear H
                go_wp2
                go_meet
                case rel => exact ⟨_, (true), (by first | rfl | (simp; done) | (simp [*]; done)), H', ⟨by have := HJ12.out; first | omega | exact Nat.le_refl _⟩, ⟨by (with_reducible repeat (first | apply Kd.R_alloc | apply Kd.R_drewN | apply Kd.R_drew)); exact Kd.R_mono HO_726001.out (fun _ hk => ⟨hk.1, hk.2.1⟩)⟩, ⟨by (with_reducible repeat (first | apply Kd.R_alloc | apply Kd.R_drewN | apply Kd.R_drew)); exact Kd.R_mono HO_731001.out (fun _ hk => ⟨hk.1.1, hk.1.2⟩)⟩, ⟨by (with_reducible repeat (first | apply Kd.R_alloc | apply Kd.R_drewN | apply Kd.R_drew)); exact Kd.R_mono HO_737001.out (fun _ hk => ⟨hk.1, hk.2.1⟩)⟩, ⟨by (with_reducible repeat (first | refine blk_drewN ?_ _ | refine blk_drew ?_ | refine blk_alloc ?_ _)); exact BK714.out⟩, ⟨by (with_reducible repeat (first | refine blk_drewN ?_ _ | refine blk_drew ?_ | refine blk_alloc ?_ _)); exact BK725.out⟩, ⟨by (with_reducible repeat (first | refine blk_drewN ?_ _ | refine blk_drew ?_ | refine blk_alloc ?_ _)); exact BK730.out⟩, ⟨by (with_reducible repeat (first | refine blk_drewN ?_ _ | refine blk_drew ?_ | refine blk_alloc ?_ _)); exact BK736.out⟩, ⟨by repeat (first | (with_reducible first | exact HB.out | apply below_alloc | apply pw_below_drewN | apply below_drew1 | refine below_set ?_ GE714.out | refine below_set ?_ GE725.out | refine below_set ?_ GE730.out | refine below_set ?_ GE736.out) | exact HB.out)⟩⟩
              · rw [if_neg c72] at H
                have c72b0 : decide (t743 < 0) = false := decide_eq_false c72
                clear c72
                (first | rw [c72b0] | (simp only [i64_w, i32_w]; rw [c72b0]) | skip)
                replace H := Option.bind_eq_some_iff.mp H
                obtain ⟨t745, A730, H⟩ := H
                replace H : (if t745 = true then (laws_FnExactFaceOf.j1 kj12 a1 a2 t724 (t735 != t724) a0_0 l0_1 t720 t721 t731 t732) else (laws_FnExactFaceOf.j1 kj12 a1 a2 t724 true a0_0 l0_1 t720 t721 t731 t732)) = some r := H
                have A73 := Aside0.mk A730
                clear A730
                by_cases c74 : t745 = true
                · subst c74
                  have H1 : (laws_FnExactFaceOf.j1 kj12 a1 a2 t724 (t735 != t724) a0_0 l0_1 t720 t721 t731 t732) = some r := by rw [if_pos rfl] at H; exact H
                  clear H
                  have H := H1
                  clear H1
                  have H' := Aside0.mk H
                  clear H
                  have hnb75 := NB736_714.out
                  have hnc75 := NB714_736.out
                  have hnb76 := NB736_725.out
                  have hnc76 := NB725_736.out
                  have hnb77 := NB736_730.out
                  have hnc77 := NB730_736.out
                  have hcz78_0 : w71.cell? ⟨gb736, 0, none⟩ = some (.int .i64 t731) := (blk_cell BK736.out 0).trans rfl
                  have hcz78_1 : w71.cell? ⟨gb736, 1, none⟩ = some (.slice Ao38 t732.length co38) := (blk_cell BK736.out 1).trans rfl
                  have hfz78_0 := blk_frozen BK736.out 0
                  have hfz78_1 := blk_frozen BK736.out 1
                  have hnb79 := NB725_714.out
                  have hnc79 := NB714_725.out
                  have hnb80 := NB725_730.out
                  have hnc80 := NB730_725.out
                  have hcz81_0 : w71.cell? ⟨gb725, 0, none⟩ = some (.int .i64 t720) := (blk_cell BK725.out 0).trans rfl
                  have hcz81_1 : w71.cell? ⟨gb725, 1, none⟩ = some (.slice Ao24 t721.length co24) := (blk_cell BK725.out 1).trans rfl
                  have hfz81_0 := blk_frozen BK725.out 0
                  have hfz81_1 := blk_frozen BK725.out 1
                  go_wp2_with (first | (go_at_call 19; (with_reducible refine (laws_eqCube.calls kj12 t731 _ _ t732 t720 _ _ t721 true _ ?side1 ?side2 ?side3 ?side4 A73.out).mono ?_); (case side1 => repeat (first | exact (Kd.R_reads' HO_737001.out).2.2 | (with_reducible refine Kd.C_alloc ?_ _) | (with_reducible refine Kd.C_drewN ?_ _) | (with_reducible refine Kd.C_drew ?_))); (case side2 => exact (Kd.R_reads' HO_737001.out).2.1); (case side3 => repeat (first | exact (Kd.R_reads' HO_726001.out).2.2 | (with_reducible refine Kd.C_alloc ?_ _) | (with_reducible refine Kd.C_drewN ?_ _) | (with_reducible refine Kd.C_drew ?_))); (case side4 => exact (Kd.R_reads' HO_726001.out).2.1); rintro e w82 ⟨rfl, hb⟩; have n0_ := Aside0.mk (Kd.R_below (by (with_reducible repeat (first | apply Kd.R_alloc | apply Kd.R_drewN | apply Kd.R_drew)); exact HO_726001.out) hb); have n1_ := Aside0.mk (Kd.R_below (by (with_reducible repeat (first | apply Kd.R_alloc | apply Kd.R_drewN | apply Kd.R_drew)); exact HO_731001.out) hb); have n2_ := Aside0.mk (Kd.R_below (by (with_reducible repeat (first | apply Kd.R_alloc | apply Kd.R_drewN | apply Kd.R_drew)); exact HO_737001.out) hb); have n3_ := Aside0.mk (Kd.R_below (by (with_reducible repeat (first | apply Kd.R_alloc | apply Kd.R_drewN | apply Kd.R_drew)); exact HO741.out) hb); have n4_ := Aside0.mk (blk_below (g := gb714) (o := .cells #[.int .i64 a0_0, .slice A0_1 l0_1.length c0_1] 24 (0, 0)) (by (with_reducible repeat (first | refine blk_drewN ?_ _ | refine blk_drew ?_ | refine blk_alloc ?_ _)); exact BK714.out) hb); have n5_ := Aside0.mk (blk_below (g := gb725) (o := .cells #[.int .i64 t720, .slice Ao24 t721.length co24] 27 (0, 0)) (by (with_reducible repeat (first | refine blk_drewN ?_ _ | refine blk_drew ?_ | refine blk_alloc ?_ _)); exact BK725.out) hb); have n6_ := Aside0.mk (blk_below (g := gb730) (o := .cells #[.int .i64 t726, .slice Ao31 t727.length co31] 27 (0, 0)) (by (with_reducible repeat (first | refine blk_drewN ?_ _ | refine blk_drew ?_ | refine blk_alloc ?_ _)); exact BK730.out) hb); have n7_ := Aside0.mk (blk_below (g := gb736) (o := .cells #[.int .i64 t731, .slice Ao38 t732.length co38] 27 (0, 0)) (by (with_reducible repeat (first | refine blk_drewN ?_ _ | refine blk_drew ?_ | refine blk_alloc ?_ _)); exact BK736.out) hb); have n8_ := Aside0.mk (below_step (by repeat (first | (with_reducible first | exact HB.out | apply below_alloc | apply pw_below_drewN | apply below_drew1 | refine below_set ?_ GE714.out | refine below_set ?_ GE725.out | refine below_set ?_ GE730.out | refine below_set ?_ GE736.out) | exact HB.out)) hb); clear HO_726001; clear HO_731001; clear HO_737001; clear HO741; clear BK714; clear BK725; clear BK730; clear BK736; clear HB; have HO_726001 := n0_; have HO_731001 := n1_; have HO_737001 := n2_; have HO741 := n3_; have BK714 := n4_; have BK725 := n5_; have BK730 := n6_; have BK736 := n7_; have HB := n8_; clear n0_ n1_ n2_ n3_ n4_ n5_ n6_ n7_ n8_; (try clear hb); (try clear hb2); (try clear hk); (try clear hi)))
                  go_meet
                  case rel => exact ⟨_, ((t735 != t724)), (by first | rfl | (simp; done) | (simp [*]; done)), H', ⟨by have := HJ12.out; first | omega | exact Nat.le_refl _⟩, ⟨by (with_reducible repeat (first | apply Kd.R_alloc | apply Kd.R_drewN | apply Kd.R_drew)); exact Kd.R_mono HO_726001.out (fun _ hk => ⟨hk.1, hk.2.1⟩)⟩, ⟨by (with_reducible repeat (first | apply Kd.R_alloc | apply Kd.R_drewN | apply Kd.R_drew)); exact Kd.R_mono HO_731001.out (fun _ hk => ⟨hk.1.1, hk.1.2⟩)⟩, ⟨by (with_reducible repeat (first | apply Kd.R_alloc | apply Kd.R_drewN | apply Kd.R_drew)); exact Kd.R_mono HO_737001.out (fun _ hk => ⟨hk.1, hk.2.1⟩)⟩, ⟨by (with_reducible repeat (first | refine blk_drewN ?_ _ | refine blk_drew ?_ | refine blk_alloc ?_ _)); exact BK714.out⟩, ⟨by (with_reducible repeat (first | refine blk_drewN ?_ _ | refine blk_drew ?_ | refine blk_alloc ?_ _)); exact BK725.out⟩, ⟨by (with_reducible repeat (first | refine blk_drewN ?_ _ | refine blk_drew ?_ | refine blk_alloc ?_ _)); exact BK730.out⟩, ⟨by (with_reducible repeat (first | refine blk_drewN ?_ _ | refine blk_drew ?_ | refine blk_alloc ?_ _)); exact BK736.out⟩, ⟨by repeat (first | (with_reducible first | exact HB.out | apply below_alloc | apply pw_below_drewN | apply below_drew1 | refine below_set ?_ GE714.out | refine below_set ?_ GE725.out | refine below_set ?_ GE730.out | refine below_set ?_ GE736.out) | exact HB.out)⟩⟩
                · replace c74 := Bool.eq_false_iff.mpr c74
                  subst c74
                  have H1 : (laws_FnExactFaceOf.j1 kj12 a1 a2 t724 true a0_0 l0_1 t720 t721 t731 t732) = some r := by rw [if_neg (show ¬ (false = true) by decide)] at H; exact H
                  clear H
                  have H := H1
                  clear H1
                  have H' := Aside0.mk H
                  clear H
                  have hnb83 := NB736_714.out
                  have hnc83 := NB714_736.out
                  have hnb84 := NB736_725.out
                  have hnc84 := NB725_736.out
                  have hnb85 := NB736_730.out
                  have hnc85 := NB730_736.out
                  have hcz86_0 : w71.cell? ⟨gb736, 0, none⟩ = some (.int .i64 t731) := (blk_cell BK736.out 0).trans rfl
                  have hcz86_1 : w71.cell? ⟨gb736, 1, none⟩ = some (.slice Ao38 t732.length co38) := (blk_cell BK736.out 1).trans rfl
                  have hfz86_0 := blk_frozen BK736.out 0
                  have hfz86_1 := blk_frozen BK736.out 1
                  have hnb87 := NB725_714.out
                  have hnc87 := NB714_725.out
                  have hnb88 := NB725_730.out
                  have hnc88 := NB730_725.out
                  have hcz89_0 : w71.cell? ⟨gb725, 0, none⟩ = some (.int .i64 t720) := (blk_cell BK725.out 0).trans rfl
                  have hcz89_1 : w71.cell? ⟨gb725, 1, none⟩ = some (.slice Ao24 t721.length co24) := (blk_cell BK725.out 1).trans rfl
                  have hfz89_0 := blk_frozen BK725.out 0
                  have hfz89_1 := blk_frozen BK725.out 1
                  go_wp2_with (first | (go_at_call 19; (with_reducible refine (laws_eqCube.calls kj12 t731 _ _ t732 t720 _ _ t721 false _ ?side1 ?side2 ?side3 ?side4 A73.out).mono ?_); (case side1 => repeat (first | exact (Kd.R_reads' HO_737001.out).2.2 | (with_reducible refine Kd.C_alloc ?_ _) | (with_reducible refine Kd.C_drewN ?_ _) | (with_reducible refine Kd.C_drew ?_))); (case side2 => exact (Kd.R_reads' HO_737001.out).2.1); (case side3 => repeat (first | exact (Kd.R_reads' HO_726001.out).2.2 | (with_reducible refine Kd.C_alloc ?_ _) | (with_reducible refine Kd.C_drewN ?_ _) | (with_reducible refine Kd.C_drew ?_))); (case side4 => exact (Kd.R_reads' HO_726001.out).2.1); rintro e w90 ⟨rfl, hb⟩; have n0_ := Aside0.mk (Kd.R_below (by (with_reducible repeat (first | apply Kd.R_alloc | apply Kd.R_drewN | apply Kd.R_drew)); exact HO_726001.out) hb); have n1_ := Aside0.mk (Kd.R_below (by (with_reducible repeat (first | apply Kd.R_alloc | apply Kd.R_drewN | apply Kd.R_drew)); exact HO_731001.out) hb); have n2_ := Aside0.mk (Kd.R_below (by (with_reducible repeat (first | apply Kd.R_alloc | apply Kd.R_drewN | apply Kd.R_drew)); exact HO_737001.out) hb); have n3_ := Aside0.mk (Kd.R_below (by (with_reducible repeat (first | apply Kd.R_alloc | apply Kd.R_drewN | apply Kd.R_drew)); exact HO741.out) hb); have n4_ := Aside0.mk (blk_below (g := gb714) (o := .cells #[.int .i64 a0_0, .slice A0_1 l0_1.length c0_1] 24 (0, 0)) (by (with_reducible repeat (first | refine blk_drewN ?_ _ | refine blk_drew ?_ | refine blk_alloc ?_ _)); exact BK714.out) hb); have n5_ := Aside0.mk (blk_below (g := gb725) (o := .cells #[.int .i64 t720, .slice Ao24 t721.length co24] 27 (0, 0)) (by (with_reducible repeat (first | refine blk_drewN ?_ _ | refine blk_drew ?_ | refine blk_alloc ?_ _)); exact BK725.out) hb); have n6_ := Aside0.mk (blk_below (g := gb730) (o := .cells #[.int .i64 t726, .slice Ao31 t727.length co31] 27 (0, 0)) (by (with_reducible repeat (first | refine blk_drewN ?_ _ | refine blk_drew ?_ | refine blk_alloc ?_ _)); exact BK730.out) hb); have n7_ := Aside0.mk (blk_below (g := gb736) (o := .cells #[.int .i64 t731, .slice Ao38 t732.length co38] 27 (0, 0)) (by (with_reducible repeat (first | refine blk_drewN ?_ _ | refine blk_drew ?_ | refine blk_alloc ?_ _)); exact BK736.out) hb); have n8_ := Aside0.mk (below_step (by repeat (first | (with_reducible first | exact HB.out | apply below_alloc | apply pw_below_drewN | apply below_drew1 | refine below_set ?_ GE714.out | refine below_set ?_ GE725.out | refine below_set ?_ GE730.out | refine below_set ?_ GE736.out) | exact HB.out)) hb); clear HO_726001; clear HO_731001; clear HO_737001; clear HO741; clear BK714; clear BK725; clear BK730; clear BK736; clear HB; have HO_726001 := n0_; have HO_731001 := n1_; have HO_737001 := n2_; have HO741 := n3_; have BK714 := n4_; have BK725 := n5_; have BK730 := n6_; have BK736 := n7_; have HB := n8_; clear n0_ n1_ n2_ n3_ n4_ n5_ n6_ n7_ n8_; (try clear hb); (try clear hb2); (try clear hk); (try clear hi)))
                  go_meet
                  case rel => exact ⟨_, (true), (by first | rfl | (simp; done) | (simp [*]; done)), H', ⟨by have := HJ12.out; first | omega | exact Nat.le_refl _⟩, ⟨by (with_reducible repeat (first | apply Kd.R_alloc | apply Kd.R_drewN | apply Kd.R_drew)); exact Kd.R_mono HO_726001.out (fun _ hk => ⟨hk.1, hk.2.1⟩)⟩, ⟨by (with_reducible repeat (first | apply Kd.R_alloc | apply Kd.R_drewN | apply Kd.R_drew)); exact Kd.R_mono HO_731001.out (fun _ hk => ⟨hk.1.1, hk.1.2⟩)⟩, ⟨by (with_reducible repeat (first | apply Kd.R_alloc | apply Kd.R_drewN | apply Kd.R_drew)); exact Kd.R_mono HO_737001.out (fun _ hk => ⟨hk.1, hk.2.1⟩)⟩, ⟨by (with_reducible repeat (first | refine blk_drewN ?_ _ | refine blk_drew ?_ | refine blk_alloc ?_ _)); exact BK714.out⟩, ⟨by (with_reducible repeat (first | refine blk_drewN ?_ _ | refine blk_drew ?_ | refine blk_alloc ?_ _)); exact BK725.out⟩, ⟨by (with_reducible repeat (first | refine blk_drewN ?_ _ | refine blk_drew ?_ | refine blk_alloc ?_ _)); exact BK730.out⟩, ⟨by (with_reducible repeat (first | refine blk_drewN ?_ _ | refine blk_drew ?_ | refine blk_alloc ?_ _)); exact BK736.out⟩, ⟨by repeat (first | (with_reducible first | exact HB.out | apply below_alloc | apply pw_below_drewN | apply below_drew1 | refine below_set ?_ GE714.out | refine below_set ?_ GE725.out | refine below_set ?_ GE730.out | refine below_set ?_ GE736.out) | exact HB.out)⟩⟩
            case rest =>
              clear HC62
              try clear c1
              try clear c2
              try clear p2
              try clear c3
              try clear c4
              try clear c5
              try clear c5b0
              try clear c6
              try clear c7
              try clear c8
              try clear c13
              try clear c15
              try clear c17
              try clear c19
              try clear c22
              try clear c27
              try clear c28
              try clear c29
              try clear c34
              try clear c35
              try clear c36
              try clear c40
              try clear c41
              try clear c42
              try clear c43
              try clear c45
              try clear c46
              try clear c49
              try clear c50
              try clear c51
              try clear c53
              try clear c54
              try clear c57
              try clear c60
              try clear c67
              try clear c68
              try clear c69
              try clear c72
              try clear c72b0
              try clear c74
              try clear c75
              try clear c76
              try clear c77
              try clear c79
              try clear c80
              try clear c83
              try clear c84
              try clear c85
              try clear c87
              try clear c88
              try clear hcz15_0
              try clear hcz15_1
              try clear hcz17_0
              try clear hcz17_1
              try clear hcz23_0
              try clear hcz23_1
              try clear hcz25_0
              try clear hcz25_1
              try clear hcz30_0
              try clear hcz30_1
              try clear hcz37_0
              try clear hcz37_1
              try clear hcz44_0
              try clear hcz44_1
              try clear hcz47_0
              try clear hcz47_1
              try clear hcz52_0
              try clear hcz52_1
              try clear hcz55_0
              try clear hcz55_1
              try clear hcz70_0
              try clear hcz70_1
              try clear hcz78_0
              try clear hcz78_1
              try clear hcz7_0
              try clear hcz7_1
              try clear hcz81_0
              try clear hcz81_1
              try clear hcz86_0
              try clear hcz86_1
              try clear hcz89_0
              try clear hcz89_1
              try clear hfz15_0
              try clear hfz15_1
              try clear hfz17_0
              try clear hfz17_1
              try clear hfz23_0
              try clear hfz23_1
              try clear hfz25_0
              try clear hfz25_1
              try clear hfz30_0
              try clear hfz30_1
              try clear hfz37_0
              try clear hfz37_1
              try clear hfz44_0
              try clear hfz44_1
              try clear hfz47_0
              try clear hfz47_1
              try clear hfz52_0
              try clear hfz52_1
              try clear hfz55_0
              try clear hfz55_1
              try clear hfz70_0
              try clear hfz70_1
              try clear hfz78_0
              try clear hfz78_1
              try clear hfz7_0
              try clear hfz7_1
              try clear hfz81_0
              try clear hfz81_1
              try clear hfz86_0
              try clear hfz86_1
              try clear hfz89_0
              try clear hfz89_1
              try clear p2
              obtain ⟨kq, x69_61, rfl, HA, HJ61, HO_726001, HO_731001, HO_737001, BK714, BK725, BK730, BK736, HB⟩ := hcut
              have hl731001_61 := (Kd.R_reads' HO_731001.out).1
              rw [hl731001_61] at HO_731001
              (try simp only [hl731001_61])
              (try simp only [hl731001_61] at BK714)
              (try simp only [hl731001_61] at BK725)
              (try simp only [hl731001_61] at BK730)
              (try simp only [hl731001_61] at BK736)
              (try simp only [hl731001_61] at HO_726001)
              (try simp only [hl731001_61] at HO_737001)
              cases kq with
              | zero => exact absurd HA.out (by simp [laws_FnExactFaceOf.j1])
              | succ kj61 =>
                have H := HA.out
                clear HA
                simp only [laws_FnExactFaceOf.j1] at H
                by_cases c91 : x69_61 = true
                · subst c91
                  have H1 : (some false) = some r := by rw [if_pos rfl] at H; exact H
                  clear H
                  have H := H1
                  clear H1
                  obtain rfl := Option.some.inj H
                  go_wp2
                  go_ret
                  exact ⟨by first | rfl | (simp [errW_none, errW_some] <;> rfl) | (simp [*, errW_none, errW_some] <;> rfl), by repeat (first | (with_reducible first | exact HB.out | apply below_alloc | apply pw_below_drewN | apply below_drew1 | refine below_set ?_ GE714.out | refine below_set ?_ GE725.out | refine below_set ?_ GE730.out | refine below_set ?_ GE736.out) | exact HB.out)⟩
                · replace c91 := Bool.eq_false_iff.mpr c91
                  subst c91
                  have H1 : ((laws_markCube.f kj61 t731 t732 1).bind fun bt746 => ((laws_heldCube.f kj61 t731 bt746.2 1).bind fun t748 => (if t748 < 0 then (some false) else (if t748 = bt746.1 then ((laws_toCube.f kj61 a0_0 l0_1).bind fun bt749 => ((impl_FaceOf.f kj61 bt749.1 bt749.2 a1 a2).bind fun bt753 => ((laws_eqCube.f kj61 bt753.1 bt753.2.1 t720 t721).bind fun t759 => (if t759 = true then (laws_FnExactFaceOf.j2 kj61 bt746.1 (bt753.2.2 != t724) t731 bt746.2) else (laws_FnExactFaceOf.j2 kj61 bt746.1 true t731 bt746.2))))) else (some false))))) = some r := by rw [if_neg (show ¬ (false = true) by decide)] at H; exact H
                  clear H
                  have H := H1
                  clear H1
                  replace H := Option.bind_eq_some_iff.mp H
                  obtain ⟨⟨t746, t747⟩, A920, H⟩ := H
                  replace H : ((laws_heldCube.f kj61 t731 t747 1).bind fun t748 => (if t748 < 0 then (some false) else (if t748 = t746 then ((laws_toCube.f kj61 a0_0 l0_1).bind fun bt749 => ((impl_FaceOf.f kj61 bt749.1 bt749.2 a1 a2).bind fun bt753 => ((laws_eqCube.f kj61 bt753.1 bt753.2.1 t720 t721).bind fun t759 => (if t759 = true then (laws_FnExactFaceOf.j2 kj61 t746 (bt753.2.2 != t724) t731 t747) else (laws_FnExactFaceOf.j2 kj61 t746 true t731 t747))))) else (some false)))) = some r := H
                  have A92 := Aside0.mk A920
                  clear A920
                  replace H := Option.bind_eq_some_iff.mp H
                  obtain ⟨t748, A930, H⟩ := H
                  replace H : (if t748 < 0 then (some false) else (if t748 = t746 then ((laws_toCube.f kj61 a0_0 l0_1).bind fun bt749 => ((impl_FaceOf.f kj61 bt749.1 bt749.2 a1 a2).bind fun bt753 => ((laws_eqCube.f kj61 bt753.1 bt753.2.1 t720 t721).bind fun t759 => (if t759 = true then (laws_FnExactFaceOf.j2 kj61 t746 (bt753.2.2 != t724) t731 t747) else (laws_FnExactFaceOf.j2 kj61 t746 true t731 t747))))) else (some false))) = some r := H
                  have A93 := Aside0.mk A930
                  clear A930
                  by_cases c94 : t748 < 0
                  · rw [if_pos c94] at H
                    have c94b0 : decide (t748 < 0) = true := decide_eq_true c94
                    clear c94
                    obtain rfl := Option.some.inj H
                    have hnb95 := NB736_714.out
                    have hnc95 := NB714_736.out
                    have hnb96 := NB736_725.out
                    have hnc96 := NB725_736.out
                    have hnb97 := NB736_730.out
                    have hnc97 := NB730_736.out
                    have hcz98_0 : wc.cell? ⟨gb736, 0, none⟩ = some (.int .i64 t731) := (blk_cell BK736.out 0).trans rfl
                    have hcz98_1 : wc.cell? ⟨gb736, 1, none⟩ = some (.slice Ao38 t732.length co38) := (blk_cell BK736.out 1).trans rfl
                    have hfz98_0 := blk_frozen BK736.out 0
                    have hfz98_1 := blk_frozen BK736.out 1
                    go_wp2_with (first | ((with_reducible refine gate_callee (f := 27) rfl ?_); refine goesL_ (some 72) rfl rfl Try.func27 (by kernel_rfl) rfl #[.agg #[.int .i64 t731, .slice Ao38 t732.length co38], .int .i64 1] rfl (by (try simp only [List.map_toArray, List.map_cons, List.map_nil]); first | done | rfl | (simp only [List.length_drop, List.length_take]; rfl)) ?_; (with_reducible refine (laws_markCube.calls kj61 t731 (fun k_ => some k_ = (.slice Ao38 t732.length co38 : Value).ownBlock) (.slice Ao38 t732.length co38) t732 1 t746 t747 w _ ?side1 ?side2 A92.out).mono ?_); (case side1 => repeat (first | (with_reducible first | exact HB.out | apply below_alloc | apply pw_below_drewN | apply below_drew1 | refine below_set ?_ GE714.out | refine below_set ?_ GE725.out | refine below_set ?_ GE730.out | refine below_set ?_ GE736.out) | exact HB.out)); (case side2 => exact Kd.R_tight rfl HO_737001.out); rintro e w99 ⟨rfl, hy0, hb, hkp⟩; refine ⟨_, rfl, ?_⟩; have n0_ := Aside0.mk (Kd.R_mono (ok' := fun k_ => some k_ ≠ (.slice Ao31 t744.length co31 : Value).ownBlock ∧ some k_ ≠ (.slice Ao38 t732.length co38 : Value).ownBlock) (Kd.R_keptB (HO_726001.out) hkp (fun k_ hk_ hs_ => (hk_.2) hs_)) (fun k_ hk_ => ⟨hk_.1.1, hk_.1.2⟩)); have n1_ := Aside0.mk (Kd.R_mono (ok' := fun k_ => some k_ ≠ (.slice Ao24 t721.length co24 : Value).ownBlock ∧ some k_ ≠ (.slice Ao38 t732.length co38 : Value).ownBlock) (Kd.R_keptB (HO_731001.out) hkp (fun k_ hk_ hs_ => (hk_.2) hs_)) (fun k_ hk_ => ⟨hk_.1.1, hk_.1.2⟩)); have n2_ := Aside0.mk (Kd.R_reok rfl hy0 (fun k_ e_ => HO_737001.out.1 k_ e_)); have n3_ := Aside0.mk (blk_kept (by (with_reducible repeat (first | refine blk_drewN ?_ _ | refine blk_drew ?_ | refine blk_alloc ?_ _)); exact BK714.out) hkp (fun hs_ => (fun e_ => (Kd.R_ne HO_737001.out BK714.out (by decide)) e_) hs_)); have n4_ := Aside0.mk (blk_kept (by (with_reducible repeat (first | refine blk_drewN ?_ _ | refine blk_drew ?_ | refine blk_alloc ?_ _)); exact BK725.out) hkp (fun hs_ => (fun e_ => (Kd.R_ne HO_737001.out BK725.out (by decide)) e_) hs_)); have n5_ := Aside0.mk (blk_kept (by (with_reducible repeat (first | refine blk_drewN ?_ _ | refine blk_drew ?_ | refine blk_alloc ?_ _)); exact BK730.out) hkp (fun hs_ => (fun e_ => (Kd.R_ne HO_737001.out BK730.out (by decide)) e_) hs_)); have n6_ := Aside0.mk (blk_kept (by (with_reducible repeat (first | refine blk_drewN ?_ _ | refine blk_drew ?_ | refine blk_alloc ?_ _)); exact BK736.out) hkp (fun hs_ => (fun e_ => (Kd.R_ne HO_737001.out BK736.out (by decide)) e_) hs_)); have n7_ := Aside0.mk (hb); clear HO_726001; clear HO_731001; clear HO_737001; clear BK714; clear BK725; clear BK730; clear BK736; clear HB; have HO_726001 := n0_; have HO_731001 := n1_; have HO_737001 := n2_; have BK714 := n3_; have BK725 := n4_; have BK730 := n5_; have BK736 := n6_; have HB := n7_; clear n0_ n1_ n2_ n3_ n4_ n5_ n6_ n7_; (try clear hb); (try clear hkp); (try clear hy0); have hcz100_0 : w99.cell? ⟨gb736, 0, none⟩ = some (.int .i64 t731) := (blk_cell BK736.out 0).trans rfl; have hcz100_1 : w99.cell? ⟨gb736, 1, none⟩ = some (.slice Ao38 t732.length co38) := (blk_cell BK736.out 1).trans rfl; have hfz100_0 := blk_frozen BK736.out 0; have hfz100_1 := blk_frozen BK736.out 1) | ((with_reducible refine gate_callee (f := 37) rfl ?_); refine goesL_ (some 75) rfl rfl Try.func37 (by kernel_rfl) rfl #[.agg #[.int .i64 t731, .slice Ao38 t747.length co38], .int .i64 1] rfl (by (try simp only [List.map_toArray, List.map_cons, List.map_nil]); first | done | (rw [show t747.length = t732.length from (Kd.R_reads' HO_737001.out).1.symm] <;> rfl) | rfl | (simp only [List.length_drop, List.length_take]; rfl)) ?_; (with_reducible refine (laws_heldCube.calls kj61 t731 _ _ t747 1 t748 _ ?side1 ?side2 A93.out).mono ?_); (case side1 => repeat (first | exact (Kd.R_reads' HO_737001.out).2.2 | (with_reducible refine Kd.C_alloc ?_ _) | (with_reducible refine Kd.C_drewN ?_ _) | (with_reducible refine Kd.C_drew ?_))); (case side2 => rw [show t747.length = t732.length from (Kd.R_reads' HO_737001.out).1.symm]; exact (Kd.R_reads' HO_737001.out).2.1); rintro e w101 ⟨rfl, hb⟩; refine ⟨_, rfl, ?_⟩; have n0_ := Aside0.mk (Kd.R_below (by (with_reducible repeat (first | apply Kd.R_alloc | apply Kd.R_drewN | apply Kd.R_drew)); exact HO_726001.out) hb); have n1_ := Aside0.mk (Kd.R_below (by (with_reducible repeat (first | apply Kd.R_alloc | apply Kd.R_drewN | apply Kd.R_drew)); exact HO_731001.out) hb); have n2_ := Aside0.mk (Kd.R_below (by (with_reducible repeat (first | apply Kd.R_alloc | apply Kd.R_drewN | apply Kd.R_drew)); exact HO_737001.out) hb); have n3_ := Aside0.mk (blk_below (g := gb714) (o := .cells #[.int .i64 a0_0, .slice A0_1 l0_1.length c0_1] 24 (0, 0)) (by (with_reducible repeat (first | refine blk_drewN ?_ _ | refine blk_drew ?_ | refine blk_alloc ?_ _)); exact BK714.out) hb); have n4_ := Aside0.mk (blk_below (g := gb725) (o := .cells #[.int .i64 t720, .slice Ao24 t721.length co24] 27 (0, 0)) (by (with_reducible repeat (first | refine blk_drewN ?_ _ | refine blk_drew ?_ | refine blk_alloc ?_ _)); exact BK725.out) hb); have n5_ := Aside0.mk (blk_below (g := gb730) (o := .cells #[.int .i64 t726, .slice Ao31 t744.length co31] 27 (0, 0)) (by (with_reducible repeat (first | refine blk_drewN ?_ _ | refine blk_drew ?_ | refine blk_alloc ?_ _)); exact BK730.out) hb); have n6_ := Aside0.mk (blk_below (g := gb736) (o := .cells #[.int .i64 t731, .slice Ao38 t732.length co38] 27 (0, 0)) (by (with_reducible repeat (first | refine blk_drewN ?_ _ | refine blk_drew ?_ | refine blk_alloc ?_ _)); exact BK736.out) hb); have n7_ := Aside0.mk (below_step (by repeat (first | (with_reducible first | exact HB.out | apply below_alloc | apply pw_below_drewN | apply below_drew1 | refine below_set ?_ GE714.out | refine below_set ?_ GE725.out | refine below_set ?_ GE730.out | refine below_set ?_ GE736.out) | exact HB.out)) hb); clear HO_726001; clear HO_731001; clear HO_737001; clear BK714; clear BK725; clear BK730; clear BK736; clear HB; have HO_726001 := n0_; have HO_731001 := n1_; have HO_737001 := n2_; have BK714 := n3_; have BK725 := n4_; have BK730 := n5_; have BK736 := n6_; have HB := n7_; clear n0_ n1_ n2_ n3_ n4_ n5_ n6_ n7_; (try clear hb); (try clear hb2); (try clear hk); (try clear hi)))
                    go_ret
                    exact ⟨by first | rfl | (simp [errW_none, errW_some] <;> rfl) | (simp [*, errW_none, errW_some] <;> rfl), by repeat (first | (with_reducible first | exact HB.out | apply below_alloc | apply pw_below_drewN | apply below_drew1 | refine below_set ?_ GE714.out | refine below_set ?_ GE725.out | refine below_set ?_ GE730.out | refine below_set ?_ GE736.out) | exact HB.out)⟩
                  · rw [if_neg c94] at H
                    have c94b0 : decide (t748 < 0) = false := decide_eq_false c94
                    clear c94
                    by_cases c102 : t748 = t746
                    · rw [if_pos c102] at H
                      have c102b0 : (t748 == t746) = true := beq_iff_eq.mpr c102
                      have c102b1 : (t748 != t746) = false := bne_eq_false_iff_eq.mpr c102
                      clear c102
                      replace H := Option.bind_eq_some_iff.mp H
                      obtain ⟨⟨t749, t750⟩, A1030, H⟩ := H
                      replace H : ((impl_FaceOf.f kj61 t749 t750 a1 a2).bind fun bt753 => ((laws_eqCube.f kj61 bt753.1 bt753.2.1 t720 t721).bind fun t759 => (if t759 = true then (laws_FnExactFaceOf.j2 kj61 t746 (bt753.2.2 != t724) t731 t747) else (laws_FnExactFaceOf.j2 kj61 t746 true t731 t747)))) = some r := H
                      have A103 := Aside0.mk A1030
                      clear A1030
                      replace H := Option.bind_eq_some_iff.mp H
                      obtain ⟨⟨t753, t754, t757⟩, A1040, H⟩ := H
                      replace H : ((laws_eqCube.f kj61 t753 t754 t720 t721).bind fun t759 => (if t759 = true then (laws_FnExactFaceOf.j2 kj61 t746 (t757 != t724) t731 t747) else (laws_FnExactFaceOf.j2 kj61 t746 true t731 t747))) = some r := H
                      have A104 := Aside0.mk A1040
                      clear A1040
                      have HC105 := Aside0.mk H
                      clear H
                      have hnb106 := NB736_714.out
                      have hnc106 := NB714_736.out
                      have hnb107 := NB736_725.out
                      have hnc107 := NB725_736.out
                      have hnb108 := NB736_730.out
                      have hnc108 := NB730_736.out
                      have hcz109_0 : wc.cell? ⟨gb736, 0, none⟩ = some (.int .i64 t731) := (blk_cell BK736.out 0).trans rfl
                      have hcz109_1 : wc.cell? ⟨gb736, 1, none⟩ = some (.slice Ao38 t732.length co38) := (blk_cell BK736.out 1).trans rfl
                      have hfz109_0 := blk_frozen BK736.out 0
                      have hfz109_1 := blk_frozen BK736.out 1
                      go_upto_region 25 with (first | ((with_reducible refine gate_callee (f := 27) rfl ?_); refine goesL_ (some 72) rfl rfl Try.func27 (by kernel_rfl) rfl #[.agg #[.int .i64 t731, .slice Ao38 t732.length co38], .int .i64 1] rfl (by (try simp only [List.map_toArray, List.map_cons, List.map_nil]); first | done | rfl | (simp only [List.length_drop, List.length_take]; rfl)) ?_; (with_reducible refine (laws_markCube.calls kj61 t731 (fun k_ => some k_ = (.slice Ao38 t732.length co38 : Value).ownBlock) (.slice Ao38 t732.length co38) t732 1 t746 t747 w _ ?side1 ?side2 A92.out).mono ?_); (case side1 => repeat (first | (with_reducible first | exact HB.out | apply below_alloc | apply pw_below_drewN | apply below_drew1 | refine below_set ?_ GE714.out | refine below_set ?_ GE725.out | refine below_set ?_ GE730.out | refine below_set ?_ GE736.out) | exact HB.out)); (case side2 => exact Kd.R_tight rfl HO_737001.out); rintro e w110 ⟨rfl, hy0, hb, hkp⟩; refine ⟨_, rfl, ?_⟩; have n0_ := Aside0.mk (Kd.R_mono (ok' := fun k_ => some k_ ≠ (.slice Ao31 t744.length co31 : Value).ownBlock ∧ some k_ ≠ (.slice Ao38 t732.length co38 : Value).ownBlock) (Kd.R_keptB (HO_726001.out) hkp (fun k_ hk_ hs_ => (hk_.2) hs_)) (fun k_ hk_ => ⟨hk_.1.1, hk_.1.2⟩)); have n1_ := Aside0.mk (Kd.R_mono (ok' := fun k_ => some k_ ≠ (.slice Ao24 t721.length co24 : Value).ownBlock ∧ some k_ ≠ (.slice Ao38 t732.length co38 : Value).ownBlock) (Kd.R_keptB (HO_731001.out) hkp (fun k_ hk_ hs_ => (hk_.2) hs_)) (fun k_ hk_ => ⟨hk_.1.1, hk_.1.2⟩)); have n2_ := Aside0.mk (Kd.R_reok rfl hy0 (fun k_ e_ => HO_737001.out.1 k_ e_)); have n3_ := Aside0.mk (blk_kept (by (with_reducible repeat (first | refine blk_drewN ?_ _ | refine blk_drew ?_ | refine blk_alloc ?_ _)); exact BK714.out) hkp (fun hs_ => (fun e_ => (Kd.R_ne HO_737001.out BK714.out (by decide)) e_) hs_)); have n4_ := Aside0.mk (blk_kept (by (with_reducible repeat (first | refine blk_drewN ?_ _ | refine blk_drew ?_ | refine blk_alloc ?_ _)); exact BK725.out) hkp (fun hs_ => (fun e_ => (Kd.R_ne HO_737001.out BK725.out (by decide)) e_) hs_)); have n5_ := Aside0.mk (blk_kept (by (with_reducible repeat (first | refine blk_drewN ?_ _ | refine blk_drew ?_ | refine blk_alloc ?_ _)); exact BK730.out) hkp (fun hs_ => (fun e_ => (Kd.R_ne HO_737001.out BK730.out (by decide)) e_) hs_)); have n6_ := Aside0.mk (blk_kept (by (with_reducible repeat (first | refine blk_drewN ?_ _ | refine blk_drew ?_ | refine blk_alloc ?_ _)); exact BK736.out) hkp (fun hs_ => (fun e_ => (Kd.R_ne HO_737001.out BK736.out (by decide)) e_) hs_)); have n7_ := Aside0.mk (hb); clear HO_726001; clear HO_731001; clear HO_737001; clear BK714; clear BK725; clear BK730; clear BK736; clear HB; have HO_726001 := n0_; have HO_731001 := n1_; have HO_737001 := n2_; have BK714 := n3_; have BK725 := n4_; have BK730 := n5_; have BK736 := n6_; have HB := n7_; clear n0_ n1_ n2_ n3_ n4_ n5_ n6_ n7_; (try clear hb); (try clear hkp); (try clear hy0); have hcz111_0 : w110.cell? ⟨gb736, 0, none⟩ = some (.int .i64 t731) := (blk_cell BK736.out 0).trans rfl; have hcz111_1 : w110.cell? ⟨gb736, 1, none⟩ = some (.slice Ao38 t732.length co38) := (blk_cell BK736.out 1).trans rfl; have hfz111_0 := blk_frozen BK736.out 0; have hfz111_1 := blk_frozen BK736.out 1) | ((with_reducible refine gate_callee (f := 37) rfl ?_); refine goesL_ (some 75) rfl rfl Try.func37 (by kernel_rfl) rfl #[.agg #[.int .i64 t731, .slice Ao38 t747.length co38], .int .i64 1] rfl (by (try simp only [List.map_toArray, List.map_cons, List.map_nil]); first | done | (rw [show t747.length = t732.length from (Kd.R_reads' HO_737001.out).1.symm] <;> rfl) | rfl | (simp only [List.length_drop, List.length_take]; rfl)) ?_; (with_reducible refine (laws_heldCube.calls kj61 t731 _ _ t747 1 t748 _ ?side1 ?side2 A93.out).mono ?_); (case side1 => repeat (first | exact (Kd.R_reads' HO_737001.out).2.2 | (with_reducible refine Kd.C_alloc ?_ _) | (with_reducible refine Kd.C_drewN ?_ _) | (with_reducible refine Kd.C_drew ?_))); (case side2 => rw [show t747.length = t732.length from (Kd.R_reads' HO_737001.out).1.symm]; exact (Kd.R_reads' HO_737001.out).2.1); rintro e w112 ⟨rfl, hb⟩; refine ⟨_, rfl, ?_⟩; have n0_ := Aside0.mk (Kd.R_below (by (with_reducible repeat (first | apply Kd.R_alloc | apply Kd.R_drewN | apply Kd.R_drew)); exact HO_726001.out) hb); have n1_ := Aside0.mk (Kd.R_below (by (with_reducible repeat (first | apply Kd.R_alloc | apply Kd.R_drewN | apply Kd.R_drew)); exact HO_731001.out) hb); have n2_ := Aside0.mk (Kd.R_below (by (with_reducible repeat (first | apply Kd.R_alloc | apply Kd.R_drewN | apply Kd.R_drew)); exact HO_737001.out) hb); have n3_ := Aside0.mk (blk_below (g := gb714) (o := .cells #[.int .i64 a0_0, .slice A0_1 l0_1.length c0_1] 24 (0, 0)) (by (with_reducible repeat (first | refine blk_drewN ?_ _ | refine blk_drew ?_ | refine blk_alloc ?_ _)); exact BK714.out) hb); have n4_ := Aside0.mk (blk_below (g := gb725) (o := .cells #[.int .i64 t720, .slice Ao24 t721.length co24] 27 (0, 0)) (by (with_reducible repeat (first | refine blk_drewN ?_ _ | refine blk_drew ?_ | refine blk_alloc ?_ _)); exact BK725.out) hb); have n5_ := Aside0.mk (blk_below (g := gb730) (o := .cells #[.int .i64 t726, .slice Ao31 t744.length co31] 27 (0, 0)) (by (with_reducible repeat (first | refine blk_drewN ?_ _ | refine blk_drew ?_ | refine blk_alloc ?_ _)); exact BK730.out) hb); have n6_ := Aside0.mk (blk_below (g := gb736) (o := .cells #[.int .i64 t731, .slice Ao38 t732.length co38] 27 (0, 0)) (by (with_reducible repeat (first | refine blk_drewN ?_ _ | refine blk_drew ?_ | refine blk_alloc ?_ _)); exact BK736.out) hb); have n7_ := Aside0.mk (below_step (by repeat (first | (with_reducible first | exact HB.out | apply below_alloc | apply pw_below_drewN | apply below_drew1 | refine below_set ?_ GE714.out | refine below_set ?_ GE725.out | refine below_set ?_ GE730.out | refine below_set ?_ GE736.out) | exact HB.out)) hb); clear HO_726001; clear HO_731001; clear HO_737001; clear BK714; clear BK725; clear BK730; clear BK736; clear HB; have HO_726001 := n0_; have HO_731001 := n1_; have HO_737001 := n2_; have BK714 := n3_; have BK725 := n4_; have BK730 := n5_; have BK736 := n6_; have HB := n7_; clear n0_ n1_ n2_ n3_ n4_ n5_ n6_ n7_; (try clear hb); (try clear hb2); (try clear hk); (try clear hi); have hnb113 := NB714_725.out; have hnc113 := NB725_714.out; have hnb114 := NB714_730.out; have hnc114 := NB730_714.out; have hcz115_0 : w112.cell? ⟨gb714, 0, none⟩ = some (.int .i64 a0_0) := (blk_cell BK714.out 0).trans rfl; have hcz115_1 : w112.cell? ⟨gb714, 1, none⟩ = some (.slice A0_1 l0_1.length c0_1) := (blk_cell BK714.out 1).trans rfl; have hfz115_0 := blk_frozen BK714.out 0; have hfz115_1 := blk_frozen BK714.out 1) | ((with_reducible refine gate_callee (f := 17) rfl ?_); refine goesL_ (some 83) rfl rfl Try.func17 (by kernel_rfl) rfl #[.agg #[.int .i64 a0_0, .slice A0_1 l0_1.length c0_1]] rfl (by (try simp only [List.map_toArray, List.map_cons, List.map_nil]); first | done | rfl | (simp only [List.length_drop, List.length_take]; rfl)) ?_; (with_reducible refine (laws_toCube.calls kj61 a0_0 _ _ l0_1 t749 t750 _ ?side1 ?side2 A103.out).mono ?_); (case side1 => repeat (first | exact (Kd.C_below HR0_1.out HB.out) | (with_reducible refine Kd.C_alloc ?_ _) | (with_reducible refine Kd.C_drewN ?_ _) | (with_reducible refine Kd.C_drew ?_))); (case side2 => exact HC0_1.out); rintro e w116 ⟨v751, rfl, ho0, hb⟩; refine ⟨_, rfl, ?_⟩; have n0_ := Aside0.mk (Kd.R_elder' (by (with_reducible repeat (first | apply Kd.R_alloc | apply Kd.R_drewN | apply Kd.R_drew)); exact HO_726001.out) (Kd.R_base ho0) hb); have n1_ := Aside0.mk (Kd.R_elder' (by (with_reducible repeat (first | apply Kd.R_alloc | apply Kd.R_drewN | apply Kd.R_drew)); exact HO_731001.out) (Kd.R_base ho0) hb); have n2_ := Aside0.mk (Kd.R_elder' (by (with_reducible repeat (first | apply Kd.R_alloc | apply Kd.R_drewN | apply Kd.R_drew)); exact HO_737001.out) (Kd.R_base ho0) hb); have n3_ := Aside0.mk (Kd.R_lower (Kd.R_new' (Kd.R_new' (Kd.R_new' ho0 (Kd.R_lt (by (with_reducible repeat (first | apply Kd.R_alloc | apply Kd.R_drewN | apply Kd.R_drew)); exact HO_726001.out))) (Kd.R_lt (by (with_reducible repeat (first | apply Kd.R_alloc | apply Kd.R_drewN | apply Kd.R_drew)); exact HO_731001.out))) (Kd.R_lt (by (with_reducible repeat (first | apply Kd.R_alloc | apply Kd.R_drewN | apply Kd.R_drew)); exact HO_737001.out))) (below_size (by repeat (first | (with_reducible first | exact HB.out | apply below_alloc | apply pw_below_drewN | apply below_drew1 | refine below_set ?_ GE714.out | refine below_set ?_ GE725.out | refine below_set ?_ GE730.out | refine below_set ?_ GE736.out) | exact HB.out)))); have n4_ := Aside0.mk (blk_below (g := gb714) (o := .cells #[.int .i64 a0_0, .slice A0_1 l0_1.length c0_1] 24 (0, 0)) (by (with_reducible repeat (first | refine blk_drewN ?_ _ | refine blk_drew ?_ | refine blk_alloc ?_ _)); exact BK714.out) hb); have n5_ := Aside0.mk (blk_below (g := gb725) (o := .cells #[.int .i64 t720, .slice Ao24 t721.length co24] 27 (0, 0)) (by (with_reducible repeat (first | refine blk_drewN ?_ _ | refine blk_drew ?_ | refine blk_alloc ?_ _)); exact BK725.out) hb); have n6_ := Aside0.mk (blk_below (g := gb730) (o := .cells #[.int .i64 t726, .slice Ao31 t744.length co31] 27 (0, 0)) (by (with_reducible repeat (first | refine blk_drewN ?_ _ | refine blk_drew ?_ | refine blk_alloc ?_ _)); exact BK730.out) hb); have n7_ := Aside0.mk (blk_below (g := gb736) (o := .cells #[.int .i64 t731, .slice Ao38 t732.length co38] 27 (0, 0)) (by (with_reducible repeat (first | refine blk_drewN ?_ _ | refine blk_drew ?_ | refine blk_alloc ?_ _)); exact BK736.out) hb); have n8_ := Aside0.mk (below_step (by repeat (first | (with_reducible first | exact HB.out | apply below_alloc | apply pw_below_drewN | apply below_drew1 | refine below_set ?_ GE714.out | refine below_set ?_ GE725.out | refine below_set ?_ GE730.out | refine below_set ?_ GE736.out) | exact HB.out)) hb); clear HO_726001; clear HO_731001; clear HO_737001; clear BK714; clear BK725; clear BK730; clear BK736; clear HB; have HO_726001 := n0_; have HO_731001 := n1_; have HO_737001 := n2_; have HO752 := n3_; have BK714 := n4_; have BK725 := n5_; have BK730 := n6_; have BK736 := n7_; have HB := n8_; clear n0_ n1_ n2_ n3_ n4_ n5_ n6_ n7_ n8_; (try clear hb); (try clear hb2); (try clear hk); (try clear hi); (try clear ho0); obtain ⟨Ao117, co117, eo117⟩ := Kd.R_slice HO752.out; subst eo117) | ((with_reducible refine gate_callee (f := 50) rfl ?_); refine goesL_ (some 86) rfl rfl Try.func50 (by kernel_rfl) rfl #[.agg #[.int .i64 t749, .slice Ao117 t750.length co117], .int .i64 a1, .int .i64 a2] rfl (by (try simp only [List.map_toArray, List.map_cons, List.map_nil]); first | done | rfl | (simp only [List.length_drop, List.length_take]; rfl)) ?_; (with_reducible refine (impl_FaceOf.calls kj61 t749 _ _ t750 a1 a2 t753 t754 t757 _ ?side1 ?side2 A104.out).mono ?_); (case side1 => repeat (first | exact (Kd.R_reads' HO752.out).2.2 | (with_reducible refine Kd.C_alloc ?_ _) | (with_reducible refine Kd.C_drewN ?_ _) | (with_reducible refine Kd.C_drew ?_))); (case side2 => exact (Kd.R_reads' HO752.out).2.1); rintro e w118 ⟨v755, rfl, ho0, hb⟩; refine ⟨_, rfl, ?_⟩; have n0_ := Aside0.mk (Kd.R_elder' (by (with_reducible repeat (first | apply Kd.R_alloc | apply Kd.R_drewN | apply Kd.R_drew)); exact HO_726001.out) (Kd.R_base ho0) hb); have n1_ := Aside0.mk (Kd.R_elder' (by (with_reducible repeat (first | apply Kd.R_alloc | apply Kd.R_drewN | apply Kd.R_drew)); exact HO_731001.out) (Kd.R_base ho0) hb); have n2_ := Aside0.mk (Kd.R_elder' (by (with_reducible repeat (first | apply Kd.R_alloc | apply Kd.R_drewN | apply Kd.R_drew)); exact HO_737001.out) (Kd.R_base ho0) hb); have n3_ := Aside0.mk (Kd.R_elder' (by (with_reducible repeat (first | apply Kd.R_alloc | apply Kd.R_drewN | apply Kd.R_drew)); exact HO752.out) (Kd.R_base ho0) hb); have n4_ := Aside0.mk (Kd.R_lower (Kd.R_new' (Kd.R_new' (Kd.R_new' (Kd.R_new' ho0 (Kd.R_lt (by (with_reducible repeat (first | apply Kd.R_alloc | apply Kd.R_drewN | apply Kd.R_drew)); exact HO_726001.out))) (Kd.R_lt (by (with_reducible repeat (first | apply Kd.R_alloc | apply Kd.R_drewN | apply Kd.R_drew)); exact HO_731001.out))) (Kd.R_lt (by (with_reducible repeat (first | apply Kd.R_alloc | apply Kd.R_drewN | apply Kd.R_drew)); exact HO_737001.out))) (Kd.R_lt (by (with_reducible repeat (first | apply Kd.R_alloc | apply Kd.R_drewN | apply Kd.R_drew)); exact HO752.out))) (below_size (by repeat (first | (with_reducible first | exact HB.out | apply below_alloc | apply pw_below_drewN | apply below_drew1 | refine below_set ?_ GE714.out | refine below_set ?_ GE725.out | refine below_set ?_ GE730.out | refine below_set ?_ GE736.out) | exact HB.out)))); have n5_ := Aside0.mk (blk_below (g := gb714) (o := .cells #[.int .i64 a0_0, .slice A0_1 l0_1.length c0_1] 24 (0, 0)) (by (with_reducible repeat (first | refine blk_drewN ?_ _ | refine blk_drew ?_ | refine blk_alloc ?_ _)); exact BK714.out) hb); have n6_ := Aside0.mk (blk_below (g := gb725) (o := .cells #[.int .i64 t720, .slice Ao24 t721.length co24] 27 (0, 0)) (by (with_reducible repeat (first | refine blk_drewN ?_ _ | refine blk_drew ?_ | refine blk_alloc ?_ _)); exact BK725.out) hb); have n7_ := Aside0.mk (blk_below (g := gb730) (o := .cells #[.int .i64 t726, .slice Ao31 t744.length co31] 27 (0, 0)) (by (with_reducible repeat (first | refine blk_drewN ?_ _ | refine blk_drew ?_ | refine blk_alloc ?_ _)); exact BK730.out) hb); have n8_ := Aside0.mk (blk_below (g := gb736) (o := .cells #[.int .i64 t731, .slice Ao38 t732.length co38] 27 (0, 0)) (by (with_reducible repeat (first | refine blk_drewN ?_ _ | refine blk_drew ?_ | refine blk_alloc ?_ _)); exact BK736.out) hb); have n9_ := Aside0.mk (below_step (by repeat (first | (with_reducible first | exact HB.out | apply below_alloc | apply pw_below_drewN | apply below_drew1 | refine below_set ?_ GE714.out | refine below_set ?_ GE725.out | refine below_set ?_ GE730.out | refine below_set ?_ GE736.out) | exact HB.out)) hb); clear HO_726001; clear HO_731001; clear HO_737001; clear HO752; clear BK714; clear BK725; clear BK730; clear BK736; clear HB; have HO_726001 := n0_; have HO_731001 := n1_; have HO_737001 := n2_; have HO752 := n3_; have HO756 := n4_; have BK714 := n5_; have BK725 := n6_; have BK730 := n7_; have BK736 := n8_; have HB := n9_; clear n0_ n1_ n2_ n3_ n4_ n5_ n6_ n7_ n8_ n9_; (try clear hb); (try clear hb2); (try clear hk); (try clear hi); (try clear ho0)) | ((with_reducible refine gate_dst (N := 16) rfl ?_); refine box_event ?hg (N := 16) ?hd (cs := #[.int .i64 0, .slice none 0 0]) (t := 27) ?hr ?_; (case hd => rfl); (case hg => rfl); (case hr => first | (go_simp; done) | (go_simp; rfl)); intro gb758 hg w119 hbox hb; have n0_ := Aside0.mk (Kd.R_below (by (with_reducible repeat (first | apply Kd.R_alloc | apply Kd.R_drewN | apply Kd.R_drew)); exact HO_726001.out) hb); have n1_ := Aside0.mk (Kd.R_below (by (with_reducible repeat (first | apply Kd.R_alloc | apply Kd.R_drewN | apply Kd.R_drew)); exact HO_731001.out) hb); have n2_ := Aside0.mk (Kd.R_below (by (with_reducible repeat (first | apply Kd.R_alloc | apply Kd.R_drewN | apply Kd.R_drew)); exact HO_737001.out) hb); have n3_ := Aside0.mk (Kd.R_below (by (with_reducible repeat (first | apply Kd.R_alloc | apply Kd.R_drewN | apply Kd.R_drew)); exact HO752.out) hb); have n4_ := Aside0.mk (Kd.R_below (by (with_reducible repeat (first | apply Kd.R_alloc | apply Kd.R_drewN | apply Kd.R_drew)); exact HO756.out) hb); have n5_ := Aside0.mk (blk_below (g := gb714) (o := .cells #[.int .i64 a0_0, .slice A0_1 l0_1.length c0_1] 24 (0, 0)) (by (with_reducible repeat (first | refine blk_drewN ?_ _ | refine blk_drew ?_ | refine blk_alloc ?_ _)); exact BK714.out) hb); have n6_ := Aside0.mk (blk_below (g := gb725) (o := .cells #[.int .i64 t720, .slice Ao24 t721.length co24] 27 (0, 0)) (by (with_reducible repeat (first | refine blk_drewN ?_ _ | refine blk_drew ?_ | refine blk_alloc ?_ _)); exact BK725.out) hb); have n7_ := Aside0.mk (blk_below (g := gb730) (o := .cells #[.int .i64 t726, .slice Ao31 t744.length co31] 27 (0, 0)) (by (with_reducible repeat (first | refine blk_drewN ?_ _ | refine blk_drew ?_ | refine blk_alloc ?_ _)); exact BK730.out) hb); have n8_ := Aside0.mk (blk_below (g := gb736) (o := .cells #[.int .i64 t731, .slice Ao38 t732.length co38] 27 (0, 0)) (by (with_reducible repeat (first | refine blk_drewN ?_ _ | refine blk_drew ?_ | refine blk_alloc ?_ _)); exact BK736.out) hb); have n9_ := Aside0.mk (below_step (by repeat (first | (with_reducible first | exact HB.out | apply below_alloc | apply pw_below_drewN | apply below_drew1 | refine below_set ?_ GE714.out | refine below_set ?_ GE725.out | refine below_set ?_ GE730.out | refine below_set ?_ GE736.out) | exact HB.out)) hb); have n10_ := Aside0.mk (hbox); have n11_ := Aside0.mk ((by rw [hg]; exact (below_size (by repeat (first | (with_reducible first | exact HB.out | apply below_alloc | apply pw_below_drewN | apply below_drew1 | refine below_set ?_ GE714.out | refine below_set ?_ GE725.out | refine below_set ?_ GE730.out | refine below_set ?_ GE736.out) | exact HB.out))) : w.heap.size ≤ gb758)); have n12_ := Aside0.mk ((by rw [hg]; exact (below_size (by repeat (first | (with_reducible first | exact HB.out | apply below_alloc | apply pw_below_drewN | apply below_drew1 | refine below_set ?_ GE714.out | refine below_set ?_ GE725.out | refine below_set ?_ GE730.out | refine below_set ?_ GE736.out) | exact HB.out))) : w.heap.size ≤ gb758)); have n13_ := Aside0.mk ((by rw [hg]; exact Nat.ne_of_lt (blk_lt (g := gb714) (o := .cells #[.int .i64 a0_0, .slice A0_1 l0_1.length c0_1] 24 (0, 0)) (by (with_reducible repeat (first | refine blk_drewN ?_ _ | refine blk_drew ?_ | refine blk_alloc ?_ _)); exact BK714.out)) : gb714 ≠ gb758)); have n14_ := Aside0.mk ((by rw [hg]; exact Nat.ne_of_gt (blk_lt (g := gb714) (o := .cells #[.int .i64 a0_0, .slice A0_1 l0_1.length c0_1] 24 (0, 0)) (by (with_reducible repeat (first | refine blk_drewN ?_ _ | refine blk_drew ?_ | refine blk_alloc ?_ _)); exact BK714.out)) : gb758 ≠ gb714)); have n15_ := Aside0.mk ((by rw [hg]; exact Nat.ne_of_lt (blk_lt (g := gb725) (o := .cells #[.int .i64 t720, .slice Ao24 t721.length co24] 27 (0, 0)) (by (with_reducible repeat (first | refine blk_drewN ?_ _ | refine blk_drew ?_ | refine blk_alloc ?_ _)); exact BK725.out)) : gb725 ≠ gb758)); have n16_ := Aside0.mk ((by rw [hg]; exact Nat.ne_of_gt (blk_lt (g := gb725) (o := .cells #[.int .i64 t720, .slice Ao24 t721.length co24] 27 (0, 0)) (by (with_reducible repeat (first | refine blk_drewN ?_ _ | refine blk_drew ?_ | refine blk_alloc ?_ _)); exact BK725.out)) : gb758 ≠ gb725)); have n17_ := Aside0.mk ((by rw [hg]; exact Nat.ne_of_lt (blk_lt (g := gb730) (o := .cells #[.int .i64 t726, .slice Ao31 t744.length co31] 27 (0, 0)) (by (with_reducible repeat (first | refine blk_drewN ?_ _ | refine blk_drew ?_ | refine blk_alloc ?_ _)); exact BK730.out)) : gb730 ≠ gb758)); have n18_ := Aside0.mk ((by rw [hg]; exact Nat.ne_of_gt (blk_lt (g := gb730) (o := .cells #[.int .i64 t726, .slice Ao31 t744.length co31] 27 (0, 0)) (by (with_reducible repeat (first | refine blk_drewN ?_ _ | refine blk_drew ?_ | refine blk_alloc ?_ _)); exact BK730.out)) : gb758 ≠ gb730)); have n19_ := Aside0.mk ((by rw [hg]; exact Nat.ne_of_lt (blk_lt (g := gb736) (o := .cells #[.int .i64 t731, .slice Ao38 t732.length co38] 27 (0, 0)) (by (with_reducible repeat (first | refine blk_drewN ?_ _ | refine blk_drew ?_ | refine blk_alloc ?_ _)); exact BK736.out)) : gb736 ≠ gb758)); have n20_ := Aside0.mk ((by rw [hg]; exact Nat.ne_of_gt (blk_lt (g := gb736) (o := .cells #[.int .i64 t731, .slice Ao38 t732.length co38] 27 (0, 0)) (by (with_reducible repeat (first | refine blk_drewN ?_ _ | refine blk_drew ?_ | refine blk_alloc ?_ _)); exact BK736.out)) : gb758 ≠ gb736)); clear HO_726001; clear HO_731001; clear HO_737001; clear HO752; clear HO756; clear BK714; clear BK725; clear BK730; clear BK736; clear HB; have HO_726001 := n0_; have HO_731001 := n1_; have HO_737001 := n2_; have HO752 := n3_; have HO756 := n4_; have BK714 := n5_; have BK725 := n6_; have BK730 := n7_; have BK736 := n8_; have HB := n9_; have BK758 := n10_; have GW758 := n11_; have GE758 := n12_; have NB714_758 := n13_; have NB758_714 := n14_; have NB725_758 := n15_; have NB758_725 := n16_; have NB730_758 := n17_; have NB758_730 := n18_; have NB736_758 := n19_; have NB758_736 := n20_; clear n0_ n1_ n2_ n3_ n4_ n5_ n6_ n7_ n8_ n9_ n10_ n11_ n12_ n13_ n14_ n15_ n16_ n17_ n18_ n19_ n20_; clear hb hbox hg; have hnb120 := NB758_714.out; have hnc120 := NB714_758.out; have hnb121 := NB758_725.out; have hnc121 := NB725_758.out; have hnb122 := NB758_730.out; have hnc122 := NB730_758.out; have hnb123 := NB758_736.out; have hnc123 := NB736_758.out; have hcz124_0 : w119.cell? ⟨gb758, 0, none⟩ = some (.int .i64 0) := (blk_cell BK758.out 0).trans rfl; have hcz124_1 : w119.cell? ⟨gb758, 1, none⟩ = some (.slice none 0 0) := (blk_cell BK758.out 1).trans rfl; have hfz124_0 := blk_frozen BK758.out 0; have hfz124_1 := blk_frozen BK758.out 1; obtain ⟨Ao125, co125, eo125⟩ := Kd.R_slice HO756.out; subst eo125))
                      (try simp only [Act.put, List.setIfInBounds_toArray, List.set_cons_zero, List.set_cons_succ])
                      go_cut [97] (fun v97 wc => ∃ (kq : Nat) (x97_104 : Bool), v97 = .bool x97_104 ∧ Aside0 (laws_FnExactFaceOf.j2 kq t746 x97_104 t731 t747 = some r) ∧ Aside0 (kq ≤ kj61) ∧ Aside0 (Kd.R (Kd.int .i64) 2 wc w.heap.size (fun k_ => some k_ ≠ ((.slice Ao31 t744.length co31) : Value).ownBlock ∧ some k_ ≠ ((.slice Ao38 t732.length co38) : Value).ownBlock ∧ some k_ ≠ ((.slice Ao125 t754.length co125) : Value).ownBlock) (.slice Ao24 t721.length co24) t721) ∧ Aside0 (Kd.R (Kd.int .i64) 2 wc w.heap.size (fun k_ => some k_ ≠ ((.slice Ao24 t721.length co24) : Value).ownBlock ∧ some k_ ≠ ((.slice Ao38 t732.length co38) : Value).ownBlock ∧ some k_ ≠ ((.slice Ao125 t754.length co125) : Value).ownBlock) (.slice Ao31 t744.length co31) t744) ∧ Aside0 (Kd.R (Kd.int .i64) 2 wc w.heap.size (fun k_ => some k_ ≠ ((.slice Ao24 t721.length co24) : Value).ownBlock ∧ some k_ ≠ ((.slice Ao31 t744.length co31) : Value).ownBlock ∧ some k_ ≠ ((.slice Ao125 t754.length co125) : Value).ownBlock) (.slice Ao38 t732.length co38) t747) ∧ Aside0 (Kd.R (Kd.int .i64) 2 wc w.heap.size (fun k_ => some k_ ≠ ((.slice Ao24 t721.length co24) : Value).ownBlock ∧ some k_ ≠ ((.slice Ao31 t744.length co31) : Value).ownBlock ∧ some k_ ≠ ((.slice Ao38 t732.length co38) : Value).ownBlock) (.slice Ao125 t754.length co125) t754) ∧ Aside0 (wc.heap[gb714]? = some (.cells #[.int .i64 a0_0, (.slice A0_1 l0_1.length c0_1)] 24 (0, 0))) ∧ Aside0 (wc.heap[gb725]? = some (.cells #[.int .i64 t720, (.slice Ao24 t721.length co24)] 27 (0, 0))) ∧ Aside0 (wc.heap[gb730]? = some (.cells #[.int .i64 t726, (.slice Ao31 t744.length co31)] 27 (0, 0))) ∧ Aside0 (wc.heap[gb736]? = some (.cells #[.int .i64 t731, (.slice Ao38 t732.length co38)] 27 (0, 0))) ∧ Aside0 (wc.heap[gb758]? = some (.cells #[.int .i64 t753, (.slice Ao125 t754.length co125)] 27 (0, 0))) ∧ Aside0 (Below w.heap.size w wc))
                      case first =>
                        have H := HC105.out
                        clear HC105
                        replace H := Option.bind_eq_some_iff.mp H
                        obtain ⟨t759, A1260, H⟩ := H
                        replace H : (if t759 = true then (laws_FnExactFaceOf.j2 kj61 t746 (t757 != t724) t731 t747) else (laws_FnExactFaceOf.j2 kj61 t746 true t731 t747)) = some r := H
                        have A126 := Aside0.mk A1260
                        clear A1260
                        by_cases c127 : t759 = true
                        · subst c127
                          have H1 : (laws_FnExactFaceOf.j2 kj61 t746 (t757 != t724) t731 t747) = some r := by rw [if_pos rfl] at H; exact H
                          clear H
                          have H := H1
                          clear H1
                          have H' := Aside0.mk H
                          clear H
                          have hnb128 := NB758_714.out
                          have hnc128 := NB714_758.out
                          have hnb129 := NB758_725.out
                          have hnc129 := NB725_758.out
                          have hnb130 := NB758_730.out
                          have hnc130 := NB730_758.out
                          have hnb131 := NB758_736.out
                          have hnc131 := NB736_758.out
                          have hcz132_0 : w119.cell? ⟨gb758, 0, none⟩ = some (.int .i64 0) := (blk_cell BK758.out 0).trans rfl
                          have hcz132_1 : w119.cell? ⟨gb758, 1, none⟩ = some (.slice none 0 0) := (blk_cell BK758.out 1).trans rfl
                          have hfz132_0 := blk_frozen BK758.out 0
                          have hfz132_1 := blk_frozen BK758.out 1
                          have hnb133 := NB725_714.out
                          have hnc133 := NB714_725.out
                          have hnb134 := NB725_730.out
                          have hnc134 := NB730_725.out
                          have hnb135 := NB725_736.out
                          have hnc135 := NB736_725.out
                          have hcz136_0 : w119.cell? ⟨gb725, 0, none⟩ = some (.int .i64 t720) := (blk_cell BK725.out 0).trans rfl
                          have hcz136_1 : w119.cell? ⟨gb725, 1, none⟩ = some (.slice Ao24 t721.length co24) := (blk_cell BK725.out 1).trans rfl
                          have hfz136_0 := blk_frozen BK725.out 0
                          have hfz136_1 := blk_frozen BK725.out 1
                          go_wp2_with (first | ((with_reducible refine gate_callee (f := 19) rfl ?_); refine goesL_ (some 91) rfl rfl Try.func19 (by kernel_rfl) rfl #[.agg #[.int .i64 t753, .slice Ao125 t754.length co125], .agg #[.int .i64 t720, .slice Ao24 t721.length co24]] rfl (by (try simp only [List.map_toArray, List.map_cons, List.map_nil]); first | done | rfl | (simp only [List.length_drop, List.length_take]; rfl)) ?_; (with_reducible refine (laws_eqCube.calls kj61 t753 _ _ t754 t720 _ _ t721 true _ ?side1 ?side2 ?side3 ?side4 A126.out).mono ?_); (case side1 => refine (Kd.R_reads' (e := 2) (base := w.heap.size) (ok := fun k_ => ((((True ∧ some k_ ≠ (.slice Ao24 t721.length co24 : Value).ownBlock) ∧ some k_ ≠ (.slice Ao31 t744.length co31 : Value).ownBlock) ∧ some k_ ≠ (.slice Ao38 t732.length co38 : Value).ownBlock) ∧ some k_ ≠ (.slice Ao117 t750.length co117 : Value).ownBlock)) (n := t754.length) (c := co125) ?_).2.2; exact (by (with_reducible repeat (first | apply Kd.R_alloc | apply Kd.R_drewN | apply Kd.R_drew)); exact (Kd.R_mono (Kd.R_far (p := ⟨gb758, 1, none⟩) (Kd.R_far (p := ⟨gb758, 0, none⟩) (Kd.R_types HO756.out BK758.out (by decide)) (fun _ hk => hk.2) (.int .i64 t753)) (fun _ hk => hk.2) (.slice Ao125 t754.length co125)) (fun _ h_ => h_.1)))); (case side2 => exact (Kd.R_reads' HO756.out).2.1); (case side3 => refine (Kd.R_reads' (e := 2) (base := w.heap.size) (ok := fun k_ => (((some k_ ≠ (.slice Ao31 t744.length co31 : Value).ownBlock ∧ some k_ ≠ (.slice Ao38 t732.length co38 : Value).ownBlock) ∧ some k_ ≠ (.slice Ao117 t750.length co117 : Value).ownBlock) ∧ some k_ ≠ (.slice Ao125 t754.length co125 : Value).ownBlock)) (n := t721.length) (c := co24) ?_).2.2; exact (by (with_reducible repeat (first | apply Kd.R_alloc | apply Kd.R_drewN | apply Kd.R_drew)); exact (Kd.R_mono (Kd.R_far (p := ⟨gb758, 1, none⟩) (Kd.R_far (p := ⟨gb758, 0, none⟩) (Kd.R_types HO_726001.out BK758.out (by decide)) (fun _ hk => hk.2) (.int .i64 t753)) (fun _ hk => hk.2) (.slice Ao125 t754.length co125)) (fun _ h_ => h_.1)))); (case side4 => exact (Kd.R_reads' HO_726001.out).2.1); rintro e w137 ⟨rfl, hb⟩; refine ⟨_, rfl, ?_⟩; have n0_ := Aside0.mk (Kd.R_below (by (with_reducible repeat (first | apply Kd.R_alloc | apply Kd.R_drewN | apply Kd.R_drew)); exact (Kd.R_mono (Kd.R_far (p := ⟨gb758, 1, none⟩) (Kd.R_far (p := ⟨gb758, 0, none⟩) (Kd.R_types HO_726001.out BK758.out (by decide)) (fun _ hk => hk.2) (.int .i64 t753)) (fun _ hk => hk.2) (.slice Ao125 t754.length co125)) (fun _ h_ => h_.1))) hb); have n1_ := Aside0.mk (Kd.R_below (by (with_reducible repeat (first | apply Kd.R_alloc | apply Kd.R_drewN | apply Kd.R_drew)); exact (Kd.R_mono (Kd.R_far (p := ⟨gb758, 1, none⟩) (Kd.R_far (p := ⟨gb758, 0, none⟩) (Kd.R_types HO_731001.out BK758.out (by decide)) (fun _ hk => hk.2) (.int .i64 t753)) (fun _ hk => hk.2) (.slice Ao125 t754.length co125)) (fun _ h_ => h_.1))) hb); have n2_ := Aside0.mk (Kd.R_below (by (with_reducible repeat (first | apply Kd.R_alloc | apply Kd.R_drewN | apply Kd.R_drew)); exact (Kd.R_mono (Kd.R_far (p := ⟨gb758, 1, none⟩) (Kd.R_far (p := ⟨gb758, 0, none⟩) (Kd.R_types HO_737001.out BK758.out (by decide)) (fun _ hk => hk.2) (.int .i64 t753)) (fun _ hk => hk.2) (.slice Ao125 t754.length co125)) (fun _ h_ => h_.1))) hb); have n3_ := Aside0.mk (Kd.R_below (by (with_reducible repeat (first | apply Kd.R_alloc | apply Kd.R_drewN | apply Kd.R_drew)); exact (Kd.R_mono (Kd.R_far (p := ⟨gb758, 1, none⟩) (Kd.R_far (p := ⟨gb758, 0, none⟩) (Kd.R_types HO752.out BK758.out (by decide)) (fun _ hk => hk.2) (.int .i64 t753)) (fun _ hk => hk.2) (.slice Ao125 t754.length co125)) (fun _ h_ => h_.1))) hb); have n4_ := Aside0.mk (Kd.R_below (by (with_reducible repeat (first | apply Kd.R_alloc | apply Kd.R_drewN | apply Kd.R_drew)); exact (Kd.R_mono (Kd.R_far (p := ⟨gb758, 1, none⟩) (Kd.R_far (p := ⟨gb758, 0, none⟩) (Kd.R_types HO756.out BK758.out (by decide)) (fun _ hk => hk.2) (.int .i64 t753)) (fun _ hk => hk.2) (.slice Ao125 t754.length co125)) (fun _ h_ => h_.1))) hb); have n5_ := Aside0.mk (blk_below (g := gb714) (o := .cells #[.int .i64 a0_0, .slice A0_1 l0_1.length c0_1] 24 (0, 0)) (by (with_reducible repeat (first | refine blk_drewN ?_ _ | refine blk_drew ?_ | refine blk_alloc ?_ _)); refine blk_far ?_ NB714_758.out _; (with_reducible repeat (first | refine blk_drewN ?_ _ | refine blk_drew ?_ | refine blk_alloc ?_ _)); refine blk_far ?_ NB714_758.out _; (with_reducible repeat (first | refine blk_drewN ?_ _ | refine blk_drew ?_ | refine blk_alloc ?_ _)); exact BK714.out) hb); have n6_ := Aside0.mk (blk_below (g := gb725) (o := .cells #[.int .i64 t720, .slice Ao24 t721.length co24] 27 (0, 0)) (by (with_reducible repeat (first | refine blk_drewN ?_ _ | refine blk_drew ?_ | refine blk_alloc ?_ _)); refine blk_far ?_ NB725_758.out _; (with_reducible repeat (first | refine blk_drewN ?_ _ | refine blk_drew ?_ | refine blk_alloc ?_ _)); refine blk_far ?_ NB725_758.out _; (with_reducible repeat (first | refine blk_drewN ?_ _ | refine blk_drew ?_ | refine blk_alloc ?_ _)); exact BK725.out) hb); have n7_ := Aside0.mk (blk_below (g := gb730) (o := .cells #[.int .i64 t726, .slice Ao31 t744.length co31] 27 (0, 0)) (by (with_reducible repeat (first | refine blk_drewN ?_ _ | refine blk_drew ?_ | refine blk_alloc ?_ _)); refine blk_far ?_ NB730_758.out _; (with_reducible repeat (first | refine blk_drewN ?_ _ | refine blk_drew ?_ | refine blk_alloc ?_ _)); refine blk_far ?_ NB730_758.out _; (with_reducible repeat (first | refine blk_drewN ?_ _ | refine blk_drew ?_ | refine blk_alloc ?_ _)); exact BK730.out) hb); have n8_ := Aside0.mk (blk_below (g := gb736) (o := .cells #[.int .i64 t731, .slice Ao38 t732.length co38] 27 (0, 0)) (by (with_reducible repeat (first | refine blk_drewN ?_ _ | refine blk_drew ?_ | refine blk_alloc ?_ _)); refine blk_far ?_ NB736_758.out _; (with_reducible repeat (first | refine blk_drewN ?_ _ | refine blk_drew ?_ | refine blk_alloc ?_ _)); refine blk_far ?_ NB736_758.out _; (with_reducible repeat (first | refine blk_drewN ?_ _ | refine blk_drew ?_ | refine blk_alloc ?_ _)); exact BK736.out) hb); have n9_ := Aside0.mk (blk_below (g := gb758) (o := .cells #[.int .i64 t753, .slice Ao125 t754.length co125] 27 (0, 0)) (by (with_reducible repeat (first | refine blk_drewN ?_ _ | refine blk_drew ?_ | refine blk_alloc ?_ _)); refine blk_put (cs := #[.int .i64 t753, .slice none 0 0]) ?_ 1 _ rfl; (with_reducible repeat (first | refine blk_drewN ?_ _ | refine blk_drew ?_ | refine blk_alloc ?_ _)); refine blk_put (cs := #[.int .i64 0, .slice none 0 0]) ?_ 0 _ rfl; (with_reducible repeat (first | refine blk_drewN ?_ _ | refine blk_drew ?_ | refine blk_alloc ?_ _)); exact BK758.out) hb); have n10_ := Aside0.mk (below_step (by repeat (first | (with_reducible first | exact HB.out | apply below_alloc | apply pw_below_drewN | apply below_drew1 | refine below_set ?_ GE714.out | refine below_set ?_ GE725.out | refine below_set ?_ GE730.out | refine below_set ?_ GE736.out | refine below_set ?_ GE758.out) | exact HB.out)) hb); clear HO_726001; clear HO_731001; clear HO_737001; clear HO752; clear HO756; clear BK714; clear BK725; clear BK730; clear BK736; clear BK758; clear HB; have HO_726001 := n0_; have HO_731001 := n1_; have HO_737001 := n2_; have HO752 := n3_; have HO756 := n4_; have BK714 := n5_; have BK725 := n6_; have BK730 := n7_; have BK736 := n8_; have BK758 := n9_; have HB := n10_; clear n0_ n1_ n2_ n3_ n4_ n5_ n6_ n7_ n8_ n9_ n10_; (try clear hb); (try clear hb2); (try clear hk); (try clear hi)))
                          go_meet
                          case rel => exact ⟨_, ((t757 != t724)), (by first | rfl | (simp; done) | (simp [*]; done)), H', ⟨by have := HJ12.out; have := HJ61.out; first | omega | exact Nat.le_refl _⟩, ⟨by (try simp only [hl731001_61]); (with_reducible repeat (first | apply Kd.R_alloc | apply Kd.R_drewN | apply Kd.R_drew)); exact Kd.R_mono HO_726001.out (fun _ hk => ⟨hk.1.1.1, ⟨hk.1.1.2, hk.2⟩⟩)⟩, ⟨by (try simp only [hl731001_61]); (with_reducible repeat (first | apply Kd.R_alloc | apply Kd.R_drewN | apply Kd.R_drew)); exact Kd.R_mono HO_731001.out (fun _ hk => ⟨hk.1.1.1, ⟨hk.1.1.2, hk.2⟩⟩)⟩, ⟨by (try simp only [hl731001_61]); (with_reducible repeat (first | apply Kd.R_alloc | apply Kd.R_drewN | apply Kd.R_drew)); exact Kd.R_mono HO_737001.out (fun _ hk => ⟨hk.1.1.1, ⟨hk.1.1.2, hk.2⟩⟩)⟩, ⟨by (try simp only [hl731001_61]); (with_reducible repeat (first | apply Kd.R_alloc | apply Kd.R_drewN | apply Kd.R_drew)); exact Kd.R_mono HO756.out (fun _ hk => ⟨hk.1.1.1.2, ⟨hk.1.1.2, hk.1.2⟩⟩)⟩, ⟨by (try simp only [hl731001_61]); (with_reducible repeat (first | refine blk_drewN ?_ _ | refine blk_drew ?_ | refine blk_alloc ?_ _)); exact BK714.out⟩, ⟨by (try simp only [hl731001_61]); (with_reducible repeat (first | refine blk_drewN ?_ _ | refine blk_drew ?_ | refine blk_alloc ?_ _)); exact BK725.out⟩, ⟨by (try simp only [hl731001_61]); (with_reducible repeat (first | refine blk_drewN ?_ _ | refine blk_drew ?_ | refine blk_alloc ?_ _)); exact BK730.out⟩, ⟨by (try simp only [hl731001_61]); (with_reducible repeat (first | refine blk_drewN ?_ _ | refine blk_drew ?_ | refine blk_alloc ?_ _)); exact BK736.out⟩, ⟨by (try simp only [hl731001_61]); (with_reducible repeat (first | refine blk_drewN ?_ _ | refine blk_drew ?_ | refine blk_alloc ?_ _)); exact BK758.out⟩, ⟨by repeat (first | (with_reducible first | exact HB.out | apply below_alloc | apply pw_below_drewN | apply below_drew1 | refine below_set ?_ GE714.out | refine below_set ?_ GE725.out | refine below_set ?_ GE730.out | refine below_set ?_ GE736.out | refine below_set ?_ GE758.out) | exact HB.out)⟩⟩
                        · replace c127 := Bool.eq_false_iff.mpr c127
                          subst c127
                          have H1 : (laws_FnExactFaceOf.j2 kj61 t746 true t731 t747) = some r := by rw [if_neg (show ¬ (false = true) by decide)] at H; exact H
                          clear H
                          have H := H1
                          clear H1
                          have H' := Aside0.mk H
                          clear H
                          have hnb138 := NB758_714.out
                          have hnc138 := NB714_758.out
                          have hnb139 := NB758_725.out
                          have hnc139 := NB725_758.out
                          have hnb140 := NB758_730.out
                          have hnc140 := NB730_758.out
                          have hnb141 := NB758_736.out
                          have hnc141 := NB736_758.out
                          have hcz142_0 : w119.cell? ⟨gb758, 0, none⟩ = some (.int .i64 0) := (blk_cell BK758.out 0).trans rfl
                          have hcz142_1 : w119.cell? ⟨gb758, 1, none⟩ = some (.slice none 0 0) := (blk_cell BK758.out 1).trans rfl
                          have hfz142_0 := blk_frozen BK758.out 0
                          have hfz142_1 := blk_frozen BK758.out 1
                          have hnb143 := NB725_714.out
                          have hnc143 := NB714_725.out
                          have hnb144 := NB725_730.out
                          have hnc144 := NB730_725.out
                          have hnb145 := NB725_736.out
                          have hnc145 := NB736_725.out
                          have hcz146_0 : w119.cell? ⟨gb725, 0, none⟩ = some (.int .i64 t720) := (blk_cell BK725.out 0).trans rfl
                          have hcz146_1 : w119.cell? ⟨gb725, 1, none⟩ = some (.slice Ao24 t721.length co24) := (blk_cell BK725.out 1).trans rfl
                          have hfz146_0 := blk_frozen BK725.out 0
                          have hfz146_1 := blk_frozen BK725.out 1
                          go_wp2_with (first | ((with_reducible refine gate_callee (f := 19) rfl ?_); refine goesL_ (some 91) rfl rfl Try.func19 (by kernel_rfl) rfl #[.agg #[.int .i64 t753, .slice Ao125 t754.length co125], .agg #[.int .i64 t720, .slice Ao24 t721.length co24]] rfl (by (try simp only [List.map_toArray, List.map_cons, List.map_nil]); first | done | rfl | (simp only [List.length_drop, List.length_take]; rfl)) ?_; (with_reducible refine (laws_eqCube.calls kj61 t753 _ _ t754 t720 _ _ t721 false _ ?side1 ?side2 ?side3 ?side4 A126.out).mono ?_); (case side1 => refine (Kd.R_reads' (e := 2) (base := w.heap.size) (ok := fun k_ => ((((True ∧ some k_ ≠ (.slice Ao24 t721.length co24 : Value).ownBlock) ∧ some k_ ≠ (.slice Ao31 t744.length co31 : Value).ownBlock) ∧ some k_ ≠ (.slice Ao38 t732.length co38 : Value).ownBlock) ∧ some k_ ≠ (.slice Ao117 t750.length co117 : Value).ownBlock)) (n := t754.length) (c := co125) ?_).2.2; exact (by (with_reducible repeat (first | apply Kd.R_alloc | apply Kd.R_drewN | apply Kd.R_drew)); exact (Kd.R_mono (Kd.R_far (p := ⟨gb758, 1, none⟩) (Kd.R_far (p := ⟨gb758, 0, none⟩) (Kd.R_types HO756.out BK758.out (by decide)) (fun _ hk => hk.2) (.int .i64 t753)) (fun _ hk => hk.2) (.slice Ao125 t754.length co125)) (fun _ h_ => h_.1)))); (case side2 => exact (Kd.R_reads' HO756.out).2.1); (case side3 => refine (Kd.R_reads' (e := 2) (base := w.heap.size) (ok := fun k_ => (((some k_ ≠ (.slice Ao31 t744.length co31 : Value).ownBlock ∧ some k_ ≠ (.slice Ao38 t732.length co38 : Value).ownBlock) ∧ some k_ ≠ (.slice Ao117 t750.length co117 : Value).ownBlock) ∧ some k_ ≠ (.slice Ao125 t754.length co125 : Value).ownBlock)) (n := t721.length) (c := co24) ?_).2.2; exact (by (with_reducible repeat (first | apply Kd.R_alloc | apply Kd.R_drewN | apply Kd.R_drew)); exact (Kd.R_mono (Kd.R_far (p := ⟨gb758, 1, none⟩) (Kd.R_far (p := ⟨gb758, 0, none⟩) (Kd.R_types HO_726001.out BK758.out (by decide)) (fun _ hk => hk.2) (.int .i64 t753)) (fun _ hk => hk.2) (.slice Ao125 t754.length co125)) (fun _ h_ => h_.1)))); (case side4 => exact (Kd.R_reads' HO_726001.out).2.1); rintro e w147 ⟨rfl, hb⟩; refine ⟨_, rfl, ?_⟩; have n0_ := Aside0.mk (Kd.R_below (by (with_reducible repeat (first | apply Kd.R_alloc | apply Kd.R_drewN | apply Kd.R_drew)); exact (Kd.R_mono (Kd.R_far (p := ⟨gb758, 1, none⟩) (Kd.R_far (p := ⟨gb758, 0, none⟩) (Kd.R_types HO_726001.out BK758.out (by decide)) (fun _ hk => hk.2) (.int .i64 t753)) (fun _ hk => hk.2) (.slice Ao125 t754.length co125)) (fun _ h_ => h_.1))) hb); have n1_ := Aside0.mk (Kd.R_below (by (with_reducible repeat (first | apply Kd.R_alloc | apply Kd.R_drewN | apply Kd.R_drew)); exact (Kd.R_mono (Kd.R_far (p := ⟨gb758, 1, none⟩) (Kd.R_far (p := ⟨gb758, 0, none⟩) (Kd.R_types HO_731001.out BK758.out (by decide)) (fun _ hk => hk.2) (.int .i64 t753)) (fun _ hk => hk.2) (.slice Ao125 t754.length co125)) (fun _ h_ => h_.1))) hb); have n2_ := Aside0.mk (Kd.R_below (by (with_reducible repeat (first | apply Kd.R_alloc | apply Kd.R_drewN | apply Kd.R_drew)); exact (Kd.R_mono (Kd.R_far (p := ⟨gb758, 1, none⟩) (Kd.R_far (p := ⟨gb758, 0, none⟩) (Kd.R_types HO_737001.out BK758.out (by decide)) (fun _ hk => hk.2) (.int .i64 t753)) (fun _ hk => hk.2) (.slice Ao125 t754.length co125)) (fun _ h_ => h_.1))) hb); have n3_ := Aside0.mk (Kd.R_below (by (with_reducible repeat (first | apply Kd.R_alloc | apply Kd.R_drewN | apply Kd.R_drew)); exact (Kd.R_mono (Kd.R_far (p := ⟨gb758, 1, none⟩) (Kd.R_far (p := ⟨gb758, 0, none⟩) (Kd.R_types HO752.out BK758.out (by decide)) (fun _ hk => hk.2) (.int .i64 t753)) (fun _ hk => hk.2) (.slice Ao125 t754.length co125)) (fun _ h_ => h_.1))) hb); have n4_ := Aside0.mk (Kd.R_below (by (with_reducible repeat (first | apply Kd.R_alloc | apply Kd.R_drewN | apply Kd.R_drew)); exact (Kd.R_mono (Kd.R_far (p := ⟨gb758, 1, none⟩) (Kd.R_far (p := ⟨gb758, 0, none⟩) (Kd.R_types HO756.out BK758.out (by decide)) (fun _ hk => hk.2) (.int .i64 t753)) (fun _ hk => hk.2) (.slice Ao125 t754.length co125)) (fun _ h_ => h_.1))) hb); have n5_ := Aside0.mk (blk_below (g := gb714) (o := .cells #[.int .i64 a0_0, .slice A0_1 l0_1.length c0_1] 24 (0, 0)) (by (with_reducible repeat (first | refine blk_drewN ?_ _ | refine blk_drew ?_ | refine blk_alloc ?_ _)); refine blk_far ?_ NB714_758.out _; (with_reducible repeat (first | refine blk_drewN ?_ _ | refine blk_drew ?_ | refine blk_alloc ?_ _)); refine blk_far ?_ NB714_758.out _; (with_reducible repeat (first | refine blk_drewN ?_ _ | refine blk_drew ?_ | refine blk_alloc ?_ _)); exact BK714.out) hb); have n6_ := Aside0.mk (blk_below (g := gb725) (o := .cells #[.int .i64 t720, .slice Ao24 t721.length co24] 27 (0, 0)) (by (with_reducible repeat (first | refine blk_drewN ?_ _ | refine blk_drew ?_ | refine blk_alloc ?_ _)); refine blk_far ?_ NB725_758.out _; (with_reducible repeat (first | refine blk_drewN ?_ _ | refine blk_drew ?_ | refine blk_alloc ?_ _)); refine blk_far ?_ NB725_758.out _; (with_reducible repeat (first | refine blk_drewN ?_ _ | refine blk_drew ?_ | refine blk_alloc ?_ _)); exact BK725.out) hb); have n7_ := Aside0.mk (blk_below (g := gb730) (o := .cells #[.int .i64 t726, .slice Ao31 t744.length co31] 27 (0, 0)) (by (with_reducible repeat (first | refine blk_drewN ?_ _ | refine blk_drew ?_ | refine blk_alloc ?_ _)); refine blk_far ?_ NB730_758.out _; (with_reducible repeat (first | refine blk_drewN ?_ _ | refine blk_drew ?_ | refine blk_alloc ?_ _)); refine blk_far ?_ NB730_758.out _; (with_reducible repeat (first | refine blk_drewN ?_ _ | refine blk_drew ?_ | refine blk_alloc ?_ _)); exact BK730.out) hb); have n8_ := Aside0.mk (blk_below (g := gb736) (o := .cells #[.int .i64 t731, .slice Ao38 t732.length co38] 27 (0, 0)) (by (with_reducible repeat (first | refine blk_drewN ?_ _ | refine blk_drew ?_ | refine blk_alloc ?_ _)); refine blk_far ?_ NB736_758.out _; (with_reducible repeat (first | refine blk_drewN ?_ _ | refine blk_drew ?_ | refine blk_alloc ?_ _)); refine blk_far ?_ NB736_758.out _; (with_reducible repeat (first | refine blk_drewN ?_ _ | refine blk_drew ?_ | refine blk_alloc ?_ _)); exact BK736.out) hb); have n9_ := Aside0.mk (blk_below (g := gb758) (o := .cells #[.int .i64 t753, .slice Ao125 t754.length co125] 27 (0, 0)) (by (with_reducible repeat (first | refine blk_drewN ?_ _ | refine blk_drew ?_ | refine blk_alloc ?_ _)); refine blk_put (cs := #[.int .i64 t753, .slice none 0 0]) ?_ 1 _ rfl; (with_reducible repeat (first | refine blk_drewN ?_ _ | refine blk_drew ?_ | refine blk_alloc ?_ _)); refine blk_put (cs := #[.int .i64 0, .slice none 0 0]) ?_ 0 _ rfl; (with_reducible repeat (first | refine blk_drewN ?_ _ | refine blk_drew ?_ | refine blk_alloc ?_ _)); exact BK758.out) hb); have n10_ := Aside0.mk (below_step (by repeat (first | (with_reducible first | exact HB.out | apply below_alloc | apply pw_below_drewN | apply below_drew1 | refine below_set ?_ GE714.out | refine below_set ?_ GE725.out | refine below_set ?_ GE730.out | refine below_set ?_ GE736.out | refine below_set ?_ GE758.out) | exact HB.out)) hb); clear HO_726001; clear HO_731001; clear HO_737001; clear HO752; clear HO756; clear BK714; clear BK725; clear BK730; clear BK736; clear BK758; clear HB; have HO_726001 := n0_; have HO_731001 := n1_; have HO_737001 := n2_; have HO752 := n3_; have HO756 := n4_; have BK714 := n5_; have BK725 := n6_; have BK730 := n7_; have BK736 := n8_; have BK758 := n9_; have HB := n10_; clear n0_ n1_ n2_ n3_ n4_ n5_ n6_ n7_ n8_ n9_ n10_; (try clear hb); (try clear hb2); (try clear hk); (try clear hi)))
                          go_meet
                          case rel => exact ⟨_, (true), (by first | rfl | (simp; done) | (simp [*]; done)), H', ⟨by have := HJ12.out; have := HJ61.out; first | omega | exact Nat.le_refl _⟩, ⟨by (try simp only [hl731001_61]); (with_reducible repeat (first | apply Kd.R_alloc | apply Kd.R_drewN | apply Kd.R_drew)); exact Kd.R_mono HO_726001.out (fun _ hk => ⟨hk.1.1.1, ⟨hk.1.1.2, hk.2⟩⟩)⟩, ⟨by (try simp only [hl731001_61]); (with_reducible repeat (first | apply Kd.R_alloc | apply Kd.R_drewN | apply Kd.R_drew)); exact Kd.R_mono HO_731001.out (fun _ hk => ⟨hk.1.1.1, ⟨hk.1.1.2, hk.2⟩⟩)⟩, ⟨by (try simp only [hl731001_61]); (with_reducible repeat (first | apply Kd.R_alloc | apply Kd.R_drewN | apply Kd.R_drew)); exact Kd.R_mono HO_737001.out (fun _ hk => ⟨hk.1.1.1, ⟨hk.1.1.2, hk.2⟩⟩)⟩, ⟨by (try simp only [hl731001_61]); (with_reducible repeat (first | apply Kd.R_alloc | apply Kd.R_drewN | apply Kd.R_drew)); exact Kd.R_mono HO756.out (fun _ hk => ⟨hk.1.1.1.2, ⟨hk.1.1.2, hk.1.2⟩⟩)⟩, ⟨by (try simp only [hl731001_61]); (with_reducible repeat (first | refine blk_drewN ?_ _ | refine blk_drew ?_ | refine blk_alloc ?_ _)); exact BK714.out⟩, ⟨by (try simp only [hl731001_61]); (with_reducible repeat (first | refine blk_drewN ?_ _ | refine blk_drew ?_ | refine blk_alloc ?_ _)); exact BK725.out⟩, ⟨by (try simp only [hl731001_61]); (with_reducible repeat (first | refine blk_drewN ?_ _ | refine blk_drew ?_ | refine blk_alloc ?_ _)); exact BK730.out⟩, ⟨by (try simp only [hl731001_61]); (with_reducible repeat (first | refine blk_drewN ?_ _ | refine blk_drew ?_ | refine blk_alloc ?_ _)); exact BK736.out⟩, ⟨by (try simp only [hl731001_61]); (with_reducible repeat (first | refine blk_drewN ?_ _ | refine blk_drew ?_ | refine blk_alloc ?_ _)); exact BK758.out⟩, ⟨by repeat (first | (with_reducible first | exact HB.out | apply below_alloc | apply pw_below_drewN | apply below_drew1 | refine below_set ?_ GE714.out | refine below_set ?_ GE725.out | refine below_set ?_ GE730.out | refine below_set ?_ GE736.out | refine below_set ?_ GE758.out) | exact HB.out)⟩⟩
                      case rest =>
                        clear HC105
                        try clear c1
                        try clear c2
                        try clear p2
                        try clear c3
                        try clear c4
                        try clear c5
                        try clear c5b0
                        try clear c6
                        try clear c7
                        try clear c8
                        try clear c9
                        try clear c10
                        try clear c11
                        try clear c12
                        try clear c13
                        try clear c14
                        try clear c15
                        try clear c17
                        try clear c19
                        try clear c22
                        try clear c27
                        try clear c28
                        try clear c29
                        try clear c34
                        try clear c35
                        try clear c36
                        try clear c37
                        try clear c40
                        try clear c41
                        try clear c42
                        try clear c43
                        try clear c45
                        try clear c46
                        try clear c49
                        try clear c50
                        try clear c51
                        try clear c53
                        try clear c54
                        try clear c57
                        try clear c60
                        try clear c67
                        try clear c68
                        try clear c69
                        try clear c72
                        try clear c72b0
                        try clear c74
                        try clear c75
                        try clear c76
                        try clear c77
                        try clear c79
                        try clear c80
                        try clear c83
                        try clear c84
                        try clear c85
                        try clear c87
                        try clear c88
                        try clear c91
                        try clear c94
                        try clear c94b0
                        try clear c95
                        try clear c96
                        try clear c97
                        try clear c102
                        try clear c102b0
                        try clear c102b1
                        try clear c106
                        try clear c107
                        try clear c108
                        try clear c113
                        try clear c114
                        try clear c120
                        try clear c121
                        try clear c122
                        try clear c123
                        try clear c127
                        try clear c128
                        try clear c129
                        try clear c130
                        try clear c131
                        try clear c133
                        try clear c134
                        try clear c135
                        try clear c138
                        try clear c139
                        try clear c140
                        try clear c141
                        try clear c143
                        try clear c144
                        try clear c145
                        try clear hcz100_0
                        try clear hcz100_1
                        try clear hcz109_0
                        try clear hcz109_1
                        try clear hcz111_0
                        try clear hcz111_1
                        try clear hcz115_0
                        try clear hcz115_1
                        try clear hcz124_0
                        try clear hcz124_1
                        try clear hcz132_0
                        try clear hcz132_1
                        try clear hcz136_0
                        try clear hcz136_1
                        try clear hcz142_0
                        try clear hcz142_1
                        try clear hcz146_0
                        try clear hcz146_1
                        try clear hcz15_0
                        try clear hcz15_1
                        try clear hcz17_0
                        try clear hcz17_1
                        try clear hcz23_0
                        try clear hcz23_1
                        try clear hcz25_0
                        try clear hcz25_1
                        try clear hcz30_0
                        try clear hcz30_1
                        try clear hcz37_0
                        try clear hcz37_1
                        try clear hcz44_0
                        try clear hcz44_1
                        try clear hcz47_0
                        try clear hcz47_1
                        try clear hcz52_0
                        try clear hcz52_1
                        try clear hcz55_0
                        try clear hcz55_1
                        try clear hcz70_0
                        try clear hcz70_1
                        try clear hcz78_0
                        try clear hcz78_1
                        try clear hcz7_0
                        try clear hcz7_1
                        try clear hcz81_0
                        try clear hcz81_1
                        try clear hcz86_0
                        try clear hcz86_1
                        try clear hcz89_0
                        try clear hcz89_1
                        try clear hcz98_0
                        try clear hcz98_1
                        try clear hfz100_0
                        try clear hfz100_1
                        try clear hfz109_0
                        try clear hfz109_1
                        try clear hfz111_0
                        try clear hfz111_1
                        try clear hfz115_0
                        try clear hfz115_1
                        try clear hfz124_0
                        try clear hfz124_1
                        try clear hfz132_0
                        try clear hfz132_1
                        try clear hfz136_0
                        try clear hfz136_1
                        try clear hfz142_0
                        try clear hfz142_1
                        try clear hfz146_0
                        try clear hfz146_1
                        try clear hfz15_0
                        try clear hfz15_1
                        try clear hfz17_0
                        try clear hfz17_1
                        try clear hfz23_0
                        try clear hfz23_1
                        try clear hfz25_0
                        try clear hfz25_1
                        try clear hfz30_0
                        try clear hfz30_1
                        try clear hfz37_0
                        try clear hfz37_1
                        try clear hfz44_0
                        try clear hfz44_1
                        try clear hfz47_0
                        try clear hfz47_1
                        try clear hfz52_0
                        try clear hfz52_1
                        try clear hfz55_0
                        try clear hfz55_1
                        try clear hfz70_0
                        try clear hfz70_1
                        try clear hfz78_0
                        try clear hfz78_1
                        try clear hfz7_0
                        try clear hfz7_1
                        try clear hfz81_0
                        try clear hfz81_1
                        try clear hfz86_0
                        try clear hfz86_1
                        try clear hfz89_0
                        try clear hfz89_1
                        try clear hfz98_0
                        try clear hfz98_1
                        try clear p2
                        obtain ⟨kq, x97_104, rfl, HA, HJ104, HO_726001, HO_731001, HO_737001, HO_759001, BK714, BK725, BK730, BK736, BK758, HB⟩ := hcut
                        have hl737001_104 := (Kd.R_reads' HO_737001.out).1
                        rw [hl737001_104] at HO_737001
                        (try simp only [hl737001_104])
                        (try simp only [hl737001_104] at BK714)
                        (try simp only [hl737001_104] at BK725)
                        (try simp only [hl737001_104] at BK730)
                        (try simp only [hl737001_104] at BK736)
                        (try simp only [hl737001_104] at BK758)
                        (try simp only [hl737001_104] at HO_726001)
                        (try simp only [hl737001_104] at HO_731001)
                        (try simp only [hl737001_104] at HO_759001)
                        cases kq with
                        | zero => exact absurd HA.out (by simp [laws_FnExactFaceOf.j2])
                        | succ kj104 =>
                          have H := HA.out
                          clear HA
                          simp only [laws_FnExactFaceOf.j2] at H
                          by_cases c148 : x97_104 = true
                          · subst c148
                            have H1 : (some false) = some r := by rw [if_pos rfl] at H; exact H
                            clear H
                            have H := H1
                            clear H1
                            obtain rfl := Option.some.inj H
                            go_wp2
                            go_ret
                            exact ⟨by first | rfl | (simp [errW_none, errW_some] <;> rfl) | (simp [*, errW_none, errW_some] <;> rfl), by repeat (first | (with_reducible first | exact HB.out | apply below_alloc | apply pw_below_drewN | apply below_drew1 | refine below_set ?_ GE714.out | refine below_set ?_ GE725.out | refine below_set ?_ GE730.out | refine below_set ?_ GE736.out | refine below_set ?_ GE758.out) | exact HB.out)⟩
                          · replace c148 := Bool.eq_false_iff.mpr c148
                            subst c148
                            have H1 : ((laws_heldCube.f kj104 t731 t747 1).bind fun t760 => (if t760 < 0 then (some false) else (if t760 = t746 then (some true) else (some false)))) = some r := by rw [if_neg (show ¬ (false = true) by decide)] at H; exact H
                            clear H
                            have H := H1
                            clear H1
                            replace H := Option.bind_eq_some_iff.mp H
                            obtain ⟨t760, A1490, H⟩ := H
                            replace H : (if t760 < 0 then (some false) else (if t760 = t746 then (some true) else (some false))) = some r := H
                            have A149 := Aside0.mk A1490
                            clear A1490
                            by_cases c150 : t760 < 0
                            · rw [if_pos c150] at H
                              have c150b0 : decide (t760 < 0) = true := decide_eq_true c150
                              clear c150
                              obtain rfl := Option.some.inj H
                              have hnb151 := NB736_714.out
                              have hnc151 := NB714_736.out
                              have hnb152 := NB736_725.out
                              have hnc152 := NB725_736.out
                              have hnb153 := NB736_730.out
                              have hnc153 := NB730_736.out
                              have hnb154 := NB736_758.out
                              have hnc154 := NB758_736.out
                              have hcz155_0 : wc.cell? ⟨gb736, 0, none⟩ = some (.int .i64 t731) := (blk_cell BK736.out 0).trans rfl
                              have hcz155_1 : wc.cell? ⟨gb736, 1, none⟩ = some (.slice Ao38 t747.length co38) := (blk_cell BK736.out 1).trans rfl
                              have hfz155_0 := blk_frozen BK736.out 0
                              have hfz155_1 := blk_frozen BK736.out 1
                              go_wp2_with (first | ((with_reducible refine gate_callee (f := 37) rfl ?_); refine goesL_ (some 100) rfl rfl Try.func37 (by kernel_rfl) rfl #[.agg #[.int .i64 t731, .slice Ao38 t747.length co38], .int .i64 1] rfl (by (try simp only [List.map_toArray, List.map_cons, List.map_nil]); first | done | rfl | (simp only [List.length_drop, List.length_take]; rfl)) ?_; (with_reducible refine (laws_heldCube.calls kj104 t731 _ _ t747 1 t760 _ ?side1 ?side2 A149.out).mono ?_); (case side1 => repeat (first | exact (Kd.R_reads' HO_737001.out).2.2 | (with_reducible refine Kd.C_alloc ?_ _) | (with_reducible refine Kd.C_drewN ?_ _) | (with_reducible refine Kd.C_drew ?_))); (case side2 => exact (Kd.R_reads' HO_737001.out).2.1); rintro e w156 ⟨rfl, hb⟩; refine ⟨_, rfl, ?_⟩; have n0_ := Aside0.mk (Kd.R_below (by (with_reducible repeat (first | apply Kd.R_alloc | apply Kd.R_drewN | apply Kd.R_drew)); exact HO_726001.out) hb); have n1_ := Aside0.mk (Kd.R_below (by (with_reducible repeat (first | apply Kd.R_alloc | apply Kd.R_drewN | apply Kd.R_drew)); exact HO_731001.out) hb); have n2_ := Aside0.mk (Kd.R_below (by (with_reducible repeat (first | apply Kd.R_alloc | apply Kd.R_drewN | apply Kd.R_drew)); exact HO_737001.out) hb); have n3_ := Aside0.mk (Kd.R_below (by (with_reducible repeat (first | apply Kd.R_alloc | apply Kd.R_drewN | apply Kd.R_drew)); exact HO_759001.out) hb); have n4_ := Aside0.mk (blk_below (g := gb714) (o := .cells #[.int .i64 a0_0, .slice A0_1 l0_1.length c0_1] 24 (0, 0)) (by (with_reducible repeat (first | refine blk_drewN ?_ _ | refine blk_drew ?_ | refine blk_alloc ?_ _)); exact BK714.out) hb); have n5_ := Aside0.mk (blk_below (g := gb725) (o := .cells #[.int .i64 t720, .slice Ao24 t721.length co24] 27 (0, 0)) (by (with_reducible repeat (first | refine blk_drewN ?_ _ | refine blk_drew ?_ | refine blk_alloc ?_ _)); exact BK725.out) hb); have n6_ := Aside0.mk (blk_below (g := gb730) (o := .cells #[.int .i64 t726, .slice Ao31 t744.length co31] 27 (0, 0)) (by (with_reducible repeat (first | refine blk_drewN ?_ _ | refine blk_drew ?_ | refine blk_alloc ?_ _)); exact BK730.out) hb); have n7_ := Aside0.mk (blk_below (g := gb736) (o := .cells #[.int .i64 t731, .slice Ao38 t747.length co38] 27 (0, 0)) (by (with_reducible repeat (first | refine blk_drewN ?_ _ | refine blk_drew ?_ | refine blk_alloc ?_ _)); exact BK736.out) hb); have n8_ := Aside0.mk (blk_below (g := gb758) (o := .cells #[.int .i64 t753, .slice Ao125 t754.length co125] 27 (0, 0)) (by (with_reducible repeat (first | refine blk_drewN ?_ _ | refine blk_drew ?_ | refine blk_alloc ?_ _)); exact BK758.out) hb); have n9_ := Aside0.mk (below_step (by repeat (first | (with_reducible first | exact HB.out | apply below_alloc | apply pw_below_drewN | apply below_drew1 | refine below_set ?_ GE714.out | refine below_set ?_ GE725.out | refine below_set ?_ GE730.out | refine below_set ?_ GE736.out | refine below_set ?_ GE758.out) | exact HB.out)) hb); clear HO_726001; clear HO_731001; clear HO_737001; clear HO_759001; clear BK714; clear BK725; clear BK730; clear BK736; clear BK758; clear HB; have HO_726001 := n0_; have HO_731001 := n1_; have HO_737001 := n2_; have HO_759001 := n3_; have BK714 := n4_; have BK725 := n5_; have BK730 := n6_; have BK736 := n7_; have BK758 := n8_; have HB := n9_; clear n0_ n1_ n2_ n3_ n4_ n5_ n6_ n7_ n8_ n9_; (try clear hb); (try clear hb2); (try clear hk); (try clear hi)))
                              go_ret
                              exact ⟨by first | rfl | (simp [errW_none, errW_some] <;> rfl) | (simp [*, errW_none, errW_some] <;> rfl), by repeat (first | (with_reducible first | exact HB.out | apply below_alloc | apply pw_below_drewN | apply below_drew1 | refine below_set ?_ GE714.out | refine below_set ?_ GE725.out | refine below_set ?_ GE730.out | refine below_set ?_ GE736.out | refine below_set ?_ GE758.out) | exact HB.out)⟩
                            · rw [if_neg c150] at H
                              have c150b0 : decide (t760 < 0) = false := decide_eq_false c150
                              clear c150
                              by_cases c157 : t760 = t746
                              · rw [if_pos c157] at H
                                have c157b0 : (t760 == t746) = true := beq_iff_eq.mpr c157
                                have c157b1 : (t760 != t746) = false := bne_eq_false_iff_eq.mpr c157
                                clear c157
                                obtain rfl := Option.some.inj H
                                have hnb158 := NB736_714.out
                                have hnc158 := NB714_736.out
                                have hnb159 := NB736_725.out
                                have hnc159 := NB725_736.out
                                have hnb160 := NB736_730.out
                                have hnc160 := NB730_736.out
                                have hnb161 := NB736_758.out
                                have hnc161 := NB758_736.out
                                have hcz162_0 : wc.cell? ⟨gb736, 0, none⟩ = some (.int .i64 t731) := (blk_cell BK736.out 0).trans rfl
                                have hcz162_1 : wc.cell? ⟨gb736, 1, none⟩ = some (.slice Ao38 t747.length co38) := (blk_cell BK736.out 1).trans rfl
                                have hfz162_0 := blk_frozen BK736.out 0
                                have hfz162_1 := blk_frozen BK736.out 1
                                go_wp2_with (first | ((with_reducible refine gate_callee (f := 37) rfl ?_); refine goesL_ (some 100) rfl rfl Try.func37 (by kernel_rfl) rfl #[.agg #[.int .i64 t731, .slice Ao38 t747.length co38], .int .i64 1] rfl (by (try simp only [List.map_toArray, List.map_cons, List.map_nil]); first | done | rfl | (simp only [List.length_drop, List.length_take]; rfl)) ?_; (with_reducible refine (laws_heldCube.calls kj104 t731 _ _ t747 1 t760 _ ?side1 ?side2 A149.out).mono ?_); (case side1 => repeat (first | exact (Kd.R_reads' HO_737001.out).2.2 | (with_reducible refine Kd.C_alloc ?_ _) | (with_reducible refine Kd.C_drewN ?_ _) | (with_reducible refine Kd.C_drew ?_))); (case side2 => exact (Kd.R_reads' HO_737001.out).2.1); rintro e w163 ⟨rfl, hb⟩; refine ⟨_, rfl, ?_⟩; have n0_ := Aside0.mk (Kd.R_below (by (with_reducible repeat (first | apply Kd.R_alloc | apply Kd.R_drewN | apply Kd.R_drew)); exact HO_726001.out) hb); have n1_ := Aside0.mk (Kd.R_below (by (with_reducible repeat (first | apply Kd.R_alloc | apply Kd.R_drewN | apply Kd.R_drew)); exact HO_731001.out) hb); have n2_ := Aside0.mk (Kd.R_below (by (with_reducible repeat (first | apply Kd.R_alloc | apply Kd.R_drewN | apply Kd.R_drew)); exact HO_737001.out) hb); have n3_ := Aside0.mk (Kd.R_below (by (with_reducible repeat (first | apply Kd.R_alloc | apply Kd.R_drewN | apply Kd.R_drew)); exact HO_759001.out) hb); have n4_ := Aside0.mk (blk_below (g := gb714) (o := .cells #[.int .i64 a0_0, .slice A0_1 l0_1.length c0_1] 24 (0, 0)) (by (with_reducible repeat (first | refine blk_drewN ?_ _ | refine blk_drew ?_ | refine blk_alloc ?_ _)); exact BK714.out) hb); have n5_ := Aside0.mk (blk_below (g := gb725) (o := .cells #[.int .i64 t720, .slice Ao24 t721.length co24] 27 (0, 0)) (by (with_reducible repeat (first | refine blk_drewN ?_ _ | refine blk_drew ?_ | refine blk_alloc ?_ _)); exact BK725.out) hb); have n6_ := Aside0.mk (blk_below (g := gb730) (o := .cells #[.int .i64 t726, .slice Ao31 t744.length co31] 27 (0, 0)) (by (with_reducible repeat (first | refine blk_drewN ?_ _ | refine blk_drew ?_ | refine blk_alloc ?_ _)); exact BK730.out) hb); have n7_ := Aside0.mk (blk_below (g := gb736) (o := .cells #[.int .i64 t731, .slice Ao38 t747.length co38] 27 (0, 0)) (by (with_reducible repeat (first | refine blk_drewN ?_ _ | refine blk_drew ?_ | refine blk_alloc ?_ _)); exact BK736.out) hb); have n8_ := Aside0.mk (blk_below (g := gb758) (o := .cells #[.int .i64 t753, .slice Ao125 t754.length co125] 27 (0, 0)) (by (with_reducible repeat (first | refine blk_drewN ?_ _ | refine blk_drew ?_ | refine blk_alloc ?_ _)); exact BK758.out) hb); have n9_ := Aside0.mk (below_step (by repeat (first | (with_reducible first | exact HB.out | apply below_alloc | apply pw_below_drewN | apply below_drew1 | refine below_set ?_ GE714.out | refine below_set ?_ GE725.out | refine below_set ?_ GE730.out | refine below_set ?_ GE736.out | refine below_set ?_ GE758.out) | exact HB.out)) hb); clear HO_726001; clear HO_731001; clear HO_737001; clear HO_759001; clear BK714; clear BK725; clear BK730; clear BK736; clear BK758; clear HB; have HO_726001 := n0_; have HO_731001 := n1_; have HO_737001 := n2_; have HO_759001 := n3_; have BK714 := n4_; have BK725 := n5_; have BK730 := n6_; have BK736 := n7_; have BK758 := n8_; have HB := n9_; clear n0_ n1_ n2_ n3_ n4_ n5_ n6_ n7_ n8_ n9_; (try clear hb); (try clear hb2); (try clear hk); (try clear hi)))
                                go_ret
                                exact ⟨by first | rfl | (simp [errW_none, errW_some] <;> rfl) | (simp [*, errW_none, errW_some] <;> rfl), by repeat (first | (with_reducible first | exact HB.out | apply below_alloc | apply pw_below_drewN | apply below_drew1 | refine below_set ?_ GE714.out | refine below_set ?_ GE725.out | refine below_set ?_ GE730.out | refine below_set ?_ GE736.out | refine below_set ?_ GE758.out) | exact HB.out)⟩
                              · rw [if_neg c157] at H
                                have c157b0 : (t760 == t746) = false := beq_eq_false_iff_ne.mpr c157
                                have c157b1 : (t760 != t746) = true := bne_iff_ne.mpr c157
                                obtain rfl := Option.some.inj H
                                have hnb164 := NB736_714.out
                                have hnc164 := NB714_736.out
                                have hnb165 := NB736_725.out
                                have hnc165 := NB725_736.out
                                have hnb166 := NB736_730.out
                                have hnc166 := NB730_736.out
                                have hnb167 := NB736_758.out
                                have hnc167 := NB758_736.out
                                have hcz168_0 : wc.cell? ⟨gb736, 0, none⟩ = some (.int .i64 t731) := (blk_cell BK736.out 0).trans rfl
                                have hcz168_1 : wc.cell? ⟨gb736, 1, none⟩ = some (.slice Ao38 t747.length co38) := (blk_cell BK736.out 1).trans rfl
                                have hfz168_0 := blk_frozen BK736.out 0
                                have hfz168_1 := blk_frozen BK736.out 1
                                go_wp2_with (first | ((with_reducible refine gate_callee (f := 37) rfl ?_); refine goesL_ (some 100) rfl rfl Try.func37 (by kernel_rfl) rfl #[.agg #[.int .i64 t731, .slice Ao38 t747.length co38], .int .i64 1] rfl (by (try simp only [List.map_toArray, List.map_cons, List.map_nil]); first | done | rfl | (simp only [List.length_drop, List.length_take]; rfl)) ?_; (with_reducible refine (laws_heldCube.calls kj104 t731 _ _ t747 1 t760 _ ?side1 ?side2 A149.out).mono ?_); (case side1 => repeat (first | exact (Kd.R_reads' HO_737001.out).2.2 | (with_reducible refine Kd.C_alloc ?_ _) | (with_reducible refine Kd.C_drewN ?_ _) | (with_reducible refine Kd.C_drew ?_))); (case side2 => exact (Kd.R_reads' HO_737001.out).2.1); rintro e w169 ⟨rfl, hb⟩; refine ⟨_, rfl, ?_⟩; have n0_ := Aside0.mk (Kd.R_below (by (with_reducible repeat (first | apply Kd.R_alloc | apply Kd.R_drewN | apply Kd.R_drew)); exact HO_726001.out) hb); have n1_ := Aside0.mk (Kd.R_below (by (with_reducible repeat (first | apply Kd.R_alloc | apply Kd.R_drewN | apply Kd.R_drew)); exact HO_731001.out) hb); have n2_ := Aside0.mk (Kd.R_below (by (with_reducible repeat (first | apply Kd.R_alloc | apply Kd.R_drewN | apply Kd.R_drew)); exact HO_737001.out) hb); have n3_ := Aside0.mk (Kd.R_below (by (with_reducible repeat (first | apply Kd.R_alloc | apply Kd.R_drewN | apply Kd.R_drew)); exact HO_759001.out) hb); have n4_ := Aside0.mk (blk_below (g := gb714) (o := .cells #[.int .i64 a0_0, .slice A0_1 l0_1.length c0_1] 24 (0, 0)) (by (with_reducible repeat (first | refine blk_drewN ?_ _ | refine blk_drew ?_ | refine blk_alloc ?_ _)); exact BK714.out) hb); have n5_ := Aside0.mk (blk_below (g := gb725) (o := .cells #[.int .i64 t720, .slice Ao24 t721.length co24] 27 (0, 0)) (by (with_reducible repeat (first | refine blk_drewN ?_ _ | refine blk_drew ?_ | refine blk_alloc ?_ _)); exact BK725.out) hb); have n6_ := Aside0.mk (blk_below (g := gb730) (o := .cells #[.int .i64 t726, .slice Ao31 t744.length co31] 27 (0, 0)) (by (with_reducible repeat (first | refine blk_drewN ?_ _ | refine blk_drew ?_ | refine blk_alloc ?_ _)); exact BK730.out) hb); have n7_ := Aside0.mk (blk_below (g := gb736) (o := .cells #[.int .i64 t731, .slice Ao38 t747.length co38] 27 (0, 0)) (by (with_reducible repeat (first | refine blk_drewN ?_ _ | refine blk_drew ?_ | refine blk_alloc ?_ _)); exact BK736.out) hb); have n8_ := Aside0.mk (blk_below (g := gb758) (o := .cells #[.int .i64 t753, .slice Ao125 t754.length co125] 27 (0, 0)) (by (with_reducible repeat (first | refine blk_drewN ?_ _ | refine blk_drew ?_ | refine blk_alloc ?_ _)); exact BK758.out) hb); have n9_ := Aside0.mk (below_step (by repeat (first | (with_reducible first | exact HB.out | apply below_alloc | apply pw_below_drewN | apply below_drew1 | refine below_set ?_ GE714.out | refine below_set ?_ GE725.out | refine below_set ?_ GE730.out | refine below_set ?_ GE736.out | refine below_set ?_ GE758.out) | exact HB.out)) hb); clear HO_726001; clear HO_731001; clear HO_737001; clear HO_759001; clear BK714; clear BK725; clear BK730; clear BK736; clear BK758; clear HB; have HO_726001 := n0_; have HO_731001 := n1_; have HO_737001 := n2_; have HO_759001 := n3_; have BK714 := n4_; have BK725 := n5_; have BK730 := n6_; have BK736 := n7_; have BK758 := n8_; have HB := n9_; clear n0_ n1_ n2_ n3_ n4_ n5_ n6_ n7_ n8_ n9_; (try clear hb); (try clear hb2); (try clear hk); (try clear hi)))
                                go_ret
                                exact ⟨by first | rfl | (simp [errW_none, errW_some] <;> rfl) | (simp [*, errW_none, errW_some] <;> rfl), by repeat (first | (with_reducible first | exact HB.out | apply below_alloc | apply pw_below_drewN | apply below_drew1 | refine below_set ?_ GE714.out | refine below_set ?_ GE725.out | refine below_set ?_ GE730.out | refine below_set ?_ GE736.out | refine below_set ?_ GE758.out) | exact HB.out)⟩
                    · rw [if_neg c102] at H
                      have c102b0 : (t748 == t746) = false := beq_eq_false_iff_ne.mpr c102
                      have c102b1 : (t748 != t746) = true := bne_iff_ne.mpr c102
                      obtain rfl := Option.some.inj H
                      have hnb170 := NB736_714.out
                      have hnc170 := NB714_736.out
                      have hnb171 := NB736_725.out
                      have hnc171 := NB725_736.out
                      have hnb172 := NB736_730.out
                      have hnc172 := NB730_736.out
                      have hcz173_0 : wc.cell? ⟨gb736, 0, none⟩ = some (.int .i64 t731) := (blk_cell BK736.out 0).trans rfl
                      have hcz173_1 : wc.cell? ⟨gb736, 1, none⟩ = some (.slice Ao38 t732.length co38) := (blk_cell BK736.out 1).trans rfl
                      have hfz173_0 := blk_frozen BK736.out 0
                      have hfz173_1 := blk_frozen BK736.out 1
                      go_wp2_with (first | ((with_reducible refine gate_callee (f := 27) rfl ?_); refine goesL_ (some 72) rfl rfl Try.func27 (by kernel_rfl) rfl #[.agg #[.int .i64 t731, .slice Ao38 t732.length co38], .int .i64 1] rfl (by (try simp only [List.map_toArray, List.map_cons, List.map_nil]); first | done | rfl | (simp only [List.length_drop, List.length_take]; rfl)) ?_; (with_reducible refine (laws_markCube.calls kj61 t731 (fun k_ => some k_ = (.slice Ao38 t732.length co38 : Value).ownBlock) (.slice Ao38 t732.length co38) t732 1 t746 t747 w _ ?side1 ?side2 A92.out).mono ?_); (case side1 => repeat (first | (with_reducible first | exact HB.out | apply below_alloc | apply pw_below_drewN | apply below_drew1 | refine below_set ?_ GE714.out | refine below_set ?_ GE725.out | refine below_set ?_ GE730.out | refine below_set ?_ GE736.out) | exact HB.out)); (case side2 => exact Kd.R_tight rfl HO_737001.out); rintro e w174 ⟨rfl, hy0, hb, hkp⟩; refine ⟨_, rfl, ?_⟩; have n0_ := Aside0.mk (Kd.R_mono (ok' := fun k_ => some k_ ≠ (.slice Ao31 t744.length co31 : Value).ownBlock ∧ some k_ ≠ (.slice Ao38 t732.length co38 : Value).ownBlock) (Kd.R_keptB (HO_726001.out) hkp (fun k_ hk_ hs_ => (hk_.2) hs_)) (fun k_ hk_ => ⟨hk_.1.1, hk_.1.2⟩)); have n1_ := Aside0.mk (Kd.R_mono (ok' := fun k_ => some k_ ≠ (.slice Ao24 t721.length co24 : Value).ownBlock ∧ some k_ ≠ (.slice Ao38 t732.length co38 : Value).ownBlock) (Kd.R_keptB (HO_731001.out) hkp (fun k_ hk_ hs_ => (hk_.2) hs_)) (fun k_ hk_ => ⟨hk_.1.1, hk_.1.2⟩)); have n2_ := Aside0.mk (Kd.R_reok rfl hy0 (fun k_ e_ => HO_737001.out.1 k_ e_)); have n3_ := Aside0.mk (blk_kept (by (with_reducible repeat (first | refine blk_drewN ?_ _ | refine blk_drew ?_ | refine blk_alloc ?_ _)); exact BK714.out) hkp (fun hs_ => (fun e_ => (Kd.R_ne HO_737001.out BK714.out (by decide)) e_) hs_)); have n4_ := Aside0.mk (blk_kept (by (with_reducible repeat (first | refine blk_drewN ?_ _ | refine blk_drew ?_ | refine blk_alloc ?_ _)); exact BK725.out) hkp (fun hs_ => (fun e_ => (Kd.R_ne HO_737001.out BK725.out (by decide)) e_) hs_)); have n5_ := Aside0.mk (blk_kept (by (with_reducible repeat (first | refine blk_drewN ?_ _ | refine blk_drew ?_ | refine blk_alloc ?_ _)); exact BK730.out) hkp (fun hs_ => (fun e_ => (Kd.R_ne HO_737001.out BK730.out (by decide)) e_) hs_)); have n6_ := Aside0.mk (blk_kept (by (with_reducible repeat (first | refine blk_drewN ?_ _ | refine blk_drew ?_ | refine blk_alloc ?_ _)); exact BK736.out) hkp (fun hs_ => (fun e_ => (Kd.R_ne HO_737001.out BK736.out (by decide)) e_) hs_)); have n7_ := Aside0.mk (hb); clear HO_726001; clear HO_731001; clear HO_737001; clear BK714; clear BK725; clear BK730; clear BK736; clear HB; have HO_726001 := n0_; have HO_731001 := n1_; have HO_737001 := n2_; have BK714 := n3_; have BK725 := n4_; have BK730 := n5_; have BK736 := n6_; have HB := n7_; clear n0_ n1_ n2_ n3_ n4_ n5_ n6_ n7_; (try clear hb); (try clear hkp); (try clear hy0); have hcz175_0 : w174.cell? ⟨gb736, 0, none⟩ = some (.int .i64 t731) := (blk_cell BK736.out 0).trans rfl; have hcz175_1 : w174.cell? ⟨gb736, 1, none⟩ = some (.slice Ao38 t732.length co38) := (blk_cell BK736.out 1).trans rfl; have hfz175_0 := blk_frozen BK736.out 0; have hfz175_1 := blk_frozen BK736.out 1) | ((with_reducible refine gate_callee (f := 37) rfl ?_); refine goesL_ (some 75) rfl rfl Try.func37 (by kernel_rfl) rfl #[.agg #[.int .i64 t731, .slice Ao38 t747.length co38], .int .i64 1] rfl (by (try simp only [List.map_toArray, List.map_cons, List.map_nil]); first | done | (rw [show t747.length = t732.length from (Kd.R_reads' HO_737001.out).1.symm] <;> rfl) | rfl | (simp only [List.length_drop, List.length_take]; rfl)) ?_; (with_reducible refine (laws_heldCube.calls kj61 t731 _ _ t747 1 t748 _ ?side1 ?side2 A93.out).mono ?_); (case side1 => repeat (first | exact (Kd.R_reads' HO_737001.out).2.2 | (with_reducible refine Kd.C_alloc ?_ _) | (with_reducible refine Kd.C_drewN ?_ _) | (with_reducible refine Kd.C_drew ?_))); (case side2 => rw [show t747.length = t732.length from (Kd.R_reads' HO_737001.out).1.symm]; exact (Kd.R_reads' HO_737001.out).2.1); rintro e w176 ⟨rfl, hb⟩; refine ⟨_, rfl, ?_⟩; have n0_ := Aside0.mk (Kd.R_below (by (with_reducible repeat (first | apply Kd.R_alloc | apply Kd.R_drewN | apply Kd.R_drew)); exact HO_726001.out) hb); have n1_ := Aside0.mk (Kd.R_below (by (with_reducible repeat (first | apply Kd.R_alloc | apply Kd.R_drewN | apply Kd.R_drew)); exact HO_731001.out) hb); have n2_ := Aside0.mk (Kd.R_below (by (with_reducible repeat (first | apply Kd.R_alloc | apply Kd.R_drewN | apply Kd.R_drew)); exact HO_737001.out) hb); have n3_ := Aside0.mk (blk_below (g := gb714) (o := .cells #[.int .i64 a0_0, .slice A0_1 l0_1.length c0_1] 24 (0, 0)) (by (with_reducible repeat (first | refine blk_drewN ?_ _ | refine blk_drew ?_ | refine blk_alloc ?_ _)); exact BK714.out) hb); have n4_ := Aside0.mk (blk_below (g := gb725) (o := .cells #[.int .i64 t720, .slice Ao24 t721.length co24] 27 (0, 0)) (by (with_reducible repeat (first | refine blk_drewN ?_ _ | refine blk_drew ?_ | refine blk_alloc ?_ _)); exact BK725.out) hb); have n5_ := Aside0.mk (blk_below (g := gb730) (o := .cells #[.int .i64 t726, .slice Ao31 t744.length co31] 27 (0, 0)) (by (with_reducible repeat (first | refine blk_drewN ?_ _ | refine blk_drew ?_ | refine blk_alloc ?_ _)); exact BK730.out) hb); have n6_ := Aside0.mk (blk_below (g := gb736) (o := .cells #[.int .i64 t731, .slice Ao38 t732.length co38] 27 (0, 0)) (by (with_reducible repeat (first | refine blk_drewN ?_ _ | refine blk_drew ?_ | refine blk_alloc ?_ _)); exact BK736.out) hb); have n7_ := Aside0.mk (below_step (by repeat (first | (with_reducible first | exact HB.out | apply below_alloc | apply pw_below_drewN | apply below_drew1 | refine below_set ?_ GE714.out | refine below_set ?_ GE725.out | refine below_set ?_ GE730.out | refine below_set ?_ GE736.out) | exact HB.out)) hb); clear HO_726001; clear HO_731001; clear HO_737001; clear BK714; clear BK725; clear BK730; clear BK736; clear HB; have HO_726001 := n0_; have HO_731001 := n1_; have HO_737001 := n2_; have BK714 := n3_; have BK725 := n4_; have BK730 := n5_; have BK736 := n6_; have HB := n7_; clear n0_ n1_ n2_ n3_ n4_ n5_ n6_ n7_; (try clear hb); (try clear hb2); (try clear hk); (try clear hi)))
                      go_ret
                      exact ⟨by first | rfl | (simp [errW_none, errW_some] <;> rfl) | (simp [*, errW_none, errW_some] <;> rfl), by repeat (first | (with_reducible first | exact HB.out | apply below_alloc | apply pw_below_drewN | apply below_drew1 | refine below_set ?_ GE714.out | refine below_set ?_ GE725.out | refine below_set ?_ GE730.out | refine below_set ?_ GE736.out) | exact HB.out)⟩
          · replace c60 := Bool.eq_false_iff.mpr c60
            subst c60
            have H1 : (some false) = some r := by rw [if_neg (show ¬ (false = true) by decide)] at H; exact H
            clear H
            have H := H1
            clear H1
            obtain rfl := Option.some.inj H
            try go_wp2
            have n0_ := Aside0.mk (Kd.R_drew HO_726001.out)
            have n1_ := Aside0.mk (Kd.R_drew HO_731001.out)
            have n2_ := Aside0.mk (Kd.R_drew HO_737001.out)
            have n3_ := Aside0.mk (blk_drew BK714.out)
            have n4_ := Aside0.mk (blk_drew BK725.out)
            have n5_ := Aside0.mk (blk_drew BK730.out)
            have n6_ := Aside0.mk (blk_drew BK736.out)
            have n7_ := Aside0.mk (below_drew1 HB.out)
            clear HO_726001
            clear HO_731001
            clear HO_737001
            clear BK714
            clear BK725
            clear BK730
            clear BK736
            clear HB
            have HO_726001 := n0_
            have HO_731001 := n1_
            have HO_737001 := n2_
            have BK714 := n3_
            have BK725 := n4_
            have BK730 := n5_
            have BK736 := n6_
            have HB := n7_
            clear n0_ n1_ n2_ n3_ n4_ n5_ n6_ n7_
            refine start_ (n := 5) (S := fun w' => w'.cell? ⟨gb730, 0, none⟩ = some (.int .i64 t726) ∧ w'.cell? ⟨gb730, 1, none⟩ = some (.slice Ao31 t727.length co31) ∧ w'.cell? ⟨gb714, 0, none⟩ = some (.int .i64 a0_0) ∧ w'.cell? ⟨gb714, 1, none⟩ = some (.slice A0_1 l0_1.length c0_1)) (ds := []) #[false, false, false, false, false] (by kernel_rfl) rfl rfl ⟨(blk_cell BK730.out 0).trans rfl, (blk_cell BK730.out 1).trans rfl, (blk_cell BK714.out 0).trans rfl, (blk_cell BK714.out 1).trans rfl⟩ (fun hHeld => ?_)
            generalize wc.drew = w177 at HO_726001 HO_731001 HO_737001 BK714 BK725 BK730 BK736 HB hHeld ⊢
            refine take_ (i := 0) (N := some 49) (v := ?_) (a' := ?_) #[true, false, false, false, false] rfl rfl (by kernel_rfl) (fun _ _ _ h => h) (Or.inl ⟨by rfl, ?_⟩) hHeld ?_ ?_
            rotate_left
            · rintro w' ⟨s0, s1, s2, s3⟩
              go_simp
              with_reducible rfl
            rotate_left
            · simp only [Act.put, List.setIfInBounds_toArray, List.set_cons_zero, List.set_cons_succ, i64_w, i32_w]
              rfl
            refine take_ (i := 1) (N := some 50) (v := ?_) (a' := ?_) #[true, true, false, false, false] rfl rfl (by kernel_rfl) (fun _ _ _ h => h) (Or.inl ⟨by rfl, ?_⟩) hHeld ?_ ?_
            rotate_left
            · rintro w' ⟨s0, s1, s2, s3⟩
              go_simp
              with_reducible rfl
            rotate_left
            · simp only [Act.put, List.setIfInBounds_toArray, List.set_cons_zero, List.set_cons_succ, i64_w, i32_w]
              rfl
            refine one_ (i := 2) (N := some 51) #[true, true, true, false, false] rfl rfl (by kernel_rfl) (by decide) (fun K hK => ?_)
            refine goes_ Try.func17 (by kernel_rfl) rfl #[.agg #[.int .i64 a0_0, .slice A0_1 l0_1.length c0_1]] (by rfl) rfl rfl (by (try simp only [List.map_toArray, List.map_cons, List.map_nil]); first | done | rfl | (simp only [List.length_drop, List.length_take]; rfl)) ?_
            with_reducible refine (laws_toCube.calls kj12 a0_0 _ _ l0_1 t738 t739 _ ?side1 ?side2 A58.out).mono ?_
            (case side1 => repeat (first | exact (Kd.C_below HR0_1.out HB.out) | (with_reducible refine Kd.C_alloc ?_ _) | (with_reducible refine Kd.C_drewN ?_ _) | (with_reducible refine Kd.C_drew ?_)))
            (case side2 => exact HC0_1.out)
            rintro e w178 ⟨v740, rfl, ho0, hb⟩
            refine ⟨_, rfl, ?_⟩
            have n0_ := Aside0.mk (Kd.R_elder' (by (with_reducible repeat (first | apply Kd.R_alloc | apply Kd.R_drewN | apply Kd.R_drew)); exact HO_726001.out) (Kd.R_base ho0) hb)
            have n1_ := Aside0.mk (Kd.R_elder' (by (with_reducible repeat (first | apply Kd.R_alloc | apply Kd.R_drewN | apply Kd.R_drew)); exact HO_731001.out) (Kd.R_base ho0) hb)
            have n2_ := Aside0.mk (Kd.R_elder' (by (with_reducible repeat (first | apply Kd.R_alloc | apply Kd.R_drewN | apply Kd.R_drew)); exact HO_737001.out) (Kd.R_base ho0) hb)
            have n3_ := Aside0.mk (Kd.R_lower (Kd.R_new' (Kd.R_new' (Kd.R_new' ho0 (Kd.R_lt (by (with_reducible repeat (first | apply Kd.R_alloc | apply Kd.R_drewN | apply Kd.R_drew)); exact HO_726001.out))) (Kd.R_lt (by (with_reducible repeat (first | apply Kd.R_alloc | apply Kd.R_drewN | apply Kd.R_drew)); exact HO_731001.out))) (Kd.R_lt (by (with_reducible repeat (first | apply Kd.R_alloc | apply Kd.R_drewN | apply Kd.R_drew)); exact HO_737001.out))) (below_size (by repeat (first | (with_reducible first | exact HB.out | apply below_alloc | apply pw_below_drewN | apply below_drew1 | refine below_set ?_ GE714.out | refine below_set ?_ GE725.out | refine below_set ?_ GE730.out | refine below_set ?_ GE736.out) | exact HB.out))))
            have n4_ := Aside0.mk (blk_below (g := gb714) (o := .cells #[.int .i64 a0_0, .slice A0_1 l0_1.length c0_1] 24 (0, 0)) (by (with_reducible repeat (first | refine blk_drewN ?_ _ | refine blk_drew ?_ | refine blk_alloc ?_ _)); exact BK714.out) hb)
            have n5_ := Aside0.mk (blk_below (g := gb725) (o := .cells #[.int .i64 t720, .slice Ao24 t721.length co24] 27 (0, 0)) (by (with_reducible repeat (first | refine blk_drewN ?_ _ | refine blk_drew ?_ | refine blk_alloc ?_ _)); exact BK725.out) hb)
            have n6_ := Aside0.mk (blk_below (g := gb730) (o := .cells #[.int .i64 t726, .slice Ao31 t727.length co31] 27 (0, 0)) (by (with_reducible repeat (first | refine blk_drewN ?_ _ | refine blk_drew ?_ | refine blk_alloc ?_ _)); exact BK730.out) hb)
            have n7_ := Aside0.mk (blk_below (g := gb736) (o := .cells #[.int .i64 t731, .slice Ao38 t732.length co38] 27 (0, 0)) (by (with_reducible repeat (first | refine blk_drewN ?_ _ | refine blk_drew ?_ | refine blk_alloc ?_ _)); exact BK736.out) hb)
            have n8_ := Aside0.mk (below_step (by repeat (first | (with_reducible first | exact HB.out | apply below_alloc | apply pw_below_drewN | apply below_drew1 | refine below_set ?_ GE714.out | refine below_set ?_ GE725.out | refine below_set ?_ GE730.out | refine below_set ?_ GE736.out) | exact HB.out)) hb)
            clear HO_726001
            clear HO_731001
            clear HO_737001
            clear BK714
            clear BK725
            clear BK730
            clear BK736
            clear HB
            have HO_726001 := n0_
            have HO_731001 := n1_
            have HO_737001 := n2_
            have HO741 := n3_
            have BK714 := n4_
            have BK725 := n5_
            have BK730 := n6_
            have BK736 := n7_
            have HB := n8_
            clear n0_ n1_ n2_ n3_ n4_ n5_ n6_ n7_ n8_
            (try clear hb)
            (try clear hb2)
            (try clear hk)
            (try clear hi)
            (try clear ho0)
            obtain ⟨Ao179, co179, eo179⟩ := Kd.R_slice HO741.out
            (first | subst eo179 | (injection eo179 with f1_ f2_ f3_; have f4_ := f1_.symm; have f5_ := f3_.symm; clear f1_ f2_ f3_; subst f4_; subst f5_))
            refine hK.out _ _ ⟨(blk_cell BK730.out 0).trans rfl, (blk_cell BK730.out 1).trans rfl, (blk_cell BK714.out 0).trans rfl, (blk_cell BK714.out 1).trans rfl⟩ (fun hHeld => ?_)
            clear hK K
            refine norm_ (a' := ?_) ?_ ?_
            rotate_left
            · show Act.put _ (some 51) _ = _
              simp only [Act.put, List.setIfInBounds_toArray, List.set_cons_zero, List.set_cons_succ, i64_w, i32_w]
              rfl
            refine one_ (i := 3) (N := some 52) #[true, true, true, true, false] rfl rfl (by kernel_rfl) (by decide) (fun K hK => ?_)
            refine goes_ Try.func19 (by kernel_rfl) rfl #[.agg #[.int .i64 t726, .slice Ao31 t727.length co31], .agg #[.int .i64 t738, .slice Ao179 t739.length co179]] (by rfl) rfl rfl (by (try simp only [List.map_toArray, List.map_cons, List.map_nil]); first | done | rfl | (simp only [List.length_drop, List.length_take]; rfl)) ?_
            with_reducible refine (laws_eqCube.calls kj12 t726 _ _ t727 t738 _ _ t739 false _ ?side1 ?side2 ?side3 ?side4 A59.out).mono ?_
            (case side1 => repeat (first | exact (Kd.R_reads' HO_731001.out).2.2 | (with_reducible refine Kd.C_alloc ?_ _) | (with_reducible refine Kd.C_drewN ?_ _) | (with_reducible refine Kd.C_drew ?_)))
            (case side2 => exact (Kd.R_reads' HO_731001.out).2.1)
            (case side3 => repeat (first | exact (Kd.R_reads' HO741.out).2.2 | (with_reducible refine Kd.C_alloc ?_ _) | (with_reducible refine Kd.C_drewN ?_ _) | (with_reducible refine Kd.C_drew ?_)))
            (case side4 => exact (Kd.R_reads' HO741.out).2.1)
            rintro e w180 ⟨rfl, hb⟩
            refine ⟨_, rfl, ?_⟩
            have n0_ := Aside0.mk (Kd.R_below (by (with_reducible repeat (first | apply Kd.R_alloc | apply Kd.R_drewN | apply Kd.R_drew)); exact HO_726001.out) hb)
            have n1_ := Aside0.mk (Kd.R_below (by (with_reducible repeat (first | apply Kd.R_alloc | apply Kd.R_drewN | apply Kd.R_drew)); exact HO_731001.out) hb)
            have n2_ := Aside0.mk (Kd.R_below (by (with_reducible repeat (first | apply Kd.R_alloc | apply Kd.R_drewN | apply Kd.R_drew)); exact HO_737001.out) hb)
            have n3_ := Aside0.mk (Kd.R_below (by (with_reducible repeat (first | apply Kd.R_alloc | apply Kd.R_drewN | apply Kd.R_drew)); exact HO741.out) hb)
            have n4_ := Aside0.mk (blk_below (g := gb714) (o := .cells #[.int .i64 a0_0, .slice A0_1 l0_1.length c0_1] 24 (0, 0)) (by (with_reducible repeat (first | refine blk_drewN ?_ _ | refine blk_drew ?_ | refine blk_alloc ?_ _)); exact BK714.out) hb)
            have n5_ := Aside0.mk (blk_below (g := gb725) (o := .cells #[.int .i64 t720, .slice Ao24 t721.length co24] 27 (0, 0)) (by (with_reducible repeat (first | refine blk_drewN ?_ _ | refine blk_drew ?_ | refine blk_alloc ?_ _)); exact BK725.out) hb)
            have n6_ := Aside0.mk (blk_below (g := gb730) (o := .cells #[.int .i64 t726, .slice Ao31 t727.length co31] 27 (0, 0)) (by (with_reducible repeat (first | refine blk_drewN ?_ _ | refine blk_drew ?_ | refine blk_alloc ?_ _)); exact BK730.out) hb)
            have n7_ := Aside0.mk (blk_below (g := gb736) (o := .cells #[.int .i64 t731, .slice Ao38 t732.length co38] 27 (0, 0)) (by (with_reducible repeat (first | refine blk_drewN ?_ _ | refine blk_drew ?_ | refine blk_alloc ?_ _)); exact BK736.out) hb)
            have n8_ := Aside0.mk (below_step (by repeat (first | (with_reducible first | exact HB.out | apply below_alloc | apply pw_below_drewN | apply below_drew1 | refine below_set ?_ GE714.out | refine below_set ?_ GE725.out | refine below_set ?_ GE730.out | refine below_set ?_ GE736.out) | exact HB.out)) hb)
            clear HO_726001
            clear HO_731001
            clear HO_737001
            clear HO741
            clear BK714
            clear BK725
            clear BK730
            clear BK736
            clear HB
            have HO_726001 := n0_
            have HO_731001 := n1_
            have HO_737001 := n2_
            have HO741 := n3_
            have BK714 := n4_
            have BK725 := n5_
            have BK730 := n6_
            have BK736 := n7_
            have HB := n8_
            clear n0_ n1_ n2_ n3_ n4_ n5_ n6_ n7_ n8_
            (try clear hb)
            (try clear hb2)
            (try clear hk)
            (try clear hi)
            refine hK.out _ _ ⟨(blk_cell BK730.out 0).trans rfl, (blk_cell BK730.out 1).trans rfl, (blk_cell BK714.out 0).trans rfl, (blk_cell BK714.out 1).trans rfl⟩ (fun hHeld => ?_)
            clear hK K
            refine norm_ (a' := ?_) ?_ ?_
            rotate_left
            · show Act.put _ (some 52) _ = _
              simp only [Act.put, List.setIfInBounds_toArray, List.set_cons_zero, List.set_cons_succ, i64_w, i32_w]
              rfl
            refine pure_ (i := 4) (N := some 53) (v := ?_) (a' := ?_) #[true, true, true, true, true] rfl rfl (by kernel_rfl) (fun _ _ _ h => h) (Or.inl ⟨by rfl, ?_⟩) ?_ ?_
            rotate_left
            · intro w'
              go_simp
              with_reducible rfl
            rotate_left
            · simp only [Act.put, List.setIfInBounds_toArray, List.set_cons_zero, List.set_cons_succ, i64_w, i32_w]
              rfl
            refine done_ (by kernel_rfl) ?_
            try go_wp2
            go_ret
            exact ⟨by first | rfl | (simp [errW_none, errW_some] <;> rfl) | (simp [*, errW_none, errW_some] <;> rfl), by repeat (first | (with_reducible first | exact HB.out | apply below_alloc | apply pw_below_drewN | apply below_drew1 | refine below_set ?_ GE714.out | refine below_set ?_ GE725.out | refine below_set ?_ GE730.out | refine below_set ?_ GE736.out) | exact HB.out)⟩

end Go.Proofs.Ytlnoidhaoinpbaa.Pr
