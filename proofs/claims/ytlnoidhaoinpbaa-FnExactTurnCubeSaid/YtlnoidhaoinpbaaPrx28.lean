/- The plain functions of this seat, each with the proof that the call of the Go function comes to just its answer. Conditions: as each theorem says. Written by this session's own program over the print of the kit. -/
import Derived.Test.YtlnoidhaoinpbaaPrx0
import Derived.Test.YtlnoidhaoinpbaaPrx1
import Derived.Test.YtlnoidhaoinpbaaPrx2
import Derived.Test.YtlnoidhaoinpbaaPrx3
import Derived.Test.YtlnoidhaoinpbaaPrx26
import Derived.Test.YtlnoidhaoinpbaaPrx27
namespace Go.Proofs.Ytlnoidhaoinpbaa.Pr
open Go.RowKit Go.Proofs.YtlnoidhaoinpbaaW.PrintWords Go.Proofs.YtlnoidhaoinpbaaW.PrintLast Go.Proofs.YtlnoidhaoinpbaaW.PrintMore
attribute [local go_sem] max2_int min2_int max_two min_two max_three min_three max_four min_four   -- for this text's walks alone
set_option linter.unusedVariables false
set_option linter.unusedSimpArgs false

/-! ### laws_FnExactTurnCube: function 9 -/
mutual
def laws_FnExactTurnCube.j0 : Nat → Int → Int → Int → Bool → Int → List Int → Int → List Int → Int → List Int → Int → List Int → Option (Bool)
  | 0, _, _, _, _, _, _, _, _, _, _, _, _ => none
  | k + 1, x1, x7, x10, x44, x468000, x468001, x479000, x479001, x484000, x484001, x490000, x490001 => if x44 = true then (some false) else ((laws_toCube.f k x468000 x468001).bind fun bt491 => ((laws_eqCube.f k x484000 x484001 bt491.1 bt491.2).bind fun t495 => (if t495 = true then ((laws_markCube.f k x484000 x484001 1).bind fun bt496 => (if bt496.1 < 0 then (laws_FnExactTurnCube.j1 k x1 x7 true x468000 x468001 x479000 x479001 x490000 x490001) else ((laws_eqCube.f k x490000 x490001 x479000 x479001).bind fun t498 => (if t498 = true then (laws_FnExactTurnCube.j1 k x1 x7 (x10 != x7) x468000 x468001 x479000 x479001 x490000 x490001) else (laws_FnExactTurnCube.j1 k x1 x7 true x468000 x468001 x479000 x479001 x490000 x490001))))) else (some false))))
def laws_FnExactTurnCube.j1 : Nat → Int → Int → Bool → Int → List Int → Int → List Int → Int → List Int → Option (Bool)
  | 0, _, _, _, _, _, _, _, _, _ => none
  | k + 1, x1, x7, x65, x468000, x468001, x479000, x479001, x490000, x490001 => if x65 = true then (some false) else ((laws_markCube.f k x490000 x490001 1).bind fun bt499 => ((laws_heldCube.f k x490000 bt499.2 1).bind fun t501 => (if t501 < 0 then (some false) else (if t501 = bt499.1 then ((laws_toCube.f k x468000 x468001).bind fun bt502 => ((impl_TurnCube.f k bt502.1 bt502.2 x1).bind fun bt506 => ((laws_eqCube.f k bt506.1 bt506.2.1 x479000 x479001).bind fun t512 => (if t512 = true then (laws_FnExactTurnCube.j2 k bt499.1 (bt506.2.2 != x7) x490000 bt499.2) else (laws_FnExactTurnCube.j2 k bt499.1 true x490000 bt499.2))))) else (some false)))))
def laws_FnExactTurnCube.j2 : Nat → Int → Bool → Int → List Int → Option (Bool)
  | 0, _, _, _, _ => none
  | k + 1, x12, x92, x490000, x490001 => if x92 = true then (some false) else ((laws_heldCube.f k x490000 x490001 1).bind fun t513 => (if t513 < 0 then (some false) else (if t513 = x12 then (some true) else (some false))))
end
def laws_FnExactTurnCube.f (k : Nat) (a0_0 : Int) (l0_1 : List Int) (a1 : Int) : Option (Bool) := (laws_szCube.f a0_0 l0_1 1048576).bind fun t468 => (if t468 < 0 then (some true) else ((laws_toCube.f k a0_0 l0_1).bind fun bt469 => ((spec_TurnCube.f k bt469.1 bt469.2 a1).bind fun bt473 => ((laws_toCube.f k a0_0 l0_1).bind fun bt479 => ((impl_TurnCube.f k bt479.1 bt479.2 a1).bind fun bt484 => ((laws_eqCube.f k bt484.1 bt484.2.1 bt473.1 bt473.2.1).bind fun t490 => (if t490 = true then (laws_FnExactTurnCube.j0 k a1 bt473.2.2 bt484.2.2 (bt484.2.2 != bt473.2.2) a0_0 l0_1 bt473.1 bt473.2.1 bt479.1 bt479.2 bt484.1 bt484.2.1) else (laws_FnExactTurnCube.j0 k a1 bt473.2.2 bt484.2.2 true a0_0 l0_1 bt473.1 bt473.2.1 bt479.1 bt479.2 bt484.1 bt484.2.1))))))))
theorem laws_FnExactTurnCube.mono_l : ∀ k, (∀ y0 y1 y2 y3 y4 y5 y6 y7 y8 y9 y10 y11, LeO (laws_FnExactTurnCube.j0 k y0 y1 y2 y3 y4 y5 y6 y7 y8 y9 y10 y11) (laws_FnExactTurnCube.j0 (k + 1) y0 y1 y2 y3 y4 y5 y6 y7 y8 y9 y10 y11)) ∧ (∀ y0 y1 y2 y3 y4 y5 y6 y7 y8, LeO (laws_FnExactTurnCube.j1 k y0 y1 y2 y3 y4 y5 y6 y7 y8) (laws_FnExactTurnCube.j1 (k + 1) y0 y1 y2 y3 y4 y5 y6 y7 y8)) ∧ (∀ y0 y1 y2 y3, LeO (laws_FnExactTurnCube.j2 k y0 y1 y2 y3) (laws_FnExactTurnCube.j2 (k + 1) y0 y1 y2 y3))
  | 0 => ⟨fun _ _ _ _ _ _ _ _ _ _ _ _ r h => by simp [laws_FnExactTurnCube.j0] at h, fun _ _ _ _ _ _ _ _ _ r h => by simp [laws_FnExactTurnCube.j1] at h, fun _ _ _ _ r h => by simp [laws_FnExactTurnCube.j2] at h⟩
  | k + 1 => by
    obtain ⟨ih0, ih1, ih2⟩ := laws_FnExactTurnCube.mono_l k
    refine ⟨?_, ?_, ?_⟩
    · intro y0 y1 y2 y3 y4 y5 y6 y7 y8 y9 y10 y11
      unfold laws_FnExactTurnCube.j0
      repeat' first
      | (with_reducible exact ih0 _ _ _ _ _ _ _ _ _ _ _ _)
      | (with_reducible exact ih1 _ _ _ _ _ _ _ _ _)
      | (with_reducible exact ih2 _ _ _ _)
      | (with_reducible exact impl_TurnCube.mono _ _ _ _)
      | (with_reducible exact laws_eqCube.mono _ _ _ _ _)
      | (with_reducible exact laws_heldCube.mono _ _ _ _)
      | (with_reducible exact laws_markCube.mono _ _ _ _)
      | (with_reducible exact laws_toCube.mono _ _ _)
      | (with_reducible exact spec_TurnCube.mono _ _ _ _)
      | (with_reducible exact LeO.refl _)
      | (with_reducible exact LeO.none _)
      | (with_reducible refine LeO.ite ?_ ?_)
      | (with_reducible refine LeO.bind ?_ (fun _ => ?_))
      | exact ih0 _ _ _ _ _ _ _ _ _ _ _ _
      | exact ih1 _ _ _ _ _ _ _ _ _
      | exact ih2 _ _ _ _
      | exact impl_TurnCube.mono _ _ _ _
      | exact laws_eqCube.mono _ _ _ _ _
      | exact laws_heldCube.mono _ _ _ _
      | exact laws_markCube.mono _ _ _ _
      | exact laws_toCube.mono _ _ _
      | exact spec_TurnCube.mono _ _ _ _
      | exact LeO.none _
      | refine LeO.ite ?_ ?_
      | refine LeO.bind ?_ (fun _ => ?_)
    · intro y0 y1 y2 y3 y4 y5 y6 y7 y8
      unfold laws_FnExactTurnCube.j1
      repeat' first
      | (with_reducible exact ih0 _ _ _ _ _ _ _ _ _ _ _ _)
      | (with_reducible exact ih1 _ _ _ _ _ _ _ _ _)
      | (with_reducible exact ih2 _ _ _ _)
      | (with_reducible exact impl_TurnCube.mono _ _ _ _)
      | (with_reducible exact laws_eqCube.mono _ _ _ _ _)
      | (with_reducible exact laws_heldCube.mono _ _ _ _)
      | (with_reducible exact laws_markCube.mono _ _ _ _)
      | (with_reducible exact laws_toCube.mono _ _ _)
      | (with_reducible exact spec_TurnCube.mono _ _ _ _)
      | (with_reducible exact LeO.refl _)
      | (with_reducible exact LeO.none _)
      | (with_reducible refine LeO.ite ?_ ?_)
      | (with_reducible refine LeO.bind ?_ (fun _ => ?_))
      | exact ih0 _ _ _ _ _ _ _ _ _ _ _ _
      | exact ih1 _ _ _ _ _ _ _ _ _
      | exact ih2 _ _ _ _
      | exact impl_TurnCube.mono _ _ _ _
      | exact laws_eqCube.mono _ _ _ _ _
      | exact laws_heldCube.mono _ _ _ _
      | exact laws_markCube.mono _ _ _ _
      | exact laws_toCube.mono _ _ _
      | exact spec_TurnCube.mono _ _ _ _
      | exact LeO.none _
      | refine LeO.ite ?_ ?_
      | refine LeO.bind ?_ (fun _ => ?_)
    · intro y0 y1 y2 y3
      unfold laws_FnExactTurnCube.j2
      repeat' first
      | (with_reducible exact ih0 _ _ _ _ _ _ _ _ _ _ _ _)
      | (with_reducible exact ih1 _ _ _ _ _ _ _ _ _)
      | (with_reducible exact ih2 _ _ _ _)
      | (with_reducible exact impl_TurnCube.mono _ _ _ _)
      | (with_reducible exact laws_eqCube.mono _ _ _ _ _)
      | (with_reducible exact laws_heldCube.mono _ _ _ _)
      | (with_reducible exact laws_markCube.mono _ _ _ _)
      | (with_reducible exact laws_toCube.mono _ _ _)
      | (with_reducible exact spec_TurnCube.mono _ _ _ _)
      | (with_reducible exact LeO.refl _)
      | (with_reducible exact LeO.none _)
      | (with_reducible refine LeO.ite ?_ ?_)
      | (with_reducible refine LeO.bind ?_ (fun _ => ?_))
      | exact ih0 _ _ _ _ _ _ _ _ _ _ _ _
      | exact ih1 _ _ _ _ _ _ _ _ _
      | exact ih2 _ _ _ _
      | exact impl_TurnCube.mono _ _ _ _
      | exact laws_eqCube.mono _ _ _ _ _
      | exact laws_heldCube.mono _ _ _ _
      | exact laws_markCube.mono _ _ _ _
      | exact laws_toCube.mono _ _ _
      | exact spec_TurnCube.mono _ _ _ _
      | exact LeO.none _
      | refine LeO.ite ?_ ?_
      | refine LeO.bind ?_ (fun _ => ?_)
theorem laws_FnExactTurnCube.mono : ∀ a0 a1 a2 k, LeO (laws_FnExactTurnCube.f k a0 a1 a2) (laws_FnExactTurnCube.f (k + 1) a0 a1 a2) := by
  intro a0 a1 a2 k
  obtain ⟨ih0, ih1, ih2⟩ := laws_FnExactTurnCube.mono_l k
  unfold laws_FnExactTurnCube.f
  repeat' first
      | (with_reducible exact ih0 _ _ _ _ _ _ _ _ _ _ _ _)
      | (with_reducible exact ih1 _ _ _ _ _ _ _ _ _)
      | (with_reducible exact ih2 _ _ _ _)
      | (with_reducible exact impl_TurnCube.mono _ _ _ _)
      | (with_reducible exact laws_eqCube.mono _ _ _ _ _)
      | (with_reducible exact laws_heldCube.mono _ _ _ _)
      | (with_reducible exact laws_markCube.mono _ _ _ _)
      | (with_reducible exact laws_toCube.mono _ _ _)
      | (with_reducible exact spec_TurnCube.mono _ _ _ _)
      | (with_reducible exact LeO.refl _)
      | (with_reducible exact LeO.none _)
      | (with_reducible refine LeO.ite ?_ ?_)
      | (with_reducible refine LeO.bind ?_ (fun _ => ?_))
      | exact ih0 _ _ _ _ _ _ _ _ _ _ _ _
      | exact ih1 _ _ _ _ _ _ _ _ _
      | exact ih2 _ _ _ _
      | exact impl_TurnCube.mono _ _ _ _
      | exact laws_eqCube.mono _ _ _ _ _
      | exact laws_heldCube.mono _ _ _ _
      | exact laws_markCube.mono _ _ _ _
      | exact laws_toCube.mono _ _ _
      | exact spec_TurnCube.mono _ _ _ _
      | exact LeO.none _
      | refine LeO.ite ?_ ?_
      | refine LeO.bind ?_ (fun _ => ?_)
set_option maxHeartbeats 8000000 in
set_option maxRecDepth 100000 in
theorem laws_FnExactTurnCube.calls (k : Nat) (a0_0 : Int) (A0_1 : Option Addr) (c0_1 : Nat) (l0_1 : List Int) (a1 : Int) (r : Bool) (w : World) (hr0_1 : Kd.C (Kd.int .i64) w A0_1 l0_1.length l0_1) (hc0_1 : l0_1.length ≤ c0_1) (h : laws_FnExactTurnCube.f k a0_0 l0_1 a1 = some r) :
    Calls Try.prog 9 #[.agg #[.int .i64 a0_0, .slice A0_1 l0_1.length c0_1], .int .i64 a1] w fun e w' => e = .returned (.bool r) ∧ Below w.heap.size w w' := by
  have hu24 := Try.underlying24
  have hu27 := Try.underlying27
  have HR0_1 := Aside0.mk hr0_1
  have HC0_1 := Aside0.mk hc0_1
  clear hr0_1 hc0_1
  have HB := Aside0.mk (Below.refl w.heap.size w)
  have H : ((laws_szCube.f a0_0 l0_1 1048576).bind fun t468 => (if t468 < 0 then (some true) else ((laws_toCube.f k a0_0 l0_1).bind fun bt469 => ((spec_TurnCube.f k bt469.1 bt469.2 a1).bind fun bt473 => ((laws_toCube.f k a0_0 l0_1).bind fun bt479 => ((impl_TurnCube.f k bt479.1 bt479.2 a1).bind fun bt484 => ((laws_eqCube.f k bt484.1 bt484.2.1 bt473.1 bt473.2.1).bind fun t490 => (if t490 = true then (laws_FnExactTurnCube.j0 k a1 bt473.2.2 bt484.2.2 (bt484.2.2 != bt473.2.2) a0_0 l0_1 bt473.1 bt473.2.1 bt479.1 bt479.2 bt484.1 bt484.2.1) else (laws_FnExactTurnCube.j0 k a1 bt473.2.2 bt484.2.2 true a0_0 l0_1 bt473.1 bt473.2.1 bt479.1 bt479.2 bt484.1 bt484.2.1))))))))) = some r := h
  clear h
  replace H := Option.bind_eq_some_iff.mp H
  obtain ⟨t468, A30, H⟩ := H
  replace H : (if t468 < 0 then (some true) else ((laws_toCube.f k a0_0 l0_1).bind fun bt469 => ((spec_TurnCube.f k bt469.1 bt469.2 a1).bind fun bt473 => ((laws_toCube.f k a0_0 l0_1).bind fun bt479 => ((impl_TurnCube.f k bt479.1 bt479.2 a1).bind fun bt484 => ((laws_eqCube.f k bt484.1 bt484.2.1 bt473.1 bt473.2.1).bind fun t490 => (if t490 = true then (laws_FnExactTurnCube.j0 k a1 bt473.2.2 bt484.2.2 (bt484.2.2 != bt473.2.2) a0_0 l0_1 bt473.1 bt473.2.1 bt479.1 bt479.2 bt484.1 bt484.2.1) else (laws_FnExactTurnCube.j0 k a1 bt473.2.2 bt484.2.2 true a0_0 l0_1 bt473.1 bt473.2.1 bt479.1 bt479.2 bt484.1 bt484.2.1)))))))) = some r := H
  have A3 := Aside0.mk A30
  clear A30
  by_cases c4 : t468 < 0
  · rw [if_pos c4] at H
    have c4b0 : decide (t468 < 0) = true := decide_eq_true c4
    clear c4
    obtain rfl := Option.some.inj H
    go_enter Try.func9, Try.ntmps9
    go_wp2_with (first | ((with_reducible refine gate_dst (N := 2) rfl ?_); refine box_event ?hg (N := 2) ?hd (cs := #[.int .i64 a0_0, .slice A0_1 l0_1.length c0_1]) (t := 24) ?hr ?_; (case hd => rfl); (case hg => rfl); (case hr => first | (go_simp; done) | (go_simp; rfl)); intro gb467 hg w5 hbox hb; have n0_ := Aside0.mk (below_step (by repeat (first | (with_reducible first | exact HB.out | apply below_alloc | apply pw_below_drewN | apply below_drew1) | exact HB.out)) hb); have n1_ := Aside0.mk (hbox); have n2_ := Aside0.mk ((by rw [hg]; exact (below_size (by repeat (first | (with_reducible first | exact HB.out | apply below_alloc | apply pw_below_drewN | apply below_drew1) | exact HB.out))) : w.heap.size ≤ gb467)); have n3_ := Aside0.mk ((by rw [hg]; exact (below_size (by repeat (first | (with_reducible first | exact HB.out | apply below_alloc | apply pw_below_drewN | apply below_drew1) | exact HB.out))) : w.heap.size ≤ gb467)); clear HB; have HB := n0_; have BK467 := n1_; have GW467 := n2_; have GE467 := n3_; clear n0_ n1_ n2_ n3_; clear hb hbox hg; have hcz6_0 : w5.cell? ⟨gb467, 0, none⟩ = some (.int .i64 a0_0) := (blk_cell BK467.out 0).trans rfl; have hcz6_1 : w5.cell? ⟨gb467, 1, none⟩ = some (.slice A0_1 l0_1.length c0_1) := (blk_cell BK467.out 1).trans rfl; have hfz6_0 := blk_frozen BK467.out 0; have hfz6_1 := blk_frozen BK467.out 1) | ((with_reducible refine gate_callee (f := 15) rfl ?_); refine goesL_ (some 18) rfl rfl Try.func15 (by kernel_rfl) rfl #[.agg #[.int .i64 a0_0, .slice A0_1 l0_1.length c0_1], .int .i64 1048576] rfl (by (try simp only [List.map_toArray, List.map_cons, List.map_nil]); first | done | rfl | (simp only [List.length_drop, List.length_take]; rfl)) ?_; (with_reducible refine (laws_szCube.calls a0_0 _ _ l0_1 1048576 t468 _ ?side1 ?side2 A3.out).mono ?_); (case side1 => repeat (first | exact (Kd.C_below HR0_1.out HB.out) | (with_reducible refine Kd.C_alloc ?_ _) | (with_reducible refine Kd.C_drewN ?_ _) | (with_reducible refine Kd.C_drew ?_))); (case side2 => exact HC0_1.out); rintro e w7 ⟨rfl, hb⟩; refine ⟨_, rfl, ?_⟩; have n0_ := Aside0.mk (blk_below (g := gb467) (o := .cells #[.int .i64 a0_0, .slice A0_1 l0_1.length c0_1] 24 (0, 0)) (by (with_reducible repeat (first | refine blk_drewN ?_ _ | refine blk_drew ?_ | refine blk_alloc ?_ _)); exact BK467.out) hb); have n1_ := Aside0.mk (below_step (by repeat (first | (with_reducible first | exact HB.out | apply below_alloc | apply pw_below_drewN | apply below_drew1 | refine below_set ?_ GE467.out) | exact HB.out)) hb); clear BK467; clear HB; have BK467 := n0_; have HB := n1_; clear n0_ n1_; (try clear hb); (try clear hb2); (try clear hk); (try clear hi)))
    go_ret
    exact ⟨by first | rfl | (simp [errW_none, errW_some] <;> rfl) | (simp [*, errW_none, errW_some] <;> rfl), by repeat (first | (with_reducible first | exact HB.out | apply below_alloc | apply pw_below_drewN | apply below_drew1 | refine below_set ?_ GE467.out) | exact HB.out)⟩
  · rw [if_neg c4] at H
    have c4b0 : decide (t468 < 0) = false := decide_eq_false c4
    clear c4
    replace H := Option.bind_eq_some_iff.mp H
    obtain ⟨⟨t469, t470⟩, A80, H⟩ := H
    replace H : ((spec_TurnCube.f k t469 t470 a1).bind fun bt473 => ((laws_toCube.f k a0_0 l0_1).bind fun bt479 => ((impl_TurnCube.f k bt479.1 bt479.2 a1).bind fun bt484 => ((laws_eqCube.f k bt484.1 bt484.2.1 bt473.1 bt473.2.1).bind fun t490 => (if t490 = true then (laws_FnExactTurnCube.j0 k a1 bt473.2.2 bt484.2.2 (bt484.2.2 != bt473.2.2) a0_0 l0_1 bt473.1 bt473.2.1 bt479.1 bt479.2 bt484.1 bt484.2.1) else (laws_FnExactTurnCube.j0 k a1 bt473.2.2 bt484.2.2 true a0_0 l0_1 bt473.1 bt473.2.1 bt479.1 bt479.2 bt484.1 bt484.2.1)))))) = some r := H
    have A8 := Aside0.mk A80
    clear A80
    replace H := Option.bind_eq_some_iff.mp H
    obtain ⟨⟨t473, t474, t477⟩, A90, H⟩ := H
    replace H : ((laws_toCube.f k a0_0 l0_1).bind fun bt479 => ((impl_TurnCube.f k bt479.1 bt479.2 a1).bind fun bt484 => ((laws_eqCube.f k bt484.1 bt484.2.1 t473 t474).bind fun t490 => (if t490 = true then (laws_FnExactTurnCube.j0 k a1 t477 bt484.2.2 (bt484.2.2 != t477) a0_0 l0_1 t473 t474 bt479.1 bt479.2 bt484.1 bt484.2.1) else (laws_FnExactTurnCube.j0 k a1 t477 bt484.2.2 true a0_0 l0_1 t473 t474 bt479.1 bt479.2 bt484.1 bt484.2.1))))) = some r := H
    have A9 := Aside0.mk A90
    clear A90
    replace H := Option.bind_eq_some_iff.mp H
    obtain ⟨⟨t479, t480⟩, A100, H⟩ := H
    replace H : ((impl_TurnCube.f k t479 t480 a1).bind fun bt484 => ((laws_eqCube.f k bt484.1 bt484.2.1 t473 t474).bind fun t490 => (if t490 = true then (laws_FnExactTurnCube.j0 k a1 t477 bt484.2.2 (bt484.2.2 != t477) a0_0 l0_1 t473 t474 t479 t480 bt484.1 bt484.2.1) else (laws_FnExactTurnCube.j0 k a1 t477 bt484.2.2 true a0_0 l0_1 t473 t474 t479 t480 bt484.1 bt484.2.1)))) = some r := H
    have A10 := Aside0.mk A100
    clear A100
    replace H := Option.bind_eq_some_iff.mp H
    obtain ⟨⟨t484, t485, t488⟩, A110, H⟩ := H
    replace H : ((laws_eqCube.f k t484 t485 t473 t474).bind fun t490 => (if t490 = true then (laws_FnExactTurnCube.j0 k a1 t477 t488 (t488 != t477) a0_0 l0_1 t473 t474 t479 t480 t484 t485) else (laws_FnExactTurnCube.j0 k a1 t477 t488 true a0_0 l0_1 t473 t474 t479 t480 t484 t485))) = some r := H
    have A11 := Aside0.mk A110
    clear A110
    have HC12 := Aside0.mk H
    clear H
    go_enter Try.func9, Try.ntmps9
    go_upto_region 8 with (first | ((with_reducible refine gate_dst (N := 2) rfl ?_); refine box_event ?hg (N := 2) ?hd (cs := #[.int .i64 a0_0, .slice A0_1 l0_1.length c0_1]) (t := 24) ?hr ?_; (case hd => rfl); (case hg => rfl); (case hr => first | (go_simp; done) | (go_simp; rfl)); intro gb467 hg w13 hbox hb; have n0_ := Aside0.mk (below_step (by repeat (first | (with_reducible first | exact HB.out | apply below_alloc | apply pw_below_drewN | apply below_drew1) | exact HB.out)) hb); have n1_ := Aside0.mk (hbox); have n2_ := Aside0.mk ((by rw [hg]; exact (below_size (by repeat (first | (with_reducible first | exact HB.out | apply below_alloc | apply pw_below_drewN | apply below_drew1) | exact HB.out))) : w.heap.size ≤ gb467)); have n3_ := Aside0.mk ((by rw [hg]; exact (below_size (by repeat (first | (with_reducible first | exact HB.out | apply below_alloc | apply pw_below_drewN | apply below_drew1) | exact HB.out))) : w.heap.size ≤ gb467)); clear HB; have HB := n0_; have BK467 := n1_; have GW467 := n2_; have GE467 := n3_; clear n0_ n1_ n2_ n3_; clear hb hbox hg; have hcz14_0 : w13.cell? ⟨gb467, 0, none⟩ = some (.int .i64 a0_0) := (blk_cell BK467.out 0).trans rfl; have hcz14_1 : w13.cell? ⟨gb467, 1, none⟩ = some (.slice A0_1 l0_1.length c0_1) := (blk_cell BK467.out 1).trans rfl; have hfz14_0 := blk_frozen BK467.out 0; have hfz14_1 := blk_frozen BK467.out 1) | ((with_reducible refine gate_callee (f := 15) rfl ?_); refine goesL_ (some 18) rfl rfl Try.func15 (by kernel_rfl) rfl #[.agg #[.int .i64 a0_0, .slice A0_1 l0_1.length c0_1], .int .i64 1048576] rfl (by (try simp only [List.map_toArray, List.map_cons, List.map_nil]); first | done | rfl | (simp only [List.length_drop, List.length_take]; rfl)) ?_; (with_reducible refine (laws_szCube.calls a0_0 _ _ l0_1 1048576 t468 _ ?side1 ?side2 A3.out).mono ?_); (case side1 => repeat (first | exact (Kd.C_below HR0_1.out HB.out) | (with_reducible refine Kd.C_alloc ?_ _) | (with_reducible refine Kd.C_drewN ?_ _) | (with_reducible refine Kd.C_drew ?_))); (case side2 => exact HC0_1.out); rintro e w15 ⟨rfl, hb⟩; refine ⟨_, rfl, ?_⟩; have n0_ := Aside0.mk (blk_below (g := gb467) (o := .cells #[.int .i64 a0_0, .slice A0_1 l0_1.length c0_1] 24 (0, 0)) (by (with_reducible repeat (first | refine blk_drewN ?_ _ | refine blk_drew ?_ | refine blk_alloc ?_ _)); exact BK467.out) hb); have n1_ := Aside0.mk (below_step (by repeat (first | (with_reducible first | exact HB.out | apply below_alloc | apply pw_below_drewN | apply below_drew1 | refine below_set ?_ GE467.out) | exact HB.out)) hb); clear BK467; clear HB; have BK467 := n0_; have HB := n1_; clear n0_ n1_; (try clear hb); (try clear hb2); (try clear hk); (try clear hi); have hcz16_0 : w15.cell? ⟨gb467, 0, none⟩ = some (.int .i64 a0_0) := (blk_cell BK467.out 0).trans rfl; have hcz16_1 : w15.cell? ⟨gb467, 1, none⟩ = some (.slice A0_1 l0_1.length c0_1) := (blk_cell BK467.out 1).trans rfl; have hfz16_0 := blk_frozen BK467.out 0; have hfz16_1 := blk_frozen BK467.out 1) | ((with_reducible refine gate_callee (f := 17) rfl ?_); refine goesL_ (some 23) rfl rfl Try.func17 (by kernel_rfl) rfl #[.agg #[.int .i64 a0_0, .slice A0_1 l0_1.length c0_1]] rfl (by (try simp only [List.map_toArray, List.map_cons, List.map_nil]); first | done | rfl | (simp only [List.length_drop, List.length_take]; rfl)) ?_; (with_reducible refine (laws_toCube.calls k a0_0 _ _ l0_1 t469 t470 _ ?side1 ?side2 A8.out).mono ?_); (case side1 => repeat (first | exact (Kd.C_below HR0_1.out HB.out) | (with_reducible refine Kd.C_alloc ?_ _) | (with_reducible refine Kd.C_drewN ?_ _) | (with_reducible refine Kd.C_drew ?_))); (case side2 => exact HC0_1.out); rintro e w17 ⟨v471, rfl, ho0, hb⟩; refine ⟨_, rfl, ?_⟩; have n0_ := Aside0.mk (Kd.R_lower ho0 (below_size (by repeat (first | (with_reducible first | exact HB.out | apply below_alloc | apply pw_below_drewN | apply below_drew1 | refine below_set ?_ GE467.out) | exact HB.out)))); have n1_ := Aside0.mk (blk_below (g := gb467) (o := .cells #[.int .i64 a0_0, .slice A0_1 l0_1.length c0_1] 24 (0, 0)) (by (with_reducible repeat (first | refine blk_drewN ?_ _ | refine blk_drew ?_ | refine blk_alloc ?_ _)); exact BK467.out) hb); have n2_ := Aside0.mk (below_step (by repeat (first | (with_reducible first | exact HB.out | apply below_alloc | apply pw_below_drewN | apply below_drew1 | refine below_set ?_ GE467.out) | exact HB.out)) hb); clear BK467; clear HB; have HO472 := n0_; have BK467 := n1_; have HB := n2_; clear n0_ n1_ n2_; (try clear hb); (try clear hb2); (try clear hk); (try clear hi); (try clear ho0); obtain ⟨Ao18, co18, eo18⟩ := Kd.R_slice HO472.out; subst eo18) | ((with_reducible refine gate_callee (f := 38) rfl ?_); refine goesL_ (some 25) rfl rfl Try.func38 (by kernel_rfl) rfl #[.agg #[.int .i64 t469, .slice Ao18 t470.length co18], .int .i64 a1] rfl (by (try simp only [List.map_toArray, List.map_cons, List.map_nil]); first | done | rfl | (simp only [List.length_drop, List.length_take]; rfl)) ?_; (with_reducible refine (spec_TurnCube.calls k t469 _ _ t470 a1 t473 t474 t477 _ ?side1 ?side2 A9.out).mono ?_); (case side1 => repeat (first | exact (Kd.R_reads' HO472.out).2.2 | (with_reducible refine Kd.C_alloc ?_ _) | (with_reducible refine Kd.C_drewN ?_ _) | (with_reducible refine Kd.C_drew ?_))); (case side2 => exact (Kd.R_reads' HO472.out).2.1); rintro e w19 ⟨v475, rfl, ho0, hb⟩; refine ⟨_, rfl, ?_⟩; have n0_ := Aside0.mk (Kd.R_elder' (by (with_reducible repeat (first | apply Kd.R_alloc | apply Kd.R_drewN | apply Kd.R_drew)); exact HO472.out) (Kd.R_base ho0) hb); have n1_ := Aside0.mk (Kd.R_lower (Kd.R_new' ho0 (Kd.R_lt (by (with_reducible repeat (first | apply Kd.R_alloc | apply Kd.R_drewN | apply Kd.R_drew)); exact HO472.out))) (below_size (by repeat (first | (with_reducible first | exact HB.out | apply below_alloc | apply pw_below_drewN | apply below_drew1 | refine below_set ?_ GE467.out) | exact HB.out)))); have n2_ := Aside0.mk (blk_below (g := gb467) (o := .cells #[.int .i64 a0_0, .slice A0_1 l0_1.length c0_1] 24 (0, 0)) (by (with_reducible repeat (first | refine blk_drewN ?_ _ | refine blk_drew ?_ | refine blk_alloc ?_ _)); exact BK467.out) hb); have n3_ := Aside0.mk (below_step (by repeat (first | (with_reducible first | exact HB.out | apply below_alloc | apply pw_below_drewN | apply below_drew1 | refine below_set ?_ GE467.out) | exact HB.out)) hb); clear HO472; clear BK467; clear HB; have HO472 := n0_; have HO476 := n1_; have BK467 := n2_; have HB := n3_; clear n0_ n1_ n2_ n3_; (try clear hb); (try clear hb2); (try clear hk); (try clear hi); (try clear ho0)) | ((with_reducible refine gate_dst (N := 6) rfl ?_); refine box_event ?hg (N := 6) ?hd (cs := #[.int .i64 0, .slice none 0 0]) (t := 27) ?hr ?_; (case hd => rfl); (case hg => rfl); (case hr => first | (go_simp; done) | (go_simp; rfl)); intro gb478 hg w20 hbox hb; have n0_ := Aside0.mk (Kd.R_below (by (with_reducible repeat (first | apply Kd.R_alloc | apply Kd.R_drewN | apply Kd.R_drew)); exact HO472.out) hb); have n1_ := Aside0.mk (Kd.R_below (by (with_reducible repeat (first | apply Kd.R_alloc | apply Kd.R_drewN | apply Kd.R_drew)); exact HO476.out) hb); have n2_ := Aside0.mk (blk_below (g := gb467) (o := .cells #[.int .i64 a0_0, .slice A0_1 l0_1.length c0_1] 24 (0, 0)) (by (with_reducible repeat (first | refine blk_drewN ?_ _ | refine blk_drew ?_ | refine blk_alloc ?_ _)); exact BK467.out) hb); have n3_ := Aside0.mk (below_step (by repeat (first | (with_reducible first | exact HB.out | apply below_alloc | apply pw_below_drewN | apply below_drew1 | refine below_set ?_ GE467.out) | exact HB.out)) hb); have n4_ := Aside0.mk (hbox); have n5_ := Aside0.mk ((by rw [hg]; exact (below_size (by repeat (first | (with_reducible first | exact HB.out | apply below_alloc | apply pw_below_drewN | apply below_drew1 | refine below_set ?_ GE467.out) | exact HB.out))) : w.heap.size ≤ gb478)); have n6_ := Aside0.mk ((by rw [hg]; exact (below_size (by repeat (first | (with_reducible first | exact HB.out | apply below_alloc | apply pw_below_drewN | apply below_drew1 | refine below_set ?_ GE467.out) | exact HB.out))) : w.heap.size ≤ gb478)); have n7_ := Aside0.mk ((by rw [hg]; exact Nat.ne_of_lt (blk_lt (g := gb467) (o := .cells #[.int .i64 a0_0, .slice A0_1 l0_1.length c0_1] 24 (0, 0)) (by (with_reducible repeat (first | refine blk_drewN ?_ _ | refine blk_drew ?_ | refine blk_alloc ?_ _)); exact BK467.out)) : gb467 ≠ gb478)); have n8_ := Aside0.mk ((by rw [hg]; exact Nat.ne_of_gt (blk_lt (g := gb467) (o := .cells #[.int .i64 a0_0, .slice A0_1 l0_1.length c0_1] 24 (0, 0)) (by (with_reducible repeat (first | refine blk_drewN ?_ _ | refine blk_drew ?_ | refine blk_alloc ?_ _)); exact BK467.out)) : gb478 ≠ gb467)); clear HO472; clear HO476; clear BK467; clear HB; have HO472 := n0_; have HO476 := n1_; have BK467 := n2_; have HB := n3_; have BK478 := n4_; have GW478 := n5_; have GE478 := n6_; have NB467_478 := n7_; have NB478_467 := n8_; clear n0_ n1_ n2_ n3_ n4_ n5_ n6_ n7_ n8_; clear hb hbox hg; have hnb21 := NB478_467.out; have hnc21 := NB467_478.out; have hcz22_0 : w20.cell? ⟨gb478, 0, none⟩ = some (.int .i64 0) := (blk_cell BK478.out 0).trans rfl; have hcz22_1 : w20.cell? ⟨gb478, 1, none⟩ = some (.slice none 0 0) := (blk_cell BK478.out 1).trans rfl; have hfz22_0 := blk_frozen BK478.out 0; have hfz22_1 := blk_frozen BK478.out 1; obtain ⟨Ao23, co23, eo23⟩ := Kd.R_slice HO476.out; subst eo23; have hcz24_0 : w20.cell? ⟨gb467, 0, none⟩ = some (.int .i64 a0_0) := (blk_cell BK467.out 0).trans rfl; have hcz24_1 : w20.cell? ⟨gb467, 1, none⟩ = some (.slice A0_1 l0_1.length c0_1) := (blk_cell BK467.out 1).trans rfl; have hfz24_0 := blk_frozen BK467.out 0; have hfz24_1 := blk_frozen BK467.out 1) | ((with_reducible refine gate_callee (f := 17) rfl ?_); refine goesL_ (some 29) rfl rfl Try.func17 (by kernel_rfl) rfl #[.agg #[.int .i64 a0_0, .slice A0_1 l0_1.length c0_1]] rfl (by (try simp only [List.map_toArray, List.map_cons, List.map_nil]); first | done | rfl | (simp only [List.length_drop, List.length_take]; rfl)) ?_; (with_reducible refine (laws_toCube.calls k a0_0 _ _ l0_1 t479 t480 _ ?side1 ?side2 A10.out).mono ?_); (case side1 => exact Kd.C_below HR0_1.out (by repeat (first | (with_reducible first | exact HB.out | apply below_alloc | apply pw_below_drewN | apply below_drew1 | refine below_set ?_ GE467.out | refine below_set ?_ GE478.out) | exact HB.out))); (case side2 => exact HC0_1.out); rintro e w25 ⟨v481, rfl, ho0, hb⟩; refine ⟨_, rfl, ?_⟩; have n0_ := Aside0.mk (Kd.R_elder' (by (with_reducible repeat (first | apply Kd.R_alloc | apply Kd.R_drewN | apply Kd.R_drew)); exact (Kd.R_mono (Kd.R_far (p := ⟨gb478, 1, none⟩) (Kd.R_far (p := ⟨gb478, 0, none⟩) (Kd.R_types HO472.out BK478.out (by decide)) (fun _ hk => hk.2) (.int .i64 t473)) (fun _ hk => hk.2) (.slice Ao23 t474.length co23)) (fun _ h_ => h_.1))) (Kd.R_base ho0) hb); have n1_ := Aside0.mk (Kd.R_elder' (by (with_reducible repeat (first | apply Kd.R_alloc | apply Kd.R_drewN | apply Kd.R_drew)); exact (Kd.R_mono (Kd.R_far (p := ⟨gb478, 1, none⟩) (Kd.R_far (p := ⟨gb478, 0, none⟩) (Kd.R_types HO476.out BK478.out (by decide)) (fun _ hk => hk.2) (.int .i64 t473)) (fun _ hk => hk.2) (.slice Ao23 t474.length co23)) (fun _ h_ => h_.1))) (Kd.R_base ho0) hb); have n2_ := Aside0.mk (Kd.R_lower (Kd.R_new' (Kd.R_new' ho0 (Kd.R_lt (by (with_reducible repeat (first | apply Kd.R_alloc | apply Kd.R_drewN | apply Kd.R_drew)); exact (Kd.R_mono (Kd.R_far (p := ⟨gb478, 1, none⟩) (Kd.R_far (p := ⟨gb478, 0, none⟩) (Kd.R_types HO472.out BK478.out (by decide)) (fun _ hk => hk.2) (.int .i64 t473)) (fun _ hk => hk.2) (.slice Ao23 t474.length co23)) (fun _ h_ => h_.1))))) (Kd.R_lt (by (with_reducible repeat (first | apply Kd.R_alloc | apply Kd.R_drewN | apply Kd.R_drew)); exact (Kd.R_mono (Kd.R_far (p := ⟨gb478, 1, none⟩) (Kd.R_far (p := ⟨gb478, 0, none⟩) (Kd.R_types HO476.out BK478.out (by decide)) (fun _ hk => hk.2) (.int .i64 t473)) (fun _ hk => hk.2) (.slice Ao23 t474.length co23)) (fun _ h_ => h_.1))))) (below_size (by repeat (first | (with_reducible first | exact HB.out | apply below_alloc | apply pw_below_drewN | apply below_drew1 | refine below_set ?_ GE467.out | refine below_set ?_ GE478.out) | exact HB.out)))); have n3_ := Aside0.mk (blk_below (g := gb467) (o := .cells #[.int .i64 a0_0, .slice A0_1 l0_1.length c0_1] 24 (0, 0)) (by (with_reducible repeat (first | refine blk_drewN ?_ _ | refine blk_drew ?_ | refine blk_alloc ?_ _)); refine blk_far ?_ NB467_478.out _; (with_reducible repeat (first | refine blk_drewN ?_ _ | refine blk_drew ?_ | refine blk_alloc ?_ _)); refine blk_far ?_ NB467_478.out _; (with_reducible repeat (first | refine blk_drewN ?_ _ | refine blk_drew ?_ | refine blk_alloc ?_ _)); exact BK467.out) hb); have n4_ := Aside0.mk (blk_below (g := gb478) (o := .cells #[.int .i64 t473, .slice Ao23 t474.length co23] 27 (0, 0)) (by (with_reducible repeat (first | refine blk_drewN ?_ _ | refine blk_drew ?_ | refine blk_alloc ?_ _)); refine blk_put (cs := #[.int .i64 t473, .slice none 0 0]) ?_ 1 _ rfl; (with_reducible repeat (first | refine blk_drewN ?_ _ | refine blk_drew ?_ | refine blk_alloc ?_ _)); refine blk_put (cs := #[.int .i64 0, .slice none 0 0]) ?_ 0 _ rfl; (with_reducible repeat (first | refine blk_drewN ?_ _ | refine blk_drew ?_ | refine blk_alloc ?_ _)); exact BK478.out) hb); have n5_ := Aside0.mk (below_step (by repeat (first | (with_reducible first | exact HB.out | apply below_alloc | apply pw_below_drewN | apply below_drew1 | refine below_set ?_ GE467.out | refine below_set ?_ GE478.out) | exact HB.out)) hb); clear HO472; clear HO476; clear BK467; clear BK478; clear HB; have HO472 := n0_; have HO476 := n1_; have HO482 := n2_; have BK467 := n3_; have BK478 := n4_; have HB := n5_; clear n0_ n1_ n2_ n3_ n4_ n5_; (try clear hb); (try clear hb2); (try clear hk); (try clear hi); (try clear ho0)) | ((with_reducible refine gate_dst (N := 8) rfl ?_); refine box_event ?hg (N := 8) ?hd (cs := #[.int .i64 0, .slice none 0 0]) (t := 27) ?hr ?_; (case hd => rfl); (case hg => rfl); (case hr => first | (go_simp; done) | (go_simp; rfl)); intro gb483 hg w26 hbox hb; have n0_ := Aside0.mk (Kd.R_below (by (with_reducible repeat (first | apply Kd.R_alloc | apply Kd.R_drewN | apply Kd.R_drew)); exact HO472.out) hb); have n1_ := Aside0.mk (Kd.R_below (by (with_reducible repeat (first | apply Kd.R_alloc | apply Kd.R_drewN | apply Kd.R_drew)); exact HO476.out) hb); have n2_ := Aside0.mk (Kd.R_below (by (with_reducible repeat (first | apply Kd.R_alloc | apply Kd.R_drewN | apply Kd.R_drew)); exact HO482.out) hb); have n3_ := Aside0.mk (blk_below (g := gb467) (o := .cells #[.int .i64 a0_0, .slice A0_1 l0_1.length c0_1] 24 (0, 0)) (by (with_reducible repeat (first | refine blk_drewN ?_ _ | refine blk_drew ?_ | refine blk_alloc ?_ _)); exact BK467.out) hb); have n4_ := Aside0.mk (blk_below (g := gb478) (o := .cells #[.int .i64 t473, .slice Ao23 t474.length co23] 27 (0, 0)) (by (with_reducible repeat (first | refine blk_drewN ?_ _ | refine blk_drew ?_ | refine blk_alloc ?_ _)); exact BK478.out) hb); have n5_ := Aside0.mk (below_step (by repeat (first | (with_reducible first | exact HB.out | apply below_alloc | apply pw_below_drewN | apply below_drew1 | refine below_set ?_ GE467.out | refine below_set ?_ GE478.out) | exact HB.out)) hb); have n6_ := Aside0.mk (hbox); have n7_ := Aside0.mk ((by rw [hg]; exact (below_size (by repeat (first | (with_reducible first | exact HB.out | apply below_alloc | apply pw_below_drewN | apply below_drew1 | refine below_set ?_ GE467.out | refine below_set ?_ GE478.out) | exact HB.out))) : w.heap.size ≤ gb483)); have n8_ := Aside0.mk ((by rw [hg]; exact (below_size (by repeat (first | (with_reducible first | exact HB.out | apply below_alloc | apply pw_below_drewN | apply below_drew1 | refine below_set ?_ GE467.out | refine below_set ?_ GE478.out) | exact HB.out))) : w.heap.size ≤ gb483)); have n9_ := Aside0.mk ((by rw [hg]; exact Nat.ne_of_lt (blk_lt (g := gb467) (o := .cells #[.int .i64 a0_0, .slice A0_1 l0_1.length c0_1] 24 (0, 0)) (by (with_reducible repeat (first | refine blk_drewN ?_ _ | refine blk_drew ?_ | refine blk_alloc ?_ _)); exact BK467.out)) : gb467 ≠ gb483)); have n10_ := Aside0.mk ((by rw [hg]; exact Nat.ne_of_gt (blk_lt (g := gb467) (o := .cells #[.int .i64 a0_0, .slice A0_1 l0_1.length c0_1] 24 (0, 0)) (by (with_reducible repeat (first | refine blk_drewN ?_ _ | refine blk_drew ?_ | refine blk_alloc ?_ _)); exact BK467.out)) : gb483 ≠ gb467)); have n11_ := Aside0.mk ((by rw [hg]; exact Nat.ne_of_lt (blk_lt (g := gb478) (o := .cells #[.int .i64 t473, .slice Ao23 t474.length co23] 27 (0, 0)) (by (with_reducible repeat (first | refine blk_drewN ?_ _ | refine blk_drew ?_ | refine blk_alloc ?_ _)); exact BK478.out)) : gb478 ≠ gb483)); have n12_ := Aside0.mk ((by rw [hg]; exact Nat.ne_of_gt (blk_lt (g := gb478) (o := .cells #[.int .i64 t473, .slice Ao23 t474.length co23] 27 (0, 0)) (by (with_reducible repeat (first | refine blk_drewN ?_ _ | refine blk_drew ?_ | refine blk_alloc ?_ _)); exact BK478.out)) : gb483 ≠ gb478)); clear HO472; clear HO476; clear HO482; clear BK467; clear BK478; clear HB; have HO472 := n0_; have HO476 := n1_; have HO482 := n2_; have BK467 := n3_; have BK478 := n4_; have HB := n5_; have BK483 := n6_; have GW483 := n7_; have GE483 := n8_; have NB467_483 := n9_; have NB483_467 := n10_; have NB478_483 := n11_; have NB483_478 := n12_; clear n0_ n1_ n2_ n3_ n4_ n5_ n6_ n7_ n8_ n9_ n10_ n11_ n12_; clear hb hbox hg; have hnb27 := NB483_467.out; have hnc27 := NB467_483.out; have hnb28 := NB483_478.out; have hnc28 := NB478_483.out; have hcz29_0 : w26.cell? ⟨gb483, 0, none⟩ = some (.int .i64 0) := (blk_cell BK483.out 0).trans rfl; have hcz29_1 : w26.cell? ⟨gb483, 1, none⟩ = some (.slice none 0 0) := (blk_cell BK483.out 1).trans rfl; have hfz29_0 := blk_frozen BK483.out 0; have hfz29_1 := blk_frozen BK483.out 1; obtain ⟨Ao30, co30, eo30⟩ := Kd.R_slice HO482.out; subst eo30) | ((with_reducible refine gate_callee (f := 39) rfl ?_); refine goesL_ (some 33) rfl rfl Try.func39 (by kernel_rfl) rfl #[.agg #[.int .i64 t479, .slice Ao30 t480.length co30], .int .i64 a1] rfl (by (try simp only [List.map_toArray, List.map_cons, List.map_nil]); first | done | rfl | (simp only [List.length_drop, List.length_take]; rfl)) ?_; (with_reducible refine (impl_TurnCube.calls k t479 _ _ t480 a1 t484 t485 t488 _ ?side1 ?side2 A11.out).mono ?_); (case side1 => refine (Kd.R_reads' (e := 2) (base := w.heap.size) (ok := fun k_ => ((True ∧ some k_ ≠ (.slice Ao18 t470.length co18 : Value).ownBlock) ∧ some k_ ≠ (.slice Ao23 t474.length co23 : Value).ownBlock)) (n := t480.length) (c := co30) ?_).2.2; exact (by (with_reducible repeat (first | apply Kd.R_alloc | apply Kd.R_drewN | apply Kd.R_drew)); exact (Kd.R_mono (Kd.R_far (p := ⟨gb483, 1, none⟩) (Kd.R_far (p := ⟨gb483, 0, none⟩) (Kd.R_types HO482.out BK483.out (by decide)) (fun _ hk => hk.2) (.int .i64 t479)) (fun _ hk => hk.2) (.slice Ao30 t480.length co30)) (fun _ h_ => h_.1)))); (case side2 => exact (Kd.R_reads' HO482.out).2.1); rintro e w31 ⟨v486, rfl, ho0, hb⟩; refine ⟨_, rfl, ?_⟩; have n0_ := Aside0.mk (Kd.R_elder' (by (with_reducible repeat (first | apply Kd.R_alloc | apply Kd.R_drewN | apply Kd.R_drew)); exact (Kd.R_mono (Kd.R_far (p := ⟨gb483, 1, none⟩) (Kd.R_far (p := ⟨gb483, 0, none⟩) (Kd.R_types HO472.out BK483.out (by decide)) (fun _ hk => hk.2) (.int .i64 t479)) (fun _ hk => hk.2) (.slice Ao30 t480.length co30)) (fun _ h_ => h_.1))) (Kd.R_base ho0) hb); have n1_ := Aside0.mk (Kd.R_elder' (by (with_reducible repeat (first | apply Kd.R_alloc | apply Kd.R_drewN | apply Kd.R_drew)); exact (Kd.R_mono (Kd.R_far (p := ⟨gb483, 1, none⟩) (Kd.R_far (p := ⟨gb483, 0, none⟩) (Kd.R_types HO476.out BK483.out (by decide)) (fun _ hk => hk.2) (.int .i64 t479)) (fun _ hk => hk.2) (.slice Ao30 t480.length co30)) (fun _ h_ => h_.1))) (Kd.R_base ho0) hb); have n2_ := Aside0.mk (Kd.R_elder' (by (with_reducible repeat (first | apply Kd.R_alloc | apply Kd.R_drewN | apply Kd.R_drew)); exact (Kd.R_mono (Kd.R_far (p := ⟨gb483, 1, none⟩) (Kd.R_far (p := ⟨gb483, 0, none⟩) (Kd.R_types HO482.out BK483.out (by decide)) (fun _ hk => hk.2) (.int .i64 t479)) (fun _ hk => hk.2) (.slice Ao30 t480.length co30)) (fun _ h_ => h_.1))) (Kd.R_base ho0) hb); have n3_ := Aside0.mk (Kd.R_lower (Kd.R_new' (Kd.R_new' (Kd.R_new' ho0 (Kd.R_lt (by (with_reducible repeat (first | apply Kd.R_alloc | apply Kd.R_drewN | apply Kd.R_drew)); exact (Kd.R_mono (Kd.R_far (p := ⟨gb483, 1, none⟩) (Kd.R_far (p := ⟨gb483, 0, none⟩) (Kd.R_types HO472.out BK483.out (by decide)) (fun _ hk => hk.2) (.int .i64 t479)) (fun _ hk => hk.2) (.slice Ao30 t480.length co30)) (fun _ h_ => h_.1))))) (Kd.R_lt (by (with_reducible repeat (first | apply Kd.R_alloc | apply Kd.R_drewN | apply Kd.R_drew)); exact (Kd.R_mono (Kd.R_far (p := ⟨gb483, 1, none⟩) (Kd.R_far (p := ⟨gb483, 0, none⟩) (Kd.R_types HO476.out BK483.out (by decide)) (fun _ hk => hk.2) (.int .i64 t479)) (fun _ hk => hk.2) (.slice Ao30 t480.length co30)) (fun _ h_ => h_.1))))) (Kd.R_lt (by (with_reducible repeat (first | apply Kd.R_alloc | apply Kd.R_drewN | apply Kd.R_drew)); exact (Kd.R_mono (Kd.R_far (p := ⟨gb483, 1, none⟩) (Kd.R_far (p := ⟨gb483, 0, none⟩) (Kd.R_types HO482.out BK483.out (by decide)) (fun _ hk => hk.2) (.int .i64 t479)) (fun _ hk => hk.2) (.slice Ao30 t480.length co30)) (fun _ h_ => h_.1))))) (below_size (by repeat (first | (with_reducible first | exact HB.out | apply below_alloc | apply pw_below_drewN | apply below_drew1 | refine below_set ?_ GE467.out | refine below_set ?_ GE478.out | refine below_set ?_ GE483.out) | exact HB.out)))); have n4_ := Aside0.mk (blk_below (g := gb467) (o := .cells #[.int .i64 a0_0, .slice A0_1 l0_1.length c0_1] 24 (0, 0)) (by (with_reducible repeat (first | refine blk_drewN ?_ _ | refine blk_drew ?_ | refine blk_alloc ?_ _)); refine blk_far ?_ NB467_483.out _; (with_reducible repeat (first | refine blk_drewN ?_ _ | refine blk_drew ?_ | refine blk_alloc ?_ _)); refine blk_far ?_ NB467_483.out _; (with_reducible repeat (first | refine blk_drewN ?_ _ | refine blk_drew ?_ | refine blk_alloc ?_ _)); exact BK467.out) hb); have n5_ := Aside0.mk (blk_below (g := gb478) (o := .cells #[.int .i64 t473, .slice Ao23 t474.length co23] 27 (0, 0)) (by (with_reducible repeat (first | refine blk_drewN ?_ _ | refine blk_drew ?_ | refine blk_alloc ?_ _)); refine blk_far ?_ NB478_483.out _; (with_reducible repeat (first | refine blk_drewN ?_ _ | refine blk_drew ?_ | refine blk_alloc ?_ _)); refine blk_far ?_ NB478_483.out _; (with_reducible repeat (first | refine blk_drewN ?_ _ | refine blk_drew ?_ | refine blk_alloc ?_ _)); exact BK478.out) hb); have n6_ := Aside0.mk (blk_below (g := gb483) (o := .cells #[.int .i64 t479, .slice Ao30 t480.length co30] 27 (0, 0)) (by (with_reducible repeat (first | refine blk_drewN ?_ _ | refine blk_drew ?_ | refine blk_alloc ?_ _)); refine blk_put (cs := #[.int .i64 t479, .slice none 0 0]) ?_ 1 _ rfl; (with_reducible repeat (first | refine blk_drewN ?_ _ | refine blk_drew ?_ | refine blk_alloc ?_ _)); refine blk_put (cs := #[.int .i64 0, .slice none 0 0]) ?_ 0 _ rfl; (with_reducible repeat (first | refine blk_drewN ?_ _ | refine blk_drew ?_ | refine blk_alloc ?_ _)); exact BK483.out) hb); have n7_ := Aside0.mk (below_step (by repeat (first | (with_reducible first | exact HB.out | apply below_alloc | apply pw_below_drewN | apply below_drew1 | refine below_set ?_ GE467.out | refine below_set ?_ GE478.out | refine below_set ?_ GE483.out) | exact HB.out)) hb); clear HO472; clear HO476; clear HO482; clear BK467; clear BK478; clear BK483; clear HB; have HO472 := n0_; have HO476 := n1_; have HO482 := n2_; have HO487 := n3_; have BK467 := n4_; have BK478 := n5_; have BK483 := n6_; have HB := n7_; clear n0_ n1_ n2_ n3_ n4_ n5_ n6_ n7_; (try clear hb); (try clear hb2); (try clear hk); (try clear hi); (try clear ho0)) | ((with_reducible refine gate_dst (N := 9) rfl ?_); refine box_event ?hg (N := 9) ?hd (cs := #[.int .i64 0, .slice none 0 0]) (t := 27) ?hr ?_; (case hd => rfl); (case hg => rfl); (case hr => first | (go_simp; done) | (go_simp; rfl)); intro gb489 hg w32 hbox hb; have n0_ := Aside0.mk (Kd.R_below (by (with_reducible repeat (first | apply Kd.R_alloc | apply Kd.R_drewN | apply Kd.R_drew)); exact HO472.out) hb); have n1_ := Aside0.mk (Kd.R_below (by (with_reducible repeat (first | apply Kd.R_alloc | apply Kd.R_drewN | apply Kd.R_drew)); exact HO476.out) hb); have n2_ := Aside0.mk (Kd.R_below (by (with_reducible repeat (first | apply Kd.R_alloc | apply Kd.R_drewN | apply Kd.R_drew)); exact HO482.out) hb); have n3_ := Aside0.mk (Kd.R_below (by (with_reducible repeat (first | apply Kd.R_alloc | apply Kd.R_drewN | apply Kd.R_drew)); exact HO487.out) hb); have n4_ := Aside0.mk (blk_below (g := gb467) (o := .cells #[.int .i64 a0_0, .slice A0_1 l0_1.length c0_1] 24 (0, 0)) (by (with_reducible repeat (first | refine blk_drewN ?_ _ | refine blk_drew ?_ | refine blk_alloc ?_ _)); exact BK467.out) hb); have n5_ := Aside0.mk (blk_below (g := gb478) (o := .cells #[.int .i64 t473, .slice Ao23 t474.length co23] 27 (0, 0)) (by (with_reducible repeat (first | refine blk_drewN ?_ _ | refine blk_drew ?_ | refine blk_alloc ?_ _)); exact BK478.out) hb); have n6_ := Aside0.mk (blk_below (g := gb483) (o := .cells #[.int .i64 t479, .slice Ao30 t480.length co30] 27 (0, 0)) (by (with_reducible repeat (first | refine blk_drewN ?_ _ | refine blk_drew ?_ | refine blk_alloc ?_ _)); exact BK483.out) hb); have n7_ := Aside0.mk (below_step (by repeat (first | (with_reducible first | exact HB.out | apply below_alloc | apply pw_below_drewN | apply below_drew1 | refine below_set ?_ GE467.out | refine below_set ?_ GE478.out | refine below_set ?_ GE483.out) | exact HB.out)) hb); have n8_ := Aside0.mk (hbox); have n9_ := Aside0.mk ((by rw [hg]; exact (below_size (by repeat (first | (with_reducible first | exact HB.out | apply below_alloc | apply pw_below_drewN | apply below_drew1 | refine below_set ?_ GE467.out | refine below_set ?_ GE478.out | refine below_set ?_ GE483.out) | exact HB.out))) : w.heap.size ≤ gb489)); have n10_ := Aside0.mk ((by rw [hg]; exact (below_size (by repeat (first | (with_reducible first | exact HB.out | apply below_alloc | apply pw_below_drewN | apply below_drew1 | refine below_set ?_ GE467.out | refine below_set ?_ GE478.out | refine below_set ?_ GE483.out) | exact HB.out))) : w.heap.size ≤ gb489)); have n11_ := Aside0.mk ((by rw [hg]; exact Nat.ne_of_lt (blk_lt (g := gb467) (o := .cells #[.int .i64 a0_0, .slice A0_1 l0_1.length c0_1] 24 (0, 0)) (by (with_reducible repeat (first | refine blk_drewN ?_ _ | refine blk_drew ?_ | refine blk_alloc ?_ _)); exact BK467.out)) : gb467 ≠ gb489)); have n12_ := Aside0.mk ((by rw [hg]; exact Nat.ne_of_gt (blk_lt (g := gb467) (o := .cells #[.int .i64 a0_0, .slice A0_1 l0_1.length c0_1] 24 (0, 0)) (by (with_reducible repeat (first | refine blk_drewN ?_ _ | refine blk_drew ?_ | refine blk_alloc ?_ _)); exact BK467.out)) : gb489 ≠ gb467)); have n13_ := Aside0.mk ((by rw [hg]; exact Nat.ne_of_lt (blk_lt (g := gb478) (o := .cells #[.int .i64 t473, .slice Ao23 t474.length co23] 27 (0, 0)) (by (with_reducible repeat (first | refine blk_drewN ?_ _ | refine blk_drew ?_ | refine blk_alloc ?_ _)); exact BK478.out)) : gb478 ≠ gb489)); have n14_ := Aside0.mk ((by rw [hg]; exact Nat.ne_of_gt (blk_lt (g := gb478) (o := .cells #[.int .i64 t473, .slice Ao23 t474.length co23] 27 (0, 0)) (by (with_reducible repeat (first | refine blk_drewN ?_ _ | refine blk_drew ?_ | refine blk_alloc ?_ _)); exact BK478.out)) : gb489 ≠ gb478)); have n15_ := Aside0.mk ((by rw [hg]; exact Nat.ne_of_lt (blk_lt (g := gb483) (o := .cells #[.int .i64 t479, .slice Ao30 t480.length co30] 27 (0, 0)) (by (with_reducible repeat (first | refine blk_drewN ?_ _ | refine blk_drew ?_ | refine blk_alloc ?_ _)); exact BK483.out)) : gb483 ≠ gb489)); have n16_ := Aside0.mk ((by rw [hg]; exact Nat.ne_of_gt (blk_lt (g := gb483) (o := .cells #[.int .i64 t479, .slice Ao30 t480.length co30] 27 (0, 0)) (by (with_reducible repeat (first | refine blk_drewN ?_ _ | refine blk_drew ?_ | refine blk_alloc ?_ _)); exact BK483.out)) : gb489 ≠ gb483)); clear HO472; clear HO476; clear HO482; clear HO487; clear BK467; clear BK478; clear BK483; clear HB; have HO472 := n0_; have HO476 := n1_; have HO482 := n2_; have HO487 := n3_; have BK467 := n4_; have BK478 := n5_; have BK483 := n6_; have HB := n7_; have BK489 := n8_; have GW489 := n9_; have GE489 := n10_; have NB467_489 := n11_; have NB489_467 := n12_; have NB478_489 := n13_; have NB489_478 := n14_; have NB483_489 := n15_; have NB489_483 := n16_; clear n0_ n1_ n2_ n3_ n4_ n5_ n6_ n7_ n8_ n9_ n10_ n11_ n12_ n13_ n14_ n15_ n16_; clear hb hbox hg; have hnb33 := NB489_467.out; have hnc33 := NB467_489.out; have hnb34 := NB489_478.out; have hnc34 := NB478_489.out; have hnb35 := NB489_483.out; have hnc35 := NB483_489.out; have hcz36_0 : w32.cell? ⟨gb489, 0, none⟩ = some (.int .i64 0) := (blk_cell BK489.out 0).trans rfl; have hcz36_1 : w32.cell? ⟨gb489, 1, none⟩ = some (.slice none 0 0) := (blk_cell BK489.out 1).trans rfl; have hfz36_0 := blk_frozen BK489.out 0; have hfz36_1 := blk_frozen BK489.out 1; obtain ⟨Ao37, co37, eo37⟩ := Kd.R_slice HO487.out; subst eo37))
    (try simp only [Act.put, List.setIfInBounds_toArray, List.set_cons_zero, List.set_cons_succ])
    go_cut [44] (fun v44 wc => ∃ (kq : Nat) (x44_11 : Bool), v44 = .bool x44_11 ∧ Aside0 (laws_FnExactTurnCube.j0 kq a1 t477 t488 x44_11 a0_0 l0_1 t473 t474 t479 t480 t484 t485 = some r) ∧ Aside0 (kq ≤ k) ∧ Aside0 (Kd.R (Kd.int .i64) 2 wc w.heap.size (fun k_ => some k_ ≠ ((.slice Ao30 t480.length co30) : Value).ownBlock ∧ some k_ ≠ ((.slice Ao37 t485.length co37) : Value).ownBlock) (.slice Ao23 t474.length co23) t474) ∧ Aside0 (Kd.R (Kd.int .i64) 2 wc w.heap.size (fun k_ => some k_ ≠ ((.slice Ao23 t474.length co23) : Value).ownBlock ∧ some k_ ≠ ((.slice Ao37 t485.length co37) : Value).ownBlock) (.slice Ao30 t480.length co30) t480) ∧ Aside0 (Kd.R (Kd.int .i64) 2 wc w.heap.size (fun k_ => some k_ ≠ ((.slice Ao23 t474.length co23) : Value).ownBlock ∧ some k_ ≠ ((.slice Ao30 t480.length co30) : Value).ownBlock) (.slice Ao37 t485.length co37) t485) ∧ Aside0 (wc.heap[gb467]? = some (.cells #[.int .i64 a0_0, (.slice A0_1 l0_1.length c0_1)] 24 (0, 0))) ∧ Aside0 (wc.heap[gb478]? = some (.cells #[.int .i64 t473, (.slice Ao23 t474.length co23)] 27 (0, 0))) ∧ Aside0 (wc.heap[gb483]? = some (.cells #[.int .i64 t479, (.slice Ao30 t480.length co30)] 27 (0, 0))) ∧ Aside0 (wc.heap[gb489]? = some (.cells #[.int .i64 t484, (.slice Ao37 t485.length co37)] 27 (0, 0))) ∧ Aside0 (Below w.heap.size w wc))
    case first =>
      have H := HC12.out
      clear HC12
      replace H := Option.bind_eq_some_iff.mp H
      obtain ⟨t490, A380, H⟩ := H
      replace H : (if t490 = true then (laws_FnExactTurnCube.j0 k a1 t477 t488 (t488 != t477) a0_0 l0_1 t473 t474 t479 t480 t484 t485) else (laws_FnExactTurnCube.j0 k a1 t477 t488 true a0_0 l0_1 t473 t474 t479 t480 t484 t485)) = some r := H
      have A38 := Aside0.mk A380
      clear A380
      by_cases c39 : t490 = true
      · subst c39
        have H1 : (laws_FnExactTurnCube.j0 k a1 t477 t488 (t488 != t477) a0_0 l0_1 t473 t474 t479 t480 t484 t485) = some r := by rw [if_pos rfl] at H; exact H
        clear H
        have H := H1
        clear H1
        have H' := Aside0.mk H
        clear H
        have hnb40 := NB489_467.out
        have hnc40 := NB467_489.out
        have hnb41 := NB489_478.out
        have hnc41 := NB478_489.out
        have hnb42 := NB489_483.out
        have hnc42 := NB483_489.out
        have hcz43_0 : w32.cell? ⟨gb489, 0, none⟩ = some (.int .i64 0) := (blk_cell BK489.out 0).trans rfl
        have hcz43_1 : w32.cell? ⟨gb489, 1, none⟩ = some (.slice none 0 0) := (blk_cell BK489.out 1).trans rfl
        have hfz43_0 := blk_frozen BK489.out 0
        have hfz43_1 := blk_frozen BK489.out 1
        have hnb44 := NB478_467.out
        have hnc44 := NB467_478.out
        have hnb45 := NB478_483.out
        have hnc45 := NB483_478.out
        have hcz46_0 : w32.cell? ⟨gb478, 0, none⟩ = some (.int .i64 t473) := (blk_cell BK478.out 0).trans rfl
        have hcz46_1 : w32.cell? ⟨gb478, 1, none⟩ = some (.slice Ao23 t474.length co23) := (blk_cell BK478.out 1).trans rfl
        have hfz46_0 := blk_frozen BK478.out 0
        have hfz46_1 := blk_frozen BK478.out 1
        go_wp2_with (first | ((with_reducible refine gate_callee (f := 19) rfl ?_); refine goesL_ (some 38) rfl rfl Try.func19 (by kernel_rfl) rfl #[.agg #[.int .i64 t484, .slice Ao37 t485.length co37], .agg #[.int .i64 t473, .slice Ao23 t474.length co23]] rfl (by (try simp only [List.map_toArray, List.map_cons, List.map_nil]); first | done | rfl | (simp only [List.length_drop, List.length_take]; rfl)) ?_; (with_reducible refine (laws_eqCube.calls k t484 _ _ t485 t473 _ _ t474 true _ ?side1 ?side2 ?side3 ?side4 A38.out).mono ?_); (case side1 => refine (Kd.R_reads' (e := 2) (base := w.heap.size) (ok := fun k_ => (((True ∧ some k_ ≠ (.slice Ao18 t470.length co18 : Value).ownBlock) ∧ some k_ ≠ (.slice Ao23 t474.length co23 : Value).ownBlock) ∧ some k_ ≠ (.slice Ao30 t480.length co30 : Value).ownBlock)) (n := t485.length) (c := co37) ?_).2.2; exact (by (with_reducible repeat (first | apply Kd.R_alloc | apply Kd.R_drewN | apply Kd.R_drew)); exact (Kd.R_mono (Kd.R_far (p := ⟨gb489, 1, none⟩) (Kd.R_far (p := ⟨gb489, 0, none⟩) (Kd.R_types HO487.out BK489.out (by decide)) (fun _ hk => hk.2) (.int .i64 t484)) (fun _ hk => hk.2) (.slice Ao37 t485.length co37)) (fun _ h_ => h_.1)))); (case side2 => exact (Kd.R_reads' HO487.out).2.1); (case side3 => refine (Kd.R_reads' (e := 2) (base := w.heap.size) (ok := fun k_ => (((True ∧ some k_ ≠ (.slice Ao18 t470.length co18 : Value).ownBlock) ∧ some k_ ≠ (.slice Ao30 t480.length co30 : Value).ownBlock) ∧ some k_ ≠ (.slice Ao37 t485.length co37 : Value).ownBlock)) (n := t474.length) (c := co23) ?_).2.2; exact (by (with_reducible repeat (first | apply Kd.R_alloc | apply Kd.R_drewN | apply Kd.R_drew)); exact (Kd.R_mono (Kd.R_far (p := ⟨gb489, 1, none⟩) (Kd.R_far (p := ⟨gb489, 0, none⟩) (Kd.R_types HO476.out BK489.out (by decide)) (fun _ hk => hk.2) (.int .i64 t484)) (fun _ hk => hk.2) (.slice Ao37 t485.length co37)) (fun _ h_ => h_.1)))); (case side4 => exact (Kd.R_reads' HO476.out).2.1); rintro e w47 ⟨rfl, hb⟩; refine ⟨_, rfl, ?_⟩; have n0_ := Aside0.mk (Kd.R_below (by (with_reducible repeat (first | apply Kd.R_alloc | apply Kd.R_drewN | apply Kd.R_drew)); exact (Kd.R_mono (Kd.R_far (p := ⟨gb489, 1, none⟩) (Kd.R_far (p := ⟨gb489, 0, none⟩) (Kd.R_types HO472.out BK489.out (by decide)) (fun _ hk => hk.2) (.int .i64 t484)) (fun _ hk => hk.2) (.slice Ao37 t485.length co37)) (fun _ h_ => h_.1))) hb); have n1_ := Aside0.mk (Kd.R_below (by (with_reducible repeat (first | apply Kd.R_alloc | apply Kd.R_drewN | apply Kd.R_drew)); exact (Kd.R_mono (Kd.R_far (p := ⟨gb489, 1, none⟩) (Kd.R_far (p := ⟨gb489, 0, none⟩) (Kd.R_types HO476.out BK489.out (by decide)) (fun _ hk => hk.2) (.int .i64 t484)) (fun _ hk => hk.2) (.slice Ao37 t485.length co37)) (fun _ h_ => h_.1))) hb); have n2_ := Aside0.mk (Kd.R_below (by (with_reducible repeat (first | apply Kd.R_alloc | apply Kd.R_drewN | apply Kd.R_drew)); exact (Kd.R_mono (Kd.R_far (p := ⟨gb489, 1, none⟩) (Kd.R_far (p := ⟨gb489, 0, none⟩) (Kd.R_types HO482.out BK489.out (by decide)) (fun _ hk => hk.2) (.int .i64 t484)) (fun _ hk => hk.2) (.slice Ao37 t485.length co37)) (fun _ h_ => h_.1))) hb); have n3_ := Aside0.mk (Kd.R_below (by (with_reducible repeat (first | apply Kd.R_alloc | apply Kd.R_drewN | apply Kd.R_drew)); exact (Kd.R_mono (Kd.R_far (p := ⟨gb489, 1, none⟩) (Kd.R_far (p := ⟨gb489, 0, none⟩) (Kd.R_types HO487.out BK489.out (by decide)) (fun _ hk => hk.2) (.int .i64 t484)) (fun _ hk => hk.2) (.slice Ao37 t485.length co37)) (fun _ h_ => h_.1))) hb); have n4_ := Aside0.mk (blk_below (g := gb467) (o := .cells #[.int .i64 a0_0, .slice A0_1 l0_1.length c0_1] 24 (0, 0)) (by (with_reducible repeat (first | refine blk_drewN ?_ _ | refine blk_drew ?_ | refine blk_alloc ?_ _)); refine blk_far ?_ NB467_489.out _; (with_reducible repeat (first | refine blk_drewN ?_ _ | refine blk_drew ?_ | refine blk_alloc ?_ _)); refine blk_far ?_ NB467_489.out _; (with_reducible repeat (first | refine blk_drewN ?_ _ | refine blk_drew ?_ | refine blk_alloc ?_ _)); exact BK467.out) hb); have n5_ := Aside0.mk (blk_below (g := gb478) (o := .cells #[.int .i64 t473, .slice Ao23 t474.length co23] 27 (0, 0)) (by (with_reducible repeat (first | refine blk_drewN ?_ _ | refine blk_drew ?_ | refine blk_alloc ?_ _)); refine blk_far ?_ NB478_489.out _; (with_reducible repeat (first | refine blk_drewN ?_ _ | refine blk_drew ?_ | refine blk_alloc ?_ _)); refine blk_far ?_ NB478_489.out _; (with_reducible repeat (first | refine blk_drewN ?_ _ | refine blk_drew ?_ | refine blk_alloc ?_ _)); exact BK478.out) hb); have n6_ := Aside0.mk (blk_below (g := gb483) (o := .cells #[.int .i64 t479, .slice Ao30 t480.length co30] 27 (0, 0)) (by (with_reducible repeat (first | refine blk_drewN ?_ _ | refine blk_drew ?_ | refine blk_alloc ?_ _)); refine blk_far ?_ NB483_489.out _; (with_reducible repeat (first | refine blk_drewN ?_ _ | refine blk_drew ?_ | refine blk_alloc ?_ _)); refine blk_far ?_ NB483_489.out _; (with_reducible repeat (first | refine blk_drewN ?_ _ | refine blk_drew ?_ | refine blk_alloc ?_ _)); exact BK483.out) hb); have n7_ := Aside0.mk (blk_below (g := gb489) (o := .cells #[.int .i64 t484, .slice Ao37 t485.length co37] 27 (0, 0)) (by (with_reducible repeat (first | refine blk_drewN ?_ _ | refine blk_drew ?_ | refine blk_alloc ?_ _)); refine blk_put (cs := #[.int .i64 t484, .slice none 0 0]) ?_ 1 _ rfl; (with_reducible repeat (first | refine blk_drewN ?_ _ | refine blk_drew ?_ | refine blk_alloc ?_ _)); refine blk_put (cs := #[.int .i64 0, .slice none 0 0]) ?_ 0 _ rfl; (with_reducible repeat (first | refine blk_drewN ?_ _ | refine blk_drew ?_ | refine blk_alloc ?_ _)); exact BK489.out) hb); have n8_ := Aside0.mk (below_step (by repeat (first | (with_reducible first | exact HB.out | apply below_alloc | apply pw_below_drewN | apply below_drew1 | refine below_set ?_ GE467.out | refine below_set ?_ GE478.out | refine below_set ?_ GE483.out | refine below_set ?_ GE489.out) | exact HB.out)) hb); clear HO472; clear HO476; clear HO482; clear HO487; clear BK467; clear BK478; clear BK483; clear BK489; clear HB; have HO472 := n0_; have HO476 := n1_; have HO482 := n2_; have HO487 := n3_; have BK467 := n4_; have BK478 := n5_; have BK483 := n6_; have BK489 := n7_; have HB := n8_; clear n0_ n1_ n2_ n3_ n4_ n5_ n6_ n7_ n8_; (try clear hb); (try clear hb2); (try clear hk); (try clear hi)))
        go_meet
        case rel => exact ⟨_, ((t488 != t477)), (by first | rfl | (simp; done) | (simp [*]; done)), H', ⟨by first | omega | exact Nat.le_refl _⟩, ⟨by (with_reducible repeat (first | apply Kd.R_alloc | apply Kd.R_drewN | apply Kd.R_drew)); exact Kd.R_mono HO476.out (fun _ hk => ⟨hk.1.2, hk.2⟩)⟩, ⟨by (with_reducible repeat (first | apply Kd.R_alloc | apply Kd.R_drewN | apply Kd.R_drew)); exact Kd.R_mono HO482.out (fun _ hk => ⟨hk.1.2, hk.2⟩)⟩, ⟨by (with_reducible repeat (first | apply Kd.R_alloc | apply Kd.R_drewN | apply Kd.R_drew)); exact Kd.R_mono HO487.out (fun _ hk => ⟨hk.1.2, hk.2⟩)⟩, ⟨by (with_reducible repeat (first | refine blk_drewN ?_ _ | refine blk_drew ?_ | refine blk_alloc ?_ _)); exact BK467.out⟩, ⟨by (with_reducible repeat (first | refine blk_drewN ?_ _ | refine blk_drew ?_ | refine blk_alloc ?_ _)); exact BK478.out⟩, ⟨by (with_reducible repeat (first | refine blk_drewN ?_ _ | refine blk_drew ?_ | refine blk_alloc ?_ _)); exact BK483.out⟩, ⟨by (with_reducible repeat (first | refine blk_drewN ?_ _ | refine blk_drew ?_ | refine blk_alloc ?_ _)); exact BK489.out⟩, ⟨by repeat (first | (with_reducible first | exact HB.out | apply below_alloc | apply pw_below_drewN | apply below_drew1 | refine below_set ?_ GE467.out | refine below_set ?_ GE478.out | refine below_set ?_ GE483.out | refine below_set ?_ GE489.out) | exact HB.out)⟩⟩
      · replace c39 := Bool.eq_false_iff.mpr c39
        subst c39
        have H1 : (laws_FnExactTurnCube.j0 k a1 t477 t488 true a0_0 l0_1 t473 t474 t479 t480 t484 t485) = some r := by rw [if_neg (show ¬ (false = true) by decide)] at H; exact H
        clear H
        have H := H1
        clear H1
        have H' := Aside0.mk H
        clear H
        have hnb48 := NB489_467.out
        have hnc48 := NB467_489.out
        have hnb49 := NB489_478.out
        have hnc49 := NB478_489.out
        have hnb50 := NB489_483.out
        have hnc50 := NB483_489.out
        have hcz51_0 : w32.cell? ⟨gb489, 0, none⟩ = some (.int .i64 0) := (blk_cell BK489.out 0).trans rfl
        have hcz51_1 : w32.cell? ⟨gb489, 1, none⟩ = some (.slice none 0 0) := (blk_cell BK489.out 1).trans rfl
        have hfz51_0 := blk_frozen BK489.out 0
        have hfz51_1 := blk_frozen BK489.out 1
        have hnb52 := NB478_467.out
        have hnc52 := NB467_478.out
        have hnb53 := NB478_483.out
        have hnc53 := NB483_478.out
        have hcz54_0 : w32.cell? ⟨gb478, 0, none⟩ = some (.int .i64 t473) := (blk_cell BK478.out 0).trans rfl
        have hcz54_1 : w32.cell? ⟨gb478, 1, none⟩ = some (.slice Ao23 t474.length co23) := (blk_cell BK478.out 1).trans rfl
        have hfz54_0 := blk_frozen BK478.out 0
        have hfz54_1 := blk_frozen BK478.out 1
        go_wp2_with (first | ((with_reducible refine gate_callee (f := 19) rfl ?_); refine goesL_ (some 38) rfl rfl Try.func19 (by kernel_rfl) rfl #[.agg #[.int .i64 t484, .slice Ao37 t485.length co37], .agg #[.int .i64 t473, .slice Ao23 t474.length co23]] rfl (by (try simp only [List.map_toArray, List.map_cons, List.map_nil]); first | done | rfl | (simp only [List.length_drop, List.length_take]; rfl)) ?_; (with_reducible refine (laws_eqCube.calls k t484 _ _ t485 t473 _ _ t474 false _ ?side1 ?side2 ?side3 ?side4 A38.out).mono ?_); (case side1 => refine (Kd.R_reads' (e := 2) (base := w.heap.size) (ok := fun k_ => (((True ∧ some k_ ≠ (.slice Ao18 t470.length co18 : Value).ownBlock) ∧ some k_ ≠ (.slice Ao23 t474.length co23 : Value).ownBlock) ∧ some k_ ≠ (.slice Ao30 t480.length co30 : Value).ownBlock)) (n := t485.length) (c := co37) ?_).2.2; exact (by (with_reducible repeat (first | apply Kd.R_alloc | apply Kd.R_drewN | apply Kd.R_drew)); exact (Kd.R_mono (Kd.R_far (p := ⟨gb489, 1, none⟩) (Kd.R_far (p := ⟨gb489, 0, none⟩) (Kd.R_types HO487.out BK489.out (by decide)) (fun _ hk => hk.2) (.int .i64 t484)) (fun _ hk => hk.2) (.slice Ao37 t485.length co37)) (fun _ h_ => h_.1)))); (case side2 => exact (Kd.R_reads' HO487.out).2.1); (case side3 => refine (Kd.R_reads' (e := 2) (base := w.heap.size) (ok := fun k_ => (((True ∧ some k_ ≠ (.slice Ao18 t470.length co18 : Value).ownBlock) ∧ some k_ ≠ (.slice Ao30 t480.length co30 : Value).ownBlock) ∧ some k_ ≠ (.slice Ao37 t485.length co37 : Value).ownBlock)) (n := t474.length) (c := co23) ?_).2.2; exact (by (with_reducible repeat (first | apply Kd.R_alloc | apply Kd.R_drewN | apply Kd.R_drew)); exact (Kd.R_mono (Kd.R_far (p := ⟨gb489, 1, none⟩) (Kd.R_far (p := ⟨gb489, 0, none⟩) (Kd.R_types HO476.out BK489.out (by decide)) (fun _ hk => hk.2) (.int .i64 t484)) (fun _ hk => hk.2) (.slice Ao37 t485.length co37)) (fun _ h_ => h_.1)))); (case side4 => exact (Kd.R_reads' HO476.out).2.1); rintro e w55 ⟨rfl, hb⟩; refine ⟨_, rfl, ?_⟩; have n0_ := Aside0.mk (Kd.R_below (by (with_reducible repeat (first | apply Kd.R_alloc | apply Kd.R_drewN | apply Kd.R_drew)); exact (Kd.R_mono (Kd.R_far (p := ⟨gb489, 1, none⟩) (Kd.R_far (p := ⟨gb489, 0, none⟩) (Kd.R_types HO472.out BK489.out (by decide)) (fun _ hk => hk.2) (.int .i64 t484)) (fun _ hk => hk.2) (.slice Ao37 t485.length co37)) (fun _ h_ => h_.1))) hb); have n1_ := Aside0.mk (Kd.R_below (by (with_reducible repeat (first | apply Kd.R_alloc | apply Kd.R_drewN | apply Kd.R_drew)); exact (Kd.R_mono (Kd.R_far (p := ⟨gb489, 1, none⟩) (Kd.R_far (p := ⟨gb489, 0, none⟩) (Kd.R_types HO476.out BK489.out (by decide)) (fun _ hk => hk.2) (.int .i64 t484)) (fun _ hk => hk.2) (.slice Ao37 t485.length co37)) (fun _ h_ => h_.1))) hb); have n2_ := Aside0.mk (Kd.R_below (by (with_reducible repeat (first | apply Kd.R_alloc | apply Kd.R_drewN | apply Kd.R_drew)); exact (Kd.R_mono (Kd.R_far (p := ⟨gb489, 1, none⟩) (Kd.R_far (p := ⟨gb489, 0, none⟩) (Kd.R_types HO482.out BK489.out (by decide)) (fun _ hk => hk.2) (.int .i64 t484)) (fun _ hk => hk.2) (.slice Ao37 t485.length co37)) (fun _ h_ => h_.1))) hb); have n3_ := Aside0.mk (Kd.R_below (by (with_reducible repeat (first | apply Kd.R_alloc | apply Kd.R_drewN | apply Kd.R_drew)); exact (Kd.R_mono (Kd.R_far (p := ⟨gb489, 1, none⟩) (Kd.R_far (p := ⟨gb489, 0, none⟩) (Kd.R_types HO487.out BK489.out (by decide)) (fun _ hk => hk.2) (.int .i64 t484)) (fun _ hk => hk.2) (.slice Ao37 t485.length co37)) (fun _ h_ => h_.1))) hb); have n4_ := Aside0.mk (blk_below (g := gb467) (o := .cells #[.int .i64 a0_0, .slice A0_1 l0_1.length c0_1] 24 (0, 0)) (by (with_reducible repeat (first | refine blk_drewN ?_ _ | refine blk_drew ?_ | refine blk_alloc ?_ _)); refine blk_far ?_ NB467_489.out _; (with_reducible repeat (first | refine blk_drewN ?_ _ | refine blk_drew ?_ | refine blk_alloc ?_ _)); refine blk_far ?_ NB467_489.out _; (with_reducible repeat (first | refine blk_drewN ?_ _ | refine blk_drew ?_ | refine blk_alloc ?_ _)); exact BK467.out) hb); have n5_ := Aside0.mk (blk_below (g := gb478) (o := .cells #[.int .i64 t473, .slice Ao23 t474.length co23] 27 (0, 0)) (by (with_reducible repeat (first | refine blk_drewN ?_ _ | refine blk_drew ?_ | refine blk_alloc ?_ _)); refine blk_far ?_ NB478_489.out _; (with_reducible repeat (first | refine blk_drewN ?_ _ | refine blk_drew ?_ | refine blk_alloc ?_ _)); refine blk_far ?_ NB478_489.out _; (with_reducible repeat (first | refine blk_drewN ?_ _ | refine blk_drew ?_ | refine blk_alloc ?_ _)); exact BK478.out) hb); have n6_ := Aside0.mk (blk_below (g := gb483) (o := .cells #[.int .i64 t479, .slice Ao30 t480.length co30] 27 (0, 0)) (by (with_reducible repeat (first | refine blk_drewN ?_ _ | refine blk_drew ?_ | refine blk_alloc ?_ _)); refine blk_far ?_ NB483_489.out _; (with_reducible repeat (first | refine blk_drewN ?_ _ | refine blk_drew ?_ | refine blk_alloc ?_ _)); refine blk_far ?_ NB483_489.out _; (with_reducible repeat (first | refine blk_drewN ?_ _ | refine blk_drew ?_ | refine blk_alloc ?_ _)); exact BK483.out) hb); have n7_ := Aside0.mk (blk_below (g := gb489) (o := .cells #[.int .i64 t484, .slice Ao37 t485.length co37] 27 (0, 0)) (by (with_reducible repeat (first | refine blk_drewN ?_ _ | refine blk_drew ?_ | refine blk_alloc ?_ _)); refine blk_put (cs := #[.int .i64 t484, .slice none 0 0]) ?_ 1 _ rfl; (with_reducible repeat (first | refine blk_drewN ?_ _ | refine blk_drew ?_ | refine blk_alloc ?_ _)); refine blk_put (cs := #[.int .i64 0, .slice none 0 0]) ?_ 0 _ rfl; (with_reducible repeat (first | refine blk_drewN ?_ _ | refine blk_drew ?_ | refine blk_alloc ?_ _)); exact BK489.out) hb); have n8_ := Aside0.mk (below_step (by repeat (first | (with_reducible first | exact HB.out | apply below_alloc | apply pw_below_drewN | apply below_drew1 | refine below_set ?_ GE467.out | refine below_set ?_ GE478.out | refine below_set ?_ GE483.out | refine below_set ?_ GE489.out) | exact HB.out)) hb); clear HO472; clear HO476; clear HO482; clear HO487; clear BK467; clear BK478; clear BK483; clear BK489; clear HB; have HO472 := n0_; have HO476 := n1_; have HO482 := n2_; have HO487 := n3_; have BK467 := n4_; have BK478 := n5_; have BK483 := n6_; have BK489 := n7_; have HB := n8_; clear n0_ n1_ n2_ n3_ n4_ n5_ n6_ n7_ n8_; (try clear hb); (try clear hb2); (try clear hk); (try clear hi)))
        go_meet
        case rel => exact ⟨_, (true), (by first | rfl | (simp; done) | (simp [*]; done)), H', ⟨by first | omega | exact Nat.le_refl _⟩, ⟨by (with_reducible repeat (first | apply Kd.R_alloc | apply Kd.R_drewN | apply Kd.R_drew)); exact Kd.R_mono HO476.out (fun _ hk => ⟨hk.1.2, hk.2⟩)⟩, ⟨by (with_reducible repeat (first | apply Kd.R_alloc | apply Kd.R_drewN | apply Kd.R_drew)); exact Kd.R_mono HO482.out (fun _ hk => ⟨hk.1.2, hk.2⟩)⟩, ⟨by (with_reducible repeat (first | apply Kd.R_alloc | apply Kd.R_drewN | apply Kd.R_drew)); exact Kd.R_mono HO487.out (fun _ hk => ⟨hk.1.2, hk.2⟩)⟩, ⟨by (with_reducible repeat (first | refine blk_drewN ?_ _ | refine blk_drew ?_ | refine blk_alloc ?_ _)); exact BK467.out⟩, ⟨by (with_reducible repeat (first | refine blk_drewN ?_ _ | refine blk_drew ?_ | refine blk_alloc ?_ _)); exact BK478.out⟩, ⟨by (with_reducible repeat (first | refine blk_drewN ?_ _ | refine blk_drew ?_ | refine blk_alloc ?_ _)); exact BK483.out⟩, ⟨by (with_reducible repeat (first | refine blk_drewN ?_ _ | refine blk_drew ?_ | refine blk_alloc ?_ _)); exact BK489.out⟩, ⟨by repeat (first | (with_reducible first | exact HB.out | apply below_alloc | apply pw_below_drewN | apply below_drew1 | refine below_set ?_ GE467.out | refine below_set ?_ GE478.out | refine below_set ?_ GE483.out | refine below_set ?_ GE489.out) | exact HB.out)⟩⟩
    case rest =>
      clear HC12
      try clear c1
      try clear c2
      try clear p2
      try clear c3
      try clear c4
      try clear c4b0
      try clear c5
      try clear c9
      try clear c15
      try clear c17
      try clear c19
      try clear c21
      try clear c27
      try clear c28
      try clear c33
      try clear c34
      try clear c35
      try clear c38
      try clear c39
      try clear c40
      try clear c41
      try clear c42
      try clear c44
      try clear c45
      try clear c48
      try clear c49
      try clear c50
      try clear c52
      try clear c53
      try clear hcz14_0
      try clear hcz14_1
      try clear hcz16_0
      try clear hcz16_1
      try clear hcz22_0
      try clear hcz22_1
      try clear hcz24_0
      try clear hcz24_1
      try clear hcz29_0
      try clear hcz29_1
      try clear hcz36_0
      try clear hcz36_1
      try clear hcz43_0
      try clear hcz43_1
      try clear hcz46_0
      try clear hcz46_1
      try clear hcz51_0
      try clear hcz51_1
      try clear hcz54_0
      try clear hcz54_1
      try clear hcz6_0
      try clear hcz6_1
      try clear hfz14_0
      try clear hfz14_1
      try clear hfz16_0
      try clear hfz16_1
      try clear hfz22_0
      try clear hfz22_1
      try clear hfz24_0
      try clear hfz24_1
      try clear hfz29_0
      try clear hfz29_1
      try clear hfz36_0
      try clear hfz36_1
      try clear hfz43_0
      try clear hfz43_1
      try clear hfz46_0
      try clear hfz46_1
      try clear hfz51_0
      try clear hfz51_1
      try clear hfz54_0
      try clear hfz54_1
      try clear hfz6_0
      try clear hfz6_1
      obtain ⟨kq, x44_11, rfl, HA, HJ11, HO_479001, HO_484001, HO_490001, BK467, BK478, BK483, BK489, HB⟩ := hcut
      cases kq with
      | zero => exact absurd HA.out (by simp [laws_FnExactTurnCube.j0])
      | succ kj11 =>
        have H := HA.out
        clear HA
        simp only [laws_FnExactTurnCube.j0] at H
        by_cases c56 : x44_11 = true
        · subst c56
          have H1 : (some false) = some r := by rw [if_pos rfl] at H; exact H
          clear H
          have H := H1
          clear H1
          obtain rfl := Option.some.inj H
          go_wp2
          go_ret
          exact ⟨by first | rfl | (simp [errW_none, errW_some] <;> rfl) | (simp [*, errW_none, errW_some] <;> rfl), by repeat (first | (with_reducible first | exact HB.out | apply below_alloc | apply pw_below_drewN | apply below_drew1 | refine below_set ?_ GE467.out | refine below_set ?_ GE478.out | refine below_set ?_ GE483.out | refine below_set ?_ GE489.out) | exact HB.out)⟩
        · replace c56 := Bool.eq_false_iff.mpr c56
          subst c56
          have H1 : ((laws_toCube.f kj11 a0_0 l0_1).bind fun bt491 => ((laws_eqCube.f kj11 t479 t480 bt491.1 bt491.2).bind fun t495 => (if t495 = true then ((laws_markCube.f kj11 t479 t480 1).bind fun bt496 => (if bt496.1 < 0 then (laws_FnExactTurnCube.j1 kj11 a1 t477 true a0_0 l0_1 t473 t474 t484 t485) else ((laws_eqCube.f kj11 t484 t485 t473 t474).bind fun t498 => (if t498 = true then (laws_FnExactTurnCube.j1 kj11 a1 t477 (t488 != t477) a0_0 l0_1 t473 t474 t484 t485) else (laws_FnExactTurnCube.j1 kj11 a1 t477 true a0_0 l0_1 t473 t474 t484 t485))))) else (some false)))) = some r := by rw [if_neg (show ¬ (false = true) by decide)] at H; exact H
          clear H
          have H := H1
          clear H1
          replace H := Option.bind_eq_some_iff.mp H
          obtain ⟨⟨t491, t492⟩, A570, H⟩ := H
          replace H : ((laws_eqCube.f kj11 t479 t480 t491 t492).bind fun t495 => (if t495 = true then ((laws_markCube.f kj11 t479 t480 1).bind fun bt496 => (if bt496.1 < 0 then (laws_FnExactTurnCube.j1 kj11 a1 t477 true a0_0 l0_1 t473 t474 t484 t485) else ((laws_eqCube.f kj11 t484 t485 t473 t474).bind fun t498 => (if t498 = true then (laws_FnExactTurnCube.j1 kj11 a1 t477 (t488 != t477) a0_0 l0_1 t473 t474 t484 t485) else (laws_FnExactTurnCube.j1 kj11 a1 t477 true a0_0 l0_1 t473 t474 t484 t485))))) else (some false))) = some r := H
          have A57 := Aside0.mk A570
          clear A570
          replace H := Option.bind_eq_some_iff.mp H
          obtain ⟨t495, A580, H⟩ := H
          replace H : (if t495 = true then ((laws_markCube.f kj11 t479 t480 1).bind fun bt496 => (if bt496.1 < 0 then (laws_FnExactTurnCube.j1 kj11 a1 t477 true a0_0 l0_1 t473 t474 t484 t485) else ((laws_eqCube.f kj11 t484 t485 t473 t474).bind fun t498 => (if t498 = true then (laws_FnExactTurnCube.j1 kj11 a1 t477 (t488 != t477) a0_0 l0_1 t473 t474 t484 t485) else (laws_FnExactTurnCube.j1 kj11 a1 t477 true a0_0 l0_1 t473 t474 t484 t485))))) else (some false)) = some r := H
          have A58 := Aside0.mk A580
          clear A580
          by_cases c59 : t495 = true
          · subst c59
            have H1 : ((laws_markCube.f kj11 t479 t480 1).bind fun bt496 => (if bt496.1 < 0 then (laws_FnExactTurnCube.j1 kj11 a1 t477 true a0_0 l0_1 t473 t474 t484 t485) else ((laws_eqCube.f kj11 t484 t485 t473 t474).bind fun t498 => (if t498 = true then (laws_FnExactTurnCube.j1 kj11 a1 t477 (t488 != t477) a0_0 l0_1 t473 t474 t484 t485) else (laws_FnExactTurnCube.j1 kj11 a1 t477 true a0_0 l0_1 t473 t474 t484 t485))))) = some r := by rw [if_pos rfl] at H; exact H
            clear H
            have H := H1
            clear H1
            replace H := Option.bind_eq_some_iff.mp H
            obtain ⟨⟨t496, t497⟩, A600, H⟩ := H
            replace H : (if t496 < 0 then (laws_FnExactTurnCube.j1 kj11 a1 t477 true a0_0 l0_1 t473 t474 t484 t485) else ((laws_eqCube.f kj11 t484 t485 t473 t474).bind fun t498 => (if t498 = true then (laws_FnExactTurnCube.j1 kj11 a1 t477 (t488 != t477) a0_0 l0_1 t473 t474 t484 t485) else (laws_FnExactTurnCube.j1 kj11 a1 t477 true a0_0 l0_1 t473 t474 t484 t485)))) = some r := H
            have A60 := Aside0.mk A600
            clear A600
            have HC61 := Aside0.mk H
            clear H
            try go_wp2
            have n0_ := Aside0.mk (Kd.R_drew HO_479001.out)
            have n1_ := Aside0.mk (Kd.R_drew HO_484001.out)
            have n2_ := Aside0.mk (Kd.R_drew HO_490001.out)
            have n3_ := Aside0.mk (blk_drew BK467.out)
            have n4_ := Aside0.mk (blk_drew BK478.out)
            have n5_ := Aside0.mk (blk_drew BK483.out)
            have n6_ := Aside0.mk (blk_drew BK489.out)
            have n7_ := Aside0.mk (below_drew1 HB.out)
            clear HO_479001
            clear HO_484001
            clear HO_490001
            clear BK467
            clear BK478
            clear BK483
            clear BK489
            clear HB
            have HO_479001 := n0_
            have HO_484001 := n1_
            have HO_490001 := n2_
            have BK467 := n3_
            have BK478 := n4_
            have BK483 := n5_
            have BK489 := n6_
            have HB := n7_
            clear n0_ n1_ n2_ n3_ n4_ n5_ n6_ n7_
            refine start_ (n := 5) (S := fun w' => w'.cell? ⟨gb483, 0, none⟩ = some (.int .i64 t479) ∧ w'.cell? ⟨gb483, 1, none⟩ = some (.slice Ao30 t480.length co30) ∧ w'.cell? ⟨gb467, 0, none⟩ = some (.int .i64 a0_0) ∧ w'.cell? ⟨gb467, 1, none⟩ = some (.slice A0_1 l0_1.length c0_1)) (ds := []) #[false, false, false, false, false] (by kernel_rfl) rfl rfl ⟨(blk_cell BK483.out 0).trans rfl, (blk_cell BK483.out 1).trans rfl, (blk_cell BK467.out 0).trans rfl, (blk_cell BK467.out 1).trans rfl⟩ (fun hHeld => ?_)
            generalize wc.drew = w62 at HO_479001 HO_484001 HO_490001 BK467 BK478 BK483 BK489 HB hHeld ⊢
            refine take_ (i := 0) (N := some 45) (v := ?_) (a' := ?_) #[true, false, false, false, false] rfl rfl (by kernel_rfl) (fun _ _ _ h => h) (Or.inl ⟨by rfl, ?_⟩) hHeld ?_ ?_
            rotate_left
            · rintro w' ⟨s0, s1, s2, s3⟩
              go_simp
              with_reducible rfl
            rotate_left
            · simp only [Act.put, List.setIfInBounds_toArray, List.set_cons_zero, List.set_cons_succ, i64_w, i32_w]
              rfl
            refine take_ (i := 1) (N := some 46) (v := ?_) (a' := ?_) #[true, true, false, false, false] rfl rfl (by kernel_rfl) (fun _ _ _ h => h) (Or.inl ⟨by rfl, ?_⟩) hHeld ?_ ?_
            rotate_left
            · rintro w' ⟨s0, s1, s2, s3⟩
              go_simp
              with_reducible rfl
            rotate_left
            · simp only [Act.put, List.setIfInBounds_toArray, List.set_cons_zero, List.set_cons_succ, i64_w, i32_w]
              rfl
            refine one_ (i := 2) (N := some 47) #[true, true, true, false, false] rfl rfl (by kernel_rfl) (by decide) (fun K hK => ?_)
            refine goes_ Try.func17 (by kernel_rfl) rfl #[.agg #[.int .i64 a0_0, .slice A0_1 l0_1.length c0_1]] (by rfl) rfl rfl (by (try simp only [List.map_toArray, List.map_cons, List.map_nil]); first | done | rfl | (simp only [List.length_drop, List.length_take]; rfl)) ?_
            with_reducible refine (laws_toCube.calls kj11 a0_0 _ _ l0_1 t491 t492 _ ?side1 ?side2 A57.out).mono ?_
            (case side1 => repeat (first | exact (Kd.C_below HR0_1.out HB.out) | (with_reducible refine Kd.C_alloc ?_ _) | (with_reducible refine Kd.C_drewN ?_ _) | (with_reducible refine Kd.C_drew ?_)))
            (case side2 => exact HC0_1.out)
            rintro e w63 ⟨v493, rfl, ho0, hb⟩
            refine ⟨_, rfl, ?_⟩
            have n0_ := Aside0.mk (Kd.R_elder' (by (with_reducible repeat (first | apply Kd.R_alloc | apply Kd.R_drewN | apply Kd.R_drew)); exact HO_479001.out) (Kd.R_base ho0) hb)
            have n1_ := Aside0.mk (Kd.R_elder' (by (with_reducible repeat (first | apply Kd.R_alloc | apply Kd.R_drewN | apply Kd.R_drew)); exact HO_484001.out) (Kd.R_base ho0) hb)
            have n2_ := Aside0.mk (Kd.R_elder' (by (with_reducible repeat (first | apply Kd.R_alloc | apply Kd.R_drewN | apply Kd.R_drew)); exact HO_490001.out) (Kd.R_base ho0) hb)
            have n3_ := Aside0.mk (Kd.R_lower (Kd.R_new' (Kd.R_new' (Kd.R_new' ho0 (Kd.R_lt (by (with_reducible repeat (first | apply Kd.R_alloc | apply Kd.R_drewN | apply Kd.R_drew)); exact HO_479001.out))) (Kd.R_lt (by (with_reducible repeat (first | apply Kd.R_alloc | apply Kd.R_drewN | apply Kd.R_drew)); exact HO_484001.out))) (Kd.R_lt (by (with_reducible repeat (first | apply Kd.R_alloc | apply Kd.R_drewN | apply Kd.R_drew)); exact HO_490001.out))) (below_size (by repeat (first | (with_reducible first | exact HB.out | apply below_alloc | apply pw_below_drewN | apply below_drew1 | refine below_set ?_ GE467.out | refine below_set ?_ GE478.out | refine below_set ?_ GE483.out | refine below_set ?_ GE489.out) | exact HB.out))))
            have n4_ := Aside0.mk (blk_below (g := gb467) (o := .cells #[.int .i64 a0_0, .slice A0_1 l0_1.length c0_1] 24 (0, 0)) (by (with_reducible repeat (first | refine blk_drewN ?_ _ | refine blk_drew ?_ | refine blk_alloc ?_ _)); exact BK467.out) hb)
            have n5_ := Aside0.mk (blk_below (g := gb478) (o := .cells #[.int .i64 t473, .slice Ao23 t474.length co23] 27 (0, 0)) (by (with_reducible repeat (first | refine blk_drewN ?_ _ | refine blk_drew ?_ | refine blk_alloc ?_ _)); exact BK478.out) hb)
            have n6_ := Aside0.mk (blk_below (g := gb483) (o := .cells #[.int .i64 t479, .slice Ao30 t480.length co30] 27 (0, 0)) (by (with_reducible repeat (first | refine blk_drewN ?_ _ | refine blk_drew ?_ | refine blk_alloc ?_ _)); exact BK483.out) hb)
            have n7_ := Aside0.mk (blk_below (g := gb489) (o := .cells #[.int .i64 t484, .slice Ao37 t485.length co37] 27 (0, 0)) (by (with_reducible repeat (first | refine blk_drewN ?_ _ | refine blk_drew ?_ | refine blk_alloc ?_ _)); exact BK489.out) hb)
            have n8_ := Aside0.mk (below_step (by repeat (first | (with_reducible first | exact HB.out | apply below_alloc | apply pw_below_drewN | apply below_drew1 | refine below_set ?_ GE467.out | refine below_set ?_ GE478.out | refine below_set ?_ GE483.out | refine below_set ?_ GE489.out) | exact HB.out)) hb)
            clear HO_479001
            clear HO_484001
            clear HO_490001
            clear BK467
            clear BK478
            clear BK483
            clear BK489
            clear HB
            have HO_479001 := n0_
            have HO_484001 := n1_
            have HO_490001 := n2_
            have HO494 := n3_
            have BK467 := n4_
            have BK478 := n5_
            have BK483 := n6_
            have BK489 := n7_
            have HB := n8_
            clear n0_ n1_ n2_ n3_ n4_ n5_ n6_ n7_ n8_
            (try clear hb)
            (try clear hb2)
            (try clear hk)
            (try clear hi)
            (try clear ho0)
            obtain ⟨Ao64, co64, eo64⟩ := Kd.R_slice HO494.out
            (first | subst eo64 | (injection eo64 with f1_ f2_ f3_; have f4_ := f1_.symm; have f5_ := f3_.symm; clear f1_ f2_ f3_; subst f4_; subst f5_))
            refine hK.out _ _ ⟨(blk_cell BK483.out 0).trans rfl, (blk_cell BK483.out 1).trans rfl, (blk_cell BK467.out 0).trans rfl, (blk_cell BK467.out 1).trans rfl⟩ (fun hHeld => ?_)
            clear hK K
            refine norm_ (a' := ?_) ?_ ?_
            rotate_left
            · show Act.put _ (some 47) _ = _
              simp only [Act.put, List.setIfInBounds_toArray, List.set_cons_zero, List.set_cons_succ, i64_w, i32_w]
              rfl
            refine one_ (i := 3) (N := some 48) #[true, true, true, true, false] rfl rfl (by kernel_rfl) (by decide) (fun K hK => ?_)
            refine goes_ Try.func19 (by kernel_rfl) rfl #[.agg #[.int .i64 t479, .slice Ao30 t480.length co30], .agg #[.int .i64 t491, .slice Ao64 t492.length co64]] (by rfl) rfl rfl (by (try simp only [List.map_toArray, List.map_cons, List.map_nil]); first | done | rfl | (simp only [List.length_drop, List.length_take]; rfl)) ?_
            with_reducible refine (laws_eqCube.calls kj11 t479 _ _ t480 t491 _ _ t492 true _ ?side1 ?side2 ?side3 ?side4 A58.out).mono ?_
            (case side1 => repeat (first | exact (Kd.R_reads' HO_484001.out).2.2 | (with_reducible refine Kd.C_alloc ?_ _) | (with_reducible refine Kd.C_drewN ?_ _) | (with_reducible refine Kd.C_drew ?_)))
            (case side2 => exact (Kd.R_reads' HO_484001.out).2.1)
            (case side3 => repeat (first | exact (Kd.R_reads' HO494.out).2.2 | (with_reducible refine Kd.C_alloc ?_ _) | (with_reducible refine Kd.C_drewN ?_ _) | (with_reducible refine Kd.C_drew ?_)))
            (case side4 => exact (Kd.R_reads' HO494.out).2.1)
            rintro e w65 ⟨rfl, hb⟩
            refine ⟨_, rfl, ?_⟩
            have n0_ := Aside0.mk (Kd.R_below (by (with_reducible repeat (first | apply Kd.R_alloc | apply Kd.R_drewN | apply Kd.R_drew)); exact HO_479001.out) hb)
            have n1_ := Aside0.mk (Kd.R_below (by (with_reducible repeat (first | apply Kd.R_alloc | apply Kd.R_drewN | apply Kd.R_drew)); exact HO_484001.out) hb)
            have n2_ := Aside0.mk (Kd.R_below (by (with_reducible repeat (first | apply Kd.R_alloc | apply Kd.R_drewN | apply Kd.R_drew)); exact HO_490001.out) hb)
            have n3_ := Aside0.mk (Kd.R_below (by (with_reducible repeat (first | apply Kd.R_alloc | apply Kd.R_drewN | apply Kd.R_drew)); exact HO494.out) hb)
            have n4_ := Aside0.mk (blk_below (g := gb467) (o := .cells #[.int .i64 a0_0, .slice A0_1 l0_1.length c0_1] 24 (0, 0)) (by (with_reducible repeat (first | refine blk_drewN ?_ _ | refine blk_drew ?_ | refine blk_alloc ?_ _)); exact BK467.out) hb)
            have n5_ := Aside0.mk (blk_below (g := gb478) (o := .cells #[.int .i64 t473, .slice Ao23 t474.length co23] 27 (0, 0)) (by (with_reducible repeat (first | refine blk_drewN ?_ _ | refine blk_drew ?_ | refine blk_alloc ?_ _)); exact BK478.out) hb)
            have n6_ := Aside0.mk (blk_below (g := gb483) (o := .cells #[.int .i64 t479, .slice Ao30 t480.length co30] 27 (0, 0)) (by (with_reducible repeat (first | refine blk_drewN ?_ _ | refine blk_drew ?_ | refine blk_alloc ?_ _)); exact BK483.out) hb)
            have n7_ := Aside0.mk (blk_below (g := gb489) (o := .cells #[.int .i64 t484, .slice Ao37 t485.length co37] 27 (0, 0)) (by (with_reducible repeat (first | refine blk_drewN ?_ _ | refine blk_drew ?_ | refine blk_alloc ?_ _)); exact BK489.out) hb)
            have n8_ := Aside0.mk (below_step (by repeat (first | (with_reducible first | exact HB.out | apply below_alloc | apply pw_below_drewN | apply below_drew1 | refine below_set ?_ GE467.out | refine below_set ?_ GE478.out | refine below_set ?_ GE483.out | refine below_set ?_ GE489.out) | exact HB.out)) hb)
            clear HO_479001
            clear HO_484001
            clear HO_490001
            clear HO494
            clear BK467
            clear BK478
            clear BK483
            clear BK489
            clear HB
            have HO_479001 := n0_
            have HO_484001 := n1_
            have HO_490001 := n2_
            have HO494 := n3_
            have BK467 := n4_
            have BK478 := n5_
            have BK483 := n6_
            have BK489 := n7_
            have HB := n8_
            clear n0_ n1_ n2_ n3_ n4_ n5_ n6_ n7_ n8_
            (try clear hb)
            (try clear hb2)
            (try clear hk)
            (try clear hi)
            refine hK.out _ _ ⟨(blk_cell BK483.out 0).trans rfl, (blk_cell BK483.out 1).trans rfl, (blk_cell BK467.out 0).trans rfl, (blk_cell BK467.out 1).trans rfl⟩ (fun hHeld => ?_)
            clear hK K
            refine norm_ (a' := ?_) ?_ ?_
            rotate_left
            · show Act.put _ (some 48) _ = _
              simp only [Act.put, List.setIfInBounds_toArray, List.set_cons_zero, List.set_cons_succ, i64_w, i32_w]
              rfl
            refine pure_ (i := 4) (N := some 49) (v := ?_) (a' := ?_) #[true, true, true, true, true] rfl rfl (by kernel_rfl) (fun _ _ _ h => h) (Or.inl ⟨by rfl, ?_⟩) ?_ ?_
            rotate_left
            · intro w'
              go_simp
              with_reducible rfl
            rotate_left
            · simp only [Act.put, List.setIfInBounds_toArray, List.set_cons_zero, List.set_cons_succ, i64_w, i32_w]
              rfl
            refine done_ (by kernel_rfl) ?_
            have hnb66 := NB483_467.out
            have hnc66 := NB467_483.out
            have hnb67 := NB483_478.out
            have hnc67 := NB478_483.out
            have hnb68 := NB483_489.out
            have hnc68 := NB489_483.out
            have hcz69_0 : w65.cell? ⟨gb483, 0, none⟩ = some (.int .i64 t479) := (blk_cell BK483.out 0).trans rfl
            have hcz69_1 : w65.cell? ⟨gb483, 1, none⟩ = some (.slice Ao30 t480.length co30) := (blk_cell BK483.out 1).trans rfl
            have hfz69_0 := blk_frozen BK483.out 0
            have hfz69_1 := blk_frozen BK483.out 1
            go_upto_region 14 with (first | ((with_reducible refine gate_callee (f := 27) rfl ?_); refine goesL_ (some 52) rfl rfl Try.func27 (by kernel_rfl) rfl #[.agg #[.int .i64 t479, .slice Ao30 t480.length co30], .int .i64 1] rfl (by (try simp only [List.map_toArray, List.map_cons, List.map_nil]); first | done | rfl | (simp only [List.length_drop, List.length_take]; rfl)) ?_; (with_reducible refine (laws_markCube.calls kj11 t479 (fun k_ => some k_ = (.slice Ao30 t480.length co30 : Value).ownBlock) (.slice Ao30 t480.length co30) t480 1 t496 t497 w _ ?side1 ?side2 A60.out).mono ?_); (case side1 => repeat (first | (with_reducible first | exact HB.out | apply below_alloc | apply pw_below_drewN | apply below_drew1 | refine below_set ?_ GE467.out | refine below_set ?_ GE478.out | refine below_set ?_ GE483.out | refine below_set ?_ GE489.out) | exact HB.out)); (case side2 => exact Kd.R_tight rfl HO_484001.out); rintro e w70 ⟨rfl, hy0, hb, hkp⟩; refine ⟨_, rfl, ?_⟩; have n0_ := Aside0.mk (Kd.R_mono (ok' := fun k_ => some k_ ≠ (.slice Ao30 t480.length co30 : Value).ownBlock ∧ some k_ ≠ (.slice Ao37 t485.length co37 : Value).ownBlock ∧ some k_ ≠ (.slice Ao64 t492.length co64 : Value).ownBlock) (Kd.R_keptB (HO_479001.out) hkp (fun k_ hk_ hs_ => (hk_.1.1) hs_)) (fun k_ hk_ => ⟨hk_.1.1.1, hk_.1.1.2, hk_.1.2⟩)); have n1_ := Aside0.mk (Kd.R_reok rfl hy0 (fun k_ e_ => HO_484001.out.1 k_ e_)); have n2_ := Aside0.mk (Kd.R_mono (ok' := fun k_ => some k_ ≠ (.slice Ao23 t474.length co23 : Value).ownBlock ∧ some k_ ≠ (.slice Ao30 t480.length co30 : Value).ownBlock ∧ some k_ ≠ (.slice Ao64 t492.length co64 : Value).ownBlock) (Kd.R_keptB (HO_490001.out) hkp (fun k_ hk_ hs_ => (hk_.1.2) hs_)) (fun k_ hk_ => ⟨hk_.1.1.1, hk_.1.1.2, hk_.1.2⟩)); have n3_ := Aside0.mk (blk_kept (by (with_reducible repeat (first | refine blk_drewN ?_ _ | refine blk_drew ?_ | refine blk_alloc ?_ _)); exact BK467.out) hkp (fun hs_ => (fun e_ => (Kd.R_ne HO_484001.out BK467.out (by decide)) e_) hs_)); have n4_ := Aside0.mk (blk_kept (by (with_reducible repeat (first | refine blk_drewN ?_ _ | refine blk_drew ?_ | refine blk_alloc ?_ _)); exact BK478.out) hkp (fun hs_ => (fun e_ => (Kd.R_ne HO_484001.out BK478.out (by decide)) e_) hs_)); have n5_ := Aside0.mk (blk_kept (by (with_reducible repeat (first | refine blk_drewN ?_ _ | refine blk_drew ?_ | refine blk_alloc ?_ _)); exact BK483.out) hkp (fun hs_ => (fun e_ => (Kd.R_ne HO_484001.out BK483.out (by decide)) e_) hs_)); have n6_ := Aside0.mk (blk_kept (by (with_reducible repeat (first | refine blk_drewN ?_ _ | refine blk_drew ?_ | refine blk_alloc ?_ _)); exact BK489.out) hkp (fun hs_ => (fun e_ => (Kd.R_ne HO_484001.out BK489.out (by decide)) e_) hs_)); have n7_ := Aside0.mk (Kd.R_mono (ok' := fun k_ => some k_ ≠ (.slice Ao23 t474.length co23 : Value).ownBlock ∧ some k_ ≠ (.slice Ao30 t480.length co30 : Value).ownBlock ∧ some k_ ≠ (.slice Ao37 t485.length co37 : Value).ownBlock) (Kd.R_keptB (HO494.out) hkp (fun k_ hk_ hs_ => (hk_.1.2) hs_)) (fun k_ hk_ => ⟨hk_.1.1.1.2, hk_.1.1.2, hk_.1.2⟩)); have n8_ := Aside0.mk (hb); clear HO_479001; clear HO_484001; clear HO_490001; clear BK467; clear BK478; clear BK483; clear BK489; clear HO494; clear HB; have HO_479001 := n0_; have HO_484001 := n1_; have HO_490001 := n2_; have BK467 := n3_; have BK478 := n4_; have BK483 := n5_; have BK489 := n6_; have HO494 := n7_; have HB := n8_; clear n0_ n1_ n2_ n3_ n4_ n5_ n6_ n7_ n8_; (try clear hb); (try clear hkp); (try clear hy0)))
            (try simp only [Act.put, List.setIfInBounds_toArray, List.set_cons_zero, List.set_cons_succ])
            go_cut [65] (fun v65 wc => ∃ (kq : Nat) (x65_60 : Bool), v65 = .bool x65_60 ∧ Aside0 (laws_FnExactTurnCube.j1 kq a1 t477 x65_60 a0_0 l0_1 t473 t474 t484 t485 = some r) ∧ Aside0 (kq ≤ kj11) ∧ Aside0 (Kd.R (Kd.int .i64) 2 wc w.heap.size (fun k_ => some k_ ≠ ((.slice Ao30 t480.length co30) : Value).ownBlock ∧ some k_ ≠ ((.slice Ao37 t485.length co37) : Value).ownBlock) (.slice Ao23 t474.length co23) t474) ∧ Aside0 (Kd.R (Kd.int .i64) 2 wc w.heap.size (fun k_ => some k_ ≠ ((.slice Ao23 t474.length co23) : Value).ownBlock ∧ some k_ ≠ ((.slice Ao37 t485.length co37) : Value).ownBlock) (.slice Ao30 t480.length co30) t497) ∧ Aside0 (Kd.R (Kd.int .i64) 2 wc w.heap.size (fun k_ => some k_ ≠ ((.slice Ao23 t474.length co23) : Value).ownBlock ∧ some k_ ≠ ((.slice Ao30 t480.length co30) : Value).ownBlock) (.slice Ao37 t485.length co37) t485) ∧ Aside0 (wc.heap[gb467]? = some (.cells #[.int .i64 a0_0, (.slice A0_1 l0_1.length c0_1)] 24 (0, 0))) ∧ Aside0 (wc.heap[gb478]? = some (.cells #[.int .i64 t473, (.slice Ao23 t474.length co23)] 27 (0, 0))) ∧ Aside0 (wc.heap[gb483]? = some (.cells #[.int .i64 t479, (.slice Ao30 t480.length co30)] 27 (0, 0))) ∧ Aside0 (wc.heap[gb489]? = some (.cells #[.int .i64 t484, (.slice Ao37 t485.length co37)] 27 (0, 0))) ∧ Aside0 (Below w.heap.size w wc))
            case first =>
              have H := HC61.out
              clear HC61
              by_cases c71 : t496 < 0
              · rw [if_pos c71] at H
                have c71b0 : decide (t496 < 0) = true := decide_eq_true c71
                clear c71
                (first | rw [c71b0] | (simp only [i64_w, i32_w]; rw [c71b0]) | skip)
                have H' := Aside0.mk H
                clear H
                go_wp2
                go_meet
                case rel => exact ⟨_, (true), (by first | rfl | (simp; done) | (simp [*]; done)), H', ⟨by have := HJ11.out; first | omega | exact Nat.le_refl _⟩, ⟨by (with_reducible repeat (first | apply Kd.R_alloc | apply Kd.R_drewN | apply Kd.R_drew)); exact Kd.R_mono HO_479001.out (fun _ hk => ⟨hk.1, hk.2.1⟩)⟩, ⟨by (with_reducible repeat (first | apply Kd.R_alloc | apply Kd.R_drewN | apply Kd.R_drew)); exact Kd.R_mono HO_484001.out (fun _ hk => ⟨hk.1.1, hk.1.2⟩)⟩, ⟨by (with_reducible repeat (first | apply Kd.R_alloc | apply Kd.R_drewN | apply Kd.R_drew)); exact Kd.R_mono HO_490001.out (fun _ hk => ⟨hk.1, hk.2.1⟩)⟩, ⟨by (with_reducible repeat (first | refine blk_drewN ?_ _ | refine blk_drew ?_ | refine blk_alloc ?_ _)); exact BK467.out⟩, ⟨by (with_reducible repeat (first | refine blk_drewN ?_ _ | refine blk_drew ?_ | refine blk_alloc ?_ _)); exact BK478.out⟩, ⟨by (with_reducible repeat (first | refine blk_drewN ?_ _ | refine blk_drew ?_ | refine blk_alloc ?_ _)); exact BK483.out⟩, ⟨by (with_reducible repeat (first | refine blk_drewN ?_ _ | refine blk_drew ?_ | refine blk_alloc ?_ _)); exact BK489.out⟩, ⟨by repeat (first | (with_reducible first | exact HB.out | apply below_alloc | apply pw_below_drewN | apply below_drew1 | refine below_set ?_ GE467.out | refine below_set ?_ GE478.out | refine below_set ?_ GE483.out | refine below_set ?_ GE489.out) | exact HB.out)⟩⟩
              · rw [if_neg c71] at H
                have c71b0 : decide (t496 < 0) = false := decide_eq_false c71
                clear c71
                (first | rw [c71b0] | (simp only [i64_w, i32_w]; rw [c71b0]) | skip)
                replace H := Option.bind_eq_some_iff.mp H
                obtain ⟨t498, A720, H⟩ := H
                replace H : (if t498 = true then (laws_FnExactTurnCube.j1 kj11 a1 t477 (t488 != t477) a0_0 l0_1 t473 t474 t484 t485) else (laws_FnExactTurnCube.j1 kj11 a1 t477 true a0_0 l0_1 t473 t474 t484 t485)) = some r := H
                have A72 := Aside0.mk A720
                clear A720
                by_cases c73 : t498 = true
                · subst c73
                  have H1 : (laws_FnExactTurnCube.j1 kj11 a1 t477 (t488 != t477) a0_0 l0_1 t473 t474 t484 t485) = some r := by rw [if_pos rfl] at H; exact H
                  clear H
                  have H := H1
                  clear H1
                  have H' := Aside0.mk H
                  clear H
                  have hnb74 := NB489_467.out
                  have hnc74 := NB467_489.out
                  have hnb75 := NB489_478.out
                  have hnc75 := NB478_489.out
                  have hnb76 := NB489_483.out
                  have hnc76 := NB483_489.out
                  have hcz77_0 : w70.cell? ⟨gb489, 0, none⟩ = some (.int .i64 t484) := (blk_cell BK489.out 0).trans rfl
                  have hcz77_1 : w70.cell? ⟨gb489, 1, none⟩ = some (.slice Ao37 t485.length co37) := (blk_cell BK489.out 1).trans rfl
                  have hfz77_0 := blk_frozen BK489.out 0
                  have hfz77_1 := blk_frozen BK489.out 1
                  have hnb78 := NB478_467.out
                  have hnc78 := NB467_478.out
                  have hnb79 := NB478_483.out
                  have hnc79 := NB483_478.out
                  have hcz80_0 : w70.cell? ⟨gb478, 0, none⟩ = some (.int .i64 t473) := (blk_cell BK478.out 0).trans rfl
                  have hcz80_1 : w70.cell? ⟨gb478, 1, none⟩ = some (.slice Ao23 t474.length co23) := (blk_cell BK478.out 1).trans rfl
                  have hfz80_0 := blk_frozen BK478.out 0
                  have hfz80_1 := blk_frozen BK478.out 1
                  go_wp2_with (first | (go_at_call 19; (with_reducible refine (laws_eqCube.calls kj11 t484 _ _ t485 t473 _ _ t474 true _ ?side1 ?side2 ?side3 ?side4 A72.out).mono ?_); (case side1 => repeat (first | exact (Kd.R_reads' HO_490001.out).2.2 | (with_reducible refine Kd.C_alloc ?_ _) | (with_reducible refine Kd.C_drewN ?_ _) | (with_reducible refine Kd.C_drew ?_))); (case side2 => exact (Kd.R_reads' HO_490001.out).2.1); (case side3 => repeat (first | exact (Kd.R_reads' HO_479001.out).2.2 | (with_reducible refine Kd.C_alloc ?_ _) | (with_reducible refine Kd.C_drewN ?_ _) | (with_reducible refine Kd.C_drew ?_))); (case side4 => exact (Kd.R_reads' HO_479001.out).2.1); rintro e w81 ⟨rfl, hb⟩; have n0_ := Aside0.mk (Kd.R_below (by (with_reducible repeat (first | apply Kd.R_alloc | apply Kd.R_drewN | apply Kd.R_drew)); exact HO_479001.out) hb); have n1_ := Aside0.mk (Kd.R_below (by (with_reducible repeat (first | apply Kd.R_alloc | apply Kd.R_drewN | apply Kd.R_drew)); exact HO_484001.out) hb); have n2_ := Aside0.mk (Kd.R_below (by (with_reducible repeat (first | apply Kd.R_alloc | apply Kd.R_drewN | apply Kd.R_drew)); exact HO_490001.out) hb); have n3_ := Aside0.mk (Kd.R_below (by (with_reducible repeat (first | apply Kd.R_alloc | apply Kd.R_drewN | apply Kd.R_drew)); exact HO494.out) hb); have n4_ := Aside0.mk (blk_below (g := gb467) (o := .cells #[.int .i64 a0_0, .slice A0_1 l0_1.length c0_1] 24 (0, 0)) (by (with_reducible repeat (first | refine blk_drewN ?_ _ | refine blk_drew ?_ | refine blk_alloc ?_ _)); exact BK467.out) hb); have n5_ := Aside0.mk (blk_below (g := gb478) (o := .cells #[.int .i64 t473, .slice Ao23 t474.length co23] 27 (0, 0)) (by (with_reducible repeat (first | refine blk_drewN ?_ _ | refine blk_drew ?_ | refine blk_alloc ?_ _)); exact BK478.out) hb); have n6_ := Aside0.mk (blk_below (g := gb483) (o := .cells #[.int .i64 t479, .slice Ao30 t480.length co30] 27 (0, 0)) (by (with_reducible repeat (first | refine blk_drewN ?_ _ | refine blk_drew ?_ | refine blk_alloc ?_ _)); exact BK483.out) hb); have n7_ := Aside0.mk (blk_below (g := gb489) (o := .cells #[.int .i64 t484, .slice Ao37 t485.length co37] 27 (0, 0)) (by (with_reducible repeat (first | refine blk_drewN ?_ _ | refine blk_drew ?_ | refine blk_alloc ?_ _)); exact BK489.out) hb); have n8_ := Aside0.mk (below_step (by repeat (first | (with_reducible first | exact HB.out | apply below_alloc | apply pw_below_drewN | apply below_drew1 | refine below_set ?_ GE467.out | refine below_set ?_ GE478.out | refine below_set ?_ GE483.out | refine below_set ?_ GE489.out) | exact HB.out)) hb); clear HO_479001; clear HO_484001; clear HO_490001; clear HO494; clear BK467; clear BK478; clear BK483; clear BK489; clear HB; have HO_479001 := n0_; have HO_484001 := n1_; have HO_490001 := n2_; have HO494 := n3_; have BK467 := n4_; have BK478 := n5_; have BK483 := n6_; have BK489 := n7_; have HB := n8_; clear n0_ n1_ n2_ n3_ n4_ n5_ n6_ n7_ n8_; (try clear hb); (try clear hb2); (try clear hk); (try clear hi)))
                  go_meet
                  case rel => exact ⟨_, ((t488 != t477)), (by first | rfl | (simp; done) | (simp [*]; done)), H', ⟨by have := HJ11.out; first | omega | exact Nat.le_refl _⟩, ⟨by (with_reducible repeat (first | apply Kd.R_alloc | apply Kd.R_drewN | apply Kd.R_drew)); exact Kd.R_mono HO_479001.out (fun _ hk => ⟨hk.1, hk.2.1⟩)⟩, ⟨by (with_reducible repeat (first | apply Kd.R_alloc | apply Kd.R_drewN | apply Kd.R_drew)); exact Kd.R_mono HO_484001.out (fun _ hk => ⟨hk.1.1, hk.1.2⟩)⟩, ⟨by (with_reducible repeat (first | apply Kd.R_alloc | apply Kd.R_drewN | apply Kd.R_drew)); exact Kd.R_mono HO_490001.out (fun _ hk => ⟨hk.1, hk.2.1⟩)⟩, ⟨by (with_reducible repeat (first | refine blk_drewN ?_ _ | refine blk_drew ?_ | refine blk_alloc ?_ _)); exact BK467.out⟩, ⟨by (with_reducible repeat (first | refine blk_drewN ?_ _ | refine blk_drew ?_ | refine blk_alloc ?_ _)); exact BK478.out⟩, ⟨by (with_reducible repeat (first | refine blk_drewN ?_ _ | refine blk_drew ?_ | refine blk_alloc ?_ _)); exact BK483.out⟩, ⟨by (with_reducible repeat (first | refine blk_drewN ?_ _ | refine blk_drew ?_ | refine blk_alloc ?_ _)); exact BK489.out⟩, ⟨by repeat (first | (with_reducible first | exact HB.out | apply below_alloc | apply pw_below_drewN | apply below_drew1 | refine below_set ?_ GE467.out | refine below_set ?_ GE478.out | refine below_set ?_ GE483.out | refine below_set ?_ GE489.out) | exact HB.out)⟩⟩
                · replace c73 := Bool.eq_false_iff.mpr c73
                  subst c73
                  have H1 : (laws_FnExactTurnCube.j1 kj11 a1 t477 true a0_0 l0_1 t473 t474 t484 t485) = some r := by rw [if_neg (show ¬ (false = true) by decide)] at H; exact H
                  clear H
                  have H := H1
                  clear H1
                  have H' := Aside0.mk H
                  clear H
                  have hnb82 := NB489_467.out
                  have hnc82 := NB467_489.out
                  have hnb83 := NB489_478.out
                  have hnc83 := NB478_489.out
                  have hnb84 := NB489_483.out
                  have hnc84 := NB483_489.out
                  have hcz85_0 : w70.cell? ⟨gb489, 0, none⟩ = some (.int .i64 t484) := (blk_cell BK489.out 0).trans rfl
                  have hcz85_1 : w70.cell? ⟨gb489, 1, none⟩ = some (.slice Ao37 t485.length co37) := (blk_cell BK489.out 1).trans rfl
                  have hfz85_0 := blk_frozen BK489.out 0
                  have hfz85_1 := blk_frozen BK489.out 1
                  have hnb86 := NB478_467.out
                  have hnc86 := NB467_478.out
                  have hnb87 := NB478_483.out
                  have hnc87 := NB483_478.out
                  have hcz88_0 : w70.cell? ⟨gb478, 0, none⟩ = some (.int .i64 t473) := (blk_cell BK478.out 0).trans rfl
                  have hcz88_1 : w70.cell? ⟨gb478, 1, none⟩ = some (.slice Ao23 t474.length co23) := (blk_cell BK478.out 1).trans rfl
                  have hfz88_0 := blk_frozen BK478.out 0
                  have hfz88_1 := blk_frozen BK478.out 1
                  go_wp2_with (first | (go_at_call 19; (with_reducible refine (laws_eqCube.calls kj11 t484 _ _ t485 t473 _ _ t474 false _ ?side1 ?side2 ?side3 ?side4 A72.out).mono ?_); (case side1 => repeat (first | exact (Kd.R_reads' HO_490001.out).2.2 | (with_reducible refine Kd.C_alloc ?_ _) | (with_reducible refine Kd.C_drewN ?_ _) | (with_reducible refine Kd.C_drew ?_))); (case side2 => exact (Kd.R_reads' HO_490001.out).2.1); (case side3 => repeat (first | exact (Kd.R_reads' HO_479001.out).2.2 | (with_reducible refine Kd.C_alloc ?_ _) | (with_reducible refine Kd.C_drewN ?_ _) | (with_reducible refine Kd.C_drew ?_))); (case side4 => exact (Kd.R_reads' HO_479001.out).2.1); rintro e w89 ⟨rfl, hb⟩; have n0_ := Aside0.mk (Kd.R_below (by (with_reducible repeat (first | apply Kd.R_alloc | apply Kd.R_drewN | apply Kd.R_drew)); exact HO_479001.out) hb); have n1_ := Aside0.mk (Kd.R_below (by (with_reducible repeat (first | apply Kd.R_alloc | apply Kd.R_drewN | apply Kd.R_drew)); exact HO_484001.out) hb); have n2_ := Aside0.mk (Kd.R_below (by (with_reducible repeat (first | apply Kd.R_alloc | apply Kd.R_drewN | apply Kd.R_drew)); exact HO_490001.out) hb); have n3_ := Aside0.mk (Kd.R_below (by (with_reducible repeat (first | apply Kd.R_alloc | apply Kd.R_drewN | apply Kd.R_drew)); exact HO494.out) hb); have n4_ := Aside0.mk (blk_below (g := gb467) (o := .cells #[.int .i64 a0_0, .slice A0_1 l0_1.length c0_1] 24 (0, 0)) (by (with_reducible repeat (first | refine blk_drewN ?_ _ | refine blk_drew ?_ | refine blk_alloc ?_ _)); exact BK467.out) hb); have n5_ := Aside0.mk (blk_below (g := gb478) (o := .cells #[.int .i64 t473, .slice Ao23 t474.length co23] 27 (0, 0)) (by (with_reducible repeat (first | refine blk_drewN ?_ _ | refine blk_drew ?_ | refine blk_alloc ?_ _)); exact BK478.out) hb); have n6_ := Aside0.mk (blk_below (g := gb483) (o := .cells #[.int .i64 t479, .slice Ao30 t480.length co30] 27 (0, 0)) (by (with_reducible repeat (first | refine blk_drewN ?_ _ | refine blk_drew ?_ | refine blk_alloc ?_ _)); exact BK483.out) hb); have n7_ := Aside0.mk (blk_below (g := gb489) (o := .cells #[.int .i64 t484, .slice Ao37 t485.length co37] 27 (0, 0)) (by (with_reducible repeat (first | refine blk_drewN ?_ _ | refine blk_drew ?_ | refine blk_alloc ?_ _)); exact BK489.out) hb); have n8_ := Aside0.mk (below_step (by repeat (first | (with_reducible first | exact HB.out | apply below_alloc | apply pw_below_drewN | apply below_drew1 | refine below_set ?_ GE467.out | refine below_set ?_ GE478.out | refine below_set ?_ GE483.out | refine below_set ?_ GE489.out) | exact HB.out)) hb); clear HO_479001; clear HO_484001; clear HO_490001; clear HO494; clear BK467; clear BK478; clear BK483; clear BK489; clear HB; have HO_479001 := n0_; have HO_484001 := n1_; have HO_490001 := n2_; have HO494 := n3_; have BK467 := n4_; have BK478 := n5_; have BK483 := n6_; have BK489 := n7_; have HB := n8_; clear n0_ n1_ n2_ n3_ n4_ n5_ n6_ n7_ n8_; (try clear hb); (try clear hb2); (try clear hk); (try clear hi)))
                  go_meet
                  case rel => exact ⟨_, (true), (by first | rfl | (simp; done) | (simp [*]; done)), H', ⟨by have := HJ11.out; first | omega | exact Nat.le_refl _⟩, ⟨by (with_reducible repeat (first | apply Kd.R_alloc | apply Kd.R_drewN | apply Kd.R_drew)); exact Kd.R_mono HO_479001.out (fun _ hk => ⟨hk.1, hk.2.1⟩)⟩, ⟨by (with_reducible repeat (first | apply Kd.R_alloc | apply Kd.R_drewN | apply Kd.R_drew)); exact Kd.R_mono HO_484001.out (fun _ hk => ⟨hk.1.1, hk.1.2⟩)⟩, ⟨by (with_reducible repeat (first | apply Kd.R_alloc | apply Kd.R_drewN | apply Kd.R_drew)); exact Kd.R_mono HO_490001.out (fun _ hk => ⟨hk.1, hk.2.1⟩)⟩, ⟨by (with_reducible repeat (first | refine blk_drewN ?_ _ | refine blk_drew ?_ | refine blk_alloc ?_ _)); exact BK467.out⟩, ⟨by (with_reducible repeat (first | refine blk_drewN ?_ _ | refine blk_drew ?_ | refine blk_alloc ?_ _)); exact BK478.out⟩, ⟨by (with_reducible repeat (first | refine blk_drewN ?_ _ | refine blk_drew ?_ | refine blk_alloc ?_ _)); exact BK483.out⟩, ⟨by (with_reducible repeat (first | refine blk_drewN ?_ _ | refine blk_drew ?_ | refine blk_alloc ?_ _)); exact BK489.out⟩, ⟨by repeat (first | (with_reducible first | exact HB.out | apply below_alloc | apply pw_below_drewN | apply below_drew1 | refine below_set ?_ GE467.out | refine below_set ?_ GE478.out | refine below_set ?_ GE483.out | refine below_set ?_ GE489.out) | exact HB.out)⟩⟩
            case rest =>
              clear HC61
              try clear c1
              try clear c2
              try clear p2
              try clear c3
              try clear c4
              try clear c4b0
              try clear c5
              try clear c6
              try clear c7
              try clear c8
              try clear c9
              try clear c15
              try clear c17
              try clear c19
              try clear c21
              try clear c27
              try clear c28
              try clear c33
              try clear c34
              try clear c35
              try clear c38
              try clear c39
              try clear c40
              try clear c41
              try clear c42
              try clear c44
              try clear c45
              try clear c48
              try clear c49
              try clear c50
              try clear c52
              try clear c53
              try clear c56
              try clear c59
              try clear c66
              try clear c67
              try clear c68
              try clear c71
              try clear c71b0
              try clear c73
              try clear c74
              try clear c75
              try clear c76
              try clear c78
              try clear c79
              try clear c82
              try clear c83
              try clear c84
              try clear c86
              try clear c87
              try clear hcz14_0
              try clear hcz14_1
              try clear hcz16_0
              try clear hcz16_1
              try clear hcz22_0
              try clear hcz22_1
              try clear hcz24_0
              try clear hcz24_1
              try clear hcz29_0
              try clear hcz29_1
              try clear hcz36_0
              try clear hcz36_1
              try clear hcz43_0
              try clear hcz43_1
              try clear hcz46_0
              try clear hcz46_1
              try clear hcz51_0
              try clear hcz51_1
              try clear hcz54_0
              try clear hcz54_1
              try clear hcz69_0
              try clear hcz69_1
              try clear hcz6_0
              try clear hcz6_1
              try clear hcz77_0
              try clear hcz77_1
              try clear hcz80_0
              try clear hcz80_1
              try clear hcz85_0
              try clear hcz85_1
              try clear hcz88_0
              try clear hcz88_1
              try clear hfz14_0
              try clear hfz14_1
              try clear hfz16_0
              try clear hfz16_1
              try clear hfz22_0
              try clear hfz22_1
              try clear hfz24_0
              try clear hfz24_1
              try clear hfz29_0
              try clear hfz29_1
              try clear hfz36_0
              try clear hfz36_1
              try clear hfz43_0
              try clear hfz43_1
              try clear hfz46_0
              try clear hfz46_1
              try clear hfz51_0
              try clear hfz51_1
              try clear hfz54_0
              try clear hfz54_1
              try clear hfz69_0
              try clear hfz69_1
              try clear hfz6_0
              try clear hfz6_1
              try clear hfz77_0
              try clear hfz77_1
              try clear hfz80_0
              try clear hfz80_1
              try clear hfz85_0
              try clear hfz85_1
              try clear hfz88_0
              try clear hfz88_1
              try clear p2
              obtain ⟨kq, x65_60, rfl, HA, HJ60, HO_479001, HO_484001, HO_490001, BK467, BK478, BK483, BK489, HB⟩ := hcut
              have hl484001_60 := (Kd.R_reads' HO_484001.out).1
              rw [hl484001_60] at HO_484001
              (try simp only [hl484001_60])
              (try simp only [hl484001_60] at BK467)
              (try simp only [hl484001_60] at BK478)
              (try simp only [hl484001_60] at BK483)
              (try simp only [hl484001_60] at BK489)
              (try simp only [hl484001_60] at HO_479001)
              (try simp only [hl484001_60] at HO_490001)
              cases kq with
              | zero => exact absurd HA.out (by simp [laws_FnExactTurnCube.j1])
              | succ kj60 =>
                have H := HA.out
                clear HA
                simp only [laws_FnExactTurnCube.j1] at H
                by_cases c90 : x65_60 = true
                · subst c90
                  have H1 : (some false) = some r := by rw [if_pos rfl] at H; exact H
                  clear H
                  have H := H1
                  clear H1
                  obtain rfl := Option.some.inj H
                  go_wp2
                  go_ret
                  exact ⟨by first | rfl | (simp [errW_none, errW_some] <;> rfl) | (simp [*, errW_none, errW_some] <;> rfl), by repeat (first | (with_reducible first | exact HB.out | apply below_alloc | apply pw_below_drewN | apply below_drew1 | refine below_set ?_ GE467.out | refine below_set ?_ GE478.out | refine below_set ?_ GE483.out | refine below_set ?_ GE489.out) | exact HB.out)⟩
                · replace c90 := Bool.eq_false_iff.mpr c90
                  subst c90
                  have H1 : ((laws_markCube.f kj60 t484 t485 1).bind fun bt499 => ((laws_heldCube.f kj60 t484 bt499.2 1).bind fun t501 => (if t501 < 0 then (some false) else (if t501 = bt499.1 then ((laws_toCube.f kj60 a0_0 l0_1).bind fun bt502 => ((impl_TurnCube.f kj60 bt502.1 bt502.2 a1).bind fun bt506 => ((laws_eqCube.f kj60 bt506.1 bt506.2.1 t473 t474).bind fun t512 => (if t512 = true then (laws_FnExactTurnCube.j2 kj60 bt499.1 (bt506.2.2 != t477) t484 bt499.2) else (laws_FnExactTurnCube.j2 kj60 bt499.1 true t484 bt499.2))))) else (some false))))) = some r := by rw [if_neg (show ¬ (false = true) by decide)] at H; exact H
                  clear H
                  have H := H1
                  clear H1
                  replace H := Option.bind_eq_some_iff.mp H
                  obtain ⟨⟨t499, t500⟩, A910, H⟩ := H
                  replace H : ((laws_heldCube.f kj60 t484 t500 1).bind fun t501 => (if t501 < 0 then (some false) else (if t501 = t499 then ((laws_toCube.f kj60 a0_0 l0_1).bind fun bt502 => ((impl_TurnCube.f kj60 bt502.1 bt502.2 a1).bind fun bt506 => ((laws_eqCube.f kj60 bt506.1 bt506.2.1 t473 t474).bind fun t512 => (if t512 = true then (laws_FnExactTurnCube.j2 kj60 t499 (bt506.2.2 != t477) t484 t500) else (laws_FnExactTurnCube.j2 kj60 t499 true t484 t500))))) else (some false)))) = some r := H
                  have A91 := Aside0.mk A910
                  clear A910
                  replace H := Option.bind_eq_some_iff.mp H
                  obtain ⟨t501, A920, H⟩ := H
                  replace H : (if t501 < 0 then (some false) else (if t501 = t499 then ((laws_toCube.f kj60 a0_0 l0_1).bind fun bt502 => ((impl_TurnCube.f kj60 bt502.1 bt502.2 a1).bind fun bt506 => ((laws_eqCube.f kj60 bt506.1 bt506.2.1 t473 t474).bind fun t512 => (if t512 = true then (laws_FnExactTurnCube.j2 kj60 t499 (bt506.2.2 != t477) t484 t500) else (laws_FnExactTurnCube.j2 kj60 t499 true t484 t500))))) else (some false))) = some r := H
                  have A92 := Aside0.mk A920
                  clear A920
                  by_cases c93 : t501 < 0
                  · rw [if_pos c93] at H
                    have c93b0 : decide (t501 < 0) = true := decide_eq_true c93
                    clear c93
                    obtain rfl := Option.some.inj H
                    have hnb94 := NB489_467.out
                    have hnc94 := NB467_489.out
                    have hnb95 := NB489_478.out
                    have hnc95 := NB478_489.out
                    have hnb96 := NB489_483.out
                    have hnc96 := NB483_489.out
                    have hcz97_0 : wc.cell? ⟨gb489, 0, none⟩ = some (.int .i64 t484) := (blk_cell BK489.out 0).trans rfl
                    have hcz97_1 : wc.cell? ⟨gb489, 1, none⟩ = some (.slice Ao37 t485.length co37) := (blk_cell BK489.out 1).trans rfl
                    have hfz97_0 := blk_frozen BK489.out 0
                    have hfz97_1 := blk_frozen BK489.out 1
                    go_wp2_with (first | ((with_reducible refine gate_callee (f := 27) rfl ?_); refine goesL_ (some 68) rfl rfl Try.func27 (by kernel_rfl) rfl #[.agg #[.int .i64 t484, .slice Ao37 t485.length co37], .int .i64 1] rfl (by (try simp only [List.map_toArray, List.map_cons, List.map_nil]); first | done | rfl | (simp only [List.length_drop, List.length_take]; rfl)) ?_; (with_reducible refine (laws_markCube.calls kj60 t484 (fun k_ => some k_ = (.slice Ao37 t485.length co37 : Value).ownBlock) (.slice Ao37 t485.length co37) t485 1 t499 t500 w _ ?side1 ?side2 A91.out).mono ?_); (case side1 => repeat (first | (with_reducible first | exact HB.out | apply below_alloc | apply pw_below_drewN | apply below_drew1 | refine below_set ?_ GE467.out | refine below_set ?_ GE478.out | refine below_set ?_ GE483.out | refine below_set ?_ GE489.out) | exact HB.out)); (case side2 => exact Kd.R_tight rfl HO_490001.out); rintro e w98 ⟨rfl, hy0, hb, hkp⟩; refine ⟨_, rfl, ?_⟩; have n0_ := Aside0.mk (Kd.R_mono (ok' := fun k_ => some k_ ≠ (.slice Ao30 t497.length co30 : Value).ownBlock ∧ some k_ ≠ (.slice Ao37 t485.length co37 : Value).ownBlock) (Kd.R_keptB (HO_479001.out) hkp (fun k_ hk_ hs_ => (hk_.2) hs_)) (fun k_ hk_ => ⟨hk_.1.1, hk_.1.2⟩)); have n1_ := Aside0.mk (Kd.R_mono (ok' := fun k_ => some k_ ≠ (.slice Ao23 t474.length co23 : Value).ownBlock ∧ some k_ ≠ (.slice Ao37 t485.length co37 : Value).ownBlock) (Kd.R_keptB (HO_484001.out) hkp (fun k_ hk_ hs_ => (hk_.2) hs_)) (fun k_ hk_ => ⟨hk_.1.1, hk_.1.2⟩)); have n2_ := Aside0.mk (Kd.R_reok rfl hy0 (fun k_ e_ => HO_490001.out.1 k_ e_)); have n3_ := Aside0.mk (blk_kept (by (with_reducible repeat (first | refine blk_drewN ?_ _ | refine blk_drew ?_ | refine blk_alloc ?_ _)); exact BK467.out) hkp (fun hs_ => (fun e_ => (Kd.R_ne HO_490001.out BK467.out (by decide)) e_) hs_)); have n4_ := Aside0.mk (blk_kept (by (with_reducible repeat (first | refine blk_drewN ?_ _ | refine blk_drew ?_ | refine blk_alloc ?_ _)); exact BK478.out) hkp (fun hs_ => (fun e_ => (Kd.R_ne HO_490001.out BK478.out (by decide)) e_) hs_)); have n5_ := Aside0.mk (blk_kept (by (with_reducible repeat (first | refine blk_drewN ?_ _ | refine blk_drew ?_ | refine blk_alloc ?_ _)); exact BK483.out) hkp (fun hs_ => (fun e_ => (Kd.R_ne HO_490001.out BK483.out (by decide)) e_) hs_)); have n6_ := Aside0.mk (blk_kept (by (with_reducible repeat (first | refine blk_drewN ?_ _ | refine blk_drew ?_ | refine blk_alloc ?_ _)); exact BK489.out) hkp (fun hs_ => (fun e_ => (Kd.R_ne HO_490001.out BK489.out (by decide)) e_) hs_)); have n7_ := Aside0.mk (hb); clear HO_479001; clear HO_484001; clear HO_490001; clear BK467; clear BK478; clear BK483; clear BK489; clear HB; have HO_479001 := n0_; have HO_484001 := n1_; have HO_490001 := n2_; have BK467 := n3_; have BK478 := n4_; have BK483 := n5_; have BK489 := n6_; have HB := n7_; clear n0_ n1_ n2_ n3_ n4_ n5_ n6_ n7_; (try clear hb); (try clear hkp); (try clear hy0); have hcz99_0 : w98.cell? ⟨gb489, 0, none⟩ = some (.int .i64 t484) := (blk_cell BK489.out 0).trans rfl; have hcz99_1 : w98.cell? ⟨gb489, 1, none⟩ = some (.slice Ao37 t485.length co37) := (blk_cell BK489.out 1).trans rfl; have hfz99_0 := blk_frozen BK489.out 0; have hfz99_1 := blk_frozen BK489.out 1) | ((with_reducible refine gate_callee (f := 37) rfl ?_); refine goesL_ (some 71) rfl rfl Try.func37 (by kernel_rfl) rfl #[.agg #[.int .i64 t484, .slice Ao37 t500.length co37], .int .i64 1] rfl (by (try simp only [List.map_toArray, List.map_cons, List.map_nil]); first | done | (rw [show t500.length = t485.length from (Kd.R_reads' HO_490001.out).1.symm] <;> rfl) | rfl | (simp only [List.length_drop, List.length_take]; rfl)) ?_; (with_reducible refine (laws_heldCube.calls kj60 t484 _ _ t500 1 t501 _ ?side1 ?side2 A92.out).mono ?_); (case side1 => repeat (first | exact (Kd.R_reads' HO_490001.out).2.2 | (with_reducible refine Kd.C_alloc ?_ _) | (with_reducible refine Kd.C_drewN ?_ _) | (with_reducible refine Kd.C_drew ?_))); (case side2 => rw [show t500.length = t485.length from (Kd.R_reads' HO_490001.out).1.symm]; exact (Kd.R_reads' HO_490001.out).2.1); rintro e w100 ⟨rfl, hb⟩; refine ⟨_, rfl, ?_⟩; have n0_ := Aside0.mk (Kd.R_below (by (with_reducible repeat (first | apply Kd.R_alloc | apply Kd.R_drewN | apply Kd.R_drew)); exact HO_479001.out) hb); have n1_ := Aside0.mk (Kd.R_below (by (with_reducible repeat (first | apply Kd.R_alloc | apply Kd.R_drewN | apply Kd.R_drew)); exact HO_484001.out) hb); have n2_ := Aside0.mk (Kd.R_below (by (with_reducible repeat (first | apply Kd.R_alloc | apply Kd.R_drewN | apply Kd.R_drew)); exact HO_490001.out) hb); have n3_ := Aside0.mk (blk_below (g := gb467) (o := .cells #[.int .i64 a0_0, .slice A0_1 l0_1.length c0_1] 24 (0, 0)) (by (with_reducible repeat (first | refine blk_drewN ?_ _ | refine blk_drew ?_ | refine blk_alloc ?_ _)); exact BK467.out) hb); have n4_ := Aside0.mk (blk_below (g := gb478) (o := .cells #[.int .i64 t473, .slice Ao23 t474.length co23] 27 (0, 0)) (by (with_reducible repeat (first | refine blk_drewN ?_ _ | refine blk_drew ?_ | refine blk_alloc ?_ _)); exact BK478.out) hb); have n5_ := Aside0.mk (blk_below (g := gb483) (o := .cells #[.int .i64 t479, .slice Ao30 t497.length co30] 27 (0, 0)) (by (with_reducible repeat (first | refine blk_drewN ?_ _ | refine blk_drew ?_ | refine blk_alloc ?_ _)); exact BK483.out) hb); have n6_ := Aside0.mk (blk_below (g := gb489) (o := .cells #[.int .i64 t484, .slice Ao37 t485.length co37] 27 (0, 0)) (by (with_reducible repeat (first | refine blk_drewN ?_ _ | refine blk_drew ?_ | refine blk_alloc ?_ _)); exact BK489.out) hb); have n7_ := Aside0.mk (below_step (by repeat (first | (with_reducible first | exact HB.out | apply below_alloc | apply pw_below_drewN | apply below_drew1 | refine below_set ?_ GE467.out | refine below_set ?_ GE478.out | refine below_set ?_ GE483.out | refine below_set ?_ GE489.out) | exact HB.out)) hb); clear HO_479001; clear HO_484001; clear HO_490001; clear BK467; clear BK478; clear BK483; clear BK489; clear HB; have HO_479001 := n0_; have HO_484001 := n1_; have HO_490001 := n2_; have BK467 := n3_; have BK478 := n4_; have BK483 := n5_; have BK489 := n6_; have HB := n7_; clear n0_ n1_ n2_ n3_ n4_ n5_ n6_ n7_; (try clear hb); (try clear hb2); (try clear hk); (try clear hi)))
                    go_ret
                    exact ⟨by first | rfl | (simp [errW_none, errW_some] <;> rfl) | (simp [*, errW_none, errW_some] <;> rfl), by repeat (first | (with_reducible first | exact HB.out | apply below_alloc | apply pw_below_drewN | apply below_drew1 | refine below_set ?_ GE467.out | refine below_set ?_ GE478.out | refine below_set ?_ GE483.out | refine below_set ?_ GE489.out) | exact HB.out)⟩
                  · rw [if_neg c93] at H
                    have c93b0 : decide (t501 < 0) = false := decide_eq_false c93
                    clear c93
                    by_cases c101 : t501 = t499
                    · rw [if_pos c101] at H
                      have c101b0 : (t501 == t499) = true := beq_iff_eq.mpr c101
                      have c101b1 : (t501 != t499) = false := bne_eq_false_iff_eq.mpr c101
                      clear c101
                      replace H := Option.bind_eq_some_iff.mp H
                      obtain ⟨⟨t502, t503⟩, A1020, H⟩ := H
                      replace H : ((impl_TurnCube.f kj60 t502 t503 a1).bind fun bt506 => ((laws_eqCube.f kj60 bt506.1 bt506.2.1 t473 t474).bind fun t512 => (if t512 = true then (laws_FnExactTurnCube.j2 kj60 t499 (bt506.2.2 != t477) t484 t500) else (laws_FnExactTurnCube.j2 kj60 t499 true t484 t500)))) = some r := H
                      have A102 := Aside0.mk A1020
                      clear A1020
                      replace H := Option.bind_eq_some_iff.mp H
                      obtain ⟨⟨t506, t507, t510⟩, A1030, H⟩ := H
                      replace H : ((laws_eqCube.f kj60 t506 t507 t473 t474).bind fun t512 => (if t512 = true then (laws_FnExactTurnCube.j2 kj60 t499 (t510 != t477) t484 t500) else (laws_FnExactTurnCube.j2 kj60 t499 true t484 t500))) = some r := H
                      have A103 := Aside0.mk A1030
                      clear A1030
                      have HC104 := Aside0.mk H
                      clear H
                      have hnb105 := NB489_467.out
                      have hnc105 := NB467_489.out
                      have hnb106 := NB489_478.out
                      have hnc106 := NB478_489.out
                      have hnb107 := NB489_483.out
                      have hnc107 := NB483_489.out
                      have hcz108_0 : wc.cell? ⟨gb489, 0, none⟩ = some (.int .i64 t484) := (blk_cell BK489.out 0).trans rfl
                      have hcz108_1 : wc.cell? ⟨gb489, 1, none⟩ = some (.slice Ao37 t485.length co37) := (blk_cell BK489.out 1).trans rfl
                      have hfz108_0 := blk_frozen BK489.out 0
                      have hfz108_1 := blk_frozen BK489.out 1
                      go_upto_region 25 with (first | ((with_reducible refine gate_callee (f := 27) rfl ?_); refine goesL_ (some 68) rfl rfl Try.func27 (by kernel_rfl) rfl #[.agg #[.int .i64 t484, .slice Ao37 t485.length co37], .int .i64 1] rfl (by (try simp only [List.map_toArray, List.map_cons, List.map_nil]); first | done | rfl | (simp only [List.length_drop, List.length_take]; rfl)) ?_; (with_reducible refine (laws_markCube.calls kj60 t484 (fun k_ => some k_ = (.slice Ao37 t485.length co37 : Value).ownBlock) (.slice Ao37 t485.length co37) t485 1 t499 t500 w _ ?side1 ?side2 A91.out).mono ?_); (case side1 => repeat (first | (with_reducible first | exact HB.out | apply below_alloc | apply pw_below_drewN | apply below_drew1 | refine below_set ?_ GE467.out | refine below_set ?_ GE478.out | refine below_set ?_ GE483.out | refine below_set ?_ GE489.out) | exact HB.out)); (case side2 => exact Kd.R_tight rfl HO_490001.out); rintro e w109 ⟨rfl, hy0, hb, hkp⟩; refine ⟨_, rfl, ?_⟩; have n0_ := Aside0.mk (Kd.R_mono (ok' := fun k_ => some k_ ≠ (.slice Ao30 t497.length co30 : Value).ownBlock ∧ some k_ ≠ (.slice Ao37 t485.length co37 : Value).ownBlock) (Kd.R_keptB (HO_479001.out) hkp (fun k_ hk_ hs_ => (hk_.2) hs_)) (fun k_ hk_ => ⟨hk_.1.1, hk_.1.2⟩)); have n1_ := Aside0.mk (Kd.R_mono (ok' := fun k_ => some k_ ≠ (.slice Ao23 t474.length co23 : Value).ownBlock ∧ some k_ ≠ (.slice Ao37 t485.length co37 : Value).ownBlock) (Kd.R_keptB (HO_484001.out) hkp (fun k_ hk_ hs_ => (hk_.2) hs_)) (fun k_ hk_ => ⟨hk_.1.1, hk_.1.2⟩)); have n2_ := Aside0.mk (Kd.R_reok rfl hy0 (fun k_ e_ => HO_490001.out.1 k_ e_)); have n3_ := Aside0.mk (blk_kept (by (with_reducible repeat (first | refine blk_drewN ?_ _ | refine blk_drew ?_ | refine blk_alloc ?_ _)); exact BK467.out) hkp (fun hs_ => (fun e_ => (Kd.R_ne HO_490001.out BK467.out (by decide)) e_) hs_)); have n4_ := Aside0.mk (blk_kept (by (with_reducible repeat (first | refine blk_drewN ?_ _ | refine blk_drew ?_ | refine blk_alloc ?_ _)); exact BK478.out) hkp (fun hs_ => (fun e_ => (Kd.R_ne HO_490001.out BK478.out (by decide)) e_) hs_)); have n5_ := Aside0.mk (blk_kept (by (with_reducible repeat (first | refine blk_drewN ?_ _ | refine blk_drew ?_ | refine blk_alloc ?_ _)); exact BK483.out) hkp (fun hs_ => (fun e_ => (Kd.R_ne HO_490001.out BK483.out (by decide)) e_) hs_)); have n6_ := Aside0.mk (blk_kept (by (with_reducible repeat (first | refine blk_drewN ?_ _ | refine blk_drew ?_ | refine blk_alloc ?_ _)); exact BK489.out) hkp (fun hs_ => (fun e_ => (Kd.R_ne HO_490001.out BK489.out (by decide)) e_) hs_)); have n7_ := Aside0.mk (hb); clear HO_479001; clear HO_484001; clear HO_490001; clear BK467; clear BK478; clear BK483; clear BK489; clear HB; have HO_479001 := n0_; have HO_484001 := n1_; have HO_490001 := n2_; have BK467 := n3_; have BK478 := n4_; have BK483 := n5_; have BK489 := n6_; have HB := n7_; clear n0_ n1_ n2_ n3_ n4_ n5_ n6_ n7_; (try clear hb); (try clear hkp); (try clear hy0); have hcz110_0 : w109.cell? ⟨gb489, 0, none⟩ = some (.int .i64 t484) := (blk_cell BK489.out 0).trans rfl; have hcz110_1 : w109.cell? ⟨gb489, 1, none⟩ = some (.slice Ao37 t485.length co37) := (blk_cell BK489.out 1).trans rfl; have hfz110_0 := blk_frozen BK489.out 0; have hfz110_1 := blk_frozen BK489.out 1) | ((with_reducible refine gate_callee (f := 37) rfl ?_); refine goesL_ (some 71) rfl rfl Try.func37 (by kernel_rfl) rfl #[.agg #[.int .i64 t484, .slice Ao37 t500.length co37], .int .i64 1] rfl (by (try simp only [List.map_toArray, List.map_cons, List.map_nil]); first | done | (rw [show t500.length = t485.length from (Kd.R_reads' HO_490001.out).1.symm] <;> rfl) | rfl | (simp only [List.length_drop, List.length_take]; rfl)) ?_; (with_reducible refine (laws_heldCube.calls kj60 t484 _ _ t500 1 t501 _ ?side1 ?side2 A92.out).mono ?_); (case side1 => repeat (first | exact (Kd.R_reads' HO_490001.out).2.2 | (with_reducible refine Kd.C_alloc ?_ _) | (with_reducible refine Kd.C_drewN ?_ _) | (with_reducible refine Kd.C_drew ?_))); (case side2 => rw [show t500.length = t485.length from (Kd.R_reads' HO_490001.out).1.symm]; exact (Kd.R_reads' HO_490001.out).2.1); rintro e w111 ⟨rfl, hb⟩; refine ⟨_, rfl, ?_⟩; have n0_ := Aside0.mk (Kd.R_below (by (with_reducible repeat (first | apply Kd.R_alloc | apply Kd.R_drewN | apply Kd.R_drew)); exact HO_479001.out) hb); have n1_ := Aside0.mk (Kd.R_below (by (with_reducible repeat (first | apply Kd.R_alloc | apply Kd.R_drewN | apply Kd.R_drew)); exact HO_484001.out) hb); have n2_ := Aside0.mk (Kd.R_below (by (with_reducible repeat (first | apply Kd.R_alloc | apply Kd.R_drewN | apply Kd.R_drew)); exact HO_490001.out) hb); have n3_ := Aside0.mk (blk_below (g := gb467) (o := .cells #[.int .i64 a0_0, .slice A0_1 l0_1.length c0_1] 24 (0, 0)) (by (with_reducible repeat (first | refine blk_drewN ?_ _ | refine blk_drew ?_ | refine blk_alloc ?_ _)); exact BK467.out) hb); have n4_ := Aside0.mk (blk_below (g := gb478) (o := .cells #[.int .i64 t473, .slice Ao23 t474.length co23] 27 (0, 0)) (by (with_reducible repeat (first | refine blk_drewN ?_ _ | refine blk_drew ?_ | refine blk_alloc ?_ _)); exact BK478.out) hb); have n5_ := Aside0.mk (blk_below (g := gb483) (o := .cells #[.int .i64 t479, .slice Ao30 t497.length co30] 27 (0, 0)) (by (with_reducible repeat (first | refine blk_drewN ?_ _ | refine blk_drew ?_ | refine blk_alloc ?_ _)); exact BK483.out) hb); have n6_ := Aside0.mk (blk_below (g := gb489) (o := .cells #[.int .i64 t484, .slice Ao37 t485.length co37] 27 (0, 0)) (by (with_reducible repeat (first | refine blk_drewN ?_ _ | refine blk_drew ?_ | refine blk_alloc ?_ _)); exact BK489.out) hb); have n7_ := Aside0.mk (below_step (by repeat (first | (with_reducible first | exact HB.out | apply below_alloc | apply pw_below_drewN | apply below_drew1 | refine below_set ?_ GE467.out | refine below_set ?_ GE478.out | refine below_set ?_ GE483.out | refine below_set ?_ GE489.out) | exact HB.out)) hb); clear HO_479001; clear HO_484001; clear HO_490001; clear BK467; clear BK478; clear BK483; clear BK489; clear HB; have HO_479001 := n0_; have HO_484001 := n1_; have HO_490001 := n2_; have BK467 := n3_; have BK478 := n4_; have BK483 := n5_; have BK489 := n6_; have HB := n7_; clear n0_ n1_ n2_ n3_ n4_ n5_ n6_ n7_; (try clear hb); (try clear hb2); (try clear hk); (try clear hi); have hnb112 := NB467_478.out; have hnc112 := NB478_467.out; have hnb113 := NB467_483.out; have hnc113 := NB483_467.out; have hcz114_0 : w111.cell? ⟨gb467, 0, none⟩ = some (.int .i64 a0_0) := (blk_cell BK467.out 0).trans rfl; have hcz114_1 : w111.cell? ⟨gb467, 1, none⟩ = some (.slice A0_1 l0_1.length c0_1) := (blk_cell BK467.out 1).trans rfl; have hfz114_0 := blk_frozen BK467.out 0; have hfz114_1 := blk_frozen BK467.out 1) | ((with_reducible refine gate_callee (f := 17) rfl ?_); refine goesL_ (some 79) rfl rfl Try.func17 (by kernel_rfl) rfl #[.agg #[.int .i64 a0_0, .slice A0_1 l0_1.length c0_1]] rfl (by (try simp only [List.map_toArray, List.map_cons, List.map_nil]); first | done | rfl | (simp only [List.length_drop, List.length_take]; rfl)) ?_; (with_reducible refine (laws_toCube.calls kj60 a0_0 _ _ l0_1 t502 t503 _ ?side1 ?side2 A102.out).mono ?_); (case side1 => repeat (first | exact (Kd.C_below HR0_1.out HB.out) | (with_reducible refine Kd.C_alloc ?_ _) | (with_reducible refine Kd.C_drewN ?_ _) | (with_reducible refine Kd.C_drew ?_))); (case side2 => exact HC0_1.out); rintro e w115 ⟨v504, rfl, ho0, hb⟩; refine ⟨_, rfl, ?_⟩; have n0_ := Aside0.mk (Kd.R_elder' (by (with_reducible repeat (first | apply Kd.R_alloc | apply Kd.R_drewN | apply Kd.R_drew)); exact HO_479001.out) (Kd.R_base ho0) hb); have n1_ := Aside0.mk (Kd.R_elder' (by (with_reducible repeat (first | apply Kd.R_alloc | apply Kd.R_drewN | apply Kd.R_drew)); exact HO_484001.out) (Kd.R_base ho0) hb); have n2_ := Aside0.mk (Kd.R_elder' (by (with_reducible repeat (first | apply Kd.R_alloc | apply Kd.R_drewN | apply Kd.R_drew)); exact HO_490001.out) (Kd.R_base ho0) hb); have n3_ := Aside0.mk (Kd.R_lower (Kd.R_new' (Kd.R_new' (Kd.R_new' ho0 (Kd.R_lt (by (with_reducible repeat (first | apply Kd.R_alloc | apply Kd.R_drewN | apply Kd.R_drew)); exact HO_479001.out))) (Kd.R_lt (by (with_reducible repeat (first | apply Kd.R_alloc | apply Kd.R_drewN | apply Kd.R_drew)); exact HO_484001.out))) (Kd.R_lt (by (with_reducible repeat (first | apply Kd.R_alloc | apply Kd.R_drewN | apply Kd.R_drew)); exact HO_490001.out))) (below_size (by repeat (first | (with_reducible first | exact HB.out | apply below_alloc | apply pw_below_drewN | apply below_drew1 | refine below_set ?_ GE467.out | refine below_set ?_ GE478.out | refine below_set ?_ GE483.out | refine below_set ?_ GE489.out) | exact HB.out)))); have n4_ := Aside0.mk (blk_below (g := gb467) (o := .cells #[.int .i64 a0_0, .slice A0_1 l0_1.length c0_1] 24 (0, 0)) (by (with_reducible repeat (first | refine blk_drewN ?_ _ | refine blk_drew ?_ | refine blk_alloc ?_ _)); exact BK467.out) hb); have n5_ := Aside0.mk (blk_below (g := gb478) (o := .cells #[.int .i64 t473, .slice Ao23 t474.length co23] 27 (0, 0)) (by (with_reducible repeat (first | refine blk_drewN ?_ _ | refine blk_drew ?_ | refine blk_alloc ?_ _)); exact BK478.out) hb); have n6_ := Aside0.mk (blk_below (g := gb483) (o := .cells #[.int .i64 t479, .slice Ao30 t497.length co30] 27 (0, 0)) (by (with_reducible repeat (first | refine blk_drewN ?_ _ | refine blk_drew ?_ | refine blk_alloc ?_ _)); exact BK483.out) hb); have n7_ := Aside0.mk (blk_below (g := gb489) (o := .cells #[.int .i64 t484, .slice Ao37 t485.length co37] 27 (0, 0)) (by (with_reducible repeat (first | refine blk_drewN ?_ _ | refine blk_drew ?_ | refine blk_alloc ?_ _)); exact BK489.out) hb); have n8_ := Aside0.mk (below_step (by repeat (first | (with_reducible first | exact HB.out | apply below_alloc | apply pw_below_drewN | apply below_drew1 | refine below_set ?_ GE467.out | refine below_set ?_ GE478.out | refine below_set ?_ GE483.out | refine below_set ?_ GE489.out) | exact HB.out)) hb); clear HO_479001; clear HO_484001; clear HO_490001; clear BK467; clear BK478; clear BK483; clear BK489; clear HB; have HO_479001 := n0_; have HO_484001 := n1_; have HO_490001 := n2_; have HO505 := n3_; have BK467 := n4_; have BK478 := n5_; have BK483 := n6_; have BK489 := n7_; have HB := n8_; clear n0_ n1_ n2_ n3_ n4_ n5_ n6_ n7_ n8_; (try clear hb); (try clear hb2); (try clear hk); (try clear hi); (try clear ho0); obtain ⟨Ao116, co116, eo116⟩ := Kd.R_slice HO505.out; subst eo116) | ((with_reducible refine gate_callee (f := 39) rfl ?_); refine goesL_ (some 81) rfl rfl Try.func39 (by kernel_rfl) rfl #[.agg #[.int .i64 t502, .slice Ao116 t503.length co116], .int .i64 a1] rfl (by (try simp only [List.map_toArray, List.map_cons, List.map_nil]); first | done | rfl | (simp only [List.length_drop, List.length_take]; rfl)) ?_; (with_reducible refine (impl_TurnCube.calls kj60 t502 _ _ t503 a1 t506 t507 t510 _ ?side1 ?side2 A103.out).mono ?_); (case side1 => repeat (first | exact (Kd.R_reads' HO505.out).2.2 | (with_reducible refine Kd.C_alloc ?_ _) | (with_reducible refine Kd.C_drewN ?_ _) | (with_reducible refine Kd.C_drew ?_))); (case side2 => exact (Kd.R_reads' HO505.out).2.1); rintro e w117 ⟨v508, rfl, ho0, hb⟩; refine ⟨_, rfl, ?_⟩; have n0_ := Aside0.mk (Kd.R_elder' (by (with_reducible repeat (first | apply Kd.R_alloc | apply Kd.R_drewN | apply Kd.R_drew)); exact HO_479001.out) (Kd.R_base ho0) hb); have n1_ := Aside0.mk (Kd.R_elder' (by (with_reducible repeat (first | apply Kd.R_alloc | apply Kd.R_drewN | apply Kd.R_drew)); exact HO_484001.out) (Kd.R_base ho0) hb); have n2_ := Aside0.mk (Kd.R_elder' (by (with_reducible repeat (first | apply Kd.R_alloc | apply Kd.R_drewN | apply Kd.R_drew)); exact HO_490001.out) (Kd.R_base ho0) hb); have n3_ := Aside0.mk (Kd.R_elder' (by (with_reducible repeat (first | apply Kd.R_alloc | apply Kd.R_drewN | apply Kd.R_drew)); exact HO505.out) (Kd.R_base ho0) hb); have n4_ := Aside0.mk (Kd.R_lower (Kd.R_new' (Kd.R_new' (Kd.R_new' (Kd.R_new' ho0 (Kd.R_lt (by (with_reducible repeat (first | apply Kd.R_alloc | apply Kd.R_drewN | apply Kd.R_drew)); exact HO_479001.out))) (Kd.R_lt (by (with_reducible repeat (first | apply Kd.R_alloc | apply Kd.R_drewN | apply Kd.R_drew)); exact HO_484001.out))) (Kd.R_lt (by (with_reducible repeat (first | apply Kd.R_alloc | apply Kd.R_drewN | apply Kd.R_drew)); exact HO_490001.out))) (Kd.R_lt (by (with_reducible repeat (first | apply Kd.R_alloc | apply Kd.R_drewN | apply Kd.R_drew)); exact HO505.out))) (below_size (by repeat (first | (with_reducible first | exact HB.out | apply below_alloc | apply pw_below_drewN | apply below_drew1 | refine below_set ?_ GE467.out | refine below_set ?_ GE478.out | refine below_set ?_ GE483.out | refine below_set ?_ GE489.out) | exact HB.out)))); have n5_ := Aside0.mk (blk_below (g := gb467) (o := .cells #[.int .i64 a0_0, .slice A0_1 l0_1.length c0_1] 24 (0, 0)) (by (with_reducible repeat (first | refine blk_drewN ?_ _ | refine blk_drew ?_ | refine blk_alloc ?_ _)); exact BK467.out) hb); have n6_ := Aside0.mk (blk_below (g := gb478) (o := .cells #[.int .i64 t473, .slice Ao23 t474.length co23] 27 (0, 0)) (by (with_reducible repeat (first | refine blk_drewN ?_ _ | refine blk_drew ?_ | refine blk_alloc ?_ _)); exact BK478.out) hb); have n7_ := Aside0.mk (blk_below (g := gb483) (o := .cells #[.int .i64 t479, .slice Ao30 t497.length co30] 27 (0, 0)) (by (with_reducible repeat (first | refine blk_drewN ?_ _ | refine blk_drew ?_ | refine blk_alloc ?_ _)); exact BK483.out) hb); have n8_ := Aside0.mk (blk_below (g := gb489) (o := .cells #[.int .i64 t484, .slice Ao37 t485.length co37] 27 (0, 0)) (by (with_reducible repeat (first | refine blk_drewN ?_ _ | refine blk_drew ?_ | refine blk_alloc ?_ _)); exact BK489.out) hb); have n9_ := Aside0.mk (below_step (by repeat (first | (with_reducible first | exact HB.out | apply below_alloc | apply pw_below_drewN | apply below_drew1 | refine below_set ?_ GE467.out | refine below_set ?_ GE478.out | refine below_set ?_ GE483.out | refine below_set ?_ GE489.out) | exact HB.out)) hb); clear HO_479001; clear HO_484001; clear HO_490001; clear HO505; clear BK467; clear BK478; clear BK483; clear BK489; clear HB; have HO_479001 := n0_; have HO_484001 := n1_; have HO_490001 := n2_; have HO505 := n3_; have HO509 := n4_; have BK467 := n5_; have BK478 := n6_; have BK483 := n7_; have BK489 := n8_; have HB := n9_; clear n0_ n1_ n2_ n3_ n4_ n5_ n6_ n7_ n8_ n9_; (try clear hb); (try clear hb2); (try clear hk); (try clear hi); (try clear ho0)) | ((with_reducible refine gate_dst (N := 14) rfl ?_); refine box_event ?hg (N := 14) ?hd (cs := #[.int .i64 0, .slice none 0 0]) (t := 27) ?hr ?_; (case hd => rfl); (case hg => rfl); (case hr => first | (go_simp; done) | (go_simp; rfl)); intro gb511 hg w118 hbox hb; have n0_ := Aside0.mk (Kd.R_below (by (with_reducible repeat (first | apply Kd.R_alloc | apply Kd.R_drewN | apply Kd.R_drew)); exact HO_479001.out) hb); have n1_ := Aside0.mk (Kd.R_below (by (with_reducible repeat (first | apply Kd.R_alloc | apply Kd.R_drewN | apply Kd.R_drew)); exact HO_484001.out) hb); have n2_ := Aside0.mk (Kd.R_below (by (with_reducible repeat (first | apply Kd.R_alloc | apply Kd.R_drewN | apply Kd.R_drew)); exact HO_490001.out) hb); have n3_ := Aside0.mk (Kd.R_below (by (with_reducible repeat (first | apply Kd.R_alloc | apply Kd.R_drewN | apply Kd.R_drew)); exact HO505.out) hb); have n4_ := Aside0.mk (Kd.R_below (by (with_reducible repeat (first | apply Kd.R_alloc | apply Kd.R_drewN | apply Kd.R_drew)); exact HO509.out) hb); have n5_ := Aside0.mk (blk_below (g := gb467) (o := .cells #[.int .i64 a0_0, .slice A0_1 l0_1.length c0_1] 24 (0, 0)) (by (with_reducible repeat (first | refine blk_drewN ?_ _ | refine blk_drew ?_ | refine blk_alloc ?_ _)); exact BK467.out) hb); have n6_ := Aside0.mk (blk_below (g := gb478) (o := .cells #[.int .i64 t473, .slice Ao23 t474.length co23] 27 (0, 0)) (by (with_reducible repeat (first | refine blk_drewN ?_ _ | refine blk_drew ?_ | refine blk_alloc ?_ _)); exact BK478.out) hb); have n7_ := Aside0.mk (blk_below (g := gb483) (o := .cells #[.int .i64 t479, .slice Ao30 t497.length co30] 27 (0, 0)) (by (with_reducible repeat (first | refine blk_drewN ?_ _ | refine blk_drew ?_ | refine blk_alloc ?_ _)); exact BK483.out) hb); have n8_ := Aside0.mk (blk_below (g := gb489) (o := .cells #[.int .i64 t484, .slice Ao37 t485.length co37] 27 (0, 0)) (by (with_reducible repeat (first | refine blk_drewN ?_ _ | refine blk_drew ?_ | refine blk_alloc ?_ _)); exact BK489.out) hb); have n9_ := Aside0.mk (below_step (by repeat (first | (with_reducible first | exact HB.out | apply below_alloc | apply pw_below_drewN | apply below_drew1 | refine below_set ?_ GE467.out | refine below_set ?_ GE478.out | refine below_set ?_ GE483.out | refine below_set ?_ GE489.out) | exact HB.out)) hb); have n10_ := Aside0.mk (hbox); have n11_ := Aside0.mk ((by rw [hg]; exact (below_size (by repeat (first | (with_reducible first | exact HB.out | apply below_alloc | apply pw_below_drewN | apply below_drew1 | refine below_set ?_ GE467.out | refine below_set ?_ GE478.out | refine below_set ?_ GE483.out | refine below_set ?_ GE489.out) | exact HB.out))) : w.heap.size ≤ gb511)); have n12_ := Aside0.mk ((by rw [hg]; exact (below_size (by repeat (first | (with_reducible first | exact HB.out | apply below_alloc | apply pw_below_drewN | apply below_drew1 | refine below_set ?_ GE467.out | refine below_set ?_ GE478.out | refine below_set ?_ GE483.out | refine below_set ?_ GE489.out) | exact HB.out))) : w.heap.size ≤ gb511)); have n13_ := Aside0.mk ((by rw [hg]; exact Nat.ne_of_lt (blk_lt (g := gb467) (o := .cells #[.int .i64 a0_0, .slice A0_1 l0_1.length c0_1] 24 (0, 0)) (by (with_reducible repeat (first | refine blk_drewN ?_ _ | refine blk_drew ?_ | refine blk_alloc ?_ _)); exact BK467.out)) : gb467 ≠ gb511)); have n14_ := Aside0.mk ((by rw [hg]; exact Nat.ne_of_gt (blk_lt (g := gb467) (o := .cells #[.int .i64 a0_0, .slice A0_1 l0_1.length c0_1] 24 (0, 0)) (by (with_reducible repeat (first | refine blk_drewN ?_ _ | refine blk_drew ?_ | refine blk_alloc ?_ _)); exact BK467.out)) : gb511 ≠ gb467)); have n15_ := Aside0.mk ((by rw [hg]; exact Nat.ne_of_lt (blk_lt (g := gb478) (o := .cells #[.int .i64 t473, .slice Ao23 t474.length co23] 27 (0, 0)) (by (with_reducible repeat (first | refine blk_drewN ?_ _ | refine blk_drew ?_ | refine blk_alloc ?_ _)); exact BK478.out)) : gb478 ≠ gb511)); have n16_ := Aside0.mk ((by rw [hg]; exact Nat.ne_of_gt (blk_lt (g := gb478) (o := .cells #[.int .i64 t473, .slice Ao23 t474.length co23] 27 (0, 0)) (by (with_reducible repeat (first | refine blk_drewN ?_ _ | refine blk_drew ?_ | refine blk_alloc ?_ _)); exact BK478.out)) : gb511 ≠ gb478)); have n17_ := Aside0.mk ((by rw [hg]; exact Nat.ne_of_lt (blk_lt (g := gb483) (o := .cells #[.int .i64 t479, .slice Ao30 t497.length co30] 27 (0, 0)) (by (with_reducible repeat (first | refine blk_drewN ?_ _ | refine blk_drew ?_ | refine blk_alloc ?_ _)); exact BK483.out)) : gb483 ≠ gb511)); have n18_ := Aside0.mk ((by rw [hg]; exact Nat.ne_of_gt (blk_lt (g := gb483) (o := .cells #[.int .i64 t479, .slice Ao30 t497.length co30] 27 (0, 0)) (by (with_reducible repeat (first | refine blk_drewN ?_ _ | refine blk_drew ?_ | refine blk_alloc ?_ _)); exact BK483.out)) : gb511 ≠ gb483)); have n19_ := Aside0.mk ((by rw [hg]; exact Nat.ne_of_lt (blk_lt (g := gb489) (o := .cells #[.int .i64 t484, .slice Ao37 t485.length co37] 27 (0, 0)) (by (with_reducible repeat (first | refine blk_drewN ?_ _ | refine blk_drew ?_ | refine blk_alloc ?_ _)); exact BK489.out)) : gb489 ≠ gb511)); have n20_ := Aside0.mk ((by rw [hg]; exact Nat.ne_of_gt (blk_lt (g := gb489) (o := .cells #[.int .i64 t484, .slice Ao37 t485.length co37] 27 (0, 0)) (by (with_reducible repeat (first | refine blk_drewN ?_ _ | refine blk_drew ?_ | refine blk_alloc ?_ _)); exact BK489.out)) : gb511 ≠ gb489)); clear HO_479001; clear HO_484001; clear HO_490001; clear HO505; clear HO509; clear BK467; clear BK478; clear BK483; clear BK489; clear HB; have HO_479001 := n0_; have HO_484001 := n1_; have HO_490001 := n2_; have HO505 := n3_; have HO509 := n4_; have BK467 := n5_; have BK478 := n6_; have BK483 := n7_; have BK489 := n8_; have HB := n9_; have BK511 := n10_; have GW511 := n11_; have GE511 := n12_; have NB467_511 := n13_; have NB511_467 := n14_; have NB478_511 := n15_; have NB511_478 := n16_; have NB483_511 := n17_; have NB511_483 := n18_; have NB489_511 := n19_; have NB511_489 := n20_; clear n0_ n1_ n2_ n3_ n4_ n5_ n6_ n7_ n8_ n9_ n10_ n11_ n12_ n13_ n14_ n15_ n16_ n17_ n18_ n19_ n20_; clear hb hbox hg; have hnb119 := NB511_467.out; have hnc119 := NB467_511.out; have hnb120 := NB511_478.out; have hnc120 := NB478_511.out; have hnb121 := NB511_483.out; have hnc121 := NB483_511.out; have hnb122 := NB511_489.out; have hnc122 := NB489_511.out; have hcz123_0 : w118.cell? ⟨gb511, 0, none⟩ = some (.int .i64 0) := (blk_cell BK511.out 0).trans rfl; have hcz123_1 : w118.cell? ⟨gb511, 1, none⟩ = some (.slice none 0 0) := (blk_cell BK511.out 1).trans rfl; have hfz123_0 := blk_frozen BK511.out 0; have hfz123_1 := blk_frozen BK511.out 1; obtain ⟨Ao124, co124, eo124⟩ := Kd.R_slice HO509.out; subst eo124))
                      (try simp only [Act.put, List.setIfInBounds_toArray, List.set_cons_zero, List.set_cons_succ])
                      go_cut [92] (fun v92 wc => ∃ (kq : Nat) (x92_103 : Bool), v92 = .bool x92_103 ∧ Aside0 (laws_FnExactTurnCube.j2 kq t499 x92_103 t484 t500 = some r) ∧ Aside0 (kq ≤ kj60) ∧ Aside0 (Kd.R (Kd.int .i64) 2 wc w.heap.size (fun k_ => some k_ ≠ ((.slice Ao30 t497.length co30) : Value).ownBlock ∧ some k_ ≠ ((.slice Ao37 t485.length co37) : Value).ownBlock ∧ some k_ ≠ ((.slice Ao124 t507.length co124) : Value).ownBlock) (.slice Ao23 t474.length co23) t474) ∧ Aside0 (Kd.R (Kd.int .i64) 2 wc w.heap.size (fun k_ => some k_ ≠ ((.slice Ao23 t474.length co23) : Value).ownBlock ∧ some k_ ≠ ((.slice Ao37 t485.length co37) : Value).ownBlock ∧ some k_ ≠ ((.slice Ao124 t507.length co124) : Value).ownBlock) (.slice Ao30 t497.length co30) t497) ∧ Aside0 (Kd.R (Kd.int .i64) 2 wc w.heap.size (fun k_ => some k_ ≠ ((.slice Ao23 t474.length co23) : Value).ownBlock ∧ some k_ ≠ ((.slice Ao30 t497.length co30) : Value).ownBlock ∧ some k_ ≠ ((.slice Ao124 t507.length co124) : Value).ownBlock) (.slice Ao37 t485.length co37) t500) ∧ Aside0 (Kd.R (Kd.int .i64) 2 wc w.heap.size (fun k_ => some k_ ≠ ((.slice Ao23 t474.length co23) : Value).ownBlock ∧ some k_ ≠ ((.slice Ao30 t497.length co30) : Value).ownBlock ∧ some k_ ≠ ((.slice Ao37 t485.length co37) : Value).ownBlock) (.slice Ao124 t507.length co124) t507) ∧ Aside0 (wc.heap[gb467]? = some (.cells #[.int .i64 a0_0, (.slice A0_1 l0_1.length c0_1)] 24 (0, 0))) ∧ Aside0 (wc.heap[gb478]? = some (.cells #[.int .i64 t473, (.slice Ao23 t474.length co23)] 27 (0, 0))) ∧ Aside0 (wc.heap[gb483]? = some (.cells #[.int .i64 t479, (.slice Ao30 t497.length co30)] 27 (0, 0))) ∧ Aside0 (wc.heap[gb489]? = some (.cells #[.int .i64 t484, (.slice Ao37 t485.length co37)] 27 (0, 0))) ∧ Aside0 (wc.heap[gb511]? = some (.cells #[.int .i64 t506, (.slice Ao124 t507.length co124)] 27 (0, 0))) ∧ Aside0 (Below w.heap.size w wc))
                      case first =>
                        have H := HC104.out
                        clear HC104
                        replace H := Option.bind_eq_some_iff.mp H
                        obtain ⟨t512, A1250, H⟩ := H
                        replace H : (if t512 = true then (laws_FnExactTurnCube.j2 kj60 t499 (t510 != t477) t484 t500) else (laws_FnExactTurnCube.j2 kj60 t499 true t484 t500)) = some r := H
                        have A125 := Aside0.mk A1250
                        clear A1250
                        by_cases c126 : t512 = true
                        · subst c126
                          have H1 : (laws_FnExactTurnCube.j2 kj60 t499 (t510 != t477) t484 t500) = some r := by rw [if_pos rfl] at H; exact H
                          clear H
                          have H := H1
                          clear H1
                          have H' := Aside0.mk H
                          clear H
                          have hnb127 := NB511_467.out
                          have hnc127 := NB467_511.out
                          have hnb128 := NB511_478.out
                          have hnc128 := NB478_511.out
                          have hnb129 := NB511_483.out
                          have hnc129 := NB483_511.out
                          have hnb130 := NB511_489.out
                          have hnc130 := NB489_511.out
                          have hcz131_0 : w118.cell? ⟨gb511, 0, none⟩ = some (.int .i64 0) := (blk_cell BK511.out 0).trans rfl
                          have hcz131_1 : w118.cell? ⟨gb511, 1, none⟩ = some (.slice none 0 0) := (blk_cell BK511.out 1).trans rfl
                          have hfz131_0 := blk_frozen BK511.out 0
                          have hfz131_1 := blk_frozen BK511.out 1
                          have hnb132 := NB478_467.out
                          have hnc132 := NB467_478.out
                          have hnb133 := NB478_483.out
                          have hnc133 := NB483_478.out
                          have hnb134 := NB478_489.out
                          have hnc134 := NB489_478.out
                          have hcz135_0 : w118.cell? ⟨gb478, 0, none⟩ = some (.int .i64 t473) := (blk_cell BK478.out 0).trans rfl
                          have hcz135_1 : w118.cell? ⟨gb478, 1, none⟩ = some (.slice Ao23 t474.length co23) := (blk_cell BK478.out 1).trans rfl
                          have hfz135_0 := blk_frozen BK478.out 0
                          have hfz135_1 := blk_frozen BK478.out 1
                          go_wp2_with (first | ((with_reducible refine gate_callee (f := 19) rfl ?_); refine goesL_ (some 86) rfl rfl Try.func19 (by kernel_rfl) rfl #[.agg #[.int .i64 t506, .slice Ao124 t507.length co124], .agg #[.int .i64 t473, .slice Ao23 t474.length co23]] rfl (by (try simp only [List.map_toArray, List.map_cons, List.map_nil]); first | done | rfl | (simp only [List.length_drop, List.length_take]; rfl)) ?_; (with_reducible refine (laws_eqCube.calls kj60 t506 _ _ t507 t473 _ _ t474 true _ ?side1 ?side2 ?side3 ?side4 A125.out).mono ?_); (case side1 => refine (Kd.R_reads' (e := 2) (base := w.heap.size) (ok := fun k_ => ((((True ∧ some k_ ≠ (.slice Ao23 t474.length co23 : Value).ownBlock) ∧ some k_ ≠ (.slice Ao30 t497.length co30 : Value).ownBlock) ∧ some k_ ≠ (.slice Ao37 t485.length co37 : Value).ownBlock) ∧ some k_ ≠ (.slice Ao116 t503.length co116 : Value).ownBlock)) (n := t507.length) (c := co124) ?_).2.2; exact (by (with_reducible repeat (first | apply Kd.R_alloc | apply Kd.R_drewN | apply Kd.R_drew)); exact (Kd.R_mono (Kd.R_far (p := ⟨gb511, 1, none⟩) (Kd.R_far (p := ⟨gb511, 0, none⟩) (Kd.R_types HO509.out BK511.out (by decide)) (fun _ hk => hk.2) (.int .i64 t506)) (fun _ hk => hk.2) (.slice Ao124 t507.length co124)) (fun _ h_ => h_.1)))); (case side2 => exact (Kd.R_reads' HO509.out).2.1); (case side3 => refine (Kd.R_reads' (e := 2) (base := w.heap.size) (ok := fun k_ => (((some k_ ≠ (.slice Ao30 t497.length co30 : Value).ownBlock ∧ some k_ ≠ (.slice Ao37 t485.length co37 : Value).ownBlock) ∧ some k_ ≠ (.slice Ao116 t503.length co116 : Value).ownBlock) ∧ some k_ ≠ (.slice Ao124 t507.length co124 : Value).ownBlock)) (n := t474.length) (c := co23) ?_).2.2; exact (by (with_reducible repeat (first | apply Kd.R_alloc | apply Kd.R_drewN | apply Kd.R_drew)); exact (Kd.R_mono (Kd.R_far (p := ⟨gb511, 1, none⟩) (Kd.R_far (p := ⟨gb511, 0, none⟩) (Kd.R_types HO_479001.out BK511.out (by decide)) (fun _ hk => hk.2) (.int .i64 t506)) (fun _ hk => hk.2) (.slice Ao124 t507.length co124)) (fun _ h_ => h_.1)))); (case side4 => exact (Kd.R_reads' HO_479001.out).2.1); rintro e w136 ⟨rfl, hb⟩; refine ⟨_, rfl, ?_⟩; have n0_ := Aside0.mk (Kd.R_below (by (with_reducible repeat (first | apply Kd.R_alloc | apply Kd.R_drewN | apply Kd.R_drew)); exact (Kd.R_mono (Kd.R_far (p := ⟨gb511, 1, none⟩) (Kd.R_far (p := ⟨gb511, 0, none⟩) (Kd.R_types HO_479001.out BK511.out (by decide)) (fun _ hk => hk.2) (.int .i64 t506)) (fun _ hk => hk.2) (.slice Ao124 t507.length co124)) (fun _ h_ => h_.1))) hb); have n1_ := Aside0.mk (Kd.R_below (by (with_reducible repeat (first | apply Kd.R_alloc | apply Kd.R_drewN | apply Kd.R_drew)); exact (Kd.R_mono (Kd.R_far (p := ⟨gb511, 1, none⟩) (Kd.R_far (p := ⟨gb511, 0, none⟩) (Kd.R_types HO_484001.out BK511.out (by decide)) (fun _ hk => hk.2) (.int .i64 t506)) (fun _ hk => hk.2) (.slice Ao124 t507.length co124)) (fun _ h_ => h_.1))) hb); have n2_ := Aside0.mk (Kd.R_below (by (with_reducible repeat (first | apply Kd.R_alloc | apply Kd.R_drewN | apply Kd.R_drew)); exact (Kd.R_mono (Kd.R_far (p := ⟨gb511, 1, none⟩) (Kd.R_far (p := ⟨gb511, 0, none⟩) (Kd.R_types HO_490001.out BK511.out (by decide)) (fun _ hk => hk.2) (.int .i64 t506)) (fun _ hk => hk.2) (.slice Ao124 t507.length co124)) (fun _ h_ => h_.1))) hb); have n3_ := Aside0.mk (Kd.R_below (by (with_reducible repeat (first | apply Kd.R_alloc | apply Kd.R_drewN | apply Kd.R_drew)); exact (Kd.R_mono (Kd.R_far (p := ⟨gb511, 1, none⟩) (Kd.R_far (p := ⟨gb511, 0, none⟩) (Kd.R_types HO505.out BK511.out (by decide)) (fun _ hk => hk.2) (.int .i64 t506)) (fun _ hk => hk.2) (.slice Ao124 t507.length co124)) (fun _ h_ => h_.1))) hb); have n4_ := Aside0.mk (Kd.R_below (by (with_reducible repeat (first | apply Kd.R_alloc | apply Kd.R_drewN | apply Kd.R_drew)); exact (Kd.R_mono (Kd.R_far (p := ⟨gb511, 1, none⟩) (Kd.R_far (p := ⟨gb511, 0, none⟩) (Kd.R_types HO509.out BK511.out (by decide)) (fun _ hk => hk.2) (.int .i64 t506)) (fun _ hk => hk.2) (.slice Ao124 t507.length co124)) (fun _ h_ => h_.1))) hb); have n5_ := Aside0.mk (blk_below (g := gb467) (o := .cells #[.int .i64 a0_0, .slice A0_1 l0_1.length c0_1] 24 (0, 0)) (by (with_reducible repeat (first | refine blk_drewN ?_ _ | refine blk_drew ?_ | refine blk_alloc ?_ _)); refine blk_far ?_ NB467_511.out _; (with_reducible repeat (first | refine blk_drewN ?_ _ | refine blk_drew ?_ | refine blk_alloc ?_ _)); refine blk_far ?_ NB467_511.out _; (with_reducible repeat (first | refine blk_drewN ?_ _ | refine blk_drew ?_ | refine blk_alloc ?_ _)); exact BK467.out) hb); have n6_ := Aside0.mk (blk_below (g := gb478) (o := .cells #[.int .i64 t473, .slice Ao23 t474.length co23] 27 (0, 0)) (by (with_reducible repeat (first | refine blk_drewN ?_ _ | refine blk_drew ?_ | refine blk_alloc ?_ _)); refine blk_far ?_ NB478_511.out _; (with_reducible repeat (first | refine blk_drewN ?_ _ | refine blk_drew ?_ | refine blk_alloc ?_ _)); refine blk_far ?_ NB478_511.out _; (with_reducible repeat (first | refine blk_drewN ?_ _ | refine blk_drew ?_ | refine blk_alloc ?_ _)); exact BK478.out) hb); have n7_ := Aside0.mk (blk_below (g := gb483) (o := .cells #[.int .i64 t479, .slice Ao30 t497.length co30] 27 (0, 0)) (by (with_reducible repeat (first | refine blk_drewN ?_ _ | refine blk_drew ?_ | refine blk_alloc ?_ _)); refine blk_far ?_ NB483_511.out _; (with_reducible repeat (first | refine blk_drewN ?_ _ | refine blk_drew ?_ | refine blk_alloc ?_ _)); refine blk_far ?_ NB483_511.out _; (with_reducible repeat (first | refine blk_drewN ?_ _ | refine blk_drew ?_ | refine blk_alloc ?_ _)); exact BK483.out) hb); have n8_ := Aside0.mk (blk_below (g := gb489) (o := .cells #[.int .i64 t484, .slice Ao37 t485.length co37] 27 (0, 0)) (by (with_reducible repeat (first | refine blk_drewN ?_ _ | refine blk_drew ?_ | refine blk_alloc ?_ _)); refine blk_far ?_ NB489_511.out _; (with_reducible repeat (first | refine blk_drewN ?_ _ | refine blk_drew ?_ | refine blk_alloc ?_ _)); refine blk_far ?_ NB489_511.out _; (with_reducible repeat (first | refine blk_drewN ?_ _ | refine blk_drew ?_ | refine blk_alloc ?_ _)); exact BK489.out) hb); have n9_ := Aside0.mk (blk_below (g := gb511) (o := .cells #[.int .i64 t506, .slice Ao124 t507.length co124] 27 (0, 0)) (by (with_reducible repeat (first | refine blk_drewN ?_ _ | refine blk_drew ?_ | refine blk_alloc ?_ _)); refine blk_put (cs := #[.int .i64 t506, .slice none 0 0]) ?_ 1 _ rfl; (with_reducible repeat (first | refine blk_drewN ?_ _ | refine blk_drew ?_ | refine blk_alloc ?_ _)); refine blk_put (cs := #[.int .i64 0, .slice none 0 0]) ?_ 0 _ rfl; (with_reducible repeat (first | refine blk_drewN ?_ _ | refine blk_drew ?_ | refine blk_alloc ?_ _)); exact BK511.out) hb); have n10_ := Aside0.mk (below_step (by repeat (first | (with_reducible first | exact HB.out | apply below_alloc | apply pw_below_drewN | apply below_drew1 | refine below_set ?_ GE467.out | refine below_set ?_ GE478.out | refine below_set ?_ GE483.out | refine below_set ?_ GE489.out | refine below_set ?_ GE511.out) | exact HB.out)) hb); clear HO_479001; clear HO_484001; clear HO_490001; clear HO505; clear HO509; clear BK467; clear BK478; clear BK483; clear BK489; clear BK511; clear HB; have HO_479001 := n0_; have HO_484001 := n1_; have HO_490001 := n2_; have HO505 := n3_; have HO509 := n4_; have BK467 := n5_; have BK478 := n6_; have BK483 := n7_; have BK489 := n8_; have BK511 := n9_; have HB := n10_; clear n0_ n1_ n2_ n3_ n4_ n5_ n6_ n7_ n8_ n9_ n10_; (try clear hb); (try clear hb2); (try clear hk); (try clear hi)))
                          go_meet
                          case rel => exact ⟨_, ((t510 != t477)), (by first | rfl | (simp; done) | (simp [*]; done)), H', ⟨by have := HJ11.out; have := HJ60.out; first | omega | exact Nat.le_refl _⟩, ⟨by (try simp only [hl484001_60]); (with_reducible repeat (first | apply Kd.R_alloc | apply Kd.R_drewN | apply Kd.R_drew)); exact Kd.R_mono HO_479001.out (fun _ hk => ⟨hk.1.1.1, ⟨hk.1.1.2, hk.2⟩⟩)⟩, ⟨by (try simp only [hl484001_60]); (with_reducible repeat (first | apply Kd.R_alloc | apply Kd.R_drewN | apply Kd.R_drew)); exact Kd.R_mono HO_484001.out (fun _ hk => ⟨hk.1.1.1, ⟨hk.1.1.2, hk.2⟩⟩)⟩, ⟨by (try simp only [hl484001_60]); (with_reducible repeat (first | apply Kd.R_alloc | apply Kd.R_drewN | apply Kd.R_drew)); exact Kd.R_mono HO_490001.out (fun _ hk => ⟨hk.1.1.1, ⟨hk.1.1.2, hk.2⟩⟩)⟩, ⟨by (try simp only [hl484001_60]); (with_reducible repeat (first | apply Kd.R_alloc | apply Kd.R_drewN | apply Kd.R_drew)); exact Kd.R_mono HO509.out (fun _ hk => ⟨hk.1.1.1.2, ⟨hk.1.1.2, hk.1.2⟩⟩)⟩, ⟨by (try simp only [hl484001_60]); (with_reducible repeat (first | refine blk_drewN ?_ _ | refine blk_drew ?_ | refine blk_alloc ?_ _)); exact BK467.out⟩, ⟨by (try simp only [hl484001_60]); (with_reducible repeat (first | refine blk_drewN ?_ _ | refine blk_drew ?_ | refine blk_alloc ?_ _)); exact BK478.out⟩, ⟨by (try simp only [hl484001_60]); (with_reducible repeat (first | refine blk_drewN ?_ _ | refine blk_drew ?_ | refine blk_alloc ?_ _)); exact BK483.out⟩, ⟨by (try simp only [hl484001_60]); (with_reducible repeat (first | refine blk_drewN ?_ _ | refine blk_drew ?_ | refine blk_alloc ?_ _)); exact BK489.out⟩, ⟨by (try simp only [hl484001_60]); (with_reducible repeat (first | refine blk_drewN ?_ _ | refine blk_drew ?_ | refine blk_alloc ?_ _)); exact BK511.out⟩, ⟨by repeat (first | (with_reducible first | exact HB.out | apply below_alloc | apply pw_below_drewN | apply below_drew1 | refine below_set ?_ GE467.out | refine below_set ?_ GE478.out | refine below_set ?_ GE483.out | refine below_set ?_ GE489.out | refine below_set ?_ GE511.out) | exact HB.out)⟩⟩
                        · replace c126 := Bool.eq_false_iff.mpr c126
                          subst c126
                          have H1 : (laws_FnExactTurnCube.j2 kj60 t499 true t484 t500) = some r := by rw [if_neg (show ¬ (false = true) by decide)] at H; exact H
                          clear H
                          have H := H1
                          clear H1
                          have H' := Aside0.mk H
                          clear H
                          have hnb137 := NB511_467.out
                          have hnc137 := NB467_511.out
                          have hnb138 := NB511_478.out
                          have hnc138 := NB478_511.out
                          have hnb139 := NB511_483.out
                          have hnc139 := NB483_511.out
                          have hnb140 := NB511_489.out
                          have hnc140 := NB489_511.out
                          have hcz141_0 : w118.cell? ⟨gb511, 0, none⟩ = some (.int .i64 0) := (blk_cell BK511.out 0).trans rfl
                          have hcz141_1 : w118.cell? ⟨gb511, 1, none⟩ = some (.slice none 0 0) := (blk_cell BK511.out 1).trans rfl
                          have hfz141_0 := blk_frozen BK511.out 0
                          have hfz141_1 := blk_frozen BK511.out 1
                          have hnb142 := NB478_467.out
                          have hnc142 := NB467_478.out
                          have hnb143 := NB478_483.out
                          have hnc143 := NB483_478.out
                          have hnb144 := NB478_489.out
                          have hnc144 := NB489_478.out
                          have hcz145_0 : w118.cell? ⟨gb478, 0, none⟩ = some (.int .i64 t473) := (blk_cell BK478.out 0).trans rfl
                          have hcz145_1 : w118.cell? ⟨gb478, 1, none⟩ = some (.slice Ao23 t474.length co23) := (blk_cell BK478.out 1).trans rfl
                          have hfz145_0 := blk_frozen BK478.out 0
                          have hfz145_1 := blk_frozen BK478.out 1
                          go_wp2_with (first | ((with_reducible refine gate_callee (f := 19) rfl ?_); refine goesL_ (some 86) rfl rfl Try.func19 (by kernel_rfl) rfl #[.agg #[.int .i64 t506, .slice Ao124 t507.length co124], .agg #[.int .i64 t473, .slice Ao23 t474.length co23]] rfl (by (try simp only [List.map_toArray, List.map_cons, List.map_nil]); first | done | rfl | (simp only [List.length_drop, List.length_take]; rfl)) ?_; (with_reducible refine (laws_eqCube.calls kj60 t506 _ _ t507 t473 _ _ t474 false _ ?side1 ?side2 ?side3 ?side4 A125.out).mono ?_); (case side1 => refine (Kd.R_reads' (e := 2) (base := w.heap.size) (ok := fun k_ => ((((True ∧ some k_ ≠ (.slice Ao23 t474.length co23 : Value).ownBlock) ∧ some k_ ≠ (.slice Ao30 t497.length co30 : Value).ownBlock) ∧ some k_ ≠ (.slice Ao37 t485.length co37 : Value).ownBlock) ∧ some k_ ≠ (.slice Ao116 t503.length co116 : Value).ownBlock)) (n := t507.length) (c := co124) ?_).2.2; exact (by (with_reducible repeat (first | apply Kd.R_alloc | apply Kd.R_drewN | apply Kd.R_drew)); exact (Kd.R_mono (Kd.R_far (p := ⟨gb511, 1, none⟩) (Kd.R_far (p := ⟨gb511, 0, none⟩) (Kd.R_types HO509.out BK511.out (by decide)) (fun _ hk => hk.2) (.int .i64 t506)) (fun _ hk => hk.2) (.slice Ao124 t507.length co124)) (fun _ h_ => h_.1)))); (case side2 => exact (Kd.R_reads' HO509.out).2.1); (case side3 => refine (Kd.R_reads' (e := 2) (base := w.heap.size) (ok := fun k_ => (((some k_ ≠ (.slice Ao30 t497.length co30 : Value).ownBlock ∧ some k_ ≠ (.slice Ao37 t485.length co37 : Value).ownBlock) ∧ some k_ ≠ (.slice Ao116 t503.length co116 : Value).ownBlock) ∧ some k_ ≠ (.slice Ao124 t507.length co124 : Value).ownBlock)) (n := t474.length) (c := co23) ?_).2.2; exact (by (with_reducible repeat (first | apply Kd.R_alloc | apply Kd.R_drewN | apply Kd.R_drew)); exact (Kd.R_mono (Kd.R_far (p := ⟨gb511, 1, none⟩) (Kd.R_far (p := ⟨gb511, 0, none⟩) (Kd.R_types HO_479001.out BK511.out (by decide)) (fun _ hk => hk.2) (.int .i64 t506)) (fun _ hk => hk.2) (.slice Ao124 t507.length co124)) (fun _ h_ => h_.1)))); (case side4 => exact (Kd.R_reads' HO_479001.out).2.1); rintro e w146 ⟨rfl, hb⟩; refine ⟨_, rfl, ?_⟩; have n0_ := Aside0.mk (Kd.R_below (by (with_reducible repeat (first | apply Kd.R_alloc | apply Kd.R_drewN | apply Kd.R_drew)); exact (Kd.R_mono (Kd.R_far (p := ⟨gb511, 1, none⟩) (Kd.R_far (p := ⟨gb511, 0, none⟩) (Kd.R_types HO_479001.out BK511.out (by decide)) (fun _ hk => hk.2) (.int .i64 t506)) (fun _ hk => hk.2) (.slice Ao124 t507.length co124)) (fun _ h_ => h_.1))) hb); have n1_ := Aside0.mk (Kd.R_below (by (with_reducible repeat (first | apply Kd.R_alloc | apply Kd.R_drewN | apply Kd.R_drew)); exact (Kd.R_mono (Kd.R_far (p := ⟨gb511, 1, none⟩) (Kd.R_far (p := ⟨gb511, 0, none⟩) (Kd.R_types HO_484001.out BK511.out (by decide)) (fun _ hk => hk.2) (.int .i64 t506)) (fun _ hk => hk.2) (.slice Ao124 t507.length co124)) (fun _ h_ => h_.1))) hb); have n2_ := Aside0.mk (Kd.R_below (by (with_reducible repeat (first | apply Kd.R_alloc | apply Kd.R_drewN | apply Kd.R_drew)); exact (Kd.R_mono (Kd.R_far (p := ⟨gb511, 1, none⟩) (Kd.R_far (p := ⟨gb511, 0, none⟩) (Kd.R_types HO_490001.out BK511.out (by decide)) (fun _ hk => hk.2) (.int .i64 t506)) (fun _ hk => hk.2) (.slice Ao124 t507.length co124)) (fun _ h_ => h_.1))) hb); have n3_ := Aside0.mk (Kd.R_below (by (with_reducible repeat (first | apply Kd.R_alloc | apply Kd.R_drewN | apply Kd.R_drew)); exact (Kd.R_mono (Kd.R_far (p := ⟨gb511, 1, none⟩) (Kd.R_far (p := ⟨gb511, 0, none⟩) (Kd.R_types HO505.out BK511.out (by decide)) (fun _ hk => hk.2) (.int .i64 t506)) (fun _ hk => hk.2) (.slice Ao124 t507.length co124)) (fun _ h_ => h_.1))) hb); have n4_ := Aside0.mk (Kd.R_below (by (with_reducible repeat (first | apply Kd.R_alloc | apply Kd.R_drewN | apply Kd.R_drew)); exact (Kd.R_mono (Kd.R_far (p := ⟨gb511, 1, none⟩) (Kd.R_far (p := ⟨gb511, 0, none⟩) (Kd.R_types HO509.out BK511.out (by decide)) (fun _ hk => hk.2) (.int .i64 t506)) (fun _ hk => hk.2) (.slice Ao124 t507.length co124)) (fun _ h_ => h_.1))) hb); have n5_ := Aside0.mk (blk_below (g := gb467) (o := .cells #[.int .i64 a0_0, .slice A0_1 l0_1.length c0_1] 24 (0, 0)) (by (with_reducible repeat (first | refine blk_drewN ?_ _ | refine blk_drew ?_ | refine blk_alloc ?_ _)); refine blk_far ?_ NB467_511.out _; (with_reducible repeat (first | refine blk_drewN ?_ _ | refine blk_drew ?_ | refine blk_alloc ?_ _)); refine blk_far ?_ NB467_511.out _; (with_reducible repeat (first | refine blk_drewN ?_ _ | refine blk_drew ?_ | refine blk_alloc ?_ _)); exact BK467.out) hb); have n6_ := Aside0.mk (blk_below (g := gb478) (o := .cells #[.int .i64 t473, .slice Ao23 t474.length co23] 27 (0, 0)) (by (with_reducible repeat (first | refine blk_drewN ?_ _ | refine blk_drew ?_ | refine blk_alloc ?_ _)); refine blk_far ?_ NB478_511.out _; (with_reducible repeat (first | refine blk_drewN ?_ _ | refine blk_drew ?_ | refine blk_alloc ?_ _)); refine blk_far ?_ NB478_511.out _; (with_reducible repeat (first | refine blk_drewN ?_ _ | refine blk_drew ?_ | refine blk_alloc ?_ _)); exact BK478.out) hb); have n7_ := Aside0.mk (blk_below (g := gb483) (o := .cells #[.int .i64 t479, .slice Ao30 t497.length co30] 27 (0, 0)) (by (with_reducible repeat (first | refine blk_drewN ?_ _ | refine blk_drew ?_ | refine blk_alloc ?_ _)); refine blk_far ?_ NB483_511.out _; (with_reducible repeat (first | refine blk_drewN ?_ _ | refine blk_drew ?_ | refine blk_alloc ?_ _)); refine blk_far ?_ NB483_511.out _; (with_reducible repeat (first | refine blk_drewN ?_ _ | refine blk_drew ?_ | refine blk_alloc ?_ _)); exact BK483.out) hb); have n8_ := Aside0.mk (blk_below (g := gb489) (o := .cells #[.int .i64 t484, .slice Ao37 t485.length co37] 27 (0, 0)) (by (with_reducible repeat (first | refine blk_drewN ?_ _ | refine blk_drew ?_ | refine blk_alloc ?_ _)); refine blk_far ?_ NB489_511.out _; (with_reducible repeat (first | refine blk_drewN ?_ _ | refine blk_drew ?_ | refine blk_alloc ?_ _)); refine blk_far ?_ NB489_511.out _; (with_reducible repeat (first | refine blk_drewN ?_ _ | refine blk_drew ?_ | refine blk_alloc ?_ _)); exact BK489.out) hb); have n9_ := Aside0.mk (blk_below (g := gb511) (o := .cells #[.int .i64 t506, .slice Ao124 t507.length co124] 27 (0, 0)) (by (with_reducible repeat (first | refine blk_drewN ?_ _ | refine blk_drew ?_ | refine blk_alloc ?_ _)); refine blk_put (cs := #[.int .i64 t506, .slice none 0 0]) ?_ 1 _ rfl; (with_reducible repeat (first | refine blk_drewN ?_ _ | refine blk_drew ?_ | refine blk_alloc ?_ _)); refine blk_put (cs := #[.int .i64 0, .slice none 0 0]) ?_ 0 _ rfl; (with_reducible repeat (first | refine blk_drewN ?_ _ | refine blk_drew ?_ | refine blk_alloc ?_ _)); exact BK511.out) hb); have n10_ := Aside0.mk (below_step (by repeat (first | (with_reducible first | exact HB.out | apply below_alloc | apply pw_below_drewN | apply below_drew1 | refine below_set ?_ GE467.out | refine below_set ?_ GE478.out | refine below_set ?_ GE483.out | refine below_set ?_ GE489.out | refine below_set ?_ GE511.out) | exact HB.out)) hb); clear HO_479001; clear HO_484001; clear HO_490001; clear HO505; clear HO509; clear BK467; clear BK478; clear BK483; clear BK489; clear BK511; clear HB; have HO_479001 := n0_; have HO_484001 := n1_; have HO_490001 := n2_; have HO505 := n3_; have HO509 := n4_; have BK467 := n5_; have BK478 := n6_; have BK483 := n7_; have BK489 := n8_; have BK511 := n9_; have HB := n10_; clear n0_ n1_ n2_ n3_ n4_ n5_ n6_ n7_ n8_ n9_ n10_; (try clear hb); (try clear hb2); (try clear hk); (try clear hi)))
                          go_meet
                          case rel => exact ⟨_, (true), (by first | rfl | (simp; done) | (simp [*]; done)), H', ⟨by have := HJ11.out; have := HJ60.out; first | omega | exact Nat.le_refl _⟩, ⟨by (try simp only [hl484001_60]); (with_reducible repeat (first | apply Kd.R_alloc | apply Kd.R_drewN | apply Kd.R_drew)); exact Kd.R_mono HO_479001.out (fun _ hk => ⟨hk.1.1.1, ⟨hk.1.1.2, hk.2⟩⟩)⟩, ⟨by (try simp only [hl484001_60]); (with_reducible repeat (first | apply Kd.R_alloc | apply Kd.R_drewN | apply Kd.R_drew)); exact Kd.R_mono HO_484001.out (fun _ hk => ⟨hk.1.1.1, ⟨hk.1.1.2, hk.2⟩⟩)⟩, ⟨by (try simp only [hl484001_60]); (with_reducible repeat (first | apply Kd.R_alloc | apply Kd.R_drewN | apply Kd.R_drew)); exact Kd.R_mono HO_490001.out (fun _ hk => ⟨hk.1.1.1, ⟨hk.1.1.2, hk.2⟩⟩)⟩, ⟨by (try simp only [hl484001_60]); (with_reducible repeat (first | apply Kd.R_alloc | apply Kd.R_drewN | apply Kd.R_drew)); exact Kd.R_mono HO509.out (fun _ hk => ⟨hk.1.1.1.2, ⟨hk.1.1.2, hk.1.2⟩⟩)⟩, ⟨by (try simp only [hl484001_60]); (with_reducible repeat (first | refine blk_drewN ?_ _ | refine blk_drew ?_ | refine blk_alloc ?_ _)); exact BK467.out⟩, ⟨by (try simp only [hl484001_60]); (with_reducible repeat (first | refine blk_drewN ?_ _ | refine blk_drew ?_ | refine blk_alloc ?_ _)); exact BK478.out⟩, ⟨by (try simp only [hl484001_60]); (with_reducible repeat (first | refine blk_drewN ?_ _ | refine blk_drew ?_ | refine blk_alloc ?_ _)); exact BK483.out⟩, ⟨by (try simp only [hl484001_60]); (with_reducible repeat (first | refine blk_drewN ?_ _ | refine blk_drew ?_ | refine blk_alloc ?_ _)); exact BK489.out⟩, ⟨by (try simp only [hl484001_60]); (with_reducible repeat (first | refine blk_drewN ?_ _ | refine blk_drew ?_ | refine blk_alloc ?_ _)); exact BK511.out⟩, ⟨by repeat (first | (with_reducible first | exact HB.out | apply below_alloc | apply pw_below_drewN | apply below_drew1 | refine below_set ?_ GE467.out | refine below_set ?_ GE478.out | refine below_set ?_ GE483.out | refine below_set ?_ GE489.out | refine below_set ?_ GE511.out) | exact HB.out)⟩⟩
                      case rest =>
                        clear HC104
                        try clear c1
                        try clear c2
                        try clear p2
                        try clear c3
                        try clear c4
                        try clear c4b0
                        try clear c5
                        try clear c6
                        try clear c7
                        try clear c8
                        try clear c9
                        try clear c10
                        try clear c11
                        try clear c12
                        try clear c13
                        try clear c14
                        try clear c15
                        try clear c17
                        try clear c19
                        try clear c21
                        try clear c27
                        try clear c28
                        try clear c33
                        try clear c34
                        try clear c35
                        try clear c37
                        try clear c38
                        try clear c39
                        try clear c40
                        try clear c41
                        try clear c42
                        try clear c44
                        try clear c45
                        try clear c48
                        try clear c49
                        try clear c50
                        try clear c52
                        try clear c53
                        try clear c56
                        try clear c59
                        try clear c66
                        try clear c67
                        try clear c68
                        try clear c71
                        try clear c71b0
                        try clear c73
                        try clear c74
                        try clear c75
                        try clear c76
                        try clear c78
                        try clear c79
                        try clear c82
                        try clear c83
                        try clear c84
                        try clear c86
                        try clear c87
                        try clear c90
                        try clear c93
                        try clear c93b0
                        try clear c94
                        try clear c95
                        try clear c96
                        try clear c101
                        try clear c101b0
                        try clear c101b1
                        try clear c105
                        try clear c106
                        try clear c107
                        try clear c112
                        try clear c113
                        try clear c119
                        try clear c120
                        try clear c121
                        try clear c122
                        try clear c126
                        try clear c127
                        try clear c128
                        try clear c129
                        try clear c130
                        try clear c132
                        try clear c133
                        try clear c134
                        try clear c137
                        try clear c138
                        try clear c139
                        try clear c140
                        try clear c142
                        try clear c143
                        try clear c144
                        try clear hcz108_0
                        try clear hcz108_1
                        try clear hcz110_0
                        try clear hcz110_1
                        try clear hcz114_0
                        try clear hcz114_1
                        try clear hcz123_0
                        try clear hcz123_1
                        try clear hcz131_0
                        try clear hcz131_1
                        try clear hcz135_0
                        try clear hcz135_1
                        try clear hcz141_0
                        try clear hcz141_1
                        try clear hcz145_0
                        try clear hcz145_1
                        try clear hcz14_0
                        try clear hcz14_1
                        try clear hcz16_0
                        try clear hcz16_1
                        try clear hcz22_0
                        try clear hcz22_1
                        try clear hcz24_0
                        try clear hcz24_1
                        try clear hcz29_0
                        try clear hcz29_1
                        try clear hcz36_0
                        try clear hcz36_1
                        try clear hcz43_0
                        try clear hcz43_1
                        try clear hcz46_0
                        try clear hcz46_1
                        try clear hcz51_0
                        try clear hcz51_1
                        try clear hcz54_0
                        try clear hcz54_1
                        try clear hcz69_0
                        try clear hcz69_1
                        try clear hcz6_0
                        try clear hcz6_1
                        try clear hcz77_0
                        try clear hcz77_1
                        try clear hcz80_0
                        try clear hcz80_1
                        try clear hcz85_0
                        try clear hcz85_1
                        try clear hcz88_0
                        try clear hcz88_1
                        try clear hcz97_0
                        try clear hcz97_1
                        try clear hcz99_0
                        try clear hcz99_1
                        try clear hfz108_0
                        try clear hfz108_1
                        try clear hfz110_0
                        try clear hfz110_1
                        try clear hfz114_0
                        try clear hfz114_1
                        try clear hfz123_0
                        try clear hfz123_1
                        try clear hfz131_0
                        try clear hfz131_1
                        try clear hfz135_0
                        try clear hfz135_1
                        try clear hfz141_0
                        try clear hfz141_1
                        try clear hfz145_0
                        try clear hfz145_1
                        try clear hfz14_0
                        try clear hfz14_1
                        try clear hfz16_0
                        try clear hfz16_1
                        try clear hfz22_0
                        try clear hfz22_1
                        try clear hfz24_0
                        try clear hfz24_1
                        try clear hfz29_0
                        try clear hfz29_1
                        try clear hfz36_0
                        try clear hfz36_1
                        try clear hfz43_0
                        try clear hfz43_1
                        try clear hfz46_0
                        try clear hfz46_1
                        try clear hfz51_0
                        try clear hfz51_1
                        try clear hfz54_0
                        try clear hfz54_1
                        try clear hfz69_0
                        try clear hfz69_1
                        try clear hfz6_0
                        try clear hfz6_1
                        try clear hfz77_0
                        try clear hfz77_1
                        try clear hfz80_0
                        try clear hfz80_1
                        try clear hfz85_0
                        try clear hfz85_1
                        try clear hfz88_0
                        try clear hfz88_1
                        try clear hfz97_0
                        try clear hfz97_1
                        try clear hfz99_0
                        try clear hfz99_1
                        try clear p2
                        obtain ⟨kq, x92_103, rfl, HA, HJ103, HO_479001, HO_484001, HO_490001, HO_512001, BK467, BK478, BK483, BK489, BK511, HB⟩ := hcut
                        have hl490001_103 := (Kd.R_reads' HO_490001.out).1
                        rw [hl490001_103] at HO_490001
                        (try simp only [hl490001_103])
                        (try simp only [hl490001_103] at BK467)
                        (try simp only [hl490001_103] at BK478)
                        (try simp only [hl490001_103] at BK483)
                        (try simp only [hl490001_103] at BK489)
                        (try simp only [hl490001_103] at BK511)
                        (try simp only [hl490001_103] at HO_479001)
                        (try simp only [hl490001_103] at HO_484001)
                        (try simp only [hl490001_103] at HO_512001)
                        cases kq with
                        | zero => exact absurd HA.out (by simp [laws_FnExactTurnCube.j2])
                        | succ kj103 =>
                          have H := HA.out
                          clear HA
                          simp only [laws_FnExactTurnCube.j2] at H
                          by_cases c147 : x92_103 = true
                          · subst c147
                            have H1 : (some false) = some r := by rw [if_pos rfl] at H; exact H
                            clear H
                            have H := H1
                            clear H1
                            obtain rfl := Option.some.inj H
                            go_wp2
                            go_ret
                            exact ⟨by first | rfl | (simp [errW_none, errW_some] <;> rfl) | (simp [*, errW_none, errW_some] <;> rfl), by repeat (first | (with_reducible first | exact HB.out | apply below_alloc | apply pw_below_drewN | apply below_drew1 | refine below_set ?_ GE467.out | refine below_set ?_ GE478.out | refine below_set ?_ GE483.out | refine below_set ?_ GE489.out | refine below_set ?_ GE511.out) | exact HB.out)⟩
                          · replace c147 := Bool.eq_false_iff.mpr c147
                            subst c147
                            have H1 : ((laws_heldCube.f kj103 t484 t500 1).bind fun t513 => (if t513 < 0 then (some false) else (if t513 = t499 then (some true) else (some false)))) = some r := by rw [if_neg (show ¬ (false = true) by decide)] at H; exact H
                            clear H
                            have H := H1
                            clear H1
                            replace H := Option.bind_eq_some_iff.mp H
                            obtain ⟨t513, A1480, H⟩ := H
                            replace H : (if t513 < 0 then (some false) else (if t513 = t499 then (some true) else (some false))) = some r := H
                            have A148 := Aside0.mk A1480
                            clear A1480
                            by_cases c149 : t513 < 0
                            · rw [if_pos c149] at H
                              have c149b0 : decide (t513 < 0) = true := decide_eq_true c149
                              clear c149
                              obtain rfl := Option.some.inj H
                              have hnb150 := NB489_467.out
                              have hnc150 := NB467_489.out
                              have hnb151 := NB489_478.out
                              have hnc151 := NB478_489.out
                              have hnb152 := NB489_483.out
                              have hnc152 := NB483_489.out
                              have hnb153 := NB489_511.out
                              have hnc153 := NB511_489.out
                              have hcz154_0 : wc.cell? ⟨gb489, 0, none⟩ = some (.int .i64 t484) := (blk_cell BK489.out 0).trans rfl
                              have hcz154_1 : wc.cell? ⟨gb489, 1, none⟩ = some (.slice Ao37 t500.length co37) := (blk_cell BK489.out 1).trans rfl
                              have hfz154_0 := blk_frozen BK489.out 0
                              have hfz154_1 := blk_frozen BK489.out 1
                              go_wp2_with (first | ((with_reducible refine gate_callee (f := 37) rfl ?_); refine goesL_ (some 95) rfl rfl Try.func37 (by kernel_rfl) rfl #[.agg #[.int .i64 t484, .slice Ao37 t500.length co37], .int .i64 1] rfl (by (try simp only [List.map_toArray, List.map_cons, List.map_nil]); first | done | rfl | (simp only [List.length_drop, List.length_take]; rfl)) ?_; (with_reducible refine (laws_heldCube.calls kj103 t484 _ _ t500 1 t513 _ ?side1 ?side2 A148.out).mono ?_); (case side1 => repeat (first | exact (Kd.R_reads' HO_490001.out).2.2 | (with_reducible refine Kd.C_alloc ?_ _) | (with_reducible refine Kd.C_drewN ?_ _) | (with_reducible refine Kd.C_drew ?_))); (case side2 => exact (Kd.R_reads' HO_490001.out).2.1); rintro e w155 ⟨rfl, hb⟩; refine ⟨_, rfl, ?_⟩; have n0_ := Aside0.mk (Kd.R_below (by (with_reducible repeat (first | apply Kd.R_alloc | apply Kd.R_drewN | apply Kd.R_drew)); exact HO_479001.out) hb); have n1_ := Aside0.mk (Kd.R_below (by (with_reducible repeat (first | apply Kd.R_alloc | apply Kd.R_drewN | apply Kd.R_drew)); exact HO_484001.out) hb); have n2_ := Aside0.mk (Kd.R_below (by (with_reducible repeat (first | apply Kd.R_alloc | apply Kd.R_drewN | apply Kd.R_drew)); exact HO_490001.out) hb); have n3_ := Aside0.mk (Kd.R_below (by (with_reducible repeat (first | apply Kd.R_alloc | apply Kd.R_drewN | apply Kd.R_drew)); exact HO_512001.out) hb); have n4_ := Aside0.mk (blk_below (g := gb467) (o := .cells #[.int .i64 a0_0, .slice A0_1 l0_1.length c0_1] 24 (0, 0)) (by (with_reducible repeat (first | refine blk_drewN ?_ _ | refine blk_drew ?_ | refine blk_alloc ?_ _)); exact BK467.out) hb); have n5_ := Aside0.mk (blk_below (g := gb478) (o := .cells #[.int .i64 t473, .slice Ao23 t474.length co23] 27 (0, 0)) (by (with_reducible repeat (first | refine blk_drewN ?_ _ | refine blk_drew ?_ | refine blk_alloc ?_ _)); exact BK478.out) hb); have n6_ := Aside0.mk (blk_below (g := gb483) (o := .cells #[.int .i64 t479, .slice Ao30 t497.length co30] 27 (0, 0)) (by (with_reducible repeat (first | refine blk_drewN ?_ _ | refine blk_drew ?_ | refine blk_alloc ?_ _)); exact BK483.out) hb); have n7_ := Aside0.mk (blk_below (g := gb489) (o := .cells #[.int .i64 t484, .slice Ao37 t500.length co37] 27 (0, 0)) (by (with_reducible repeat (first | refine blk_drewN ?_ _ | refine blk_drew ?_ | refine blk_alloc ?_ _)); exact BK489.out) hb); have n8_ := Aside0.mk (blk_below (g := gb511) (o := .cells #[.int .i64 t506, .slice Ao124 t507.length co124] 27 (0, 0)) (by (with_reducible repeat (first | refine blk_drewN ?_ _ | refine blk_drew ?_ | refine blk_alloc ?_ _)); exact BK511.out) hb); have n9_ := Aside0.mk (below_step (by repeat (first | (with_reducible first | exact HB.out | apply below_alloc | apply pw_below_drewN | apply below_drew1 | refine below_set ?_ GE467.out | refine below_set ?_ GE478.out | refine below_set ?_ GE483.out | refine below_set ?_ GE489.out | refine below_set ?_ GE511.out) | exact HB.out)) hb); clear HO_479001; clear HO_484001; clear HO_490001; clear HO_512001; clear BK467; clear BK478; clear BK483; clear BK489; clear BK511; clear HB; have HO_479001 := n0_; have HO_484001 := n1_; have HO_490001 := n2_; have HO_512001 := n3_; have BK467 := n4_; have BK478 := n5_; have BK483 := n6_; have BK489 := n7_; have BK511 := n8_; have HB := n9_; clear n0_ n1_ n2_ n3_ n4_ n5_ n6_ n7_ n8_ n9_; (try clear hb); (try clear hb2); (try clear hk); (try clear hi)))
                              go_ret
                              exact ⟨by first | rfl | (simp [errW_none, errW_some] <;> rfl) | (simp [*, errW_none, errW_some] <;> rfl), by repeat (first | (with_reducible first | exact HB.out | apply below_alloc | apply pw_below_drewN | apply below_drew1 | refine below_set ?_ GE467.out | refine below_set ?_ GE478.out | refine below_set ?_ GE483.out | refine below_set ?_ GE489.out | refine below_set ?_ GE511.out) | exact HB.out)⟩
                            · rw [if_neg c149] at H
                              have c149b0 : decide (t513 < 0) = false := decide_eq_false c149
                              clear c149
                              by_cases c156 : t513 = t499
                              · rw [if_pos c156] at H
                                have c156b0 : (t513 == t499) = true := beq_iff_eq.mpr c156
                                have c156b1 : (t513 != t499) = false := bne_eq_false_iff_eq.mpr c156
                                clear c156
                                obtain rfl := Option.some.inj H
                                have hnb157 := NB489_467.out
                                have hnc157 := NB467_489.out
                                have hnb158 := NB489_478.out
                                have hnc158 := NB478_489.out
                                have hnb159 := NB489_483.out
                                have hnc159 := NB483_489.out
                                have hnb160 := NB489_511.out
                                have hnc160 := NB511_489.out
                                have hcz161_0 : wc.cell? ⟨gb489, 0, none⟩ = some (.int .i64 t484) := (blk_cell BK489.out 0).trans rfl
                                have hcz161_1 : wc.cell? ⟨gb489, 1, none⟩ = some (.slice Ao37 t500.length co37) := (blk_cell BK489.out 1).trans rfl
                                have hfz161_0 := blk_frozen BK489.out 0
                                have hfz161_1 := blk_frozen BK489.out 1
                                go_wp2_with (first | ((with_reducible refine gate_callee (f := 37) rfl ?_); refine goesL_ (some 95) rfl rfl Try.func37 (by kernel_rfl) rfl #[.agg #[.int .i64 t484, .slice Ao37 t500.length co37], .int .i64 1] rfl (by (try simp only [List.map_toArray, List.map_cons, List.map_nil]); first | done | rfl | (simp only [List.length_drop, List.length_take]; rfl)) ?_; (with_reducible refine (laws_heldCube.calls kj103 t484 _ _ t500 1 t513 _ ?side1 ?side2 A148.out).mono ?_); (case side1 => repeat (first | exact (Kd.R_reads' HO_490001.out).2.2 | (with_reducible refine Kd.C_alloc ?_ _) | (with_reducible refine Kd.C_drewN ?_ _) | (with_reducible refine Kd.C_drew ?_))); (case side2 => exact (Kd.R_reads' HO_490001.out).2.1); rintro e w162 ⟨rfl, hb⟩; refine ⟨_, rfl, ?_⟩; have n0_ := Aside0.mk (Kd.R_below (by (with_reducible repeat (first | apply Kd.R_alloc | apply Kd.R_drewN | apply Kd.R_drew)); exact HO_479001.out) hb); have n1_ := Aside0.mk (Kd.R_below (by (with_reducible repeat (first | apply Kd.R_alloc | apply Kd.R_drewN | apply Kd.R_drew)); exact HO_484001.out) hb); have n2_ := Aside0.mk (Kd.R_below (by (with_reducible repeat (first | apply Kd.R_alloc | apply Kd.R_drewN | apply Kd.R_drew)); exact HO_490001.out) hb); have n3_ := Aside0.mk (Kd.R_below (by (with_reducible repeat (first | apply Kd.R_alloc | apply Kd.R_drewN | apply Kd.R_drew)); exact HO_512001.out) hb); have n4_ := Aside0.mk (blk_below (g := gb467) (o := .cells #[.int .i64 a0_0, .slice A0_1 l0_1.length c0_1] 24 (0, 0)) (by (with_reducible repeat (first | refine blk_drewN ?_ _ | refine blk_drew ?_ | refine blk_alloc ?_ _)); exact BK467.out) hb); have n5_ := Aside0.mk (blk_below (g := gb478) (o := .cells #[.int .i64 t473, .slice Ao23 t474.length co23] 27 (0, 0)) (by (with_reducible repeat (first | refine blk_drewN ?_ _ | refine blk_drew ?_ | refine blk_alloc ?_ _)); exact BK478.out) hb); have n6_ := Aside0.mk (blk_below (g := gb483) (o := .cells #[.int .i64 t479, .slice Ao30 t497.length co30] 27 (0, 0)) (by (with_reducible repeat (first | refine blk_drewN ?_ _ | refine blk_drew ?_ | refine blk_alloc ?_ _)); exact BK483.out) hb); have n7_ := Aside0.mk (blk_below (g := gb489) (o := .cells #[.int .i64 t484, .slice Ao37 t500.length co37] 27 (0, 0)) (by (with_reducible repeat (first | refine blk_drewN ?_ _ | refine blk_drew ?_ | refine blk_alloc ?_ _)); exact BK489.out) hb); have n8_ := Aside0.mk (blk_below (g := gb511) (o := .cells #[.int .i64 t506, .slice Ao124 t507.length co124] 27 (0, 0)) (by (with_reducible repeat (first | refine blk_drewN ?_ _ | refine blk_drew ?_ | refine blk_alloc ?_ _)); exact BK511.out) hb); have n9_ := Aside0.mk (below_step (by repeat (first | (with_reducible first | exact HB.out | apply below_alloc | apply pw_below_drewN | apply below_drew1 | refine below_set ?_ GE467.out | refine below_set ?_ GE478.out | refine below_set ?_ GE483.out | refine below_set ?_ GE489.out | refine below_set ?_ GE511.out) | exact HB.out)) hb); clear HO_479001; clear HO_484001; clear HO_490001; clear HO_512001; clear BK467; clear BK478; clear BK483; clear BK489; clear BK511; clear HB; have HO_479001 := n0_; have HO_484001 := n1_; have HO_490001 := n2_; have HO_512001 := n3_; have BK467 := n4_; have BK478 := n5_; have BK483 := n6_; have BK489 := n7_; have BK511 := n8_; have HB := n9_; clear n0_ n1_ n2_ n3_ n4_ n5_ n6_ n7_ n8_ n9_; (try clear hb); (try clear hb2); (try clear hk); (try clear hi)))
                                go_ret
                                exact ⟨by first | rfl | (simp [errW_none, errW_some] <;> rfl) | (simp [*, errW_none, errW_some] <;> rfl), by repeat (first | (with_reducible first | exact HB.out | apply below_alloc | apply pw_below_drewN | apply below_drew1 | refine below_set ?_ GE467.out | refine below_set ?_ GE478.out | refine below_set ?_ GE483.out | refine below_set ?_ GE489.out | refine below_set ?_ GE511.out) | exact HB.out)⟩
                              · rw [if_neg c156] at H
                                have c156b0 : (t513 == t499) = false := beq_eq_false_iff_ne.mpr c156
                                have c156b1 : (t513 != t499) = true := bne_iff_ne.mpr c156
                                obtain rfl := Option.some.inj H
                                have hnb163 := NB489_467.out
                                have hnc163 := NB467_489.out
                                have hnb164 := NB489_478.out
                                have hnc164 := NB478_489.out
                                have hnb165 := NB489_483.out
                                have hnc165 := NB483_489.out
                                have hnb166 := NB489_511.out
                                have hnc166 := NB511_489.out
                                have hcz167_0 : wc.cell? ⟨gb489, 0, none⟩ = some (.int .i64 t484) := (blk_cell BK489.out 0).trans rfl
                                have hcz167_1 : wc.cell? ⟨gb489, 1, none⟩ = some (.slice Ao37 t500.length co37) := (blk_cell BK489.out 1).trans rfl
                                have hfz167_0 := blk_frozen BK489.out 0
                                have hfz167_1 := blk_frozen BK489.out 1
                                go_wp2_with (first | ((with_reducible refine gate_callee (f := 37) rfl ?_); refine goesL_ (some 95) rfl rfl Try.func37 (by kernel_rfl) rfl #[.agg #[.int .i64 t484, .slice Ao37 t500.length co37], .int .i64 1] rfl (by (try simp only [List.map_toArray, List.map_cons, List.map_nil]); first | done | rfl | (simp only [List.length_drop, List.length_take]; rfl)) ?_; (with_reducible refine (laws_heldCube.calls kj103 t484 _ _ t500 1 t513 _ ?side1 ?side2 A148.out).mono ?_); (case side1 => repeat (first | exact (Kd.R_reads' HO_490001.out).2.2 | (with_reducible refine Kd.C_alloc ?_ _) | (with_reducible refine Kd.C_drewN ?_ _) | (with_reducible refine Kd.C_drew ?_))); (case side2 => exact (Kd.R_reads' HO_490001.out).2.1); rintro e w168 ⟨rfl, hb⟩; refine ⟨_, rfl, ?_⟩; have n0_ := Aside0.mk (Kd.R_below (by (with_reducible repeat (first | apply Kd.R_alloc | apply Kd.R_drewN | apply Kd.R_drew)); exact HO_479001.out) hb); have n1_ := Aside0.mk (Kd.R_below (by (with_reducible repeat (first | apply Kd.R_alloc | apply Kd.R_drewN | apply Kd.R_drew)); exact HO_484001.out) hb); have n2_ := Aside0.mk (Kd.R_below (by (with_reducible repeat (first | apply Kd.R_alloc | apply Kd.R_drewN | apply Kd.R_drew)); exact HO_490001.out) hb); have n3_ := Aside0.mk (Kd.R_below (by (with_reducible repeat (first | apply Kd.R_alloc | apply Kd.R_drewN | apply Kd.R_drew)); exact HO_512001.out) hb); have n4_ := Aside0.mk (blk_below (g := gb467) (o := .cells #[.int .i64 a0_0, .slice A0_1 l0_1.length c0_1] 24 (0, 0)) (by (with_reducible repeat (first | refine blk_drewN ?_ _ | refine blk_drew ?_ | refine blk_alloc ?_ _)); exact BK467.out) hb); have n5_ := Aside0.mk (blk_below (g := gb478) (o := .cells #[.int .i64 t473, .slice Ao23 t474.length co23] 27 (0, 0)) (by (with_reducible repeat (first | refine blk_drewN ?_ _ | refine blk_drew ?_ | refine blk_alloc ?_ _)); exact BK478.out) hb); have n6_ := Aside0.mk (blk_below (g := gb483) (o := .cells #[.int .i64 t479, .slice Ao30 t497.length co30] 27 (0, 0)) (by (with_reducible repeat (first | refine blk_drewN ?_ _ | refine blk_drew ?_ | refine blk_alloc ?_ _)); exact BK483.out) hb); have n7_ := Aside0.mk (blk_below (g := gb489) (o := .cells #[.int .i64 t484, .slice Ao37 t500.length co37] 27 (0, 0)) (by (with_reducible repeat (first | refine blk_drewN ?_ _ | refine blk_drew ?_ | refine blk_alloc ?_ _)); exact BK489.out) hb); have n8_ := Aside0.mk (blk_below (g := gb511) (o := .cells #[.int .i64 t506, .slice Ao124 t507.length co124] 27 (0, 0)) (by (with_reducible repeat (first | refine blk_drewN ?_ _ | refine blk_drew ?_ | refine blk_alloc ?_ _)); exact BK511.out) hb); have n9_ := Aside0.mk (below_step (by repeat (first | (with_reducible first | exact HB.out | apply below_alloc | apply pw_below_drewN | apply below_drew1 | refine below_set ?_ GE467.out | refine below_set ?_ GE478.out | refine below_set ?_ GE483.out | refine below_set ?_ GE489.out | refine below_set ?_ GE511.out) | exact HB.out)) hb); clear HO_479001; clear HO_484001; clear HO_490001; clear HO_512001; clear BK467; clear BK478; clear BK483; clear BK489; clear BK511; clear HB; have HO_479001 := n0_; have HO_484001 := n1_; have HO_490001 := n2_; have HO_512001 := n3_; have BK467 := n4_; have BK478 := n5_; have BK483 := n6_; have BK489 := n7_; have BK511 := n8_; have HB := n9_; clear n0_ n1_ n2_ n3_ n4_ n5_ n6_ n7_ n8_ n9_; (try clear hb); (try clear hb2); (try clear hk); (try clear hi)))
                                go_ret
                                exact ⟨by first | rfl | (simp [errW_none, errW_some] <;> rfl) | (simp [*, errW_none, errW_some] <;> rfl), by repeat (first | (with_reducible first | exact HB.out | apply below_alloc | apply pw_below_drewN | apply below_drew1 | refine below_set ?_ GE467.out | refine below_set ?_ GE478.out | refine below_set ?_ GE483.out | refine below_set ?_ GE489.out | refine below_set ?_ GE511.out) | exact HB.out)⟩
                    · rw [if_neg c101] at H
                      have c101b0 : (t501 == t499) = false := beq_eq_false_iff_ne.mpr c101
                      have c101b1 : (t501 != t499) = true := bne_iff_ne.mpr c101
                      obtain rfl := Option.some.inj H
                      have hnb169 := NB489_467.out
                      have hnc169 := NB467_489.out
                      have hnb170 := NB489_478.out
                      have hnc170 := NB478_489.out
                      have hnb171 := NB489_483.out
                      have hnc171 := NB483_489.out
                      have hcz172_0 : wc.cell? ⟨gb489, 0, none⟩ = some (.int .i64 t484) := (blk_cell BK489.out 0).trans rfl
                      have hcz172_1 : wc.cell? ⟨gb489, 1, none⟩ = some (.slice Ao37 t485.length co37) := (blk_cell BK489.out 1).trans rfl
                      have hfz172_0 := blk_frozen BK489.out 0
                      have hfz172_1 := blk_frozen BK489.out 1
                      go_wp2_with (first | ((with_reducible refine gate_callee (f := 27) rfl ?_); refine goesL_ (some 68) rfl rfl Try.func27 (by kernel_rfl) rfl #[.agg #[.int .i64 t484, .slice Ao37 t485.length co37], .int .i64 1] rfl (by (try simp only [List.map_toArray, List.map_cons, List.map_nil]); first | done | rfl | (simp only [List.length_drop, List.length_take]; rfl)) ?_; (with_reducible refine (laws_markCube.calls kj60 t484 (fun k_ => some k_ = (.slice Ao37 t485.length co37 : Value).ownBlock) (.slice Ao37 t485.length co37) t485 1 t499 t500 w _ ?side1 ?side2 A91.out).mono ?_); (case side1 => repeat (first | (with_reducible first | exact HB.out | apply below_alloc | apply pw_below_drewN | apply below_drew1 | refine below_set ?_ GE467.out | refine below_set ?_ GE478.out | refine below_set ?_ GE483.out | refine below_set ?_ GE489.out) | exact HB.out)); (case side2 => exact Kd.R_tight rfl HO_490001.out); rintro e w173 ⟨rfl, hy0, hb, hkp⟩; refine ⟨_, rfl, ?_⟩; have n0_ := Aside0.mk (Kd.R_mono (ok' := fun k_ => some k_ ≠ (.slice Ao30 t497.length co30 : Value).ownBlock ∧ some k_ ≠ (.slice Ao37 t485.length co37 : Value).ownBlock) (Kd.R_keptB (HO_479001.out) hkp (fun k_ hk_ hs_ => (hk_.2) hs_)) (fun k_ hk_ => ⟨hk_.1.1, hk_.1.2⟩)); have n1_ := Aside0.mk (Kd.R_mono (ok' := fun k_ => some k_ ≠ (.slice Ao23 t474.length co23 : Value).ownBlock ∧ some k_ ≠ (.slice Ao37 t485.length co37 : Value).ownBlock) (Kd.R_keptB (HO_484001.out) hkp (fun k_ hk_ hs_ => (hk_.2) hs_)) (fun k_ hk_ => ⟨hk_.1.1, hk_.1.2⟩)); have n2_ := Aside0.mk (Kd.R_reok rfl hy0 (fun k_ e_ => HO_490001.out.1 k_ e_)); have n3_ := Aside0.mk (blk_kept (by (with_reducible repeat (first | refine blk_drewN ?_ _ | refine blk_drew ?_ | refine blk_alloc ?_ _)); exact BK467.out) hkp (fun hs_ => (fun e_ => (Kd.R_ne HO_490001.out BK467.out (by decide)) e_) hs_)); have n4_ := Aside0.mk (blk_kept (by (with_reducible repeat (first | refine blk_drewN ?_ _ | refine blk_drew ?_ | refine blk_alloc ?_ _)); exact BK478.out) hkp (fun hs_ => (fun e_ => (Kd.R_ne HO_490001.out BK478.out (by decide)) e_) hs_)); have n5_ := Aside0.mk (blk_kept (by (with_reducible repeat (first | refine blk_drewN ?_ _ | refine blk_drew ?_ | refine blk_alloc ?_ _)); exact BK483.out) hkp (fun hs_ => (fun e_ => (Kd.R_ne HO_490001.out BK483.out (by decide)) e_) hs_)); have n6_ := Aside0.mk (blk_kept (by (with_reducible repeat (first | refine blk_drewN ?_ _ | refine blk_drew ?_ | refine blk_alloc ?_ _)); exact BK489.out) hkp (fun hs_ => (fun e_ => (Kd.R_ne HO_490001.out BK489.out (by decide)) e_) hs_)); have n7_ := Aside0.mk (hb); clear HO_479001; clear HO_484001; clear HO_490001; clear BK467; clear BK478; clear BK483; clear BK489; clear HB; have HO_479001 := n0_; have HO_484001 := n1_; have HO_490001 := n2_; have BK467 := n3_; have BK478 := n4_; have BK483 := n5_; have BK489 := n6_; have HB := n7_; clear n0_ n1_ n2_ n3_ n4_ n5_ n6_ n7_; (try clear hb); (try clear hkp); (try clear hy0); have hcz174_0 : w173.cell? ⟨gb489, 0, none⟩ = some (.int .i64 t484) := (blk_cell BK489.out 0).trans rfl; have hcz174_1 : w173.cell? ⟨gb489, 1, none⟩ = some (.slice Ao37 t485.length co37) := (blk_cell BK489.out 1).trans rfl; have hfz174_0 := blk_frozen BK489.out 0; have hfz174_1 := blk_frozen BK489.out 1) | ((with_reducible refine gate_callee (f := 37) rfl ?_); refine goesL_ (some 71) rfl rfl Try.func37 (by kernel_rfl) rfl #[.agg #[.int .i64 t484, .slice Ao37 t500.length co37], .int .i64 1] rfl (by (try simp only [List.map_toArray, List.map_cons, List.map_nil]); first | done | (rw [show t500.length = t485.length from (Kd.R_reads' HO_490001.out).1.symm] <;> rfl) | rfl | (simp only [List.length_drop, List.length_take]; rfl)) ?_; (with_reducible refine (laws_heldCube.calls kj60 t484 _ _ t500 1 t501 _ ?side1 ?side2 A92.out).mono ?_); (case side1 => repeat (first | exact (Kd.R_reads' HO_490001.out).2.2 | (with_reducible refine Kd.C_alloc ?_ _) | (with_reducible refine Kd.C_drewN ?_ _) | (with_reducible refine Kd.C_drew ?_))); (case side2 => rw [show t500.length = t485.length from (Kd.R_reads' HO_490001.out).1.symm]; exact (Kd.R_reads' HO_490001.out).2.1); rintro e w175 ⟨rfl, hb⟩; refine ⟨_, rfl, ?_⟩; have n0_ := Aside0.mk (Kd.R_below (by (with_reducible repeat (first | apply Kd.R_alloc | apply Kd.R_drewN | apply Kd.R_drew)); exact HO_479001.out) hb); have n1_ := Aside0.mk (Kd.R_below (by (with_reducible repeat (first | apply Kd.R_alloc | apply Kd.R_drewN | apply Kd.R_drew)); exact HO_484001.out) hb); have n2_ := Aside0.mk (Kd.R_below (by (with_reducible repeat (first | apply Kd.R_alloc | apply Kd.R_drewN | apply Kd.R_drew)); exact HO_490001.out) hb); have n3_ := Aside0.mk (blk_below (g := gb467) (o := .cells #[.int .i64 a0_0, .slice A0_1 l0_1.length c0_1] 24 (0, 0)) (by (with_reducible repeat (first | refine blk_drewN ?_ _ | refine blk_drew ?_ | refine blk_alloc ?_ _)); exact BK467.out) hb); have n4_ := Aside0.mk (blk_below (g := gb478) (o := .cells #[.int .i64 t473, .slice Ao23 t474.length co23] 27 (0, 0)) (by (with_reducible repeat (first | refine blk_drewN ?_ _ | refine blk_drew ?_ | refine blk_alloc ?_ _)); exact BK478.out) hb); have n5_ := Aside0.mk (blk_below (g := gb483) (o := .cells #[.int .i64 t479, .slice Ao30 t497.length co30] 27 (0, 0)) (by (with_reducible repeat (first | refine blk_drewN ?_ _ | refine blk_drew ?_ | refine blk_alloc ?_ _)); exact BK483.out) hb); have n6_ := Aside0.mk (blk_below (g := gb489) (o := .cells #[.int .i64 t484, .slice Ao37 t485.length co37] 27 (0, 0)) (by (with_reducible repeat (first | refine blk_drewN ?_ _ | refine blk_drew ?_ | refine blk_alloc ?_ _)); exact BK489.out) hb); have n7_ := Aside0.mk (below_step (by repeat (first | (with_reducible first | exact HB.out | apply below_alloc | apply pw_below_drewN | apply below_drew1 | refine below_set ?_ GE467.out | refine below_set ?_ GE478.out | refine below_set ?_ GE483.out | refine below_set ?_ GE489.out) | exact HB.out)) hb); clear HO_479001; clear HO_484001; clear HO_490001; clear BK467; clear BK478; clear BK483; clear BK489; clear HB; have HO_479001 := n0_; have HO_484001 := n1_; have HO_490001 := n2_; have BK467 := n3_; have BK478 := n4_; have BK483 := n5_; have BK489 := n6_; have HB := n7_; clear n0_ n1_ n2_ n3_ n4_ n5_ n6_ n7_; (try clear hb); (try clear hb2); (try clear hk); (try clear hi)))
                      go_ret
                      exact ⟨by first | rfl | (simp [errW_none, errW_some] <;> rfl) | (simp [*, errW_none, errW_some] <;> rfl), by repeat (first | (with_reducible first | exact HB.out | apply below_alloc | apply pw_below_drewN | apply below_drew1 | refine below_set ?_ GE467.out | refine below_set ?_ GE478.out | refine below_set ?_ GE483.out | refine below_set ?_ GE489.out) | exact HB.out)⟩
          · replace c59 := Bool.eq_false_iff.mpr c59
            subst c59
            have H1 : (some false) = some r := by rw [if_neg (show ¬ (false = true) by decide)] at H; exact H
            clear H
            have H := H1
            clear H1
            obtain rfl := Option.some.inj H
            try go_wp2
            have n0_ := Aside0.mk (Kd.R_drew HO_479001.out)
            have n1_ := Aside0.mk (Kd.R_drew HO_484001.out)
            have n2_ := Aside0.mk (Kd.R_drew HO_490001.out)
            have n3_ := Aside0.mk (blk_drew BK467.out)
            have n4_ := Aside0.mk (blk_drew BK478.out)
            have n5_ := Aside0.mk (blk_drew BK483.out)
            have n6_ := Aside0.mk (blk_drew BK489.out)
            have n7_ := Aside0.mk (below_drew1 HB.out)
            clear HO_479001
            clear HO_484001
            clear HO_490001
            clear BK467
            clear BK478
            clear BK483
            clear BK489
            clear HB
            have HO_479001 := n0_
            have HO_484001 := n1_
            have HO_490001 := n2_
            have BK467 := n3_
            have BK478 := n4_
            have BK483 := n5_
            have BK489 := n6_
            have HB := n7_
            clear n0_ n1_ n2_ n3_ n4_ n5_ n6_ n7_
            refine start_ (n := 5) (S := fun w' => w'.cell? ⟨gb483, 0, none⟩ = some (.int .i64 t479) ∧ w'.cell? ⟨gb483, 1, none⟩ = some (.slice Ao30 t480.length co30) ∧ w'.cell? ⟨gb467, 0, none⟩ = some (.int .i64 a0_0) ∧ w'.cell? ⟨gb467, 1, none⟩ = some (.slice A0_1 l0_1.length c0_1)) (ds := []) #[false, false, false, false, false] (by kernel_rfl) rfl rfl ⟨(blk_cell BK483.out 0).trans rfl, (blk_cell BK483.out 1).trans rfl, (blk_cell BK467.out 0).trans rfl, (blk_cell BK467.out 1).trans rfl⟩ (fun hHeld => ?_)
            generalize wc.drew = w176 at HO_479001 HO_484001 HO_490001 BK467 BK478 BK483 BK489 HB hHeld ⊢
            refine take_ (i := 0) (N := some 45) (v := ?_) (a' := ?_) #[true, false, false, false, false] rfl rfl (by kernel_rfl) (fun _ _ _ h => h) (Or.inl ⟨by rfl, ?_⟩) hHeld ?_ ?_
            rotate_left
            · rintro w' ⟨s0, s1, s2, s3⟩
              go_simp
              with_reducible rfl
            rotate_left
            · simp only [Act.put, List.setIfInBounds_toArray, List.set_cons_zero, List.set_cons_succ, i64_w, i32_w]
              rfl
            refine take_ (i := 1) (N := some 46) (v := ?_) (a' := ?_) #[true, true, false, false, false] rfl rfl (by kernel_rfl) (fun _ _ _ h => h) (Or.inl ⟨by rfl, ?_⟩) hHeld ?_ ?_
            rotate_left
            · rintro w' ⟨s0, s1, s2, s3⟩
              go_simp
              with_reducible rfl
            rotate_left
            · simp only [Act.put, List.setIfInBounds_toArray, List.set_cons_zero, List.set_cons_succ, i64_w, i32_w]
              rfl
            refine one_ (i := 2) (N := some 47) #[true, true, true, false, false] rfl rfl (by kernel_rfl) (by decide) (fun K hK => ?_)
            refine goes_ Try.func17 (by kernel_rfl) rfl #[.agg #[.int .i64 a0_0, .slice A0_1 l0_1.length c0_1]] (by rfl) rfl rfl (by (try simp only [List.map_toArray, List.map_cons, List.map_nil]); first | done | rfl | (simp only [List.length_drop, List.length_take]; rfl)) ?_
            with_reducible refine (laws_toCube.calls kj11 a0_0 _ _ l0_1 t491 t492 _ ?side1 ?side2 A57.out).mono ?_
            (case side1 => repeat (first | exact (Kd.C_below HR0_1.out HB.out) | (with_reducible refine Kd.C_alloc ?_ _) | (with_reducible refine Kd.C_drewN ?_ _) | (with_reducible refine Kd.C_drew ?_)))
            (case side2 => exact HC0_1.out)
            rintro e w177 ⟨v493, rfl, ho0, hb⟩
            refine ⟨_, rfl, ?_⟩
            have n0_ := Aside0.mk (Kd.R_elder' (by (with_reducible repeat (first | apply Kd.R_alloc | apply Kd.R_drewN | apply Kd.R_drew)); exact HO_479001.out) (Kd.R_base ho0) hb)
            have n1_ := Aside0.mk (Kd.R_elder' (by (with_reducible repeat (first | apply Kd.R_alloc | apply Kd.R_drewN | apply Kd.R_drew)); exact HO_484001.out) (Kd.R_base ho0) hb)
            have n2_ := Aside0.mk (Kd.R_elder' (by (with_reducible repeat (first | apply Kd.R_alloc | apply Kd.R_drewN | apply Kd.R_drew)); exact HO_490001.out) (Kd.R_base ho0) hb)
            have n3_ := Aside0.mk (Kd.R_lower (Kd.R_new' (Kd.R_new' (Kd.R_new' ho0 (Kd.R_lt (by (with_reducible repeat (first | apply Kd.R_alloc | apply Kd.R_drewN | apply Kd.R_drew)); exact HO_479001.out))) (Kd.R_lt (by (with_reducible repeat (first | apply Kd.R_alloc | apply Kd.R_drewN | apply Kd.R_drew)); exact HO_484001.out))) (Kd.R_lt (by (with_reducible repeat (first | apply Kd.R_alloc | apply Kd.R_drewN | apply Kd.R_drew)); exact HO_490001.out))) (below_size (by repeat (first | (with_reducible first | exact HB.out | apply below_alloc | apply pw_below_drewN | apply below_drew1 | refine below_set ?_ GE467.out | refine below_set ?_ GE478.out | refine below_set ?_ GE483.out | refine below_set ?_ GE489.out) | exact HB.out))))
            have n4_ := Aside0.mk (blk_below (g := gb467) (o := .cells #[.int .i64 a0_0, .slice A0_1 l0_1.length c0_1] 24 (0, 0)) (by (with_reducible repeat (first | refine blk_drewN ?_ _ | refine blk_drew ?_ | refine blk_alloc ?_ _)); exact BK467.out) hb)
            have n5_ := Aside0.mk (blk_below (g := gb478) (o := .cells #[.int .i64 t473, .slice Ao23 t474.length co23] 27 (0, 0)) (by (with_reducible repeat (first | refine blk_drewN ?_ _ | refine blk_drew ?_ | refine blk_alloc ?_ _)); exact BK478.out) hb)
            have n6_ := Aside0.mk (blk_below (g := gb483) (o := .cells #[.int .i64 t479, .slice Ao30 t480.length co30] 27 (0, 0)) (by (with_reducible repeat (first | refine blk_drewN ?_ _ | refine blk_drew ?_ | refine blk_alloc ?_ _)); exact BK483.out) hb)
            have n7_ := Aside0.mk (blk_below (g := gb489) (o := .cells #[.int .i64 t484, .slice Ao37 t485.length co37] 27 (0, 0)) (by (with_reducible repeat (first | refine blk_drewN ?_ _ | refine blk_drew ?_ | refine blk_alloc ?_ _)); exact BK489.out) hb)
            have n8_ := Aside0.mk (below_step (by repeat (first | (with_reducible first | exact HB.out | apply below_alloc | apply pw_below_drewN | apply below_drew1 | refine below_set ?_ GE467.out | refine below_set ?_ GE478.out | refine below_set ?_ GE483.out | refine below_set ?_ GE489.out) | exact HB.out)) hb)
            clear HO_479001
            clear HO_484001
            clear HO_490001
            clear BK467
            clear BK478
            clear BK483
            clear BK489
            clear HB
            have HO_479001 := n0_
            have HO_484001 := n1_
            have HO_490001 := n2_
            have HO494 := n3_
            have BK467 := n4_
            have BK478 := n5_
            have BK483 := n6_
            have BK489 := n7_
            have HB := n8_
            clear n0_ n1_ n2_ n3_ n4_ n5_ n6_ n7_ n8_
            (try clear hb)
            (try clear hb2)
            (try clear hk)
            (try clear hi)
            (try clear ho0)
            obtain ⟨Ao178, co178, eo178⟩ := Kd.R_slice HO494.out
            (first | subst eo178 | (injection eo178 with f1_ f2_ f3_; have f4_ := f1_.symm; have f5_ := f3_.symm; clear f1_ f2_ f3_; subst f4_; subst f5_))
            refine hK.out _ _ ⟨(blk_cell BK483.out 0).trans rfl, (blk_cell BK483.out 1).trans rfl, (blk_cell BK467.out 0).trans rfl, (blk_cell BK467.out 1).trans rfl⟩ (fun hHeld => ?_)
            clear hK K
            refine norm_ (a' := ?_) ?_ ?_
            rotate_left
            · show Act.put _ (some 47) _ = _
              simp only [Act.put, List.setIfInBounds_toArray, List.set_cons_zero, List.set_cons_succ, i64_w, i32_w]
              rfl
            refine one_ (i := 3) (N := some 48) #[true, true, true, true, false] rfl rfl (by kernel_rfl) (by decide) (fun K hK => ?_)
            refine goes_ Try.func19 (by kernel_rfl) rfl #[.agg #[.int .i64 t479, .slice Ao30 t480.length co30], .agg #[.int .i64 t491, .slice Ao178 t492.length co178]] (by rfl) rfl rfl (by (try simp only [List.map_toArray, List.map_cons, List.map_nil]); first | done | rfl | (simp only [List.length_drop, List.length_take]; rfl)) ?_
            with_reducible refine (laws_eqCube.calls kj11 t479 _ _ t480 t491 _ _ t492 false _ ?side1 ?side2 ?side3 ?side4 A58.out).mono ?_
            (case side1 => repeat (first | exact (Kd.R_reads' HO_484001.out).2.2 | (with_reducible refine Kd.C_alloc ?_ _) | (with_reducible refine Kd.C_drewN ?_ _) | (with_reducible refine Kd.C_drew ?_)))
            (case side2 => exact (Kd.R_reads' HO_484001.out).2.1)
            (case side3 => repeat (first | exact (Kd.R_reads' HO494.out).2.2 | (with_reducible refine Kd.C_alloc ?_ _) | (with_reducible refine Kd.C_drewN ?_ _) | (with_reducible refine Kd.C_drew ?_)))
            (case side4 => exact (Kd.R_reads' HO494.out).2.1)
            rintro e w179 ⟨rfl, hb⟩
            refine ⟨_, rfl, ?_⟩
            have n0_ := Aside0.mk (Kd.R_below (by (with_reducible repeat (first | apply Kd.R_alloc | apply Kd.R_drewN | apply Kd.R_drew)); exact HO_479001.out) hb)
            have n1_ := Aside0.mk (Kd.R_below (by (with_reducible repeat (first | apply Kd.R_alloc | apply Kd.R_drewN | apply Kd.R_drew)); exact HO_484001.out) hb)
            have n2_ := Aside0.mk (Kd.R_below (by (with_reducible repeat (first | apply Kd.R_alloc | apply Kd.R_drewN | apply Kd.R_drew)); exact HO_490001.out) hb)
            have n3_ := Aside0.mk (Kd.R_below (by (with_reducible repeat (first | apply Kd.R_alloc | apply Kd.R_drewN | apply Kd.R_drew)); exact HO494.out) hb)
            have n4_ := Aside0.mk (blk_below (g := gb467) (o := .cells #[.int .i64 a0_0, .slice A0_1 l0_1.length c0_1] 24 (0, 0)) (by (with_reducible repeat (first | refine blk_drewN ?_ _ | refine blk_drew ?_ | refine blk_alloc ?_ _)); exact BK467.out) hb)
            have n5_ := Aside0.mk (blk_below (g := gb478) (o := .cells #[.int .i64 t473, .slice Ao23 t474.length co23] 27 (0, 0)) (by (with_reducible repeat (first | refine blk_drewN ?_ _ | refine blk_drew ?_ | refine blk_alloc ?_ _)); exact BK478.out) hb)
            have n6_ := Aside0.mk (blk_below (g := gb483) (o := .cells #[.int .i64 t479, .slice Ao30 t480.length co30] 27 (0, 0)) (by (with_reducible repeat (first | refine blk_drewN ?_ _ | refine blk_drew ?_ | refine blk_alloc ?_ _)); exact BK483.out) hb)
            have n7_ := Aside0.mk (blk_below (g := gb489) (o := .cells #[.int .i64 t484, .slice Ao37 t485.length co37] 27 (0, 0)) (by (with_reducible repeat (first | refine blk_drewN ?_ _ | refine blk_drew ?_ | refine blk_alloc ?_ _)); exact BK489.out) hb)
            have n8_ := Aside0.mk (below_step (by repeat (first | (with_reducible first | exact HB.out | apply below_alloc | apply pw_below_drewN | apply below_drew1 | refine below_set ?_ GE467.out | refine below_set ?_ GE478.out | refine below_set ?_ GE483.out | refine below_set ?_ GE489.out) | exact HB.out)) hb)
            clear HO_479001
            clear HO_484001
            clear HO_490001
            clear HO494
            clear BK467
            clear BK478
            clear BK483
            clear BK489
            clear HB
            have HO_479001 := n0_
            have HO_484001 := n1_
            have HO_490001 := n2_
            have HO494 := n3_
            have BK467 := n4_
            have BK478 := n5_
            have BK483 := n6_
            have BK489 := n7_
            have HB := n8_
            clear n0_ n1_ n2_ n3_ n4_ n5_ n6_ n7_ n8_
            (try clear hb)
            (try clear hb2)
            (try clear hk)
            (try clear hi)
            refine hK.out _ _ ⟨(blk_cell BK483.out 0).trans rfl, (blk_cell BK483.out 1).trans rfl, (blk_cell BK467.out 0).trans rfl, (blk_cell BK467.out 1).trans rfl⟩ (fun hHeld => ?_)
            clear hK K
            refine norm_ (a' := ?_) ?_ ?_
            rotate_left
            · show Act.put _ (some 48) _ = _
              simp only [Act.put, List.setIfInBounds_toArray, List.set_cons_zero, List.set_cons_succ, i64_w, i32_w]
              rfl
            refine pure_ (i := 4) (N := some 49) (v := ?_) (a' := ?_) #[true, true, true, true, true] rfl rfl (by kernel_rfl) (fun _ _ _ h => h) (Or.inl ⟨by rfl, ?_⟩) ?_ ?_
            rotate_left
            · intro w'
              go_simp
              with_reducible rfl
            rotate_left
            · simp only [Act.put, List.setIfInBounds_toArray, List.set_cons_zero, List.set_cons_succ, i64_w, i32_w]
              rfl
            refine done_ (by kernel_rfl) ?_
            try go_wp2
            go_ret
            exact ⟨by first | rfl | (simp [errW_none, errW_some] <;> rfl) | (simp [*, errW_none, errW_some] <;> rfl), by repeat (first | (with_reducible first | exact HB.out | apply below_alloc | apply pw_below_drewN | apply below_drew1 | refine below_set ?_ GE467.out | refine below_set ?_ GE478.out | refine below_set ?_ GE483.out | refine below_set ?_ GE489.out) | exact HB.out)⟩

end Go.Proofs.Ytlnoidhaoinpbaa.Pr
