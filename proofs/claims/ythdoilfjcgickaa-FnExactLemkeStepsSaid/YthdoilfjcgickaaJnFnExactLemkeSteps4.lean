/- Texts of one claim (the words of the kit's print that the claim uses, printed functions, and this session's own texts), joined in the order of their imports by this session's own program (merge.py). -/
import Derived.Test.YthdoilfjcgickaaRows
import Derived.WalkKit
import Derived.ProofKit
import Derived.OpenShut
import Derived.ShutString
import Derived.ChangeOld
import Derived.Below
import Derived.SizedLaws
import Derived.Test.YthdoilfjcgickaaJnFnExactLemkeSteps0
import Derived.Test.YthdoilfjcgickaaJnFnExactLemkeSteps1
import Derived.Test.YthdoilfjcgickaaJnFnExactLemkeSteps2
import Derived.Test.YthdoilfjcgickaaJnFnExactLemkeSteps3
set_option linter.unusedVariables false
set_option linter.unusedSimpArgs false
set_option maxHeartbeats 8000000
set_option maxRecDepth 100000
section
namespace Go.Proofs.Ythdoilfjcgickaa.Pr
open Go.RowKit Go.Proofs.YthdoilfjcgickaaW.PrintWords Go.Proofs.YthdoilfjcgickaaW.PrintLast Go.Proofs.YthdoilfjcgickaaW.PrintMore
attribute [local go_sem] max2_int min2_int max_two min_two max_three min_three max_four min_four
def spec_LemkeSteps.f (k : Nat) (l0_0 : List (List Int)) (l0_1 : List Int) (l1 : List Int) : Option ((List (List Int)) × Bool × Int) := (spec_l05Code.f k l0_0 l0_1 l1).bind fun t989 => (if t989 = 0 then ((spec_l05Run.f k l0_0 l0_1 l1 201).bind fun bt990 => (if (bt990.2.2.2.1.length : Int) > 200 then (some (([] : List (List Int)), false, 3)) else (some (bt990.2.2.2.1, bt990.2.2.2.2.2, 0)))) else (some (([] : List (List Int)), false, t989)))
theorem spec_LemkeSteps.mono : ∀ a0 a1 a2 k, LeO (spec_LemkeSteps.f k a0 a1 a2) (spec_LemkeSteps.f (k + 1) a0 a1 a2) := by
 intro a0 a1 a2 k
 unfold spec_LemkeSteps.f
 repeat' first
   | (with_reducible exact spec_l05Code.mono _ _ _ _)
   | (with_reducible exact spec_l05Run.mono _ _ _ _ _)
   | (with_reducible exact LeO.refl _)
   | (with_reducible exact LeO.none _)
   | (with_reducible refine LeO.ite ?_ ?_)
   | (with_reducible refine LeO.bind ?_ (fun _ => ?_))
   | exact spec_l05Code.mono _ _ _ _
   | exact spec_l05Run.mono _ _ _ _ _
   | exact LeO.none _
   | refine LeO.ite ?_ ?_
   | refine LeO.bind ?_ (fun _ => ?_)
theorem spec_LemkeSteps.calls (k : Nat) (A0_0 : Option Addr) (c0_0 : Nat) (l0_0 : List (List Int)) (A0_1 : Option Addr) (c0_1 : Nat) (l0_1 : List Int) (A1 : Option Addr) (c1 : Nat) (l1 : List Int) (r1 : List (List Int)) (r2 : Bool) (r3 : Int) (w : World) (hr0_0 : Kd.C (Kd.slice 2 (Kd.int .i64)) w A0_0 l0_0.length l0_0) (hc0_0 : l0_0.length ≤ c0_0) (hr0_1 : Kd.C (Kd.int .i64) w A0_1 l0_1.length l0_1) (hc0_1 : l0_1.length ≤ c0_1) (hr1 : Kd.C (Kd.int .i64) w A1 l1.length l1) (hc1 : l1.length ≤ c1) (h : spec_LemkeSteps.f k l0_0 l0_1 l1 = some (r1, r2, r3)) :
  Calls Try.prog 43 #[.agg #[.slice A0_0 l0_0.length c0_0, .slice A0_1 l0_1.length c0_1], .slice A1 l1.length c1] w fun e w' => ∃ v0_ : Value, e = .returned (.tuple #[v0_, .bool r2, .int .i64 r3]) ∧ Kd.S (Kd.slice 2 (Kd.int .i64)) 23 w' w.heap.size (fun _ => True) v0_ r1 ∧ Below w.heap.size w w' := by
 have hu29 := Try.underlying29
 have hu101 := Try.underlying101
 have HR0_0 := Aside0.mk hr0_0
 have HC0_0 := Aside0.mk hc0_0
 clear hr0_0 hc0_0
 have HR0_1 := Aside0.mk hr0_1
 have HC0_1 := Aside0.mk hc0_1
 clear hr0_1 hc0_1
 have HR1 := Aside0.mk hr1
 have HC1 := Aside0.mk hc1
 clear hr1 hc1
 have HB := Aside0.mk (Below.refl w.heap.size w)
 have H : ((spec_l05Code.f k l0_0 l0_1 l1).bind fun t989 => (if t989 = 0 then ((spec_l05Run.f k l0_0 l0_1 l1 201).bind fun bt990 => (if (bt990.2.2.2.1.length : Int) > 200 then (some (([] : List (List Int)), false, 3)) else (some (bt990.2.2.2.1, bt990.2.2.2.2.2, 0)))) else (some (([] : List (List Int)), false, t989)))) = some (r1, r2, r3) := h
 clear h
 replace H := Option.bind_eq_some_iff.mp H
 obtain ⟨t989, A30, H⟩ := H
 replace H : (if t989 = 0 then ((spec_l05Run.f k l0_0 l0_1 l1 201).bind fun bt990 => (if (bt990.2.2.2.1.length : Int) > 200 then (some (([] : List (List Int)), false, 3)) else (some (bt990.2.2.2.1, bt990.2.2.2.2.2, 0)))) else (some (([] : List (List Int)), false, t989))) = some (r1, r2, r3) := H
 have A3 := Aside0.mk A30
 clear A30
 by_cases c4 : t989 = 0
 ·rw [if_pos c4] at H
  have c4b0 : (t989 == 0) = true := beq_iff_eq.mpr c4
  have c4b1 : (t989 != 0) = false := bne_eq_false_iff_eq.mpr c4
  clear c4
  replace H := Option.bind_eq_some_iff.mp H
  obtain ⟨⟨t990, t993, t994, t997, t1000, t1001⟩, A50, H⟩ := H
  replace H : (if (t997.length : Int) > 200 then (some (([] : List (List Int)), false, 3)) else (some (t997, t1001, 0))) = some (r1, r2, r3) := H
  have A5 := Aside0.mk A50
  clear A50
  by_cases c6 : (t997.length : Int) > 200
  ·rw [if_pos c6] at H
   have c6b0 : decide (200 < (t997.length : Int)) = true := decide_eq_true c6
   have c6b1 : decide (200 < t997.length) = true := decide_eq_true (by omega)
   clear c6
   simp only [Option.some.injEq, Prod.mk.injEq] at H
   obtain ⟨rfl, rfl, rfl⟩ := H
   go_enter Try.func43, Try.ntmps43
   go_wp2_with (first | ((with_reducible refine gate_dst (N := 2) rfl ?_); refine box_event ?hg (N := 2) ?hd (cs := #[.slice A0_0 l0_0.length c0_0, .slice A0_1 l0_1.length c0_1]) (t := 29) ?hr ?_; (case hd => rfl); (case hg => rfl); (case hr => first | (go_simp; done) | (go_simp; rfl)); intro gb988 hg w7 hbox hb; have n0_ := Aside0.mk (bs_ hb); have n1_ := Aside0.mk (hbox); have n2_ := Aside0.mk ((by rw [hg]; exact bz_ : w.heap.size ≤ gb988)); have n3_ := Aside0.mk ((by rw [hg]; exact bz_ : w.heap.size ≤ gb988)); clear HB; have HB := n0_; have BK988 := n1_; have GW988 := n2_; have GE988 := n3_; clear n0_ n1_ n2_ n3_; clear hb hbox hg; have hcz8_0 : w7.cell? ⟨gb988, 0, none⟩ = some (.slice A0_0 l0_0.length c0_0) := (blk_cell BK988.out 0).trans rfl; have hcz8_1 : w7.cell? ⟨gb988, 1, none⟩ = some (.slice A0_1 l0_1.length c0_1) := (blk_cell BK988.out 1).trans rfl; have hfz8_0 := blk_frozen BK988.out 0; have hfz8_1 := blk_frozen BK988.out 1) | ((with_reducible refine gate_callee (f := 85) rfl ?_); refine goesL_ (some 14) rfl rfl Try.func85 (by kernel_rfl) rfl #[.agg #[.slice A0_0 l0_0.length c0_0, .slice A0_1 l0_1.length c0_1], .slice A1 l1.length c1] rfl (by (try simp only [List.map_toArray, List.map_cons, List.map_nil]); first | done | rfl | (simp only [List.length_drop, List.length_take]; rfl)) ?_; (with_reducible refine (spec_l05Code.calls k _ _ l0_0 _ _ l0_1 _ _ l1 t989 _ ?side1 ?side2 ?side3 ?side4 ?side5 ?side6 A3.out).mono ?_); (case side1 => exact cb_ HR0_0.out HB.out); (case side2 => exact HC0_0.out); (case side3 => exact cb_ HR0_1.out HB.out); (case side4 => exact HC0_1.out); (case side5 => exact cb_ HR1.out HB.out); (case side6 => exact HC1.out); rintro e w9 ⟨rfl, hb⟩; refine ⟨_, rfl, ?_⟩; have n0_ := Aside0.mk (bb_ BK988.out hb); have n1_ := Aside0.mk (bs_ hb); clear BK988; clear HB; have BK988 := n0_; have HB := n1_; clear n0_ n1_; (try clear hb); (try clear hb2); (try clear hk); (try clear hi); have hcz10_0 : w9.cell? ⟨gb988, 0, none⟩ = some (.slice A0_0 l0_0.length c0_0) := (blk_cell BK988.out 0).trans rfl; have hcz10_1 : w9.cell? ⟨gb988, 1, none⟩ = some (.slice A0_1 l0_1.length c0_1) := (blk_cell BK988.out 1).trans rfl; have hfz10_0 := blk_frozen BK988.out 0; have hfz10_1 := blk_frozen BK988.out 1) | ((with_reducible refine gate_callee (f := 86) rfl ?_); refine goesL_ (some 21) rfl rfl Try.func86 (by kernel_rfl) rfl #[.agg #[.slice A0_0 l0_0.length c0_0, .slice A0_1 l0_1.length c0_1], .slice A1 l1.length c1, .int .i64 201] rfl (by (try simp only [List.map_toArray, List.map_cons, List.map_nil]); first | done | rfl | (simp only [List.length_drop, List.length_take]; rfl)) ?_; (with_reducible refine (spec_l05Run.calls k _ _ l0_0 _ _ l0_1 _ _ l1 201 t990 t993 t994 t997 t1000 t1001 _ ?side1 ?side2 ?side3 ?side4 ?side5 ?side6 A5.out).mono ?_); (case side1 => exact cb_ HR0_0.out HB.out); (case side2 => exact HC0_0.out); (case side3 => exact cb_ HR0_1.out HB.out); (case side4 => exact HC0_1.out); (case side5 => exact cb_ HR1.out HB.out); (case side6 => exact HC1.out); rintro e w11 ⟨v991, v995, v998, rfl, ho0, ho1, ho2, hb⟩; refine ⟨_, rfl, ?_⟩; have n0_ := Aside0.mk (Kd.S_lower ho0 bz_); have n1_ := Aside0.mk (Kd.R_lower ho1 bz_); have n2_ := Aside0.mk (Kd.S_lower ho2 bz_); have n3_ := Aside0.mk (bb_ BK988.out hb); have n4_ := Aside0.mk (bs_ hb); clear BK988; clear HB; have HO992 := n0_; have HO996 := n1_; have HO999 := n2_; have BK988 := n3_; have HB := n4_; clear n0_ n1_ n2_ n3_ n4_; (try clear hb); (try clear hb2); (try clear hk); (try clear hi); (try clear ho0); (try clear ho1); (try clear ho2)) | ((with_reducible refine gate_dst (N := 8) rfl ?_); refine box_event ?hg (N := 8) ?hd (cs := #[.slice none 0 0, .int .i64 0, .slice none 0 0]) (t := 101) ?hr ?_; (case hd => rfl); (case hg => rfl); (case hr => first | (go_simp; done) | (go_simp; rfl)); intro gb1002 hg w12 hbox hb; have n0_ := Aside0.mk (Kd.S_below (so_ HO992.out) hb); have n1_ := Aside0.mk (rb_ HO996.out hb); have n2_ := Aside0.mk (Kd.S_below (so_ HO999.out) hb); have n3_ := Aside0.mk (bb_ BK988.out hb); have n4_ := Aside0.mk (bs_ hb); have n5_ := Aside0.mk (hbox); have n6_ := Aside0.mk ((by rw [hg]; exact bz_ : w.heap.size ≤ gb1002)); have n7_ := Aside0.mk ((by rw [hg]; exact bz_ : w.heap.size ≤ gb1002)); have n8_ := Aside0.mk ((by rw [hg]; exact lt_ BK988.out : gb988 ≠ gb1002)); have n9_ := Aside0.mk ((by rw [hg]; exact gt_ BK988.out : gb1002 ≠ gb988)); clear HO992; clear HO996; clear HO999; clear BK988; clear HB; have HO992 := n0_; have HO996 := n1_; have HO999 := n2_; have BK988 := n3_; have HB := n4_; have BK1002 := n5_; have GW1002 := n6_; have GE1002 := n7_; have NB988_1002 := n8_; have NB1002_988 := n9_; clear n0_ n1_ n2_ n3_ n4_ n5_ n6_ n7_ n8_ n9_; clear hb hbox hg; obtain ⟨Ao13, co13, eo13⟩ := Kd.S_slice HO992.out; subst eo13; have hnb14 := NB1002_988.out; have hnc14 := NB988_1002.out; have hcz15_0 : w12.cell? ⟨gb1002, 0, none⟩ = some (.slice none 0 0) := (blk_cell BK1002.out 0).trans rfl; have hcz15_1 : w12.cell? ⟨gb1002, 1, none⟩ = some (.int .i64 0) := (blk_cell BK1002.out 1).trans rfl; have hcz15_2 : w12.cell? ⟨gb1002, 2, none⟩ = some (.slice none 0 0) := (blk_cell BK1002.out 2).trans rfl; have hfz15_0 := blk_frozen BK1002.out 0; have hfz15_1 := blk_frozen BK1002.out 1; have hfz15_2 := blk_frozen BK1002.out 2; obtain ⟨Ao16, co16, eo16⟩ := Kd.R_slice HO996.out; subst eo16; obtain ⟨Ao17, co17, eo17⟩ := Kd.S_slice HO999.out; subst eo17))
   go_ret3
   exact ⟨_, by first | rfl | (simp [errW_none, errW_some] <;> rfl) | (simp [*, errW_none, errW_some] <;> rfl), by first | exact Kd.S_nil _ _ _ _ _ | exact Kd.N_nil _ _ _ _ _ | exact Kd.V_nil _ _ _ _ _ | exact Kd.Q_nil _ _ _ _ _ | exact Kd.R_nil _ _ _ _ _, hb_⟩
  ·rw [if_neg c6] at H
   have c6b0 : decide (200 < (t997.length : Int)) = false := decide_eq_false c6
   have c6b1 : decide (200 < t997.length) = false := decide_eq_false (by omega)
   clear c6
   simp only [Option.some.injEq, Prod.mk.injEq] at H
   obtain ⟨rfl, rfl, rfl⟩ := H
   go_enter Try.func43, Try.ntmps43
   go_wp2_with (first | ((with_reducible refine gate_dst (N := 2) rfl ?_); refine box_event ?hg (N := 2) ?hd (cs := #[.slice A0_0 l0_0.length c0_0, .slice A0_1 l0_1.length c0_1]) (t := 29) ?hr ?_; (case hd => rfl); (case hg => rfl); (case hr => first | (go_simp; done) | (go_simp; rfl)); intro gb988 hg w18 hbox hb; have n0_ := Aside0.mk (bs_ hb); have n1_ := Aside0.mk (hbox); have n2_ := Aside0.mk ((by rw [hg]; exact bz_ : w.heap.size ≤ gb988)); have n3_ := Aside0.mk ((by rw [hg]; exact bz_ : w.heap.size ≤ gb988)); clear HB; have HB := n0_; have BK988 := n1_; have GW988 := n2_; have GE988 := n3_; clear n0_ n1_ n2_ n3_; clear hb hbox hg; have hcz19_0 : w18.cell? ⟨gb988, 0, none⟩ = some (.slice A0_0 l0_0.length c0_0) := (blk_cell BK988.out 0).trans rfl; have hcz19_1 : w18.cell? ⟨gb988, 1, none⟩ = some (.slice A0_1 l0_1.length c0_1) := (blk_cell BK988.out 1).trans rfl; have hfz19_0 := blk_frozen BK988.out 0; have hfz19_1 := blk_frozen BK988.out 1) | ((with_reducible refine gate_callee (f := 85) rfl ?_); refine goesL_ (some 14) rfl rfl Try.func85 (by kernel_rfl) rfl #[.agg #[.slice A0_0 l0_0.length c0_0, .slice A0_1 l0_1.length c0_1], .slice A1 l1.length c1] rfl (by (try simp only [List.map_toArray, List.map_cons, List.map_nil]); first | done | rfl | (simp only [List.length_drop, List.length_take]; rfl)) ?_; (with_reducible refine (spec_l05Code.calls k _ _ l0_0 _ _ l0_1 _ _ l1 t989 _ ?side1 ?side2 ?side3 ?side4 ?side5 ?side6 A3.out).mono ?_); (case side1 => exact cb_ HR0_0.out HB.out); (case side2 => exact HC0_0.out); (case side3 => exact cb_ HR0_1.out HB.out); (case side4 => exact HC0_1.out); (case side5 => exact cb_ HR1.out HB.out); (case side6 => exact HC1.out); rintro e w20 ⟨rfl, hb⟩; refine ⟨_, rfl, ?_⟩; have n0_ := Aside0.mk (bb_ BK988.out hb); have n1_ := Aside0.mk (bs_ hb); clear BK988; clear HB; have BK988 := n0_; have HB := n1_; clear n0_ n1_; (try clear hb); (try clear hb2); (try clear hk); (try clear hi); have hcz21_0 : w20.cell? ⟨gb988, 0, none⟩ = some (.slice A0_0 l0_0.length c0_0) := (blk_cell BK988.out 0).trans rfl; have hcz21_1 : w20.cell? ⟨gb988, 1, none⟩ = some (.slice A0_1 l0_1.length c0_1) := (blk_cell BK988.out 1).trans rfl; have hfz21_0 := blk_frozen BK988.out 0; have hfz21_1 := blk_frozen BK988.out 1) | ((with_reducible refine gate_callee (f := 86) rfl ?_); refine goesL_ (some 21) rfl rfl Try.func86 (by kernel_rfl) rfl #[.agg #[.slice A0_0 l0_0.length c0_0, .slice A0_1 l0_1.length c0_1], .slice A1 l1.length c1, .int .i64 201] rfl (by (try simp only [List.map_toArray, List.map_cons, List.map_nil]); first | done | rfl | (simp only [List.length_drop, List.length_take]; rfl)) ?_; (with_reducible refine (spec_l05Run.calls k _ _ l0_0 _ _ l0_1 _ _ l1 201 t990 t993 t994 t997 t1000 t1001 _ ?side1 ?side2 ?side3 ?side4 ?side5 ?side6 A5.out).mono ?_); (case side1 => exact cb_ HR0_0.out HB.out); (case side2 => exact HC0_0.out); (case side3 => exact cb_ HR0_1.out HB.out); (case side4 => exact HC0_1.out); (case side5 => exact cb_ HR1.out HB.out); (case side6 => exact HC1.out); rintro e w22 ⟨v991, v995, v998, rfl, ho0, ho1, ho2, hb⟩; refine ⟨_, rfl, ?_⟩; have n0_ := Aside0.mk (Kd.S_lower ho0 bz_); have n1_ := Aside0.mk (Kd.R_lower ho1 bz_); have n2_ := Aside0.mk (Kd.S_lower ho2 bz_); have n3_ := Aside0.mk (bb_ BK988.out hb); have n4_ := Aside0.mk (bs_ hb); clear BK988; clear HB; have HO992 := n0_; have HO996 := n1_; have HO999 := n2_; have BK988 := n3_; have HB := n4_; clear n0_ n1_ n2_ n3_ n4_; (try clear hb); (try clear hb2); (try clear hk); (try clear hi); (try clear ho0); (try clear ho1); (try clear ho2)) | ((with_reducible refine gate_dst (N := 8) rfl ?_); refine box_event ?hg (N := 8) ?hd (cs := #[.slice none 0 0, .int .i64 0, .slice none 0 0]) (t := 101) ?hr ?_; (case hd => rfl); (case hg => rfl); (case hr => first | (go_simp; done) | (go_simp; rfl)); intro gb1002 hg w23 hbox hb; have n0_ := Aside0.mk (Kd.S_below (so_ HO992.out) hb); have n1_ := Aside0.mk (rb_ HO996.out hb); have n2_ := Aside0.mk (Kd.S_below (so_ HO999.out) hb); have n3_ := Aside0.mk (bb_ BK988.out hb); have n4_ := Aside0.mk (bs_ hb); have n5_ := Aside0.mk (hbox); have n6_ := Aside0.mk ((by rw [hg]; exact bz_ : w.heap.size ≤ gb1002)); have n7_ := Aside0.mk ((by rw [hg]; exact bz_ : w.heap.size ≤ gb1002)); have n8_ := Aside0.mk ((by rw [hg]; exact lt_ BK988.out : gb988 ≠ gb1002)); have n9_ := Aside0.mk ((by rw [hg]; exact gt_ BK988.out : gb1002 ≠ gb988)); clear HO992; clear HO996; clear HO999; clear BK988; clear HB; have HO992 := n0_; have HO996 := n1_; have HO999 := n2_; have BK988 := n3_; have HB := n4_; have BK1002 := n5_; have GW1002 := n6_; have GE1002 := n7_; have NB988_1002 := n8_; have NB1002_988 := n9_; clear n0_ n1_ n2_ n3_ n4_ n5_ n6_ n7_ n8_ n9_; clear hb hbox hg; obtain ⟨Ao24, co24, eo24⟩ := Kd.S_slice HO992.out; subst eo24; have hnb25 := NB1002_988.out; have hnc25 := NB988_1002.out; have hcz26_0 : w23.cell? ⟨gb1002, 0, none⟩ = some (.slice none 0 0) := (blk_cell BK1002.out 0).trans rfl; have hcz26_1 : w23.cell? ⟨gb1002, 1, none⟩ = some (.int .i64 0) := (blk_cell BK1002.out 1).trans rfl; have hcz26_2 : w23.cell? ⟨gb1002, 2, none⟩ = some (.slice none 0 0) := (blk_cell BK1002.out 2).trans rfl; have hfz26_0 := blk_frozen BK1002.out 0; have hfz26_1 := blk_frozen BK1002.out 1; have hfz26_2 := blk_frozen BK1002.out 2; obtain ⟨Ao27, co27, eo27⟩ := Kd.R_slice HO996.out; subst eo27; obtain ⟨Ao28, co28, eo28⟩ := Kd.S_slice HO999.out; subst eo28))
   go_ret3
   exact ⟨_, by first | rfl | (simp [errW_none, errW_some] <;> rfl) | (simp [*, errW_none, errW_some] <;> rfl), by (with_reducible repeat (first | apply Kd.S_alloc | apply Kd.S_drewN | apply Kd.S_drew)); exact Kd.S_mono (Kd.S_far (p := ⟨gb1002, 2, none⟩) (Kd.S_far (p := ⟨gb1002, 1, none⟩) (Kd.S_far (p := ⟨gb1002, 0, none⟩) (Kd.S_types HO999.out BK1002.out (by decide)) (fun _ hk => hk.2) (.slice Ao24 t990.length co24)) (fun _ hk => hk.2) (.int .i64 t993)) (fun _ hk => hk.2) (.slice Ao27 t994.length co27)) (fun _ hk => trivial), hb_⟩
 ·rw [if_neg c4] at H
  have c4b0 : (t989 == 0) = false := beq_eq_false_iff_ne.mpr c4
  have c4b1 : (t989 != 0) = true := bne_iff_ne.mpr c4
  simp only [Option.some.injEq, Prod.mk.injEq] at H
  obtain ⟨rfl, rfl, rfl⟩ := H
  go_enter Try.func43, Try.ntmps43
  go_wp2_with (first | ((with_reducible refine gate_dst (N := 2) rfl ?_); refine box_event ?hg (N := 2) ?hd (cs := #[.slice A0_0 l0_0.length c0_0, .slice A0_1 l0_1.length c0_1]) (t := 29) ?hr ?_; (case hd => rfl); (case hg => rfl); (case hr => first | (go_simp; done) | (go_simp; rfl)); intro gb988 hg w29 hbox hb; have n0_ := Aside0.mk (bs_ hb); have n1_ := Aside0.mk (hbox); have n2_ := Aside0.mk ((by rw [hg]; exact bz_ : w.heap.size ≤ gb988)); have n3_ := Aside0.mk ((by rw [hg]; exact bz_ : w.heap.size ≤ gb988)); clear HB; have HB := n0_; have BK988 := n1_; have GW988 := n2_; have GE988 := n3_; clear n0_ n1_ n2_ n3_; clear hb hbox hg; have hcz30_0 : w29.cell? ⟨gb988, 0, none⟩ = some (.slice A0_0 l0_0.length c0_0) := (blk_cell BK988.out 0).trans rfl; have hcz30_1 : w29.cell? ⟨gb988, 1, none⟩ = some (.slice A0_1 l0_1.length c0_1) := (blk_cell BK988.out 1).trans rfl; have hfz30_0 := blk_frozen BK988.out 0; have hfz30_1 := blk_frozen BK988.out 1) | ((with_reducible refine gate_callee (f := 85) rfl ?_); refine goesL_ (some 14) rfl rfl Try.func85 (by kernel_rfl) rfl #[.agg #[.slice A0_0 l0_0.length c0_0, .slice A0_1 l0_1.length c0_1], .slice A1 l1.length c1] rfl (by (try simp only [List.map_toArray, List.map_cons, List.map_nil]); first | done | rfl | (simp only [List.length_drop, List.length_take]; rfl)) ?_; (with_reducible refine (spec_l05Code.calls k _ _ l0_0 _ _ l0_1 _ _ l1 t989 _ ?side1 ?side2 ?side3 ?side4 ?side5 ?side6 A3.out).mono ?_); (case side1 => exact cb_ HR0_0.out HB.out); (case side2 => exact HC0_0.out); (case side3 => exact cb_ HR0_1.out HB.out); (case side4 => exact HC0_1.out); (case side5 => exact cb_ HR1.out HB.out); (case side6 => exact HC1.out); rintro e w31 ⟨rfl, hb⟩; refine ⟨_, rfl, ?_⟩; have n0_ := Aside0.mk (bb_ BK988.out hb); have n1_ := Aside0.mk (bs_ hb); clear BK988; clear HB; have BK988 := n0_; have HB := n1_; clear n0_ n1_; (try clear hb); (try clear hb2); (try clear hk); (try clear hi)))
  go_ret3
  exact ⟨_, by first | rfl | (simp [errW_none, errW_some] <;> rfl) | (simp [*, errW_none, errW_some] <;> rfl), by first | exact Kd.S_nil _ _ _ _ _ | exact Kd.N_nil _ _ _ _ _ | exact Kd.V_nil _ _ _ _ _ | exact Kd.Q_nil _ _ _ _ _ | exact Kd.R_nil _ _ _ _ _, hb_⟩
def laws_heldInt64SS.l0 : Nat → List (List Int) → Int → Int → Option (Int)
 | 0, _, _, _ => none
 | k + 1, x0, x1, x5 => if x5 < (x0.length : Int) then (if 0 ≤ x5 then ((laws_heldInt64S.f k (rd_L1 x0 x5) x1).bind fun t150 => (if t150 < 0 then (some (-1)) else (laws_heldInt64SS.l0 k x0 t150 (wrap64 (x5 + 1))))) else (none)) else (some x1)
def laws_heldInt64SS.f (k : Nat) (l0 : List (List Int)) (a1 : Int) : Option (Int) := laws_heldInt64SS.l0 k l0 a1 0
theorem laws_heldInt64SS.mono_l : ∀ k, (∀ y0 y1 y2, LeO (laws_heldInt64SS.l0 k y0 y1 y2) (laws_heldInt64SS.l0 (k + 1) y0 y1 y2))
 | 0 => fun _ _ _ r h => by simp [laws_heldInt64SS.l0] at h
 | k + 1 => by
  have ih0 := laws_heldInt64SS.mono_l k
  ·intro y0 y1 y2
   unfold laws_heldInt64SS.l0
   repeat' first
   | (with_reducible exact ih0 _ _ _)
   | (with_reducible exact laws_heldInt64S.mono _ _ _)
   | (with_reducible exact LeO.refl _)
   | (with_reducible exact LeO.none _)
   | (with_reducible refine LeO.ite ?_ ?_)
   | (with_reducible refine LeO.bind ?_ (fun _ => ?_))
   | exact ih0 _ _ _
   | exact laws_heldInt64S.mono _ _ _
   | exact LeO.none _
   | refine LeO.ite ?_ ?_
   | refine LeO.bind ?_ (fun _ => ?_)
theorem laws_heldInt64SS.mono : ∀ a0 a1 k, LeO (laws_heldInt64SS.f k a0 a1) (laws_heldInt64SS.f (k + 1) a0 a1) := by
 intro a0 a1 k
 have ih0 := laws_heldInt64SS.mono_l k
 unfold laws_heldInt64SS.f
 repeat' first
   | (with_reducible exact ih0 _ _ _)
   | (with_reducible exact laws_heldInt64S.mono _ _ _)
   | (with_reducible exact LeO.refl _)
   | (with_reducible exact LeO.none _)
   | (with_reducible refine LeO.ite ?_ ?_)
   | (with_reducible refine LeO.bind ?_ (fun _ => ?_))
   | exact ih0 _ _ _
   | exact laws_heldInt64S.mono _ _ _
   | exact LeO.none _
   | refine LeO.ite ?_ ?_
   | refine LeO.bind ?_ (fun _ => ?_)
theorem laws_heldInt64SS.calls (k : Nat) (A0 : Option Addr) (c0 : Nat) (l0 : List (List Int)) (a1 : Int) (r : Int) (w : World) (hr0 : Kd.C (Kd.slice 2 (Kd.int .i64)) w A0 l0.length l0) (hc0 : l0.length ≤ c0) (h : laws_heldInt64SS.f k l0 a1 = some r) :
  Calls Try.prog 23 #[.slice A0 l0.length c0, .int .i64 a1] w fun e w' => e = .returned (.int .i64 r) ∧ Drawn0 w w' := by
 have HR0 := Aside0.mk hr0
 have HC0 := Aside0.mk hc0
 clear hr0 hc0
 have H : (laws_heldInt64SS.l0 k l0 a1 0) = some r := h
 clear h
 have H' := Aside0.mk H
 clear H
 go_enter Try.func23, Try.ntmps23
 go_wp2
 go_loopg [1, 5] k (fun kq v1 v5 w' => ∃ (x1_1 : Int) (x5_1 : Int), v1 = .int .i64 x1_1 ∧ v5 = .int .i64 x5_1 ∧ Aside0 (laws_heldInt64SS.l0 kq l0 x1_1 x5_1 = some r) ∧ Aside0 (kq ≤ k) ∧ Drawn0 w w')
 case atStart => exact ⟨(a1), (0), (by first | rfl | (simp; done) | (simp [*]; done)), (by first | rfl | (simp; done) | (simp [*]; done)), H', ⟨Nat.le_refl _⟩, by repeat (first | exact Drawn0.refl _ | apply Drawn0.step)⟩
 case round =>
  clear H'
  try clear c2
  try clear p2
  obtain ⟨x1_1, x5_1, rfl, rfl, HA, HK1, ⟨m1, rfl⟩⟩ := hrel
  cases gk with
  | zero => exact absurd HA.out (by simp [laws_heldInt64SS.l0])
  | succ k1 =>
   have H := HA.out
   clear HA
   simp only [laws_heldInt64SS.l0] at H
   by_cases c3 : x5_1 < (l0.length : Int)
   ·rw [if_pos c3] at H
    have c3b0 : decide (x5_1 < (l0.length : Int)) = true := decide_eq_true c3
    clear c3
    by_cases c4 : 0 ≤ x5_1
    ·rw [if_pos c4] at H
     have c4b0 : decide (0 ≤ x5_1) = true := decide_eq_true c4
     clear c4
     replace H := Option.bind_eq_some_iff.mp H
     obtain ⟨t150, A50, H⟩ := H
     replace H : (if t150 < 0 then (some (-1)) else (laws_heldInt64SS.l0 k1 l0 t150 (wrap64 (x5_1 + 1)))) = some r := H
     have A5 := Aside0.mk A50
     clear A50
     by_cases c6 : t150 < 0
     ·rw [if_pos c6] at H
      have c6b0 : decide (t150 < 0) = true := decide_eq_true c6
      clear c6
      obtain rfl := Option.some.inj H
      have p149 : 0 ≤ (x5_1 : Int) := of_decide_eq_true (by first | (with_reducible assumption) | assumption)
      have q149 : x5_1 < (l0.length : Int) := of_decide_eq_true (by first | (with_reducible assumption) | assumption)
      obtain ⟨ad149, A149_0, c149_0, e149, hx149_0, hl149_0, hi149_0⟩ := at_L1 HR0.out x5_1 p149 q149
      cases e149
      have HR149_0 := Aside0.mk hi149_0
      have HC149_0 := Aside0.mk hl149_0
      clear hi149_0 hl149_0
      replace p149 := eq_true p149
      replace q149 := eq_true q149
      go_wp2_with (first | ((with_reducible refine gate_callee (f := 37) rfl ?_); refine goesL_ (some 17) rfl rfl Try.func37 (by kernel_rfl) rfl #[.slice A149_0 (rd_L1 l0 x5_1).length c149_0, .int .i64 x1_1] rfl (by (try simp only [List.map_toArray, List.map_cons, List.map_nil]); first | done | rfl | (simp only [List.length_drop, List.length_take]; rfl)) ?_; (with_reducible refine (laws_heldInt64S.calls k1 _ _ (rd_L1 l0 x5_1) x1_1 t150 _ ?side1 ?side2 A5.out).mono ?_); (case side1 => repeat (first | exact HR149_0.out | (with_reducible refine Kd.C_alloc ?_ _) | (with_reducible refine Kd.C_drewN ?_ _) | (with_reducible refine Kd.C_drew ?_))); (case side2 => exact HC149_0.out); rintro e w' ⟨rfl, ⟨nd, rfl⟩⟩; refine ⟨_, rfl, ?_⟩))
      go_ret
      exact ⟨by first | rfl | (simp; done) | (simp [*]; done), by repeat (first | exact Drawn0.refl _ | apply Drawn0.step)⟩
     ·rw [if_neg c6] at H
      have c6b0 : decide (t150 < 0) = false := decide_eq_false c6
      clear c6
      have H' := Aside0.mk H
      clear H
      have p149 : 0 ≤ (x5_1 : Int) := of_decide_eq_true (by first | (with_reducible assumption) | assumption)
      have q149 : x5_1 < (l0.length : Int) := of_decide_eq_true (by first | (with_reducible assumption) | assumption)
      obtain ⟨ad149, A149_0, c149_0, e149, hx149_0, hl149_0, hi149_0⟩ := at_L1 HR0.out x5_1 p149 q149
      cases e149
      have HR149_0 := Aside0.mk hi149_0
      have HC149_0 := Aside0.mk hl149_0
      clear hi149_0 hl149_0
      replace p149 := eq_true p149
      replace q149 := eq_true q149
      go_wp2_with (first | ((with_reducible refine gate_callee (f := 37) rfl ?_); refine goesL_ (some 17) rfl rfl Try.func37 (by kernel_rfl) rfl #[.slice A149_0 (rd_L1 l0 x5_1).length c149_0, .int .i64 x1_1] rfl (by (try simp only [List.map_toArray, List.map_cons, List.map_nil]); first | done | rfl | (simp only [List.length_drop, List.length_take]; rfl)) ?_; (with_reducible refine (laws_heldInt64S.calls k1 _ _ (rd_L1 l0 x5_1) x1_1 t150 _ ?side1 ?side2 A5.out).mono ?_); (case side1 => repeat (first | exact HR149_0.out | (with_reducible refine Kd.C_alloc ?_ _) | (with_reducible refine Kd.C_drewN ?_ _) | (with_reducible refine Kd.C_drew ?_))); (case side2 => exact HC149_0.out); rintro e w' ⟨rfl, ⟨nd, rfl⟩⟩; refine ⟨_, rfl, ?_⟩))
      go_roundg k1
      case measure => have := HK1.out; omega
      case rel => exact ⟨(t150), (wrap64 (x5_1 + 1)), (by first | rfl | (simp; done) | (simp [*]; done)), (by first | rfl | (simp; done) | (simp [*]; done)), H', ⟨by have := HK1.out; omega⟩, by repeat (first | exact Drawn0.refl _ | apply Drawn0.step)⟩
    ·rw [if_neg c4] at H
     exact absurd H (by simp)
   ·rw [if_neg c3] at H
    have c3b0 : decide (x5_1 < (l0.length : Int)) = false := decide_eq_false c3
    clear c3
    obtain rfl := Option.some.inj H
    go_wp2
    go_ret
    exact ⟨by first | rfl | (simp; done) | (simp [*]; done), by repeat (first | exact Drawn0.refl _ | apply Drawn0.step)⟩
end Go.Proofs.Ythdoilfjcgickaa.Pr
end
section
namespace Go.Proofs.Ythdoilfjcgickaa.Pr
open Go.RowKit Go.Proofs.YthdoilfjcgickaaW.PrintWords Go.Proofs.YthdoilfjcgickaaW.PrintLast Go.Proofs.YthdoilfjcgickaaW.PrintMore Go.Proofs.Ythdoilfjcgickaa.La Go.Proofs.Ythdoilfjcgickaa.Hm Go.Proofs.Ythdoilfjcgickaa.Lw
theorem laws_FnExactLemkeSteps.walk (k : Nat) (A0_0 : Option Addr) (c0_0 : Nat) (l0_0 : List (List Int)) (A0_1 : Option Addr) (c0_1 : Nat) (l0_1 : List Int) (A1 : Option Addr) (c1 : Nat) (l1 : List Int) (t25 : Int) (s0 : List (List Int)) (s1 : Bool) (s2 : Int) (m1 : Int) (m2 : Int) (m3 : Int) (w : World) (hr0_0 : Kd.C (Kd.slice 2 (Kd.int .i64)) w A0_0 l0_0.length l0_0) (hc0_0 : l0_0.length ≤ c0_0) (hr0_1 : Kd.C (Kd.int .i64) w A0_1 l0_1.length l0_1) (hc0_1 : l0_1.length ≤ c0_1) (hr1 : Kd.C (Kd.int .i64) w A1 l1.length l1) (hc1 : l1.length ≤ c1) (h1 : ¬ (l1.length : Int) > 1048576) (h2 : laws_szProblem.f k l0_0 l0_1 1048576 = some t25) (h3 : ¬ t25 < 0) (h4 : laws_toProblem.f k l0_0 l0_1 = some (l0_0, l0_1)) (h5 : laws_toInt64S.f k l1 = some l1) (h6 : spec_LemkeSteps.f k l0_0 l0_1 l1 = some (s0, s1, s2)) (h7 : impl_LemkeSteps.f l0_0 l0_1 l1 = some (s0, s1, s2)) (h8 : laws_eqInt64SS.f k s0 s0 = some true) (h9 : laws_eqProblem.f k l0_0 l0_1 l0_0 l0_1 = some true) (h10 : laws_eqInt64S.f k l1 l1 = some true) (h11 : m1 = 1 + (lens l0_0 : Int) + (l0_1.length : Int)) (h12 : 1 + (lens l0_0 : Int) + (l0_1.length : Int) ≤ 1099511627776) (h13 : l0_0.length ≤ 1099511627776) (h14 : ¬ m1 < 0) (h15 : 0 ≤ m1) (h16 : m2 = m1 + (l1.length : Int)) (h17 : m1 + (l1.length : Int) ≤ 1099511627776) (h18 : ¬ m2 < 0) (h19 : m3 = 1 + (lens s0 : Int)) (h20 : 1 + (lens s0 : Int) ≤ 1099511627776) (h21 : s0.length ≤ 1099511627776) (h22 : ¬ m3 < 0) (h23 : laws_heldInt64SS.f k ((marks s0 1)) 1 = some m3) :
  Calls Try.prog 10 #[.agg #[.slice A0_0 l0_0.length c0_0, .slice A0_1 l0_1.length c0_1], .slice A1 l1.length c1] w fun e w' => e = .returned (.bool true) ∧ Below w.heap.size w w' := by
 have HR0_0 := Aside0.mk hr0_0
 have HC0_0 := Aside0.mk hc0_0
 clear hr0_0 hc0_0
 have HR0_1 := Aside0.mk hr0_1
 have HC0_1 := Aside0.mk hc0_1
 clear hr0_1 hc0_1
 have HR1 := Aside0.mk hr1
 have HC1 := Aside0.mk hc1
 clear hr1 hc1
 have HB := Aside0.mk (Below.refl w.heap.size w)
 have H2' := Aside0.mk h2
 clear h2
 have H4' := Aside0.mk h4
 clear h4
 have H5' := Aside0.mk h5
 clear h5
 have H6' := Aside0.mk h6
 clear h6
 have H7' := Aside0.mk h7
 clear h7
 have H8' := Aside0.mk h8
 clear h8
 have H9' := Aside0.mk h9
 clear h9
 have H10' := Aside0.mk h10
 clear h10
 have H11' := Aside0.mk h11
 clear h11
 have H12' := Aside0.mk h12
 clear h12
 have H13' := Aside0.mk h13
 clear h13
 have H15' := Aside0.mk h15
 clear h15
 have H16' := Aside0.mk h16
 clear h16
 have H17' := Aside0.mk h17
 clear h17
 have H19' := Aside0.mk h19
 clear h19
 have H20' := Aside0.mk h20
 clear h20
 have H21' := Aside0.mk h21
 clear h21
 have H23' := Aside0.mk h23
 clear h23
 go_enter Try.func10, Try.ntmps10
 go_wp2_with (first | ((with_reducible refine gate_dst (N := 2) rfl ?_); refine box_event ?hg (N := 2) ?hd (cs := #[.slice A0_0 l0_0.length c0_0, .slice A0_1 l0_1.length c0_1]) (t := 25) ?hr ?_; (case hd => rfl); (case hg => rfl); (case hr => first | (go_simp; done) | (go_simp; rfl)); intro g2 hg w1 hbox hb; have Gg2 : Aside0 (g2 = w.heap.size) := ⟨hg⟩; have Kg2 := Aside0.mk (blk_lt hbox); clear hg; have n_HB := Aside0.mk (below_step HB.out hb); have NN1 : Aside0 (w.heap.size ≤ w1.heap.size) := ⟨hb.size⟩; clear HB; have HB := n_HB; clear n_HB; have Bg2 := Aside0.mk hbox; clear hb hbox; have hc2_0 : w1.cell? ⟨g2, 0, none⟩ = some (.slice A0_0 l0_0.length c0_0) := (blk_cell Bg2.out 0).trans rfl; have hf2_0 := blk_frozen Bg2.out 0; have hc2_1 : w1.cell? ⟨g2, 1, none⟩ = some (.slice A0_1 l0_1.length c0_1) := (blk_cell Bg2.out 1).trans rfl; have hf2_1 := blk_frozen Bg2.out 1) | ((with_reducible refine gate_callee (f := 15) rfl ?_); refine goesL_ (some 25) rfl rfl Try.func15 (by kernel_rfl) rfl #[.agg #[.slice A0_0 l0_0.length c0_0, .slice A0_1 l0_1.length c0_1], .int .i64 1048576] rfl (by (try simp only [List.map_toArray, List.map_cons, List.map_nil]); first | done | rfl) ?_; refine (laws_szProblem.calls k _ _ l0_0 _ _ l0_1 1048576 t25 _ ?s1 ?s2 ?s3 ?s4 H2'.out).mono ?_; (case s1 => exact Kd.C_below HR0_0.out HB.out); (case s2 => exact HC0_0.out); (case s3 => exact Kd.C_below HR0_1.out HB.out); (case s4 => exact HC0_1.out); rintro e w2 ⟨rfl, hb⟩; refine ⟨_, rfl, ?_⟩; have n_Bg2 := Aside0.mk (blk_below Bg2.out hb); have n_HB := Aside0.mk (below_step HB.out hb); have NN2 : Aside0 (w1.heap.size ≤ w2.heap.size) := ⟨hb.size⟩; clear hc2_0 hf2_0; clear hc2_1 hf2_1; clear Bg2 HB; have Bg2 := n_Bg2; have HB := n_HB; clear n_Bg2 n_HB; clear hb; have hc2_0 : w2.cell? ⟨g2, 0, none⟩ = some (.slice A0_0 l0_0.length c0_0) := (blk_cell Bg2.out 0).trans rfl; have hf2_0 := blk_frozen Bg2.out 0; have hc2_1 : w2.cell? ⟨g2, 1, none⟩ = some (.slice A0_1 l0_1.length c0_1) := (blk_cell Bg2.out 1).trans rfl; have hf2_1 := blk_frozen Bg2.out 1) | ((with_reducible refine gate_callee (f := 17) rfl ?_); refine goesL_ (some 30) rfl rfl Try.func17 (by kernel_rfl) rfl #[.agg #[.slice A0_0 l0_0.length c0_0, .slice A0_1 l0_1.length c0_1]] rfl (by (try simp only [List.map_toArray, List.map_cons, List.map_nil]); first | done | rfl) ?_; refine (laws_toProblem.calls k _ _ l0_0 _ _ l0_1 l0_0 l0_1 _ ?s1 ?s2 ?s3 ?s4 H4'.out).mono ?_; (case s1 => exact Kd.C_below HR0_0.out HB.out); (case s2 => exact HC0_0.out); (case s3 => exact Kd.C_below HR0_1.out HB.out); (case s4 => exact HC0_1.out); rintro e w3 ⟨v30_0, v30_1, rfl, ho0, ho1, hb⟩; refine ⟨_, rfl, ?_⟩; have nu0 := Aside0.mk (UP.of ho0 ho1 HB.out.size); have n_Bg2 := Aside0.mk (blk_below Bg2.out hb); have n_HB := Aside0.mk (below_step HB.out hb); have NN3 : Aside0 (w2.heap.size ≤ w3.heap.size) := ⟨hb.size⟩; clear hc2_0 hf2_0; clear hc2_1 hf2_1; clear Bg2 HB; have Bg2 := n_Bg2; have HB := n_HB; clear n_Bg2 n_HB; clear hb ho0 ho1; have U30 := nu0; clear nu0; obtain ⟨A30_0, c30_0, A30_1, c30_1, e0, e1⟩ := U30.out.slices; subst e0; subst e1) | ((with_reducible refine gate_callee (f := 44) rfl ?_); refine goesL_ (some 32) rfl rfl Try.func44 (by kernel_rfl) rfl #[.slice A1 l1.length c1] rfl (by (try simp only [List.map_toArray, List.map_cons, List.map_nil]); first | done | rfl) ?_; refine (laws_toInt64S.calls k _ _ l1 l1 _ ?s1 ?s2 H5'.out).mono ?_; (case s1 => exact Kd.C_below HR1.out HB.out); (case s2 => exact HC1.out); rintro e w4 ⟨v32_0, rfl, ho0, hb⟩; refine ⟨_, rfl, ?_⟩; have nu0 := Aside0.mk (UR.of ho0 HB.out.size); have n_U30 := Aside0.mk (U30.out.mvB (Frm.below hb)); have n_Bg2 := Aside0.mk (blk_below Bg2.out hb); have n_HB := Aside0.mk (below_step HB.out hb); have NN4 : Aside0 (w3.heap.size ≤ w4.heap.size) := ⟨hb.size⟩; clear U30 Bg2 HB; have U30 := n_U30; have Bg2 := n_Bg2; have HB := n_HB; clear n_U30 n_Bg2 n_HB; clear hb ho0; have U32_0 := nu0; clear nu0; obtain ⟨A32_0, c32_0, e0⟩ := Kd.R_slice U32_0.out; subst e0) | ((with_reducible refine gate_callee (f := 43) rfl ?_); refine goesL_ (some 33) rfl rfl Try.func43 (by kernel_rfl) rfl #[.agg #[.slice A30_0 l0_0.length c30_0, .slice A30_1 l0_1.length c30_1], .slice A32_0 l1.length c32_0] rfl (by (try simp only [List.map_toArray, List.map_cons, List.map_nil]); first | done | rfl) ?_; refine (spec_LemkeSteps.calls k _ _ l0_0 _ _ l0_1 _ _ l1 s0 s1 s2 _ ?s1 ?s2 ?s3 ?s4 ?s5 ?s6 H6'.out).mono ?_; (case s1 => exact U30.out.C0); (case s2 => exact U30.out.cap0); (case s3 => exact U30.out.C1); (case s4 => exact U30.out.cap1); (case s5 => exact UR.C U32_0.out); (case s6 => exact UR.cap U32_0.out); rintro e w5 ⟨v33_0, rfl, ho0, hb⟩; refine ⟨_, rfl, ?_⟩; have nu0 := Aside0.mk (US.of ho0 HB.out.size); have n_U30 := Aside0.mk (U30.out.mvB (Frm.below hb)); have n_U32_0 := Aside0.mk (U32_0.out.mvB (Frm.below hb)); have n_Bg2 := Aside0.mk (blk_below Bg2.out hb); have n_HB := Aside0.mk (below_step HB.out hb); have NN5 : Aside0 (w4.heap.size ≤ w5.heap.size) := ⟨hb.size⟩; clear U30 U32_0 Bg2 HB; have U30 := n_U30; have U32_0 := n_U32_0; have Bg2 := n_Bg2; have HB := n_HB; clear n_U30 n_U32_0 n_Bg2 n_HB; clear hb ho0; have U33_0 := nu0; clear nu0; obtain ⟨A33_0, c33_0, e0⟩ := Kd.S_slice U33_0.out; subst e0; have hc2_0 : w5.cell? ⟨g2, 0, none⟩ = some (.slice A0_0 l0_0.length c0_0) := (blk_cell Bg2.out 0).trans rfl; have hf2_0 := blk_frozen Bg2.out 0; have hc2_1 : w5.cell? ⟨g2, 1, none⟩ = some (.slice A0_1 l0_1.length c0_1) := (blk_cell Bg2.out 1).trans rfl; have hf2_1 := blk_frozen Bg2.out 1) | ((with_reducible refine gate_callee (f := 17) rfl ?_); refine goesL_ (some 38) rfl rfl Try.func17 (by kernel_rfl) rfl #[.agg #[.slice A0_0 l0_0.length c0_0, .slice A0_1 l0_1.length c0_1]] rfl (by (try simp only [List.map_toArray, List.map_cons, List.map_nil]); first | done | rfl) ?_; refine (laws_toProblem.calls k _ _ l0_0 _ _ l0_1 l0_0 l0_1 _ ?s1 ?s2 ?s3 ?s4 H4'.out).mono ?_; (case s1 => exact Kd.C_below HR0_0.out HB.out); (case s2 => exact HC0_0.out); (case s3 => exact Kd.C_below HR0_1.out HB.out); (case s4 => exact HC0_1.out); rintro e w6 ⟨v38_0, v38_1, rfl, ho0, ho1, hb⟩; refine ⟨_, rfl, ?_⟩; have nu0 := Aside0.mk (UP.of ho0 ho1 HB.out.size); have n_U30 := Aside0.mk (U30.out.mvB (Frm.below hb)); have n_U32_0 := Aside0.mk (U32_0.out.mvB (Frm.below hb)); have n_U33_0 := Aside0.mk (U33_0.out.mvB (Frm.below hb)); have n_Bg2 := Aside0.mk (blk_below Bg2.out hb); have n_HB := Aside0.mk (below_step HB.out hb); have NN6 : Aside0 (w5.heap.size ≤ w6.heap.size) := ⟨hb.size⟩; clear hc2_0 hf2_0; clear hc2_1 hf2_1; clear U30 U32_0 U33_0 Bg2 HB; have U30 := n_U30; have U32_0 := n_U32_0; have U33_0 := n_U33_0; have Bg2 := n_Bg2; have HB := n_HB; clear n_U30 n_U32_0 n_U33_0 n_Bg2 n_HB; clear hb ho0 ho1; have U38 := nu0; clear nu0; obtain ⟨A38_0, c38_0, A38_1, c38_1, e0, e1⟩ := U38.out.slices; subst e0; subst e1) | ((with_reducible refine gate_dst (N := 9) rfl ?_); refine box_event ?hg (N := 9) ?hd (cs := #[.slice none 0 0, .slice none 0 0]) (t := 29) ?hr ?_; (case hd => rfl); (case hg => rfl); (case hr => first | (go_simp; done) | (go_simp; rfl)); intro g9 hg w7 hbox hb; have Gg9 : Aside0 (g9 = w6.heap.size) := ⟨hg⟩; have Kg9 := Aside0.mk (blk_lt hbox); clear hg; have n_U30 := Aside0.mk (U30.out.mvB (Frm.below hb)); have n_U32_0 := Aside0.mk (U32_0.out.mvB (Frm.below hb)); have n_U33_0 := Aside0.mk (U33_0.out.mvB (Frm.below hb)); have n_U38 := Aside0.mk (U38.out.mvB (Frm.below hb)); have n_Bg2 := Aside0.mk (blk_below Bg2.out hb); have n_HB := Aside0.mk (below_step HB.out hb); have NN7 : Aside0 (w6.heap.size ≤ w7.heap.size) := ⟨hb.size⟩; clear U30 U32_0 U33_0 U38 Bg2 HB; have U30 := n_U30; have U32_0 := n_U32_0; have U33_0 := n_U33_0; have U38 := n_U38; have Bg2 := n_Bg2; have HB := n_HB; clear n_U30 n_U32_0 n_U33_0 n_U38 n_Bg2 n_HB; have Bg9 := Aside0.mk hbox; clear hb hbox; have hc9_0 : w7.cell? ⟨g9, 0, none⟩ = some (.slice none 0 0) := (blk_cell Bg9.out 0).trans rfl; have hf9_0 := blk_frozen Bg9.out 0; have hc9_1 : w7.cell? ⟨g9, 1, none⟩ = some (.slice none 0 0) := (blk_cell Bg9.out 1).trans rfl; have hf9_1 := blk_frozen Bg9.out 1) | ((with_reducible refine gate_store (t := 29) (p := 9) rfl ?_); refine store_event (t := 29) (p := 9) (v := ?vo_w8) (w1 := ((w7.setCell ⟨g9, 0, none⟩ (.slice A38_0 l0_0.length c38_0)).setCell ⟨g9, 1, none⟩ (.slice A38_1 l0_1.length c38_1))) ?hg ?ho ?hn ?hr ?_; (case ho => rfl); (case hg => rfl); (case hn => rfl); (case hr => first | (go_simp; done) | (go_simp; rfl)); intro w8 hw; have hge : w.heap.size ≤ g9 := (by have := NN1.out; have := Gg2.out; have := Kg2.out; have := NN2.out; have := NN3.out; have := NN4.out; have := NN5.out; have := NN6.out; have := NN7.out; have := Gg9.out; have := Kg9.out; have := HB.out.size; omega); have hF : Frm w7 w8 g9 (g9 + 1) := (by rw [hw]; exact (Frm.trans (Frm.set _ _ _ _) (Frm.set _ _ _ _))); have nb := Aside0.mk (show w8.heap[g9]? = some (.cells #[.slice A38_0 l0_0.length c38_0, .slice A38_1 l0_1.length c38_1] 29 (0, 0)) from (by rw [hw]; exact (blk_put (blk_put Bg9.out 0 _ rfl) 1 _ rfl))); have n_U30 := Aside0.mk (U30.out.mv hF (by have := NN1.out; have := Gg2.out; have := Kg2.out; have := NN2.out; have := NN3.out; have := NN4.out; have := NN5.out; have := NN6.out; have := NN7.out; have := Gg9.out; have := Kg9.out; omega)); have n_U32_0 := Aside0.mk (U32_0.out.mv hF (by have := NN1.out; have := Gg2.out; have := Kg2.out; have := NN2.out; have := NN3.out; have := NN4.out; have := NN5.out; have := NN6.out; have := NN7.out; have := Gg9.out; have := Kg9.out; omega)); have n_U33_0 := Aside0.mk (U33_0.out.mv hF (by have := NN1.out; have := Gg2.out; have := Kg2.out; have := NN2.out; have := NN3.out; have := NN4.out; have := NN5.out; have := NN6.out; have := NN7.out; have := Gg9.out; have := Kg9.out; omega)); have n_U38 := Aside0.mk (U38.out.mv hF (by have := NN1.out; have := Gg2.out; have := Kg2.out; have := NN2.out; have := NN3.out; have := NN4.out; have := NN5.out; have := NN6.out; have := NN7.out; have := Gg9.out; have := Kg9.out; omega)); have n_Bg2 := Aside0.mk ((hF.same g2 (blk_lt Bg2.out) (by have := NN1.out; have := Gg2.out; have := Kg2.out; have := NN2.out; have := NN3.out; have := NN4.out; have := NN5.out; have := NN6.out; have := NN7.out; have := Gg9.out; have := Kg9.out; omega)).trans Bg2.out); have n_HB := Aside0.mk ((by rw [hw]; exact (below_set (below_set HB.out hge) hge) : Below w.heap.size w w8)); have NN8 : Aside0 (w7.heap.size ≤ w8.heap.size) := ⟨hF.size⟩; clear hc9_0 hf9_0; clear hc9_1 hf9_1; clear U30 U32_0 U33_0 U38 Bg2 HB; have U30 := n_U30; have U32_0 := n_U32_0; have U33_0 := n_U33_0; have U38 := n_U38; have Bg2 := n_Bg2; have HB := n_HB; clear n_U30 n_U32_0 n_U33_0 n_U38 n_Bg2 n_HB; clear Bg9; have Bg9 := nb; clear nb hF hge hw) | ((with_reducible refine gate_callee (f := 44) rfl ?_); refine goesL_ (some 40) rfl rfl Try.func44 (by kernel_rfl) rfl #[.slice A1 l1.length c1] rfl (by (try simp only [List.map_toArray, List.map_cons, List.map_nil]); first | done | rfl) ?_; refine (laws_toInt64S.calls k _ _ l1 l1 _ ?s1 ?s2 H5'.out).mono ?_; (case s1 => exact Kd.C_below HR1.out HB.out); (case s2 => exact HC1.out); rintro e w9 ⟨v40_0, rfl, ho0, hb⟩; refine ⟨_, rfl, ?_⟩; have nu0 := Aside0.mk (UR.of ho0 HB.out.size); have n_U30 := Aside0.mk (U30.out.mvB (Frm.below hb)); have n_U32_0 := Aside0.mk (U32_0.out.mvB (Frm.below hb)); have n_U33_0 := Aside0.mk (U33_0.out.mvB (Frm.below hb)); have n_U38 := Aside0.mk (U38.out.mvB (Frm.below hb)); have n_Bg2 := Aside0.mk (blk_below Bg2.out hb); have n_Bg9 := Aside0.mk (blk_below Bg9.out hb); have n_HB := Aside0.mk (below_step HB.out hb); have NN9 : Aside0 (w8.heap.size ≤ w9.heap.size) := ⟨hb.size⟩; clear U30 U32_0 U33_0 U38 Bg2 Bg9 HB; have U30 := n_U30; have U32_0 := n_U32_0; have U33_0 := n_U33_0; have U38 := n_U38; have Bg2 := n_Bg2; have Bg9 := n_Bg9; have HB := n_HB; clear n_U30 n_U32_0 n_U33_0 n_U38 n_Bg2 n_Bg9 n_HB; clear hb ho0; have U40_0 := nu0; clear nu0; obtain ⟨A40_0, c40_0, e0⟩ := Kd.R_slice U40_0.out; subst e0; have hc9_0 : w9.cell? ⟨g9, 0, none⟩ = some (.slice A38_0 l0_0.length c38_0) := (blk_cell Bg9.out 0).trans rfl; have hf9_0 := blk_frozen Bg9.out 0; have hc9_1 : w9.cell? ⟨g9, 1, none⟩ = some (.slice A38_1 l0_1.length c38_1) := (blk_cell Bg9.out 1).trans rfl; have hf9_1 := blk_frozen Bg9.out 1) | ((with_reducible refine gate_callee (f := 45) rfl ?_); refine goesL_ (some 44) rfl rfl Try.func45 (by kernel_rfl) rfl #[.agg #[.slice A38_0 l0_0.length c38_0, .slice A38_1 l0_1.length c38_1], .slice A40_0 l1.length c40_0] rfl (by (try simp only [List.map_toArray, List.map_cons, List.map_nil]); first | done | rfl) ?_; refine (impl_LemkeSteps.calls _ _ l0_0 _ _ l0_1 _ _ l1 s0 s1 s2 _ ?s1 ?s2 ?s3 ?s4 ?s5 ?s6 H7'.out).mono ?_; (case s1 => exact U38.out.C0); (case s2 => exact U38.out.cap0); (case s3 => exact U38.out.C1); (case s4 => exact U38.out.cap1); (case s5 => exact UR.C U40_0.out); (case s6 => exact UR.cap U40_0.out); rintro e w10 ⟨v44_0, rfl, ho0, hb⟩; refine ⟨_, rfl, ?_⟩; have nu0 := Aside0.mk (US.of ho0 HB.out.size); have n_U30 := Aside0.mk (U30.out.mvB (Frm.below hb)); have n_U32_0 := Aside0.mk (U32_0.out.mvB (Frm.below hb)); have n_U33_0 := Aside0.mk (U33_0.out.mvB (Frm.below hb)); have n_U38 := Aside0.mk (U38.out.mvB (Frm.below hb)); have n_U40_0 := Aside0.mk (U40_0.out.mvB (Frm.below hb)); have n_Bg2 := Aside0.mk (blk_below Bg2.out hb); have n_Bg9 := Aside0.mk (blk_below Bg9.out hb); have n_HB := Aside0.mk (below_step HB.out hb); have NN10 : Aside0 (w9.heap.size ≤ w10.heap.size) := ⟨hb.size⟩; clear hc9_0 hf9_0; clear hc9_1 hf9_1; clear U30 U32_0 U33_0 U38 U40_0 Bg2 Bg9 HB; have U30 := n_U30; have U32_0 := n_U32_0; have U33_0 := n_U33_0; have U38 := n_U38; have U40_0 := n_U40_0; have Bg2 := n_Bg2; have Bg9 := n_Bg9; have HB := n_HB; clear n_U30 n_U32_0 n_U33_0 n_U38 n_U40_0 n_Bg2 n_Bg9 n_HB; clear hb ho0; have U44_0 := nu0; clear nu0; obtain ⟨A44_0, c44_0, e0⟩ := Kd.S_slice U44_0.out; subst e0) | ((with_reducible refine gate_callee (f := 19) rfl ?_); refine goesL_ (some 50) rfl rfl Try.func19 (by kernel_rfl) rfl #[.slice A44_0 s0.length c44_0, .slice A33_0 s0.length c33_0] rfl (by (try simp only [List.map_toArray, List.map_cons, List.map_nil]); first | done | rfl) ?_; refine (laws_eqInt64SS.calls k _ _ s0 _ _ s0 true _ ?s1 ?s2 ?s3 ?s4 H8'.out).mono ?_; (case s1 => exact US.C U44_0.out); (case s2 => exact US.cap U44_0.out); (case s3 => exact US.C U33_0.out); (case s4 => exact US.cap U33_0.out); rintro e w11 ⟨rfl, hb⟩; refine ⟨_, rfl, ?_⟩; have hb := hb.below; have n_U30 := Aside0.mk (U30.out.mvB (Frm.below hb)); have n_U32_0 := Aside0.mk (U32_0.out.mvB (Frm.below hb)); have n_U33_0 := Aside0.mk (U33_0.out.mvB (Frm.below hb)); have n_U38 := Aside0.mk (U38.out.mvB (Frm.below hb)); have n_U40_0 := Aside0.mk (U40_0.out.mvB (Frm.below hb)); have n_U44_0 := Aside0.mk (U44_0.out.mvB (Frm.below hb)); have n_Bg2 := Aside0.mk (blk_below Bg2.out hb); have n_Bg9 := Aside0.mk (blk_below Bg9.out hb); have n_HB := Aside0.mk (below_step HB.out hb); have NN11 : Aside0 (w10.heap.size ≤ w11.heap.size) := ⟨hb.size⟩; clear U30 U32_0 U33_0 U38 U40_0 U44_0 Bg2 Bg9 HB; have U30 := n_U30; have U32_0 := n_U32_0; have U33_0 := n_U33_0; have U38 := n_U38; have U40_0 := n_U40_0; have U44_0 := n_U44_0; have Bg2 := n_Bg2; have Bg9 := n_Bg9; have HB := n_HB; clear n_U30 n_U32_0 n_U33_0 n_U38 n_U40_0 n_U44_0 n_Bg2 n_Bg9 n_HB; clear hb))
 try go_wp2
 have hb : Below w11.heap.size w11 w11.drew := (Below.refl _ _).drew
 have n_U30 := Aside0.mk (U30.out.mvB (Frm.below hb))
 have n_U32_0 := Aside0.mk (U32_0.out.mvB (Frm.below hb))
 have n_U33_0 := Aside0.mk (U33_0.out.mvB (Frm.below hb))
 have n_U38 := Aside0.mk (U38.out.mvB (Frm.below hb))
 have n_U40_0 := Aside0.mk (U40_0.out.mvB (Frm.below hb))
 have n_U44_0 := Aside0.mk (U44_0.out.mvB (Frm.below hb))
 have n_Bg2 := Aside0.mk (blk_below Bg2.out hb)
 have n_Bg9 := Aside0.mk (blk_below Bg9.out hb)
 have n_HB := Aside0.mk (below_step HB.out hb)
 have NN12 : Aside0 (w11.heap.size ≤ w11.drew.heap.size) := ⟨hb.size⟩
 clear U30 U32_0 U33_0 U38 U40_0 U44_0 Bg2 Bg9 HB
 have U30 := n_U30
 have U32_0 := n_U32_0
 have U33_0 := n_U33_0
 have U38 := n_U38
 have U40_0 := n_U40_0
 have U44_0 := n_U44_0
 have Bg2 := n_Bg2
 have Bg9 := n_Bg9
 have HB := n_HB
 clear n_U30 n_U32_0 n_U33_0 n_U38 n_U40_0 n_U44_0 n_Bg2 n_Bg9 n_HB
 clear hb
 refine st_ (n := 5) (S := fun w' => w'.cell? ⟨g9, 0, none⟩ = some (.slice A38_0 l0_0.length c38_0) ∧ w'.cell? ⟨g9, 1, none⟩ = some (.slice A38_1 l0_1.length c38_1) ∧ w'.cell? ⟨g2, 0, none⟩ = some (.slice A0_0 l0_0.length c0_0) ∧ w'.cell? ⟨g2, 1, none⟩ = some (.slice A0_1 l0_1.length c0_1)) (ds := []) ⟨(blk_cell Bg9.out 0).trans rfl, (blk_cell Bg9.out 1).trans rfl, (blk_cell Bg2.out 0).trans rfl, (blk_cell Bg2.out 1).trans rfl⟩ (fun hHeld => ?_)
 generalize w11.drew = w12 at U30 U32_0 U33_0 U38 U40_0 U44_0 Bg2 Bg9 HB NN12 hHeld ⊢
 have hc2_0 : w12.cell? ⟨g2, 0, none⟩ = some (.slice A0_0 l0_0.length c0_0) := (blk_cell Bg2.out 0).trans rfl
 have hf2_0 := blk_frozen Bg2.out 0
 have hc2_1 : w12.cell? ⟨g2, 1, none⟩ = some (.slice A0_1 l0_1.length c0_1) := (blk_cell Bg2.out 1).trans rfl
 have hf2_1 := blk_frozen Bg2.out 1
 have hc9_0 : w12.cell? ⟨g9, 0, none⟩ = some (.slice A38_0 l0_0.length c38_0) := (blk_cell Bg9.out 0).trans rfl
 have hf9_0 := blk_frozen Bg9.out 0
 have hc9_1 : w12.cell? ⟨g9, 1, none⟩ = some (.slice A38_1 l0_1.length c38_1) := (blk_cell Bg9.out 1).trans rfl
 have hf9_1 := blk_frozen Bg9.out 1
 refine tk_ 0 62 ?_; refine tk_ 1 63 ?_
 refine on_ 2 (some 64) (fun K hK => ?_)
 refine goes_ Try.func17 (by kernel_rfl) rfl #[.agg #[.slice A0_0 l0_0.length c0_0, .slice A0_1 l0_1.length c0_1]] (by rfl) rfl rfl (by (try simp only [List.map_toArray, List.map_cons, List.map_nil]); first | done | rfl) ?_
 (refine (laws_toProblem.calls k _ _ l0_0 _ _ l0_1 l0_0 l0_1 _ ?s1 ?s2 ?s3 ?s4 H4'.out).mono ?_; (case s1 => exact Kd.C_below HR0_0.out HB.out); (case s2 => exact HC0_0.out); (case s3 => exact Kd.C_below HR0_1.out HB.out); (case s4 => exact HC0_1.out); rintro e w13 ⟨v64_0, v64_1, rfl, ho0, ho1, hb⟩; refine ⟨_, rfl, ?_⟩; have nu0 := Aside0.mk (UP.of ho0 ho1 HB.out.size); have n_U30 := Aside0.mk (U30.out.mvB (Frm.below hb)); have n_U32_0 := Aside0.mk (U32_0.out.mvB (Frm.below hb)); have n_U33_0 := Aside0.mk (U33_0.out.mvB (Frm.below hb)); have n_U38 := Aside0.mk (U38.out.mvB (Frm.below hb)); have n_U40_0 := Aside0.mk (U40_0.out.mvB (Frm.below hb)); have n_U44_0 := Aside0.mk (U44_0.out.mvB (Frm.below hb)); have n_Bg2 := Aside0.mk (blk_below Bg2.out hb); have n_Bg9 := Aside0.mk (blk_below Bg9.out hb); have n_HB := Aside0.mk (below_step HB.out hb); have NN13 : Aside0 (w12.heap.size ≤ w13.heap.size) := ⟨hb.size⟩; clear hc2_0 hf2_0; clear hc2_1 hf2_1; clear hc9_0 hf9_0; clear hc9_1 hf9_1; clear U30 U32_0 U33_0 U38 U40_0 U44_0 Bg2 Bg9 HB; have U30 := n_U30; have U32_0 := n_U32_0; have U33_0 := n_U33_0; have U38 := n_U38; have U40_0 := n_U40_0; have U44_0 := n_U44_0; have Bg2 := n_Bg2; have Bg9 := n_Bg9; have HB := n_HB; clear n_U30 n_U32_0 n_U33_0 n_U38 n_U40_0 n_U44_0 n_Bg2 n_Bg9 n_HB; clear hb ho0 ho1; have U64 := nu0; clear nu0; obtain ⟨A64_0, c64_0, A64_1, c64_1, e0, e1⟩ := U64.out.slices; subst e0; subst e1)
 refine hK.out _ _ ⟨(blk_cell Bg9.out 0).trans rfl, (blk_cell Bg9.out 1).trans rfl, (blk_cell Bg2.out 0).trans rfl, (blk_cell Bg2.out 1).trans rfl⟩ (fun hHeld => ?_)
 clear hK K
 refine norm_ (a' := ?_) ?_ ?_
 rotate_left
 ·show Act.put _ (some 64) _ = _
  simp only [Act.put, List.setIfInBounds_toArray, List.set_cons_zero, List.set_cons_succ, i64_w, i32_w]
  rfl
 refine on_ 3 (some 65) (fun K hK => ?_)
 refine goes_ Try.func20 (by kernel_rfl) rfl #[.agg #[.slice A38_0 l0_0.length c38_0, .slice A38_1 l0_1.length c38_1], .agg #[.slice A64_0 l0_0.length c64_0, .slice A64_1 l0_1.length c64_1]] (by rfl) rfl rfl (by (try simp only [List.map_toArray, List.map_cons, List.map_nil]); first | done | rfl) ?_
 (refine (laws_eqProblem.calls k _ _ l0_0 _ _ l0_1 _ _ l0_0 _ _ l0_1 true _ ?s1 ?s2 ?s3 ?s4 ?s5 ?s6 ?s7 ?s8 H9'.out).mono ?_; (case s1 => exact U38.out.C0); (case s2 => exact U38.out.cap0); (case s3 => exact U38.out.C1); (case s4 => exact U38.out.cap1); (case s5 => exact U64.out.C0); (case s6 => exact U64.out.cap0); (case s7 => exact U64.out.C1); (case s8 => exact U64.out.cap1); rintro e w14 ⟨rfl, hb⟩; refine ⟨_, rfl, ?_⟩; have n_U30 := Aside0.mk (U30.out.mvB (Frm.below hb)); have n_U32_0 := Aside0.mk (U32_0.out.mvB (Frm.below hb)); have n_U33_0 := Aside0.mk (U33_0.out.mvB (Frm.below hb)); have n_U38 := Aside0.mk (U38.out.mvB (Frm.below hb)); have n_U40_0 := Aside0.mk (U40_0.out.mvB (Frm.below hb)); have n_U44_0 := Aside0.mk (U44_0.out.mvB (Frm.below hb)); have n_U64 := Aside0.mk (U64.out.mvB (Frm.below hb)); have n_Bg2 := Aside0.mk (blk_below Bg2.out hb); have n_Bg9 := Aside0.mk (blk_below Bg9.out hb); have n_HB := Aside0.mk (below_step HB.out hb); have NN14 : Aside0 (w13.heap.size ≤ w14.heap.size) := ⟨hb.size⟩; clear U30 U32_0 U33_0 U38 U40_0 U44_0 U64 Bg2 Bg9 HB; have U30 := n_U30; have U32_0 := n_U32_0; have U33_0 := n_U33_0; have U38 := n_U38; have U40_0 := n_U40_0; have U44_0 := n_U44_0; have U64 := n_U64; have Bg2 := n_Bg2; have Bg9 := n_Bg9; have HB := n_HB; clear n_U30 n_U32_0 n_U33_0 n_U38 n_U40_0 n_U44_0 n_U64 n_Bg2 n_Bg9 n_HB; clear hb)
 refine hK.out _ _ ⟨(blk_cell Bg9.out 0).trans rfl, (blk_cell Bg9.out 1).trans rfl, (blk_cell Bg2.out 0).trans rfl, (blk_cell Bg2.out 1).trans rfl⟩ (fun hHeld => ?_)
 clear hK K
 refine norm_ (a' := ?_) ?_ ?_
 rotate_left
 ·show Act.put _ (some 65) _ = _
  simp only [Act.put, List.setIfInBounds_toArray, List.set_cons_zero, List.set_cons_succ, i64_w, i32_w]
  rfl
 refine pu_ 4 66 ?_
 refine done_ (by kernel_rfl) ?_
 go_wp2_with (first | ((with_reducible refine gate_callee (f := 44) rfl ?_); refine goesL_ (some 69) rfl rfl Try.func44 (by kernel_rfl) rfl #[.slice A1 l1.length c1] rfl (by (try simp only [List.map_toArray, List.map_cons, List.map_nil]); first | done | rfl) ?_; refine (laws_toInt64S.calls k _ _ l1 l1 _ ?s1 ?s2 H5'.out).mono ?_; (case s1 => exact Kd.C_below HR1.out HB.out); (case s2 => exact HC1.out); rintro e w15 ⟨v69_0, rfl, ho0, hb⟩; refine ⟨_, rfl, ?_⟩; have nu0 := Aside0.mk (UR.of ho0 HB.out.size); have n_U30 := Aside0.mk (U30.out.mvB (Frm.below hb)); have n_U32_0 := Aside0.mk (U32_0.out.mvB (Frm.below hb)); have n_U33_0 := Aside0.mk (U33_0.out.mvB (Frm.below hb)); have n_U38 := Aside0.mk (U38.out.mvB (Frm.below hb)); have n_U40_0 := Aside0.mk (U40_0.out.mvB (Frm.below hb)); have n_U44_0 := Aside0.mk (U44_0.out.mvB (Frm.below hb)); have n_U64 := Aside0.mk (U64.out.mvB (Frm.below hb)); have n_Bg2 := Aside0.mk (blk_below Bg2.out hb); have n_Bg9 := Aside0.mk (blk_below Bg9.out hb); have n_HB := Aside0.mk (below_step HB.out hb); have NN15 : Aside0 (w14.heap.size ≤ w15.heap.size) := ⟨hb.size⟩; clear U30 U32_0 U33_0 U38 U40_0 U44_0 U64 Bg2 Bg9 HB; have U30 := n_U30; have U32_0 := n_U32_0; have U33_0 := n_U33_0; have U38 := n_U38; have U40_0 := n_U40_0; have U44_0 := n_U44_0; have U64 := n_U64; have Bg2 := n_Bg2; have Bg9 := n_Bg9; have HB := n_HB; clear n_U30 n_U32_0 n_U33_0 n_U38 n_U40_0 n_U44_0 n_U64 n_Bg2 n_Bg9 n_HB; clear hb ho0; have U69_0 := nu0; clear nu0; obtain ⟨A69_0, c69_0, e0⟩ := Kd.R_slice U69_0.out; subst e0) | ((with_reducible refine gate_callee (f := 35) rfl ?_); refine goesL_ (some 70) rfl rfl Try.func35 (by kernel_rfl) rfl #[.slice A40_0 l1.length c40_0, .slice A69_0 l1.length c69_0] rfl (by (try simp only [List.map_toArray, List.map_cons, List.map_nil]); first | done | rfl) ?_; refine (laws_eqInt64S.calls k _ _ l1 _ _ l1 true _ ?s1 ?s2 ?s3 ?s4 H10'.out).mono ?_; (case s1 => exact UR.C U40_0.out); (case s2 => exact UR.cap U40_0.out); (case s3 => exact UR.C U69_0.out); (case s4 => exact UR.cap U69_0.out); rintro e w16 ⟨rfl, hb⟩; refine ⟨_, rfl, ?_⟩; have hb := hb.below; have n_U30 := Aside0.mk (U30.out.mvB (Frm.below hb)); have n_U32_0 := Aside0.mk (U32_0.out.mvB (Frm.below hb)); have n_U33_0 := Aside0.mk (U33_0.out.mvB (Frm.below hb)); have n_U38 := Aside0.mk (U38.out.mvB (Frm.below hb)); have n_U40_0 := Aside0.mk (U40_0.out.mvB (Frm.below hb)); have n_U44_0 := Aside0.mk (U44_0.out.mvB (Frm.below hb)); have n_U64 := Aside0.mk (U64.out.mvB (Frm.below hb)); have n_U69_0 := Aside0.mk (U69_0.out.mvB (Frm.below hb)); have n_Bg2 := Aside0.mk (blk_below Bg2.out hb); have n_Bg9 := Aside0.mk (blk_below Bg9.out hb); have n_HB := Aside0.mk (below_step HB.out hb); have NN16 : Aside0 (w15.heap.size ≤ w16.heap.size) := ⟨hb.size⟩; clear U30 U32_0 U33_0 U38 U40_0 U44_0 U64 U69_0 Bg2 Bg9 HB; have U30 := n_U30; have U32_0 := n_U32_0; have U33_0 := n_U33_0; have U38 := n_U38; have U40_0 := n_U40_0; have U44_0 := n_U44_0; have U64 := n_U64; have U69_0 := n_U69_0; have Bg2 := n_Bg2; have Bg9 := n_Bg9; have HB := n_HB; clear n_U30 n_U32_0 n_U33_0 n_U38 n_U40_0 n_U44_0 n_U64 n_U69_0 n_Bg2 n_Bg9 n_HB; clear hb; have hc9_0 : w16.cell? ⟨g9, 0, none⟩ = some (.slice A38_0 l0_0.length c38_0) := (blk_cell Bg9.out 0).trans rfl; have hf9_0 := blk_frozen Bg9.out 0; have hc9_1 : w16.cell? ⟨g9, 1, none⟩ = some (.slice A38_1 l0_1.length c38_1) := (blk_cell Bg9.out 1).trans rfl; have hf9_1 := blk_frozen Bg9.out 1) | ((with_reducible refine gate_callee (f := 21) rfl ?_); refine goesL_ (some 74) rfl rfl Try.func21 (by kernel_rfl) rfl #[.agg #[.slice A38_0 l0_0.length c38_0, .slice A38_1 l0_1.length c38_1], .int .i64 1] rfl (by (try simp only [List.map_toArray, List.map_cons, List.map_nil]); first | done | rfl) ?_; refine (mark_UP A38_0 c38_0 A38_1 c38_1 l0_0 l0_1 1 m1 HB.out U38.out (by decide) H12'.out H13'.out H11'.out (by have := NN1.out; have := Gg2.out; have := Kg2.out; have := NN2.out; have := NN3.out; have := NN4.out; have := NN5.out; have := NN6.out; have := NN7.out; have := Gg9.out; have := Kg9.out; have := NN8.out; have := NN9.out; have := NN10.out; have := NN11.out; have := NN12.out; have := NN13.out; have := NN14.out; have := NN15.out; have := NN16.out; omega)).mono ?_; rintro e w17 ⟨rfl, hU, hB', hF⟩; refine ⟨_, rfl, ?_⟩; have nu := Aside0.mk hU; have n_U30 := Aside0.mk (U30.out.mv hF (by have := NN1.out; have := Gg2.out; have := Kg2.out; have := NN2.out; have := NN3.out; have := NN4.out; have := NN5.out; have := NN6.out; have := NN7.out; have := Gg9.out; have := Kg9.out; have := NN8.out; have := NN9.out; have := NN10.out; have := NN11.out; have := NN12.out; have := NN13.out; have := NN14.out; have := NN15.out; have := NN16.out; omega)); have n_U32_0 := Aside0.mk (U32_0.out.mv hF (by have := NN1.out; have := Gg2.out; have := Kg2.out; have := NN2.out; have := NN3.out; have := NN4.out; have := NN5.out; have := NN6.out; have := NN7.out; have := Gg9.out; have := Kg9.out; have := NN8.out; have := NN9.out; have := NN10.out; have := NN11.out; have := NN12.out; have := NN13.out; have := NN14.out; have := NN15.out; have := NN16.out; omega)); have n_U33_0 := Aside0.mk (U33_0.out.mv hF (by have := NN1.out; have := Gg2.out; have := Kg2.out; have := NN2.out; have := NN3.out; have := NN4.out; have := NN5.out; have := NN6.out; have := NN7.out; have := Gg9.out; have := Kg9.out; have := NN8.out; have := NN9.out; have := NN10.out; have := NN11.out; have := NN12.out; have := NN13.out; have := NN14.out; have := NN15.out; have := NN16.out; omega)); have n_U40_0 := Aside0.mk (U40_0.out.mv hF (by have := NN1.out; have := Gg2.out; have := Kg2.out; have := NN2.out; have := NN3.out; have := NN4.out; have := NN5.out; have := NN6.out; have := NN7.out; have := Gg9.out; have := Kg9.out; have := NN8.out; have := NN9.out; have := NN10.out; have := NN11.out; have := NN12.out; have := NN13.out; have := NN14.out; have := NN15.out; have := NN16.out; omega)); have n_U44_0 := Aside0.mk (U44_0.out.mv hF (by have := NN1.out; have := Gg2.out; have := Kg2.out; have := NN2.out; have := NN3.out; have := NN4.out; have := NN5.out; have := NN6.out; have := NN7.out; have := Gg9.out; have := Kg9.out; have := NN8.out; have := NN9.out; have := NN10.out; have := NN11.out; have := NN12.out; have := NN13.out; have := NN14.out; have := NN15.out; have := NN16.out; omega)); have n_U64 := Aside0.mk (U64.out.mv hF (by have := NN1.out; have := Gg2.out; have := Kg2.out; have := NN2.out; have := NN3.out; have := NN4.out; have := NN5.out; have := NN6.out; have := NN7.out; have := Gg9.out; have := Kg9.out; have := NN8.out; have := NN9.out; have := NN10.out; have := NN11.out; have := NN12.out; have := NN13.out; have := NN14.out; have := NN15.out; have := NN16.out; omega)); have n_U69_0 := Aside0.mk (U69_0.out.mv hF (by have := NN1.out; have := Gg2.out; have := Kg2.out; have := NN2.out; have := NN3.out; have := NN4.out; have := NN5.out; have := NN6.out; have := NN7.out; have := Gg9.out; have := Kg9.out; have := NN8.out; have := NN9.out; have := NN10.out; have := NN11.out; have := NN12.out; have := NN13.out; have := NN14.out; have := NN15.out; have := NN16.out; omega)); have n_Bg2 := Aside0.mk ((hF.same g2 (blk_lt Bg2.out) (by have := NN1.out; have := Gg2.out; have := Kg2.out; have := NN2.out; have := NN3.out; have := NN4.out; have := NN5.out; have := NN6.out; have := NN7.out; have := Gg9.out; have := Kg9.out; have := NN8.out; have := NN9.out; have := NN10.out; have := NN11.out; have := NN12.out; have := NN13.out; have := NN14.out; have := NN15.out; have := NN16.out; omega)).trans Bg2.out); have n_Bg9 := Aside0.mk ((hF.same g9 (blk_lt Bg9.out) (by have := NN1.out; have := Gg2.out; have := Kg2.out; have := NN2.out; have := NN3.out; have := NN4.out; have := NN5.out; have := NN6.out; have := NN7.out; have := Gg9.out; have := Kg9.out; have := NN8.out; have := NN9.out; have := NN10.out; have := NN11.out; have := NN12.out; have := NN13.out; have := NN14.out; have := NN15.out; have := NN16.out; omega)).trans Bg9.out); have n_HB := Aside0.mk (hB'); have NN17 : Aside0 (w16.heap.size ≤ w17.heap.size) := ⟨hF.size⟩; clear hc9_0 hf9_0; clear hc9_1 hf9_1; clear U30 U32_0 U33_0 U40_0 U44_0 U64 U69_0 Bg2 Bg9 HB; have U30 := n_U30; have U32_0 := n_U32_0; have U33_0 := n_U33_0; have U40_0 := n_U40_0; have U44_0 := n_U44_0; have U64 := n_U64; have U69_0 := n_U69_0; have Bg2 := n_Bg2; have Bg9 := n_Bg9; have HB := n_HB; clear n_U30 n_U32_0 n_U33_0 n_U40_0 n_U44_0 n_U64 n_U69_0 n_Bg2 n_Bg9 n_HB; clear U38; have U38 := nu; clear nu hU hB' hF) | ((with_reducible refine gate_callee (f := 36) rfl ?_); refine goesL_ (some 77) rfl rfl Try.func36 (by kernel_rfl) rfl #[.slice A40_0 l1.length c40_0, .int .i64 m1] rfl (by (try simp only [List.map_toArray, List.map_cons, List.map_nil]); first | done | rfl) ?_; refine (mark_UR A40_0 c40_0 l1 _ m1 m2 HB.out U40_0.out H15'.out H17'.out H16'.out).mono ?_; rintro e w18 ⟨rfl, hU, hB', hF⟩; refine ⟨_, rfl, ?_⟩; have nu := Aside0.mk hU; have n_U30 := Aside0.mk (U30.out.mv hF (by have := NN1.out; have := Gg2.out; have := Kg2.out; have := NN2.out; have := NN3.out; have := NN4.out; have := NN5.out; have := NN6.out; have := NN7.out; have := Gg9.out; have := Kg9.out; have := NN8.out; have := NN9.out; have := NN10.out; have := NN11.out; have := NN12.out; have := NN13.out; have := NN14.out; have := NN15.out; have := NN16.out; have := NN17.out; omega)); have n_U32_0 := Aside0.mk (U32_0.out.mv hF (by have := NN1.out; have := Gg2.out; have := Kg2.out; have := NN2.out; have := NN3.out; have := NN4.out; have := NN5.out; have := NN6.out; have := NN7.out; have := Gg9.out; have := Kg9.out; have := NN8.out; have := NN9.out; have := NN10.out; have := NN11.out; have := NN12.out; have := NN13.out; have := NN14.out; have := NN15.out; have := NN16.out; have := NN17.out; omega)); have n_U33_0 := Aside0.mk (U33_0.out.mv hF (by have := NN1.out; have := Gg2.out; have := Kg2.out; have := NN2.out; have := NN3.out; have := NN4.out; have := NN5.out; have := NN6.out; have := NN7.out; have := Gg9.out; have := Kg9.out; have := NN8.out; have := NN9.out; have := NN10.out; have := NN11.out; have := NN12.out; have := NN13.out; have := NN14.out; have := NN15.out; have := NN16.out; have := NN17.out; omega)); have n_U38 := Aside0.mk (U38.out.mv hF (by have := NN1.out; have := Gg2.out; have := Kg2.out; have := NN2.out; have := NN3.out; have := NN4.out; have := NN5.out; have := NN6.out; have := NN7.out; have := Gg9.out; have := Kg9.out; have := NN8.out; have := NN9.out; have := NN10.out; have := NN11.out; have := NN12.out; have := NN13.out; have := NN14.out; have := NN15.out; have := NN16.out; have := NN17.out; omega)); have n_U44_0 := Aside0.mk (U44_0.out.mv hF (by have := NN1.out; have := Gg2.out; have := Kg2.out; have := NN2.out; have := NN3.out; have := NN4.out; have := NN5.out; have := NN6.out; have := NN7.out; have := Gg9.out; have := Kg9.out; have := NN8.out; have := NN9.out; have := NN10.out; have := NN11.out; have := NN12.out; have := NN13.out; have := NN14.out; have := NN15.out; have := NN16.out; have := NN17.out; omega)); have n_U64 := Aside0.mk (U64.out.mv hF (by have := NN1.out; have := Gg2.out; have := Kg2.out; have := NN2.out; have := NN3.out; have := NN4.out; have := NN5.out; have := NN6.out; have := NN7.out; have := Gg9.out; have := Kg9.out; have := NN8.out; have := NN9.out; have := NN10.out; have := NN11.out; have := NN12.out; have := NN13.out; have := NN14.out; have := NN15.out; have := NN16.out; have := NN17.out; omega)); have n_U69_0 := Aside0.mk (U69_0.out.mv hF (by have := NN1.out; have := Gg2.out; have := Kg2.out; have := NN2.out; have := NN3.out; have := NN4.out; have := NN5.out; have := NN6.out; have := NN7.out; have := Gg9.out; have := Kg9.out; have := NN8.out; have := NN9.out; have := NN10.out; have := NN11.out; have := NN12.out; have := NN13.out; have := NN14.out; have := NN15.out; have := NN16.out; have := NN17.out; omega)); have n_Bg2 := Aside0.mk ((hF.same g2 (blk_lt Bg2.out) (by have := NN1.out; have := Gg2.out; have := Kg2.out; have := NN2.out; have := NN3.out; have := NN4.out; have := NN5.out; have := NN6.out; have := NN7.out; have := Gg9.out; have := Kg9.out; have := NN8.out; have := NN9.out; have := NN10.out; have := NN11.out; have := NN12.out; have := NN13.out; have := NN14.out; have := NN15.out; have := NN16.out; have := NN17.out; omega)).trans Bg2.out); have n_Bg9 := Aside0.mk ((hF.same g9 (blk_lt Bg9.out) (by have := NN1.out; have := Gg2.out; have := Kg2.out; have := NN2.out; have := NN3.out; have := NN4.out; have := NN5.out; have := NN6.out; have := NN7.out; have := Gg9.out; have := Kg9.out; have := NN8.out; have := NN9.out; have := NN10.out; have := NN11.out; have := NN12.out; have := NN13.out; have := NN14.out; have := NN15.out; have := NN16.out; have := NN17.out; omega)).trans Bg9.out); have n_HB := Aside0.mk (hB'); have NN18 : Aside0 (w17.heap.size ≤ w18.heap.size) := ⟨hF.size⟩; clear U30 U32_0 U33_0 U38 U44_0 U64 U69_0 Bg2 Bg9 HB; have U30 := n_U30; have U32_0 := n_U32_0; have U33_0 := n_U33_0; have U38 := n_U38; have U44_0 := n_U44_0; have U64 := n_U64; have U69_0 := n_U69_0; have Bg2 := n_Bg2; have Bg9 := n_Bg9; have HB := n_HB; clear n_U30 n_U32_0 n_U33_0 n_U38 n_U44_0 n_U64 n_U69_0 n_Bg2 n_Bg9 n_HB; clear U40_0; have U40_0 := nu; clear nu hU hB' hF) | (go_at_call 19; refine (laws_eqInt64SS.calls k _ _ s0 _ _ s0 true _ ?s1 ?s2 ?s3 ?s4 H8'.out).mono ?_; (case s1 => exact US.C U44_0.out); (case s2 => exact US.cap U44_0.out); (case s3 => exact US.C U33_0.out); (case s4 => exact US.cap U33_0.out); rintro e w19 ⟨rfl, hb⟩; have hb := hb.below; have n_U30 := Aside0.mk (U30.out.mvB (Frm.below hb)); have n_U32_0 := Aside0.mk (U32_0.out.mvB (Frm.below hb)); have n_U33_0 := Aside0.mk (U33_0.out.mvB (Frm.below hb)); have n_U38 := Aside0.mk (U38.out.mvB (Frm.below hb)); have n_U40_0 := Aside0.mk (U40_0.out.mvB (Frm.below hb)); have n_U44_0 := Aside0.mk (U44_0.out.mvB (Frm.below hb)); have n_U64 := Aside0.mk (U64.out.mvB (Frm.below hb)); have n_U69_0 := Aside0.mk (U69_0.out.mvB (Frm.below hb)); have n_Bg2 := Aside0.mk (blk_below Bg2.out hb); have n_Bg9 := Aside0.mk (blk_below Bg9.out hb); have n_HB := Aside0.mk (below_step HB.out hb); have NN19 : Aside0 (w18.heap.size ≤ w19.heap.size) := ⟨hb.size⟩; clear U30 U32_0 U33_0 U38 U40_0 U44_0 U64 U69_0 Bg2 Bg9 HB; have U30 := n_U30; have U32_0 := n_U32_0; have U33_0 := n_U33_0; have U38 := n_U38; have U40_0 := n_U40_0; have U44_0 := n_U44_0; have U64 := n_U64; have U69_0 := n_U69_0; have Bg2 := n_Bg2; have Bg9 := n_Bg9; have HB := n_HB; clear n_U30 n_U32_0 n_U33_0 n_U38 n_U40_0 n_U44_0 n_U64 n_U69_0 n_Bg2 n_Bg9 n_HB; clear hb) | ((with_reducible refine gate_callee (f := 22) rfl ?_); refine goesL_ (some 98) rfl rfl Try.func22 (by kernel_rfl) rfl #[.slice A44_0 s0.length c44_0, .int .i64 1] rfl (by (try simp only [List.map_toArray, List.map_cons, List.map_nil]); first | done | rfl) ?_; refine (mark_US _ s0 1 m3 HB.out U44_0.out (by decide) H20'.out H21'.out H19'.out).mono ?_; rintro e w20 ⟨rfl, hU, hB', hF⟩; refine ⟨_, rfl, ?_⟩; have nu := Aside0.mk hU; have n_U30 := Aside0.mk (U30.out.mv hF (by have := NN1.out; have := Gg2.out; have := Kg2.out; have := NN2.out; have := NN3.out; have := NN4.out; have := NN5.out; have := NN6.out; have := NN7.out; have := Gg9.out; have := Kg9.out; have := NN8.out; have := NN9.out; have := NN10.out; have := NN11.out; have := NN12.out; have := NN13.out; have := NN14.out; have := NN15.out; have := NN16.out; have := NN17.out; have := NN18.out; have := NN19.out; omega)); have n_U32_0 := Aside0.mk (U32_0.out.mv hF (by have := NN1.out; have := Gg2.out; have := Kg2.out; have := NN2.out; have := NN3.out; have := NN4.out; have := NN5.out; have := NN6.out; have := NN7.out; have := Gg9.out; have := Kg9.out; have := NN8.out; have := NN9.out; have := NN10.out; have := NN11.out; have := NN12.out; have := NN13.out; have := NN14.out; have := NN15.out; have := NN16.out; have := NN17.out; have := NN18.out; have := NN19.out; omega)); have n_U33_0 := Aside0.mk (U33_0.out.mv hF (by have := NN1.out; have := Gg2.out; have := Kg2.out; have := NN2.out; have := NN3.out; have := NN4.out; have := NN5.out; have := NN6.out; have := NN7.out; have := Gg9.out; have := Kg9.out; have := NN8.out; have := NN9.out; have := NN10.out; have := NN11.out; have := NN12.out; have := NN13.out; have := NN14.out; have := NN15.out; have := NN16.out; have := NN17.out; have := NN18.out; have := NN19.out; omega)); have n_U38 := Aside0.mk (U38.out.mv hF (by have := NN1.out; have := Gg2.out; have := Kg2.out; have := NN2.out; have := NN3.out; have := NN4.out; have := NN5.out; have := NN6.out; have := NN7.out; have := Gg9.out; have := Kg9.out; have := NN8.out; have := NN9.out; have := NN10.out; have := NN11.out; have := NN12.out; have := NN13.out; have := NN14.out; have := NN15.out; have := NN16.out; have := NN17.out; have := NN18.out; have := NN19.out; omega)); have n_U40_0 := Aside0.mk (U40_0.out.mv hF (by have := NN1.out; have := Gg2.out; have := Kg2.out; have := NN2.out; have := NN3.out; have := NN4.out; have := NN5.out; have := NN6.out; have := NN7.out; have := Gg9.out; have := Kg9.out; have := NN8.out; have := NN9.out; have := NN10.out; have := NN11.out; have := NN12.out; have := NN13.out; have := NN14.out; have := NN15.out; have := NN16.out; have := NN17.out; have := NN18.out; have := NN19.out; omega)); have n_U64 := Aside0.mk (U64.out.mv hF (by have := NN1.out; have := Gg2.out; have := Kg2.out; have := NN2.out; have := NN3.out; have := NN4.out; have := NN5.out; have := NN6.out; have := NN7.out; have := Gg9.out; have := Kg9.out; have := NN8.out; have := NN9.out; have := NN10.out; have := NN11.out; have := NN12.out; have := NN13.out; have := NN14.out; have := NN15.out; have := NN16.out; have := NN17.out; have := NN18.out; have := NN19.out; omega)); have n_U69_0 := Aside0.mk (U69_0.out.mv hF (by have := NN1.out; have := Gg2.out; have := Kg2.out; have := NN2.out; have := NN3.out; have := NN4.out; have := NN5.out; have := NN6.out; have := NN7.out; have := Gg9.out; have := Kg9.out; have := NN8.out; have := NN9.out; have := NN10.out; have := NN11.out; have := NN12.out; have := NN13.out; have := NN14.out; have := NN15.out; have := NN16.out; have := NN17.out; have := NN18.out; have := NN19.out; omega)); have n_Bg2 := Aside0.mk ((hF.same g2 (blk_lt Bg2.out) (by have := NN1.out; have := Gg2.out; have := Kg2.out; have := NN2.out; have := NN3.out; have := NN4.out; have := NN5.out; have := NN6.out; have := NN7.out; have := Gg9.out; have := Kg9.out; have := NN8.out; have := NN9.out; have := NN10.out; have := NN11.out; have := NN12.out; have := NN13.out; have := NN14.out; have := NN15.out; have := NN16.out; have := NN17.out; have := NN18.out; have := NN19.out; omega)).trans Bg2.out); have n_Bg9 := Aside0.mk ((hF.same g9 (blk_lt Bg9.out) (by have := NN1.out; have := Gg2.out; have := Kg2.out; have := NN2.out; have := NN3.out; have := NN4.out; have := NN5.out; have := NN6.out; have := NN7.out; have := Gg9.out; have := Kg9.out; have := NN8.out; have := NN9.out; have := NN10.out; have := NN11.out; have := NN12.out; have := NN13.out; have := NN14.out; have := NN15.out; have := NN16.out; have := NN17.out; have := NN18.out; have := NN19.out; omega)).trans Bg9.out); have n_HB := Aside0.mk (hB'); have NN20 : Aside0 (w19.heap.size ≤ w20.heap.size) := ⟨hF.size⟩; clear U30 U32_0 U33_0 U38 U40_0 U64 U69_0 Bg2 Bg9 HB; have U30 := n_U30; have U32_0 := n_U32_0; have U33_0 := n_U33_0; have U38 := n_U38; have U40_0 := n_U40_0; have U64 := n_U64; have U69_0 := n_U69_0; have Bg2 := n_Bg2; have Bg9 := n_Bg9; have HB := n_HB; clear n_U30 n_U32_0 n_U33_0 n_U38 n_U40_0 n_U64 n_U69_0 n_Bg2 n_Bg9 n_HB; clear U44_0; have U44_0 := nu; clear nu hU hB' hF) | ((with_reducible refine gate_callee (f := 23) rfl ?_); refine goesL_ (some 101) rfl rfl Try.func23 (by kernel_rfl) rfl #[.slice A44_0 s0.length c44_0, .int .i64 1] rfl (by (try simp only [List.map_toArray, List.map_cons, List.map_nil]); first | done | rfl) ?_; have hcall := laws_heldInt64SS.calls k _ _ ((marks s0 1)) 1 m3 _ (US.C U44_0.out) (US.cap U44_0.out) H23'.out; simp only [marks_length, count_length] at hcall; refine hcall.mono ?_; clear hcall; rintro e w21 ⟨rfl, hb⟩; refine ⟨_, rfl, ?_⟩; have hb := hb.below; have n_U30 := Aside0.mk (U30.out.mvB (Frm.below hb)); have n_U32_0 := Aside0.mk (U32_0.out.mvB (Frm.below hb)); have n_U33_0 := Aside0.mk (U33_0.out.mvB (Frm.below hb)); have n_U38 := Aside0.mk (U38.out.mvB (Frm.below hb)); have n_U40_0 := Aside0.mk (U40_0.out.mvB (Frm.below hb)); have n_U44_0 := Aside0.mk (U44_0.out.mvB (Frm.below hb)); have n_U64 := Aside0.mk (U64.out.mvB (Frm.below hb)); have n_U69_0 := Aside0.mk (U69_0.out.mvB (Frm.below hb)); have n_Bg2 := Aside0.mk (blk_below Bg2.out hb); have n_Bg9 := Aside0.mk (blk_below Bg9.out hb); have n_HB := Aside0.mk (below_step HB.out hb); have NN21 : Aside0 (w20.heap.size ≤ w21.heap.size) := ⟨hb.size⟩; clear U30 U32_0 U33_0 U38 U40_0 U44_0 U64 U69_0 Bg2 Bg9 HB; have U30 := n_U30; have U32_0 := n_U32_0; have U33_0 := n_U33_0; have U38 := n_U38; have U40_0 := n_U40_0; have U44_0 := n_U44_0; have U64 := n_U64; have U69_0 := n_U69_0; have Bg2 := n_Bg2; have Bg9 := n_Bg9; have HB := n_HB; clear n_U30 n_U32_0 n_U33_0 n_U38 n_U40_0 n_U44_0 n_U64 n_U69_0 n_Bg2 n_Bg9 n_HB; clear hb; have hc2_0 : w21.cell? ⟨g2, 0, none⟩ = some (.slice A0_0 l0_0.length c0_0) := (blk_cell Bg2.out 0).trans rfl; have hf2_0 := blk_frozen Bg2.out 0; have hc2_1 : w21.cell? ⟨g2, 1, none⟩ = some (.slice A0_1 l0_1.length c0_1) := (blk_cell Bg2.out 1).trans rfl; have hf2_1 := blk_frozen Bg2.out 1) | ((with_reducible refine gate_callee (f := 17) rfl ?_); refine goesL_ (some 109) rfl rfl Try.func17 (by kernel_rfl) rfl #[.agg #[.slice A0_0 l0_0.length c0_0, .slice A0_1 l0_1.length c0_1]] rfl (by (try simp only [List.map_toArray, List.map_cons, List.map_nil]); first | done | rfl) ?_; refine (laws_toProblem.calls k _ _ l0_0 _ _ l0_1 l0_0 l0_1 _ ?s1 ?s2 ?s3 ?s4 H4'.out).mono ?_; (case s1 => exact Kd.C_below HR0_0.out HB.out); (case s2 => exact HC0_0.out); (case s3 => exact Kd.C_below HR0_1.out HB.out); (case s4 => exact HC0_1.out); rintro e w22 ⟨v109_0, v109_1, rfl, ho0, ho1, hb⟩; refine ⟨_, rfl, ?_⟩; have nu0 := Aside0.mk (UP.of ho0 ho1 HB.out.size); have n_U30 := Aside0.mk (U30.out.mvB (Frm.below hb)); have n_U32_0 := Aside0.mk (U32_0.out.mvB (Frm.below hb)); have n_U33_0 := Aside0.mk (U33_0.out.mvB (Frm.below hb)); have n_U38 := Aside0.mk (U38.out.mvB (Frm.below hb)); have n_U40_0 := Aside0.mk (U40_0.out.mvB (Frm.below hb)); have n_U44_0 := Aside0.mk (U44_0.out.mvB (Frm.below hb)); have n_U64 := Aside0.mk (U64.out.mvB (Frm.below hb)); have n_U69_0 := Aside0.mk (U69_0.out.mvB (Frm.below hb)); have n_Bg2 := Aside0.mk (blk_below Bg2.out hb); have n_Bg9 := Aside0.mk (blk_below Bg9.out hb); have n_HB := Aside0.mk (below_step HB.out hb); have NN22 : Aside0 (w21.heap.size ≤ w22.heap.size) := ⟨hb.size⟩; clear hc2_0 hf2_0; clear hc2_1 hf2_1; clear U30 U32_0 U33_0 U38 U40_0 U44_0 U64 U69_0 Bg2 Bg9 HB; have U30 := n_U30; have U32_0 := n_U32_0; have U33_0 := n_U33_0; have U38 := n_U38; have U40_0 := n_U40_0; have U44_0 := n_U44_0; have U64 := n_U64; have U69_0 := n_U69_0; have Bg2 := n_Bg2; have Bg9 := n_Bg9; have HB := n_HB; clear n_U30 n_U32_0 n_U33_0 n_U38 n_U40_0 n_U44_0 n_U64 n_U69_0 n_Bg2 n_Bg9 n_HB; clear hb ho0 ho1; have U109 := nu0; clear nu0; obtain ⟨A109_0, c109_0, A109_1, c109_1, e0, e1⟩ := U109.out.slices; subst e0; subst e1) | ((with_reducible refine gate_callee (f := 44) rfl ?_); refine goesL_ (some 111) rfl rfl Try.func44 (by kernel_rfl) rfl #[.slice A1 l1.length c1] rfl (by (try simp only [List.map_toArray, List.map_cons, List.map_nil]); first | done | rfl) ?_; refine (laws_toInt64S.calls k _ _ l1 l1 _ ?s1 ?s2 H5'.out).mono ?_; (case s1 => exact Kd.C_below HR1.out HB.out); (case s2 => exact HC1.out); rintro e w23 ⟨v111_0, rfl, ho0, hb⟩; refine ⟨_, rfl, ?_⟩; have nu0 := Aside0.mk (UR.of ho0 HB.out.size); have n_U30 := Aside0.mk (U30.out.mvB (Frm.below hb)); have n_U32_0 := Aside0.mk (U32_0.out.mvB (Frm.below hb)); have n_U33_0 := Aside0.mk (U33_0.out.mvB (Frm.below hb)); have n_U38 := Aside0.mk (U38.out.mvB (Frm.below hb)); have n_U40_0 := Aside0.mk (U40_0.out.mvB (Frm.below hb)); have n_U44_0 := Aside0.mk (U44_0.out.mvB (Frm.below hb)); have n_U64 := Aside0.mk (U64.out.mvB (Frm.below hb)); have n_U69_0 := Aside0.mk (U69_0.out.mvB (Frm.below hb)); have n_U109 := Aside0.mk (U109.out.mvB (Frm.below hb)); have n_Bg2 := Aside0.mk (blk_below Bg2.out hb); have n_Bg9 := Aside0.mk (blk_below Bg9.out hb); have n_HB := Aside0.mk (below_step HB.out hb); have NN23 : Aside0 (w22.heap.size ≤ w23.heap.size) := ⟨hb.size⟩; clear U30 U32_0 U33_0 U38 U40_0 U44_0 U64 U69_0 U109 Bg2 Bg9 HB; have U30 := n_U30; have U32_0 := n_U32_0; have U33_0 := n_U33_0; have U38 := n_U38; have U40_0 := n_U40_0; have U44_0 := n_U44_0; have U64 := n_U64; have U69_0 := n_U69_0; have U109 := n_U109; have Bg2 := n_Bg2; have Bg9 := n_Bg9; have HB := n_HB; clear n_U30 n_U32_0 n_U33_0 n_U38 n_U40_0 n_U44_0 n_U64 n_U69_0 n_U109 n_Bg2 n_Bg9 n_HB; clear hb ho0; have U111_0 := nu0; clear nu0; obtain ⟨A111_0, c111_0, e0⟩ := Kd.R_slice U111_0.out; subst e0) | ((with_reducible refine gate_callee (f := 45) rfl ?_); refine goesL_ (some 112) rfl rfl Try.func45 (by kernel_rfl) rfl #[.agg #[.slice A109_0 l0_0.length c109_0, .slice A109_1 l0_1.length c109_1], .slice A111_0 l1.length c111_0] rfl (by (try simp only [List.map_toArray, List.map_cons, List.map_nil]); first | done | rfl) ?_; refine (impl_LemkeSteps.calls _ _ l0_0 _ _ l0_1 _ _ l1 s0 s1 s2 _ ?s1 ?s2 ?s3 ?s4 ?s5 ?s6 H7'.out).mono ?_; (case s1 => exact U109.out.C0); (case s2 => exact U109.out.cap0); (case s3 => exact U109.out.C1); (case s4 => exact U109.out.cap1); (case s5 => exact UR.C U111_0.out); (case s6 => exact UR.cap U111_0.out); rintro e w24 ⟨v112_0, rfl, ho0, hb⟩; refine ⟨_, rfl, ?_⟩; have nu0 := Aside0.mk (US.of ho0 HB.out.size); have n_U30 := Aside0.mk (U30.out.mvB (Frm.below hb)); have n_U32_0 := Aside0.mk (U32_0.out.mvB (Frm.below hb)); have n_U33_0 := Aside0.mk (U33_0.out.mvB (Frm.below hb)); have n_U38 := Aside0.mk (U38.out.mvB (Frm.below hb)); have n_U40_0 := Aside0.mk (U40_0.out.mvB (Frm.below hb)); have n_U44_0 := Aside0.mk (U44_0.out.mvB (Frm.below hb)); have n_U64 := Aside0.mk (U64.out.mvB (Frm.below hb)); have n_U69_0 := Aside0.mk (U69_0.out.mvB (Frm.below hb)); have n_U109 := Aside0.mk (U109.out.mvB (Frm.below hb)); have n_U111_0 := Aside0.mk (U111_0.out.mvB (Frm.below hb)); have n_Bg2 := Aside0.mk (blk_below Bg2.out hb); have n_Bg9 := Aside0.mk (blk_below Bg9.out hb); have n_HB := Aside0.mk (below_step HB.out hb); have NN24 : Aside0 (w23.heap.size ≤ w24.heap.size) := ⟨hb.size⟩; clear U30 U32_0 U33_0 U38 U40_0 U44_0 U64 U69_0 U109 U111_0 Bg2 Bg9 HB; have U30 := n_U30; have U32_0 := n_U32_0; have U33_0 := n_U33_0; have U38 := n_U38; have U40_0 := n_U40_0; have U44_0 := n_U44_0; have U64 := n_U64; have U69_0 := n_U69_0; have U109 := n_U109; have U111_0 := n_U111_0; have Bg2 := n_Bg2; have Bg9 := n_Bg9; have HB := n_HB; clear n_U30 n_U32_0 n_U33_0 n_U38 n_U40_0 n_U44_0 n_U64 n_U69_0 n_U109 n_U111_0 n_Bg2 n_Bg9 n_HB; clear hb ho0; have U112_0 := nu0; clear nu0; obtain ⟨A112_0, c112_0, e0⟩ := Kd.S_slice U112_0.out; subst e0) | ((with_reducible refine gate_callee (f := 19) rfl ?_); refine goesL_ (some 118) rfl rfl Try.func19 (by kernel_rfl) rfl #[.slice A112_0 s0.length c112_0, .slice A33_0 s0.length c33_0] rfl (by (try simp only [List.map_toArray, List.map_cons, List.map_nil]); first | done | rfl) ?_; refine (laws_eqInt64SS.calls k _ _ s0 _ _ s0 true _ ?s1 ?s2 ?s3 ?s4 H8'.out).mono ?_; (case s1 => exact US.C U112_0.out); (case s2 => exact US.cap U112_0.out); (case s3 => exact US.C U33_0.out); (case s4 => exact US.cap U33_0.out); rintro e w25 ⟨rfl, hb⟩; refine ⟨_, rfl, ?_⟩; have hb := hb.below; have n_U30 := Aside0.mk (U30.out.mvB (Frm.below hb)); have n_U32_0 := Aside0.mk (U32_0.out.mvB (Frm.below hb)); have n_U33_0 := Aside0.mk (U33_0.out.mvB (Frm.below hb)); have n_U38 := Aside0.mk (U38.out.mvB (Frm.below hb)); have n_U40_0 := Aside0.mk (U40_0.out.mvB (Frm.below hb)); have n_U44_0 := Aside0.mk (U44_0.out.mvB (Frm.below hb)); have n_U64 := Aside0.mk (U64.out.mvB (Frm.below hb)); have n_U69_0 := Aside0.mk (U69_0.out.mvB (Frm.below hb)); have n_U109 := Aside0.mk (U109.out.mvB (Frm.below hb)); have n_U111_0 := Aside0.mk (U111_0.out.mvB (Frm.below hb)); have n_U112_0 := Aside0.mk (U112_0.out.mvB (Frm.below hb)); have n_Bg2 := Aside0.mk (blk_below Bg2.out hb); have n_Bg9 := Aside0.mk (blk_below Bg9.out hb); have n_HB := Aside0.mk (below_step HB.out hb); have NN25 : Aside0 (w24.heap.size ≤ w25.heap.size) := ⟨hb.size⟩; clear U30 U32_0 U33_0 U38 U40_0 U44_0 U64 U69_0 U109 U111_0 U112_0 Bg2 Bg9 HB; have U30 := n_U30; have U32_0 := n_U32_0; have U33_0 := n_U33_0; have U38 := n_U38; have U40_0 := n_U40_0; have U44_0 := n_U44_0; have U64 := n_U64; have U69_0 := n_U69_0; have U109 := n_U109; have U111_0 := n_U111_0; have U112_0 := n_U112_0; have Bg2 := n_Bg2; have Bg9 := n_Bg9; have HB := n_HB; clear n_U30 n_U32_0 n_U33_0 n_U38 n_U40_0 n_U44_0 n_U64 n_U69_0 n_U109 n_U111_0 n_U112_0 n_Bg2 n_Bg9 n_HB; clear hb) | ((with_reducible refine gate_callee (f := 23) rfl ?_); refine goesL_ (some 132) rfl rfl Try.func23 (by kernel_rfl) rfl #[.slice A44_0 s0.length c44_0, .int .i64 1] rfl (by (try simp only [List.map_toArray, List.map_cons, List.map_nil]); first | done | rfl) ?_; have hcall := laws_heldInt64SS.calls k _ _ ((marks s0 1)) 1 m3 _ (US.C U44_0.out) (US.cap U44_0.out) H23'.out; simp only [marks_length, count_length] at hcall; refine hcall.mono ?_; clear hcall; rintro e w26 ⟨rfl, hb⟩; refine ⟨_, rfl, ?_⟩; have hb := hb.below; have n_U30 := Aside0.mk (U30.out.mvB (Frm.below hb)); have n_U32_0 := Aside0.mk (U32_0.out.mvB (Frm.below hb)); have n_U33_0 := Aside0.mk (U33_0.out.mvB (Frm.below hb)); have n_U38 := Aside0.mk (U38.out.mvB (Frm.below hb)); have n_U40_0 := Aside0.mk (U40_0.out.mvB (Frm.below hb)); have n_U44_0 := Aside0.mk (U44_0.out.mvB (Frm.below hb)); have n_U64 := Aside0.mk (U64.out.mvB (Frm.below hb)); have n_U69_0 := Aside0.mk (U69_0.out.mvB (Frm.below hb)); have n_U109 := Aside0.mk (U109.out.mvB (Frm.below hb)); have n_U111_0 := Aside0.mk (U111_0.out.mvB (Frm.below hb)); have n_U112_0 := Aside0.mk (U112_0.out.mvB (Frm.below hb)); have n_Bg2 := Aside0.mk (blk_below Bg2.out hb); have n_Bg9 := Aside0.mk (blk_below Bg9.out hb); have n_HB := Aside0.mk (below_step HB.out hb); have NN26 : Aside0 (w25.heap.size ≤ w26.heap.size) := ⟨hb.size⟩; clear U30 U32_0 U33_0 U38 U40_0 U44_0 U64 U69_0 U109 U111_0 U112_0 Bg2 Bg9 HB; have U30 := n_U30; have U32_0 := n_U32_0; have U33_0 := n_U33_0; have U38 := n_U38; have U40_0 := n_U40_0; have U44_0 := n_U44_0; have U64 := n_U64; have U69_0 := n_U69_0; have U109 := n_U109; have U111_0 := n_U111_0; have U112_0 := n_U112_0; have Bg2 := n_Bg2; have Bg9 := n_Bg9; have HB := n_HB; clear n_U30 n_U32_0 n_U33_0 n_U38 n_U40_0 n_U44_0 n_U64 n_U69_0 n_U109 n_U111_0 n_U112_0 n_Bg2 n_Bg9 n_HB; clear hb))
 go_ret
 exact ⟨rfl, HB.out⟩
theorem laws_FnExactLemkeSteps.small0 (k : Nat) (A0_0 : Option Addr) (c0_0 : Nat) (l0_0 : List (List Int)) (A0_1 : Option Addr) (c0_1 : Nat) (l0_1 : List Int) (A1 : Option Addr) (c1 : Nat) (l1 : List Int)  (w : World) (hr0_0 : Kd.C (Kd.slice 2 (Kd.int .i64)) w A0_0 l0_0.length l0_0) (hc0_0 : l0_0.length ≤ c0_0) (hr0_1 : Kd.C (Kd.int .i64) w A0_1 l0_1.length l0_1) (hc0_1 : l0_1.length ≤ c0_1) (hr1 : Kd.C (Kd.int .i64) w A1 l1.length l1) (hc1 : l1.length ≤ c1) (h1 : (l1.length : Int) > 1048576) :
  Calls Try.prog 10 #[.agg #[.slice A0_0 l0_0.length c0_0, .slice A0_1 l0_1.length c0_1], .slice A1 l1.length c1] w fun e w' => e = .returned (.bool true) ∧ Below w.heap.size w w' := by
 have HR0_0 := Aside0.mk hr0_0
 have HC0_0 := Aside0.mk hc0_0
 clear hr0_0 hc0_0
 have HR0_1 := Aside0.mk hr0_1
 have HC0_1 := Aside0.mk hc0_1
 clear hr0_1 hc0_1
 have HR1 := Aside0.mk hr1
 have HC1 := Aside0.mk hc1
 clear hr1 hc1
 have HB := Aside0.mk (Below.refl w.heap.size w)
 go_enter Try.func10, Try.ntmps10
 go_wp2_with (first | ((with_reducible refine gate_dst (N := 2) rfl ?_); refine box_event ?hg (N := 2) ?hd (cs := #[.slice A0_0 l0_0.length c0_0, .slice A0_1 l0_1.length c0_1]) (t := 25) ?hr ?_; (case hd => rfl); (case hg => rfl); (case hr => first | (go_simp; done) | (go_simp; rfl)); intro g2 hg w1 hbox hb; have Gg2 : Aside0 (g2 = w.heap.size) := ⟨hg⟩; have Kg2 := Aside0.mk (blk_lt hbox); clear hg; have n_HB := Aside0.mk (below_step HB.out hb); have NN1 : Aside0 (w.heap.size ≤ w1.heap.size) := ⟨hb.size⟩; clear HB; have HB := n_HB; clear n_HB; have Bg2 := Aside0.mk hbox; clear hb hbox; have hc2_0 : w1.cell? ⟨g2, 0, none⟩ = some (.slice A0_0 l0_0.length c0_0) := (blk_cell Bg2.out 0).trans rfl; have hf2_0 := blk_frozen Bg2.out 0; have hc2_1 : w1.cell? ⟨g2, 1, none⟩ = some (.slice A0_1 l0_1.length c0_1) := (blk_cell Bg2.out 1).trans rfl; have hf2_1 := blk_frozen Bg2.out 1))
 go_ret
 exact ⟨rfl, HB.out⟩
theorem laws_FnExactLemkeSteps.small1 (k : Nat) (A0_0 : Option Addr) (c0_0 : Nat) (l0_0 : List (List Int)) (A0_1 : Option Addr) (c0_1 : Nat) (l0_1 : List Int) (A1 : Option Addr) (c1 : Nat) (l1 : List Int) (t25 : Int) (w : World) (hr0_0 : Kd.C (Kd.slice 2 (Kd.int .i64)) w A0_0 l0_0.length l0_0) (hc0_0 : l0_0.length ≤ c0_0) (hr0_1 : Kd.C (Kd.int .i64) w A0_1 l0_1.length l0_1) (hc0_1 : l0_1.length ≤ c0_1) (hr1 : Kd.C (Kd.int .i64) w A1 l1.length l1) (hc1 : l1.length ≤ c1) (h1 : ¬ (l1.length : Int) > 1048576) (h2 : laws_szProblem.f k l0_0 l0_1 1048576 = some t25) (h3 : t25 < 0) :
  Calls Try.prog 10 #[.agg #[.slice A0_0 l0_0.length c0_0, .slice A0_1 l0_1.length c0_1], .slice A1 l1.length c1] w fun e w' => e = .returned (.bool true) ∧ Below w.heap.size w w' := by
 have HR0_0 := Aside0.mk hr0_0
 have HC0_0 := Aside0.mk hc0_0
 clear hr0_0 hc0_0
 have HR0_1 := Aside0.mk hr0_1
 have HC0_1 := Aside0.mk hc0_1
 clear hr0_1 hc0_1
 have HR1 := Aside0.mk hr1
 have HC1 := Aside0.mk hc1
 clear hr1 hc1
 have HB := Aside0.mk (Below.refl w.heap.size w)
 have H2' := Aside0.mk h2
 clear h2
 go_enter Try.func10, Try.ntmps10
 go_wp2_with (first | ((with_reducible refine gate_dst (N := 2) rfl ?_); refine box_event ?hg (N := 2) ?hd (cs := #[.slice A0_0 l0_0.length c0_0, .slice A0_1 l0_1.length c0_1]) (t := 25) ?hr ?_; (case hd => rfl); (case hg => rfl); (case hr => first | (go_simp; done) | (go_simp; rfl)); intro g2 hg w1 hbox hb; have Gg2 : Aside0 (g2 = w.heap.size) := ⟨hg⟩; have Kg2 := Aside0.mk (blk_lt hbox); clear hg; have n_HB := Aside0.mk (below_step HB.out hb); have NN1 : Aside0 (w.heap.size ≤ w1.heap.size) := ⟨hb.size⟩; clear HB; have HB := n_HB; clear n_HB; have Bg2 := Aside0.mk hbox; clear hb hbox; have hc2_0 : w1.cell? ⟨g2, 0, none⟩ = some (.slice A0_0 l0_0.length c0_0) := (blk_cell Bg2.out 0).trans rfl; have hf2_0 := blk_frozen Bg2.out 0; have hc2_1 : w1.cell? ⟨g2, 1, none⟩ = some (.slice A0_1 l0_1.length c0_1) := (blk_cell Bg2.out 1).trans rfl; have hf2_1 := blk_frozen Bg2.out 1) | ((with_reducible refine gate_callee (f := 15) rfl ?_); refine goesL_ (some 25) rfl rfl Try.func15 (by kernel_rfl) rfl #[.agg #[.slice A0_0 l0_0.length c0_0, .slice A0_1 l0_1.length c0_1], .int .i64 1048576] rfl (by (try simp only [List.map_toArray, List.map_cons, List.map_nil]); first | done | rfl) ?_; refine (laws_szProblem.calls k _ _ l0_0 _ _ l0_1 1048576 t25 _ ?s1 ?s2 ?s3 ?s4 H2'.out).mono ?_; (case s1 => exact Kd.C_below HR0_0.out HB.out); (case s2 => exact HC0_0.out); (case s3 => exact Kd.C_below HR0_1.out HB.out); (case s4 => exact HC0_1.out); rintro e w2 ⟨rfl, hb⟩; refine ⟨_, rfl, ?_⟩; have n_Bg2 := Aside0.mk (blk_below Bg2.out hb); have n_HB := Aside0.mk (below_step HB.out hb); have NN2 : Aside0 (w1.heap.size ≤ w2.heap.size) := ⟨hb.size⟩; clear hc2_0 hf2_0; clear hc2_1 hf2_1; clear Bg2 HB; have Bg2 := n_Bg2; have HB := n_HB; clear n_Bg2 n_HB; clear hb; have hc2_0 : w2.cell? ⟨g2, 0, none⟩ = some (.slice A0_0 l0_0.length c0_0) := (blk_cell Bg2.out 0).trans rfl; have hf2_0 := blk_frozen Bg2.out 0; have hc2_1 : w2.cell? ⟨g2, 1, none⟩ = some (.slice A0_1 l0_1.length c0_1) := (blk_cell Bg2.out 1).trans rfl; have hf2_1 := blk_frozen Bg2.out 1))
 go_ret
 exact ⟨rfl, HB.out⟩
def laws_FnExactLemkeSteps.ok_walk (k : Nat) (l0_0 : List (List Int)) (l0_1 : List Int) (l1 : List Int) : Prop := ∃ (t25 : Int) (s0 : List (List Int)) (s1 : Bool) (s2 : Int) (m1 : Int) (m2 : Int) (m3 : Int), (¬ (l1.length : Int) > 1048576) ∧ (laws_szProblem.f k l0_0 l0_1 1048576 = some t25) ∧ (¬ t25 < 0) ∧ (laws_toProblem.f k l0_0 l0_1 = some (l0_0, l0_1)) ∧ (laws_toInt64S.f k l1 = some l1) ∧ (spec_LemkeSteps.f k l0_0 l0_1 l1 = some (s0, s1, s2)) ∧ (impl_LemkeSteps.f l0_0 l0_1 l1 = some (s0, s1, s2)) ∧ (laws_eqInt64SS.f k s0 s0 = some true) ∧ (laws_eqProblem.f k l0_0 l0_1 l0_0 l0_1 = some true) ∧ (laws_eqInt64S.f k l1 l1 = some true) ∧ (m1 = 1 + (lens l0_0 : Int) + (l0_1.length : Int)) ∧ (1 + (lens l0_0 : Int) + (l0_1.length : Int) ≤ 1099511627776) ∧ (l0_0.length ≤ 1099511627776) ∧ (¬ m1 < 0) ∧ (0 ≤ m1) ∧ (m2 = m1 + (l1.length : Int)) ∧ (m1 + (l1.length : Int) ≤ 1099511627776) ∧ (¬ m2 < 0) ∧ (m3 = 1 + (lens s0 : Int)) ∧ (1 + (lens s0 : Int) ≤ 1099511627776) ∧ (s0.length ≤ 1099511627776) ∧ (¬ m3 < 0) ∧ (laws_heldInt64SS.f k ((marks s0 1)) 1 = some m3)
def laws_FnExactLemkeSteps.ok_small0 (k : Nat) (l0_0 : List (List Int)) (l0_1 : List Int) (l1 : List Int) : Prop := ((l1.length : Int) > 1048576)
def laws_FnExactLemkeSteps.ok_small1 (k : Nat) (l0_0 : List (List Int)) (l0_1 : List Int) (l1 : List Int) : Prop := ∃ (t25 : Int), (¬ (l1.length : Int) > 1048576) ∧ (laws_szProblem.f k l0_0 l0_1 1048576 = some t25) ∧ (t25 < 0)
open Classical in
noncomputable def laws_FnExactLemkeSteps.f (k : Nat) (l0_0 : List (List Int)) (l0_1 : List Int) (l1 : List Int) : Option Bool := if laws_FnExactLemkeSteps.ok_walk k l0_0 l0_1 l1 ∨ laws_FnExactLemkeSteps.ok_small0 k l0_0 l0_1 l1 ∨ laws_FnExactLemkeSteps.ok_small1 k l0_0 l0_1 l1 then some true else none
theorem laws_FnExactLemkeSteps.calls (k : Nat) (A0_0 : Option Addr) (c0_0 : Nat) (l0_0 : List (List Int)) (A0_1 : Option Addr) (c0_1 : Nat) (l0_1 : List Int) (A1 : Option Addr) (c1 : Nat) (l1 : List Int) (r : Bool) (w : World) (hr0_0 : Kd.C (Kd.slice 2 (Kd.int .i64)) w A0_0 l0_0.length l0_0) (hc0_0 : l0_0.length ≤ c0_0) (hr0_1 : Kd.C (Kd.int .i64) w A0_1 l0_1.length l0_1) (hc0_1 : l0_1.length ≤ c0_1) (hr1 : Kd.C (Kd.int .i64) w A1 l1.length l1) (hc1 : l1.length ≤ c1) (h : laws_FnExactLemkeSteps.f k l0_0 l0_1 l1 = some r) :
  Calls Try.prog 10 #[.agg #[.slice A0_0 l0_0.length c0_0, .slice A0_1 l0_1.length c0_1], .slice A1 l1.length c1] w fun e w' => e = .returned (.bool r) ∧ Below w.heap.size w w' := by
 unfold laws_FnExactLemkeSteps.f at h
 split at h
 case isFalse => cases h
 rename_i hok
 cases h
 rcases hok with ⟨t25, s0, s1, s2, m1, m2, m3, h1, h2, h3, h4, h5, h6, h7, h8, h9, h10, h11, h12, h13, h14, h15, h16, h17, h18, h19, h20, h21, h22, h23⟩ | ⟨h1⟩ | ⟨t25, h1, h2, h3⟩
 ·exact laws_FnExactLemkeSteps.walk k A0_0 c0_0 l0_0 A0_1 c0_1 l0_1 A1 c1 l1 t25 s0 s1 s2 m1 m2 m3 w hr0_0 hc0_0 hr0_1 hc0_1 hr1 hc1 h1 h2 h3 h4 h5 h6 h7 h8 h9 h10 h11 h12 h13 h14 h15 h16 h17 h18 h19 h20 h21 h22 h23
 ·exact laws_FnExactLemkeSteps.small0 k A0_0 c0_0 l0_0 A0_1 c0_1 l0_1 A1 c1 l1  w hr0_0 hc0_0 hr0_1 hc0_1 hr1 hc1 h1
 ·exact laws_FnExactLemkeSteps.small1 k A0_0 c0_0 l0_0 A0_1 c0_1 l0_1 A1 c1 l1 t25 w hr0_0 hc0_0 hr0_1 hc0_1 hr1 hc1 h1 h2 h3
end Go.Proofs.Ythdoilfjcgickaa.Pr
end
section
namespace Go.Proofs.Ythdoilfjcgickaa.Say
open Go.Proofs.Ythdoilfjcgickaa.Op Go.Proofs.Ythdoilfjcgickaa.Pr
def FnExactLemkeSteps : Prop := ∀ (l0_0 : List (List Int)) (l0_1 : List Int) (l1 : List Int), GoodList (GoodList (GoodInt .i64)) l0_0 → GoodList (GoodInt .i64) l0_1 → GoodList (GoodInt .i64) l1 → ∃ k, laws_FnExactLemkeSteps.f k l0_0 l0_1 l1 = some true
end Go.Proofs.Ythdoilfjcgickaa.Say
end
section
namespace Go.Proofs.Ythdoilfjcgickaa.Lsa
open Go.RowKit Go.Proofs.YthdoilfjcgickaaW.PrintWords Go.Proofs.YthdoilfjcgickaaW.PrintMore Go.Proofs.Ythdoilfjcgickaa.Ma Go.Proofs.Ythdoilfjcgickaa.Pr Go.Proofs.Ythdoilfjcgickaa.Dt Go.Proofs.Ythdoilfjcgickaa.Lk Go.Proofs.Ythdoilfjcgickaa.Lt Go.Proofs.Ythdoilfjcgickaa.Lq Go.Proofs.Ythdoilfjcgickaa.Lp
theorem rd1 (l : List (List Int)) (i : Nat) : rd_L1 l (i : Int) = l.getD i [] := by simp [rd_L1]
section
variable {n m : Nat} {T : Mat}
theorem at_rows {i : Nat} (hi : i < n) : rd_L1 (rowsM n m T) (i : Int) = rowN T i m := by rw [rd1, rowsM_at hi]
theorem at_num {i j : Nat} (hj : j < m) : rd (rowN T i m) (j : Int) = T i j := by rw [rd_nat, rowN_at hj]
theorem wB {x y : Int} (hx : Bnd x) (hy : Bnd y) : wrap64 (x * y) = x * y := by
 have := prodB hx hy
 exact w64 (by omega) (by omega)
theorem kl_cons {i k : Nat} {x y : Int} (c : Nat) (l : List Nat) : kl T i k x y (c :: l) = if T i c * y = T k c * x then kl T i k x y l else decide (T i c * y < T k c * x) := by
 rw [show kl T i k x y (c :: l) = (if T i c * y < T k c * x then true else if T k c * x < T i c * y then false else kl T i k x y l) from rfl]
 by_cases e : T i c * y = T k c * x
 ·rw [if_pos e, if_neg (by omega), if_neg (by omega)]
 ·rw [if_neg e]
  by_cases f : T i c * y < T k c * x
  ·rw [if_pos f]; simp [f]
  ·rw [if_neg f, if_pos (by omega)]; simp [f]
variable (hT : ∀ a c, a < n → c < m → Bnd (T a c)) (hm : n < m) (hn : n ≤ 1000) (hm2 : m ≤ 1000)
include hT hm hn hm2
theorem key_eq {i k : Nat} (hi : i < n) (hk : k < n) {a b : Int} (ha : Bnd a) (hb : Bnd b) (den : Int) (bs : List Int) : Ev (fun q => spec_l05Key.f q (rowsM n m T) den bs (i : Int) (k : Int) a b) (kl T i k a b (cols n m)) := by
 have loop : ∀ q j, j + q = n → ∀ x y : Int, Ev (fun f => spec_l05Key.l0 f (i : Int) (k : Int) a b (n : Int) x y (j : Int) (rowsM n m T) den bs) (if x = y then kl T i k a b (List.range' j q) else decide (x < y)) := by
  intro q
  induction q with
  | zero =>
   intro j hj x y
   refine evstep (fun f => by rw [spec_l05Key.l0]) (evneg (by omega) (evc ?_))
   by_cases e : x = y
   ·rw [if_pos e]; subst e; simp [List.range', kl]
   ·rw [if_neg e]
  | succ q ih =>
   intro j hj x y
   refine evstep (fun f => by rw [spec_l05Key.l0]) (evpos (by omega) ?_)
   by_cases e : x = y
   ·rw [at_rows hi, at_rows hk, rowN_len, rowN_len, rowsM_len]
    refine evpos e (evpos (by omega) (evpos (by omega) (evpos (by omega) (evpos (by omega) (evpos (by omega) (evpos (by omega) (evpos (by omega) ?_)))))))
    rw [at_num (by omega), at_num (by omega), wB (hT i j hi (by omega)) hb, wB (hT k j hk (by omega)) ha, w64 (x := (j : Int) + 1) (by omega) (by omega), if_pos e, List.range'_succ, kl_cons]
    exact ih (j + 1) (by omega) _ _
   ·rw [if_neg e]
    exact evneg e (evc rfl)
 unfold spec_l05Key.f
 rw [at_rows hi, at_rows hk, rowN_len, rowN_len, rowsM_len, w64 (x := (m : Int) - 1) (by omega) (by omega), show (m : Int) - 1 = ((m - 1 : Nat) : Int) from by omega]
 refine evpos (by omega) (evpos (by omega) (evpos (by omega) (evpos (by omega) (evpos (by omega) (evpos (by omega) (evpos (by omega) ?_))))))
 rw [at_num (by omega), at_num (by omega), wB (hT i _ hi (by omega)) hb, wB (hT k _ hk (by omega)) ha]
 have e : cols n m = (m - 1) :: List.range' 0 n := by unfold cols; rw [List.range_eq_range']
 rw [e, kl_cons]
 exact loop n 0 (by omega) _ _
def encR : Option Nat → Int
 | none => -1
 | some r => (r : Int)
theorem row_eq (s : TS) (hs : s.T = T) {v : Nat} (hv : v < m) (den : Int) (bs : List Int) : Ev (fun q => spec_l05Row.f q (rowsM n m T) den bs (v : Int)) (encR (rowB n m s (fun i => T i v))) := by
 have loop : ∀ q j, j + q = n → ∀ o : Option Nat, (∀ r, o = some r → r < n ∧ 0 < T r v) → Ev (fun f => spec_l05Row.l0 f (v : Int) (encR o) (j : Int) (rowsM n m T) den bs) (encR (lst (fun i => T i v) (fun i j => kl T i j (T i v) (T j v) (cols n m)) (List.range' j q) o)) := by
  intro q
  induction q with
  | zero =>
   intro j hj o ho
   exact evstep (fun f => by rw [spec_l05Row.l0]) (by rw [rowsM_len]; exact evneg (by omega) (evc rfl))
  | succ q ih =>
   intro j hj o ho
   refine evstep (fun f => by rw [spec_l05Row.l0]) ?_
   rw [at_rows (show j < n by omega), rowN_len, rowsM_len, at_num hv]
   refine evpos (by omega) (evpos (by omega) (evpos (by omega) (evpos (by omega) ?_)))
   rw [w64 (x := (j : Int) + 1) (by omega) (by omega), List.range'_succ]
   show Ev _ (encR (lst _ _ (List.range' (j + 1) q) (if 0 < T j v ∧ bet _ j o = true then some j else o)))
   by_cases c : 0 < T j v
   ·refine evpos (by omega) ?_
    cases o with
    | none =>
     rw [if_pos ⟨c, rfl⟩]
     exact evpos (by decide) (ih (j + 1) (by omega) (some j) (fun r hr => by cases hr; exact ⟨by omega, c⟩))
    | some r =>
     obtain ⟨hr, hr2⟩ := ho r rfl
     refine evneg (by show ¬ (r : Int) < 0; omega) (evpos (by show 0 ≤ (r : Int); omega) (evpos (by show (r : Int) < _; omega) ?_))
     show Ev (fun f => if (v : Int) < ((rd_L1 (rowsM n m T) (r : Int)).length : Int) then ((spec_l05Key.f f (rowsM n m T) den bs (j : Int) (r : Int) (T j v) (rd (rd_L1 (rowsM n m T) (r : Int)) (v : Int))).bind fun t951 => if t951 = true then _ else _) else _) _
     rw [at_rows hr, rowN_len, at_num hv]
     refine evpos (by omega) (evbind (key_eq hT hm hn hm2 (show j < n by omega) hr (hT j v (by omega) hv) (hT r v hr hv) den bs) ?_)
     by_cases d : kl T j r (T j v) (T r v) (cols n m) = true
     ·rw [if_pos ⟨c, d⟩]
      exact evpos d (ih (j + 1) (by omega) (some j) (fun r hr => by cases hr; exact ⟨by omega, c⟩))
     ·rw [if_neg (fun h => d h.2)]
      exact evneg d (ih (j + 1) (by omega) (some r) ho)
   ·rw [if_neg (fun h => c h.1)]
    exact evneg (by omega) (ih (j + 1) (by omega) o ho)
 unfold spec_l05Row.f
 have h := loop n 0 (by omega) none (fun r hr => by cases hr)
 unfold rowB
 rw [List.range_eq_range', hs]
 exact h
end
theorem enL_rows {n m : Nat} {T : Mat} {i j : Nat} (hi : i < n) (hj : j < m) : enL (rowsM n m T) i j = T i j := by
 unfold enL
 rw [rowsM_at hi, rowN_at hj]
theorem stT_congr {T T' : Mat} {n m r v : Nat} (h : ∀ i j, i < n → j < m → T i j = T' i j) (hr : r < n) (hv : v < m) (den : Int) {i j : Nat} (hi : i < n) (hj : j < m) : stT T den r v i j = stT T' den r v i j := by
 unfold stT stA evT
 rw [h r v hr hv, h r j hr hj, h i j hi hj, h i v hi hv]
theorem pivot_eq {n m : Nat} {s : TS} {r v : Nat} (hr : r < n) (hv : v < m) (hl : s.bs.length = n) (hn : n ≤ 1000) (hm2 : m ≤ 1000) (hd : s.den ≠ 0) : spec_l05Pivot.f (rowsM n m s.T) s.den s.bs (r : Int) (v : Int) = some (rowsM n m (s.step r v).T, (s.step r v).den, (s.step r v).bs) := by
 have h0 : ((rowsM n m s.T).headD []).length = m := by
  rw [show (rowsM n m s.T).headD [] = (rowsM n m s.T).getD 0 [] from by cases rowsM n m s.T <;> rfl, rowsM_at (by omega), rowN_len]
 unfold spec_l05Pivot.f
 rw [h0, rowsM_len, if_pos ⟨by omega, by omega, by omega, by omega, by omega, by
  rw [List.all_eq_true]
  intro x hx
  unfold rowsM at hx
  obtain ⟨a, _, rfl⟩ := List.mem_map.1 hx
  simp [rowN_len], hn, hm2, by omega, hd⟩]
 rw [Int.toNat_natCast, Int.toNat_natCast, rowsM_congr (Z := stT s.T s.den r v) (fun i j hi hj => stT_congr (fun i j hi hj => enL_rows hi hj) hr hv s.den hi hj)]
 have e : stD (enL (rowsM n m s.T)) r v = stD s.T r v := by unfold stD; rw [enL_rows hr hv]
 rw [e]; rfl
theorem begin_eq {n : Nat} {M : List (List Int)} {cv Q : List Int} (hM : M.length = n) (hQ : Q.length = n) (hr : ∀ x ∈ M, x.length = n) (hcv : cv.length = n) (hn : 0 < n) (hn2 : n ≤ 5) (hMb : ∀ i k, i < n → k < n → ((enL M) i k).natAbs ≤ 20) (hcb : ∀ i, i < n → 0 < cv.getD i 0 ∧ cv.getD i 0 ≤ 20) :
  Ev (fun k => spec_l05Begin.f k M Q cv) (rowsM n (2 * n + 2) (tab0 n (enL M) (fun i => cv.getD i 0) (fun i => Q.getD i 0)), 1, idl n) := by
 obtain ⟨T, hT⟩ : ∃ T, tab0 n (enL M) (fun i => cv.getD i 0) (fun i => Q.getD i 0) = T := ⟨_, rfl⟩
 rw [hT]
 have hid : ∀ i, (idl i).length = i := fun i => by simp [idl]
 have hidn : ∀ i, idl (i + 1) = idl i ++ [(i : Int)] := fun i => by unfold idl; rw [List.range_succ, List.map_append]; rfl
 have loop : ∀ q i, i + q = n → Ev (fun k => spec_l05Begin.l0 k cv (n : Int) (i : Int) M Q (rowsM i (2 * n + 2) T) 1 (idl i)) (rowsM n (2 * n + 2) T, 1, idl n) := by
  intro q
  induction q with
  | zero =>
   intro i hi
   obtain rfl : i = n := by omega
   exact evstep (fun k => by rw [spec_l05Begin.l0]) (evneg (by omega) (evc rfl))
  | succ q ih =>
   intro i hi
   refine evstep (fun k => by rw [spec_l05Begin.l0]) (evpos (by omega) ?_)
   have eln : (M.getD i []).length = n := hr _ (by rw [List.getD_eq_getElem?_getD, List.getElem?_eq_getElem (by omega)]; exact List.getElem_mem _)
   have loop2 : ∀ p j, j + p = n → Ev (fun k => spec_l05Begin.l2 k cv (n : Int) (i : Int) (rowN T i (n + j)) (j : Int) M Q (rowsM i (2 * n + 2) T) 1 (idl i)) (rowsM n (2 * n + 2) T, 1, idl n) := by
    intro p
    induction p with
    | zero =>
     intro j hj
     obtain rfl : j = n := by omega
     refine evstep (fun k => by rw [spec_l05Begin.l2]) ?_
     rw [rowN_len, rowsM_len, hid]
     refine evneg (by omega) (evpos (by omega) (evpos (by omega) (evpos (by omega) (evpos (by omega) (evsome rfl ?_)))))
     refine evpos (by omega) (evpos (by rw [List.length_append, rowN_len]; show j + j + 1 < _; omega) (evpos (by omega) (evpos (by omega) ?_)))
     have hc := hcb i (by omega)
     have e1 : T i (j + j) = - cv.getD i 0 := by rw [← hT]; unfold tab0; rw [if_neg (by omega), if_neg (by omega), if_pos (by omega)]
     have e2 : T i (j + j + 1) = Q.getD i 0 := by rw [← hT]; unfold tab0; rw [if_neg (by omega), if_neg (by omega), if_neg (by omega)]
     rw [rd_nat, rd_nat, w64 (x := -(cv.getD i 0)) (by omega) (by omega), ← e1, ← rowN_next, ← e2, ← rowN_next, w64 (x := (i : Int) + 1) (by omega) (by omega), ← hidn, show j + j + 1 + 1 = 2 * j + 2 from by omega, ← rowsM_next]
     exact ih (i + 1) (by omega)
    | succ p ihp =>
     intro j hj
     have hb := hMb i j (by omega) (by omega)
     have e1 : T i (n + j) = - (M.getD i []).getD j 0 := by rw [← hT]; unfold tab0; rw [if_neg (by omega), if_pos (by omega), show n + j - n = j from by omega]; rfl
     have hb2 : ((M.getD i []).getD j 0).natAbs ≤ 20 := hb
     refine evstep (fun k => by rw [spec_l05Begin.l2]) ?_
     rw [rd1, eln, rowN_len]
     refine evpos (by omega) (evpos (by omega) (evpos (by omega) (evpos (by omega) (evpos (by omega) (evpos (by omega) ?_)))))
     rw [rd_nat, w64 (x := -((M.getD i []).getD j 0)) (by omega) (by omega), ← e1, ← rowN_next, w64 (x := (j : Int) + 1) (by omega) (by omega)]
     exact ihp (j + 1) (by omega)
   have loop1 : ∀ p j, j + p = n → Ev (fun k => spec_l05Begin.l1 k cv (n : Int) (i : Int) (rowN T i j) (j : Int) M Q (rowsM i (2 * n + 2) T) 1 (idl i)) (rowsM n (2 * n + 2) T, 1, idl n) := by
    intro p
    induction p with
    | zero =>
     intro j hj
     obtain rfl : j = n := by omega
     refine evstep (fun k => by rw [spec_l05Begin.l1]) (evneg (by omega) ?_)
     exact loop2 j 0 (by omega)
    | succ p ihp =>
     intro j hj
     have e1 : T i j = if j = i then 1 else 0 := by rw [← hT]; unfold tab0; rw [if_pos (by omega)]
     refine evstep (fun k => by rw [spec_l05Begin.l1]) (evpos (by omega) ?_)
     rw [rowN_len, w64 (x := (j : Int) + 1) (by omega) (by omega)]
     by_cases c : j = i
     ·rw [if_pos c] at e1
      refine evpos (by omega) (evpos (by omega) ?_)
      rw [show rowN T i j ++ [1] = rowN T i (j + 1) from by rw [rowN_next, e1]]
      exact ihp (j + 1) (by omega)
     ·rw [if_neg c] at e1
      refine evneg (by omega) (evpos (by omega) ?_)
      rw [show rowN T i j ++ [0] = rowN T i (j + 1) from by rw [rowN_next, e1]]
      exact ihp (j + 1) (by omega)
   exact loop1 n 0 (by omega)
 unfold spec_l05Begin.f
 rw [hQ]
 exact loop n 0 (by omega)
end Go.Proofs.Ythdoilfjcgickaa.Lsa
end
section
namespace Go.Proofs.Ythdoilfjcgickaa.Lsa
open Go.RowKit Go.Proofs.YthdoilfjcgickaaW.PrintWords Go.Proofs.YthdoilfjcgickaaW.PrintMore Go.Proofs.Ythdoilfjcgickaa.Ma Go.Proofs.Ythdoilfjcgickaa.Pr Go.Proofs.Ythdoilfjcgickaa.Dt Go.Proofs.Ythdoilfjcgickaa.Lk Go.Proofs.Ythdoilfjcgickaa.Lt Go.Proofs.Ythdoilfjcgickaa.Lq Go.Proofs.Ythdoilfjcgickaa.Lp
def goS (n m : Nat) : Nat → TS → Nat → Nat → List (List Int) → TS × List (List Int) × Int × Bool
 | 0, s, v, r, st => (s, st, (v : Int), false)
 | q + 1, s, v, r, st =>
  if s.bs.getD r 0 = 2 * (n : Int) then (s.step r v, st ++ [[(v : Int), s.bs.getD r 0]], -1, true)
  else match rowB n m (s.step r v) (fun i => (s.step r v).T i (partner n (s.bs.getD r 0).toNat)) with
   | none => (s.step r v, st ++ [[(v : Int), s.bs.getD r 0]], (partner n (s.bs.getD r 0).toNat : Nat), false)
   | some r' => goS n m q (s.step r v) (partner n (s.bs.getD r 0).toNat) r' (st ++ [[(v : Int), s.bs.getD r 0]])
def runS (n : Nat) (M : Mat) (cv q : Nat → Int) (most : Nat) : TS × List (List Int) × Int × Bool :=
 if feas n q = true then (first n M cv q, [], -1, true)
 else match rowB n (2 * n + 2) (first n M cv q) cv with
  | none => (first n M cv q, [], -1, false)
  | some r => goS n (2 * n + 2) most (first n M cv q) (2 * n) r []
def encS (n m : Nat) (R : TS × List (List Int) × Int × Bool) : (List (List Int)) × Int × List Int × (List (List Int)) × Int × Bool := (rowsM n m R.1.T, R.1.den, R.1.bs, R.2.1, R.2.2.1, R.2.2.2)
theorem partner_lt {n l : Nat} (h : l < 2 * n) : partner n l < 2 * n := by unfold partner; split <;> omega
theorem spartner {n l : Nat} (hn : n ≤ 1000) (h : l < 2 * n) : spec_l05Partner.f (l : Int) (n : Int) = some ((partner n l : Nat) : Int) := by
 unfold spec_l05Partner.f partner
 by_cases c : l < n
 ·rw [if_pos (by omega), if_pos c, w64 (by omega) (by omega)]; rfl
 ·rw [if_neg (by omega), if_neg c, w64 (by omega) (by omega), show (l : Int) - (n : Int) = ((l - n : Nat) : Int) from by omega]
section
variable {n m : Nat} {A : Mat} (hn : n ≤ 5) (hn0 : 0 < n) (hm : m = 2 * n + 2) (hA : Small n m A) (most : Nat) (hmost : most ≤ 100000)
include hn hn0 hm hA hmost
theorem j2_eq : ∀ (q : Nat) (s : TS) (v r : Nat) (st : List (List Int)), Ok n m A s → st.length + (q + 1) = most → r < n → v < m - 1 → s.T r v ≠ 0 →
  Ev (fun k => spec_l05Run.j2 k (most : Int) (n : Int) st (r : Int) (v : Int) (rowsM n m s.T) s.den s.bs) (encS n m (goS n m (q + 1) s v r st)) := by
 intro q
 induction q with
 | zero =>
  intro s v r st hs hq hr hv hp
  obtain ⟨l, hl⟩ : ∃ l : Nat, s.bs.getD r 0 = (l : Int) := ⟨(s.bs.getD r 0).toNat, by have := hs.nn r hr; omega⟩
  have hlt : l < m - 1 := by have := hs.lt r hr; rw [hl] at this; simp only [Int.toNat_natCast] at this; omega
  refine evstep (fun k => by rw [spec_l05Run.j2]) ?_
  rw [rd_nat, hl]
  refine evpos (by omega) (evpos (by rw [hs.len]; omega) (evpos (by omega) (evsome rfl (evsome (pivot_eq hr (by omega) hs.len (by omega) (by omega) (by have := hs.tab.pos; omega)) ?_))))
  rw [w64 (x := 2 * (n : Int)) (by omega) (by omega)]
  unfold goS
  rw [hl]
  by_cases c : (l : Int) = 2 * (n : Int)
  ·rw [if_pos c]
   exact evpos c (evc rfl)
  ·rw [if_neg c]
   have hp2 := partner_lt (n := n) (l := l) (by omega)
   refine evneg c (evsome (spartner (by omega) (by omega)) (evstep (fun k => by rw [spec_l05Run.l1]) (evneg (by rw [List.length_append]; simp only [List.length_singleton]; omega) (evc ?_))))
   rw [Int.toNat_natCast]
   generalize rowB n m _ _ = o
   cases o <;> rfl
 | succ q ih =>
  intro s v r st hs hq hr hv hp
  obtain ⟨l, hl⟩ : ∃ l : Nat, s.bs.getD r 0 = (l : Int) := ⟨(s.bs.getD r 0).toNat, by have := hs.nn r hr; omega⟩
  have hlt : l < m - 1 := by have := hs.lt r hr; rw [hl] at this; simp only [Int.toNat_natCast] at this; omega
  have hs2 := hs.step hn hA hr (v := v) (by omega) hp
  refine evstep (fun k => by rw [spec_l05Run.j2]) ?_
  rw [rd_nat, hl]
  refine evpos (by omega) (evpos (by rw [hs.len]; omega) (evpos (by omega) (evsome rfl (evsome (pivot_eq hr (by omega) hs.len (by omega) (by omega) (by have := hs.tab.pos; omega)) ?_))))
  rw [w64 (x := 2 * (n : Int)) (by omega) (by omega)]
  unfold goS
  rw [hl]
  by_cases c : (l : Int) = 2 * (n : Int)
  ·rw [if_pos c]
   exact evpos c (evc rfl)
  ·rw [if_neg c]
   have hp2 := partner_lt (n := n) (l := l) (by omega)
   refine evneg c (evsome (spartner (by omega) (by omega)) (evstep (fun k => by rw [spec_l05Run.l1]) (evpos (by rw [List.length_append]; simp only [List.length_singleton]; omega) ?_)))
   rw [w64 (x := 2 * (n : Int)) (by omega) (by omega), Int.toNat_natCast]
   obtain ⟨v2, hv2⟩ : ∃ v2, partner n l = v2 := ⟨_, rfl⟩
   rw [hv2] at hp2 ⊢
   refine evpos (by omega) (evbind (row_eq (T := (s.step r v).T) (fun a c ha hc => hs2.abs hn hA ha hc) (by omega) (by omega) (by omega) (s.step r v) rfl (by omega) (s.step r v).den (s.step r v).bs) ?_)
   obtain ⟨o, ho⟩ : ∃ o, rowB n m (s.step r v) (fun i => (s.step r v).T i v2) = o := ⟨_, rfl⟩
   rw [ho]
   cases o with
   | none => exact evpos (by decide) (evc rfl)
   | some r2 =>
    have h2 := rowB_some ho
    refine evneg (by show ¬ (r2 : Int) < 0; omega) ?_
    exact ih (s.step r v) v2 r2 _ hs2 (by rw [List.length_append]; simp only [List.length_singleton]; omega) h2.1 (by omega) (by have := h2.2; omega)
end
theorem lst_app2 (bf : Nat → Int) (less : Nat → Nat → Bool) (l l' : List Nat) (o : Option Nat) : lst bf less (l ++ l') o = lst bf less l' (lst bf less l o) := by
 induction l generalizing o with
 | nil => rfl
 | cons x l ih => simp only [List.cons_append, lst]; exact ih _
theorem run_eq {M : List (List Int)} {Q cv : List Int} {n : Nat} (h : PC M Q cv n) (most : Nat) (hmost : most ≤ 100000) :
  Ev (fun k => spec_l05Run.f k M Q cv (most : Int)) (encS n (2 * n + 2) (runS n (enL M) (fun i => cv.getD i 0) (fun i => Q.getD i 0) most)) := by
 have hA := first_small (n := n) (M := enL M) (cv := fun i => cv.getD i 0) (q := fun i => Q.getD i 0) h.Mb (fun i hi => by have := h.cb i hi; omega) h.qb
 have hok := first_ok (n := n) (M := enL M) (cv := fun i => cv.getD i 0) (q := fun i => Q.getD i 0)
 have hn := h.le
 have hn0 := h.pos
 have hcl := h.lcv
 obtain ⟨s, hs⟩ : ∃ s, first n (enL M) (fun i => cv.getD i 0) (fun i => Q.getD i 0) = s := ⟨_, rfl⟩
 have hT : tab0 n (enL M) (fun i => cv.getD i 0) (fun i => Q.getD i 0) = s.T := by rw [← hs]; rfl
 have hT2 : ∀ a c, a < n → c < 2 * n + 2 → Bnd (s.T a c) := fun a c ha hc => by rw [← hs]; exact hok.abs hn hA ha hc
 have hcb : ∀ i, i < n → Bnd (cv.getD i 0) := fun i hi => by have := h.cb i hi; exact ⟨by omega, by omega⟩
 unfold spec_l05Run.f
 refine evbind (begin_eq h.lM h.lQ h.rows h.lcv h.pos h.le h.Mb h.cb) ?_
 rw [hT, h.lQ]
 have e1 : (1 : Int) = s.den := by rw [← hs]; rfl
 have e2 : idl n = s.bs := by rw [← hs]; rfl
 have ed : ((rowsM n (2 * n + 2) s.T, (1 : Int), idl n) : List (List Int) × Int × List Int) = (rowsM n (2 * n + 2) s.T, s.den, s.bs) := by rw [← e1, ← e2]
 rw [ed]
 unfold runS
 rw [hs]
 have loop : ∀ q i, i + q = n → ∀ (f : Bool) (r : Nat), f = (List.range i).any (fun j => decide (Q.getD j 0 < 0)) → r < n → (i = 0 → r = 0) → (0 < i → lst (fun i => cv.getD i 0) (fun i j => kl s.T i j (cv.getD i 0) (cv.getD j 0) (cols n (2 * n + 2))) (List.range i) none = some r) →
   Ev (fun k => spec_l05Run.l0 k cv (most : Int) (n : Int) [] f (r : Int) (i : Int) M Q (rowsM n (2 * n + 2) s.T) s.den s.bs) (encS n (2 * n + 2) (if feas n (fun i => Q.getD i 0) = true then (s, [], -1, true) else match rowB n (2 * n + 2) s (fun i => cv.getD i 0) with
    | none => (s, [], -1, false)
    | some r => goS n (2 * n + 2) most s (2 * n) r [])) := by
  intro q
  induction q with
  | zero =>
   intro i hi f r hf hr h0 h1
   obtain rfl : i = n := by omega
   refine evstep (fun k => by rw [spec_l05Run.l0]) (evneg (by rw [h.lQ]; omega) ?_)
   have hrow : rowB i (2 * i + 2) s (fun i => cv.getD i 0) = some r := h1 hn0
   have hfe : feas i (fun i => Q.getD i 0) = !f := by
    rw [hf]; unfold feas
    rw [List.not_any_eq_all_not]
    refine List.all_congr rfl (fun j => ?_)
    by_cases c : Q.getD j 0 < 0
    ·rw [decide_eq_true c, decide_eq_false (by show ¬ 0 ≤ Q.getD j 0; omega)]; rfl
    ·rw [decide_eq_false c, decide_eq_true (by show 0 ≤ Q.getD j 0; omega)]; rfl
   rw [hfe, hrow]
   cases f with
   | false =>
    rw [if_pos (show (!false) = true from rfl)]
    exact evneg (by decide) (evc rfl)
   | true =>
    rw [if_neg (by decide)]
    show Ev _ (encS i (2 * i + 2) (goS i (2 * i + 2) most s (2 * i) r []))
    refine evpos rfl ?_
    rw [w64 (x := 2 * (i : Int)) (by omega) (by omega), show (2 * (i : Int)) = ((2 * i : Nat) : Int) from by omega]
    cases most with
    | zero =>
     refine evstep (fun k => by rw [spec_l05Run.l1]) ?_
     exact (evneg (by show ¬ ((0 : Nat) : Int) < ((0 : Nat) : Int); omega) (evc rfl))
    | succ mm =>
     refine evstep (fun k => by rw [spec_l05Run.l1]) (evpos (by show ((0 : Nat) : Int) < ((mm + 1 : Nat) : Int); omega) (evneg (by rw [w64 (by omega) (by omega)]; omega) ?_))
     refine j2_eq hn hn0 rfl hA (mm + 1) hmost mm s (2 * i) r [] (by rw [← hs]; exact hok) (by simp) hr (by omega) ?_
     rw [← hT]; unfold tab0
     rw [if_neg (by omega), if_neg (by omega), if_pos rfl]
     have := (h.cb r hr).1
     show - cv.getD r 0 ≠ 0
     omega
  | succ q ih =>
   intro i hi f r hf hr h0 h1
   have hl := h.lQ
   have key := key_eq (T := s.T) hT2 (by omega) (by omega) (by omega) (show i < n by omega) hr (hcb i (by omega)) (hcb r hr) s.den s.bs
   obtain ⟨z, hz⟩ : ∃ z, kl s.T i r (cv.getD i 0) (cv.getD r 0) (cols n (2 * n + 2)) = z := ⟨_, rfl⟩
   rw [hz] at key
   have hnext : lst (fun i => cv.getD i 0) (fun i j => kl s.T i j (cv.getD i 0) (cv.getD j 0) (cols n (2 * n + 2))) (List.range (i + 1)) none = some (if z = true then i else r) := by
    rw [List.range_succ, lst_app2]
    by_cases c : i = 0
    ·subst c
     have := h0 rfl
     subst this
     simp only [List.range_zero, lst, bet]
     rw [if_pos ⟨(h.cb 0 hn0).1, trivial⟩]
     simp
    ·rw [h1 (by omega)]
     by_cases d : z = true
     ·rw [if_pos d]
      exact (if_pos ⟨(h.cb i (by omega)).1, hz.trans d⟩ : (if 0 < cv.getD i 0 ∧ kl s.T i r (cv.getD i 0) (cv.getD r 0) (cols n (2 * n + 2)) = true then some i else some r) = some i)
     ·rw [if_neg d]
      exact (if_neg (fun q => d (hz.symm.trans q.2)) : (if 0 < cv.getD i 0 ∧ kl s.T i r (cv.getD i 0) (cv.getD r 0) (cols n (2 * n + 2)) = true then some i else some r) = some r)
   refine evstep (fun k => by rw [spec_l05Run.l0]) (evpos (by rw [hl]; omega) ?_)
   have hw : wrap64 ((i : Int) + 1) = ((i + 1 : Nat) : Int) := by rw [w64 (by omega) (by omega)]; rfl
   have hfn : ∀ g : Bool, g = (f || decide (Q.getD i 0 < 0)) → g = (List.range (i + 1)).any (fun j => decide (Q.getD j 0 < 0)) := fun g hg => by rw [hg, List.range_succ, List.any_append, hf]; simp
   have step : ∀ g : Bool, g = (f || decide (Q.getD i 0 < 0)) → Ev (fun k => (spec_l05Key.f k (rowsM n (2 * n + 2) s.T) s.den s.bs (i : Int) (r : Int) (rd cv (i : Int)) (rd cv (r : Int))).bind fun t => if t = true then spec_l05Run.l0 k cv (most : Int) (n : Int) [] g (i : Int) (wrap64 ((i : Int) + 1)) M Q (rowsM n (2 * n + 2) s.T) s.den s.bs else spec_l05Run.l0 k cv (most : Int) (n : Int) [] g (r : Int) (wrap64 ((i : Int) + 1)) M Q (rowsM n (2 * n + 2) s.T) s.den s.bs) (encS n (2 * n + 2) (if feas n (fun i => Q.getD i 0) = true then (s, [], -1, true) else match rowB n (2 * n + 2) s (fun i => cv.getD i 0) with
    | none => (s, [], -1, false)
    | some r => goS n (2 * n + 2) most s (2 * n) r [])) := by
    intro g hg
    rw [rd_nat, rd_nat, hw]
    refine evbind key ?_
    by_cases d : z = true
    ·rw [if_pos d] at hnext
     exact evpos d (ih (i + 1) (by omega) g i (hfn g hg) (by omega) (fun e => by omega) (fun _ => hnext))
    ·rw [if_neg d] at hnext
     exact evneg d (ih (i + 1) (by omega) g r (hfn g hg) hr (fun e => by omega) (fun _ => hnext))
   by_cases cf : f = true
   ·refine evpos cf (evpos (by omega) (evpos (by omega) (evpos (by omega) (evpos (by omega) ?_))))
    exact step true (by rw [cf]; rfl)
   ·refine evneg cf (evpos (by omega) (evpos (by omega) (evpos (by omega) (evpos (by omega) ?_))))
    have e : decide (rd Q (i : Int) < 0) = (f || decide (Q.getD i 0 < 0)) := by rw [rd_nat]; cases f with | false => rfl | true => exact absurd rfl cf
    exact step _ e
 exact loop n 0 (by omega) false 0 rfl hn0 (fun _ => rfl) (fun e => by omega)
end Go.Proofs.Ythdoilfjcgickaa.Lsa
end
section
namespace Go.Proofs.Ythdoilfjcgickaa.Lsa
open Go.RowKit Go.Proofs.YthdoilfjcgickaaW.PrintWords Go.Proofs.YthdoilfjcgickaaW.PrintMore Go.Proofs.Ythdoilfjcgickaa.Ma Go.Proofs.Ythdoilfjcgickaa.Pr Go.Proofs.Ythdoilfjcgickaa.Dt Go.Proofs.Ythdoilfjcgickaa.Lk Go.Proofs.Ythdoilfjcgickaa.Lt Go.Proofs.Ythdoilfjcgickaa.Lq Go.Proofs.Ythdoilfjcgickaa.Lp
theorem goS_len (n m : Nat) : ∀ (q : Nat) (s : TS) (v r : Nat) (st : List (List Int)), st.length ≤ (goS n m q s v r st).2.1.length ∧ (0 < q → st.length < (goS n m q s v r st).2.1.length) := by
 intro q
 induction q with
 | zero => intro s v r st; exact ⟨Nat.le_refl _, fun h => absurd h (by omega)⟩
 | succ q ih =>
  intro s v r st
  suffices h : st.length < (goS n m (q + 1) s v r st).2.1.length from ⟨by omega, fun _ => h⟩
  unfold goS
  split
  ·simp
  ·generalize rowB n m _ _ = o
   cases o with
   | none => simp
   | some r' => have := (ih (s.step r v) (partner n (s.bs.getD r 0).toNat) r' (st ++ [[(v : Int), s.bs.getD r 0]])).1; simp at this ⊢; omega
def Rel (most : Nat) (R : TS × List (List Int) × Bool × Int × Int) (S : TS × List (List Int) × Int × Bool) : Prop :=
 (R.2.2.2.2 = 3 ∧ 200 < S.2.1.length) ∨ (R.2.2.2.2 = 0 ∧ S.2.1.length ≤ 200 ∧ S.1 = R.1 ∧ S.2.1 = R.2.1 ∧ S.2.2.2 = R.2.2.1 ∧ (most = 201 → R.2.2.1 = false → S.2.2.1 = R.2.2.2.1))
theorem go_rel (n m most : Nat) : ∀ (q : Nat) (s : TS) (v r : Nat) (st : List (List Int)), st.length + q = most → st.length ≤ 200 → Rel most (goI n m q s v r st) (goS n m q s v r st) := by
 intro q
 induction q with
 | zero => intro s v r st h1 h2; exact .inr ⟨rfl, h2, rfl, rfl, rfl, fun e => by omega⟩
 | succ q ih =>
  intro s v r st h1 h2
  by_cases c : st.length = 200
  ·have := (goS_len n m (q + 1) s v r st).2 (by omega)
   refine .inl ⟨?_, by omega⟩
   unfold goI
   rw [if_pos c]
  ·unfold goI goS
   rw [if_neg c]
   split
   ·exact .inr ⟨rfl, by simp; omega, rfl, rfl, rfl, fun _ e => by cases e⟩
   ·generalize rowB n m _ _ = o
    cases o with
    | none => exact .inr ⟨rfl, by simp; omega, rfl, rfl, rfl, fun _ _ => rfl⟩
    | some r' => exact ih _ _ _ _ (by simp; omega) (by simp; omega)
theorem go_two (n m : Nat) : ∀ (q : Nat) (s : TS) (v r : Nat) (st : List (List Int)), (∀ x ∈ st, x.length = 2) → ∀ x ∈ (goI n m q s v r st).2.1, x.length = 2 := by
 intro q
 induction q with
 | zero => intro s v r st h; exact h
 | succ q ih =>
  intro s v r st h
  have h2 : ∀ x ∈ st ++ [[(v : Int), s.bs.getD r 0]], x.length = 2 := fun x hx => by
   rcases List.mem_append.1 hx with h3 | h3
   ·exact h x h3
   ·simp at h3; rw [h3]; rfl
  unfold goI
  split
  ·exact h
  ·split
   ·exact h2
   ·generalize rowB n m _ _ = o
    cases o with
    | none => exact h2
    | some r' => exact ih _ _ _ _ h2
section
variable {M : List (List Int)} {Q cv : List Int} {n : Nat} (h : PC M Q cv n)
include h
theorem row0 : ∃ r, rowB n (2 * n + 2) (first n (enL M) (fun i => cv.getD i 0) (fun i => Q.getD i 0)) (fun i => cv.getD i 0) = some r := by
 cases e : rowB n (2 * n + 2) (first n (enL M) (fun i => cv.getD i 0) (fun i => Q.getD i 0)) (fun i => cv.getD i 0) with
 | none =>
  have h1 := rowB_none e 0 h.pos
  have h2 := (h.cb 0 h.pos).1
  exact absurd h1 (by show ¬ cv.getD 0 0 ≤ 0; omega)
 | some r => exact ⟨r, rfl⟩
theorem run_rel {most : Nat} : Rel most (runI n (enL M) (fun i => cv.getD i 0) (fun i => Q.getD i 0) most) (runS n (enL M) (fun i => cv.getD i 0) (fun i => Q.getD i 0) most) := by
 obtain ⟨r, hr⟩ := row0 h
 unfold runI runS
 split
 ·exact .inr ⟨rfl, by simp, rfl, rfl, rfl, fun _ e => by cases e⟩
 ·rw [hr]
  exact go_rel n _ most most _ _ _ [] (by simp) (by simp)
theorem run_two {most : Nat} : ∀ x ∈ (runI n (enL M) (fun i => cv.getD i 0) (fun i => Q.getD i 0) most).2.1, x.length = 2 := by
 obtain ⟨r, hr⟩ := row0 h
 unfold runI
 split
 ·intro x hx; cases hx
 ·rw [hr]
  exact go_two n _ most _ _ _ [] (fun x hx => by cases hx)
end
theorem code_eq (M : List (List Int)) (Q cv : List Int) (hQ : Q.length ≤ 1048576) (hcv : cv.length ≤ 1048576) : Ev (fun k => spec_l05Code.f k M Q cv) (lkCode M Q cv) := by
 classical
 have loop : ∀ q i, i + q = cv.length → Ev (fun k => spec_l05Code.l0 k cv (i : Int)) (if (cv.drop i).any badV = true then 2 else 0) := by
  intro q
  induction q with
  | zero =>
   intro i hi
   refine evstep (fun k => by rw [spec_l05Code.l0]) (evneg (by omega) (evc ?_))
   rw [List.drop_of_length_le (by omega)]; rfl
  | succ q ih =>
   intro i hi
   refine evstep (fun k => by rw [spec_l05Code.l0]) (evpos (by omega) (evpos (by omega) (evsome (Pb.sin_eq _ _ _) ?_)))
   rw [rd_nat, w64 (x := (i : Int) + 1) (by omega) (by omega), List.drop_eq_getElem_cons (show i < cv.length by omega), List.any_cons]
   have e : cv.getD i 0 = cv[i] := by rw [List.getD_eq_getElem?_getD, List.getElem?_eq_getElem (by omega)]; rfl
   rw [e]
   unfold badV
   by_cases c : 1 ≤ cv[i] ∧ cv[i] ≤ 20
   ·have d : (!(decide (1 ≤ cv[i]) && decide (cv[i] ≤ 20))) = false := by simp [c]
    rw [d, Bool.false_or]
    exact evpos (decide_eq_true c) (ih (i + 1) (by omega))
   ·have d : (!(decide (1 ≤ cv[i]) && decide (cv[i] ≤ 20))) = true := by
     rw [Bool.not_eq_true', Bool.and_eq_false_iff]
     by_cases c1 : 1 ≤ cv[i]
     ·right; exact decide_eq_false (fun c2 => c ⟨c1, c2⟩)
     ·left; exact decide_eq_false c1
    rw [d, Bool.true_or, if_pos rfl]
    exact evneg (by simpa using c) (evc rfl)
 unfold spec_l05Code.f lkCode
 refine evbind (Pb.spec_is M Q hQ (decide (Pb.POK M Q)) (by simp)) ?_
 rw [Pb.impl_is M Q (decide (Pb.POK M Q)) (by simp)]
 by_cases p : Pb.POK M Q
 ·rw [decide_eq_true p, if_pos rfl]
  refine evpos rfl ?_
  unfold cvB
  by_cases c : (cv.length : Int) = (Q.length : Int)
  ·refine evpos c ?_
   have := loop cv.length 0 (by omega)
   rw [List.drop_zero] at this
   rw [decide_eq_true c, Bool.true_and]
   cases hb : cv.any badV with
   | true => rw [hb] at this; exact this
   | false => rw [hb] at this; exact this
  ·refine evneg c (evc ?_)
   rw [decide_eq_false c]; rfl
 ·rw [decide_eq_false p, if_neg (by simp)]
  exact evneg (by decide) (evc rfl)
theorem spec_run {M : List (List Int)} {Q cv : List Int} (h : lkCode M Q cv = 0) (most : Nat) (hm : most ≤ 100000) : ∃ S : TS × List (List Int) × Int × Bool, Ev (fun k => spec_l05Run.f k M Q cv (most : Int)) (encS Q.length (2 * Q.length + 2) S) ∧ Rel most (lkR M Q cv most) S := ⟨_, run_eq (lkCode_pc h) most hm, run_rel (lkCode_pc h)⟩
end Go.Proofs.Ythdoilfjcgickaa.Lsa
end
section
namespace Go.Proofs.Ythdoilfjcgickaa.La
open Go.RowKit Go.Proofs.YthdoilfjcgickaaW.PrintWords Go.Proofs.YthdoilfjcgickaaW.PrintMore Go.Proofs.Ythdoilfjcgickaa.Ma Go.Proofs.Ythdoilfjcgickaa.Pr Go.Proofs.Ythdoilfjcgickaa.Hm
theorem marks_at : ∀ (l : List (List Int)) (n : Int) (i : Nat) (h : i < l.length), (marks l n).getD i [] = count (n + lens (l.take i)) l[i].length
 | x :: l, n, 0, _ => by simp [marks, lens]
 | x :: l, n, i + 1, h => by
  have := marks_at l (n + x.length) i (by simpa using h)
  simp only [marks, List.getD_cons_succ, this, List.take_succ_cons, lens, List.getElem_cons_succ]
  congr 1
  push_cast
  omega
theorem heldSS (l : List (List Int)) (n : Int) (h0 : 0 ≤ n) (h1 : n + lens l ≤ 1099511627776) (hl : l.length ≤ 1099511627776) : Ev (fun k => laws_heldInt64SS.f k (marks l n) n) (n + lens l) := by
 have key : ∀ m i, i + m = l.length → Ev (fun k => laws_heldInt64SS.l0 k (marks l n) (n + lens (l.take i)) (i : Nat)) (n + lens l) := by
  intro m
  induction m with
  | zero =>
   intro i hi
   refine evstep (fun k => by rw [laws_heldInt64SS.l0]) (evneg (by rw [marks_length]; omega) (evc ?_))
   rw [List.take_of_length_le (by omega)]
  | succ m ih =>
   intro i hi
   have hlt : i < l.length := by omega
   have e1 := lens_take_succ l i hlt
   have e2 := lens_take_le l (i + 1)
   refine evstep (fun k => by rw [laws_heldInt64SS.l0]) (evpos (by rw [marks_length]; omega) (evpos (by omega) ?_))
   rw [rdL, marks_at l n i hlt, w64 (by omega) (by omega)]
   refine evbind (heldI (n + lens (l.take i)) l[i].length (by omega) (by omega) (by omega)) (evneg (by omega) ?_)
   have := ih (i + 1) (by omega)
   rw [show n + (lens (l.take (i + 1)) : Int) = n + lens (l.take i) + l[i].length from by rw [e1]; push_cast; omega] at this
   exact this
 have := key l.length 0 (by omega)
 unfold laws_heldInt64SS.f
 simpa [lens] using this
end Go.Proofs.Ythdoilfjcgickaa.La
end
section
namespace Go.Proofs.Ythdoilfjcgickaa.La
open Go.RowKit Go.Proofs.YthdoilfjcgickaaW.PrintWords Go.Proofs.YthdoilfjcgickaaW.PrintMore Go.Proofs.Ythdoilfjcgickaa.Ma Go.Proofs.Ythdoilfjcgickaa.Pr Go.Proofs.Ythdoilfjcgickaa.Hm Go.Proofs.Ythdoilfjcgickaa.Op
theorem szP2 {M : List (List Int)} {Q : List Int} (ga : GoodList (GoodList (GoodInt .i64)) M) (gb : GoodList (GoodInt .i64) Q) :
  ∃ t : Int, Ev (fun k => laws_szProblem.f k M Q 1048576) t ∧ t ≤ 1048576 ∧ (0 ≤ t → tot M ≤ 1048576 ∧ Q.length ≤ 1048576) := by
 have h1 := szSS M ga (n := 1048576) (by decide) (by decide)
 by_cases c : (1048576 : Int) < (tot M : Int)
 ·rw [if_pos c] at h1
  exact ⟨-1, by unfold laws_szProblem.f; exact evbind h1 (evpos (by decide) (evc rfl)), by decide, fun h => by omega⟩
 ·rw [if_neg c] at h1
  have h2 := sz_eq (l := Q) (n := 1048576 - (tot M : Int)) (by omega) (by omega) gb.1
  by_cases c2 : (1048576 : Int) - (tot M : Int) < (Q.length : Int)
  ·rw [if_pos c2] at h2
   exact ⟨-1, by unfold laws_szProblem.f; exact evbind h1 (evneg (by omega) (evsome h2 (evpos (by decide) (evc rfl)))), by decide, fun h => by omega⟩
  ·rw [if_neg c2] at h2
   exact ⟨_, by unfold laws_szProblem.f; exact evbind h1 (evneg (by omega) (evsome h2 (evneg (by omega) (evc rfl)))), by omega, fun _ => ⟨by omega, by omega⟩⟩
theorem fit_lensP {l : List (List Int)} (h : tot l ≤ 1048576) : lens l ≤ 1048576 := by unfold tot at h; omega
theorem toP {M : List (List Int)} {Q : List Int} (hM : Fit M) (hQ : Q.length ≤ 1048576) : Ev (fun k => laws_toProblem.f k M Q) (M, Q) := by
 unfold laws_toProblem.f
 exact evbind (fit_to hM) (evbind (toI Q hQ) (evc rfl))
theorem eqPr {M : List (List Int)} {Q : List Int} (hM : Fit M) (hQ : Q.length ≤ 1152921504606846976) : Ev (fun k => laws_eqProblem.f k M Q M Q) true := by
 unfold laws_eqProblem.f
 exact evbind (fit_eq hM) (evpos rfl (evbind (eqI_same Q hQ) (evpos rfl (evc rfl))))
end Go.Proofs.Ythdoilfjcgickaa.La
end
section
namespace Go.Proofs.Ythdoilfjcgickaa.Pure
open Go.RowKit Go.Proofs.YthdoilfjcgickaaW.PrintWords Go.Proofs.YthdoilfjcgickaaW.PrintMore Go.Proofs.Ythdoilfjcgickaa.Ma Go.Proofs.Ythdoilfjcgickaa.Pr Go.Proofs.Ythdoilfjcgickaa.La Go.Proofs.Ythdoilfjcgickaa.Op Go.Proofs.Ythdoilfjcgickaa.Lt
theorem lens_two : ∀ (x : List (List Int)), (∀ y ∈ x, y.length = 2) → lens x ≤ 2 * x.length
 | [], _ => by simp [lens]
 | y :: x, h => by
  have h1 := lens_two x (fun z hz => h z (List.mem_cons_of_mem _ hz))
  have h2 := h y List.mem_cons_self
  simp only [lens, List.length_cons]
  omega
theorem steps_both (M : List (List Int)) (Q cv : List Int) (hQ : Q.length ≤ 1048576) (hcv : cv.length ≤ 1048576) : ∃ R : List (List Int) × Bool × Int, Ev (fun k => spec_LemkeSteps.f k M Q cv) R ∧ impl_LemkeSteps.f M Q cv = some R ∧ R.1.length ≤ 200 ∧ (∀ x ∈ R.1, x.length = 2) := by
 unfold impl_LemkeSteps.f
 refine ⟨_, ?_, rfl, ?_⟩
 all_goals by_cases c : lkCode M Q cv = 0
 ·obtain ⟨S, h1, h2⟩ := Lsa.spec_run c 201 (by omega)
  unfold spec_LemkeSteps.f lsF
  refine evbind (Lsa.code_eq M Q cv hQ hcv) (evpos c (evbind h1 ?_))
  rw [if_pos c]
  rcases h2 with ⟨e1, e2⟩ | ⟨e1, e2, e3, e4, e5, _⟩
  ·refine evpos (by show (S.2.1.length : Int) > 200; omega) (evc ?_)
   rw [e1]; rfl
  ·refine evneg (by show ¬ (S.2.1.length : Int) > 200; omega) (evc ?_)
   rw [if_pos e1, ← e4, ← e5]; rfl
 ·unfold spec_LemkeSteps.f lsF
  rw [if_neg c]
  exact evbind (Lsa.code_eq M Q cv hQ hcv) (evneg c (evc rfl))
 ·obtain ⟨S, h1, h2⟩ := Lsa.spec_run c 201 (by omega)
  unfold lsF
  rw [if_pos c]
  rcases h2 with ⟨e1, e2⟩ | ⟨e1, e2, e3, e4, e5, _⟩
  ·rw [if_neg (by rw [e1]; decide)]
   exact ⟨by simp, fun x hx => by cases hx⟩
  ·rw [if_pos e1]
   exact ⟨by show (lkR M Q cv 201).2.1.length ≤ 200; rw [← e4]; exact e2, Lsa.run_two (lkCode_pc c)⟩
 ·unfold lsF
  rw [if_neg c]
  exact ⟨by simp, fun x hx => by cases hx⟩
theorem FnExactLemkeSteps : Say.FnExactLemkeSteps := by
 intro M q c ga gb gc
 obtain ⟨t, ⟨k0, ht⟩, ht1, hf⟩ := szP2 ga gb
 by_cases cc : (c.length : Int) > 1048576
 ·refine ⟨0, ?_⟩
  unfold laws_FnExactLemkeSteps.f
  rw [if_pos]
  exact .inr (.inl cc)
 by_cases c0 : t < 0
 ·refine ⟨k0, ?_⟩
  unfold laws_FnExactLemkeSteps.f
  rw [if_pos]
  exact .inr (.inr ⟨t, cc, ht _ (Nat.le_refl _), c0⟩)
 ·obtain ⟨ta, tb⟩ := hf (by omega)
  have fa := fit_of ta
  have fl := fit_lensP ta
  have al := fa.len
  obtain ⟨R, ⟨k1, e1⟩, e2, hR1, hR2⟩ := steps_both M q c tb (by omega)
  have hl := lens_two R.1 hR2
  obtain ⟨k3, e3⟩ := toP fa tb
  obtain ⟨k4, e4⟩ := toI c (by omega)
  obtain ⟨k5, e5⟩ := fit_eq (l := R.1) ⟨by omega, fun x hx => by rw [hR2 x hx]; omega⟩
  obtain ⟨k6, e6⟩ := eqPr (Q := q) fa (by omega)
  obtain ⟨k7, e7⟩ := eqI_same c (by omega)
  obtain ⟨k8, e8⟩ := heldSS R.1 1 (by omega) (by omega) (by omega)
  refine ⟨k0 + k1 + k3 + k4 + k5 + k6 + k7 + k8, ?_⟩
  unfold laws_FnExactLemkeSteps.f
  rw [if_pos]
  exact .inl ⟨t, R.1, R.2.1, R.2.2, _, _, _, cc, ht _ (by omega), c0, e3 _ (by omega), e4 _ (by omega), e1 _ (by omega), e2, e5 _ (by omega), e6 _ (by omega), e7 _ (by omega), rfl, by omega, by omega, by omega, by omega, rfl, by omega, by omega, rfl, by omega, by omega, by omega, e8 _ (by omega)⟩
end Go.Proofs.Ythdoilfjcgickaa.Pure
end
section
namespace Go.Proofs.Ythdoilfjcgickaa.fnExactLemkeSteps
open Go.ChangeShapes Go.WideShapes Go.ChangeAt Go.RowKit Go.Proofs.Ythdoilfjcgickaa.Op Go.Proofs.YthdoilfjcgickaaW.PrintWords
theorem own : ownKnob Try.prog.godebug = none := by kernel_rfl
theorem laidOut : laidOutB Try.prog = true := by kernel_rfl
theorem lifted (os : Os) (started : os.Started) (H : Type) (enc : TypeId × Value → H) :
  ReturnsInHanded {} Try.checked os 10 .any (Rows.fnExactLemkeStepsSpec.pre6 enc Try.prog Try.f10 Rows.fnExactLemkeStepsRow.domain false) (Rows.fnExactLemkeStepsSpec.post enc Try.prog Try.f10 false true false false) := by
 refine returnsInHanded_of_change_sized (C := Try.checked) own started (by kernel_rfl) Try.func10
  (ChangeSpec.witness6 (enc := enc) (C := Try.checked) false ⟨#[], #[.agg #[.slice none 0 0, .slice none 0 0], .slice none 0 0], []⟩ 8 (by kernel_rfl) (by kernel_rfl) (by kernel_rfl) (by kernel_rfl)) ?_
 intro W base args ds gs before hval0 hW hcnd hsz0 _
 have hval : ∀ (j : Nat) t v, Try.f10.params[j]? = some t → args[j]? = some v → Value.okWide Try.prog W .any base t v := hval0
 have hW' := hW
 obtain ⟨p, q, hA0, hV, rfl, hfz, hnd⟩ := hW
 have hA : DataW.TrodAll enc Try.prog W 0 (fun _ => true) true Try.f10.params.toList args.toList ds p := hA0
 rw [Try.params10] at hA hval
 obtain ⟨v0, vs0, d0, ds0, p0, q0, hargs, rfl, rfl, h0, r0⟩ := trodAll_cons hA
 obtain ⟨v1, vs1, d1, ds1, p1, q1, rfl, rfl, rfl, h1, r1⟩ := trodAll_cons r0
 obtain ⟨rfl, rfl, rfl⟩ := trodAll_nil r1
 obtain rfl : args = #[v0, v1] := by cases args; simp_all
 obtain ⟨rfl, rfl⟩ := trodVars_none hV
 have k0 := h0
 have lt0 := trod_blocks k0
 obtain ⟨⟨x0_0, x0_1⟩, cs0, rfl, hk0, g0⟩ := arg_struct Try.underlying25 (opens_struct2 Try.underlying25 ⟨by kernel_rfl, by kernel_rfl⟩ ⟨by kernel_rfl, by kernel_rfl⟩ (by kernel_rfl) (opens_slice Try.underlying22 (by kernel_rfl) (opens_slice Try.underlying23 (by kernel_rfl) (opens_int Try.underlying2))) (opens_slice Try.underlying23 (by kernel_rfl) (opens_int Try.underlying2)) id (Kd.pair (Kd.slice 23 (Kd.slice 2 (Kd.int .i64))) (Kd.slice 2 (Kd.int .i64))) (fun _ _ _ h => h) (fun x => (GoodList (GoodList (GoodInt .i64))) x.1 ∧ (GoodList (GoodInt .i64)) x.2) (fun _ h0 h1 => ⟨h0, h1⟩)) (hval 0 25 v0 rfl rfl) h0
 obtain ⟨A0_0, c0_0, A0_1, c0_1, rfl, q0_0, r0_0, q0_1, r0_1⟩ := cells_slice_slice hk0
 have k1 := h1
 have lt1 := trod_blocks k1
 obtain ⟨A1, c1, l1, rfl, q1_0, r1_0, g1⟩ := arg_slice (d := (Kd.int .i64)) Try.underlying23 (by kernel_rfl) (opens_int Try.underlying2) (hval 1 23 v1 rfl rfl) h1
 obtain ⟨k, h⟩ := Pure.FnExactLemkeSteps x0_0 x0_1 l1 g0.1 g0.2 g1
 clear hA0 hval0 hsz0
 refine (Pr.laws_FnExactLemkeSteps.calls k A0_0 c0_0 x0_0 A0_1 c0_1 x0_1 A1 c1 l1 true W r0_0 q0_0 r0_1 q0_1 r1_0 q1_0 h).mono ?_
 rintro e W' ⟨rfl, bel0⟩
 have bel : Below W.heap.size W W' := by first | exact bel0 | exact bel0.below
 exact ⟨_, rfl, _, _, _, [], _, [], hW', trodAll_mk1 (shut_bool Try.underlying4 _), (trodAll_cons_mk (Below.trod laidOut (by kernel_rfl) (of_decide_eq_true (by kernel_rfl)) k0 bel lt0) (trodAll_cons_mk (Below.trod laidOut (by kernel_rfl) (of_decide_eq_true (by kernel_rfl)) k1 bel lt1) trodAll_mk0)), rfl, bel.frame _, fun h => by cases h⟩
theorem over : Rows.fnExactLemkeStepsRow.holds Try.pinned (OpenSpec.ofChange Rows.fnExactLemkeStepsSpec) :=
 OpenClaim.holds_of_wide 10 Try.f10 rfl rfl rfl rfl rfl rfl rfl ⟨rfl, rfl, rfl, rfl, rfl⟩ rfl rfl rfl rfl rfl (by kernel_rfl) Try.func10 (by kernel_rfl)
  (of_decide_eq_true (by kernel_rfl)) (by unfold Func.isWrapper; first | (rw [if_pos (by decide +kernel)]; kernel_rfl) | (rw [if_neg (by decide +kernel)]; exact ⟨rfl, rfl⟩))
  (fun os started H enc _ => lifted os started H enc)
theorem proved : Rows.FnExactLemkeStepsSaid := over
#print axioms proved
end Go.Proofs.Ythdoilfjcgickaa.fnExactLemkeSteps
namespace Go.Proofs.Ythdoilfjcgickaa
theorem fnExactLemkeSteps_holds : Rows.FnExactLemkeStepsSaid := fnExactLemkeSteps.proved
end Go.Proofs.Ythdoilfjcgickaa
end
