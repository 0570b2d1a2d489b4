/- Texts of one claim (the words of the kit's print that the claim uses, printed functions, and this session's own texts), joined in the order of their imports by this session's own program (merge.py). -/
import Derived.Test.YthdoilfjcgickaaRows
import Derived.WalkKit
import Derived.ProofKit
import Derived.OpenShut
import Derived.ShutString
import Derived.ChangeOld
import Derived.Below
import Derived.SizedLaws
import Derived.Test.YthdoilfjcgickaaJnFnExactCountLemke0
import Derived.Test.YthdoilfjcgickaaJnFnExactCountLemke1
import Derived.Test.YthdoilfjcgickaaJnFnExactCountLemke2
import Derived.Test.YthdoilfjcgickaaJnFnExactCountLemke3
set_option linter.unusedVariables false
set_option linter.unusedSimpArgs false
set_option maxHeartbeats 8000000
set_option maxRecDepth 100000
section
namespace Go.Proofs.Ythdoilfjcgickaa.Pr
open Go.RowKit Go.Proofs.YthdoilfjcgickaaW.PrintWords Go.Proofs.YthdoilfjcgickaaW.PrintLast Go.Proofs.YthdoilfjcgickaaW.PrintMore Go.Proofs.Ythdoilfjcgickaa.La Go.Proofs.Ythdoilfjcgickaa.Hm Go.Proofs.Ythdoilfjcgickaa.Lw
theorem laws_FnExactCountLemke.walk (k : Nat) (A0_0 : Option Addr) (c0_0 : Nat) (l0_0 : List (List Int)) (A0_1 : Option Addr) (c0_1 : Nat) (l0_1 : List Int) (a1 : Int) (t15 : Int) (s0 : Int) (s1 : Int) (s2 : Int) (w : World) (hr0_0 : Kd.C (Kd.slice 2 (Kd.int .i64)) w A0_0 l0_0.length l0_0) (hc0_0 : l0_0.length ≤ c0_0) (hr0_1 : Kd.C (Kd.int .i64) w A0_1 l0_1.length l0_1) (hc0_1 : l0_1.length ≤ c0_1) (h1 : laws_szProblem.f k l0_0 l0_1 1048576 = some t15) (h2 : ¬ t15 < 0) (h3 : laws_toProblem.f k l0_0 l0_1 = some (l0_0, l0_1)) (h4 : spec_CountLemke.f k l0_0 l0_1 a1 = some (s0, s1, s2)) (h5 : impl_CountLemke.f k l0_0 l0_1 a1 = some (s0, s1, s2)) (h6 : laws_eqProblem.f k l0_0 l0_1 l0_0 l0_1 = some true) :
  Calls Try.prog 12 #[.agg #[.slice A0_0 l0_0.length c0_0, .slice A0_1 l0_1.length c0_1], .int .i64 a1] w fun e w' => e = .returned (.bool true) ∧ Below w.heap.size w w' := by
 have HR0_0 := Aside0.mk hr0_0
 have HC0_0 := Aside0.mk hc0_0
 clear hr0_0 hc0_0
 have HR0_1 := Aside0.mk hr0_1
 have HC0_1 := Aside0.mk hc0_1
 clear hr0_1 hc0_1
 have HB := Aside0.mk (Below.refl w.heap.size w)
 have H1' := Aside0.mk h1
 clear h1
 have H3' := Aside0.mk h3
 clear h3
 have H4' := Aside0.mk h4
 clear h4
 have H5' := Aside0.mk h5
 clear h5
 have H6' := Aside0.mk h6
 clear h6
 go_enter Try.func12, Try.ntmps12
 go_wp2_with (first | ((with_reducible refine gate_dst (N := 2) rfl ?_); refine box_event ?hg (N := 2) ?hd (cs := #[.slice A0_0 l0_0.length c0_0, .slice A0_1 l0_1.length c0_1]) (t := 25) ?hr ?_; (case hd => rfl); (case hg => rfl); (case hr => first | (go_simp; done) | (go_simp; rfl)); intro g2 hg w1 hbox hb; have Gg2 : Aside0 (g2 = w.heap.size) := ⟨hg⟩; have Kg2 := Aside0.mk (blk_lt hbox); clear hg; have n_HB := Aside0.mk (below_step HB.out hb); have NN1 : Aside0 (w.heap.size ≤ w1.heap.size) := ⟨hb.size⟩; clear HB; have HB := n_HB; clear n_HB; have Bg2 := Aside0.mk hbox; clear hb hbox; have hc2_0 : w1.cell? ⟨g2, 0, none⟩ = some (.slice A0_0 l0_0.length c0_0) := (blk_cell Bg2.out 0).trans rfl; have hf2_0 := blk_frozen Bg2.out 0; have hc2_1 : w1.cell? ⟨g2, 1, none⟩ = some (.slice A0_1 l0_1.length c0_1) := (blk_cell Bg2.out 1).trans rfl; have hf2_1 := blk_frozen Bg2.out 1) | ((with_reducible refine gate_callee (f := 15) rfl ?_); refine gL_ 15 Try.func15 #[.agg #[.slice A0_0 l0_0.length c0_0, .slice A0_1 l0_1.length c0_1], .int .i64 1048576] ?_; refine (laws_szProblem.calls k _ _ l0_0 _ _ l0_1 1048576 t15 _ ?s1 ?s2 ?s3 ?s4 H1'.out).mono ?_; (case s1 => exact Kd.C_below HR0_0.out HB.out); (case s2 => exact HC0_0.out); (case s3 => exact Kd.C_below HR0_1.out HB.out); (case s4 => exact HC0_1.out); rintro e w2 ⟨rfl, hb⟩; refine ⟨_, rfl, ?_⟩; have n_Bg2 := Aside0.mk (blk_below Bg2.out hb); have n_HB := Aside0.mk (below_step HB.out hb); have NN2 : Aside0 (w1.heap.size ≤ w2.heap.size) := ⟨hb.size⟩; clear hc2_0 hf2_0; clear hc2_1 hf2_1; clear Bg2 HB; have Bg2 := n_Bg2; have HB := n_HB; clear n_Bg2 n_HB; clear hb; have hc2_0 : w2.cell? ⟨g2, 0, none⟩ = some (.slice A0_0 l0_0.length c0_0) := (blk_cell Bg2.out 0).trans rfl; have hf2_0 := blk_frozen Bg2.out 0; have hc2_1 : w2.cell? ⟨g2, 1, none⟩ = some (.slice A0_1 l0_1.length c0_1) := (blk_cell Bg2.out 1).trans rfl; have hf2_1 := blk_frozen Bg2.out 1) | ((with_reducible refine gate_callee (f := 17) rfl ?_); refine gL_ 20 Try.func17 #[.agg #[.slice A0_0 l0_0.length c0_0, .slice A0_1 l0_1.length c0_1]] ?_; refine (laws_toProblem.calls k _ _ l0_0 _ _ l0_1 l0_0 l0_1 _ ?s1 ?s2 ?s3 ?s4 H3'.out).mono ?_; (case s1 => exact Kd.C_below HR0_0.out HB.out); (case s2 => exact HC0_0.out); (case s3 => exact Kd.C_below HR0_1.out HB.out); (case s4 => exact HC0_1.out); rintro e w3 ⟨v20_0, v20_1, rfl, ho0, ho1, hb⟩; refine ⟨_, rfl, ?_⟩; have nu0 := Aside0.mk (UP.of ho0 ho1 HB.out.size); have n_Bg2 := Aside0.mk (blk_below Bg2.out hb); have n_HB := Aside0.mk (below_step HB.out hb); have NN3 : Aside0 (w2.heap.size ≤ w3.heap.size) := ⟨hb.size⟩; clear hc2_0 hf2_0; clear hc2_1 hf2_1; clear Bg2 HB; have Bg2 := n_Bg2; have HB := n_HB; clear n_Bg2 n_HB; clear hb ho0 ho1; have U20 := nu0; clear nu0; obtain ⟨A20_0, c20_0, A20_1, c20_1, e0, e1⟩ := U20.out.slices; subst e0; subst e1) | ((with_reducible refine gate_callee (f := 48) rfl ?_); refine gL_ 22 Try.func48 #[.agg #[.slice A20_0 l0_0.length c20_0, .slice A20_1 l0_1.length c20_1], .int .i64 a1] ?_; refine (spec_CountLemke.calls k _ _ l0_0 _ _ l0_1 a1 s0 s1 s2 _ ?s1 ?s2 ?s3 ?s4 H4'.out).mono ?_; (case s1 => exact U20.out.C0); (case s2 => exact U20.out.cap0); (case s3 => exact U20.out.C1); (case s4 => exact U20.out.cap1); rintro e w4 ⟨rfl, hb⟩; refine ⟨_, rfl, ?_⟩; have n_U20 := Aside0.mk (U20.out.mvB (Frm.below hb)); have n_Bg2 := Aside0.mk (blk_below Bg2.out hb); have n_HB := Aside0.mk (below_step HB.out hb); have NN4 : Aside0 (w3.heap.size ≤ w4.heap.size) := ⟨hb.size⟩; clear U20 Bg2 HB; have U20 := n_U20; have Bg2 := n_Bg2; have HB := n_HB; clear n_U20 n_Bg2 n_HB; clear hb; have hc2_0 : w4.cell? ⟨g2, 0, none⟩ = some (.slice A0_0 l0_0.length c0_0) := (blk_cell Bg2.out 0).trans rfl; have hf2_0 := blk_frozen Bg2.out 0; have hc2_1 : w4.cell? ⟨g2, 1, none⟩ = some (.slice A0_1 l0_1.length c0_1) := (blk_cell Bg2.out 1).trans rfl; have hf2_1 := blk_frozen Bg2.out 1) | ((with_reducible refine gate_callee (f := 17) rfl ?_); refine gL_ 27 Try.func17 #[.agg #[.slice A0_0 l0_0.length c0_0, .slice A0_1 l0_1.length c0_1]] ?_; refine (laws_toProblem.calls k _ _ l0_0 _ _ l0_1 l0_0 l0_1 _ ?s1 ?s2 ?s3 ?s4 H3'.out).mono ?_; (case s1 => exact Kd.C_below HR0_0.out HB.out); (case s2 => exact HC0_0.out); (case s3 => exact Kd.C_below HR0_1.out HB.out); (case s4 => exact HC0_1.out); rintro e w5 ⟨v27_0, v27_1, rfl, ho0, ho1, hb⟩; refine ⟨_, rfl, ?_⟩; have nu0 := Aside0.mk (UP.of ho0 ho1 HB.out.size); have n_U20 := Aside0.mk (U20.out.mvB (Frm.below hb)); have n_Bg2 := Aside0.mk (blk_below Bg2.out hb); have n_HB := Aside0.mk (below_step HB.out hb); have NN5 : Aside0 (w4.heap.size ≤ w5.heap.size) := ⟨hb.size⟩; clear hc2_0 hf2_0; clear hc2_1 hf2_1; clear U20 Bg2 HB; have U20 := n_U20; have Bg2 := n_Bg2; have HB := n_HB; clear n_U20 n_Bg2 n_HB; clear hb ho0 ho1; have U27 := nu0; clear nu0; obtain ⟨A27_0, c27_0, A27_1, c27_1, e0, e1⟩ := U27.out.slices; subst e0; subst e1) | ((with_reducible refine gate_dst (N := 9) rfl ?_); refine box_event ?hg (N := 9) ?hd (cs := #[.slice none 0 0, .slice none 0 0]) (t := 29) ?hr ?_; (case hd => rfl); (case hg => rfl); (case hr => first | (go_simp; done) | (go_simp; rfl)); intro g9 hg w6 hbox hb; have Gg9 : Aside0 (g9 = w5.heap.size) := ⟨hg⟩; have Kg9 := Aside0.mk (blk_lt hbox); clear hg; have n_U20 := Aside0.mk (U20.out.mvB (Frm.below hb)); have n_U27 := Aside0.mk (U27.out.mvB (Frm.below hb)); have n_Bg2 := Aside0.mk (blk_below Bg2.out hb); have n_HB := Aside0.mk (below_step HB.out hb); have NN6 : Aside0 (w5.heap.size ≤ w6.heap.size) := ⟨hb.size⟩; clear U20 U27 Bg2 HB; have U20 := n_U20; have U27 := n_U27; have Bg2 := n_Bg2; have HB := n_HB; clear n_U20 n_U27 n_Bg2 n_HB; have Bg9 := Aside0.mk hbox; clear hb hbox; have hc9_0 : w6.cell? ⟨g9, 0, none⟩ = some (.slice none 0 0) := (blk_cell Bg9.out 0).trans rfl; have hf9_0 := blk_frozen Bg9.out 0; have hc9_1 : w6.cell? ⟨g9, 1, none⟩ = some (.slice none 0 0) := (blk_cell Bg9.out 1).trans rfl; have hf9_1 := blk_frozen Bg9.out 1) | ((with_reducible refine gate_store (t := 29) (p := 9) rfl ?_); refine store_event (t := 29) (p := 9) (v := ?vo_w7) (w1 := ((w6.setCell ⟨g9, 0, none⟩ (.slice A27_0 l0_0.length c27_0)).setCell ⟨g9, 1, none⟩ (.slice A27_1 l0_1.length c27_1))) ?hg ?ho ?hn ?hr ?_; (case ho => rfl); (case hg => rfl); (case hn => rfl); (case hr => first | (go_simp; done) | (go_simp; rfl)); intro w7 hw; have hge : w.heap.size ≤ g9 := (by have := NN1.out; have := Gg2.out; have := Kg2.out; have := NN2.out; have := NN3.out; have := NN4.out; have := NN5.out; have := NN6.out; have := Gg9.out; have := Kg9.out; have := HB.out.size; omega); have hF : Frm w6 w7 g9 (g9 + 1) := (by rw [hw]; exact (Frm.trans (Frm.set _ _ _ _) (Frm.set _ _ _ _))); have nb := Aside0.mk (show w7.heap[g9]? = some (.cells #[.slice A27_0 l0_0.length c27_0, .slice A27_1 l0_1.length c27_1] 29 (0, 0)) from (by rw [hw]; exact (blk_put (blk_put Bg9.out 0 _ rfl) 1 _ rfl))); have n_U20 := Aside0.mk (U20.out.mv hF (by have := NN1.out; have := Gg2.out; have := Kg2.out; have := NN2.out; have := NN3.out; have := NN4.out; have := NN5.out; have := NN6.out; have := Gg9.out; have := Kg9.out; omega)); have n_U27 := Aside0.mk (U27.out.mv hF (by have := NN1.out; have := Gg2.out; have := Kg2.out; have := NN2.out; have := NN3.out; have := NN4.out; have := NN5.out; have := NN6.out; have := Gg9.out; have := Kg9.out; omega)); have n_Bg2 := Aside0.mk ((hF.same g2 (blk_lt Bg2.out) (by have := NN1.out; have := Gg2.out; have := Kg2.out; have := NN2.out; have := NN3.out; have := NN4.out; have := NN5.out; have := NN6.out; have := Gg9.out; have := Kg9.out; omega)).trans Bg2.out); have n_HB := Aside0.mk ((by rw [hw]; exact (below_set (below_set HB.out hge) hge) : Below w.heap.size w w7)); have NN7 : Aside0 (w6.heap.size ≤ w7.heap.size) := ⟨hF.size⟩; clear hc9_0 hf9_0; clear hc9_1 hf9_1; clear U20 U27 Bg2 HB; have U20 := n_U20; have U27 := n_U27; have Bg2 := n_Bg2; have HB := n_HB; clear n_U20 n_U27 n_Bg2 n_HB; clear Bg9; have Bg9 := nb; clear nb hF hge hw; have hc9_0 : w7.cell? ⟨g9, 0, none⟩ = some (.slice A27_0 l0_0.length c27_0) := (blk_cell Bg9.out 0).trans rfl; have hf9_0 := blk_frozen Bg9.out 0; have hc9_1 : w7.cell? ⟨g9, 1, none⟩ = some (.slice A27_1 l0_1.length c27_1) := (blk_cell Bg9.out 1).trans rfl; have hf9_1 := blk_frozen Bg9.out 1) | ((with_reducible refine gate_callee (f := 49) rfl ?_); refine gL_ 31 Try.func49 #[.agg #[.slice A27_0 l0_0.length c27_0, .slice A27_1 l0_1.length c27_1], .int .i64 a1] ?_; refine (impl_CountLemke.calls k _ _ l0_0 _ _ l0_1 a1 s0 s1 s2 _ ?s1 ?s2 ?s3 ?s4 H5'.out).mono ?_; (case s1 => exact U27.out.C0); (case s2 => exact U27.out.cap0); (case s3 => exact U27.out.C1); (case s4 => exact U27.out.cap1); rintro e w8 ⟨rfl, hb⟩; refine ⟨_, rfl, ?_⟩; have n_U20 := Aside0.mk (U20.out.mvB (Frm.below hb)); have n_U27 := Aside0.mk (U27.out.mvB (Frm.below hb)); have n_Bg2 := Aside0.mk (blk_below Bg2.out hb); have n_Bg9 := Aside0.mk (blk_below Bg9.out hb); have n_HB := Aside0.mk (below_step HB.out hb); have NN8 : Aside0 (w7.heap.size ≤ w8.heap.size) := ⟨hb.size⟩; clear hc9_0 hf9_0; clear hc9_1 hf9_1; clear U20 U27 Bg2 Bg9 HB; have U20 := n_U20; have U27 := n_U27; have Bg2 := n_Bg2; have Bg9 := n_Bg9; have HB := n_HB; clear n_U20 n_U27 n_Bg2 n_Bg9 n_HB; clear hb))
 try go_wp2
 have hb : Below w8.heap.size w8 w8.drew := (Below.refl _ _).drew
 have n_U20 := Aside0.mk (U20.out.mvB (Frm.below hb))
 have n_U27 := Aside0.mk (U27.out.mvB (Frm.below hb))
 have n_Bg2 := Aside0.mk (blk_below Bg2.out hb)
 have n_Bg9 := Aside0.mk (blk_below Bg9.out hb)
 have n_HB := Aside0.mk (below_step HB.out hb)
 have NN9 : Aside0 (w8.heap.size ≤ w8.drew.heap.size) := ⟨hb.size⟩
 clear U20 U27 Bg2 Bg9 HB
 have U20 := n_U20
 have U27 := n_U27
 have Bg2 := n_Bg2
 have Bg9 := n_Bg9
 have HB := n_HB
 clear n_U20 n_U27 n_Bg2 n_Bg9 n_HB
 clear hb
 refine st_ (n := 5) (S := fun w' => w'.cell? ⟨g9, 0, none⟩ = some (.slice A27_0 l0_0.length c27_0) ∧ w'.cell? ⟨g9, 1, none⟩ = some (.slice A27_1 l0_1.length c27_1) ∧ w'.cell? ⟨g2, 0, none⟩ = some (.slice A0_0 l0_0.length c0_0) ∧ w'.cell? ⟨g2, 1, none⟩ = some (.slice A0_1 l0_1.length c0_1)) (ds := []) ⟨(blk_cell Bg9.out 0).trans rfl, (blk_cell Bg9.out 1).trans rfl, (blk_cell Bg2.out 0).trans rfl, (blk_cell Bg2.out 1).trans rfl⟩ (fun hHeld => ?_)
 generalize w8.drew = w9 at U20 U27 Bg2 Bg9 HB NN9 hHeld ⊢
 have hc2_0 : w9.cell? ⟨g2, 0, none⟩ = some (.slice A0_0 l0_0.length c0_0) := (blk_cell Bg2.out 0).trans rfl
 have hf2_0 := blk_frozen Bg2.out 0
 have hc2_1 : w9.cell? ⟨g2, 1, none⟩ = some (.slice A0_1 l0_1.length c0_1) := (blk_cell Bg2.out 1).trans rfl
 have hf2_1 := blk_frozen Bg2.out 1
 have hc9_0 : w9.cell? ⟨g9, 0, none⟩ = some (.slice A27_0 l0_0.length c27_0) := (blk_cell Bg9.out 0).trans rfl
 have hf9_0 := blk_frozen Bg9.out 0
 have hc9_1 : w9.cell? ⟨g9, 1, none⟩ = some (.slice A27_1 l0_1.length c27_1) := (blk_cell Bg9.out 1).trans rfl
 have hf9_1 := blk_frozen Bg9.out 1
 refine tk_ 0 48 ?_; refine tk_ 1 49 ?_
 refine on_ 2 (some 50) (fun K hK => ?_)
 refine goes_ Try.func17 (by kernel_rfl) rfl #[.agg #[.slice A0_0 l0_0.length c0_0, .slice A0_1 l0_1.length c0_1]] (by rfl) rfl rfl (by (try simp only [List.map_toArray, List.map_cons, List.map_nil]); first | done | rfl) ?_
 (refine (laws_toProblem.calls k _ _ l0_0 _ _ l0_1 l0_0 l0_1 _ ?s1 ?s2 ?s3 ?s4 H3'.out).mono ?_; (case s1 => exact Kd.C_below HR0_0.out HB.out); (case s2 => exact HC0_0.out); (case s3 => exact Kd.C_below HR0_1.out HB.out); (case s4 => exact HC0_1.out); rintro e w10 ⟨v50_0, v50_1, rfl, ho0, ho1, hb⟩; refine ⟨_, rfl, ?_⟩; have nu0 := Aside0.mk (UP.of ho0 ho1 HB.out.size); have n_U20 := Aside0.mk (U20.out.mvB (Frm.below hb)); have n_U27 := Aside0.mk (U27.out.mvB (Frm.below hb)); have n_Bg2 := Aside0.mk (blk_below Bg2.out hb); have n_Bg9 := Aside0.mk (blk_below Bg9.out hb); have n_HB := Aside0.mk (below_step HB.out hb); have NN10 : Aside0 (w9.heap.size ≤ w10.heap.size) := ⟨hb.size⟩; clear hc2_0 hf2_0; clear hc2_1 hf2_1; clear hc9_0 hf9_0; clear hc9_1 hf9_1; clear U20 U27 Bg2 Bg9 HB; have U20 := n_U20; have U27 := n_U27; have Bg2 := n_Bg2; have Bg9 := n_Bg9; have HB := n_HB; clear n_U20 n_U27 n_Bg2 n_Bg9 n_HB; clear hb ho0 ho1; have U50 := nu0; clear nu0; obtain ⟨A50_0, c50_0, A50_1, c50_1, e0, e1⟩ := U50.out.slices; subst e0; subst e1)
 refine hK.out _ _ ⟨(blk_cell Bg9.out 0).trans rfl, (blk_cell Bg9.out 1).trans rfl, (blk_cell Bg2.out 0).trans rfl, (blk_cell Bg2.out 1).trans rfl⟩ (fun hHeld => ?_)
 clear hK K
 refine norm_ (a' := ?_) ?_ ?_
 rotate_left
 ·show Act.put _ (some 50) _ = _
  simp only [Act.put, List.setIfInBounds_toArray, List.set_cons_zero, List.set_cons_succ, i64_w, i32_w]
  rfl
 refine on_ 3 (some 51) (fun K hK => ?_)
 refine goes_ Try.func20 (by kernel_rfl) rfl #[.agg #[.slice A27_0 l0_0.length c27_0, .slice A27_1 l0_1.length c27_1], .agg #[.slice A50_0 l0_0.length c50_0, .slice A50_1 l0_1.length c50_1]] (by rfl) rfl rfl (by (try simp only [List.map_toArray, List.map_cons, List.map_nil]); first | done | rfl) ?_
 (refine (laws_eqProblem.calls k _ _ l0_0 _ _ l0_1 _ _ l0_0 _ _ l0_1 true _ ?s1 ?s2 ?s3 ?s4 ?s5 ?s6 ?s7 ?s8 H6'.out).mono ?_; (case s1 => exact U27.out.C0); (case s2 => exact U27.out.cap0); (case s3 => exact U27.out.C1); (case s4 => exact U27.out.cap1); (case s5 => exact U50.out.C0); (case s6 => exact U50.out.cap0); (case s7 => exact U50.out.C1); (case s8 => exact U50.out.cap1); rintro e w11 ⟨rfl, hb⟩; refine ⟨_, rfl, ?_⟩; have n_U20 := Aside0.mk (U20.out.mvB (Frm.below hb)); have n_U27 := Aside0.mk (U27.out.mvB (Frm.below hb)); have n_U50 := Aside0.mk (U50.out.mvB (Frm.below hb)); have n_Bg2 := Aside0.mk (blk_below Bg2.out hb); have n_Bg9 := Aside0.mk (blk_below Bg9.out hb); have n_HB := Aside0.mk (below_step HB.out hb); have NN11 : Aside0 (w10.heap.size ≤ w11.heap.size) := ⟨hb.size⟩; clear U20 U27 U50 Bg2 Bg9 HB; have U20 := n_U20; have U27 := n_U27; have U50 := n_U50; have Bg2 := n_Bg2; have Bg9 := n_Bg9; have HB := n_HB; clear n_U20 n_U27 n_U50 n_Bg2 n_Bg9 n_HB; clear hb)
 refine hK.out _ _ ⟨(blk_cell Bg9.out 0).trans rfl, (blk_cell Bg9.out 1).trans rfl, (blk_cell Bg2.out 0).trans rfl, (blk_cell Bg2.out 1).trans rfl⟩ (fun hHeld => ?_)
 clear hK K
 refine norm_ (a' := ?_) ?_ ?_
 rotate_left
 ·show Act.put _ (some 51) _ = _
  simp only [Act.put, List.setIfInBounds_toArray, List.set_cons_zero, List.set_cons_succ, i64_w, i32_w]
  rfl
 refine pu_ 4 52 ?_
 refine done_ (by kernel_rfl) ?_
 go_wp2
 go_ret
 exact ⟨rfl, HB.out⟩
theorem laws_FnExactCountLemke.small0 (k : Nat) (A0_0 : Option Addr) (c0_0 : Nat) (l0_0 : List (List Int)) (A0_1 : Option Addr) (c0_1 : Nat) (l0_1 : List Int) (a1 : Int) (t15 : Int) (w : World) (hr0_0 : Kd.C (Kd.slice 2 (Kd.int .i64)) w A0_0 l0_0.length l0_0) (hc0_0 : l0_0.length ≤ c0_0) (hr0_1 : Kd.C (Kd.int .i64) w A0_1 l0_1.length l0_1) (hc0_1 : l0_1.length ≤ c0_1) (h1 : laws_szProblem.f k l0_0 l0_1 1048576 = some t15) (h2 : t15 < 0) :
  Calls Try.prog 12 #[.agg #[.slice A0_0 l0_0.length c0_0, .slice A0_1 l0_1.length c0_1], .int .i64 a1] w fun e w' => e = .returned (.bool true) ∧ Below w.heap.size w w' := by
 have HR0_0 := Aside0.mk hr0_0
 have HC0_0 := Aside0.mk hc0_0
 clear hr0_0 hc0_0
 have HR0_1 := Aside0.mk hr0_1
 have HC0_1 := Aside0.mk hc0_1
 clear hr0_1 hc0_1
 have HB := Aside0.mk (Below.refl w.heap.size w)
 have H1' := Aside0.mk h1
 clear h1
 go_enter Try.func12, Try.ntmps12
 go_wp2_with (first | ((with_reducible refine gate_dst (N := 2) rfl ?_); refine box_event ?hg (N := 2) ?hd (cs := #[.slice A0_0 l0_0.length c0_0, .slice A0_1 l0_1.length c0_1]) (t := 25) ?hr ?_; (case hd => rfl); (case hg => rfl); (case hr => first | (go_simp; done) | (go_simp; rfl)); intro g2 hg w1 hbox hb; have Gg2 : Aside0 (g2 = w.heap.size) := ⟨hg⟩; have Kg2 := Aside0.mk (blk_lt hbox); clear hg; have n_HB := Aside0.mk (below_step HB.out hb); have NN1 : Aside0 (w.heap.size ≤ w1.heap.size) := ⟨hb.size⟩; clear HB; have HB := n_HB; clear n_HB; have Bg2 := Aside0.mk hbox; clear hb hbox; have hc2_0 : w1.cell? ⟨g2, 0, none⟩ = some (.slice A0_0 l0_0.length c0_0) := (blk_cell Bg2.out 0).trans rfl; have hf2_0 := blk_frozen Bg2.out 0; have hc2_1 : w1.cell? ⟨g2, 1, none⟩ = some (.slice A0_1 l0_1.length c0_1) := (blk_cell Bg2.out 1).trans rfl; have hf2_1 := blk_frozen Bg2.out 1) | ((with_reducible refine gate_callee (f := 15) rfl ?_); refine gL_ 15 Try.func15 #[.agg #[.slice A0_0 l0_0.length c0_0, .slice A0_1 l0_1.length c0_1], .int .i64 1048576] ?_; refine (laws_szProblem.calls k _ _ l0_0 _ _ l0_1 1048576 t15 _ ?s1 ?s2 ?s3 ?s4 H1'.out).mono ?_; (case s1 => exact Kd.C_below HR0_0.out HB.out); (case s2 => exact HC0_0.out); (case s3 => exact Kd.C_below HR0_1.out HB.out); (case s4 => exact HC0_1.out); rintro e w2 ⟨rfl, hb⟩; refine ⟨_, rfl, ?_⟩; have n_Bg2 := Aside0.mk (blk_below Bg2.out hb); have n_HB := Aside0.mk (below_step HB.out hb); have NN2 : Aside0 (w1.heap.size ≤ w2.heap.size) := ⟨hb.size⟩; clear hc2_0 hf2_0; clear hc2_1 hf2_1; clear Bg2 HB; have Bg2 := n_Bg2; have HB := n_HB; clear n_Bg2 n_HB; clear hb; have hc2_0 : w2.cell? ⟨g2, 0, none⟩ = some (.slice A0_0 l0_0.length c0_0) := (blk_cell Bg2.out 0).trans rfl; have hf2_0 := blk_frozen Bg2.out 0; have hc2_1 : w2.cell? ⟨g2, 1, none⟩ = some (.slice A0_1 l0_1.length c0_1) := (blk_cell Bg2.out 1).trans rfl; have hf2_1 := blk_frozen Bg2.out 1))
 go_ret
 exact ⟨rfl, HB.out⟩
def laws_FnExactCountLemke.ok_walk (k : Nat) (l0_0 : List (List Int)) (l0_1 : List Int) (a1 : Int) : Prop := ∃ (t15 : Int) (s0 : Int) (s1 : Int) (s2 : Int), (laws_szProblem.f k l0_0 l0_1 1048576 = some t15) ∧ (¬ t15 < 0) ∧ (laws_toProblem.f k l0_0 l0_1 = some (l0_0, l0_1)) ∧ (spec_CountLemke.f k l0_0 l0_1 a1 = some (s0, s1, s2)) ∧ (impl_CountLemke.f k l0_0 l0_1 a1 = some (s0, s1, s2)) ∧ (laws_eqProblem.f k l0_0 l0_1 l0_0 l0_1 = some true)
def laws_FnExactCountLemke.ok_small0 (k : Nat) (l0_0 : List (List Int)) (l0_1 : List Int) (a1 : Int) : Prop := ∃ (t15 : Int), (laws_szProblem.f k l0_0 l0_1 1048576 = some t15) ∧ (t15 < 0)
open Classical in
noncomputable def laws_FnExactCountLemke.f (k : Nat) (l0_0 : List (List Int)) (l0_1 : List Int) (a1 : Int) : Option Bool := if laws_FnExactCountLemke.ok_walk k l0_0 l0_1 a1 ∨ laws_FnExactCountLemke.ok_small0 k l0_0 l0_1 a1 then some true else none
theorem laws_FnExactCountLemke.calls (k : Nat) (A0_0 : Option Addr) (c0_0 : Nat) (l0_0 : List (List Int)) (A0_1 : Option Addr) (c0_1 : Nat) (l0_1 : List Int) (a1 : Int) (r : Bool) (w : World) (hr0_0 : Kd.C (Kd.slice 2 (Kd.int .i64)) w A0_0 l0_0.length l0_0) (hc0_0 : l0_0.length ≤ c0_0) (hr0_1 : Kd.C (Kd.int .i64) w A0_1 l0_1.length l0_1) (hc0_1 : l0_1.length ≤ c0_1) (h : laws_FnExactCountLemke.f k l0_0 l0_1 a1 = some r) :
  Calls Try.prog 12 #[.agg #[.slice A0_0 l0_0.length c0_0, .slice A0_1 l0_1.length c0_1], .int .i64 a1] w fun e w' => e = .returned (.bool r) ∧ Below w.heap.size w w' := by
 unfold laws_FnExactCountLemke.f at h
 split at h
 case isFalse => cases h
 rename_i hok
 cases h
 rcases hok with ⟨t15, s0, s1, s2, h1, h2, h3, h4, h5, h6⟩ | ⟨t15, h1, h2⟩
 ·exact laws_FnExactCountLemke.walk k A0_0 c0_0 l0_0 A0_1 c0_1 l0_1 a1 t15 s0 s1 s2 w hr0_0 hc0_0 hr0_1 hc0_1 h1 h2 h3 h4 h5 h6
 ·exact laws_FnExactCountLemke.small0 k A0_0 c0_0 l0_0 A0_1 c0_1 l0_1 a1 t15 w hr0_0 hc0_0 hr0_1 hc0_1 h1 h2
end Go.Proofs.Ythdoilfjcgickaa.Pr
end
section
namespace Go.Proofs.Ythdoilfjcgickaa.Say
open Go.Proofs.Ythdoilfjcgickaa.Op Go.Proofs.Ythdoilfjcgickaa.Pr
def FnExactCountLemke : Prop := ∀ (l0_0 : List (List Int)) (l0_1 : List Int) (a1 : Int), GoodList (GoodList (GoodInt .i64)) l0_0 → GoodList (GoodInt .i64) l0_1 → GoodInt .i64 a1 → ∃ k, laws_FnExactCountLemke.f k l0_0 l0_1 a1 = some true
end Go.Proofs.Ythdoilfjcgickaa.Say
end
section
namespace Go.Proofs.Ythdoilfjcgickaa.Lsa
open Go.RowKit Go.Proofs.YthdoilfjcgickaaW.PrintWords Go.Proofs.YthdoilfjcgickaaW.PrintMore Go.Proofs.Ythdoilfjcgickaa.Ma Go.Proofs.Ythdoilfjcgickaa.Pr Go.Proofs.Ythdoilfjcgickaa.Dt Go.Proofs.Ythdoilfjcgickaa.Lk Go.Proofs.Ythdoilfjcgickaa.Lt Go.Proofs.Ythdoilfjcgickaa.Lq Go.Proofs.Ythdoilfjcgickaa.Lp
theorem rd1 (l : List (List Int)) (i : Nat) : rd_L1 l (i : Int) = l.getD i [] := by simp [rd_L1]
section
variable {n m : Nat} {T : Mat}
theorem at_rows {i : Nat} (hi : i < n) : rd_L1 (rowsM n m T) (i : Int) = rowN T i m := by rw [rd1, rowsM_at hi]
theorem at_num {i j : Nat} (hj : j < m) : rd (rowN T i m) (j : Int) = T i j := by rw [rd_nat, rowN_at hj]
theorem wB {x y : Int} (hx : Bnd x) (hy : Bnd y) : wrap64 (x * y) = x * y := by
 have := prodB hx hy
 exact w64 (by omega) (by omega)
theorem kl_cons {i k : Nat} {x y : Int} (c : Nat) (l : List Nat) : kl T i k x y (c :: l) = if T i c * y = T k c * x then kl T i k x y l else decide (T i c * y < T k c * x) := by
 rw [show kl T i k x y (c :: l) = (if T i c * y < T k c * x then true else if T k c * x < T i c * y then false else kl T i k x y l) from rfl]
 by_cases e : T i c * y = T k c * x
 ·rw [if_pos e, if_neg (by omega), if_neg (by omega)]
 ·rw [if_neg e]
  by_cases f : T i c * y < T k c * x
  ·rw [if_pos f]; simp [f]
  ·rw [if_neg f, if_pos (by omega)]; simp [f]
variable (hT : ∀ a c, a < n → c < m → Bnd (T a c)) (hm : n < m) (hn : n ≤ 1000) (hm2 : m ≤ 1000)
include hT hm hn hm2
theorem key_eq {i k : Nat} (hi : i < n) (hk : k < n) {a b : Int} (ha : Bnd a) (hb : Bnd b) (den : Int) (bs : List Int) : Ev (fun q => spec_l05Key.f q (rowsM n m T) den bs (i : Int) (k : Int) a b) (kl T i k a b (cols n m)) := by
 have loop : ∀ q j, j + q = n → ∀ x y : Int, Ev (fun f => spec_l05Key.l0 f (i : Int) (k : Int) a b (n : Int) x y (j : Int) (rowsM n m T) den bs) (if x = y then kl T i k a b (List.range' j q) else decide (x < y)) := by
  intro q
  induction q with
  | zero =>
   intro j hj x y
   refine evstep (fun f => by rw [spec_l05Key.l0]) (evneg (by omega) (evc ?_))
   by_cases e : x = y
   ·rw [if_pos e]; subst e; simp [List.range', kl]
   ·rw [if_neg e]
  | succ q ih =>
   intro j hj x y
   refine evstep (fun f => by rw [spec_l05Key.l0]) (evpos (by omega) ?_)
   by_cases e : x = y
   ·rw [at_rows hi, at_rows hk, rowN_len, rowN_len, rowsM_len]
    refine evpos e (evpos (by omega) (evpos (by omega) (evpos (by omega) (evpos (by omega) (evpos (by omega) (evpos (by omega) (evpos (by omega) ?_)))))))
    rw [at_num (by omega), at_num (by omega), wB (hT i j hi (by omega)) hb, wB (hT k j hk (by omega)) ha, w64 (x := (j : Int) + 1) (by omega) (by omega), if_pos e, List.range'_succ, kl_cons]
    exact ih (j + 1) (by omega) _ _
   ·rw [if_neg e]
    exact evneg e (evc rfl)
 unfold spec_l05Key.f
 rw [at_rows hi, at_rows hk, rowN_len, rowN_len, rowsM_len, w64 (x := (m : Int) - 1) (by omega) (by omega), show (m : Int) - 1 = ((m - 1 : Nat) : Int) from by omega]
 refine evpos (by omega) (evpos (by omega) (evpos (by omega) (evpos (by omega) (evpos (by omega) (evpos (by omega) (evpos (by omega) ?_))))))
 rw [at_num (by omega), at_num (by omega), wB (hT i _ hi (by omega)) hb, wB (hT k _ hk (by omega)) ha]
 have e : cols n m = (m - 1) :: List.range' 0 n := by unfold cols; rw [List.range_eq_range']
 rw [e, kl_cons]
 exact loop n 0 (by omega) _ _
def encR : Option Nat → Int
 | none => -1
 | some r => (r : Int)
theorem row_eq (s : TS) (hs : s.T = T) {v : Nat} (hv : v < m) (den : Int) (bs : List Int) : Ev (fun q => spec_l05Row.f q (rowsM n m T) den bs (v : Int)) (encR (rowB n m s (fun i => T i v))) := by
 have loop : ∀ q j, j + q = n → ∀ o : Option Nat, (∀ r, o = some r → r < n ∧ 0 < T r v) → Ev (fun f => spec_l05Row.l0 f (v : Int) (encR o) (j : Int) (rowsM n m T) den bs) (encR (lst (fun i => T i v) (fun i j => kl T i j (T i v) (T j v) (cols n m)) (List.range' j q) o)) := by
  intro q
  induction q with
  | zero =>
   intro j hj o ho
   exact evstep (fun f => by rw [spec_l05Row.l0]) (by rw [rowsM_len]; exact evneg (by omega) (evc rfl))
  | succ q ih =>
   intro j hj o ho
   refine evstep (fun f => by rw [spec_l05Row.l0]) ?_
   rw [at_rows (show j < n by omega), rowN_len, rowsM_len, at_num hv]
   refine evpos (by omega) (evpos (by omega) (evpos (by omega) (evpos (by omega) ?_)))
   rw [w64 (x := (j : Int) + 1) (by omega) (by omega), List.range'_succ]
   show Ev _ (encR (lst _ _ (List.range' (j + 1) q) (if 0 < T j v ∧ bet _ j o = true then some j else o)))
   by_cases c : 0 < T j v
   ·refine evpos (by omega) ?_
    cases o with
    | none =>
     rw [if_pos ⟨c, rfl⟩]
     exact evpos (by decide) (ih (j + 1) (by omega) (some j) (fun r hr => by cases hr; exact ⟨by omega, c⟩))
    | some r =>
     obtain ⟨hr, hr2⟩ := ho r rfl
     refine evneg (by show ¬ (r : Int) < 0; omega) (evpos (by show 0 ≤ (r : Int); omega) (evpos (by show (r : Int) < _; omega) ?_))
     show Ev (fun f => if (v : Int) < ((rd_L1 (rowsM n m T) (r : Int)).length : Int) then ((spec_l05Key.f f (rowsM n m T) den bs (j : Int) (r : Int) (T j v) (rd (rd_L1 (rowsM n m T) (r : Int)) (v : Int))).bind fun t951 => if t951 = true then _ else _) else _) _
     rw [at_rows hr, rowN_len, at_num hv]
     refine evpos (by omega) (evbind (key_eq hT hm hn hm2 (show j < n by omega) hr (hT j v (by omega) hv) (hT r v hr hv) den bs) ?_)
     by_cases d : kl T j r (T j v) (T r v) (cols n m) = true
     ·rw [if_pos ⟨c, d⟩]
      exact evpos d (ih (j + 1) (by omega) (some j) (fun r hr => by cases hr; exact ⟨by omega, c⟩))
     ·rw [if_neg (fun h => d h.2)]
      exact evneg d (ih (j + 1) (by omega) (some r) ho)
   ·rw [if_neg (fun h => c h.1)]
    exact evneg (by omega) (ih (j + 1) (by omega) o ho)
 unfold spec_l05Row.f
 have h := loop n 0 (by omega) none (fun r hr => by cases hr)
 unfold rowB
 rw [List.range_eq_range', hs]
 exact h
end
theorem enL_rows {n m : Nat} {T : Mat} {i j : Nat} (hi : i < n) (hj : j < m) : enL (rowsM n m T) i j = T i j := by
 unfold enL
 rw [rowsM_at hi, rowN_at hj]
theorem stT_congr {T T' : Mat} {n m r v : Nat} (h : ∀ i j, i < n → j < m → T i j = T' i j) (hr : r < n) (hv : v < m) (den : Int) {i j : Nat} (hi : i < n) (hj : j < m) : stT T den r v i j = stT T' den r v i j := by
 unfold stT stA evT
 rw [h r v hr hv, h r j hr hj, h i j hi hj, h i v hi hv]
theorem pivot_eq {n m : Nat} {s : TS} {r v : Nat} (hr : r < n) (hv : v < m) (hl : s.bs.length = n) (hn : n ≤ 1000) (hm2 : m ≤ 1000) (hd : s.den ≠ 0) : spec_l05Pivot.f (rowsM n m s.T) s.den s.bs (r : Int) (v : Int) = some (rowsM n m (s.step r v).T, (s.step r v).den, (s.step r v).bs) := by
 have h0 : ((rowsM n m s.T).headD []).length = m := by
  rw [show (rowsM n m s.T).headD [] = (rowsM n m s.T).getD 0 [] from by cases rowsM n m s.T <;> rfl, rowsM_at (by omega), rowN_len]
 unfold spec_l05Pivot.f
 rw [h0, rowsM_len, if_pos ⟨by omega, by omega, by omega, by omega, by omega, by
  rw [List.all_eq_true]
  intro x hx
  unfold rowsM at hx
  obtain ⟨a, _, rfl⟩ := List.mem_map.1 hx
  simp [rowN_len], hn, hm2, by omega, hd⟩]
 rw [Int.toNat_natCast, Int.toNat_natCast, rowsM_congr (Z := stT s.T s.den r v) (fun i j hi hj => stT_congr (fun i j hi hj => enL_rows hi hj) hr hv s.den hi hj)]
 have e : stD (enL (rowsM n m s.T)) r v = stD s.T r v := by unfold stD; rw [enL_rows hr hv]
 rw [e]; rfl
theorem begin_eq {n : Nat} {M : List (List Int)} {cv Q : List Int} (hM : M.length = n) (hQ : Q.length = n) (hr : ∀ x ∈ M, x.length = n) (hcv : cv.length = n) (hn : 0 < n) (hn2 : n ≤ 5) (hMb : ∀ i k, i < n → k < n → ((enL M) i k).natAbs ≤ 20) (hcb : ∀ i, i < n → 0 < cv.getD i 0 ∧ cv.getD i 0 ≤ 20) :
  Ev (fun k => spec_l05Begin.f k M Q cv) (rowsM n (2 * n + 2) (tab0 n (enL M) (fun i => cv.getD i 0) (fun i => Q.getD i 0)), 1, idl n) := by
 obtain ⟨T, hT⟩ : ∃ T, tab0 n (enL M) (fun i => cv.getD i 0) (fun i => Q.getD i 0) = T := ⟨_, rfl⟩
 rw [hT]
 have hid : ∀ i, (idl i).length = i := fun i => by simp [idl]
 have hidn : ∀ i, idl (i + 1) = idl i ++ [(i : Int)] := fun i => by unfold idl; rw [List.range_succ, List.map_append]; rfl
 have loop : ∀ q i, i + q = n → Ev (fun k => spec_l05Begin.l0 k cv (n : Int) (i : Int) M Q (rowsM i (2 * n + 2) T) 1 (idl i)) (rowsM n (2 * n + 2) T, 1, idl n) := by
  intro q
  induction q with
  | zero =>
   intro i hi
   obtain rfl : i = n := by omega
   exact evstep (fun k => by rw [spec_l05Begin.l0]) (evneg (by omega) (evc rfl))
  | succ q ih =>
   intro i hi
   refine evstep (fun k => by rw [spec_l05Begin.l0]) (evpos (by omega) ?_)
   have eln : (M.getD i []).length = n := hr _ (by rw [List.getD_eq_getElem?_getD, List.getElem?_eq_getElem (by omega)]; exact List.getElem_mem _)
   have loop2 : ∀ p j, j + p = n → Ev (fun k => spec_l05Begin.l2 k cv (n : Int) (i : Int) (rowN T i (n + j)) (j : Int) M Q (rowsM i (2 * n + 2) T) 1 (idl i)) (rowsM n (2 * n + 2) T, 1, idl n) := by
    intro p
    induction p with
    | zero =>
     intro j hj
     obtain rfl : j = n := by omega
     refine evstep (fun k => by rw [spec_l05Begin.l2]) ?_
     rw [rowN_len, rowsM_len, hid]
     refine evneg (by omega) (evpos (by omega) (evpos (by omega) (evpos (by omega) (evpos (by omega) (evsome rfl ?_)))))
     refine evpos (by omega) (evpos (by rw [List.length_append, rowN_len]; show j + j + 1 < _; omega) (evpos (by omega) (evpos (by omega) ?_)))
     have hc := hcb i (by omega)
     have e1 : T i (j + j) = - cv.getD i 0 := by rw [← hT]; unfold tab0; rw [if_neg (by omega), if_neg (by omega), if_pos (by omega)]
     have e2 : T i (j + j + 1) = Q.getD i 0 := by rw [← hT]; unfold tab0; rw [if_neg (by omega), if_neg (by omega), if_neg (by omega)]
     rw [rd_nat, rd_nat, w64 (x := -(cv.getD i 0)) (by omega) (by omega), ← e1, ← rowN_next, ← e2, ← rowN_next, w64 (x := (i : Int) + 1) (by omega) (by omega), ← hidn, show j + j + 1 + 1 = 2 * j + 2 from by omega, ← rowsM_next]
     exact ih (i + 1) (by omega)
    | succ p ihp =>
     intro j hj
     have hb := hMb i j (by omega) (by omega)
     have e1 : T i (n + j) = - (M.getD i []).getD j 0 := by rw [← hT]; unfold tab0; rw [if_neg (by omega), if_pos (by omega), show n + j - n = j from by omega]; rfl
     have hb2 : ((M.getD i []).getD j 0).natAbs ≤ 20 := hb
     refine evstep (fun k => by rw [spec_l05Begin.l2]) ?_
     rw [rd1, eln, rowN_len]
     refine evpos (by omega) (evpos (by omega) (evpos (by omega) (evpos (by omega) (evpos (by omega) (evpos (by omega) ?_)))))
     rw [rd_nat, w64 (x := -((M.getD i []).getD j 0)) (by omega) (by omega), ← e1, ← rowN_next, w64 (x := (j : Int) + 1) (by omega) (by omega)]
     exact ihp (j + 1) (by omega)
   have loop1 : ∀ p j, j + p = n → Ev (fun k => spec_l05Begin.l1 k cv (n : Int) (i : Int) (rowN T i j) (j : Int) M Q (rowsM i (2 * n + 2) T) 1 (idl i)) (rowsM n (2 * n + 2) T, 1, idl n) := by
    intro p
    induction p with
    | zero =>
     intro j hj
     obtain rfl : j = n := by omega
     refine evstep (fun k => by rw [spec_l05Begin.l1]) (evneg (by omega) ?_)
     exact loop2 j 0 (by omega)
    | succ p ihp =>
     intro j hj
     have e1 : T i j = if j = i then 1 else 0 := by rw [← hT]; unfold tab0; rw [if_pos (by omega)]
     refine evstep (fun k => by rw [spec_l05Begin.l1]) (evpos (by omega) ?_)
     rw [rowN_len, w64 (x := (j : Int) + 1) (by omega) (by omega)]
     by_cases c : j = i
     ·rw [if_pos c] at e1
      refine evpos (by omega) (evpos (by omega) ?_)
      rw [show rowN T i j ++ [1] = rowN T i (j + 1) from by rw [rowN_next, e1]]
      exact ihp (j + 1) (by omega)
     ·rw [if_neg c] at e1
      refine evneg (by omega) (evpos (by omega) ?_)
      rw [show rowN T i j ++ [0] = rowN T i (j + 1) from by rw [rowN_next, e1]]
      exact ihp (j + 1) (by omega)
   exact loop1 n 0 (by omega)
 unfold spec_l05Begin.f
 rw [hQ]
 exact loop n 0 (by omega)
end Go.Proofs.Ythdoilfjcgickaa.Lsa
end
section
namespace Go.Proofs.Ythdoilfjcgickaa.Pr
open Go.RowKit Go.Proofs.YthdoilfjcgickaaW.PrintWords Go.Proofs.YthdoilfjcgickaaW.PrintLast Go.Proofs.YthdoilfjcgickaaW.PrintMore
attribute [local go_sem] max2_int min2_int max_two min_two max_three min_three max_four min_four
def spec_l05Code.l0 : Nat → List Int → Int → Option (Int)
 | 0, _, _ => none
 | k + 1, x1, x5 => if x5 < (x1.length : Int) then (if 0 ≤ x5 then ((spec_l01In.f (rd x1 x5) 1 20).bind fun t892 => (if t892 = true then (spec_l05Code.l0 k x1 (wrap64 (x5 + 1))) else (some 2))) else (none)) else (some 0)
def spec_l05Code.f (k : Nat) (l0_0 : List (List Int)) (l0_1 : List Int) (l1 : List Int) : Option (Int) := (spec_l01Is.f k l0_0 l0_1).bind fun t890 => (if t890 = true then (if (l1.length : Int) = (l0_1.length : Int) then (spec_l05Code.l0 k l1 0) else (some 2)) else (some 1))
theorem spec_l05Code.mono_l : ∀ k, (∀ y0 y1, LeO (spec_l05Code.l0 k y0 y1) (spec_l05Code.l0 (k + 1) y0 y1))
 | 0 => fun _ _ r h => by simp [spec_l05Code.l0] at h
 | k + 1 => by
  have ih0 := spec_l05Code.mono_l k
  ·intro y0 y1
   unfold spec_l05Code.l0
   repeat' first
   | (with_reducible exact ih0 _ _)
   | (with_reducible exact spec_l01Is.mono _ _ _)
   | (with_reducible exact LeO.refl _)
   | (with_reducible exact LeO.none _)
   | (with_reducible refine LeO.ite ?_ ?_)
   | (with_reducible refine LeO.bind ?_ (fun _ => ?_))
   | exact ih0 _ _
   | exact spec_l01Is.mono _ _ _
   | exact LeO.none _
   | refine LeO.ite ?_ ?_
   | refine LeO.bind ?_ (fun _ => ?_)
theorem spec_l05Code.mono : ∀ a0 a1 a2 k, LeO (spec_l05Code.f k a0 a1 a2) (spec_l05Code.f (k + 1) a0 a1 a2) := by
 intro a0 a1 a2 k
 have ih0 := spec_l05Code.mono_l k
 unfold spec_l05Code.f
 repeat' first
   | (with_reducible exact ih0 _ _)
   | (with_reducible exact spec_l01Is.mono _ _ _)
   | (with_reducible exact LeO.refl _)
   | (with_reducible exact LeO.none _)
   | (with_reducible refine LeO.ite ?_ ?_)
   | (with_reducible refine LeO.bind ?_ (fun _ => ?_))
   | exact ih0 _ _
   | exact spec_l01Is.mono _ _ _
   | exact LeO.none _
   | refine LeO.ite ?_ ?_
   | refine LeO.bind ?_ (fun _ => ?_)
theorem spec_l05Code.calls (k : Nat) (A0_0 : Option Addr) (c0_0 : Nat) (l0_0 : List (List Int)) (A0_1 : Option Addr) (c0_1 : Nat) (l0_1 : List Int) (A1 : Option Addr) (c1 : Nat) (l1 : List Int) (r : Int) (w : World) (hr0_0 : Kd.C (Kd.slice 2 (Kd.int .i64)) w A0_0 l0_0.length l0_0) (hc0_0 : l0_0.length ≤ c0_0) (hr0_1 : Kd.C (Kd.int .i64) w A0_1 l0_1.length l0_1) (hc0_1 : l0_1.length ≤ c0_1) (hr1 : Kd.C (Kd.int .i64) w A1 l1.length l1) (hc1 : l1.length ≤ c1) (h : spec_l05Code.f k l0_0 l0_1 l1 = some r) :
  Calls Try.prog 85 #[.agg #[.slice A0_0 l0_0.length c0_0, .slice A0_1 l0_1.length c0_1], .slice A1 l1.length c1] w fun e w' => e = .returned (.int .i64 r) ∧ Below w.heap.size w w' := by
 have hu29 := Try.underlying29
 have HR0_0 := Aside0.mk hr0_0
 have HC0_0 := Aside0.mk hc0_0
 clear hr0_0 hc0_0
 have HR0_1 := Aside0.mk hr0_1
 have HC0_1 := Aside0.mk hc0_1
 clear hr0_1 hc0_1
 have HR1 := Aside0.mk hr1
 have HC1 := Aside0.mk hc1
 clear hr1 hc1
 have HB := Aside0.mk (Below.refl w.heap.size w)
 have H : ((spec_l01Is.f k l0_0 l0_1).bind fun t890 => (if t890 = true then (if (l1.length : Int) = (l0_1.length : Int) then (spec_l05Code.l0 k l1 0) else (some 2)) else (some 1))) = some r := h
 clear h
 replace H := Option.bind_eq_some_iff.mp H
 obtain ⟨t890, A30, H⟩ := H
 replace H : (if t890 = true then (if (l1.length : Int) = (l0_1.length : Int) then (spec_l05Code.l0 k l1 0) else (some 2)) else (some 1)) = some r := H
 have A3 := Aside0.mk A30
 clear A30
 by_cases c4 : t890 = true
 ·subst c4
  have H1 : (if (l1.length : Int) = (l0_1.length : Int) then (spec_l05Code.l0 k l1 0) else (some 2)) = some r := by rw [if_pos rfl] at H; exact H
  clear H
  have H := H1
  clear H1
  by_cases c5 : (l1.length : Int) = (l0_1.length : Int)
  ·rw [if_pos c5] at H
   have c5b0 : ((l1.length : Int) == (l0_1.length : Int)) = true := beq_iff_eq.mpr c5
   have c5b1 : ((l1.length : Int) != (l0_1.length : Int)) = false := bne_eq_false_iff_eq.mpr c5
   have c5b2 : (l1.length == l0_1.length) = true := by first | simpa using c5 | (simp at c5 ⊢; omega)
   clear c5
   have H' := Aside0.mk H
   clear H
   go_enter Try.func85, Try.ntmps85
   go_wp2_with (first | ((with_reducible refine gate_dst (N := 2) rfl ?_); refine box_event ?hg (N := 2) ?hd (cs := #[.slice A0_0 l0_0.length c0_0, .slice A0_1 l0_1.length c0_1]) (t := 29) ?hr ?_; (case hd => rfl); (case hg => rfl); (case hr => first | (go_simp; done) | (go_simp; rfl)); intro gb889 hg w6 hbox hb; have n0_ := Aside0.mk (bs_ hb); have n1_ := Aside0.mk (hbox); have n2_ := Aside0.mk ((by rw [hg]; exact bz_ : w.heap.size ≤ gb889)); have n3_ := Aside0.mk ((by rw [hg]; exact bz_ : w.heap.size ≤ gb889)); clear HB; have HB := n0_; have BK889 := n1_; have GW889 := n2_; have GE889 := n3_; clear n0_ n1_ n2_ n3_; clear hb hbox hg; have hcz7_0 : w6.cell? ⟨gb889, 0, none⟩ = some (.slice A0_0 l0_0.length c0_0) := (blk_cell BK889.out 0).trans rfl; have hcz7_1 : w6.cell? ⟨gb889, 1, none⟩ = some (.slice A0_1 l0_1.length c0_1) := (blk_cell BK889.out 1).trans rfl; have hfz7_0 := blk_frozen BK889.out 0; have hfz7_1 := blk_frozen BK889.out 1) | ((with_reducible refine gate_callee (f := 66) rfl ?_); refine gL_ 7 Try.func66 #[.agg #[.slice A0_0 l0_0.length c0_0, .slice A0_1 l0_1.length c0_1]] ?_; (with_reducible refine (spec_l01Is.calls k _ _ l0_0 _ _ l0_1 true _ ?side1 ?side2 ?side3 ?side4 A3.out).mono ?_); (case side1 => exact cb_ HR0_0.out HB.out); (case side2 => exact HC0_0.out); (case side3 => exact cb_ HR0_1.out HB.out); (case side4 => exact HC0_1.out); rintro e w8 ⟨rfl, hb⟩; refine ⟨_, rfl, ?_⟩; have n0_ := Aside0.mk (bb_ BK889.out hb); have n1_ := Aside0.mk (bs_ hb); clear BK889; clear HB; have BK889 := n0_; have HB := n1_; clear n0_ n1_; (try clear hb); (try clear hb2); (try clear hk); (try clear hi); have hcz9_0 : w8.cell? ⟨gb889, 0, none⟩ = some (.slice A0_0 l0_0.length c0_0) := (blk_cell BK889.out 0).trans rfl; have hcz9_1 : w8.cell? ⟨gb889, 1, none⟩ = some (.slice A0_1 l0_1.length c0_1) := (blk_cell BK889.out 1).trans rfl; have hfz9_0 := blk_frozen BK889.out 0; have hfz9_1 := blk_frozen BK889.out 1))
   go_loopg [5] k (fun kq v5 w' => ∃ (x5_1 : Int), v5 = .int .i64 x5_1 ∧ Aside0 (spec_l05Code.l0 kq l1 x5_1 = some r) ∧ Aside0 (kq ≤ k) ∧ Aside0 (w'.heap[gb889]? = some (.cells #[(.slice A0_0 l0_0.length c0_0), (.slice A0_1 l0_1.length c0_1)] 29 (0, 0))) ∧ Aside0 (Below w.heap.size w w'))
   case atStart => exact ⟨(0), rs_, H', ⟨Nat.le_refl _⟩, ⟨bk_⟩, ⟨hb_⟩⟩
   case round =>
    clear H'
    try clear c1
    try clear p2
    try clear c4
    try clear c5
    try clear c5b0
    try clear c5b1
    try clear c5b2
    try clear c6
    try clear c8
    try clear hcz7_0
    try clear hcz7_1
    try clear hcz9_0
    try clear hcz9_1
    try clear hfz7_0
    try clear hfz7_1
    try clear hfz9_0
    try clear hfz9_1
    obtain ⟨x5_1, rfl, HA, HK1, BK889, HB⟩ := hrel
    cases gk with
    | zero => exact absurd HA.out (by simp [spec_l05Code.l0])
    | succ k1 =>
     have H := HA.out
     clear HA
     simp only [spec_l05Code.l0] at H
     by_cases c10 : x5_1 < (l1.length : Int)
     ·rw [if_pos c10] at H
      have c10b0 : decide (x5_1 < (l1.length : Int)) = true := decide_eq_true c10
      clear c10
      by_cases c11 : 0 ≤ x5_1
      ·rw [if_pos c11] at H
       have c11b0 : decide (0 ≤ x5_1) = true := decide_eq_true c11
       clear c11
       replace H := Option.bind_eq_some_iff.mp H
       obtain ⟨t892, A120, H⟩ := H
       replace H : (if t892 = true then (spec_l05Code.l0 k1 l1 (wrap64 (x5_1 + 1))) else (some 2)) = some r := H
       have A12 := Aside0.mk A120
       clear A120
       by_cases c13 : t892 = true
       ·subst c13
        have H1 : (spec_l05Code.l0 k1 l1 (wrap64 (x5_1 + 1))) = some r := by rw [if_pos rfl] at H; exact H
        clear H
        have H := H1
        clear H1
        have H' := Aside0.mk H
        clear H
        have p891 : 0 ≤ (x5_1 : Int) := od_
        have q891 : x5_1 < (l1.length : Int) := od_
        obtain ⟨ad891, e891, hx891_0⟩ := Kd.at_int HR1.out x5_1 p891 q891
        cases e891
        replace hx891_0 := (HB.out.cell (World.block_lt_of_cell? w _ hx891_0)).trans hx891_0
        replace p891 := eq_true p891
        replace q891 := eq_true q891
        go_wp2_with (first | ((with_reducible refine gate_callee (f := 91) rfl ?_); refine gL_ 25 Try.func91 #[.int .i64 (rd l1 x5_1), .int .i64 1, .int .i64 20] ?_; (with_reducible refine (spec_l01In.calls (rd l1 x5_1) 1 20 true _ A12.out).mono ?_); rintro e w' ⟨rfl, ⟨nd, rfl⟩⟩; refine ⟨_, rfl, ?_⟩))
        go_roundg k1
        case measure => have := HK1.out; omega
        case rel => exact ⟨(wrap64 (x5_1 + 1)), rs_, H', ⟨by have := HK1.out; omega⟩, ⟨bk_⟩, ⟨hb_⟩⟩
       ·replace c13 := Bool.eq_false_iff.mpr c13
        subst c13
        have H1 : (some 2) = some r := by rw [if_neg (show ¬ (false = true) by decide)] at H; exact H
        clear H
        have H := H1
        clear H1
        obtain rfl := Option.some.inj H
        have p891 : 0 ≤ (x5_1 : Int) := od_
        have q891 : x5_1 < (l1.length : Int) := od_
        obtain ⟨ad891, e891, hx891_0⟩ := Kd.at_int HR1.out x5_1 p891 q891
        cases e891
        replace hx891_0 := (HB.out.cell (World.block_lt_of_cell? w _ hx891_0)).trans hx891_0
        replace p891 := eq_true p891
        replace q891 := eq_true q891
        go_wp2_with (first | ((with_reducible refine gate_callee (f := 91) rfl ?_); refine gL_ 25 Try.func91 #[.int .i64 (rd l1 x5_1), .int .i64 1, .int .i64 20] ?_; (with_reducible refine (spec_l01In.calls (rd l1 x5_1) 1 20 false _ A12.out).mono ?_); rintro e w' ⟨rfl, ⟨nd, rfl⟩⟩; refine ⟨_, rfl, ?_⟩))
        go_ret
        exact ⟨by first | rfl | (simp [errW_none, errW_some] <;> rfl) | (simp [*, errW_none, errW_some] <;> rfl), hb_⟩
      ·rw [if_neg c11] at H
       exact absurd H (by simp)
     ·rw [if_neg c10] at H
      have c10b0 : decide (x5_1 < (l1.length : Int)) = false := decide_eq_false c10
      clear c10
      obtain rfl := Option.some.inj H
      go_wp2
      go_ret
      exact ⟨by first | rfl | (simp [errW_none, errW_some] <;> rfl) | (simp [*, errW_none, errW_some] <;> rfl), hb_⟩
  ·rw [if_neg c5] at H
   have c5b0 : ((l1.length : Int) == (l0_1.length : Int)) = false := beq_eq_false_iff_ne.mpr c5
   have c5b1 : ((l1.length : Int) != (l0_1.length : Int)) = true := bne_iff_ne.mpr c5
   have c5b2 : (l1.length == l0_1.length) = false := by first | simpa using c5 | (simp at c5 ⊢; omega)
   obtain rfl := Option.some.inj H
   go_enter Try.func85, Try.ntmps85
   go_wp2_with (first | ((with_reducible refine gate_dst (N := 2) rfl ?_); refine box_event ?hg (N := 2) ?hd (cs := #[.slice A0_0 l0_0.length c0_0, .slice A0_1 l0_1.length c0_1]) (t := 29) ?hr ?_; (case hd => rfl); (case hg => rfl); (case hr => first | (go_simp; done) | (go_simp; rfl)); intro gb889 hg w14 hbox hb; have n0_ := Aside0.mk (bs_ hb); have n1_ := Aside0.mk (hbox); have n2_ := Aside0.mk ((by rw [hg]; exact bz_ : w.heap.size ≤ gb889)); have n3_ := Aside0.mk ((by rw [hg]; exact bz_ : w.heap.size ≤ gb889)); clear HB; have HB := n0_; have BK889 := n1_; have GW889 := n2_; have GE889 := n3_; clear n0_ n1_ n2_ n3_; clear hb hbox hg; have hcz15_0 : w14.cell? ⟨gb889, 0, none⟩ = some (.slice A0_0 l0_0.length c0_0) := (blk_cell BK889.out 0).trans rfl; have hcz15_1 : w14.cell? ⟨gb889, 1, none⟩ = some (.slice A0_1 l0_1.length c0_1) := (blk_cell BK889.out 1).trans rfl; have hfz15_0 := blk_frozen BK889.out 0; have hfz15_1 := blk_frozen BK889.out 1) | ((with_reducible refine gate_callee (f := 66) rfl ?_); refine gL_ 7 Try.func66 #[.agg #[.slice A0_0 l0_0.length c0_0, .slice A0_1 l0_1.length c0_1]] ?_; (with_reducible refine (spec_l01Is.calls k _ _ l0_0 _ _ l0_1 true _ ?side1 ?side2 ?side3 ?side4 A3.out).mono ?_); (case side1 => exact cb_ HR0_0.out HB.out); (case side2 => exact HC0_0.out); (case side3 => exact cb_ HR0_1.out HB.out); (case side4 => exact HC0_1.out); rintro e w16 ⟨rfl, hb⟩; refine ⟨_, rfl, ?_⟩; have n0_ := Aside0.mk (bb_ BK889.out hb); have n1_ := Aside0.mk (bs_ hb); clear BK889; clear HB; have BK889 := n0_; have HB := n1_; clear n0_ n1_; (try clear hb); (try clear hb2); (try clear hk); (try clear hi); have hcz17_0 : w16.cell? ⟨gb889, 0, none⟩ = some (.slice A0_0 l0_0.length c0_0) := (blk_cell BK889.out 0).trans rfl; have hcz17_1 : w16.cell? ⟨gb889, 1, none⟩ = some (.slice A0_1 l0_1.length c0_1) := (blk_cell BK889.out 1).trans rfl; have hfz17_0 := blk_frozen BK889.out 0; have hfz17_1 := blk_frozen BK889.out 1))
   go_ret
   exact ⟨by first | rfl | (simp [errW_none, errW_some] <;> rfl) | (simp [*, errW_none, errW_some] <;> rfl), hb_⟩
 ·replace c4 := Bool.eq_false_iff.mpr c4
  subst c4
  have H1 : (some 1) = some r := by rw [if_neg (show ¬ (false = true) by decide)] at H; exact H
  clear H
  have H := H1
  clear H1
  obtain rfl := Option.some.inj H
  go_enter Try.func85, Try.ntmps85
  go_wp2_with (first | ((with_reducible refine gate_dst (N := 2) rfl ?_); refine box_event ?hg (N := 2) ?hd (cs := #[.slice A0_0 l0_0.length c0_0, .slice A0_1 l0_1.length c0_1]) (t := 29) ?hr ?_; (case hd => rfl); (case hg => rfl); (case hr => first | (go_simp; done) | (go_simp; rfl)); intro gb889 hg w18 hbox hb; have n0_ := Aside0.mk (bs_ hb); have n1_ := Aside0.mk (hbox); have n2_ := Aside0.mk ((by rw [hg]; exact bz_ : w.heap.size ≤ gb889)); have n3_ := Aside0.mk ((by rw [hg]; exact bz_ : w.heap.size ≤ gb889)); clear HB; have HB := n0_; have BK889 := n1_; have GW889 := n2_; have GE889 := n3_; clear n0_ n1_ n2_ n3_; clear hb hbox hg; have hcz19_0 : w18.cell? ⟨gb889, 0, none⟩ = some (.slice A0_0 l0_0.length c0_0) := (blk_cell BK889.out 0).trans rfl; have hcz19_1 : w18.cell? ⟨gb889, 1, none⟩ = some (.slice A0_1 l0_1.length c0_1) := (blk_cell BK889.out 1).trans rfl; have hfz19_0 := blk_frozen BK889.out 0; have hfz19_1 := blk_frozen BK889.out 1) | ((with_reducible refine gate_callee (f := 66) rfl ?_); refine gL_ 7 Try.func66 #[.agg #[.slice A0_0 l0_0.length c0_0, .slice A0_1 l0_1.length c0_1]] ?_; (with_reducible refine (spec_l01Is.calls k _ _ l0_0 _ _ l0_1 false _ ?side1 ?side2 ?side3 ?side4 A3.out).mono ?_); (case side1 => exact cb_ HR0_0.out HB.out); (case side2 => exact HC0_0.out); (case side3 => exact cb_ HR0_1.out HB.out); (case side4 => exact HC0_1.out); rintro e w20 ⟨rfl, hb⟩; refine ⟨_, rfl, ?_⟩; have n0_ := Aside0.mk (bb_ BK889.out hb); have n1_ := Aside0.mk (bs_ hb); clear BK889; clear HB; have BK889 := n0_; have HB := n1_; clear n0_ n1_; (try clear hb); (try clear hb2); (try clear hk); (try clear hi)))
  go_ret
  exact ⟨by first | rfl | (simp [errW_none, errW_some] <;> rfl) | (simp [*, errW_none, errW_some] <;> rfl), hb_⟩
end Go.Proofs.Ythdoilfjcgickaa.Pr
end
section
namespace Go.Proofs.Ythdoilfjcgickaa.Lsa
open Go.RowKit Go.Proofs.YthdoilfjcgickaaW.PrintWords Go.Proofs.YthdoilfjcgickaaW.PrintMore Go.Proofs.Ythdoilfjcgickaa.Ma Go.Proofs.Ythdoilfjcgickaa.Pr Go.Proofs.Ythdoilfjcgickaa.Dt Go.Proofs.Ythdoilfjcgickaa.Lk Go.Proofs.Ythdoilfjcgickaa.Lt Go.Proofs.Ythdoilfjcgickaa.Lq Go.Proofs.Ythdoilfjcgickaa.Lp
def goS (n m : Nat) : Nat → TS → Nat → Nat → List (List Int) → TS × List (List Int) × Int × Bool
 | 0, s, v, r, st => (s, st, (v : Int), false)
 | q + 1, s, v, r, st =>
  if s.bs.getD r 0 = 2 * (n : Int) then (s.step r v, st ++ [[(v : Int), s.bs.getD r 0]], -1, true)
  else match rowB n m (s.step r v) (fun i => (s.step r v).T i (partner n (s.bs.getD r 0).toNat)) with
   | none => (s.step r v, st ++ [[(v : Int), s.bs.getD r 0]], (partner n (s.bs.getD r 0).toNat : Nat), false)
   | some r' => goS n m q (s.step r v) (partner n (s.bs.getD r 0).toNat) r' (st ++ [[(v : Int), s.bs.getD r 0]])
def runS (n : Nat) (M : Mat) (cv q : Nat → Int) (most : Nat) : TS × List (List Int) × Int × Bool :=
 if feas n q = true then (first n M cv q, [], -1, true)
 else match rowB n (2 * n + 2) (first n M cv q) cv with
  | none => (first n M cv q, [], -1, false)
  | some r => goS n (2 * n + 2) most (first n M cv q) (2 * n) r []
def encS (n m : Nat) (R : TS × List (List Int) × Int × Bool) : (List (List Int)) × Int × List Int × (List (List Int)) × Int × Bool := (rowsM n m R.1.T, R.1.den, R.1.bs, R.2.1, R.2.2.1, R.2.2.2)
theorem partner_lt {n l : Nat} (h : l < 2 * n) : partner n l < 2 * n := by unfold partner; split <;> omega
theorem spartner {n l : Nat} (hn : n ≤ 1000) (h : l < 2 * n) : spec_l05Partner.f (l : Int) (n : Int) = some ((partner n l : Nat) : Int) := by
 unfold spec_l05Partner.f partner
 by_cases c : l < n
 ·rw [if_pos (by omega), if_pos c, w64 (by omega) (by omega)]; rfl
 ·rw [if_neg (by omega), if_neg c, w64 (by omega) (by omega), show (l : Int) - (n : Int) = ((l - n : Nat) : Int) from by omega]
section
variable {n m : Nat} {A : Mat} (hn : n ≤ 5) (hn0 : 0 < n) (hm : m = 2 * n + 2) (hA : Small n m A) (most : Nat) (hmost : most ≤ 100000)
include hn hn0 hm hA hmost
theorem j2_eq : ∀ (q : Nat) (s : TS) (v r : Nat) (st : List (List Int)), Ok n m A s → st.length + (q + 1) = most → r < n → v < m - 1 → s.T r v ≠ 0 →
  Ev (fun k => spec_l05Run.j2 k (most : Int) (n : Int) st (r : Int) (v : Int) (rowsM n m s.T) s.den s.bs) (encS n m (goS n m (q + 1) s v r st)) := by
 intro q
 induction q with
 | zero =>
  intro s v r st hs hq hr hv hp
  obtain ⟨l, hl⟩ : ∃ l : Nat, s.bs.getD r 0 = (l : Int) := ⟨(s.bs.getD r 0).toNat, by have := hs.nn r hr; omega⟩
  have hlt : l < m - 1 := by have := hs.lt r hr; rw [hl] at this; simp only [Int.toNat_natCast] at this; omega
  refine evstep (fun k => by rw [spec_l05Run.j2]) ?_
  rw [rd_nat, hl]
  refine evpos (by omega) (evpos (by rw [hs.len]; omega) (evpos (by omega) (evsome rfl (evsome (pivot_eq hr (by omega) hs.len (by omega) (by omega) (by have := hs.tab.pos; omega)) ?_))))
  rw [w64 (x := 2 * (n : Int)) (by omega) (by omega)]
  unfold goS
  rw [hl]
  by_cases c : (l : Int) = 2 * (n : Int)
  ·rw [if_pos c]
   exact evpos c (evc rfl)
  ·rw [if_neg c]
   have hp2 := partner_lt (n := n) (l := l) (by omega)
   refine evneg c (evsome (spartner (by omega) (by omega)) (evstep (fun k => by rw [spec_l05Run.l1]) (evneg (by rw [List.length_append]; simp only [List.length_singleton]; omega) (evc ?_))))
   rw [Int.toNat_natCast]
   generalize rowB n m _ _ = o
   cases o <;> rfl
 | succ q ih =>
  intro s v r st hs hq hr hv hp
  obtain ⟨l, hl⟩ : ∃ l : Nat, s.bs.getD r 0 = (l : Int) := ⟨(s.bs.getD r 0).toNat, by have := hs.nn r hr; omega⟩
  have hlt : l < m - 1 := by have := hs.lt r hr; rw [hl] at this; simp only [Int.toNat_natCast] at this; omega
  have hs2 := hs.step hn hA hr (v := v) (by omega) hp
  refine evstep (fun k => by rw [spec_l05Run.j2]) ?_
  rw [rd_nat, hl]
  refine evpos (by omega) (evpos (by rw [hs.len]; omega) (evpos (by omega) (evsome rfl (evsome (pivot_eq hr (by omega) hs.len (by omega) (by omega) (by have := hs.tab.pos; omega)) ?_))))
  rw [w64 (x := 2 * (n : Int)) (by omega) (by omega)]
  unfold goS
  rw [hl]
  by_cases c : (l : Int) = 2 * (n : Int)
  ·rw [if_pos c]
   exact evpos c (evc rfl)
  ·rw [if_neg c]
   have hp2 := partner_lt (n := n) (l := l) (by omega)
   refine evneg c (evsome (spartner (by omega) (by omega)) (evstep (fun k => by rw [spec_l05Run.l1]) (evpos (by rw [List.length_append]; simp only [List.length_singleton]; omega) ?_)))
   rw [w64 (x := 2 * (n : Int)) (by omega) (by omega), Int.toNat_natCast]
   obtain ⟨v2, hv2⟩ : ∃ v2, partner n l = v2 := ⟨_, rfl⟩
   rw [hv2] at hp2 ⊢
   refine evpos (by omega) (evbind (row_eq (T := (s.step r v).T) (fun a c ha hc => hs2.abs hn hA ha hc) (by omega) (by omega) (by omega) (s.step r v) rfl (by omega) (s.step r v).den (s.step r v).bs) ?_)
   obtain ⟨o, ho⟩ : ∃ o, rowB n m (s.step r v) (fun i => (s.step r v).T i v2) = o := ⟨_, rfl⟩
   rw [ho]
   cases o with
   | none => exact evpos (by decide) (evc rfl)
   | some r2 =>
    have h2 := rowB_some ho
    refine evneg (by show ¬ (r2 : Int) < 0; omega) ?_
    exact ih (s.step r v) v2 r2 _ hs2 (by rw [List.length_append]; simp only [List.length_singleton]; omega) h2.1 (by omega) (by have := h2.2; omega)
end
theorem lst_app2 (bf : Nat → Int) (less : Nat → Nat → Bool) (l l' : List Nat) (o : Option Nat) : lst bf less (l ++ l') o = lst bf less l' (lst bf less l o) := by
 induction l generalizing o with
 | nil => rfl
 | cons x l ih => simp only [List.cons_append, lst]; exact ih _
theorem run_eq {M : List (List Int)} {Q cv : List Int} {n : Nat} (h : PC M Q cv n) (most : Nat) (hmost : most ≤ 100000) :
  Ev (fun k => spec_l05Run.f k M Q cv (most : Int)) (encS n (2 * n + 2) (runS n (enL M) (fun i => cv.getD i 0) (fun i => Q.getD i 0) most)) := by
 have hA := first_small (n := n) (M := enL M) (cv := fun i => cv.getD i 0) (q := fun i => Q.getD i 0) h.Mb (fun i hi => by have := h.cb i hi; omega) h.qb
 have hok := first_ok (n := n) (M := enL M) (cv := fun i => cv.getD i 0) (q := fun i => Q.getD i 0)
 have hn := h.le
 have hn0 := h.pos
 have hcl := h.lcv
 obtain ⟨s, hs⟩ : ∃ s, first n (enL M) (fun i => cv.getD i 0) (fun i => Q.getD i 0) = s := ⟨_, rfl⟩
 have hT : tab0 n (enL M) (fun i => cv.getD i 0) (fun i => Q.getD i 0) = s.T := by rw [← hs]; rfl
 have hT2 : ∀ a c, a < n → c < 2 * n + 2 → Bnd (s.T a c) := fun a c ha hc => by rw [← hs]; exact hok.abs hn hA ha hc
 have hcb : ∀ i, i < n → Bnd (cv.getD i 0) := fun i hi => by have := h.cb i hi; exact ⟨by omega, by omega⟩
 unfold spec_l05Run.f
 refine evbind (begin_eq h.lM h.lQ h.rows h.lcv h.pos h.le h.Mb h.cb) ?_
 rw [hT, h.lQ]
 have e1 : (1 : Int) = s.den := by rw [← hs]; rfl
 have e2 : idl n = s.bs := by rw [← hs]; rfl
 have ed : ((rowsM n (2 * n + 2) s.T, (1 : Int), idl n) : List (List Int) × Int × List Int) = (rowsM n (2 * n + 2) s.T, s.den, s.bs) := by rw [← e1, ← e2]
 rw [ed]
 unfold runS
 rw [hs]
 have loop : ∀ q i, i + q = n → ∀ (f : Bool) (r : Nat), f = (List.range i).any (fun j => decide (Q.getD j 0 < 0)) → r < n → (i = 0 → r = 0) → (0 < i → lst (fun i => cv.getD i 0) (fun i j => kl s.T i j (cv.getD i 0) (cv.getD j 0) (cols n (2 * n + 2))) (List.range i) none = some r) →
   Ev (fun k => spec_l05Run.l0 k cv (most : Int) (n : Int) [] f (r : Int) (i : Int) M Q (rowsM n (2 * n + 2) s.T) s.den s.bs) (encS n (2 * n + 2) (if feas n (fun i => Q.getD i 0) = true then (s, [], -1, true) else match rowB n (2 * n + 2) s (fun i => cv.getD i 0) with
    | none => (s, [], -1, false)
    | some r => goS n (2 * n + 2) most s (2 * n) r [])) := by
  intro q
  induction q with
  | zero =>
   intro i hi f r hf hr h0 h1
   obtain rfl : i = n := by omega
   refine evstep (fun k => by rw [spec_l05Run.l0]) (evneg (by rw [h.lQ]; omega) ?_)
   have hrow : rowB i (2 * i + 2) s (fun i => cv.getD i 0) = some r := h1 hn0
   have hfe : feas i (fun i => Q.getD i 0) = !f := by
    rw [hf]; unfold feas
    rw [List.not_any_eq_all_not]
    refine List.all_congr rfl (fun j => ?_)
    by_cases c : Q.getD j 0 < 0
    ·rw [decide_eq_true c, decide_eq_false (by show ¬ 0 ≤ Q.getD j 0; omega)]; rfl
    ·rw [decide_eq_false c, decide_eq_true (by show 0 ≤ Q.getD j 0; omega)]; rfl
   rw [hfe, hrow]
   cases f with
   | false =>
    rw [if_pos (show (!false) = true from rfl)]
    exact evneg (by decide) (evc rfl)
   | true =>
    rw [if_neg (by decide)]
    show Ev _ (encS i (2 * i + 2) (goS i (2 * i + 2) most s (2 * i) r []))
    refine evpos rfl ?_
    rw [w64 (x := 2 * (i : Int)) (by omega) (by omega), show (2 * (i : Int)) = ((2 * i : Nat) : Int) from by omega]
    cases most with
    | zero =>
     refine evstep (fun k => by rw [spec_l05Run.l1]) ?_
     exact (evneg (by show ¬ ((0 : Nat) : Int) < ((0 : Nat) : Int); omega) (evc rfl))
    | succ mm =>
     refine evstep (fun k => by rw [spec_l05Run.l1]) (evpos (by show ((0 : Nat) : Int) < ((mm + 1 : Nat) : Int); omega) (evneg (by rw [w64 (by omega) (by omega)]; omega) ?_))
     refine j2_eq hn hn0 rfl hA (mm + 1) hmost mm s (2 * i) r [] (by rw [← hs]; exact hok) (by simp) hr (by omega) ?_
     rw [← hT]; unfold tab0
     rw [if_neg (by omega), if_neg (by omega), if_pos rfl]
     have := (h.cb r hr).1
     show - cv.getD r 0 ≠ 0
     omega
  | succ q ih =>
   intro i hi f r hf hr h0 h1
   have hl := h.lQ
   have key := key_eq (T := s.T) hT2 (by omega) (by omega) (by omega) (show i < n by omega) hr (hcb i (by omega)) (hcb r hr) s.den s.bs
   obtain ⟨z, hz⟩ : ∃ z, kl s.T i r (cv.getD i 0) (cv.getD r 0) (cols n (2 * n + 2)) = z := ⟨_, rfl⟩
   rw [hz] at key
   have hnext : lst (fun i => cv.getD i 0) (fun i j => kl s.T i j (cv.getD i 0) (cv.getD j 0) (cols n (2 * n + 2))) (List.range (i + 1)) none = some (if z = true then i else r) := by
    rw [List.range_succ, lst_app2]
    by_cases c : i = 0
    ·subst c
     have := h0 rfl
     subst this
     simp only [List.range_zero, lst, bet]
     rw [if_pos ⟨(h.cb 0 hn0).1, trivial⟩]
     simp
    ·rw [h1 (by omega)]
     by_cases d : z = true
     ·rw [if_pos d]
      exact (if_pos ⟨(h.cb i (by omega)).1, hz.trans d⟩ : (if 0 < cv.getD i 0 ∧ kl s.T i r (cv.getD i 0) (cv.getD r 0) (cols n (2 * n + 2)) = true then some i else some r) = some i)
     ·rw [if_neg d]
      exact (if_neg (fun q => d (hz.symm.trans q.2)) : (if 0 < cv.getD i 0 ∧ kl s.T i r (cv.getD i 0) (cv.getD r 0) (cols n (2 * n + 2)) = true then some i else some r) = some r)
   refine evstep (fun k => by rw [spec_l05Run.l0]) (evpos (by rw [hl]; omega) ?_)
   have hw : wrap64 ((i : Int) + 1) = ((i + 1 : Nat) : Int) := by rw [w64 (by omega) (by omega)]; rfl
   have hfn : ∀ g : Bool, g = (f || decide (Q.getD i 0 < 0)) → g = (List.range (i + 1)).any (fun j => decide (Q.getD j 0 < 0)) := fun g hg => by rw [hg, List.range_succ, List.any_append, hf]; simp
   have step : ∀ g : Bool, g = (f || decide (Q.getD i 0 < 0)) → Ev (fun k => (spec_l05Key.f k (rowsM n (2 * n + 2) s.T) s.den s.bs (i : Int) (r : Int) (rd cv (i : Int)) (rd cv (r : Int))).bind fun t => if t = true then spec_l05Run.l0 k cv (most : Int) (n : Int) [] g (i : Int) (wrap64 ((i : Int) + 1)) M Q (rowsM n (2 * n + 2) s.T) s.den s.bs else spec_l05Run.l0 k cv (most : Int) (n : Int) [] g (r : Int) (wrap64 ((i : Int) + 1)) M Q (rowsM n (2 * n + 2) s.T) s.den s.bs) (encS n (2 * n + 2) (if feas n (fun i => Q.getD i 0) = true then (s, [], -1, true) else match rowB n (2 * n + 2) s (fun i => cv.getD i 0) with
    | none => (s, [], -1, false)
    | some r => goS n (2 * n + 2) most s (2 * n) r [])) := by
    intro g hg
    rw [rd_nat, rd_nat, hw]
    refine evbind key ?_
    by_cases d : z = true
    ·rw [if_pos d] at hnext
     exact evpos d (ih (i + 1) (by omega) g i (hfn g hg) (by omega) (fun e => by omega) (fun _ => hnext))
    ·rw [if_neg d] at hnext
     exact evneg d (ih (i + 1) (by omega) g r (hfn g hg) hr (fun e => by omega) (fun _ => hnext))
   by_cases cf : f = true
   ·refine evpos cf (evpos (by omega) (evpos (by omega) (evpos (by omega) (evpos (by omega) ?_))))
    exact step true (by rw [cf]; rfl)
   ·refine evneg cf (evpos (by omega) (evpos (by omega) (evpos (by omega) (evpos (by omega) ?_))))
    have e : decide (rd Q (i : Int) < 0) = (f || decide (Q.getD i 0 < 0)) := by rw [rd_nat]; cases f with | false => rfl | true => exact absurd rfl cf
    exact step _ e
 exact loop n 0 (by omega) false 0 rfl hn0 (fun _ => rfl) (fun e => by omega)
end Go.Proofs.Ythdoilfjcgickaa.Lsa
end
section
namespace Go.Proofs.Ythdoilfjcgickaa.Lsa
open Go.RowKit Go.Proofs.YthdoilfjcgickaaW.PrintWords Go.Proofs.YthdoilfjcgickaaW.PrintMore Go.Proofs.Ythdoilfjcgickaa.Ma Go.Proofs.Ythdoilfjcgickaa.Pr Go.Proofs.Ythdoilfjcgickaa.Dt Go.Proofs.Ythdoilfjcgickaa.Lk Go.Proofs.Ythdoilfjcgickaa.Lt Go.Proofs.Ythdoilfjcgickaa.Lq Go.Proofs.Ythdoilfjcgickaa.Lp
theorem goS_len (n m : Nat) : ∀ (q : Nat) (s : TS) (v r : Nat) (st : List (List Int)), st.length ≤ (goS n m q s v r st).2.1.length ∧ (0 < q → st.length < (goS n m q s v r st).2.1.length) := by
 intro q
 induction q with
 | zero => intro s v r st; exact ⟨Nat.le_refl _, fun h => absurd h (by omega)⟩
 | succ q ih =>
  intro s v r st
  suffices h : st.length < (goS n m (q + 1) s v r st).2.1.length from ⟨by omega, fun _ => h⟩
  unfold goS
  split
  ·simp
  ·generalize rowB n m _ _ = o
   cases o with
   | none => simp
   | some r' => have := (ih (s.step r v) (partner n (s.bs.getD r 0).toNat) r' (st ++ [[(v : Int), s.bs.getD r 0]])).1; simp at this ⊢; omega
def Rel (most : Nat) (R : TS × List (List Int) × Bool × Int × Int) (S : TS × List (List Int) × Int × Bool) : Prop :=
 (R.2.2.2.2 = 3 ∧ 200 < S.2.1.length) ∨ (R.2.2.2.2 = 0 ∧ S.2.1.length ≤ 200 ∧ S.1 = R.1 ∧ S.2.1 = R.2.1 ∧ S.2.2.2 = R.2.2.1 ∧ (most = 201 → R.2.2.1 = false → S.2.2.1 = R.2.2.2.1))
theorem go_rel (n m most : Nat) : ∀ (q : Nat) (s : TS) (v r : Nat) (st : List (List Int)), st.length + q = most → st.length ≤ 200 → Rel most (goI n m q s v r st) (goS n m q s v r st) := by
 intro q
 induction q with
 | zero => intro s v r st h1 h2; exact .inr ⟨rfl, h2, rfl, rfl, rfl, fun e => by omega⟩
 | succ q ih =>
  intro s v r st h1 h2
  by_cases c : st.length = 200
  ·have := (goS_len n m (q + 1) s v r st).2 (by omega)
   refine .inl ⟨?_, by omega⟩
   unfold goI
   rw [if_pos c]
  ·unfold goI goS
   rw [if_neg c]
   split
   ·exact .inr ⟨rfl, by simp; omega, rfl, rfl, rfl, fun _ e => by cases e⟩
   ·generalize rowB n m _ _ = o
    cases o with
    | none => exact .inr ⟨rfl, by simp; omega, rfl, rfl, rfl, fun _ _ => rfl⟩
    | some r' => exact ih _ _ _ _ (by simp; omega) (by simp; omega)
section
variable {M : List (List Int)} {Q cv : List Int} {n : Nat} (h : PC M Q cv n)
include h
theorem row0 : ∃ r, rowB n (2 * n + 2) (first n (enL M) (fun i => cv.getD i 0) (fun i => Q.getD i 0)) (fun i => cv.getD i 0) = some r := by
 cases e : rowB n (2 * n + 2) (first n (enL M) (fun i => cv.getD i 0) (fun i => Q.getD i 0)) (fun i => cv.getD i 0) with
 | none =>
  have h1 := rowB_none e 0 h.pos
  have h2 := (h.cb 0 h.pos).1
  exact absurd h1 (by show ¬ cv.getD 0 0 ≤ 0; omega)
 | some r => exact ⟨r, rfl⟩
theorem run_rel {most : Nat} : Rel most (runI n (enL M) (fun i => cv.getD i 0) (fun i => Q.getD i 0) most) (runS n (enL M) (fun i => cv.getD i 0) (fun i => Q.getD i 0) most) := by
 obtain ⟨r, hr⟩ := row0 h
 unfold runI runS
 split
 ·exact .inr ⟨rfl, by simp, rfl, rfl, rfl, fun _ e => by cases e⟩
 ·rw [hr]
  exact go_rel n _ most most _ _ _ [] (by simp) (by simp)
end
theorem spec_run {M : List (List Int)} {Q cv : List Int} (h : lkCode M Q cv = 0) (most : Nat) (hm : most ≤ 100000) : ∃ S : TS × List (List Int) × Int × Bool, Ev (fun k => spec_l05Run.f k M Q cv (most : Int)) (encS Q.length (2 * Q.length + 2) S) ∧ Rel most (lkR M Q cv most) S := ⟨_, run_eq (lkCode_pc h) most hm, run_rel (lkCode_pc h)⟩
end Go.Proofs.Ythdoilfjcgickaa.Lsa
end
section
namespace Go.Proofs.Ythdoilfjcgickaa.Lsa
open Go.RowKit Go.Proofs.YthdoilfjcgickaaW.PrintWords Go.Proofs.YthdoilfjcgickaaW.PrintMore Go.Proofs.Ythdoilfjcgickaa.Ma Go.Proofs.Ythdoilfjcgickaa.Pr Go.Proofs.Ythdoilfjcgickaa.Dt Go.Proofs.Ythdoilfjcgickaa.Lk Go.Proofs.Ythdoilfjcgickaa.Lt Go.Proofs.Ythdoilfjcgickaa.Lq Go.Proofs.Ythdoilfjcgickaa.Lp
theorem sm_add_ (b : Nat) (f : Nat → Int) : ∀ a, sm (b + a) f = sm b f + sm a (fun r => f (b + r))
 | 0 => by simp [sm]
 | a + 1 => by
  rw [← Nat.add_assoc]
  simp only [sm]
  rw [sm_add_ b f a]; omega
theorem sm_block (b : Nat) (f : Nat → Int) : ∀ a, sm (a * b) f = sm a (fun i => sm b (fun r => f (i * b + r)))
 | 0 => by simp [sm]
 | a + 1 => by
  rw [Nat.succ_mul, sm_add_, sm_block b f a]; rfl
def dI (m : Nat) : Nat → Nat → List Int
 | 0, _ => []
 | n + 1, k => (1 + ((k / m ^ n : Nat) : Int)) :: dI m n (k % m ^ n)
def dS (m : Nat) : Nat → Nat → List Int
 | 0, _ => []
 | n + 1, k => (1 + ((k % m : Nat) : Int)) :: dS m n (k / m)
theorem dI_succ (m n k : Nat) : dI m (n + 1) k = (1 + ((k / m ^ n : Nat) : Int)) :: dI m n (k % m ^ n) := rfl
theorem dS_succ (m n k : Nat) : dS m (n + 1) k = (1 + ((k % m : Nat) : Int)) :: dS m n (k / m) := rfl
def tot (m : Nat) : Nat → (List Int → Int) → Int
 | 0, h => h []
 | n + 1, h => sm m (fun a => tot m n (fun c => h ((1 + (a : Int)) :: c)))
theorem sum_dI {m : Nat} (hm : 0 < m) : ∀ n h, sm (m ^ n) (fun k => h (dI m n k)) = tot m n h
 | 0, h => by simp [sm, dI, tot]
 | n + 1, h => by
  have hp : 0 < m ^ n := Nat.pow_pos hm
  rw [Nat.pow_succ, Nat.mul_comm, sm_block]
  refine sm_congr (fun a ha => ?_)
  rw [← sum_dI hm n]
  refine sm_congr (fun r hr => ?_)
  show h (dI m (n + 1) (a * m ^ n + r)) = h ((1 + (a : Int)) :: dI m n r)
  rw [dI_succ, show (a * m ^ n + r) / m ^ n = a from by rw [Nat.mul_comm, Nat.mul_add_div hp, Nat.div_eq_of_lt hr]; omega, show (a * m ^ n + r) % m ^ n = r from by rw [Nat.mul_comm, Nat.mul_add_mod, Nat.mod_eq_of_lt hr]]
theorem sum_dS {m : Nat} (hm : 0 < m) : ∀ n h, sm (m ^ n) (fun k => h (dS m n k)) = tot m n h
 | 0, h => by simp [sm, dS, tot]
 | n + 1, h => by
  rw [Nat.pow_succ, sm_block, Dt.sm_swap]
  refine sm_congr (fun a ha => ?_)
  rw [← sum_dS hm n]
  refine sm_congr (fun q hq => ?_)
  show h (dS m (n + 1) (q * m + a)) = h ((1 + (a : Int)) :: dS m n q)
  rw [dS_succ, show (q * m + a) / m = q from by rw [Nat.mul_comm, Nat.mul_add_div hm, Nat.div_eq_of_lt ha]; omega, show (q * m + a) % m = a from by rw [Nat.mul_comm, Nat.mul_add_mod, Nat.mod_eq_of_lt ha]]
theorem dI_cov {m : Nat} (hm : 0 < m) : ∀ n k, k < m ^ n → Cov n (m : Int) (dI m n k)
 | 0, k, _ => ⟨rfl, fun x hx => by cases hx⟩
 | n + 1, k, hk => by
  have hp : 0 < m ^ n := Nat.pow_pos hm
  have ih := dI_cov hm n (k % m ^ n) (Nat.mod_lt _ hp)
  have hq : k / m ^ n < m := by rw [Nat.div_lt_iff_lt_mul hp, Nat.mul_comm, ← Nat.pow_succ]; exact hk
  refine ⟨by simp [dI, ih.len], fun x hx => ?_⟩
  rw [dI_succ] at hx
  generalize k / m ^ n = q at hq hx
  rcases List.mem_cons.1 hx with rfl | hx
  ·omega
  ·exact ih.num x hx
theorem dS_cov {m : Nat} (hm : 0 < m) : ∀ n k, Cov n (m : Int) (dS m n k)
 | 0, k => ⟨rfl, fun x hx => by cases hx⟩
 | n + 1, k => by
  have ih := dS_cov hm n (k / m)
  have hq : k % m < m := Nat.mod_lt _ hm
  refine ⟨by simp [dS, ih.len], fun x hx => ?_⟩
  rw [dS_succ] at hx
  generalize k % m = q at hq hx
  rcases List.mem_cons.1 hx with rfl | hx
  ·omega
  ·exact ih.num x hx
theorem carr_cons (most a : Int) : ∀ i c, i ≤ c.length → carr most (i + 1) (a :: c) = if (carr most i c).2 = true then (a :: (carr most i c).1, true) else (if a = most then (1 :: (carr most i c).1, false) else ((a + 1) :: (carr most i c).1, true))
 | 0, c, _ => by
  rw [carr_succ]
  simp only [carr, List.getD_cons_zero, List.set_cons_zero, Bool.false_eq_true, if_false]
 | i + 1, c, h => by
  rw [carr_succ most i c]
  show (if c.getD i 0 = most then carr most (i + 1) (a :: c.set i 1) else (a :: c.set i (c.getD i 0 + 1), true)) = _
  by_cases e : c.getD i 0 = most
  ·rw [if_pos e, if_pos e]
   exact carr_cons most a i (c.set i 1) (by rw [List.length_set]; omega)
  ·rw [if_neg e, if_neg e]; rfl
theorem dI_zero (m n : Nat) (hm : 0 < m) : dI m n 0 = List.replicate n 1 := by
 induction n with
 | zero => rfl
 | succ n ih => unfold dI; rw [Nat.zero_div, Nat.zero_mod, ih]; rfl
theorem carr_dI {m : Nat} (hm : 0 < m) : ∀ n k, k < m ^ n → carr (m : Int) n (dI m n k) = if k + 1 < m ^ n then (dI m n (k + 1), true) else (dI m n 0, false)
 | 0, k, hk => by
  rw [if_neg (by rw [Nat.pow_zero]; omega)]; rfl
 | n + 1, k, hk => by
  have hp : 0 < m ^ n := Nat.pow_pos hm
  have hq : k / m ^ n < m := by rw [Nat.div_lt_iff_lt_mul hp, Nat.mul_comm, ← Nat.pow_succ]; exact hk
  have hr : k % m ^ n < m ^ n := Nat.mod_lt _ hp
  have hk2 := Nat.div_add_mod k (m ^ n)
  have ih := carr_dI hm n (k % m ^ n) hr
  have hlen := (dI_cov hm n _ hr).len
  have hpow : m ^ (n + 1) = m ^ n * m := Nat.pow_succ ..
  show carr (m : Int) (n + 1) ((1 + ((k / m ^ n : Nat) : Int)) :: dI m n (k % m ^ n)) = _
  rw [carr_cons _ _ n _ (by omega), ih]
  obtain ⟨q, hqq⟩ : ∃ q, k / m ^ n = q := ⟨_, rfl⟩
  obtain ⟨r, hrr⟩ : ∃ r, k % m ^ n = r := ⟨_, rfl⟩
  obtain ⟨P, hP⟩ : ∃ P, m ^ n = P := ⟨_, rfl⟩
  rw [hqq, hrr] at hk2
  rw [hqq] at hq ⊢
  rw [hrr] at hr ⊢
  rw [hpow]
  rw [hP] at hk2 hr hp ⊢
  have hPq : P * q + P ≤ P * m := by rw [← Nat.mul_succ]; exact Nat.mul_le_mul_left _ hq
  by_cases c : r + 1 < P
  ·rw [if_pos c]
   rw [if_pos rfl, if_pos (show k + 1 < P * m by omega)]
   show ((1 + (q : Int)) :: dI m n (r + 1), true) = (dI m (n + 1) (k + 1), true)
   rw [dI_succ, hP, ← hk2, Nat.add_assoc, Nat.mul_add_div hp, Nat.div_eq_of_lt c, Nat.mul_add_mod, Nat.mod_eq_of_lt c]
   rfl
  ·rw [if_neg c]
   simp only [Bool.false_eq_true, if_false]
   have e1 : k + 1 = P * (q + 1) := by rw [Nat.mul_succ]; omega
   by_cases d : q + 1 = m
   ·rw [if_pos (by omega), if_neg (show ¬ k + 1 < P * m by rw [e1, d]; omega)]
    show (1 :: dI m n 0, false) = (dI m (n + 1) 0, false)
    rw [dI_succ, Nat.zero_div, Nat.zero_mod]; rfl
   ·rw [if_neg (by omega), if_pos (show k + 1 < P * m by rw [e1]; exact Nat.mul_lt_mul_of_pos_left (by omega) hp)]
    show ((1 + (q : Int) + 1) :: dI m n 0, true) = (dI m (n + 1) (k + 1), true)
    rw [dI_succ, hP, e1, Nat.mul_div_cancel_left _ hp, Nat.mul_mod_right, show (1 + (q : Int) + 1) = 1 + ((q + 1 : Nat) : Int) from by omega]
def proc (g : Nat → Bool × Int) : Nat → Nat → Int → Int → Int × Int × Int
 | 0, _, so, ra => (so, ra, 0)
 | q + 1, k, so, ra => if (g k).2 = 0 then proc g q (k + 1) (if (g k).1 = true then so + 1 else so) (if (g k).1 = true then ra else ra + 1) else (0, 0, (g k).2)
def eN (x : Bool × Int) : Int := if x.2 = 0 then 0 else 1
def sN (x : Bool × Int) : Int := if x.1 = true then 1 else 0
theorem sm_nonneg (f : Nat → Int) (h : ∀ i, 0 ≤ f i) : ∀ n, 0 ≤ sm n f
 | 0 => by simp [sm]
 | n + 1 => by have := sm_nonneg f h n; have := h n; simp only [sm]; omega
theorem proc_eq (g : Nat → Bool × Int) (hg : ∀ k, (g k).2 = 0 ∨ (g k).2 = 3) : ∀ q k so ra, proc g q k so ra = if sm q (fun i => eN (g (k + i))) = 0 then (so + sm q (fun i => sN (g (k + i))), ra + sm q (fun i => 1 - sN (g (k + i))), 0) else (0, 0, 3)
 | 0, k, so, ra => by simp [proc, sm]
 | q + 1, k, so, ra => by
  have ih := proc_eq g hg q (k + 1)
  have e1 : sm (q + 1) (fun i => eN (g (k + i))) = eN (g k) + sm q (fun i => eN (g (k + 1 + i))) := by rw [Dt.sm_first]; simp only [Nat.add_zero]; congr 1; exact sm_congr (fun i _ => by rw [show k + (i + 1) = k + 1 + i from by omega])
  have e2 : sm (q + 1) (fun i => sN (g (k + i))) = sN (g k) + sm q (fun i => sN (g (k + 1 + i))) := by rw [Dt.sm_first]; simp only [Nat.add_zero]; congr 1; exact sm_congr (fun i _ => by rw [show k + (i + 1) = k + 1 + i from by omega])
  have e3 : sm (q + 1) (fun i => 1 - sN (g (k + i))) = (1 - sN (g k)) + sm q (fun i => 1 - sN (g (k + 1 + i))) := by rw [Dt.sm_first]; simp only [Nat.add_zero]; congr 1; exact sm_congr (fun i _ => by rw [show k + (i + 1) = k + 1 + i from by omega])
  have hnn := sm_nonneg (fun i => eN (g (k + 1 + i))) (fun i => by show 0 ≤ eN (g (k + 1 + i)); unfold eN; split <;> omega) q
  unfold proc
  rw [e1, e2, e3]
  by_cases c : (g k).2 = 0
  ·rw [if_pos c, ih]
   have e4 : eN (g k) = 0 := if_pos c
   rw [e4, Int.zero_add]
   by_cases d : (g k).1 = true
   ·have e5 : sN (g k) = 1 := if_pos d
    rw [if_pos d, if_pos d, e5]
    split
    ·congr 1
     ·omega
     ·congr 1; omega
    ·rfl
   ·have e5 : sN (g k) = 0 := if_neg d
    rw [if_neg d, if_neg d, e5]
    split
    ·congr 1
     ·omega
     ·congr 1; omega
    ·rfl
  ·rw [if_neg c]
   have e4 : eN (g k) = 1 := if_neg c
   rw [e4, if_neg (by omega)]
   rcases hg k with h | h
   ·exact absurd h c
   ·rw [h]
section
variable {M : List (List Int)} {Q : List Int} (hP : impl_IsProblem.f M Q = some true) {m n : Nat} (hn : Q.length = n) (hm : 0 < m) (hm3 : m ≤ 3) (hn4 : n ≤ 4)
def gam (M : List (List Int)) (Q c : List Int) : Bool × Int := ((lkR M Q c 201).2.2.1, (lkR M Q c 201).2.2.2.2)
include hn hm hm3 hn4 in
theorem impl_cnt : ∀ q k, k + (q + 1) = m ^ n → ∀ so ra : Int, 0 ≤ so → 0 ≤ ra → so + ra ≤ (k : Int) → Ev (fun f => cntI M Q (m : Int) f (dI m n k) so ra) (proc (fun k => gam M Q (dI m n k)) (q + 1) k so ra) := by
 have hpow : m ^ n ≤ 81 := Nat.le_trans (Nat.pow_le_pow_left hm3 n) (Nat.le_trans (Nat.pow_le_pow_right (by decide) hn4) (by decide))
 intro q
 induction q with
 | zero =>
  intro k hk so ra h1 h2 h3
  refine evstep (fun f => by rw [cntI]) ?_
  rw [hn, carr_dI hm n k (by omega), if_neg (by omega), w64 (x := so + 1) (by omega) (by omega), w64 (x := ra + 1) (by omega) (by omega)]
  unfold proc
  show Ev _ (if (gam M Q (dI m n k)).2 = 0 then _ else (0, 0, (gam M Q (dI m n k)).2))
  by_cases c : (gam M Q (dI m n k)).2 = 0
  ·rw [if_pos c]
   exact evpos c (evneg (by simp) (evc rfl))
  ·rw [if_neg c]
   exact evneg c (evc rfl)
 | succ q ih =>
  intro k hk so ra h1 h2 h3
  refine evstep (fun f => by rw [cntI]) ?_
  rw [hn, carr_dI hm n k (by omega), if_pos (by omega), w64 (x := so + 1) (by omega) (by omega), w64 (x := ra + 1) (by omega) (by omega)]
  unfold proc
  show Ev _ (if (gam M Q (dI m n k)).2 = 0 then _ else (0, 0, (gam M Q (dI m n k)).2))
  by_cases c : (gam M Q (dI m n k)).2 = 0
  ·rw [if_pos c]
   refine evpos c (evpos rfl (ih (k + 1) (by omega) _ _ ?_ ?_ ?_))
   ·split <;> omega
   ·split <;> omega
   ·split <;> omega
  ·rw [if_neg c]
   exact evneg c (evc rfl)
include hP hn hm hm3
theorem lk0 {c : List Int} (hc : Cov n (m : Int) c) : lkCode M Q c = 0 := by
 unfold lkCode
 rw [if_pos hP, if_pos (by rw [hn]; exact hc.cvB (by omega))]
theorem gam_code {c : List Int} (hc : Cov n (m : Int) c) : (gam M Q c).2 = 0 ∨ (gam M Q c).2 = 3 := by
 obtain ⟨S, _, h⟩ := spec_run (lk0 hP hn hm hm3 hc) 201 (by omega)
 rcases h with h | h
 ·exact .inr h.1
 ·exact .inl h.1
theorem same_count : proc (fun k => gam M Q (dI m n k)) (m ^ n) 0 0 0 = proc (fun k => gam M Q (dS m n k)) (m ^ n) 0 0 0 := by
 have key : ∀ (d : Nat → List Int), (∀ k, k < m ^ n → Cov n (m : Int) (d k)) → (∀ h, sm (m ^ n) (fun k => h (d k)) = tot m n h) → proc (fun k => gam M Q (d k)) (m ^ n) 0 0 0 = if tot m n (fun c => eN (gam M Q c)) = 0 then (0 + tot m n (fun c => sN (gam M Q c)), 0 + tot m n (fun c => 1 - sN (gam M Q c)), 0) else (0, 0, 3) := by
  intro d hd ht
  obtain ⟨g, hg⟩ : ∃ g : Nat → Bool × Int, g = fun k => if k < m ^ n then gam M Q (d k) else (false, 0) := ⟨_, rfl⟩
  have hgc : ∀ k, (g k).2 = 0 ∨ (g k).2 = 3 := fun k => by
   rw [hg]
   show (if k < m ^ n then gam M Q (d k) else (false, 0)).2 = 0 ∨ _
   by_cases c : k < m ^ n
   ·simp only [if_pos c]; exact gam_code hP hn hm hm3 (hd k c)
   ·simp only [if_neg c]; exact .inl trivial
  have hpc : ∀ q k so ra, k + q ≤ m ^ n → proc (fun k => gam M Q (d k)) q k so ra = proc g q k so ra := by
   intro q
   induction q with
   | zero => intro k so ra _; rfl
   | succ q ih =>
    intro k so ra hk
    have e : g k = gam M Q (d k) := by rw [hg]; exact if_pos (by omega)
    unfold proc
    rw [e]
    show (if (gam M Q (d k)).2 = 0 then _ else _) = _
    rw [ih (k + 1) _ _ (by omega)]
  have hs : ∀ h : Bool × Int → Int, sm (m ^ n) (fun i => h (g (0 + i))) = tot m n (fun c => h (gam M Q c)) := fun h => by
   rw [← ht]
   refine sm_congr (fun i hi => ?_)
   show h (g (0 + i)) = h (gam M Q (d i))
   rw [Nat.zero_add, hg]
   congr 1
   exact if_pos hi
  rw [hpc _ _ _ _ (by omega), proc_eq g hgc, hs eN, hs sN, hs (fun x => 1 - sN x)]
 rw [key (dI m n) (fun k hk => dI_cov hm n k hk) (sum_dI hm n), key (dS m n) (fun k _ => dS_cov hm n k) (sum_dS hm n)]
include hn4
theorem spec_cnt : ∀ q k, k + q = m ^ n → ∀ so ra : Int, 0 ≤ so → 0 ≤ ra → so + ra ≤ (k : Int) → Ev (fun f => spec_CountLemke.l1 f (m : Int) ((m ^ n : Nat) : Int) so ra (k : Int) M Q) (proc (fun k => gam M Q (dS m n k)) q k so ra) := by
 have hpow : m ^ n ≤ 81 := Nat.le_trans (Nat.pow_le_pow_left hm3 n) (Nat.le_trans (Nat.pow_le_pow_right (by decide) hn4) (by decide))
 intro q
 induction q with
 | zero =>
  intro k hk so ra h1 h2 h3
  refine evstep (fun f => by rw [spec_CountLemke.l1]) ?_
  exact evneg (by omega) (evc rfl)
 | succ q ih =>
  intro k hk so ra h1 h2 h3
  refine evstep (fun f => by rw [spec_CountLemke.l1]) (evpos (by omega) ?_)
  have inner : ∀ p i, i + p = n → ∀ (acc : List Int) (rest : Nat), acc.length = i → rest ≤ k → acc ++ dS m p rest = dS m n k → Ev (fun f => spec_CountLemke.l2 f (m : Int) ((m ^ n : Nat) : Int) so ra (k : Int) acc (rest : Int) (i : Int) M Q) (proc (fun k => gam M Q (dS m n k)) (q + 1) k so ra) := by
   intro p
   induction p with
   | zero =>
    intro i hi acc rest hl hr ha
    have hacc : acc = dS m n k := by rw [← ha]; simp [dS]
    refine evstep (fun f => by rw [spec_CountLemke.l2]) (evneg (by omega) ?_)
    obtain ⟨S, hS, hrel⟩ := spec_run (lk0 hP hn hm hm3 (dS_cov hm n k)) 201 (by omega)
    rw [hacc]
    refine evbind hS ?_
    unfold proc
    show Ev _ (if (gam M Q (dS m n k)).2 = 0 then _ else (0, 0, (gam M Q (dS m n k)).2))
    rw [w64 (x := so + 1) (by omega) (by omega), w64 (x := ra + 1) (by omega) (by omega), w64 (x := (k : Int) + 1) (by omega) (by omega)]
    rcases hrel with ⟨e1, e2⟩ | ⟨e1, e2, e3, e4, e5, _⟩
    ·have e1' : (gam M Q (dS m n k)).2 = 3 := e1
     rw [e1', if_neg (by decide)]
     exact evpos (by show (S.2.1.length : Int) > 200; omega) (evc rfl)
    ·have e1' : (gam M Q (dS m n k)).2 = 0 := e1
     have e5' : S.2.2.2 = (gam M Q (dS m n k)).1 := e5
     rw [if_pos e1']
     refine evneg (by show ¬ (S.2.1.length : Int) > 200; omega) ?_
     by_cases d : (gam M Q (dS m n k)).1 = true
     ·rw [if_pos d, if_pos d]
      exact evpos (by show S.2.2.2 = true; rw [e5']; exact d) (ih (k + 1) (by omega) _ _ (by omega) (by omega) (by omega))
     ·rw [if_neg d, if_neg d]
      exact evneg (by show ¬ S.2.2.2 = true; rw [e5']; exact d) (ih (k + 1) (by omega) _ _ (by omega) (by omega) (by omega))
   | succ p ihp =>
    intro i hi acc rest hl hr ha
    refine evstep (fun f => by rw [spec_CountLemke.l2]) (evpos (by omega) (evneg (by omega) (evpos (by omega) ?_)))
    have hmm : rest % m < m := Nat.mod_lt _ hm
    have hdd : rest / m ≤ rest := Nat.div_le_self _ _
    rw [dS_succ] at ha
    rw [show Int.tmod (rest : Int) (m : Int) = ((rest % m : Nat) : Int) from rfl, show Int.tdiv (rest : Int) (m : Int) = ((rest / m : Nat) : Int) from rfl]
    generalize rest % m = r2 at hmm ha ⊢
    generalize rest / m = q2 at hdd ha ⊢
    rw [w64 (x := 1 + (r2 : Int)) (by omega) (by omega), w64 (x := (q2 : Int)) (by omega) (by omega), w64 (x := (i : Int) + 1) (by omega) (by omega)]
    refine ihp (i + 1) (by omega) _ _ (by simp [hl]) (by omega) ?_
    rw [← ha]
    simp
  exact inner n 0 (by omega) [] k rfl (Nat.le_refl _) rfl
theorem spec_all : ∀ q i, i + q = n → Ev (fun f => spec_CountLemke.l0 f (m : Int) ((m ^ i : Nat) : Int) 0 0 (i : Int) M Q) (proc (fun k => gam M Q (dS m n k)) (m ^ n) 0 0 0) := by
 have hpow : ∀ i, i ≤ 4 → m ^ i ≤ 81 := fun i hi => Nat.le_trans (Nat.pow_le_pow_left hm3 i) (Nat.le_trans (Nat.pow_le_pow_right (by decide) hi) (by decide))
 intro q
 induction q with
 | zero =>
  intro i hi
  obtain rfl : i = n := by omega
  refine evstep (fun f => by rw [spec_CountLemke.l0]) (evneg (by omega) ?_)
  exact spec_cnt hP hn hm hm3 hn4 (m ^ i) 0 (by omega) 0 0 (by omega) (by omega) (by omega)
 | succ q ih =>
  intro i hi
  refine evstep (fun f => by rw [spec_CountLemke.l0]) (evpos (by omega) ?_)
  have hp := hpow (i + 1) (by omega)
  have e : ((m ^ i : Nat) : Int) * (m : Int) = ((m ^ (i + 1) : Nat) : Int) := by rw [Nat.pow_succ, Int.natCast_mul]
  rw [e, w64 (x := ((m ^ (i + 1) : Nat) : Int)) (by omega) (by omega), w64 (x := (i : Int) + 1) (by omega) (by omega)]
  exact ih (i + 1) (by omega)
end
theorem count_both (M : List (List Int)) (Q : List Int) (a1 : Int) (hQ : Q.length ≤ 1048576) : ∃ R : Int × Int × Int, Ev (fun k => spec_CountLemke.f k M Q a1) R ∧ Ev (fun k => impl_CountLemke.f k M Q a1) R := by
 classical
 unfold spec_CountLemke.f impl_CountLemke.f
 have hsp := Pb.spec_is M Q hQ (decide (Pb.POK M Q)) (by simp)
 have him := Pb.impl_is M Q (decide (Pb.POK M Q)) (by simp)
 by_cases p : Pb.POK M Q
 ·rw [decide_eq_true p] at hsp him
  by_cases c : 1 ≤ a1 ∧ a1 ≤ 3
  ·by_cases d : Q.length ≤ 4
   ·obtain ⟨m, rfl⟩ := Int.eq_ofNat_of_zero_le (show 0 ≤ a1 by omega)
    have hm : 0 < m := by omega
    have hm3 : m ≤ 3 := by omega
    refine ⟨proc (fun k => gam M Q (dS m Q.length k)) (m ^ Q.length) 0 0 0, ?_, ?_⟩
    ·refine evbind hsp (evpos rfl (evsome (Pb.sin_eq _ _ _) (evpos (decide_eq_true c) (evneg (by omega) ?_))))
     have := spec_all him rfl hm hm3 d Q.length 0 (by omega)
     simpa using this
    ·rw [him]
     refine evpos rfl (evpos ⟨c, d⟩ ?_)
     rw [← same_count him rfl hm hm3, ← dI_zero m _ hm]
     have hp : 0 < m ^ Q.length := Nat.pow_pos hm
     obtain ⟨q, hq⟩ : ∃ q, m ^ Q.length = q + 1 := ⟨m ^ Q.length - 1, by omega⟩
     have := impl_cnt (M := M) rfl hm hm3 d q 0 (by omega) 0 0 (by omega) (by omega) (by omega)
     rw [hq]
     exact this
   ·refine ⟨(0, 0, 2), evbind hsp (evpos rfl (evsome (Pb.sin_eq _ _ _) (evpos (decide_eq_true c) (evpos (by omega) (evc rfl))))), ?_⟩
    rw [him]
    exact evpos rfl (evneg (fun q => d q.2) (evc rfl))
  ·refine ⟨(0, 0, 2), evbind hsp (evpos rfl (evsome (Pb.sin_eq _ _ _) (evneg (by simpa using c) (evc rfl)))), ?_⟩
   rw [him]
   exact evpos rfl (evneg (fun q => c q.1) (evc rfl))
 ·rw [decide_eq_false p] at hsp him
  refine ⟨(0, 0, 1), evbind hsp (evneg (by decide) (evc rfl)), ?_⟩
  rw [him]
  exact evneg (by simp) (evc rfl)
end Go.Proofs.Ythdoilfjcgickaa.Lsa
end
section
namespace Go.Proofs.Ythdoilfjcgickaa.Pr
open Go.RowKit Go.Proofs.YthdoilfjcgickaaW.PrintWords Go.Proofs.YthdoilfjcgickaaW.PrintLast Go.Proofs.YthdoilfjcgickaaW.PrintMore
attribute [local go_sem] max2_int min2_int max_two min_two max_three min_three max_four min_four
def laws_heldInt64SS.l0 : Nat → List (List Int) → Int → Int → Option (Int)
 | 0, _, _, _ => none
 | k + 1, x0, x1, x5 => if x5 < (x0.length : Int) then (if 0 ≤ x5 then ((laws_heldInt64S.f k (rd_L1 x0 x5) x1).bind fun t150 => (if t150 < 0 then (some (-1)) else (laws_heldInt64SS.l0 k x0 t150 (wrap64 (x5 + 1))))) else (none)) else (some x1)
def laws_heldInt64SS.f (k : Nat) (l0 : List (List Int)) (a1 : Int) : Option (Int) := laws_heldInt64SS.l0 k l0 a1 0
theorem laws_heldInt64SS.mono_l : ∀ k, (∀ y0 y1 y2, LeO (laws_heldInt64SS.l0 k y0 y1 y2) (laws_heldInt64SS.l0 (k + 1) y0 y1 y2))
 | 0 => fun _ _ _ r h => by simp [laws_heldInt64SS.l0] at h
 | k + 1 => by
  have ih0 := laws_heldInt64SS.mono_l k
  ·intro y0 y1 y2
   unfold laws_heldInt64SS.l0
   repeat' first
   | (with_reducible exact ih0 _ _ _)
   | (with_reducible exact laws_heldInt64S.mono _ _ _)
   | (with_reducible exact LeO.refl _)
   | (with_reducible exact LeO.none _)
   | (with_reducible refine LeO.ite ?_ ?_)
   | (with_reducible refine LeO.bind ?_ (fun _ => ?_))
   | exact ih0 _ _ _
   | exact laws_heldInt64S.mono _ _ _
   | exact LeO.none _
   | refine LeO.ite ?_ ?_
   | refine LeO.bind ?_ (fun _ => ?_)
theorem laws_heldInt64SS.mono : ∀ a0 a1 k, LeO (laws_heldInt64SS.f k a0 a1) (laws_heldInt64SS.f (k + 1) a0 a1) := by
 intro a0 a1 k
 have ih0 := laws_heldInt64SS.mono_l k
 unfold laws_heldInt64SS.f
 repeat' first
   | (with_reducible exact ih0 _ _ _)
   | (with_reducible exact laws_heldInt64S.mono _ _ _)
   | (with_reducible exact LeO.refl _)
   | (with_reducible exact LeO.none _)
   | (with_reducible refine LeO.ite ?_ ?_)
   | (with_reducible refine LeO.bind ?_ (fun _ => ?_))
   | exact ih0 _ _ _
   | exact laws_heldInt64S.mono _ _ _
   | exact LeO.none _
   | refine LeO.ite ?_ ?_
   | refine LeO.bind ?_ (fun _ => ?_)
theorem laws_heldInt64SS.calls (k : Nat) (A0 : Option Addr) (c0 : Nat) (l0 : List (List Int)) (a1 : Int) (r : Int) (w : World) (hr0 : Kd.C (Kd.slice 2 (Kd.int .i64)) w A0 l0.length l0) (hc0 : l0.length ≤ c0) (h : laws_heldInt64SS.f k l0 a1 = some r) :
  Calls Try.prog 23 #[.slice A0 l0.length c0, .int .i64 a1] w fun e w' => e = .returned (.int .i64 r) ∧ Drawn0 w w' := by
 have HR0 := Aside0.mk hr0
 have HC0 := Aside0.mk hc0
 clear hr0 hc0
 have H : (laws_heldInt64SS.l0 k l0 a1 0) = some r := h
 clear h
 have H' := Aside0.mk H
 clear H
 go_enter Try.func23, Try.ntmps23
 go_wp2
 go_loopg [1, 5] k (fun kq v1 v5 w' => ∃ (x1_1 : Int) (x5_1 : Int), v1 = .int .i64 x1_1 ∧ v5 = .int .i64 x5_1 ∧ Aside0 (laws_heldInt64SS.l0 kq l0 x1_1 x5_1 = some r) ∧ Aside0 (kq ≤ k) ∧ Drawn0 w w')
 case atStart => exact ⟨(a1), (0), rs_, rs_, H', ⟨Nat.le_refl _⟩, by repeat (first | exact Drawn0.refl _ | apply Drawn0.step)⟩
 case round =>
  clear H'
  try clear c2
  try clear p2
  obtain ⟨x1_1, x5_1, rfl, rfl, HA, HK1, ⟨m1, rfl⟩⟩ := hrel
  cases gk with
  | zero => exact absurd HA.out (by simp [laws_heldInt64SS.l0])
  | succ k1 =>
   have H := HA.out
   clear HA
   simp only [laws_heldInt64SS.l0] at H
   by_cases c3 : x5_1 < (l0.length : Int)
   ·rw [if_pos c3] at H
    have c3b0 : decide (x5_1 < (l0.length : Int)) = true := decide_eq_true c3
    clear c3
    by_cases c4 : 0 ≤ x5_1
    ·rw [if_pos c4] at H
     have c4b0 : decide (0 ≤ x5_1) = true := decide_eq_true c4
     clear c4
     replace H := Option.bind_eq_some_iff.mp H
     obtain ⟨t150, A50, H⟩ := H
     replace H : (if t150 < 0 then (some (-1)) else (laws_heldInt64SS.l0 k1 l0 t150 (wrap64 (x5_1 + 1)))) = some r := H
     have A5 := Aside0.mk A50
     clear A50
     by_cases c6 : t150 < 0
     ·rw [if_pos c6] at H
      have c6b0 : decide (t150 < 0) = true := decide_eq_true c6
      clear c6
      obtain rfl := Option.some.inj H
      have p149 : 0 ≤ (x5_1 : Int) := od_
      have q149 : x5_1 < (l0.length : Int) := od_
      obtain ⟨ad149, A149_0, c149_0, e149, hx149_0, hl149_0, hi149_0⟩ := at_L1 HR0.out x5_1 p149 q149
      cases e149
      have HR149_0 := Aside0.mk hi149_0
      have HC149_0 := Aside0.mk hl149_0
      clear hi149_0 hl149_0
      replace p149 := eq_true p149
      replace q149 := eq_true q149
      go_wp2_with (first | ((with_reducible refine gate_callee (f := 37) rfl ?_); refine gL_ 17 Try.func37 #[.slice A149_0 (rd_L1 l0 x5_1).length c149_0, .int .i64 x1_1] ?_; (with_reducible refine (laws_heldInt64S.calls k1 _ _ (rd_L1 l0 x5_1) x1_1 t150 _ ?side1 ?side2 A5.out).mono ?_); (case side1 => repeat (first | exact HR149_0.out | (with_reducible refine Kd.C_alloc ?_ _) | (with_reducible refine Kd.C_drewN ?_ _) | (with_reducible refine Kd.C_drew ?_))); (case side2 => exact HC149_0.out); rintro e w' ⟨rfl, ⟨nd, rfl⟩⟩; refine ⟨_, rfl, ?_⟩))
      go_ret
      exact ⟨by first | rfl | (simp; done) | (simp [*]; done), by repeat (first | exact Drawn0.refl _ | apply Drawn0.step)⟩
     ·rw [if_neg c6] at H
      have c6b0 : decide (t150 < 0) = false := decide_eq_false c6
      clear c6
      have H' := Aside0.mk H
      clear H
      have p149 : 0 ≤ (x5_1 : Int) := od_
      have q149 : x5_1 < (l0.length : Int) := od_
      obtain ⟨ad149, A149_0, c149_0, e149, hx149_0, hl149_0, hi149_0⟩ := at_L1 HR0.out x5_1 p149 q149
      cases e149
      have HR149_0 := Aside0.mk hi149_0
      have HC149_0 := Aside0.mk hl149_0
      clear hi149_0 hl149_0
      replace p149 := eq_true p149
      replace q149 := eq_true q149
      go_wp2_with (first | ((with_reducible refine gate_callee (f := 37) rfl ?_); refine gL_ 17 Try.func37 #[.slice A149_0 (rd_L1 l0 x5_1).length c149_0, .int .i64 x1_1] ?_; (with_reducible refine (laws_heldInt64S.calls k1 _ _ (rd_L1 l0 x5_1) x1_1 t150 _ ?side1 ?side2 A5.out).mono ?_); (case side1 => repeat (first | exact HR149_0.out | (with_reducible refine Kd.C_alloc ?_ _) | (with_reducible refine Kd.C_drewN ?_ _) | (with_reducible refine Kd.C_drew ?_))); (case side2 => exact HC149_0.out); rintro e w' ⟨rfl, ⟨nd, rfl⟩⟩; refine ⟨_, rfl, ?_⟩))
      go_roundg k1
      case measure => have := HK1.out; omega
      case rel => exact ⟨(t150), (wrap64 (x5_1 + 1)), rs_, rs_, H', ⟨by have := HK1.out; omega⟩, by repeat (first | exact Drawn0.refl _ | apply Drawn0.step)⟩
    ·rw [if_neg c4] at H
     exact absurd H (by simp)
   ·rw [if_neg c3] at H
    have c3b0 : decide (x5_1 < (l0.length : Int)) = false := decide_eq_false c3
    clear c3
    obtain rfl := Option.some.inj H
    go_wp2
    go_ret
    exact ⟨by first | rfl | (simp; done) | (simp [*]; done), by repeat (first | exact Drawn0.refl _ | apply Drawn0.step)⟩
end Go.Proofs.Ythdoilfjcgickaa.Pr
end
section
namespace Go.Proofs.Ythdoilfjcgickaa.La
open Go.RowKit Go.Proofs.YthdoilfjcgickaaW.PrintWords Go.Proofs.YthdoilfjcgickaaW.PrintMore Go.Proofs.Ythdoilfjcgickaa.Ma Go.Proofs.Ythdoilfjcgickaa.Pr Go.Proofs.Ythdoilfjcgickaa.Hm
end Go.Proofs.Ythdoilfjcgickaa.La
end
section
namespace Go.Proofs.Ythdoilfjcgickaa.La
open Go.RowKit Go.Proofs.YthdoilfjcgickaaW.PrintWords Go.Proofs.YthdoilfjcgickaaW.PrintMore Go.Proofs.Ythdoilfjcgickaa.Ma Go.Proofs.Ythdoilfjcgickaa.Pr Go.Proofs.Ythdoilfjcgickaa.Hm Go.Proofs.Ythdoilfjcgickaa.Op
theorem szP2 {M : List (List Int)} {Q : List Int} (ga : GoodList (GoodList (GoodInt .i64)) M) (gb : GoodList (GoodInt .i64) Q) :
  ∃ t : Int, Ev (fun k => laws_szProblem.f k M Q 1048576) t ∧ t ≤ 1048576 ∧ (0 ≤ t → tot M ≤ 1048576 ∧ Q.length ≤ 1048576) := by
 have h1 := szSS M ga (n := 1048576) (by decide) (by decide)
 by_cases c : (1048576 : Int) < (tot M : Int)
 ·rw [if_pos c] at h1
  exact ⟨-1, by unfold laws_szProblem.f; exact evbind h1 (evpos (by decide) (evc rfl)), by decide, fun h => by omega⟩
 ·rw [if_neg c] at h1
  have h2 := sz_eq (l := Q) (n := 1048576 - (tot M : Int)) (by omega) (by omega) gb.1
  by_cases c2 : (1048576 : Int) - (tot M : Int) < (Q.length : Int)
  ·rw [if_pos c2] at h2
   exact ⟨-1, by unfold laws_szProblem.f; exact evbind h1 (evneg (by omega) (evsome h2 (evpos (by decide) (evc rfl)))), by decide, fun h => by omega⟩
  ·rw [if_neg c2] at h2
   exact ⟨_, by unfold laws_szProblem.f; exact evbind h1 (evneg (by omega) (evsome h2 (evneg (by omega) (evc rfl)))), by omega, fun _ => ⟨by omega, by omega⟩⟩
theorem toP {M : List (List Int)} {Q : List Int} (hM : Fit M) (hQ : Q.length ≤ 1048576) : Ev (fun k => laws_toProblem.f k M Q) (M, Q) := by
 unfold laws_toProblem.f
 exact evbind (fit_to hM) (evbind (toI Q hQ) (evc rfl))
theorem eqPr {M : List (List Int)} {Q : List Int} (hM : Fit M) (hQ : Q.length ≤ 1152921504606846976) : Ev (fun k => laws_eqProblem.f k M Q M Q) true := by
 unfold laws_eqProblem.f
 exact evbind (fit_eq hM) (evpos rfl (evbind (eqI_same Q hQ) (evpos rfl (evc rfl))))
end Go.Proofs.Ythdoilfjcgickaa.La
end
section
namespace Go.Proofs.Ythdoilfjcgickaa.Pure
open Go.RowKit Go.Proofs.YthdoilfjcgickaaW.PrintWords Go.Proofs.YthdoilfjcgickaaW.PrintMore Go.Proofs.Ythdoilfjcgickaa.Ma Go.Proofs.Ythdoilfjcgickaa.Pr Go.Proofs.Ythdoilfjcgickaa.La Go.Proofs.Ythdoilfjcgickaa.Op
theorem FnExactCountLemke : Say.FnExactCountLemke := by
 intro M q a ga gb gc
 obtain ⟨t, ⟨k0, ht⟩, ht1, hf⟩ := szP2 ga gb
 by_cases c0 : t < 0
 ·refine ⟨k0, ?_⟩
  unfold laws_FnExactCountLemke.f
  rw [if_pos]
  exact .inr ⟨t, ht _ (Nat.le_refl _), c0⟩
 ·obtain ⟨ta, tb⟩ := hf (by omega)
  have fa := fit_of ta
  obtain ⟨R, ⟨k1, e1⟩, ⟨k2, e2⟩⟩ := Lsa.count_both M q a tb
  obtain ⟨k3, e3⟩ := toP fa tb
  obtain ⟨k6, e6⟩ := eqPr (Q := q) fa (by omega)
  refine ⟨k0 + k1 + k2 + k3 + k6, ?_⟩
  unfold laws_FnExactCountLemke.f
  rw [if_pos]
  exact .inl ⟨t, R.1, R.2.1, R.2.2, ht _ (by omega), c0, e3 _ (by omega), e1 _ (by omega), e2 _ (by omega), e6 _ (by omega)⟩
end Go.Proofs.Ythdoilfjcgickaa.Pure
end
section
namespace Go.Proofs.Ythdoilfjcgickaa.fnExactCountLemke
open Go.ChangeShapes Go.WideShapes Go.ChangeAt Go.RowKit Go.Proofs.Ythdoilfjcgickaa.Op Go.Proofs.YthdoilfjcgickaaW.PrintWords
theorem own : ownKnob Try.prog.godebug = none := by kernel_rfl
theorem laidOut : laidOutB Try.prog = true := by kernel_rfl
theorem lifted (os : Os) (started : os.Started) (H : Type) (enc : TypeId × Value → H) :
  ReturnsInHanded {} Try.checked os 12 .any (Rows.fnExactCountLemkeSpec.pre6 enc Try.prog Try.f12 Rows.fnExactCountLemkeRow.domain false) (Rows.fnExactCountLemkeSpec.post enc Try.prog Try.f12 false true false false) := by
 refine returnsInHanded_of_change_sized (C := Try.checked) own started (by kernel_rfl) Try.func12
  (ChangeSpec.witness6 (enc := enc) (C := Try.checked) false ⟨#[], #[.agg #[.slice none 0 0, .slice none 0 0], .int .i64 0], []⟩ 8 (by kernel_rfl) (by kernel_rfl) (by kernel_rfl) (by kernel_rfl)) ?_
 intro W base args ds gs before hval0 hW hcnd hsz0 _
 have hval : ∀ (j : Nat) t v, Try.f12.params[j]? = some t → args[j]? = some v → Value.okWide Try.prog W .any base t v := hval0
 have hW' := hW
 obtain ⟨p, q, hA0, hV, rfl, hfz, hnd⟩ := hW
 have hA : DataW.TrodAll enc Try.prog W 0 (fun _ => true) true Try.f12.params.toList args.toList ds p := hA0
 rw [Try.params12] at hA hval
 obtain ⟨v0, vs0, d0, ds0, p0, q0, hargs, rfl, rfl, h0, r0⟩ := trodAll_cons hA
 obtain ⟨v1, vs1, d1, ds1, p1, q1, rfl, rfl, rfl, h1, r1⟩ := trodAll_cons r0
 obtain ⟨rfl, rfl, rfl⟩ := trodAll_nil r1
 obtain rfl : args = #[v0, v1] := by cases args; simp_all
 obtain ⟨rfl, rfl⟩ := trodVars_none hV
 have k0 := h0
 have lt0 := trod_blocks k0
 obtain ⟨⟨x0_0, x0_1⟩, cs0, rfl, hk0, g0⟩ := arg_struct Try.underlying25 (opens_struct2 Try.underlying25 ⟨by kernel_rfl, by kernel_rfl⟩ ⟨by kernel_rfl, by kernel_rfl⟩ (by kernel_rfl) (opens_slice Try.underlying22 (by kernel_rfl) (opens_slice Try.underlying23 (by kernel_rfl) (opens_int Try.underlying2))) (opens_slice Try.underlying23 (by kernel_rfl) (opens_int Try.underlying2)) id (Kd.pair (Kd.slice 23 (Kd.slice 2 (Kd.int .i64))) (Kd.slice 2 (Kd.int .i64))) (fun _ _ _ h => h) (fun x => (GoodList (GoodList (GoodInt .i64))) x.1 ∧ (GoodList (GoodInt .i64)) x.2) (fun _ h0 h1 => ⟨h0, h1⟩)) (hval 0 25 v0 rfl rfl) h0
 obtain ⟨A0_0, c0_0, A0_1, c0_1, rfl, q0_0, r0_0, q0_1, r0_1⟩ := cells_slice_slice hk0
 have k1 := h1
 have lt1 := trod_blocks k1
 obtain ⟨a1, rfl, rfl, rfl, g1⟩ := open_int Try.underlying2 (hval 1 2 v1 rfl rfl) h1
 obtain ⟨k, h⟩ := Pure.FnExactCountLemke x0_0 x0_1 a1 g0.1 g0.2 g1
 clear hA0 hval0 hsz0
 refine (Pr.laws_FnExactCountLemke.calls k A0_0 c0_0 x0_0 A0_1 c0_1 x0_1 a1 true W r0_0 q0_0 r0_1 q0_1 h).mono ?_
 rintro e W' ⟨rfl, bel0⟩
 have bel : Below W.heap.size W W' := by first | exact bel0 | exact bel0.below
 exact ⟨_, rfl, _, _, _, [], _, [], hW', trodAll_mk1 (shut_bool Try.underlying4 _), (trodAll_cons_mk (Below.trod laidOut (by kernel_rfl) (of_decide_eq_true (by kernel_rfl)) k0 bel lt0) (trodAll_cons_mk (Below.trod laidOut (by kernel_rfl) (of_decide_eq_true (by kernel_rfl)) k1 bel lt1) trodAll_mk0)), rfl, bel.frame _, fun h => by cases h⟩
theorem over : Rows.fnExactCountLemkeRow.holds Try.pinned (OpenSpec.ofChange Rows.fnExactCountLemkeSpec) :=
 OpenClaim.holds_of_wide 12 Try.f12 rfl rfl rfl rfl rfl rfl rfl ⟨rfl, rfl, rfl, rfl, rfl⟩ rfl rfl rfl rfl rfl (by kernel_rfl) Try.func12 (by kernel_rfl)
  (of_decide_eq_true (by kernel_rfl)) (by unfold Func.isWrapper; first | (rw [if_pos (by decide +kernel)]; kernel_rfl) | (rw [if_neg (by decide +kernel)]; exact ⟨rfl, rfl⟩))
  (fun os started H enc _ => lifted os started H enc)
theorem proved : Rows.FnExactCountLemkeSaid := over
#print axioms proved
end Go.Proofs.Ythdoilfjcgickaa.fnExactCountLemke
namespace Go.Proofs.Ythdoilfjcgickaa
theorem fnExactCountLemke_holds : Rows.FnExactCountLemkeSaid := fnExactCountLemke.proved
end Go.Proofs.Ythdoilfjcgickaa
end
