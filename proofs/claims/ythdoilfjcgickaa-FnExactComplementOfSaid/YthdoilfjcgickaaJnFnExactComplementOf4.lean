/- Texts of one claim (the words of the kit's print that the claim uses, printed functions, and this session's own texts), joined in the order of their imports by this session's own program (merge.py). -/
import Derived.Test.YthdoilfjcgickaaRows
import Derived.WalkKit
import Derived.ProofKit
import Derived.OpenShut
import Derived.ShutString
import Derived.ChangeOld
import Derived.Below
import Derived.SizedLaws
import Derived.Test.YthdoilfjcgickaaJnFnExactComplementOf0
import Derived.Test.YthdoilfjcgickaaJnFnExactComplementOf1
import Derived.Test.YthdoilfjcgickaaJnFnExactComplementOf2
import Derived.Test.YthdoilfjcgickaaJnFnExactComplementOf3
set_option linter.unusedVariables false
set_option linter.unusedSimpArgs false
set_option maxHeartbeats 8000000
set_option maxRecDepth 100000
section
namespace Go.Proofs.Ythdoilfjcgickaa.Pr
open Go.RowKit Go.Proofs.YthdoilfjcgickaaW.PrintWords Go.Proofs.YthdoilfjcgickaaW.PrintLast Go.Proofs.YthdoilfjcgickaaW.PrintMore Go.Proofs.Ythdoilfjcgickaa.La Go.Proofs.Ythdoilfjcgickaa.Hm Go.Proofs.Ythdoilfjcgickaa.Lw
theorem laws_FnExactComplementOf.walk (k : Nat) (A0_0 : Option Addr) (c0_0 : Nat) (l0_0 : List (List Int)) (A0_1 : Option Addr) (c0_1 : Nat) (l0_1 : List Int) (a1 : Int) (t21 : Int) (s0 : List (List Int)) (s1 : Int) (s2 : Int) (m1 : Int) (m2 : Int) (w : World) (hr0_0 : Kd.C (Kd.slice 2 (Kd.int .i64)) w A0_0 l0_0.length l0_0) (hc0_0 : l0_0.length ≤ c0_0) (hr0_1 : Kd.C (Kd.int .i64) w A0_1 l0_1.length l0_1) (hc0_1 : l0_1.length ≤ c0_1) (h1 : laws_szProblem.f k l0_0 l0_1 1048576 = some t21) (h2 : ¬ t21 < 0) (h3 : laws_toProblem.f k l0_0 l0_1 = some (l0_0, l0_1)) (h4 : spec_ComplementOf.f k l0_0 l0_1 a1 = some (s0, s1, s2)) (h5 : impl_ComplementOf.f k l0_0 l0_1 a1 = some (s0, s1, s2)) (h6 : laws_eqInt64SS.f k s0 s0 = some true) (h7 : laws_eqProblem.f k l0_0 l0_1 l0_0 l0_1 = some true) (h8 : m1 = 1 + (lens l0_0 : Int) + (l0_1.length : Int)) (h9 : 1 + (lens l0_0 : Int) + (l0_1.length : Int) ≤ 1099511627776) (h10 : l0_0.length ≤ 1099511627776) (h11 : ¬ m1 < 0) (h12 : m2 = 1 + (lens s0 : Int)) (h13 : 1 + (lens s0 : Int) ≤ 1099511627776) (h14 : s0.length ≤ 1099511627776) (h15 : ¬ m2 < 0) (h16 : laws_heldInt64SS.f k ((marks s0 1)) 1 = some m2) :
  Calls Try.prog 5 #[.agg #[.slice A0_0 l0_0.length c0_0, .slice A0_1 l0_1.length c0_1], .int .i64 a1] w fun e w' => e = .returned (.bool true) ∧ Below w.heap.size w w' := by
 have HR0_0 := Aside0.mk hr0_0
 have HC0_0 := Aside0.mk hc0_0
 clear hr0_0 hc0_0
 have HR0_1 := Aside0.mk hr0_1
 have HC0_1 := Aside0.mk hc0_1
 clear hr0_1 hc0_1
 have HB := Aside0.mk (Below.refl w.heap.size w)
 have H1' := Aside0.mk h1
 clear h1
 have H3' := Aside0.mk h3
 clear h3
 have H4' := Aside0.mk h4
 clear h4
 have H5' := Aside0.mk h5
 clear h5
 have H6' := Aside0.mk h6
 clear h6
 have H7' := Aside0.mk h7
 clear h7
 have H8' := Aside0.mk h8
 clear h8
 have H9' := Aside0.mk h9
 clear h9
 have H10' := Aside0.mk h10
 clear h10
 have H12' := Aside0.mk h12
 clear h12
 have H13' := Aside0.mk h13
 clear h13
 have H14' := Aside0.mk h14
 clear h14
 have H16' := Aside0.mk h16
 clear h16
 go_enter Try.func5, Try.ntmps5
 go_wp2_with (first | ((with_reducible refine gate_dst (N := 2) rfl ?_); refine box_event ?hg (N := 2) ?hd (cs := #[.slice A0_0 l0_0.length c0_0, .slice A0_1 l0_1.length c0_1]) (t := 25) ?hr ?_; (case hd => rfl); (case hg => rfl); (case hr => first | (go_simp; done) | (go_simp; rfl)); intro g2 hg w1 hbox hb; have Gg2 : Aside0 (g2 = w.heap.size) := ⟨hg⟩; have Kg2 := Aside0.mk (blk_lt hbox); clear hg; have n_HB := Aside0.mk (below_step HB.out hb); have NN1 : Aside0 (w.heap.size ≤ w1.heap.size) := ⟨hb.size⟩; clear HB; have HB := n_HB; clear n_HB; have Bg2 := Aside0.mk hbox; clear hb hbox; have hc2_0 : w1.cell? ⟨g2, 0, none⟩ = some (.slice A0_0 l0_0.length c0_0) := (blk_cell Bg2.out 0).trans rfl; have hf2_0 := blk_frozen Bg2.out 0; have hc2_1 : w1.cell? ⟨g2, 1, none⟩ = some (.slice A0_1 l0_1.length c0_1) := (blk_cell Bg2.out 1).trans rfl; have hf2_1 := blk_frozen Bg2.out 1) | ((with_reducible refine gate_callee (f := 15) rfl ?_); refine goesL_ (some 21) rfl rfl Try.func15 (by kernel_rfl) rfl #[.agg #[.slice A0_0 l0_0.length c0_0, .slice A0_1 l0_1.length c0_1], .int .i64 1048576] rfl (by (try simp only [List.map_toArray, List.map_cons, List.map_nil]); first | done | rfl) ?_; refine (laws_szProblem.calls k _ _ l0_0 _ _ l0_1 1048576 t21 _ ?s1 ?s2 ?s3 ?s4 H1'.out).mono ?_; (case s1 => exact Kd.C_below HR0_0.out HB.out); (case s2 => exact HC0_0.out); (case s3 => exact Kd.C_below HR0_1.out HB.out); (case s4 => exact HC0_1.out); rintro e w2 ⟨rfl, hb⟩; refine ⟨_, rfl, ?_⟩; have n_Bg2 := Aside0.mk (blk_below Bg2.out hb); have n_HB := Aside0.mk (below_step HB.out hb); have NN2 : Aside0 (w1.heap.size ≤ w2.heap.size) := ⟨hb.size⟩; clear hc2_0 hf2_0; clear hc2_1 hf2_1; clear Bg2 HB; have Bg2 := n_Bg2; have HB := n_HB; clear n_Bg2 n_HB; clear hb; have hc2_0 : w2.cell? ⟨g2, 0, none⟩ = some (.slice A0_0 l0_0.length c0_0) := (blk_cell Bg2.out 0).trans rfl; have hf2_0 := blk_frozen Bg2.out 0; have hc2_1 : w2.cell? ⟨g2, 1, none⟩ = some (.slice A0_1 l0_1.length c0_1) := (blk_cell Bg2.out 1).trans rfl; have hf2_1 := blk_frozen Bg2.out 1) | ((with_reducible refine gate_callee (f := 17) rfl ?_); refine goesL_ (some 26) rfl rfl Try.func17 (by kernel_rfl) rfl #[.agg #[.slice A0_0 l0_0.length c0_0, .slice A0_1 l0_1.length c0_1]] rfl (by (try simp only [List.map_toArray, List.map_cons, List.map_nil]); first | done | rfl) ?_; refine (laws_toProblem.calls k _ _ l0_0 _ _ l0_1 l0_0 l0_1 _ ?s1 ?s2 ?s3 ?s4 H3'.out).mono ?_; (case s1 => exact Kd.C_below HR0_0.out HB.out); (case s2 => exact HC0_0.out); (case s3 => exact Kd.C_below HR0_1.out HB.out); (case s4 => exact HC0_1.out); rintro e w3 ⟨v26_0, v26_1, rfl, ho0, ho1, hb⟩; refine ⟨_, rfl, ?_⟩; have nu0 := Aside0.mk (UP.of ho0 ho1 HB.out.size); have n_Bg2 := Aside0.mk (blk_below Bg2.out hb); have n_HB := Aside0.mk (below_step HB.out hb); have NN3 : Aside0 (w2.heap.size ≤ w3.heap.size) := ⟨hb.size⟩; clear hc2_0 hf2_0; clear hc2_1 hf2_1; clear Bg2 HB; have Bg2 := n_Bg2; have HB := n_HB; clear n_Bg2 n_HB; clear hb ho0 ho1; have U26 := nu0; clear nu0; obtain ⟨A26_0, c26_0, A26_1, c26_1, e0, e1⟩ := U26.out.slices; subst e0; subst e1) | ((with_reducible refine gate_callee (f := 29) rfl ?_); refine goesL_ (some 28) rfl rfl Try.func29 (by kernel_rfl) rfl #[.agg #[.slice A26_0 l0_0.length c26_0, .slice A26_1 l0_1.length c26_1], .int .i64 a1] rfl (by (try simp only [List.map_toArray, List.map_cons, List.map_nil]); first | done | rfl) ?_; refine (spec_ComplementOf.calls k _ _ l0_0 _ _ l0_1 a1 s0 s1 s2 _ ?s1 ?s2 ?s3 ?s4 H4'.out).mono ?_; (case s1 => exact U26.out.C0); (case s2 => exact U26.out.cap0); (case s3 => exact U26.out.C1); (case s4 => exact U26.out.cap1); rintro e w4 ⟨v28_0, rfl, ho0, hb⟩; refine ⟨_, rfl, ?_⟩; have nu0 := Aside0.mk (US.of ho0 HB.out.size); have n_U26 := Aside0.mk (U26.out.mvB (Frm.below hb)); have n_Bg2 := Aside0.mk (blk_below Bg2.out hb); have n_HB := Aside0.mk (below_step HB.out hb); have NN4 : Aside0 (w3.heap.size ≤ w4.heap.size) := ⟨hb.size⟩; clear U26 Bg2 HB; have U26 := n_U26; have Bg2 := n_Bg2; have HB := n_HB; clear n_U26 n_Bg2 n_HB; clear hb ho0; have U28_0 := nu0; clear nu0; obtain ⟨A28_0, c28_0, e0⟩ := Kd.S_slice U28_0.out; subst e0; have hc2_0 : w4.cell? ⟨g2, 0, none⟩ = some (.slice A0_0 l0_0.length c0_0) := (blk_cell Bg2.out 0).trans rfl; have hf2_0 := blk_frozen Bg2.out 0; have hc2_1 : w4.cell? ⟨g2, 1, none⟩ = some (.slice A0_1 l0_1.length c0_1) := (blk_cell Bg2.out 1).trans rfl; have hf2_1 := blk_frozen Bg2.out 1) | ((with_reducible refine gate_callee (f := 17) rfl ?_); refine goesL_ (some 33) rfl rfl Try.func17 (by kernel_rfl) rfl #[.agg #[.slice A0_0 l0_0.length c0_0, .slice A0_1 l0_1.length c0_1]] rfl (by (try simp only [List.map_toArray, List.map_cons, List.map_nil]); first | done | rfl) ?_; refine (laws_toProblem.calls k _ _ l0_0 _ _ l0_1 l0_0 l0_1 _ ?s1 ?s2 ?s3 ?s4 H3'.out).mono ?_; (case s1 => exact Kd.C_below HR0_0.out HB.out); (case s2 => exact HC0_0.out); (case s3 => exact Kd.C_below HR0_1.out HB.out); (case s4 => exact HC0_1.out); rintro e w5 ⟨v33_0, v33_1, rfl, ho0, ho1, hb⟩; refine ⟨_, rfl, ?_⟩; have nu0 := Aside0.mk (UP.of ho0 ho1 HB.out.size); have n_U26 := Aside0.mk (U26.out.mvB (Frm.below hb)); have n_U28_0 := Aside0.mk (U28_0.out.mvB (Frm.below hb)); have n_Bg2 := Aside0.mk (blk_below Bg2.out hb); have n_HB := Aside0.mk (below_step HB.out hb); have NN5 : Aside0 (w4.heap.size ≤ w5.heap.size) := ⟨hb.size⟩; clear hc2_0 hf2_0; clear hc2_1 hf2_1; clear U26 U28_0 Bg2 HB; have U26 := n_U26; have U28_0 := n_U28_0; have Bg2 := n_Bg2; have HB := n_HB; clear n_U26 n_U28_0 n_Bg2 n_HB; clear hb ho0 ho1; have U33 := nu0; clear nu0; obtain ⟨A33_0, c33_0, A33_1, c33_1, e0, e1⟩ := U33.out.slices; subst e0; subst e1) | ((with_reducible refine gate_dst (N := 9) rfl ?_); refine box_event ?hg (N := 9) ?hd (cs := #[.slice none 0 0, .slice none 0 0]) (t := 29) ?hr ?_; (case hd => rfl); (case hg => rfl); (case hr => first | (go_simp; done) | (go_simp; rfl)); intro g9 hg w6 hbox hb; have Gg9 : Aside0 (g9 = w5.heap.size) := ⟨hg⟩; have Kg9 := Aside0.mk (blk_lt hbox); clear hg; have n_U26 := Aside0.mk (U26.out.mvB (Frm.below hb)); have n_U28_0 := Aside0.mk (U28_0.out.mvB (Frm.below hb)); have n_U33 := Aside0.mk (U33.out.mvB (Frm.below hb)); have n_Bg2 := Aside0.mk (blk_below Bg2.out hb); have n_HB := Aside0.mk (below_step HB.out hb); have NN6 : Aside0 (w5.heap.size ≤ w6.heap.size) := ⟨hb.size⟩; clear U26 U28_0 U33 Bg2 HB; have U26 := n_U26; have U28_0 := n_U28_0; have U33 := n_U33; have Bg2 := n_Bg2; have HB := n_HB; clear n_U26 n_U28_0 n_U33 n_Bg2 n_HB; have Bg9 := Aside0.mk hbox; clear hb hbox; have hc9_0 : w6.cell? ⟨g9, 0, none⟩ = some (.slice none 0 0) := (blk_cell Bg9.out 0).trans rfl; have hf9_0 := blk_frozen Bg9.out 0; have hc9_1 : w6.cell? ⟨g9, 1, none⟩ = some (.slice none 0 0) := (blk_cell Bg9.out 1).trans rfl; have hf9_1 := blk_frozen Bg9.out 1) | ((with_reducible refine gate_store (t := 29) (p := 9) rfl ?_); refine store_event (t := 29) (p := 9) (v := ?vo_w7) (w1 := ((w6.setCell ⟨g9, 0, none⟩ (.slice A33_0 l0_0.length c33_0)).setCell ⟨g9, 1, none⟩ (.slice A33_1 l0_1.length c33_1))) ?hg ?ho ?hn ?hr ?_; (case ho => rfl); (case hg => rfl); (case hn => rfl); (case hr => first | (go_simp; done) | (go_simp; rfl)); intro w7 hw; have hge : w.heap.size ≤ g9 := (by have := NN1.out; have := Gg2.out; have := Kg2.out; have := NN2.out; have := NN3.out; have := NN4.out; have := NN5.out; have := NN6.out; have := Gg9.out; have := Kg9.out; have := HB.out.size; omega); have hF : Frm w6 w7 g9 (g9 + 1) := (by rw [hw]; exact (Frm.trans (Frm.set _ _ _ _) (Frm.set _ _ _ _))); have nb := Aside0.mk (show w7.heap[g9]? = some (.cells #[.slice A33_0 l0_0.length c33_0, .slice A33_1 l0_1.length c33_1] 29 (0, 0)) from (by rw [hw]; exact (blk_put (blk_put Bg9.out 0 _ rfl) 1 _ rfl))); have n_U26 := Aside0.mk (U26.out.mv hF (by have := NN1.out; have := Gg2.out; have := Kg2.out; have := NN2.out; have := NN3.out; have := NN4.out; have := NN5.out; have := NN6.out; have := Gg9.out; have := Kg9.out; omega)); have n_U28_0 := Aside0.mk (U28_0.out.mv hF (by have := NN1.out; have := Gg2.out; have := Kg2.out; have := NN2.out; have := NN3.out; have := NN4.out; have := NN5.out; have := NN6.out; have := Gg9.out; have := Kg9.out; omega)); have n_U33 := Aside0.mk (U33.out.mv hF (by have := NN1.out; have := Gg2.out; have := Kg2.out; have := NN2.out; have := NN3.out; have := NN4.out; have := NN5.out; have := NN6.out; have := Gg9.out; have := Kg9.out; omega)); have n_Bg2 := Aside0.mk ((hF.same g2 (blk_lt Bg2.out) (by have := NN1.out; have := Gg2.out; have := Kg2.out; have := NN2.out; have := NN3.out; have := NN4.out; have := NN5.out; have := NN6.out; have := Gg9.out; have := Kg9.out; omega)).trans Bg2.out); have n_HB := Aside0.mk ((by rw [hw]; exact (below_set (below_set HB.out hge) hge) : Below w.heap.size w w7)); have NN7 : Aside0 (w6.heap.size ≤ w7.heap.size) := ⟨hF.size⟩; clear hc9_0 hf9_0; clear hc9_1 hf9_1; clear U26 U28_0 U33 Bg2 HB; have U26 := n_U26; have U28_0 := n_U28_0; have U33 := n_U33; have Bg2 := n_Bg2; have HB := n_HB; clear n_U26 n_U28_0 n_U33 n_Bg2 n_HB; clear Bg9; have Bg9 := nb; clear nb hF hge hw; have hc9_0 : w7.cell? ⟨g9, 0, none⟩ = some (.slice A33_0 l0_0.length c33_0) := (blk_cell Bg9.out 0).trans rfl; have hf9_0 := blk_frozen Bg9.out 0; have hc9_1 : w7.cell? ⟨g9, 1, none⟩ = some (.slice A33_1 l0_1.length c33_1) := (blk_cell Bg9.out 1).trans rfl; have hf9_1 := blk_frozen Bg9.out 1) | ((with_reducible refine gate_callee (f := 30) rfl ?_); refine goesL_ (some 37) rfl rfl Try.func30 (by kernel_rfl) rfl #[.agg #[.slice A33_0 l0_0.length c33_0, .slice A33_1 l0_1.length c33_1], .int .i64 a1] rfl (by (try simp only [List.map_toArray, List.map_cons, List.map_nil]); first | done | rfl) ?_; refine (impl_ComplementOf.calls k _ _ l0_0 _ _ l0_1 a1 s0 s1 s2 _ ?s1 ?s2 ?s3 ?s4 H5'.out).mono ?_; (case s1 => exact U33.out.C0); (case s2 => exact U33.out.cap0); (case s3 => exact U33.out.C1); (case s4 => exact U33.out.cap1); rintro e w8 ⟨v37_0, rfl, ho0, hb⟩; refine ⟨_, rfl, ?_⟩; have nu0 := Aside0.mk (US.of ho0 HB.out.size); have n_U26 := Aside0.mk (U26.out.mvB (Frm.below hb)); have n_U28_0 := Aside0.mk (U28_0.out.mvB (Frm.below hb)); have n_U33 := Aside0.mk (U33.out.mvB (Frm.below hb)); have n_Bg2 := Aside0.mk (blk_below Bg2.out hb); have n_Bg9 := Aside0.mk (blk_below Bg9.out hb); have n_HB := Aside0.mk (below_step HB.out hb); have NN8 : Aside0 (w7.heap.size ≤ w8.heap.size) := ⟨hb.size⟩; clear hc9_0 hf9_0; clear hc9_1 hf9_1; clear U26 U28_0 U33 Bg2 Bg9 HB; have U26 := n_U26; have U28_0 := n_U28_0; have U33 := n_U33; have Bg2 := n_Bg2; have Bg9 := n_Bg9; have HB := n_HB; clear n_U26 n_U28_0 n_U33 n_Bg2 n_Bg9 n_HB; clear hb ho0; have U37_0 := nu0; clear nu0; obtain ⟨A37_0, c37_0, e0⟩ := Kd.S_slice U37_0.out; subst e0) | ((with_reducible refine gate_callee (f := 19) rfl ?_); refine goesL_ (some 43) rfl rfl Try.func19 (by kernel_rfl) rfl #[.slice A37_0 s0.length c37_0, .slice A28_0 s0.length c28_0] rfl (by (try simp only [List.map_toArray, List.map_cons, List.map_nil]); first | done | rfl) ?_; refine (laws_eqInt64SS.calls k _ _ s0 _ _ s0 true _ ?s1 ?s2 ?s3 ?s4 H6'.out).mono ?_; (case s1 => exact US.C U37_0.out); (case s2 => exact US.cap U37_0.out); (case s3 => exact US.C U28_0.out); (case s4 => exact US.cap U28_0.out); rintro e w9 ⟨rfl, hb⟩; refine ⟨_, rfl, ?_⟩; have hb := hb.below; have n_U26 := Aside0.mk (U26.out.mvB (Frm.below hb)); have n_U28_0 := Aside0.mk (U28_0.out.mvB (Frm.below hb)); have n_U33 := Aside0.mk (U33.out.mvB (Frm.below hb)); have n_U37_0 := Aside0.mk (U37_0.out.mvB (Frm.below hb)); have n_Bg2 := Aside0.mk (blk_below Bg2.out hb); have n_Bg9 := Aside0.mk (blk_below Bg9.out hb); have n_HB := Aside0.mk (below_step HB.out hb); have NN9 : Aside0 (w8.heap.size ≤ w9.heap.size) := ⟨hb.size⟩; clear U26 U28_0 U33 U37_0 Bg2 Bg9 HB; have U26 := n_U26; have U28_0 := n_U28_0; have U33 := n_U33; have U37_0 := n_U37_0; have Bg2 := n_Bg2; have Bg9 := n_Bg9; have HB := n_HB; clear n_U26 n_U28_0 n_U33 n_U37_0 n_Bg2 n_Bg9 n_HB; clear hb))
 try go_wp2
 have hb : Below w9.heap.size w9 w9.drew := (Below.refl _ _).drew
 have n_U26 := Aside0.mk (U26.out.mvB (Frm.below hb))
 have n_U28_0 := Aside0.mk (U28_0.out.mvB (Frm.below hb))
 have n_U33 := Aside0.mk (U33.out.mvB (Frm.below hb))
 have n_U37_0 := Aside0.mk (U37_0.out.mvB (Frm.below hb))
 have n_Bg2 := Aside0.mk (blk_below Bg2.out hb)
 have n_Bg9 := Aside0.mk (blk_below Bg9.out hb)
 have n_HB := Aside0.mk (below_step HB.out hb)
 have NN10 : Aside0 (w9.heap.size ≤ w9.drew.heap.size) := ⟨hb.size⟩
 clear U26 U28_0 U33 U37_0 Bg2 Bg9 HB
 have U26 := n_U26
 have U28_0 := n_U28_0
 have U33 := n_U33
 have U37_0 := n_U37_0
 have Bg2 := n_Bg2
 have Bg9 := n_Bg9
 have HB := n_HB
 clear n_U26 n_U28_0 n_U33 n_U37_0 n_Bg2 n_Bg9 n_HB
 clear hb
 refine st_ (n := 5) (S := fun w' => w'.cell? ⟨g9, 0, none⟩ = some (.slice A33_0 l0_0.length c33_0) ∧ w'.cell? ⟨g9, 1, none⟩ = some (.slice A33_1 l0_1.length c33_1) ∧ w'.cell? ⟨g2, 0, none⟩ = some (.slice A0_0 l0_0.length c0_0) ∧ w'.cell? ⟨g2, 1, none⟩ = some (.slice A0_1 l0_1.length c0_1)) (ds := []) ⟨(blk_cell Bg9.out 0).trans rfl, (blk_cell Bg9.out 1).trans rfl, (blk_cell Bg2.out 0).trans rfl, (blk_cell Bg2.out 1).trans rfl⟩ (fun hHeld => ?_)
 generalize w9.drew = w10 at U26 U28_0 U33 U37_0 Bg2 Bg9 HB NN10 hHeld ⊢
 have hc2_0 : w10.cell? ⟨g2, 0, none⟩ = some (.slice A0_0 l0_0.length c0_0) := (blk_cell Bg2.out 0).trans rfl
 have hf2_0 := blk_frozen Bg2.out 0
 have hc2_1 : w10.cell? ⟨g2, 1, none⟩ = some (.slice A0_1 l0_1.length c0_1) := (blk_cell Bg2.out 1).trans rfl
 have hf2_1 := blk_frozen Bg2.out 1
 have hc9_0 : w10.cell? ⟨g9, 0, none⟩ = some (.slice A33_0 l0_0.length c33_0) := (blk_cell Bg9.out 0).trans rfl
 have hf9_0 := blk_frozen Bg9.out 0
 have hc9_1 : w10.cell? ⟨g9, 1, none⟩ = some (.slice A33_1 l0_1.length c33_1) := (blk_cell Bg9.out 1).trans rfl
 have hf9_1 := blk_frozen Bg9.out 1
 refine tk_ 0 55 ?_; refine tk_ 1 56 ?_
 refine on_ 2 (some 57) (fun K hK => ?_)
 refine goes_ Try.func17 (by kernel_rfl) rfl #[.agg #[.slice A0_0 l0_0.length c0_0, .slice A0_1 l0_1.length c0_1]] (by rfl) rfl rfl (by (try simp only [List.map_toArray, List.map_cons, List.map_nil]); first | done | rfl) ?_
 (refine (laws_toProblem.calls k _ _ l0_0 _ _ l0_1 l0_0 l0_1 _ ?s1 ?s2 ?s3 ?s4 H3'.out).mono ?_; (case s1 => exact Kd.C_below HR0_0.out HB.out); (case s2 => exact HC0_0.out); (case s3 => exact Kd.C_below HR0_1.out HB.out); (case s4 => exact HC0_1.out); rintro e w11 ⟨v57_0, v57_1, rfl, ho0, ho1, hb⟩; refine ⟨_, rfl, ?_⟩; have nu0 := Aside0.mk (UP.of ho0 ho1 HB.out.size); have n_U26 := Aside0.mk (U26.out.mvB (Frm.below hb)); have n_U28_0 := Aside0.mk (U28_0.out.mvB (Frm.below hb)); have n_U33 := Aside0.mk (U33.out.mvB (Frm.below hb)); have n_U37_0 := Aside0.mk (U37_0.out.mvB (Frm.below hb)); have n_Bg2 := Aside0.mk (blk_below Bg2.out hb); have n_Bg9 := Aside0.mk (blk_below Bg9.out hb); have n_HB := Aside0.mk (below_step HB.out hb); have NN11 : Aside0 (w10.heap.size ≤ w11.heap.size) := ⟨hb.size⟩; clear hc2_0 hf2_0; clear hc2_1 hf2_1; clear hc9_0 hf9_0; clear hc9_1 hf9_1; clear U26 U28_0 U33 U37_0 Bg2 Bg9 HB; have U26 := n_U26; have U28_0 := n_U28_0; have U33 := n_U33; have U37_0 := n_U37_0; have Bg2 := n_Bg2; have Bg9 := n_Bg9; have HB := n_HB; clear n_U26 n_U28_0 n_U33 n_U37_0 n_Bg2 n_Bg9 n_HB; clear hb ho0 ho1; have U57 := nu0; clear nu0; obtain ⟨A57_0, c57_0, A57_1, c57_1, e0, e1⟩ := U57.out.slices; subst e0; subst e1)
 refine hK.out _ _ ⟨(blk_cell Bg9.out 0).trans rfl, (blk_cell Bg9.out 1).trans rfl, (blk_cell Bg2.out 0).trans rfl, (blk_cell Bg2.out 1).trans rfl⟩ (fun hHeld => ?_)
 clear hK K
 refine norm_ (a' := ?_) ?_ ?_
 rotate_left
 ·show Act.put _ (some 57) _ = _
  simp only [Act.put, List.setIfInBounds_toArray, List.set_cons_zero, List.set_cons_succ, i64_w, i32_w]
  rfl
 refine on_ 3 (some 58) (fun K hK => ?_)
 refine goes_ Try.func20 (by kernel_rfl) rfl #[.agg #[.slice A33_0 l0_0.length c33_0, .slice A33_1 l0_1.length c33_1], .agg #[.slice A57_0 l0_0.length c57_0, .slice A57_1 l0_1.length c57_1]] (by rfl) rfl rfl (by (try simp only [List.map_toArray, List.map_cons, List.map_nil]); first | done | rfl) ?_
 (refine (laws_eqProblem.calls k _ _ l0_0 _ _ l0_1 _ _ l0_0 _ _ l0_1 true _ ?s1 ?s2 ?s3 ?s4 ?s5 ?s6 ?s7 ?s8 H7'.out).mono ?_; (case s1 => exact U33.out.C0); (case s2 => exact U33.out.cap0); (case s3 => exact U33.out.C1); (case s4 => exact U33.out.cap1); (case s5 => exact U57.out.C0); (case s6 => exact U57.out.cap0); (case s7 => exact U57.out.C1); (case s8 => exact U57.out.cap1); rintro e w12 ⟨rfl, hb⟩; refine ⟨_, rfl, ?_⟩; have n_U26 := Aside0.mk (U26.out.mvB (Frm.below hb)); have n_U28_0 := Aside0.mk (U28_0.out.mvB (Frm.below hb)); have n_U33 := Aside0.mk (U33.out.mvB (Frm.below hb)); have n_U37_0 := Aside0.mk (U37_0.out.mvB (Frm.below hb)); have n_U57 := Aside0.mk (U57.out.mvB (Frm.below hb)); have n_Bg2 := Aside0.mk (blk_below Bg2.out hb); have n_Bg9 := Aside0.mk (blk_below Bg9.out hb); have n_HB := Aside0.mk (below_step HB.out hb); have NN12 : Aside0 (w11.heap.size ≤ w12.heap.size) := ⟨hb.size⟩; clear U26 U28_0 U33 U37_0 U57 Bg2 Bg9 HB; have U26 := n_U26; have U28_0 := n_U28_0; have U33 := n_U33; have U37_0 := n_U37_0; have U57 := n_U57; have Bg2 := n_Bg2; have Bg9 := n_Bg9; have HB := n_HB; clear n_U26 n_U28_0 n_U33 n_U37_0 n_U57 n_Bg2 n_Bg9 n_HB; clear hb; have hc9_0 : w12.cell? ⟨g9, 0, none⟩ = some (.slice A33_0 l0_0.length c33_0) := (blk_cell Bg9.out 0).trans rfl; have hf9_0 := blk_frozen Bg9.out 0; have hc9_1 : w12.cell? ⟨g9, 1, none⟩ = some (.slice A33_1 l0_1.length c33_1) := (blk_cell Bg9.out 1).trans rfl; have hf9_1 := blk_frozen Bg9.out 1)
 refine hK.out _ _ ⟨(blk_cell Bg9.out 0).trans rfl, (blk_cell Bg9.out 1).trans rfl, (blk_cell Bg2.out 0).trans rfl, (blk_cell Bg2.out 1).trans rfl⟩ (fun hHeld => ?_)
 clear hK K
 refine norm_ (a' := ?_) ?_ ?_
 rotate_left
 ·show Act.put _ (some 58) _ = _
  simp only [Act.put, List.setIfInBounds_toArray, List.set_cons_zero, List.set_cons_succ, i64_w, i32_w]
  rfl
 refine pu_ 4 59 ?_
 refine done_ (by kernel_rfl) ?_
 go_wp2_with (first | ((with_reducible refine gate_callee (f := 21) rfl ?_); refine goesL_ (some 62) rfl rfl Try.func21 (by kernel_rfl) rfl #[.agg #[.slice A33_0 l0_0.length c33_0, .slice A33_1 l0_1.length c33_1], .int .i64 1] rfl (by (try simp only [List.map_toArray, List.map_cons, List.map_nil]); first | done | rfl) ?_; refine (mark_UP A33_0 c33_0 A33_1 c33_1 l0_0 l0_1 1 m1 HB.out U33.out (by decide) H9'.out H10'.out H8'.out (by have := NN1.out; have := Gg2.out; have := Kg2.out; have := NN2.out; have := NN3.out; have := NN4.out; have := NN5.out; have := NN6.out; have := Gg9.out; have := Kg9.out; have := NN7.out; have := NN8.out; have := NN9.out; have := NN10.out; have := NN11.out; have := NN12.out; omega)).mono ?_; rintro e w13 ⟨rfl, hU, hB', hF⟩; refine ⟨_, rfl, ?_⟩; have nu := Aside0.mk hU; have n_U26 := Aside0.mk (U26.out.mv hF (by have := NN1.out; have := Gg2.out; have := Kg2.out; have := NN2.out; have := NN3.out; have := NN4.out; have := NN5.out; have := NN6.out; have := Gg9.out; have := Kg9.out; have := NN7.out; have := NN8.out; have := NN9.out; have := NN10.out; have := NN11.out; have := NN12.out; omega)); have n_U28_0 := Aside0.mk (U28_0.out.mv hF (by have := NN1.out; have := Gg2.out; have := Kg2.out; have := NN2.out; have := NN3.out; have := NN4.out; have := NN5.out; have := NN6.out; have := Gg9.out; have := Kg9.out; have := NN7.out; have := NN8.out; have := NN9.out; have := NN10.out; have := NN11.out; have := NN12.out; omega)); have n_U37_0 := Aside0.mk (U37_0.out.mv hF (by have := NN1.out; have := Gg2.out; have := Kg2.out; have := NN2.out; have := NN3.out; have := NN4.out; have := NN5.out; have := NN6.out; have := Gg9.out; have := Kg9.out; have := NN7.out; have := NN8.out; have := NN9.out; have := NN10.out; have := NN11.out; have := NN12.out; omega)); have n_U57 := Aside0.mk (U57.out.mv hF (by have := NN1.out; have := Gg2.out; have := Kg2.out; have := NN2.out; have := NN3.out; have := NN4.out; have := NN5.out; have := NN6.out; have := Gg9.out; have := Kg9.out; have := NN7.out; have := NN8.out; have := NN9.out; have := NN10.out; have := NN11.out; have := NN12.out; omega)); have n_Bg2 := Aside0.mk ((hF.same g2 (blk_lt Bg2.out) (by have := NN1.out; have := Gg2.out; have := Kg2.out; have := NN2.out; have := NN3.out; have := NN4.out; have := NN5.out; have := NN6.out; have := Gg9.out; have := Kg9.out; have := NN7.out; have := NN8.out; have := NN9.out; have := NN10.out; have := NN11.out; have := NN12.out; omega)).trans Bg2.out); have n_Bg9 := Aside0.mk ((hF.same g9 (blk_lt Bg9.out) (by have := NN1.out; have := Gg2.out; have := Kg2.out; have := NN2.out; have := NN3.out; have := NN4.out; have := NN5.out; have := NN6.out; have := Gg9.out; have := Kg9.out; have := NN7.out; have := NN8.out; have := NN9.out; have := NN10.out; have := NN11.out; have := NN12.out; omega)).trans Bg9.out); have n_HB := Aside0.mk (hB'); have NN13 : Aside0 (w12.heap.size ≤ w13.heap.size) := ⟨hF.size⟩; clear hc9_0 hf9_0; clear hc9_1 hf9_1; clear U26 U28_0 U37_0 U57 Bg2 Bg9 HB; have U26 := n_U26; have U28_0 := n_U28_0; have U37_0 := n_U37_0; have U57 := n_U57; have Bg2 := n_Bg2; have Bg9 := n_Bg9; have HB := n_HB; clear n_U26 n_U28_0 n_U37_0 n_U57 n_Bg2 n_Bg9 n_HB; clear U33; have U33 := nu; clear nu hU hB' hF) | (go_at_call 19; refine (laws_eqInt64SS.calls k _ _ s0 _ _ s0 true _ ?s1 ?s2 ?s3 ?s4 H6'.out).mono ?_; (case s1 => exact US.C U37_0.out); (case s2 => exact US.cap U37_0.out); (case s3 => exact US.C U28_0.out); (case s4 => exact US.cap U28_0.out); rintro e w14 ⟨rfl, hb⟩; have hb := hb.below; have n_U26 := Aside0.mk (U26.out.mvB (Frm.below hb)); have n_U28_0 := Aside0.mk (U28_0.out.mvB (Frm.below hb)); have n_U33 := Aside0.mk (U33.out.mvB (Frm.below hb)); have n_U37_0 := Aside0.mk (U37_0.out.mvB (Frm.below hb)); have n_U57 := Aside0.mk (U57.out.mvB (Frm.below hb)); have n_Bg2 := Aside0.mk (blk_below Bg2.out hb); have n_Bg9 := Aside0.mk (blk_below Bg9.out hb); have n_HB := Aside0.mk (below_step HB.out hb); have NN14 : Aside0 (w13.heap.size ≤ w14.heap.size) := ⟨hb.size⟩; clear U26 U28_0 U33 U37_0 U57 Bg2 Bg9 HB; have U26 := n_U26; have U28_0 := n_U28_0; have U33 := n_U33; have U37_0 := n_U37_0; have U57 := n_U57; have Bg2 := n_Bg2; have Bg9 := n_Bg9; have HB := n_HB; clear n_U26 n_U28_0 n_U33 n_U37_0 n_U57 n_Bg2 n_Bg9 n_HB; clear hb) | ((with_reducible refine gate_callee (f := 22) rfl ?_); refine goesL_ (some 83) rfl rfl Try.func22 (by kernel_rfl) rfl #[.slice A37_0 s0.length c37_0, .int .i64 1] rfl (by (try simp only [List.map_toArray, List.map_cons, List.map_nil]); first | done | rfl) ?_; refine (mark_US _ s0 1 m2 HB.out U37_0.out (by decide) H13'.out H14'.out H12'.out).mono ?_; rintro e w15 ⟨rfl, hU, hB', hF⟩; refine ⟨_, rfl, ?_⟩; have nu := Aside0.mk hU; have n_U26 := Aside0.mk (U26.out.mv hF (by have := NN1.out; have := Gg2.out; have := Kg2.out; have := NN2.out; have := NN3.out; have := NN4.out; have := NN5.out; have := NN6.out; have := Gg9.out; have := Kg9.out; have := NN7.out; have := NN8.out; have := NN9.out; have := NN10.out; have := NN11.out; have := NN12.out; have := NN13.out; have := NN14.out; omega)); have n_U28_0 := Aside0.mk (U28_0.out.mv hF (by have := NN1.out; have := Gg2.out; have := Kg2.out; have := NN2.out; have := NN3.out; have := NN4.out; have := NN5.out; have := NN6.out; have := Gg9.out; have := Kg9.out; have := NN7.out; have := NN8.out; have := NN9.out; have := NN10.out; have := NN11.out; have := NN12.out; have := NN13.out; have := NN14.out; omega)); have n_U33 := Aside0.mk (U33.out.mv hF (by have := NN1.out; have := Gg2.out; have := Kg2.out; have := NN2.out; have := NN3.out; have := NN4.out; have := NN5.out; have := NN6.out; have := Gg9.out; have := Kg9.out; have := NN7.out; have := NN8.out; have := NN9.out; have := NN10.out; have := NN11.out; have := NN12.out; have := NN13.out; have := NN14.out; omega)); have n_U57 := Aside0.mk (U57.out.mv hF (by have := NN1.out; have := Gg2.out; have := Kg2.out; have := NN2.out; have := NN3.out; have := NN4.out; have := NN5.out; have := NN6.out; have := Gg9.out; have := Kg9.out; have := NN7.out; have := NN8.out; have := NN9.out; have := NN10.out; have := NN11.out; have := NN12.out; have := NN13.out; have := NN14.out; omega)); have n_Bg2 := Aside0.mk ((hF.same g2 (blk_lt Bg2.out) (by have := NN1.out; have := Gg2.out; have := Kg2.out; have := NN2.out; have := NN3.out; have := NN4.out; have := NN5.out; have := NN6.out; have := Gg9.out; have := Kg9.out; have := NN7.out; have := NN8.out; have := NN9.out; have := NN10.out; have := NN11.out; have := NN12.out; have := NN13.out; have := NN14.out; omega)).trans Bg2.out); have n_Bg9 := Aside0.mk ((hF.same g9 (blk_lt Bg9.out) (by have := NN1.out; have := Gg2.out; have := Kg2.out; have := NN2.out; have := NN3.out; have := NN4.out; have := NN5.out; have := NN6.out; have := Gg9.out; have := Kg9.out; have := NN7.out; have := NN8.out; have := NN9.out; have := NN10.out; have := NN11.out; have := NN12.out; have := NN13.out; have := NN14.out; omega)).trans Bg9.out); have n_HB := Aside0.mk (hB'); have NN15 : Aside0 (w14.heap.size ≤ w15.heap.size) := ⟨hF.size⟩; clear U26 U28_0 U33 U57 Bg2 Bg9 HB; have U26 := n_U26; have U28_0 := n_U28_0; have U33 := n_U33; have U57 := n_U57; have Bg2 := n_Bg2; have Bg9 := n_Bg9; have HB := n_HB; clear n_U26 n_U28_0 n_U33 n_U57 n_Bg2 n_Bg9 n_HB; clear U37_0; have U37_0 := nu; clear nu hU hB' hF) | ((with_reducible refine gate_callee (f := 23) rfl ?_); refine goesL_ (some 86) rfl rfl Try.func23 (by kernel_rfl) rfl #[.slice A37_0 s0.length c37_0, .int .i64 1] rfl (by (try simp only [List.map_toArray, List.map_cons, List.map_nil]); first | done | rfl) ?_; have hcall := laws_heldInt64SS.calls k _ _ ((marks s0 1)) 1 m2 _ (US.C U37_0.out) (US.cap U37_0.out) H16'.out; simp only [marks_length, count_length] at hcall; refine hcall.mono ?_; clear hcall; rintro e w16 ⟨rfl, hb⟩; refine ⟨_, rfl, ?_⟩; have hb := hb.below; have n_U26 := Aside0.mk (U26.out.mvB (Frm.below hb)); have n_U28_0 := Aside0.mk (U28_0.out.mvB (Frm.below hb)); have n_U33 := Aside0.mk (U33.out.mvB (Frm.below hb)); have n_U37_0 := Aside0.mk (U37_0.out.mvB (Frm.below hb)); have n_U57 := Aside0.mk (U57.out.mvB (Frm.below hb)); have n_Bg2 := Aside0.mk (blk_below Bg2.out hb); have n_Bg9 := Aside0.mk (blk_below Bg9.out hb); have n_HB := Aside0.mk (below_step HB.out hb); have NN16 : Aside0 (w15.heap.size ≤ w16.heap.size) := ⟨hb.size⟩; clear U26 U28_0 U33 U37_0 U57 Bg2 Bg9 HB; have U26 := n_U26; have U28_0 := n_U28_0; have U33 := n_U33; have U37_0 := n_U37_0; have U57 := n_U57; have Bg2 := n_Bg2; have Bg9 := n_Bg9; have HB := n_HB; clear n_U26 n_U28_0 n_U33 n_U37_0 n_U57 n_Bg2 n_Bg9 n_HB; clear hb; have hc2_0 : w16.cell? ⟨g2, 0, none⟩ = some (.slice A0_0 l0_0.length c0_0) := (blk_cell Bg2.out 0).trans rfl; have hf2_0 := blk_frozen Bg2.out 0; have hc2_1 : w16.cell? ⟨g2, 1, none⟩ = some (.slice A0_1 l0_1.length c0_1) := (blk_cell Bg2.out 1).trans rfl; have hf2_1 := blk_frozen Bg2.out 1) | ((with_reducible refine gate_callee (f := 17) rfl ?_); refine goesL_ (some 94) rfl rfl Try.func17 (by kernel_rfl) rfl #[.agg #[.slice A0_0 l0_0.length c0_0, .slice A0_1 l0_1.length c0_1]] rfl (by (try simp only [List.map_toArray, List.map_cons, List.map_nil]); first | done | rfl) ?_; refine (laws_toProblem.calls k _ _ l0_0 _ _ l0_1 l0_0 l0_1 _ ?s1 ?s2 ?s3 ?s4 H3'.out).mono ?_; (case s1 => exact Kd.C_below HR0_0.out HB.out); (case s2 => exact HC0_0.out); (case s3 => exact Kd.C_below HR0_1.out HB.out); (case s4 => exact HC0_1.out); rintro e w17 ⟨v94_0, v94_1, rfl, ho0, ho1, hb⟩; refine ⟨_, rfl, ?_⟩; have nu0 := Aside0.mk (UP.of ho0 ho1 HB.out.size); have n_U26 := Aside0.mk (U26.out.mvB (Frm.below hb)); have n_U28_0 := Aside0.mk (U28_0.out.mvB (Frm.below hb)); have n_U33 := Aside0.mk (U33.out.mvB (Frm.below hb)); have n_U37_0 := Aside0.mk (U37_0.out.mvB (Frm.below hb)); have n_U57 := Aside0.mk (U57.out.mvB (Frm.below hb)); have n_Bg2 := Aside0.mk (blk_below Bg2.out hb); have n_Bg9 := Aside0.mk (blk_below Bg9.out hb); have n_HB := Aside0.mk (below_step HB.out hb); have NN17 : Aside0 (w16.heap.size ≤ w17.heap.size) := ⟨hb.size⟩; clear hc2_0 hf2_0; clear hc2_1 hf2_1; clear U26 U28_0 U33 U37_0 U57 Bg2 Bg9 HB; have U26 := n_U26; have U28_0 := n_U28_0; have U33 := n_U33; have U37_0 := n_U37_0; have U57 := n_U57; have Bg2 := n_Bg2; have Bg9 := n_Bg9; have HB := n_HB; clear n_U26 n_U28_0 n_U33 n_U37_0 n_U57 n_Bg2 n_Bg9 n_HB; clear hb ho0 ho1; have U94 := nu0; clear nu0; obtain ⟨A94_0, c94_0, A94_1, c94_1, e0, e1⟩ := U94.out.slices; subst e0; subst e1) | ((with_reducible refine gate_callee (f := 30) rfl ?_); refine goesL_ (some 96) rfl rfl Try.func30 (by kernel_rfl) rfl #[.agg #[.slice A94_0 l0_0.length c94_0, .slice A94_1 l0_1.length c94_1], .int .i64 a1] rfl (by (try simp only [List.map_toArray, List.map_cons, List.map_nil]); first | done | rfl) ?_; refine (impl_ComplementOf.calls k _ _ l0_0 _ _ l0_1 a1 s0 s1 s2 _ ?s1 ?s2 ?s3 ?s4 H5'.out).mono ?_; (case s1 => exact U94.out.C0); (case s2 => exact U94.out.cap0); (case s3 => exact U94.out.C1); (case s4 => exact U94.out.cap1); rintro e w18 ⟨v96_0, rfl, ho0, hb⟩; refine ⟨_, rfl, ?_⟩; have nu0 := Aside0.mk (US.of ho0 HB.out.size); have n_U26 := Aside0.mk (U26.out.mvB (Frm.below hb)); have n_U28_0 := Aside0.mk (U28_0.out.mvB (Frm.below hb)); have n_U33 := Aside0.mk (U33.out.mvB (Frm.below hb)); have n_U37_0 := Aside0.mk (U37_0.out.mvB (Frm.below hb)); have n_U57 := Aside0.mk (U57.out.mvB (Frm.below hb)); have n_U94 := Aside0.mk (U94.out.mvB (Frm.below hb)); have n_Bg2 := Aside0.mk (blk_below Bg2.out hb); have n_Bg9 := Aside0.mk (blk_below Bg9.out hb); have n_HB := Aside0.mk (below_step HB.out hb); have NN18 : Aside0 (w17.heap.size ≤ w18.heap.size) := ⟨hb.size⟩; clear U26 U28_0 U33 U37_0 U57 U94 Bg2 Bg9 HB; have U26 := n_U26; have U28_0 := n_U28_0; have U33 := n_U33; have U37_0 := n_U37_0; have U57 := n_U57; have U94 := n_U94; have Bg2 := n_Bg2; have Bg9 := n_Bg9; have HB := n_HB; clear n_U26 n_U28_0 n_U33 n_U37_0 n_U57 n_U94 n_Bg2 n_Bg9 n_HB; clear hb ho0; have U96_0 := nu0; clear nu0; obtain ⟨A96_0, c96_0, e0⟩ := Kd.S_slice U96_0.out; subst e0) | ((with_reducible refine gate_callee (f := 19) rfl ?_); refine goesL_ (some 102) rfl rfl Try.func19 (by kernel_rfl) rfl #[.slice A96_0 s0.length c96_0, .slice A28_0 s0.length c28_0] rfl (by (try simp only [List.map_toArray, List.map_cons, List.map_nil]); first | done | rfl) ?_; refine (laws_eqInt64SS.calls k _ _ s0 _ _ s0 true _ ?s1 ?s2 ?s3 ?s4 H6'.out).mono ?_; (case s1 => exact US.C U96_0.out); (case s2 => exact US.cap U96_0.out); (case s3 => exact US.C U28_0.out); (case s4 => exact US.cap U28_0.out); rintro e w19 ⟨rfl, hb⟩; refine ⟨_, rfl, ?_⟩; have hb := hb.below; have n_U26 := Aside0.mk (U26.out.mvB (Frm.below hb)); have n_U28_0 := Aside0.mk (U28_0.out.mvB (Frm.below hb)); have n_U33 := Aside0.mk (U33.out.mvB (Frm.below hb)); have n_U37_0 := Aside0.mk (U37_0.out.mvB (Frm.below hb)); have n_U57 := Aside0.mk (U57.out.mvB (Frm.below hb)); have n_U94 := Aside0.mk (U94.out.mvB (Frm.below hb)); have n_U96_0 := Aside0.mk (U96_0.out.mvB (Frm.below hb)); have n_Bg2 := Aside0.mk (blk_below Bg2.out hb); have n_Bg9 := Aside0.mk (blk_below Bg9.out hb); have n_HB := Aside0.mk (below_step HB.out hb); have NN19 : Aside0 (w18.heap.size ≤ w19.heap.size) := ⟨hb.size⟩; clear U26 U28_0 U33 U37_0 U57 U94 U96_0 Bg2 Bg9 HB; have U26 := n_U26; have U28_0 := n_U28_0; have U33 := n_U33; have U37_0 := n_U37_0; have U57 := n_U57; have U94 := n_U94; have U96_0 := n_U96_0; have Bg2 := n_Bg2; have Bg9 := n_Bg9; have HB := n_HB; clear n_U26 n_U28_0 n_U33 n_U37_0 n_U57 n_U94 n_U96_0 n_Bg2 n_Bg9 n_HB; clear hb) | ((with_reducible refine gate_callee (f := 23) rfl ?_); refine goesL_ (some 116) rfl rfl Try.func23 (by kernel_rfl) rfl #[.slice A37_0 s0.length c37_0, .int .i64 1] rfl (by (try simp only [List.map_toArray, List.map_cons, List.map_nil]); first | done | rfl) ?_; have hcall := laws_heldInt64SS.calls k _ _ ((marks s0 1)) 1 m2 _ (US.C U37_0.out) (US.cap U37_0.out) H16'.out; simp only [marks_length, count_length] at hcall; refine hcall.mono ?_; clear hcall; rintro e w20 ⟨rfl, hb⟩; refine ⟨_, rfl, ?_⟩; have hb := hb.below; have n_U26 := Aside0.mk (U26.out.mvB (Frm.below hb)); have n_U28_0 := Aside0.mk (U28_0.out.mvB (Frm.below hb)); have n_U33 := Aside0.mk (U33.out.mvB (Frm.below hb)); have n_U37_0 := Aside0.mk (U37_0.out.mvB (Frm.below hb)); have n_U57 := Aside0.mk (U57.out.mvB (Frm.below hb)); have n_U94 := Aside0.mk (U94.out.mvB (Frm.below hb)); have n_U96_0 := Aside0.mk (U96_0.out.mvB (Frm.below hb)); have n_Bg2 := Aside0.mk (blk_below Bg2.out hb); have n_Bg9 := Aside0.mk (blk_below Bg9.out hb); have n_HB := Aside0.mk (below_step HB.out hb); have NN20 : Aside0 (w19.heap.size ≤ w20.heap.size) := ⟨hb.size⟩; clear U26 U28_0 U33 U37_0 U57 U94 U96_0 Bg2 Bg9 HB; have U26 := n_U26; have U28_0 := n_U28_0; have U33 := n_U33; have U37_0 := n_U37_0; have U57 := n_U57; have U94 := n_U94; have U96_0 := n_U96_0; have Bg2 := n_Bg2; have Bg9 := n_Bg9; have HB := n_HB; clear n_U26 n_U28_0 n_U33 n_U37_0 n_U57 n_U94 n_U96_0 n_Bg2 n_Bg9 n_HB; clear hb))
 go_ret
 exact ⟨rfl, HB.out⟩
theorem laws_FnExactComplementOf.small0 (k : Nat) (A0_0 : Option Addr) (c0_0 : Nat) (l0_0 : List (List Int)) (A0_1 : Option Addr) (c0_1 : Nat) (l0_1 : List Int) (a1 : Int) (t21 : Int) (w : World) (hr0_0 : Kd.C (Kd.slice 2 (Kd.int .i64)) w A0_0 l0_0.length l0_0) (hc0_0 : l0_0.length ≤ c0_0) (hr0_1 : Kd.C (Kd.int .i64) w A0_1 l0_1.length l0_1) (hc0_1 : l0_1.length ≤ c0_1) (h1 : laws_szProblem.f k l0_0 l0_1 1048576 = some t21) (h2 : t21 < 0) :
  Calls Try.prog 5 #[.agg #[.slice A0_0 l0_0.length c0_0, .slice A0_1 l0_1.length c0_1], .int .i64 a1] w fun e w' => e = .returned (.bool true) ∧ Below w.heap.size w w' := by
 have HR0_0 := Aside0.mk hr0_0
 have HC0_0 := Aside0.mk hc0_0
 clear hr0_0 hc0_0
 have HR0_1 := Aside0.mk hr0_1
 have HC0_1 := Aside0.mk hc0_1
 clear hr0_1 hc0_1
 have HB := Aside0.mk (Below.refl w.heap.size w)
 have H1' := Aside0.mk h1
 clear h1
 go_enter Try.func5, Try.ntmps5
 go_wp2_with (first | ((with_reducible refine gate_dst (N := 2) rfl ?_); refine box_event ?hg (N := 2) ?hd (cs := #[.slice A0_0 l0_0.length c0_0, .slice A0_1 l0_1.length c0_1]) (t := 25) ?hr ?_; (case hd => rfl); (case hg => rfl); (case hr => first | (go_simp; done) | (go_simp; rfl)); intro g2 hg w1 hbox hb; have Gg2 : Aside0 (g2 = w.heap.size) := ⟨hg⟩; have Kg2 := Aside0.mk (blk_lt hbox); clear hg; have n_HB := Aside0.mk (below_step HB.out hb); have NN1 : Aside0 (w.heap.size ≤ w1.heap.size) := ⟨hb.size⟩; clear HB; have HB := n_HB; clear n_HB; have Bg2 := Aside0.mk hbox; clear hb hbox; have hc2_0 : w1.cell? ⟨g2, 0, none⟩ = some (.slice A0_0 l0_0.length c0_0) := (blk_cell Bg2.out 0).trans rfl; have hf2_0 := blk_frozen Bg2.out 0; have hc2_1 : w1.cell? ⟨g2, 1, none⟩ = some (.slice A0_1 l0_1.length c0_1) := (blk_cell Bg2.out 1).trans rfl; have hf2_1 := blk_frozen Bg2.out 1) | ((with_reducible refine gate_callee (f := 15) rfl ?_); refine goesL_ (some 21) rfl rfl Try.func15 (by kernel_rfl) rfl #[.agg #[.slice A0_0 l0_0.length c0_0, .slice A0_1 l0_1.length c0_1], .int .i64 1048576] rfl (by (try simp only [List.map_toArray, List.map_cons, List.map_nil]); first | done | rfl) ?_; refine (laws_szProblem.calls k _ _ l0_0 _ _ l0_1 1048576 t21 _ ?s1 ?s2 ?s3 ?s4 H1'.out).mono ?_; (case s1 => exact Kd.C_below HR0_0.out HB.out); (case s2 => exact HC0_0.out); (case s3 => exact Kd.C_below HR0_1.out HB.out); (case s4 => exact HC0_1.out); rintro e w2 ⟨rfl, hb⟩; refine ⟨_, rfl, ?_⟩; have n_Bg2 := Aside0.mk (blk_below Bg2.out hb); have n_HB := Aside0.mk (below_step HB.out hb); have NN2 : Aside0 (w1.heap.size ≤ w2.heap.size) := ⟨hb.size⟩; clear hc2_0 hf2_0; clear hc2_1 hf2_1; clear Bg2 HB; have Bg2 := n_Bg2; have HB := n_HB; clear n_Bg2 n_HB; clear hb; have hc2_0 : w2.cell? ⟨g2, 0, none⟩ = some (.slice A0_0 l0_0.length c0_0) := (blk_cell Bg2.out 0).trans rfl; have hf2_0 := blk_frozen Bg2.out 0; have hc2_1 : w2.cell? ⟨g2, 1, none⟩ = some (.slice A0_1 l0_1.length c0_1) := (blk_cell Bg2.out 1).trans rfl; have hf2_1 := blk_frozen Bg2.out 1))
 go_ret
 exact ⟨rfl, HB.out⟩
def laws_FnExactComplementOf.ok_walk (k : Nat) (l0_0 : List (List Int)) (l0_1 : List Int) (a1 : Int) : Prop := ∃ (t21 : Int) (s0 : List (List Int)) (s1 : Int) (s2 : Int) (m1 : Int) (m2 : Int), (laws_szProblem.f k l0_0 l0_1 1048576 = some t21) ∧ (¬ t21 < 0) ∧ (laws_toProblem.f k l0_0 l0_1 = some (l0_0, l0_1)) ∧ (spec_ComplementOf.f k l0_0 l0_1 a1 = some (s0, s1, s2)) ∧ (impl_ComplementOf.f k l0_0 l0_1 a1 = some (s0, s1, s2)) ∧ (laws_eqInt64SS.f k s0 s0 = some true) ∧ (laws_eqProblem.f k l0_0 l0_1 l0_0 l0_1 = some true) ∧ (m1 = 1 + (lens l0_0 : Int) + (l0_1.length : Int)) ∧ (1 + (lens l0_0 : Int) + (l0_1.length : Int) ≤ 1099511627776) ∧ (l0_0.length ≤ 1099511627776) ∧ (¬ m1 < 0) ∧ (m2 = 1 + (lens s0 : Int)) ∧ (1 + (lens s0 : Int) ≤ 1099511627776) ∧ (s0.length ≤ 1099511627776) ∧ (¬ m2 < 0) ∧ (laws_heldInt64SS.f k ((marks s0 1)) 1 = some m2)
def laws_FnExactComplementOf.ok_small0 (k : Nat) (l0_0 : List (List Int)) (l0_1 : List Int) (a1 : Int) : Prop := ∃ (t21 : Int), (laws_szProblem.f k l0_0 l0_1 1048576 = some t21) ∧ (t21 < 0)
open Classical in
noncomputable def laws_FnExactComplementOf.f (k : Nat) (l0_0 : List (List Int)) (l0_1 : List Int) (a1 : Int) : Option Bool := if laws_FnExactComplementOf.ok_walk k l0_0 l0_1 a1 ∨ laws_FnExactComplementOf.ok_small0 k l0_0 l0_1 a1 then some true else none
theorem laws_FnExactComplementOf.calls (k : Nat) (A0_0 : Option Addr) (c0_0 : Nat) (l0_0 : List (List Int)) (A0_1 : Option Addr) (c0_1 : Nat) (l0_1 : List Int) (a1 : Int) (r : Bool) (w : World) (hr0_0 : Kd.C (Kd.slice 2 (Kd.int .i64)) w A0_0 l0_0.length l0_0) (hc0_0 : l0_0.length ≤ c0_0) (hr0_1 : Kd.C (Kd.int .i64) w A0_1 l0_1.length l0_1) (hc0_1 : l0_1.length ≤ c0_1) (h : laws_FnExactComplementOf.f k l0_0 l0_1 a1 = some r) :
  Calls Try.prog 5 #[.agg #[.slice A0_0 l0_0.length c0_0, .slice A0_1 l0_1.length c0_1], .int .i64 a1] w fun e w' => e = .returned (.bool r) ∧ Below w.heap.size w w' := by
 unfold laws_FnExactComplementOf.f at h
 split at h
 case isFalse => cases h
 rename_i hok
 cases h
 rcases hok with ⟨t21, s0, s1, s2, m1, m2, h1, h2, h3, h4, h5, h6, h7, h8, h9, h10, h11, h12, h13, h14, h15, h16⟩ | ⟨t21, h1, h2⟩
 ·exact laws_FnExactComplementOf.walk k A0_0 c0_0 l0_0 A0_1 c0_1 l0_1 a1 t21 s0 s1 s2 m1 m2 w hr0_0 hc0_0 hr0_1 hc0_1 h1 h2 h3 h4 h5 h6 h7 h8 h9 h10 h11 h12 h13 h14 h15 h16
 ·exact laws_FnExactComplementOf.small0 k A0_0 c0_0 l0_0 A0_1 c0_1 l0_1 a1 t21 w hr0_0 hc0_0 hr0_1 hc0_1 h1 h2
end Go.Proofs.Ythdoilfjcgickaa.Pr
end
section
namespace Go.Proofs.Ythdoilfjcgickaa.Say
open Go.Proofs.Ythdoilfjcgickaa.Op Go.Proofs.Ythdoilfjcgickaa.Pr
def FnExactComplementOf : Prop := ∀ (l0_0 : List (List Int)) (l0_1 : List Int) (a1 : Int), GoodList (GoodList (GoodInt .i64)) l0_0 → GoodList (GoodInt .i64) l0_1 → GoodInt .i64 a1 → ∃ k, laws_FnExactComplementOf.f k l0_0 l0_1 a1 = some true
end Go.Proofs.Ythdoilfjcgickaa.Say
end
section
namespace Go.Proofs.Ythdoilfjcgickaa.Bz
open Go.RowKit Go.Proofs.YthdoilfjcgickaaW.PrintWords Go.Proofs.YthdoilfjcgickaaW.PrintMore Go.Proofs.Ythdoilfjcgickaa.Ma Go.Proofs.Ythdoilfjcgickaa.Dt Go.Proofs.Ythdoilfjcgickaa.Bd
theorem det_scal (L : Int) : ∀ n, det n (fun a b => if a = b then L else 0) = L ^ n := by
 intro n
 induction n with
 | zero => simp [det]
 | succ n ih =>
  rw [det_succ, sm_one (k := 0) (by omega) (fun i _ h => by rw [if_neg (by omega)]; simp)]
  rw [det_congr (A := mnr 0 (fun a b => if a = b then L else 0)) (B := fun a b => if a = b then L else 0) (fun i j _ _ => by simp [mnr, up]), ih]
  rw [if_pos rfl, Int.pow_succ, show sg 0 = 1 from rfl]
  grind
theorem det_zero_col {n c : Nat} (hc : c < n) {A : Mat} (h : ∀ i, i < n → A i c = 0) : det n A = 0 := by
 have := det_col_lin (A := A) (B := A) (C := A) (s := 0) (t := 0) hc (fun i hi => by rw [h i hi]; simp) (fun i j _ _ _ => ⟨rfl, rfl⟩)
 simpa using this
theorem det_1 (A : Mat) : det 1 A = A 0 0 := by simp [det, sm, sg]
theorem det_2 (A : Mat) : det 2 A = A 0 0 * A 1 1 - A 0 1 * A 1 0 := by
 simp [det, sm, sg, mnr, up]
 omega
def rs (i : Nat) (A : Mat) (r c : Nat) : Int := det i A * A r c - sm i (fun t => det i (rset t (A r) A) * A t c)
theorem rs_zero (i : Nat) (A : Mat) (r : Nat) {j : Nat} (hj : j < i) : rs i A r j = 0 := by
 unfold rs
 rw [adj_row A (A r) hj]; omega
theorem block_elim (i d : Nat) (A : Mat) : det i A ^ d * det (i + d) A = det i A * det d (fun a b => rs i A (i + a) (i + b)) := by
 let E : Mat := fun a b => if a < i then one a b else if b < i then - det i (rset b (A a) A) else if a = b then det i A else 0
 have hE : det (i + d) E = det i A ^ d := by
  rw [det_block d i E (fun a b ha hb _ => by simp only [E, if_pos ha, one]; rw [if_neg (by omega)])]
  rw [det_congr (A := E) (B := one) (fun a b ha _ => by simp only [E, if_pos ha]), det_one, Int.one_mul, ← det_scal]
  exact det_congr (fun a b _ _ => by simp only [sh, E]; rw [if_neg (by omega), if_neg (by omega)]; simp)
 have hlow (a b : Nat) (ha : i ≤ a) (ha2 : a < i + d) : mul (i + d) E A a b = rs i A a b := by
  unfold mul
  rw [sm_split, sm_congr (f := fun k => E a k * A k b) (g := fun k => (-1) * (det i (rset k (A a) A) * A k b)) (fun k hk => by simp only [E]; rw [if_neg (by omega), if_pos hk]; grind), sm_mul]
  rw [sm_one (n := d) (k := a - i) (by omega) (fun k hk hne => by simp only [E]; rw [if_neg (by omega), if_neg (by omega), if_neg (by omega)]; simp)]
  simp only [E]
  rw [if_neg (by omega), if_neg (by omega), if_pos (by omega), show i + (a - i) = a from by omega]
  unfold rs
  omega
 have hup (a b : Nat) (ha : a < i) : mul (i + d) E A a b = A a b := by
  unfold mul
  rw [sm_one (k := a) (by omega) (fun k hk hne => by simp only [E, if_pos ha, one]; rw [if_neg (by omega)]; simp)]
  simp [E, ha, one]
 rw [← hE, ← det_mul, det_block' d i (mul (i + d) E A) (fun a b h1 h2 h3 => by rw [hlow a b h1 h2, rs_zero i A a h3])]
 rw [det_congr (A := mul (i + d) E A) (B := A) (fun a b ha _ => hup a b ha)]
 congr 1
 exact det_congr (fun a b ha _ => by simp only [sh]; exact hlow _ _ (by omega) (by omega))
def bord (i r c : Nat) (A : Mat) : Mat := fun a b => A (if a < i then a else r) (if b < i then b else c)
def bm (i r c : Nat) (A : Mat) : Int := det (i + 1) (bord i r c A)
theorem rs_re (i : Nat) (A B : Mat) (r c r' c' : Nat) (h1 : ∀ a b, a < i → b < i → B a b = A a b) (h2 : ∀ b, b < i → B r' b = A r b) (h3 : ∀ a, a < i → B a c' = A a c) (h4 : B r' c' = A r c) : rs i B r' c' = rs i A r c := by
 unfold rs
 rw [det_congr (A := B) (B := A) h1, h4]
 congr 1
 refine sm_congr (fun t ht => ?_)
 rw [h3 t ht, det_congr (A := rset t (B r') B) (B := rset t (A r) A) (fun a b ha hb => by
  unfold rset
  split
  ·exact h2 b hb
  ·exact h1 a b ha hb)]
theorem bm_rs {i : Nat} {A : Mat} (hL : det i A ≠ 0) (r c : Nat) : bm i r c A = rs i A r c := by
 have h := block_elim i 1 (bord i r c A)
 rw [det_1, det_congr (A := bord i r c A) (B := A) (n := i) (fun a b ha hb => by simp [bord, ha, hb]), Int.pow_succ, Int.pow_zero, Int.one_mul] at h
 rw [rs_re i A (bord i r c A) r c (i + 0) (i + 0) (fun a b ha hb => by simp [bord, ha, hb]) (fun b hb => by simp [bord, hb]) (fun a ha => by simp [bord, ha]) (by simp [bord])] at h
 exact Int.eq_of_mul_eq_mul_left hL h
theorem sylv {i : Nat} {A : Mat} (hL : det i A ≠ 0) (r c : Nat) : det i A * bm (i + 1) r c A = bm i i i A * bm i r c A - bm i i c A * bm i r i A := by
 have h := block_elim i 2 (bord (i + 1) r c A)
 rw [det_2, det_congr (A := bord (i + 1) r c A) (B := A) (n := i) (fun a b ha hb => by unfold bord; rw [if_pos (by omega), if_pos (by omega)])] at h
 have q (a b r' c' : Nat) (ha : (if a < i + 1 then a else r) = r') (hb : (if b < i + 1 then b else c) = c') : rs i (bord (i + 1) r c A) a b = rs i A r' c' :=
  rs_re i A (bord (i + 1) r c A) r' c' a b (fun x y hx hy => by unfold bord; rw [if_pos (by omega), if_pos (by omega)]) (fun y hy => by unfold bord; rw [ha, if_pos (by omega)]) (fun x hx => by unfold bord; rw [hb, if_pos (by omega)]) (by unfold bord; rw [ha, hb])
 rw [q (i + 0) (i + 0) i i (by simp) (by simp), q (i + 1) (i + 1) r c (by simp) (by simp), q (i + 0) (i + 1) i c (by simp) (by simp), q (i + 1) (i + 0) r i (by simp) (by simp)] at h
 rw [← bm_rs hL, ← bm_rs hL, ← bm_rs hL, ← bm_rs hL] at h
 have e : det i A ^ 2 * det (i + 2) (bord (i + 1) r c A) = det i A * (det i A * bm (i + 1) r c A) := by unfold bm; grind
 rw [e] at h
 exact Int.eq_of_mul_eq_mul_left hL h
def fact : Nat → Nat
 | 0 => 1
 | n + 1 => (n + 1) * fact n
def b20 (n : Nat) : Nat := fact n * 20 ^ n
theorem sm_abs {n B : Nat} {f : Nat → Int} (h : ∀ i, i < n → (f i).natAbs ≤ B) : (sm n f).natAbs ≤ n * B := by
 induction n with
 | zero => simp [sm]
 | succ n ih =>
  have h1 := ih (fun i hi => h i (by omega))
  have h2 := h n (by omega)
  have h3 := Int.natAbs_add_le (sm n f) (f n)
  simp only [sm]
  rw [Nat.add_mul, Nat.one_mul]
  omega
theorem sg_abs (k : Nat) : (sg k).natAbs = 1 := by unfold sg; split <;> rfl
theorem det_abs20 : ∀ (n : Nat) (A : Mat), (∀ i j, i < n → j < n → (A i j).natAbs ≤ 20) → (det n A).natAbs ≤ b20 n := by
 intro n
 induction n with
 | zero => intro A _; show (1 : Int).natAbs ≤ 1; decide
 | succ n ih =>
  intro A h
  rw [det_succ]
  refine Nat.le_trans (sm_abs (B := 20 * b20 n) (fun k hk => ?_)) ?_
  ·rw [Int.natAbs_mul, Int.natAbs_mul, sg_abs, Nat.one_mul]
   exact Nat.mul_le_mul (h 0 k (by omega) hk) (ih (mnr k A) (fun i j hi hj => h _ _ (by omega) (up_lt hj)))
  ·unfold b20; rw [fact, Nat.pow_succ]
   exact Nat.le_of_eq (by grind)
def Bk (n k : Nat) (A : Mat) : Prop := ∀ i j, i < n → j < n → (A i j).natAbs ≤ if j = k then 100 else 20
theorem det_absk : ∀ (n k : Nat) (A : Mat), Bk n k A → (det n A).natAbs ≤ 5 * b20 n := by
 intro n
 induction n with
 | zero => intro k A _; show (1 : Int).natAbs ≤ 5 * 1; decide
 | succ n ih =>
  intro k A h
  rw [det_succ]
  refine Nat.le_trans (sm_abs (B := 100 * b20 n) (fun c hc => ?_)) ?_
  ·rw [Int.natAbs_mul, Int.natAbs_mul, sg_abs, Nat.one_mul]
   have h0 := h 0 c (by omega) hc
   by_cases e : c = k
   ·subst e
    rw [if_pos rfl] at h0
    exact Nat.mul_le_mul h0 (det_abs20 n (mnr c A) (fun i j hi hj => by have := h (i + 1) (up c j) (by omega) (up_lt hj); rwa [if_neg (up_ne c j)] at this))
   ·rw [if_neg e] at h0
    have := ih (dn c k) (mnr c A) (fun i j hi hj => by
     have := h (i + 1) (up c j) (by omega) (up_lt hj)
     unfold mnr
     by_cases q : up c j = k
     ·rw [if_pos q] at this
      rw [if_pos (by rw [← q, dn_up])]; exact this
     ·rw [if_neg q] at this
      split <;> omega)
    calc (A 0 c).natAbs * (det n (mnr c A)).natAbs ≤ 20 * (5 * b20 n) := Nat.mul_le_mul h0 this
     _ = 100 * b20 n := by omega
  ·unfold b20; rw [fact, Nat.pow_succ]
   exact Nat.le_of_eq (by grind)
theorem b20_le : ∀ n, n ≤ 5 → 5 * b20 n ≤ 1920000000 := by
 intro n h
 match n, h with
 | 0, _ => decide
 | 1, _ => decide
 | 2, _ => decide
 | 3, _ => decide
 | 4, _ => decide
 | 5, _ => decide
 | n + 6, h => omega
theorem bm_abs {n k : Nat} (hn : n ≤ 5) {A : Mat} (h : Bk n k A) {i r c : Nat} (hi : i < n) (hr : r < n) (hic : i ≤ c) (hc : c < n) : -1920000000 ≤ bm i r c A ∧ bm i r c A ≤ 1920000000 := by
 have h1 : (bm i r c A).natAbs ≤ 5 * b20 (i + 1) := det_absk (i + 1) (if k < i then k else i) _ (fun a b ha hb => by
  unfold bord
  have := h (if a < i then a else r) (if b < i then b else c) (by split <;> omega) (by split <;> omega)
  refine Nat.le_trans this ?_
  grind)
 have h2 := b20_le (i + 1) (by omega)
 omega
theorem prod_b {x y : Int} (hx : -1920000000 ≤ x ∧ x ≤ 1920000000) (hy : -1920000000 ≤ y ∧ y ≤ 1920000000) : -3686400000000000000 ≤ x * y ∧ x * y ≤ 3686400000000000000 := by
 have h : (x * y).natAbs ≤ 1920000000 * 1920000000 := by rw [Int.natAbs_mul]; exact Nat.mul_le_mul (by omega) (by omega)
 omega
structure Inv (n k i : Nat) (M : Mat) (last turn : Int) (A A0 : Mat) : Prop where
 le : i ≤ n
 small : Bk n k A
 num : ∀ r c, i ≤ r → r < n → i ≤ c → c < n → M r c = bm i r c A
 last_ : last = det i A
 nz : last ≠ 0
 turn_ : turn = 1 ∨ turn = -1
 det_ : turn * det n A = det n A0
section
variable {n k : Nat} (hn : n ≤ 5) {A0 : Mat}
include hn
theorem Inv.step {i : Nat} {M A : Mat} {last turn : Int} (h : Inv n k i M last turn A A0) (hi : i < n) (hp : M i i ≠ 0) : Inv n k (i + 1) (el M i last) (M i i) turn A A0 := by
 have hL : det i A ≠ 0 := by rw [← h.last_]; exact h.nz
 have hpi := h.num i i (Nat.le_refl _) hi (Nat.le_refl _) hi
 refine ⟨by omega, h.small, fun r c hr hrn hc hcn => ?_, ?_, hp, h.turn_, h.det_⟩
 ·unfold el ev
  rw [if_pos (by omega), h.num r c (by omega) hrn (by omega) hcn, hpi, h.num r i (by omega) hrn (Nat.le_refl _) hi, h.num i c (Nat.le_refl _) hi (by omega) hcn]
  have p1 := prod_b (bm_abs hn h.small hi hrn (by omega) hcn) (bm_abs hn h.small hi hi (Nat.le_refl _) hi)
  have p2 := prod_b (bm_abs hn h.small hi hrn (Nat.le_refl _) hi) (bm_abs hn h.small hi hi (by omega) hcn)
  have s := sylv hL r c
  have e : bm i r c A * bm i i i A - bm i r i A * bm i i c A = det i A * bm (i + 1) r c A := by rw [s]; grind
  have b := bm_abs hn h.small (i := i + 1) (r := r) (c := c) (by omega) hrn hc hcn
  rw [w64 (x := bm i r c A * bm i i i A) (by omega) (by omega), w64 (x := bm i r i A * bm i i c A) (by omega) (by omega), w64 (x := bm i r c A * bm i i i A - bm i r i A * bm i i c A) (by omega) (by omega), e, h.last_, Int.mul_tdiv_cancel_left _ hL]
  exact w64 (by omega) (by omega)
 ·rw [hpi]; unfold bm
  exact det_congr (fun a b ha hb => by
   unfold bord
   have e1 : (if a < i then a else i) = a := by split <;> omega
   have e2 : (if b < i then b else i) = b := by split <;> omega
   rw [e1, e2])
theorem Inv.none_ {i : Nat} {M A : Mat} {last turn : Int} (h : Inv n k i M last turn A A0) (hi : i < n) (hz : ∀ r, i ≤ r → r < n → M r i = 0) : det n A0 = 0 := by
 have _h := hn
 have hL : det i A ≠ 0 := by rw [← h.last_]; exact h.nz
 have b := block_elim i (n - i) A
 rw [show i + (n - i) = n from by omega, det_zero_col (c := 0) (A := fun a b => rs i A (i + a) (i + b)) (by omega) (fun a ha => by
  rw [← bm_rs hL, Nat.add_zero, ← h.num (i + a) i (by omega) (by omega) (Nat.le_refl _) hi]; exact hz _ (by omega) (by omega)), Int.mul_zero] at b
 have : det n A = 0 := by
  rcases Int.mul_eq_zero.1 b with b | b
  ·exact absurd b (Int.pow_ne_zero hL)
  ·exact b
 rw [← h.det_, this, Int.mul_zero]
theorem Inv.swap {i s : Nat} {M A : Mat} {last turn : Int} (h : Inv n k i M last turn A A0) (his : i < s) (hs : s < n) : Inv n k i (swp M i s) last (wrap64 (-turn)) (swp A i s) A0 := by
 have _h := hn
 have hsr (r : Nat) (hr : r < n) : (if r = i then s else if r = s then i else r) < n := by grind
 have hlow (a : Nat) (ha : a < i) : (if a = i then s else if a = s then i else a) = a := by rw [if_neg (by omega), if_neg (by omega)]
 have w : wrap64 (-turn) = -turn := w64 (by have := h.turn_; omega) (by have := h.turn_; omega)
 refine ⟨h.le, fun a b ha hb => h.small _ _ (hsr a ha) hb, fun r c hr hrn hc hcn => ?_, ?_, h.nz, by rw [w]; have := h.turn_; omega, ?_⟩
 ·unfold swp
  rw [h.num _ c (by grind) (hsr r hrn) hc hcn]
  unfold bm
  refine det_congr (fun a b _ _ => ?_)
  unfold bord
  by_cases ha : a < i
  ·simp only [if_pos ha]; rw [hlow a ha]
  ·simp only [if_neg ha]
 ·rw [h.last_]
  exact det_congr (fun a b ha _ => by unfold swp; rw [hlow a ha])
 ·have e := (det_form n).swap (r := i) (q := s) (A := A) (B := swp A i s) (by omega) hs (by omega) (fun j _ => ⟨by unfold swp; rw [if_pos rfl], by unfold swp; rw [if_neg (by omega), if_pos rfl]⟩) (fun a b _ _ h1 h2 => by unfold swp; rw [if_neg h1, if_neg h2])
  rw [e, w, ← h.det_]
  grind
theorem dgo_inv : ∀ (q i : Nat), i + q = n → ∀ (M A : Mat) (last turn : Int), Inv n k i M last turn A A0 → dgo n q i M last turn = det n A0 := by
 intro q
 induction q with
 | zero =>
  intro i hi M A last turn h
  obtain rfl : i = n := by omega
  show wrap64 (turn * last) = _
  rw [h.last_, h.det_]
  have b := det_absk i k A h.small
  have b2 := b20_le i hn
  have t := h.turn_
  have e := h.det_
  have : (det i A0).natAbs = (det i A).natAbs := by
   rw [← e, Int.natAbs_mul]
   rcases t with t | t <;> rw [t] <;> simp
  exact w64 (by omega) (by omega)
 | succ q ih =>
  intro i hi M A last turn h
  unfold dgo
  cases hf : fnd M i (n - i) 0 with
  | none =>
   have hz := fnd_none hf
   exact (h.none_ hn (by omega) (fun r h1 h2 => by have := hz (r - i) (Nat.zero_le _) (by omega); rwa [show i + (r - i) = r from by omega] at this)).symm
  | some kk =>
   obtain ⟨_, h2, h3, _⟩ := fnd_some hf
   cases kk with
   | zero => exact ih (i + 1) (by omega) _ A _ _ (h.step hn (by omega) h3)
   | succ kk =>
    have hs := h.swap hn (s := i + (kk + 1)) (by omega) (by omega)
    exact ih (i + 1) (by omega) _ _ _ _ (hs.step hn (by omega) (by unfold swp; rw [if_pos rfl]; exact h3))
end
theorem dgo_det {n k : Nat} (hn : n ≤ 5) (A : Mat) (h : Bk n k A) : dgo n n 0 A 1 1 = det n A := by
 refine dgo_inv hn (k := k) n 0 (by omega) A A 1 1 ⟨Nat.zero_le _, h, fun r c _ _ _ _ => ?_, rfl, by decide, .inl rfl, Int.one_mul _⟩
 unfold bm
 rw [det_1]; simp [bord]
end Go.Proofs.Ythdoilfjcgickaa.Bz
end
section
namespace Go.Proofs.Ythdoilfjcgickaa.Un
open Go.RowKit Go.Proofs.YthdoilfjcgickaaW.PrintWords Go.Proofs.YthdoilfjcgickaaW.PrintMore Go.Proofs.Ythdoilfjcgickaa.Ma Go.Proofs.Ythdoilfjcgickaa.Dt Go.Proofs.Ythdoilfjcgickaa.Bz
def sel (n : Nat) (P : Nat → Bool) : List Nat := (List.range n).filter P
def colM (P : Nat → Bool) (M : Mat) : Mat := fun i k => if P k = true then - M i k else if i = k then 1 else 0
end Go.Proofs.Ythdoilfjcgickaa.Un
end
section
namespace Go.Proofs.Ythdoilfjcgickaa.Cz
open Go.RowKit Go.Proofs.YthdoilfjcgickaaW.PrintWords Go.Proofs.YthdoilfjcgickaaW.PrintMore Go.Proofs.Ythdoilfjcgickaa.Ma Go.Proofs.Ythdoilfjcgickaa.Pr Go.Proofs.Ythdoilfjcgickaa.Dt Go.Proofs.Ythdoilfjcgickaa.Bz Go.Proofs.Ythdoilfjcgickaa.Un
def en (l : List (List Int)) : Mat := fun i j => (l.getD i []).getD j 0
structure Sq (n : Nat) (l : List (List Int)) : Prop where
 len : l.length = n
 row : ∀ i, i < n → (l.getD i []).length = n
 num : ∀ i j, i < n → j < n → (en l i j).natAbs ≤ 20
theorem rdL1 (l : List (List Int)) (i : Nat) : rd_L1 l (i : Int) = l.getD i [] := by simp [rd_L1]
def rw1 (m : Nat) (f : Nat → Int) : List Int := (List.range m).map f
theorem rw1_len (m : Nat) (f : Nat → Int) : (rw1 m f).length = m := by simp [rw1]
theorem rw1_succ (m : Nat) (f : Nat → Int) : rw1 (m + 1) f = rw1 m f ++ [f m] := by simp [rw1, List.range_succ]
def mk (r m : Nat) (f : Nat → Nat → Int) : List (List Int) := (List.range r).map fun i => rw1 m (f i)
theorem mk_len (r m : Nat) (f : Nat → Nat → Int) : (mk r m f).length = r := by simp [mk]
theorem mk_succ (r m : Nat) (f : Nat → Nat → Int) : mk (r + 1) m f = mk r m f ++ [rw1 m (f r)] := by simp [mk, List.range_succ]
theorem mk_row (r m : Nat) (f : Nat → Nat → Int) (i : Nat) (hi : i < r) : (mk r m f).getD i [] = rw1 m (f i) := by simp [mk, hi]
theorem mk_en (r m : Nat) (f : Nat → Nat → Int) (i j : Nat) (hi : i < r) (hj : j < m) : en (mk r m f) i j = f i j := by
 unfold en; rw [mk_row r m f i hi]; simp [rw1, hj]
theorem mk_rows (r m : Nat) (f : Nat → Nat → Int) : ∀ x ∈ mk r m f, x.length = m := by
 intro x hx
 obtain ⟨i, _, rfl⟩ := List.mem_map.1 hx
 exact rw1_len _ _
def partL (l : List (List Int)) (R L : List Nat) : List (List Int) := R.map fun i => L.map fun j => en l i j
theorem has_eq' (s : Int) (c : Nat) (hc : c < 64) : impl_has.f s (c : Int) = some (bB s c) := by
 unfold impl_has.f
 rw [if_pos (by omega), shr_and_one s hc]
 congr 1
 cases hb : bB s c <;> simp
theorem impl_part_eq' {n : Nat} {l : List (List Int)} (hn : n ≤ 5) (hl : l.length = n) (hrow : ∀ i, i < n → (l.getD i []).length = n) (s : Int) : Ev (fun k => impl_part.f k l s s) (partL l (sel n (bB s)) (sel n (bB s))) := by
 have sel_succ (i : Nat) : sel (i + 1) (bB s) = if bB s i = true then sel i (bB s) ++ [i] else sel i (bB s) := by
  unfold sel; rw [List.range_succ, List.filter_append]
  by_cases b : bB s i = true
  ·simp [b]
  ·simp [b]
 have sel_len (i : Nat) : (sel i (bB s)).length ≤ i := by unfold sel; have := List.length_filter_le (bB s) (List.range i); simpa using this
 have rows : ∀ q i, i + q = n → Ev (fun k => impl_part.l0 k s s (partL l (sel i (bB s)) (sel n (bB s))) l (n : Int) i) (partL l (sel n (bB s)) (sel n (bB s))) := by
  intro q
  induction q with
  | zero =>
   intro i hi
   obtain rfl : i = n := by omega
   exact evstep (fun k => by rw [impl_part.l0]) (evneg (by omega) (evc rfl))
  | succ q ih =>
   intro i hi
   have nx := ih (i + 1) (by omega)
   rw [sel_succ] at nx
   have hr := hrow i (by omega)
   refine evstep (fun k => by rw [impl_part.l0]) (evpos (by omega) (evpos (by omega) (evpos (by omega) (evsome (has_eq' s i (by omega)) ?_))))
   rw [w64 (x := (i : Int) + 1) (by omega) (by omega)]
   by_cases b : bB s i = true
   ·refine evpos b ?_
    rw [if_pos b] at nx
    rw [rdL1]
    have cols : ∀ p c, c + p = n → Ev (fun k => impl_part.l1 k s s (partL l (sel i (bB s)) (sel n (bB s))) ((sel c (bB s)).map fun j => en l i j) l (n : Int) i (l.getD i []) ((l.getD i []).length : Int) c) (partL l (sel n (bB s)) (sel n (bB s))) := by
     intro p
     induction p with
     | zero =>
      intro c hc
      obtain rfl : c = n := by omega
      refine evstep (fun k => by rw [impl_part.l1]) (evneg (by omega) (evpos ?_ ?_))
      ·unfold partL; rw [List.length_map]; have := sel_len i; omega
      ·rw [w64 (x := (i : Int) + 1) (by omega) (by omega)]
       unfold partL at nx ⊢
       rw [List.map_append] at nx
       exact nx
     | succ p ihp =>
      intro c hc
      have nx2 := ihp (c + 1) (by omega)
      rw [sel_succ] at nx2
      refine evstep (fun k => by rw [impl_part.l1]) (evpos (by omega) (evpos (by omega) (evpos (by omega) (evsome (has_eq' s c (by omega)) ?_))))
      rw [w64 (x := (c : Int) + 1) (by omega) (by omega)]
      by_cases b2 : bB s c = true
      ·rw [if_pos b2, List.map_append] at nx2
       refine evpos b2 (evpos (by rw [List.length_map]; have := sel_len c; omega) ?_)
       rw [rd_nat]
       exact nx2
      ·rw [if_neg b2] at nx2
       exact evneg b2 nx2
    have := cols n 0 (by omega)
    exact this
   ·rw [if_neg b] at nx
    exact evneg b nx
 have := rows n 0 (by omega)
 unfold impl_part.f
 rw [hl]
 exact this
section
variable {n : Nat} {l : List (List Int)} (h : Sq n l) (hn : n ≤ 5) (s : Int)
include h hn
theorem spec_cols : Ev (fun k => spec_l01Columns.f k l s) (mk n n (colM (bB s) (en l))) := by
 have hl := h.len
 have rows : ∀ q i, i + q = n → Ev (fun k => spec_l01Columns.l0 k l s (mk i n (colM (bB s) (en l))) i) (mk n n (colM (bB s) (en l))) := by
  intro q
  induction q with
  | zero =>
   intro i hi
   obtain rfl : i = n := by omega
   exact evstep (fun k => by rw [spec_l01Columns.l0]) (evneg (by omega) (evc rfl))
  | succ q ih =>
   intro i hi
   have nx := ih (i + 1) (by omega)
   have hr := h.row i (by omega)
   have cols : ∀ p c, c + p = n → Ev (fun k => spec_l01Columns.l1 k l s (mk i n (colM (bB s) (en l))) i (rw1 c (colM (bB s) (en l) i)) c) (mk n n (colM (bB s) (en l))) := by
    intro p
    induction p with
    | zero =>
     intro c hc
     obtain rfl : c = n := by omega
     refine evstep (fun k => by rw [spec_l01Columns.l1]) (evneg (by omega) (evpos (by rw [mk_len]; omega) ?_))
     rw [w64 (x := (i : Int) + 1) (by omega) (by omega), ← mk_succ]
     exact nx
    | succ p ihp =>
     intro c hc
     have nx2 := ihp (c + 1) (by omega)
     rw [rw1_succ] at nx2
     have hnum := h.num i c (by omega) (by omega)
     refine evstep (fun k => by rw [spec_l01Columns.l1]) (evpos (by omega) ?_)
     rw [u64w (x := (c : Int)) (by omega) (by omega), shr_and_one s (by omega)]
     refine evpos (by omega) ?_
     have ce : colM (bB s) (en l) i c = if bB s c = true then - en l i c else if i = c then 1 else 0 := rfl
     by_cases b : bB s c = true
     ·rw [if_pos b] at ce
      rw [ce] at nx2
      rw [rdL1]
      refine evpos (by rw [if_pos b]) (evpos (by omega) (evpos (by omega) (evpos (by omega) (evpos (by omega) (evpos (by rw [rw1_len]; omega) ?_)))))
      rw [rd_nat, show (l.getD i []).getD c 0 = en l i c from rfl, w64 (x := - en l i c) (by omega) (by omega), w64 (x := (c : Int) + 1) (by omega) (by omega)]
      exact nx2
     ·rw [if_neg b] at ce
      refine evneg (by rw [if_neg b]; decide) ?_
      rw [w64 (x := (c : Int) + 1) (by omega) (by omega)]
      by_cases e : i = c
      ·rw [if_pos e] at ce
       rw [ce] at nx2
       exact evpos (by omega) (evpos (by rw [rw1_len]; omega) nx2)
      ·rw [if_neg e] at ce
       rw [ce] at nx2
       exact evneg (by omega) (evpos (by rw [rw1_len]; omega) nx2)
   refine evstep (fun k => by rw [spec_l01Columns.l0]) (evpos (by omega) ?_)
   exact cols n 0 (by omega)
 exact rows n 0 (by omega)
theorem has_eq (c : Nat) (hc : c < 64) : impl_has.f s (c : Int) = some (bB s c) := by
 have _h := h
 have _h2 := hn
 unfold impl_has.f
 rw [if_pos (by omega), shr_and_one s hc]
 congr 1
 cases hb : bB s c <;> simp
end
end Go.Proofs.Ythdoilfjcgickaa.Cz
end
section
namespace Go.Proofs.Ythdoilfjcgickaa.Pb
open Go.RowKit Go.Proofs.YthdoilfjcgickaaW.PrintWords Go.Proofs.YthdoilfjcgickaaW.PrintMore Go.Proofs.Ythdoilfjcgickaa.Ma Go.Proofs.Ythdoilfjcgickaa.Pr Go.Proofs.Ythdoilfjcgickaa.Dt Go.Proofs.Ythdoilfjcgickaa.Bz Go.Proofs.Ythdoilfjcgickaa.Cz
theorem sin_eq (x a b : Int) : spec_l01In.f x a b = some (decide (a ≤ x ∧ x ≤ b)) := by
 unfold spec_l01In.f
 by_cases h : x ≥ a
 ·rw [if_pos h]; congr 1; rw [Bool.eq_iff_iff]; simp; omega
 ·rw [if_neg h]; congr 1; rw [Bool.eq_iff_iff]; simp; omega
theorem head_step {P : Nat → Prop} {i d : Nat} (h : i < d) : (∀ j, i ≤ j → j < d → P j) ↔ P i ∧ ∀ j, i + 1 ≤ j → j < d → P j :=
 ⟨fun q => ⟨q i (Nat.le_refl _) h, fun j h1 h2 => q j (by omega) h2⟩, fun q j h1 h2 => by
  by_cases e : j = i
  ·subst e; exact q.1
  ·exact q.2 j (by omega) h2⟩
theorem no_iff {b : Bool} {p : Prop} (h : b = true ↔ p) (hp : ¬ p) : b = false := by
 cases b with
 | false => rfl
 | true => exact absurd (h.1 rfl) hp
def N20 (x : Int) : Prop := -20 ≤ x ∧ x ≤ 20
def N100 (x : Int) : Prop := -100 ≤ x ∧ x ≤ 100
def RowM (M : List (List Int)) (i : Nat) : Prop := (M.getD i []).length = M.length ∧ ∀ j, 0 ≤ j → j < M.length → N20 (en M i j)
structure MatOK (M : List (List Int)) : Prop where
 n1 : 1 ≤ M.length
 n5 : M.length ≤ 5
 rows : ∀ i, 0 ≤ i → i < M.length → RowM M i
structure POK (M : List (List Int)) (q : List Int) : Prop where
 mat : MatOK M
 len : q.length = M.length
 num : ∀ i, 0 ≤ i → i < q.length → N100 (q.getD i 0)
theorem MatOK.sq {M : List (List Int)} (h : MatOK M) : Sq M.length M := ⟨rfl, fun i hi => (h.rows i (Nat.zero_le _) hi).1, fun i j hi hj => by have := (h.rows i (Nat.zero_le _) hi).2 j (Nat.zero_le _) hj; unfold N20 at this; omega⟩
section
variable {M : List (List Int)} (hM : M.length ≤ 5)
include hM
theorem spec_mrows : ∀ m i, i + m = M.length → ∀ t : Bool, (t = true ↔ ∀ u, i ≤ u → u < M.length → RowM M u) → Ev (fun k => spec_l01Matrix.l0 k M (M.length : Int) i) t := by
 intro m
 induction m with
 | zero =>
  intro i hi t ht
  obtain rfl : t = true := ht.2 (fun u h1 h2 => by omega)
  exact evstep (fun k => by rw [spec_l01Matrix.l0]) (evneg (by omega) (evc rfl))
 | succ m ih =>
  intro i hi t ht
  have hs := head_step (P := RowM M) (i := i) (d := M.length) (by omega)
  have ht2 := ht.trans hs
  refine evstep (fun k => by rw [spec_l01Matrix.l0]) (evpos (by omega) (evpos (by omega) (evpos (by omega) ?_)))
  rw [rdL1]
  by_cases c : (M.getD i []).length = M.length
  ·refine evpos (by omega) ?_
   have cols : ∀ p j, j + p = M.length → ∀ t : Bool, (t = true ↔ (∀ v, j ≤ v → v < M.length → N20 (en M i v)) ∧ ∀ u, i + 1 ≤ u → u < M.length → RowM M u) → Ev (fun k => spec_l01Matrix.l1 k M (M.length : Int) i j) t := by
    intro p
    induction p with
    | zero =>
     intro j hj t ht
     refine evstep (fun k => by rw [spec_l01Matrix.l1]) (evneg (by omega) ?_)
     rw [w64 (x := (i : Int) + 1) (by omega) (by omega)]
     exact ih (i + 1) (by omega) t (ht.trans ⟨fun h => h.2, fun h => ⟨fun v h1 h2 => by omega, h⟩⟩)
    | succ p ihp =>
     intro j hj t ht
     have hs2 := head_step (P := fun v => N20 (en M i v)) (i := j) (d := M.length) (by omega)
     refine evstep (fun k => by rw [spec_l01Matrix.l1]) ?_
     rw [rdL1]
     refine evpos (by omega) (evpos (by omega) (evpos (by omega) (evpos (by omega) (evpos (by omega) (evsome (sin_eq _ _ _) ?_)))))
     rw [rd_nat, show (M.getD i []).getD j 0 = en M i j from rfl, w64 (x := (j : Int) + 1) (by omega) (by omega)]
     by_cases d : -20 ≤ en M i j ∧ en M i j ≤ 20
     ·exact evpos (decide_eq_true d) (ihp (j + 1) (by omega) t (ht.trans ⟨fun h => ⟨(hs2.1 h.1).2, h.2⟩, fun h => ⟨hs2.2 ⟨d, h.1⟩, h.2⟩⟩))
     ·rw [no_iff ht (fun h => d ((hs2.1 h.1).1))]
      exact evneg (by simpa using d) (evc rfl)
   exact cols M.length 0 (by omega) t (ht2.trans ⟨fun h => ⟨fun v h1 h2 => h.1.2 v h1 h2, h.2⟩, fun h => ⟨⟨c, fun v h1 h2 => h.1 v h1 h2⟩, h.2⟩⟩)
  ·rw [no_iff ht2 (fun h => c h.1.1)]
   exact evneg (by omega) (evc rfl)
end
theorem spec_mat (M : List (List Int)) (t : Bool) (ht : t = true ↔ MatOK M) : Ev (fun k => spec_l01Matrix.f k M) t := by
 unfold spec_l01Matrix.f
 by_cases c1 : (M.length : Int) < 1
 ·rw [no_iff ht (fun h => by have := h.n1; omega)]
  exact evpos c1 (evstep (fun k => by rw [spec_l01Matrix.j0]) (evpos rfl (evc rfl)))
 ·refine evneg c1 (evstep (fun k => by rw [spec_l01Matrix.j0]) ?_)
  by_cases c2 : (M.length : Int) > 5
  ·rw [no_iff ht (fun h => by have := h.n5; omega)]
   exact evpos (decide_eq_true c2) (evc rfl)
  ·refine evneg (by simpa using c2) ?_
   exact spec_mrows (by omega) M.length 0 (by omega) t (ht.trans ⟨fun h => h.rows, fun h => ⟨by omega, by omega, h⟩⟩)
open Classical in
theorem spec_is (M : List (List Int)) (q : List Int) (hq : q.length ≤ 1048576) (t : Bool) (ht : t = true ↔ POK M q) : Ev (fun k => spec_l01Is.f k M q) t := by
 unfold spec_l01Is.f
 refine evbind (spec_mat M (decide (MatOK M)) (by simp)) ?_
 by_cases m : MatOK M
 ·refine evpos (by simpa using m) (evstep (fun k => by rw [spec_l01Is.j0]) ?_)
  by_cases c : q.length = M.length
  ·refine evneg (by simp [c]) ?_
   have loop : ∀ p i, i + p = q.length → ∀ t : Bool, (t = true ↔ ∀ u, i ≤ u → u < q.length → N100 (q.getD u 0)) → Ev (fun k => spec_l01Is.l0 k i M q) t := by
    intro p
    induction p with
    | zero =>
     intro i hi t ht
     obtain rfl : t = true := ht.2 (fun u h1 h2 => by omega)
     exact evstep (fun k => by rw [spec_l01Is.l0]) (evneg (by omega) (evc rfl))
    | succ p ih =>
     intro i hi t ht
     have hs := head_step (P := fun u => N100 (q.getD u 0)) (i := i) (d := q.length) (by omega)
     refine evstep (fun k => by rw [spec_l01Is.l0]) (evpos (by omega) (evpos (by omega) (evsome (sin_eq _ _ _) ?_)))
     rw [rd_nat, w64 (x := (i : Int) + 1) (by omega) (by omega)]
     by_cases d : -100 ≤ q.getD i 0 ∧ q.getD i 0 ≤ 100
     ·exact evpos (decide_eq_true d) (ih (i + 1) (by omega) t (ht.trans (hs.trans ⟨fun h => h.2, fun h => ⟨d, h⟩⟩)))
     ·rw [no_iff (ht.trans hs) (fun h => d h.1)]
      exact evneg (by simpa using d) (evc rfl)
   exact loop q.length 0 (by omega) t (ht.trans ⟨fun h => h.num, fun h => ⟨m, c, h⟩⟩)
  ·rw [no_iff ht (fun h => c h.len)]
   exact evpos (by simp; omega) (evc rfl)
 ·rw [no_iff ht (fun h => m h.mat)]
  exact evneg (by simpa using m) (evstep (fun k => by rw [spec_l01Is.j0]) (evpos rfl (evc rfl)))
theorem any_false {α : Type} (p : α → Bool) (l : List α) : l.any p = false ↔ ∀ i (h : i < l.length), p l[i] = false := by
 rw [List.any_eq_false]
 constructor
 ·intro h i hi
  have := h l[i] (List.getElem_mem hi)
  simpa using this
 ·intro h x hx
  obtain ⟨i, hi, rfl⟩ := List.getElem_of_mem hx
  simp [h i hi]
theorem badU_iff (a n : Int) : badU a n = false ↔ -a ≤ n ∧ n ≤ a := by unfold badU; simp
theorem any_badU (a : Int) (l : List Int) : l.any (badU a) = false ↔ ∀ i, 0 ≤ i → i < l.length → -a ≤ l.getD i 0 ∧ l.getD i 0 ≤ a := by
 rw [any_false]
 constructor
 ·intro h i _ hi
  have := (badU_iff a _).1 (h i hi)
  simpa [hi] using this
 ·intro h i hi
  have := h i (Nat.zero_le _) hi
  exact (badU_iff a _).2 (by simpa [hi] using this)
theorem gD {M : List (List Int)} {i : Nat} (h : i < M.length) : M.getD i [] = M[i] := by simp [h]
open Classical in
theorem impl_mat (M : List (List Int)) : impl_IsMatrix.f M = some (decide (MatOK M)) := by
 unfold impl_IsMatrix.f
 congr 1
 rw [Bool.eq_iff_iff]
 simp only [Bool.and_eq_true, decide_eq_true_eq, Bool.not_eq_true']
 rw [any_false, any_false]
 constructor
 ·rintro ⟨⟨h1, h2⟩, h3⟩
  refine ⟨by omega, by omega, fun i _ hi => ?_⟩
  have r1 := h2 i hi
  have r2 := h3 i hi
  unfold badL at r1
  unfold badM at r2
  have e : M[i].length = M.length := by simp at r1; omega
  refine ⟨by rw [gD hi]; exact e, fun j _ hj => ?_⟩
  have := (any_badU 20 M[i]).1 r2 j (Nat.zero_le _) (by omega)
  rw [← gD hi] at this
  exact this
 ·intro h
  refine ⟨⟨⟨by have := h.n1; omega, by have := h.n5; omega⟩, fun i hi => ?_⟩, fun i hi => ?_⟩
  ·have := (h.rows i (Nat.zero_le _) hi).1
   rw [gD hi] at this
   unfold badL; simp [this]
  ·have := h.rows i (Nat.zero_le _) hi
   unfold badM
   refine (any_badU 20 M[i]).2 (fun j h0 hj => ?_)
   have e := this.1
   rw [gD hi] at e
   have := this.2 j h0 (by omega)
   unfold N20 en at this
   rwa [gD hi] at this
open Classical in
theorem impl_is (M : List (List Int)) (q : List Int) (t : Bool) (ht : t = true ↔ POK M q) : impl_IsProblem.f M q = some t := by
 unfold impl_IsProblem.f
 rw [impl_mat, Option.bind_some]
 by_cases m : MatOK M
 ·rw [if_pos (by simpa using m)]
  by_cases c : q.length = M.length
  ·rw [if_pos (by omega)]
   unfold impl_allUpTo.f
   rw [if_pos (by decide), Option.bind_some]
   congr 1
   rw [Bool.eq_iff_iff, ht, Bool.not_eq_true', any_badU]
   exact ⟨fun h => ⟨m, c, h⟩, fun h => h.num⟩
  ·rw [if_neg (by omega), no_iff ht (fun h => c h.len)]
 ·rw [if_neg (by simpa using m), no_iff ht (fun h => m h.mat)]
end Go.Proofs.Ythdoilfjcgickaa.Pb
end
section
namespace Go.Proofs.Ythdoilfjcgickaa.Sd
open Go.RowKit Go.Proofs.YthdoilfjcgickaaW.PrintWords Go.Proofs.YthdoilfjcgickaaW.PrintMore Go.Proofs.Ythdoilfjcgickaa.Ma Go.Proofs.Ythdoilfjcgickaa.Pr Go.Proofs.Ythdoilfjcgickaa.Dt Go.Proofs.Ythdoilfjcgickaa.Bz
def en (l : List (List Int)) : Mat := fun i j => (l.getD i []).getD j 0
def SB (n : Nat) (A : Mat) : Prop := ∃ k, Bk n k A
theorem SB.mnr {n c : Nat} {A : Mat} (h : SB (n + 1) A) (hc : c < n + 1) : SB n (mnr c A) := by
 obtain ⟨k, h⟩ := h
 by_cases e : c = k
 ·subst e
  refine ⟨n, fun i j hi hj => ?_⟩
  have := h (i + 1) (up c j) (by omega) (up_lt hj)
  rw [if_neg (up_ne c j)] at this
  unfold Dt.mnr
  split <;> omega
 ·refine ⟨dn c k, fun i j hi hj => ?_⟩
  have := h (i + 1) (up c j) (by omega) (up_lt hj)
  unfold Dt.mnr
  by_cases q : up c j = k
  ·rw [if_pos q] at this
   rw [if_pos (by rw [← q, dn_up])]; exact this
  ·rw [if_neg q] at this
   split <;> omega
theorem SB.det {n : Nat} {A : Mat} (h : SB n A) (hn : n ≤ 5) : -1920000000 ≤ det n A ∧ det n A ≤ 1920000000 := by
 obtain ⟨k, h⟩ := h
 have h1 := det_absk n k A h
 have h2 := b20_le n hn
 omega
theorem SB.num {n : Nat} {A : Mat} (h : SB n A) {i j : Nat} (hi : i < n) (hj : j < n) : -100 ≤ A i j ∧ A i j ≤ 100 := by
 obtain ⟨k, h⟩ := h
 have := h i j hi hj
 split at this <;> omega
def mrow (l : List (List Int)) (c r : Nat) : List (List Int) := (List.range r).map fun i => ((l.getD (i + 1) []).take c) ++ ((l.getD (i + 1) []).drop (c + 1))
theorem mrow_len (l : List (List Int)) (c r : Nat) : (mrow l c r).length = r := by simp [mrow]
theorem mrow_succ (l : List (List Int)) (c r : Nat) : mrow l c (r + 1) = mrow l c r ++ [((l.getD (r + 1) []).take c) ++ ((l.getD (r + 1) []).drop (c + 1))] := by simp [mrow, List.range_succ]
theorem mrow_en (l : List (List Int)) (c r n : Nat) (hl : ∀ x ∈ l, x.length = n + 1) (hn : l.length = n + 1) (hc : c < n + 1) (i j : Nat) (hi : i < r) (hr : r ≤ n) (hj : j < n) : en (mrow l c r) i j = Dt.mnr c (en l) i j := by
 have hx : (l.getD (i + 1) []).length = n + 1 := by
  rw [List.getD_eq_getElem?_getD, List.getElem?_eq_getElem (show i + 1 < l.length by omega)]; exact hl _ (List.getElem_mem _)
 unfold en Dt.mnr mrow
 rw [List.getD_eq_getElem?_getD (l := List.map _ _), List.getElem?_map, List.getElem?_range hi]
 simp only [Option.map_some, Option.getD_some]
 show _ = (l.getD (i + 1) []).getD (up c j) 0
 generalize l.getD (i + 1) [] = x at hx ⊢
 rw [List.getD_eq_getElem?_getD, List.getD_eq_getElem?_getD]
 congr 1
 unfold up
 by_cases q : j < c
 ·rw [if_pos q, List.getElem?_append_left (by rw [List.length_take]; omega), List.getElem?_take_of_lt q]
 ·rw [if_neg q, List.getElem?_append_right (by rw [List.length_take]; omega), List.length_take, Nat.min_eq_left (by omega), List.getElem?_drop, show c + 1 + (j - c) = j + 1 from by omega]
theorem own_eq (x : List Int) (h : x.length < 17592186044416) : spec_l01Own.f x = some x := by
 unfold spec_l01Own.f
 simp only [Option.bind_some, List.length_nil, Nat.zero_add, List.nil_append]
 rw [if_pos h]
theorem rdL1 (l : List (List Int)) (i : Nat) : rd_L1 l (i : Int) = l.getD i [] := by simp [rd_L1]
theorem odd_sg (c : Nat) (x : Int) : (if Int.tmod (c : Int) 2 = 1 then -x else x) = sg c * x := by
 have e : Int.tmod (c : Int) 2 = ((c % 2 : Nat) : Int) := by rw [Int.tmod_eq_emod_of_nonneg (by omega)]; omega
 unfold sg
 by_cases q : c % 2 = 1
 ·rw [if_pos (by rw [e, q]; rfl), if_pos q]; omega
 ·rw [if_neg (by rw [e]; omega), if_neg q]; omega
theorem spec_det : ∀ (n : Nat) (l : List (List Int)), n ≤ 5 → l.length = n → (∀ x ∈ l, x.length = n) → SB n (en l) → Ev (fun k => spec_l01Det.f k l) (det n (en l)) := by
 intro n
 induction n with
 | zero =>
  intro l _ hn _ _
  show Ev _ (1 : Int)
  exact evstep (fun k => by rw [spec_l01Det.f]) (evpos (by omega) (evc rfl))
 | succ n ih =>
  intro l h5 hn hl hs
  have hrow (i : Nat) (hi : i < n + 1) : (l.getD i []).length = n + 1 := by
   rw [List.getD_eq_getElem?_getD, List.getElem?_eq_getElem (show i < l.length by omega)]; exact hl _ (List.getElem_mem _)
  let F : Nat → Int := fun k => sg k * (en l 0 k * det n (Dt.mnr k (en l)))
  have hF (k : Nat) (hk : k < n + 1) : -192000000000 ≤ F k ∧ F k ≤ 192000000000 := by
   have h1 := (hs.mnr hk).det (by omega)
   have h2 := hs.num (i := 0) (j := k) (by omega) hk
   have : (F k).natAbs ≤ 100 * 1920000000 := by
    show (sg k * (en l 0 k * det n (Dt.mnr k (en l)))).natAbs ≤ _
    rw [Int.natAbs_mul, Int.natAbs_mul, sg_abs, Nat.one_mul]
    exact Nat.mul_le_mul (by omega) (by omega)
   omega
  have hS : ∀ c, c ≤ n + 1 → -192000000000 * (c : Int) ≤ sm c F ∧ sm c F ≤ 192000000000 * (c : Int) := by
   intro c
   induction c with
   | zero => intro _; simp [sm]
   | succ c ihc =>
    intro hc
    have h1 := ihc (by omega)
    have h2 := hF c (by omega)
    simp only [sm]
    push_cast
    omega
  have key : ∀ q c, c + q = n + 1 → Ev (fun k => spec_l01Det.l0 k l (sm c F) c) (sm (n + 1) F) := by
   intro q
   induction q with
   | zero =>
    intro c hc
    obtain rfl : c = n + 1 := by omega
    exact evstep (fun k => by rw [spec_l01Det.l0]) (evneg (by omega) (evc rfl))
   | succ q ihq =>
    intro c hc
    have nx := ihq (c + 1) (by omega)
    have hr0 := hrow 0 (by omega)
    have e0 : rd (rd_L1 l 0) (c : Int) = en l 0 c := by
     rw [show rd_L1 l 0 = l.getD 0 [] from rdL1 l 0, rd_nat]; rfl
    have hr0' : (rd_L1 l 0).length = n + 1 := by rw [show rd_L1 l 0 = l.getD 0 [] from rdL1 l 0]; exact hr0
    have f1 := hF c (by omega)
    have s1 := hS c (by omega)
    have s2 := hS (c + 1) (by omega)
    refine evstep (fun k => by rw [spec_l01Det.l0]) (evpos (by omega) (evpos (by omega) (evpos (by omega) (evpos (by omega) ?_))))
    rw [e0]
    by_cases z : en l 0 c = 0
    ·refine evpos z ?_
     rw [w64 (x := (c : Int) + 1) (by omega) (by omega)]
     have e : sm (c + 1) F = sm c F := by
      show sm c F + sg c * (en l 0 c * det n (Dt.mnr c (en l))) = _
      rw [z]; simp
     rw [e] at nx
     exact nx
    ·refine evneg z ?_
     have build : ∀ p r, r + p = n → Ev (fun k => spec_l01Det.l1 k l (sm c F) c (mrow l c r) ((r + 1 : Nat) : Int)) (sm (n + 1) F) := by
      intro p
      induction p with
      | zero =>
       intro r hr
       obtain rfl : r = n := by omega
       refine evstep (fun k => by rw [spec_l01Det.l1]) (evneg (by omega) (evpos (by omega) (evpos (by omega) (evpos (by omega) ?_))))
       have hm := ih (mrow l c r) (by omega) (mrow_len l c r) (fun x hx => by
        obtain ⟨i, hi, rfl⟩ := List.mem_map.1 hx
        have := hrow (i + 1) (by have := List.mem_range.1 hi; omega)
        rw [List.length_append, List.length_take, List.length_drop]; omega) (by
        obtain ⟨k', hk'⟩ := hs.mnr (c := c) (by omega)
        exact ⟨k', fun i j hi hj => by rw [mrow_en l c r r hl hn (by omega) i j hi (Nat.le_refl _) hj]; exact hk' i j hi hj⟩)
       rw [det_congr (A := en (mrow l c r)) (B := Dt.mnr c (en l)) (fun i j hi hj => mrow_en l c r r hl hn (by omega) i j hi (Nat.le_refl _) hj)] at hm
       have hd := (hs.mnr (c := c) (by omega)).det (by omega)
       have ha := hs.num (i := 0) (j := c) (by omega) (by omega)
       refine evbind hm ?_
       rw [e0]
       have hp : -192000000000 ≤ en l 0 c * det r (Dt.mnr c (en l)) ∧ en l 0 c * det r (Dt.mnr c (en l)) ≤ 192000000000 := by
        have : (en l 0 c * det r (Dt.mnr c (en l))).natAbs ≤ 100 * 1920000000 := by
         rw [Int.natAbs_mul]; exact Nat.mul_le_mul (by omega) (by omega)
        omega
       have o := odd_sg c (en l 0 c * det r (Dt.mnr c (en l)))
       have fe : F c = sg c * (en l 0 c * det r (Dt.mnr c (en l))) := rfl
       have se : sm (c + 1) F = sm c F + F c := rfl
       rw [w64 (x := en l 0 c * det r (Dt.mnr c (en l))) (by omega) (by omega)]
       by_cases od : Int.tmod (c : Int) 2 = 1
       ·refine evpos od ?_
        rw [if_pos od] at o
        rw [w64 (x := -(en l 0 c * det r (Dt.mnr c (en l)))) (by omega) (by omega), o, ← fe, ← se, w64 (x := sm (c + 1) F) (by omega) (by omega), w64 (x := (c : Int) + 1) (by omega) (by omega)]
        exact nx
       ·refine evneg od ?_
        rw [if_neg od] at o
        rw [o, ← fe, ← se, w64 (x := sm (c + 1) F) (by omega) (by omega), w64 (x := (c : Int) + 1) (by omega) (by omega)]
        exact nx
      | succ p ihp =>
       intro r hr
       have hx := hrow (r + 1) (by omega)
       have nx2 := ihp (r + 1) (by omega)
       rw [mrow_succ] at nx2
       refine evstep (fun k => by rw [spec_l01Det.l1]) ?_
       rw [rdL1]
       refine evpos (by omega) (evpos (by omega) (evpos (by omega) (evpos (by omega) ?_)))
       rw [Int.toNat_natCast, w64 (x := (c : Int) + 1) (by omega) (by omega)]
       refine evsome (a := (l.getD (r + 1) []).take c) (own_eq _ (by rw [List.length_take]; omega)) (evpos (by omega) (evpos (by omega) (evpos ?_ (evpos (by rw [mrow_len]; omega) ?_))))
       ·rw [List.length_take, List.length_drop]; omega
       ·rw [show ((c : Int) + 1).toNat = c + 1 from by omega, w64 (x := ((r + 1 : Nat) : Int) + 1) (by omega) (by omega)]
        exact nx2
     have := build n 0 (by omega)
     exact this
  refine evstep (fun k => by rw [spec_l01Det.f]) (evneg (by omega) ?_)
  exact key (n + 1) 0 (by omega)
end Go.Proofs.Ythdoilfjcgickaa.Sd
end
section
namespace Go.Proofs.Ythdoilfjcgickaa.Mn
open Go.RowKit Go.Proofs.YthdoilfjcgickaaW.PrintWords Go.Proofs.YthdoilfjcgickaaW.PrintMore Go.Proofs.Ythdoilfjcgickaa.Ma Go.Proofs.Ythdoilfjcgickaa.Pr Go.Proofs.Ythdoilfjcgickaa.Dt Go.Proofs.Ythdoilfjcgickaa.Bz Go.Proofs.Ythdoilfjcgickaa.Bd Go.Proofs.Ythdoilfjcgickaa.Un Go.Proofs.Ythdoilfjcgickaa.Cz
section
variable {n : Nat} {l : List (List Int)} (h : Sq n l) (hn : n ≤ 5) (s : Int)
include h hn
theorem colM_small (i j : Nat) (hi : i < n) (hj : j < n) : (colM (bB s) (en l) i j).natAbs ≤ 20 := by
 have _h := hn
 have := h.num i j hi hj
 unfold colM
 split
 ·omega
 ·split <;> decide
theorem cols_det : Ev (fun k => spec_l01Det.f k (mk n n (colM (bB s) (en l)))) (det n (colM (bB s) (en l))) := by
 have he (i j : Nat) (hi : i < n) (hj : j < n) : en (mk n n (colM (bB s) (en l))) i j = colM (bB s) (en l) i j := mk_en n n _ i j hi hj
 have := Sd.spec_det n (mk n n (colM (bB s) (en l))) hn (mk_len _ _ _) (mk_rows _ _ _) ⟨0, fun i j hi hj => by
  show (en (mk n n (colM (bB s) (en l))) i j).natAbs ≤ _
  rw [he i j hi hj]
  have := colM_small h hn s i j hi hj
  split <;> omega⟩
 have e : det n (Sd.en (mk n n (colM (bB s) (en l)))) = det n (colM (bB s) (en l)) := det_congr he
 rw [e] at this
 exact this
end
end Go.Proofs.Ythdoilfjcgickaa.Mn
end
section
namespace Go.Proofs.Ythdoilfjcgickaa.Sv
open Go.RowKit Go.Proofs.YthdoilfjcgickaaW.PrintWords Go.Proofs.YthdoilfjcgickaaW.PrintMore Go.Proofs.Ythdoilfjcgickaa.Ma Go.Proofs.Ythdoilfjcgickaa.Pr Go.Proofs.Ythdoilfjcgickaa.Dt Go.Proofs.Ythdoilfjcgickaa.Bz Go.Proofs.Ythdoilfjcgickaa.Bd Go.Proofs.Ythdoilfjcgickaa.Un Go.Proofs.Ythdoilfjcgickaa.Cz Go.Proofs.Ythdoilfjcgickaa.Mn
open Go.Proofs.Ythdoilfjcgickaa.Hd (dO cM pcol rowsFrom rowsFrom_len sl slL)
def dc (n : Nat) (C : Mat) (x : List Int) (i : Nat) : Int := det n (cset i (fun r => x.getD r 0) C)
def sgn (d : Int) : Int := if d < 0 then -1 else if d > 0 then 1 else 0
section
variable {n : Nat} {l : List (List Int)} (h : Sq n l) (hn : n ≤ 5) (s : Int)
include h hn
theorem col_t (Q : List Int) (hQ : Q.length = n) (i : Nat) (hi : i < n) : Ev (fun k => impl_Problem_column.f k l Q (i : Int) true) (rw1 n (fun r => - en l r i)) := by
 have hl := h.len
 have at_ (r : Nat) (hr : r < n) : ((List.range n).map fun u => if u < r then - en l u i else 0).set r (- en l r i) = (List.range n).map fun u => if u < r + 1 then - en l u i else 0 := by
  apply List.ext_getElem
  ·simp
  ·intro k h1 h2
   have hk : k < n := by simpa using h2
   rw [List.getElem_set]
   simp only [List.getElem_map, List.getElem_range]
   by_cases e : r = k
   ·subst e; rw [if_pos rfl, if_pos (by omega)]
   ·rw [if_neg e]
    by_cases c : k < r
    ·rw [if_pos c, if_pos (by omega)]
    ·rw [if_neg c, if_neg (by omega)]
 have loop : ∀ q r, r + q = n → Ev (fun k => impl_Problem_column.l0 k (i : Int) true ((List.range n).map fun u => if u < r then - en l u i else 0) l (n : Int) r) (rw1 n (fun r => - en l r i)) := by
  intro q
  induction q with
  | zero =>
   intro r hr
   obtain rfl : r = n := by omega
   refine evstep (fun k => by rw [impl_Problem_column.l0]) (evneg (by omega) (evpos rfl (evc ?_)))
   congr 1
   exact List.map_congr_left (fun u hu => by rw [if_pos (List.mem_range.1 hu)])
  | succ q ih =>
   intro r hr
   have nx := ih (r + 1) (by omega)
   have hrow := h.row r (by omega)
   have hnum := h.num r i (by omega) hi
   refine evstep (fun k => by rw [impl_Problem_column.l0]) ?_
   rw [rdL1]
   refine evpos (by omega) (evpos (by omega) (evpos (by omega) (evpos rfl (evpos (by omega) (evpos (by omega) (evpos (by simp; omega) ?_))))))
   rw [rd_nat, show (l.getD r []).getD i 0 = en l r i from rfl, w64 (x := - en l r i) (by omega) (by omega), Int.toNat_natCast, at_ r (by omega), w64 (x := (r : Int) + 1) (by omega) (by omega)]
   exact nx
 unfold impl_Problem_column.f
 rw [hQ, hl]
 refine evpos (by omega) (evpos (by omega) ?_)
 have := loop n 0 (by omega)
 rw [show ((List.range n).map fun u => if u < 0 then - en l u i else 0) = List.replicate ((n : Int)).toNat 0 from by
  apply List.ext_getElem
  ·simp
  ·intro k h1 h2; simp] at this
 exact this
theorem col_f (Q : List Int) (hQ : Q.length = n) (i : Nat) (hi : i < n) : Ev (fun k => impl_Problem_column.f k l Q (i : Int) false) (rw1 n (fun r => if r = i then 1 else 0)) := by
 have hl := h.len
 have loop : ∀ q r, r + q = n → Ev (fun k => impl_Problem_column.l0 k (i : Int) false (List.replicate n 0) l (n : Int) r) (rw1 n (fun r => if r = i then 1 else 0)) := by
  intro q
  induction q with
  | zero =>
   intro r hr
   obtain rfl : r = n := by omega
   refine evstep (fun k => by rw [impl_Problem_column.l0]) (evneg (by omega) (evneg (by simp) (evpos (by omega) (evpos (by simp; omega) (evc ?_)))))
   congr 1
   rw [Int.toNat_natCast]
   apply List.ext_getElem
   ·simp [rw1]
   ·intro k h1 h2
    rw [List.getElem_set]
    simp only [rw1, List.getElem_map, List.getElem_range, List.getElem_replicate]
    by_cases e : i = k
    ·subst e; simp
    ·rw [if_neg e, if_neg (Ne.symm e)]
  | succ q ih =>
   intro r hr
   have nx := ih (r + 1) (by omega)
   refine evstep (fun k => by rw [impl_Problem_column.l0]) (evpos (by omega) (evpos (by omega) (evpos (by omega) (evneg (by simp) ?_))))
   rw [w64 (x := (r : Int) + 1) (by omega) (by omega)]
   exact nx
 unfold impl_Problem_column.f
 rw [hQ, hl]
 refine evpos (by omega) (evpos (by omega) ?_)
 have := loop n 0 (by omega)
 rw [Int.toNat_natCast]
 exact this
theorem colF_eq (Q : List Int) (hQ : Q.length = n) (i : Nat) (hi : i < n) : Ev (fun k => colF k l Q s i) (rw1 n (fun r => colM (bB s) (en l) r i)) := by
 unfold colF
 refine evsome (has_eq h hn s i (by omega)) ?_
 cases hb : bB s i with
 | true =>
  have := col_t h hn Q hQ i hi
  have e : (fun r => colM (bB s) (en l) r i) = fun r => - en l r i := by funext r; unfold colM; rw [if_pos hb]
  rw [e]; exact this
 | false =>
  have := col_f h hn Q hQ i hi
  have e : (fun r => colM (bB s) (en l) r i) = fun r => if r = i then 1 else 0 := by funext r; unfold colM; rw [if_neg (by simp [hb])]
  rw [e]; exact this
theorem cols_all (Q : List Int) (hQ : Q.length = n) : ∃ K, ∀ k, K ≤ k → ∀ i, i < n → colF k l Q s i = some (rw1 n (fun r => colM (bB s) (en l) r i)) := by
 have key : ∀ m, m ≤ n → ∃ K, ∀ k, K ≤ k → ∀ i, i < m → colF k l Q s i = some (rw1 n (fun r => colM (bB s) (en l) r i)) := by
  intro m
  induction m with
  | zero => intro _; exact ⟨0, fun k _ i hi => by omega⟩
  | succ m ih =>
   intro hm
   obtain ⟨K1, h1⟩ := ih (by omega)
   obtain ⟨K2, h2⟩ := colF_eq h hn s Q hQ m (by omega)
   refine ⟨K1 + K2, fun k hk i hi => ?_⟩
   by_cases e : i = m
   ·subst e; exact h2 k (by omega)
   ·exact h1 k (by omega) i (by omega)
 exact key n (Nat.le_refl _)
end
theorem en_rows (M : Mat) (n a d : Nat) (ha : a < n) (hd : d < n) : Hd.en (rowsFrom M n 0) a d = M a d := by
 unfold Hd.en rowsFrom
 simp [ha, hd]
theorem dO_det {n k : Nat} (hn : n ≤ 5) (M : Mat) (hb : Bk n k M) : dO n M = det n M := by
 unfold dO
 rw [dgo_det hn (k := k) (Hd.en (rowsFrom M n 0)) (fun i j hi hj => by rw [en_rows M n i j hi hj]; exact hb i j hi hj)]
 exact det_congr (fun i j hi hj => en_rows M n i j hi hj)
theorem sgn_mul (d x : Int) (hx : -1920000000 ≤ x ∧ x ≤ 1920000000) : wrap64 (sgn d * x) = sgn d * x := by
 unfold sgn
 split
 ·exact w64 (by omega) (by omega)
 ·split
  ·exact w64 (by omega) (by omega)
  ·exact w64 (by omega) (by omega)
section
variable {n : Nat} {l : List (List Int)} (h : Sq n l) (hn : n ≤ 5) (s : Int)
include h hn
theorem D_b : -1920000000 ≤ det n (colM (bB s) (en l)) ∧ det n (colM (bB s) (en l)) ≤ 1920000000 := by
 have h1 := det_abs20 n (colM (bB s) (en l)) (fun i j hi hj => colM_small h hn s i j hi hj)
 have h2 := b20_le n hn
 omega
end
section
variable {n : Nat} {l : List (List Int)} (h : Sq n l) (hn : n ≤ 5) (s : Int) (x : List Int) (hx : ∀ r, r < n → (x.getD r 0).natAbs ≤ 100)
include h hn hx
theorem cset_small (i : Nat) : Bk n i (cset i (fun r => x.getD r 0) (colM (bB s) (en l))) := by
 intro a d ha hd
 unfold cset
 by_cases e : d = i
 ·rw [if_pos e, if_pos e]; exact hx a ha
 ·rw [if_neg e, if_neg e]; exact colM_small h hn s a d ha hd
theorem dc_b (i : Nat) : -1920000000 ≤ dc n (colM (bB s) (en l)) x i ∧ dc n (colM (bB s) (en l)) x i ≤ 1920000000 := by
 have h1 := det_absk n i _ (cset_small h hn s x hx i)
 have h2 := b20_le n hn
 unfold dc
 omega
def solR (n : Nat) (C : Mat) (x : List Int) : List Int × Int × Bool := if det n C = 0 then ([], 0, false) else ((List.range n).map fun i => sgn (det n C) * dc n C x i, (if det n C < 0 then - det n C else det n C), true)
theorem impl_solve (Q : List Int) (hQ : Q.length = n) (hxl : x.length = n) (hp : 0 < n) : Ev (fun k => impl_Problem_solve.f k l Q s x) (solR n (colM (bB s) (en l)) x) := by
 obtain ⟨K, hK⟩ := cols_all h hn s Q hQ
 refine ⟨K, fun k hk => ?_⟩
 have hc := hK k hk
 have hL (i : Nat) (hi : i < n) : colL k l Q s i = rw1 n (fun r => colM (bB s) (en l) r i) := by unfold colL; rw [hc i hi]; rfl
 have hcM (a d : Nat) (ha : a < n) (hd : d < n) : cM (colL k l Q s) n a d = colM (bB s) (en l) a d := by
  unfold cM
  rw [if_pos hd, hL d hd]
  simp [rw1, ha]
 have hD : dO n (cM (colL k l Q s) n) = det n (colM (bB s) (en l)) := by
  rw [dO_det hn (k := 0) _ (fun i j hi hj => by rw [hcM i j hi hj]; have := colM_small h hn s i j hi hj; split <;> omega)]
  exact det_congr hcM
 have db := D_b h hn s
 show impl_Problem_solve.f k l Q s x = _
 unfold impl_Problem_solve.f
 rw [hQ]
 rw [if_pos ⟨hp, by omega, hxl, by
  unfold colOK
  rw [List.all_eq_true]
  intro i hi
  rw [hc i (List.mem_range.1 hi)]
  simp [rw1]⟩]
 rw [hD]
 have e1 : impl_sign.f (det n (colM (bB s) (en l))) = some (sgn (det n (colM (bB s) (en l)))) := by
  unfold impl_sign.f sgn
  split
  ·rfl
  ·split <;> rfl
 have e2 : impl_size.f (det n (colM (bB s) (en l))) = some (if det n (colM (bB s) (en l)) < 0 then - det n (colM (bB s) (en l)) else det n (colM (bB s) (en l))) := by
  unfold impl_size.f mx
  rw [w64 (x := - det n (colM (bB s) (en l))) (by omega) (by omega)]
  congr 1
  split <;> split <;> omega
 rw [e1, e2, Option.bind_some, Option.bind_some]
 congr 1
 unfold solR
 by_cases d : det n (colM (bB s) (en l)) = 0
 ·rw [if_pos d, if_pos d]
 ·rw [if_neg d, if_neg d]
  congr 1
  unfold slL
  refine List.map_congr_left (fun i hi => ?_)
  have hi := List.mem_range.1 hi
  rw [if_pos hi]
  unfold sl
  have hY (a d : Nat) (ha : a < n) (hd : d < n) : pcol (Hd.en (rowsFrom (cM (colL k l Q s) n) n 0)) i x n a d = cset i (fun r => x.getD r 0) (colM (bB s) (en l)) a d := by
   unfold pcol cset
   by_cases e : d = i
   ·rw [if_pos ⟨e, ha⟩, if_pos e]
   ·rw [if_neg (fun q => e q.1), if_neg e, en_rows _ n a d ha hd, hcM a d ha hd]
  rw [dO_det hn (k := i) _ (fun a d ha hd => by rw [hY a d ha hd]; exact cset_small h hn s x hx i a d ha hd), det_congr hY]
  exact sgn_mul _ _ (dc_b h hn s x hx i)
theorem spec_solve (hxl : x.length = n) : Ev (fun k => spec_l01Solve.f k (mk n n (colM (bB s) (en l))) x) ((List.range n).map (dc n (colM (bB s) (en l)) x), det n (colM (bB s) (en l))) := by
 have hml := mk_len n n (colM (bB s) (en l))
 have rows : ∀ q c, c + q = n → Ev (fun k => spec_l01Solve.l0 k (mk n n (colM (bB s) (en l))) x ((List.range c).map (dc n (colM (bB s) (en l)) x)) c) ((List.range n).map (dc n (colM (bB s) (en l)) x), det n (colM (bB s) (en l))) := by
  intro q
  induction q with
  | zero =>
   intro c hc
   obtain rfl : c = n := by omega
   exact evstep (fun k => by rw [spec_l01Solve.l0]) (evneg (by omega) (evbind (cols_det h hn s) (evc rfl)))
  | succ q ih =>
   intro c hc
   have nx := ih (c + 1) (by omega)
   rw [List.range_succ, List.map_append] at nx
   have build : ∀ p r, r + p = n → Ev (fun k => spec_l01Solve.l1 k (mk n n (colM (bB s) (en l))) x ((List.range c).map (dc n (colM (bB s) (en l)) x)) c (mk r n (cset c (fun r => x.getD r 0) (colM (bB s) (en l)))) r) ((List.range n).map (dc n (colM (bB s) (en l)) x), det n (colM (bB s) (en l))) := by
    intro p
    induction p with
    | zero =>
     intro r hr
     obtain rfl : r = n := by omega
     have he (i j : Nat) (hi : i < r) (hj : j < r) : en (mk r r (cset c (fun r => x.getD r 0) (colM (bB s) (en l)))) i j = cset c (fun r => x.getD r 0) (colM (bB s) (en l)) i j := mk_en r r _ i j hi hj
     have hd := Sd.spec_det r (mk r r (cset c (fun r => x.getD r 0) (colM (bB s) (en l)))) hn (mk_len _ _ _) (mk_rows _ _ _) ⟨c, fun i j hi hj => by
      show (en (mk r r (cset c (fun r => x.getD r 0) (colM (bB s) (en l)))) i j).natAbs ≤ _
      rw [he i j hi hj]; exact cset_small h hn s x hx c i j hi hj⟩
     have e : det r (Sd.en (mk r r (cset c (fun r => x.getD r 0) (colM (bB s) (en l))))) = dc r (colM (bB s) (en l)) x c := det_congr he
     rw [e] at hd
     refine evstep (fun k => by rw [spec_l01Solve.l1]) (evneg (by omega) (evbind hd ?_))
     refine evpos (by rw [List.length_map, List.length_range]; omega) ?_
     rw [w64 (x := (c : Int) + 1) (by omega) (by omega)]
     exact nx
    | succ p ihp =>
     intro r hr
     have nx2 := ihp (r + 1) (by omega)
     rw [mk_succ] at nx2
     refine evstep (fun k => by rw [spec_l01Solve.l1]) ?_
     rw [rdL1, mk_row n n _ r (by omega)]
     refine evpos (by omega) (evpos (by omega) (evsome (Sd.own_eq _ (by rw [rw1_len]; omega)) (evpos (by omega) (evpos (by omega) (evpos (by rw [rw1_len]; omega) (evpos (by rw [mk_len]; omega) ?_))))))
     rw [rd_nat, Int.toNat_natCast, w64 (x := (r : Int) + 1) (by omega) (by omega), show (rw1 n (colM (bB s) (en l) r)).set c (x.getD r 0) = rw1 n (cset c (fun r => x.getD r 0) (colM (bB s) (en l)) r) from by
      apply List.ext_getElem
      ·simp [rw1]
      ·intro k h1 h2
       rw [List.getElem_set]
       simp only [rw1, List.getElem_map, List.getElem_range, cset]
       by_cases e : c = k
       ·subst e; simp
       ·rw [if_neg e, if_neg (Ne.symm e)]]
     exact nx2
   refine evstep (fun k => by rw [spec_l01Solve.l0]) (evpos (by omega) ?_)
   exact build n 0 (by omega)
 exact rows n 0 (by omega)
end
end Go.Proofs.Ythdoilfjcgickaa.Sv
end
section
namespace Go.Proofs.Ythdoilfjcgickaa.Pp
open Go.RowKit Go.Proofs.YthdoilfjcgickaaW.PrintWords Go.Proofs.YthdoilfjcgickaaW.PrintMore Go.Proofs.Ythdoilfjcgickaa.Ma Go.Proofs.Ythdoilfjcgickaa.Pr Go.Proofs.Ythdoilfjcgickaa.Dt Go.Proofs.Ythdoilfjcgickaa.Bz Go.Proofs.Ythdoilfjcgickaa.Un Go.Proofs.Ythdoilfjcgickaa.Cz Go.Proofs.Ythdoilfjcgickaa.Pb Go.Proofs.Ythdoilfjcgickaa.Mn Go.Proofs.Ythdoilfjcgickaa.Sv Go.Proofs.Ythdoilfjcgickaa.Pv
def cW (s : Int) (M : Mat) (j : Nat) (i : Nat) : Int := if bB s j then (if i = j then 1 else 0) else - M i j
def Cm (s : Int) (l : List (List Int)) : Mat := colM (bB s) (en l)
def pvl (n : Nat) (l : List (List Int)) (s : Int) (j : Nat) : List Int := (List.range n).map fun i => sgn (det n (Cm s l)) * dc n (Cm s l) (rw1 n (cW s (en l) j)) i
def ab (d : Int) : Int := if d < 0 then - d else d
def pvS (n : Nat) (l : List (List Int)) (s : Int) (x : List Int) : List Int := (List.range n).map fun i => sgn (det n (Cm s l)) * dc n (Cm s l) x i
def Zr (n : Nat) : List (List Int) := List.replicate n (List.replicate n 0)
def pvR (n : Nat) (l : List (List Int)) (s : Int) : List (List Int) := pR (Zr n) (pvl n l s) n n 0
def pvA (n : Nat) (l : List (List Int)) (s : Int) (x : List Int) : Int × List (List Int) × List Int × Bool := if det n (Cm s l) = 0 then (0, [], [], false) else (ab (det n (Cm s l)), pvR n l s, pvS n l s x, true)
theorem pR_full (l l' : List (List Int)) (cs : Nat → List Int) (n : Nat) : pR l cs n n 0 = pR l' cs n n 0 := by
 unfold pR
 refine List.map_congr_left (fun r _ => List.map_congr_left (fun c hc => ?_))
 unfold pE
 rw [if_pos (.inl (List.mem_range.1 hc)), if_pos (.inl (List.mem_range.1 hc))]
theorem pR_getD (l : List (List Int)) (cs : Nat → List Int) (n k i r : Nat) (h : r < n) : (pR l cs n k i).getD r [] = (List.range n).map (pE l cs k i r) := by
 simp [pR, h]
theorem Zr_zero (n : Nat) (cs : Nat → List Int) : pR (Zr n) cs n 0 0 = Zr n := pR_zero _ cs n (by simp [Zr]) (fun x hx => by rw [(List.mem_replicate.1 hx).2]; simp)
section
variable {n : Nat} {l : List (List Int)} (h : Sq n l) (hn : n ≤ 5) (s : Int)
include h hn
theorem cW_b (j : Nat) (hj : j < n) (i : Nat) (hi : i < n) : (cW s (en l) j i).natAbs ≤ 20 := by
 have _h := hn
 have := h.num i j hi hj
 unfold cW
 split
 ·split <;> decide
 ·omega
theorem cW_x (j : Nat) (hj : j < n) (r : Nat) (hr : r < n) : ((rw1 n (cW s (en l) j)).getD r 0).natAbs ≤ 100 := by
 have := cW_b h hn s j hj r hr
 rw [show (rw1 n (cW s (en l) j)).getD r 0 = cW s (en l) j r from by simp [rw1, hr]]
 omega
theorem cW_y (j : Nat) (hj : j < n) (r : Nat) (hr : r < n) : ((rw1 n (fun i => - cW s (en l) j i)).getD r 0).natAbs ≤ 100 := by
 have := cW_b h hn s j hj r hr
 rw [show (rw1 n (fun i => - cW s (en l) j i)).getD r 0 = - cW s (en l) j r from by simp [rw1, hr]]
 omega
theorem col_eq (Q : List Int) (hQ : Q.length = n) (j : Nat) (hj : j < n) : Ev (fun k => impl_Problem_column.f k l Q (j : Int) (!bB s j)) (rw1 n (cW s (en l) j)) := by
 cases hb : bB s j with
 | true =>
  have := col_f h hn Q hQ j hj
  have e : cW s (en l) j = fun r => if r = j then 1 else 0 := by funext r; unfold cW; rw [if_pos hb]
  rw [e]; exact this
 | false =>
  have := col_t h hn Q hQ j hj
  have e : cW s (en l) j = fun r => - en l r j := by funext r; unfold cW; rw [if_neg (by simp [hb])]
  rw [e]; exact this
theorem pvC_eq (Q : List Int) (hQ : Q.length = n) (hp : 0 < n) (d : det n (Cm s l) ≠ 0) (j : Nat) (hj : j < n) : Ev (fun k => pvC k l Q s j) (pvl n l s j) := by
 have si := impl_solve h hn s (rw1 n (cW s (en l) j)) (cW_x h hn s j hj) Q hQ (rw1_len _ _) hp
 unfold solR at si
 rw [if_neg (show ¬ det n (colM (bB s) (en l)) = 0 from d)] at si
 unfold pvC
 exact evsome (has_eq h hn s j (by omega)) (evbind (col_eq h hn s Q hQ j hj) (evbind si (evc rfl)))
theorem pv_all (Q : List Int) (hQ : Q.length = n) (hp : 0 < n) (d : det n (Cm s l) ≠ 0) : ∃ K, ∀ k, K ≤ k → ∀ i, i < n → pvC k l Q s i = some (pvl n l s i) := by
 have key : ∀ m, m ≤ n → ∃ K, ∀ k, K ≤ k → ∀ i, i < m → pvC k l Q s i = some (pvl n l s i) := by
  intro m
  induction m with
  | zero => intro _; exact ⟨0, fun k _ i hi => by omega⟩
  | succ m ih =>
   intro hm
   obtain ⟨K1, h1⟩ := ih (by omega)
   obtain ⟨K2, h2⟩ := pvC_eq h hn s Q hQ hp d m (by omega)
   refine ⟨K1 + K2, fun k hk i hi => ?_⟩
   by_cases e : i = m
   ·subst e; exact h2 k (by omega)
   ·exact h1 k (by omega) i (by omega)
 exact key n (Nat.le_refl _)
theorem impl_pivot (Q : List Int) (hQ : Q.length = n) (hx : ∀ r, r < n → (Q.getD r 0).natAbs ≤ 100) (hp : 0 < n) (hrows : ∀ x ∈ l, x.length = n) : Ev (fun k => impl_Problem_pivot.f k l Q s) (pvA n l s Q) := by
 have si := impl_solve h hn s Q hx Q hQ hQ hp
 unfold solR at si
 unfold impl_Problem_pivot.f impl_Problem_point.f pvA
 by_cases d : det n (Cm s l) = 0
 ·rw [if_pos d]
  unfold Cm at d
  rw [if_pos d] at si
  exact evbind (evbind si (evc rfl)) (evneg (by simp) (evc rfl))
 ·rw [if_neg d]
  obtain ⟨K1, k1⟩ := pv_all h hn s Q hQ hp d
  obtain ⟨K2, k2⟩ := Cp.copy_eq l (by have := h.len; omega) (fun x hx => by have := hrows x hx; omega)
  have d' := d
  unfold Cm at d'
  rw [if_neg d'] at si
  refine evbind (evbind si (evc rfl)) (evpos rfl ?_)
  refine ⟨K1 + K2, fun k hk => ?_⟩
  dsimp only
  have hc := k1 k (by omega)
  have hL (i : Nat) (hi : i < n) : pvL k l Q s i = pvl n l s i := by unfold pvL; rw [hc i hi]; rfl
  rw [hQ]
  rw [if_pos ⟨hp, by omega, h.len, by
   rw [List.all_eq_true]
   intro x hx
   simpa using hrows x hx, by simp, k2 k (by omega), by
   unfold pvOK
   rw [List.all_eq_true]
   intro i hi
   rw [hc i (List.mem_range.1 hi)]
   simp [pvl]⟩]
  rw [pR_congr _ _ _ _ hL, pR_full l (Zr n)]
  rfl
theorem dc_neg (j : Nat) (i : Nat) (hi : i < n) : dc n (Cm s l) (rw1 n (fun i => - cW s (en l) j i)) i = - dc n (Cm s l) (rw1 n (cW s (en l) j)) i := by
 have _h := h
 have _hn := hn
 have e := det_cadd hi (fun r => (rw1 n (cW s (en l) j)).getD r 0) (fun _ => 0) (Cm s l) (-1) 0
 unfold dc
 rw [show det n (cset i (fun r => (rw1 n (fun i => - cW s (en l) j i)).getD r 0) (Cm s l)) = det n (cset i (fun r => -1 * (rw1 n (cW s (en l) j)).getD r 0 + 0 * 0) (Cm s l)) from det_congr (fun a b ha hb => by
  unfold cset
  split
  ·simp [rw1, ha]
  ·rfl)]
 rw [e]
 omega
end
theorem sgn_ne {d : Int} (h : d ≠ 0) : sgn d = if d < 0 then -1 else 1 := by
 unfold sgn
 by_cases c : d < 0
 ·rw [if_pos c, if_pos c]
 ·rw [if_neg c, if_neg c, if_pos (by omega)]
section
variable {n : Nat} {l : List (List Int)} (h : Sq n l) (hn : n ≤ 5) (s : Int) (Q : List Int) (hQ : Q.length = n)
include h hn hQ
theorem loop3 (sg : Int) (hsg : sg = sgn (det n (Cm s l))) (X : List (List Int)) (den : Int) (side : List Int) (j : Nat) (hj : j < n) (R : Int × List (List Int) × List Int × Bool) (nx1 : Ev (fun k => spec_l04Pivot.l1 k s (n : Int) X sg ((j + 1 : Nat) : Int) l Q den (pR (Zr n) (pvl n l s) n (j + 1) 0) side) R) :
  ∀ q i, i + q = n → Ev (fun k => spec_l04Pivot.l3 k s (n : Int) X sg (j : Int) ((List.range n).map (dc n (Cm s l) (rw1 n (fun i => - cW s (en l) j i)))) (i : Int) l Q den (pR (Zr n) (pvl n l s) n j i) side) R := by
 intro q
 induction q with
 | zero =>
  intro i hi
  obtain rfl : i = n := by omega
  refine evstep (fun k => by rw [spec_l04Pivot.l3]) (evneg (by omega) ?_)
  rw [w64 (x := (j : Int) + 1) (by omega) (by omega), pR_col]
  exact nx1
 | succ q ih =>
  intro i hi
  have nx := ih (i + 1) (by omega)
  refine evstep (fun k => by rw [spec_l04Pivot.l3]) ?_
  rw [rdL1, pR_getD _ _ _ _ _ _ (by omega)]
  refine evpos (by omega) (evpos (by omega) (evpos (by rw [pR_len]; omega) (evpos (by simp; omega) (evpos (by omega) (evpos (by simp; omega) ?_)))))
  rw [rd_nat, show ((List.range n).map (dc n (Cm s l) (rw1 n (fun i => - cW s (en l) j i)))).getD i 0 = dc n (Cm s l) (rw1 n (fun i => - cW s (en l) j i)) i from by simp [show i < n by omega]]
  rw [dc_neg h hn s j i (by omega), hsg, show sgn (det n (Cm s l)) * - dc n (Cm s l) (rw1 n (cW s (en l) j)) i = -(pvl n l s j).getD i 0 from by
   rw [show (pvl n l s j).getD i 0 = sgn (det n (Cm s l)) * dc n (Cm s l) (rw1 n (cW s (en l) j)) i from by simp [pvl, show i < n by omega], Int.mul_neg]]
  rw [Int.toNat_natCast, Int.toNat_natCast, pR_set _ _ _ _ _ (by omega) hj, w64 (x := (i : Int) + 1) (by omega) (by omega), ← hsg]
  exact nx
theorem loop2 (sg : Int) (hsg : sg = sgn (det n (Cm s l))) (den : Int) (side : List Int) (j : Nat) (hj : j < n) (R : Int × List (List Int) × List Int × Bool) (nx1 : Ev (fun k => spec_l04Pivot.l1 k s (n : Int) (mk n n (Cm s l)) sg ((j + 1 : Nat) : Int) l Q den (pR (Zr n) (pvl n l s) n (j + 1) 0) side) R) :
  ∀ q i, i + q = n → Ev (fun k => spec_l04Pivot.l2 k s (n : Int) (mk n n (Cm s l)) sg (j : Int) ((List.range n).map fun u => if u < i then (if bB s j then 0 else en l u j) else 0) (i : Int) l Q den (pR (Zr n) (pvl n l s) n j 0) side) R := by
 have hl := h.len
 have ss := spec_solve h hn s (rw1 n (fun i => - cW s (en l) j i)) (cW_y h hn s j hj) (rw1_len _ _)
 have l3 := loop3 h hn s Q hQ sg hsg (mk n n (Cm s l)) den side j hj R nx1 n 0 (by omega)
 have j4 : Ev (fun k => spec_l04Pivot.j4 k s (n : Int) (mk n n (Cm s l)) sg (j : Int) (rw1 n (fun i => - cW s (en l) j i)) l Q den (pR (Zr n) (pvl n l s) n j 0) side) R := by
  refine evstep (fun k => by rw [spec_l04Pivot.j4]) ?_
  exact evbind ss l3
 have hu : IntKind.u64.wrap (j : Int) = (j : Int) := u64w (by omega) (by omega)
 intro q
 induction q with
 | zero =>
  intro i hi
  obtain rfl : i = n := by omega
  refine evstep (fun k => by rw [spec_l04Pivot.l2]) (evneg (by omega) ?_)
  rw [hu, shr_and_one s (by omega)]
  refine evpos (by omega) ?_
  cases hb : bB s j with
  | true =>
   refine evpos rfl (evpos (by omega) (evpos (by simp; omega) ?_))
   rw [Int.toNat_natCast]
   rw [show ((List.range i).map fun u => if u < i then (if true = true then (0 : Int) else en l u j) else 0).set j (-1) = rw1 i (fun i => - cW s (en l) j i) from by
    apply List.ext_getElem
    ·simp [rw1]
    ·intro k h1 h2
     rw [List.getElem_set]
     simp only [rw1, List.getElem_map, List.getElem_range, cW, hb]
     by_cases e : j = k
     ·subst e; simp
     ·simp [e, Ne.symm e]]
   exact j4
  | false =>
   refine evneg (by simp) ?_
   rw [show ((List.range i).map fun u => if u < i then (if false = true then (0 : Int) else en l u j) else 0) = rw1 i (fun i => - cW s (en l) j i) from by
    unfold rw1
    refine List.map_congr_left (fun u hu => ?_)
    rw [if_pos (List.mem_range.1 hu)]
    simp [cW, hb]]
   exact j4
 | succ q ih =>
  intro i hi
  have nx := ih (i + 1) (by omega)
  have hrow := h.row i (by omega)
  refine evstep (fun k => by rw [spec_l04Pivot.l2]) (evpos (by omega) ?_)
  rw [hu, shr_and_one s (by omega), w64 (x := (i : Int) + 1) (by omega) (by omega), rdL1]
  refine evpos (by omega) ?_
  have at_ : ((List.range n).map fun u => if u < i then (if bB s j then 0 else en l u j) else 0).set i (if bB s j then 0 else en l i j) = (List.range n).map fun u => if u < i + 1 then (if bB s j then 0 else en l u j) else 0 := by
   apply List.ext_getElem
   ·simp
   ·intro k h1 h2
    have hk : k < n := by simpa using h2
    rw [List.getElem_set]
    simp only [List.getElem_map, List.getElem_range]
    by_cases e : i = k
    ·subst e; rw [if_pos rfl, if_pos (show i < i + 1 by omega)]
    ·rw [if_neg e]
     by_cases c : k < i
     ·rw [if_pos c, if_pos (show k < i + 1 by omega)]
     ·rw [if_neg c, if_neg (show ¬ k < i + 1 by omega)]
  cases hb : bB s j with
  | true =>
   refine evneg (by simp) ?_
   rw [hb] at nx at_
   have : ((List.range n).map fun u => if u < i then (if true = true then (0 : Int) else en l u j) else 0) = (List.range n).map fun u => if u < i + 1 then (if true = true then (0 : Int) else en l u j) else 0 := by
    refine List.map_congr_left (fun u _ => ?_)
    simp
   rw [this]
   exact nx
  | false =>
   rw [hb] at nx at_
   refine evpos (by simp) (evpos (by omega) (evpos (by omega) (evpos (by omega) (evpos (by omega) (evpos (by simp; omega) ?_)))))
   rw [rd_nat, show (l.getD i []).getD j 0 = en l i j from rfl, Int.toNat_natCast]
   have e : (if false = true then (0 : Int) else en l i j) = en l i j := by simp
   rw [e] at at_
   rw [at_]
   exact nx
theorem loop1 (sg : Int) (hsg : sg = sgn (det n (Cm s l))) (den : Int) (side : List Int) : ∀ q j, j + q = n → Ev (fun k => spec_l04Pivot.l1 k s (n : Int) (mk n n (Cm s l)) sg (j : Int) l Q den (pR (Zr n) (pvl n l s) n j 0) side) (den, pvR n l s, side, true) := by
 intro q
 induction q with
 | zero =>
  intro j hj
  obtain rfl : j = n := by omega
  refine evstep (fun k => by rw [spec_l04Pivot.l1]) ?_
  exact evneg (by omega) (evc rfl)
 | succ q ih =>
  intro j hj
  have nx := ih (j + 1) (by omega)
  have l2 := loop2 h hn s Q hQ sg hsg den side j (by omega) _ nx n 0 (by omega)
  refine evstep (fun k => by rw [spec_l04Pivot.l1]) (evpos (by omega) (evpos (by omega) (evpos (by omega) ?_)))
  rw [show List.replicate ((n : Int)).toNat (0 : Int) = (List.range n).map fun u => if u < 0 then (if bB s j then 0 else en l u j) else 0 from by
   apply List.ext_getElem
   ·simp
   ·intro k h1 h2; simp]
  exact l2
theorem loop0 (hx : ∀ r, r < n → (Q.getD r 0).natAbs ≤ 100) (sg : Int) (hsg : sg = sgn (det n (Cm s l))) (den : Int) : ∀ q i, i + q = n → Ev (fun k => spec_l04Pivot.l0 k s (n : Int) (mk n n (Cm s l)) ((List.range n).map (dc n (Cm s l) Q)) sg (i : Int) l Q den (List.replicate i (List.replicate n 0)) ((List.range i).map fun i => sgn (det n (Cm s l)) * dc n (Cm s l) Q i)) (den, pvR n l s, pvS n l s Q, true) := by
 intro q
 induction q with
 | zero =>
  intro i hi
  obtain rfl : i = n := by omega
  have l1 := loop1 h hn s Q hQ sg hsg den (pvS i l s Q) i 0 (by omega)
  rw [Zr_zero] at l1
  refine evstep (fun k => by rw [spec_l04Pivot.l0]) ?_
  exact evneg (by omega) l1
 | succ q ih =>
  intro i hi
  have nx := ih (i + 1) (by omega)
  rw [List.range_succ, List.map_append, List.replicate_succ'] at nx
  refine evstep (fun k => by rw [spec_l04Pivot.l0]) (evpos (by omega) (evpos (by omega) (evpos (by omega) (evpos (by simp; omega) (evpos (by omega) (evpos (by simp; omega) (evpos (by simp; omega) ?_)))))))
  rw [rd_nat, show ((List.range n).map (dc n (Cm s l) Q)).getD i 0 = dc n (Cm s l) Q i from by simp [show i < n by omega], hsg, show wrap64 (sgn (det n (Cm s l)) * dc n (Cm s l) Q i) = sgn (det n (Cm s l)) * dc n (Cm s l) Q i from sgn_mul _ _ (dc_b h hn s Q hx i), w64 (x := (i : Int) + 1) (by omega) (by omega), Int.toNat_natCast, ← hsg]
  rw [hsg] at nx ⊢
  exact nx
theorem spec_pivot (hx : ∀ r, r < n → (Q.getD r 0).natAbs ≤ 100) : Ev (fun k => spec_l04Pivot.f k l Q s) (pvA n l s Q) := by
 unfold spec_l04Pivot.f pvA
 have db : -1920000000 ≤ det n (Cm s l) ∧ det n (Cm s l) ≤ 1920000000 := D_b h hn s
 refine evbind (spec_cols h hn s) (evbind (spec_solve h hn s Q hx hQ) ?_)
 by_cases d : det n (Cm s l) = 0
 ·rw [if_pos d]
  exact evpos d (evc rfl)
 ·rw [if_neg d, hQ]
  refine evneg d ?_
  have e0 := sgn_ne d
  by_cases c : det n (Cm s l) < 0
  ·rw [if_pos c] at e0
   refine evpos c (evstep (fun k => by rw [spec_l04Pivot.j0]) ?_)
   have := loop0 h hn s Q hQ hx (-1) e0.symm (ab (det n (Cm s l))) n 0 (by omega)
   show Ev (fun k => spec_l04Pivot.l0 k s (n : Int) (mk n n (Cm s l)) ((List.range n).map (dc n (Cm s l) Q)) (-1) 0 l Q (wrap64 (-1 * det n (Cm s l))) [] []) _
   rw [show wrap64 (-1 * det n (Cm s l)) = ab (det n (Cm s l)) from by unfold ab; rw [if_pos c, w64 (by omega) (by omega)]; omega]
   exact this
  ·rw [if_neg c] at e0
   refine evneg c (evstep (fun k => by rw [spec_l04Pivot.j0]) ?_)
   have := loop0 h hn s Q hQ hx 1 e0.symm (ab (det n (Cm s l))) n 0 (by omega)
   show Ev (fun k => spec_l04Pivot.l0 k s (n : Int) (mk n n (Cm s l)) ((List.range n).map (dc n (Cm s l) Q)) 1 0 l Q (wrap64 (1 * det n (Cm s l))) [] []) _
   rw [show wrap64 (1 * det n (Cm s l)) = ab (det n (Cm s l)) from by unfold ab; rw [if_neg c, w64 (by omega) (by omega)]; omega]
   exact this
end
end Go.Proofs.Ythdoilfjcgickaa.Pp
end
section
namespace Go.Proofs.Ythdoilfjcgickaa.La
open Go.RowKit Go.Proofs.YthdoilfjcgickaaW.PrintWords Go.Proofs.YthdoilfjcgickaaW.PrintMore Go.Proofs.Ythdoilfjcgickaa.Ma Go.Proofs.Ythdoilfjcgickaa.Pr Go.Proofs.Ythdoilfjcgickaa.Hm
theorem marks_at : ∀ (l : List (List Int)) (n : Int) (i : Nat) (h : i < l.length), (marks l n).getD i [] = count (n + lens (l.take i)) l[i].length
 | x :: l, n, 0, _ => by simp [marks, lens]
 | x :: l, n, i + 1, h => by
  have := marks_at l (n + x.length) i (by simpa using h)
  simp only [marks, List.getD_cons_succ, this, List.take_succ_cons, lens, List.getElem_cons_succ]
  congr 1
  push_cast
  omega
theorem heldSS (l : List (List Int)) (n : Int) (h0 : 0 ≤ n) (h1 : n + lens l ≤ 1099511627776) (hl : l.length ≤ 1099511627776) : Ev (fun k => laws_heldInt64SS.f k (marks l n) n) (n + lens l) := by
 have key : ∀ m i, i + m = l.length → Ev (fun k => laws_heldInt64SS.l0 k (marks l n) (n + lens (l.take i)) (i : Nat)) (n + lens l) := by
  intro m
  induction m with
  | zero =>
   intro i hi
   refine evstep (fun k => by rw [laws_heldInt64SS.l0]) (evneg (by rw [marks_length]; omega) (evc ?_))
   rw [List.take_of_length_le (by omega)]
  | succ m ih =>
   intro i hi
   have hlt : i < l.length := by omega
   have e1 := lens_take_succ l i hlt
   have e2 := lens_take_le l (i + 1)
   refine evstep (fun k => by rw [laws_heldInt64SS.l0]) (evpos (by rw [marks_length]; omega) (evpos (by omega) ?_))
   rw [rdL, marks_at l n i hlt, w64 (by omega) (by omega)]
   refine evbind (heldI (n + lens (l.take i)) l[i].length (by omega) (by omega) (by omega)) (evneg (by omega) ?_)
   have := ih (i + 1) (by omega)
   rw [show n + (lens (l.take (i + 1)) : Int) = n + lens (l.take i) + l[i].length from by rw [e1]; push_cast; omega] at this
   exact this
 have := key l.length 0 (by omega)
 unfold laws_heldInt64SS.f
 simpa [lens] using this
end Go.Proofs.Ythdoilfjcgickaa.La
end
section
namespace Go.Proofs.Ythdoilfjcgickaa.La
open Go.RowKit Go.Proofs.YthdoilfjcgickaaW.PrintWords Go.Proofs.YthdoilfjcgickaaW.PrintMore Go.Proofs.Ythdoilfjcgickaa.Ma Go.Proofs.Ythdoilfjcgickaa.Pr Go.Proofs.Ythdoilfjcgickaa.Hm Go.Proofs.Ythdoilfjcgickaa.Op
theorem szP2 {M : List (List Int)} {Q : List Int} (ga : GoodList (GoodList (GoodInt .i64)) M) (gb : GoodList (GoodInt .i64) Q) :
  ∃ t : Int, Ev (fun k => laws_szProblem.f k M Q 1048576) t ∧ t ≤ 1048576 ∧ (0 ≤ t → tot M ≤ 1048576 ∧ Q.length ≤ 1048576) := by
 have h1 := szSS M ga (n := 1048576) (by decide) (by decide)
 by_cases c : (1048576 : Int) < (tot M : Int)
 ·rw [if_pos c] at h1
  exact ⟨-1, by unfold laws_szProblem.f; exact evbind h1 (evpos (by decide) (evc rfl)), by decide, fun h => by omega⟩
 ·rw [if_neg c] at h1
  have h2 := sz_eq (l := Q) (n := 1048576 - (tot M : Int)) (by omega) (by omega) gb.1
  by_cases c2 : (1048576 : Int) - (tot M : Int) < (Q.length : Int)
  ·rw [if_pos c2] at h2
   exact ⟨-1, by unfold laws_szProblem.f; exact evbind h1 (evneg (by omega) (evsome h2 (evpos (by decide) (evc rfl)))), by decide, fun h => by omega⟩
  ·rw [if_neg c2] at h2
   exact ⟨_, by unfold laws_szProblem.f; exact evbind h1 (evneg (by omega) (evsome h2 (evneg (by omega) (evc rfl)))), by omega, fun _ => ⟨by omega, by omega⟩⟩
theorem fit_lensP {l : List (List Int)} (h : tot l ≤ 1048576) : lens l ≤ 1048576 := by unfold tot at h; omega
theorem toP {M : List (List Int)} {Q : List Int} (hM : Fit M) (hQ : Q.length ≤ 1048576) : Ev (fun k => laws_toProblem.f k M Q) (M, Q) := by
 unfold laws_toProblem.f
 exact evbind (fit_to hM) (evbind (toI Q hQ) (evc rfl))
theorem eqPr {M : List (List Int)} {Q : List Int} (hM : Fit M) (hQ : Q.length ≤ 1152921504606846976) : Ev (fun k => laws_eqProblem.f k M Q M Q) true := by
 unfold laws_eqProblem.f
 exact evbind (fit_eq hM) (evpos rfl (evbind (eqI_same Q hQ) (evpos rfl (evc rfl))))
end Go.Proofs.Ythdoilfjcgickaa.La
end
section
namespace Go.Proofs.Ythdoilfjcgickaa.Pr
open Go.RowKit Go.Proofs.YthdoilfjcgickaaW.PrintWords Go.Proofs.YthdoilfjcgickaaW.PrintLast Go.Proofs.YthdoilfjcgickaaW.PrintMore
attribute [local go_sem] max2_int min2_int max_two min_two max_three min_three max_four min_four
def spec_PivotOf.f (k : Nat) (l0_0 : List (List Int)) (l0_1 : List Int) (a1 : Int) : Option (Int × (List (List Int)) × List Int × Int) := (spec_l02Code.f k l0_0 l0_1 a1).bind fun t283 => (if t283 = 0 then ((spec_l04Pivot.f k l0_0 l0_1 a1).bind fun bt284 => (if bt284.2.2.2 = true then (some (bt284.1, bt284.2.1, bt284.2.2.1, 0)) else (some (0, ([] : List (List Int)), ([] : List Int), 5)))) else (some (0, ([] : List (List Int)), ([] : List Int), t283)))
theorem spec_PivotOf.mono : ∀ a0 a1 a2 k, LeO (spec_PivotOf.f k a0 a1 a2) (spec_PivotOf.f (k + 1) a0 a1 a2) := by
 intro a0 a1 a2 k
 unfold spec_PivotOf.f
 repeat' first
   | (with_reducible exact spec_l02Code.mono _ _ _ _)
   | (with_reducible exact spec_l04Pivot.mono _ _ _ _)
   | (with_reducible exact LeO.refl _)
   | (with_reducible exact LeO.none _)
   | (with_reducible refine LeO.ite ?_ ?_)
   | (with_reducible refine LeO.bind ?_ (fun _ => ?_))
   | exact spec_l02Code.mono _ _ _ _
   | exact spec_l04Pivot.mono _ _ _ _
   | exact LeO.none _
   | refine LeO.ite ?_ ?_
   | refine LeO.bind ?_ (fun _ => ?_)
theorem spec_PivotOf.calls (k : Nat) (A0_0 : Option Addr) (c0_0 : Nat) (l0_0 : List (List Int)) (A0_1 : Option Addr) (c0_1 : Nat) (l0_1 : List Int) (a1 : Int) (r1 : Int) (r2 : List (List Int)) (r3 : List Int) (r4 : Int) (w : World) (hr0_0 : Kd.C (Kd.slice 2 (Kd.int .i64)) w A0_0 l0_0.length l0_0) (hc0_0 : l0_0.length ≤ c0_0) (hr0_1 : Kd.C (Kd.int .i64) w A0_1 l0_1.length l0_1) (hc0_1 : l0_1.length ≤ c0_1) (h : spec_PivotOf.f k l0_0 l0_1 a1 = some (r1, r2, r3, r4)) :
  Calls Try.prog 60 #[.agg #[.slice A0_0 l0_0.length c0_0, .slice A0_1 l0_1.length c0_1], .int .i64 a1] w fun e w' => ∃ v1_ v2_ : Value, e = .returned (.tuple #[.agg #[.int .i64 r1, v1_, v2_], .int .i64 r4]) ∧ Kd.S (Kd.slice 2 (Kd.int .i64)) 23 w' w.heap.size (fun k_ => some k_ ≠ (v2_ : Value).ownBlock) v1_ r2 ∧ Kd.R (Kd.int .i64) 2 w' w.heap.size (fun _ => True) v2_ r3 ∧ Below w.heap.size w w' := by
 have hu29 := Try.underlying29
 have hu75 := Try.underlying75
 have HR0_0 := Aside0.mk hr0_0
 have HC0_0 := Aside0.mk hc0_0
 clear hr0_0 hc0_0
 have HR0_1 := Aside0.mk hr0_1
 have HC0_1 := Aside0.mk hc0_1
 clear hr0_1 hc0_1
 have HB := Aside0.mk (Below.refl w.heap.size w)
 have H : ((spec_l02Code.f k l0_0 l0_1 a1).bind fun t283 => (if t283 = 0 then ((spec_l04Pivot.f k l0_0 l0_1 a1).bind fun bt284 => (if bt284.2.2.2 = true then (some (bt284.1, bt284.2.1, bt284.2.2.1, 0)) else (some (0, ([] : List (List Int)), ([] : List Int), 5)))) else (some (0, ([] : List (List Int)), ([] : List Int), t283)))) = some (r1, r2, r3, r4) := h
 clear h
 replace H := Option.bind_eq_some_iff.mp H
 obtain ⟨t283, A30, H⟩ := H
 replace H : (if t283 = 0 then ((spec_l04Pivot.f k l0_0 l0_1 a1).bind fun bt284 => (if bt284.2.2.2 = true then (some (bt284.1, bt284.2.1, bt284.2.2.1, 0)) else (some (0, ([] : List (List Int)), ([] : List Int), 5)))) else (some (0, ([] : List (List Int)), ([] : List Int), t283))) = some (r1, r2, r3, r4) := H
 have A3 := Aside0.mk A30
 clear A30
 by_cases c4 : t283 = 0
 ·rw [if_pos c4] at H
  have c4b0 : (t283 == 0) = true := beq_iff_eq.mpr c4
  have c4b1 : (t283 != 0) = false := bne_eq_false_iff_eq.mpr c4
  clear c4
  replace H := Option.bind_eq_some_iff.mp H
  obtain ⟨⟨t284, t285, t288, t291⟩, A50, H⟩ := H
  replace H : (if t291 = true then (some (t284, t285, t288, 0)) else (some (0, ([] : List (List Int)), ([] : List Int), 5))) = some (r1, r2, r3, r4) := H
  have A5 := Aside0.mk A50
  clear A50
  by_cases c6 : t291 = true
  ·subst c6
   have H1 : (some (t284, t285, t288, 0)) = some (r1, r2, r3, r4) := by rw [if_pos rfl] at H; exact H
   clear H
   have H := H1
   clear H1
   simp only [Option.some.injEq, Prod.mk.injEq] at H
   obtain ⟨rfl, rfl, rfl, rfl⟩ := H
   go_enter Try.func60, Try.ntmps60
   go_wp2_with (first | ((with_reducible refine gate_dst (N := 2) rfl ?_); refine box_event ?hg (N := 2) ?hd (cs := #[.slice A0_0 l0_0.length c0_0, .slice A0_1 l0_1.length c0_1]) (t := 29) ?hr ?_; (case hd => rfl); (case hg => rfl); (case hr => first | (go_simp; done) | (go_simp; rfl)); intro gb281 hg w7 hbox hb; have n0_ := Aside0.mk (bs_ hb); have n1_ := Aside0.mk (hbox); have n2_ := Aside0.mk ((by rw [hg]; exact bz_ : w.heap.size ≤ gb281)); have n3_ := Aside0.mk ((by rw [hg]; exact bz_ : w.heap.size ≤ gb281)); clear HB; have HB := n0_; have BK281 := n1_; have GW281 := n2_; have GE281 := n3_; clear n0_ n1_ n2_ n3_; clear hb hbox hg) | ((with_reducible refine gate_dst (N := 4) rfl ?_); refine box_event ?hg (N := 4) ?hd (cs := #[.int .i64 0, .slice none 0 0, .slice none 0 0]) (t := 75) ?hr ?_; (case hd => rfl); (case hg => rfl); (case hr => first | (go_simp; done) | (go_simp; rfl)); intro gb282 hg w8 hbox hb; have n0_ := Aside0.mk (bb_ BK281.out hb); have n1_ := Aside0.mk (bs_ hb); have n2_ := Aside0.mk (hbox); have n3_ := Aside0.mk ((by rw [hg]; exact bz_ : w.heap.size ≤ gb282)); have n4_ := Aside0.mk ((by rw [hg]; exact bz_ : w.heap.size ≤ gb282)); have n5_ := Aside0.mk ((by rw [hg]; exact lt_ BK281.out : gb281 ≠ gb282)); have n6_ := Aside0.mk ((by rw [hg]; exact gt_ BK281.out : gb282 ≠ gb281)); clear BK281; clear HB; have BK281 := n0_; have HB := n1_; have BK282 := n2_; have GW282 := n3_; have GE282 := n4_; have NB281_282 := n5_; have NB282_281 := n6_; clear n0_ n1_ n2_ n3_ n4_ n5_ n6_; clear hb hbox hg; have hnb9 := NB281_282.out; have hnc9 := NB282_281.out; have hcz10_0 : w8.cell? ⟨gb281, 0, none⟩ = some (.slice A0_0 l0_0.length c0_0) := (blk_cell BK281.out 0).trans rfl; have hcz10_1 : w8.cell? ⟨gb281, 1, none⟩ = some (.slice A0_1 l0_1.length c0_1) := (blk_cell BK281.out 1).trans rfl; have hfz10_0 := blk_frozen BK281.out 0; have hfz10_1 := blk_frozen BK281.out 1) | ((with_reducible refine gate_callee (f := 74) rfl ?_); refine goesL_ (some 11) rfl rfl Try.func74 (by kernel_rfl) rfl #[.agg #[.slice A0_0 l0_0.length c0_0, .slice A0_1 l0_1.length c0_1], .int .i64 a1] rfl (by (try simp only [List.map_toArray, List.map_cons, List.map_nil]); first | done | rfl | (simp only [List.length_drop, List.length_take]; rfl)) ?_; (with_reducible refine (spec_l02Code.calls k _ _ l0_0 _ _ l0_1 a1 t283 _ ?side1 ?side2 ?side3 ?side4 A3.out).mono ?_); (case side1 => exact cb_ HR0_0.out HB.out); (case side2 => exact HC0_0.out); (case side3 => exact cb_ HR0_1.out HB.out); (case side4 => exact HC0_1.out); rintro e w11 ⟨rfl, hb⟩; refine ⟨_, rfl, ?_⟩; have n0_ := Aside0.mk (bb_ BK281.out hb); have n1_ := Aside0.mk (bb_ BK282.out hb); have n2_ := Aside0.mk (bs_ hb); clear BK281; clear BK282; clear HB; have BK281 := n0_; have BK282 := n1_; have HB := n2_; clear n0_ n1_ n2_; (try clear hb); (try clear hb2); (try clear hk); (try clear hi); have hcz12_0 : w11.cell? ⟨gb281, 0, none⟩ = some (.slice A0_0 l0_0.length c0_0) := (blk_cell BK281.out 0).trans rfl; have hcz12_1 : w11.cell? ⟨gb281, 1, none⟩ = some (.slice A0_1 l0_1.length c0_1) := (blk_cell BK281.out 1).trans rfl; have hfz12_0 := blk_frozen BK281.out 0; have hfz12_1 := blk_frozen BK281.out 1) | ((with_reducible refine gate_callee (f := 75) rfl ?_); refine goesL_ (some 19) rfl rfl Try.func75 (by kernel_rfl) rfl #[.agg #[.slice A0_0 l0_0.length c0_0, .slice A0_1 l0_1.length c0_1], .int .i64 a1] rfl (by (try simp only [List.map_toArray, List.map_cons, List.map_nil]); first | done | rfl | (simp only [List.length_drop, List.length_take]; rfl)) ?_; (with_reducible refine (spec_l04Pivot.calls k _ _ l0_0 _ _ l0_1 a1 t284 t285 t288 true _ ?side1 ?side2 ?side3 ?side4 A5.out).mono ?_); (case side1 => exact cb_ HR0_0.out HB.out); (case side2 => exact HC0_0.out); (case side3 => exact cb_ HR0_1.out HB.out); (case side4 => exact HC0_1.out); rintro e w13 ⟨v286, v289, rfl, ho0, ho1, hb⟩; refine ⟨_, rfl, ?_⟩; have n0_ := Aside0.mk (Kd.S_lower ho0 bz_); have n1_ := Aside0.mk (Kd.R_lower ho1 bz_); have n2_ := Aside0.mk (bb_ BK281.out hb); have n3_ := Aside0.mk (bb_ BK282.out hb); have n4_ := Aside0.mk (bs_ hb); clear BK281; clear BK282; clear HB; have HO287 := n0_; have HO290 := n1_; have BK281 := n2_; have BK282 := n3_; have HB := n4_; clear n0_ n1_ n2_ n3_ n4_; (try clear hb); (try clear hb2); (try clear hk); (try clear hi); (try clear ho0); (try clear ho1)) | ((with_reducible refine gate_dst (N := 7) rfl ?_); refine box_event ?hg (N := 7) ?hd (cs := #[.int .i64 0, .slice none 0 0, .slice none 0 0]) (t := 75) ?hr ?_; (case hd => rfl); (case hg => rfl); (case hr => first | (go_simp; done) | (go_simp; rfl)); intro gb292 hg w14 hbox hb; have n0_ := Aside0.mk (Kd.S_below (so_ HO287.out) hb); have n1_ := Aside0.mk (rb_ HO290.out hb); have n2_ := Aside0.mk (bb_ BK281.out hb); have n3_ := Aside0.mk (bb_ BK282.out hb); have n4_ := Aside0.mk (bs_ hb); have n5_ := Aside0.mk (hbox); have n6_ := Aside0.mk ((by rw [hg]; exact bz_ : w.heap.size ≤ gb292)); have n7_ := Aside0.mk ((by rw [hg]; exact bz_ : w.heap.size ≤ gb292)); have n8_ := Aside0.mk ((by rw [hg]; exact lt_ BK281.out : gb281 ≠ gb292)); have n9_ := Aside0.mk ((by rw [hg]; exact gt_ BK281.out : gb292 ≠ gb281)); have n10_ := Aside0.mk ((by rw [hg]; exact lt_ BK282.out : gb282 ≠ gb292)); have n11_ := Aside0.mk ((by rw [hg]; exact gt_ BK282.out : gb292 ≠ gb282)); clear HO287; clear HO290; clear BK281; clear BK282; clear HB; have HO287 := n0_; have HO290 := n1_; have BK281 := n2_; have BK282 := n3_; have HB := n4_; have BK292 := n5_; have GW292 := n6_; have GE292 := n7_; have NB281_292 := n8_; have NB292_281 := n9_; have NB282_292 := n10_; have NB292_282 := n11_; clear n0_ n1_ n2_ n3_ n4_ n5_ n6_ n7_ n8_ n9_ n10_ n11_; clear hb hbox hg; have hnb15 := NB292_281.out; have hnc15 := NB281_292.out; have hnb16 := NB292_282.out; have hnc16 := NB282_292.out; have hcz17_0 : w14.cell? ⟨gb292, 0, none⟩ = some (.int .i64 0) := (blk_cell BK292.out 0).trans rfl; have hcz17_1 : w14.cell? ⟨gb292, 1, none⟩ = some (.slice none 0 0) := (blk_cell BK292.out 1).trans rfl; have hcz17_2 : w14.cell? ⟨gb292, 2, none⟩ = some (.slice none 0 0) := (blk_cell BK292.out 2).trans rfl; have hfz17_0 := blk_frozen BK292.out 0; have hfz17_1 := blk_frozen BK292.out 1; have hfz17_2 := blk_frozen BK292.out 2; obtain ⟨Ao18, co18, eo18⟩ := Kd.S_slice HO287.out; subst eo18; obtain ⟨Ao19, co19, eo19⟩ := Kd.R_slice HO290.out; subst eo19; have hcz20_0 : w14.cell? ⟨gb282, 0, none⟩ = some (.int .i64 0) := (blk_cell BK282.out 0).trans rfl; have hcz20_1 : w14.cell? ⟨gb282, 1, none⟩ = some (.slice none 0 0) := (blk_cell BK282.out 1).trans rfl; have hcz20_2 : w14.cell? ⟨gb282, 2, none⟩ = some (.slice none 0 0) := (blk_cell BK282.out 2).trans rfl; have hfz20_0 := blk_frozen BK282.out 0; have hfz20_1 := blk_frozen BK282.out 1; have hfz20_2 := blk_frozen BK282.out 2))
   refine bodyPost_ret (results_ct rfl _ _ gb282 75 #[.int .i64 t284, .slice Ao18 t285.length co18, .slice Ao19 t288.length co19] (0, 0) _ rfl (by (with_reducible repeat (first | refine blk_drewN ?_ _ | refine blk_drew ?_ | refine blk_alloc ?_ _)); refine blk_put (cs := #[.int .i64 t284, .slice Ao18 t285.length co18, .slice none 0 0]) ?_ 2 _ rfl; (with_reducible repeat (first | refine blk_drewN ?_ _ | refine blk_drew ?_ | refine blk_alloc ?_ _)); refine blk_put (cs := #[.int .i64 t284, .slice none 0 0, .slice none 0 0]) ?_ 1 _ rfl; (with_reducible repeat (first | refine blk_drewN ?_ _ | refine blk_drew ?_ | refine blk_alloc ?_ _)); refine blk_put (cs := #[.int .i64 0, .slice none 0 0, .slice none 0 0]) ?_ 0 _ rfl; (with_reducible repeat (first | refine blk_drewN ?_ _ | refine blk_drew ?_ | refine blk_alloc ?_ _)); refine blk_far ?_ NB282_292.out _; (with_reducible repeat (first | refine blk_drewN ?_ _ | refine blk_drew ?_ | refine blk_alloc ?_ _)); refine blk_far ?_ NB282_292.out _; (with_reducible repeat (first | refine blk_drewN ?_ _ | refine blk_drew ?_ | refine blk_alloc ?_ _)); refine blk_far ?_ NB282_292.out _; (with_reducible repeat (first | refine blk_drewN ?_ _ | refine blk_drew ?_ | refine blk_alloc ?_ _)); exact BK282.out) Try.underlying75 rfl (by kernel_rfl)) rfl ?_
   exact ⟨_, _, by first | rfl | (simp [errW_none, errW_some] <;> rfl) | (simp [*, errW_none, errW_some] <;> rfl), by (with_reducible repeat (first | apply Kd.S_alloc | apply Kd.S_drewN | apply Kd.S_drew)); exact Kd.S_mono (Kd.S_far (p := ⟨gb282, 2, none⟩) (Kd.S_far (p := ⟨gb282, 1, none⟩) (Kd.S_far (p := ⟨gb282, 0, none⟩) (Kd.S_far (p := ⟨gb292, 2, none⟩) (Kd.S_far (p := ⟨gb292, 1, none⟩) (Kd.S_far (p := ⟨gb292, 0, none⟩) (Kd.S_types (Kd.S_types HO287.out BK292.out (by decide)) BK282.out (by decide)) (fun _ hk => hk.1.2) (.int .i64 t284)) (fun _ hk => hk.1.2) (.slice Ao18 t285.length co18)) (fun _ hk => hk.1.2) (.slice Ao19 t288.length co19)) (fun _ hk => hk.2) (.int .i64 t284)) (fun _ hk => hk.2) (.slice Ao18 t285.length co18)) (fun _ hk => hk.2) (.slice Ao19 t288.length co19)) (fun _ hk => hk.1.1), by (with_reducible repeat (first | apply Kd.R_alloc | apply Kd.R_drewN | apply Kd.R_drew)); exact Kd.R_mono (Kd.R_far (p := ⟨gb282, 2, none⟩) (Kd.R_far (p := ⟨gb282, 1, none⟩) (Kd.R_far (p := ⟨gb282, 0, none⟩) (Kd.R_far (p := ⟨gb292, 2, none⟩) (Kd.R_far (p := ⟨gb292, 1, none⟩) (Kd.R_far (p := ⟨gb292, 0, none⟩) (Kd.R_types (Kd.R_types HO290.out BK292.out (by decide)) BK282.out (by decide)) (fun _ hk => hk.1.2) (.int .i64 t284)) (fun _ hk => hk.1.2) (.slice Ao18 t285.length co18)) (fun _ hk => hk.1.2) (.slice Ao19 t288.length co19)) (fun _ hk => hk.2) (.int .i64 t284)) (fun _ hk => hk.2) (.slice Ao18 t285.length co18)) (fun _ hk => hk.2) (.slice Ao19 t288.length co19)) (fun _ hk => trivial), hb_⟩
  ·replace c6 := Bool.eq_false_iff.mpr c6
   subst c6
   have H1 : (some (0, ([] : List (List Int)), ([] : List Int), 5)) = some (r1, r2, r3, r4) := by rw [if_neg (show ¬ (false = true) by decide)] at H; exact H
   clear H
   have H := H1
   clear H1
   simp only [Option.some.injEq, Prod.mk.injEq] at H
   obtain ⟨rfl, rfl, rfl, rfl⟩ := H
   go_enter Try.func60, Try.ntmps60
   go_wp2_with (first | ((with_reducible refine gate_dst (N := 2) rfl ?_); refine box_event ?hg (N := 2) ?hd (cs := #[.slice A0_0 l0_0.length c0_0, .slice A0_1 l0_1.length c0_1]) (t := 29) ?hr ?_; (case hd => rfl); (case hg => rfl); (case hr => first | (go_simp; done) | (go_simp; rfl)); intro gb281 hg w21 hbox hb; have n0_ := Aside0.mk (bs_ hb); have n1_ := Aside0.mk (hbox); have n2_ := Aside0.mk ((by rw [hg]; exact bz_ : w.heap.size ≤ gb281)); have n3_ := Aside0.mk ((by rw [hg]; exact bz_ : w.heap.size ≤ gb281)); clear HB; have HB := n0_; have BK281 := n1_; have GW281 := n2_; have GE281 := n3_; clear n0_ n1_ n2_ n3_; clear hb hbox hg) | ((with_reducible refine gate_dst (N := 4) rfl ?_); refine box_event ?hg (N := 4) ?hd (cs := #[.int .i64 0, .slice none 0 0, .slice none 0 0]) (t := 75) ?hr ?_; (case hd => rfl); (case hg => rfl); (case hr => first | (go_simp; done) | (go_simp; rfl)); intro gb282 hg w22 hbox hb; have n0_ := Aside0.mk (bb_ BK281.out hb); have n1_ := Aside0.mk (bs_ hb); have n2_ := Aside0.mk (hbox); have n3_ := Aside0.mk ((by rw [hg]; exact bz_ : w.heap.size ≤ gb282)); have n4_ := Aside0.mk ((by rw [hg]; exact bz_ : w.heap.size ≤ gb282)); have n5_ := Aside0.mk ((by rw [hg]; exact lt_ BK281.out : gb281 ≠ gb282)); have n6_ := Aside0.mk ((by rw [hg]; exact gt_ BK281.out : gb282 ≠ gb281)); clear BK281; clear HB; have BK281 := n0_; have HB := n1_; have BK282 := n2_; have GW282 := n3_; have GE282 := n4_; have NB281_282 := n5_; have NB282_281 := n6_; clear n0_ n1_ n2_ n3_ n4_ n5_ n6_; clear hb hbox hg; have hnb23 := NB281_282.out; have hnc23 := NB282_281.out; have hcz24_0 : w22.cell? ⟨gb281, 0, none⟩ = some (.slice A0_0 l0_0.length c0_0) := (blk_cell BK281.out 0).trans rfl; have hcz24_1 : w22.cell? ⟨gb281, 1, none⟩ = some (.slice A0_1 l0_1.length c0_1) := (blk_cell BK281.out 1).trans rfl; have hfz24_0 := blk_frozen BK281.out 0; have hfz24_1 := blk_frozen BK281.out 1) | ((with_reducible refine gate_callee (f := 74) rfl ?_); refine goesL_ (some 11) rfl rfl Try.func74 (by kernel_rfl) rfl #[.agg #[.slice A0_0 l0_0.length c0_0, .slice A0_1 l0_1.length c0_1], .int .i64 a1] rfl (by (try simp only [List.map_toArray, List.map_cons, List.map_nil]); first | done | rfl | (simp only [List.length_drop, List.length_take]; rfl)) ?_; (with_reducible refine (spec_l02Code.calls k _ _ l0_0 _ _ l0_1 a1 t283 _ ?side1 ?side2 ?side3 ?side4 A3.out).mono ?_); (case side1 => exact cb_ HR0_0.out HB.out); (case side2 => exact HC0_0.out); (case side3 => exact cb_ HR0_1.out HB.out); (case side4 => exact HC0_1.out); rintro e w25 ⟨rfl, hb⟩; refine ⟨_, rfl, ?_⟩; have n0_ := Aside0.mk (bb_ BK281.out hb); have n1_ := Aside0.mk (bb_ BK282.out hb); have n2_ := Aside0.mk (bs_ hb); clear BK281; clear BK282; clear HB; have BK281 := n0_; have BK282 := n1_; have HB := n2_; clear n0_ n1_ n2_; (try clear hb); (try clear hb2); (try clear hk); (try clear hi); have hcz26_0 : w25.cell? ⟨gb281, 0, none⟩ = some (.slice A0_0 l0_0.length c0_0) := (blk_cell BK281.out 0).trans rfl; have hcz26_1 : w25.cell? ⟨gb281, 1, none⟩ = some (.slice A0_1 l0_1.length c0_1) := (blk_cell BK281.out 1).trans rfl; have hfz26_0 := blk_frozen BK281.out 0; have hfz26_1 := blk_frozen BK281.out 1) | ((with_reducible refine gate_callee (f := 75) rfl ?_); refine goesL_ (some 19) rfl rfl Try.func75 (by kernel_rfl) rfl #[.agg #[.slice A0_0 l0_0.length c0_0, .slice A0_1 l0_1.length c0_1], .int .i64 a1] rfl (by (try simp only [List.map_toArray, List.map_cons, List.map_nil]); first | done | rfl | (simp only [List.length_drop, List.length_take]; rfl)) ?_; (with_reducible refine (spec_l04Pivot.calls k _ _ l0_0 _ _ l0_1 a1 t284 t285 t288 false _ ?side1 ?side2 ?side3 ?side4 A5.out).mono ?_); (case side1 => exact cb_ HR0_0.out HB.out); (case side2 => exact HC0_0.out); (case side3 => exact cb_ HR0_1.out HB.out); (case side4 => exact HC0_1.out); rintro e w27 ⟨v286, v289, rfl, ho0, ho1, hb⟩; refine ⟨_, rfl, ?_⟩; have n0_ := Aside0.mk (Kd.S_lower ho0 bz_); have n1_ := Aside0.mk (Kd.R_lower ho1 bz_); have n2_ := Aside0.mk (bb_ BK281.out hb); have n3_ := Aside0.mk (bb_ BK282.out hb); have n4_ := Aside0.mk (bs_ hb); clear BK281; clear BK282; clear HB; have HO287 := n0_; have HO290 := n1_; have BK281 := n2_; have BK282 := n3_; have HB := n4_; clear n0_ n1_ n2_ n3_ n4_; (try clear hb); (try clear hb2); (try clear hk); (try clear hi); (try clear ho0); (try clear ho1)) | ((with_reducible refine gate_dst (N := 7) rfl ?_); refine box_event ?hg (N := 7) ?hd (cs := #[.int .i64 0, .slice none 0 0, .slice none 0 0]) (t := 75) ?hr ?_; (case hd => rfl); (case hg => rfl); (case hr => first | (go_simp; done) | (go_simp; rfl)); intro gb292 hg w28 hbox hb; have n0_ := Aside0.mk (Kd.S_below (so_ HO287.out) hb); have n1_ := Aside0.mk (rb_ HO290.out hb); have n2_ := Aside0.mk (bb_ BK281.out hb); have n3_ := Aside0.mk (bb_ BK282.out hb); have n4_ := Aside0.mk (bs_ hb); have n5_ := Aside0.mk (hbox); have n6_ := Aside0.mk ((by rw [hg]; exact bz_ : w.heap.size ≤ gb292)); have n7_ := Aside0.mk ((by rw [hg]; exact bz_ : w.heap.size ≤ gb292)); have n8_ := Aside0.mk ((by rw [hg]; exact lt_ BK281.out : gb281 ≠ gb292)); have n9_ := Aside0.mk ((by rw [hg]; exact gt_ BK281.out : gb292 ≠ gb281)); have n10_ := Aside0.mk ((by rw [hg]; exact lt_ BK282.out : gb282 ≠ gb292)); have n11_ := Aside0.mk ((by rw [hg]; exact gt_ BK282.out : gb292 ≠ gb282)); clear HO287; clear HO290; clear BK281; clear BK282; clear HB; have HO287 := n0_; have HO290 := n1_; have BK281 := n2_; have BK282 := n3_; have HB := n4_; have BK292 := n5_; have GW292 := n6_; have GE292 := n7_; have NB281_292 := n8_; have NB292_281 := n9_; have NB282_292 := n10_; have NB292_282 := n11_; clear n0_ n1_ n2_ n3_ n4_ n5_ n6_ n7_ n8_ n9_ n10_ n11_; clear hb hbox hg; have hnb29 := NB292_281.out; have hnc29 := NB281_292.out; have hnb30 := NB292_282.out; have hnc30 := NB282_292.out; have hcz31_0 : w28.cell? ⟨gb292, 0, none⟩ = some (.int .i64 0) := (blk_cell BK292.out 0).trans rfl; have hcz31_1 : w28.cell? ⟨gb292, 1, none⟩ = some (.slice none 0 0) := (blk_cell BK292.out 1).trans rfl; have hcz31_2 : w28.cell? ⟨gb292, 2, none⟩ = some (.slice none 0 0) := (blk_cell BK292.out 2).trans rfl; have hfz31_0 := blk_frozen BK292.out 0; have hfz31_1 := blk_frozen BK292.out 1; have hfz31_2 := blk_frozen BK292.out 2; obtain ⟨Ao32, co32, eo32⟩ := Kd.S_slice HO287.out; subst eo32; obtain ⟨Ao33, co33, eo33⟩ := Kd.R_slice HO290.out; subst eo33; have hcz34_0 : w28.cell? ⟨gb282, 0, none⟩ = some (.int .i64 0) := (blk_cell BK282.out 0).trans rfl; have hcz34_1 : w28.cell? ⟨gb282, 1, none⟩ = some (.slice none 0 0) := (blk_cell BK282.out 1).trans rfl; have hcz34_2 : w28.cell? ⟨gb282, 2, none⟩ = some (.slice none 0 0) := (blk_cell BK282.out 2).trans rfl; have hfz34_0 := blk_frozen BK282.out 0; have hfz34_1 := blk_frozen BK282.out 1; have hfz34_2 := blk_frozen BK282.out 2))
   refine bodyPost_ret (results_ct rfl _ _ gb282 75 #[.int .i64 0, .slice none 0 0, .slice none 0 0] (0, 0) _ rfl (by (with_reducible repeat (first | refine blk_drewN ?_ _ | refine blk_drew ?_ | refine blk_alloc ?_ _)); refine blk_put (cs := #[.int .i64 0, .slice none 0 0, .slice none 0 0]) ?_ 2 _ rfl; (with_reducible repeat (first | refine blk_drewN ?_ _ | refine blk_drew ?_ | refine blk_alloc ?_ _)); refine blk_put (cs := #[.int .i64 0, .slice none 0 0, .slice none 0 0]) ?_ 1 _ rfl; (with_reducible repeat (first | refine blk_drewN ?_ _ | refine blk_drew ?_ | refine blk_alloc ?_ _)); refine blk_put (cs := #[.int .i64 0, .slice none 0 0, .slice none 0 0]) ?_ 0 _ rfl; (with_reducible repeat (first | refine blk_drewN ?_ _ | refine blk_drew ?_ | refine blk_alloc ?_ _)); refine blk_far ?_ NB282_292.out _; (with_reducible repeat (first | refine blk_drewN ?_ _ | refine blk_drew ?_ | refine blk_alloc ?_ _)); refine blk_far ?_ NB282_292.out _; (with_reducible repeat (first | refine blk_drewN ?_ _ | refine blk_drew ?_ | refine blk_alloc ?_ _)); refine blk_far ?_ NB282_292.out _; (with_reducible repeat (first | refine blk_drewN ?_ _ | refine blk_drew ?_ | refine blk_alloc ?_ _)); exact BK282.out) Try.underlying75 rfl (by kernel_rfl)) rfl ?_
   exact ⟨_, _, by first | rfl | (simp [errW_none, errW_some] <;> rfl) | (simp [*, errW_none, errW_some] <;> rfl), by first | exact Kd.S_nil _ _ _ _ _ | exact Kd.N_nil _ _ _ _ _ | exact Kd.V_nil _ _ _ _ _ | exact Kd.Q_nil _ _ _ _ _ | exact Kd.R_nil _ _ _ _ _, by first | exact Kd.R_nil _ _ _ _ _ | exact Kd.N_nil _ _ _ _ _ | exact Kd.V_nil _ _ _ _ _ | exact Kd.Q_nil _ _ _ _ _ | exact Kd.S_nil _ _ _ _ _, hb_⟩
 ·rw [if_neg c4] at H
  have c4b0 : (t283 == 0) = false := beq_eq_false_iff_ne.mpr c4
  have c4b1 : (t283 != 0) = true := bne_iff_ne.mpr c4
  simp only [Option.some.injEq, Prod.mk.injEq] at H
  obtain ⟨rfl, rfl, rfl, rfl⟩ := H
  go_enter Try.func60, Try.ntmps60
  go_wp2_with (first | ((with_reducible refine gate_dst (N := 2) rfl ?_); refine box_event ?hg (N := 2) ?hd (cs := #[.slice A0_0 l0_0.length c0_0, .slice A0_1 l0_1.length c0_1]) (t := 29) ?hr ?_; (case hd => rfl); (case hg => rfl); (case hr => first | (go_simp; done) | (go_simp; rfl)); intro gb281 hg w35 hbox hb; have n0_ := Aside0.mk (bs_ hb); have n1_ := Aside0.mk (hbox); have n2_ := Aside0.mk ((by rw [hg]; exact bz_ : w.heap.size ≤ gb281)); have n3_ := Aside0.mk ((by rw [hg]; exact bz_ : w.heap.size ≤ gb281)); clear HB; have HB := n0_; have BK281 := n1_; have GW281 := n2_; have GE281 := n3_; clear n0_ n1_ n2_ n3_; clear hb hbox hg) | ((with_reducible refine gate_dst (N := 4) rfl ?_); refine box_event ?hg (N := 4) ?hd (cs := #[.int .i64 0, .slice none 0 0, .slice none 0 0]) (t := 75) ?hr ?_; (case hd => rfl); (case hg => rfl); (case hr => first | (go_simp; done) | (go_simp; rfl)); intro gb282 hg w36 hbox hb; have n0_ := Aside0.mk (bb_ BK281.out hb); have n1_ := Aside0.mk (bs_ hb); have n2_ := Aside0.mk (hbox); have n3_ := Aside0.mk ((by rw [hg]; exact bz_ : w.heap.size ≤ gb282)); have n4_ := Aside0.mk ((by rw [hg]; exact bz_ : w.heap.size ≤ gb282)); have n5_ := Aside0.mk ((by rw [hg]; exact lt_ BK281.out : gb281 ≠ gb282)); have n6_ := Aside0.mk ((by rw [hg]; exact gt_ BK281.out : gb282 ≠ gb281)); clear BK281; clear HB; have BK281 := n0_; have HB := n1_; have BK282 := n2_; have GW282 := n3_; have GE282 := n4_; have NB281_282 := n5_; have NB282_281 := n6_; clear n0_ n1_ n2_ n3_ n4_ n5_ n6_; clear hb hbox hg; have hnb37 := NB281_282.out; have hnc37 := NB282_281.out; have hcz38_0 : w36.cell? ⟨gb281, 0, none⟩ = some (.slice A0_0 l0_0.length c0_0) := (blk_cell BK281.out 0).trans rfl; have hcz38_1 : w36.cell? ⟨gb281, 1, none⟩ = some (.slice A0_1 l0_1.length c0_1) := (blk_cell BK281.out 1).trans rfl; have hfz38_0 := blk_frozen BK281.out 0; have hfz38_1 := blk_frozen BK281.out 1) | ((with_reducible refine gate_callee (f := 74) rfl ?_); refine goesL_ (some 11) rfl rfl Try.func74 (by kernel_rfl) rfl #[.agg #[.slice A0_0 l0_0.length c0_0, .slice A0_1 l0_1.length c0_1], .int .i64 a1] rfl (by (try simp only [List.map_toArray, List.map_cons, List.map_nil]); first | done | rfl | (simp only [List.length_drop, List.length_take]; rfl)) ?_; (with_reducible refine (spec_l02Code.calls k _ _ l0_0 _ _ l0_1 a1 t283 _ ?side1 ?side2 ?side3 ?side4 A3.out).mono ?_); (case side1 => exact cb_ HR0_0.out HB.out); (case side2 => exact HC0_0.out); (case side3 => exact cb_ HR0_1.out HB.out); (case side4 => exact HC0_1.out); rintro e w39 ⟨rfl, hb⟩; refine ⟨_, rfl, ?_⟩; have n0_ := Aside0.mk (bb_ BK281.out hb); have n1_ := Aside0.mk (bb_ BK282.out hb); have n2_ := Aside0.mk (bs_ hb); clear BK281; clear BK282; clear HB; have BK281 := n0_; have BK282 := n1_; have HB := n2_; clear n0_ n1_ n2_; (try clear hb); (try clear hb2); (try clear hk); (try clear hi); have hcz40_0 : w39.cell? ⟨gb282, 0, none⟩ = some (.int .i64 0) := (blk_cell BK282.out 0).trans rfl; have hcz40_1 : w39.cell? ⟨gb282, 1, none⟩ = some (.slice none 0 0) := (blk_cell BK282.out 1).trans rfl; have hcz40_2 : w39.cell? ⟨gb282, 2, none⟩ = some (.slice none 0 0) := (blk_cell BK282.out 2).trans rfl; have hfz40_0 := blk_frozen BK282.out 0; have hfz40_1 := blk_frozen BK282.out 1; have hfz40_2 := blk_frozen BK282.out 2))
  refine bodyPost_ret (results_ct rfl _ _ gb282 75 #[.int .i64 0, .slice none 0 0, .slice none 0 0] (0, 0) _ rfl (by (with_reducible repeat (first | refine blk_drewN ?_ _ | refine blk_drew ?_ | refine blk_alloc ?_ _)); refine blk_put (cs := #[.int .i64 0, .slice none 0 0, .slice none 0 0]) ?_ 2 _ rfl; (with_reducible repeat (first | refine blk_drewN ?_ _ | refine blk_drew ?_ | refine blk_alloc ?_ _)); refine blk_put (cs := #[.int .i64 0, .slice none 0 0, .slice none 0 0]) ?_ 1 _ rfl; (with_reducible repeat (first | refine blk_drewN ?_ _ | refine blk_drew ?_ | refine blk_alloc ?_ _)); refine blk_put (cs := #[.int .i64 0, .slice none 0 0, .slice none 0 0]) ?_ 0 _ rfl; (with_reducible repeat (first | refine blk_drewN ?_ _ | refine blk_drew ?_ | refine blk_alloc ?_ _)); exact BK282.out) Try.underlying75 rfl (by kernel_rfl)) rfl ?_
  exact ⟨_, _, by first | rfl | (simp [errW_none, errW_some] <;> rfl) | (simp [*, errW_none, errW_some] <;> rfl), by first | exact Kd.S_nil _ _ _ _ _ | exact Kd.N_nil _ _ _ _ _ | exact Kd.V_nil _ _ _ _ _ | exact Kd.Q_nil _ _ _ _ _ | exact Kd.R_nil _ _ _ _ _, by first | exact Kd.R_nil _ _ _ _ _ | exact Kd.N_nil _ _ _ _ _ | exact Kd.V_nil _ _ _ _ _ | exact Kd.Q_nil _ _ _ _ _ | exact Kd.S_nil _ _ _ _ _, hb_⟩
end Go.Proofs.Ythdoilfjcgickaa.Pr
end
section
namespace Go.Proofs.Ythdoilfjcgickaa.Pp
open Go.RowKit Go.Proofs.YthdoilfjcgickaaW.PrintWords Go.Proofs.YthdoilfjcgickaaW.PrintMore Go.Proofs.Ythdoilfjcgickaa.Ma Go.Proofs.Ythdoilfjcgickaa.Pr Go.Proofs.Ythdoilfjcgickaa.Dt Go.Proofs.Ythdoilfjcgickaa.Bz Go.Proofs.Ythdoilfjcgickaa.Un Go.Proofs.Ythdoilfjcgickaa.Cz Go.Proofs.Ythdoilfjcgickaa.Pb Go.Proofs.Ythdoilfjcgickaa.Mn Go.Proofs.Ythdoilfjcgickaa.Sv Go.Proofs.Ythdoilfjcgickaa.Pv Go.Proofs.Ythdoilfjcgickaa.La Go.Proofs.Ythdoilfjcgickaa.Hm
structure Few (l : List (List Int)) : Prop where
 len : l.length ≤ 5
 row : ∀ x ∈ l, x.length ≤ 6
theorem few_lens : ∀ (x : List (List Int)), (∀ y ∈ x, y.length ≤ 6) → lens x ≤ 6 * x.length
 | [], _ => by simp [lens]
 | y :: x, h => by
  have h1 := h y (by simp)
  have h2 := few_lens x (fun z hz => h z (by simp [hz]))
  have h3 := lens_cons y x
  simp only [List.length_cons]
  omega
theorem Few.small {l : List (List Int)} (h : Few l) : lens l ≤ 30 := by have := few_lens l h.row; have := h.len; omega
theorem Few.fit {l : List (List Int)} (h : Few l) : Fit l := ⟨by have := h.len; omega, fun x hx => by have := h.row x hx; omega⟩
theorem Few.nil : Few [] := ⟨by simp, fun x hx => by simp at hx⟩
theorem pvR_len (n : Nat) (l : List (List Int)) (s : Int) : (pvR n l s).length = n := pR_len _ _ _ _ _
theorem pvR_row (n : Nat) (l : List (List Int)) (s : Int) : ∀ x ∈ pvR n l s, x.length = n := by
 intro x hx
 unfold pvR pR at hx
 obtain ⟨r, _, rfl⟩ := List.mem_map.1 hx
 simp
theorem POK.small {M : List (List Int)} {Q : List Int} (p : POK M Q) (r : Nat) (hr : r < M.length) : (Q.getD r 0).natAbs ≤ 100 := by
 have := p.num r (Nat.zero_le _) (by have := p.len; omega)
 unfold N100 at this
 omega
theorem POK.rows {M : List (List Int)} {Q : List Int} (p : POK M Q) : ∀ x ∈ M, x.length = M.length := by
 intro x hx
 obtain ⟨i, hi, rfl⟩ := List.getElem_of_mem hx
 have := p.mat.sq.row i hi
 rw [show M.getD i [] = M[i] from by simp [hi]] at this
 exact this
def SetIn (n : Nat) (s : Int) : Prop := 0 ≤ s ∧ s ≤ ((2 ^ n : Nat) : Int) - 1
theorem pow_sub {n : Nat} (hn : n ≤ 5) : wrap64 (shl .i64 1 (n : Int) - 1) = ((2 ^ n : Nat) : Int) - 1 := by
 rw [shl_one (by omega) (by omega), Int.toNat_natCast]
 have key : ∀ m : Nat, 1 ≤ m → m ≤ 2 ^ 5 → wrap64 ((m : Int) - 1) = (m : Int) - 1 := fun m h1 h2 => w64 (by omega) (by omega)
 exact key _ Nat.one_le_two_pow (Nat.pow_le_pow_right (by decide) hn)
theorem iin_eq (x a b : Int) : impl_within.f x a b = some (decide (a ≤ x ∧ x ≤ b)) := by
 unfold impl_within.f
 by_cases h : x ≥ a
 ·rw [if_pos h]; congr 1; rw [Bool.eq_iff_iff]; simp; omega
 ·rw [if_neg h]; congr 1; rw [Bool.eq_iff_iff]; simp; omega
open Classical in
noncomputable def codeS (M : List (List Int)) (Q : List Int) (s : Int) : Int := if POK M Q then (if SetIn Q.length s then 0 else 2) else 1
open Classical in
theorem impl_code (M : List (List Int)) (Q : List Int) (s : Int) : impl_setCode.f M Q s = some (codeS M Q s) := by
 unfold impl_setCode.f codeS
 have is := Pb.impl_is M Q (decide (POK M Q)) (by simp)
 rw [is, Option.bind_some]
 by_cases p : POK M Q
 ·have hq := p.len; have h5 := p.mat.n5
  rw [if_pos (by simpa using p), if_pos p]
  unfold impl_isSet.f
  rw [if_pos (by omega), pow_sub (by omega), iin_eq, Option.bind_some, Option.bind_some]
  by_cases c : 0 ≤ s ∧ s ≤ ((2 ^ Q.length : Nat) : Int) - 1
  ·rw [if_pos (decide_eq_true c), if_pos (show SetIn Q.length s from c)]
  ·rw [if_neg (by simpa using c), if_neg (show ¬ SetIn Q.length s from c)]
 ·rw [if_neg (by simpa using p), if_neg p]
open Classical in
theorem spec_code (M : List (List Int)) (Q : List Int) (s : Int) (hQ : Q.length ≤ 1048576) : Ev (fun k => spec_l02Code.f k M Q s) (codeS M Q s) := by
 unfold spec_l02Code.f codeS
 refine evbind (Pb.spec_is M Q hQ (decide (POK M Q)) (by simp)) ?_
 by_cases p : POK M Q
 ·have hq := p.len; have h5 := p.mat.n5
  rw [if_pos p]
  refine evpos (by simpa using p) ?_
  rw [u64w (x := (Q.length : Int)) (by omega) (by omega), pow_sub (by omega)]
  refine evpos (by omega) (evsome (sin_eq _ _ _) ?_)
  by_cases c : 0 ≤ s ∧ s ≤ ((2 ^ Q.length : Nat) : Int) - 1
  ·rw [show (if SetIn Q.length s then (0 : Int) else 2) = 0 from if_pos c]; exact evpos (decide_eq_true c) (evc rfl)
  ·rw [show (if SetIn Q.length s then (0 : Int) else 2) = 2 from if_neg c]; exact evneg (by simpa using c) (evc rfl)
 ·rw [if_neg p]
  exact evneg (by simpa using p) (evc rfl)
theorem code_zero {M : List (List Int)} {Q : List Int} {s : Int} (c0 : codeS M Q s = 0) : POK M Q ∧ SetIn Q.length s := by
 classical
 unfold codeS at c0
 by_cases p : POK M Q
 ·rw [if_pos p] at c0
  by_cases z : SetIn Q.length s
  ·exact ⟨p, z⟩
  ·rw [if_neg z] at c0; omega
 ·rw [if_neg p] at c0; omega
noncomputable def pvO (M : List (List Int)) (Q : List Int) (s : Int) : Int × List (List Int) × List Int × Int := if codeS M Q s = 0 then (if det M.length (Cm s M) = 0 then (0, [], [], 5) else (ab (det M.length (Cm s M)), pvR M.length M s, pvS M.length M s Q, 0)) else (0, [], [], codeS M Q s)
theorem impl_pivotOf_eq (M : List (List Int)) (Q : List Int) (s : Int) : Ev (fun k => impl_pivotOf.f k M Q s) (pvO M Q s) := by
 unfold impl_pivotOf.f pvO
 refine evsome (impl_code M Q s) ?_
 by_cases c : codeS M Q s = 0
 ·rw [if_pos c]
  refine evpos c ?_
  obtain ⟨p, hs⟩ := code_zero c
  have e := impl_pivot p.mat.sq p.mat.n5 s Q p.len (POK.small p) p.mat.n1 (POK.rows p)
  unfold pvA at e
  by_cases d : det M.length (Cm s M) = 0
  ·rw [if_pos d] at e ⊢
   exact evbind e (evneg (by simp) (evc rfl))
  ·rw [if_neg d] at e ⊢
   exact evbind e (evpos rfl (evc rfl))
 ·rw [if_neg c]
  exact evneg c (evc rfl)
end Go.Proofs.Ythdoilfjcgickaa.Pp
end
section
namespace Go.Proofs.Ythdoilfjcgickaa.Pp
open Go.RowKit Go.Proofs.YthdoilfjcgickaaW.PrintWords Go.Proofs.YthdoilfjcgickaaW.PrintMore Go.Proofs.Ythdoilfjcgickaa.Ma Go.Proofs.Ythdoilfjcgickaa.Pr Go.Proofs.Ythdoilfjcgickaa.Dt Go.Proofs.Ythdoilfjcgickaa.Bz Go.Proofs.Ythdoilfjcgickaa.Un Go.Proofs.Ythdoilfjcgickaa.Cz Go.Proofs.Ythdoilfjcgickaa.Pb Go.Proofs.Ythdoilfjcgickaa.Mn Go.Proofs.Ythdoilfjcgickaa.Sv Go.Proofs.Ythdoilfjcgickaa.Pv Go.Proofs.Ythdoilfjcgickaa.La Go.Proofs.Ythdoilfjcgickaa.Hm
def nb (s : Int) (i : Nat) : Bool := !bB s i
theorem sel_succ (P : Nat → Bool) (i : Nat) : sel (i + 1) P = if P i = true then sel i P ++ [i] else sel i P := by
 unfold sel; rw [List.range_succ, List.filter_append]
 by_cases b : P i = true
 ·simp [b]
 ·simp [b]
theorem sel_len (P : Nat → Bool) (i : Nat) : (sel i P).length ≤ i := by unfold sel; have := List.length_filter_le P (List.range i); simpa using this
theorem sel_congr {n : Nat} {P Q : Nat → Bool} (h : ∀ i, i < n → P i = Q i) : sel n P = sel n Q := by
 unfold sel
 refine List.filter_congr (fun i hi => h i (List.mem_range.1 hi))
theorem bB_rest {n : Nat} (hn : n ≤ 5) {s : Int} (hs : SetIn n s) {i : Nat} (hi : i < n) : bB (((2 ^ n : Nat) : Int) - 1 - s) i = nb s i := by
 obtain ⟨k, rfl⟩ := Int.eq_ofNat_of_zero_le hs.1
 have h1 := hs.2
 have hp : 1 ≤ 2 ^ n := Nat.one_le_two_pow
 have hk : k < 2 ^ n := by omega
 rw [show ((2 ^ n : Nat) : Int) - 1 - (k : Int) = ((2 ^ n - (k + 1) : Nat) : Int) from by omega]
 unfold nb
 rw [bB_nat _ _ (by omega), bB_nat _ _ (by omega), Nat.testBit_two_pow_sub_succ hk]
 simp [hi]
theorem partL_len (R : List (List Int)) (I J : List Nat) : (partL R I J).length = I.length := by simp [partL]
section
variable {n : Nat} (hn : n ≤ 5) (R : List (List Int)) (hR : R.length = n) (hr : ∀ i, i < n → (R.getD i []).length = n) (s : Int)
include hn hR hr
theorem spec_rest (M : List (List Int)) (Q : List Int) (hQ : Q.length = n) (den : Int) (S : List Int) : ∀ q i, i + q = n → Ev (fun k => spec_ComplementOf.l0 k s (partL R (sel i (nb s)) (sel n (nb s))) (i : Int) M Q den R S) (partL R (sel n (nb s)) (sel n (nb s)), den, 0) := by
 intro q
 induction q with
 | zero =>
  intro i hi
  obtain rfl : i = n := by omega
  exact evstep (fun k => by rw [spec_ComplementOf.l0]) (evneg (by omega) (evc rfl))
 | succ q ih =>
  intro i hi
  have nx := ih (i + 1) (by omega)
  rw [sel_succ] at nx
  have hu (j : Nat) (hj : j < n) : IntKind.u64.wrap (j : Int) = (j : Int) := u64w (by omega) (by omega)
  refine evstep (fun k => by rw [spec_ComplementOf.l0]) (evpos (by omega) (evpos (by rw [hu i (by omega)]; omega) ?_))
  rw [hu i (by omega), shr_and_one s (by omega), w64 (x := (i : Int) + 1) (by omega) (by omega)]
  have hl := hr i (by omega)
  cases hb : bB s i with
  | true =>
   rw [if_neg (by simp [nb, hb])] at nx
   exact evpos (by simp) nx
  | false =>
   rw [if_pos (by simp [nb, hb])] at nx
   refine evneg (by simp) ?_
   have cols : ∀ p c, c + p = n → Ev (fun k => spec_ComplementOf.l1 k s (partL R (sel i (nb s)) (sel n (nb s))) (i : Int) ((sel c (nb s)).map fun j => en R i j) (c : Int) M Q den R S) (partL R (sel n (nb s)) (sel n (nb s)), den, 0) := by
    intro p
    induction p with
    | zero =>
     intro c hc
     obtain rfl : c = n := by omega
     refine evstep (fun k => by rw [spec_ComplementOf.l1]) (evneg (by omega) (evpos ?_ ?_))
     ·rw [partL_len]; have := sel_len (nb s) i; omega
     ·rw [w64 (x := (i : Int) + 1) (by omega) (by omega)]
      unfold partL at nx ⊢
      rw [List.map_append] at nx
      exact nx
    | succ p ihp =>
     intro c hc
     have nx2 := ihp (c + 1) (by omega)
     rw [sel_succ] at nx2
     refine evstep (fun k => by rw [spec_ComplementOf.l1]) (evpos (by omega) (evpos (by rw [hu c (by omega)]; omega) ?_))
     rw [hu c (by omega), shr_and_one s (by omega), w64 (x := (c : Int) + 1) (by omega) (by omega), rdL1]
     cases hb2 : bB s c with
     | true =>
      rw [if_neg (by simp [nb, hb2])] at nx2
      exact evneg (by simp) nx2
     | false =>
      rw [if_pos (by simp [nb, hb2]), List.map_append] at nx2
      refine evpos (by simp) (evpos (by omega) (evpos (by omega) (evpos (by omega) (evpos (by omega) (evpos (by rw [List.length_map]; have := sel_len (nb s) c; omega) ?_)))))
      rw [rd_nat]
      exact nx2
   exact cols n 0 (by omega)
end
theorem partL_few {n : Nat} (hn : n ≤ 5) (R : List (List Int)) (P : Nat → Bool) : Few (partL R (sel n P) (sel n P)) := by
 have := sel_len P n
 refine ⟨by rw [partL_len]; omega, fun x hx => ?_⟩
 unfold partL at hx
 obtain ⟨i, hi, rfl⟩ := List.mem_map.1 hx
 rw [List.length_map]; omega
theorem pvR_getD {n i : Nat} (hi : i < n) (l : List (List Int)) (s : Int) : ((pvR n l s).getD i []).length = n := by
 have e := pvR_len n l s
 rw [List.getD_eq_getElem?_getD, List.getElem?_eq_getElem (by omega)]
 exact pvR_row n l s _ (List.getElem_mem (by omega))
theorem complement (M : List (List Int)) (Q : List Int) (s : Int) (hQ : Q.length ≤ 1048576) : ∃ R : List (List Int) × Int × Int, Ev (fun k => spec_ComplementOf.f k M Q s) R ∧ Ev (fun k => impl_ComplementOf.f k M Q s) R ∧ Few R.1 := by
 have sc := spec_code M Q s hQ
 have ic := impl_code M Q s
 have ip := impl_pivotOf_eq M Q s
 unfold impl_ComplementOf.f spec_ComplementOf.f
 by_cases c : codeS M Q s = 0
 ·obtain ⟨p, hs⟩ := code_zero c
  have hq := p.len; have h5 := p.mat.n5
  have sp := spec_pivot p.mat.sq p.mat.n5 s Q p.len (POK.small p)
  have hu : IntKind.u64.wrap (Q.length : Int) = (Q.length : Int) := u64w (by omega) (by omega)
  have ei : wrap64 (shl .i64 1 (Q.length : Int) - 1) = ((2 ^ Q.length : Nat) : Int) - 1 := pow_sub (by omega)
  have ea : impl_Problem_all.f M Q = some (shl .i64 1 (Q.length : Int)) := by unfold impl_Problem_all.f; rfl
  have hpw : 1 ≤ 2 ^ Q.length := Nat.one_le_two_pow
  have hp5 : 2 ^ Q.length ≤ 2 ^ 5 := Nat.pow_le_pow_right (by decide) (by omega)
  by_cases z : s = ((2 ^ Q.length : Nat) : Int) - 1
  ·refine ⟨([], 0, 2), evbind sc (evpos c (evpos (by omega) ?_)), evsome ic (evpos c (evsome ea ?_)), Few.nil⟩
   ·rw [hu, ei]
    refine evstep (fun k => by rw [spec_ComplementOf.j0]) ?_
    refine evpos (by simp [z]) ?_
    refine evstep (fun k => by rw [spec_ComplementOf.j1]) ?_
    exact evneg (by decide) (evc rfl)
   ·rw [ei]
    exact evpos z (evc rfl)
  ·have sj (Z : List (List Int) × Int × Int) (hZ : Ev (fun k => spec_ComplementOf.j1 k s 0 M Q) Z) : Ev (fun k => (spec_l02Code.f k M Q s).bind fun t541 => (if t541 = 0 then (if 0 ≤ (IntKind.u64.wrap ((Q.length : Int))) then (spec_ComplementOf.j0 k s t541 (s == (wrap64 ((shl .i64 1 (IntKind.u64.wrap ((Q.length : Int)))) - 1))) M Q) else (none)) else (spec_ComplementOf.j0 k s t541 false M Q))) Z := by
    refine evbind sc (evpos c (evpos (by omega) ?_))
    rw [hu, ei, c]
    refine evstep (fun k => by rw [spec_ComplementOf.j0]) ?_
    exact evneg (by simpa using z) hZ
   unfold pvO at ip
   rw [if_pos c] at ip
   unfold pvA at sp
   by_cases d : det M.length (Cm s M) = 0
   ·rw [if_pos d] at ip sp
    refine ⟨([], 0, 5), sj _ ?_, evsome ic (evpos c (evsome ea ?_)), Few.nil⟩
    ·refine evstep (fun k => by rw [spec_ComplementOf.j1]) ?_
     exact evpos rfl (evbind sp (evneg (by simp) (evc rfl)))
    ·rw [ei]
     exact evneg z (evbind ip (evneg (by simp) (evc rfl)))
   ·rw [if_neg d] at ip sp
    refine ⟨(partL (pvR M.length M s) (sel M.length (nb s)) (sel M.length (nb s)), ab (det M.length (Cm s M)), 0), sj _ ?_, evsome ic (evpos c (evsome ea ?_)), partL_few h5 _ _⟩
    ·refine evstep (fun k => by rw [spec_ComplementOf.j1]) ?_
     refine evpos rfl (evbind sp (evpos rfl ?_))
     exact spec_rest h5 (pvR M.length M s) (pvR_len _ _ _) (fun i hi => pvR_getD hi M s) s M Q hq (ab (det M.length (Cm s M))) (pvS M.length M s Q) M.length 0 (by omega)
    ·rw [ei]
     refine evneg z (evbind ip (evpos rfl (evsome ea ?_)))
     rw [ei]
     have h2 := hs.2; have h0 := hs.1
     have ew : wrap64 (((2 ^ Q.length : Nat) : Int) - 1 - s) = ((2 ^ Q.length : Nat) : Int) - 1 - s := w64 (by omega) (by omega)
     rw [ew]
     have ht := impl_part_eq' h5 (pvR_len M.length M s) (fun i hi => pvR_getD hi M s) (((2 ^ Q.length : Nat) : Int) - 1 - s)
     rw [show sel M.length (bB (((2 ^ Q.length : Nat) : Int) - 1 - s)) = sel M.length (nb s) from sel_congr (fun i hi => bB_rest (n := Q.length) (by omega) hs (by omega))] at ht
     exact evbind ht (evc rfl)
 ·refine ⟨([], 0, codeS M Q s), evbind sc (evneg c ?_), evsome ic (evneg c (evc rfl)), Few.nil⟩
  refine evstep (fun k => by rw [spec_ComplementOf.j0]) ?_
  refine evneg (by simp) ?_
  refine evstep (fun k => by rw [spec_ComplementOf.j1]) ?_
  exact evneg c (evc rfl)
end Go.Proofs.Ythdoilfjcgickaa.Pp
end
section
namespace Go.Proofs.Ythdoilfjcgickaa.Pure
open Go.RowKit Go.Proofs.YthdoilfjcgickaaW.PrintWords Go.Proofs.YthdoilfjcgickaaW.PrintMore Go.Proofs.Ythdoilfjcgickaa.Ma Go.Proofs.Ythdoilfjcgickaa.Pr Go.Proofs.Ythdoilfjcgickaa.La Go.Proofs.Ythdoilfjcgickaa.Op
theorem FnExactComplementOf : Say.FnExactComplementOf := by
 intro M q s ga gb gs
 obtain ⟨t, ⟨k0, ht⟩, ht1, hf⟩ := szP2 ga gb
 by_cases c0 : t < 0
 ·refine ⟨k0, ?_⟩
  unfold laws_FnExactComplementOf.f
  rw [if_pos]
  exact .inr ⟨t, ht _ (Nat.le_refl _), c0⟩
 ·obtain ⟨ta, tb⟩ := hf (by omega)
  have fa := fit_of ta
  have fl := fit_lensP ta
  have al := fa.len
  obtain ⟨R, ⟨k1, e1⟩, ⟨k2, e2⟩, hR⟩ := Pp.complement M q s tb
  have hl := hR.small
  have hn := hR.len
  obtain ⟨k3, e3⟩ := toP fa tb
  obtain ⟨k5, e5⟩ := fit_eq hR.fit
  obtain ⟨k6, e6⟩ := eqPr (Q := q) fa (by omega)
  obtain ⟨k8, e8⟩ := heldSS R.1 1 (by omega) (by omega) (by omega)
  refine ⟨k0 + k1 + k2 + k3 + k5 + k6 + k8, ?_⟩
  unfold laws_FnExactComplementOf.f
  rw [if_pos]
  exact .inl ⟨t, R.1, R.2.1, R.2.2, _, _, ht _ (by omega), c0, e3 _ (by omega), e1 _ (by omega), e2 _ (by omega), e5 _ (by omega), e6 _ (by omega), rfl, by omega, by omega, by omega, rfl, by omega, by omega, by omega, e8 _ (by omega)⟩
end Go.Proofs.Ythdoilfjcgickaa.Pure
end
section
namespace Go.Proofs.Ythdoilfjcgickaa.fnExactComplementOf
open Go.ChangeShapes Go.WideShapes Go.ChangeAt Go.RowKit Go.Proofs.Ythdoilfjcgickaa.Op Go.Proofs.YthdoilfjcgickaaW.PrintWords
theorem own : ownKnob Try.prog.godebug = none := by kernel_rfl
theorem laidOut : laidOutB Try.prog = true := by kernel_rfl
theorem lifted (os : Os) (started : os.Started) (H : Type) (enc : TypeId × Value → H) :
  ReturnsInHanded {} Try.checked os 5 .any (Rows.fnExactComplementOfSpec.pre6 enc Try.prog Try.f5 Rows.fnExactComplementOfRow.domain false) (Rows.fnExactComplementOfSpec.post enc Try.prog Try.f5 false true false false) := by
 refine returnsInHanded_of_change_sized (C := Try.checked) own started (by kernel_rfl) Try.func5
  (ChangeSpec.witness6 (enc := enc) (C := Try.checked) false ⟨#[], #[.agg #[.slice none 0 0, .slice none 0 0], .int .i64 0], []⟩ 8 (by kernel_rfl) (by kernel_rfl) (by kernel_rfl) (by kernel_rfl)) ?_
 intro W base args ds gs before hval0 hW hcnd hsz0 _
 have hval : ∀ (j : Nat) t v, Try.f5.params[j]? = some t → args[j]? = some v → Value.okWide Try.prog W .any base t v := hval0
 have hW' := hW
 obtain ⟨p, q, hA0, hV, rfl, hfz, hnd⟩ := hW
 have hA : DataW.TrodAll enc Try.prog W 0 (fun _ => true) true Try.f5.params.toList args.toList ds p := hA0
 rw [Try.params5] at hA hval
 obtain ⟨v0, vs0, d0, ds0, p0, q0, hargs, rfl, rfl, h0, r0⟩ := trodAll_cons hA
 obtain ⟨v1, vs1, d1, ds1, p1, q1, rfl, rfl, rfl, h1, r1⟩ := trodAll_cons r0
 obtain ⟨rfl, rfl, rfl⟩ := trodAll_nil r1
 obtain rfl : args = #[v0, v1] := by cases args; simp_all
 obtain ⟨rfl, rfl⟩ := trodVars_none hV
 have k0 := h0
 have lt0 := trod_blocks k0
 obtain ⟨⟨x0_0, x0_1⟩, cs0, rfl, hk0, g0⟩ := arg_struct Try.underlying25 (opens_struct2 Try.underlying25 ⟨by kernel_rfl, by kernel_rfl⟩ ⟨by kernel_rfl, by kernel_rfl⟩ (by kernel_rfl) (opens_slice Try.underlying22 (by kernel_rfl) (opens_slice Try.underlying23 (by kernel_rfl) (opens_int Try.underlying2))) (opens_slice Try.underlying23 (by kernel_rfl) (opens_int Try.underlying2)) id (Kd.pair (Kd.slice 23 (Kd.slice 2 (Kd.int .i64))) (Kd.slice 2 (Kd.int .i64))) (fun _ _ _ h => h) (fun x => (GoodList (GoodList (GoodInt .i64))) x.1 ∧ (GoodList (GoodInt .i64)) x.2) (fun _ h0 h1 => ⟨h0, h1⟩)) (hval 0 25 v0 rfl rfl) h0
 obtain ⟨A0_0, c0_0, A0_1, c0_1, rfl, q0_0, r0_0, q0_1, r0_1⟩ := cells_slice_slice hk0
 have k1 := h1
 have lt1 := trod_blocks k1
 obtain ⟨a1, rfl, rfl, rfl, g1⟩ := open_int Try.underlying2 (hval 1 2 v1 rfl rfl) h1
 obtain ⟨k, h⟩ := Pure.FnExactComplementOf x0_0 x0_1 a1 g0.1 g0.2 g1
 clear hA0 hval0 hsz0
 refine (Pr.laws_FnExactComplementOf.calls k A0_0 c0_0 x0_0 A0_1 c0_1 x0_1 a1 true W r0_0 q0_0 r0_1 q0_1 h).mono ?_
 rintro e W' ⟨rfl, bel0⟩
 have bel : Below W.heap.size W W' := by first | exact bel0 | exact bel0.below
 exact ⟨_, rfl, _, _, _, [], _, [], hW', trodAll_mk1 (shut_bool Try.underlying4 _), (trodAll_cons_mk (Below.trod laidOut (by kernel_rfl) (of_decide_eq_true (by kernel_rfl)) k0 bel lt0) (trodAll_cons_mk (Below.trod laidOut (by kernel_rfl) (of_decide_eq_true (by kernel_rfl)) k1 bel lt1) trodAll_mk0)), rfl, bel.frame _, fun h => by cases h⟩
theorem over : Rows.fnExactComplementOfRow.holds Try.pinned (OpenSpec.ofChange Rows.fnExactComplementOfSpec) :=
 OpenClaim.holds_of_wide 5 Try.f5 rfl rfl rfl rfl rfl rfl rfl ⟨rfl, rfl, rfl, rfl, rfl⟩ rfl rfl rfl rfl rfl (by kernel_rfl) Try.func5 (by kernel_rfl)
  (of_decide_eq_true (by kernel_rfl)) (by unfold Func.isWrapper; first | (rw [if_pos (by decide +kernel)]; kernel_rfl) | (rw [if_neg (by decide +kernel)]; exact ⟨rfl, rfl⟩))
  (fun os started H enc _ => lifted os started H enc)
theorem proved : Rows.FnExactComplementOfSaid := over
#print axioms proved
end Go.Proofs.Ythdoilfjcgickaa.fnExactComplementOf
namespace Go.Proofs.Ythdoilfjcgickaa
theorem fnExactComplementOf_holds : Rows.FnExactComplementOfSaid := fnExactComplementOf.proved
end Go.Proofs.Ythdoilfjcgickaa
end
