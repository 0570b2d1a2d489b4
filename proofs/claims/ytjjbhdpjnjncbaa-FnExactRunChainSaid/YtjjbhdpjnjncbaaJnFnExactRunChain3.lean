/- Texts of one claim (the words of the kit's print that the claim uses, printed functions, and this session's own texts), joined in the order of their imports by this session's own program (merge.py). -/
import Derived.Test.YtjjbhdpjnjncbaaRows
import Derived.WalkKit
import Derived.ProofKit
import Derived.OpenShut
import Derived.ShutString
import Derived.ChangeOld
import Derived.Below
import Derived.SizedLaws
import Derived.Test.YtjjbhdpjnjncbaaJnFnExactRunChain0
import Derived.Test.YtjjbhdpjnjncbaaJnFnExactRunChain1
import Derived.Test.YtjjbhdpjnjncbaaJnFnExactRunChain2
set_option linter.unusedVariables false
set_option linter.unusedSimpArgs false
set_option maxHeartbeats 8000000
set_option maxRecDepth 100000
section
namespace Go.Proofs.Ytjjbhdpjnjncbaa.Pr
open Go.RowKit Go.Proofs.YtjjbhdpjnjncbaaW.PrintWords Go.Proofs.YtjjbhdpjnjncbaaW.PrintLast Go.Proofs.YtjjbhdpjnjncbaaW.PrintMore Go.Proofs.Ytjjbhdpjnjncbaa.La Go.Proofs.Ytjjbhdpjnjncbaa.Hm Go.Proofs.Ytjjbhdpjnjncbaa.Lw
theorem laws_FnExactRunChain.walk (k : Nat) (A0_0 : Option Addr) (c0_0 : Nat) (l0_0 : List (List Int)) (A0_1 : Option Addr) (c0_1 : Nat) (l0_1 : List Int) (A1 : Option Addr) (c1 : Nat) (l1 : List Int) (t22 : Int) (s0 : List Int) (s1 : Int) (m1 : Int) (m2 : Int) (m3 : Int) (w : World) (hr0_0 : Kd.C (Kd.slice 2 (Kd.int .i64)) w A0_0 l0_0.length l0_0) (hc0_0 : l0_0.length ≤ c0_0) (hr0_1 : Kd.C (Kd.int .i64) w A0_1 l0_1.length l0_1) (hc0_1 : l0_1.length ≤ c0_1) (hr1 : Kd.C (Kd.int .i64) w A1 l1.length l1) (hc1 : l1.length ≤ c1) (h1 : ¬ (l1.length : Int) > 1048576) (h2 : laws_szProblem.f k l0_0 l0_1 1048576 = some t22) (h3 : ¬ t22 < 0) (h4 : laws_toProblem.f k l0_0 l0_1 = some (l0_0, l0_1)) (h5 : laws_toInt64S.f k l1 = some l1) (h6 : spec_RunChain.f k l0_0 l0_1 l1 = some (s0, s1)) (h7 : impl_RunChain.f k l0_0 l0_1 l1 = some (s0, s1)) (h8 : laws_eqInt64S.f k s0 s0 = some true) (h9 : laws_eqProblem.f k l0_0 l0_1 l0_0 l0_1 = some true) (h10 : laws_eqInt64S.f k l1 l1 = some true) (h11 : m1 = 1 + (lens l0_0 : Int) + (l0_1.length : Int)) (h12 : 1 + (lens l0_0 : Int) + (l0_1.length : Int) ≤ 1099511627776) (h13 : l0_0.length ≤ 1099511627776) (h14 : ¬ m1 < 0) (h15 : 0 ≤ m1) (h16 : m2 = m1 + (l1.length : Int)) (h17 : m1 + (l1.length : Int) ≤ 1099511627776) (h18 : ¬ m2 < 0) (h19 : m3 = 1 + (s0.length : Int)) (h20 : 1 + (s0.length : Int) ≤ 1099511627776) (h21 : ¬ m3 < 0) (h22 : laws_heldInt64S.f k ((count 1 s0.length)) 1 = some m3) :
  Calls Try.prog 7 #[.agg #[.slice A0_0 l0_0.length c0_0, .slice A0_1 l0_1.length c0_1], .slice A1 l1.length c1] w fun e w' => e = .returned (.bool true) ∧ Below w.heap.size w w' := by
 have HR0_0 := Aside0.mk hr0_0
 have HC0_0 := Aside0.mk hc0_0
 clear hr0_0 hc0_0
 have HR0_1 := Aside0.mk hr0_1
 have HC0_1 := Aside0.mk hc0_1
 clear hr0_1 hc0_1
 have HR1 := Aside0.mk hr1
 have HC1 := Aside0.mk hc1
 clear hr1 hc1
 have HB := Aside0.mk (Below.refl w.heap.size w)
 have H2' := Aside0.mk h2
 clear h2
 have H4' := Aside0.mk h4
 clear h4
 have H5' := Aside0.mk h5
 clear h5
 have H6' := Aside0.mk h6
 clear h6
 have H7' := Aside0.mk h7
 clear h7
 have H8' := Aside0.mk h8
 clear h8
 have H9' := Aside0.mk h9
 clear h9
 have H10' := Aside0.mk h10
 clear h10
 have H11' := Aside0.mk h11
 clear h11
 have H12' := Aside0.mk h12
 clear h12
 have H13' := Aside0.mk h13
 clear h13
 have H15' := Aside0.mk h15
 clear h15
 have H16' := Aside0.mk h16
 clear h16
 have H17' := Aside0.mk h17
 clear h17
 have H19' := Aside0.mk h19
 clear h19
 have H20' := Aside0.mk h20
 clear h20
 have H22' := Aside0.mk h22
 clear h22
 go_enter Try.func7, Try.ntmps7
 go_wp2_with (first | ((with_reducible refine gate_dst (N := 2) rfl ?_); refine box_event ?hg (N := 2) ?hd (cs := #[.slice A0_0 l0_0.length c0_0, .slice A0_1 l0_1.length c0_1]) (t := 52) ?hr ?_; (case hd => rfl); (case hg => rfl); (case hr => first | (go_simp; done) | (go_simp; rfl)); intro g2 hg w1 hbox hb; have Gg2 : Aside0 (g2 = w.heap.size) := ⟨hg⟩; have Kg2 := Aside0.mk (blk_lt hbox); clear hg; have n_HB := Aside0.mk (below_step HB.out hb); have NN1 : Aside0 (w.heap.size ≤ w1.heap.size) := ⟨hb.size⟩; clear HB; have HB := n_HB; clear n_HB; have Bg2 := Aside0.mk hbox; clear hb hbox; have hc2_0 : w1.cell? ⟨g2, 0, none⟩ = some (.slice A0_0 l0_0.length c0_0) := (blk_cell Bg2.out 0).trans rfl; have hf2_0 := blk_frozen Bg2.out 0; have hc2_1 : w1.cell? ⟨g2, 1, none⟩ = some (.slice A0_1 l0_1.length c0_1) := (blk_cell Bg2.out 1).trans rfl; have hf2_1 := blk_frozen Bg2.out 1) | ((with_reducible refine gate_callee (f := 37) rfl ?_); refine goesL_ (some 22) rfl rfl Try.func37 (by kernel_rfl) rfl #[.agg #[.slice A0_0 l0_0.length c0_0, .slice A0_1 l0_1.length c0_1], .int .i64 1048576] rfl (by (try simp only [List.map_toArray, List.map_cons, List.map_nil]); first | done | rfl) ?_; refine (laws_szProblem.calls k _ _ l0_0 _ _ l0_1 1048576 t22 _ ?s1 ?s2 ?s3 ?s4 H2'.out).mono ?_; (case s1 => exact Kd.C_below HR0_0.out HB.out); (case s2 => exact HC0_0.out); (case s3 => exact Kd.C_below HR0_1.out HB.out); (case s4 => exact HC0_1.out); rintro e w2 ⟨rfl, hb⟩; refine ⟨_, rfl, ?_⟩; have n_Bg2 := Aside0.mk (blk_below Bg2.out hb); have n_HB := Aside0.mk (below_step HB.out hb); have NN2 : Aside0 (w1.heap.size ≤ w2.heap.size) := ⟨hb.size⟩; clear hc2_0 hf2_0; clear hc2_1 hf2_1; clear Bg2 HB; have Bg2 := n_Bg2; have HB := n_HB; clear n_Bg2 n_HB; clear hb; have hc2_0 : w2.cell? ⟨g2, 0, none⟩ = some (.slice A0_0 l0_0.length c0_0) := (blk_cell Bg2.out 0).trans rfl; have hf2_0 := blk_frozen Bg2.out 0; have hc2_1 : w2.cell? ⟨g2, 1, none⟩ = some (.slice A0_1 l0_1.length c0_1) := (blk_cell Bg2.out 1).trans rfl; have hf2_1 := blk_frozen Bg2.out 1) | ((with_reducible refine gate_callee (f := 39) rfl ?_); refine goesL_ (some 27) rfl rfl Try.func39 (by kernel_rfl) rfl #[.agg #[.slice A0_0 l0_0.length c0_0, .slice A0_1 l0_1.length c0_1]] rfl (by (try simp only [List.map_toArray, List.map_cons, List.map_nil]); first | done | rfl) ?_; refine (laws_toProblem.calls k _ _ l0_0 _ _ l0_1 l0_0 l0_1 _ ?s1 ?s2 ?s3 ?s4 H4'.out).mono ?_; (case s1 => exact Kd.C_below HR0_0.out HB.out); (case s2 => exact HC0_0.out); (case s3 => exact Kd.C_below HR0_1.out HB.out); (case s4 => exact HC0_1.out); rintro e w3 ⟨v27_0, v27_1, rfl, ho0, ho1, hb⟩; refine ⟨_, rfl, ?_⟩; have nu0 := Aside0.mk (UP.of ho0 ho1 HB.out.size); have n_Bg2 := Aside0.mk (blk_below Bg2.out hb); have n_HB := Aside0.mk (below_step HB.out hb); have NN3 : Aside0 (w2.heap.size ≤ w3.heap.size) := ⟨hb.size⟩; clear hc2_0 hf2_0; clear hc2_1 hf2_1; clear Bg2 HB; have Bg2 := n_Bg2; have HB := n_HB; clear n_Bg2 n_HB; clear hb ho0 ho1; have U27 := nu0; clear nu0; obtain ⟨A27_0, c27_0, A27_1, c27_1, e0, e1⟩ := U27.out.slices; subst e0; subst e1) | ((with_reducible refine gate_callee (f := 40) rfl ?_); refine goesL_ (some 29) rfl rfl Try.func40 (by kernel_rfl) rfl #[.slice A1 l1.length c1] rfl (by (try simp only [List.map_toArray, List.map_cons, List.map_nil]); first | done | rfl) ?_; refine (laws_toInt64S.calls k _ _ l1 l1 _ ?s1 ?s2 H5'.out).mono ?_; (case s1 => exact Kd.C_below HR1.out HB.out); (case s2 => exact HC1.out); rintro e w4 ⟨v29_0, rfl, ho0, hb⟩; refine ⟨_, rfl, ?_⟩; have nu0 := Aside0.mk (UR.of ho0 HB.out.size); have n_U27 := Aside0.mk (U27.out.mvB (Frm.below hb)); have n_Bg2 := Aside0.mk (blk_below Bg2.out hb); have n_HB := Aside0.mk (below_step HB.out hb); have NN4 : Aside0 (w3.heap.size ≤ w4.heap.size) := ⟨hb.size⟩; clear U27 Bg2 HB; have U27 := n_U27; have Bg2 := n_Bg2; have HB := n_HB; clear n_U27 n_Bg2 n_HB; clear hb ho0; have U29_0 := nu0; clear nu0; obtain ⟨A29_0, c29_0, e0⟩ := Kd.R_slice U29_0.out; subst e0) | ((with_reducible refine gate_callee (f := 38) rfl ?_); refine goesL_ (some 30) rfl rfl Try.func38 (by kernel_rfl) rfl #[.agg #[.slice A27_0 l0_0.length c27_0, .slice A27_1 l0_1.length c27_1], .slice A29_0 l1.length c29_0] rfl (by (try simp only [List.map_toArray, List.map_cons, List.map_nil]); first | done | rfl) ?_; refine (spec_RunChain.calls k _ _ l0_0 _ _ l0_1 _ _ l1 s0 s1 _ ?s1 ?s2 ?s3 ?s4 ?s5 ?s6 H6'.out).mono ?_; (case s1 => exact U27.out.C0); (case s2 => exact U27.out.cap0); (case s3 => exact U27.out.C1); (case s4 => exact U27.out.cap1); (case s5 => exact UR.C U29_0.out); (case s6 => exact UR.cap U29_0.out); rintro e w5 ⟨v30_0, rfl, ho0, hb⟩; refine ⟨_, rfl, ?_⟩; have nu0 := Aside0.mk (UR.of ho0 HB.out.size); have n_U27 := Aside0.mk (U27.out.mvB (Frm.below hb)); have n_U29_0 := Aside0.mk (U29_0.out.mvB (Frm.below hb)); have n_Bg2 := Aside0.mk (blk_below Bg2.out hb); have n_HB := Aside0.mk (below_step HB.out hb); have NN5 : Aside0 (w4.heap.size ≤ w5.heap.size) := ⟨hb.size⟩; clear U27 U29_0 Bg2 HB; have U27 := n_U27; have U29_0 := n_U29_0; have Bg2 := n_Bg2; have HB := n_HB; clear n_U27 n_U29_0 n_Bg2 n_HB; clear hb ho0; have U30_0 := nu0; clear nu0; obtain ⟨A30_0, c30_0, e0⟩ := Kd.R_slice U30_0.out; subst e0; have hc2_0 : w5.cell? ⟨g2, 0, none⟩ = some (.slice A0_0 l0_0.length c0_0) := (blk_cell Bg2.out 0).trans rfl; have hf2_0 := blk_frozen Bg2.out 0; have hc2_1 : w5.cell? ⟨g2, 1, none⟩ = some (.slice A0_1 l0_1.length c0_1) := (blk_cell Bg2.out 1).trans rfl; have hf2_1 := blk_frozen Bg2.out 1) | ((with_reducible refine gate_callee (f := 39) rfl ?_); refine goesL_ (some 34) rfl rfl Try.func39 (by kernel_rfl) rfl #[.agg #[.slice A0_0 l0_0.length c0_0, .slice A0_1 l0_1.length c0_1]] rfl (by (try simp only [List.map_toArray, List.map_cons, List.map_nil]); first | done | rfl) ?_; refine (laws_toProblem.calls k _ _ l0_0 _ _ l0_1 l0_0 l0_1 _ ?s1 ?s2 ?s3 ?s4 H4'.out).mono ?_; (case s1 => exact Kd.C_below HR0_0.out HB.out); (case s2 => exact HC0_0.out); (case s3 => exact Kd.C_below HR0_1.out HB.out); (case s4 => exact HC0_1.out); rintro e w6 ⟨v34_0, v34_1, rfl, ho0, ho1, hb⟩; refine ⟨_, rfl, ?_⟩; have nu0 := Aside0.mk (UP.of ho0 ho1 HB.out.size); have n_U27 := Aside0.mk (U27.out.mvB (Frm.below hb)); have n_U29_0 := Aside0.mk (U29_0.out.mvB (Frm.below hb)); have n_U30_0 := Aside0.mk (U30_0.out.mvB (Frm.below hb)); have n_Bg2 := Aside0.mk (blk_below Bg2.out hb); have n_HB := Aside0.mk (below_step HB.out hb); have NN6 : Aside0 (w5.heap.size ≤ w6.heap.size) := ⟨hb.size⟩; clear hc2_0 hf2_0; clear hc2_1 hf2_1; clear U27 U29_0 U30_0 Bg2 HB; have U27 := n_U27; have U29_0 := n_U29_0; have U30_0 := n_U30_0; have Bg2 := n_Bg2; have HB := n_HB; clear n_U27 n_U29_0 n_U30_0 n_Bg2 n_HB; clear hb ho0 ho1; have U34 := nu0; clear nu0; obtain ⟨A34_0, c34_0, A34_1, c34_1, e0, e1⟩ := U34.out.slices; subst e0; subst e1) | ((with_reducible refine gate_dst (N := 8) rfl ?_); refine box_event ?hg (N := 8) ?hd (cs := #[.slice none 0 0, .slice none 0 0]) (t := 56) ?hr ?_; (case hd => rfl); (case hg => rfl); (case hr => first | (go_simp; done) | (go_simp; rfl)); intro g8 hg w7 hbox hb; have Gg8 : Aside0 (g8 = w6.heap.size) := ⟨hg⟩; have Kg8 := Aside0.mk (blk_lt hbox); clear hg; have n_U27 := Aside0.mk (U27.out.mvB (Frm.below hb)); have n_U29_0 := Aside0.mk (U29_0.out.mvB (Frm.below hb)); have n_U30_0 := Aside0.mk (U30_0.out.mvB (Frm.below hb)); have n_U34 := Aside0.mk (U34.out.mvB (Frm.below hb)); have n_Bg2 := Aside0.mk (blk_below Bg2.out hb); have n_HB := Aside0.mk (below_step HB.out hb); have NN7 : Aside0 (w6.heap.size ≤ w7.heap.size) := ⟨hb.size⟩; clear U27 U29_0 U30_0 U34 Bg2 HB; have U27 := n_U27; have U29_0 := n_U29_0; have U30_0 := n_U30_0; have U34 := n_U34; have Bg2 := n_Bg2; have HB := n_HB; clear n_U27 n_U29_0 n_U30_0 n_U34 n_Bg2 n_HB; have Bg8 := Aside0.mk hbox; clear hb hbox; have hc8_0 : w7.cell? ⟨g8, 0, none⟩ = some (.slice none 0 0) := (blk_cell Bg8.out 0).trans rfl; have hf8_0 := blk_frozen Bg8.out 0; have hc8_1 : w7.cell? ⟨g8, 1, none⟩ = some (.slice none 0 0) := (blk_cell Bg8.out 1).trans rfl; have hf8_1 := blk_frozen Bg8.out 1) | ((with_reducible refine gate_store (t := 56) (p := 8) rfl ?_); refine store_event (t := 56) (p := 8) (v := ?vo_w8) (w1 := ((w7.setCell ⟨g8, 0, none⟩ (.slice A34_0 l0_0.length c34_0)).setCell ⟨g8, 1, none⟩ (.slice A34_1 l0_1.length c34_1))) ?hg ?ho ?hn ?hr ?_; (case ho => rfl); (case hg => rfl); (case hn => rfl); (case hr => first | (go_simp; done) | (go_simp; rfl)); intro w8 hw; have hge : w.heap.size ≤ g8 := (by have := NN1.out; have := Gg2.out; have := Kg2.out; have := NN2.out; have := NN3.out; have := NN4.out; have := NN5.out; have := NN6.out; have := NN7.out; have := Gg8.out; have := Kg8.out; have := HB.out.size; omega); have hF : Frm w7 w8 g8 (g8 + 1) := (by rw [hw]; exact (Frm.trans (Frm.set _ _ _ _) (Frm.set _ _ _ _))); have nb := Aside0.mk (show w8.heap[g8]? = some (.cells #[.slice A34_0 l0_0.length c34_0, .slice A34_1 l0_1.length c34_1] 56 (0, 0)) from (by rw [hw]; exact (blk_put (blk_put Bg8.out 0 _ rfl) 1 _ rfl))); have n_U27 := Aside0.mk (U27.out.mv hF (by have := NN1.out; have := Gg2.out; have := Kg2.out; have := NN2.out; have := NN3.out; have := NN4.out; have := NN5.out; have := NN6.out; have := NN7.out; have := Gg8.out; have := Kg8.out; omega)); have n_U29_0 := Aside0.mk (U29_0.out.mv hF (by have := NN1.out; have := Gg2.out; have := Kg2.out; have := NN2.out; have := NN3.out; have := NN4.out; have := NN5.out; have := NN6.out; have := NN7.out; have := Gg8.out; have := Kg8.out; omega)); have n_U30_0 := Aside0.mk (U30_0.out.mv hF (by have := NN1.out; have := Gg2.out; have := Kg2.out; have := NN2.out; have := NN3.out; have := NN4.out; have := NN5.out; have := NN6.out; have := NN7.out; have := Gg8.out; have := Kg8.out; omega)); have n_U34 := Aside0.mk (U34.out.mv hF (by have := NN1.out; have := Gg2.out; have := Kg2.out; have := NN2.out; have := NN3.out; have := NN4.out; have := NN5.out; have := NN6.out; have := NN7.out; have := Gg8.out; have := Kg8.out; omega)); have n_Bg2 := Aside0.mk ((hF.same g2 (blk_lt Bg2.out) (by have := NN1.out; have := Gg2.out; have := Kg2.out; have := NN2.out; have := NN3.out; have := NN4.out; have := NN5.out; have := NN6.out; have := NN7.out; have := Gg8.out; have := Kg8.out; omega)).trans Bg2.out); have n_HB := Aside0.mk ((by rw [hw]; exact (below_set (below_set HB.out hge) hge) : Below w.heap.size w w8)); have NN8 : Aside0 (w7.heap.size ≤ w8.heap.size) := ⟨hF.size⟩; clear hc8_0 hf8_0; clear hc8_1 hf8_1; clear U27 U29_0 U30_0 U34 Bg2 HB; have U27 := n_U27; have U29_0 := n_U29_0; have U30_0 := n_U30_0; have U34 := n_U34; have Bg2 := n_Bg2; have HB := n_HB; clear n_U27 n_U29_0 n_U30_0 n_U34 n_Bg2 n_HB; clear Bg8; have Bg8 := nb; clear nb hF hge hw) | ((with_reducible refine gate_callee (f := 40) rfl ?_); refine goesL_ (some 36) rfl rfl Try.func40 (by kernel_rfl) rfl #[.slice A1 l1.length c1] rfl (by (try simp only [List.map_toArray, List.map_cons, List.map_nil]); first | done | rfl) ?_; refine (laws_toInt64S.calls k _ _ l1 l1 _ ?s1 ?s2 H5'.out).mono ?_; (case s1 => exact Kd.C_below HR1.out HB.out); (case s2 => exact HC1.out); rintro e w9 ⟨v36_0, rfl, ho0, hb⟩; refine ⟨_, rfl, ?_⟩; have nu0 := Aside0.mk (UR.of ho0 HB.out.size); have n_U27 := Aside0.mk (U27.out.mvB (Frm.below hb)); have n_U29_0 := Aside0.mk (U29_0.out.mvB (Frm.below hb)); have n_U30_0 := Aside0.mk (U30_0.out.mvB (Frm.below hb)); have n_U34 := Aside0.mk (U34.out.mvB (Frm.below hb)); have n_Bg2 := Aside0.mk (blk_below Bg2.out hb); have n_Bg8 := Aside0.mk (blk_below Bg8.out hb); have n_HB := Aside0.mk (below_step HB.out hb); have NN9 : Aside0 (w8.heap.size ≤ w9.heap.size) := ⟨hb.size⟩; clear U27 U29_0 U30_0 U34 Bg2 Bg8 HB; have U27 := n_U27; have U29_0 := n_U29_0; have U30_0 := n_U30_0; have U34 := n_U34; have Bg2 := n_Bg2; have Bg8 := n_Bg8; have HB := n_HB; clear n_U27 n_U29_0 n_U30_0 n_U34 n_Bg2 n_Bg8 n_HB; clear hb ho0; have U36_0 := nu0; clear nu0; obtain ⟨A36_0, c36_0, e0⟩ := Kd.R_slice U36_0.out; subst e0; have hc8_0 : w9.cell? ⟨g8, 0, none⟩ = some (.slice A34_0 l0_0.length c34_0) := (blk_cell Bg8.out 0).trans rfl; have hf8_0 := blk_frozen Bg8.out 0; have hc8_1 : w9.cell? ⟨g8, 1, none⟩ = some (.slice A34_1 l0_1.length c34_1) := (blk_cell Bg8.out 1).trans rfl; have hf8_1 := blk_frozen Bg8.out 1) | ((with_reducible refine gate_callee (f := 41) rfl ?_); refine goesL_ (some 40) rfl rfl Try.func41 (by kernel_rfl) rfl #[.agg #[.slice A34_0 l0_0.length c34_0, .slice A34_1 l0_1.length c34_1], .slice A36_0 l1.length c36_0] rfl (by (try simp only [List.map_toArray, List.map_cons, List.map_nil]); first | done | rfl) ?_; refine (impl_RunChain.calls k _ _ l0_0 _ _ l0_1 _ _ l1 s0 s1 _ ?s1 ?s2 ?s3 ?s4 ?s5 ?s6 H7'.out).mono ?_; (case s1 => exact U34.out.C0); (case s2 => exact U34.out.cap0); (case s3 => exact U34.out.C1); (case s4 => exact U34.out.cap1); (case s5 => exact UR.C U36_0.out); (case s6 => exact UR.cap U36_0.out); rintro e w10 ⟨v40_0, rfl, ho0, hb⟩; refine ⟨_, rfl, ?_⟩; have nu0 := Aside0.mk (UR.of ho0 HB.out.size); have n_U27 := Aside0.mk (U27.out.mvB (Frm.below hb)); have n_U29_0 := Aside0.mk (U29_0.out.mvB (Frm.below hb)); have n_U30_0 := Aside0.mk (U30_0.out.mvB (Frm.below hb)); have n_U34 := Aside0.mk (U34.out.mvB (Frm.below hb)); have n_U36_0 := Aside0.mk (U36_0.out.mvB (Frm.below hb)); have n_Bg2 := Aside0.mk (blk_below Bg2.out hb); have n_Bg8 := Aside0.mk (blk_below Bg8.out hb); have n_HB := Aside0.mk (below_step HB.out hb); have NN10 : Aside0 (w9.heap.size ≤ w10.heap.size) := ⟨hb.size⟩; clear hc8_0 hf8_0; clear hc8_1 hf8_1; clear U27 U29_0 U30_0 U34 U36_0 Bg2 Bg8 HB; have U27 := n_U27; have U29_0 := n_U29_0; have U30_0 := n_U30_0; have U34 := n_U34; have U36_0 := n_U36_0; have Bg2 := n_Bg2; have Bg8 := n_Bg8; have HB := n_HB; clear n_U27 n_U29_0 n_U30_0 n_U34 n_U36_0 n_Bg2 n_Bg8 n_HB; clear hb ho0; have U40_0 := nu0; clear nu0; obtain ⟨A40_0, c40_0, e0⟩ := Kd.R_slice U40_0.out; subst e0) | ((with_reducible refine gate_callee (f := 34) rfl ?_); refine goesL_ (some 45) rfl rfl Try.func34 (by kernel_rfl) rfl #[.slice A40_0 s0.length c40_0, .slice A30_0 s0.length c30_0] rfl (by (try simp only [List.map_toArray, List.map_cons, List.map_nil]); first | done | rfl) ?_; refine (laws_eqInt64S.calls k _ _ s0 _ _ s0 true _ ?s1 ?s2 ?s3 ?s4 H8'.out).mono ?_; (case s1 => exact UR.C U40_0.out); (case s2 => exact UR.cap U40_0.out); (case s3 => exact UR.C U30_0.out); (case s4 => exact UR.cap U30_0.out); rintro e w11 ⟨rfl, hb⟩; refine ⟨_, rfl, ?_⟩; have hb := hb.below; have n_U27 := Aside0.mk (U27.out.mvB (Frm.below hb)); have n_U29_0 := Aside0.mk (U29_0.out.mvB (Frm.below hb)); have n_U30_0 := Aside0.mk (U30_0.out.mvB (Frm.below hb)); have n_U34 := Aside0.mk (U34.out.mvB (Frm.below hb)); have n_U36_0 := Aside0.mk (U36_0.out.mvB (Frm.below hb)); have n_U40_0 := Aside0.mk (U40_0.out.mvB (Frm.below hb)); have n_Bg2 := Aside0.mk (blk_below Bg2.out hb); have n_Bg8 := Aside0.mk (blk_below Bg8.out hb); have n_HB := Aside0.mk (below_step HB.out hb); have NN11 : Aside0 (w10.heap.size ≤ w11.heap.size) := ⟨hb.size⟩; clear U27 U29_0 U30_0 U34 U36_0 U40_0 Bg2 Bg8 HB; have U27 := n_U27; have U29_0 := n_U29_0; have U30_0 := n_U30_0; have U34 := n_U34; have U36_0 := n_U36_0; have U40_0 := n_U40_0; have Bg2 := n_Bg2; have Bg8 := n_Bg8; have HB := n_HB; clear n_U27 n_U29_0 n_U30_0 n_U34 n_U36_0 n_U40_0 n_Bg2 n_Bg8 n_HB; clear hb))
 try go_wp2
 have hb : Below w11.heap.size w11 w11.drew := (Below.refl _ _).drew
 have n_U27 := Aside0.mk (U27.out.mvB (Frm.below hb))
 have n_U29_0 := Aside0.mk (U29_0.out.mvB (Frm.below hb))
 have n_U30_0 := Aside0.mk (U30_0.out.mvB (Frm.below hb))
 have n_U34 := Aside0.mk (U34.out.mvB (Frm.below hb))
 have n_U36_0 := Aside0.mk (U36_0.out.mvB (Frm.below hb))
 have n_U40_0 := Aside0.mk (U40_0.out.mvB (Frm.below hb))
 have n_Bg2 := Aside0.mk (blk_below Bg2.out hb)
 have n_Bg8 := Aside0.mk (blk_below Bg8.out hb)
 have n_HB := Aside0.mk (below_step HB.out hb)
 have NN12 : Aside0 (w11.heap.size ≤ w11.drew.heap.size) := ⟨hb.size⟩
 clear U27 U29_0 U30_0 U34 U36_0 U40_0 Bg2 Bg8 HB
 have U27 := n_U27
 have U29_0 := n_U29_0
 have U30_0 := n_U30_0
 have U34 := n_U34
 have U36_0 := n_U36_0
 have U40_0 := n_U40_0
 have Bg2 := n_Bg2
 have Bg8 := n_Bg8
 have HB := n_HB
 clear n_U27 n_U29_0 n_U30_0 n_U34 n_U36_0 n_U40_0 n_Bg2 n_Bg8 n_HB
 clear hb
 refine start_ (n := 5) (S := fun w' => w'.cell? ⟨g8, 0, none⟩ = some (.slice A34_0 l0_0.length c34_0) ∧ w'.cell? ⟨g8, 1, none⟩ = some (.slice A34_1 l0_1.length c34_1) ∧ w'.cell? ⟨g2, 0, none⟩ = some (.slice A0_0 l0_0.length c0_0) ∧ w'.cell? ⟨g2, 1, none⟩ = some (.slice A0_1 l0_1.length c0_1)) (ds := []) #[false, false, false, false, false] (by kernel_rfl) rfl rfl ⟨(blk_cell Bg8.out 0).trans rfl, (blk_cell Bg8.out 1).trans rfl, (blk_cell Bg2.out 0).trans rfl, (blk_cell Bg2.out 1).trans rfl⟩ (fun hHeld => ?_)
 generalize w11.drew = w12 at U27 U29_0 U30_0 U34 U36_0 U40_0 Bg2 Bg8 HB NN12 hHeld ⊢
 have hc2_0 : w12.cell? ⟨g2, 0, none⟩ = some (.slice A0_0 l0_0.length c0_0) := (blk_cell Bg2.out 0).trans rfl
 have hf2_0 := blk_frozen Bg2.out 0
 have hc2_1 : w12.cell? ⟨g2, 1, none⟩ = some (.slice A0_1 l0_1.length c0_1) := (blk_cell Bg2.out 1).trans rfl
 have hf2_1 := blk_frozen Bg2.out 1
 have hc8_0 : w12.cell? ⟨g8, 0, none⟩ = some (.slice A34_0 l0_0.length c34_0) := (blk_cell Bg8.out 0).trans rfl
 have hf8_0 := blk_frozen Bg8.out 0
 have hc8_1 : w12.cell? ⟨g8, 1, none⟩ = some (.slice A34_1 l0_1.length c34_1) := (blk_cell Bg8.out 1).trans rfl
 have hf8_1 := blk_frozen Bg8.out 1
 refine take_ (i := 0) (N := some 52) (v := ?_) (a' := ?_) #[true, false, false, false, false] rfl rfl (by kernel_rfl) (fun _ _ _ h => h) (Or.inl ⟨by rfl, ?_⟩) hHeld ?_ ?_
 rotate_left
 ·rintro w' ⟨s0, s1, s2, s3⟩
  go_simp
  with_reducible rfl
 rotate_left
 ·simp only [Act.put, List.setIfInBounds_toArray, List.set_cons_zero, List.set_cons_succ, i64_w, i32_w]
  rfl
 refine take_ (i := 1) (N := some 53) (v := ?_) (a' := ?_) #[true, true, false, false, false] rfl rfl (by kernel_rfl) (fun _ _ _ h => h) (Or.inl ⟨by rfl, ?_⟩) hHeld ?_ ?_
 rotate_left
 ·rintro w' ⟨s0, s1, s2, s3⟩
  go_simp
  with_reducible rfl
 rotate_left
 ·simp only [Act.put, List.setIfInBounds_toArray, List.set_cons_zero, List.set_cons_succ, i64_w, i32_w]
  rfl
 refine one_ (i := 2) (N := some 54) #[true, true, true, false, false] rfl rfl (by kernel_rfl) (by decide) (fun K hK => ?_)
 refine goes_ Try.func39 (by kernel_rfl) rfl #[.agg #[.slice A0_0 l0_0.length c0_0, .slice A0_1 l0_1.length c0_1]] (by rfl) rfl rfl (by (try simp only [List.map_toArray, List.map_cons, List.map_nil]); first | done | rfl) ?_
 (refine (laws_toProblem.calls k _ _ l0_0 _ _ l0_1 l0_0 l0_1 _ ?s1 ?s2 ?s3 ?s4 H4'.out).mono ?_; (case s1 => exact Kd.C_below HR0_0.out HB.out); (case s2 => exact HC0_0.out); (case s3 => exact Kd.C_below HR0_1.out HB.out); (case s4 => exact HC0_1.out); rintro e w13 ⟨v54_0, v54_1, rfl, ho0, ho1, hb⟩; refine ⟨_, rfl, ?_⟩; have nu0 := Aside0.mk (UP.of ho0 ho1 HB.out.size); have n_U27 := Aside0.mk (U27.out.mvB (Frm.below hb)); have n_U29_0 := Aside0.mk (U29_0.out.mvB (Frm.below hb)); have n_U30_0 := Aside0.mk (U30_0.out.mvB (Frm.below hb)); have n_U34 := Aside0.mk (U34.out.mvB (Frm.below hb)); have n_U36_0 := Aside0.mk (U36_0.out.mvB (Frm.below hb)); have n_U40_0 := Aside0.mk (U40_0.out.mvB (Frm.below hb)); have n_Bg2 := Aside0.mk (blk_below Bg2.out hb); have n_Bg8 := Aside0.mk (blk_below Bg8.out hb); have n_HB := Aside0.mk (below_step HB.out hb); have NN13 : Aside0 (w12.heap.size ≤ w13.heap.size) := ⟨hb.size⟩; clear hc2_0 hf2_0; clear hc2_1 hf2_1; clear hc8_0 hf8_0; clear hc8_1 hf8_1; clear U27 U29_0 U30_0 U34 U36_0 U40_0 Bg2 Bg8 HB; have U27 := n_U27; have U29_0 := n_U29_0; have U30_0 := n_U30_0; have U34 := n_U34; have U36_0 := n_U36_0; have U40_0 := n_U40_0; have Bg2 := n_Bg2; have Bg8 := n_Bg8; have HB := n_HB; clear n_U27 n_U29_0 n_U30_0 n_U34 n_U36_0 n_U40_0 n_Bg2 n_Bg8 n_HB; clear hb ho0 ho1; have U54 := nu0; clear nu0; obtain ⟨A54_0, c54_0, A54_1, c54_1, e0, e1⟩ := U54.out.slices; subst e0; subst e1)
 refine hK.out _ _ ⟨(blk_cell Bg8.out 0).trans rfl, (blk_cell Bg8.out 1).trans rfl, (blk_cell Bg2.out 0).trans rfl, (blk_cell Bg2.out 1).trans rfl⟩ (fun hHeld => ?_)
 clear hK K
 refine norm_ (a' := ?_) ?_ ?_
 rotate_left
 ·show Act.put _ (some 54) _ = _
  simp only [Act.put, List.setIfInBounds_toArray, List.set_cons_zero, List.set_cons_succ, i64_w, i32_w]
  rfl
 refine one_ (i := 3) (N := some 55) #[true, true, true, true, false] rfl rfl (by kernel_rfl) (by decide) (fun K hK => ?_)
 refine goes_ Try.func42 (by kernel_rfl) rfl #[.agg #[.slice A34_0 l0_0.length c34_0, .slice A34_1 l0_1.length c34_1], .agg #[.slice A54_0 l0_0.length c54_0, .slice A54_1 l0_1.length c54_1]] (by rfl) rfl rfl (by (try simp only [List.map_toArray, List.map_cons, List.map_nil]); first | done | rfl) ?_
 (refine (laws_eqProblem.calls k _ _ l0_0 _ _ l0_1 _ _ l0_0 _ _ l0_1 true _ ?s1 ?s2 ?s3 ?s4 ?s5 ?s6 ?s7 ?s8 H9'.out).mono ?_; (case s1 => exact U34.out.C0); (case s2 => exact U34.out.cap0); (case s3 => exact U34.out.C1); (case s4 => exact U34.out.cap1); (case s5 => exact U54.out.C0); (case s6 => exact U54.out.cap0); (case s7 => exact U54.out.C1); (case s8 => exact U54.out.cap1); rintro e w14 ⟨rfl, hb⟩; refine ⟨_, rfl, ?_⟩; have n_U27 := Aside0.mk (U27.out.mvB (Frm.below hb)); have n_U29_0 := Aside0.mk (U29_0.out.mvB (Frm.below hb)); have n_U30_0 := Aside0.mk (U30_0.out.mvB (Frm.below hb)); have n_U34 := Aside0.mk (U34.out.mvB (Frm.below hb)); have n_U36_0 := Aside0.mk (U36_0.out.mvB (Frm.below hb)); have n_U40_0 := Aside0.mk (U40_0.out.mvB (Frm.below hb)); have n_U54 := Aside0.mk (U54.out.mvB (Frm.below hb)); have n_Bg2 := Aside0.mk (blk_below Bg2.out hb); have n_Bg8 := Aside0.mk (blk_below Bg8.out hb); have n_HB := Aside0.mk (below_step HB.out hb); have NN14 : Aside0 (w13.heap.size ≤ w14.heap.size) := ⟨hb.size⟩; clear U27 U29_0 U30_0 U34 U36_0 U40_0 U54 Bg2 Bg8 HB; have U27 := n_U27; have U29_0 := n_U29_0; have U30_0 := n_U30_0; have U34 := n_U34; have U36_0 := n_U36_0; have U40_0 := n_U40_0; have U54 := n_U54; have Bg2 := n_Bg2; have Bg8 := n_Bg8; have HB := n_HB; clear n_U27 n_U29_0 n_U30_0 n_U34 n_U36_0 n_U40_0 n_U54 n_Bg2 n_Bg8 n_HB; clear hb)
 refine hK.out _ _ ⟨(blk_cell Bg8.out 0).trans rfl, (blk_cell Bg8.out 1).trans rfl, (blk_cell Bg2.out 0).trans rfl, (blk_cell Bg2.out 1).trans rfl⟩ (fun hHeld => ?_)
 clear hK K
 refine norm_ (a' := ?_) ?_ ?_
 rotate_left
 ·show Act.put _ (some 55) _ = _
  simp only [Act.put, List.setIfInBounds_toArray, List.set_cons_zero, List.set_cons_succ, i64_w, i32_w]
  rfl
 refine pure_ (i := 4) (N := some 56) (v := ?_) (a' := ?_) #[true, true, true, true, true] rfl rfl (by kernel_rfl) (fun _ _ _ h => h) (Or.inl ⟨by rfl, ?_⟩) ?_ ?_
 rotate_left
 ·intro w'
  go_simp
  with_reducible rfl
 rotate_left
 ·simp only [Act.put, List.setIfInBounds_toArray, List.set_cons_zero, List.set_cons_succ, i64_w, i32_w]
  rfl
 refine done_ (by kernel_rfl) ?_
 go_wp2_with (first | ((with_reducible refine gate_callee (f := 40) rfl ?_); refine goesL_ (some 59) rfl rfl Try.func40 (by kernel_rfl) rfl #[.slice A1 l1.length c1] rfl (by (try simp only [List.map_toArray, List.map_cons, List.map_nil]); first | done | rfl) ?_; refine (laws_toInt64S.calls k _ _ l1 l1 _ ?s1 ?s2 H5'.out).mono ?_; (case s1 => exact Kd.C_below HR1.out HB.out); (case s2 => exact HC1.out); rintro e w15 ⟨v59_0, rfl, ho0, hb⟩; refine ⟨_, rfl, ?_⟩; have nu0 := Aside0.mk (UR.of ho0 HB.out.size); have n_U27 := Aside0.mk (U27.out.mvB (Frm.below hb)); have n_U29_0 := Aside0.mk (U29_0.out.mvB (Frm.below hb)); have n_U30_0 := Aside0.mk (U30_0.out.mvB (Frm.below hb)); have n_U34 := Aside0.mk (U34.out.mvB (Frm.below hb)); have n_U36_0 := Aside0.mk (U36_0.out.mvB (Frm.below hb)); have n_U40_0 := Aside0.mk (U40_0.out.mvB (Frm.below hb)); have n_U54 := Aside0.mk (U54.out.mvB (Frm.below hb)); have n_Bg2 := Aside0.mk (blk_below Bg2.out hb); have n_Bg8 := Aside0.mk (blk_below Bg8.out hb); have n_HB := Aside0.mk (below_step HB.out hb); have NN15 : Aside0 (w14.heap.size ≤ w15.heap.size) := ⟨hb.size⟩; clear U27 U29_0 U30_0 U34 U36_0 U40_0 U54 Bg2 Bg8 HB; have U27 := n_U27; have U29_0 := n_U29_0; have U30_0 := n_U30_0; have U34 := n_U34; have U36_0 := n_U36_0; have U40_0 := n_U40_0; have U54 := n_U54; have Bg2 := n_Bg2; have Bg8 := n_Bg8; have HB := n_HB; clear n_U27 n_U29_0 n_U30_0 n_U34 n_U36_0 n_U40_0 n_U54 n_Bg2 n_Bg8 n_HB; clear hb ho0; have U59_0 := nu0; clear nu0; obtain ⟨A59_0, c59_0, e0⟩ := Kd.R_slice U59_0.out; subst e0) | ((with_reducible refine gate_callee (f := 34) rfl ?_); refine goesL_ (some 60) rfl rfl Try.func34 (by kernel_rfl) rfl #[.slice A36_0 l1.length c36_0, .slice A59_0 l1.length c59_0] rfl (by (try simp only [List.map_toArray, List.map_cons, List.map_nil]); first | done | rfl) ?_; refine (laws_eqInt64S.calls k _ _ l1 _ _ l1 true _ ?s1 ?s2 ?s3 ?s4 H10'.out).mono ?_; (case s1 => exact UR.C U36_0.out); (case s2 => exact UR.cap U36_0.out); (case s3 => exact UR.C U59_0.out); (case s4 => exact UR.cap U59_0.out); rintro e w16 ⟨rfl, hb⟩; refine ⟨_, rfl, ?_⟩; have hb := hb.below; have n_U27 := Aside0.mk (U27.out.mvB (Frm.below hb)); have n_U29_0 := Aside0.mk (U29_0.out.mvB (Frm.below hb)); have n_U30_0 := Aside0.mk (U30_0.out.mvB (Frm.below hb)); have n_U34 := Aside0.mk (U34.out.mvB (Frm.below hb)); have n_U36_0 := Aside0.mk (U36_0.out.mvB (Frm.below hb)); have n_U40_0 := Aside0.mk (U40_0.out.mvB (Frm.below hb)); have n_U54 := Aside0.mk (U54.out.mvB (Frm.below hb)); have n_U59_0 := Aside0.mk (U59_0.out.mvB (Frm.below hb)); have n_Bg2 := Aside0.mk (blk_below Bg2.out hb); have n_Bg8 := Aside0.mk (blk_below Bg8.out hb); have n_HB := Aside0.mk (below_step HB.out hb); have NN16 : Aside0 (w15.heap.size ≤ w16.heap.size) := ⟨hb.size⟩; clear U27 U29_0 U30_0 U34 U36_0 U40_0 U54 U59_0 Bg2 Bg8 HB; have U27 := n_U27; have U29_0 := n_U29_0; have U30_0 := n_U30_0; have U34 := n_U34; have U36_0 := n_U36_0; have U40_0 := n_U40_0; have U54 := n_U54; have U59_0 := n_U59_0; have Bg2 := n_Bg2; have Bg8 := n_Bg8; have HB := n_HB; clear n_U27 n_U29_0 n_U30_0 n_U34 n_U36_0 n_U40_0 n_U54 n_U59_0 n_Bg2 n_Bg8 n_HB; clear hb; have hc8_0 : w16.cell? ⟨g8, 0, none⟩ = some (.slice A34_0 l0_0.length c34_0) := (blk_cell Bg8.out 0).trans rfl; have hf8_0 := blk_frozen Bg8.out 0; have hc8_1 : w16.cell? ⟨g8, 1, none⟩ = some (.slice A34_1 l0_1.length c34_1) := (blk_cell Bg8.out 1).trans rfl; have hf8_1 := blk_frozen Bg8.out 1) | ((with_reducible refine gate_callee (f := 43) rfl ?_); refine goesL_ (some 64) rfl rfl Try.func43 (by kernel_rfl) rfl #[.agg #[.slice A34_0 l0_0.length c34_0, .slice A34_1 l0_1.length c34_1], .int .i64 1] rfl (by (try simp only [List.map_toArray, List.map_cons, List.map_nil]); first | done | rfl) ?_; refine (mark_UP A34_0 c34_0 A34_1 c34_1 l0_0 l0_1 1 m1 HB.out U34.out (by decide) H12'.out H13'.out H11'.out (by have := NN1.out; have := Gg2.out; have := Kg2.out; have := NN2.out; have := NN3.out; have := NN4.out; have := NN5.out; have := NN6.out; have := NN7.out; have := Gg8.out; have := Kg8.out; have := NN8.out; have := NN9.out; have := NN10.out; have := NN11.out; have := NN12.out; have := NN13.out; have := NN14.out; have := NN15.out; have := NN16.out; omega)).mono ?_; rintro e w17 ⟨rfl, hU, hB', hF⟩; refine ⟨_, rfl, ?_⟩; have nu := Aside0.mk hU; have n_U27 := Aside0.mk (U27.out.mv hF (by have := NN1.out; have := Gg2.out; have := Kg2.out; have := NN2.out; have := NN3.out; have := NN4.out; have := NN5.out; have := NN6.out; have := NN7.out; have := Gg8.out; have := Kg8.out; have := NN8.out; have := NN9.out; have := NN10.out; have := NN11.out; have := NN12.out; have := NN13.out; have := NN14.out; have := NN15.out; have := NN16.out; omega)); have n_U29_0 := Aside0.mk (U29_0.out.mv hF (by have := NN1.out; have := Gg2.out; have := Kg2.out; have := NN2.out; have := NN3.out; have := NN4.out; have := NN5.out; have := NN6.out; have := NN7.out; have := Gg8.out; have := Kg8.out; have := NN8.out; have := NN9.out; have := NN10.out; have := NN11.out; have := NN12.out; have := NN13.out; have := NN14.out; have := NN15.out; have := NN16.out; omega)); have n_U30_0 := Aside0.mk (U30_0.out.mv hF (by have := NN1.out; have := Gg2.out; have := Kg2.out; have := NN2.out; have := NN3.out; have := NN4.out; have := NN5.out; have := NN6.out; have := NN7.out; have := Gg8.out; have := Kg8.out; have := NN8.out; have := NN9.out; have := NN10.out; have := NN11.out; have := NN12.out; have := NN13.out; have := NN14.out; have := NN15.out; have := NN16.out; omega)); have n_U36_0 := Aside0.mk (U36_0.out.mv hF (by have := NN1.out; have := Gg2.out; have := Kg2.out; have := NN2.out; have := NN3.out; have := NN4.out; have := NN5.out; have := NN6.out; have := NN7.out; have := Gg8.out; have := Kg8.out; have := NN8.out; have := NN9.out; have := NN10.out; have := NN11.out; have := NN12.out; have := NN13.out; have := NN14.out; have := NN15.out; have := NN16.out; omega)); have n_U40_0 := Aside0.mk (U40_0.out.mv hF (by have := NN1.out; have := Gg2.out; have := Kg2.out; have := NN2.out; have := NN3.out; have := NN4.out; have := NN5.out; have := NN6.out; have := NN7.out; have := Gg8.out; have := Kg8.out; have := NN8.out; have := NN9.out; have := NN10.out; have := NN11.out; have := NN12.out; have := NN13.out; have := NN14.out; have := NN15.out; have := NN16.out; omega)); have n_U54 := Aside0.mk (U54.out.mv hF (by have := NN1.out; have := Gg2.out; have := Kg2.out; have := NN2.out; have := NN3.out; have := NN4.out; have := NN5.out; have := NN6.out; have := NN7.out; have := Gg8.out; have := Kg8.out; have := NN8.out; have := NN9.out; have := NN10.out; have := NN11.out; have := NN12.out; have := NN13.out; have := NN14.out; have := NN15.out; have := NN16.out; omega)); have n_U59_0 := Aside0.mk (U59_0.out.mv hF (by have := NN1.out; have := Gg2.out; have := Kg2.out; have := NN2.out; have := NN3.out; have := NN4.out; have := NN5.out; have := NN6.out; have := NN7.out; have := Gg8.out; have := Kg8.out; have := NN8.out; have := NN9.out; have := NN10.out; have := NN11.out; have := NN12.out; have := NN13.out; have := NN14.out; have := NN15.out; have := NN16.out; omega)); have n_Bg2 := Aside0.mk ((hF.same g2 (blk_lt Bg2.out) (by have := NN1.out; have := Gg2.out; have := Kg2.out; have := NN2.out; have := NN3.out; have := NN4.out; have := NN5.out; have := NN6.out; have := NN7.out; have := Gg8.out; have := Kg8.out; have := NN8.out; have := NN9.out; have := NN10.out; have := NN11.out; have := NN12.out; have := NN13.out; have := NN14.out; have := NN15.out; have := NN16.out; omega)).trans Bg2.out); have n_Bg8 := Aside0.mk ((hF.same g8 (blk_lt Bg8.out) (by have := NN1.out; have := Gg2.out; have := Kg2.out; have := NN2.out; have := NN3.out; have := NN4.out; have := NN5.out; have := NN6.out; have := NN7.out; have := Gg8.out; have := Kg8.out; have := NN8.out; have := NN9.out; have := NN10.out; have := NN11.out; have := NN12.out; have := NN13.out; have := NN14.out; have := NN15.out; have := NN16.out; omega)).trans Bg8.out); have n_HB := Aside0.mk (hB'); have NN17 : Aside0 (w16.heap.size ≤ w17.heap.size) := ⟨hF.size⟩; clear hc8_0 hf8_0; clear hc8_1 hf8_1; clear U27 U29_0 U30_0 U36_0 U40_0 U54 U59_0 Bg2 Bg8 HB; have U27 := n_U27; have U29_0 := n_U29_0; have U30_0 := n_U30_0; have U36_0 := n_U36_0; have U40_0 := n_U40_0; have U54 := n_U54; have U59_0 := n_U59_0; have Bg2 := n_Bg2; have Bg8 := n_Bg8; have HB := n_HB; clear n_U27 n_U29_0 n_U30_0 n_U36_0 n_U40_0 n_U54 n_U59_0 n_Bg2 n_Bg8 n_HB; clear U34; have U34 := nu; clear nu hU hB' hF) | ((with_reducible refine gate_callee (f := 35) rfl ?_); refine goesL_ (some 67) rfl rfl Try.func35 (by kernel_rfl) rfl #[.slice A36_0 l1.length c36_0, .int .i64 m1] rfl (by (try simp only [List.map_toArray, List.map_cons, List.map_nil]); first | done | rfl) ?_; refine (mark_UR A36_0 c36_0 l1 _ m1 m2 HB.out U36_0.out H15'.out H17'.out H16'.out).mono ?_; rintro e w18 ⟨rfl, hU, hB', hF⟩; refine ⟨_, rfl, ?_⟩; have nu := Aside0.mk hU; have n_U27 := Aside0.mk (U27.out.mv hF (by have := NN1.out; have := Gg2.out; have := Kg2.out; have := NN2.out; have := NN3.out; have := NN4.out; have := NN5.out; have := NN6.out; have := NN7.out; have := Gg8.out; have := Kg8.out; have := NN8.out; have := NN9.out; have := NN10.out; have := NN11.out; have := NN12.out; have := NN13.out; have := NN14.out; have := NN15.out; have := NN16.out; have := NN17.out; omega)); have n_U29_0 := Aside0.mk (U29_0.out.mv hF (by have := NN1.out; have := Gg2.out; have := Kg2.out; have := NN2.out; have := NN3.out; have := NN4.out; have := NN5.out; have := NN6.out; have := NN7.out; have := Gg8.out; have := Kg8.out; have := NN8.out; have := NN9.out; have := NN10.out; have := NN11.out; have := NN12.out; have := NN13.out; have := NN14.out; have := NN15.out; have := NN16.out; have := NN17.out; omega)); have n_U30_0 := Aside0.mk (U30_0.out.mv hF (by have := NN1.out; have := Gg2.out; have := Kg2.out; have := NN2.out; have := NN3.out; have := NN4.out; have := NN5.out; have := NN6.out; have := NN7.out; have := Gg8.out; have := Kg8.out; have := NN8.out; have := NN9.out; have := NN10.out; have := NN11.out; have := NN12.out; have := NN13.out; have := NN14.out; have := NN15.out; have := NN16.out; have := NN17.out; omega)); have n_U34 := Aside0.mk (U34.out.mv hF (by have := NN1.out; have := Gg2.out; have := Kg2.out; have := NN2.out; have := NN3.out; have := NN4.out; have := NN5.out; have := NN6.out; have := NN7.out; have := Gg8.out; have := Kg8.out; have := NN8.out; have := NN9.out; have := NN10.out; have := NN11.out; have := NN12.out; have := NN13.out; have := NN14.out; have := NN15.out; have := NN16.out; have := NN17.out; omega)); have n_U40_0 := Aside0.mk (U40_0.out.mv hF (by have := NN1.out; have := Gg2.out; have := Kg2.out; have := NN2.out; have := NN3.out; have := NN4.out; have := NN5.out; have := NN6.out; have := NN7.out; have := Gg8.out; have := Kg8.out; have := NN8.out; have := NN9.out; have := NN10.out; have := NN11.out; have := NN12.out; have := NN13.out; have := NN14.out; have := NN15.out; have := NN16.out; have := NN17.out; omega)); have n_U54 := Aside0.mk (U54.out.mv hF (by have := NN1.out; have := Gg2.out; have := Kg2.out; have := NN2.out; have := NN3.out; have := NN4.out; have := NN5.out; have := NN6.out; have := NN7.out; have := Gg8.out; have := Kg8.out; have := NN8.out; have := NN9.out; have := NN10.out; have := NN11.out; have := NN12.out; have := NN13.out; have := NN14.out; have := NN15.out; have := NN16.out; have := NN17.out; omega)); have n_U59_0 := Aside0.mk (U59_0.out.mv hF (by have := NN1.out; have := Gg2.out; have := Kg2.out; have := NN2.out; have := NN3.out; have := NN4.out; have := NN5.out; have := NN6.out; have := NN7.out; have := Gg8.out; have := Kg8.out; have := NN8.out; have := NN9.out; have := NN10.out; have := NN11.out; have := NN12.out; have := NN13.out; have := NN14.out; have := NN15.out; have := NN16.out; have := NN17.out; omega)); have n_Bg2 := Aside0.mk ((hF.same g2 (blk_lt Bg2.out) (by have := NN1.out; have := Gg2.out; have := Kg2.out; have := NN2.out; have := NN3.out; have := NN4.out; have := NN5.out; have := NN6.out; have := NN7.out; have := Gg8.out; have := Kg8.out; have := NN8.out; have := NN9.out; have := NN10.out; have := NN11.out; have := NN12.out; have := NN13.out; have := NN14.out; have := NN15.out; have := NN16.out; have := NN17.out; omega)).trans Bg2.out); have n_Bg8 := Aside0.mk ((hF.same g8 (blk_lt Bg8.out) (by have := NN1.out; have := Gg2.out; have := Kg2.out; have := NN2.out; have := NN3.out; have := NN4.out; have := NN5.out; have := NN6.out; have := NN7.out; have := Gg8.out; have := Kg8.out; have := NN8.out; have := NN9.out; have := NN10.out; have := NN11.out; have := NN12.out; have := NN13.out; have := NN14.out; have := NN15.out; have := NN16.out; have := NN17.out; omega)).trans Bg8.out); have n_HB := Aside0.mk (hB'); have NN18 : Aside0 (w17.heap.size ≤ w18.heap.size) := ⟨hF.size⟩; clear U27 U29_0 U30_0 U34 U40_0 U54 U59_0 Bg2 Bg8 HB; have U27 := n_U27; have U29_0 := n_U29_0; have U30_0 := n_U30_0; have U34 := n_U34; have U40_0 := n_U40_0; have U54 := n_U54; have U59_0 := n_U59_0; have Bg2 := n_Bg2; have Bg8 := n_Bg8; have HB := n_HB; clear n_U27 n_U29_0 n_U30_0 n_U34 n_U40_0 n_U54 n_U59_0 n_Bg2 n_Bg8 n_HB; clear U36_0; have U36_0 := nu; clear nu hU hB' hF) | (go_at_call 34; refine (laws_eqInt64S.calls k _ _ s0 _ _ s0 true _ ?s1 ?s2 ?s3 ?s4 H8'.out).mono ?_; (case s1 => exact UR.C U40_0.out); (case s2 => exact UR.cap U40_0.out); (case s3 => exact UR.C U30_0.out); (case s4 => exact UR.cap U30_0.out); rintro e w19 ⟨rfl, hb⟩; have hb := hb.below; have n_U27 := Aside0.mk (U27.out.mvB (Frm.below hb)); have n_U29_0 := Aside0.mk (U29_0.out.mvB (Frm.below hb)); have n_U30_0 := Aside0.mk (U30_0.out.mvB (Frm.below hb)); have n_U34 := Aside0.mk (U34.out.mvB (Frm.below hb)); have n_U36_0 := Aside0.mk (U36_0.out.mvB (Frm.below hb)); have n_U40_0 := Aside0.mk (U40_0.out.mvB (Frm.below hb)); have n_U54 := Aside0.mk (U54.out.mvB (Frm.below hb)); have n_U59_0 := Aside0.mk (U59_0.out.mvB (Frm.below hb)); have n_Bg2 := Aside0.mk (blk_below Bg2.out hb); have n_Bg8 := Aside0.mk (blk_below Bg8.out hb); have n_HB := Aside0.mk (below_step HB.out hb); have NN19 : Aside0 (w18.heap.size ≤ w19.heap.size) := ⟨hb.size⟩; clear U27 U29_0 U30_0 U34 U36_0 U40_0 U54 U59_0 Bg2 Bg8 HB; have U27 := n_U27; have U29_0 := n_U29_0; have U30_0 := n_U30_0; have U34 := n_U34; have U36_0 := n_U36_0; have U40_0 := n_U40_0; have U54 := n_U54; have U59_0 := n_U59_0; have Bg2 := n_Bg2; have Bg8 := n_Bg8; have HB := n_HB; clear n_U27 n_U29_0 n_U30_0 n_U34 n_U36_0 n_U40_0 n_U54 n_U59_0 n_Bg2 n_Bg8 n_HB; clear hb) | ((with_reducible refine gate_callee (f := 35) rfl ?_); refine goesL_ (some 83) rfl rfl Try.func35 (by kernel_rfl) rfl #[.slice A40_0 s0.length c40_0, .int .i64 1] rfl (by (try simp only [List.map_toArray, List.map_cons, List.map_nil]); first | done | rfl) ?_; refine (mark_UR A40_0 c40_0 s0 _ 1 m3 HB.out U40_0.out (by decide) H20'.out H19'.out).mono ?_; rintro e w20 ⟨rfl, hU, hB', hF⟩; refine ⟨_, rfl, ?_⟩; have nu := Aside0.mk hU; have n_U27 := Aside0.mk (U27.out.mv hF (by have := NN1.out; have := Gg2.out; have := Kg2.out; have := NN2.out; have := NN3.out; have := NN4.out; have := NN5.out; have := NN6.out; have := NN7.out; have := Gg8.out; have := Kg8.out; have := NN8.out; have := NN9.out; have := NN10.out; have := NN11.out; have := NN12.out; have := NN13.out; have := NN14.out; have := NN15.out; have := NN16.out; have := NN17.out; have := NN18.out; have := NN19.out; omega)); have n_U29_0 := Aside0.mk (U29_0.out.mv hF (by have := NN1.out; have := Gg2.out; have := Kg2.out; have := NN2.out; have := NN3.out; have := NN4.out; have := NN5.out; have := NN6.out; have := NN7.out; have := Gg8.out; have := Kg8.out; have := NN8.out; have := NN9.out; have := NN10.out; have := NN11.out; have := NN12.out; have := NN13.out; have := NN14.out; have := NN15.out; have := NN16.out; have := NN17.out; have := NN18.out; have := NN19.out; omega)); have n_U30_0 := Aside0.mk (U30_0.out.mv hF (by have := NN1.out; have := Gg2.out; have := Kg2.out; have := NN2.out; have := NN3.out; have := NN4.out; have := NN5.out; have := NN6.out; have := NN7.out; have := Gg8.out; have := Kg8.out; have := NN8.out; have := NN9.out; have := NN10.out; have := NN11.out; have := NN12.out; have := NN13.out; have := NN14.out; have := NN15.out; have := NN16.out; have := NN17.out; have := NN18.out; have := NN19.out; omega)); have n_U34 := Aside0.mk (U34.out.mv hF (by have := NN1.out; have := Gg2.out; have := Kg2.out; have := NN2.out; have := NN3.out; have := NN4.out; have := NN5.out; have := NN6.out; have := NN7.out; have := Gg8.out; have := Kg8.out; have := NN8.out; have := NN9.out; have := NN10.out; have := NN11.out; have := NN12.out; have := NN13.out; have := NN14.out; have := NN15.out; have := NN16.out; have := NN17.out; have := NN18.out; have := NN19.out; omega)); have n_U36_0 := Aside0.mk (U36_0.out.mv hF (by have := NN1.out; have := Gg2.out; have := Kg2.out; have := NN2.out; have := NN3.out; have := NN4.out; have := NN5.out; have := NN6.out; have := NN7.out; have := Gg8.out; have := Kg8.out; have := NN8.out; have := NN9.out; have := NN10.out; have := NN11.out; have := NN12.out; have := NN13.out; have := NN14.out; have := NN15.out; have := NN16.out; have := NN17.out; have := NN18.out; have := NN19.out; omega)); have n_U54 := Aside0.mk (U54.out.mv hF (by have := NN1.out; have := Gg2.out; have := Kg2.out; have := NN2.out; have := NN3.out; have := NN4.out; have := NN5.out; have := NN6.out; have := NN7.out; have := Gg8.out; have := Kg8.out; have := NN8.out; have := NN9.out; have := NN10.out; have := NN11.out; have := NN12.out; have := NN13.out; have := NN14.out; have := NN15.out; have := NN16.out; have := NN17.out; have := NN18.out; have := NN19.out; omega)); have n_U59_0 := Aside0.mk (U59_0.out.mv hF (by have := NN1.out; have := Gg2.out; have := Kg2.out; have := NN2.out; have := NN3.out; have := NN4.out; have := NN5.out; have := NN6.out; have := NN7.out; have := Gg8.out; have := Kg8.out; have := NN8.out; have := NN9.out; have := NN10.out; have := NN11.out; have := NN12.out; have := NN13.out; have := NN14.out; have := NN15.out; have := NN16.out; have := NN17.out; have := NN18.out; have := NN19.out; omega)); have n_Bg2 := Aside0.mk ((hF.same g2 (blk_lt Bg2.out) (by have := NN1.out; have := Gg2.out; have := Kg2.out; have := NN2.out; have := NN3.out; have := NN4.out; have := NN5.out; have := NN6.out; have := NN7.out; have := Gg8.out; have := Kg8.out; have := NN8.out; have := NN9.out; have := NN10.out; have := NN11.out; have := NN12.out; have := NN13.out; have := NN14.out; have := NN15.out; have := NN16.out; have := NN17.out; have := NN18.out; have := NN19.out; omega)).trans Bg2.out); have n_Bg8 := Aside0.mk ((hF.same g8 (blk_lt Bg8.out) (by have := NN1.out; have := Gg2.out; have := Kg2.out; have := NN2.out; have := NN3.out; have := NN4.out; have := NN5.out; have := NN6.out; have := NN7.out; have := Gg8.out; have := Kg8.out; have := NN8.out; have := NN9.out; have := NN10.out; have := NN11.out; have := NN12.out; have := NN13.out; have := NN14.out; have := NN15.out; have := NN16.out; have := NN17.out; have := NN18.out; have := NN19.out; omega)).trans Bg8.out); have n_HB := Aside0.mk (hB'); have NN20 : Aside0 (w19.heap.size ≤ w20.heap.size) := ⟨hF.size⟩; clear U27 U29_0 U30_0 U34 U36_0 U54 U59_0 Bg2 Bg8 HB; have U27 := n_U27; have U29_0 := n_U29_0; have U30_0 := n_U30_0; have U34 := n_U34; have U36_0 := n_U36_0; have U54 := n_U54; have U59_0 := n_U59_0; have Bg2 := n_Bg2; have Bg8 := n_Bg8; have HB := n_HB; clear n_U27 n_U29_0 n_U30_0 n_U34 n_U36_0 n_U54 n_U59_0 n_Bg2 n_Bg8 n_HB; clear U40_0; have U40_0 := nu; clear nu hU hB' hF) | ((with_reducible refine gate_callee (f := 36) rfl ?_); refine goesL_ (some 86) rfl rfl Try.func36 (by kernel_rfl) rfl #[.slice A40_0 s0.length c40_0, .int .i64 1] rfl (by (try simp only [List.map_toArray, List.map_cons, List.map_nil]); first | done | rfl) ?_; have hcall := laws_heldInt64S.calls k _ _ ((count 1 s0.length)) 1 m3 _ (UR.C U40_0.out) (UR.cap U40_0.out) H22'.out; simp only [marks_length, count_length] at hcall; refine hcall.mono ?_; clear hcall; rintro e w21 ⟨rfl, hb⟩; refine ⟨_, rfl, ?_⟩; have hb := hb.below; have n_U27 := Aside0.mk (U27.out.mvB (Frm.below hb)); have n_U29_0 := Aside0.mk (U29_0.out.mvB (Frm.below hb)); have n_U30_0 := Aside0.mk (U30_0.out.mvB (Frm.below hb)); have n_U34 := Aside0.mk (U34.out.mvB (Frm.below hb)); have n_U36_0 := Aside0.mk (U36_0.out.mvB (Frm.below hb)); have n_U40_0 := Aside0.mk (U40_0.out.mvB (Frm.below hb)); have n_U54 := Aside0.mk (U54.out.mvB (Frm.below hb)); have n_U59_0 := Aside0.mk (U59_0.out.mvB (Frm.below hb)); have n_Bg2 := Aside0.mk (blk_below Bg2.out hb); have n_Bg8 := Aside0.mk (blk_below Bg8.out hb); have n_HB := Aside0.mk (below_step HB.out hb); have NN21 : Aside0 (w20.heap.size ≤ w21.heap.size) := ⟨hb.size⟩; clear U27 U29_0 U30_0 U34 U36_0 U40_0 U54 U59_0 Bg2 Bg8 HB; have U27 := n_U27; have U29_0 := n_U29_0; have U30_0 := n_U30_0; have U34 := n_U34; have U36_0 := n_U36_0; have U40_0 := n_U40_0; have U54 := n_U54; have U59_0 := n_U59_0; have Bg2 := n_Bg2; have Bg8 := n_Bg8; have HB := n_HB; clear n_U27 n_U29_0 n_U30_0 n_U34 n_U36_0 n_U40_0 n_U54 n_U59_0 n_Bg2 n_Bg8 n_HB; clear hb; have hc2_0 : w21.cell? ⟨g2, 0, none⟩ = some (.slice A0_0 l0_0.length c0_0) := (blk_cell Bg2.out 0).trans rfl; have hf2_0 := blk_frozen Bg2.out 0; have hc2_1 : w21.cell? ⟨g2, 1, none⟩ = some (.slice A0_1 l0_1.length c0_1) := (blk_cell Bg2.out 1).trans rfl; have hf2_1 := blk_frozen Bg2.out 1) | ((with_reducible refine gate_callee (f := 39) rfl ?_); refine goesL_ (some 94) rfl rfl Try.func39 (by kernel_rfl) rfl #[.agg #[.slice A0_0 l0_0.length c0_0, .slice A0_1 l0_1.length c0_1]] rfl (by (try simp only [List.map_toArray, List.map_cons, List.map_nil]); first | done | rfl) ?_; refine (laws_toProblem.calls k _ _ l0_0 _ _ l0_1 l0_0 l0_1 _ ?s1 ?s2 ?s3 ?s4 H4'.out).mono ?_; (case s1 => exact Kd.C_below HR0_0.out HB.out); (case s2 => exact HC0_0.out); (case s3 => exact Kd.C_below HR0_1.out HB.out); (case s4 => exact HC0_1.out); rintro e w22 ⟨v94_0, v94_1, rfl, ho0, ho1, hb⟩; refine ⟨_, rfl, ?_⟩; have nu0 := Aside0.mk (UP.of ho0 ho1 HB.out.size); have n_U27 := Aside0.mk (U27.out.mvB (Frm.below hb)); have n_U29_0 := Aside0.mk (U29_0.out.mvB (Frm.below hb)); have n_U30_0 := Aside0.mk (U30_0.out.mvB (Frm.below hb)); have n_U34 := Aside0.mk (U34.out.mvB (Frm.below hb)); have n_U36_0 := Aside0.mk (U36_0.out.mvB (Frm.below hb)); have n_U40_0 := Aside0.mk (U40_0.out.mvB (Frm.below hb)); have n_U54 := Aside0.mk (U54.out.mvB (Frm.below hb)); have n_U59_0 := Aside0.mk (U59_0.out.mvB (Frm.below hb)); have n_Bg2 := Aside0.mk (blk_below Bg2.out hb); have n_Bg8 := Aside0.mk (blk_below Bg8.out hb); have n_HB := Aside0.mk (below_step HB.out hb); have NN22 : Aside0 (w21.heap.size ≤ w22.heap.size) := ⟨hb.size⟩; clear hc2_0 hf2_0; clear hc2_1 hf2_1; clear U27 U29_0 U30_0 U34 U36_0 U40_0 U54 U59_0 Bg2 Bg8 HB; have U27 := n_U27; have U29_0 := n_U29_0; have U30_0 := n_U30_0; have U34 := n_U34; have U36_0 := n_U36_0; have U40_0 := n_U40_0; have U54 := n_U54; have U59_0 := n_U59_0; have Bg2 := n_Bg2; have Bg8 := n_Bg8; have HB := n_HB; clear n_U27 n_U29_0 n_U30_0 n_U34 n_U36_0 n_U40_0 n_U54 n_U59_0 n_Bg2 n_Bg8 n_HB; clear hb ho0 ho1; have U94 := nu0; clear nu0; obtain ⟨A94_0, c94_0, A94_1, c94_1, e0, e1⟩ := U94.out.slices; subst e0; subst e1) | ((with_reducible refine gate_callee (f := 40) rfl ?_); refine goesL_ (some 96) rfl rfl Try.func40 (by kernel_rfl) rfl #[.slice A1 l1.length c1] rfl (by (try simp only [List.map_toArray, List.map_cons, List.map_nil]); first | done | rfl) ?_; refine (laws_toInt64S.calls k _ _ l1 l1 _ ?s1 ?s2 H5'.out).mono ?_; (case s1 => exact Kd.C_below HR1.out HB.out); (case s2 => exact HC1.out); rintro e w23 ⟨v96_0, rfl, ho0, hb⟩; refine ⟨_, rfl, ?_⟩; have nu0 := Aside0.mk (UR.of ho0 HB.out.size); have n_U27 := Aside0.mk (U27.out.mvB (Frm.below hb)); have n_U29_0 := Aside0.mk (U29_0.out.mvB (Frm.below hb)); have n_U30_0 := Aside0.mk (U30_0.out.mvB (Frm.below hb)); have n_U34 := Aside0.mk (U34.out.mvB (Frm.below hb)); have n_U36_0 := Aside0.mk (U36_0.out.mvB (Frm.below hb)); have n_U40_0 := Aside0.mk (U40_0.out.mvB (Frm.below hb)); have n_U54 := Aside0.mk (U54.out.mvB (Frm.below hb)); have n_U59_0 := Aside0.mk (U59_0.out.mvB (Frm.below hb)); have n_U94 := Aside0.mk (U94.out.mvB (Frm.below hb)); have n_Bg2 := Aside0.mk (blk_below Bg2.out hb); have n_Bg8 := Aside0.mk (blk_below Bg8.out hb); have n_HB := Aside0.mk (below_step HB.out hb); have NN23 : Aside0 (w22.heap.size ≤ w23.heap.size) := ⟨hb.size⟩; clear U27 U29_0 U30_0 U34 U36_0 U40_0 U54 U59_0 U94 Bg2 Bg8 HB; have U27 := n_U27; have U29_0 := n_U29_0; have U30_0 := n_U30_0; have U34 := n_U34; have U36_0 := n_U36_0; have U40_0 := n_U40_0; have U54 := n_U54; have U59_0 := n_U59_0; have U94 := n_U94; have Bg2 := n_Bg2; have Bg8 := n_Bg8; have HB := n_HB; clear n_U27 n_U29_0 n_U30_0 n_U34 n_U36_0 n_U40_0 n_U54 n_U59_0 n_U94 n_Bg2 n_Bg8 n_HB; clear hb ho0; have U96_0 := nu0; clear nu0; obtain ⟨A96_0, c96_0, e0⟩ := Kd.R_slice U96_0.out; subst e0) | ((with_reducible refine gate_callee (f := 41) rfl ?_); refine goesL_ (some 97) rfl rfl Try.func41 (by kernel_rfl) rfl #[.agg #[.slice A94_0 l0_0.length c94_0, .slice A94_1 l0_1.length c94_1], .slice A96_0 l1.length c96_0] rfl (by (try simp only [List.map_toArray, List.map_cons, List.map_nil]); first | done | rfl) ?_; refine (impl_RunChain.calls k _ _ l0_0 _ _ l0_1 _ _ l1 s0 s1 _ ?s1 ?s2 ?s3 ?s4 ?s5 ?s6 H7'.out).mono ?_; (case s1 => exact U94.out.C0); (case s2 => exact U94.out.cap0); (case s3 => exact U94.out.C1); (case s4 => exact U94.out.cap1); (case s5 => exact UR.C U96_0.out); (case s6 => exact UR.cap U96_0.out); rintro e w24 ⟨v97_0, rfl, ho0, hb⟩; refine ⟨_, rfl, ?_⟩; have nu0 := Aside0.mk (UR.of ho0 HB.out.size); have n_U27 := Aside0.mk (U27.out.mvB (Frm.below hb)); have n_U29_0 := Aside0.mk (U29_0.out.mvB (Frm.below hb)); have n_U30_0 := Aside0.mk (U30_0.out.mvB (Frm.below hb)); have n_U34 := Aside0.mk (U34.out.mvB (Frm.below hb)); have n_U36_0 := Aside0.mk (U36_0.out.mvB (Frm.below hb)); have n_U40_0 := Aside0.mk (U40_0.out.mvB (Frm.below hb)); have n_U54 := Aside0.mk (U54.out.mvB (Frm.below hb)); have n_U59_0 := Aside0.mk (U59_0.out.mvB (Frm.below hb)); have n_U94 := Aside0.mk (U94.out.mvB (Frm.below hb)); have n_U96_0 := Aside0.mk (U96_0.out.mvB (Frm.below hb)); have n_Bg2 := Aside0.mk (blk_below Bg2.out hb); have n_Bg8 := Aside0.mk (blk_below Bg8.out hb); have n_HB := Aside0.mk (below_step HB.out hb); have NN24 : Aside0 (w23.heap.size ≤ w24.heap.size) := ⟨hb.size⟩; clear U27 U29_0 U30_0 U34 U36_0 U40_0 U54 U59_0 U94 U96_0 Bg2 Bg8 HB; have U27 := n_U27; have U29_0 := n_U29_0; have U30_0 := n_U30_0; have U34 := n_U34; have U36_0 := n_U36_0; have U40_0 := n_U40_0; have U54 := n_U54; have U59_0 := n_U59_0; have U94 := n_U94; have U96_0 := n_U96_0; have Bg2 := n_Bg2; have Bg8 := n_Bg8; have HB := n_HB; clear n_U27 n_U29_0 n_U30_0 n_U34 n_U36_0 n_U40_0 n_U54 n_U59_0 n_U94 n_U96_0 n_Bg2 n_Bg8 n_HB; clear hb ho0; have U97_0 := nu0; clear nu0; obtain ⟨A97_0, c97_0, e0⟩ := Kd.R_slice U97_0.out; subst e0) | ((with_reducible refine gate_callee (f := 34) rfl ?_); refine goesL_ (some 102) rfl rfl Try.func34 (by kernel_rfl) rfl #[.slice A97_0 s0.length c97_0, .slice A30_0 s0.length c30_0] rfl (by (try simp only [List.map_toArray, List.map_cons, List.map_nil]); first | done | rfl) ?_; refine (laws_eqInt64S.calls k _ _ s0 _ _ s0 true _ ?s1 ?s2 ?s3 ?s4 H8'.out).mono ?_; (case s1 => exact UR.C U97_0.out); (case s2 => exact UR.cap U97_0.out); (case s3 => exact UR.C U30_0.out); (case s4 => exact UR.cap U30_0.out); rintro e w25 ⟨rfl, hb⟩; refine ⟨_, rfl, ?_⟩; have hb := hb.below; have n_U27 := Aside0.mk (U27.out.mvB (Frm.below hb)); have n_U29_0 := Aside0.mk (U29_0.out.mvB (Frm.below hb)); have n_U30_0 := Aside0.mk (U30_0.out.mvB (Frm.below hb)); have n_U34 := Aside0.mk (U34.out.mvB (Frm.below hb)); have n_U36_0 := Aside0.mk (U36_0.out.mvB (Frm.below hb)); have n_U40_0 := Aside0.mk (U40_0.out.mvB (Frm.below hb)); have n_U54 := Aside0.mk (U54.out.mvB (Frm.below hb)); have n_U59_0 := Aside0.mk (U59_0.out.mvB (Frm.below hb)); have n_U94 := Aside0.mk (U94.out.mvB (Frm.below hb)); have n_U96_0 := Aside0.mk (U96_0.out.mvB (Frm.below hb)); have n_U97_0 := Aside0.mk (U97_0.out.mvB (Frm.below hb)); have n_Bg2 := Aside0.mk (blk_below Bg2.out hb); have n_Bg8 := Aside0.mk (blk_below Bg8.out hb); have n_HB := Aside0.mk (below_step HB.out hb); have NN25 : Aside0 (w24.heap.size ≤ w25.heap.size) := ⟨hb.size⟩; clear U27 U29_0 U30_0 U34 U36_0 U40_0 U54 U59_0 U94 U96_0 U97_0 Bg2 Bg8 HB; have U27 := n_U27; have U29_0 := n_U29_0; have U30_0 := n_U30_0; have U34 := n_U34; have U36_0 := n_U36_0; have U40_0 := n_U40_0; have U54 := n_U54; have U59_0 := n_U59_0; have U94 := n_U94; have U96_0 := n_U96_0; have U97_0 := n_U97_0; have Bg2 := n_Bg2; have Bg8 := n_Bg8; have HB := n_HB; clear n_U27 n_U29_0 n_U30_0 n_U34 n_U36_0 n_U40_0 n_U54 n_U59_0 n_U94 n_U96_0 n_U97_0 n_Bg2 n_Bg8 n_HB; clear hb) | ((with_reducible refine gate_callee (f := 36) rfl ?_); refine goesL_ (some 111) rfl rfl Try.func36 (by kernel_rfl) rfl #[.slice A40_0 s0.length c40_0, .int .i64 1] rfl (by (try simp only [List.map_toArray, List.map_cons, List.map_nil]); first | done | rfl) ?_; have hcall := laws_heldInt64S.calls k _ _ ((count 1 s0.length)) 1 m3 _ (UR.C U40_0.out) (UR.cap U40_0.out) H22'.out; simp only [marks_length, count_length] at hcall; refine hcall.mono ?_; clear hcall; rintro e w26 ⟨rfl, hb⟩; refine ⟨_, rfl, ?_⟩; have hb := hb.below; have n_U27 := Aside0.mk (U27.out.mvB (Frm.below hb)); have n_U29_0 := Aside0.mk (U29_0.out.mvB (Frm.below hb)); have n_U30_0 := Aside0.mk (U30_0.out.mvB (Frm.below hb)); have n_U34 := Aside0.mk (U34.out.mvB (Frm.below hb)); have n_U36_0 := Aside0.mk (U36_0.out.mvB (Frm.below hb)); have n_U40_0 := Aside0.mk (U40_0.out.mvB (Frm.below hb)); have n_U54 := Aside0.mk (U54.out.mvB (Frm.below hb)); have n_U59_0 := Aside0.mk (U59_0.out.mvB (Frm.below hb)); have n_U94 := Aside0.mk (U94.out.mvB (Frm.below hb)); have n_U96_0 := Aside0.mk (U96_0.out.mvB (Frm.below hb)); have n_U97_0 := Aside0.mk (U97_0.out.mvB (Frm.below hb)); have n_Bg2 := Aside0.mk (blk_below Bg2.out hb); have n_Bg8 := Aside0.mk (blk_below Bg8.out hb); have n_HB := Aside0.mk (below_step HB.out hb); have NN26 : Aside0 (w25.heap.size ≤ w26.heap.size) := ⟨hb.size⟩; clear U27 U29_0 U30_0 U34 U36_0 U40_0 U54 U59_0 U94 U96_0 U97_0 Bg2 Bg8 HB; have U27 := n_U27; have U29_0 := n_U29_0; have U30_0 := n_U30_0; have U34 := n_U34; have U36_0 := n_U36_0; have U40_0 := n_U40_0; have U54 := n_U54; have U59_0 := n_U59_0; have U94 := n_U94; have U96_0 := n_U96_0; have U97_0 := n_U97_0; have Bg2 := n_Bg2; have Bg8 := n_Bg8; have HB := n_HB; clear n_U27 n_U29_0 n_U30_0 n_U34 n_U36_0 n_U40_0 n_U54 n_U59_0 n_U94 n_U96_0 n_U97_0 n_Bg2 n_Bg8 n_HB; clear hb))
 go_ret
 exact ⟨rfl, HB.out⟩
theorem laws_FnExactRunChain.small0 (k : Nat) (A0_0 : Option Addr) (c0_0 : Nat) (l0_0 : List (List Int)) (A0_1 : Option Addr) (c0_1 : Nat) (l0_1 : List Int) (A1 : Option Addr) (c1 : Nat) (l1 : List Int)  (w : World) (hr0_0 : Kd.C (Kd.slice 2 (Kd.int .i64)) w A0_0 l0_0.length l0_0) (hc0_0 : l0_0.length ≤ c0_0) (hr0_1 : Kd.C (Kd.int .i64) w A0_1 l0_1.length l0_1) (hc0_1 : l0_1.length ≤ c0_1) (hr1 : Kd.C (Kd.int .i64) w A1 l1.length l1) (hc1 : l1.length ≤ c1) (h1 : (l1.length : Int) > 1048576) :
  Calls Try.prog 7 #[.agg #[.slice A0_0 l0_0.length c0_0, .slice A0_1 l0_1.length c0_1], .slice A1 l1.length c1] w fun e w' => e = .returned (.bool true) ∧ Below w.heap.size w w' := by
 have HR0_0 := Aside0.mk hr0_0
 have HC0_0 := Aside0.mk hc0_0
 clear hr0_0 hc0_0
 have HR0_1 := Aside0.mk hr0_1
 have HC0_1 := Aside0.mk hc0_1
 clear hr0_1 hc0_1
 have HR1 := Aside0.mk hr1
 have HC1 := Aside0.mk hc1
 clear hr1 hc1
 have HB := Aside0.mk (Below.refl w.heap.size w)
 go_enter Try.func7, Try.ntmps7
 go_wp2_with (first | ((with_reducible refine gate_dst (N := 2) rfl ?_); refine box_event ?hg (N := 2) ?hd (cs := #[.slice A0_0 l0_0.length c0_0, .slice A0_1 l0_1.length c0_1]) (t := 52) ?hr ?_; (case hd => rfl); (case hg => rfl); (case hr => first | (go_simp; done) | (go_simp; rfl)); intro g2 hg w1 hbox hb; have Gg2 : Aside0 (g2 = w.heap.size) := ⟨hg⟩; have Kg2 := Aside0.mk (blk_lt hbox); clear hg; have n_HB := Aside0.mk (below_step HB.out hb); have NN1 : Aside0 (w.heap.size ≤ w1.heap.size) := ⟨hb.size⟩; clear HB; have HB := n_HB; clear n_HB; have Bg2 := Aside0.mk hbox; clear hb hbox; have hc2_0 : w1.cell? ⟨g2, 0, none⟩ = some (.slice A0_0 l0_0.length c0_0) := (blk_cell Bg2.out 0).trans rfl; have hf2_0 := blk_frozen Bg2.out 0; have hc2_1 : w1.cell? ⟨g2, 1, none⟩ = some (.slice A0_1 l0_1.length c0_1) := (blk_cell Bg2.out 1).trans rfl; have hf2_1 := blk_frozen Bg2.out 1))
 go_ret
 exact ⟨rfl, HB.out⟩
theorem laws_FnExactRunChain.small1 (k : Nat) (A0_0 : Option Addr) (c0_0 : Nat) (l0_0 : List (List Int)) (A0_1 : Option Addr) (c0_1 : Nat) (l0_1 : List Int) (A1 : Option Addr) (c1 : Nat) (l1 : List Int) (t22 : Int) (w : World) (hr0_0 : Kd.C (Kd.slice 2 (Kd.int .i64)) w A0_0 l0_0.length l0_0) (hc0_0 : l0_0.length ≤ c0_0) (hr0_1 : Kd.C (Kd.int .i64) w A0_1 l0_1.length l0_1) (hc0_1 : l0_1.length ≤ c0_1) (hr1 : Kd.C (Kd.int .i64) w A1 l1.length l1) (hc1 : l1.length ≤ c1) (h1 : ¬ (l1.length : Int) > 1048576) (h2 : laws_szProblem.f k l0_0 l0_1 1048576 = some t22) (h3 : t22 < 0) :
  Calls Try.prog 7 #[.agg #[.slice A0_0 l0_0.length c0_0, .slice A0_1 l0_1.length c0_1], .slice A1 l1.length c1] w fun e w' => e = .returned (.bool true) ∧ Below w.heap.size w w' := by
 have HR0_0 := Aside0.mk hr0_0
 have HC0_0 := Aside0.mk hc0_0
 clear hr0_0 hc0_0
 have HR0_1 := Aside0.mk hr0_1
 have HC0_1 := Aside0.mk hc0_1
 clear hr0_1 hc0_1
 have HR1 := Aside0.mk hr1
 have HC1 := Aside0.mk hc1
 clear hr1 hc1
 have HB := Aside0.mk (Below.refl w.heap.size w)
 have H2' := Aside0.mk h2
 clear h2
 go_enter Try.func7, Try.ntmps7
 go_wp2_with (first | ((with_reducible refine gate_dst (N := 2) rfl ?_); refine box_event ?hg (N := 2) ?hd (cs := #[.slice A0_0 l0_0.length c0_0, .slice A0_1 l0_1.length c0_1]) (t := 52) ?hr ?_; (case hd => rfl); (case hg => rfl); (case hr => first | (go_simp; done) | (go_simp; rfl)); intro g2 hg w1 hbox hb; have Gg2 : Aside0 (g2 = w.heap.size) := ⟨hg⟩; have Kg2 := Aside0.mk (blk_lt hbox); clear hg; have n_HB := Aside0.mk (below_step HB.out hb); have NN1 : Aside0 (w.heap.size ≤ w1.heap.size) := ⟨hb.size⟩; clear HB; have HB := n_HB; clear n_HB; have Bg2 := Aside0.mk hbox; clear hb hbox; have hc2_0 : w1.cell? ⟨g2, 0, none⟩ = some (.slice A0_0 l0_0.length c0_0) := (blk_cell Bg2.out 0).trans rfl; have hf2_0 := blk_frozen Bg2.out 0; have hc2_1 : w1.cell? ⟨g2, 1, none⟩ = some (.slice A0_1 l0_1.length c0_1) := (blk_cell Bg2.out 1).trans rfl; have hf2_1 := blk_frozen Bg2.out 1) | ((with_reducible refine gate_callee (f := 37) rfl ?_); refine goesL_ (some 22) rfl rfl Try.func37 (by kernel_rfl) rfl #[.agg #[.slice A0_0 l0_0.length c0_0, .slice A0_1 l0_1.length c0_1], .int .i64 1048576] rfl (by (try simp only [List.map_toArray, List.map_cons, List.map_nil]); first | done | rfl) ?_; refine (laws_szProblem.calls k _ _ l0_0 _ _ l0_1 1048576 t22 _ ?s1 ?s2 ?s3 ?s4 H2'.out).mono ?_; (case s1 => exact Kd.C_below HR0_0.out HB.out); (case s2 => exact HC0_0.out); (case s3 => exact Kd.C_below HR0_1.out HB.out); (case s4 => exact HC0_1.out); rintro e w2 ⟨rfl, hb⟩; refine ⟨_, rfl, ?_⟩; have n_Bg2 := Aside0.mk (blk_below Bg2.out hb); have n_HB := Aside0.mk (below_step HB.out hb); have NN2 : Aside0 (w1.heap.size ≤ w2.heap.size) := ⟨hb.size⟩; clear hc2_0 hf2_0; clear hc2_1 hf2_1; clear Bg2 HB; have Bg2 := n_Bg2; have HB := n_HB; clear n_Bg2 n_HB; clear hb; have hc2_0 : w2.cell? ⟨g2, 0, none⟩ = some (.slice A0_0 l0_0.length c0_0) := (blk_cell Bg2.out 0).trans rfl; have hf2_0 := blk_frozen Bg2.out 0; have hc2_1 : w2.cell? ⟨g2, 1, none⟩ = some (.slice A0_1 l0_1.length c0_1) := (blk_cell Bg2.out 1).trans rfl; have hf2_1 := blk_frozen Bg2.out 1))
 go_ret
 exact ⟨rfl, HB.out⟩
def laws_FnExactRunChain.ok_walk (k : Nat) (l0_0 : List (List Int)) (l0_1 : List Int) (l1 : List Int) : Prop := ∃ (t22 : Int) (s0 : List Int) (s1 : Int) (m1 : Int) (m2 : Int) (m3 : Int), (¬ (l1.length : Int) > 1048576) ∧ (laws_szProblem.f k l0_0 l0_1 1048576 = some t22) ∧ (¬ t22 < 0) ∧ (laws_toProblem.f k l0_0 l0_1 = some (l0_0, l0_1)) ∧ (laws_toInt64S.f k l1 = some l1) ∧ (spec_RunChain.f k l0_0 l0_1 l1 = some (s0, s1)) ∧ (impl_RunChain.f k l0_0 l0_1 l1 = some (s0, s1)) ∧ (laws_eqInt64S.f k s0 s0 = some true) ∧ (laws_eqProblem.f k l0_0 l0_1 l0_0 l0_1 = some true) ∧ (laws_eqInt64S.f k l1 l1 = some true) ∧ (m1 = 1 + (lens l0_0 : Int) + (l0_1.length : Int)) ∧ (1 + (lens l0_0 : Int) + (l0_1.length : Int) ≤ 1099511627776) ∧ (l0_0.length ≤ 1099511627776) ∧ (¬ m1 < 0) ∧ (0 ≤ m1) ∧ (m2 = m1 + (l1.length : Int)) ∧ (m1 + (l1.length : Int) ≤ 1099511627776) ∧ (¬ m2 < 0) ∧ (m3 = 1 + (s0.length : Int)) ∧ (1 + (s0.length : Int) ≤ 1099511627776) ∧ (¬ m3 < 0) ∧ (laws_heldInt64S.f k ((count 1 s0.length)) 1 = some m3)
def laws_FnExactRunChain.ok_small0 (k : Nat) (l0_0 : List (List Int)) (l0_1 : List Int) (l1 : List Int) : Prop := ((l1.length : Int) > 1048576)
def laws_FnExactRunChain.ok_small1 (k : Nat) (l0_0 : List (List Int)) (l0_1 : List Int) (l1 : List Int) : Prop := ∃ (t22 : Int), (¬ (l1.length : Int) > 1048576) ∧ (laws_szProblem.f k l0_0 l0_1 1048576 = some t22) ∧ (t22 < 0)
open Classical in
noncomputable def laws_FnExactRunChain.f (k : Nat) (l0_0 : List (List Int)) (l0_1 : List Int) (l1 : List Int) : Option Bool := if laws_FnExactRunChain.ok_walk k l0_0 l0_1 l1 ∨ laws_FnExactRunChain.ok_small0 k l0_0 l0_1 l1 ∨ laws_FnExactRunChain.ok_small1 k l0_0 l0_1 l1 then some true else none
theorem laws_FnExactRunChain.calls (k : Nat) (A0_0 : Option Addr) (c0_0 : Nat) (l0_0 : List (List Int)) (A0_1 : Option Addr) (c0_1 : Nat) (l0_1 : List Int) (A1 : Option Addr) (c1 : Nat) (l1 : List Int) (r : Bool) (w : World) (hr0_0 : Kd.C (Kd.slice 2 (Kd.int .i64)) w A0_0 l0_0.length l0_0) (hc0_0 : l0_0.length ≤ c0_0) (hr0_1 : Kd.C (Kd.int .i64) w A0_1 l0_1.length l0_1) (hc0_1 : l0_1.length ≤ c0_1) (hr1 : Kd.C (Kd.int .i64) w A1 l1.length l1) (hc1 : l1.length ≤ c1) (h : laws_FnExactRunChain.f k l0_0 l0_1 l1 = some r) :
  Calls Try.prog 7 #[.agg #[.slice A0_0 l0_0.length c0_0, .slice A0_1 l0_1.length c0_1], .slice A1 l1.length c1] w fun e w' => e = .returned (.bool r) ∧ Below w.heap.size w w' := by
 unfold laws_FnExactRunChain.f at h
 split at h
 case isFalse => cases h
 rename_i hok
 cases h
 rcases hok with ⟨t22, s0, s1, m1, m2, m3, h1, h2, h3, h4, h5, h6, h7, h8, h9, h10, h11, h12, h13, h14, h15, h16, h17, h18, h19, h20, h21, h22⟩ | ⟨h1⟩ | ⟨t22, h1, h2, h3⟩
 ·exact laws_FnExactRunChain.walk k A0_0 c0_0 l0_0 A0_1 c0_1 l0_1 A1 c1 l1 t22 s0 s1 m1 m2 m3 w hr0_0 hc0_0 hr0_1 hc0_1 hr1 hc1 h1 h2 h3 h4 h5 h6 h7 h8 h9 h10 h11 h12 h13 h14 h15 h16 h17 h18 h19 h20 h21 h22
 ·exact laws_FnExactRunChain.small0 k A0_0 c0_0 l0_0 A0_1 c0_1 l0_1 A1 c1 l1  w hr0_0 hc0_0 hr0_1 hc0_1 hr1 hc1 h1
 ·exact laws_FnExactRunChain.small1 k A0_0 c0_0 l0_0 A0_1 c0_1 l0_1 A1 c1 l1 t22 w hr0_0 hc0_0 hr0_1 hc0_1 hr1 hc1 h1 h2 h3
end Go.Proofs.Ytjjbhdpjnjncbaa.Pr
end
section
namespace Go.Proofs.Ytjjbhdpjnjncbaa.Say
open Go.Proofs.Ytjjbhdpjnjncbaa.Op Go.Proofs.Ytjjbhdpjnjncbaa.Pr
def FnExactRunChain : Prop := ∀ (l0_0 : List (List Int)) (l0_1 : List Int) (l1 : List Int), GoodList (GoodList (GoodInt .i64)) l0_0 → GoodList (GoodInt .i64) l0_1 → GoodList (GoodInt .i64) l1 → ∃ k, laws_FnExactRunChain.f k l0_0 l0_1 l1 = some true
end Go.Proofs.Ytjjbhdpjnjncbaa.Say
end
section
namespace Go.Proofs.Ytjjbhdpjnjncbaa.Bz
open Go.RowKit Go.Proofs.YtjjbhdpjnjncbaaW.PrintWords Go.Proofs.YtjjbhdpjnjncbaaW.PrintMore Go.Proofs.Ytjjbhdpjnjncbaa.Ma Go.Proofs.Ytjjbhdpjnjncbaa.Dt Go.Proofs.Ytjjbhdpjnjncbaa.Bd
theorem det_scal (L : Int) : ∀ n, det n (fun a b => if a = b then L else 0) = L ^ n := by
 intro n
 induction n with
 | zero => simp [det]
 | succ n ih =>
  rw [det_succ, sm_one (k := 0) (by omega) (fun i _ h => by rw [if_neg (by omega)]; simp)]
  rw [det_congr (A := mnr 0 (fun a b => if a = b then L else 0)) (B := fun a b => if a = b then L else 0) (fun i j _ _ => by simp [mnr, up]), ih]
  rw [if_pos rfl, Int.pow_succ, show sg 0 = 1 from rfl]
  grind
theorem det_zero_col {n c : Nat} (hc : c < n) {A : Mat} (h : ∀ i, i < n → A i c = 0) : det n A = 0 := by
 have := det_col_lin (A := A) (B := A) (C := A) (s := 0) (t := 0) hc (fun i hi => by rw [h i hi]; simp) (fun i j _ _ _ => ⟨rfl, rfl⟩)
 simpa using this
theorem det_1 (A : Mat) : det 1 A = A 0 0 := by simp [det, sm, sg]
theorem det_2 (A : Mat) : det 2 A = A 0 0 * A 1 1 - A 0 1 * A 1 0 := by
 simp [det, sm, sg, mnr, up]
 omega
def rs (i : Nat) (A : Mat) (r c : Nat) : Int := det i A * A r c - sm i (fun t => det i (rset t (A r) A) * A t c)
theorem rs_zero (i : Nat) (A : Mat) (r : Nat) {j : Nat} (hj : j < i) : rs i A r j = 0 := by
 unfold rs
 rw [adj_row A (A r) hj]; omega
theorem block_elim (i d : Nat) (A : Mat) : det i A ^ d * det (i + d) A = det i A * det d (fun a b => rs i A (i + a) (i + b)) := by
 let E : Mat := fun a b => if a < i then one a b else if b < i then - det i (rset b (A a) A) else if a = b then det i A else 0
 have hE : det (i + d) E = det i A ^ d := by
  rw [det_block d i E (fun a b ha hb _ => by simp only [E, if_pos ha, one]; rw [if_neg (by omega)])]
  rw [det_congr (A := E) (B := one) (fun a b ha _ => by simp only [E, if_pos ha]), det_one, Int.one_mul, ← det_scal]
  exact det_congr (fun a b _ _ => by simp only [sh, E]; rw [if_neg (by omega), if_neg (by omega)]; simp)
 have hlow (a b : Nat) (ha : i ≤ a) (ha2 : a < i + d) : mul (i + d) E A a b = rs i A a b := by
  unfold mul
  rw [sm_split, sm_congr (f := fun k => E a k * A k b) (g := fun k => (-1) * (det i (rset k (A a) A) * A k b)) (fun k hk => by simp only [E]; rw [if_neg (by omega), if_pos hk]; grind), sm_mul]
  rw [sm_one (n := d) (k := a - i) (by omega) (fun k hk hne => by simp only [E]; rw [if_neg (by omega), if_neg (by omega), if_neg (by omega)]; simp)]
  simp only [E]
  rw [if_neg (by omega), if_neg (by omega), if_pos (by omega), show i + (a - i) = a from by omega]
  unfold rs
  omega
 have hup (a b : Nat) (ha : a < i) : mul (i + d) E A a b = A a b := by
  unfold mul
  rw [sm_one (k := a) (by omega) (fun k hk hne => by simp only [E, if_pos ha, one]; rw [if_neg (by omega)]; simp)]
  simp [E, ha, one]
 rw [← hE, ← det_mul, det_block' d i (mul (i + d) E A) (fun a b h1 h2 h3 => by rw [hlow a b h1 h2, rs_zero i A a h3])]
 rw [det_congr (A := mul (i + d) E A) (B := A) (fun a b ha _ => hup a b ha)]
 congr 1
 exact det_congr (fun a b ha _ => by simp only [sh]; exact hlow _ _ (by omega) (by omega))
def bord (i r c : Nat) (A : Mat) : Mat := fun a b => A (if a < i then a else r) (if b < i then b else c)
def bm (i r c : Nat) (A : Mat) : Int := det (i + 1) (bord i r c A)
theorem rs_re (i : Nat) (A B : Mat) (r c r' c' : Nat) (h1 : ∀ a b, a < i → b < i → B a b = A a b) (h2 : ∀ b, b < i → B r' b = A r b) (h3 : ∀ a, a < i → B a c' = A a c) (h4 : B r' c' = A r c) : rs i B r' c' = rs i A r c := by
 unfold rs
 rw [det_congr (A := B) (B := A) h1, h4]
 congr 1
 refine sm_congr (fun t ht => ?_)
 rw [h3 t ht, det_congr (A := rset t (B r') B) (B := rset t (A r) A) (fun a b ha hb => by
  unfold rset
  split
  ·exact h2 b hb
  ·exact h1 a b ha hb)]
theorem bm_rs {i : Nat} {A : Mat} (hL : det i A ≠ 0) (r c : Nat) : bm i r c A = rs i A r c := by
 have h := block_elim i 1 (bord i r c A)
 rw [det_1, det_congr (A := bord i r c A) (B := A) (n := i) (fun a b ha hb => by simp [bord, ha, hb]), Int.pow_succ, Int.pow_zero, Int.one_mul] at h
 rw [rs_re i A (bord i r c A) r c (i + 0) (i + 0) (fun a b ha hb => by simp [bord, ha, hb]) (fun b hb => by simp [bord, hb]) (fun a ha => by simp [bord, ha]) (by simp [bord])] at h
 exact Int.eq_of_mul_eq_mul_left hL h
theorem sylv {i : Nat} {A : Mat} (hL : det i A ≠ 0) (r c : Nat) : det i A * bm (i + 1) r c A = bm i i i A * bm i r c A - bm i i c A * bm i r i A := by
 have h := block_elim i 2 (bord (i + 1) r c A)
 rw [det_2, det_congr (A := bord (i + 1) r c A) (B := A) (n := i) (fun a b ha hb => by unfold bord; rw [if_pos (by omega), if_pos (by omega)])] at h
 have q (a b r' c' : Nat) (ha : (if a < i + 1 then a else r) = r') (hb : (if b < i + 1 then b else c) = c') : rs i (bord (i + 1) r c A) a b = rs i A r' c' :=
  rs_re i A (bord (i + 1) r c A) r' c' a b (fun x y hx hy => by unfold bord; rw [if_pos (by omega), if_pos (by omega)]) (fun y hy => by unfold bord; rw [ha, if_pos (by omega)]) (fun x hx => by unfold bord; rw [hb, if_pos (by omega)]) (by unfold bord; rw [ha, hb])
 rw [q (i + 0) (i + 0) i i (by simp) (by simp), q (i + 1) (i + 1) r c (by simp) (by simp), q (i + 0) (i + 1) i c (by simp) (by simp), q (i + 1) (i + 0) r i (by simp) (by simp)] at h
 rw [← bm_rs hL, ← bm_rs hL, ← bm_rs hL, ← bm_rs hL] at h
 have e : det i A ^ 2 * det (i + 2) (bord (i + 1) r c A) = det i A * (det i A * bm (i + 1) r c A) := by unfold bm; grind
 rw [e] at h
 exact Int.eq_of_mul_eq_mul_left hL h
def fact : Nat → Nat
 | 0 => 1
 | n + 1 => (n + 1) * fact n
def b20 (n : Nat) : Nat := fact n * 20 ^ n
theorem sm_abs {n B : Nat} {f : Nat → Int} (h : ∀ i, i < n → (f i).natAbs ≤ B) : (sm n f).natAbs ≤ n * B := by
 induction n with
 | zero => simp [sm]
 | succ n ih =>
  have h1 := ih (fun i hi => h i (by omega))
  have h2 := h n (by omega)
  have h3 := Int.natAbs_add_le (sm n f) (f n)
  simp only [sm]
  rw [Nat.add_mul, Nat.one_mul]
  omega
theorem sg_abs (k : Nat) : (sg k).natAbs = 1 := by unfold sg; split <;> rfl
theorem det_abs20 : ∀ (n : Nat) (A : Mat), (∀ i j, i < n → j < n → (A i j).natAbs ≤ 20) → (det n A).natAbs ≤ b20 n := by
 intro n
 induction n with
 | zero => intro A _; show (1 : Int).natAbs ≤ 1; decide
 | succ n ih =>
  intro A h
  rw [det_succ]
  refine Nat.le_trans (sm_abs (B := 20 * b20 n) (fun k hk => ?_)) ?_
  ·rw [Int.natAbs_mul, Int.natAbs_mul, sg_abs, Nat.one_mul]
   exact Nat.mul_le_mul (h 0 k (by omega) hk) (ih (mnr k A) (fun i j hi hj => h _ _ (by omega) (up_lt hj)))
  ·unfold b20; rw [fact, Nat.pow_succ]
   exact Nat.le_of_eq (by grind)
def Bk (n k : Nat) (A : Mat) : Prop := ∀ i j, i < n → j < n → (A i j).natAbs ≤ if j = k then 100 else 20
theorem det_absk : ∀ (n k : Nat) (A : Mat), Bk n k A → (det n A).natAbs ≤ 5 * b20 n := by
 intro n
 induction n with
 | zero => intro k A _; show (1 : Int).natAbs ≤ 5 * 1; decide
 | succ n ih =>
  intro k A h
  rw [det_succ]
  refine Nat.le_trans (sm_abs (B := 100 * b20 n) (fun c hc => ?_)) ?_
  ·rw [Int.natAbs_mul, Int.natAbs_mul, sg_abs, Nat.one_mul]
   have h0 := h 0 c (by omega) hc
   by_cases e : c = k
   ·subst e
    rw [if_pos rfl] at h0
    exact Nat.mul_le_mul h0 (det_abs20 n (mnr c A) (fun i j hi hj => by have := h (i + 1) (up c j) (by omega) (up_lt hj); rwa [if_neg (up_ne c j)] at this))
   ·rw [if_neg e] at h0
    have := ih (dn c k) (mnr c A) (fun i j hi hj => by
     have := h (i + 1) (up c j) (by omega) (up_lt hj)
     unfold mnr
     by_cases q : up c j = k
     ·rw [if_pos q] at this
      rw [if_pos (by rw [← q, dn_up])]; exact this
     ·rw [if_neg q] at this
      split <;> omega)
    calc (A 0 c).natAbs * (det n (mnr c A)).natAbs ≤ 20 * (5 * b20 n) := Nat.mul_le_mul h0 this
     _ = 100 * b20 n := by omega
  ·unfold b20; rw [fact, Nat.pow_succ]
   exact Nat.le_of_eq (by grind)
theorem b20_le : ∀ n, n ≤ 5 → 5 * b20 n ≤ 1920000000 := by
 intro n h
 match n, h with
 | 0, _ => decide
 | 1, _ => decide
 | 2, _ => decide
 | 3, _ => decide
 | 4, _ => decide
 | 5, _ => decide
 | n + 6, h => omega
theorem bm_abs {n k : Nat} (hn : n ≤ 5) {A : Mat} (h : Bk n k A) {i r c : Nat} (hi : i < n) (hr : r < n) (hic : i ≤ c) (hc : c < n) : -1920000000 ≤ bm i r c A ∧ bm i r c A ≤ 1920000000 := by
 have h1 : (bm i r c A).natAbs ≤ 5 * b20 (i + 1) := det_absk (i + 1) (if k < i then k else i) _ (fun a b ha hb => by
  unfold bord
  have := h (if a < i then a else r) (if b < i then b else c) (by split <;> omega) (by split <;> omega)
  refine Nat.le_trans this ?_
  grind)
 have h2 := b20_le (i + 1) (by omega)
 omega
theorem prod_b {x y : Int} (hx : -1920000000 ≤ x ∧ x ≤ 1920000000) (hy : -1920000000 ≤ y ∧ y ≤ 1920000000) : -3686400000000000000 ≤ x * y ∧ x * y ≤ 3686400000000000000 := by
 have h : (x * y).natAbs ≤ 1920000000 * 1920000000 := by rw [Int.natAbs_mul]; exact Nat.mul_le_mul (by omega) (by omega)
 omega
structure Inv (n k i : Nat) (M : Mat) (last turn : Int) (A A0 : Mat) : Prop where
 le : i ≤ n
 small : Bk n k A
 num : ∀ r c, i ≤ r → r < n → i ≤ c → c < n → M r c = bm i r c A
 last_ : last = det i A
 nz : last ≠ 0
 turn_ : turn = 1 ∨ turn = -1
 det_ : turn * det n A = det n A0
section
variable {n k : Nat} (hn : n ≤ 5) {A0 : Mat}
include hn
theorem Inv.step {i : Nat} {M A : Mat} {last turn : Int} (h : Inv n k i M last turn A A0) (hi : i < n) (hp : M i i ≠ 0) : Inv n k (i + 1) (el M i last) (M i i) turn A A0 := by
 have hL : det i A ≠ 0 := by rw [← h.last_]; exact h.nz
 have hpi := h.num i i (Nat.le_refl _) hi (Nat.le_refl _) hi
 refine ⟨by omega, h.small, fun r c hr hrn hc hcn => ?_, ?_, hp, h.turn_, h.det_⟩
 ·unfold el ev
  rw [if_pos (by omega), h.num r c (by omega) hrn (by omega) hcn, hpi, h.num r i (by omega) hrn (Nat.le_refl _) hi, h.num i c (Nat.le_refl _) hi (by omega) hcn]
  have p1 := prod_b (bm_abs hn h.small hi hrn (by omega) hcn) (bm_abs hn h.small hi hi (Nat.le_refl _) hi)
  have p2 := prod_b (bm_abs hn h.small hi hrn (Nat.le_refl _) hi) (bm_abs hn h.small hi hi (by omega) hcn)
  have s := sylv hL r c
  have e : bm i r c A * bm i i i A - bm i r i A * bm i i c A = det i A * bm (i + 1) r c A := by rw [s]; grind
  have b := bm_abs hn h.small (i := i + 1) (r := r) (c := c) (by omega) hrn hc hcn
  rw [w64 (x := bm i r c A * bm i i i A) (by omega) (by omega), w64 (x := bm i r i A * bm i i c A) (by omega) (by omega), w64 (x := bm i r c A * bm i i i A - bm i r i A * bm i i c A) (by omega) (by omega), e, h.last_, Int.mul_tdiv_cancel_left _ hL]
  exact w64 (by omega) (by omega)
 ·rw [hpi]; unfold bm
  exact det_congr (fun a b ha hb => by
   unfold bord
   have e1 : (if a < i then a else i) = a := by split <;> omega
   have e2 : (if b < i then b else i) = b := by split <;> omega
   rw [e1, e2])
theorem Inv.none_ {i : Nat} {M A : Mat} {last turn : Int} (h : Inv n k i M last turn A A0) (hi : i < n) (hz : ∀ r, i ≤ r → r < n → M r i = 0) : det n A0 = 0 := by
 have _h := hn
 have hL : det i A ≠ 0 := by rw [← h.last_]; exact h.nz
 have b := block_elim i (n - i) A
 rw [show i + (n - i) = n from by omega, det_zero_col (c := 0) (A := fun a b => rs i A (i + a) (i + b)) (by omega) (fun a ha => by
  rw [← bm_rs hL, Nat.add_zero, ← h.num (i + a) i (by omega) (by omega) (Nat.le_refl _) hi]; exact hz _ (by omega) (by omega)), Int.mul_zero] at b
 have : det n A = 0 := by
  rcases Int.mul_eq_zero.1 b with b | b
  ·exact absurd b (Int.pow_ne_zero hL)
  ·exact b
 rw [← h.det_, this, Int.mul_zero]
theorem Inv.swap {i s : Nat} {M A : Mat} {last turn : Int} (h : Inv n k i M last turn A A0) (his : i < s) (hs : s < n) : Inv n k i (swp M i s) last (wrap64 (-turn)) (swp A i s) A0 := by
 have _h := hn
 have hsr (r : Nat) (hr : r < n) : (if r = i then s else if r = s then i else r) < n := by grind
 have hlow (a : Nat) (ha : a < i) : (if a = i then s else if a = s then i else a) = a := by rw [if_neg (by omega), if_neg (by omega)]
 have w : wrap64 (-turn) = -turn := w64 (by have := h.turn_; omega) (by have := h.turn_; omega)
 refine ⟨h.le, fun a b ha hb => h.small _ _ (hsr a ha) hb, fun r c hr hrn hc hcn => ?_, ?_, h.nz, by rw [w]; have := h.turn_; omega, ?_⟩
 ·unfold swp
  rw [h.num _ c (by grind) (hsr r hrn) hc hcn]
  unfold bm
  refine det_congr (fun a b _ _ => ?_)
  unfold bord
  by_cases ha : a < i
  ·simp only [if_pos ha]; rw [hlow a ha]
  ·simp only [if_neg ha]
 ·rw [h.last_]
  exact det_congr (fun a b ha _ => by unfold swp; rw [hlow a ha])
 ·have e := (det_form n).swap (r := i) (q := s) (A := A) (B := swp A i s) (by omega) hs (by omega) (fun j _ => ⟨by unfold swp; rw [if_pos rfl], by unfold swp; rw [if_neg (by omega), if_pos rfl]⟩) (fun a b _ _ h1 h2 => by unfold swp; rw [if_neg h1, if_neg h2])
  rw [e, w, ← h.det_]
  grind
theorem dgo_inv : ∀ (q i : Nat), i + q = n → ∀ (M A : Mat) (last turn : Int), Inv n k i M last turn A A0 → dgo n q i M last turn = det n A0 := by
 intro q
 induction q with
 | zero =>
  intro i hi M A last turn h
  obtain rfl : i = n := by omega
  show wrap64 (turn * last) = _
  rw [h.last_, h.det_]
  have b := det_absk i k A h.small
  have b2 := b20_le i hn
  have t := h.turn_
  have e := h.det_
  have : (det i A0).natAbs = (det i A).natAbs := by
   rw [← e, Int.natAbs_mul]
   rcases t with t | t <;> rw [t] <;> simp
  exact w64 (by omega) (by omega)
 | succ q ih =>
  intro i hi M A last turn h
  unfold dgo
  cases hf : fnd M i (n - i) 0 with
  | none =>
   have hz := fnd_none hf
   exact (h.none_ hn (by omega) (fun r h1 h2 => by have := hz (r - i) (Nat.zero_le _) (by omega); rwa [show i + (r - i) = r from by omega] at this)).symm
  | some kk =>
   obtain ⟨_, h2, h3, _⟩ := fnd_some hf
   cases kk with
   | zero => exact ih (i + 1) (by omega) _ A _ _ (h.step hn (by omega) h3)
   | succ kk =>
    have hs := h.swap hn (s := i + (kk + 1)) (by omega) (by omega)
    exact ih (i + 1) (by omega) _ _ _ _ (hs.step hn (by omega) (by unfold swp; rw [if_pos rfl]; exact h3))
end
theorem dgo_det {n k : Nat} (hn : n ≤ 5) (A : Mat) (h : Bk n k A) : dgo n n 0 A 1 1 = det n A := by
 refine dgo_inv hn (k := k) n 0 (by omega) A A 1 1 ⟨Nat.zero_le _, h, fun r c _ _ _ _ => ?_, rfl, by decide, .inl rfl, Int.one_mul _⟩
 unfold bm
 rw [det_1]; simp [bord]
end Go.Proofs.Ytjjbhdpjnjncbaa.Bz
end
section
namespace Go.Proofs.Ytjjbhdpjnjncbaa.Un
open Go.RowKit Go.Proofs.YtjjbhdpjnjncbaaW.PrintWords Go.Proofs.YtjjbhdpjnjncbaaW.PrintMore Go.Proofs.Ytjjbhdpjnjncbaa.Ma Go.Proofs.Ytjjbhdpjnjncbaa.Dt Go.Proofs.Ytjjbhdpjnjncbaa.Bz
theorem det_unit_row {n k : Nat} (hk : k < n + 1) (A : Mat) (h : ∀ j, j < n + 1 → A k j = if j = k then 1 else 0) : det (n + 1) A = det n (fun i j => A (up k i) (up k j)) := by
 have e1 : det (n + 1) A = det (n + 1) (mv k k (A k) A) := det_congr (fun i j _ _ => by
  unfold mv up
  by_cases c : i < k
  ·simp [c]
  ·by_cases c2 : i = k
   ·subst c2; simp
   ·rw [if_neg c, if_neg c2, if_neg (by omega), show i - 1 + 1 = i from by omega])
 rw [e1, mv_sg k (A k) A k hk, det_succ, sm_one hk (fun j hj hne => by
  have : mv 0 k (A k) A 0 j = A k j := by simp [mv]
  rw [this, h j hj, if_neg hne]; simp)]
 have e2 : mv 0 k (A k) A 0 k = 1 := by
  have : mv 0 k (A k) A 0 k = A k k := by simp [mv]
  rw [this, h k hk, if_pos rfl]
 rw [e2, det_congr (A := mnr k (mv 0 k (A k) A)) (B := fun i j => A (up k i) (up k j)) (fun i j _ _ => by simp [mnr, mv])]
 have := sg_sq k
 grind
theorem det_unit_col {n k : Nat} (hk : k < n + 1) (A : Mat) (h : ∀ i, i < n + 1 → A i k = if i = k then 1 else 0) : det (n + 1) A = det n (fun i j => A (up k i) (up k j)) := by
 rw [← det_tr (n + 1) A, det_unit_row hk (tr A) h, ← det_tr n]
 rfl
def subm (L : List Nat) (A : Mat) : Mat := fun i j => A (L.getD i 0) (L.getD j 0)
theorem getD_up (pre suf : List Nat) (k i : Nat) : (pre ++ k :: suf).getD (up pre.length i) 0 = (pre ++ suf).getD i 0 := by
 unfold up
 rw [List.getD_eq_getElem?_getD, List.getD_eq_getElem?_getD]
 by_cases c : i < pre.length
 ·rw [if_pos c, List.getElem?_append_left c, List.getElem?_append_left c]
 ·rw [if_neg c, List.getElem?_append_right (by omega), List.getElem?_append_right (by omega), show i + 1 - pre.length = (i - pre.length) + 1 from by omega, List.getElem?_cons_succ]
theorem getD_at (pre suf : List Nat) (k : Nat) : (pre ++ k :: suf).getD pre.length 0 = k := by simp
theorem det_sel (P : Nat → Bool) (C : Mat) (hC : ∀ i k, P k = false → C i k = if i = k then 1 else 0) : ∀ (suf pre : List Nat), (pre ++ suf).Nodup → det (pre ++ suf).length (subm (pre ++ suf) C) = det (pre ++ suf.filter P).length (subm (pre ++ suf.filter P) C) := by
 intro suf
 induction suf with
 | nil => intro pre _; rfl
 | cons k suf ih =>
  intro pre hn
  cases hk : P k with
  | true =>
   have h := ih (pre ++ [k]) (by rw [List.append_assoc]; exact hn)
   rw [List.filter_cons_of_pos hk]
   simpa [List.append_assoc] using h
  | false =>
   rw [List.filter_cons_of_neg (by simp [hk])]
   have hn2 : (pre ++ suf).Nodup := hn.sublist (List.Sublist.append (List.Sublist.refl _) (List.sublist_cons_self _ _))
   rw [← ih pre hn2]
   have hlen : (pre ++ k :: suf).length = (pre ++ suf).length + 1 := by simp; omega
   rw [hlen, det_unit_col (k := pre.length) (by simp; omega) (subm (pre ++ k :: suf) C) (fun i hi => ?_)]
   ·exact det_congr (fun i j _ _ => by simp only [subm, getD_up])
   ·simp only [subm]
    rw [getD_at, hC _ k hk]
    have hi' : i < (pre ++ k :: suf).length := by omega
    have hp : pre.length < (pre ++ k :: suf).length := by simp
    have e : (pre ++ k :: suf).getD i 0 = (pre ++ k :: suf)[i] := by rw [List.getD_eq_getElem?_getD, List.getElem?_eq_getElem hi']; rfl
    rw [e]
    by_cases c : i = pre.length
    ·subst c; simp
    ·rw [if_neg c, if_neg]
     intro q
     have q2 : (pre ++ k :: suf)[i] = (pre ++ k :: suf)[pre.length] := by rw [q]; simp
     exact c ((List.getElem_inj hn).1 q2)
def sel (n : Nat) (P : Nat → Bool) : List Nat := (List.range n).filter P
theorem det_units (n : Nat) (P : Nat → Bool) (C : Mat) (hC : ∀ i k, P k = false → C i k = if i = k then 1 else 0) : det n C = det (sel n P).length (subm (sel n P) C) := by
 have h := det_sel P C hC (List.range n) [] (by simp; exact List.nodup_range)
 simp only [List.nil_append, List.length_range] at h
 rw [← show det n (subm (List.range n) C) = det n C from det_congr (fun i j hi hj => by simp [subm, hi, hj]), h]
 rfl
theorem det_neg (n : Nat) (A : Mat) : det n (fun i j => - A i j) = (-1) ^ n * det n A := by
 rw [← det_scal, ← det_mul]
 refine det_congr (fun i j hi _ => ?_)
 unfold mul
 rw [sm_one hi (fun k _ h => by simp [Ne.symm h])]
 simp
def colM (P : Nat → Bool) (M : Mat) : Mat := fun i k => if P k = true then - M i k else if i = k then 1 else 0
theorem det_colM (n : Nat) (P : Nat → Bool) (M : Mat) : det n (colM P M) = (-1) ^ (sel n P).length * det (sel n P).length (subm (sel n P) M) := by
 rw [det_units n P (colM P M) (fun i k h => by unfold colM; rw [if_neg (by simp [h])]), ← det_neg]
 refine det_congr (fun i j hi hj => ?_)
 have hP : P ((sel n P).getD j 0) = true := by
  rw [List.getD_eq_getElem?_getD, List.getElem?_eq_getElem hj]
  exact (List.mem_filter.1 (List.getElem_mem hj)).2
 simp only [subm, colM]
 rw [if_pos hP]
theorem det_colM_zero (n : Nat) (P : Nat → Bool) (M : Mat) : det n (colM P M) = 0 ↔ det (sel n P).length (subm (sel n P) M) = 0 := by
 rw [det_colM]
 constructor
 ·intro h
  rcases Int.mul_eq_zero.1 h with h | h
  ·exact absurd h (Int.pow_ne_zero (by decide))
  ·exact h
 ·intro h; rw [h, Int.mul_zero]
end Go.Proofs.Ytjjbhdpjnjncbaa.Un
end
section
namespace Go.Proofs.Ytjjbhdpjnjncbaa.Cz
open Go.RowKit Go.Proofs.YtjjbhdpjnjncbaaW.PrintWords Go.Proofs.YtjjbhdpjnjncbaaW.PrintMore Go.Proofs.Ytjjbhdpjnjncbaa.Ma Go.Proofs.Ytjjbhdpjnjncbaa.Pr Go.Proofs.Ytjjbhdpjnjncbaa.Dt Go.Proofs.Ytjjbhdpjnjncbaa.Bz Go.Proofs.Ytjjbhdpjnjncbaa.Un
def en (l : List (List Int)) : Mat := fun i j => (l.getD i []).getD j 0
structure Sq (n : Nat) (l : List (List Int)) : Prop where
 len : l.length = n
 row : ∀ i, i < n → (l.getD i []).length = n
 num : ∀ i j, i < n → j < n → (en l i j).natAbs ≤ 20
theorem rdL1 (l : List (List Int)) (i : Nat) : rd_L1 l (i : Int) = l.getD i [] := by simp [rd_L1]
def rw1 (m : Nat) (f : Nat → Int) : List Int := (List.range m).map f
theorem rw1_len (m : Nat) (f : Nat → Int) : (rw1 m f).length = m := by simp [rw1]
theorem rw1_succ (m : Nat) (f : Nat → Int) : rw1 (m + 1) f = rw1 m f ++ [f m] := by simp [rw1, List.range_succ]
def mk (r m : Nat) (f : Nat → Nat → Int) : List (List Int) := (List.range r).map fun i => rw1 m (f i)
theorem mk_len (r m : Nat) (f : Nat → Nat → Int) : (mk r m f).length = r := by simp [mk]
theorem mk_succ (r m : Nat) (f : Nat → Nat → Int) : mk (r + 1) m f = mk r m f ++ [rw1 m (f r)] := by simp [mk, List.range_succ]
theorem mk_row (r m : Nat) (f : Nat → Nat → Int) (i : Nat) (hi : i < r) : (mk r m f).getD i [] = rw1 m (f i) := by simp [mk, hi]
theorem mk_en (r m : Nat) (f : Nat → Nat → Int) (i j : Nat) (hi : i < r) (hj : j < m) : en (mk r m f) i j = f i j := by
 unfold en; rw [mk_row r m f i hi]; simp [rw1, hj]
theorem mk_rows (r m : Nat) (f : Nat → Nat → Int) : ∀ x ∈ mk r m f, x.length = m := by
 intro x hx
 obtain ⟨i, _, rfl⟩ := List.mem_map.1 hx
 exact rw1_len _ _
section
variable {n : Nat} {l : List (List Int)} (h : Sq n l) (hn : n ≤ 5) (s : Int)
include h hn
theorem spec_cols : Ev (fun k => spec_l01Columns.f k l s) (mk n n (colM (bB s) (en l))) := by
 have hl := h.len
 have rows : ∀ q i, i + q = n → Ev (fun k => spec_l01Columns.l0 k l s (mk i n (colM (bB s) (en l))) i) (mk n n (colM (bB s) (en l))) := by
  intro q
  induction q with
  | zero =>
   intro i hi
   obtain rfl : i = n := by omega
   exact evstep (fun k => by rw [spec_l01Columns.l0]) (evneg (by omega) (evc rfl))
  | succ q ih =>
   intro i hi
   have nx := ih (i + 1) (by omega)
   have hr := h.row i (by omega)
   have cols : ∀ p c, c + p = n → Ev (fun k => spec_l01Columns.l1 k l s (mk i n (colM (bB s) (en l))) i (rw1 c (colM (bB s) (en l) i)) c) (mk n n (colM (bB s) (en l))) := by
    intro p
    induction p with
    | zero =>
     intro c hc
     obtain rfl : c = n := by omega
     refine evstep (fun k => by rw [spec_l01Columns.l1]) (evneg (by omega) (evpos (by rw [mk_len]; omega) ?_))
     rw [w64 (x := (i : Int) + 1) (by omega) (by omega), ← mk_succ]
     exact nx
    | succ p ihp =>
     intro c hc
     have nx2 := ihp (c + 1) (by omega)
     rw [rw1_succ] at nx2
     have hnum := h.num i c (by omega) (by omega)
     refine evstep (fun k => by rw [spec_l01Columns.l1]) (evpos (by omega) ?_)
     rw [u64w (x := (c : Int)) (by omega) (by omega), shr_and_one s (by omega)]
     refine evpos (by omega) ?_
     have ce : colM (bB s) (en l) i c = if bB s c = true then - en l i c else if i = c then 1 else 0 := rfl
     by_cases b : bB s c = true
     ·rw [if_pos b] at ce
      rw [ce] at nx2
      rw [rdL1]
      refine evpos (by rw [if_pos b]) (evpos (by omega) (evpos (by omega) (evpos (by omega) (evpos (by omega) (evpos (by rw [rw1_len]; omega) ?_)))))
      rw [rd_nat, show (l.getD i []).getD c 0 = en l i c from rfl, w64 (x := - en l i c) (by omega) (by omega), w64 (x := (c : Int) + 1) (by omega) (by omega)]
      exact nx2
     ·rw [if_neg b] at ce
      refine evneg (by rw [if_neg b]; decide) ?_
      rw [w64 (x := (c : Int) + 1) (by omega) (by omega)]
      by_cases e : i = c
      ·rw [if_pos e] at ce
       rw [ce] at nx2
       exact evpos (by omega) (evpos (by rw [rw1_len]; omega) nx2)
      ·rw [if_neg e] at ce
       rw [ce] at nx2
       exact evneg (by omega) (evpos (by rw [rw1_len]; omega) nx2)
   refine evstep (fun k => by rw [spec_l01Columns.l0]) (evpos (by omega) ?_)
   exact cols n 0 (by omega)
 exact rows n 0 (by omega)
def partL (l : List (List Int)) (R L : List Nat) : List (List Int) := R.map fun i => L.map fun j => en l i j
theorem has_eq (c : Nat) (hc : c < 64) : impl_has.f s (c : Int) = some (bB s c) := by
 have _h := h
 have _h2 := hn
 unfold impl_has.f
 rw [if_pos (by omega), shr_and_one s hc]
 congr 1
 cases hb : bB s c <;> simp
theorem impl_part_eq : Ev (fun k => impl_part.f k l s s) (partL l (sel n (bB s)) (sel n (bB s))) := by
 have hl := h.len
 have sel_succ (i : Nat) : sel (i + 1) (bB s) = if bB s i = true then sel i (bB s) ++ [i] else sel i (bB s) := by
  unfold sel; rw [List.range_succ, List.filter_append]
  by_cases b : bB s i = true
  ·simp [b]
  ·simp [b]
 have sel_len (i : Nat) : (sel i (bB s)).length ≤ i := by unfold sel; have := List.length_filter_le (bB s) (List.range i); simpa using this
 have rows : ∀ q i, i + q = n → Ev (fun k => impl_part.l0 k s s (partL l (sel i (bB s)) (sel n (bB s))) l (n : Int) i) (partL l (sel n (bB s)) (sel n (bB s))) := by
  intro q
  induction q with
  | zero =>
   intro i hi
   obtain rfl : i = n := by omega
   exact evstep (fun k => by rw [impl_part.l0]) (evneg (by omega) (evc rfl))
  | succ q ih =>
   intro i hi
   have nx := ih (i + 1) (by omega)
   rw [sel_succ] at nx
   have hr := h.row i (by omega)
   refine evstep (fun k => by rw [impl_part.l0]) (evpos (by omega) (evpos (by omega) (evpos (by omega) (evsome (has_eq h hn s i (by omega)) ?_))))
   rw [w64 (x := (i : Int) + 1) (by omega) (by omega)]
   by_cases b : bB s i = true
   ·refine evpos b ?_
    rw [if_pos b] at nx
    rw [rdL1]
    have cols : ∀ p c, c + p = n → Ev (fun k => impl_part.l1 k s s (partL l (sel i (bB s)) (sel n (bB s))) ((sel c (bB s)).map fun j => en l i j) l (n : Int) i (l.getD i []) ((l.getD i []).length : Int) c) (partL l (sel n (bB s)) (sel n (bB s))) := by
     intro p
     induction p with
     | zero =>
      intro c hc
      obtain rfl : c = n := by omega
      refine evstep (fun k => by rw [impl_part.l1]) (evneg (by omega) (evpos ?_ ?_))
      ·unfold partL; rw [List.length_map]; have := sel_len i; omega
      ·rw [w64 (x := (i : Int) + 1) (by omega) (by omega)]
       unfold partL at nx ⊢
       rw [List.map_append] at nx
       exact nx
     | succ p ihp =>
      intro c hc
      have nx2 := ihp (c + 1) (by omega)
      rw [sel_succ] at nx2
      refine evstep (fun k => by rw [impl_part.l1]) (evpos (by omega) (evpos (by omega) (evpos (by omega) (evsome (has_eq h hn s c (by omega)) ?_))))
      rw [w64 (x := (c : Int) + 1) (by omega) (by omega)]
      by_cases b2 : bB s c = true
      ·rw [if_pos b2, List.map_append] at nx2
       refine evpos b2 (evpos (by rw [List.length_map]; have := sel_len c; omega) ?_)
       rw [rd_nat]
       exact nx2
      ·rw [if_neg b2] at nx2
       exact evneg b2 nx2
    have := cols n 0 (by omega)
    exact this
   ·rw [if_neg b] at nx
    exact evneg b nx
 have := rows n 0 (by omega)
 unfold impl_part.f
 rw [hl]
 exact this
end
end Go.Proofs.Ytjjbhdpjnjncbaa.Cz
end
section
namespace Go.Proofs.Ytjjbhdpjnjncbaa.Pb
open Go.RowKit Go.Proofs.YtjjbhdpjnjncbaaW.PrintWords Go.Proofs.YtjjbhdpjnjncbaaW.PrintMore Go.Proofs.Ytjjbhdpjnjncbaa.Ma Go.Proofs.Ytjjbhdpjnjncbaa.Pr Go.Proofs.Ytjjbhdpjnjncbaa.Dt Go.Proofs.Ytjjbhdpjnjncbaa.Bz Go.Proofs.Ytjjbhdpjnjncbaa.Cz
theorem sin_eq (x a b : Int) : spec_l01In.f x a b = some (decide (a ≤ x ∧ x ≤ b)) := by
 unfold spec_l01In.f
 by_cases h : x ≥ a
 ·rw [if_pos h]; congr 1; rw [Bool.eq_iff_iff]; simp; omega
 ·rw [if_neg h]; congr 1; rw [Bool.eq_iff_iff]; simp; omega
theorem head_step {P : Nat → Prop} {i d : Nat} (h : i < d) : (∀ j, i ≤ j → j < d → P j) ↔ P i ∧ ∀ j, i + 1 ≤ j → j < d → P j :=
 ⟨fun q => ⟨q i (Nat.le_refl _) h, fun j h1 h2 => q j (by omega) h2⟩, fun q j h1 h2 => by
  by_cases e : j = i
  ·subst e; exact q.1
  ·exact q.2 j (by omega) h2⟩
theorem no_iff {b : Bool} {p : Prop} (h : b = true ↔ p) (hp : ¬ p) : b = false := by
 cases b with
 | false => rfl
 | true => exact absurd (h.1 rfl) hp
def N20 (x : Int) : Prop := -20 ≤ x ∧ x ≤ 20
def N100 (x : Int) : Prop := -100 ≤ x ∧ x ≤ 100
def RowM (M : List (List Int)) (i : Nat) : Prop := (M.getD i []).length = M.length ∧ ∀ j, 0 ≤ j → j < M.length → N20 (en M i j)
structure MatOK (M : List (List Int)) : Prop where
 n1 : 1 ≤ M.length
 n5 : M.length ≤ 5
 rows : ∀ i, 0 ≤ i → i < M.length → RowM M i
structure POK (M : List (List Int)) (q : List Int) : Prop where
 mat : MatOK M
 len : q.length = M.length
 num : ∀ i, 0 ≤ i → i < q.length → N100 (q.getD i 0)
theorem MatOK.sq {M : List (List Int)} (h : MatOK M) : Sq M.length M := ⟨rfl, fun i hi => (h.rows i (Nat.zero_le _) hi).1, fun i j hi hj => by have := (h.rows i (Nat.zero_le _) hi).2 j (Nat.zero_le _) hj; unfold N20 at this; omega⟩
section
variable {M : List (List Int)} (hM : M.length ≤ 5)
include hM
theorem spec_mrows : ∀ m i, i + m = M.length → ∀ t : Bool, (t = true ↔ ∀ u, i ≤ u → u < M.length → RowM M u) → Ev (fun k => spec_l01Matrix.l0 k M (M.length : Int) i) t := by
 intro m
 induction m with
 | zero =>
  intro i hi t ht
  obtain rfl : t = true := ht.2 (fun u h1 h2 => by omega)
  exact evstep (fun k => by rw [spec_l01Matrix.l0]) (evneg (by omega) (evc rfl))
 | succ m ih =>
  intro i hi t ht
  have hs := head_step (P := RowM M) (i := i) (d := M.length) (by omega)
  have ht2 := ht.trans hs
  refine evstep (fun k => by rw [spec_l01Matrix.l0]) (evpos (by omega) (evpos (by omega) (evpos (by omega) ?_)))
  rw [rdL1]
  by_cases c : (M.getD i []).length = M.length
  ·refine evpos (by omega) ?_
   have cols : ∀ p j, j + p = M.length → ∀ t : Bool, (t = true ↔ (∀ v, j ≤ v → v < M.length → N20 (en M i v)) ∧ ∀ u, i + 1 ≤ u → u < M.length → RowM M u) → Ev (fun k => spec_l01Matrix.l1 k M (M.length : Int) i j) t := by
    intro p
    induction p with
    | zero =>
     intro j hj t ht
     refine evstep (fun k => by rw [spec_l01Matrix.l1]) (evneg (by omega) ?_)
     rw [w64 (x := (i : Int) + 1) (by omega) (by omega)]
     exact ih (i + 1) (by omega) t (ht.trans ⟨fun h => h.2, fun h => ⟨fun v h1 h2 => by omega, h⟩⟩)
    | succ p ihp =>
     intro j hj t ht
     have hs2 := head_step (P := fun v => N20 (en M i v)) (i := j) (d := M.length) (by omega)
     refine evstep (fun k => by rw [spec_l01Matrix.l1]) ?_
     rw [rdL1]
     refine evpos (by omega) (evpos (by omega) (evpos (by omega) (evpos (by omega) (evpos (by omega) (evsome (sin_eq _ _ _) ?_)))))
     rw [rd_nat, show (M.getD i []).getD j 0 = en M i j from rfl, w64 (x := (j : Int) + 1) (by omega) (by omega)]
     by_cases d : -20 ≤ en M i j ∧ en M i j ≤ 20
     ·exact evpos (decide_eq_true d) (ihp (j + 1) (by omega) t (ht.trans ⟨fun h => ⟨(hs2.1 h.1).2, h.2⟩, fun h => ⟨hs2.2 ⟨d, h.1⟩, h.2⟩⟩))
     ·rw [no_iff ht (fun h => d ((hs2.1 h.1).1))]
      exact evneg (by simpa using d) (evc rfl)
   exact cols M.length 0 (by omega) t (ht2.trans ⟨fun h => ⟨fun v h1 h2 => h.1.2 v h1 h2, h.2⟩, fun h => ⟨⟨c, fun v h1 h2 => h.1 v h1 h2⟩, h.2⟩⟩)
  ·rw [no_iff ht2 (fun h => c h.1.1)]
   exact evneg (by omega) (evc rfl)
end
theorem spec_mat (M : List (List Int)) (t : Bool) (ht : t = true ↔ MatOK M) : Ev (fun k => spec_l01Matrix.f k M) t := by
 unfold spec_l01Matrix.f
 by_cases c1 : (M.length : Int) < 1
 ·rw [no_iff ht (fun h => by have := h.n1; omega)]
  exact evpos c1 (evstep (fun k => by rw [spec_l01Matrix.j0]) (evpos rfl (evc rfl)))
 ·refine evneg c1 (evstep (fun k => by rw [spec_l01Matrix.j0]) ?_)
  by_cases c2 : (M.length : Int) > 5
  ·rw [no_iff ht (fun h => by have := h.n5; omega)]
   exact evpos (decide_eq_true c2) (evc rfl)
  ·refine evneg (by simpa using c2) ?_
   exact spec_mrows (by omega) M.length 0 (by omega) t (ht.trans ⟨fun h => h.rows, fun h => ⟨by omega, by omega, h⟩⟩)
open Classical in
theorem spec_is (M : List (List Int)) (q : List Int) (hq : q.length ≤ 1048576) (t : Bool) (ht : t = true ↔ POK M q) : Ev (fun k => spec_l01Is.f k M q) t := by
 unfold spec_l01Is.f
 refine evbind (spec_mat M (decide (MatOK M)) (by simp)) ?_
 by_cases m : MatOK M
 ·refine evpos (by simpa using m) (evstep (fun k => by rw [spec_l01Is.j0]) ?_)
  by_cases c : q.length = M.length
  ·refine evneg (by simp [c]) ?_
   have loop : ∀ p i, i + p = q.length → ∀ t : Bool, (t = true ↔ ∀ u, i ≤ u → u < q.length → N100 (q.getD u 0)) → Ev (fun k => spec_l01Is.l0 k i M q) t := by
    intro p
    induction p with
    | zero =>
     intro i hi t ht
     obtain rfl : t = true := ht.2 (fun u h1 h2 => by omega)
     exact evstep (fun k => by rw [spec_l01Is.l0]) (evneg (by omega) (evc rfl))
    | succ p ih =>
     intro i hi t ht
     have hs := head_step (P := fun u => N100 (q.getD u 0)) (i := i) (d := q.length) (by omega)
     refine evstep (fun k => by rw [spec_l01Is.l0]) (evpos (by omega) (evpos (by omega) (evsome (sin_eq _ _ _) ?_)))
     rw [rd_nat, w64 (x := (i : Int) + 1) (by omega) (by omega)]
     by_cases d : -100 ≤ q.getD i 0 ∧ q.getD i 0 ≤ 100
     ·exact evpos (decide_eq_true d) (ih (i + 1) (by omega) t (ht.trans (hs.trans ⟨fun h => h.2, fun h => ⟨d, h⟩⟩)))
     ·rw [no_iff (ht.trans hs) (fun h => d h.1)]
      exact evneg (by simpa using d) (evc rfl)
   exact loop q.length 0 (by omega) t (ht.trans ⟨fun h => h.num, fun h => ⟨m, c, h⟩⟩)
  ·rw [no_iff ht (fun h => c h.len)]
   exact evpos (by simp; omega) (evc rfl)
 ·rw [no_iff ht (fun h => m h.mat)]
  exact evneg (by simpa using m) (evstep (fun k => by rw [spec_l01Is.j0]) (evpos rfl (evc rfl)))
theorem any_false {α : Type} (p : α → Bool) (l : List α) : l.any p = false ↔ ∀ i (h : i < l.length), p l[i] = false := by
 rw [List.any_eq_false]
 constructor
 ·intro h i hi
  have := h l[i] (List.getElem_mem hi)
  simpa using this
 ·intro h x hx
  obtain ⟨i, hi, rfl⟩ := List.getElem_of_mem hx
  simp [h i hi]
theorem badU_iff (a n : Int) : badU a n = false ↔ -a ≤ n ∧ n ≤ a := by unfold badU; simp
theorem any_badU (a : Int) (l : List Int) : l.any (badU a) = false ↔ ∀ i, 0 ≤ i → i < l.length → -a ≤ l.getD i 0 ∧ l.getD i 0 ≤ a := by
 rw [any_false]
 constructor
 ·intro h i _ hi
  have := (badU_iff a _).1 (h i hi)
  simpa [hi] using this
 ·intro h i hi
  have := h i (Nat.zero_le _) hi
  exact (badU_iff a _).2 (by simpa [hi] using this)
theorem gD {M : List (List Int)} {i : Nat} (h : i < M.length) : M.getD i [] = M[i] := by simp [h]
open Classical in
theorem impl_mat (M : List (List Int)) : impl_IsMatrix.f M = some (decide (MatOK M)) := by
 unfold impl_IsMatrix.f
 congr 1
 rw [Bool.eq_iff_iff]
 simp only [Bool.and_eq_true, decide_eq_true_eq, Bool.not_eq_true']
 rw [any_false, any_false]
 constructor
 ·rintro ⟨⟨h1, h2⟩, h3⟩
  refine ⟨by omega, by omega, fun i _ hi => ?_⟩
  have r1 := h2 i hi
  have r2 := h3 i hi
  unfold badL at r1
  unfold badM at r2
  have e : M[i].length = M.length := by simp at r1; omega
  refine ⟨by rw [gD hi]; exact e, fun j _ hj => ?_⟩
  have := (any_badU 20 M[i]).1 r2 j (Nat.zero_le _) (by omega)
  rw [← gD hi] at this
  exact this
 ·intro h
  refine ⟨⟨⟨by have := h.n1; omega, by have := h.n5; omega⟩, fun i hi => ?_⟩, fun i hi => ?_⟩
  ·have := (h.rows i (Nat.zero_le _) hi).1
   rw [gD hi] at this
   unfold badL; simp [this]
  ·have := h.rows i (Nat.zero_le _) hi
   unfold badM
   refine (any_badU 20 M[i]).2 (fun j h0 hj => ?_)
   have e := this.1
   rw [gD hi] at e
   have := this.2 j h0 (by omega)
   unfold N20 en at this
   rwa [gD hi] at this
open Classical in
theorem impl_is (M : List (List Int)) (q : List Int) (t : Bool) (ht : t = true ↔ POK M q) : impl_IsProblem.f M q = some t := by
 unfold impl_IsProblem.f
 rw [impl_mat, Option.bind_some]
 by_cases m : MatOK M
 ·rw [if_pos (by simpa using m)]
  by_cases c : q.length = M.length
  ·rw [if_pos (by omega)]
   unfold impl_allUpTo.f
   rw [if_pos (by decide), Option.bind_some]
   congr 1
   rw [Bool.eq_iff_iff, ht, Bool.not_eq_true', any_badU]
   exact ⟨fun h => ⟨m, c, h⟩, fun h => h.num⟩
  ·rw [if_neg (by omega), no_iff ht (fun h => c h.len)]
 ·rw [if_neg (by simpa using m), no_iff ht (fun h => m h.mat)]
end Go.Proofs.Ytjjbhdpjnjncbaa.Pb
end
section
namespace Go.Proofs.Ytjjbhdpjnjncbaa.Sd
open Go.RowKit Go.Proofs.YtjjbhdpjnjncbaaW.PrintWords Go.Proofs.YtjjbhdpjnjncbaaW.PrintMore Go.Proofs.Ytjjbhdpjnjncbaa.Ma Go.Proofs.Ytjjbhdpjnjncbaa.Pr Go.Proofs.Ytjjbhdpjnjncbaa.Dt Go.Proofs.Ytjjbhdpjnjncbaa.Bz
def en (l : List (List Int)) : Mat := fun i j => (l.getD i []).getD j 0
def SB (n : Nat) (A : Mat) : Prop := ∃ k, Bk n k A
theorem SB.mnr {n c : Nat} {A : Mat} (h : SB (n + 1) A) (hc : c < n + 1) : SB n (mnr c A) := by
 obtain ⟨k, h⟩ := h
 by_cases e : c = k
 ·subst e
  refine ⟨n, fun i j hi hj => ?_⟩
  have := h (i + 1) (up c j) (by omega) (up_lt hj)
  rw [if_neg (up_ne c j)] at this
  unfold Dt.mnr
  split <;> omega
 ·refine ⟨dn c k, fun i j hi hj => ?_⟩
  have := h (i + 1) (up c j) (by omega) (up_lt hj)
  unfold Dt.mnr
  by_cases q : up c j = k
  ·rw [if_pos q] at this
   rw [if_pos (by rw [← q, dn_up])]; exact this
  ·rw [if_neg q] at this
   split <;> omega
theorem SB.det {n : Nat} {A : Mat} (h : SB n A) (hn : n ≤ 5) : -1920000000 ≤ det n A ∧ det n A ≤ 1920000000 := by
 obtain ⟨k, h⟩ := h
 have h1 := det_absk n k A h
 have h2 := b20_le n hn
 omega
theorem SB.num {n : Nat} {A : Mat} (h : SB n A) {i j : Nat} (hi : i < n) (hj : j < n) : -100 ≤ A i j ∧ A i j ≤ 100 := by
 obtain ⟨k, h⟩ := h
 have := h i j hi hj
 split at this <;> omega
def mrow (l : List (List Int)) (c r : Nat) : List (List Int) := (List.range r).map fun i => ((l.getD (i + 1) []).take c) ++ ((l.getD (i + 1) []).drop (c + 1))
theorem mrow_len (l : List (List Int)) (c r : Nat) : (mrow l c r).length = r := by simp [mrow]
theorem mrow_succ (l : List (List Int)) (c r : Nat) : mrow l c (r + 1) = mrow l c r ++ [((l.getD (r + 1) []).take c) ++ ((l.getD (r + 1) []).drop (c + 1))] := by simp [mrow, List.range_succ]
theorem mrow_en (l : List (List Int)) (c r n : Nat) (hl : ∀ x ∈ l, x.length = n + 1) (hn : l.length = n + 1) (hc : c < n + 1) (i j : Nat) (hi : i < r) (hr : r ≤ n) (hj : j < n) : en (mrow l c r) i j = Dt.mnr c (en l) i j := by
 have hx : (l.getD (i + 1) []).length = n + 1 := by
  rw [List.getD_eq_getElem?_getD, List.getElem?_eq_getElem (show i + 1 < l.length by omega)]; exact hl _ (List.getElem_mem _)
 unfold en Dt.mnr mrow
 rw [List.getD_eq_getElem?_getD (l := List.map _ _), List.getElem?_map, List.getElem?_range hi]
 simp only [Option.map_some, Option.getD_some]
 show _ = (l.getD (i + 1) []).getD (up c j) 0
 generalize l.getD (i + 1) [] = x at hx ⊢
 rw [List.getD_eq_getElem?_getD, List.getD_eq_getElem?_getD]
 congr 1
 unfold up
 by_cases q : j < c
 ·rw [if_pos q, List.getElem?_append_left (by rw [List.length_take]; omega), List.getElem?_take_of_lt q]
 ·rw [if_neg q, List.getElem?_append_right (by rw [List.length_take]; omega), List.length_take, Nat.min_eq_left (by omega), List.getElem?_drop, show c + 1 + (j - c) = j + 1 from by omega]
theorem own_eq (x : List Int) (h : x.length < 17592186044416) : spec_l01Own.f x = some x := by
 unfold spec_l01Own.f
 simp only [Option.bind_some, List.length_nil, Nat.zero_add, List.nil_append]
 rw [if_pos h]
theorem rdL1 (l : List (List Int)) (i : Nat) : rd_L1 l (i : Int) = l.getD i [] := by simp [rd_L1]
theorem odd_sg (c : Nat) (x : Int) : (if Int.tmod (c : Int) 2 = 1 then -x else x) = sg c * x := by
 have e : Int.tmod (c : Int) 2 = ((c % 2 : Nat) : Int) := by rw [Int.tmod_eq_emod_of_nonneg (by omega)]; omega
 unfold sg
 by_cases q : c % 2 = 1
 ·rw [if_pos (by rw [e, q]; rfl), if_pos q]; omega
 ·rw [if_neg (by rw [e]; omega), if_neg q]; omega
theorem spec_det : ∀ (n : Nat) (l : List (List Int)), n ≤ 5 → l.length = n → (∀ x ∈ l, x.length = n) → SB n (en l) → Ev (fun k => spec_l01Det.f k l) (det n (en l)) := by
 intro n
 induction n with
 | zero =>
  intro l _ hn _ _
  show Ev _ (1 : Int)
  exact evstep (fun k => by rw [spec_l01Det.f]) (evpos (by omega) (evc rfl))
 | succ n ih =>
  intro l h5 hn hl hs
  have hrow (i : Nat) (hi : i < n + 1) : (l.getD i []).length = n + 1 := by
   rw [List.getD_eq_getElem?_getD, List.getElem?_eq_getElem (show i < l.length by omega)]; exact hl _ (List.getElem_mem _)
  let F : Nat → Int := fun k => sg k * (en l 0 k * det n (Dt.mnr k (en l)))
  have hF (k : Nat) (hk : k < n + 1) : -192000000000 ≤ F k ∧ F k ≤ 192000000000 := by
   have h1 := (hs.mnr hk).det (by omega)
   have h2 := hs.num (i := 0) (j := k) (by omega) hk
   have : (F k).natAbs ≤ 100 * 1920000000 := by
    show (sg k * (en l 0 k * det n (Dt.mnr k (en l)))).natAbs ≤ _
    rw [Int.natAbs_mul, Int.natAbs_mul, sg_abs, Nat.one_mul]
    exact Nat.mul_le_mul (by omega) (by omega)
   omega
  have hS : ∀ c, c ≤ n + 1 → -192000000000 * (c : Int) ≤ sm c F ∧ sm c F ≤ 192000000000 * (c : Int) := by
   intro c
   induction c with
   | zero => intro _; simp [sm]
   | succ c ihc =>
    intro hc
    have h1 := ihc (by omega)
    have h2 := hF c (by omega)
    simp only [sm]
    push_cast
    omega
  have key : ∀ q c, c + q = n + 1 → Ev (fun k => spec_l01Det.l0 k l (sm c F) c) (sm (n + 1) F) := by
   intro q
   induction q with
   | zero =>
    intro c hc
    obtain rfl : c = n + 1 := by omega
    exact evstep (fun k => by rw [spec_l01Det.l0]) (evneg (by omega) (evc rfl))
   | succ q ihq =>
    intro c hc
    have nx := ihq (c + 1) (by omega)
    have hr0 := hrow 0 (by omega)
    have e0 : rd (rd_L1 l 0) (c : Int) = en l 0 c := by
     rw [show rd_L1 l 0 = l.getD 0 [] from rdL1 l 0, rd_nat]; rfl
    have hr0' : (rd_L1 l 0).length = n + 1 := by rw [show rd_L1 l 0 = l.getD 0 [] from rdL1 l 0]; exact hr0
    have f1 := hF c (by omega)
    have s1 := hS c (by omega)
    have s2 := hS (c + 1) (by omega)
    refine evstep (fun k => by rw [spec_l01Det.l0]) (evpos (by omega) (evpos (by omega) (evpos (by omega) (evpos (by omega) ?_))))
    rw [e0]
    by_cases z : en l 0 c = 0
    ·refine evpos z ?_
     rw [w64 (x := (c : Int) + 1) (by omega) (by omega)]
     have e : sm (c + 1) F = sm c F := by
      show sm c F + sg c * (en l 0 c * det n (Dt.mnr c (en l))) = _
      rw [z]; simp
     rw [e] at nx
     exact nx
    ·refine evneg z ?_
     have build : ∀ p r, r + p = n → Ev (fun k => spec_l01Det.l1 k l (sm c F) c (mrow l c r) ((r + 1 : Nat) : Int)) (sm (n + 1) F) := by
      intro p
      induction p with
      | zero =>
       intro r hr
       obtain rfl : r = n := by omega
       refine evstep (fun k => by rw [spec_l01Det.l1]) (evneg (by omega) (evpos (by omega) (evpos (by omega) (evpos (by omega) ?_))))
       have hm := ih (mrow l c r) (by omega) (mrow_len l c r) (fun x hx => by
        obtain ⟨i, hi, rfl⟩ := List.mem_map.1 hx
        have := hrow (i + 1) (by have := List.mem_range.1 hi; omega)
        rw [List.length_append, List.length_take, List.length_drop]; omega) (by
        obtain ⟨k', hk'⟩ := hs.mnr (c := c) (by omega)
        exact ⟨k', fun i j hi hj => by rw [mrow_en l c r r hl hn (by omega) i j hi (Nat.le_refl _) hj]; exact hk' i j hi hj⟩)
       rw [det_congr (A := en (mrow l c r)) (B := Dt.mnr c (en l)) (fun i j hi hj => mrow_en l c r r hl hn (by omega) i j hi (Nat.le_refl _) hj)] at hm
       have hd := (hs.mnr (c := c) (by omega)).det (by omega)
       have ha := hs.num (i := 0) (j := c) (by omega) (by omega)
       refine evbind hm ?_
       rw [e0]
       have hp : -192000000000 ≤ en l 0 c * det r (Dt.mnr c (en l)) ∧ en l 0 c * det r (Dt.mnr c (en l)) ≤ 192000000000 := by
        have : (en l 0 c * det r (Dt.mnr c (en l))).natAbs ≤ 100 * 1920000000 := by
         rw [Int.natAbs_mul]; exact Nat.mul_le_mul (by omega) (by omega)
        omega
       have o := odd_sg c (en l 0 c * det r (Dt.mnr c (en l)))
       have fe : F c = sg c * (en l 0 c * det r (Dt.mnr c (en l))) := rfl
       have se : sm (c + 1) F = sm c F + F c := rfl
       rw [w64 (x := en l 0 c * det r (Dt.mnr c (en l))) (by omega) (by omega)]
       by_cases od : Int.tmod (c : Int) 2 = 1
       ·refine evpos od ?_
        rw [if_pos od] at o
        rw [w64 (x := -(en l 0 c * det r (Dt.mnr c (en l)))) (by omega) (by omega), o, ← fe, ← se, w64 (x := sm (c + 1) F) (by omega) (by omega), w64 (x := (c : Int) + 1) (by omega) (by omega)]
        exact nx
       ·refine evneg od ?_
        rw [if_neg od] at o
        rw [o, ← fe, ← se, w64 (x := sm (c + 1) F) (by omega) (by omega), w64 (x := (c : Int) + 1) (by omega) (by omega)]
        exact nx
      | succ p ihp =>
       intro r hr
       have hx := hrow (r + 1) (by omega)
       have nx2 := ihp (r + 1) (by omega)
       rw [mrow_succ] at nx2
       refine evstep (fun k => by rw [spec_l01Det.l1]) ?_
       rw [rdL1]
       refine evpos (by omega) (evpos (by omega) (evpos (by omega) (evpos (by omega) ?_)))
       rw [Int.toNat_natCast, w64 (x := (c : Int) + 1) (by omega) (by omega)]
       refine evsome (a := (l.getD (r + 1) []).take c) (own_eq _ (by rw [List.length_take]; omega)) (evpos (by omega) (evpos (by omega) (evpos ?_ (evpos (by rw [mrow_len]; omega) ?_))))
       ·rw [List.length_take, List.length_drop]; omega
       ·rw [show ((c : Int) + 1).toNat = c + 1 from by omega, w64 (x := ((r + 1 : Nat) : Int) + 1) (by omega) (by omega)]
        exact nx2
     have := build n 0 (by omega)
     exact this
  refine evstep (fun k => by rw [spec_l01Det.f]) (evneg (by omega) ?_)
  exact key (n + 1) 0 (by omega)
end Go.Proofs.Ytjjbhdpjnjncbaa.Sd
end
section
namespace Go.Proofs.Ytjjbhdpjnjncbaa.Mn
open Go.RowKit Go.Proofs.YtjjbhdpjnjncbaaW.PrintWords Go.Proofs.YtjjbhdpjnjncbaaW.PrintMore Go.Proofs.Ytjjbhdpjnjncbaa.Ma Go.Proofs.Ytjjbhdpjnjncbaa.Pr Go.Proofs.Ytjjbhdpjnjncbaa.Dt Go.Proofs.Ytjjbhdpjnjncbaa.Bz Go.Proofs.Ytjjbhdpjnjncbaa.Bd Go.Proofs.Ytjjbhdpjnjncbaa.Un Go.Proofs.Ytjjbhdpjnjncbaa.Cz
theorem det_f {n : Nat} {l : List (List Int)} (hn : n ≤ 5) (hl : l.length = n) (hr : ∀ x ∈ l, x.length = n) (hs : Sd.SB n (en l)) : impl_determinant.f l = some (det n (en l)) := by
 unfold impl_determinant.f
 rw [if_pos ⟨by omega, fun x hx => by rw [hr x hx, hl]⟩, hl]
 obtain ⟨k, hk⟩ := hs
 congr 1
 exact dgo_det hn (k := k) (en l) hk
section
variable {n : Nat} {l : List (List Int)} (h : Sq n l) (hn : n ≤ 5) (s : Int)
include h hn
theorem minor_eq : Ev (fun k => impl_minor.f k l s) (det (sel n (bB s)).length (subm (sel n (bB s)) (en l))) := by
 have sl : (sel n (bB s)).length ≤ n := by unfold sel; have := List.length_filter_le (bB s) (List.range n); simpa using this
 have hsel (i : Nat) (hi : i < (sel n (bB s)).length) : (sel n (bB s)).getD i 0 < n := by
  rw [List.getD_eq_getElem?_getD, List.getElem?_eq_getElem hi]
  exact List.mem_range.1 (List.mem_filter.1 (List.getElem_mem hi)).1
 have he (i j : Nat) (hi : i < (sel n (bB s)).length) (hj : j < (sel n (bB s)).length) : en (partL l (sel n (bB s)) (sel n (bB s))) i j = subm (sel n (bB s)) (en l) i j := by
  show ((partL l (sel n (bB s)) (sel n (bB s))).getD i []).getD j 0 = _
  unfold partL subm
  simp [hi, hj]
 unfold impl_minor.f
 refine evbind (impl_part_eq h hn s) ?_
 refine evc ?_
 rw [det_f (n := (sel n (bB s)).length) (by omega) (by simp [partL]) (fun x hx => by
  obtain ⟨i, _, rfl⟩ := List.mem_map.1 hx
  simp) ⟨0, fun i j hi hj => by
   rw [he i j hi hj]
   have := h.num _ _ (hsel i hi) (hsel j hj)
   unfold subm
   split <;> omega⟩]
 exact congrArg some (det_congr he)
theorem colM_small (i j : Nat) (hi : i < n) (hj : j < n) : (colM (bB s) (en l) i j).natAbs ≤ 20 := by
 have _h := hn
 have := h.num i j hi hj
 unfold colM
 split
 ·omega
 ·split <;> decide
theorem cols_det : Ev (fun k => spec_l01Det.f k (mk n n (colM (bB s) (en l)))) (det n (colM (bB s) (en l))) := by
 have he (i j : Nat) (hi : i < n) (hj : j < n) : en (mk n n (colM (bB s) (en l))) i j = colM (bB s) (en l) i j := mk_en n n _ i j hi hj
 have := Sd.spec_det n (mk n n (colM (bB s) (en l))) hn (mk_len _ _ _) (mk_rows _ _ _) ⟨0, fun i j hi hj => by
  show (en (mk n n (colM (bB s) (en l))) i j).natAbs ≤ _
  rw [he i j hi hj]
  have := colM_small h hn s i j hi hj
  split <;> omega⟩
 have e : det n (Sd.en (mk n n (colM (bB s) (en l)))) = det n (colM (bB s) (en l)) := det_congr he
 rw [e] at this
 exact this
end
end Go.Proofs.Ytjjbhdpjnjncbaa.Mn
end
section
namespace Go.Proofs.Ytjjbhdpjnjncbaa.Rn
open Go.RowKit Go.Proofs.YtjjbhdpjnjncbaaW.PrintWords Go.Proofs.YtjjbhdpjnjncbaaW.PrintMore Go.Proofs.Ytjjbhdpjnjncbaa.Ma Go.Proofs.Ytjjbhdpjnjncbaa.Pr Go.Proofs.Ytjjbhdpjnjncbaa.Dt Go.Proofs.Ytjjbhdpjnjncbaa.Bz Go.Proofs.Ytjjbhdpjnjncbaa.Un Go.Proofs.Ytjjbhdpjnjncbaa.Cz Go.Proofs.Ytjjbhdpjnjncbaa.Pb Go.Proofs.Ytjjbhdpjnjncbaa.Mn
def chV (n : Nat) (l : List (List Int)) : List Int → List Int → Int → List Int × Int
 | [], out, _ => (out, 0)
 | i :: t, out, s => if det n (colM (bB (Go.bits .xor .i64 s (shl .i64 1 i))) (en l)) = 0 then ([], 5) else chV n l t (out ++ [Go.bits .xor .i64 s (shl .i64 1 i)]) (Go.bits .xor .i64 s (shl .i64 1 i))
theorem chV_len (n : Nat) (l : List (List Int)) : ∀ (c out : List Int) (s : Int), (chV n l c out s).1.length ≤ out.length + c.length
 | [], out, _ => by simp [chV]
 | i :: t, out, s => by
  unfold chV
  split
  ·simp
  ·have := chV_len n l t (out ++ [Go.bits .xor .i64 s (shl .i64 1 i)]) (Go.bits .xor .i64 s (shl .i64 1 i))
   simp only [List.length_append, List.length_cons, List.length_nil] at this ⊢
   omega
section
variable {n : Nat} {l : List (List Int)} (h : Sq n l) (hn : n ≤ 5)
include h hn
theorem impl_chn : ∀ (c out : List Int) (s : Int), out.length + c.length ≤ 1000 → Ev (fun k => chn k l c out s) (chV n l c out s) := by
 intro c
 induction c with
 | nil => intro out s _; exact evc rfl
 | cons i t ih =>
  intro out s ho
  simp only [List.length_cons] at ho
  unfold chn chV
  refine evbind (minor_eq h hn _) ?_
  have z := det_colM_zero n (bB (Go.bits .xor .i64 s (shl .i64 1 i))) (en l)
  by_cases c0 : det n (colM (bB (Go.bits .xor .i64 s (shl .i64 1 i))) (en l)) = 0
  ·rw [if_pos c0]
   exact evpos (z.1 c0) (evc rfl)
  ·rw [if_neg c0]
   exact evneg (fun q => c0 (z.2 q)) (evpos (by omega) (ih _ _ (by simp; omega)))
theorem spec_chn (q c : List Int) (hc : ∀ i, i < c.length → 0 ≤ c.getD i 0 ∧ c.getD i 0 ≤ 100) (hc2 : c.length ≤ 20) : ∀ m i (out : List Int) (s : Int), i + m = c.length → out.length = i + 1 → Ev (fun k => spec_RunChain.l1 k c out s i l q) (chV n l (c.drop i) out s) := by
 intro m
 induction m with
 | zero =>
  intro i out s hi _
  rw [List.drop_of_length_le (by omega)]
  show Ev _ (out, (0 : Int))
  exact evstep (fun k => by rw [spec_RunChain.l1]) (evneg (by omega) (evc rfl))
 | succ m ih =>
  intro i out s hi ho
  have hlt : i < c.length := by omega
  have hb := hc i hlt
  have e : c.getD i 0 = c[i] := by simp [hlt]
  rw [List.drop_eq_getElem_cons hlt]
  unfold chV
  refine evstep (fun k => by rw [spec_RunChain.l1]) (evpos (by omega) (evpos (by omega) ?_))
  rw [rd_nat, u64w (x := c.getD i 0) (by omega) (by omega), w64 (x := (i : Int) + 1) (by omega) (by omega), e]
  refine evpos (by omega) (evbind (spec_cols h hn _) (evbind (cols_det h hn _) ?_))
  by_cases c0 : det n (colM (bB (Go.bits .xor .i64 s (shl .i64 1 c[i]))) (en l)) = 0
  ·rw [if_pos c0]; exact evpos c0 (evc rfl)
  ·rw [if_neg c0]
   exact evneg c0 (evpos (by omega) (ih (i + 1) _ _ (by omega) (by simp [ho])))
end
theorem badC_iff (n : Nat) (i : Int) : badC n i = false ↔ 0 ≤ i ∧ i ≤ (n : Int) - 1 := by unfold badC; simp
theorem any_badC (n : Nat) (c : List Int) : c.any (badC n) = false ↔ ∀ i, 0 ≤ i → i < c.length → 0 ≤ c.getD i 0 ∧ c.getD i 0 ≤ (n : Int) - 1 := by
 rw [any_false]
 constructor
 ·intro h i _ hi
  have := (badC_iff n _).1 (h i hi)
  simpa [hi] using this
 ·intro h i hi
  have := h i (Nat.zero_le _) hi
  exact (badC_iff n _).2 (by simpa [hi] using this)
theorem spec_range (l : List (List Int)) (q c : List Int) (hq : q.length ≤ 5) (hc2 : c.length ≤ 20) (R : List Int × Int) (next : (∀ i, 0 ≤ i → i < c.length → 0 ≤ c.getD i 0 ∧ c.getD i 0 ≤ (q.length : Int) - 1) → Ev (fun k => spec_RunChain.l1 k c [0] 0 0 l q) R) (no : ¬ (∀ i, 0 ≤ i → i < c.length → 0 ≤ c.getD i 0 ∧ c.getD i 0 ≤ (q.length : Int) - 1) → R = ([], 2)) :
  ∀ m i, i + m = c.length → (∀ j, j < i → 0 ≤ c.getD j 0 ∧ c.getD j 0 ≤ (q.length : Int) - 1) → Ev (fun k => spec_RunChain.l0 k c i l q) R := by
 intro m
 induction m with
 | zero =>
  intro i hi h
  obtain rfl : i = c.length := by omega
  exact evstep (fun k => by rw [spec_RunChain.l0]) (evneg (by omega) (next (fun j _ hj => h j hj)))
 | succ m ih =>
  intro i hi h
  refine evstep (fun k => by rw [spec_RunChain.l0]) (evpos (by omega) (evpos (by omega) (evsome (sin_eq _ _ _) ?_)))
  rw [rd_nat, w64 (x := (i : Int) + 1) (by omega) (by omega), w64 (x := (q.length : Int) - 1) (by omega) (by omega)]
  by_cases d : 0 ≤ c.getD i 0 ∧ c.getD i 0 ≤ (q.length : Int) - 1
  ·refine evpos (decide_eq_true d) (ih (i + 1) (by omega) (fun j hj => ?_))
   by_cases e : j = i
   ·subst e; exact d
   ·exact h j (by omega)
  ·rw [no (fun hh => d (hh i (Nat.zero_le _) (by omega)))]
   exact evneg (by simpa using d) (evc rfl)
open Classical in
theorem both (M : List (List Int)) (q c : List Int) (hq : q.length ≤ 1048576) : ∃ R : List Int × Int, Ev (fun k => spec_RunChain.f k M q c) R ∧ Ev (fun k => impl_RunChain.f k M q c) R ∧ R.1.length ≤ 21 := by
 have hb : decide (POK M q) = true ↔ POK M q := by simp
 have is := Pb.impl_is M q _ hb
 have ss := Pb.spec_is M q hq _ hb
 by_cases p : POK M q
 ·have pd : decide (POK M q) = true := by simpa using p
  have hn := p.mat.n5; have hl := p.len
  by_cases c20 : (c.length : Int) > 20
  ·refine ⟨([], 2), ?_, ?_, by simp⟩
   ·unfold spec_RunChain.f; exact evbind ss (evpos pd (evpos c20 (evc rfl)))
   ·unfold impl_RunChain.f; exact evsome is (evpos pd (evpos (by omega) (evpos c20 (evc rfl))))
  ·by_cases bad : c.any (badC q.length) = true
   ·have nb : ¬ (∀ i, 0 ≤ i → i < c.length → 0 ≤ c.getD i 0 ∧ c.getD i 0 ≤ (q.length : Int) - 1) := by
     rw [← any_badC, bad]; simp
    refine ⟨([], 2), ?_, ?_, by simp⟩
    ·unfold spec_RunChain.f
     exact evbind ss (evpos pd (evneg c20 (spec_range M q c (by omega) (by omega) _ (fun hh => absurd hh nb) (fun _ => rfl) c.length 0 (by omega) (fun j hj => by omega))))
    ·unfold impl_RunChain.f; exact evsome is (evpos pd (evpos (by omega) (evneg c20 (evpos bad (evc rfl)))))
   ·have nb : ∀ i, 0 ≤ i → i < c.length → 0 ≤ c.getD i 0 ∧ c.getD i 0 ≤ (q.length : Int) - 1 := by
     rw [← any_badC]; simpa using bad
    have len := chV_len M.length M c [0] 0
    refine ⟨chV M.length M c [0] 0, ?_, ?_, by simp only [List.length_cons, List.length_nil] at len; omega⟩
    ·unfold spec_RunChain.f
     refine evbind ss (evpos pd (evneg c20 (spec_range M q c (by omega) (by omega) _ (fun hh => ?_) (fun hh => absurd nb hh) c.length 0 (by omega) (fun j hj => by omega))))
     exact spec_chn p.mat.sq hn q c (fun i hi => by have := nb i (Nat.zero_le _) hi; omega) (by omega) c.length 0 [0] 0 (by omega) rfl
    ·unfold impl_RunChain.f
     exact evsome is (evpos pd (evpos (by omega) (evneg c20 (evneg bad (impl_chn p.mat.sq hn c [0] 0 (by simp; omega))))))
 ·have pd : ¬ decide (POK M q) = true := by simpa using p
  refine ⟨([], 1), ?_, ?_, by simp⟩
  ·unfold spec_RunChain.f; exact evbind ss (evneg pd (evc rfl))
  ·unfold impl_RunChain.f; exact evsome is (evneg pd (evc rfl))
end Go.Proofs.Ytjjbhdpjnjncbaa.Rn
end
section
namespace Go.Proofs.Ytjjbhdpjnjncbaa.La
open Go.RowKit Go.Proofs.YtjjbhdpjnjncbaaW.PrintWords Go.Proofs.YtjjbhdpjnjncbaaW.PrintMore Go.Proofs.Ytjjbhdpjnjncbaa.Ma Go.Proofs.Ytjjbhdpjnjncbaa.Pr Go.Proofs.Ytjjbhdpjnjncbaa.Hm
end Go.Proofs.Ytjjbhdpjnjncbaa.La
end
section
namespace Go.Proofs.Ytjjbhdpjnjncbaa.La
open Go.RowKit Go.Proofs.YtjjbhdpjnjncbaaW.PrintWords Go.Proofs.YtjjbhdpjnjncbaaW.PrintMore Go.Proofs.Ytjjbhdpjnjncbaa.Ma Go.Proofs.Ytjjbhdpjnjncbaa.Pr Go.Proofs.Ytjjbhdpjnjncbaa.Hm Go.Proofs.Ytjjbhdpjnjncbaa.Op
theorem szP2 {M : List (List Int)} {Q : List Int} (ga : GoodList (GoodList (GoodInt .i64)) M) (gb : GoodList (GoodInt .i64) Q) :
  ∃ t : Int, Ev (fun k => laws_szProblem.f k M Q 1048576) t ∧ t ≤ 1048576 ∧ (0 ≤ t → tot M ≤ 1048576 ∧ Q.length ≤ 1048576) := by
 have h1 := szSS M ga (n := 1048576) (by decide) (by decide)
 by_cases c : (1048576 : Int) < (tot M : Int)
 ·rw [if_pos c] at h1
  exact ⟨-1, by unfold laws_szProblem.f; exact evbind h1 (evpos (by decide) (evc rfl)), by decide, fun h => by omega⟩
 ·rw [if_neg c] at h1
  have h2 := sz_eq (l := Q) (n := 1048576 - (tot M : Int)) (by omega) (by omega) gb.1
  by_cases c2 : (1048576 : Int) - (tot M : Int) < (Q.length : Int)
  ·rw [if_pos c2] at h2
   exact ⟨-1, by unfold laws_szProblem.f; exact evbind h1 (evneg (by omega) (evsome h2 (evpos (by decide) (evc rfl)))), by decide, fun h => by omega⟩
  ·rw [if_neg c2] at h2
   exact ⟨_, by unfold laws_szProblem.f; exact evbind h1 (evneg (by omega) (evsome h2 (evneg (by omega) (evc rfl)))), by omega, fun _ => ⟨by omega, by omega⟩⟩
theorem fit_lensP {l : List (List Int)} (h : tot l ≤ 1048576) : lens l ≤ 1048576 := by unfold tot at h; omega
theorem toP {M : List (List Int)} {Q : List Int} (hM : Fit M) (hQ : Q.length ≤ 1048576) : Ev (fun k => laws_toProblem.f k M Q) (M, Q) := by
 unfold laws_toProblem.f
 exact evbind (fit_to hM) (evbind (toI Q hQ) (evc rfl))
theorem eqPr {M : List (List Int)} {Q : List Int} (hM : Fit M) (hQ : Q.length ≤ 1152921504606846976) : Ev (fun k => laws_eqProblem.f k M Q M Q) true := by
 unfold laws_eqProblem.f
 exact evbind (fit_eq hM) (evpos rfl (evbind (eqI_same Q hQ) (evpos rfl (evc rfl))))
end Go.Proofs.Ytjjbhdpjnjncbaa.La
end
section
namespace Go.Proofs.Ytjjbhdpjnjncbaa.Pure
open Go.RowKit Go.Proofs.YtjjbhdpjnjncbaaW.PrintWords Go.Proofs.YtjjbhdpjnjncbaaW.PrintMore Go.Proofs.Ytjjbhdpjnjncbaa.Ma Go.Proofs.Ytjjbhdpjnjncbaa.Pr Go.Proofs.Ytjjbhdpjnjncbaa.La Go.Proofs.Ytjjbhdpjnjncbaa.Op
theorem FnExactRunChain : Say.FnExactRunChain := by
 intro M q c ga gb gc
 obtain ⟨t, ⟨k0, ht⟩, ht1, hf⟩ := szP2 ga gb
 by_cases cc : (c.length : Int) > 1048576
 ·refine ⟨0, ?_⟩
  unfold laws_FnExactRunChain.f
  rw [if_pos]
  exact .inr (.inl cc)
 by_cases c0 : t < 0
 ·refine ⟨k0, ?_⟩
  unfold laws_FnExactRunChain.f
  rw [if_pos]
  exact .inr (.inr ⟨t, cc, ht _ (Nat.le_refl _), c0⟩)
 ·obtain ⟨ta, tb⟩ := hf (by omega)
  have fa := fit_of ta
  have fl := fit_lensP ta
  have al := fa.len
  obtain ⟨R, ⟨k1, e1⟩, ⟨k2, e2⟩, hR⟩ := Rn.both M q c tb
  obtain ⟨k3, e3⟩ := toP fa tb
  obtain ⟨k4, e4⟩ := toI c (by omega)
  obtain ⟨k5, e5⟩ := eqI_same R.1 (by omega)
  obtain ⟨k6, e6⟩ := eqPr (Q := q) fa (by omega)
  obtain ⟨k7, e7⟩ := eqI_same c (by omega)
  obtain ⟨k8, e8⟩ := heldI 1 R.1.length (by omega) (by decide) (by decide)
  refine ⟨k0 + k1 + k2 + k3 + k4 + k5 + k6 + k7 + k8, ?_⟩
  unfold laws_FnExactRunChain.f
  rw [if_pos]
  exact .inl ⟨t, R.1, R.2, _, _, _, cc, ht _ (by omega), c0, e3 _ (by omega), e4 _ (by omega), e1 _ (by omega), e2 _ (by omega), e5 _ (by omega), e6 _ (by omega), e7 _ (by omega), rfl, by omega, by omega, by omega, by omega, rfl, by omega, by omega, rfl, by omega, by omega, e8 _ (by omega)⟩
end Go.Proofs.Ytjjbhdpjnjncbaa.Pure
end
section
namespace Go.Proofs.Ytjjbhdpjnjncbaa.fnExactRunChain
open Go.ChangeShapes Go.WideShapes Go.ChangeAt Go.RowKit Go.Proofs.Ytjjbhdpjnjncbaa.Op Go.Proofs.YtjjbhdpjnjncbaaW.PrintWords
theorem own : ownKnob Try.prog.godebug = none := by kernel_rfl
theorem laidOut : laidOutB Try.prog = true := by kernel_rfl
theorem lifted (os : Os) (started : os.Started) (H : Type) (enc : TypeId × Value → H) :
  ReturnsInHanded {} Try.checked os 7 .any (Rows.fnExactRunChainSpec.pre6 enc Try.prog Try.f7 Rows.fnExactRunChainRow.domain false) (Rows.fnExactRunChainSpec.post enc Try.prog Try.f7 false true false false) := by
 refine returnsInHanded_of_change_sized (C := Try.checked) own started (by kernel_rfl) Try.func7
  (ChangeSpec.witness6 (enc := enc) (C := Try.checked) false ⟨#[], #[.agg #[.slice none 0 0, .slice none 0 0], .slice none 0 0], []⟩ 8 (by kernel_rfl) (by kernel_rfl) (by kernel_rfl) (by kernel_rfl)) ?_
 intro W base args ds gs before hval0 hW hcnd hsz0 _
 have hval : ∀ (j : Nat) t v, Try.f7.params[j]? = some t → args[j]? = some v → Value.okWide Try.prog W .any base t v := hval0
 have hW' := hW
 obtain ⟨p, q, hA0, hV, rfl, hfz, hnd⟩ := hW
 have hA : DataW.TrodAll enc Try.prog W 0 (fun _ => true) true Try.f7.params.toList args.toList ds p := hA0
 rw [Try.params7] at hA hval
 obtain ⟨v0, vs0, d0, ds0, p0, q0, hargs, rfl, rfl, h0, r0⟩ := trodAll_cons hA
 obtain ⟨v1, vs1, d1, ds1, p1, q1, rfl, rfl, rfl, h1, r1⟩ := trodAll_cons r0
 obtain ⟨rfl, rfl, rfl⟩ := trodAll_nil r1
 obtain rfl : args = #[v0, v1] := by cases args; simp_all
 obtain ⟨rfl, rfl⟩ := trodVars_none hV
 have k0 := h0
 have lt0 := trod_blocks k0
 obtain ⟨⟨x0_0, x0_1⟩, cs0, rfl, hk0, g0⟩ := arg_struct Try.underlying52 (opens_struct2 Try.underlying52 ⟨by kernel_rfl, by kernel_rfl⟩ ⟨by kernel_rfl, by kernel_rfl⟩ (by kernel_rfl) (opens_slice Try.underlying22 (by kernel_rfl) (opens_slice Try.underlying33 (by kernel_rfl) (opens_int Try.underlying2))) (opens_slice Try.underlying33 (by kernel_rfl) (opens_int Try.underlying2)) id (Kd.pair (Kd.slice 33 (Kd.slice 2 (Kd.int .i64))) (Kd.slice 2 (Kd.int .i64))) (fun _ _ _ h => h) (fun x => (GoodList (GoodList (GoodInt .i64))) x.1 ∧ (GoodList (GoodInt .i64)) x.2) (fun _ h0 h1 => ⟨h0, h1⟩)) (hval 0 52 v0 rfl rfl) h0
 obtain ⟨A0_0, c0_0, A0_1, c0_1, rfl, q0_0, r0_0, q0_1, r0_1⟩ := cells_slice_slice hk0
 have k1 := h1
 have lt1 := trod_blocks k1
 obtain ⟨A1, c1, l1, rfl, q1_0, r1_0, g1⟩ := arg_slice (d := (Kd.int .i64)) Try.underlying33 (by kernel_rfl) (opens_int Try.underlying2) (hval 1 33 v1 rfl rfl) h1
 obtain ⟨k, h⟩ := Pure.FnExactRunChain x0_0 x0_1 l1 g0.1 g0.2 g1
 clear hA0 hval0 hsz0
 refine (Pr.laws_FnExactRunChain.calls k A0_0 c0_0 x0_0 A0_1 c0_1 x0_1 A1 c1 l1 true W r0_0 q0_0 r0_1 q0_1 r1_0 q1_0 h).mono ?_
 rintro e W' ⟨rfl, bel0⟩
 have bel : Below W.heap.size W W' := by first | exact bel0 | exact bel0.below
 exact ⟨_, rfl, _, _, _, [], _, [], hW', trodAll_mk1 (shut_bool Try.underlying4 _), (trodAll_cons_mk (Below.trod laidOut (by kernel_rfl) (of_decide_eq_true (by kernel_rfl)) k0 bel lt0) (trodAll_cons_mk (Below.trod laidOut (by kernel_rfl) (of_decide_eq_true (by kernel_rfl)) k1 bel lt1) trodAll_mk0)), rfl, bel.frame _, fun h => by cases h⟩
theorem over : Rows.fnExactRunChainRow.holds Try.pinned (OpenSpec.ofChange Rows.fnExactRunChainSpec) :=
 OpenClaim.holds_of_wide 7 Try.f7 rfl rfl rfl rfl rfl rfl rfl ⟨rfl, rfl, rfl, rfl, rfl⟩ rfl rfl rfl rfl rfl (by kernel_rfl) Try.func7 (by kernel_rfl)
  (of_decide_eq_true (by kernel_rfl)) (by unfold Func.isWrapper; first | (rw [if_pos (by decide +kernel)]; kernel_rfl) | (rw [if_neg (by decide +kernel)]; exact ⟨rfl, rfl⟩))
  (fun os started H enc _ => lifted os started H enc)
theorem proved : Rows.FnExactRunChainSaid := over
#print axioms proved
end Go.Proofs.Ytjjbhdpjnjncbaa.fnExactRunChain
namespace Go.Proofs.Ytjjbhdpjnjncbaa
theorem fnExactRunChain_holds : Rows.FnExactRunChainSaid := fnExactRunChain.proved
end Go.Proofs.Ytjjbhdpjnjncbaa
end
