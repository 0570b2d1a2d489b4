/- Texts of one claim (the words of the kit's print that the claim uses, printed functions, and this session's own texts), joined in the order of their imports by this session's own program (merge.py). -/
import Derived.Test.YtjjbhdpjnjncbaaRows
import Derived.WalkKit
import Derived.ProofKit
import Derived.OpenShut
import Derived.ShutString
import Derived.ChangeOld
import Derived.Below
import Derived.SizedLaws
import Derived.Test.YtjjbhdpjnjncbaaJnFnExactBestReplies0
import Derived.Test.YtjjbhdpjnjncbaaJnFnExactBestReplies1
import Derived.Test.YtjjbhdpjnjncbaaJnFnExactBestReplies2
import Derived.Test.YtjjbhdpjnjncbaaJnFnExactBestReplies3
set_option linter.unusedVariables false
set_option linter.unusedSimpArgs false
set_option maxHeartbeats 8000000
set_option maxRecDepth 100000
section
namespace Go.Proofs.Ytjjbhdpjnjncbaa.Pr
open Go.RowKit Go.Proofs.YtjjbhdpjnjncbaaW.PrintWords Go.Proofs.YtjjbhdpjnjncbaaW.PrintLast Go.Proofs.YtjjbhdpjnjncbaaW.PrintMore Go.Proofs.Ytjjbhdpjnjncbaa.La Go.Proofs.Ytjjbhdpjnjncbaa.Hm Go.Proofs.Ytjjbhdpjnjncbaa.Lw
theorem laws_FnExactBestReplies.walk (k : Nat) (A0_0 : Option Addr) (c0_0 : Nat) (l0_0 : List (List Int)) (A0_1 : Option Addr) (c0_1 : Nat) (l0_1 : List (List Int)) (a1 : Int) (A2 : Option Addr) (c2 : Nat) (l2 : List (S120)) (t21 : Int) (t26 : Int) (y_l2 : List (S65)) (s0 : List Int) (s1 : Int) (m1 : Int) (m2 : Int) (m3 : Int) (w : World) (hr0_0 : Kd.C (Kd.slice 2 (Kd.int .i64)) w A0_0 l0_0.length l0_0) (hc0_0 : l0_0.length ≤ c0_0) (hr0_1 : Kd.C (Kd.slice 2 (Kd.int .i64)) w A0_1 l0_1.length l0_1) (hc0_1 : l0_1.length ≤ c0_1) (hr2 : Kd.C k120 w A2 l2.length l2) (hc2 : l2.length ≤ c2) (h1 : laws_szGame.f k l0_0 l0_1 1048576 = some t21) (h2 : ¬ t21 < 0) (h3 : laws_szFracS.f l2 t21 = some t26) (h4 : ¬ t26 < 0) (h5 : laws_toInt64SS.f k l0_0 = some l0_0 ∧ laws_toInt64SS.f k l0_1 = some l0_1) (h6 : laws_toFracS.f k l2 = some y_l2) (h7 : spec_BestReplies.f k l0_0 l0_1 a1 y_l2 = some (s0, s1)) (h8 : impl_BestReplies.f k l0_0 l0_1 a1 y_l2 = some (s0, s1)) (h9 : laws_eqInt64S.f k s0 s0 = some true) (h10 : laws_eqGame.f k l0_0 l0_1 l0_0 l0_1 = some true) (h11 : laws_eqFracS.f k y_l2 y_l2 = some true) (h12 : m1 = 1 + (lens l0_0 : Int) + (lens l0_1 : Int)) (h13 : 1 + (lens l0_0 : Int) + (lens l0_1 : Int) ≤ 1099511627776) (h14 : l0_0.length ≤ 1099511627776) (h15 : l0_1.length ≤ 1099511627776) (h16 : ¬ m1 < 0) (h17 : 0 ≤ m1) (h18 : m2 = m1 + 2 * (y_l2.length : Int)) (h19 : m1 + 2 * (y_l2.length : Int) ≤ 1099511627776) (h20 : ¬ m2 < 0) (h21 : m3 = 1 + (s0.length : Int)) (h22 : 1 + (s0.length : Int) ≤ 1099511627776) (h23 : ¬ m3 < 0) (h24 : laws_heldInt64S.f k ((count 1 s0.length)) 1 = some m3) :
  Calls Try.prog 10 #[.agg #[.slice A0_0 l0_0.length c0_0, .slice A0_1 l0_1.length c0_1], .int .i64 a1, .slice A2 l2.length c2] w fun e w' => e = .returned (.bool true) ∧ Below w.heap.size w w' := by
 have HR0_0 := Aside0.mk hr0_0
 have HC0_0 := Aside0.mk hc0_0
 clear hr0_0 hc0_0
 have HR0_1 := Aside0.mk hr0_1
 have HC0_1 := Aside0.mk hc0_1
 clear hr0_1 hc0_1
 have HR2 := Aside0.mk hr2
 have HC2 := Aside0.mk hc2
 clear hr2 hc2
 have HB := Aside0.mk (Below.refl w.heap.size w)
 have H1' := Aside0.mk h1
 clear h1
 have H3' := Aside0.mk h3
 clear h3
 have H5' := Aside0.mk h5
 clear h5
 have H6' := Aside0.mk h6
 clear h6
 have H7' := Aside0.mk h7
 clear h7
 have H8' := Aside0.mk h8
 clear h8
 have H9' := Aside0.mk h9
 clear h9
 have H10' := Aside0.mk h10
 clear h10
 have H11' := Aside0.mk h11
 clear h11
 have H12' := Aside0.mk h12
 clear h12
 have H13' := Aside0.mk h13
 clear h13
 have H14' := Aside0.mk h14
 clear h14
 have H15' := Aside0.mk h15
 clear h15
 have H17' := Aside0.mk h17
 clear h17
 have H18' := Aside0.mk h18
 clear h18
 have H19' := Aside0.mk h19
 clear h19
 have H21' := Aside0.mk h21
 clear h21
 have H22' := Aside0.mk h22
 clear h22
 have H24' := Aside0.mk h24
 clear h24
 go_enter Try.func10, Try.ntmps10
 go_wp2_with (first | ((with_reducible refine gate_dst (N := 3) rfl ?_); refine box_event ?hg (N := 3) ?hd (cs := #[.slice A0_0 l0_0.length c0_0, .slice A0_1 l0_1.length c0_1]) (t := 24) ?hr ?_; (case hd => rfl); (case hg => rfl); (case hr => first | (go_simp; done) | (go_simp; rfl)); intro g3 hg w1 hbox hb; have Gg3 : Aside0 (g3 = w.heap.size) := ⟨hg⟩; have Kg3 := Aside0.mk (blk_lt hbox); clear hg; have n_HB := Aside0.mk (below_step HB.out hb); have NN1 : Aside0 (w.heap.size ≤ w1.heap.size) := ⟨hb.size⟩; clear HB; have HB := n_HB; clear n_HB; have Bg3 := Aside0.mk hbox; clear hb hbox; have hc3_0 : w1.cell? ⟨g3, 0, none⟩ = some (.slice A0_0 l0_0.length c0_0) := (blk_cell Bg3.out 0).trans rfl; have hf3_0 := blk_frozen Bg3.out 0; have hc3_1 : w1.cell? ⟨g3, 1, none⟩ = some (.slice A0_1 l0_1.length c0_1) := (blk_cell Bg3.out 1).trans rfl; have hf3_1 := blk_frozen Bg3.out 1) | ((with_reducible refine gate_callee (f := 15) rfl ?_); refine goesL_ (some 21) rfl rfl Try.func15 (by kernel_rfl) rfl #[.agg #[.slice A0_0 l0_0.length c0_0, .slice A0_1 l0_1.length c0_1], .int .i64 1048576] rfl (by (try simp only [List.map_toArray, List.map_cons, List.map_nil]); first | done | rfl) ?_; refine (laws_szGame.calls k _ _ l0_0 _ _ l0_1 1048576 t21 _ ?s1 ?s2 ?s3 ?s4 H1'.out).mono ?_; (case s1 => exact Kd.C_below HR0_0.out HB.out); (case s2 => exact HC0_0.out); (case s3 => exact Kd.C_below HR0_1.out HB.out); (case s4 => exact HC0_1.out); rintro e w2 ⟨rfl, hb⟩; refine ⟨_, rfl, ?_⟩; have n_Bg3 := Aside0.mk (blk_below Bg3.out hb); have n_HB := Aside0.mk (below_step HB.out hb); have NN2 : Aside0 (w1.heap.size ≤ w2.heap.size) := ⟨hb.size⟩; clear hc3_0 hf3_0; clear hc3_1 hf3_1; clear Bg3 HB; have Bg3 := n_Bg3; have HB := n_HB; clear n_Bg3 n_HB; clear hb) | ((with_reducible refine gate_callee (f := 44) rfl ?_); refine goesL_ (some 26) rfl rfl Try.func44 (by kernel_rfl) rfl #[.slice A2 l2.length c2, .int .i64 t21] rfl (by (try simp only [List.map_toArray, List.map_cons, List.map_nil]); first | done | rfl) ?_; refine (laws_szFracS.calls _ _ l2 t21 t26 _ ?s1 ?s2 H3'.out).mono ?_; (case s1 => exact Kd.C_below HR2.out HB.out); (case s2 => exact HC2.out); rintro e w3 ⟨rfl, hb⟩; refine ⟨_, rfl, ?_⟩; have hb := hb.below; have n_Bg3 := Aside0.mk (blk_below Bg3.out hb); have n_HB := Aside0.mk (below_step HB.out hb); have NN3 : Aside0 (w2.heap.size ≤ w3.heap.size) := ⟨hb.size⟩; clear Bg3 HB; have Bg3 := n_Bg3; have HB := n_HB; clear n_Bg3 n_HB; clear hb; have hc3_0 : w3.cell? ⟨g3, 0, none⟩ = some (.slice A0_0 l0_0.length c0_0) := (blk_cell Bg3.out 0).trans rfl; have hf3_0 := blk_frozen Bg3.out 0; have hc3_1 : w3.cell? ⟨g3, 1, none⟩ = some (.slice A0_1 l0_1.length c0_1) := (blk_cell Bg3.out 1).trans rfl; have hf3_1 := blk_frozen Bg3.out 1) | ((with_reducible refine gate_callee (f := 17) rfl ?_); refine goesL_ (some 31) rfl rfl Try.func17 (by kernel_rfl) rfl #[.agg #[.slice A0_0 l0_0.length c0_0, .slice A0_1 l0_1.length c0_1]] rfl (by (try simp only [List.map_toArray, List.map_cons, List.map_nil]); first | done | rfl) ?_; refine (laws_toGame2.calls k _ _ l0_0 _ _ l0_1 _ ?s1 ?s2 ?s3 ?s4 H5'.out).mono ?_; (case s1 => exact Kd.C_below HR0_0.out HB.out); (case s2 => exact HC0_0.out); (case s3 => exact Kd.C_below HR0_1.out HB.out); (case s4 => exact HC0_1.out); rintro e w4 ⟨v31_0, v31_1, rfl, ho0, hb⟩; refine ⟨_, rfl, ?_⟩; have nu0 := Aside0.mk (UG.of ho0 HB.out.size); have n_Bg3 := Aside0.mk (blk_below Bg3.out hb); have n_HB := Aside0.mk (below_step HB.out hb); have NN4 : Aside0 (w3.heap.size ≤ w4.heap.size) := ⟨hb.size⟩; clear hc3_0 hf3_0; clear hc3_1 hf3_1; clear Bg3 HB; have Bg3 := n_Bg3; have HB := n_HB; clear n_Bg3 n_HB; clear hb ho0; have U31 := nu0; clear nu0; obtain ⟨A31_0, c31_0, A31_1, c31_1, e0, e1⟩ := U31.out.slices; subst e0; subst e1) | ((with_reducible refine gate_callee (f := 46) rfl ?_); refine goesL_ (some 34) rfl rfl Try.func46 (by kernel_rfl) rfl #[.slice A2 l2.length c2] rfl (by (try simp only [List.map_toArray, List.map_cons, List.map_nil]); first | done | rfl) ?_; refine (laws_toFracS.calls k _ _ l2 y_l2 _ ?s1 ?s2 H6'.out).mono ?_; (case s1 => exact Kd.C_below HR2.out HB.out); (case s2 => exact HC2.out); rintro e w5 ⟨v34_0, rfl, ho0, hb⟩; refine ⟨_, rfl, ?_⟩; have nu0 := Aside0.mk (UR.of ho0 HB.out.size); have n_U31 := Aside0.mk (U31.out.mvB (Frm.below hb)); have n_Bg3 := Aside0.mk (blk_below Bg3.out hb); have n_HB := Aside0.mk (below_step HB.out hb); have NN5 : Aside0 (w4.heap.size ≤ w5.heap.size) := ⟨hb.size⟩; clear U31 Bg3 HB; have U31 := n_U31; have Bg3 := n_Bg3; have HB := n_HB; clear n_U31 n_Bg3 n_HB; clear hb ho0; have U34_0 := nu0; clear nu0; obtain ⟨A34_0, c34_0, e0⟩ := Kd.R_slice U34_0.out; subst e0) | ((with_reducible refine gate_callee (f := 52) rfl ?_); refine goesL_ (some 35) rfl rfl Try.func52 (by kernel_rfl) rfl #[.agg #[.slice A31_0 l0_0.length c31_0, .slice A31_1 l0_1.length c31_1], .int .i64 a1, .slice A34_0 y_l2.length c34_0] rfl (by (try simp only [List.map_toArray, List.map_cons, List.map_nil]); first | done | rfl) ?_; refine (spec_BestReplies.calls k _ _ l0_0 _ _ l0_1 a1 _ _ y_l2 s0 s1 _ ?s1 ?s2 ?s3 ?s4 ?s5 ?s6 H7'.out).mono ?_; (case s1 => exact U31.out.C0); (case s2 => exact U31.out.cap0); (case s3 => exact U31.out.C1); (case s4 => exact U31.out.cap1); (case s5 => exact UR.C U34_0.out); (case s6 => exact UR.cap U34_0.out); rintro e w6 ⟨v35_0, rfl, ho0, hb⟩; refine ⟨_, rfl, ?_⟩; have nu0 := Aside0.mk (UR.of ho0 HB.out.size); have n_U31 := Aside0.mk (U31.out.mvB (Frm.below hb)); have n_U34_0 := Aside0.mk (U34_0.out.mvB (Frm.below hb)); have n_Bg3 := Aside0.mk (blk_below Bg3.out hb); have n_HB := Aside0.mk (below_step HB.out hb); have NN6 : Aside0 (w5.heap.size ≤ w6.heap.size) := ⟨hb.size⟩; clear U31 U34_0 Bg3 HB; have U31 := n_U31; have U34_0 := n_U34_0; have Bg3 := n_Bg3; have HB := n_HB; clear n_U31 n_U34_0 n_Bg3 n_HB; clear hb ho0; have U35_0 := nu0; clear nu0; obtain ⟨A35_0, c35_0, e0⟩ := Kd.R_slice U35_0.out; subst e0; have hc3_0 : w6.cell? ⟨g3, 0, none⟩ = some (.slice A0_0 l0_0.length c0_0) := (blk_cell Bg3.out 0).trans rfl; have hf3_0 := blk_frozen Bg3.out 0; have hc3_1 : w6.cell? ⟨g3, 1, none⟩ = some (.slice A0_1 l0_1.length c0_1) := (blk_cell Bg3.out 1).trans rfl; have hf3_1 := blk_frozen Bg3.out 1) | ((with_reducible refine gate_callee (f := 17) rfl ?_); refine goesL_ (some 39) rfl rfl Try.func17 (by kernel_rfl) rfl #[.agg #[.slice A0_0 l0_0.length c0_0, .slice A0_1 l0_1.length c0_1]] rfl (by (try simp only [List.map_toArray, List.map_cons, List.map_nil]); first | done | rfl) ?_; refine (laws_toGame2.calls k _ _ l0_0 _ _ l0_1 _ ?s1 ?s2 ?s3 ?s4 H5'.out).mono ?_; (case s1 => exact Kd.C_below HR0_0.out HB.out); (case s2 => exact HC0_0.out); (case s3 => exact Kd.C_below HR0_1.out HB.out); (case s4 => exact HC0_1.out); rintro e w7 ⟨v39_0, v39_1, rfl, ho0, hb⟩; refine ⟨_, rfl, ?_⟩; have nu0 := Aside0.mk (UG.of ho0 HB.out.size); have n_U31 := Aside0.mk (U31.out.mvB (Frm.below hb)); have n_U34_0 := Aside0.mk (U34_0.out.mvB (Frm.below hb)); have n_U35_0 := Aside0.mk (U35_0.out.mvB (Frm.below hb)); have n_Bg3 := Aside0.mk (blk_below Bg3.out hb); have n_HB := Aside0.mk (below_step HB.out hb); have NN7 : Aside0 (w6.heap.size ≤ w7.heap.size) := ⟨hb.size⟩; clear hc3_0 hf3_0; clear hc3_1 hf3_1; clear U31 U34_0 U35_0 Bg3 HB; have U31 := n_U31; have U34_0 := n_U34_0; have U35_0 := n_U35_0; have Bg3 := n_Bg3; have HB := n_HB; clear n_U31 n_U34_0 n_U35_0 n_Bg3 n_HB; clear hb ho0; have U39 := nu0; clear nu0; obtain ⟨A39_0, c39_0, A39_1, c39_1, e0, e1⟩ := U39.out.slices; subst e0; subst e1) | ((with_reducible refine gate_dst (N := 10) rfl ?_); refine box_event ?hg (N := 10) ?hd (cs := #[.slice none 0 0, .slice none 0 0]) (t := 26) ?hr ?_; (case hd => rfl); (case hg => rfl); (case hr => first | (go_simp; done) | (go_simp; rfl)); intro g10 hg w8 hbox hb; have Gg10 : Aside0 (g10 = w7.heap.size) := ⟨hg⟩; have Kg10 := Aside0.mk (blk_lt hbox); clear hg; have n_U31 := Aside0.mk (U31.out.mvB (Frm.below hb)); have n_U34_0 := Aside0.mk (U34_0.out.mvB (Frm.below hb)); have n_U35_0 := Aside0.mk (U35_0.out.mvB (Frm.below hb)); have n_U39 := Aside0.mk (U39.out.mvB (Frm.below hb)); have n_Bg3 := Aside0.mk (blk_below Bg3.out hb); have n_HB := Aside0.mk (below_step HB.out hb); have NN8 : Aside0 (w7.heap.size ≤ w8.heap.size) := ⟨hb.size⟩; clear U31 U34_0 U35_0 U39 Bg3 HB; have U31 := n_U31; have U34_0 := n_U34_0; have U35_0 := n_U35_0; have U39 := n_U39; have Bg3 := n_Bg3; have HB := n_HB; clear n_U31 n_U34_0 n_U35_0 n_U39 n_Bg3 n_HB; have Bg10 := Aside0.mk hbox; clear hb hbox; have hc10_0 : w8.cell? ⟨g10, 0, none⟩ = some (.slice none 0 0) := (blk_cell Bg10.out 0).trans rfl; have hf10_0 := blk_frozen Bg10.out 0; have hc10_1 : w8.cell? ⟨g10, 1, none⟩ = some (.slice none 0 0) := (blk_cell Bg10.out 1).trans rfl; have hf10_1 := blk_frozen Bg10.out 1) | ((with_reducible refine gate_store (t := 26) (p := 10) rfl ?_); refine store_event (t := 26) (p := 10) (v := ?vo_w9) (w1 := ((w8.setCell ⟨g10, 0, none⟩ (.slice A39_0 l0_0.length c39_0)).setCell ⟨g10, 1, none⟩ (.slice A39_1 l0_1.length c39_1))) ?hg ?ho ?hn ?hr ?_; (case ho => rfl); (case hg => rfl); (case hn => rfl); (case hr => first | (go_simp; done) | (go_simp; rfl)); intro w9 hw; have hge : w.heap.size ≤ g10 := (by have := NN1.out; have := Gg3.out; have := Kg3.out; have := NN2.out; have := NN3.out; have := NN4.out; have := NN5.out; have := NN6.out; have := NN7.out; have := NN8.out; have := Gg10.out; have := Kg10.out; have := HB.out.size; omega); have hF : Frm w8 w9 g10 (g10 + 1) := (by rw [hw]; exact (Frm.trans (Frm.set _ _ _ _) (Frm.set _ _ _ _))); have nb := Aside0.mk (show w9.heap[g10]? = some (.cells #[.slice A39_0 l0_0.length c39_0, .slice A39_1 l0_1.length c39_1] 26 (0, 0)) from (by rw [hw]; exact (blk_put (blk_put Bg10.out 0 _ rfl) 1 _ rfl))); have n_U31 := Aside0.mk (U31.out.mv hF (by have := NN1.out; have := Gg3.out; have := Kg3.out; have := NN2.out; have := NN3.out; have := NN4.out; have := NN5.out; have := NN6.out; have := NN7.out; have := NN8.out; have := Gg10.out; have := Kg10.out; omega)); have n_U34_0 := Aside0.mk (U34_0.out.mv hF (by have := NN1.out; have := Gg3.out; have := Kg3.out; have := NN2.out; have := NN3.out; have := NN4.out; have := NN5.out; have := NN6.out; have := NN7.out; have := NN8.out; have := Gg10.out; have := Kg10.out; omega)); have n_U35_0 := Aside0.mk (U35_0.out.mv hF (by have := NN1.out; have := Gg3.out; have := Kg3.out; have := NN2.out; have := NN3.out; have := NN4.out; have := NN5.out; have := NN6.out; have := NN7.out; have := NN8.out; have := Gg10.out; have := Kg10.out; omega)); have n_U39 := Aside0.mk (U39.out.mv hF (by have := NN1.out; have := Gg3.out; have := Kg3.out; have := NN2.out; have := NN3.out; have := NN4.out; have := NN5.out; have := NN6.out; have := NN7.out; have := NN8.out; have := Gg10.out; have := Kg10.out; omega)); have n_Bg3 := Aside0.mk ((hF.same g3 (blk_lt Bg3.out) (by have := NN1.out; have := Gg3.out; have := Kg3.out; have := NN2.out; have := NN3.out; have := NN4.out; have := NN5.out; have := NN6.out; have := NN7.out; have := NN8.out; have := Gg10.out; have := Kg10.out; omega)).trans Bg3.out); have n_HB := Aside0.mk ((by rw [hw]; exact (below_set (below_set HB.out hge) hge) : Below w.heap.size w w9)); have NN9 : Aside0 (w8.heap.size ≤ w9.heap.size) := ⟨hF.size⟩; clear hc10_0 hf10_0; clear hc10_1 hf10_1; clear U31 U34_0 U35_0 U39 Bg3 HB; have U31 := n_U31; have U34_0 := n_U34_0; have U35_0 := n_U35_0; have U39 := n_U39; have Bg3 := n_Bg3; have HB := n_HB; clear n_U31 n_U34_0 n_U35_0 n_U39 n_Bg3 n_HB; clear Bg10; have Bg10 := nb; clear nb hF hge hw) | ((with_reducible refine gate_callee (f := 46) rfl ?_); refine goesL_ (some 41) rfl rfl Try.func46 (by kernel_rfl) rfl #[.slice A2 l2.length c2] rfl (by (try simp only [List.map_toArray, List.map_cons, List.map_nil]); first | done | rfl) ?_; refine (laws_toFracS.calls k _ _ l2 y_l2 _ ?s1 ?s2 H6'.out).mono ?_; (case s1 => exact Kd.C_below HR2.out HB.out); (case s2 => exact HC2.out); rintro e w10 ⟨v41_0, rfl, ho0, hb⟩; refine ⟨_, rfl, ?_⟩; have nu0 := Aside0.mk (UR.of ho0 HB.out.size); have n_U31 := Aside0.mk (U31.out.mvB (Frm.below hb)); have n_U34_0 := Aside0.mk (U34_0.out.mvB (Frm.below hb)); have n_U35_0 := Aside0.mk (U35_0.out.mvB (Frm.below hb)); have n_U39 := Aside0.mk (U39.out.mvB (Frm.below hb)); have n_Bg3 := Aside0.mk (blk_below Bg3.out hb); have n_Bg10 := Aside0.mk (blk_below Bg10.out hb); have n_HB := Aside0.mk (below_step HB.out hb); have NN10 : Aside0 (w9.heap.size ≤ w10.heap.size) := ⟨hb.size⟩; clear U31 U34_0 U35_0 U39 Bg3 Bg10 HB; have U31 := n_U31; have U34_0 := n_U34_0; have U35_0 := n_U35_0; have U39 := n_U39; have Bg3 := n_Bg3; have Bg10 := n_Bg10; have HB := n_HB; clear n_U31 n_U34_0 n_U35_0 n_U39 n_Bg3 n_Bg10 n_HB; clear hb ho0; have U41_0 := nu0; clear nu0; obtain ⟨A41_0, c41_0, e0⟩ := Kd.R_slice U41_0.out; subst e0; have hc10_0 : w10.cell? ⟨g10, 0, none⟩ = some (.slice A39_0 l0_0.length c39_0) := (blk_cell Bg10.out 0).trans rfl; have hf10_0 := blk_frozen Bg10.out 0; have hc10_1 : w10.cell? ⟨g10, 1, none⟩ = some (.slice A39_1 l0_1.length c39_1) := (blk_cell Bg10.out 1).trans rfl; have hf10_1 := blk_frozen Bg10.out 1) | ((with_reducible refine gate_callee (f := 53) rfl ?_); refine goesL_ (some 46) rfl rfl Try.func53 (by kernel_rfl) rfl #[.agg #[.slice A39_0 l0_0.length c39_0, .slice A39_1 l0_1.length c39_1], .int .i64 a1, .slice A41_0 y_l2.length c41_0] rfl (by (try simp only [List.map_toArray, List.map_cons, List.map_nil]); first | done | rfl) ?_; refine (impl_BestReplies.calls k _ _ l0_0 _ _ l0_1 a1 _ _ y_l2 s0 s1 _ ?s1 ?s2 ?s3 ?s4 ?s5 ?s6 H8'.out).mono ?_; (case s1 => exact U39.out.C0); (case s2 => exact U39.out.cap0); (case s3 => exact U39.out.C1); (case s4 => exact U39.out.cap1); (case s5 => exact UR.C U41_0.out); (case s6 => exact UR.cap U41_0.out); rintro e w11 ⟨v46_0, rfl, ho0, hb⟩; refine ⟨_, rfl, ?_⟩; have nu0 := Aside0.mk (UR.of ho0 HB.out.size); have n_U31 := Aside0.mk (U31.out.mvB (Frm.below hb)); have n_U34_0 := Aside0.mk (U34_0.out.mvB (Frm.below hb)); have n_U35_0 := Aside0.mk (U35_0.out.mvB (Frm.below hb)); have n_U39 := Aside0.mk (U39.out.mvB (Frm.below hb)); have n_U41_0 := Aside0.mk (U41_0.out.mvB (Frm.below hb)); have n_Bg3 := Aside0.mk (blk_below Bg3.out hb); have n_Bg10 := Aside0.mk (blk_below Bg10.out hb); have n_HB := Aside0.mk (below_step HB.out hb); have NN11 : Aside0 (w10.heap.size ≤ w11.heap.size) := ⟨hb.size⟩; clear hc10_0 hf10_0; clear hc10_1 hf10_1; clear U31 U34_0 U35_0 U39 U41_0 Bg3 Bg10 HB; have U31 := n_U31; have U34_0 := n_U34_0; have U35_0 := n_U35_0; have U39 := n_U39; have U41_0 := n_U41_0; have Bg3 := n_Bg3; have Bg10 := n_Bg10; have HB := n_HB; clear n_U31 n_U34_0 n_U35_0 n_U39 n_U41_0 n_Bg3 n_Bg10 n_HB; clear hb ho0; have U46_0 := nu0; clear nu0; obtain ⟨A46_0, c46_0, e0⟩ := Kd.R_slice U46_0.out; subst e0) | ((with_reducible refine gate_callee (f := 34) rfl ?_); refine goesL_ (some 51) rfl rfl Try.func34 (by kernel_rfl) rfl #[.slice A46_0 s0.length c46_0, .slice A35_0 s0.length c35_0] rfl (by (try simp only [List.map_toArray, List.map_cons, List.map_nil]); first | done | rfl) ?_; refine (laws_eqInt64S.calls k _ _ s0 _ _ s0 true _ ?s1 ?s2 ?s3 ?s4 H9'.out).mono ?_; (case s1 => exact UR.C U46_0.out); (case s2 => exact UR.cap U46_0.out); (case s3 => exact UR.C U35_0.out); (case s4 => exact UR.cap U35_0.out); rintro e w12 ⟨rfl, hb⟩; refine ⟨_, rfl, ?_⟩; have hb := hb.below; have n_U31 := Aside0.mk (U31.out.mvB (Frm.below hb)); have n_U34_0 := Aside0.mk (U34_0.out.mvB (Frm.below hb)); have n_U35_0 := Aside0.mk (U35_0.out.mvB (Frm.below hb)); have n_U39 := Aside0.mk (U39.out.mvB (Frm.below hb)); have n_U41_0 := Aside0.mk (U41_0.out.mvB (Frm.below hb)); have n_U46_0 := Aside0.mk (U46_0.out.mvB (Frm.below hb)); have n_Bg3 := Aside0.mk (blk_below Bg3.out hb); have n_Bg10 := Aside0.mk (blk_below Bg10.out hb); have n_HB := Aside0.mk (below_step HB.out hb); have NN12 : Aside0 (w11.heap.size ≤ w12.heap.size) := ⟨hb.size⟩; clear U31 U34_0 U35_0 U39 U41_0 U46_0 Bg3 Bg10 HB; have U31 := n_U31; have U34_0 := n_U34_0; have U35_0 := n_U35_0; have U39 := n_U39; have U41_0 := n_U41_0; have U46_0 := n_U46_0; have Bg3 := n_Bg3; have Bg10 := n_Bg10; have HB := n_HB; clear n_U31 n_U34_0 n_U35_0 n_U39 n_U41_0 n_U46_0 n_Bg3 n_Bg10 n_HB; clear hb))
 try go_wp2
 have hb : Below w12.heap.size w12 w12.drew := (Below.refl _ _).drew
 have n_U31 := Aside0.mk (U31.out.mvB (Frm.below hb))
 have n_U34_0 := Aside0.mk (U34_0.out.mvB (Frm.below hb))
 have n_U35_0 := Aside0.mk (U35_0.out.mvB (Frm.below hb))
 have n_U39 := Aside0.mk (U39.out.mvB (Frm.below hb))
 have n_U41_0 := Aside0.mk (U41_0.out.mvB (Frm.below hb))
 have n_U46_0 := Aside0.mk (U46_0.out.mvB (Frm.below hb))
 have n_Bg3 := Aside0.mk (blk_below Bg3.out hb)
 have n_Bg10 := Aside0.mk (blk_below Bg10.out hb)
 have n_HB := Aside0.mk (below_step HB.out hb)
 have NN13 : Aside0 (w12.heap.size ≤ w12.drew.heap.size) := ⟨hb.size⟩
 clear U31 U34_0 U35_0 U39 U41_0 U46_0 Bg3 Bg10 HB
 have U31 := n_U31
 have U34_0 := n_U34_0
 have U35_0 := n_U35_0
 have U39 := n_U39
 have U41_0 := n_U41_0
 have U46_0 := n_U46_0
 have Bg3 := n_Bg3
 have Bg10 := n_Bg10
 have HB := n_HB
 clear n_U31 n_U34_0 n_U35_0 n_U39 n_U41_0 n_U46_0 n_Bg3 n_Bg10 n_HB
 clear hb
 refine start_ (n := 5) (S := fun w' => w'.cell? ⟨g10, 0, none⟩ = some (.slice A39_0 l0_0.length c39_0) ∧ w'.cell? ⟨g10, 1, none⟩ = some (.slice A39_1 l0_1.length c39_1) ∧ w'.cell? ⟨g3, 0, none⟩ = some (.slice A0_0 l0_0.length c0_0) ∧ w'.cell? ⟨g3, 1, none⟩ = some (.slice A0_1 l0_1.length c0_1)) (ds := []) #[false, false, false, false, false] (by kernel_rfl) rfl rfl ⟨(blk_cell Bg10.out 0).trans rfl, (blk_cell Bg10.out 1).trans rfl, (blk_cell Bg3.out 0).trans rfl, (blk_cell Bg3.out 1).trans rfl⟩ (fun hHeld => ?_)
 generalize w12.drew = w13 at U31 U34_0 U35_0 U39 U41_0 U46_0 Bg3 Bg10 HB NN13 hHeld ⊢
 have hc3_0 : w13.cell? ⟨g3, 0, none⟩ = some (.slice A0_0 l0_0.length c0_0) := (blk_cell Bg3.out 0).trans rfl
 have hf3_0 := blk_frozen Bg3.out 0
 have hc3_1 : w13.cell? ⟨g3, 1, none⟩ = some (.slice A0_1 l0_1.length c0_1) := (blk_cell Bg3.out 1).trans rfl
 have hf3_1 := blk_frozen Bg3.out 1
 have hc10_0 : w13.cell? ⟨g10, 0, none⟩ = some (.slice A39_0 l0_0.length c39_0) := (blk_cell Bg10.out 0).trans rfl
 have hf10_0 := blk_frozen Bg10.out 0
 have hc10_1 : w13.cell? ⟨g10, 1, none⟩ = some (.slice A39_1 l0_1.length c39_1) := (blk_cell Bg10.out 1).trans rfl
 have hf10_1 := blk_frozen Bg10.out 1
 refine take_ (i := 0) (N := some 58) (v := ?_) (a' := ?_) #[true, false, false, false, false] rfl rfl (by kernel_rfl) (fun _ _ _ h => h) (Or.inl ⟨by rfl, ?_⟩) hHeld ?_ ?_
 rotate_left
 ·rintro w' ⟨s0, s1, s2, s3⟩
  go_simp
  with_reducible rfl
 rotate_left
 ·simp only [Act.put, List.setIfInBounds_toArray, List.set_cons_zero, List.set_cons_succ, i64_w, i32_w]
  rfl
 refine take_ (i := 1) (N := some 59) (v := ?_) (a' := ?_) #[true, true, false, false, false] rfl rfl (by kernel_rfl) (fun _ _ _ h => h) (Or.inl ⟨by rfl, ?_⟩) hHeld ?_ ?_
 rotate_left
 ·rintro w' ⟨s0, s1, s2, s3⟩
  go_simp
  with_reducible rfl
 rotate_left
 ·simp only [Act.put, List.setIfInBounds_toArray, List.set_cons_zero, List.set_cons_succ, i64_w, i32_w]
  rfl
 refine one_ (i := 2) (N := some 60) #[true, true, true, false, false] rfl rfl (by kernel_rfl) (by decide) (fun K hK => ?_)
 refine goes_ Try.func17 (by kernel_rfl) rfl #[.agg #[.slice A0_0 l0_0.length c0_0, .slice A0_1 l0_1.length c0_1]] (by rfl) rfl rfl (by (try simp only [List.map_toArray, List.map_cons, List.map_nil]); first | done | rfl) ?_
 (refine (laws_toGame2.calls k _ _ l0_0 _ _ l0_1 _ ?s1 ?s2 ?s3 ?s4 H5'.out).mono ?_; (case s1 => exact Kd.C_below HR0_0.out HB.out); (case s2 => exact HC0_0.out); (case s3 => exact Kd.C_below HR0_1.out HB.out); (case s4 => exact HC0_1.out); rintro e w14 ⟨v60_0, v60_1, rfl, ho0, hb⟩; refine ⟨_, rfl, ?_⟩; have nu0 := Aside0.mk (UG.of ho0 HB.out.size); have n_U31 := Aside0.mk (U31.out.mvB (Frm.below hb)); have n_U34_0 := Aside0.mk (U34_0.out.mvB (Frm.below hb)); have n_U35_0 := Aside0.mk (U35_0.out.mvB (Frm.below hb)); have n_U39 := Aside0.mk (U39.out.mvB (Frm.below hb)); have n_U41_0 := Aside0.mk (U41_0.out.mvB (Frm.below hb)); have n_U46_0 := Aside0.mk (U46_0.out.mvB (Frm.below hb)); have n_Bg3 := Aside0.mk (blk_below Bg3.out hb); have n_Bg10 := Aside0.mk (blk_below Bg10.out hb); have n_HB := Aside0.mk (below_step HB.out hb); have NN14 : Aside0 (w13.heap.size ≤ w14.heap.size) := ⟨hb.size⟩; clear hc3_0 hf3_0; clear hc3_1 hf3_1; clear hc10_0 hf10_0; clear hc10_1 hf10_1; clear U31 U34_0 U35_0 U39 U41_0 U46_0 Bg3 Bg10 HB; have U31 := n_U31; have U34_0 := n_U34_0; have U35_0 := n_U35_0; have U39 := n_U39; have U41_0 := n_U41_0; have U46_0 := n_U46_0; have Bg3 := n_Bg3; have Bg10 := n_Bg10; have HB := n_HB; clear n_U31 n_U34_0 n_U35_0 n_U39 n_U41_0 n_U46_0 n_Bg3 n_Bg10 n_HB; clear hb ho0; have U60 := nu0; clear nu0; obtain ⟨A60_0, c60_0, A60_1, c60_1, e0, e1⟩ := U60.out.slices; subst e0; subst e1)
 refine hK.out _ _ ⟨(blk_cell Bg10.out 0).trans rfl, (blk_cell Bg10.out 1).trans rfl, (blk_cell Bg3.out 0).trans rfl, (blk_cell Bg3.out 1).trans rfl⟩ (fun hHeld => ?_)
 clear hK K
 refine norm_ (a' := ?_) ?_ ?_
 rotate_left
 ·show Act.put _ (some 60) _ = _
  simp only [Act.put, List.setIfInBounds_toArray, List.set_cons_zero, List.set_cons_succ, i64_w, i32_w]
  rfl
 refine one_ (i := 3) (N := some 61) #[true, true, true, true, false] rfl rfl (by kernel_rfl) (by decide) (fun K hK => ?_)
 refine goes_ Try.func19 (by kernel_rfl) rfl #[.agg #[.slice A39_0 l0_0.length c39_0, .slice A39_1 l0_1.length c39_1], .agg #[.slice A60_0 l0_0.length c60_0, .slice A60_1 l0_1.length c60_1]] (by rfl) rfl rfl (by (try simp only [List.map_toArray, List.map_cons, List.map_nil]); first | done | rfl) ?_
 (refine (laws_eqGame.calls k _ _ l0_0 _ _ l0_1 _ _ l0_0 _ _ l0_1 true _ ?s1 ?s2 ?s3 ?s4 ?s5 ?s6 ?s7 ?s8 H10'.out).mono ?_; (case s1 => exact U39.out.C0); (case s2 => exact U39.out.cap0); (case s3 => exact U39.out.C1); (case s4 => exact U39.out.cap1); (case s5 => exact U60.out.C0); (case s6 => exact U60.out.cap0); (case s7 => exact U60.out.C1); (case s8 => exact U60.out.cap1); rintro e w15 ⟨rfl, hb⟩; refine ⟨_, rfl, ?_⟩; have n_U31 := Aside0.mk (U31.out.mvB (Frm.below hb)); have n_U34_0 := Aside0.mk (U34_0.out.mvB (Frm.below hb)); have n_U35_0 := Aside0.mk (U35_0.out.mvB (Frm.below hb)); have n_U39 := Aside0.mk (U39.out.mvB (Frm.below hb)); have n_U41_0 := Aside0.mk (U41_0.out.mvB (Frm.below hb)); have n_U46_0 := Aside0.mk (U46_0.out.mvB (Frm.below hb)); have n_U60 := Aside0.mk (U60.out.mvB (Frm.below hb)); have n_Bg3 := Aside0.mk (blk_below Bg3.out hb); have n_Bg10 := Aside0.mk (blk_below Bg10.out hb); have n_HB := Aside0.mk (below_step HB.out hb); have NN15 : Aside0 (w14.heap.size ≤ w15.heap.size) := ⟨hb.size⟩; clear U31 U34_0 U35_0 U39 U41_0 U46_0 U60 Bg3 Bg10 HB; have U31 := n_U31; have U34_0 := n_U34_0; have U35_0 := n_U35_0; have U39 := n_U39; have U41_0 := n_U41_0; have U46_0 := n_U46_0; have U60 := n_U60; have Bg3 := n_Bg3; have Bg10 := n_Bg10; have HB := n_HB; clear n_U31 n_U34_0 n_U35_0 n_U39 n_U41_0 n_U46_0 n_U60 n_Bg3 n_Bg10 n_HB; clear hb)
 refine hK.out _ _ ⟨(blk_cell Bg10.out 0).trans rfl, (blk_cell Bg10.out 1).trans rfl, (blk_cell Bg3.out 0).trans rfl, (blk_cell Bg3.out 1).trans rfl⟩ (fun hHeld => ?_)
 clear hK K
 refine norm_ (a' := ?_) ?_ ?_
 rotate_left
 ·show Act.put _ (some 61) _ = _
  simp only [Act.put, List.setIfInBounds_toArray, List.set_cons_zero, List.set_cons_succ, i64_w, i32_w]
  rfl
 refine pure_ (i := 4) (N := some 62) (v := ?_) (a' := ?_) #[true, true, true, true, true] rfl rfl (by kernel_rfl) (fun _ _ _ h => h) (Or.inl ⟨by rfl, ?_⟩) ?_ ?_
 rotate_left
 ·intro w'
  go_simp
  with_reducible rfl
 rotate_left
 ·simp only [Act.put, List.setIfInBounds_toArray, List.set_cons_zero, List.set_cons_succ, i64_w, i32_w]
  rfl
 refine done_ (by kernel_rfl) ?_
 go_wp2_with (first | ((with_reducible refine gate_callee (f := 46) rfl ?_); refine goesL_ (some 65) rfl rfl Try.func46 (by kernel_rfl) rfl #[.slice A2 l2.length c2] rfl (by (try simp only [List.map_toArray, List.map_cons, List.map_nil]); first | done | rfl) ?_; refine (laws_toFracS.calls k _ _ l2 y_l2 _ ?s1 ?s2 H6'.out).mono ?_; (case s1 => exact Kd.C_below HR2.out HB.out); (case s2 => exact HC2.out); rintro e w16 ⟨v65_0, rfl, ho0, hb⟩; refine ⟨_, rfl, ?_⟩; have nu0 := Aside0.mk (UR.of ho0 HB.out.size); have n_U31 := Aside0.mk (U31.out.mvB (Frm.below hb)); have n_U34_0 := Aside0.mk (U34_0.out.mvB (Frm.below hb)); have n_U35_0 := Aside0.mk (U35_0.out.mvB (Frm.below hb)); have n_U39 := Aside0.mk (U39.out.mvB (Frm.below hb)); have n_U41_0 := Aside0.mk (U41_0.out.mvB (Frm.below hb)); have n_U46_0 := Aside0.mk (U46_0.out.mvB (Frm.below hb)); have n_U60 := Aside0.mk (U60.out.mvB (Frm.below hb)); have n_Bg3 := Aside0.mk (blk_below Bg3.out hb); have n_Bg10 := Aside0.mk (blk_below Bg10.out hb); have n_HB := Aside0.mk (below_step HB.out hb); have NN16 : Aside0 (w15.heap.size ≤ w16.heap.size) := ⟨hb.size⟩; clear U31 U34_0 U35_0 U39 U41_0 U46_0 U60 Bg3 Bg10 HB; have U31 := n_U31; have U34_0 := n_U34_0; have U35_0 := n_U35_0; have U39 := n_U39; have U41_0 := n_U41_0; have U46_0 := n_U46_0; have U60 := n_U60; have Bg3 := n_Bg3; have Bg10 := n_Bg10; have HB := n_HB; clear n_U31 n_U34_0 n_U35_0 n_U39 n_U41_0 n_U46_0 n_U60 n_Bg3 n_Bg10 n_HB; clear hb ho0; have U65_0 := nu0; clear nu0; obtain ⟨A65_0, c65_0, e0⟩ := Kd.R_slice U65_0.out; subst e0) | ((with_reducible refine gate_callee (f := 49) rfl ?_); refine goesL_ (some 66) rfl rfl Try.func49 (by kernel_rfl) rfl #[.slice A41_0 y_l2.length c41_0, .slice A65_0 y_l2.length c65_0] rfl (by (try simp only [List.map_toArray, List.map_cons, List.map_nil]); first | done | rfl) ?_; refine (laws_eqFracS.calls k _ _ y_l2 _ _ y_l2 true _ ?s1 ?s2 ?s3 ?s4 H11'.out).mono ?_; (case s1 => exact UR.C U41_0.out); (case s2 => exact UR.cap U41_0.out); (case s3 => exact UR.C U65_0.out); (case s4 => exact UR.cap U65_0.out); rintro e w17 ⟨rfl, hb⟩; refine ⟨_, rfl, ?_⟩; have n_U31 := Aside0.mk (U31.out.mvB (Frm.below hb)); have n_U34_0 := Aside0.mk (U34_0.out.mvB (Frm.below hb)); have n_U35_0 := Aside0.mk (U35_0.out.mvB (Frm.below hb)); have n_U39 := Aside0.mk (U39.out.mvB (Frm.below hb)); have n_U41_0 := Aside0.mk (U41_0.out.mvB (Frm.below hb)); have n_U46_0 := Aside0.mk (U46_0.out.mvB (Frm.below hb)); have n_U60 := Aside0.mk (U60.out.mvB (Frm.below hb)); have n_U65_0 := Aside0.mk (U65_0.out.mvB (Frm.below hb)); have n_Bg3 := Aside0.mk (blk_below Bg3.out hb); have n_Bg10 := Aside0.mk (blk_below Bg10.out hb); have n_HB := Aside0.mk (below_step HB.out hb); have NN17 : Aside0 (w16.heap.size ≤ w17.heap.size) := ⟨hb.size⟩; clear U31 U34_0 U35_0 U39 U41_0 U46_0 U60 U65_0 Bg3 Bg10 HB; have U31 := n_U31; have U34_0 := n_U34_0; have U35_0 := n_U35_0; have U39 := n_U39; have U41_0 := n_U41_0; have U46_0 := n_U46_0; have U60 := n_U60; have U65_0 := n_U65_0; have Bg3 := n_Bg3; have Bg10 := n_Bg10; have HB := n_HB; clear n_U31 n_U34_0 n_U35_0 n_U39 n_U41_0 n_U46_0 n_U60 n_U65_0 n_Bg3 n_Bg10 n_HB; clear hb; have hc10_0 : w17.cell? ⟨g10, 0, none⟩ = some (.slice A39_0 l0_0.length c39_0) := (blk_cell Bg10.out 0).trans rfl; have hf10_0 := blk_frozen Bg10.out 0; have hc10_1 : w17.cell? ⟨g10, 1, none⟩ = some (.slice A39_1 l0_1.length c39_1) := (blk_cell Bg10.out 1).trans rfl; have hf10_1 := blk_frozen Bg10.out 1) | ((with_reducible refine gate_callee (f := 20) rfl ?_); refine goesL_ (some 70) rfl rfl Try.func20 (by kernel_rfl) rfl #[.agg #[.slice A39_0 l0_0.length c39_0, .slice A39_1 l0_1.length c39_1], .int .i64 1] rfl (by (try simp only [List.map_toArray, List.map_cons, List.map_nil]); first | done | rfl) ?_; refine (mark_UG A39_0 c39_0 A39_1 c39_1 l0_0 l0_1 1 m1 HB.out U39.out (by decide) H13'.out H14'.out H15'.out H12'.out (by have := NN1.out; have := Gg3.out; have := Kg3.out; have := NN2.out; have := NN3.out; have := NN4.out; have := NN5.out; have := NN6.out; have := NN7.out; have := NN8.out; have := Gg10.out; have := Kg10.out; have := NN9.out; have := NN10.out; have := NN11.out; have := NN12.out; have := NN13.out; have := NN14.out; have := NN15.out; have := NN16.out; have := NN17.out; omega)).mono ?_; rintro e w18 ⟨rfl, hU, hB', hF⟩; refine ⟨_, rfl, ?_⟩; have nu := Aside0.mk hU; have n_U31 := Aside0.mk (U31.out.mv hF (by have := NN1.out; have := Gg3.out; have := Kg3.out; have := NN2.out; have := NN3.out; have := NN4.out; have := NN5.out; have := NN6.out; have := NN7.out; have := NN8.out; have := Gg10.out; have := Kg10.out; have := NN9.out; have := NN10.out; have := NN11.out; have := NN12.out; have := NN13.out; have := NN14.out; have := NN15.out; have := NN16.out; have := NN17.out; omega)); have n_U34_0 := Aside0.mk (U34_0.out.mv hF (by have := NN1.out; have := Gg3.out; have := Kg3.out; have := NN2.out; have := NN3.out; have := NN4.out; have := NN5.out; have := NN6.out; have := NN7.out; have := NN8.out; have := Gg10.out; have := Kg10.out; have := NN9.out; have := NN10.out; have := NN11.out; have := NN12.out; have := NN13.out; have := NN14.out; have := NN15.out; have := NN16.out; have := NN17.out; omega)); have n_U35_0 := Aside0.mk (U35_0.out.mv hF (by have := NN1.out; have := Gg3.out; have := Kg3.out; have := NN2.out; have := NN3.out; have := NN4.out; have := NN5.out; have := NN6.out; have := NN7.out; have := NN8.out; have := Gg10.out; have := Kg10.out; have := NN9.out; have := NN10.out; have := NN11.out; have := NN12.out; have := NN13.out; have := NN14.out; have := NN15.out; have := NN16.out; have := NN17.out; omega)); have n_U41_0 := Aside0.mk (U41_0.out.mv hF (by have := NN1.out; have := Gg3.out; have := Kg3.out; have := NN2.out; have := NN3.out; have := NN4.out; have := NN5.out; have := NN6.out; have := NN7.out; have := NN8.out; have := Gg10.out; have := Kg10.out; have := NN9.out; have := NN10.out; have := NN11.out; have := NN12.out; have := NN13.out; have := NN14.out; have := NN15.out; have := NN16.out; have := NN17.out; omega)); have n_U46_0 := Aside0.mk (U46_0.out.mv hF (by have := NN1.out; have := Gg3.out; have := Kg3.out; have := NN2.out; have := NN3.out; have := NN4.out; have := NN5.out; have := NN6.out; have := NN7.out; have := NN8.out; have := Gg10.out; have := Kg10.out; have := NN9.out; have := NN10.out; have := NN11.out; have := NN12.out; have := NN13.out; have := NN14.out; have := NN15.out; have := NN16.out; have := NN17.out; omega)); have n_U60 := Aside0.mk (U60.out.mv hF (by have := NN1.out; have := Gg3.out; have := Kg3.out; have := NN2.out; have := NN3.out; have := NN4.out; have := NN5.out; have := NN6.out; have := NN7.out; have := NN8.out; have := Gg10.out; have := Kg10.out; have := NN9.out; have := NN10.out; have := NN11.out; have := NN12.out; have := NN13.out; have := NN14.out; have := NN15.out; have := NN16.out; have := NN17.out; omega)); have n_U65_0 := Aside0.mk (U65_0.out.mv hF (by have := NN1.out; have := Gg3.out; have := Kg3.out; have := NN2.out; have := NN3.out; have := NN4.out; have := NN5.out; have := NN6.out; have := NN7.out; have := NN8.out; have := Gg10.out; have := Kg10.out; have := NN9.out; have := NN10.out; have := NN11.out; have := NN12.out; have := NN13.out; have := NN14.out; have := NN15.out; have := NN16.out; have := NN17.out; omega)); have n_Bg3 := Aside0.mk ((hF.same g3 (blk_lt Bg3.out) (by have := NN1.out; have := Gg3.out; have := Kg3.out; have := NN2.out; have := NN3.out; have := NN4.out; have := NN5.out; have := NN6.out; have := NN7.out; have := NN8.out; have := Gg10.out; have := Kg10.out; have := NN9.out; have := NN10.out; have := NN11.out; have := NN12.out; have := NN13.out; have := NN14.out; have := NN15.out; have := NN16.out; have := NN17.out; omega)).trans Bg3.out); have n_Bg10 := Aside0.mk ((hF.same g10 (blk_lt Bg10.out) (by have := NN1.out; have := Gg3.out; have := Kg3.out; have := NN2.out; have := NN3.out; have := NN4.out; have := NN5.out; have := NN6.out; have := NN7.out; have := NN8.out; have := Gg10.out; have := Kg10.out; have := NN9.out; have := NN10.out; have := NN11.out; have := NN12.out; have := NN13.out; have := NN14.out; have := NN15.out; have := NN16.out; have := NN17.out; omega)).trans Bg10.out); have n_HB := Aside0.mk (hB'); have NN18 : Aside0 (w17.heap.size ≤ w18.heap.size) := ⟨hF.size⟩; clear hc10_0 hf10_0; clear hc10_1 hf10_1; clear U31 U34_0 U35_0 U41_0 U46_0 U60 U65_0 Bg3 Bg10 HB; have U31 := n_U31; have U34_0 := n_U34_0; have U35_0 := n_U35_0; have U41_0 := n_U41_0; have U46_0 := n_U46_0; have U60 := n_U60; have U65_0 := n_U65_0; have Bg3 := n_Bg3; have Bg10 := n_Bg10; have HB := n_HB; clear n_U31 n_U34_0 n_U35_0 n_U41_0 n_U46_0 n_U60 n_U65_0 n_Bg3 n_Bg10 n_HB; clear U39; have U39 := nu; clear nu hU hB' hF) | ((with_reducible refine gate_callee (f := 54) rfl ?_); refine goesL_ (some 73) rfl rfl Try.func54 (by kernel_rfl) rfl #[.slice A41_0 y_l2.length c41_0, .int .i64 m1] rfl (by (try simp only [List.map_toArray, List.map_cons, List.map_nil]); first | done | rfl) ?_; refine (mark_UF A41_0 c41_0 y_l2 _ m1 m2 HB.out U41_0.out H17'.out H19'.out H18'.out).mono ?_; rintro e w19 ⟨rfl, hU, hB', hF⟩; refine ⟨_, rfl, ?_⟩; have nu := Aside0.mk hU; have n_U31 := Aside0.mk (U31.out.mv hF (by have := NN1.out; have := Gg3.out; have := Kg3.out; have := NN2.out; have := NN3.out; have := NN4.out; have := NN5.out; have := NN6.out; have := NN7.out; have := NN8.out; have := Gg10.out; have := Kg10.out; have := NN9.out; have := NN10.out; have := NN11.out; have := NN12.out; have := NN13.out; have := NN14.out; have := NN15.out; have := NN16.out; have := NN17.out; have := NN18.out; omega)); have n_U34_0 := Aside0.mk (U34_0.out.mv hF (by have := NN1.out; have := Gg3.out; have := Kg3.out; have := NN2.out; have := NN3.out; have := NN4.out; have := NN5.out; have := NN6.out; have := NN7.out; have := NN8.out; have := Gg10.out; have := Kg10.out; have := NN9.out; have := NN10.out; have := NN11.out; have := NN12.out; have := NN13.out; have := NN14.out; have := NN15.out; have := NN16.out; have := NN17.out; have := NN18.out; omega)); have n_U35_0 := Aside0.mk (U35_0.out.mv hF (by have := NN1.out; have := Gg3.out; have := Kg3.out; have := NN2.out; have := NN3.out; have := NN4.out; have := NN5.out; have := NN6.out; have := NN7.out; have := NN8.out; have := Gg10.out; have := Kg10.out; have := NN9.out; have := NN10.out; have := NN11.out; have := NN12.out; have := NN13.out; have := NN14.out; have := NN15.out; have := NN16.out; have := NN17.out; have := NN18.out; omega)); have n_U39 := Aside0.mk (U39.out.mv hF (by have := NN1.out; have := Gg3.out; have := Kg3.out; have := NN2.out; have := NN3.out; have := NN4.out; have := NN5.out; have := NN6.out; have := NN7.out; have := NN8.out; have := Gg10.out; have := Kg10.out; have := NN9.out; have := NN10.out; have := NN11.out; have := NN12.out; have := NN13.out; have := NN14.out; have := NN15.out; have := NN16.out; have := NN17.out; have := NN18.out; omega)); have n_U46_0 := Aside0.mk (U46_0.out.mv hF (by have := NN1.out; have := Gg3.out; have := Kg3.out; have := NN2.out; have := NN3.out; have := NN4.out; have := NN5.out; have := NN6.out; have := NN7.out; have := NN8.out; have := Gg10.out; have := Kg10.out; have := NN9.out; have := NN10.out; have := NN11.out; have := NN12.out; have := NN13.out; have := NN14.out; have := NN15.out; have := NN16.out; have := NN17.out; have := NN18.out; omega)); have n_U60 := Aside0.mk (U60.out.mv hF (by have := NN1.out; have := Gg3.out; have := Kg3.out; have := NN2.out; have := NN3.out; have := NN4.out; have := NN5.out; have := NN6.out; have := NN7.out; have := NN8.out; have := Gg10.out; have := Kg10.out; have := NN9.out; have := NN10.out; have := NN11.out; have := NN12.out; have := NN13.out; have := NN14.out; have := NN15.out; have := NN16.out; have := NN17.out; have := NN18.out; omega)); have n_U65_0 := Aside0.mk (U65_0.out.mv hF (by have := NN1.out; have := Gg3.out; have := Kg3.out; have := NN2.out; have := NN3.out; have := NN4.out; have := NN5.out; have := NN6.out; have := NN7.out; have := NN8.out; have := Gg10.out; have := Kg10.out; have := NN9.out; have := NN10.out; have := NN11.out; have := NN12.out; have := NN13.out; have := NN14.out; have := NN15.out; have := NN16.out; have := NN17.out; have := NN18.out; omega)); have n_Bg3 := Aside0.mk ((hF.same g3 (blk_lt Bg3.out) (by have := NN1.out; have := Gg3.out; have := Kg3.out; have := NN2.out; have := NN3.out; have := NN4.out; have := NN5.out; have := NN6.out; have := NN7.out; have := NN8.out; have := Gg10.out; have := Kg10.out; have := NN9.out; have := NN10.out; have := NN11.out; have := NN12.out; have := NN13.out; have := NN14.out; have := NN15.out; have := NN16.out; have := NN17.out; have := NN18.out; omega)).trans Bg3.out); have n_Bg10 := Aside0.mk ((hF.same g10 (blk_lt Bg10.out) (by have := NN1.out; have := Gg3.out; have := Kg3.out; have := NN2.out; have := NN3.out; have := NN4.out; have := NN5.out; have := NN6.out; have := NN7.out; have := NN8.out; have := Gg10.out; have := Kg10.out; have := NN9.out; have := NN10.out; have := NN11.out; have := NN12.out; have := NN13.out; have := NN14.out; have := NN15.out; have := NN16.out; have := NN17.out; have := NN18.out; omega)).trans Bg10.out); have n_HB := Aside0.mk (hB'); have NN19 : Aside0 (w18.heap.size ≤ w19.heap.size) := ⟨hF.size⟩; clear U31 U34_0 U35_0 U39 U46_0 U60 U65_0 Bg3 Bg10 HB; have U31 := n_U31; have U34_0 := n_U34_0; have U35_0 := n_U35_0; have U39 := n_U39; have U46_0 := n_U46_0; have U60 := n_U60; have U65_0 := n_U65_0; have Bg3 := n_Bg3; have Bg10 := n_Bg10; have HB := n_HB; clear n_U31 n_U34_0 n_U35_0 n_U39 n_U46_0 n_U60 n_U65_0 n_Bg3 n_Bg10 n_HB; clear U41_0; have U41_0 := nu; clear nu hU hB' hF) | (go_at_call 34; refine (laws_eqInt64S.calls k _ _ s0 _ _ s0 true _ ?s1 ?s2 ?s3 ?s4 H9'.out).mono ?_; (case s1 => exact UR.C U46_0.out); (case s2 => exact UR.cap U46_0.out); (case s3 => exact UR.C U35_0.out); (case s4 => exact UR.cap U35_0.out); rintro e w20 ⟨rfl, hb⟩; have hb := hb.below; have n_U31 := Aside0.mk (U31.out.mvB (Frm.below hb)); have n_U34_0 := Aside0.mk (U34_0.out.mvB (Frm.below hb)); have n_U35_0 := Aside0.mk (U35_0.out.mvB (Frm.below hb)); have n_U39 := Aside0.mk (U39.out.mvB (Frm.below hb)); have n_U41_0 := Aside0.mk (U41_0.out.mvB (Frm.below hb)); have n_U46_0 := Aside0.mk (U46_0.out.mvB (Frm.below hb)); have n_U60 := Aside0.mk (U60.out.mvB (Frm.below hb)); have n_U65_0 := Aside0.mk (U65_0.out.mvB (Frm.below hb)); have n_Bg3 := Aside0.mk (blk_below Bg3.out hb); have n_Bg10 := Aside0.mk (blk_below Bg10.out hb); have n_HB := Aside0.mk (below_step HB.out hb); have NN20 : Aside0 (w19.heap.size ≤ w20.heap.size) := ⟨hb.size⟩; clear U31 U34_0 U35_0 U39 U41_0 U46_0 U60 U65_0 Bg3 Bg10 HB; have U31 := n_U31; have U34_0 := n_U34_0; have U35_0 := n_U35_0; have U39 := n_U39; have U41_0 := n_U41_0; have U46_0 := n_U46_0; have U60 := n_U60; have U65_0 := n_U65_0; have Bg3 := n_Bg3; have Bg10 := n_Bg10; have HB := n_HB; clear n_U31 n_U34_0 n_U35_0 n_U39 n_U41_0 n_U46_0 n_U60 n_U65_0 n_Bg3 n_Bg10 n_HB; clear hb) | ((with_reducible refine gate_callee (f := 35) rfl ?_); refine goesL_ (some 89) rfl rfl Try.func35 (by kernel_rfl) rfl #[.slice A46_0 s0.length c46_0, .int .i64 1] rfl (by (try simp only [List.map_toArray, List.map_cons, List.map_nil]); first | done | rfl) ?_; refine (mark_UR A46_0 c46_0 s0 _ 1 m3 HB.out U46_0.out (by decide) H22'.out H21'.out).mono ?_; rintro e w21 ⟨rfl, hU, hB', hF⟩; refine ⟨_, rfl, ?_⟩; have nu := Aside0.mk hU; have n_U31 := Aside0.mk (U31.out.mv hF (by have := NN1.out; have := Gg3.out; have := Kg3.out; have := NN2.out; have := NN3.out; have := NN4.out; have := NN5.out; have := NN6.out; have := NN7.out; have := NN8.out; have := Gg10.out; have := Kg10.out; have := NN9.out; have := NN10.out; have := NN11.out; have := NN12.out; have := NN13.out; have := NN14.out; have := NN15.out; have := NN16.out; have := NN17.out; have := NN18.out; have := NN19.out; have := NN20.out; omega)); have n_U34_0 := Aside0.mk (U34_0.out.mv hF (by have := NN1.out; have := Gg3.out; have := Kg3.out; have := NN2.out; have := NN3.out; have := NN4.out; have := NN5.out; have := NN6.out; have := NN7.out; have := NN8.out; have := Gg10.out; have := Kg10.out; have := NN9.out; have := NN10.out; have := NN11.out; have := NN12.out; have := NN13.out; have := NN14.out; have := NN15.out; have := NN16.out; have := NN17.out; have := NN18.out; have := NN19.out; have := NN20.out; omega)); have n_U35_0 := Aside0.mk (U35_0.out.mv hF (by have := NN1.out; have := Gg3.out; have := Kg3.out; have := NN2.out; have := NN3.out; have := NN4.out; have := NN5.out; have := NN6.out; have := NN7.out; have := NN8.out; have := Gg10.out; have := Kg10.out; have := NN9.out; have := NN10.out; have := NN11.out; have := NN12.out; have := NN13.out; have := NN14.out; have := NN15.out; have := NN16.out; have := NN17.out; have := NN18.out; have := NN19.out; have := NN20.out; omega)); have n_U39 := Aside0.mk (U39.out.mv hF (by have := NN1.out; have := Gg3.out; have := Kg3.out; have := NN2.out; have := NN3.out; have := NN4.out; have := NN5.out; have := NN6.out; have := NN7.out; have := NN8.out; have := Gg10.out; have := Kg10.out; have := NN9.out; have := NN10.out; have := NN11.out; have := NN12.out; have := NN13.out; have := NN14.out; have := NN15.out; have := NN16.out; have := NN17.out; have := NN18.out; have := NN19.out; have := NN20.out; omega)); have n_U41_0 := Aside0.mk (U41_0.out.mv hF (by have := NN1.out; have := Gg3.out; have := Kg3.out; have := NN2.out; have := NN3.out; have := NN4.out; have := NN5.out; have := NN6.out; have := NN7.out; have := NN8.out; have := Gg10.out; have := Kg10.out; have := NN9.out; have := NN10.out; have := NN11.out; have := NN12.out; have := NN13.out; have := NN14.out; have := NN15.out; have := NN16.out; have := NN17.out; have := NN18.out; have := NN19.out; have := NN20.out; omega)); have n_U60 := Aside0.mk (U60.out.mv hF (by have := NN1.out; have := Gg3.out; have := Kg3.out; have := NN2.out; have := NN3.out; have := NN4.out; have := NN5.out; have := NN6.out; have := NN7.out; have := NN8.out; have := Gg10.out; have := Kg10.out; have := NN9.out; have := NN10.out; have := NN11.out; have := NN12.out; have := NN13.out; have := NN14.out; have := NN15.out; have := NN16.out; have := NN17.out; have := NN18.out; have := NN19.out; have := NN20.out; omega)); have n_U65_0 := Aside0.mk (U65_0.out.mv hF (by have := NN1.out; have := Gg3.out; have := Kg3.out; have := NN2.out; have := NN3.out; have := NN4.out; have := NN5.out; have := NN6.out; have := NN7.out; have := NN8.out; have := Gg10.out; have := Kg10.out; have := NN9.out; have := NN10.out; have := NN11.out; have := NN12.out; have := NN13.out; have := NN14.out; have := NN15.out; have := NN16.out; have := NN17.out; have := NN18.out; have := NN19.out; have := NN20.out; omega)); have n_Bg3 := Aside0.mk ((hF.same g3 (blk_lt Bg3.out) (by have := NN1.out; have := Gg3.out; have := Kg3.out; have := NN2.out; have := NN3.out; have := NN4.out; have := NN5.out; have := NN6.out; have := NN7.out; have := NN8.out; have := Gg10.out; have := Kg10.out; have := NN9.out; have := NN10.out; have := NN11.out; have := NN12.out; have := NN13.out; have := NN14.out; have := NN15.out; have := NN16.out; have := NN17.out; have := NN18.out; have := NN19.out; have := NN20.out; omega)).trans Bg3.out); have n_Bg10 := Aside0.mk ((hF.same g10 (blk_lt Bg10.out) (by have := NN1.out; have := Gg3.out; have := Kg3.out; have := NN2.out; have := NN3.out; have := NN4.out; have := NN5.out; have := NN6.out; have := NN7.out; have := NN8.out; have := Gg10.out; have := Kg10.out; have := NN9.out; have := NN10.out; have := NN11.out; have := NN12.out; have := NN13.out; have := NN14.out; have := NN15.out; have := NN16.out; have := NN17.out; have := NN18.out; have := NN19.out; have := NN20.out; omega)).trans Bg10.out); have n_HB := Aside0.mk (hB'); have NN21 : Aside0 (w20.heap.size ≤ w21.heap.size) := ⟨hF.size⟩; clear U31 U34_0 U35_0 U39 U41_0 U60 U65_0 Bg3 Bg10 HB; have U31 := n_U31; have U34_0 := n_U34_0; have U35_0 := n_U35_0; have U39 := n_U39; have U41_0 := n_U41_0; have U60 := n_U60; have U65_0 := n_U65_0; have Bg3 := n_Bg3; have Bg10 := n_Bg10; have HB := n_HB; clear n_U31 n_U34_0 n_U35_0 n_U39 n_U41_0 n_U60 n_U65_0 n_Bg3 n_Bg10 n_HB; clear U46_0; have U46_0 := nu; clear nu hU hB' hF) | ((with_reducible refine gate_callee (f := 36) rfl ?_); refine goesL_ (some 92) rfl rfl Try.func36 (by kernel_rfl) rfl #[.slice A46_0 s0.length c46_0, .int .i64 1] rfl (by (try simp only [List.map_toArray, List.map_cons, List.map_nil]); first | done | rfl) ?_; have hcall := laws_heldInt64S.calls k _ _ ((count 1 s0.length)) 1 m3 _ (UR.C U46_0.out) (UR.cap U46_0.out) H24'.out; simp only [marks_length, count_length] at hcall; refine hcall.mono ?_; clear hcall; rintro e w22 ⟨rfl, hb⟩; refine ⟨_, rfl, ?_⟩; have hb := hb.below; have n_U31 := Aside0.mk (U31.out.mvB (Frm.below hb)); have n_U34_0 := Aside0.mk (U34_0.out.mvB (Frm.below hb)); have n_U35_0 := Aside0.mk (U35_0.out.mvB (Frm.below hb)); have n_U39 := Aside0.mk (U39.out.mvB (Frm.below hb)); have n_U41_0 := Aside0.mk (U41_0.out.mvB (Frm.below hb)); have n_U46_0 := Aside0.mk (U46_0.out.mvB (Frm.below hb)); have n_U60 := Aside0.mk (U60.out.mvB (Frm.below hb)); have n_U65_0 := Aside0.mk (U65_0.out.mvB (Frm.below hb)); have n_Bg3 := Aside0.mk (blk_below Bg3.out hb); have n_Bg10 := Aside0.mk (blk_below Bg10.out hb); have n_HB := Aside0.mk (below_step HB.out hb); have NN22 : Aside0 (w21.heap.size ≤ w22.heap.size) := ⟨hb.size⟩; clear U31 U34_0 U35_0 U39 U41_0 U46_0 U60 U65_0 Bg3 Bg10 HB; have U31 := n_U31; have U34_0 := n_U34_0; have U35_0 := n_U35_0; have U39 := n_U39; have U41_0 := n_U41_0; have U46_0 := n_U46_0; have U60 := n_U60; have U65_0 := n_U65_0; have Bg3 := n_Bg3; have Bg10 := n_Bg10; have HB := n_HB; clear n_U31 n_U34_0 n_U35_0 n_U39 n_U41_0 n_U46_0 n_U60 n_U65_0 n_Bg3 n_Bg10 n_HB; clear hb; have hc3_0 : w22.cell? ⟨g3, 0, none⟩ = some (.slice A0_0 l0_0.length c0_0) := (blk_cell Bg3.out 0).trans rfl; have hf3_0 := blk_frozen Bg3.out 0; have hc3_1 : w22.cell? ⟨g3, 1, none⟩ = some (.slice A0_1 l0_1.length c0_1) := (blk_cell Bg3.out 1).trans rfl; have hf3_1 := blk_frozen Bg3.out 1) | ((with_reducible refine gate_callee (f := 17) rfl ?_); refine goesL_ (some 100) rfl rfl Try.func17 (by kernel_rfl) rfl #[.agg #[.slice A0_0 l0_0.length c0_0, .slice A0_1 l0_1.length c0_1]] rfl (by (try simp only [List.map_toArray, List.map_cons, List.map_nil]); first | done | rfl) ?_; refine (laws_toGame2.calls k _ _ l0_0 _ _ l0_1 _ ?s1 ?s2 ?s3 ?s4 H5'.out).mono ?_; (case s1 => exact Kd.C_below HR0_0.out HB.out); (case s2 => exact HC0_0.out); (case s3 => exact Kd.C_below HR0_1.out HB.out); (case s4 => exact HC0_1.out); rintro e w23 ⟨v100_0, v100_1, rfl, ho0, hb⟩; refine ⟨_, rfl, ?_⟩; have nu0 := Aside0.mk (UG.of ho0 HB.out.size); have n_U31 := Aside0.mk (U31.out.mvB (Frm.below hb)); have n_U34_0 := Aside0.mk (U34_0.out.mvB (Frm.below hb)); have n_U35_0 := Aside0.mk (U35_0.out.mvB (Frm.below hb)); have n_U39 := Aside0.mk (U39.out.mvB (Frm.below hb)); have n_U41_0 := Aside0.mk (U41_0.out.mvB (Frm.below hb)); have n_U46_0 := Aside0.mk (U46_0.out.mvB (Frm.below hb)); have n_U60 := Aside0.mk (U60.out.mvB (Frm.below hb)); have n_U65_0 := Aside0.mk (U65_0.out.mvB (Frm.below hb)); have n_Bg3 := Aside0.mk (blk_below Bg3.out hb); have n_Bg10 := Aside0.mk (blk_below Bg10.out hb); have n_HB := Aside0.mk (below_step HB.out hb); have NN23 : Aside0 (w22.heap.size ≤ w23.heap.size) := ⟨hb.size⟩; clear hc3_0 hf3_0; clear hc3_1 hf3_1; clear U31 U34_0 U35_0 U39 U41_0 U46_0 U60 U65_0 Bg3 Bg10 HB; have U31 := n_U31; have U34_0 := n_U34_0; have U35_0 := n_U35_0; have U39 := n_U39; have U41_0 := n_U41_0; have U46_0 := n_U46_0; have U60 := n_U60; have U65_0 := n_U65_0; have Bg3 := n_Bg3; have Bg10 := n_Bg10; have HB := n_HB; clear n_U31 n_U34_0 n_U35_0 n_U39 n_U41_0 n_U46_0 n_U60 n_U65_0 n_Bg3 n_Bg10 n_HB; clear hb ho0; have U100 := nu0; clear nu0; obtain ⟨A100_0, c100_0, A100_1, c100_1, e0, e1⟩ := U100.out.slices; subst e0; subst e1) | ((with_reducible refine gate_callee (f := 46) rfl ?_); refine goesL_ (some 103) rfl rfl Try.func46 (by kernel_rfl) rfl #[.slice A2 l2.length c2] rfl (by (try simp only [List.map_toArray, List.map_cons, List.map_nil]); first | done | rfl) ?_; refine (laws_toFracS.calls k _ _ l2 y_l2 _ ?s1 ?s2 H6'.out).mono ?_; (case s1 => exact Kd.C_below HR2.out HB.out); (case s2 => exact HC2.out); rintro e w24 ⟨v103_0, rfl, ho0, hb⟩; refine ⟨_, rfl, ?_⟩; have nu0 := Aside0.mk (UR.of ho0 HB.out.size); have n_U31 := Aside0.mk (U31.out.mvB (Frm.below hb)); have n_U34_0 := Aside0.mk (U34_0.out.mvB (Frm.below hb)); have n_U35_0 := Aside0.mk (U35_0.out.mvB (Frm.below hb)); have n_U39 := Aside0.mk (U39.out.mvB (Frm.below hb)); have n_U41_0 := Aside0.mk (U41_0.out.mvB (Frm.below hb)); have n_U46_0 := Aside0.mk (U46_0.out.mvB (Frm.below hb)); have n_U60 := Aside0.mk (U60.out.mvB (Frm.below hb)); have n_U65_0 := Aside0.mk (U65_0.out.mvB (Frm.below hb)); have n_U100 := Aside0.mk (U100.out.mvB (Frm.below hb)); have n_Bg3 := Aside0.mk (blk_below Bg3.out hb); have n_Bg10 := Aside0.mk (blk_below Bg10.out hb); have n_HB := Aside0.mk (below_step HB.out hb); have NN24 : Aside0 (w23.heap.size ≤ w24.heap.size) := ⟨hb.size⟩; clear U31 U34_0 U35_0 U39 U41_0 U46_0 U60 U65_0 U100 Bg3 Bg10 HB; have U31 := n_U31; have U34_0 := n_U34_0; have U35_0 := n_U35_0; have U39 := n_U39; have U41_0 := n_U41_0; have U46_0 := n_U46_0; have U60 := n_U60; have U65_0 := n_U65_0; have U100 := n_U100; have Bg3 := n_Bg3; have Bg10 := n_Bg10; have HB := n_HB; clear n_U31 n_U34_0 n_U35_0 n_U39 n_U41_0 n_U46_0 n_U60 n_U65_0 n_U100 n_Bg3 n_Bg10 n_HB; clear hb ho0; have U103_0 := nu0; clear nu0; obtain ⟨A103_0, c103_0, e0⟩ := Kd.R_slice U103_0.out; subst e0) | ((with_reducible refine gate_callee (f := 53) rfl ?_); refine goesL_ (some 104) rfl rfl Try.func53 (by kernel_rfl) rfl #[.agg #[.slice A100_0 l0_0.length c100_0, .slice A100_1 l0_1.length c100_1], .int .i64 a1, .slice A103_0 y_l2.length c103_0] rfl (by (try simp only [List.map_toArray, List.map_cons, List.map_nil]); first | done | rfl) ?_; refine (impl_BestReplies.calls k _ _ l0_0 _ _ l0_1 a1 _ _ y_l2 s0 s1 _ ?s1 ?s2 ?s3 ?s4 ?s5 ?s6 H8'.out).mono ?_; (case s1 => exact U100.out.C0); (case s2 => exact U100.out.cap0); (case s3 => exact U100.out.C1); (case s4 => exact U100.out.cap1); (case s5 => exact UR.C U103_0.out); (case s6 => exact UR.cap U103_0.out); rintro e w25 ⟨v104_0, rfl, ho0, hb⟩; refine ⟨_, rfl, ?_⟩; have nu0 := Aside0.mk (UR.of ho0 HB.out.size); have n_U31 := Aside0.mk (U31.out.mvB (Frm.below hb)); have n_U34_0 := Aside0.mk (U34_0.out.mvB (Frm.below hb)); have n_U35_0 := Aside0.mk (U35_0.out.mvB (Frm.below hb)); have n_U39 := Aside0.mk (U39.out.mvB (Frm.below hb)); have n_U41_0 := Aside0.mk (U41_0.out.mvB (Frm.below hb)); have n_U46_0 := Aside0.mk (U46_0.out.mvB (Frm.below hb)); have n_U60 := Aside0.mk (U60.out.mvB (Frm.below hb)); have n_U65_0 := Aside0.mk (U65_0.out.mvB (Frm.below hb)); have n_U100 := Aside0.mk (U100.out.mvB (Frm.below hb)); have n_U103_0 := Aside0.mk (U103_0.out.mvB (Frm.below hb)); have n_Bg3 := Aside0.mk (blk_below Bg3.out hb); have n_Bg10 := Aside0.mk (blk_below Bg10.out hb); have n_HB := Aside0.mk (below_step HB.out hb); have NN25 : Aside0 (w24.heap.size ≤ w25.heap.size) := ⟨hb.size⟩; clear U31 U34_0 U35_0 U39 U41_0 U46_0 U60 U65_0 U100 U103_0 Bg3 Bg10 HB; have U31 := n_U31; have U34_0 := n_U34_0; have U35_0 := n_U35_0; have U39 := n_U39; have U41_0 := n_U41_0; have U46_0 := n_U46_0; have U60 := n_U60; have U65_0 := n_U65_0; have U100 := n_U100; have U103_0 := n_U103_0; have Bg3 := n_Bg3; have Bg10 := n_Bg10; have HB := n_HB; clear n_U31 n_U34_0 n_U35_0 n_U39 n_U41_0 n_U46_0 n_U60 n_U65_0 n_U100 n_U103_0 n_Bg3 n_Bg10 n_HB; clear hb ho0; have U104_0 := nu0; clear nu0; obtain ⟨A104_0, c104_0, e0⟩ := Kd.R_slice U104_0.out; subst e0) | ((with_reducible refine gate_callee (f := 34) rfl ?_); refine goesL_ (some 109) rfl rfl Try.func34 (by kernel_rfl) rfl #[.slice A104_0 s0.length c104_0, .slice A35_0 s0.length c35_0] rfl (by (try simp only [List.map_toArray, List.map_cons, List.map_nil]); first | done | rfl) ?_; refine (laws_eqInt64S.calls k _ _ s0 _ _ s0 true _ ?s1 ?s2 ?s3 ?s4 H9'.out).mono ?_; (case s1 => exact UR.C U104_0.out); (case s2 => exact UR.cap U104_0.out); (case s3 => exact UR.C U35_0.out); (case s4 => exact UR.cap U35_0.out); rintro e w26 ⟨rfl, hb⟩; refine ⟨_, rfl, ?_⟩; have hb := hb.below; have n_U31 := Aside0.mk (U31.out.mvB (Frm.below hb)); have n_U34_0 := Aside0.mk (U34_0.out.mvB (Frm.below hb)); have n_U35_0 := Aside0.mk (U35_0.out.mvB (Frm.below hb)); have n_U39 := Aside0.mk (U39.out.mvB (Frm.below hb)); have n_U41_0 := Aside0.mk (U41_0.out.mvB (Frm.below hb)); have n_U46_0 := Aside0.mk (U46_0.out.mvB (Frm.below hb)); have n_U60 := Aside0.mk (U60.out.mvB (Frm.below hb)); have n_U65_0 := Aside0.mk (U65_0.out.mvB (Frm.below hb)); have n_U100 := Aside0.mk (U100.out.mvB (Frm.below hb)); have n_U103_0 := Aside0.mk (U103_0.out.mvB (Frm.below hb)); have n_U104_0 := Aside0.mk (U104_0.out.mvB (Frm.below hb)); have n_Bg3 := Aside0.mk (blk_below Bg3.out hb); have n_Bg10 := Aside0.mk (blk_below Bg10.out hb); have n_HB := Aside0.mk (below_step HB.out hb); have NN26 : Aside0 (w25.heap.size ≤ w26.heap.size) := ⟨hb.size⟩; clear U31 U34_0 U35_0 U39 U41_0 U46_0 U60 U65_0 U100 U103_0 U104_0 Bg3 Bg10 HB; have U31 := n_U31; have U34_0 := n_U34_0; have U35_0 := n_U35_0; have U39 := n_U39; have U41_0 := n_U41_0; have U46_0 := n_U46_0; have U60 := n_U60; have U65_0 := n_U65_0; have U100 := n_U100; have U103_0 := n_U103_0; have U104_0 := n_U104_0; have Bg3 := n_Bg3; have Bg10 := n_Bg10; have HB := n_HB; clear n_U31 n_U34_0 n_U35_0 n_U39 n_U41_0 n_U46_0 n_U60 n_U65_0 n_U100 n_U103_0 n_U104_0 n_Bg3 n_Bg10 n_HB; clear hb) | ((with_reducible refine gate_callee (f := 36) rfl ?_); refine goesL_ (some 118) rfl rfl Try.func36 (by kernel_rfl) rfl #[.slice A46_0 s0.length c46_0, .int .i64 1] rfl (by (try simp only [List.map_toArray, List.map_cons, List.map_nil]); first | done | rfl) ?_; have hcall := laws_heldInt64S.calls k _ _ ((count 1 s0.length)) 1 m3 _ (UR.C U46_0.out) (UR.cap U46_0.out) H24'.out; simp only [marks_length, count_length] at hcall; refine hcall.mono ?_; clear hcall; rintro e w27 ⟨rfl, hb⟩; refine ⟨_, rfl, ?_⟩; have hb := hb.below; have n_U31 := Aside0.mk (U31.out.mvB (Frm.below hb)); have n_U34_0 := Aside0.mk (U34_0.out.mvB (Frm.below hb)); have n_U35_0 := Aside0.mk (U35_0.out.mvB (Frm.below hb)); have n_U39 := Aside0.mk (U39.out.mvB (Frm.below hb)); have n_U41_0 := Aside0.mk (U41_0.out.mvB (Frm.below hb)); have n_U46_0 := Aside0.mk (U46_0.out.mvB (Frm.below hb)); have n_U60 := Aside0.mk (U60.out.mvB (Frm.below hb)); have n_U65_0 := Aside0.mk (U65_0.out.mvB (Frm.below hb)); have n_U100 := Aside0.mk (U100.out.mvB (Frm.below hb)); have n_U103_0 := Aside0.mk (U103_0.out.mvB (Frm.below hb)); have n_U104_0 := Aside0.mk (U104_0.out.mvB (Frm.below hb)); have n_Bg3 := Aside0.mk (blk_below Bg3.out hb); have n_Bg10 := Aside0.mk (blk_below Bg10.out hb); have n_HB := Aside0.mk (below_step HB.out hb); have NN27 : Aside0 (w26.heap.size ≤ w27.heap.size) := ⟨hb.size⟩; clear U31 U34_0 U35_0 U39 U41_0 U46_0 U60 U65_0 U100 U103_0 U104_0 Bg3 Bg10 HB; have U31 := n_U31; have U34_0 := n_U34_0; have U35_0 := n_U35_0; have U39 := n_U39; have U41_0 := n_U41_0; have U46_0 := n_U46_0; have U60 := n_U60; have U65_0 := n_U65_0; have U100 := n_U100; have U103_0 := n_U103_0; have U104_0 := n_U104_0; have Bg3 := n_Bg3; have Bg10 := n_Bg10; have HB := n_HB; clear n_U31 n_U34_0 n_U35_0 n_U39 n_U41_0 n_U46_0 n_U60 n_U65_0 n_U100 n_U103_0 n_U104_0 n_Bg3 n_Bg10 n_HB; clear hb))
 go_ret
 exact ⟨rfl, HB.out⟩
theorem laws_FnExactBestReplies.small0 (k : Nat) (A0_0 : Option Addr) (c0_0 : Nat) (l0_0 : List (List Int)) (A0_1 : Option Addr) (c0_1 : Nat) (l0_1 : List (List Int)) (a1 : Int) (A2 : Option Addr) (c2 : Nat) (l2 : List (S120)) (t21 : Int) (w : World) (hr0_0 : Kd.C (Kd.slice 2 (Kd.int .i64)) w A0_0 l0_0.length l0_0) (hc0_0 : l0_0.length ≤ c0_0) (hr0_1 : Kd.C (Kd.slice 2 (Kd.int .i64)) w A0_1 l0_1.length l0_1) (hc0_1 : l0_1.length ≤ c0_1) (hr2 : Kd.C k120 w A2 l2.length l2) (hc2 : l2.length ≤ c2) (h1 : laws_szGame.f k l0_0 l0_1 1048576 = some t21) (h2 : t21 < 0) :
  Calls Try.prog 10 #[.agg #[.slice A0_0 l0_0.length c0_0, .slice A0_1 l0_1.length c0_1], .int .i64 a1, .slice A2 l2.length c2] w fun e w' => e = .returned (.bool true) ∧ Below w.heap.size w w' := by
 have HR0_0 := Aside0.mk hr0_0
 have HC0_0 := Aside0.mk hc0_0
 clear hr0_0 hc0_0
 have HR0_1 := Aside0.mk hr0_1
 have HC0_1 := Aside0.mk hc0_1
 clear hr0_1 hc0_1
 have HR2 := Aside0.mk hr2
 have HC2 := Aside0.mk hc2
 clear hr2 hc2
 have HB := Aside0.mk (Below.refl w.heap.size w)
 have H1' := Aside0.mk h1
 clear h1
 go_enter Try.func10, Try.ntmps10
 go_wp2_with (first | ((with_reducible refine gate_dst (N := 3) rfl ?_); refine box_event ?hg (N := 3) ?hd (cs := #[.slice A0_0 l0_0.length c0_0, .slice A0_1 l0_1.length c0_1]) (t := 24) ?hr ?_; (case hd => rfl); (case hg => rfl); (case hr => first | (go_simp; done) | (go_simp; rfl)); intro g3 hg w1 hbox hb; have Gg3 : Aside0 (g3 = w.heap.size) := ⟨hg⟩; have Kg3 := Aside0.mk (blk_lt hbox); clear hg; have n_HB := Aside0.mk (below_step HB.out hb); have NN1 : Aside0 (w.heap.size ≤ w1.heap.size) := ⟨hb.size⟩; clear HB; have HB := n_HB; clear n_HB; have Bg3 := Aside0.mk hbox; clear hb hbox; have hc3_0 : w1.cell? ⟨g3, 0, none⟩ = some (.slice A0_0 l0_0.length c0_0) := (blk_cell Bg3.out 0).trans rfl; have hf3_0 := blk_frozen Bg3.out 0; have hc3_1 : w1.cell? ⟨g3, 1, none⟩ = some (.slice A0_1 l0_1.length c0_1) := (blk_cell Bg3.out 1).trans rfl; have hf3_1 := blk_frozen Bg3.out 1) | ((with_reducible refine gate_callee (f := 15) rfl ?_); refine goesL_ (some 21) rfl rfl Try.func15 (by kernel_rfl) rfl #[.agg #[.slice A0_0 l0_0.length c0_0, .slice A0_1 l0_1.length c0_1], .int .i64 1048576] rfl (by (try simp only [List.map_toArray, List.map_cons, List.map_nil]); first | done | rfl) ?_; refine (laws_szGame.calls k _ _ l0_0 _ _ l0_1 1048576 t21 _ ?s1 ?s2 ?s3 ?s4 H1'.out).mono ?_; (case s1 => exact Kd.C_below HR0_0.out HB.out); (case s2 => exact HC0_0.out); (case s3 => exact Kd.C_below HR0_1.out HB.out); (case s4 => exact HC0_1.out); rintro e w2 ⟨rfl, hb⟩; refine ⟨_, rfl, ?_⟩; have n_Bg3 := Aside0.mk (blk_below Bg3.out hb); have n_HB := Aside0.mk (below_step HB.out hb); have NN2 : Aside0 (w1.heap.size ≤ w2.heap.size) := ⟨hb.size⟩; clear hc3_0 hf3_0; clear hc3_1 hf3_1; clear Bg3 HB; have Bg3 := n_Bg3; have HB := n_HB; clear n_Bg3 n_HB; clear hb))
 go_ret
 exact ⟨rfl, HB.out⟩
theorem laws_FnExactBestReplies.small1 (k : Nat) (A0_0 : Option Addr) (c0_0 : Nat) (l0_0 : List (List Int)) (A0_1 : Option Addr) (c0_1 : Nat) (l0_1 : List (List Int)) (a1 : Int) (A2 : Option Addr) (c2 : Nat) (l2 : List (S120)) (t21 : Int) (t26 : Int) (w : World) (hr0_0 : Kd.C (Kd.slice 2 (Kd.int .i64)) w A0_0 l0_0.length l0_0) (hc0_0 : l0_0.length ≤ c0_0) (hr0_1 : Kd.C (Kd.slice 2 (Kd.int .i64)) w A0_1 l0_1.length l0_1) (hc0_1 : l0_1.length ≤ c0_1) (hr2 : Kd.C k120 w A2 l2.length l2) (hc2 : l2.length ≤ c2) (h1 : laws_szGame.f k l0_0 l0_1 1048576 = some t21) (h2 : ¬ t21 < 0) (h3 : laws_szFracS.f l2 t21 = some t26) (h4 : t26 < 0) :
  Calls Try.prog 10 #[.agg #[.slice A0_0 l0_0.length c0_0, .slice A0_1 l0_1.length c0_1], .int .i64 a1, .slice A2 l2.length c2] w fun e w' => e = .returned (.bool true) ∧ Below w.heap.size w w' := by
 have HR0_0 := Aside0.mk hr0_0
 have HC0_0 := Aside0.mk hc0_0
 clear hr0_0 hc0_0
 have HR0_1 := Aside0.mk hr0_1
 have HC0_1 := Aside0.mk hc0_1
 clear hr0_1 hc0_1
 have HR2 := Aside0.mk hr2
 have HC2 := Aside0.mk hc2
 clear hr2 hc2
 have HB := Aside0.mk (Below.refl w.heap.size w)
 have H1' := Aside0.mk h1
 clear h1
 have H3' := Aside0.mk h3
 clear h3
 go_enter Try.func10, Try.ntmps10
 go_wp2_with (first | ((with_reducible refine gate_dst (N := 3) rfl ?_); refine box_event ?hg (N := 3) ?hd (cs := #[.slice A0_0 l0_0.length c0_0, .slice A0_1 l0_1.length c0_1]) (t := 24) ?hr ?_; (case hd => rfl); (case hg => rfl); (case hr => first | (go_simp; done) | (go_simp; rfl)); intro g3 hg w1 hbox hb; have Gg3 : Aside0 (g3 = w.heap.size) := ⟨hg⟩; have Kg3 := Aside0.mk (blk_lt hbox); clear hg; have n_HB := Aside0.mk (below_step HB.out hb); have NN1 : Aside0 (w.heap.size ≤ w1.heap.size) := ⟨hb.size⟩; clear HB; have HB := n_HB; clear n_HB; have Bg3 := Aside0.mk hbox; clear hb hbox; have hc3_0 : w1.cell? ⟨g3, 0, none⟩ = some (.slice A0_0 l0_0.length c0_0) := (blk_cell Bg3.out 0).trans rfl; have hf3_0 := blk_frozen Bg3.out 0; have hc3_1 : w1.cell? ⟨g3, 1, none⟩ = some (.slice A0_1 l0_1.length c0_1) := (blk_cell Bg3.out 1).trans rfl; have hf3_1 := blk_frozen Bg3.out 1) | ((with_reducible refine gate_callee (f := 15) rfl ?_); refine goesL_ (some 21) rfl rfl Try.func15 (by kernel_rfl) rfl #[.agg #[.slice A0_0 l0_0.length c0_0, .slice A0_1 l0_1.length c0_1], .int .i64 1048576] rfl (by (try simp only [List.map_toArray, List.map_cons, List.map_nil]); first | done | rfl) ?_; refine (laws_szGame.calls k _ _ l0_0 _ _ l0_1 1048576 t21 _ ?s1 ?s2 ?s3 ?s4 H1'.out).mono ?_; (case s1 => exact Kd.C_below HR0_0.out HB.out); (case s2 => exact HC0_0.out); (case s3 => exact Kd.C_below HR0_1.out HB.out); (case s4 => exact HC0_1.out); rintro e w2 ⟨rfl, hb⟩; refine ⟨_, rfl, ?_⟩; have n_Bg3 := Aside0.mk (blk_below Bg3.out hb); have n_HB := Aside0.mk (below_step HB.out hb); have NN2 : Aside0 (w1.heap.size ≤ w2.heap.size) := ⟨hb.size⟩; clear hc3_0 hf3_0; clear hc3_1 hf3_1; clear Bg3 HB; have Bg3 := n_Bg3; have HB := n_HB; clear n_Bg3 n_HB; clear hb) | ((with_reducible refine gate_callee (f := 44) rfl ?_); refine goesL_ (some 26) rfl rfl Try.func44 (by kernel_rfl) rfl #[.slice A2 l2.length c2, .int .i64 t21] rfl (by (try simp only [List.map_toArray, List.map_cons, List.map_nil]); first | done | rfl) ?_; refine (laws_szFracS.calls _ _ l2 t21 t26 _ ?s1 ?s2 H3'.out).mono ?_; (case s1 => exact Kd.C_below HR2.out HB.out); (case s2 => exact HC2.out); rintro e w3 ⟨rfl, hb⟩; refine ⟨_, rfl, ?_⟩; have hb := hb.below; have n_Bg3 := Aside0.mk (blk_below Bg3.out hb); have n_HB := Aside0.mk (below_step HB.out hb); have NN3 : Aside0 (w2.heap.size ≤ w3.heap.size) := ⟨hb.size⟩; clear Bg3 HB; have Bg3 := n_Bg3; have HB := n_HB; clear n_Bg3 n_HB; clear hb; have hc3_0 : w3.cell? ⟨g3, 0, none⟩ = some (.slice A0_0 l0_0.length c0_0) := (blk_cell Bg3.out 0).trans rfl; have hf3_0 := blk_frozen Bg3.out 0; have hc3_1 : w3.cell? ⟨g3, 1, none⟩ = some (.slice A0_1 l0_1.length c0_1) := (blk_cell Bg3.out 1).trans rfl; have hf3_1 := blk_frozen Bg3.out 1))
 go_ret
 exact ⟨rfl, HB.out⟩
def laws_FnExactBestReplies.ok_walk (k : Nat) (l0_0 : List (List Int)) (l0_1 : List (List Int)) (a1 : Int) (l2 : List (S120)) : Prop := ∃ (t21 : Int) (t26 : Int) (y_l2 : List (S65)) (s0 : List Int) (s1 : Int) (m1 : Int) (m2 : Int) (m3 : Int), (laws_szGame.f k l0_0 l0_1 1048576 = some t21) ∧ (¬ t21 < 0) ∧ (laws_szFracS.f l2 t21 = some t26) ∧ (¬ t26 < 0) ∧ (laws_toInt64SS.f k l0_0 = some l0_0 ∧ laws_toInt64SS.f k l0_1 = some l0_1) ∧ (laws_toFracS.f k l2 = some y_l2) ∧ (spec_BestReplies.f k l0_0 l0_1 a1 y_l2 = some (s0, s1)) ∧ (impl_BestReplies.f k l0_0 l0_1 a1 y_l2 = some (s0, s1)) ∧ (laws_eqInt64S.f k s0 s0 = some true) ∧ (laws_eqGame.f k l0_0 l0_1 l0_0 l0_1 = some true) ∧ (laws_eqFracS.f k y_l2 y_l2 = some true) ∧ (m1 = 1 + (lens l0_0 : Int) + (lens l0_1 : Int)) ∧ (1 + (lens l0_0 : Int) + (lens l0_1 : Int) ≤ 1099511627776) ∧ (l0_0.length ≤ 1099511627776) ∧ (l0_1.length ≤ 1099511627776) ∧ (¬ m1 < 0) ∧ (0 ≤ m1) ∧ (m2 = m1 + 2 * (y_l2.length : Int)) ∧ (m1 + 2 * (y_l2.length : Int) ≤ 1099511627776) ∧ (¬ m2 < 0) ∧ (m3 = 1 + (s0.length : Int)) ∧ (1 + (s0.length : Int) ≤ 1099511627776) ∧ (¬ m3 < 0) ∧ (laws_heldInt64S.f k ((count 1 s0.length)) 1 = some m3)
def laws_FnExactBestReplies.ok_small0 (k : Nat) (l0_0 : List (List Int)) (l0_1 : List (List Int)) (a1 : Int) (l2 : List (S120)) : Prop := ∃ (t21 : Int), (laws_szGame.f k l0_0 l0_1 1048576 = some t21) ∧ (t21 < 0)
def laws_FnExactBestReplies.ok_small1 (k : Nat) (l0_0 : List (List Int)) (l0_1 : List (List Int)) (a1 : Int) (l2 : List (S120)) : Prop := ∃ (t21 : Int) (t26 : Int), (laws_szGame.f k l0_0 l0_1 1048576 = some t21) ∧ (¬ t21 < 0) ∧ (laws_szFracS.f l2 t21 = some t26) ∧ (t26 < 0)
open Classical in
noncomputable def laws_FnExactBestReplies.f (k : Nat) (l0_0 : List (List Int)) (l0_1 : List (List Int)) (a1 : Int) (l2 : List (S120)) : Option Bool := if laws_FnExactBestReplies.ok_walk k l0_0 l0_1 a1 l2 ∨ laws_FnExactBestReplies.ok_small0 k l0_0 l0_1 a1 l2 ∨ laws_FnExactBestReplies.ok_small1 k l0_0 l0_1 a1 l2 then some true else none
theorem laws_FnExactBestReplies.calls (k : Nat) (A0_0 : Option Addr) (c0_0 : Nat) (l0_0 : List (List Int)) (A0_1 : Option Addr) (c0_1 : Nat) (l0_1 : List (List Int)) (a1 : Int) (A2 : Option Addr) (c2 : Nat) (l2 : List (S120)) (r : Bool) (w : World) (hr0_0 : Kd.C (Kd.slice 2 (Kd.int .i64)) w A0_0 l0_0.length l0_0) (hc0_0 : l0_0.length ≤ c0_0) (hr0_1 : Kd.C (Kd.slice 2 (Kd.int .i64)) w A0_1 l0_1.length l0_1) (hc0_1 : l0_1.length ≤ c0_1) (hr2 : Kd.C k120 w A2 l2.length l2) (hc2 : l2.length ≤ c2) (h : laws_FnExactBestReplies.f k l0_0 l0_1 a1 l2 = some r) :
  Calls Try.prog 10 #[.agg #[.slice A0_0 l0_0.length c0_0, .slice A0_1 l0_1.length c0_1], .int .i64 a1, .slice A2 l2.length c2] w fun e w' => e = .returned (.bool r) ∧ Below w.heap.size w w' := by
 unfold laws_FnExactBestReplies.f at h
 split at h
 case isFalse => cases h
 rename_i hok
 cases h
 rcases hok with ⟨t21, t26, y_l2, s0, s1, m1, m2, m3, h1, h2, h3, h4, h5, h6, h7, h8, h9, h10, h11, h12, h13, h14, h15, h16, h17, h18, h19, h20, h21, h22, h23, h24⟩ | ⟨t21, h1, h2⟩ | ⟨t21, t26, h1, h2, h3, h4⟩
 ·exact laws_FnExactBestReplies.walk k A0_0 c0_0 l0_0 A0_1 c0_1 l0_1 a1 A2 c2 l2 t21 t26 y_l2 s0 s1 m1 m2 m3 w hr0_0 hc0_0 hr0_1 hc0_1 hr2 hc2 h1 h2 h3 h4 h5 h6 h7 h8 h9 h10 h11 h12 h13 h14 h15 h16 h17 h18 h19 h20 h21 h22 h23 h24
 ·exact laws_FnExactBestReplies.small0 k A0_0 c0_0 l0_0 A0_1 c0_1 l0_1 a1 A2 c2 l2 t21 w hr0_0 hc0_0 hr0_1 hc0_1 hr2 hc2 h1 h2
 ·exact laws_FnExactBestReplies.small1 k A0_0 c0_0 l0_0 A0_1 c0_1 l0_1 a1 A2 c2 l2 t21 t26 w hr0_0 hc0_0 hr0_1 hc0_1 hr2 hc2 h1 h2 h3 h4
end Go.Proofs.Ytjjbhdpjnjncbaa.Pr
end
section
namespace Go.Proofs.Ytjjbhdpjnjncbaa.Say
open Go.Proofs.Ytjjbhdpjnjncbaa.Op Go.Proofs.Ytjjbhdpjnjncbaa.Pr
def FnExactBestReplies : Prop := ∀ (l0_0 : List (List Int)) (l0_1 : List (List Int)) (a1 : Int) (l2 : List (S120)), GoodList (GoodList (GoodInt .i64)) l0_0 → GoodList (GoodList (GoodInt .i64)) l0_1 → GoodInt .i64 a1 → GoodList (fun x : Pr.S120 => (GoodInt .i64) x.f0 ∧ (GoodInt .i64) x.f1) l2 → ∃ k, laws_FnExactBestReplies.f k l0_0 l0_1 a1 l2 = some true
end Go.Proofs.Ytjjbhdpjnjncbaa.Say
end
section
namespace Go.Proofs.Ytjjbhdpjnjncbaa.Gm
open Go.RowKit Go.Proofs.YtjjbhdpjnjncbaaW.PrintWords Go.Proofs.YtjjbhdpjnjncbaaW.PrintMore Go.Proofs.Ytjjbhdpjnjncbaa.Ma Go.Proofs.Ytjjbhdpjnjncbaa.Pr Go.Proofs.Ytjjbhdpjnjncbaa.La
theorem sin_eq (x a b : Int) : spec_l01In.f x a b = some (decide (a ≤ x ∧ x ≤ b)) := by
 unfold spec_l01In.f
 by_cases h : a ≤ x
 ·rw [if_pos (by omega)]; simp [h]
 ·rw [if_neg (by omega)]; simp [h]
theorem iin_eq (x a b : Int) : impl_within.f x a b = some (decide (a ≤ x ∧ x ≤ b)) := by
 unfold impl_within.f
 by_cases h : a ≤ x
 ·rw [if_pos (by omega)]; simp [h]
 ·rw [if_neg (by omega)]; simp [h]
theorem head_step {P : Nat → Prop} {i d : Nat} (h : i < d) : (∀ j, i ≤ j → j < d → P j) ↔ P i ∧ ∀ j, i + 1 ≤ j → j < d → P j :=
 ⟨fun f => ⟨f i (Nat.le_refl _) h, fun j h1 h2 => f j (by omega) h2⟩, fun ⟨a, f⟩ j h1 h2 => by
  by_cases e : i = j
  ·subst e; exact a
  ·exact f j (by omega) h2⟩
theorem no_iff {b : Bool} {p : Prop} (h : b = true ↔ p) (hp : ¬ p) : b = false := by
 cases b
 ·rfl
 ·exact absurd (h.1 rfl) hp
def rw_ (a : List (List Int)) (i : Nat) : List Int := a.getD i []
def ent (a : List (List Int)) (i j : Nat) : Int := (rw_ a i).getD j 0
theorem rw_eq (a : List (List Int)) (i : Nat) : rd_L1 a (i : Int) = rw_ a i := rdL a i
theorem rw_at {a : List (List Int)} {i : Nat} (h : i < a.length) : rw_ a i = a[i] := by simp [rw_, h]
def E20 (n : Int) : Prop := 1 ≤ n ∧ n ≤ 20
def RowOK (a b : List (List Int)) (l i : Nat) : Prop := (rw_ a i).length = l ∧ (rw_ b i).length = l ∧ ∀ j, 0 ≤ j → j < l → E20 (ent a i j) ∧ E20 (ent b i j)
structure GameOK (a b : List (List Int)) : Prop where
 k1 : 1 ≤ a.length
 k4 : a.length ≤ 4
 same : b.length = a.length
 l1 : 1 ≤ (rw_ a 0).length
 l4 : (rw_ a 0).length ≤ 4
 sum : a.length + (rw_ a 0).length ≤ 5
 rows : ∀ i, 0 ≤ i → i < a.length → RowOK a b (rw_ a 0).length i
section
variable {a b : List (List Int)} {l : Nat} (hk : a.length ≤ 4) (hl : l ≤ 4) (hs : b.length = a.length)
include hk hl hs
theorem spec_row (i : Nat) (hi : i < a.length) (e1 : (rw_ a i).length = l) (e2 : (rw_ b i).length = l)
  (next : ∀ t, (t = true ↔ ∀ u, i + 1 ≤ u → u < a.length → RowOK a b l u) → Ev (fun k => spec_l07Is.l0 k (a.length : Int) l ((i + 1 : Nat) : Int) a b) t) :
  ∀ m j, j + m = l → ∀ t, (t = true ↔ (∀ c, j ≤ c → c < l → E20 (ent a i c) ∧ E20 (ent b i c)) ∧ ∀ u, i + 1 ≤ u → u < a.length → RowOK a b l u) → Ev (fun k => spec_l07Is.l1 k (a.length : Int) l i j a b) t := by
 intro m
 induction m with
 | zero =>
  intro j hj t ht
  refine evstep (fun k => by rw [spec_l07Is.l1]) (evneg (by omega) ?_)
  rw [w64 (by omega) (by omega)]
  exact next t (ht.trans ⟨fun h => h.2, fun h => ⟨fun c h1 h2 => by omega, h⟩⟩)
 | succ m ih =>
  intro j hj t ht
  have hjl : j < l := by omega
  rw [head_step (P := fun c => E20 (ent a i c) ∧ E20 (ent b i c)) hjl, and_assoc, and_assoc] at ht
  refine evstep (fun k => by rw [spec_l07Is.l1]) (evpos (by omega) (evpos (by omega) (evpos (by omega) (evpos (by omega) ?_))))
  rw [rw_eq, rw_eq, rd_nat, rd_nat]
  refine evpos (by omega) (evsome (sin_eq _ _ _) ?_)
  by_cases c1 : E20 (ent a i j)
  ·refine evpos (decide_eq_true (show 1 ≤ ent a i j ∧ ent a i j ≤ 20 from c1)) (evpos (by omega) (evpos (by omega) (evsome (sin_eq _ _ _) ?_)))
   by_cases c2 : E20 (ent b i j)
   ·refine evpos (decide_eq_true (show 1 ≤ ent b i j ∧ ent b i j ≤ 20 from c2)) ?_
    rw [w64 (by omega) (by omega)]
    exact ih (j + 1) (by omega) t (ht.trans ⟨fun h => h.2.2, fun h => ⟨c1, c2, h⟩⟩)
   ·refine evneg (fun h => c2 (of_decide_eq_true (p := 1 ≤ ent b i j ∧ ent b i j ≤ 20) h)) ?_
    rw [no_iff ht (fun h => c2 h.2.1)]
    exact evc rfl
  ·refine evneg (fun h => c1 (of_decide_eq_true (p := 1 ≤ ent a i j ∧ ent a i j ≤ 20) h)) ?_
   rw [no_iff ht (fun h => c1 h.1)]
   exact evc rfl
theorem spec_rows : ∀ m i, i + m = a.length → ∀ t, (t = true ↔ ∀ u, i ≤ u → u < a.length → RowOK a b l u) → Ev (fun k => spec_l07Is.l0 k (a.length : Int) l i a b) t := by
 intro m
 induction m with
 | zero =>
  intro i hi t ht
  refine evstep (fun k => by rw [spec_l07Is.l0]) (evneg (by omega) ?_)
  rw [ht.2 (fun u h1 h2 => by omega)]
  exact evc rfl
 | succ m ih =>
  intro i hi t ht
  have hlt : i < a.length := by omega
  rw [head_step (P := fun u => RowOK a b l u) hlt] at ht
  refine evstep (fun k => by rw [spec_l07Is.l0]) (evpos (by omega) (evpos (by omega) (evpos (by omega) ?_)))
  rw [rw_eq, rw_eq]
  by_cases c1 : (rw_ a i).length = l
  ·refine evpos (by omega) (evpos (by omega) (evstep (fun k => by rw [spec_l07Is.j3]) ?_))
   by_cases c2 : (rw_ b i).length = l
   ·refine evneg (by simp [c2]) ?_
    exact spec_row hk hl hs i hlt c1 c2 (ih (i + 1) (by omega)) l 0 (by omega) t (ht.trans ⟨fun h => ⟨h.1.2.2, h.2⟩, fun h => ⟨⟨c1, c2, h.1⟩, h.2⟩⟩)
   ·refine evpos (by simp; omega) ?_
    rw [no_iff ht (fun h => c2 h.1.2.1)]
    exact evc rfl
  ·refine evneg (by omega) (evstep (fun k => by rw [spec_l07Is.j3]) (evpos rfl ?_))
   rw [no_iff ht (fun h => c1 h.1.1)]
   exact evc rfl
end
theorem spec_is (a b : List (List Int)) (ha : a.length ≤ 1048576) (hr : ∀ x ∈ a, x.length ≤ 1048576) (t : Bool) (ht : t = true ↔ GameOK a b) : Ev (fun k => spec_l07Is.f k a b) t := by
 unfold spec_l07Is.f
 by_cases c1 : (a.length : Int) < 1
 ·refine evpos c1 (evstep (fun k => by rw [spec_l07Is.j0]) (evpos rfl ?_))
  rw [no_iff ht (fun h => by have := h.k1; omega)]
  exact evc rfl
 ·refine evneg c1 ?_
  by_cases c2 : (a.length : Int) > 4
  ·refine evpos c2 (evstep (fun k => by rw [spec_l07Is.j0]) (evpos rfl ?_))
   rw [no_iff ht (fun h => by have := h.k4; omega)]
   exact evc rfl
  ·refine evneg c2 (evstep (fun k => by rw [spec_l07Is.j0]) ?_)
   by_cases c3 : b.length = a.length
   ·refine evneg (by simp [c3]) (evpos (by omega) ?_)
    have e0 : rd_L1 a 0 = rw_ a 0 := rw_eq a 0
    have h0 : (rw_ a 0).length ≤ 1048576 := by rw [rw_at (by omega)]; exact hr _ (List.getElem_mem (by omega))
    rw [e0]
    by_cases c4 : ((rw_ a 0).length : Int) < 1
    ·refine evpos c4 (evstep (fun k => by rw [spec_l07Is.j1]) (evpos rfl ?_))
     rw [no_iff ht (fun h => by have := h.l1; omega)]
     exact evc rfl
    ·refine evneg c4 ?_
     by_cases c5 : ((rw_ a 0).length : Int) > 4
     ·refine evpos c5 (evstep (fun k => by rw [spec_l07Is.j1]) (evpos rfl ?_))
      rw [no_iff ht (fun h => by have := h.l4; omega)]
      exact evc rfl
     ·refine evneg c5 (evstep (fun k => by rw [spec_l07Is.j1]) ?_)
      rw [w64 (by omega) (by omega)]
      by_cases c6 : (a.length : Int) + ((rw_ a 0).length : Int) > 5
      ·refine evpos (decide_eq_true c6) ?_
       rw [no_iff ht (fun h => by have := h.sum; omega)]
       exact evc rfl
      ·refine evneg (by simpa using c6) ?_
       exact spec_rows (l := (rw_ a 0).length) (by omega) (by omega) c3 a.length 0 (by omega) t (ht.trans ⟨fun h => h.rows, fun h => ⟨by omega, by omega, c3, by omega, by omega, by omega, h⟩⟩)
   ·refine evpos (by simp; omega) ?_
    rw [no_iff ht (fun h => c3 h.same)]
    exact evc rfl
theorem badE_iff (n : Int) : badE n = false ↔ E20 n := by unfold badE E20; simp
theorem any_false {α : Type} (p : α → Bool) (l : List α) : l.any p = false ↔ ∀ i (h : i < l.length), p l[i] = false := by
 rw [List.any_eq_false]
 constructor
 ·intro h i hi
  have := h l[i] (List.getElem_mem hi)
  simpa using this
 ·intro h x hx
  obtain ⟨i, hi, rfl⟩ := List.getElem_of_mem hx
  simp [h i hi]
theorem badR_iff (k : Nat) (row : List Int) : badR (k : Int) row = false ↔ row.length = k ∧ ∀ j, 0 ≤ j → j < k → E20 (row.getD j 0) := by
 unfold badR
 rw [Bool.or_eq_false_iff, any_false]
 constructor
 ·rintro ⟨h1, h2⟩
  have e : row.length = k := by simp at h1; omega
  exact ⟨e, fun j _ hj => by have := (badE_iff _).1 (h2 j (by omega)); simpa [show j < row.length from by omega] using this⟩
 ·rintro ⟨h1, h2⟩
  exact ⟨by simp [h1], fun i hi => (badE_iff _).2 (by have := h2 i (Nat.zero_le _) (by omega); simpa [hi] using this)⟩
theorem table_f (a : List (List Int)) (k l : Nat) : ∃ t, impl_isTable.f a k l = some t ∧ (t = true ↔ a.length = k ∧ ∀ i, 0 ≤ i → i < a.length → (rw_ a i).length = l ∧ ∀ j, 0 ≤ j → j < l → E20 (ent a i j)) := by
 refine ⟨_, rfl, ?_⟩
 rw [Bool.and_eq_true, Bool.not_eq_true', any_false]
 constructor
 ·rintro ⟨h1, h2⟩
  refine ⟨by simp at h1; omega, fun i _ hi => ?_⟩
  have := (badR_iff l a[i]).1 (h2 i hi)
  rw [← rw_at hi] at this
  exact this
 ·rintro ⟨h1, h2⟩
  refine ⟨by simp [h1], fun i hi => (badR_iff l a[i]).2 ?_⟩
  have := h2 i (Nat.zero_le _) hi
  rw [← rw_at hi]
  exact this
theorem impl_is (a b : List (List Int)) (ha : a.length ≤ 1048576) (hr : ∀ x ∈ a, x.length ≤ 1048576) (t : Bool) (ht : t = true ↔ GameOK a b) : impl_IsGame.f a b = some t := by
 unfold impl_IsGame.f
 rw [iin_eq, Option.bind_some]
 by_cases c1 : 1 ≤ (a.length : Int) ∧ (a.length : Int) ≤ 4
 ·have e0 : rd_L1 a 0 = rw_ a 0 := rw_eq a 0
  have h0 : (rw_ a 0).length ≤ 1048576 := by rw [rw_at (by omega)]; exact hr _ (List.getElem_mem (by omega))
  rw [if_pos (decide_eq_true c1), if_pos (by omega), e0, iin_eq, Option.bind_some, w64 (by omega) (by omega)]
  by_cases c2 : 1 ≤ ((rw_ a 0).length : Int) ∧ ((rw_ a 0).length : Int) ≤ 4
  ·rw [if_pos (decide_eq_true c2)]
   by_cases c3 : (a.length : Int) + ((rw_ a 0).length : Int) ≤ 5
   ·rw [if_pos c3]
    obtain ⟨t1, h1, i1⟩ := table_f a a.length (rw_ a 0).length
    obtain ⟨t2, h2, i2⟩ := table_f b a.length (rw_ a 0).length
    rw [h1, Option.bind_some, h2]
    have key : GameOK a b ↔ t1 = true ∧ t2 = true := by
     rw [i1, i2]
     constructor
     ·intro h
      exact ⟨⟨rfl, fun i z hi => ⟨(h.rows i z hi).1, fun j z2 hj => ((h.rows i z hi).2.2 j z2 hj).1⟩⟩, h.same, fun i z hi => ⟨(h.rows i z (by have := h.same; omega)).2.1, fun j z2 hj => ((h.rows i z (by have := h.same; omega)).2.2 j z2 hj).2⟩⟩
     ·rintro ⟨⟨_, ha'⟩, hs, hb'⟩
      exact ⟨by omega, by omega, hs, by omega, by omega, by omega, fun i z hi => ⟨(ha' i z hi).1, (hb' i z (by omega)).1, fun j z2 hj => ⟨(ha' i z hi).2 j z2 hj, (hb' i z (by omega)).2 j z2 hj⟩⟩⟩
    rw [key] at ht
    cases t1
    ·rw [no_iff ht (fun h => by cases h.1)]; rfl
    ·cases t2
     ·rw [no_iff ht (fun h => by cases h.2)]; rfl
     ·rw [ht.2 ⟨rfl, rfl⟩]; rfl
   ·rw [if_neg c3, no_iff ht (fun h => c3 (by have := h.sum; omega))]
  ·rw [if_neg (by simpa using c2), no_iff ht (fun h => c2 (by have := h.l1; have := h.l4; omega))]
 ·rw [if_neg (by simpa using c1), no_iff ht (fun h => c1 (by have := h.k1; have := h.k4; omega))]
end Go.Proofs.Ytjjbhdpjnjncbaa.Gm
end
section
namespace Go.Proofs.Ytjjbhdpjnjncbaa.Mx
open Go.RowKit Go.Proofs.YtjjbhdpjnjncbaaW.PrintWords Go.Proofs.YtjjbhdpjnjncbaaW.PrintMore Go.Proofs.Ytjjbhdpjnjncbaa.Ma Go.Proofs.Ytjjbhdpjnjncbaa.Pr
theorem max_loop (l : List Int) (hl : l.length ≤ 1048576) : ∀ m i (x : Int), i + m = l.length → Ev (fun k => slices_Max_int64_int64.l0 k l x (i : Nat)) ((l.drop i).foldl mx x) := by
 intro m
 induction m with
 | zero =>
  intro i x hi
  rw [List.drop_eq_nil_of_le (by omega)]
  show Ev (fun k => slices_Max_int64_int64.l0 k l x (i : Nat)) x
  exact evstep (fun k => by rw [slices_Max_int64_int64.l0]) (evneg (by omega) (evc rfl))
 | succ m ih =>
  intro i x hi
  have hlt : i < l.length := by omega
  have e : l.getD i 0 = l[i] := by simp [hlt]
  have h := ih (i + 1) (mx x l[i]) (by omega)
  rw [List.drop_eq_getElem_cons hlt, List.foldl_cons]
  refine evstep (fun k => by rw [slices_Max_int64_int64.l0]) (evpos (by omega) (evpos (by omega) ?_))
  rw [rd_nat, w64 (by omega) (by omega), e]
  exact h
def top (l : List Int) : Int := (l.drop 1).foldl mx (l.getD 0 0)
theorem max_of (l : List Int) (h0 : 0 < l.length) (hl : l.length ≤ 1048576) : Ev (fun k => slices_Max_int64_int64.f k l) (top l) := by
 unfold slices_Max_int64_int64.f
 refine evneg (by omega) (evpos (by omega) ?_)
 have h1 := max_loop l hl (l.length - 1) 1 (rd l 0) (by omega)
 rw [show rd l 0 = l.getD 0 0 from rd_nat l 0] at h1
 rw [show rd l 0 = l.getD 0 0 from rd_nat l 0]
 exact h1
end Go.Proofs.Ytjjbhdpjnjncbaa.Mx
end
section
namespace Go.Proofs.Ytjjbhdpjnjncbaa.Mg
open Go.RowKit Go.Proofs.YtjjbhdpjnjncbaaW.PrintWords Go.Proofs.YtjjbhdpjnjncbaaW.PrintMore Go.Proofs.Ytjjbhdpjnjncbaa.Ma Go.Proofs.Ytjjbhdpjnjncbaa.Pr Go.Proofs.Ytjjbhdpjnjncbaa.La Go.Proofs.Ytjjbhdpjnjncbaa.Gm Go.Proofs.Ytjjbhdpjnjncbaa.Mx
def dt (u v : Nat → Int) : Nat → Int
 | 0 => 0
 | n + 1 => dt u v n + u n * v n
def Nm (x : Int) : Prop := 0 ≤ x ∧ x ≤ 1000000000
theorem dt_b {u v : Nat → Int} {n : Nat} (hu : ∀ i, i < n → E20 (u i)) (hv : ∀ i, i < n → Nm (v i)) (hn : n ≤ 4) : ∀ m, m ≤ n → 0 ≤ dt u v m ∧ dt u v m ≤ 20000000000 * (m : Int) := by
 intro m
 induction m with
 | zero => intro _; simp [dt]
 | succ m ih =>
  intro hm
  have h1 := ih (by omega)
  have h2 := hu m (by omega)
  have h3 := hv m (by omega)
  unfold E20 at h2; unfold Nm at h3
  have p1 : u m * v m ≤ 20 * 1000000000 := Int.mul_le_mul h2.2 h3.2 h3.1 (by decide)
  have p0 : 0 ≤ u m * v m := Int.mul_nonneg (by omega) h3.1
  unfold dt
  push_cast
  omega
theorem term_b {u v : Int} (hu : E20 u) (hv : Nm v) : 0 ≤ u * v ∧ u * v ≤ 20000000000 := by
 unfold E20 at hu; unfold Nm at hv
 have p1 : u * v ≤ 20 * 1000000000 := Int.mul_le_mul hu.2 hv.2 hv.1 (by decide)
 exact ⟨Int.mul_nonneg (by omega) hv.1, by omega⟩
def gl (n : Nat) (f : Nat → Int) : List Int := (List.range n).map f
def upd (n : Nat) (f g : Nat → Int) (i : Nat) : List Int := (List.range n).map fun u => if u < i then f u else g u
theorem upd_len (n : Nat) (f g : Nat → Int) (i : Nat) : (upd n f g i).length = n := by simp [upd]
theorem upd_zero (n : Nat) (f g : Nat → Int) : upd n f g 0 = gl n g := by simp [upd, gl]
theorem upd_end (n : Nat) (f g : Nat → Int) : upd n f g n = gl n f := by
 refine List.map_congr_left (fun u hu => ?_)
 rw [if_pos (List.mem_range.1 hu)]
theorem upd_at (n : Nat) (f g : Nat → Int) (i : Nat) (h : i < n) : (upd n f g i).getD i 0 = g i := by simp [upd, h]
theorem upd_set (n : Nat) (f g : Nat → Int) (i : Nat) (h : i < n) : (upd n f g i).set i (f i) = upd n f g (i + 1) := by
 apply List.ext_getElem
 ·simp [upd]
 ·intro k h1 h2
  have hk : k < n := by simpa [upd] using h2
  rw [List.getElem_set]
  simp only [upd, List.getElem_map, List.getElem_range]
  by_cases e : i = k
  ·subst e; rw [if_pos rfl, if_pos (by omega)]
  ·rw [if_neg e]
   by_cases c : k < i
   ·rw [if_pos c, if_pos (by omega)]
   ·rw [if_neg c, if_neg (by omega)]
theorem gl_len (n : Nat) (f : Nat → Int) : (gl n f).length = n := by simp [gl]
theorem gl_at (n : Nat) (f : Nat → Int) (i : Nat) (h : i < n) : (gl n f).getD i 0 = f i := by simp [gl, h]
theorem gl_succ (n : Nat) (f : Nat → Int) : gl (n + 1) f = gl n f ++ [f n] := by simp [gl, List.range_succ]
theorem gl_zero (n : Nat) : List.replicate n (0 : Int) = gl n (fun _ => 0) := by
 apply List.ext_getElem
 ·simp [gl]
 ·intro k h1 h2; simp [gl]
section
variable {m : List (List Int)} {k l : Nat} (hm1 : m.length = k) (hm2 : ∀ i, i < k → (rw_ m i).length = l) (hm3 : ∀ i j, i < k → j < l → E20 (ent m i j)) (hk : k ≤ 4) (hl : l ≤ 4)
def gR (m : List (List Int)) (Y : Nat → Int) (l : Nat) (i : Nat) : Int := dt (fun j => ent m i j) Y l
def gC (m : List (List Int)) (X : Nat → Int) (k : Nat) (j : Nat) : Int := dt (fun i => ent m i j) X k
include hm2 hm3 hl in
theorem sum_loop {y : List Int} {Y : Nat → Int} (hy : y.length = l) (hya : ∀ j, j < l → y.getD j 0 = Y j) (hY : ∀ j, j < l → Nm (Y j)) (i : Nat) (hi : i < k) :
  ∀ q j, j + q = l → Ev (fun n => impl_sum.l0 n y (dt (fun j => ent m i j) Y j) (rw_ m i) ((rw_ m i).length : Int) j) (gR m Y l i) := by
 have hr := hm2 i hi
 unfold gR
 intro q
 induction q with
 | zero =>
  intro j hj
  obtain rfl : j = l := by omega
  exact evstep (fun k => by rw [impl_sum.l0]) (evneg (by omega) (evc rfl))
 | succ q ih =>
  intro j hj
  have hb := dt_b (u := fun j => ent m i j) (v := Y) (n := l) (fun c hc => hm3 i c hi hc) hY hl (j + 1) (by omega)
  have ht := term_b (hm3 i j hi (by omega)) (hY j (by omega))
  refine evstep (fun k => by rw [impl_sum.l0]) (evpos (by omega) (evpos (by omega) (evpos (by omega) (evpos (by omega) ?_))))
  rw [rd_nat, rd_nat, hya j (by omega), show (rw_ m i).getD j 0 = ent m i j from rfl, w64 (x := ent m i j * Y j) (by omega) (by omega), show dt (fun j => ent m i j) Y j + ent m i j * Y j = dt (fun j => ent m i j) Y (j + 1) from rfl, w64 (x := dt (fun j => ent m i j) Y (j + 1)) (by omega) (by omega), w64 (x := (j : Int) + 1) (by omega) (by omega)]
  exact ih (j + 1) (by omega)
include hm1 hm2 hm3 hk hl in
theorem gains0 {y : List Int} {Y : Nat → Int} (hy : y.length = l) (hya : ∀ j, j < l → y.getD j 0 = Y j) (hY : ∀ j, j < l → Nm (Y j)) :
  ∀ q i, i + q = k → Ev (fun n => impl_Game_gains.l0 n y (upd k (gR m Y l) (fun _ => 0) i) m (k : Int) i) (gl k (gR m Y l)) := by
 intro q
 induction q with
 | zero =>
  intro i hi
  obtain rfl : i = k := by omega
  rw [upd_end]
  exact evstep (fun k => by rw [impl_Game_gains.l0]) (evneg (by omega) (evc rfl))
 | succ q ih =>
  intro i hi
  have hs := sum_loop hm2 hm3 hl hy hya hY i (by omega) l 0 (by omega)
  refine evstep (fun k => by rw [impl_Game_gains.l0]) (evpos (by omega) (evpos (by omega) (evpos (by omega) ?_)))
  rw [rw_eq]
  refine evbind (a := gR m Y l i) ?_ (evpos (by rw [upd_len]; omega) ?_)
  ·unfold impl_sum.f; exact hs
  ·rw [Int.toNat_natCast, upd_set k _ _ i (by omega), w64 (x := (i : Int) + 1) (by omega) (by omega)]
   exact ih (i + 1) (by omega)
include hm1 hm2 hm3 hk hl in
theorem gains1 {x : List Int} {X : Nat → Int} (hx : x.length = k) (hxa : ∀ j, j < k → x.getD j 0 = X j) (hX : ∀ j, j < k → Nm (X j)) :
  ∀ q i, i + q = k → Ev (fun n => impl_Game_gains.l1 n x (gl l (gC m X i)) m (k : Int) i) (gl l (gC m X k)) := by
 intro q
 induction q with
 | zero =>
  intro i hi
  obtain rfl : i = k := by omega
  exact evstep (fun k => by rw [impl_Game_gains.l1]) (evneg (by omega) (evc rfl))
 | succ q ih =>
  intro i hi
  have nx := ih (i + 1) (by omega)
  have hr := hm2 i (by omega)
  refine evstep (fun k => by rw [impl_Game_gains.l1]) (evpos (by omega) (evpos (by omega) (evpos (by omega) ?_)))
  rw [rw_eq]
  have key : ∀ p j, j + p = l → Ev (fun n => impl_Game_gains.l2 n x (upd l (gC m X (i + 1)) (gC m X i) j) i m (k : Int) i (rw_ m i) ((rw_ m i).length : Int) j) (gl l (gC m X k)) := by
   intro p
   induction p with
   | zero =>
    intro j hj
    obtain rfl : j = l := by omega
    rw [upd_end]
    refine evstep (fun k => by rw [impl_Game_gains.l2]) (evneg (by omega) ?_)
    rw [w64 (x := (i : Int) + 1) (by omega) (by omega)]
    exact nx
   | succ p ihp =>
    intro j hj
    have hb := dt_b (u := fun i => ent m i j) (v := X) (n := k) (fun c hc => hm3 c j hc (by omega)) hX hk (i + 1) (by omega)
    have ht := term_b (hm3 i j (by omega) (by omega)) (hX i (by omega))
    have hat := upd_at l (gC m X (i + 1)) (gC m X i) j (by omega)
    refine evstep (fun k => by rw [impl_Game_gains.l2]) (evpos (by omega) (evpos (by omega) (evpos (by omega) (evpos (by rw [upd_len]; omega) (evpos (by omega) (evpos (by omega) ?_))))))
    rw [rd_nat, rd_nat, rd_nat, hat, hxa i (by omega), show (rw_ m i).getD j 0 = ent m i j from rfl, w64 (x := ent m i j * X i) (by omega) (by omega), show gC m X i j + ent m i j * X i = gC m X (i + 1) j from rfl, w64 (x := gC m X (i + 1) j) (by unfold gC; omega) (by unfold gC; omega), Int.toNat_natCast, upd_set l _ _ j (by omega), w64 (x := (j : Int) + 1) (by omega) (by omega)]
    exact ihp (j + 1) (by omega)
  have := key l 0 (by omega)
  rw [upd_zero] at this
  exact this
def reps (g : List Int) (x : Int) : Nat → List Int
 | 0 => []
 | n + 1 => if g.getD n 0 = x then reps g x n ++ [(n : Int)] else reps g x n
theorem reps_len (g : List Int) (x : Int) : ∀ n, (reps g x n).length ≤ n
 | 0 => Nat.le_refl _
 | n + 1 => by have := reps_len g x n; unfold reps; split <;> simp <;> omega
theorem best_loop (g : List Int) (hg : g.length ≤ 4) (R : List Int) (next : Ev (fun n => spec_l07Replies.l5 n g (g.foldl mx 0) [] 0) R) :
  ∀ q i, i + q = g.length → Ev (fun n => spec_l07Replies.l4 n g ((g.take i).foldl mx 0) [] i) R := by
 intro q
 induction q with
 | zero =>
  intro i hi
  rw [List.take_of_length_le (by omega)]
  exact evstep (fun k => by rw [spec_l07Replies.l4]) (evneg (by omega) next)
 | succ q ih =>
  intro i hi
  have hlt : i < g.length := by omega
  have e : g.getD i 0 = g[i] := by simp [hlt]
  have h := ih (i + 1) (by omega)
  rw [List.take_succ_eq_append_getElem hlt, List.foldl_append] at h
  refine evstep (fun k => by rw [spec_l07Replies.l4]) (evpos (by omega) (evpos (by omega) ?_))
  rw [rd_nat, e, w64 (by omega) (by omega)]
  exact h
theorem reps_loop (g : List Int) (hg : g.length ≤ 4) (x : Int) : ∀ q i, i + q = g.length → Ev (fun n => spec_l07Replies.l5 n g x (reps g x i) i) (reps g x g.length) := by
 intro q
 induction q with
 | zero =>
  intro i hi
  obtain rfl : i = g.length := by omega
  exact evstep (fun k => by rw [spec_l07Replies.l5]) (evneg (by omega) (evc rfl))
 | succ q ih =>
  intro i hi
  have h := ih (i + 1) (by omega)
  have hr := reps_len g x i
  refine evstep (fun k => by rw [spec_l07Replies.l5]) (evpos (by omega) (evpos (by omega) ?_))
  rw [rd_nat, w64 (x := (i : Int) + 1) (by omega) (by omega)]
  rw [show reps g x (i + 1) = if g.getD i 0 = x then reps g x i ++ [(i : Int)] else reps g x i from rfl] at h
  by_cases c : g.getD i 0 = x
  ·rw [if_pos c] at h
   exact evpos c (evpos (by omega) h)
  ·rw [if_neg c] at h
   exact evneg c h
theorem top_zero (g : List Int) (h0 : 0 < g.length) (hp : ∀ i, i < g.length → 0 ≤ g.getD i 0) : g.foldl mx 0 = top g := by
 unfold top
 cases g with
 | nil => simp at h0
 | cons a g =>
  have := hp 0 (by simp)
  simp only [List.getD_cons_zero] at this
  simp only [List.foldl_cons, List.drop_succ_cons, List.drop_zero, List.getD_cons_zero]
  rw [show mx 0 a = a from by unfold mx; split <;> omega]
theorem spec_j4 (g : List Int) (h0 : 0 < g.length) (hg : g.length ≤ 4) (hp : ∀ i, i < g.length → 0 ≤ g.getD i 0) : Ev (fun n => spec_l07Replies.j4 n g) (reps g (top g) g.length) := by
 have h1 := reps_loop g hg (g.foldl mx 0) g.length 0 (by omega)
 have h2 := best_loop g hg _ h1 g.length 0 (by omega)
 rw [top_zero g h0 hp] at h2
 rw [List.take_zero, List.foldl_nil] at h2
 exact evstep (fun k => by rw [spec_l07Replies.j4]; rfl) h2
include hm1 hm2 hm3 hk hl in
theorem spec_g0 (b : List (List Int)) {y : List Int} {Y : Nat → Int} (hy : y.length = l) (hya : ∀ j, j < l → y.getD j 0 = Y j) (hY : ∀ j, j < l → Nm (Y j)) (R : List Int) (next : Ev (fun n => spec_l07Replies.j4 n (gl k (gR m Y l))) R) :
  ∀ q i, i + q = k → Ev (fun n => spec_l07Replies.l0 n y (gl i (gR m Y l)) i m b) R := by
 intro q
 induction q with
 | zero =>
  intro i hi
  obtain rfl : i = k := by omega
  exact evstep (fun k => by rw [spec_l07Replies.l0]) (evneg (by omega) next)
 | succ q ih =>
  intro i hi
  have nx := ih (i + 1) (by omega)
  have hr := hm2 i (by omega)
  have key : ∀ p j, j + p = l → Ev (fun n => spec_l07Replies.l1 n y (gl i (gR m Y l)) i (dt (fun j => ent m i j) Y j) j m b) R := by
   intro p
   induction p with
   | zero =>
    intro j hj
    obtain rfl : j = l := by omega
    refine evstep (fun k => by rw [spec_l07Replies.l1]) (evneg (by omega) (evpos (by rw [gl_len]; omega) ?_))
    rw [w64 (x := (i : Int) + 1) (by omega) (by omega)]
    rw [gl_succ] at nx
    exact nx
   | succ p ihp =>
    intro j hj
    have hb := dt_b (u := fun j => ent m i j) (v := Y) (n := l) (fun c hc => hm3 i c (by omega) hc) hY hl (j + 1) (by omega)
    have ht := term_b (hm3 i j (by omega) (by omega)) (hY j (by omega))
    refine evstep (fun k => by rw [spec_l07Replies.l1]) ?_
    rw [rw_eq]
    refine evpos (by omega) (evpos (by omega) (evpos (by omega) (evpos (by omega) (evpos (by omega) ?_))))
    rw [rd_nat, rd_nat, hya j (by omega), show (rw_ m i).getD j 0 = ent m i j from rfl, w64 (x := ent m i j * Y j) (by omega) (by omega), show dt (fun j => ent m i j) Y j + ent m i j * Y j = dt (fun j => ent m i j) Y (j + 1) from rfl, w64 (x := dt (fun j => ent m i j) Y (j + 1)) (by omega) (by omega), w64 (x := (j : Int) + 1) (by omega) (by omega)]
    exact ihp (j + 1) (by omega)
  refine evstep (fun k => by rw [spec_l07Replies.l0]) (evpos (by omega) ?_)
  exact key l 0 (by omega)
include hm1 hm2 hm3 hk hl in
theorem spec_g1 (a : List (List Int)) (ha : 0 < a.length) (ha0 : (rw_ a 0).length = l) {x : List Int} {X : Nat → Int} (hx : x.length = k) (hxa : ∀ j, j < k → x.getD j 0 = X j) (hX : ∀ j, j < k → Nm (X j)) (R : List Int) (next : Ev (fun n => spec_l07Replies.j4 n (gl l (gC m X k))) R) :
  ∀ q j, j + q = l → Ev (fun n => spec_l07Replies.l2 n x (gl j (gC m X k)) j a m) R := by
 have e0 : rd_L1 a 0 = rw_ a 0 := rw_eq a 0
 intro q
 induction q with
 | zero =>
  intro j hj
  obtain rfl : j = l := by omega
  exact evstep (fun k => by rw [spec_l07Replies.l2]) (evpos (by omega) (evneg (by rw [e0]; omega) next))
 | succ q ih =>
  intro j hj
  have nx := ih (j + 1) (by omega)
  have key : ∀ p i, i + p = k → Ev (fun n => spec_l07Replies.l3 n x (gl j (gC m X k)) j (dt (fun i => ent m i j) X i) i a m) R := by
   intro p
   induction p with
   | zero =>
    intro i hi
    obtain rfl : i = k := by omega
    refine evstep (fun k => by rw [spec_l07Replies.l3]) (evneg (by omega) (evpos (by rw [gl_len]; omega) ?_))
    rw [w64 (x := (j : Int) + 1) (by omega) (by omega)]
    rw [gl_succ] at nx
    exact nx
   | succ p ihp =>
    intro i hi
    have hr := hm2 i (by omega)
    have hb := dt_b (u := fun i => ent m i j) (v := X) (n := k) (fun c hc => hm3 c j hc (by omega)) hX hk (i + 1) (by omega)
    have ht := term_b (hm3 i j (by omega) (by omega)) (hX i (by omega))
    refine evstep (fun k => by rw [spec_l07Replies.l3]) ?_
    rw [rw_eq]
    refine evpos (by omega) (evpos (by omega) (evpos (by omega) (evpos (by omega) (evpos (by omega) ?_))))
    rw [rd_nat, rd_nat, hxa i (by omega), show (rw_ m i).getD j 0 = ent m i j from rfl, w64 (x := ent m i j * X i) (by omega) (by omega), show dt (fun i => ent m i j) X i + ent m i j * X i = dt (fun i => ent m i j) X (i + 1) from rfl, w64 (x := dt (fun i => ent m i j) X (i + 1)) (by omega) (by omega), w64 (x := (i : Int) + 1) (by omega) (by omega)]
    exact ihp (i + 1) (by omega)
  refine evstep (fun k => by rw [spec_l07Replies.l2]) (evpos (by omega) (evpos (by rw [e0]; omega) ?_))
  exact key k 0 (by omega)
end
section
variable {a b : List (List Int)} (g : GameOK a b)
include g
theorem game_a : (∀ i, i < a.length → (rw_ a i).length = (rw_ a 0).length) ∧ ∀ i j, i < a.length → j < (rw_ a 0).length → E20 (ent a i j) :=
 ⟨fun i hi => (g.rows i (Nat.zero_le _) hi).1, fun i j hi hj => ((g.rows i (Nat.zero_le _) hi).2.2 j (Nat.zero_le _) hj).1⟩
theorem game_b : (∀ i, i < a.length → (rw_ b i).length = (rw_ a 0).length) ∧ ∀ i j, i < a.length → j < (rw_ a 0).length → E20 (ent b i j) :=
 ⟨fun i hi => (g.rows i (Nat.zero_le _) hi).2.1, fun i j hi hj => ((g.rows i (Nat.zero_le _) hi).2.2 j (Nat.zero_le _) hj).2⟩
theorem impl_gains0 {y : List Int} {Y : Nat → Int} (hy : y.length = (rw_ a 0).length) (hya : ∀ j, j < (rw_ a 0).length → y.getD j 0 = Y j) (hY : ∀ j, j < (rw_ a 0).length → Nm (Y j)) : Ev (fun n => impl_Game_gains.f n a b 0 y) (gl a.length (gR a Y (rw_ a 0).length)) := by
 have hk := g.k4; have hk1 := g.k1; have hl := g.l4; have hs := g.same
 have e0 : rd_L1 a 0 = rw_ a 0 := rw_eq a 0
 unfold impl_Game_gains.f impl_Game_sizes.f
 rw [if_pos (by omega), e0]
 refine evsome rfl (evpos rfl (evpos (by omega) (evpos (by omega) ?_)))
 have h := gains0 (m := a) rfl (game_a g).1 (game_a g).2 hk hl hy hya hY a.length 0 (by omega)
 rw [upd_zero, ← gl_zero] at h
 exact h
theorem impl_gains1 {x : List Int} {X : Nat → Int} (hx : x.length = a.length) (hxa : ∀ j, j < a.length → x.getD j 0 = X j) (hX : ∀ j, j < a.length → Nm (X j)) : Ev (fun n => impl_Game_gains.f n a b 1 x) (gl (rw_ a 0).length (gC b X a.length)) := by
 have hk := g.k4; have hk1 := g.k1; have hl := g.l4; have hs := g.same
 have e0 : rd_L1 a 0 = rw_ a 0 := rw_eq a 0
 unfold impl_Game_gains.f impl_Game_sizes.f
 rw [if_pos (by omega), e0]
 refine evsome rfl (evneg (by decide) (evpos (by omega) (evpos (by omega) ?_)))
 have h := gains1 (m := b) hs (game_b g).1 (game_b g).2 hk hl hx hxa hX a.length 0 (by omega)
 rw [show gl (rw_ a 0).length (gC b X 0) = gl (rw_ a 0).length (fun _ => 0) from rfl, ← gl_zero] at h
 rw [Int.toNat_natCast, hs]
 exact h
theorem gR_pos {Y : Nat → Int} (hY : ∀ j, j < (rw_ a 0).length → Nm (Y j)) (i : Nat) (hi : i < (gl a.length (gR a Y (rw_ a 0).length)).length) : 0 ≤ (gl a.length (gR a Y (rw_ a 0).length)).getD i 0 := by
 rw [gl_len] at hi
 rw [gl_at _ _ _ hi]
 exact (dt_b (fun j hj => (game_a g).2 i j hi hj) hY g.l4 _ (Nat.le_refl _)).1
theorem gC_pos {X : Nat → Int} (hX : ∀ j, j < a.length → Nm (X j)) (j : Nat) (hj : j < (gl (rw_ a 0).length (gC b X a.length)).length) : 0 ≤ (gl (rw_ a 0).length (gC b X a.length)).getD j 0 := by
 rw [gl_len] at hj
 rw [gl_at _ _ _ hj]
 exact (dt_b (fun i hi => (game_b g).2 i j hi hj) hX g.k4 _ (Nat.le_refl _)).1
theorem spec_rep0 {y : List Int} {Y : Nat → Int} (hy : y.length = (rw_ a 0).length) (hya : ∀ j, j < (rw_ a 0).length → y.getD j 0 = Y j) (hY : ∀ j, j < (rw_ a 0).length → Nm (Y j)) (G : List Int) (hG : G = gl a.length (gR a Y (rw_ a 0).length)) : Ev (fun n => spec_l07Replies.f n a b 0 y) (reps G (top G) G.length) := by
 have hk := g.k4; have hk1 := g.k1
 subst hG
 unfold spec_l07Replies.f
 refine evsome rfl (evpos rfl ?_)
 exact spec_g0 (m := a) rfl (game_a g).1 (game_a g).2 hk g.l4 b hy hya hY _ (spec_j4 _ (by rw [gl_len]; omega) (by rw [gl_len]; omega) (gR_pos g hY)) a.length 0 (by omega)
theorem spec_rep1 {x : List Int} {X : Nat → Int} (hx : x.length = a.length) (hxa : ∀ j, j < a.length → x.getD j 0 = X j) (hX : ∀ j, j < a.length → Nm (X j)) (G : List Int) (hG : G = gl (rw_ a 0).length (gC b X a.length)) : Ev (fun n => spec_l07Replies.f n a b 1 x) (reps G (top G) G.length) := by
 have hk := g.k4; have hk1 := g.k1; have hl := g.l4; have hl1 := g.l1
 subst hG
 unfold spec_l07Replies.f
 refine evsome rfl (evneg (by decide) ?_)
 exact spec_g1 (m := b) g.same (game_b g).1 (game_b g).2 hk g.l4 a (by omega) rfl hx hxa hX _ (spec_j4 _ (by rw [gl_len]; omega) (by rw [gl_len]; omega) (gC_pos g hX)) (rw_ a 0).length 0 (by omega)
end
end Go.Proofs.Ytjjbhdpjnjncbaa.Mg
end
section
namespace Go.Proofs.Ytjjbhdpjnjncbaa.Mi
open Go.RowKit Go.Proofs.YtjjbhdpjnjncbaaW.PrintWords Go.Proofs.YtjjbhdpjnjncbaaW.PrintMore Go.Proofs.Ytjjbhdpjnjncbaa.Ma Go.Proofs.Ytjjbhdpjnjncbaa.Pr Go.Proofs.Ytjjbhdpjnjncbaa.Fr
abbrev FS := List S65
def nu (l : FS) (i : Nat) : Int := (l.getD i z65).f0
def dn (l : FS) (i : Nat) : Int := (l.getD i z65).f1
theorem rd_f0 (l : FS) (i : Nat) : (rd_T65 l (i : Int)).f0 = nu l i := by simp [rd_T65, nu]
theorem rd_f1 (l : FS) (i : Nat) : (rd_T65 l (i : Int)).f1 = dn l i := by simp [rd_T65, dn]
def Ok (l : FS) : Prop := ∀ i, i < l.length → 1 ≤ dn l i ∧ dn l i ≤ 1000000000 ∧ -1000000000 ≤ nu l i ∧ nu l i ≤ 1000000000
def lc (d b : Int) : Int := Int.tdiv d (gc d b) * b
def denL (l : FS) : Nat → Nat → Int → Option Int
 | 0, _, d => some d
 | m + 1, i, d => if lc d (dn l i) > 1000000000 then none else denL l m (i + 1) (lc d (dn l i))
theorem gc_pos {d b : Int} (hd : 1 ≤ d) : 1 ≤ gc d b ∧ gc d b ≤ d := by
 unfold gc
 have h1 : 0 < Int.gcd d b := Int.gcd_pos_of_ne_zero_left b (by omega)
 have h2 : Int.gcd d b ∣ d.natAbs := Nat.gcd_dvd_left _ _
 have h3 := Nat.le_of_dvd (by omega) h2
 omega
theorem gc_dvd (d b : Int) : gc d b ∣ d ∧ gc d b ∣ b := ⟨Int.gcd_dvd_left d b, Int.gcd_dvd_right d b⟩
theorem lc_facts {d b : Int} (hd : 1 ≤ d) (hd2 : d ≤ 1000000000) (hb : 1 ≤ b) (hb2 : b ≤ 1000000000) : d ∣ lc d b ∧ b ∣ lc d b ∧ 1 ≤ lc d b ∧ lc d b ≤ 1000000000000000000 ∧ 0 ≤ Int.tdiv d (gc d b) ∧ Int.tdiv d (gc d b) ≤ 1000000000 := by
 obtain ⟨g1, g2⟩ := gc_pos (b := b) hd
 obtain ⟨⟨q, hq⟩, ⟨p, hp⟩⟩ := gc_dvd d b
 have hq0 : Int.tdiv d (gc d b) = q := by
  have h9 : Int.tdiv (gc d b * q) (gc d b) = q := Int.mul_tdiv_cancel_left q (by omega)
  rwa [← hq] at h9
 have hq1 : 1 ≤ q := by
  by_cases h : 1 ≤ q
  ·exact h
  ·exfalso
   have : gc d b * q ≤ 0 := Int.mul_nonpos_of_nonneg_of_nonpos (by omega) (by omega)
   omega
 have hq2 : q ≤ d := by
  have : 1 * q ≤ gc d b * q := Int.mul_le_mul_of_nonneg_right g1 (by omega)
  omega
 unfold lc
 rw [hq0]
 refine ⟨⟨p, ?_⟩, ⟨q, Int.mul_comm _ _⟩, ?_, ?_, by omega, by omega⟩
 ·have h9 : q * b = gc d b * q * p := by
   conv => lhs; rw [hp]
   rw [← Int.mul_assoc, Int.mul_comm q (gc d b)]
  rwa [← hq] at h9
 ·have : 1 * 1 ≤ q * b := Int.mul_le_mul hq1 hb (by decide) (by omega)
  omega
 ·have : q * b ≤ 1000000000 * 1000000000 := Int.mul_le_mul (by omega) hb2 (by omega) (by decide)
  omega
theorem denL_facts {l : FS} (h : Ok l) : ∀ m i d D, i + m = l.length → 1 ≤ d → d ≤ 1000000000 → denL l m i d = some D → 1 ≤ D ∧ D ≤ 1000000000 ∧ d ∣ D ∧ ∀ j, i ≤ j → j < l.length → dn l j ∣ D := by
 intro m
 induction m with
 | zero =>
  intro i d D hi h1 h2 e
  cases e
  exact ⟨h1, h2, Int.dvd_refl _, fun j a b => by omega⟩
 | succ m ih =>
  intro i d D hi h1 h2 e
  obtain ⟨b1, b2, _, _⟩ := h i (by omega)
  obtain ⟨f1, f2, f3, f4, _, _⟩ := lc_facts h1 h2 b1 b2
  unfold denL at e
  split at e
  ·cases e
  ·obtain ⟨g1, g2, g3, g4⟩ := ih (i + 1) _ D (by omega) f3 (by omega) e
   refine ⟨g1, g2, Int.dvd_trans f1 g3, fun j a b => ?_⟩
   by_cases q : i = j
   ·subst q; exact Int.dvd_trans f2 g3
   ·exact g4 j (by omega) b
def nm (l : FS) (D : Int) (i : Nat) : Int := nu l i * Int.tdiv D (dn l i)
def numL (l : FS) (D : Int) (n : Nat) : List Int := (List.range n).map (nm l D)
def Fits (l : FS) (D : Int) (i : Nat) : Prop := -1000000000000 ≤ nm l D i ∧ nm l D i ≤ 1000000000000
open Classical in
noncomputable def togR (l : FS) : List Int × Int × Bool := match denL l l.length 0 1 with
 | none => ([], 0, false)
 | some D => if ∀ i, 0 ≤ i → i < l.length → Fits l D i then (numL l D l.length, D, true) else ([], 0, false)
theorem numL_succ (l : FS) (D : Int) (n : Nat) : numL l D (n + 1) = numL l D n ++ [nm l D n] := by simp [numL, List.range_succ]
theorem numL_len (l : FS) (D : Int) (n : Nat) : (numL l D n).length = n := by simp [numL]
theorem nm_small {l : FS} (h : Ok l) {D : Int} (h1 : 1 ≤ D) (h2 : D ≤ 1000000000) (i : Nat) (hi : i < l.length) : 0 ≤ Int.tdiv D (dn l i) ∧ Int.tdiv D (dn l i) ≤ 1000000000 ∧ -1000000000000000000 ≤ nm l D i ∧ nm l D i ≤ 1000000000000000000 := by
 obtain ⟨b1, b2, b3, b4⟩ := h i hi
 have q0 : 0 ≤ Int.tdiv D (dn l i) := Int.tdiv_nonneg (by omega) (by omega)
 have q1 : Int.tdiv D (dn l i) ≤ 1000000000 := by
  rw [Int.tdiv_eq_ediv_of_nonneg (by omega)]
  exact Int.le_trans (Int.ediv_le_self _ (by omega)) h2
 have p1 : nu l i * Int.tdiv D (dn l i) ≤ 1000000000 * 1000000000 := by
  by_cases c : 0 ≤ nu l i
  ·exact Int.mul_le_mul b4 q1 q0 (by decide)
  ·have : nu l i * Int.tdiv D (dn l i) ≤ 0 := Int.mul_nonpos_of_nonpos_of_nonneg (by omega) q0
   omega
 have p2 : (-nu l i) * Int.tdiv D (dn l i) ≤ 1000000000 * 1000000000 := by
  by_cases c : 0 ≤ -nu l i
  ·exact Int.mul_le_mul (by omega) q1 q0 (by decide)
  ·have : (-nu l i) * Int.tdiv D (dn l i) ≤ 0 := Int.mul_nonpos_of_nonpos_of_nonneg (by omega) q0
   omega
 rw [Int.neg_mul] at p2
 unfold nm
 exact ⟨q0, q1, by omega, by omega⟩
theorem head_step {P : Nat → Prop} {i d : Nat} (h : i < d) : (∀ j, i ≤ j → j < d → P j) ↔ P i ∧ ∀ j, i + 1 ≤ j → j < d → P j :=
 ⟨fun f => ⟨f i (Nat.le_refl _) h, fun j h1 h2 => f j (by omega) h2⟩, fun ⟨a, f⟩ j h1 h2 => by
  by_cases e : i = j
  ·subst e; exact a
  ·exact f j (by omega) h2⟩
section
variable {l : FS} (h : Ok l) (hl : l.length ≤ 1048576)
include h hl
theorem impl_nums {D : Int} (h1 : 1 ≤ D) (h2 : D ≤ 1000000000) (R : List Int × Int × Bool) : ∀ m i, i + m = l.length → ((∀ j, i ≤ j → j < l.length → Fits l D j) → R = (numL l D l.length, D, true)) → (¬ (∀ j, i ≤ j → j < l.length → Fits l D j) → R = ([], 0, false)) →
  Ev (fun k => impl_together.l1 k 1000000000000 D (numL l D i) l (l.length : Int) i) R := by
 intro m
 induction m with
 | zero =>
  intro i hi r1 r2
  obtain rfl : i = l.length := by omega
  refine evstep (fun k => by rw [impl_together.l1]) (evneg (by omega) (evc ?_))
  rw [r1 (fun j a b => by omega)]
 | succ m ih =>
  intro i hi r1 r2
  obtain ⟨q0, q1, p1, p2⟩ := nm_small h h1 h2 i (by omega)
  obtain ⟨b1, b2, b3, b4⟩ := h i (by omega)
  rw [head_step (P := Fits l D) (by omega)] at r1 r2
  refine evstep (fun k => by rw [impl_together.l1]) ?_
  rw [rd_f0, rd_f1, w64 (x := Int.tdiv D (dn l i)) (by omega) (by omega), show nu l i * Int.tdiv D (dn l i) = nm l D i from rfl, w64 (x := nm l D i) (by omega) (by omega)]
  refine evpos (by omega) (evpos (by omega) (evpos (by omega) (evneg (by omega) ?_)))
  unfold impl_upTo.f
  rw [w64 (x := -1000000000000) (by decide) (by decide), iin_b]
  refine evsome rfl ?_
  by_cases c : Fits l D i
  ·refine evpos (by unfold Fits at c; simp; omega) (evpos (by rw [numL_len]; omega) ?_)
   rw [← numL_succ, w64 (by omega) (by omega)]
   exact ih (i + 1) (by omega) (fun q => r1 ⟨c, q⟩) (fun q => r2 (fun q' => q q'.2))
  ·refine evneg (by unfold Fits at c; simp; omega) (evc ?_)
   rw [r2 (fun q => c q.1)]
theorem impl_dens (R : List Int × Int × Bool) (next : ∀ D, denL l l.length 0 1 = some D → Ev (fun k => impl_together.l1 k 1000000000000 D [] l (l.length : Int) 0) R) (none_ : denL l l.length 0 1 = none → R = ([], 0, false)) :
  ∀ m i d, i + m = l.length → 1 ≤ d → d ≤ 1000000000 → denL l m i d = denL l l.length 0 1 → Ev (fun k => impl_together.l0 k l 1000000000 1000000000000 d l (l.length : Int) i) R := by
 intro m
 induction m with
 | zero =>
  intro i d hi h1 h2 e
  refine evstep (fun k => by rw [impl_together.l0]) (evneg (by omega) ?_)
  exact next d e.symm
 | succ m ih =>
  intro i d hi h1 h2 e
  obtain ⟨b1, b2, _, _⟩ := h i (by omega)
  obtain ⟨f1, f2, f3, f4, f5, f6⟩ := lc_facts h1 h2 b1 b2
  obtain ⟨g1, g2⟩ := gc_pos (b := dn l i) h1
  refine evstep (fun k => by rw [impl_together.l0]) ?_
  rw [rd_f1]
  refine evpos (by omega) (evpos (by omega) (evpos (by omega) (evbind (impl_gcd d (dn l i) (by unfold Big; omega) (by unfold Big; omega)) (evneg (by omega) ?_))))
  rw [w64 (x := Int.tdiv d (gc d (dn l i))) (by omega) (by omega), show Int.tdiv d (gc d (dn l i)) * dn l i = lc d (dn l i) from rfl, w64 (x := lc d (dn l i)) (by omega) (by omega), w64 (x := (i : Int) + 1) (by omega) (by omega)]
  rw [show denL l (m + 1) i d = if lc d (dn l i) > 1000000000 then none else denL l m (i + 1) (lc d (dn l i)) from rfl] at e
  by_cases c : lc d (dn l i) > 1000000000
  ·rw [if_pos c] at e
   rw [none_ e.symm]
   exact evpos c (evc rfl)
  ·rw [if_neg c] at e
   exact evneg c (ih (i + 1) _ (by omega) f3 (by omega) e)
theorem impl_tog : Ev (fun k => impl_together.f k l 1000000000 1000000000000) (togR l) := by
 unfold impl_together.f
 refine impl_dens h hl (togR l) (fun D e => ?_) (fun e => ?_) l.length 0 1 (by omega) (by decide) (by decide) rfl
 ·obtain ⟨d1, d2, _, _⟩ := denL_facts h l.length 0 1 D (by omega) (by decide) (by decide) e
  refine impl_nums h hl d1 d2 _ l.length 0 (by omega) (fun q => ?_) (fun q => ?_)
  ·unfold togR; rw [e]; exact if_pos q
  ·unfold togR; rw [e]; exact if_neg q
 ·unfold togR; rw [e]
theorem spec_nums {D : Int} (h1 : 1 ≤ D) (h2 : D ≤ 1000000000) (R : List Int × Int × Bool) : ∀ m i, i + m = l.length → ((∀ j, i ≤ j → j < l.length → Fits l D j) → R = (numL l D l.length, D, true)) → (¬ (∀ j, i ≤ j → j < l.length → Fits l D j) → R = ([], 0, false)) →
  Ev (fun k => spec_l01Common.l1 k l D (numL l D i) i) R := by
 intro m
 induction m with
 | zero =>
  intro i hi r1 r2
  obtain rfl : i = l.length := by omega
  refine evstep (fun k => by rw [spec_l01Common.l1]) (evneg (by omega) (evc ?_))
  rw [r1 (fun j a b => by omega)]
 | succ m ih =>
  intro i hi r1 r2
  obtain ⟨q0, q1, p1, p2⟩ := nm_small h h1 h2 i (by omega)
  obtain ⟨b1, b2, b3, b4⟩ := h i (by omega)
  rw [head_step (P := Fits l D) (by omega)] at r1 r2
  refine evstep (fun k => by rw [spec_l01Common.l1]) ?_
  rw [rd_f0, rd_f1, w64 (x := Int.tdiv D (dn l i)) (by omega) (by omega), show nu l i * Int.tdiv D (dn l i) = nm l D i from rfl, w64 (x := nm l D i) (by omega) (by omega), sin_b]
  refine evpos (by omega) (evpos (by omega) (evneg (by omega) (evsome rfl ?_)))
  by_cases c : Fits l D i
  ·refine evpos (by unfold Fits at c; simp; omega) (evpos (by rw [numL_len]; omega) ?_)
   rw [← numL_succ, w64 (by omega) (by omega)]
   exact ih (i + 1) (by omega) (fun q => r1 ⟨c, q⟩) (fun q => r2 (fun q' => q q'.2))
  ·refine evneg (by unfold Fits at c; simp; omega) (evc ?_)
   rw [r2 (fun q => c q.1)]
theorem spec_dens (R : List Int × Int × Bool) (next : ∀ D, denL l l.length 0 1 = some D → Ev (fun k => spec_l01Common.l1 k l D [] 0) R) (none_ : denL l l.length 0 1 = none → R = ([], 0, false)) :
  ∀ m i d, i + m = l.length → 1 ≤ d → d ≤ 1000000000 → denL l m i d = denL l l.length 0 1 → Ev (fun k => spec_l01Common.l0 k l d i) R := by
 intro m
 induction m with
 | zero =>
  intro i d hi h1 h2 e
  refine evstep (fun k => by rw [spec_l01Common.l0]) (evneg (by omega) ?_)
  exact next d e.symm
 | succ m ih =>
  intro i d hi h1 h2 e
  obtain ⟨b1, b2, _, _⟩ := h i (by omega)
  obtain ⟨f1, f2, f3, f4, f5, f6⟩ := lc_facts h1 h2 b1 b2
  obtain ⟨g1, g2⟩ := gc_pos (b := dn l i) h1
  refine evstep (fun k => by rw [spec_l01Common.l0]) ?_
  rw [rd_f1]
  refine evpos (by omega) (evpos (by omega) (evbind (spec_gcd d (dn l i) (by unfold Big; omega) (by unfold Big; omega)) (evneg (by omega) ?_)))
  rw [w64 (x := Int.tdiv d (gc d (dn l i))) (by omega) (by omega), show Int.tdiv d (gc d (dn l i)) * dn l i = lc d (dn l i) from rfl, w64 (x := lc d (dn l i)) (by omega) (by omega), w64 (x := (i : Int) + 1) (by omega) (by omega)]
  rw [show denL l (m + 1) i d = if lc d (dn l i) > 1000000000 then none else denL l m (i + 1) (lc d (dn l i)) from rfl] at e
  by_cases c : lc d (dn l i) > 1000000000
  ·rw [if_pos c] at e
   rw [none_ e.symm]
   exact evpos c (evc rfl)
  ·rw [if_neg c] at e
   exact evneg c (ih (i + 1) _ (by omega) f3 (by omega) e)
theorem spec_tog : Ev (fun k => spec_l01Common.f k l) (togR l) := by
 unfold spec_l01Common.f
 refine spec_dens h hl (togR l) (fun D e => ?_) (fun e => ?_) l.length 0 1 (by omega) (by decide) (by decide) rfl
 ·obtain ⟨d1, d2, _, _⟩ := denL_facts h l.length 0 1 D (by omega) (by decide) (by decide) e
  refine spec_nums h hl d1 d2 _ l.length 0 (by omega) (fun q => ?_) (fun q => ?_)
  ·unfold togR; rw [e]; exact if_pos q
  ·unfold togR; rw [e]; exact if_neg q
 ·unfold togR; rw [e]
end
end Go.Proofs.Ytjjbhdpjnjncbaa.Mi
end
section
namespace Go.Proofs.Ytjjbhdpjnjncbaa.Mj
open Go.RowKit Go.Proofs.YtjjbhdpjnjncbaaW.PrintWords Go.Proofs.YtjjbhdpjnjncbaaW.PrintMore Go.Proofs.Ytjjbhdpjnjncbaa.Ma Go.Proofs.Ytjjbhdpjnjncbaa.Pr Go.Proofs.Ytjjbhdpjnjncbaa.Fr Go.Proofs.Ytjjbhdpjnjncbaa.Mi
def IsFr (l : FS) (i : Nat) : Prop := isF 1000000000 (nu l i) (dn l i) = true
def su (l : FS) (D : Int) : Nat → Int
 | 0 => 0
 | n + 1 => su l D n + nm l D n
structure V (l : FS) (n : Int) (D : Int) : Prop where
 len : (l.length : Int) = n
 fr : ∀ i, 0 ≤ i → i < l.length → IsFr l i
 den : denL l l.length 0 1 = some D
 fits : ∀ i, 0 ≤ i → i < l.length → Fits l D i
 pos : ∀ i, i < l.length → 0 ≤ nm l D i
 sum : su l D l.length = D
theorem ok_of {l : FS} (h : ∀ i, 0 ≤ i → i < l.length → IsFr l i) : Ok l := by
 intro i hi
 have := h i (Nat.zero_le _) hi
 unfold IsFr isF at this
 simp only [Bool.and_eq_true, decide_eq_true_eq] at this
 omega
theorem any_badF (l : FS) : l.any badF = false ↔ ∀ i, 0 ≤ i → i < l.length → IsFr l i := by
 rw [List.any_eq_false]
 constructor
 ·intro h i _ hi
  have := h l[i] (List.getElem_mem hi)
  simpa [badF, IsFr, nu, dn, hi] using this
 ·intro h x hx
  obtain ⟨i, hi, rfl⟩ := List.getElem_of_mem hx
  have := h i (Nat.zero_le _) hi
  simpa [badF, IsFr, nu, dn, hi] using this
theorem any_neg (x : List Int) : x.any badN = false ↔ ∀ i, i < x.length → 0 ≤ x.getD i 0 := by
 rw [List.any_eq_false]
 constructor
 ·intro h i hi
  have := h x[i] (List.getElem_mem hi)
  simpa [badN, hi] using this
 ·intro h y hy
  obtain ⟨i, hi, rfl⟩ := List.getElem_of_mem hy
  have := h i hi
  simpa [badN, hi] using this
theorem numL_at (l : FS) (D : Int) (n i : Nat) (h : i < n) : (numL l D n).getD i 0 = nm l D i := by simp [numL, h]
section
variable {l : FS} {D : Int}
theorem su_bound (hf : ∀ i, 0 ≤ i → i < l.length → Fits l D i) : ∀ n, n ≤ l.length → -1000000000000 * (n : Int) ≤ su l D n ∧ su l D n ≤ 1000000000000 * (n : Int) := by
 intro n
 induction n with
 | zero => intro _; simp [su]
 | succ n ih =>
  intro hn
  have h1 := ih (by omega)
  have h2 := hf n (Nat.zero_le _) (by omega)
  unfold Fits at h2
  unfold su
  push_cast
  omega
theorem su_ge (hp : ∀ i, i < l.length → 0 ≤ nm l D i) : ∀ n, n ≤ l.length → 0 ≤ su l D n ∧ ∀ i, i < n → nm l D i ≤ su l D n := by
 intro n
 induction n with
 | zero => intro _; exact ⟨Int.le_refl _, fun i h => by omega⟩
 | succ n ih =>
  intro hn
  have h1 := ih (by omega)
  have h2 := hp n (by omega)
  unfold su
  refine ⟨by omega, fun i hi => ?_⟩
  by_cases e : i = n
  ·subst e; omega
  ·have := h1.2 i (by omega); omega
theorem nm_num (hO : Ok l) (hd : denL l l.length 0 1 = some D) (i : Nat) (hi : i < l.length) : (0 ≤ nm l D i ↔ 0 ≤ nu l i) ∧ (nm l D i ≤ D ↔ nu l i ≤ dn l i) := by
 obtain ⟨d1, d2, _, d4⟩ := denL_facts hO l.length 0 1 D (by omega) (by decide) (by decide) hd
 obtain ⟨q, hq⟩ := d4 i (Nat.zero_le _) hi
 obtain ⟨b1, b2, b3, b4⟩ := hO i hi
 have e : Int.tdiv D (dn l i) = q := by
  have h9 : Int.tdiv (dn l i * q) (dn l i) = q := Int.mul_tdiv_cancel_left q (by omega)
  rwa [← hq] at h9
 have q1 : 1 ≤ q := by
  by_cases h : 1 ≤ q
  ·exact h
  ·have : dn l i * q ≤ 0 := Int.mul_nonpos_of_nonneg_of_nonpos (by omega) (by omega)
   omega
 unfold nm
 rw [e]
 constructor
 ·constructor
  ·intro h
   by_cases c : 0 ≤ nu l i
   ·exact c
   ·exfalso
    have : nu l i * q < 0 := Int.mul_neg_of_neg_of_pos (by omega) (by omega)
    omega
  ·intro h
   exact Int.mul_nonneg h (by omega)
 ·rw [hq]
  constructor
  ·intro h
   exact Int.le_of_mul_le_mul_right h (by omega)
  ·intro h
   exact Int.mul_le_mul_of_nonneg_right h (by omega)
theorem total_loop (hf : ∀ i, 0 ≤ i → i < l.length → Fits l D i) (hl : l.length ≤ 1048576) : ∀ m i, i + m = l.length → Ev (fun k => impl_total.l0 k (su l D i) (numL l D l.length) (l.length : Int) i) (su l D l.length) := by
 intro m
 induction m with
 | zero =>
  intro i hi
  obtain rfl : i = l.length := by omega
  exact evstep (fun k => by rw [impl_total.l0]) (evneg (by omega) (evc rfl))
 | succ m ih =>
  intro i hi
  have h1 := su_bound hf (i + 1) (by omega)
  refine evstep (fun k => by rw [impl_total.l0]) (evpos (by omega) (evpos (by omega) (evpos (by rw [numL_len]; omega) ?_)))
  rw [rd_nat, numL_at l D _ i (by omega), show su l D i + nm l D i = su l D (i + 1) from rfl, w64 (x := su l D (i + 1)) (by omega) (by omega), w64 (x := (i : Int) + 1) (by omega) (by omega)]
  exact ih (i + 1) (by omega)
theorem spec_sum (hf : ∀ i, 0 ≤ i → i < l.length → Fits l D i) (hl : l.length ≤ 1048576) (M : Int) : ∀ m i, i + m = l.length → Ev (fun k => spec_l07Mix.l1 k (l.length : Int) M (numL l D l.length) D (su l D i) i) (if su l D l.length = D then (if D > M then ([], 0, 3) else (numL l D l.length, D, 0)) else ([], 0, 2)) := by
 intro m
 induction m with
 | zero =>
  intro i hi
  obtain rfl : i = l.length := by omega
  refine evstep (fun k => by rw [spec_l07Mix.l1]) (evneg (by omega) ?_)
  by_cases c : su l D l.length = D
  ·refine evpos c ?_
   rw [if_pos c]
   by_cases c2 : D > M
   ·refine evpos c2 ?_
    rw [if_pos c2]; exact evc rfl
   ·refine evneg c2 ?_
    rw [if_neg c2]; exact evc rfl
  ·refine evneg c ?_
   rw [if_neg c]
   exact evc rfl
 | succ m ih =>
  intro i hi
  have h1 := su_bound hf (i + 1) (by omega)
  refine evstep (fun k => by rw [spec_l07Mix.l1]) (evpos (by omega) (evpos (by omega) (evpos (by rw [numL_len]; omega) ?_)))
  rw [rd_nat, numL_at l D _ i (by omega), show su l D i + nm l D i = su l D (i + 1) from rfl, w64 (x := su l D (i + 1)) (by omega) (by omega), w64 (x := (i : Int) + 1) (by omega) (by omega)]
  exact ih (i + 1) (by omega)
end
theorem impl_mix_v {l : FS} {n D : Int} (hl : l.length ≤ 1048576) (v : V l n D) : Ev (fun k => impl_mix.f k l n) (numL l D l.length, D, true) := by
 have hO := ok_of v.fr
 have ht : togR l = (numL l D l.length, D, true) := by unfold togR; rw [v.den]; exact if_pos v.fits
 have hb := (any_badF l).2 v.fr
 unfold impl_mix.f
 refine evpos v.len (evsome (a := true) (by unfold impl_areFracs.f; rw [hb]; rfl) (evstep (fun k => by rw [impl_mix.j0]) (evneg (by simp) ?_)))
 refine evbind (impl_tog hO hl) ?_
 rw [ht]
 refine evpos rfl (evsome (a := true) ?_ (evpos rfl ?_))
 ·unfold impl_isFeasible.f
  rw [(any_neg (numL l D l.length)).2 (fun i hi => by rw [numL_len] at hi; rw [numL_at l D _ i hi]; exact v.pos i hi)]
  rfl
 ·have := total_loop v.fits hl l.length 0 (by omega)
  refine evbind (a := su l D l.length) ?_ (evpos v.sum (evc rfl))
  unfold impl_total.f
  rw [numL_len]
  exact this
theorem impl_mix_n {l : FS} {n : Int} (hl : l.length ≤ 1048576) (v : ¬ ∃ D, V l n D) : Ev (fun k => impl_mix.f k l n) ([], 0, false) := by
 classical
 unfold impl_mix.f
 by_cases c1 : (l.length : Int) = n
 ·refine evpos c1 ?_
  by_cases c2 : ∀ i, 0 ≤ i → i < l.length → IsFr l i
  ·have hO := ok_of c2
   refine evsome (a := true) (by unfold impl_areFracs.f; rw [(any_badF l).2 c2]; rfl) (evstep (fun k => by rw [impl_mix.j0]) (evneg (by simp) ?_))
   refine evbind (impl_tog hO hl) ?_
   unfold togR
   cases hd : denL l l.length 0 1 with
   | none => exact evneg (by simp) (evc rfl)
   | some D =>
    by_cases c3 : ∀ i, 0 ≤ i → i < l.length → Fits l D i
    ·simp only []
     rw [if_pos c3]
     refine evpos rfl ?_
     by_cases c4 : ∀ i, i < l.length → 0 ≤ nm l D i
     ·refine evsome (a := true) ?_ (evpos rfl ?_)
      ·unfold impl_isFeasible.f
       rw [(any_neg (numL l D l.length)).2 (fun i hi => by rw [numL_len] at hi; rw [numL_at l D _ i hi]; exact c4 i hi)]
       rfl
      ·have := total_loop c3 hl l.length 0 (by omega)
       refine evbind (a := su l D l.length) ?_ ?_
       ·unfold impl_total.f
        rw [numL_len]
        exact this
       ·exact evneg (fun e => v ⟨D, c1, c2, hd, c3, c4, e⟩) (evc rfl)
     ·refine evsome (a := false) ?_ (evneg (by simp) (evc rfl))
      unfold impl_isFeasible.f
      have : ((numL l D l.length).any badN) = true := by
       cases q : (numL l D l.length).any badN with
       | true => rfl
       | false =>
        exfalso
        have := (any_neg _).1 q
        exact c4 (fun i hi => by have := this i (by rw [numL_len]; exact hi); rwa [numL_at l D _ i hi] at this)
      rw [this]; rfl
    ·simp only []
     rw [if_neg c3]
     exact evneg (by simp) (evc rfl)
  ·have : l.any badF = true := by
    cases q : l.any badF with
    | true => rfl
    | false => exact absurd ((any_badF l).1 q) c2
   refine evsome (a := false) (by unfold impl_areFracs.f; rw [this]; rfl) (evstep (fun k => by rw [impl_mix.j0]) (evpos (by simp) (evc rfl)))
 ·exact evneg c1 (evstep (fun k => by rw [impl_mix.j0]) (evpos rfl (evc rfl)))
theorem spec_loop {l : FS} (hl : l.length ≤ 1048576) (M : Int) (R : List Int × Int × Int) (next : (∀ i, i < l.length → IsFr l i ∧ 0 ≤ nu l i ∧ nu l i ≤ dn l i) → Ev (fun k => (spec_l01Common.f k l).bind fun bt670 => (if bt670.2.2 = true then (spec_l07Mix.l1 k (l.length : Int) M bt670.1 bt670.2.1 0 0) else (some (([] : List Int), 0, 2)))) R)
  (no : ¬ (∀ i, i < l.length → IsFr l i ∧ 0 ≤ nu l i ∧ nu l i ≤ dn l i) → R = ([], 0, 2)) :
  ∀ m i, i + m = l.length → (∀ j, j < i → IsFr l j ∧ 0 ≤ nu l j ∧ nu l j ≤ dn l j) → Ev (fun k => spec_l07Mix.l0 k l (l.length : Int) M i) R := by
 intro m
 induction m with
 | zero =>
  intro i hi h
  obtain rfl : i = l.length := by omega
  exact evstep (fun k => by rw [spec_l07Mix.l0]) (evneg (by omega) (next h))
 | succ m ih =>
  intro i hi h
  refine evstep (fun k => by rw [spec_l07Mix.l0]) ?_
  rw [rd_f0, rd_f1]
  refine evpos (by omega) (evpos (by omega) (evpos (by omega) (evbind (spec_isF9 _ _) ?_)))
  rw [w64 (x := (i : Int) + 1) (by omega) (by omega)]
  by_cases c : isF 1000000000 (nu l i) (dn l i) = true
  ·refine evpos c ?_
   by_cases c2 : nu l i < 0
   ·rw [no (fun q => by have := (q i (by omega)).2.1; omega)]
    exact evpos c2 (evc rfl)
   ·refine evneg c2 ?_
    by_cases c3 : nu l i > dn l i
    ·rw [no (fun q => by have := (q i (by omega)).2.2; omega)]
     exact evpos c3 (evc rfl)
    ·refine evneg c3 (ih (i + 1) (by omega) (fun j hj => ?_))
     by_cases e : j = i
     ·subst e; exact ⟨c, by omega, by omega⟩
     ·exact h j (by omega)
  ·rw [no (fun q => c (q i (by omega)).1)]
   exact evneg c (evc rfl)
theorem spec_mix_v {l : FS} {n D : Int} (hl : l.length ≤ 1048576) (v : V l n D) (M : Int) : Ev (fun k => spec_l07Mix.f k l n M) (if D > M then ([], 0, 3) else (numL l D l.length, D, 0)) := by
 have hO := ok_of v.fr
 have ht : togR l = (numL l D l.length, D, true) := by unfold togR; rw [v.den]; exact if_pos v.fits
 have hg := su_ge v.pos l.length (Nat.le_refl _)
 have hall : ∀ i, i < l.length → IsFr l i ∧ 0 ≤ nu l i ∧ nu l i ≤ dn l i := fun i hi => by
  have h1 := nm_num hO v.den i hi
  exact ⟨v.fr i (Nat.zero_le _) hi, h1.1.1 (v.pos i hi), h1.2.1 (by have := hg.2 i hi; have := v.sum; omega)⟩
 unfold spec_l07Mix.f
 refine evpos v.len ?_
 rw [← v.len]
 refine spec_loop hl M _ (fun _ => ?_) (fun q => absurd hall q) l.length 0 (by omega) (fun j hj => by omega)
 refine evbind (spec_tog hO hl) ?_
 rw [ht]
 refine evpos rfl ?_
 have := spec_sum v.fits hl M l.length 0 (by omega)
 rw [if_pos v.sum] at this
 exact this
theorem spec_mix_n {l : FS} {n : Int} (hl : l.length ≤ 1048576) (v : ¬ ∃ D, V l n D) (M : Int) : Ev (fun k => spec_l07Mix.f k l n M) ([], 0, 2) := by
 classical
 unfold spec_l07Mix.f
 by_cases c1 : (l.length : Int) = n
 ·refine evpos c1 ?_
  subst c1
  refine spec_loop hl M _ (fun h => ?_) (fun _ => rfl) l.length 0 (by omega) (fun j hj => by omega)
  have c2 : ∀ i, 0 ≤ i → i < l.length → IsFr l i := fun i _ hi => (h i hi).1
  have hO := ok_of c2
  refine evbind (spec_tog hO hl) ?_
  unfold togR
  cases hd : denL l l.length 0 1 with
  | none => exact evneg (by simp) (evc rfl)
  | some D =>
   by_cases c3 : ∀ i, 0 ≤ i → i < l.length → Fits l D i
   ·simp only []
    rw [if_pos c3]
    refine evpos rfl ?_
    have h4 : ∀ i, i < l.length → 0 ≤ nm l D i := fun i hi => (nm_num hO hd i hi).1.2 (h i hi).2.1
    have h5 : ¬ su l D l.length = D := fun e => v ⟨D, rfl, c2, hd, c3, h4, e⟩
    have := spec_sum c3 hl M l.length 0 (by omega)
    rw [if_neg h5] at this
    exact this
   ·simp only []
    rw [if_neg c3]
    exact evneg (by simp) (evc rfl)
 ·exact evneg c1 (evc rfl)
end Go.Proofs.Ytjjbhdpjnjncbaa.Mj
end
section
namespace Go.Proofs.Ytjjbhdpjnjncbaa.MgB
open Go.RowKit Go.Proofs.YtjjbhdpjnjncbaaW.PrintWords Go.Proofs.YtjjbhdpjnjncbaaW.PrintMore Go.Proofs.Ytjjbhdpjnjncbaa.Ma Go.Proofs.Ytjjbhdpjnjncbaa.Pr Go.Proofs.Ytjjbhdpjnjncbaa.La Go.Proofs.Ytjjbhdpjnjncbaa.Gm Go.Proofs.Ytjjbhdpjnjncbaa.Mx Go.Proofs.Ytjjbhdpjnjncbaa.Mi Go.Proofs.Ytjjbhdpjnjncbaa.Mj Go.Proofs.Ytjjbhdpjnjncbaa.Mg
theorem v_len {l : FS} {n : Nat} {D : Int} (v : V l (n : Int) D) : l.length = n := by have := v.len; omega
theorem v_den {l : FS} {n D : Int} (v : V l n D) : 1 ≤ D ∧ D ≤ 1000000000 := by
 obtain ⟨d1, d2, _, _⟩ := denL_facts (ok_of v.fr) l.length 0 1 D (by omega) (by decide) (by decide) v.den
 exact ⟨d1, d2⟩
theorem v_nm {l : FS} {n D : Int} (v : V l n D) (i : Nat) (hi : i < l.length) : Nm (nm l D i) := by
 have hg := (su_ge v.pos l.length (Nat.le_refl _)).2 i hi
 have := v.sum
 have := v.pos i hi
 have := v_den v
 unfold Nm
 omega
theorem rep_loop (g : List Int) (hg : g.length ≤ 4) (x : Int) : ∀ q i, i + q = g.length → Ev (fun n => impl_BestReplies.l0 n x (reps g x i) g (g.length : Int) i) (reps g x g.length, 0) := by
 intro q
 induction q with
 | zero =>
  intro i hi
  obtain rfl : i = g.length := by omega
  exact evstep (fun k => by rw [impl_BestReplies.l0]) (evneg (by omega) (evc rfl))
 | succ q ih =>
  intro i hi
  have h := ih (i + 1) (by omega)
  have hr := reps_len g x i
  refine evstep (fun k => by rw [impl_BestReplies.l0]) (evpos (by omega) (evpos (by omega) (evpos (by omega) ?_)))
  rw [rd_nat, w64 (x := (i : Int) + 1) (by omega) (by omega)]
  rw [show reps g x (i + 1) = if g.getD i 0 = x then reps g x i ++ [(i : Int)] else reps g x i from rfl] at h
  by_cases c : g.getD i 0 = x
  ·rw [if_pos c] at h
   exact evpos c (evpos (by omega) h)
  ·rw [if_neg c] at h
   exact evneg c h
open Classical in
theorem both (a b : List (List Int)) (p : Int) (l1 : FS) (ha : a.length ≤ 1048576) (hr : ∀ x ∈ a, x.length ≤ 1048576) (h1 : l1.length ≤ 1048576) : ∃ R : List Int × Int, Ev (fun k => spec_BestReplies.f k a b p l1) R ∧ Ev (fun k => impl_BestReplies.f k a b p l1) R ∧ R.1.length ≤ 4 := by
 have hb : decide (GameOK a b) = true ↔ GameOK a b := by simp
 have e0 : rd_L1 a 0 = rw_ a 0 := rw_eq a 0
 by_cases g : GameOK a b
 ·have hk := g.k4; have hk1 := g.k1; have hl := g.l4; have hs := g.same; have hl1 := g.l1
  have is := Gm.impl_is a b ha hr _ hb
  have ss := Gm.spec_is a b ha hr _ hb
  have gd : decide (GameOK a b) = true := by simpa using g
  by_cases hp : 0 ≤ p ∧ p ≤ 1
  ·have pd : decide (0 ≤ p ∧ p ≤ 1) = true := by simpa using hp
   by_cases p1 : p = 1
   ·subst p1
    by_cases v1 : ∃ D, V l1 (a.length : Int) D
    ·obtain ⟨D1, v1⟩ := v1
     have d1 := v_den v1
     have n1 := v_len v1
     have c1 : ¬ D1 > 1000000000 := by omega
     have X1 : ∀ i, i < a.length → Nm (nm l1 D1 i) := fun i hi => v_nm v1 i (by omega)
     have x1 : (numL l1 D1 l1.length).length = a.length := by rw [numL_len]; exact n1
     have x2 : ∀ j, j < a.length → (numL l1 D1 l1.length).getD j 0 = nm l1 D1 j := fun j hj => numL_at l1 D1 _ j (by omega)
     generalize hG : gl (rw_ a 0).length (gC b (nm l1 D1) a.length) = G
     have g1 : G.length = (rw_ a 0).length := by rw [← hG, gl_len]
     have ib := impl_gains1 g x1 x2 X1
     rw [hG] at ib
     have sb := spec_rep1 g x1 x2 X1 G hG.symm
     have r1 := spec_mix_v h1 v1 1000000000; rw [if_neg c1] at r1
     refine ⟨(reps G (top G) G.length, 0), ?_, ?_, by have := reps_len G (top G) G.length; show (reps G (top G) G.length).length ≤ 4; omega⟩
     ·unfold spec_BestReplies.f
      refine evbind ss (evpos gd (evsome (sin_eq _ _ _) (evpos pd (evpos (by omega) (evpos rfl (evstep (fun k => by rw [spec_BestReplies.j0]) ?_))))))
      exact evbind r1 (evpos rfl (evbind sb (evc rfl)))
     ·unfold impl_BestReplies.f
      refine evsome is (evpos gd (evsome (iin_eq _ _ _) (evpos pd ?_)))
      unfold impl_Game_sizes.f
      rw [if_pos (by omega), e0]
      refine evsome rfl (evpos rfl (evstep (fun k => by rw [impl_BestReplies.j0]) ?_))
      exact evbind (impl_mix_v h1 v1) (evpos rfl (evbind ib (evbind (max_of G (by omega) (by omega)) (rep_loop G (by omega) (top G) G.length 0 (by omega)))))
    ·refine ⟨([], 2), ?_, ?_, by simp⟩
     ·unfold spec_BestReplies.f
      refine evbind ss (evpos gd (evsome (sin_eq _ _ _) (evpos pd (evpos (by omega) (evpos rfl (evstep (fun k => by rw [spec_BestReplies.j0]) ?_))))))
      exact evbind (spec_mix_n h1 v1 1000000000) (evneg (by decide) (evc rfl))
     ·unfold impl_BestReplies.f
      refine evsome is (evpos gd (evsome (iin_eq _ _ _) (evpos pd ?_)))
      unfold impl_Game_sizes.f
      rw [if_pos (by omega), e0]
      refine evsome rfl (evpos rfl (evstep (fun k => by rw [impl_BestReplies.j0]) ?_))
      exact evbind (impl_mix_n h1 v1) (evneg (by simp) (evc rfl))
   ·obtain rfl : p = 0 := by omega
    by_cases v1 : ∃ D, V l1 ((rw_ a 0).length : Int) D
    ·obtain ⟨D1, v1⟩ := v1
     have d1 := v_den v1
     have n1 := v_len v1
     have c1 : ¬ D1 > 1000000000 := by omega
     have X1 : ∀ i, i < (rw_ a 0).length → Nm (nm l1 D1 i) := fun i hi => v_nm v1 i (by omega)
     have x1 : (numL l1 D1 l1.length).length = (rw_ a 0).length := by rw [numL_len]; exact n1
     have x2 : ∀ j, j < (rw_ a 0).length → (numL l1 D1 l1.length).getD j 0 = nm l1 D1 j := fun j hj => numL_at l1 D1 _ j (by omega)
     generalize hG : gl a.length (gR a (nm l1 D1) (rw_ a 0).length) = G
     have g1 : G.length = a.length := by rw [← hG, gl_len]
     have ib := impl_gains0 g x1 x2 X1
     rw [hG] at ib
     have sb := spec_rep0 g x1 x2 X1 G hG.symm
     have r1 := spec_mix_v h1 v1 1000000000; rw [if_neg c1] at r1
     refine ⟨(reps G (top G) G.length, 0), ?_, ?_, by have := reps_len G (top G) G.length; show (reps G (top G) G.length).length ≤ 4; omega⟩
     ·unfold spec_BestReplies.f
      refine evbind ss (evpos gd (evsome (sin_eq _ _ _) (evpos pd (evpos (by omega) (evneg (by decide) ?_)))))
      rw [e0]
      refine evstep (fun k => by rw [spec_BestReplies.j0]) ?_
      exact evbind r1 (evpos rfl (evbind sb (evc rfl)))
     ·unfold impl_BestReplies.f
      refine evsome is (evpos gd (evsome (iin_eq _ _ _) (evpos pd ?_)))
      unfold impl_Game_sizes.f
      rw [if_pos (by omega), e0]
      refine evsome rfl (evneg (by decide) (evstep (fun k => by rw [impl_BestReplies.j0]) ?_))
      exact evbind (impl_mix_v h1 v1) (evpos rfl (evbind ib (evbind (max_of G (by omega) (by omega)) (rep_loop G (by omega) (top G) G.length 0 (by omega)))))
    ·refine ⟨([], 2), ?_, ?_, by simp⟩
     ·unfold spec_BestReplies.f
      refine evbind ss (evpos gd (evsome (sin_eq _ _ _) (evpos pd (evpos (by omega) (evneg (by decide) ?_)))))
      rw [e0]
      refine evstep (fun k => by rw [spec_BestReplies.j0]) ?_
      exact evbind (spec_mix_n h1 v1 1000000000) (evneg (by decide) (evc rfl))
     ·unfold impl_BestReplies.f
      refine evsome is (evpos gd (evsome (iin_eq _ _ _) (evpos pd ?_)))
      unfold impl_Game_sizes.f
      rw [if_pos (by omega), e0]
      refine evsome rfl (evneg (by decide) (evstep (fun k => by rw [impl_BestReplies.j0]) ?_))
      exact evbind (impl_mix_n h1 v1) (evneg (by simp) (evc rfl))
  ·have pd : ¬ decide (0 ≤ p ∧ p ≤ 1) = true := by simpa using hp
   refine ⟨([], 2), ?_, ?_, by simp⟩
   ·unfold spec_BestReplies.f
    exact evbind ss (evpos gd (evsome (sin_eq _ _ _) (evneg pd (evc rfl))))
   ·unfold impl_BestReplies.f
    exact evsome is (evpos gd (evsome (iin_eq _ _ _) (evneg pd (evc rfl))))
 ·refine ⟨([], 1), ?_, ?_, by simp⟩
  ·unfold spec_BestReplies.f
   exact evbind (Gm.spec_is a b ha hr _ hb) (evneg (by simpa using g) (evc rfl))
  ·unfold impl_BestReplies.f
   exact evsome (Gm.impl_is a b ha hr _ hb) (evneg (by simpa using g) (evc rfl))
end Go.Proofs.Ytjjbhdpjnjncbaa.MgB
end
section
namespace Go.Proofs.Ytjjbhdpjnjncbaa.La
open Go.RowKit Go.Proofs.YtjjbhdpjnjncbaaW.PrintWords Go.Proofs.YtjjbhdpjnjncbaaW.PrintMore Go.Proofs.Ytjjbhdpjnjncbaa.Ma Go.Proofs.Ytjjbhdpjnjncbaa.Pr Go.Proofs.Ytjjbhdpjnjncbaa.Hm
end Go.Proofs.Ytjjbhdpjnjncbaa.La
end
section
namespace Go.Proofs.Ytjjbhdpjnjncbaa.La
open Go.RowKit Go.Proofs.YtjjbhdpjnjncbaaW.PrintWords Go.Proofs.YtjjbhdpjnjncbaaW.PrintMore Go.Proofs.Ytjjbhdpjnjncbaa.Ma Go.Proofs.Ytjjbhdpjnjncbaa.Pr Go.Proofs.Ytjjbhdpjnjncbaa.Op
theorem eqG {a b : List (List Int)} (ha : Fit a) (hb : Fit b) : Ev (fun k => laws_eqGame.f k a b a b) true := by
 unfold laws_eqGame.f
 exact evbind (fit_eq ha) (evpos rfl (evbind (fit_eq hb) (evpos rfl (evc rfl))))
end Go.Proofs.Ytjjbhdpjnjncbaa.La
end
section
namespace Go.Proofs.Ytjjbhdpjnjncbaa.La
open Go.RowKit Go.Proofs.YtjjbhdpjnjncbaaW.PrintWords Go.Proofs.YtjjbhdpjnjncbaaW.PrintMore Go.Proofs.Ytjjbhdpjnjncbaa.Ma Go.Proofs.Ytjjbhdpjnjncbaa.Pr Go.Proofs.Ytjjbhdpjnjncbaa.Hm Go.Proofs.Ytjjbhdpjnjncbaa.Op
theorem fit_lens {l : List (List Int)} (h : tot l ≤ 1048576) : lens l ≤ 1048576 := by unfold tot at h; omega
theorem szG2 {a b : List (List Int)} (ga : GoodList (GoodList (GoodInt .i64)) a) (gb : GoodList (GoodList (GoodInt .i64)) b) :
  ∃ t : Int, Ev (fun k => laws_szGame.f k a b 1048576) t ∧ (0 ≤ t → tot a ≤ 1048576 ∧ tot b ≤ 1048576) := by
 have h1 := szSS a ga (n := 1048576) (by decide) (by decide)
 by_cases c : (1048576 : Int) < (tot a : Int)
 ·rw [if_pos c] at h1
  exact ⟨-1, by unfold laws_szGame.f; exact evbind h1 (evpos (by decide) (evc rfl)), fun h => by omega⟩
 ·rw [if_neg c] at h1
  have h2 := szSS b gb (n := 1048576 - (tot a : Int)) (by omega) (by omega)
  by_cases c2 : (1048576 : Int) - (tot a : Int) < (tot b : Int)
  ·rw [if_pos c2] at h2
   exact ⟨-1, by unfold laws_szGame.f; exact evbind h1 (evneg (by omega) (evbind h2 (evpos (by decide) (evc rfl)))), fun h => by omega⟩
  ·rw [if_neg c2] at h2
   exact ⟨_, by unfold laws_szGame.f; exact evbind h1 (evneg (by omega) (evbind h2 (evneg (by omega) (evc rfl)))), fun _ => ⟨by omega, by omega⟩⟩
theorem szG_le {a b : List (List Int)} (ga : GoodList (GoodList (GoodInt .i64)) a) (gb : GoodList (GoodList (GoodInt .i64)) b) {t : Int} (ht : Ev (fun k => laws_szGame.f k a b 1048576) t) : t ≤ 1048576 := by
 have uniq : ∀ u : Int, Ev (fun k => laws_szGame.f k a b 1048576) u → t = u := by
  intro u hu
  obtain ⟨k1, e1⟩ := ht
  obtain ⟨k2, e2⟩ := hu
  have h1 := e1 (k1 + k2) (by omega)
  have h2 := e2 (k1 + k2) (by omega)
  rw [h1] at h2
  exact Option.some.inj h2
 have h1 := szSS a ga (n := 1048576) (by decide) (by decide)
 by_cases c : (1048576 : Int) < (tot a : Int)
 ·rw [if_pos c] at h1
  have := uniq (-1) (by unfold laws_szGame.f; exact evbind h1 (evpos (by decide) (evc rfl)))
  omega
 ·rw [if_neg c] at h1
  have h2 := szSS b gb (n := 1048576 - (tot a : Int)) (by omega) (by omega)
  by_cases c2 : (1048576 : Int) - (tot a : Int) < (tot b : Int)
  ·rw [if_pos c2] at h2
   have := uniq (-1) (by unfold laws_szGame.f; exact evbind h1 (evneg (by omega) (evbind h2 (evpos (by decide) (evc rfl)))))
   omega
  ·rw [if_neg c2] at h2
   have := uniq _ (by unfold laws_szGame.f; exact evbind h1 (evneg (by omega) (evbind h2 (evneg (by omega) (evc rfl)))))
   omega
end Go.Proofs.Ytjjbhdpjnjncbaa.La
end
section
namespace Go.Proofs.Ytjjbhdpjnjncbaa.Pure
open Go.RowKit Go.Proofs.YtjjbhdpjnjncbaaW.PrintWords Go.Proofs.YtjjbhdpjnjncbaaW.PrintMore Go.Proofs.Ytjjbhdpjnjncbaa.Ma Go.Proofs.Ytjjbhdpjnjncbaa.Pr Go.Proofs.Ytjjbhdpjnjncbaa.La Go.Proofs.Ytjjbhdpjnjncbaa.Op
theorem FnExactBestReplies : Say.FnExactBestReplies := by
 intro a b p l1 ga gb gp g1
 obtain ⟨t, hsz, hf⟩ := szG2 ga gb
 have ht1 : t ≤ 1048576 := szG_le ga gb hsz
 obtain ⟨k0, ht⟩ := hsz
 by_cases c : t < 0
 ·refine ⟨k0, ?_⟩
  unfold laws_FnExactBestReplies.f
  rw [if_pos]
  exact .inr (.inl ⟨t, ht _ (Nat.le_refl _), c⟩)
 ·obtain ⟨ta, tb⟩ := hf (by omega)
  have s1 := szF (l := l1) (n := t) (by omega) ht1 g1.1
  by_cases c1 : t < (l1.length : Int)
  ·rw [if_pos c1] at s1
   refine ⟨k0, ?_⟩
   unfold laws_FnExactBestReplies.f
   rw [if_pos]
   exact .inr (.inr ⟨t, -1, ht _ (Nat.le_refl _), c, s1, by decide⟩)
  ·rw [if_neg c1] at s1
   have fa := fit_of ta; have fb := fit_of tb
   have fl := fit_lens ta; have fl2 := fit_lens tb
   have m1 : (l1.map cv).length ≤ 1048576 := by rw [List.length_map]; omega
   obtain ⟨R, ⟨k1, e1⟩, ⟨k2, e2⟩, hR⟩ := MgB.both a b p (l1.map cv) fa.len fa.row m1
   obtain ⟨k3, e3⟩ := fit_to fa
   obtain ⟨k4, e4⟩ := fit_to fb
   obtain ⟨k5, e5⟩ := toF l1 (by omega)
   obtain ⟨k6, e6⟩ := eqI_same R.1 (by omega)
   obtain ⟨k7, e7⟩ := eqG fa fb
   obtain ⟨k8, e8⟩ := eqF _ m1
   obtain ⟨k9, e9⟩ := heldI 1 R.1.length (by omega) (by decide) (by decide)
   have al := fa.len; have bl := fb.len
   refine ⟨k0 + k1 + k2 + k3 + k4 + k5 + k6 + k7 + k8 + k9, ?_⟩
   unfold laws_FnExactBestReplies.f
   rw [if_pos]
   exact .inl ⟨t, _, l1.map cv, R.1, R.2, _, _, _, ht _ (by omega), c, s1, by omega, ⟨e3 _ (by omega), e4 _ (by omega)⟩, e5 _ (by omega), e1 _ (by omega), e2 _ (by omega), e6 _ (by omega), e7 _ (by omega), e8 _ (by omega), rfl, by omega, by omega, by omega, by omega, by omega, rfl, by omega, by omega, rfl, by omega, by omega, e9 _ (by omega)⟩
end Go.Proofs.Ytjjbhdpjnjncbaa.Pure
end
section
namespace Go.Proofs.Ytjjbhdpjnjncbaa.fnExactBestReplies
open Go.ChangeShapes Go.WideShapes Go.ChangeAt Go.RowKit Go.Proofs.Ytjjbhdpjnjncbaa.Op Go.Proofs.YtjjbhdpjnjncbaaW.PrintWords
theorem own : ownKnob Try.prog.godebug = none := by kernel_rfl
theorem laidOut : laidOutB Try.prog = true := by kernel_rfl
theorem lifted (os : Os) (started : os.Started) (H : Type) (enc : TypeId × Value → H) :
  ReturnsInHanded {} Try.checked os 10 .any (Rows.fnExactBestRepliesSpec.pre6 enc Try.prog Try.f10 Rows.fnExactBestRepliesRow.domain false) (Rows.fnExactBestRepliesSpec.post enc Try.prog Try.f10 false true false false) := by
 refine returnsInHanded_of_change_sized (C := Try.checked) own started (by kernel_rfl) Try.func10
  (ChangeSpec.witness6 (enc := enc) (C := Try.checked) false ⟨#[], #[.agg #[.slice none 0 0, .slice none 0 0], .int .i64 0, .slice none 0 0], []⟩ 8 (by kernel_rfl) (by kernel_rfl) (by kernel_rfl) (by kernel_rfl)) ?_
 intro W base args ds gs before hval0 hW hcnd hsz0 _
 have hval : ∀ (j : Nat) t v, Try.f10.params[j]? = some t → args[j]? = some v → Value.okWide Try.prog W .any base t v := hval0
 have hW' := hW
 obtain ⟨p, q, hA0, hV, rfl, hfz, hnd⟩ := hW
 have hA : DataW.TrodAll enc Try.prog W 0 (fun _ => true) true Try.f10.params.toList args.toList ds p := hA0
 rw [Try.params10] at hA hval
 obtain ⟨v0, vs0, d0, ds0, p0, q0, hargs, rfl, rfl, h0, r0⟩ := trodAll_cons hA
 obtain ⟨v1, vs1, d1, ds1, p1, q1, rfl, rfl, rfl, h1, r1⟩ := trodAll_cons r0
 obtain ⟨v2, vs2, d2, ds2, p2, q2, rfl, rfl, rfl, h2, r2⟩ := trodAll_cons r1
 obtain ⟨rfl, rfl, rfl⟩ := trodAll_nil r2
 obtain rfl : args = #[v0, v1, v2] := by cases args; simp_all
 obtain ⟨rfl, rfl⟩ := trodVars_none hV
 have k0 := h0
 have lt0 := trod_blocks k0
 obtain ⟨⟨x0_0, x0_1⟩, cs0, rfl, hk0, g0⟩ := arg_struct Try.underlying24 (opens_struct2 Try.underlying24 ⟨by kernel_rfl, by kernel_rfl⟩ ⟨by kernel_rfl, by kernel_rfl⟩ (by kernel_rfl) (opens_slice Try.underlying22 (by kernel_rfl) (opens_slice Try.underlying33 (by kernel_rfl) (opens_int Try.underlying2))) (opens_slice Try.underlying22 (by kernel_rfl) (opens_slice Try.underlying33 (by kernel_rfl) (opens_int Try.underlying2))) id (Kd.pair (Kd.slice 33 (Kd.slice 2 (Kd.int .i64))) (Kd.slice 33 (Kd.slice 2 (Kd.int .i64)))) (fun _ _ _ h => h) (fun x => (GoodList (GoodList (GoodInt .i64))) x.1 ∧ (GoodList (GoodList (GoodInt .i64))) x.2) (fun _ h0 h1 => ⟨h0, h1⟩)) (hval 0 24 v0 rfl rfl) h0
 obtain ⟨A0_0, c0_0, A0_1, c0_1, rfl, q0_0, r0_0, q0_1, r0_1⟩ := cells_slice_slice hk0
 have k1 := h1
 have lt1 := trod_blocks k1
 obtain ⟨a1, rfl, rfl, rfl, g1⟩ := open_int Try.underlying2 (hval 1 2 v1 rfl rfl) h1
 have k2 := h2
 have lt2 := trod_blocks k2
 letI inh2 : Inhabited Pr.S120 := ⟨Pr.z120⟩
 obtain ⟨A2, c2, l2, rfl, q2_0, r2_0, g2⟩ := arg_slice (d := Pr.k120) Try.underlying62 (by kernel_rfl) (opens_struct2 Try.underlying120 ⟨by kernel_rfl, by kernel_rfl⟩ ⟨by kernel_rfl, by kernel_rfl⟩ (by kernel_rfl) (opens_int Try.underlying2) (opens_int Try.underlying2) (fun x : Int × Int => (⟨x.1, x.2⟩ : Pr.S120)) Pr.k120 (fun _ _ _ h => h) (fun x : Pr.S120 => (GoodInt .i64) x.f0 ∧ (GoodInt .i64) x.f1) (fun _ h0 h1 => ⟨h0, h1⟩)) (hval 2 62 v2 rfl rfl) h2
 obtain ⟨k, h⟩ := Pure.FnExactBestReplies x0_0 x0_1 a1 l2 g0.1 g0.2 g1 g2
 clear hA0 hval0 hsz0
 refine (Pr.laws_FnExactBestReplies.calls k A0_0 c0_0 x0_0 A0_1 c0_1 x0_1 a1 A2 c2 l2 true W r0_0 q0_0 r0_1 q0_1 r2_0 q2_0 h).mono ?_
 rintro e W' ⟨rfl, bel0⟩
 have bel : Below W.heap.size W W' := by first | exact bel0 | exact bel0.below
 exact ⟨_, rfl, _, _, _, [], _, [], hW', trodAll_mk1 (shut_bool Try.underlying4 _), (trodAll_cons_mk (Below.trod laidOut (by kernel_rfl) (of_decide_eq_true (by kernel_rfl)) k0 bel lt0) (trodAll_cons_mk (Below.trod laidOut (by kernel_rfl) (of_decide_eq_true (by kernel_rfl)) k1 bel lt1) (trodAll_cons_mk (Below.trod laidOut (by kernel_rfl) (of_decide_eq_true (by kernel_rfl)) k2 bel lt2) trodAll_mk0))), rfl, bel.frame _, fun h => by cases h⟩
theorem over : Rows.fnExactBestRepliesRow.holds Try.pinned (OpenSpec.ofChange Rows.fnExactBestRepliesSpec) :=
 OpenClaim.holds_of_wide 10 Try.f10 rfl rfl rfl rfl rfl rfl rfl ⟨rfl, rfl, rfl, rfl, rfl⟩ rfl rfl rfl rfl rfl (by kernel_rfl) Try.func10 (by kernel_rfl)
  (of_decide_eq_true (by kernel_rfl)) (by unfold Func.isWrapper; first | (rw [if_pos (by decide +kernel)]; kernel_rfl) | (rw [if_neg (by decide +kernel)]; exact ⟨rfl, rfl⟩))
  (fun os started H enc _ => lifted os started H enc)
theorem proved : Rows.FnExactBestRepliesSaid := over
#print axioms proved
end Go.Proofs.Ytjjbhdpjnjncbaa.fnExactBestReplies
namespace Go.Proofs.Ytjjbhdpjnjncbaa
theorem fnExactBestReplies_holds : Rows.FnExactBestRepliesSaid := fnExactBestReplies.proved
end Go.Proofs.Ytjjbhdpjnjncbaa
end
