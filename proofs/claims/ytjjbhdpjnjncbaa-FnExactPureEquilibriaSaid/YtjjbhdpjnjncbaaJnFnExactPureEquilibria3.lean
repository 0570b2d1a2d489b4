/- Texts of one claim, joined in the order of their imports by this session's own program (merge.py). -/
import Derived.Test.YtjjbhdpjnjncbaaRows
import Derived.WalkKit
import Derived.ProofKit
import Derived.OpenShut
import Derived.ShutString
import Derived.ChangeOld
import Derived.Below
import Derived.SizedLaws
import Derived.Test.YtjjbhdpjnjncbaaJnFnExactPureEquilibria0
import Derived.Test.YtjjbhdpjnjncbaaJnFnExactPureEquilibria1
import Derived.Test.YtjjbhdpjnjncbaaJnFnExactPureEquilibria2

section
/- The law FnExactPureEquilibria, walked: it returns true where the pure equations hold. Written by this session's own program (lawwalk.py). -/
namespace Go.Proofs.Ytjjbhdpjnjncbaa.Pr
open Go.RowKit Go.Proofs.YtjjbhdpjnjncbaaW.PrintWords Go.Proofs.YtjjbhdpjnjncbaaW.PrintLast Go.Proofs.YtjjbhdpjnjncbaaW.PrintMore Go.Proofs.Ytjjbhdpjnjncbaa.La Go.Proofs.Ytjjbhdpjnjncbaa.Hm Go.Proofs.Ytjjbhdpjnjncbaa.Lw
set_option linter.unusedVariables false
set_option linter.unusedSimpArgs false
set_option maxHeartbeats 8000000 in
set_option maxRecDepth 100000 in
theorem laws_FnExactPureEquilibria.walk (k : Nat) (A0_0 : Option Addr) (c0_0 : Nat) (l0_0 : List (List Int)) (A0_1 : Option Addr) (c0_1 : Nat) (l0_1 : List (List Int)) (t16 : Int) (s0 : List (List Int)) (s1 : Int) (m1 : Int) (m2 : Int) (w : World) (hr0_0 : Kd.C (Kd.slice 2 (Kd.int .i64)) w A0_0 l0_0.length l0_0) (hc0_0 : l0_0.length ≤ c0_0) (hr0_1 : Kd.C (Kd.slice 2 (Kd.int .i64)) w A0_1 l0_1.length l0_1) (hc0_1 : l0_1.length ≤ c0_1) (h1 : laws_szGame.f k l0_0 l0_1 1048576 = some t16) (h2 : ¬ t16 < 0) (h3 : laws_toInt64SS.f k l0_0 = some l0_0 ∧ laws_toInt64SS.f k l0_1 = some l0_1) (h4 : spec_PureEquilibria.f k l0_0 l0_1 = some (s0, s1)) (h5 : impl_PureEquilibria.f k l0_0 l0_1 = some (s0, s1)) (h6 : laws_eqInt64SS.f k s0 s0 = some true) (h7 : laws_eqGame.f k l0_0 l0_1 l0_0 l0_1 = some true) (h8 : m1 = 1 + (lens l0_0 : Int) + (lens l0_1 : Int)) (h9 : 1 + (lens l0_0 : Int) + (lens l0_1 : Int) ≤ 1099511627776) (h10 : l0_0.length ≤ 1099511627776) (h11 : l0_1.length ≤ 1099511627776) (h12 : ¬ m1 < 0) (h13 : m2 = 1 + (lens s0 : Int)) (h14 : 1 + (lens s0 : Int) ≤ 1099511627776) (h15 : s0.length ≤ 1099511627776) (h16 : ¬ m2 < 0) (h17 : laws_heldInt64SS.f k ((marks s0 1)) 1 = some m2) :
    Calls Try.prog 5 #[.agg #[.slice A0_0 l0_0.length c0_0, .slice A0_1 l0_1.length c0_1]] w fun e w' => e = .returned (.bool true) ∧ Below w.heap.size w w' := by
  have HR0_0 := Aside0.mk hr0_0
  have HC0_0 := Aside0.mk hc0_0
  clear hr0_0 hc0_0
  have HR0_1 := Aside0.mk hr0_1
  have HC0_1 := Aside0.mk hc0_1
  clear hr0_1 hc0_1
  have HB := Aside0.mk (Below.refl w.heap.size w)
  have H1' := Aside0.mk h1
  clear h1
  have H3' := Aside0.mk h3
  clear h3
  have H4' := Aside0.mk h4
  clear h4
  have H5' := Aside0.mk h5
  clear h5
  have H6' := Aside0.mk h6
  clear h6
  have H7' := Aside0.mk h7
  clear h7
  have H8' := Aside0.mk h8
  clear h8
  have H9' := Aside0.mk h9
  clear h9
  have H10' := Aside0.mk h10
  clear h10
  have H11' := Aside0.mk h11
  clear h11
  have H13' := Aside0.mk h13
  clear h13
  have H14' := Aside0.mk h14
  clear h14
  have H15' := Aside0.mk h15
  clear h15
  have H17' := Aside0.mk h17
  clear h17
  go_enter Try.func5, Try.ntmps5
  go_wp2_with (first | ((with_reducible refine gate_dst (N := 1) rfl ?_); refine box_event ?hg (N := 1) ?hd (cs := #[.slice A0_0 l0_0.length c0_0, .slice A0_1 l0_1.length c0_1]) (t := 24) ?hr ?_; (case hd => rfl); (case hg => rfl); (case hr => first | (go_simp; done) | (go_simp; rfl)); intro g1 hg w1 hbox hb; have Gg1 : Aside0 (g1 = w.heap.size) := ⟨hg⟩; have Kg1 := Aside0.mk (blk_lt hbox); clear hg; have n_HB := Aside0.mk (below_step HB.out hb); have NN1 : Aside0 (w.heap.size ≤ w1.heap.size) := ⟨hb.size⟩; clear HB; have HB := n_HB; clear n_HB; have Bg1 := Aside0.mk hbox; clear hb hbox; have hc1_0 : w1.cell? ⟨g1, 0, none⟩ = some (.slice A0_0 l0_0.length c0_0) := (blk_cell Bg1.out 0).trans rfl; have hf1_0 := blk_frozen Bg1.out 0; have hc1_1 : w1.cell? ⟨g1, 1, none⟩ = some (.slice A0_1 l0_1.length c0_1) := (blk_cell Bg1.out 1).trans rfl; have hf1_1 := blk_frozen Bg1.out 1) | ((with_reducible refine gate_callee (f := 15) rfl ?_); refine goesL_ (some 16) rfl rfl Try.func15 (by kernel_rfl) rfl #[.agg #[.slice A0_0 l0_0.length c0_0, .slice A0_1 l0_1.length c0_1], .int .i64 1048576] rfl (by (try simp only [List.map_toArray, List.map_cons, List.map_nil]); first | done | rfl) ?_; refine (laws_szGame.calls k _ _ l0_0 _ _ l0_1 1048576 t16 _ ?s1 ?s2 ?s3 ?s4 H1'.out).mono ?_; (case s1 => exact Kd.C_below HR0_0.out HB.out); (case s2 => exact HC0_0.out); (case s3 => exact Kd.C_below HR0_1.out HB.out); (case s4 => exact HC0_1.out); rintro e w2 ⟨rfl, hb⟩; refine ⟨_, rfl, ?_⟩; have n_Bg1 := Aside0.mk (blk_below Bg1.out hb); have n_HB := Aside0.mk (below_step HB.out hb); have NN2 : Aside0 (w1.heap.size ≤ w2.heap.size) := ⟨hb.size⟩; clear hc1_0 hf1_0; clear hc1_1 hf1_1; clear Bg1 HB; have Bg1 := n_Bg1; have HB := n_HB; clear n_Bg1 n_HB; clear hb; have hc1_0 : w2.cell? ⟨g1, 0, none⟩ = some (.slice A0_0 l0_0.length c0_0) := (blk_cell Bg1.out 0).trans rfl; have hf1_0 := blk_frozen Bg1.out 0; have hc1_1 : w2.cell? ⟨g1, 1, none⟩ = some (.slice A0_1 l0_1.length c0_1) := (blk_cell Bg1.out 1).trans rfl; have hf1_1 := blk_frozen Bg1.out 1) | ((with_reducible refine gate_callee (f := 17) rfl ?_); refine goesL_ (some 21) rfl rfl Try.func17 (by kernel_rfl) rfl #[.agg #[.slice A0_0 l0_0.length c0_0, .slice A0_1 l0_1.length c0_1]] rfl (by (try simp only [List.map_toArray, List.map_cons, List.map_nil]); first | done | rfl) ?_; refine (laws_toGame2.calls k _ _ l0_0 _ _ l0_1 _ ?s1 ?s2 ?s3 ?s4 H3'.out).mono ?_; (case s1 => exact Kd.C_below HR0_0.out HB.out); (case s2 => exact HC0_0.out); (case s3 => exact Kd.C_below HR0_1.out HB.out); (case s4 => exact HC0_1.out); rintro e w3 ⟨v21_0, v21_1, rfl, ho0, hb⟩; refine ⟨_, rfl, ?_⟩; have nu0 := Aside0.mk (UG.of ho0 HB.out.size); have n_Bg1 := Aside0.mk (blk_below Bg1.out hb); have n_HB := Aside0.mk (below_step HB.out hb); have NN3 : Aside0 (w2.heap.size ≤ w3.heap.size) := ⟨hb.size⟩; clear hc1_0 hf1_0; clear hc1_1 hf1_1; clear Bg1 HB; have Bg1 := n_Bg1; have HB := n_HB; clear n_Bg1 n_HB; clear hb ho0; have U21 := nu0; clear nu0; obtain ⟨A21_0, c21_0, A21_1, c21_1, e0, e1⟩ := U21.out.slices; subst e0; subst e1; have hc1_0 : w3.cell? ⟨g1, 0, none⟩ = some (.slice A0_0 l0_0.length c0_0) := (blk_cell Bg1.out 0).trans rfl; have hf1_0 := blk_frozen Bg1.out 0; have hc1_1 : w3.cell? ⟨g1, 1, none⟩ = some (.slice A0_1 l0_1.length c0_1) := (blk_cell Bg1.out 1).trans rfl; have hf1_1 := blk_frozen Bg1.out 1) | ((with_reducible refine gate_callee (f := 27) rfl ?_); refine goesL_ (some 22) rfl rfl Try.func27 (by kernel_rfl) rfl #[.agg #[.slice A21_0 l0_0.length c21_0, .slice A21_1 l0_1.length c21_1]] rfl (by (try simp only [List.map_toArray, List.map_cons, List.map_nil]); first | done | rfl) ?_; refine (spec_PureEquilibria.calls k _ _ l0_0 _ _ l0_1 s0 s1 _ ?s1 ?s2 ?s3 ?s4 H4'.out).mono ?_; (case s1 => exact U21.out.C0); (case s2 => exact U21.out.cap0); (case s3 => exact U21.out.C1); (case s4 => exact U21.out.cap1); rintro e w4 ⟨v22_0, rfl, ho0, hb⟩; refine ⟨_, rfl, ?_⟩; have nu0 := Aside0.mk (US.of ho0 HB.out.size); have n_U21 := Aside0.mk (U21.out.mvB (Frm.below hb)); have n_Bg1 := Aside0.mk (blk_below Bg1.out hb); have n_HB := Aside0.mk (below_step HB.out hb); have NN4 : Aside0 (w3.heap.size ≤ w4.heap.size) := ⟨hb.size⟩; clear hc1_0 hf1_0; clear hc1_1 hf1_1; clear U21 Bg1 HB; have U21 := n_U21; have Bg1 := n_Bg1; have HB := n_HB; clear n_U21 n_Bg1 n_HB; clear hb ho0; have U22_0 := nu0; clear nu0; obtain ⟨A22_0, c22_0, e0⟩ := Kd.S_slice U22_0.out; subst e0; have hc1_0 : w4.cell? ⟨g1, 0, none⟩ = some (.slice A0_0 l0_0.length c0_0) := (blk_cell Bg1.out 0).trans rfl; have hf1_0 := blk_frozen Bg1.out 0; have hc1_1 : w4.cell? ⟨g1, 1, none⟩ = some (.slice A0_1 l0_1.length c0_1) := (blk_cell Bg1.out 1).trans rfl; have hf1_1 := blk_frozen Bg1.out 1) | ((with_reducible refine gate_callee (f := 17) rfl ?_); refine goesL_ (some 26) rfl rfl Try.func17 (by kernel_rfl) rfl #[.agg #[.slice A0_0 l0_0.length c0_0, .slice A0_1 l0_1.length c0_1]] rfl (by (try simp only [List.map_toArray, List.map_cons, List.map_nil]); first | done | rfl) ?_; refine (laws_toGame2.calls k _ _ l0_0 _ _ l0_1 _ ?s1 ?s2 ?s3 ?s4 H3'.out).mono ?_; (case s1 => exact Kd.C_below HR0_0.out HB.out); (case s2 => exact HC0_0.out); (case s3 => exact Kd.C_below HR0_1.out HB.out); (case s4 => exact HC0_1.out); rintro e w5 ⟨v26_0, v26_1, rfl, ho0, hb⟩; refine ⟨_, rfl, ?_⟩; have nu0 := Aside0.mk (UG.of ho0 HB.out.size); have n_U21 := Aside0.mk (U21.out.mvB (Frm.below hb)); have n_U22_0 := Aside0.mk (U22_0.out.mvB (Frm.below hb)); have n_Bg1 := Aside0.mk (blk_below Bg1.out hb); have n_HB := Aside0.mk (below_step HB.out hb); have NN5 : Aside0 (w4.heap.size ≤ w5.heap.size) := ⟨hb.size⟩; clear hc1_0 hf1_0; clear hc1_1 hf1_1; clear U21 U22_0 Bg1 HB; have U21 := n_U21; have U22_0 := n_U22_0; have Bg1 := n_Bg1; have HB := n_HB; clear n_U21 n_U22_0 n_Bg1 n_HB; clear hb ho0; have U26 := nu0; clear nu0; obtain ⟨A26_0, c26_0, A26_1, c26_1, e0, e1⟩ := U26.out.slices; subst e0; subst e1; have hc1_0 : w5.cell? ⟨g1, 0, none⟩ = some (.slice A0_0 l0_0.length c0_0) := (blk_cell Bg1.out 0).trans rfl; have hf1_0 := blk_frozen Bg1.out 0; have hc1_1 : w5.cell? ⟨g1, 1, none⟩ = some (.slice A0_1 l0_1.length c0_1) := (blk_cell Bg1.out 1).trans rfl; have hf1_1 := blk_frozen Bg1.out 1) | ((with_reducible refine gate_dst (N := 6) rfl ?_); refine box_event ?hg (N := 6) ?hd (cs := #[.slice none 0 0, .slice none 0 0]) (t := 26) ?hr ?_; (case hd => rfl); (case hg => rfl); (case hr => first | (go_simp; done) | (go_simp; rfl)); intro g6 hg w6 hbox hb; have Gg6 : Aside0 (g6 = w5.heap.size) := ⟨hg⟩; have Kg6 := Aside0.mk (blk_lt hbox); clear hg; have n_U21 := Aside0.mk (U21.out.mvB (Frm.below hb)); have n_U22_0 := Aside0.mk (U22_0.out.mvB (Frm.below hb)); have n_U26 := Aside0.mk (U26.out.mvB (Frm.below hb)); have n_Bg1 := Aside0.mk (blk_below Bg1.out hb); have n_HB := Aside0.mk (below_step HB.out hb); have NN6 : Aside0 (w5.heap.size ≤ w6.heap.size) := ⟨hb.size⟩; clear hc1_0 hf1_0; clear hc1_1 hf1_1; clear U21 U22_0 U26 Bg1 HB; have U21 := n_U21; have U22_0 := n_U22_0; have U26 := n_U26; have Bg1 := n_Bg1; have HB := n_HB; clear n_U21 n_U22_0 n_U26 n_Bg1 n_HB; have Bg6 := Aside0.mk hbox; clear hb hbox; have hc1_0 : w6.cell? ⟨g1, 0, none⟩ = some (.slice A0_0 l0_0.length c0_0) := (blk_cell Bg1.out 0).trans rfl; have hf1_0 := blk_frozen Bg1.out 0; have hc1_1 : w6.cell? ⟨g1, 1, none⟩ = some (.slice A0_1 l0_1.length c0_1) := (blk_cell Bg1.out 1).trans rfl; have hf1_1 := blk_frozen Bg1.out 1; have hc6_0 : w6.cell? ⟨g6, 0, none⟩ = some (.slice none 0 0) := (blk_cell Bg6.out 0).trans rfl; have hf6_0 := blk_frozen Bg6.out 0; have hc6_1 : w6.cell? ⟨g6, 1, none⟩ = some (.slice none 0 0) := (blk_cell Bg6.out 1).trans rfl; have hf6_1 := blk_frozen Bg6.out 1) | ((with_reducible refine gate_store (t := 26) (p := 6) rfl ?_); refine store_event (t := 26) (p := 6) (v := ?vo_w7) (w1 := ((w6.setCell ⟨g6, 0, none⟩ (.slice A26_0 l0_0.length c26_0)).setCell ⟨g6, 1, none⟩ (.slice A26_1 l0_1.length c26_1))) ?hg ?ho ?hn ?hr ?_; (case ho => rfl); (case hg => rfl); (case hn => rfl); (case hr => first | (go_simp; done) | (go_simp; rfl)); intro w7 hw; have hge : w.heap.size ≤ g6 := (by have := NN1.out; have := Gg1.out; have := Kg1.out; have := NN2.out; have := NN3.out; have := NN4.out; have := NN5.out; have := NN6.out; have := Gg6.out; have := Kg6.out; have := HB.out.size; omega); have hF : Frm w6 w7 g6 (g6 + 1) := (by rw [hw]; exact (Frm.trans (Frm.set _ _ _ _) (Frm.set _ _ _ _))); have nb := Aside0.mk (show w7.heap[g6]? = some (.cells #[.slice A26_0 l0_0.length c26_0, .slice A26_1 l0_1.length c26_1] 26 (0, 0)) from (by rw [hw]; exact (blk_put (blk_put Bg6.out 0 _ rfl) 1 _ rfl))); have n_U21 := Aside0.mk (U21.out.mv hF (by have := NN1.out; have := Gg1.out; have := Kg1.out; have := NN2.out; have := NN3.out; have := NN4.out; have := NN5.out; have := NN6.out; have := Gg6.out; have := Kg6.out; omega)); have n_U22_0 := Aside0.mk (U22_0.out.mv hF (by have := NN1.out; have := Gg1.out; have := Kg1.out; have := NN2.out; have := NN3.out; have := NN4.out; have := NN5.out; have := NN6.out; have := Gg6.out; have := Kg6.out; omega)); have n_U26 := Aside0.mk (U26.out.mv hF (by have := NN1.out; have := Gg1.out; have := Kg1.out; have := NN2.out; have := NN3.out; have := NN4.out; have := NN5.out; have := NN6.out; have := Gg6.out; have := Kg6.out; omega)); have n_Bg1 := Aside0.mk ((hF.same g1 (blk_lt Bg1.out) (by have := NN1.out; have := Gg1.out; have := Kg1.out; have := NN2.out; have := NN3.out; have := NN4.out; have := NN5.out; have := NN6.out; have := Gg6.out; have := Kg6.out; omega)).trans Bg1.out); have n_HB := Aside0.mk ((by rw [hw]; exact (below_set (below_set HB.out hge) hge) : Below w.heap.size w w7)); have NN7 : Aside0 (w6.heap.size ≤ w7.heap.size) := ⟨hF.size⟩; clear hc1_0 hf1_0; clear hc1_1 hf1_1; clear hc6_0 hf6_0; clear hc6_1 hf6_1; clear U21 U22_0 U26 Bg1 HB; have U21 := n_U21; have U22_0 := n_U22_0; have U26 := n_U26; have Bg1 := n_Bg1; have HB := n_HB; clear n_U21 n_U22_0 n_U26 n_Bg1 n_HB; clear Bg6; have Bg6 := nb; clear nb hF hge hw; have hc1_0 : w7.cell? ⟨g1, 0, none⟩ = some (.slice A0_0 l0_0.length c0_0) := (blk_cell Bg1.out 0).trans rfl; have hf1_0 := blk_frozen Bg1.out 0; have hc1_1 : w7.cell? ⟨g1, 1, none⟩ = some (.slice A0_1 l0_1.length c0_1) := (blk_cell Bg1.out 1).trans rfl; have hf1_1 := blk_frozen Bg1.out 1; have hc6_0 : w7.cell? ⟨g6, 0, none⟩ = some (.slice A26_0 l0_0.length c26_0) := (blk_cell Bg6.out 0).trans rfl; have hf6_0 := blk_frozen Bg6.out 0; have hc6_1 : w7.cell? ⟨g6, 1, none⟩ = some (.slice A26_1 l0_1.length c26_1) := (blk_cell Bg6.out 1).trans rfl; have hf6_1 := blk_frozen Bg6.out 1) | ((with_reducible refine gate_callee (f := 28) rfl ?_); refine goesL_ (some 29) rfl rfl Try.func28 (by kernel_rfl) rfl #[.agg #[.slice A26_0 l0_0.length c26_0, .slice A26_1 l0_1.length c26_1]] rfl (by (try simp only [List.map_toArray, List.map_cons, List.map_nil]); first | done | rfl) ?_; refine (impl_PureEquilibria.calls k _ _ l0_0 _ _ l0_1 s0 s1 _ ?s1 ?s2 ?s3 ?s4 H5'.out).mono ?_; (case s1 => exact U26.out.C0); (case s2 => exact U26.out.cap0); (case s3 => exact U26.out.C1); (case s4 => exact U26.out.cap1); rintro e w8 ⟨v29_0, rfl, ho0, hb⟩; refine ⟨_, rfl, ?_⟩; have nu0 := Aside0.mk (US.of ho0 HB.out.size); have n_U21 := Aside0.mk (U21.out.mvB (Frm.below hb)); have n_U22_0 := Aside0.mk (U22_0.out.mvB (Frm.below hb)); have n_U26 := Aside0.mk (U26.out.mvB (Frm.below hb)); have n_Bg1 := Aside0.mk (blk_below Bg1.out hb); have n_Bg6 := Aside0.mk (blk_below Bg6.out hb); have n_HB := Aside0.mk (below_step HB.out hb); have NN8 : Aside0 (w7.heap.size ≤ w8.heap.size) := ⟨hb.size⟩; clear hc1_0 hf1_0; clear hc1_1 hf1_1; clear hc6_0 hf6_0; clear hc6_1 hf6_1; clear U21 U22_0 U26 Bg1 Bg6 HB; have U21 := n_U21; have U22_0 := n_U22_0; have U26 := n_U26; have Bg1 := n_Bg1; have Bg6 := n_Bg6; have HB := n_HB; clear n_U21 n_U22_0 n_U26 n_Bg1 n_Bg6 n_HB; clear hb ho0; have U29_0 := nu0; clear nu0; obtain ⟨A29_0, c29_0, e0⟩ := Kd.S_slice U29_0.out; subst e0; have hc1_0 : w8.cell? ⟨g1, 0, none⟩ = some (.slice A0_0 l0_0.length c0_0) := (blk_cell Bg1.out 0).trans rfl; have hf1_0 := blk_frozen Bg1.out 0; have hc1_1 : w8.cell? ⟨g1, 1, none⟩ = some (.slice A0_1 l0_1.length c0_1) := (blk_cell Bg1.out 1).trans rfl; have hf1_1 := blk_frozen Bg1.out 1; have hc6_0 : w8.cell? ⟨g6, 0, none⟩ = some (.slice A26_0 l0_0.length c26_0) := (blk_cell Bg6.out 0).trans rfl; have hf6_0 := blk_frozen Bg6.out 0; have hc6_1 : w8.cell? ⟨g6, 1, none⟩ = some (.slice A26_1 l0_1.length c26_1) := (blk_cell Bg6.out 1).trans rfl; have hf6_1 := blk_frozen Bg6.out 1) | ((with_reducible refine gate_callee (f := 29) rfl ?_); refine goesL_ (some 34) rfl rfl Try.func29 (by kernel_rfl) rfl #[.slice A29_0 s0.length c29_0, .slice A22_0 s0.length c22_0] rfl (by (try simp only [List.map_toArray, List.map_cons, List.map_nil]); first | done | rfl) ?_; refine (laws_eqInt64SS.calls k _ _ s0 _ _ s0 true _ ?s1 ?s2 ?s3 ?s4 H6'.out).mono ?_; (case s1 => exact US.C U29_0.out); (case s2 => exact US.cap U29_0.out); (case s3 => exact US.C U22_0.out); (case s4 => exact US.cap U22_0.out); rintro e w9 ⟨rfl, hb⟩; refine ⟨_, rfl, ?_⟩; have hb := hb.below; have n_U21 := Aside0.mk (U21.out.mvB (Frm.below hb)); have n_U22_0 := Aside0.mk (U22_0.out.mvB (Frm.below hb)); have n_U26 := Aside0.mk (U26.out.mvB (Frm.below hb)); have n_U29_0 := Aside0.mk (U29_0.out.mvB (Frm.below hb)); have n_Bg1 := Aside0.mk (blk_below Bg1.out hb); have n_Bg6 := Aside0.mk (blk_below Bg6.out hb); have n_HB := Aside0.mk (below_step HB.out hb); have NN9 : Aside0 (w8.heap.size ≤ w9.heap.size) := ⟨hb.size⟩; clear hc1_0 hf1_0; clear hc1_1 hf1_1; clear hc6_0 hf6_0; clear hc6_1 hf6_1; clear U21 U22_0 U26 U29_0 Bg1 Bg6 HB; have U21 := n_U21; have U22_0 := n_U22_0; have U26 := n_U26; have U29_0 := n_U29_0; have Bg1 := n_Bg1; have Bg6 := n_Bg6; have HB := n_HB; clear n_U21 n_U22_0 n_U26 n_U29_0 n_Bg1 n_Bg6 n_HB; clear hb; have hc1_0 : w9.cell? ⟨g1, 0, none⟩ = some (.slice A0_0 l0_0.length c0_0) := (blk_cell Bg1.out 0).trans rfl; have hf1_0 := blk_frozen Bg1.out 0; have hc1_1 : w9.cell? ⟨g1, 1, none⟩ = some (.slice A0_1 l0_1.length c0_1) := (blk_cell Bg1.out 1).trans rfl; have hf1_1 := blk_frozen Bg1.out 1; have hc6_0 : w9.cell? ⟨g6, 0, none⟩ = some (.slice A26_0 l0_0.length c26_0) := (blk_cell Bg6.out 0).trans rfl; have hf6_0 := blk_frozen Bg6.out 0; have hc6_1 : w9.cell? ⟨g6, 1, none⟩ = some (.slice A26_1 l0_1.length c26_1) := (blk_cell Bg6.out 1).trans rfl; have hf6_1 := blk_frozen Bg6.out 1))
  try go_wp2
  have hb : Below w9.heap.size w9 w9.drew := (Below.refl _ _).drew
  have n_U21 := Aside0.mk (U21.out.mvB (Frm.below hb))
  have n_U22_0 := Aside0.mk (U22_0.out.mvB (Frm.below hb))
  have n_U26 := Aside0.mk (U26.out.mvB (Frm.below hb))
  have n_U29_0 := Aside0.mk (U29_0.out.mvB (Frm.below hb))
  have n_Bg1 := Aside0.mk (blk_below Bg1.out hb)
  have n_Bg6 := Aside0.mk (blk_below Bg6.out hb)
  have n_HB := Aside0.mk (below_step HB.out hb)
  have NN10 : Aside0 (w9.heap.size ≤ w9.drew.heap.size) := ⟨hb.size⟩
  clear hc1_0 hf1_0
  clear hc1_1 hf1_1
  clear hc6_0 hf6_0
  clear hc6_1 hf6_1
  clear U21 U22_0 U26 U29_0 Bg1 Bg6 HB
  have U21 := n_U21
  have U22_0 := n_U22_0
  have U26 := n_U26
  have U29_0 := n_U29_0
  have Bg1 := n_Bg1
  have Bg6 := n_Bg6
  have HB := n_HB
  clear n_U21 n_U22_0 n_U26 n_U29_0 n_Bg1 n_Bg6 n_HB
  clear hb
  refine start_ (n := 5) (S := fun w' => w'.cell? ⟨g6, 0, none⟩ = some (.slice A26_0 l0_0.length c26_0) ∧ w'.cell? ⟨g6, 1, none⟩ = some (.slice A26_1 l0_1.length c26_1) ∧ w'.cell? ⟨g1, 0, none⟩ = some (.slice A0_0 l0_0.length c0_0) ∧ w'.cell? ⟨g1, 1, none⟩ = some (.slice A0_1 l0_1.length c0_1)) (ds := []) #[false, false, false, false, false] (by kernel_rfl) rfl rfl ⟨(blk_cell Bg6.out 0).trans rfl, (blk_cell Bg6.out 1).trans rfl, (blk_cell Bg1.out 0).trans rfl, (blk_cell Bg1.out 1).trans rfl⟩ (fun hHeld => ?_)
  generalize w9.drew = w10 at U21 U22_0 U26 U29_0 Bg1 Bg6 HB NN10 hHeld ⊢
  have hc1_0 : w10.cell? ⟨g1, 0, none⟩ = some (.slice A0_0 l0_0.length c0_0) := (blk_cell Bg1.out 0).trans rfl
  have hf1_0 := blk_frozen Bg1.out 0
  have hc1_1 : w10.cell? ⟨g1, 1, none⟩ = some (.slice A0_1 l0_1.length c0_1) := (blk_cell Bg1.out 1).trans rfl
  have hf1_1 := blk_frozen Bg1.out 1
  have hc6_0 : w10.cell? ⟨g6, 0, none⟩ = some (.slice A26_0 l0_0.length c26_0) := (blk_cell Bg6.out 0).trans rfl
  have hf6_0 := blk_frozen Bg6.out 0
  have hc6_1 : w10.cell? ⟨g6, 1, none⟩ = some (.slice A26_1 l0_1.length c26_1) := (blk_cell Bg6.out 1).trans rfl
  have hf6_1 := blk_frozen Bg6.out 1
  refine take_ (i := 0) (N := some 41) (v := ?_) (a' := ?_) #[true, false, false, false, false] rfl rfl (by kernel_rfl) (fun _ _ _ h => h) (Or.inl ⟨by rfl, ?_⟩) hHeld ?_ ?_
  rotate_left
  · rintro w' ⟨s0, s1, s2, s3⟩
    go_simp
    with_reducible rfl
  rotate_left
  · simp only [Act.put, List.setIfInBounds_toArray, List.set_cons_zero, List.set_cons_succ, i64_w, i32_w]
    rfl
  refine take_ (i := 1) (N := some 42) (v := ?_) (a' := ?_) #[true, true, false, false, false] rfl rfl (by kernel_rfl) (fun _ _ _ h => h) (Or.inl ⟨by rfl, ?_⟩) hHeld ?_ ?_
  rotate_left
  · rintro w' ⟨s0, s1, s2, s3⟩
    go_simp
    with_reducible rfl
  rotate_left
  · simp only [Act.put, List.setIfInBounds_toArray, List.set_cons_zero, List.set_cons_succ, i64_w, i32_w]
    rfl
  refine one_ (i := 2) (N := some 43) #[true, true, true, false, false] rfl rfl (by kernel_rfl) (by decide) (fun K hK => ?_)
  refine goes_ Try.func17 (by kernel_rfl) rfl #[.agg #[.slice A0_0 l0_0.length c0_0, .slice A0_1 l0_1.length c0_1]] (by rfl) rfl rfl (by (try simp only [List.map_toArray, List.map_cons, List.map_nil]); first | done | rfl) ?_
  (refine (laws_toGame2.calls k _ _ l0_0 _ _ l0_1 _ ?s1 ?s2 ?s3 ?s4 H3'.out).mono ?_; (case s1 => exact Kd.C_below HR0_0.out HB.out); (case s2 => exact HC0_0.out); (case s3 => exact Kd.C_below HR0_1.out HB.out); (case s4 => exact HC0_1.out); rintro e w11 ⟨v43_0, v43_1, rfl, ho0, hb⟩; refine ⟨_, rfl, ?_⟩; have nu0 := Aside0.mk (UG.of ho0 HB.out.size); have n_U21 := Aside0.mk (U21.out.mvB (Frm.below hb)); have n_U22_0 := Aside0.mk (U22_0.out.mvB (Frm.below hb)); have n_U26 := Aside0.mk (U26.out.mvB (Frm.below hb)); have n_U29_0 := Aside0.mk (U29_0.out.mvB (Frm.below hb)); have n_Bg1 := Aside0.mk (blk_below Bg1.out hb); have n_Bg6 := Aside0.mk (blk_below Bg6.out hb); have n_HB := Aside0.mk (below_step HB.out hb); have NN11 : Aside0 (w10.heap.size ≤ w11.heap.size) := ⟨hb.size⟩; clear hc1_0 hf1_0; clear hc1_1 hf1_1; clear hc6_0 hf6_0; clear hc6_1 hf6_1; clear U21 U22_0 U26 U29_0 Bg1 Bg6 HB; have U21 := n_U21; have U22_0 := n_U22_0; have U26 := n_U26; have U29_0 := n_U29_0; have Bg1 := n_Bg1; have Bg6 := n_Bg6; have HB := n_HB; clear n_U21 n_U22_0 n_U26 n_U29_0 n_Bg1 n_Bg6 n_HB; clear hb ho0; have U43 := nu0; clear nu0; obtain ⟨A43_0, c43_0, A43_1, c43_1, e0, e1⟩ := U43.out.slices; subst e0; subst e1; have hc1_0 : w11.cell? ⟨g1, 0, none⟩ = some (.slice A0_0 l0_0.length c0_0) := (blk_cell Bg1.out 0).trans rfl; have hf1_0 := blk_frozen Bg1.out 0; have hc1_1 : w11.cell? ⟨g1, 1, none⟩ = some (.slice A0_1 l0_1.length c0_1) := (blk_cell Bg1.out 1).trans rfl; have hf1_1 := blk_frozen Bg1.out 1; have hc6_0 : w11.cell? ⟨g6, 0, none⟩ = some (.slice A26_0 l0_0.length c26_0) := (blk_cell Bg6.out 0).trans rfl; have hf6_0 := blk_frozen Bg6.out 0; have hc6_1 : w11.cell? ⟨g6, 1, none⟩ = some (.slice A26_1 l0_1.length c26_1) := (blk_cell Bg6.out 1).trans rfl; have hf6_1 := blk_frozen Bg6.out 1)
  refine hK.out _ _ ⟨(blk_cell Bg6.out 0).trans rfl, (blk_cell Bg6.out 1).trans rfl, (blk_cell Bg1.out 0).trans rfl, (blk_cell Bg1.out 1).trans rfl⟩ (fun hHeld => ?_)
  clear hK K
  refine norm_ (a' := ?_) ?_ ?_
  rotate_left
  · show Act.put _ (some 43) _ = _
    simp only [Act.put, List.setIfInBounds_toArray, List.set_cons_zero, List.set_cons_succ, i64_w, i32_w]
    rfl
  refine one_ (i := 3) (N := some 44) #[true, true, true, true, false] rfl rfl (by kernel_rfl) (by decide) (fun K hK => ?_)
  refine goes_ Try.func19 (by kernel_rfl) rfl #[.agg #[.slice A26_0 l0_0.length c26_0, .slice A26_1 l0_1.length c26_1], .agg #[.slice A43_0 l0_0.length c43_0, .slice A43_1 l0_1.length c43_1]] (by rfl) rfl rfl (by (try simp only [List.map_toArray, List.map_cons, List.map_nil]); first | done | rfl) ?_
  (refine (laws_eqGame.calls k _ _ l0_0 _ _ l0_1 _ _ l0_0 _ _ l0_1 true _ ?s1 ?s2 ?s3 ?s4 ?s5 ?s6 ?s7 ?s8 H7'.out).mono ?_; (case s1 => exact U26.out.C0); (case s2 => exact U26.out.cap0); (case s3 => exact U26.out.C1); (case s4 => exact U26.out.cap1); (case s5 => exact U43.out.C0); (case s6 => exact U43.out.cap0); (case s7 => exact U43.out.C1); (case s8 => exact U43.out.cap1); rintro e w12 ⟨rfl, hb⟩; refine ⟨_, rfl, ?_⟩; have n_U21 := Aside0.mk (U21.out.mvB (Frm.below hb)); have n_U22_0 := Aside0.mk (U22_0.out.mvB (Frm.below hb)); have n_U26 := Aside0.mk (U26.out.mvB (Frm.below hb)); have n_U29_0 := Aside0.mk (U29_0.out.mvB (Frm.below hb)); have n_U43 := Aside0.mk (U43.out.mvB (Frm.below hb)); have n_Bg1 := Aside0.mk (blk_below Bg1.out hb); have n_Bg6 := Aside0.mk (blk_below Bg6.out hb); have n_HB := Aside0.mk (below_step HB.out hb); have NN12 : Aside0 (w11.heap.size ≤ w12.heap.size) := ⟨hb.size⟩; clear hc1_0 hf1_0; clear hc1_1 hf1_1; clear hc6_0 hf6_0; clear hc6_1 hf6_1; clear U21 U22_0 U26 U29_0 U43 Bg1 Bg6 HB; have U21 := n_U21; have U22_0 := n_U22_0; have U26 := n_U26; have U29_0 := n_U29_0; have U43 := n_U43; have Bg1 := n_Bg1; have Bg6 := n_Bg6; have HB := n_HB; clear n_U21 n_U22_0 n_U26 n_U29_0 n_U43 n_Bg1 n_Bg6 n_HB; clear hb; have hc1_0 : w12.cell? ⟨g1, 0, none⟩ = some (.slice A0_0 l0_0.length c0_0) := (blk_cell Bg1.out 0).trans rfl; have hf1_0 := blk_frozen Bg1.out 0; have hc1_1 : w12.cell? ⟨g1, 1, none⟩ = some (.slice A0_1 l0_1.length c0_1) := (blk_cell Bg1.out 1).trans rfl; have hf1_1 := blk_frozen Bg1.out 1; have hc6_0 : w12.cell? ⟨g6, 0, none⟩ = some (.slice A26_0 l0_0.length c26_0) := (blk_cell Bg6.out 0).trans rfl; have hf6_0 := blk_frozen Bg6.out 0; have hc6_1 : w12.cell? ⟨g6, 1, none⟩ = some (.slice A26_1 l0_1.length c26_1) := (blk_cell Bg6.out 1).trans rfl; have hf6_1 := blk_frozen Bg6.out 1)
  refine hK.out _ _ ⟨(blk_cell Bg6.out 0).trans rfl, (blk_cell Bg6.out 1).trans rfl, (blk_cell Bg1.out 0).trans rfl, (blk_cell Bg1.out 1).trans rfl⟩ (fun hHeld => ?_)
  clear hK K
  refine norm_ (a' := ?_) ?_ ?_
  rotate_left
  · show Act.put _ (some 44) _ = _
    simp only [Act.put, List.setIfInBounds_toArray, List.set_cons_zero, List.set_cons_succ, i64_w, i32_w]
    rfl
  refine pure_ (i := 4) (N := some 45) (v := ?_) (a' := ?_) #[true, true, true, true, true] rfl rfl (by kernel_rfl) (fun _ _ _ h => h) (Or.inl ⟨by rfl, ?_⟩) ?_ ?_
  rotate_left
  · intro w'
    go_simp
    with_reducible rfl
  rotate_left
  · simp only [Act.put, List.setIfInBounds_toArray, List.set_cons_zero, List.set_cons_succ, i64_w, i32_w]
    rfl
  refine done_ (by kernel_rfl) ?_
  go_wp2_with (first | ((with_reducible refine gate_callee (f := 20) rfl ?_); refine goesL_ (some 48) rfl rfl Try.func20 (by kernel_rfl) rfl #[.agg #[.slice A26_0 l0_0.length c26_0, .slice A26_1 l0_1.length c26_1], .int .i64 1] rfl (by (try simp only [List.map_toArray, List.map_cons, List.map_nil]); first | done | rfl) ?_; refine (mark_UG A26_0 c26_0 A26_1 c26_1 l0_0 l0_1 1 m1 HB.out U26.out (by decide) H9'.out H10'.out H11'.out H8'.out (by have := NN1.out; have := Gg1.out; have := Kg1.out; have := NN2.out; have := NN3.out; have := NN4.out; have := NN5.out; have := NN6.out; have := Gg6.out; have := Kg6.out; have := NN7.out; have := NN8.out; have := NN9.out; have := NN10.out; have := NN11.out; have := NN12.out; omega)).mono ?_; rintro e w13 ⟨rfl, hU, hB', hF⟩; refine ⟨_, rfl, ?_⟩; have nu := Aside0.mk hU; have n_U21 := Aside0.mk (U21.out.mv hF (by have := NN1.out; have := Gg1.out; have := Kg1.out; have := NN2.out; have := NN3.out; have := NN4.out; have := NN5.out; have := NN6.out; have := Gg6.out; have := Kg6.out; have := NN7.out; have := NN8.out; have := NN9.out; have := NN10.out; have := NN11.out; have := NN12.out; omega)); have n_U22_0 := Aside0.mk (U22_0.out.mv hF (by have := NN1.out; have := Gg1.out; have := Kg1.out; have := NN2.out; have := NN3.out; have := NN4.out; have := NN5.out; have := NN6.out; have := Gg6.out; have := Kg6.out; have := NN7.out; have := NN8.out; have := NN9.out; have := NN10.out; have := NN11.out; have := NN12.out; omega)); have n_U29_0 := Aside0.mk (U29_0.out.mv hF (by have := NN1.out; have := Gg1.out; have := Kg1.out; have := NN2.out; have := NN3.out; have := NN4.out; have := NN5.out; have := NN6.out; have := Gg6.out; have := Kg6.out; have := NN7.out; have := NN8.out; have := NN9.out; have := NN10.out; have := NN11.out; have := NN12.out; omega)); have n_U43 := Aside0.mk (U43.out.mv hF (by have := NN1.out; have := Gg1.out; have := Kg1.out; have := NN2.out; have := NN3.out; have := NN4.out; have := NN5.out; have := NN6.out; have := Gg6.out; have := Kg6.out; have := NN7.out; have := NN8.out; have := NN9.out; have := NN10.out; have := NN11.out; have := NN12.out; omega)); have n_Bg1 := Aside0.mk ((hF.same g1 (blk_lt Bg1.out) (by have := NN1.out; have := Gg1.out; have := Kg1.out; have := NN2.out; have := NN3.out; have := NN4.out; have := NN5.out; have := NN6.out; have := Gg6.out; have := Kg6.out; have := NN7.out; have := NN8.out; have := NN9.out; have := NN10.out; have := NN11.out; have := NN12.out; omega)).trans Bg1.out); have n_Bg6 := Aside0.mk ((hF.same g6 (blk_lt Bg6.out) (by have := NN1.out; have := Gg1.out; have := Kg1.out; have := NN2.out; have := NN3.out; have := NN4.out; have := NN5.out; have := NN6.out; have := Gg6.out; have := Kg6.out; have := NN7.out; have := NN8.out; have := NN9.out; have := NN10.out; have := NN11.out; have := NN12.out; omega)).trans Bg6.out); have n_HB := Aside0.mk (hB'); have NN13 : Aside0 (w12.heap.size ≤ w13.heap.size) := ⟨hF.size⟩; clear hc1_0 hf1_0; clear hc1_1 hf1_1; clear hc6_0 hf6_0; clear hc6_1 hf6_1; clear U21 U22_0 U29_0 U43 Bg1 Bg6 HB; have U21 := n_U21; have U22_0 := n_U22_0; have U29_0 := n_U29_0; have U43 := n_U43; have Bg1 := n_Bg1; have Bg6 := n_Bg6; have HB := n_HB; clear n_U21 n_U22_0 n_U29_0 n_U43 n_Bg1 n_Bg6 n_HB; clear U26; have U26 := nu; clear nu hU hB' hF; have hc1_0 : w13.cell? ⟨g1, 0, none⟩ = some (.slice A0_0 l0_0.length c0_0) := (blk_cell Bg1.out 0).trans rfl; have hf1_0 := blk_frozen Bg1.out 0; have hc1_1 : w13.cell? ⟨g1, 1, none⟩ = some (.slice A0_1 l0_1.length c0_1) := (blk_cell Bg1.out 1).trans rfl; have hf1_1 := blk_frozen Bg1.out 1; have hc6_0 : w13.cell? ⟨g6, 0, none⟩ = some (.slice A26_0 l0_0.length c26_0) := (blk_cell Bg6.out 0).trans rfl; have hf6_0 := blk_frozen Bg6.out 0; have hc6_1 : w13.cell? ⟨g6, 1, none⟩ = some (.slice A26_1 l0_1.length c26_1) := (blk_cell Bg6.out 1).trans rfl; have hf6_1 := blk_frozen Bg6.out 1) | (go_at_call 29; refine (laws_eqInt64SS.calls k _ _ s0 _ _ s0 true _ ?s1 ?s2 ?s3 ?s4 H6'.out).mono ?_; (case s1 => exact US.C U29_0.out); (case s2 => exact US.cap U29_0.out); (case s3 => exact US.C U22_0.out); (case s4 => exact US.cap U22_0.out); rintro e w14 ⟨rfl, hb⟩; have hb := hb.below; have n_U21 := Aside0.mk (U21.out.mvB (Frm.below hb)); have n_U22_0 := Aside0.mk (U22_0.out.mvB (Frm.below hb)); have n_U26 := Aside0.mk (U26.out.mvB (Frm.below hb)); have n_U29_0 := Aside0.mk (U29_0.out.mvB (Frm.below hb)); have n_U43 := Aside0.mk (U43.out.mvB (Frm.below hb)); have n_Bg1 := Aside0.mk (blk_below Bg1.out hb); have n_Bg6 := Aside0.mk (blk_below Bg6.out hb); have n_HB := Aside0.mk (below_step HB.out hb); have NN14 : Aside0 (w13.heap.size ≤ w14.heap.size) := ⟨hb.size⟩; clear hc1_0 hf1_0; clear hc1_1 hf1_1; clear hc6_0 hf6_0; clear hc6_1 hf6_1; clear U21 U22_0 U26 U29_0 U43 Bg1 Bg6 HB; have U21 := n_U21; have U22_0 := n_U22_0; have U26 := n_U26; have U29_0 := n_U29_0; have U43 := n_U43; have Bg1 := n_Bg1; have Bg6 := n_Bg6; have HB := n_HB; clear n_U21 n_U22_0 n_U26 n_U29_0 n_U43 n_Bg1 n_Bg6 n_HB; clear hb; have hc1_0 : w14.cell? ⟨g1, 0, none⟩ = some (.slice A0_0 l0_0.length c0_0) := (blk_cell Bg1.out 0).trans rfl; have hf1_0 := blk_frozen Bg1.out 0; have hc1_1 : w14.cell? ⟨g1, 1, none⟩ = some (.slice A0_1 l0_1.length c0_1) := (blk_cell Bg1.out 1).trans rfl; have hf1_1 := blk_frozen Bg1.out 1; have hc6_0 : w14.cell? ⟨g6, 0, none⟩ = some (.slice A26_0 l0_0.length c26_0) := (blk_cell Bg6.out 0).trans rfl; have hf6_0 := blk_frozen Bg6.out 0; have hc6_1 : w14.cell? ⟨g6, 1, none⟩ = some (.slice A26_1 l0_1.length c26_1) := (blk_cell Bg6.out 1).trans rfl; have hf6_1 := blk_frozen Bg6.out 1) | ((with_reducible refine gate_callee (f := 30) rfl ?_); refine goesL_ (some 64) rfl rfl Try.func30 (by kernel_rfl) rfl #[.slice A29_0 s0.length c29_0, .int .i64 1] rfl (by (try simp only [List.map_toArray, List.map_cons, List.map_nil]); first | done | rfl) ?_; refine (mark_US _ s0 1 m2 HB.out U29_0.out (by decide) H14'.out H15'.out H13'.out).mono ?_; rintro e w15 ⟨rfl, hU, hB', hF⟩; refine ⟨_, rfl, ?_⟩; have nu := Aside0.mk hU; have n_U21 := Aside0.mk (U21.out.mv hF (by have := NN1.out; have := Gg1.out; have := Kg1.out; have := NN2.out; have := NN3.out; have := NN4.out; have := NN5.out; have := NN6.out; have := Gg6.out; have := Kg6.out; have := NN7.out; have := NN8.out; have := NN9.out; have := NN10.out; have := NN11.out; have := NN12.out; have := NN13.out; have := NN14.out; omega)); have n_U22_0 := Aside0.mk (U22_0.out.mv hF (by have := NN1.out; have := Gg1.out; have := Kg1.out; have := NN2.out; have := NN3.out; have := NN4.out; have := NN5.out; have := NN6.out; have := Gg6.out; have := Kg6.out; have := NN7.out; have := NN8.out; have := NN9.out; have := NN10.out; have := NN11.out; have := NN12.out; have := NN13.out; have := NN14.out; omega)); have n_U26 := Aside0.mk (U26.out.mv hF (by have := NN1.out; have := Gg1.out; have := Kg1.out; have := NN2.out; have := NN3.out; have := NN4.out; have := NN5.out; have := NN6.out; have := Gg6.out; have := Kg6.out; have := NN7.out; have := NN8.out; have := NN9.out; have := NN10.out; have := NN11.out; have := NN12.out; have := NN13.out; have := NN14.out; omega)); have n_U43 := Aside0.mk (U43.out.mv hF (by have := NN1.out; have := Gg1.out; have := Kg1.out; have := NN2.out; have := NN3.out; have := NN4.out; have := NN5.out; have := NN6.out; have := Gg6.out; have := Kg6.out; have := NN7.out; have := NN8.out; have := NN9.out; have := NN10.out; have := NN11.out; have := NN12.out; have := NN13.out; have := NN14.out; omega)); have n_Bg1 := Aside0.mk ((hF.same g1 (blk_lt Bg1.out) (by have := NN1.out; have := Gg1.out; have := Kg1.out; have := NN2.out; have := NN3.out; have := NN4.out; have := NN5.out; have := NN6.out; have := Gg6.out; have := Kg6.out; have := NN7.out; have := NN8.out; have := NN9.out; have := NN10.out; have := NN11.out; have := NN12.out; have := NN13.out; have := NN14.out; omega)).trans Bg1.out); have n_Bg6 := Aside0.mk ((hF.same g6 (blk_lt Bg6.out) (by have := NN1.out; have := Gg1.out; have := Kg1.out; have := NN2.out; have := NN3.out; have := NN4.out; have := NN5.out; have := NN6.out; have := Gg6.out; have := Kg6.out; have := NN7.out; have := NN8.out; have := NN9.out; have := NN10.out; have := NN11.out; have := NN12.out; have := NN13.out; have := NN14.out; omega)).trans Bg6.out); have n_HB := Aside0.mk (hB'); have NN15 : Aside0 (w14.heap.size ≤ w15.heap.size) := ⟨hF.size⟩; clear hc1_0 hf1_0; clear hc1_1 hf1_1; clear hc6_0 hf6_0; clear hc6_1 hf6_1; clear U21 U22_0 U26 U43 Bg1 Bg6 HB; have U21 := n_U21; have U22_0 := n_U22_0; have U26 := n_U26; have U43 := n_U43; have Bg1 := n_Bg1; have Bg6 := n_Bg6; have HB := n_HB; clear n_U21 n_U22_0 n_U26 n_U43 n_Bg1 n_Bg6 n_HB; clear U29_0; have U29_0 := nu; clear nu hU hB' hF; have hc1_0 : w15.cell? ⟨g1, 0, none⟩ = some (.slice A0_0 l0_0.length c0_0) := (blk_cell Bg1.out 0).trans rfl; have hf1_0 := blk_frozen Bg1.out 0; have hc1_1 : w15.cell? ⟨g1, 1, none⟩ = some (.slice A0_1 l0_1.length c0_1) := (blk_cell Bg1.out 1).trans rfl; have hf1_1 := blk_frozen Bg1.out 1; have hc6_0 : w15.cell? ⟨g6, 0, none⟩ = some (.slice A26_0 l0_0.length c26_0) := (blk_cell Bg6.out 0).trans rfl; have hf6_0 := blk_frozen Bg6.out 0; have hc6_1 : w15.cell? ⟨g6, 1, none⟩ = some (.slice A26_1 l0_1.length c26_1) := (blk_cell Bg6.out 1).trans rfl; have hf6_1 := blk_frozen Bg6.out 1) | ((with_reducible refine gate_callee (f := 31) rfl ?_); refine goesL_ (some 67) rfl rfl Try.func31 (by kernel_rfl) rfl #[.slice A29_0 s0.length c29_0, .int .i64 1] rfl (by (try simp only [List.map_toArray, List.map_cons, List.map_nil]); first | done | rfl) ?_; have hcall := laws_heldInt64SS.calls k _ _ ((marks s0 1)) 1 m2 _ (US.C U29_0.out) (US.cap U29_0.out) H17'.out; simp only [marks_length, count_length] at hcall; refine hcall.mono ?_; clear hcall; rintro e w16 ⟨rfl, hb⟩; refine ⟨_, rfl, ?_⟩; have hb := hb.below; have n_U21 := Aside0.mk (U21.out.mvB (Frm.below hb)); have n_U22_0 := Aside0.mk (U22_0.out.mvB (Frm.below hb)); have n_U26 := Aside0.mk (U26.out.mvB (Frm.below hb)); have n_U29_0 := Aside0.mk (U29_0.out.mvB (Frm.below hb)); have n_U43 := Aside0.mk (U43.out.mvB (Frm.below hb)); have n_Bg1 := Aside0.mk (blk_below Bg1.out hb); have n_Bg6 := Aside0.mk (blk_below Bg6.out hb); have n_HB := Aside0.mk (below_step HB.out hb); have NN16 : Aside0 (w15.heap.size ≤ w16.heap.size) := ⟨hb.size⟩; clear hc1_0 hf1_0; clear hc1_1 hf1_1; clear hc6_0 hf6_0; clear hc6_1 hf6_1; clear U21 U22_0 U26 U29_0 U43 Bg1 Bg6 HB; have U21 := n_U21; have U22_0 := n_U22_0; have U26 := n_U26; have U29_0 := n_U29_0; have U43 := n_U43; have Bg1 := n_Bg1; have Bg6 := n_Bg6; have HB := n_HB; clear n_U21 n_U22_0 n_U26 n_U29_0 n_U43 n_Bg1 n_Bg6 n_HB; clear hb; have hc1_0 : w16.cell? ⟨g1, 0, none⟩ = some (.slice A0_0 l0_0.length c0_0) := (blk_cell Bg1.out 0).trans rfl; have hf1_0 := blk_frozen Bg1.out 0; have hc1_1 : w16.cell? ⟨g1, 1, none⟩ = some (.slice A0_1 l0_1.length c0_1) := (blk_cell Bg1.out 1).trans rfl; have hf1_1 := blk_frozen Bg1.out 1; have hc6_0 : w16.cell? ⟨g6, 0, none⟩ = some (.slice A26_0 l0_0.length c26_0) := (blk_cell Bg6.out 0).trans rfl; have hf6_0 := blk_frozen Bg6.out 0; have hc6_1 : w16.cell? ⟨g6, 1, none⟩ = some (.slice A26_1 l0_1.length c26_1) := (blk_cell Bg6.out 1).trans rfl; have hf6_1 := blk_frozen Bg6.out 1) | ((with_reducible refine gate_callee (f := 17) rfl ?_); refine goesL_ (some 75) rfl rfl Try.func17 (by kernel_rfl) rfl #[.agg #[.slice A0_0 l0_0.length c0_0, .slice A0_1 l0_1.length c0_1]] rfl (by (try simp only [List.map_toArray, List.map_cons, List.map_nil]); first | done | rfl) ?_; refine (laws_toGame2.calls k _ _ l0_0 _ _ l0_1 _ ?s1 ?s2 ?s3 ?s4 H3'.out).mono ?_; (case s1 => exact Kd.C_below HR0_0.out HB.out); (case s2 => exact HC0_0.out); (case s3 => exact Kd.C_below HR0_1.out HB.out); (case s4 => exact HC0_1.out); rintro e w17 ⟨v75_0, v75_1, rfl, ho0, hb⟩; refine ⟨_, rfl, ?_⟩; have nu0 := Aside0.mk (UG.of ho0 HB.out.size); have n_U21 := Aside0.mk (U21.out.mvB (Frm.below hb)); have n_U22_0 := Aside0.mk (U22_0.out.mvB (Frm.below hb)); have n_U26 := Aside0.mk (U26.out.mvB (Frm.below hb)); have n_U29_0 := Aside0.mk (U29_0.out.mvB (Frm.below hb)); have n_U43 := Aside0.mk (U43.out.mvB (Frm.below hb)); have n_Bg1 := Aside0.mk (blk_below Bg1.out hb); have n_Bg6 := Aside0.mk (blk_below Bg6.out hb); have n_HB := Aside0.mk (below_step HB.out hb); have NN17 : Aside0 (w16.heap.size ≤ w17.heap.size) := ⟨hb.size⟩; clear hc1_0 hf1_0; clear hc1_1 hf1_1; clear hc6_0 hf6_0; clear hc6_1 hf6_1; clear U21 U22_0 U26 U29_0 U43 Bg1 Bg6 HB; have U21 := n_U21; have U22_0 := n_U22_0; have U26 := n_U26; have U29_0 := n_U29_0; have U43 := n_U43; have Bg1 := n_Bg1; have Bg6 := n_Bg6; have HB := n_HB; clear n_U21 n_U22_0 n_U26 n_U29_0 n_U43 n_Bg1 n_Bg6 n_HB; clear hb ho0; have U75 := nu0; clear nu0; obtain ⟨A75_0, c75_0, A75_1, c75_1, e0, e1⟩ := U75.out.slices; subst e0; subst e1; have hc1_0 : w17.cell? ⟨g1, 0, none⟩ = some (.slice A0_0 l0_0.length c0_0) := (blk_cell Bg1.out 0).trans rfl; have hf1_0 := blk_frozen Bg1.out 0; have hc1_1 : w17.cell? ⟨g1, 1, none⟩ = some (.slice A0_1 l0_1.length c0_1) := (blk_cell Bg1.out 1).trans rfl; have hf1_1 := blk_frozen Bg1.out 1; have hc6_0 : w17.cell? ⟨g6, 0, none⟩ = some (.slice A26_0 l0_0.length c26_0) := (blk_cell Bg6.out 0).trans rfl; have hf6_0 := blk_frozen Bg6.out 0; have hc6_1 : w17.cell? ⟨g6, 1, none⟩ = some (.slice A26_1 l0_1.length c26_1) := (blk_cell Bg6.out 1).trans rfl; have hf6_1 := blk_frozen Bg6.out 1) | ((with_reducible refine gate_callee (f := 28) rfl ?_); refine goesL_ (some 76) rfl rfl Try.func28 (by kernel_rfl) rfl #[.agg #[.slice A75_0 l0_0.length c75_0, .slice A75_1 l0_1.length c75_1]] rfl (by (try simp only [List.map_toArray, List.map_cons, List.map_nil]); first | done | rfl) ?_; refine (impl_PureEquilibria.calls k _ _ l0_0 _ _ l0_1 s0 s1 _ ?s1 ?s2 ?s3 ?s4 H5'.out).mono ?_; (case s1 => exact U75.out.C0); (case s2 => exact U75.out.cap0); (case s3 => exact U75.out.C1); (case s4 => exact U75.out.cap1); rintro e w18 ⟨v76_0, rfl, ho0, hb⟩; refine ⟨_, rfl, ?_⟩; have nu0 := Aside0.mk (US.of ho0 HB.out.size); have n_U21 := Aside0.mk (U21.out.mvB (Frm.below hb)); have n_U22_0 := Aside0.mk (U22_0.out.mvB (Frm.below hb)); have n_U26 := Aside0.mk (U26.out.mvB (Frm.below hb)); have n_U29_0 := Aside0.mk (U29_0.out.mvB (Frm.below hb)); have n_U43 := Aside0.mk (U43.out.mvB (Frm.below hb)); have n_U75 := Aside0.mk (U75.out.mvB (Frm.below hb)); have n_Bg1 := Aside0.mk (blk_below Bg1.out hb); have n_Bg6 := Aside0.mk (blk_below Bg6.out hb); have n_HB := Aside0.mk (below_step HB.out hb); have NN18 : Aside0 (w17.heap.size ≤ w18.heap.size) := ⟨hb.size⟩; clear hc1_0 hf1_0; clear hc1_1 hf1_1; clear hc6_0 hf6_0; clear hc6_1 hf6_1; clear U21 U22_0 U26 U29_0 U43 U75 Bg1 Bg6 HB; have U21 := n_U21; have U22_0 := n_U22_0; have U26 := n_U26; have U29_0 := n_U29_0; have U43 := n_U43; have U75 := n_U75; have Bg1 := n_Bg1; have Bg6 := n_Bg6; have HB := n_HB; clear n_U21 n_U22_0 n_U26 n_U29_0 n_U43 n_U75 n_Bg1 n_Bg6 n_HB; clear hb ho0; have U76_0 := nu0; clear nu0; obtain ⟨A76_0, c76_0, e0⟩ := Kd.S_slice U76_0.out; subst e0; have hc1_0 : w18.cell? ⟨g1, 0, none⟩ = some (.slice A0_0 l0_0.length c0_0) := (blk_cell Bg1.out 0).trans rfl; have hf1_0 := blk_frozen Bg1.out 0; have hc1_1 : w18.cell? ⟨g1, 1, none⟩ = some (.slice A0_1 l0_1.length c0_1) := (blk_cell Bg1.out 1).trans rfl; have hf1_1 := blk_frozen Bg1.out 1; have hc6_0 : w18.cell? ⟨g6, 0, none⟩ = some (.slice A26_0 l0_0.length c26_0) := (blk_cell Bg6.out 0).trans rfl; have hf6_0 := blk_frozen Bg6.out 0; have hc6_1 : w18.cell? ⟨g6, 1, none⟩ = some (.slice A26_1 l0_1.length c26_1) := (blk_cell Bg6.out 1).trans rfl; have hf6_1 := blk_frozen Bg6.out 1) | ((with_reducible refine gate_callee (f := 29) rfl ?_); refine goesL_ (some 81) rfl rfl Try.func29 (by kernel_rfl) rfl #[.slice A76_0 s0.length c76_0, .slice A22_0 s0.length c22_0] rfl (by (try simp only [List.map_toArray, List.map_cons, List.map_nil]); first | done | rfl) ?_; refine (laws_eqInt64SS.calls k _ _ s0 _ _ s0 true _ ?s1 ?s2 ?s3 ?s4 H6'.out).mono ?_; (case s1 => exact US.C U76_0.out); (case s2 => exact US.cap U76_0.out); (case s3 => exact US.C U22_0.out); (case s4 => exact US.cap U22_0.out); rintro e w19 ⟨rfl, hb⟩; refine ⟨_, rfl, ?_⟩; have hb := hb.below; have n_U21 := Aside0.mk (U21.out.mvB (Frm.below hb)); have n_U22_0 := Aside0.mk (U22_0.out.mvB (Frm.below hb)); have n_U26 := Aside0.mk (U26.out.mvB (Frm.below hb)); have n_U29_0 := Aside0.mk (U29_0.out.mvB (Frm.below hb)); have n_U43 := Aside0.mk (U43.out.mvB (Frm.below hb)); have n_U75 := Aside0.mk (U75.out.mvB (Frm.below hb)); have n_U76_0 := Aside0.mk (U76_0.out.mvB (Frm.below hb)); have n_Bg1 := Aside0.mk (blk_below Bg1.out hb); have n_Bg6 := Aside0.mk (blk_below Bg6.out hb); have n_HB := Aside0.mk (below_step HB.out hb); have NN19 : Aside0 (w18.heap.size ≤ w19.heap.size) := ⟨hb.size⟩; clear hc1_0 hf1_0; clear hc1_1 hf1_1; clear hc6_0 hf6_0; clear hc6_1 hf6_1; clear U21 U22_0 U26 U29_0 U43 U75 U76_0 Bg1 Bg6 HB; have U21 := n_U21; have U22_0 := n_U22_0; have U26 := n_U26; have U29_0 := n_U29_0; have U43 := n_U43; have U75 := n_U75; have U76_0 := n_U76_0; have Bg1 := n_Bg1; have Bg6 := n_Bg6; have HB := n_HB; clear n_U21 n_U22_0 n_U26 n_U29_0 n_U43 n_U75 n_U76_0 n_Bg1 n_Bg6 n_HB; clear hb; have hc1_0 : w19.cell? ⟨g1, 0, none⟩ = some (.slice A0_0 l0_0.length c0_0) := (blk_cell Bg1.out 0).trans rfl; have hf1_0 := blk_frozen Bg1.out 0; have hc1_1 : w19.cell? ⟨g1, 1, none⟩ = some (.slice A0_1 l0_1.length c0_1) := (blk_cell Bg1.out 1).trans rfl; have hf1_1 := blk_frozen Bg1.out 1; have hc6_0 : w19.cell? ⟨g6, 0, none⟩ = some (.slice A26_0 l0_0.length c26_0) := (blk_cell Bg6.out 0).trans rfl; have hf6_0 := blk_frozen Bg6.out 0; have hc6_1 : w19.cell? ⟨g6, 1, none⟩ = some (.slice A26_1 l0_1.length c26_1) := (blk_cell Bg6.out 1).trans rfl; have hf6_1 := blk_frozen Bg6.out 1) | ((with_reducible refine gate_callee (f := 31) rfl ?_); refine goesL_ (some 90) rfl rfl Try.func31 (by kernel_rfl) rfl #[.slice A29_0 s0.length c29_0, .int .i64 1] rfl (by (try simp only [List.map_toArray, List.map_cons, List.map_nil]); first | done | rfl) ?_; have hcall := laws_heldInt64SS.calls k _ _ ((marks s0 1)) 1 m2 _ (US.C U29_0.out) (US.cap U29_0.out) H17'.out; simp only [marks_length, count_length] at hcall; refine hcall.mono ?_; clear hcall; rintro e w20 ⟨rfl, hb⟩; refine ⟨_, rfl, ?_⟩; have hb := hb.below; have n_U21 := Aside0.mk (U21.out.mvB (Frm.below hb)); have n_U22_0 := Aside0.mk (U22_0.out.mvB (Frm.below hb)); have n_U26 := Aside0.mk (U26.out.mvB (Frm.below hb)); have n_U29_0 := Aside0.mk (U29_0.out.mvB (Frm.below hb)); have n_U43 := Aside0.mk (U43.out.mvB (Frm.below hb)); have n_U75 := Aside0.mk (U75.out.mvB (Frm.below hb)); have n_U76_0 := Aside0.mk (U76_0.out.mvB (Frm.below hb)); have n_Bg1 := Aside0.mk (blk_below Bg1.out hb); have n_Bg6 := Aside0.mk (blk_below Bg6.out hb); have n_HB := Aside0.mk (below_step HB.out hb); have NN20 : Aside0 (w19.heap.size ≤ w20.heap.size) := ⟨hb.size⟩; clear hc1_0 hf1_0; clear hc1_1 hf1_1; clear hc6_0 hf6_0; clear hc6_1 hf6_1; clear U21 U22_0 U26 U29_0 U43 U75 U76_0 Bg1 Bg6 HB; have U21 := n_U21; have U22_0 := n_U22_0; have U26 := n_U26; have U29_0 := n_U29_0; have U43 := n_U43; have U75 := n_U75; have U76_0 := n_U76_0; have Bg1 := n_Bg1; have Bg6 := n_Bg6; have HB := n_HB; clear n_U21 n_U22_0 n_U26 n_U29_0 n_U43 n_U75 n_U76_0 n_Bg1 n_Bg6 n_HB; clear hb; have hc1_0 : w20.cell? ⟨g1, 0, none⟩ = some (.slice A0_0 l0_0.length c0_0) := (blk_cell Bg1.out 0).trans rfl; have hf1_0 := blk_frozen Bg1.out 0; have hc1_1 : w20.cell? ⟨g1, 1, none⟩ = some (.slice A0_1 l0_1.length c0_1) := (blk_cell Bg1.out 1).trans rfl; have hf1_1 := blk_frozen Bg1.out 1; have hc6_0 : w20.cell? ⟨g6, 0, none⟩ = some (.slice A26_0 l0_0.length c26_0) := (blk_cell Bg6.out 0).trans rfl; have hf6_0 := blk_frozen Bg6.out 0; have hc6_1 : w20.cell? ⟨g6, 1, none⟩ = some (.slice A26_1 l0_1.length c26_1) := (blk_cell Bg6.out 1).trans rfl; have hf6_1 := blk_frozen Bg6.out 1))
  go_ret
  exact ⟨rfl, HB.out⟩
set_option maxHeartbeats 8000000 in
set_option maxRecDepth 100000 in
theorem laws_FnExactPureEquilibria.small0 (k : Nat) (A0_0 : Option Addr) (c0_0 : Nat) (l0_0 : List (List Int)) (A0_1 : Option Addr) (c0_1 : Nat) (l0_1 : List (List Int)) (t16 : Int) (w : World) (hr0_0 : Kd.C (Kd.slice 2 (Kd.int .i64)) w A0_0 l0_0.length l0_0) (hc0_0 : l0_0.length ≤ c0_0) (hr0_1 : Kd.C (Kd.slice 2 (Kd.int .i64)) w A0_1 l0_1.length l0_1) (hc0_1 : l0_1.length ≤ c0_1) (h1 : laws_szGame.f k l0_0 l0_1 1048576 = some t16) (h2 : t16 < 0) :
    Calls Try.prog 5 #[.agg #[.slice A0_0 l0_0.length c0_0, .slice A0_1 l0_1.length c0_1]] w fun e w' => e = .returned (.bool true) ∧ Below w.heap.size w w' := by
  have HR0_0 := Aside0.mk hr0_0
  have HC0_0 := Aside0.mk hc0_0
  clear hr0_0 hc0_0
  have HR0_1 := Aside0.mk hr0_1
  have HC0_1 := Aside0.mk hc0_1
  clear hr0_1 hc0_1
  have HB := Aside0.mk (Below.refl w.heap.size w)
  have H1' := Aside0.mk h1
  clear h1
  go_enter Try.func5, Try.ntmps5
  go_wp2_with (first | ((with_reducible refine gate_dst (N := 1) rfl ?_); refine box_event ?hg (N := 1) ?hd (cs := #[.slice A0_0 l0_0.length c0_0, .slice A0_1 l0_1.length c0_1]) (t := 24) ?hr ?_; (case hd => rfl); (case hg => rfl); (case hr => first | (go_simp; done) | (go_simp; rfl)); intro g1 hg w1 hbox hb; have Gg1 : Aside0 (g1 = w.heap.size) := ⟨hg⟩; have Kg1 := Aside0.mk (blk_lt hbox); clear hg; have n_HB := Aside0.mk (below_step HB.out hb); have NN1 : Aside0 (w.heap.size ≤ w1.heap.size) := ⟨hb.size⟩; clear HB; have HB := n_HB; clear n_HB; have Bg1 := Aside0.mk hbox; clear hb hbox; have hc1_0 : w1.cell? ⟨g1, 0, none⟩ = some (.slice A0_0 l0_0.length c0_0) := (blk_cell Bg1.out 0).trans rfl; have hf1_0 := blk_frozen Bg1.out 0; have hc1_1 : w1.cell? ⟨g1, 1, none⟩ = some (.slice A0_1 l0_1.length c0_1) := (blk_cell Bg1.out 1).trans rfl; have hf1_1 := blk_frozen Bg1.out 1) | ((with_reducible refine gate_callee (f := 15) rfl ?_); refine goesL_ (some 16) rfl rfl Try.func15 (by kernel_rfl) rfl #[.agg #[.slice A0_0 l0_0.length c0_0, .slice A0_1 l0_1.length c0_1], .int .i64 1048576] rfl (by (try simp only [List.map_toArray, List.map_cons, List.map_nil]); first | done | rfl) ?_; refine (laws_szGame.calls k _ _ l0_0 _ _ l0_1 1048576 t16 _ ?s1 ?s2 ?s3 ?s4 H1'.out).mono ?_; (case s1 => exact Kd.C_below HR0_0.out HB.out); (case s2 => exact HC0_0.out); (case s3 => exact Kd.C_below HR0_1.out HB.out); (case s4 => exact HC0_1.out); rintro e w2 ⟨rfl, hb⟩; refine ⟨_, rfl, ?_⟩; have n_Bg1 := Aside0.mk (blk_below Bg1.out hb); have n_HB := Aside0.mk (below_step HB.out hb); have NN2 : Aside0 (w1.heap.size ≤ w2.heap.size) := ⟨hb.size⟩; clear hc1_0 hf1_0; clear hc1_1 hf1_1; clear Bg1 HB; have Bg1 := n_Bg1; have HB := n_HB; clear n_Bg1 n_HB; clear hb; have hc1_0 : w2.cell? ⟨g1, 0, none⟩ = some (.slice A0_0 l0_0.length c0_0) := (blk_cell Bg1.out 0).trans rfl; have hf1_0 := blk_frozen Bg1.out 0; have hc1_1 : w2.cell? ⟨g1, 1, none⟩ = some (.slice A0_1 l0_1.length c0_1) := (blk_cell Bg1.out 1).trans rfl; have hf1_1 := blk_frozen Bg1.out 1))
  go_ret
  exact ⟨rfl, HB.out⟩
/-- What this way asks. -/
def laws_FnExactPureEquilibria.ok_walk (k : Nat) (l0_0 : List (List Int)) (l0_1 : List (List Int)) : Prop := ∃ (t16 : Int) (s0 : List (List Int)) (s1 : Int) (m1 : Int) (m2 : Int), (laws_szGame.f k l0_0 l0_1 1048576 = some t16) ∧ (¬ t16 < 0) ∧ (laws_toInt64SS.f k l0_0 = some l0_0 ∧ laws_toInt64SS.f k l0_1 = some l0_1) ∧ (spec_PureEquilibria.f k l0_0 l0_1 = some (s0, s1)) ∧ (impl_PureEquilibria.f k l0_0 l0_1 = some (s0, s1)) ∧ (laws_eqInt64SS.f k s0 s0 = some true) ∧ (laws_eqGame.f k l0_0 l0_1 l0_0 l0_1 = some true) ∧ (m1 = 1 + (lens l0_0 : Int) + (lens l0_1 : Int)) ∧ (1 + (lens l0_0 : Int) + (lens l0_1 : Int) ≤ 1099511627776) ∧ (l0_0.length ≤ 1099511627776) ∧ (l0_1.length ≤ 1099511627776) ∧ (¬ m1 < 0) ∧ (m2 = 1 + (lens s0 : Int)) ∧ (1 + (lens s0 : Int) ≤ 1099511627776) ∧ (s0.length ≤ 1099511627776) ∧ (¬ m2 < 0) ∧ (laws_heldInt64SS.f k ((marks s0 1)) 1 = some m2)
/-- What this way asks. -/
def laws_FnExactPureEquilibria.ok_small0 (k : Nat) (l0_0 : List (List Int)) (l0_1 : List (List Int)) : Prop := ∃ (t16 : Int), (laws_szGame.f k l0_0 l0_1 1048576 = some t16) ∧ (t16 < 0)
open Classical in
noncomputable def laws_FnExactPureEquilibria.f (k : Nat) (l0_0 : List (List Int)) (l0_1 : List (List Int)) : Option Bool := if laws_FnExactPureEquilibria.ok_walk k l0_0 l0_1 ∨ laws_FnExactPureEquilibria.ok_small0 k l0_0 l0_1 then some true else none
theorem laws_FnExactPureEquilibria.calls (k : Nat) (A0_0 : Option Addr) (c0_0 : Nat) (l0_0 : List (List Int)) (A0_1 : Option Addr) (c0_1 : Nat) (l0_1 : List (List Int)) (r : Bool) (w : World) (hr0_0 : Kd.C (Kd.slice 2 (Kd.int .i64)) w A0_0 l0_0.length l0_0) (hc0_0 : l0_0.length ≤ c0_0) (hr0_1 : Kd.C (Kd.slice 2 (Kd.int .i64)) w A0_1 l0_1.length l0_1) (hc0_1 : l0_1.length ≤ c0_1) (h : laws_FnExactPureEquilibria.f k l0_0 l0_1 = some r) :
    Calls Try.prog 5 #[.agg #[.slice A0_0 l0_0.length c0_0, .slice A0_1 l0_1.length c0_1]] w fun e w' => e = .returned (.bool r) ∧ Below w.heap.size w w' := by
  unfold laws_FnExactPureEquilibria.f at h
  split at h
  case isFalse => cases h
  rename_i hok
  cases h
  rcases hok with ⟨t16, s0, s1, m1, m2, h1, h2, h3, h4, h5, h6, h7, h8, h9, h10, h11, h12, h13, h14, h15, h16, h17⟩ | ⟨t16, h1, h2⟩
  · exact laws_FnExactPureEquilibria.walk k A0_0 c0_0 l0_0 A0_1 c0_1 l0_1 t16 s0 s1 m1 m2 w hr0_0 hc0_0 hr0_1 hc0_1 h1 h2 h3 h4 h5 h6 h7 h8 h9 h10 h11 h12 h13 h14 h15 h16 h17
  · exact laws_FnExactPureEquilibria.small0 k A0_0 c0_0 l0_0 A0_1 c0_1 l0_1 t16 w hr0_0 hc0_0 hr0_1 hc0_1 h1 h2
end Go.Proofs.Ytjjbhdpjnjncbaa.Pr
end

section
/- The pure statement of the law FnExactPureEquilibria: the printed function answers true at every good input. -/
namespace Go.Proofs.Ytjjbhdpjnjncbaa.Say
open Go.Proofs.Ytjjbhdpjnjncbaa.Op Go.Proofs.Ytjjbhdpjnjncbaa.Pr
def FnExactPureEquilibria : Prop := ∀ (l0_0 : List (List Int)) (l0_1 : List (List Int)), GoodList (GoodList (GoodInt .i64)) l0_0 → GoodList (GoodList (GoodInt .i64)) l0_1 → ∃ k, laws_FnExactPureEquilibria.f k l0_0 l0_1 = some true
end Go.Proofs.Ytjjbhdpjnjncbaa.Say
end

section
/- Games: what IsGame tests, for the program and for the reference, at every input. -/
namespace Go.Proofs.Ytjjbhdpjnjncbaa.Gm
open Go.RowKit Go.Proofs.YtjjbhdpjnjncbaaW.PrintWords Go.Proofs.YtjjbhdpjnjncbaaW.PrintMore Go.Proofs.Ytjjbhdpjnjncbaa.Ma Go.Proofs.Ytjjbhdpjnjncbaa.Pr Go.Proofs.Ytjjbhdpjnjncbaa.La
set_option linter.unusedVariables false

theorem sin_eq (x a b : Int) : spec_l01In.f x a b = some (decide (a ≤ x ∧ x ≤ b)) := by
  unfold spec_l01In.f
  by_cases h : a ≤ x
  · rw [if_pos (by omega)]; simp [h]
  · rw [if_neg (by omega)]; simp [h]
theorem iin_eq (x a b : Int) : impl_within.f x a b = some (decide (a ≤ x ∧ x ≤ b)) := by
  unfold impl_within.f
  by_cases h : a ≤ x
  · rw [if_pos (by omega)]; simp [h]
  · rw [if_neg (by omega)]; simp [h]
theorem head_step {P : Nat → Prop} {i d : Nat} (h : i < d) : (∀ j, i ≤ j → j < d → P j) ↔ P i ∧ ∀ j, i + 1 ≤ j → j < d → P j :=
  ⟨fun f => ⟨f i (Nat.le_refl _) h, fun j h1 h2 => f j (by omega) h2⟩, fun ⟨a, f⟩ j h1 h2 => by
    by_cases e : i = j
    · subst e; exact a
    · exact f j (by omega) h2⟩
theorem no_iff {b : Bool} {p : Prop} (h : b = true ↔ p) (hp : ¬ p) : b = false := by
  cases b
  · rfl
  · exact absurd (h.1 rfl) hp

/-- The row of a table. -/
def rw_ (a : List (List Int)) (i : Nat) : List Int := a.getD i []
def ent (a : List (List Int)) (i j : Nat) : Int := (rw_ a i).getD j 0
theorem rw_eq (a : List (List Int)) (i : Nat) : rd_L1 a (i : Int) = rw_ a i := rdL a i
theorem rw_at {a : List (List Int)} {i : Nat} (h : i < a.length) : rw_ a i = a[i] := by simp [rw_, h]
def E20 (n : Int) : Prop := 1 ≤ n ∧ n ≤ 20
def RowOK (a b : List (List Int)) (l i : Nat) : Prop := (rw_ a i).length = l ∧ (rw_ b i).length = l ∧ ∀ j, 0 ≤ j → j < l → E20 (ent a i j) ∧ E20 (ent b i j)
structure GameOK (a b : List (List Int)) : Prop where
  k1 : 1 ≤ a.length
  k4 : a.length ≤ 4
  same : b.length = a.length
  l1 : 1 ≤ (rw_ a 0).length
  l4 : (rw_ a 0).length ≤ 4
  sum : a.length + (rw_ a 0).length ≤ 5
  rows : ∀ i, 0 ≤ i → i < a.length → RowOK a b (rw_ a 0).length i

section
variable {a b : List (List Int)} {l : Nat} (hk : a.length ≤ 4) (hl : l ≤ 4) (hs : b.length = a.length)
include hk hl hs
theorem spec_row (i : Nat) (hi : i < a.length) (e1 : (rw_ a i).length = l) (e2 : (rw_ b i).length = l)
    (next : ∀ t, (t = true ↔ ∀ u, i + 1 ≤ u → u < a.length → RowOK a b l u) → Ev (fun k => spec_l07Is.l0 k (a.length : Int) l ((i + 1 : Nat) : Int) a b) t) :
    ∀ m j, j + m = l → ∀ t, (t = true ↔ (∀ c, j ≤ c → c < l → E20 (ent a i c) ∧ E20 (ent b i c)) ∧ ∀ u, i + 1 ≤ u → u < a.length → RowOK a b l u) → Ev (fun k => spec_l07Is.l1 k (a.length : Int) l i j a b) t := by
  intro m
  induction m with
  | zero =>
    intro j hj t ht
    refine evstep (fun k => by rw [spec_l07Is.l1]) (evneg (by omega) ?_)
    rw [w64 (by omega) (by omega)]
    exact next t (ht.trans ⟨fun h => h.2, fun h => ⟨fun c h1 h2 => by omega, h⟩⟩)
  | succ m ih =>
    intro j hj t ht
    have hjl : j < l := by omega
    rw [head_step (P := fun c => E20 (ent a i c) ∧ E20 (ent b i c)) hjl, and_assoc, and_assoc] at ht
    refine evstep (fun k => by rw [spec_l07Is.l1]) (evpos (by omega) (evpos (by omega) (evpos (by omega) (evpos (by omega) ?_))))
    rw [rw_eq, rw_eq, rd_nat, rd_nat]
    refine evpos (by omega) (evsome (sin_eq _ _ _) ?_)
    by_cases c1 : E20 (ent a i j)
    · refine evpos (decide_eq_true (show 1 ≤ ent a i j ∧ ent a i j ≤ 20 from c1)) (evpos (by omega) (evpos (by omega) (evsome (sin_eq _ _ _) ?_)))
      by_cases c2 : E20 (ent b i j)
      · refine evpos (decide_eq_true (show 1 ≤ ent b i j ∧ ent b i j ≤ 20 from c2)) ?_
        rw [w64 (by omega) (by omega)]
        exact ih (j + 1) (by omega) t (ht.trans ⟨fun h => h.2.2, fun h => ⟨c1, c2, h⟩⟩)
      · refine evneg (fun h => c2 (of_decide_eq_true (p := 1 ≤ ent b i j ∧ ent b i j ≤ 20) h)) ?_
        rw [no_iff ht (fun h => c2 h.2.1)]
        exact evc rfl
    · refine evneg (fun h => c1 (of_decide_eq_true (p := 1 ≤ ent a i j ∧ ent a i j ≤ 20) h)) ?_
      rw [no_iff ht (fun h => c1 h.1)]
      exact evc rfl
theorem spec_rows : ∀ m i, i + m = a.length → ∀ t, (t = true ↔ ∀ u, i ≤ u → u < a.length → RowOK a b l u) → Ev (fun k => spec_l07Is.l0 k (a.length : Int) l i a b) t := by
  intro m
  induction m with
  | zero =>
    intro i hi t ht
    refine evstep (fun k => by rw [spec_l07Is.l0]) (evneg (by omega) ?_)
    rw [ht.2 (fun u h1 h2 => by omega)]
    exact evc rfl
  | succ m ih =>
    intro i hi t ht
    have hlt : i < a.length := by omega
    rw [head_step (P := fun u => RowOK a b l u) hlt] at ht
    refine evstep (fun k => by rw [spec_l07Is.l0]) (evpos (by omega) (evpos (by omega) (evpos (by omega) ?_)))
    rw [rw_eq, rw_eq]
    by_cases c1 : (rw_ a i).length = l
    · refine evpos (by omega) (evpos (by omega) (evstep (fun k => by rw [spec_l07Is.j3]) ?_))
      by_cases c2 : (rw_ b i).length = l
      · refine evneg (by simp [c2]) ?_
        exact spec_row hk hl hs i hlt c1 c2 (ih (i + 1) (by omega)) l 0 (by omega) t (ht.trans ⟨fun h => ⟨h.1.2.2, h.2⟩, fun h => ⟨⟨c1, c2, h.1⟩, h.2⟩⟩)
      · refine evpos (by simp; omega) ?_
        rw [no_iff ht (fun h => c2 h.1.2.1)]
        exact evc rfl
    · refine evneg (by omega) (evstep (fun k => by rw [spec_l07Is.j3]) (evpos rfl ?_))
      rw [no_iff ht (fun h => c1 h.1.1)]
      exact evc rfl
end
theorem spec_is (a b : List (List Int)) (ha : a.length ≤ 1048576) (hr : ∀ x ∈ a, x.length ≤ 1048576) (t : Bool) (ht : t = true ↔ GameOK a b) : Ev (fun k => spec_l07Is.f k a b) t := by
  unfold spec_l07Is.f
  by_cases c1 : (a.length : Int) < 1
  · refine evpos c1 (evstep (fun k => by rw [spec_l07Is.j0]) (evpos rfl ?_))
    rw [no_iff ht (fun h => by have := h.k1; omega)]
    exact evc rfl
  · refine evneg c1 ?_
    by_cases c2 : (a.length : Int) > 4
    · refine evpos c2 (evstep (fun k => by rw [spec_l07Is.j0]) (evpos rfl ?_))
      rw [no_iff ht (fun h => by have := h.k4; omega)]
      exact evc rfl
    · refine evneg c2 (evstep (fun k => by rw [spec_l07Is.j0]) ?_)
      by_cases c3 : b.length = a.length
      · refine evneg (by simp [c3]) (evpos (by omega) ?_)
        have e0 : rd_L1 a 0 = rw_ a 0 := rw_eq a 0
        have h0 : (rw_ a 0).length ≤ 1048576 := by rw [rw_at (by omega)]; exact hr _ (List.getElem_mem (by omega))
        rw [e0]
        by_cases c4 : ((rw_ a 0).length : Int) < 1
        · refine evpos c4 (evstep (fun k => by rw [spec_l07Is.j1]) (evpos rfl ?_))
          rw [no_iff ht (fun h => by have := h.l1; omega)]
          exact evc rfl
        · refine evneg c4 ?_
          by_cases c5 : ((rw_ a 0).length : Int) > 4
          · refine evpos c5 (evstep (fun k => by rw [spec_l07Is.j1]) (evpos rfl ?_))
            rw [no_iff ht (fun h => by have := h.l4; omega)]
            exact evc rfl
          · refine evneg c5 (evstep (fun k => by rw [spec_l07Is.j1]) ?_)
            rw [w64 (by omega) (by omega)]
            by_cases c6 : (a.length : Int) + ((rw_ a 0).length : Int) > 5
            · refine evpos (decide_eq_true c6) ?_
              rw [no_iff ht (fun h => by have := h.sum; omega)]
              exact evc rfl
            · refine evneg (by simpa using c6) ?_
              exact spec_rows (l := (rw_ a 0).length) (by omega) (by omega) c3 a.length 0 (by omega) t (ht.trans ⟨fun h => h.rows, fun h => ⟨by omega, by omega, c3, by omega, by omega, by omega, h⟩⟩)
      · refine evpos (by simp; omega) ?_
        rw [no_iff ht (fun h => c3 h.same)]
        exact evc rfl

theorem badE_iff (n : Int) : badE n = false ↔ E20 n := by unfold badE E20; simp
theorem any_false {α : Type} (p : α → Bool) (l : List α) : l.any p = false ↔ ∀ i (h : i < l.length), p l[i] = false := by
  rw [List.any_eq_false]
  constructor
  · intro h i hi
    have := h l[i] (List.getElem_mem hi)
    simpa using this
  · intro h x hx
    obtain ⟨i, hi, rfl⟩ := List.getElem_of_mem hx
    simp [h i hi]
theorem badR_iff (k : Nat) (row : List Int) : badR (k : Int) row = false ↔ row.length = k ∧ ∀ j, 0 ≤ j → j < k → E20 (row.getD j 0) := by
  unfold badR
  rw [Bool.or_eq_false_iff, any_false]
  constructor
  · rintro ⟨h1, h2⟩
    have e : row.length = k := by simp at h1; omega
    exact ⟨e, fun j _ hj => by have := (badE_iff _).1 (h2 j (by omega)); simpa [show j < row.length from by omega] using this⟩
  · rintro ⟨h1, h2⟩
    exact ⟨by simp [h1], fun i hi => (badE_iff _).2 (by have := h2 i (Nat.zero_le _) (by omega); simpa [hi] using this)⟩
theorem table_f (a : List (List Int)) (k l : Nat) : ∃ t, impl_isTable.f a k l = some t ∧ (t = true ↔ a.length = k ∧ ∀ i, 0 ≤ i → i < a.length → (rw_ a i).length = l ∧ ∀ j, 0 ≤ j → j < l → E20 (ent a i j)) := by
  refine ⟨_, rfl, ?_⟩
  rw [Bool.and_eq_true, Bool.not_eq_true', any_false]
  constructor
  · rintro ⟨h1, h2⟩
    refine ⟨by simp at h1; omega, fun i _ hi => ?_⟩
    have := (badR_iff l a[i]).1 (h2 i hi)
    rw [← rw_at hi] at this
    exact this
  · rintro ⟨h1, h2⟩
    refine ⟨by simp [h1], fun i hi => (badR_iff l a[i]).2 ?_⟩
    have := h2 i (Nat.zero_le _) hi
    rw [← rw_at hi]
    exact this
theorem impl_is (a b : List (List Int)) (ha : a.length ≤ 1048576) (hr : ∀ x ∈ a, x.length ≤ 1048576) (t : Bool) (ht : t = true ↔ GameOK a b) : impl_IsGame.f a b = some t := by
  unfold impl_IsGame.f
  rw [iin_eq, Option.bind_some]
  by_cases c1 : 1 ≤ (a.length : Int) ∧ (a.length : Int) ≤ 4
  · have e0 : rd_L1 a 0 = rw_ a 0 := rw_eq a 0
    have h0 : (rw_ a 0).length ≤ 1048576 := by rw [rw_at (by omega)]; exact hr _ (List.getElem_mem (by omega))
    rw [if_pos (decide_eq_true c1), if_pos (by omega), e0, iin_eq, Option.bind_some, w64 (by omega) (by omega)]
    by_cases c2 : 1 ≤ ((rw_ a 0).length : Int) ∧ ((rw_ a 0).length : Int) ≤ 4
    · rw [if_pos (decide_eq_true c2)]
      by_cases c3 : (a.length : Int) + ((rw_ a 0).length : Int) ≤ 5
      · rw [if_pos c3]
        obtain ⟨t1, h1, i1⟩ := table_f a a.length (rw_ a 0).length
        obtain ⟨t2, h2, i2⟩ := table_f b a.length (rw_ a 0).length
        rw [h1, Option.bind_some, h2]
        have key : GameOK a b ↔ t1 = true ∧ t2 = true := by
          rw [i1, i2]
          constructor
          · intro h
            exact ⟨⟨rfl, fun i z hi => ⟨(h.rows i z hi).1, fun j z2 hj => ((h.rows i z hi).2.2 j z2 hj).1⟩⟩, h.same, fun i z hi => ⟨(h.rows i z (by have := h.same; omega)).2.1, fun j z2 hj => ((h.rows i z (by have := h.same; omega)).2.2 j z2 hj).2⟩⟩
          · rintro ⟨⟨_, ha'⟩, hs, hb'⟩
            exact ⟨by omega, by omega, hs, by omega, by omega, by omega, fun i z hi => ⟨(ha' i z hi).1, (hb' i z (by omega)).1, fun j z2 hj => ⟨(ha' i z hi).2 j z2 hj, (hb' i z (by omega)).2 j z2 hj⟩⟩⟩
        rw [key] at ht
        cases t1
        · rw [no_iff ht (fun h => by cases h.1)]; rfl
        · cases t2
          · rw [no_iff ht (fun h => by cases h.2)]; rfl
          · rw [ht.2 ⟨rfl, rfl⟩]; rfl
      · rw [if_neg c3, no_iff ht (fun h => c3 (by have := h.sum; omega))]
    · rw [if_neg (by simpa using c2), no_iff ht (fun h => c2 (by have := h.l1; have := h.l4; omega))]
  · rw [if_neg (by simpa using c1), no_iff ht (fun h => c1 (by have := h.k1; have := h.k4; omega))]
end Go.Proofs.Ytjjbhdpjnjncbaa.Gm
end

section
/- The greatest of a list of whole numbers (slices.Max). -/
namespace Go.Proofs.Ytjjbhdpjnjncbaa.Mx
open Go.RowKit Go.Proofs.YtjjbhdpjnjncbaaW.PrintWords Go.Proofs.YtjjbhdpjnjncbaaW.PrintMore Go.Proofs.Ytjjbhdpjnjncbaa.Ma Go.Proofs.Ytjjbhdpjnjncbaa.Pr
set_option linter.unusedVariables false
theorem max_loop (l : List Int) (hl : l.length ≤ 1048576) : ∀ m i (x : Int), i + m = l.length → Ev (fun k => slices_Max_int64_int64.l0 k l x (i : Nat)) ((l.drop i).foldl mx x) := by
  intro m
  induction m with
  | zero =>
    intro i x hi
    rw [List.drop_eq_nil_of_le (by omega)]
    show Ev (fun k => slices_Max_int64_int64.l0 k l x (i : Nat)) x
    exact evstep (fun k => by rw [slices_Max_int64_int64.l0]) (evneg (by omega) (evc rfl))
  | succ m ih =>
    intro i x hi
    have hlt : i < l.length := by omega
    have e : l.getD i 0 = l[i] := by simp [hlt]
    have h := ih (i + 1) (mx x l[i]) (by omega)
    rw [List.drop_eq_getElem_cons hlt, List.foldl_cons]
    refine evstep (fun k => by rw [slices_Max_int64_int64.l0]) (evpos (by omega) (evpos (by omega) ?_))
    rw [rd_nat, w64 (by omega) (by omega), e]
    exact h
def top (l : List Int) : Int := (l.drop 1).foldl mx (l.getD 0 0)
theorem max_of (l : List Int) (h0 : 0 < l.length) (hl : l.length ≤ 1048576) : Ev (fun k => slices_Max_int64_int64.f k l) (top l) := by
  unfold slices_Max_int64_int64.f
  refine evneg (by omega) (evpos (by omega) ?_)
  have h1 := max_loop l hl (l.length - 1) 1 (rd l 0) (by omega)
  rw [show rd l 0 = l.getD 0 0 from rd_nat l 0] at h1
  rw [show rd l 0 = l.getD 0 0 from rd_nat l 0]
  exact h1
theorem mx_ge (a b : Int) : a ≤ mx a b ∧ b ≤ mx a b := by unfold mx; split <;> omega
theorem mx_or (a b : Int) : mx a b = a ∨ mx a b = b := by unfold mx; split <;> simp
theorem fold_ge : ∀ (l : List Int) (x : Int), x ≤ l.foldl mx x ∧ ∀ y ∈ l, y ≤ l.foldl mx x
  | [], x => ⟨Int.le_refl _, fun _ h => by cases h⟩
  | a :: l, x => by
    have h := fold_ge l (mx x a)
    have g := mx_ge x a
    refine ⟨Int.le_trans g.1 h.1, fun y hy => ?_⟩
    rcases List.mem_cons.1 hy with rfl | hy
    · exact Int.le_trans g.2 h.1
    · exact h.2 y hy
theorem fold_mem : ∀ (l : List Int) (x : Int), l.foldl mx x = x ∨ l.foldl mx x ∈ l
  | [], x => .inl rfl
  | a :: l, x => by
    rcases fold_mem l (mx x a) with h | h
    · rcases mx_or x a with g | g
      · exact .inl (by rw [List.foldl_cons, h, g])
      · exact .inr (by rw [List.foldl_cons, h, g]; exact List.mem_cons_self)
    · exact .inr (List.mem_cons_of_mem _ h)
/-- The greatest is an entry just where no entry is greater. -/
theorem top_eq (l : List Int) (j : Nat) (hj : j < l.length) : top l = l.getD j 0 ↔ ∀ c, 0 ≤ c → c < l.length → l.getD c 0 ≤ l.getD j 0 := by
  unfold top
  cases l with
  | nil => simp at hj
  | cons a l =>
    simp only [List.drop_succ_cons, List.drop_zero, List.getD_cons_zero]
    have h1 := fold_ge l a
    have h2 := fold_mem l a
    constructor
    · intro e c _ hc
      rw [← e]
      cases c with
      | zero => simpa using h1.1
      | succ c =>
        have hc' : c < l.length := by simpa using hc
        have := h1.2 l[c] (List.getElem_mem hc')
        simpa [hc'] using this
    · intro h
      have key : ∀ y ∈ a :: l, y ≤ (a :: l).getD j 0 := by
        intro y hy
        obtain ⟨c, hc, rfl⟩ := List.getElem_of_mem hy
        have := h c (Nat.zero_le _) hc
        rwa [show (a :: l).getD c 0 = (a :: l)[c] from by simp [List.getD_eq_getElem?_getD, List.getElem?_eq_getElem hc]] at this
      have hm : l.foldl mx a ∈ a :: l := by
        rcases h2 with h2 | h2
        · rw [h2]; exact List.mem_cons_self
        · exact List.mem_cons_of_mem _ h2
      have hle := key _ hm
      have hge : (a :: l).getD j 0 ≤ l.foldl mx a := by
        have hmem : (a :: l).getD j 0 ∈ a :: l := by
          rw [List.getD_eq_getElem?_getD, List.getElem?_eq_getElem hj]; exact List.getElem_mem hj
        rcases List.mem_cons.1 hmem with e | e
        · rw [e]; exact h1.1
        · exact h1.2 _ e
      omega
end Go.Proofs.Ytjjbhdpjnjncbaa.Mx
end

section
/- Pure equilibria: the program's and the reference's rounds, at every game. -/
namespace Go.Proofs.Ytjjbhdpjnjncbaa.Ge
open Go.RowKit Go.Proofs.YtjjbhdpjnjncbaaW.PrintWords Go.Proofs.YtjjbhdpjnjncbaaW.PrintMore Go.Proofs.Ytjjbhdpjnjncbaa.Ma Go.Proofs.Ytjjbhdpjnjncbaa.Pr Go.Proofs.Ytjjbhdpjnjncbaa.La Go.Proofs.Ytjjbhdpjnjncbaa.Gm
set_option linter.unusedVariables false
def PA (a : List (List Int)) (i j u : Nat) : Prop := ent a u j ≤ ent a i j
def PB (b : List (List Int)) (i j c : Nat) : Prop := ent b i c ≤ ent b i j
/-- A row and a column are an equilibrium. -/
def IsP (a b : List (List Int)) (i j : Nat) : Prop := (∀ u, 0 ≤ u → u < a.length → PA a i j u) ∧ ∀ c, 0 ≤ c → c < (rw_ a 0).length → PB b i j c
open Classical in
noncomputable def addP (a b : List (List Int)) (i j : Nat) (acc : List (List Int)) : List (List Int) := if IsP a b i j then acc ++ [[(i : Int), (j : Int)]] else acc
noncomputable def rowP (a b : List (List Int)) (i : Nat) : Nat → Nat → List (List Int) → List (List Int)
  | 0, _, acc => acc
  | m + 1, j, acc => rowP a b i m (j + 1) (addP a b i j acc)
noncomputable def allP (a b : List (List Int)) : Nat → Nat → List (List Int) → List (List Int)
  | 0, _, acc => acc
  | m + 1, i, acc => allP a b m (i + 1) (rowP a b i (rw_ a 0).length 0 acc)
def Two (n : Nat) (l : List (List Int)) : Prop := l.length ≤ n ∧ ∀ x ∈ l, x.length = 2
theorem addP_two {a b : List (List Int)} {i j n : Nat} {acc : List (List Int)} (h : Two n acc) : Two (n + 1) (addP a b i j acc) := by
  unfold addP
  split
  · refine ⟨by simp; exact h.1, fun x hx => ?_⟩
    rcases List.mem_append.1 hx with hx | hx
    · exact h.2 x hx
    · rw [List.mem_singleton.1 hx]; rfl
  · exact ⟨Nat.le_succ_of_le h.1, h.2⟩
theorem rowP_two {a b : List (List Int)} {i : Nat} : ∀ m j n acc, Two n acc → Two (n + m) (rowP a b i m j acc)
  | 0, _, _, _, h => h
  | m + 1, j, n, acc, h => by
    have := rowP_two (a := a) (b := b) (i := i) m (j + 1) (n + 1) _ (addP_two (a := a) (b := b) (i := i) (j := j) h)
    rw [show n + (m + 1) = n + 1 + m from by omega]
    exact this
theorem allP_two {a b : List (List Int)} (hl : (rw_ a 0).length ≤ 4) : ∀ m i n acc, Two n acc → Two (n + 4 * m) (allP a b m i acc)
  | 0, _, _, _, h => h
  | m + 1, i, n, acc, h => by
    have h1 := rowP_two (a := a) (b := b) (i := i) (rw_ a 0).length 0 n acc h
    have h2 := allP_two (a := a) (b := b) hl m (i + 1) (n + 4) _ (show Two (n + 4) _ from ⟨by have := h1.1; omega, h1.2⟩)
    rw [show n + 4 * (m + 1) = n + 4 + 4 * m from by omega]
    exact h2
theorem two_lens : ∀ (l : List (List Int)), (∀ x ∈ l, x.length = 2) → lens l = 2 * l.length
  | [], _ => rfl
  | x :: l, h => by
    have h1 := h x List.mem_cons_self
    have h2 := two_lens l (fun y hy => h y (List.mem_cons_of_mem _ hy))
    simp only [lens, h1, h2, List.length_cons]; omega
section
variable {a b : List (List Int)} (g : GameOK a b)
include g
theorem impl_pure_loop (i j : Nat) (hi : i < a.length) (hj : j < (rw_ a 0).length) : ∀ m u, u + m = a.length → ∀ t, (t = true ↔ (∀ v, u ≤ v → v < a.length → PA a i j v) ∧ ∀ c, 0 ≤ c → c < (rw_ a 0).length → PB b i j c) →
    Ev (fun k => impl_Game_isPure.l0 k i j a (a.length : Int) u a b) t := by
  have hs := g.same; have hk := g.k4; have hl := g.l4
  have r1 := (g.rows i (Nat.zero_le _) hi).1; have r2 := (g.rows i (Nat.zero_le _) hi).2.1
  intro m
  induction m with
  | zero =>
    intro u hu t ht
    refine evstep (fun k => by rw [impl_Game_isPure.l0]) (evneg (by omega) (evpos (by omega) (evpos (by omega) ?_)))
    rw [rw_eq]
    refine evbind (Mx.max_of _ (by omega) (by omega)) (evpos (by omega) (evpos (by omega) (evc ?_)))
    rw [rd_nat]
    have := Mx.top_eq (rw_ b i) j (by omega)
    congr 1
    cases t with
    | true =>
      have h := (ht.1 rfl).2
      rw [beq_iff_eq]
      exact this.2 (fun c h1 h2 => h c h1 (by omega))
    | false =>
      rw [beq_eq_false_iff_ne]
      intro e
      have h2 := this.1 e
      have := ht.2 ⟨fun v h1 h2 => by omega, fun c h1 hc => h2 c h1 (by omega)⟩
      cases this
  | succ m ih =>
    intro u hu t ht
    have hul : u < a.length := by omega
    have ru := (g.rows u (Nat.zero_le _) hul).1
    rw [head_step (P := fun v => PA a i j v) hul, and_assoc] at ht
    refine evstep (fun k => by rw [impl_Game_isPure.l0]) ?_
    rw [rw_eq, rw_eq, rd_nat, rd_nat]
    refine evpos (by omega) (evpos (by omega) (evpos (by omega) (evpos (by omega) (evpos (by omega) (evpos (by omega) (evpos (by omega) (evpos (by omega) ?_)))))))
    by_cases c : PA a i j u
    · refine evneg (show ¬ ent a u j > ent a i j by unfold PA at c; omega) ?_
      rw [w64 (by omega) (by omega)]
      exact ih (u + 1) (by omega) t (ht.trans ⟨fun h => h.2, fun h => ⟨c, h⟩⟩)
    · refine evpos (show ent a u j > ent a i j by unfold PA at c; omega) ?_
      rw [no_iff ht (fun h => c h.1)]
      exact evc rfl
theorem impl_pure (i j : Nat) (hi : i < a.length) (hj : j < (rw_ a 0).length) (t : Bool) (ht : t = true ↔ IsP a b i j) : Ev (fun k => impl_Game_isPure.f k a b i j) t := by
  unfold impl_Game_isPure.f
  exact impl_pure_loop g i j hi hj a.length 0 (by omega) t ht
open Classical in
theorem impl_row (i : Nat) (hi : i < a.length) (R : List (List Int) × Int) : ∀ m j n acc, j + m = (rw_ a 0).length → Two n acc → n + m ≤ 100 →
    Ev (fun k => impl_PureEquilibria.l0 k (rowP a b i m j acc) (a.length : Int) ((i + 1 : Nat) : Int) a b) R →
    Ev (fun k => impl_PureEquilibria.l1 k acc i (a.length : Int) i ((rw_ a 0).length : Int) j a b) R := by
  have hk := g.k4; have hl := g.l4
  intro m
  induction m with
  | zero =>
    intro j n acc hj h2 hn next
    refine evstep (fun k => by rw [impl_PureEquilibria.l1]) (evneg (by omega) ?_)
    rw [w64 (by omega) (by omega)]
    exact next
  | succ m ih =>
    intro j n acc hj h2 hn next
    have nx := ih (j + 1) (n + 1) (addP a b i j acc) (by omega) (addP_two h2) (by omega) next
    refine evstep (fun k => by rw [impl_PureEquilibria.l1]) (evpos (by omega) (evbind (impl_pure g i j hi (by omega) (decide (IsP a b i j)) (by simp)) ?_))
    have hacc := h2.1
    rw [w64 (by omega) (by omega)]
    by_cases c : IsP a b i j
    · refine evpos (by simpa using c) (evpos (by omega) ?_)
      have e : addP a b i j acc = acc ++ [[(i : Int), (j : Int)]] := if_pos c
      rw [e] at nx
      exact nx
    · refine evneg (by simpa using c) ?_
      have e : addP a b i j acc = acc := if_neg c
      rw [e] at nx
      exact nx
theorem impl_rows (R : List (List Int) × Int) : ∀ m i n acc, i + m = a.length → Two n acc → n + 4 * m ≤ 100 → R = (allP a b m i acc, 0) → Ev (fun k => impl_PureEquilibria.l0 k acc (a.length : Int) i a b) R := by
  have hk := g.k4; have hl := g.l4
  intro m
  induction m with
  | zero =>
    intro i n acc hi h2 hn hR
    refine evstep (fun k => by rw [impl_PureEquilibria.l0]) (evneg (by omega) (evc ?_))
    rw [hR]; rfl
  | succ m ih =>
    intro i n acc hi h2 hn hR
    have hlt : i < a.length := by omega
    have r1 := (g.rows i (Nat.zero_le _) hlt).1
    refine evstep (fun k => by rw [impl_PureEquilibria.l0]) (evpos (by omega) (evpos (by omega) (evpos (by omega) ?_)))
    rw [rw_eq, r1]
    refine impl_row g i hlt R (rw_ a 0).length 0 n acc (by omega) h2 (by omega) ?_
    have h3 := rowP_two (a := a) (b := b) (i := i) (rw_ a 0).length 0 n acc h2
    exact ih (i + 1) (n + 4) _ (by omega) ⟨by have := h3.1; omega, h3.2⟩ (by omega) hR
theorem spec_b (i j : Nat) (hi : i < a.length) (hj : j < (rw_ a 0).length) (acc : List (List Int)) (n : Nat) (h2 : Two n acc) (hn : n ≤ 100) (R : List (List Int) × Int) (A : Prop)
    (next : Ev (fun k => spec_PureEquilibria.l1 k (addP a b i j acc) i ((j + 1 : Nat) : Int) a b) R) (hA : A ↔ ∀ u, 0 ≤ u → u < a.length → PA a i j u) :
    ∀ m c (t : Bool), c + m = (rw_ a 0).length → (t = true ↔ A ∧ ∀ d, d < c → PB b i j d) → Ev (fun k => spec_PureEquilibria.l3 k acc i j t c a b) R := by
  have hs := g.same; have hk := g.k4; have hl := g.l4
  have r1 := (g.rows i (Nat.zero_le _) hi).1; have r2 := (g.rows i (Nat.zero_le _) hi).2.1
  have hacc := h2.1
  intro m
  induction m with
  | zero =>
    intro c t hc ht
    refine evstep (fun k => by rw [spec_PureEquilibria.l3]) ?_
    rw [rw_eq]
    refine evpos (by omega) (evpos (by omega) (evneg (by omega) ?_))
    rw [w64 (by omega) (by omega)]
    have hP : IsP a b i j ↔ t = true := by
      rw [ht, hA]
      exact ⟨fun h => ⟨h.1, fun d hd => h.2 d (Nat.zero_le _) (by omega)⟩, fun h => ⟨h.1, fun d _ hd => h.2 d (by omega)⟩⟩
    cases t with
    | true =>
      refine evpos rfl (evpos (by omega) ?_)
      have e : addP a b i j acc = acc ++ [[(i : Int), (j : Int)]] := if_pos (hP.2 rfl)
      rw [e] at next
      exact next
    | false =>
      refine evneg (by simp) ?_
      have e : addP a b i j acc = acc := if_neg (fun h => by have := hP.1 h; cases this)
      rw [e] at next
      exact next
  | succ m ih =>
    intro c t hc ht
    refine evstep (fun k => by rw [spec_PureEquilibria.l3]) ?_
    rw [rw_eq, rw_eq, rd_nat, rd_nat]
    refine evpos (by omega) (evpos (by omega) (evpos (by omega) ?_))
    rw [w64 (by omega) (by omega)]
    cases t with
    | true =>
      refine evpos rfl (evpos (by omega) (evpos (by omega) (evpos (by omega) (evpos (by omega) (evpos (by omega) ?_)))))
      refine ih (c + 1) _ (by omega) ?_
      rw [decide_eq_true_iff]
      have h := ht.1 rfl
      exact ⟨fun e => ⟨h.1, fun d hd => by
        by_cases q : d = c
        · subst q; exact e
        · exact h.2 d (by omega)⟩, fun e => e.2 c (by omega)⟩
    | false =>
      refine evneg (by simp) ?_
      refine ih (c + 1) false (by omega) ⟨(fun h => by cases h), fun h => ht.2 ⟨h.1, fun d hd => h.2 d (by omega)⟩⟩
theorem spec_a (i j : Nat) (hi : i < a.length) (hj : j < (rw_ a 0).length) (acc : List (List Int)) (n : Nat) (h2 : Two n acc) (hn : n ≤ 100) (R : List (List Int) × Int)
    (next : Ev (fun k => spec_PureEquilibria.l1 k (addP a b i j acc) i ((j + 1 : Nat) : Int) a b) R) :
    ∀ m u (t : Bool), u + m = a.length → (t = true ↔ ∀ v, v < u → PA a i j v) → Ev (fun k => spec_PureEquilibria.l2 k acc i j t u a b) R := by
  have hs := g.same; have hk := g.k4; have hl := g.l4
  have r1 := (g.rows i (Nat.zero_le _) hi).1
  intro m
  induction m with
  | zero =>
    intro u t hu ht
    refine evstep (fun k => by rw [spec_PureEquilibria.l2]) (evneg (by omega) ?_)
    refine spec_b g i j hi hj acc n h2 hn R (∀ u, 0 ≤ u → u < a.length → PA a i j u) next Iff.rfl (rw_ a 0).length 0 t (by omega) (ht.trans ⟨fun h => ⟨fun v _ hv => h v (by omega), fun d hd => by omega⟩, fun h v hv => h.1 v (Nat.zero_le _) (by omega)⟩)
  | succ m ih =>
    intro u t hu ht
    have hul : u < a.length := by omega
    have ru := (g.rows u (Nat.zero_le _) hul).1
    refine evstep (fun k => by rw [spec_PureEquilibria.l2]) (evpos (by omega) ?_)
    rw [rw_eq, rw_eq, rd_nat, rd_nat, w64 (by omega) (by omega)]
    cases t with
    | true =>
      refine evpos rfl (evpos (by omega) (evpos (by omega) (evpos (by omega) (evpos (by omega) (evpos (by omega) (evpos (by omega) ?_))))))
      refine ih (u + 1) _ (by omega) ?_
      rw [decide_eq_true_iff]
      have h := ht.1 rfl
      exact ⟨fun e v hv => by
        by_cases q : v = u
        · subst q; exact e
        · exact h v (by omega), fun e => e u (by omega)⟩
    | false =>
      refine evneg (by simp) ?_
      exact ih (u + 1) false (by omega) ⟨(fun h => by cases h), fun h => ht.2 (fun v hv => h v (by omega))⟩
theorem spec_row (i : Nat) (hi : i < a.length) (R : List (List Int) × Int) : ∀ m j n acc, j + m = (rw_ a 0).length → Two n acc → n + m ≤ 100 →
    Ev (fun k => spec_PureEquilibria.l0 k (rowP a b i m j acc) ((i + 1 : Nat) : Int) a b) R → Ev (fun k => spec_PureEquilibria.l1 k acc i j a b) R := by
  have hk := g.k4; have hl := g.l4
  have r1 := (g.rows i (Nat.zero_le _) hi).1
  intro m
  induction m with
  | zero =>
    intro j n acc hj h2 hn next
    refine evstep (fun k => by rw [spec_PureEquilibria.l1]) (evpos (by omega) (evpos (by omega) ?_))
    rw [rw_eq, w64 (by omega) (by omega)]
    exact evneg (by omega) next
  | succ m ih =>
    intro j n acc hj h2 hn next
    have nx := ih (j + 1) (n + 1) (addP a b i j acc) (by omega) (addP_two h2) (by omega) next
    refine evstep (fun k => by rw [spec_PureEquilibria.l1]) (evpos (by omega) (evpos (by omega) ?_))
    rw [rw_eq]
    refine evpos (by omega) ?_
    exact spec_a g i j hi (by omega) acc n h2 (by omega) R nx a.length 0 true (by omega) ⟨fun _ v hv => by omega, fun _ => rfl⟩
theorem spec_rows (R : List (List Int) × Int) : ∀ m i n acc, i + m = a.length → Two n acc → n + 4 * m ≤ 100 → R = (allP a b m i acc, 0) → Ev (fun k => spec_PureEquilibria.l0 k acc i a b) R := by
  have hk := g.k4; have hl := g.l4
  intro m
  induction m with
  | zero =>
    intro i n acc hi h2 hn hR
    refine evstep (fun k => by rw [spec_PureEquilibria.l0]) (evneg (by omega) (evc ?_))
    rw [hR]; rfl
  | succ m ih =>
    intro i n acc hi h2 hn hR
    have hlt : i < a.length := by omega
    refine evstep (fun k => by rw [spec_PureEquilibria.l0]) (evpos (by omega) ?_)
    refine spec_row g i hlt R (rw_ a 0).length 0 n acc (by omega) h2 (by omega) ?_
    have h3 := rowP_two (a := a) (b := b) (i := i) (rw_ a 0).length 0 n acc h2
    exact ih (i + 1) (n + 4) _ (by omega) ⟨by have := h3.1; omega, h3.2⟩ (by omega) hR
end
open Classical in
theorem both (a b : List (List Int)) (ha : a.length ≤ 1048576) (hr : ∀ x ∈ a, x.length ≤ 1048576) : ∃ R : List (List Int) × Int, Ev (fun k => spec_PureEquilibria.f k a b) R ∧ Ev (fun k => impl_PureEquilibria.f k a b) R ∧ Two 16 R.1 := by
  have hb : decide (GameOK a b) = true ↔ GameOK a b := by simp
  by_cases g : GameOK a b
  · have h0 : Two 0 ([] : List (List Int)) := ⟨Nat.le_refl _, fun x hx => by cases hx⟩
    have hk := g.k4
    refine ⟨(allP a b a.length 0 [], 0), ?_, ?_, ?_⟩
    · unfold spec_PureEquilibria.f
      exact evbind (Gm.spec_is a b ha hr _ hb) (evpos (by simpa using g) (spec_rows g _ a.length 0 0 [] (by omega) h0 (by omega) rfl))
    · unfold impl_PureEquilibria.f
      exact evsome (Gm.impl_is a b ha hr _ hb) (evpos (by simpa using g) (impl_rows g _ a.length 0 0 [] (by omega) h0 (by omega) rfl))
    · have := allP_two (a := a) (b := b) g.l4 a.length 0 0 [] h0
      exact ⟨by have := this.1; simp only; omega, this.2⟩
  · refine ⟨([], 1), ?_, ?_, ⟨by simp, fun x hx => by cases hx⟩⟩
    · unfold spec_PureEquilibria.f
      exact evbind (Gm.spec_is a b ha hr _ hb) (evneg (by simpa using g) (evc rfl))
    · unfold impl_PureEquilibria.f
      exact evsome (Gm.impl_is a b ha hr _ hb) (evneg (by simpa using g) (evc rfl))
end Go.Proofs.Ytjjbhdpjnjncbaa.Ge
end

section
/- The laws' helpers at a game. Conditions: as each theorem says. -/
namespace Go.Proofs.Ytjjbhdpjnjncbaa.La
open Go.RowKit Go.Proofs.YtjjbhdpjnjncbaaW.PrintWords Go.Proofs.YtjjbhdpjnjncbaaW.PrintMore Go.Proofs.Ytjjbhdpjnjncbaa.Ma Go.Proofs.Ytjjbhdpjnjncbaa.Pr Go.Proofs.Ytjjbhdpjnjncbaa.Op
set_option linter.unusedVariables false
theorem toG {a b : List (List Int)} (ha : Fit a) (hb : Fit b) : Ev (fun k => laws_toGame.f k a b) (a, b) := by
  unfold laws_toGame.f
  exact evbind (fit_to ha) (evbind (fit_to hb) (evc rfl))
theorem eqG {a b : List (List Int)} (ha : Fit a) (hb : Fit b) : Ev (fun k => laws_eqGame.f k a b a b) true := by
  unfold laws_eqGame.f
  exact evbind (fit_eq ha) (evpos rfl (evbind (fit_eq hb) (evpos rfl (evc rfl))))
theorem szG {a b : List (List Int)} (ga : GoodList (GoodList (GoodInt .i64)) a) (gb : GoodList (GoodList (GoodInt .i64)) b) :
    ∃ t : Int, Ev (fun k => laws_szGame.f k a b 1048576) t ∧ (0 ≤ t → Fit a ∧ Fit b) := by
  have h1 := szSS a ga (n := 1048576) (by decide) (by decide)
  by_cases c : (1048576 : Int) < (tot a : Int)
  · rw [if_pos c] at h1
    exact ⟨-1, by unfold laws_szGame.f; exact evbind h1 (evpos (by decide) (evc rfl)), fun h => by omega⟩
  · rw [if_neg c] at h1
    have h2 := szSS b gb (n := 1048576 - (tot a : Int)) (by omega) (by omega)
    by_cases c2 : (1048576 : Int) - (tot a : Int) < (tot b : Int)
    · rw [if_pos c2] at h2
      exact ⟨-1, by unfold laws_szGame.f; exact evbind h1 (evneg (by omega) (evbind h2 (evpos (by decide) (evc rfl)))), fun h => by omega⟩
    · rw [if_neg c2] at h2
      exact ⟨_, by unfold laws_szGame.f; exact evbind h1 (evneg (by omega) (evbind h2 (evneg (by omega) (evc rfl)))), fun _ => ⟨fit_of (by omega), fit_of (by omega)⟩⟩
/-- A law over a game: at one that is too large it answers at once. -/
theorem lawG {a b : List (List Int)} (ga : GoodList (GoodList (GoodInt .i64)) a) (gb : GoodList (GoodList (GoodInt .i64)) b) {g : Nat → Int → Option Bool} (h : ∀ t, Fit a → Fit b → Ev (fun k => g k t) true) :
    Ev (fun k => (laws_szGame.f k a b 1048576).bind fun t => if t < 0 then some true else g k t) true := by
  obtain ⟨t, ht, hf⟩ := szG ga gb
  refine evbind ht ?_
  by_cases c : t < 0
  · exact evpos c (evc rfl)
  · exact evneg c (h t (hf (by omega)).1 (hf (by omega)).2)
end Go.Proofs.Ytjjbhdpjnjncbaa.La
end

section
/- What the laws' marks do to rows of lists: marked rows are held. Conditions: as each theorem says. -/
namespace Go.Proofs.Ytjjbhdpjnjncbaa.La
open Go.RowKit Go.Proofs.YtjjbhdpjnjncbaaW.PrintWords Go.Proofs.YtjjbhdpjnjncbaaW.PrintMore Go.Proofs.Ytjjbhdpjnjncbaa.Ma Go.Proofs.Ytjjbhdpjnjncbaa.Pr Go.Proofs.Ytjjbhdpjnjncbaa.Hm
set_option linter.unusedVariables false
theorem marks_at : ∀ (l : List (List Int)) (n : Int) (i : Nat) (h : i < l.length), (marks l n).getD i [] = count (n + lens (l.take i)) l[i].length
  | x :: l, n, 0, _ => by simp [marks, lens]
  | x :: l, n, i + 1, h => by
    have := marks_at l (n + x.length) i (by simpa using h)
    simp only [marks, List.getD_cons_succ, this, List.take_succ_cons, lens, List.getElem_cons_succ]
    congr 1
    push_cast
    omega
theorem heldSS (l : List (List Int)) (n : Int) (h0 : 0 ≤ n) (h1 : n + lens l ≤ 1099511627776) (hl : l.length ≤ 1099511627776) : Ev (fun k => laws_heldInt64SS.f k (marks l n) n) (n + lens l) := by
  have key : ∀ m i, i + m = l.length → Ev (fun k => laws_heldInt64SS.l0 k (marks l n) (n + lens (l.take i)) (i : Nat)) (n + lens l) := by
    intro m
    induction m with
    | zero =>
      intro i hi
      refine evstep (fun k => by rw [laws_heldInt64SS.l0]) (evneg (by rw [marks_length]; omega) (evc ?_))
      rw [List.take_of_length_le (by omega)]
    | succ m ih =>
      intro i hi
      have hlt : i < l.length := by omega
      have e1 := lens_take_succ l i hlt
      have e2 := lens_take_le l (i + 1)
      refine evstep (fun k => by rw [laws_heldInt64SS.l0]) (evpos (by rw [marks_length]; omega) (evpos (by omega) ?_))
      rw [rdL, marks_at l n i hlt, w64 (by omega) (by omega)]
      refine evbind (heldI (n + lens (l.take i)) l[i].length (by omega) (by omega) (by omega)) (evneg (by omega) ?_)
      have := ih (i + 1) (by omega)
      rw [show n + (lens (l.take (i + 1)) : Int) = n + lens (l.take i) + l[i].length from by rw [e1]; push_cast; omega] at this
      exact this
  have := key l.length 0 (by omega)
  unfold laws_heldInt64SS.f
  simpa [lens] using this
end Go.Proofs.Ytjjbhdpjnjncbaa.La
end

section
/- PureEquilibria of the program answers as that of the reference, at every game. -/
namespace Go.Proofs.Ytjjbhdpjnjncbaa.Pure
open Go.RowKit Go.Proofs.YtjjbhdpjnjncbaaW.PrintWords Go.Proofs.YtjjbhdpjnjncbaaW.PrintMore Go.Proofs.Ytjjbhdpjnjncbaa.Ma Go.Proofs.Ytjjbhdpjnjncbaa.Pr Go.Proofs.Ytjjbhdpjnjncbaa.La Go.Proofs.Ytjjbhdpjnjncbaa.Hm Go.Proofs.Ytjjbhdpjnjncbaa.Op
theorem fit_lens {l : List (List Int)} (h : tot l ≤ 1048576) : lens l ≤ 1048576 := by unfold tot at h; omega
theorem szG2 {a b : List (List Int)} (ga : GoodList (GoodList (GoodInt .i64)) a) (gb : GoodList (GoodList (GoodInt .i64)) b) :
    ∃ t : Int, Ev (fun k => laws_szGame.f k a b 1048576) t ∧ (0 ≤ t → tot a ≤ 1048576 ∧ tot b ≤ 1048576) := by
  have h1 := szSS a ga (n := 1048576) (by decide) (by decide)
  by_cases c : (1048576 : Int) < (tot a : Int)
  · rw [if_pos c] at h1
    exact ⟨-1, by unfold laws_szGame.f; exact evbind h1 (evpos (by decide) (evc rfl)), fun h => by omega⟩
  · rw [if_neg c] at h1
    have h2 := szSS b gb (n := 1048576 - (tot a : Int)) (by omega) (by omega)
    by_cases c2 : (1048576 : Int) - (tot a : Int) < (tot b : Int)
    · rw [if_pos c2] at h2
      exact ⟨-1, by unfold laws_szGame.f; exact evbind h1 (evneg (by omega) (evbind h2 (evpos (by decide) (evc rfl)))), fun h => by omega⟩
    · rw [if_neg c2] at h2
      exact ⟨_, by unfold laws_szGame.f; exact evbind h1 (evneg (by omega) (evbind h2 (evneg (by omega) (evc rfl)))), fun _ => ⟨by omega, by omega⟩⟩
theorem FnExactPureEquilibria : Say.FnExactPureEquilibria := by
  intro a b ga gb
  obtain ⟨t, ⟨k0, ht⟩, hf⟩ := szG2 ga gb
  by_cases c : t < 0
  · refine ⟨k0, ?_⟩
    unfold laws_FnExactPureEquilibria.f
    rw [if_pos]
    exact .inr ⟨t, ht _ (Nat.le_refl _), c⟩
  · obtain ⟨ta, tb⟩ := hf (by omega)
    have fa := fit_of ta; have fb := fit_of tb; have la := fit_lens ta; have lb := fit_lens tb; have na := fa.len; have nb := fb.len
    obtain ⟨R, ⟨k1, e1⟩, ⟨k2, e2⟩, h2⟩ := Ge.both a b fa.len fa.row
    have hl := Ge.two_lens R.1 h2.2
    have h3 := h2.1
    have fr : Fit R.1 := ⟨by omega, fun x hx => by rw [h2.2 x hx]; decide⟩
    obtain ⟨k3, e3⟩ := fit_to fa
    obtain ⟨k4, e4⟩ := fit_to fb
    obtain ⟨k5, e5⟩ := fit_eq fr
    obtain ⟨k6, e6⟩ := eqG fa fb
    obtain ⟨k7, e7⟩ := heldSS R.1 1 (by decide) (by omega) (by omega)
    refine ⟨k0 + k1 + k2 + k3 + k4 + k5 + k6 + k7, ?_⟩
    unfold laws_FnExactPureEquilibria.f
    rw [if_pos]
    exact .inl ⟨t, R.1, R.2, _, _, ht _ (by omega), c, ⟨e3 _ (by omega), e4 _ (by omega)⟩, e1 _ (by omega), e2 _ (by omega), e5 _ (by omega), e6 _ (by omega), rfl, by omega, by omega, by omega, by omega, rfl, by omega, by omega, by omega, e7 _ (by omega)⟩
end Go.Proofs.Ytjjbhdpjnjncbaa.Pure
end

section
/- The law FnExactPureEquilibria, for every input: the program answers true and leaves its arguments as they were. Conditions: none beyond the row's own. -/
namespace Go.Proofs.Ytjjbhdpjnjncbaa.fnExactPureEquilibria
open Go.ChangeShapes Go.WideShapes Go.ChangeAt Go.RowKit Go.Proofs.Ytjjbhdpjnjncbaa.Op Go.Proofs.YtjjbhdpjnjncbaaW.PrintWords
set_option linter.unusedVariables false
theorem own : ownKnob Try.prog.godebug = none := by kernel_rfl
theorem laidOut : laidOutB Try.prog = true := by kernel_rfl
set_option maxRecDepth 100000 in
theorem lifted (os : Os) (started : os.Started) (H : Type) (enc : TypeId × Value → H) :
    ReturnsInHanded {} Try.checked os 5 .any (Rows.fnExactPureEquilibriaSpec.pre6 enc Try.prog Try.f5 Rows.fnExactPureEquilibriaRow.domain false) (Rows.fnExactPureEquilibriaSpec.post enc Try.prog Try.f5 false true false false) := by
  refine returnsInHanded_of_change_sized (C := Try.checked) own started (by kernel_rfl) Try.func5
    (ChangeSpec.witness6 (enc := enc) (C := Try.checked) false ⟨#[], #[.agg #[.slice none 0 0, .slice none 0 0]], []⟩ 8 (by kernel_rfl) (by kernel_rfl) (by kernel_rfl) (by kernel_rfl)) ?_
  intro W base args ds gs before hval0 hW hcnd hsz0 _
  have hval : ∀ (j : Nat) t v, Try.f5.params[j]? = some t → args[j]? = some v → Value.okWide Try.prog W .any base t v := hval0
  have hW' := hW
  obtain ⟨p, q, hA0, hV, rfl, hfz, hnd⟩ := hW
  have hA : DataW.TrodAll enc Try.prog W 0 (fun _ => true) true Try.f5.params.toList args.toList ds p := hA0
  rw [Try.params5] at hA hval
  obtain ⟨v0, vs0, d0, ds0, p0, q0, hargs, rfl, rfl, h0, r0⟩ := trodAll_cons hA
  obtain ⟨rfl, rfl, rfl⟩ := trodAll_nil r0
  obtain rfl : args = #[v0] := by cases args; simp_all
  obtain ⟨rfl, rfl⟩ := trodVars_none hV
  have k0 := h0
  have lt0 := trod_blocks k0
  obtain ⟨⟨x0_0, x0_1⟩, cs0, rfl, hk0, g0⟩ := arg_struct Try.underlying24 (opens_struct2 Try.underlying24 ⟨by kernel_rfl, by kernel_rfl⟩ ⟨by kernel_rfl, by kernel_rfl⟩ (by kernel_rfl) (opens_slice Try.underlying22 (by kernel_rfl) (opens_slice Try.underlying33 (by kernel_rfl) (opens_int Try.underlying2))) (opens_slice Try.underlying22 (by kernel_rfl) (opens_slice Try.underlying33 (by kernel_rfl) (opens_int Try.underlying2))) id (Kd.pair (Kd.slice 33 (Kd.slice 2 (Kd.int .i64))) (Kd.slice 33 (Kd.slice 2 (Kd.int .i64)))) (fun _ _ _ h => h) (fun x => (GoodList (GoodList (GoodInt .i64))) x.1 ∧ (GoodList (GoodList (GoodInt .i64))) x.2) (fun _ h0 h1 => ⟨h0, h1⟩)) (hval 0 24 v0 rfl rfl) h0
  obtain ⟨A0_0, c0_0, A0_1, c0_1, rfl, q0_0, r0_0, q0_1, r0_1⟩ := cells_slice_slice hk0
  obtain ⟨k, h⟩ := Pure.FnExactPureEquilibria x0_0 x0_1 g0.1 g0.2
  clear hA0 hval0 hsz0
  refine (Pr.laws_FnExactPureEquilibria.calls k A0_0 c0_0 x0_0 A0_1 c0_1 x0_1 true W r0_0 q0_0 r0_1 q0_1 h).mono ?_
  rintro e W' ⟨rfl, bel0⟩
  have bel : Below W.heap.size W W' := by first | exact bel0 | exact bel0.below
  exact ⟨_, rfl, _, _, _, [], _, [], hW', trodAll_mk1 (shut_bool Try.underlying4 _), (trodAll_cons_mk (Below.trod laidOut (by kernel_rfl) (of_decide_eq_true (by kernel_rfl)) k0 bel lt0) trodAll_mk0), rfl, bel.frame _, fun h => by cases h⟩
theorem over : Rows.fnExactPureEquilibriaRow.holds Try.pinned (OpenSpec.ofChange Rows.fnExactPureEquilibriaSpec) :=
  OpenClaim.holds_of_wide 5 Try.f5 rfl rfl rfl rfl rfl rfl rfl ⟨rfl, rfl, rfl, rfl, rfl⟩ rfl rfl rfl rfl rfl (by kernel_rfl) Try.func5 (by kernel_rfl)
    (of_decide_eq_true (by kernel_rfl)) (by unfold Func.isWrapper; first | (rw [if_pos (by decide +kernel)]; kernel_rfl) | (rw [if_neg (by decide +kernel)]; exact ⟨rfl, rfl⟩))
    (fun os started H enc _ => lifted os started H enc)
theorem proved : Rows.FnExactPureEquilibriaSaid := over
#print axioms proved
end Go.Proofs.Ytjjbhdpjnjncbaa.fnExactPureEquilibria
namespace Go.Proofs.Ytjjbhdpjnjncbaa
/-- The row, under a short name, for the claim. -/
theorem fnExactPureEquilibria_holds : Rows.FnExactPureEquilibriaSaid := fnExactPureEquilibria.proved
end Go.Proofs.Ytjjbhdpjnjncbaa
end
