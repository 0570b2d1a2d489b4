/- Texts of one claim, joined in the order of their imports by this session's own program (merge.py). -/
import Derived.Test.YtjjbhdpjnjncbaaRows
import Derived.WalkKit
import Derived.ProofKit
import Derived.OpenShut
import Derived.ShutString
import Derived.ChangeOld
import Derived.Below
import Derived.SizedLaws
import Derived.Test.YtjjbhdpjnjncbaaJnFnExactExchangePlayers0
import Derived.Test.YtjjbhdpjnjncbaaJnFnExactExchangePlayers1

section
/- Two functions that make a game, walked: what they make lies in two stretches of the memory. Written by this session's own program (lawwalk.py). -/
namespace Go.Proofs.Ytjjbhdpjnjncbaa.Pr
open Go.RowKit Go.Proofs.YtjjbhdpjnjncbaaW.PrintWords Go.Proofs.YtjjbhdpjnjncbaaW.PrintLast Go.Proofs.YtjjbhdpjnjncbaaW.PrintMore Go.Proofs.Ytjjbhdpjnjncbaa.La Go.Proofs.Ytjjbhdpjnjncbaa.Hm Go.Proofs.Ytjjbhdpjnjncbaa.Lw
set_option linter.unusedVariables false
set_option linter.unusedSimpArgs false
set_option maxHeartbeats 8000000 in
set_option maxRecDepth 100000 in
theorem laws_toGame.walk2 (k : Nat) (A0_0 : Option Addr) (c0_0 : Nat) (l0_0 : List (List Int)) (A0_1 : Option Addr) (c0_1 : Nat) (l0_1 : List (List Int))  (w : World) (hr0_0 : Kd.C (Kd.slice 2 (Kd.int .i64)) w A0_0 l0_0.length l0_0) (hc0_0 : l0_0.length ≤ c0_0) (hr0_1 : Kd.C (Kd.slice 2 (Kd.int .i64)) w A0_1 l0_1.length l0_1) (hc0_1 : l0_1.length ≤ c0_1) (h1 : laws_toInt64SS.f k l0_0 = some l0_0) (h2 : laws_toInt64SS.f k l0_1 = some l0_1) :
    Calls Try.prog 17 #[.agg #[.slice A0_0 l0_0.length c0_0, .slice A0_1 l0_1.length c0_1]] w fun e w' => ∃ v0_ v1_ : Value, e = .returned (.agg #[v0_, v1_]) ∧ UG w w' w.heap.size w'.heap.size v0_ v1_ l0_0 l0_1 ∧ Below w.heap.size w w' := by
  have HR0_0 := Aside0.mk hr0_0
  have HC0_0 := Aside0.mk hc0_0
  clear hr0_0 hc0_0
  have HR0_1 := Aside0.mk hr0_1
  have HC0_1 := Aside0.mk hc0_1
  clear hr0_1 hc0_1
  have HB := Aside0.mk (Below.refl w.heap.size w)
  have H1' := Aside0.mk h1
  clear h1
  have H2' := Aside0.mk h2
  clear h2
  go_enter Try.func17, Try.ntmps17
  go_wp2_with (first | ((with_reducible refine gate_dst (N := 1) rfl ?_); refine box_event ?hg (N := 1) ?hd (cs := #[.slice A0_0 l0_0.length c0_0, .slice A0_1 l0_1.length c0_1]) (t := 24) ?hr ?_; (case hd => rfl); (case hg => rfl); (case hr => first | (go_simp; done) | (go_simp; rfl)); intro g1 hg w1 hbox hb; have Gg1 : Aside0 (g1 = w.heap.size) := ⟨hg⟩; have Kg1 := Aside0.mk (blk_lt hbox); clear hg; have n_HB := Aside0.mk (below_step HB.out hb); have NN1 : Aside0 (w.heap.size ≤ w1.heap.size) := ⟨hb.size⟩; clear HB; have HB := n_HB; clear n_HB; have Bg1 := Aside0.mk hbox; clear hb hbox; have hc1_0 : w1.cell? ⟨g1, 0, none⟩ = some (.slice A0_0 l0_0.length c0_0) := (blk_cell Bg1.out 0).trans rfl; have hf1_0 := blk_frozen Bg1.out 0; have hc1_1 : w1.cell? ⟨g1, 1, none⟩ = some (.slice A0_1 l0_1.length c0_1) := (blk_cell Bg1.out 1).trans rfl; have hf1_1 := blk_frozen Bg1.out 1) | ((with_reducible refine gate_dst (N := 2) rfl ?_); refine box_event ?hg (N := 2) ?hd (cs := #[.slice none 0 0, .slice none 0 0]) (t := 26) ?hr ?_; (case hd => rfl); (case hg => rfl); (case hr => first | (go_simp; done) | (go_simp; rfl)); intro g2 hg w2 hbox hb; have Gg2 : Aside0 (g2 = w1.heap.size) := ⟨hg⟩; have Kg2 := Aside0.mk (blk_lt hbox); clear hg; have n_Bg1 := Aside0.mk (blk_below Bg1.out hb); have n_HB := Aside0.mk (below_step HB.out hb); have NN2 : Aside0 (w1.heap.size ≤ w2.heap.size) := ⟨hb.size⟩; clear hc1_0 hf1_0; clear hc1_1 hf1_1; clear Bg1 HB; have Bg1 := n_Bg1; have HB := n_HB; clear n_Bg1 n_HB; have Bg2 := Aside0.mk hbox; clear hb hbox; have hc1_0 : w2.cell? ⟨g1, 0, none⟩ = some (.slice A0_0 l0_0.length c0_0) := (blk_cell Bg1.out 0).trans rfl; have hf1_0 := blk_frozen Bg1.out 0; have hc1_1 : w2.cell? ⟨g1, 1, none⟩ = some (.slice A0_1 l0_1.length c0_1) := (blk_cell Bg1.out 1).trans rfl; have hf1_1 := blk_frozen Bg1.out 1; have hc2_0 : w2.cell? ⟨g2, 0, none⟩ = some (.slice none 0 0) := (blk_cell Bg2.out 0).trans rfl; have hf2_0 := blk_frozen Bg2.out 0; have hc2_1 : w2.cell? ⟨g2, 1, none⟩ = some (.slice none 0 0) := (blk_cell Bg2.out 1).trans rfl; have hf2_1 := blk_frozen Bg2.out 1) | ((with_reducible refine gate_dst (N := 3) rfl ?_); refine box_event ?hg (N := 3) ?hd (cs := #[.slice none 0 0, .slice none 0 0]) (t := 26) ?hr ?_; (case hd => rfl); (case hg => rfl); (case hr => first | (go_simp; done) | (go_simp; rfl)); intro g3 hg w3 hbox hb; have Gg3 : Aside0 (g3 = w2.heap.size) := ⟨hg⟩; have Kg3 := Aside0.mk (blk_lt hbox); clear hg; have n_Bg1 := Aside0.mk (blk_below Bg1.out hb); have n_Bg2 := Aside0.mk (blk_below Bg2.out hb); have n_HB := Aside0.mk (below_step HB.out hb); have NN3 : Aside0 (w2.heap.size ≤ w3.heap.size) := ⟨hb.size⟩; clear hc1_0 hf1_0; clear hc1_1 hf1_1; clear hc2_0 hf2_0; clear hc2_1 hf2_1; clear Bg1 Bg2 HB; have Bg1 := n_Bg1; have Bg2 := n_Bg2; have HB := n_HB; clear n_Bg1 n_Bg2 n_HB; have Bg3 := Aside0.mk hbox; clear hb hbox; have hc1_0 : w3.cell? ⟨g1, 0, none⟩ = some (.slice A0_0 l0_0.length c0_0) := (blk_cell Bg1.out 0).trans rfl; have hf1_0 := blk_frozen Bg1.out 0; have hc1_1 : w3.cell? ⟨g1, 1, none⟩ = some (.slice A0_1 l0_1.length c0_1) := (blk_cell Bg1.out 1).trans rfl; have hf1_1 := blk_frozen Bg1.out 1; have hc2_0 : w3.cell? ⟨g2, 0, none⟩ = some (.slice none 0 0) := (blk_cell Bg2.out 0).trans rfl; have hf2_0 := blk_frozen Bg2.out 0; have hc2_1 : w3.cell? ⟨g2, 1, none⟩ = some (.slice none 0 0) := (blk_cell Bg2.out 1).trans rfl; have hf2_1 := blk_frozen Bg2.out 1; have hc3_0 : w3.cell? ⟨g3, 0, none⟩ = some (.slice none 0 0) := (blk_cell Bg3.out 0).trans rfl; have hf3_0 := blk_frozen Bg3.out 0; have hc3_1 : w3.cell? ⟨g3, 1, none⟩ = some (.slice none 0 0) := (blk_cell Bg3.out 1).trans rfl; have hf3_1 := blk_frozen Bg3.out 1) | ((with_reducible refine gate_callee (f := 69) rfl ?_); refine goesL_ (some 6) rfl rfl Try.func69 (by kernel_rfl) rfl #[.slice A0_0 l0_0.length c0_0] rfl (by (try simp only [List.map_toArray, List.map_cons, List.map_nil]); first | done | rfl) ?_; refine (laws_toInt64SS.calls k _ _ l0_0 l0_0 _ ?s1 ?s2 H1'.out).mono ?_; (case s1 => exact Kd.C_below HR0_0.out HB.out); (case s2 => exact HC0_0.out); rintro e w4 ⟨v6_0, rfl, ho0, hb⟩; refine ⟨_, rfl, ?_⟩; have nu0 := Aside0.mk (US.of ho0 HB.out.size); have n_Bg1 := Aside0.mk (blk_below Bg1.out hb); have n_Bg2 := Aside0.mk (blk_below Bg2.out hb); have n_Bg3 := Aside0.mk (blk_below Bg3.out hb); have n_HB := Aside0.mk (below_step HB.out hb); have NN4 : Aside0 (w3.heap.size ≤ w4.heap.size) := ⟨hb.size⟩; clear hc1_0 hf1_0; clear hc1_1 hf1_1; clear hc2_0 hf2_0; clear hc2_1 hf2_1; clear hc3_0 hf3_0; clear hc3_1 hf3_1; clear Bg1 Bg2 Bg3 HB; have Bg1 := n_Bg1; have Bg2 := n_Bg2; have Bg3 := n_Bg3; have HB := n_HB; clear n_Bg1 n_Bg2 n_Bg3 n_HB; clear hb ho0; have U6_0 := nu0; clear nu0; obtain ⟨A6_0, c6_0, e0⟩ := Kd.S_slice U6_0.out; subst e0; have hc1_0 : w4.cell? ⟨g1, 0, none⟩ = some (.slice A0_0 l0_0.length c0_0) := (blk_cell Bg1.out 0).trans rfl; have hf1_0 := blk_frozen Bg1.out 0; have hc1_1 : w4.cell? ⟨g1, 1, none⟩ = some (.slice A0_1 l0_1.length c0_1) := (blk_cell Bg1.out 1).trans rfl; have hf1_1 := blk_frozen Bg1.out 1; have hc2_0 : w4.cell? ⟨g2, 0, none⟩ = some (.slice none 0 0) := (blk_cell Bg2.out 0).trans rfl; have hf2_0 := blk_frozen Bg2.out 0; have hc2_1 : w4.cell? ⟨g2, 1, none⟩ = some (.slice none 0 0) := (blk_cell Bg2.out 1).trans rfl; have hf2_1 := blk_frozen Bg2.out 1; have hc3_0 : w4.cell? ⟨g3, 0, none⟩ = some (.slice none 0 0) := (blk_cell Bg3.out 0).trans rfl; have hf3_0 := blk_frozen Bg3.out 0; have hc3_1 : w4.cell? ⟨g3, 1, none⟩ = some (.slice none 0 0) := (blk_cell Bg3.out 1).trans rfl; have hf3_1 := blk_frozen Bg3.out 1) | ((with_reducible refine gate_store (t := 22) (p := 7) rfl ?_); refine store_event (t := 22) (p := 7) (v := ?vo_w5) (w1 := (w4.setCell ⟨g3, 0, none⟩ (.slice A6_0 l0_0.length c6_0))) ?hg ?ho ?hn ?hr ?_; (case ho => rfl); (case hg => rfl); (case hn => rfl); (case hr => first | (go_simp; done) | (go_simp; rfl)); intro w5 hw; have hge : w.heap.size ≤ g3 := (by have := NN1.out; have := Gg1.out; have := Kg1.out; have := NN2.out; have := Gg2.out; have := Kg2.out; have := NN3.out; have := Gg3.out; have := Kg3.out; have := NN4.out; have := HB.out.size; omega); have hF : Frm w4 w5 g3 (g3 + 1) := (by rw [hw]; exact Frm.set _ _ _ _); have nb := Aside0.mk (show w5.heap[g3]? = some (.cells #[.slice A6_0 l0_0.length c6_0, .slice none 0 0] 26 (0, 0)) from (by rw [hw]; exact blk_put Bg3.out 0 _ rfl)); have n_U6_0 := Aside0.mk (U6_0.out.mv hF (by have := NN1.out; have := Gg1.out; have := Kg1.out; have := NN2.out; have := Gg2.out; have := Kg2.out; have := NN3.out; have := Gg3.out; have := Kg3.out; have := NN4.out; omega)); have n_Bg1 := Aside0.mk ((hF.same g1 (blk_lt Bg1.out) (by have := NN1.out; have := Gg1.out; have := Kg1.out; have := NN2.out; have := Gg2.out; have := Kg2.out; have := NN3.out; have := Gg3.out; have := Kg3.out; have := NN4.out; omega)).trans Bg1.out); have n_Bg2 := Aside0.mk ((hF.same g2 (blk_lt Bg2.out) (by have := NN1.out; have := Gg1.out; have := Kg1.out; have := NN2.out; have := Gg2.out; have := Kg2.out; have := NN3.out; have := Gg3.out; have := Kg3.out; have := NN4.out; omega)).trans Bg2.out); have n_HB := Aside0.mk ((by rw [hw]; exact below_set HB.out hge : Below w.heap.size w w5)); have NN5 : Aside0 (w4.heap.size ≤ w5.heap.size) := ⟨hF.size⟩; clear hc1_0 hf1_0; clear hc1_1 hf1_1; clear hc2_0 hf2_0; clear hc2_1 hf2_1; clear hc3_0 hf3_0; clear hc3_1 hf3_1; clear U6_0 Bg1 Bg2 HB; have U6_0 := n_U6_0; have Bg1 := n_Bg1; have Bg2 := n_Bg2; have HB := n_HB; clear n_U6_0 n_Bg1 n_Bg2 n_HB; clear Bg3; have Bg3 := nb; clear nb hF hge hw; have hc1_0 : w5.cell? ⟨g1, 0, none⟩ = some (.slice A0_0 l0_0.length c0_0) := (blk_cell Bg1.out 0).trans rfl; have hf1_0 := blk_frozen Bg1.out 0; have hc1_1 : w5.cell? ⟨g1, 1, none⟩ = some (.slice A0_1 l0_1.length c0_1) := (blk_cell Bg1.out 1).trans rfl; have hf1_1 := blk_frozen Bg1.out 1; have hc2_0 : w5.cell? ⟨g2, 0, none⟩ = some (.slice none 0 0) := (blk_cell Bg2.out 0).trans rfl; have hf2_0 := blk_frozen Bg2.out 0; have hc2_1 : w5.cell? ⟨g2, 1, none⟩ = some (.slice none 0 0) := (blk_cell Bg2.out 1).trans rfl; have hf2_1 := blk_frozen Bg2.out 1; have hc3_0 : w5.cell? ⟨g3, 0, none⟩ = some (.slice A6_0 l0_0.length c6_0) := (blk_cell Bg3.out 0).trans rfl; have hf3_0 := blk_frozen Bg3.out 0; have hc3_1 : w5.cell? ⟨g3, 1, none⟩ = some (.slice none 0 0) := (blk_cell Bg3.out 1).trans rfl; have hf3_1 := blk_frozen Bg3.out 1) | ((with_reducible refine gate_callee (f := 69) rfl ?_); refine goesL_ (some 10) rfl rfl Try.func69 (by kernel_rfl) rfl #[.slice A0_1 l0_1.length c0_1] rfl (by (try simp only [List.map_toArray, List.map_cons, List.map_nil]); first | done | rfl) ?_; refine (laws_toInt64SS.calls k _ _ l0_1 l0_1 _ ?s1 ?s2 H2'.out).mono ?_; (case s1 => exact Kd.C_below HR0_1.out HB.out); (case s2 => exact HC0_1.out); rintro e w6 ⟨v10_0, rfl, ho0, hb⟩; refine ⟨_, rfl, ?_⟩; have nu0 := Aside0.mk (US.of ho0 HB.out.size); have n_U6_0 := Aside0.mk (U6_0.out.mvB (Frm.below hb)); have n_Bg1 := Aside0.mk (blk_below Bg1.out hb); have n_Bg2 := Aside0.mk (blk_below Bg2.out hb); have n_Bg3 := Aside0.mk (blk_below Bg3.out hb); have n_HB := Aside0.mk (below_step HB.out hb); have NN6 : Aside0 (w5.heap.size ≤ w6.heap.size) := ⟨hb.size⟩; clear hc1_0 hf1_0; clear hc1_1 hf1_1; clear hc2_0 hf2_0; clear hc2_1 hf2_1; clear hc3_0 hf3_0; clear hc3_1 hf3_1; clear U6_0 Bg1 Bg2 Bg3 HB; have U6_0 := n_U6_0; have Bg1 := n_Bg1; have Bg2 := n_Bg2; have Bg3 := n_Bg3; have HB := n_HB; clear n_U6_0 n_Bg1 n_Bg2 n_Bg3 n_HB; clear hb ho0; have U10_0 := nu0; clear nu0; obtain ⟨A10_0, c10_0, e0⟩ := Kd.S_slice U10_0.out; subst e0; have hc1_0 : w6.cell? ⟨g1, 0, none⟩ = some (.slice A0_0 l0_0.length c0_0) := (blk_cell Bg1.out 0).trans rfl; have hf1_0 := blk_frozen Bg1.out 0; have hc1_1 : w6.cell? ⟨g1, 1, none⟩ = some (.slice A0_1 l0_1.length c0_1) := (blk_cell Bg1.out 1).trans rfl; have hf1_1 := blk_frozen Bg1.out 1; have hc2_0 : w6.cell? ⟨g2, 0, none⟩ = some (.slice none 0 0) := (blk_cell Bg2.out 0).trans rfl; have hf2_0 := blk_frozen Bg2.out 0; have hc2_1 : w6.cell? ⟨g2, 1, none⟩ = some (.slice none 0 0) := (blk_cell Bg2.out 1).trans rfl; have hf2_1 := blk_frozen Bg2.out 1; have hc3_0 : w6.cell? ⟨g3, 0, none⟩ = some (.slice A6_0 l0_0.length c6_0) := (blk_cell Bg3.out 0).trans rfl; have hf3_0 := blk_frozen Bg3.out 0; have hc3_1 : w6.cell? ⟨g3, 1, none⟩ = some (.slice none 0 0) := (blk_cell Bg3.out 1).trans rfl; have hf3_1 := blk_frozen Bg3.out 1) | ((with_reducible refine gate_store (t := 22) (p := 11) rfl ?_); refine store_event (t := 22) (p := 11) (v := ?vo_w7) (w1 := (w6.setCell ⟨g3, 1, none⟩ (.slice A10_0 l0_1.length c10_0))) ?hg ?ho ?hn ?hr ?_; (case ho => rfl); (case hg => rfl); (case hn => rfl); (case hr => first | (go_simp; done) | (go_simp; rfl)); intro w7 hw; have hge : w.heap.size ≤ g3 := (by have := NN1.out; have := Gg1.out; have := Kg1.out; have := NN2.out; have := Gg2.out; have := Kg2.out; have := NN3.out; have := Gg3.out; have := Kg3.out; have := NN4.out; have := NN5.out; have := NN6.out; have := HB.out.size; omega); have hF : Frm w6 w7 g3 (g3 + 1) := (by rw [hw]; exact Frm.set _ _ _ _); have nb := Aside0.mk (show w7.heap[g3]? = some (.cells #[.slice A6_0 l0_0.length c6_0, .slice A10_0 l0_1.length c10_0] 26 (0, 0)) from (by rw [hw]; exact blk_put Bg3.out 1 _ rfl)); have n_U6_0 := Aside0.mk (U6_0.out.mv hF (by have := NN1.out; have := Gg1.out; have := Kg1.out; have := NN2.out; have := Gg2.out; have := Kg2.out; have := NN3.out; have := Gg3.out; have := Kg3.out; have := NN4.out; have := NN5.out; have := NN6.out; omega)); have n_U10_0 := Aside0.mk (U10_0.out.mv hF (by have := NN1.out; have := Gg1.out; have := Kg1.out; have := NN2.out; have := Gg2.out; have := Kg2.out; have := NN3.out; have := Gg3.out; have := Kg3.out; have := NN4.out; have := NN5.out; have := NN6.out; omega)); have n_Bg1 := Aside0.mk ((hF.same g1 (blk_lt Bg1.out) (by have := NN1.out; have := Gg1.out; have := Kg1.out; have := NN2.out; have := Gg2.out; have := Kg2.out; have := NN3.out; have := Gg3.out; have := Kg3.out; have := NN4.out; have := NN5.out; have := NN6.out; omega)).trans Bg1.out); have n_Bg2 := Aside0.mk ((hF.same g2 (blk_lt Bg2.out) (by have := NN1.out; have := Gg1.out; have := Kg1.out; have := NN2.out; have := Gg2.out; have := Kg2.out; have := NN3.out; have := Gg3.out; have := Kg3.out; have := NN4.out; have := NN5.out; have := NN6.out; omega)).trans Bg2.out); have n_HB := Aside0.mk ((by rw [hw]; exact below_set HB.out hge : Below w.heap.size w w7)); have NN7 : Aside0 (w6.heap.size ≤ w7.heap.size) := ⟨hF.size⟩; clear hc1_0 hf1_0; clear hc1_1 hf1_1; clear hc2_0 hf2_0; clear hc2_1 hf2_1; clear hc3_0 hf3_0; clear hc3_1 hf3_1; clear U6_0 U10_0 Bg1 Bg2 HB; have U6_0 := n_U6_0; have U10_0 := n_U10_0; have Bg1 := n_Bg1; have Bg2 := n_Bg2; have HB := n_HB; clear n_U6_0 n_U10_0 n_Bg1 n_Bg2 n_HB; clear Bg3; have Bg3 := nb; clear nb hF hge hw; have hc1_0 : w7.cell? ⟨g1, 0, none⟩ = some (.slice A0_0 l0_0.length c0_0) := (blk_cell Bg1.out 0).trans rfl; have hf1_0 := blk_frozen Bg1.out 0; have hc1_1 : w7.cell? ⟨g1, 1, none⟩ = some (.slice A0_1 l0_1.length c0_1) := (blk_cell Bg1.out 1).trans rfl; have hf1_1 := blk_frozen Bg1.out 1; have hc2_0 : w7.cell? ⟨g2, 0, none⟩ = some (.slice none 0 0) := (blk_cell Bg2.out 0).trans rfl; have hf2_0 := blk_frozen Bg2.out 0; have hc2_1 : w7.cell? ⟨g2, 1, none⟩ = some (.slice none 0 0) := (blk_cell Bg2.out 1).trans rfl; have hf2_1 := blk_frozen Bg2.out 1; have hc3_0 : w7.cell? ⟨g3, 0, none⟩ = some (.slice A6_0 l0_0.length c6_0) := (blk_cell Bg3.out 0).trans rfl; have hf3_0 := blk_frozen Bg3.out 0; have hc3_1 : w7.cell? ⟨g3, 1, none⟩ = some (.slice A10_0 l0_1.length c10_0) := (blk_cell Bg3.out 1).trans rfl; have hf3_1 := blk_frozen Bg3.out 1) | ((with_reducible refine gate_store (t := 26) (p := 2) rfl ?_); refine store_event (t := 26) (p := 2) (v := ?vo_w8) (w1 := ((w7.setCell ⟨g2, 0, none⟩ (.slice A6_0 l0_0.length c6_0)).setCell ⟨g2, 1, none⟩ (.slice A10_0 l0_1.length c10_0))) ?hg ?ho ?hn ?hr ?_; (case ho => rfl); (case hg => rfl); (case hn => rfl); (case hr => first | (go_simp; done) | (go_simp; rfl)); intro w8 hw; have hge : w.heap.size ≤ g2 := (by have := NN1.out; have := Gg1.out; have := Kg1.out; have := NN2.out; have := Gg2.out; have := Kg2.out; have := NN3.out; have := Gg3.out; have := Kg3.out; have := NN4.out; have := NN5.out; have := NN6.out; have := NN7.out; have := HB.out.size; omega); have hF : Frm w7 w8 g2 (g2 + 1) := (by rw [hw]; exact (Frm.trans (Frm.set _ _ _ _) (Frm.set _ _ _ _))); have nb := Aside0.mk (show w8.heap[g2]? = some (.cells #[.slice A6_0 l0_0.length c6_0, .slice A10_0 l0_1.length c10_0] 26 (0, 0)) from (by rw [hw]; exact (blk_put (blk_put Bg2.out 0 _ rfl) 1 _ rfl))); have n_U6_0 := Aside0.mk (U6_0.out.mv hF (by have := NN1.out; have := Gg1.out; have := Kg1.out; have := NN2.out; have := Gg2.out; have := Kg2.out; have := NN3.out; have := Gg3.out; have := Kg3.out; have := NN4.out; have := NN5.out; have := NN6.out; have := NN7.out; omega)); have n_U10_0 := Aside0.mk (U10_0.out.mv hF (by have := NN1.out; have := Gg1.out; have := Kg1.out; have := NN2.out; have := Gg2.out; have := Kg2.out; have := NN3.out; have := Gg3.out; have := Kg3.out; have := NN4.out; have := NN5.out; have := NN6.out; have := NN7.out; omega)); have n_Bg1 := Aside0.mk ((hF.same g1 (blk_lt Bg1.out) (by have := NN1.out; have := Gg1.out; have := Kg1.out; have := NN2.out; have := Gg2.out; have := Kg2.out; have := NN3.out; have := Gg3.out; have := Kg3.out; have := NN4.out; have := NN5.out; have := NN6.out; have := NN7.out; omega)).trans Bg1.out); have n_Bg3 := Aside0.mk ((hF.same g3 (blk_lt Bg3.out) (by have := NN1.out; have := Gg1.out; have := Kg1.out; have := NN2.out; have := Gg2.out; have := Kg2.out; have := NN3.out; have := Gg3.out; have := Kg3.out; have := NN4.out; have := NN5.out; have := NN6.out; have := NN7.out; omega)).trans Bg3.out); have n_HB := Aside0.mk ((by rw [hw]; exact (below_set (below_set HB.out hge) hge) : Below w.heap.size w w8)); have NN8 : Aside0 (w7.heap.size ≤ w8.heap.size) := ⟨hF.size⟩; clear hc1_0 hf1_0; clear hc1_1 hf1_1; clear hc2_0 hf2_0; clear hc2_1 hf2_1; clear hc3_0 hf3_0; clear hc3_1 hf3_1; clear U6_0 U10_0 Bg1 Bg3 HB; have U6_0 := n_U6_0; have U10_0 := n_U10_0; have Bg1 := n_Bg1; have Bg3 := n_Bg3; have HB := n_HB; clear n_U6_0 n_U10_0 n_Bg1 n_Bg3 n_HB; clear Bg2; have Bg2 := nb; clear nb hF hge hw; have hc1_0 : w8.cell? ⟨g1, 0, none⟩ = some (.slice A0_0 l0_0.length c0_0) := (blk_cell Bg1.out 0).trans rfl; have hf1_0 := blk_frozen Bg1.out 0; have hc1_1 : w8.cell? ⟨g1, 1, none⟩ = some (.slice A0_1 l0_1.length c0_1) := (blk_cell Bg1.out 1).trans rfl; have hf1_1 := blk_frozen Bg1.out 1; have hc2_0 : w8.cell? ⟨g2, 0, none⟩ = some (.slice A6_0 l0_0.length c6_0) := (blk_cell Bg2.out 0).trans rfl; have hf2_0 := blk_frozen Bg2.out 0; have hc2_1 : w8.cell? ⟨g2, 1, none⟩ = some (.slice A10_0 l0_1.length c10_0) := (blk_cell Bg2.out 1).trans rfl; have hf2_1 := blk_frozen Bg2.out 1; have hc3_0 : w8.cell? ⟨g3, 0, none⟩ = some (.slice A6_0 l0_0.length c6_0) := (blk_cell Bg3.out 0).trans rfl; have hf3_0 := blk_frozen Bg3.out 0; have hc3_1 : w8.cell? ⟨g3, 1, none⟩ = some (.slice A10_0 l0_1.length c10_0) := (blk_cell Bg3.out 1).trans rfl; have hf3_1 := blk_frozen Bg3.out 1))
  refine bodyPost_ret (results_cell_row rfl _ _ g2 26 #[.slice A6_0 l0_0.length c6_0, .slice A10_0 l0_1.length c10_0] (0, 0) _ rfl Bg2.out Try.underlying26 rfl (by kernel_rfl)) rfl ?_
  refine ⟨_, _, rfl, ⟨w4.heap.size, (by have := NN1.out; have := Gg1.out; have := Kg1.out; have := NN2.out; have := Gg2.out; have := Kg2.out; have := NN3.out; have := Gg3.out; have := Kg3.out; have := NN4.out; have := NN5.out; have := NN6.out; have := NN7.out; have := NN8.out; omega), (by have := NN1.out; have := Gg1.out; have := Kg1.out; have := NN2.out; have := Gg2.out; have := Kg2.out; have := NN3.out; have := Gg3.out; have := Kg3.out; have := NN4.out; have := NN5.out; have := NN6.out; have := NN7.out; have := NN8.out; omega), Kd.S_mono U6_0.out (fun k hk => ⟨(by have := NN1.out; have := Gg1.out; have := Kg1.out; have := NN2.out; have := Gg2.out; have := Kg2.out; have := NN3.out; have := Gg3.out; have := Kg3.out; have := NN4.out; have := NN5.out; have := NN6.out; have := NN7.out; have := NN8.out; have := hk.1; omega), hk.2⟩), Kd.S_mono U10_0.out (fun k hk => ⟨(by have := NN1.out; have := Gg1.out; have := Kg1.out; have := NN2.out; have := Gg2.out; have := Kg2.out; have := NN3.out; have := Gg3.out; have := Kg3.out; have := NN4.out; have := NN5.out; have := NN6.out; have := NN7.out; have := NN8.out; have := hk.1; omega), (by have := NN1.out; have := Gg1.out; have := Kg1.out; have := NN2.out; have := Gg2.out; have := Kg2.out; have := NN3.out; have := Gg3.out; have := Kg3.out; have := NN4.out; have := NN5.out; have := NN6.out; have := NN7.out; have := NN8.out; have := hk.2; omega)⟩)⟩, HB.out⟩
set_option maxHeartbeats 8000000 in
set_option maxRecDepth 100000 in
theorem impl_ExchangePlayers.walk2 (k : Nat) (A0_0 : Option Addr) (c0_0 : Nat) (l0_0 : List (List Int)) (A0_1 : Option Addr) (c0_1 : Nat) (l0_1 : List (List Int)) (x10_0 : List (List Int)) (x13_0 : List (List Int)) (w : World) (hr0_0 : Kd.C (Kd.slice 2 (Kd.int .i64)) w A0_0 l0_0.length l0_0) (hc0_0 : l0_0.length ≤ c0_0) (hr0_1 : Kd.C (Kd.slice 2 (Kd.int .i64)) w A0_1 l0_1.length l0_1) (hc0_1 : l0_1.length ≤ c0_1) (h1 : impl_IsGame.f l0_0 l0_1 = some true) (h2 : impl_turned.f k l0_1 = some x10_0) (h3 : impl_turned.f k l0_0 = some x13_0) :
    Calls Try.prog 18 #[.agg #[.slice A0_0 l0_0.length c0_0, .slice A0_1 l0_1.length c0_1]] w fun e w' => ∃ v0_ v1_ : Value, e = .returned (.tuple #[.agg #[v0_, v1_], .int .i64 0]) ∧ UG w w' w.heap.size w'.heap.size v0_ v1_ x10_0 x13_0 ∧ Below w.heap.size w w' := by
  have HR0_0 := Aside0.mk hr0_0
  have HC0_0 := Aside0.mk hc0_0
  clear hr0_0 hc0_0
  have HR0_1 := Aside0.mk hr0_1
  have HC0_1 := Aside0.mk hc0_1
  clear hr0_1 hc0_1
  have HB := Aside0.mk (Below.refl w.heap.size w)
  have H1' := Aside0.mk h1
  clear h1
  have H2' := Aside0.mk h2
  clear h2
  have H3' := Aside0.mk h3
  clear h3
  go_enter Try.func18, Try.ntmps18
  go_wp2_with (first | ((with_reducible refine gate_dst (N := 1) rfl ?_); refine box_event ?hg (N := 1) ?hd (cs := #[.slice A0_0 l0_0.length c0_0, .slice A0_1 l0_1.length c0_1]) (t := 26) ?hr ?_; (case hd => rfl); (case hg => rfl); (case hr => first | (go_simp; done) | (go_simp; rfl)); intro g1 hg w1 hbox hb; have Gg1 : Aside0 (g1 = w.heap.size) := ⟨hg⟩; have Kg1 := Aside0.mk (blk_lt hbox); clear hg; have n_HB := Aside0.mk (below_step HB.out hb); have NN1 : Aside0 (w.heap.size ≤ w1.heap.size) := ⟨hb.size⟩; clear HB; have HB := n_HB; clear n_HB; have Bg1 := Aside0.mk hbox; clear hb hbox; have hc1_0 : w1.cell? ⟨g1, 0, none⟩ = some (.slice A0_0 l0_0.length c0_0) := (blk_cell Bg1.out 0).trans rfl; have hf1_0 := blk_frozen Bg1.out 0; have hc1_1 : w1.cell? ⟨g1, 1, none⟩ = some (.slice A0_1 l0_1.length c0_1) := (blk_cell Bg1.out 1).trans rfl; have hf1_1 := blk_frozen Bg1.out 1) | ((with_reducible refine gate_dst (N := 2) rfl ?_); refine box_event ?hg (N := 2) ?hd (cs := #[.slice none 0 0, .slice none 0 0]) (t := 26) ?hr ?_; (case hd => rfl); (case hg => rfl); (case hr => first | (go_simp; done) | (go_simp; rfl)); intro g2 hg w2 hbox hb; have Gg2 : Aside0 (g2 = w1.heap.size) := ⟨hg⟩; have Kg2 := Aside0.mk (blk_lt hbox); clear hg; have n_Bg1 := Aside0.mk (blk_below Bg1.out hb); have n_HB := Aside0.mk (below_step HB.out hb); have NN2 : Aside0 (w1.heap.size ≤ w2.heap.size) := ⟨hb.size⟩; clear hc1_0 hf1_0; clear hc1_1 hf1_1; clear Bg1 HB; have Bg1 := n_Bg1; have HB := n_HB; clear n_Bg1 n_HB; have Bg2 := Aside0.mk hbox; clear hb hbox; have hc1_0 : w2.cell? ⟨g1, 0, none⟩ = some (.slice A0_0 l0_0.length c0_0) := (blk_cell Bg1.out 0).trans rfl; have hf1_0 := blk_frozen Bg1.out 0; have hc1_1 : w2.cell? ⟨g1, 1, none⟩ = some (.slice A0_1 l0_1.length c0_1) := (blk_cell Bg1.out 1).trans rfl; have hf1_1 := blk_frozen Bg1.out 1; have hc2_0 : w2.cell? ⟨g2, 0, none⟩ = some (.slice none 0 0) := (blk_cell Bg2.out 0).trans rfl; have hf2_0 := blk_frozen Bg2.out 0; have hc2_1 : w2.cell? ⟨g2, 1, none⟩ = some (.slice none 0 0) := (blk_cell Bg2.out 1).trans rfl; have hf2_1 := blk_frozen Bg2.out 1) | ((with_reducible refine gate_callee (f := 70) rfl ?_); refine goesL_ (some 5) rfl rfl Try.func70 (by kernel_rfl) rfl #[.agg #[.slice A0_0 l0_0.length c0_0, .slice A0_1 l0_1.length c0_1]] rfl (by (try simp only [List.map_toArray, List.map_cons, List.map_nil]); first | done | rfl) ?_; refine (impl_IsGame.calls _ _ l0_0 _ _ l0_1 true _ ?s1 ?s2 ?s3 ?s4 H1'.out).mono ?_; (case s1 => exact Kd.C_below HR0_0.out HB.out); (case s2 => exact HC0_0.out); (case s3 => exact Kd.C_below HR0_1.out HB.out); (case s4 => exact HC0_1.out); rintro e w3 ⟨rfl, hb⟩; refine ⟨_, rfl, ?_⟩; have n_Bg1 := Aside0.mk (blk_below Bg1.out hb); have n_Bg2 := Aside0.mk (blk_below Bg2.out hb); have n_HB := Aside0.mk (below_step HB.out hb); have NN3 : Aside0 (w2.heap.size ≤ w3.heap.size) := ⟨hb.size⟩; clear hc1_0 hf1_0; clear hc1_1 hf1_1; clear hc2_0 hf2_0; clear hc2_1 hf2_1; clear Bg1 Bg2 HB; have Bg1 := n_Bg1; have Bg2 := n_Bg2; have HB := n_HB; clear n_Bg1 n_Bg2 n_HB; clear hb; have hc1_0 : w3.cell? ⟨g1, 0, none⟩ = some (.slice A0_0 l0_0.length c0_0) := (blk_cell Bg1.out 0).trans rfl; have hf1_0 := blk_frozen Bg1.out 0; have hc1_1 : w3.cell? ⟨g1, 1, none⟩ = some (.slice A0_1 l0_1.length c0_1) := (blk_cell Bg1.out 1).trans rfl; have hf1_1 := blk_frozen Bg1.out 1; have hc2_0 : w3.cell? ⟨g2, 0, none⟩ = some (.slice none 0 0) := (blk_cell Bg2.out 0).trans rfl; have hf2_0 := blk_frozen Bg2.out 0; have hc2_1 : w3.cell? ⟨g2, 1, none⟩ = some (.slice none 0 0) := (blk_cell Bg2.out 1).trans rfl; have hf2_1 := blk_frozen Bg2.out 1))
  try go_wp2
  have hb : Below w3.heap.size w3 w3.drew := (Below.refl _ _).drew
  have n_Bg1 := Aside0.mk (blk_below Bg1.out hb)
  have n_Bg2 := Aside0.mk (blk_below Bg2.out hb)
  have n_HB := Aside0.mk (below_step HB.out hb)
  have NN4 : Aside0 (w3.heap.size ≤ w3.drew.heap.size) := ⟨hb.size⟩
  clear hc1_0 hf1_0
  clear hc1_1 hf1_1
  clear hc2_0 hf2_0
  clear hc2_1 hf2_1
  clear Bg1 Bg2 HB
  have Bg1 := n_Bg1
  have Bg2 := n_Bg2
  have HB := n_HB
  clear n_Bg1 n_Bg2 n_HB
  clear hb
  refine start_ (n := 9) (S := fun w' => w'.cell? ⟨g1, 1, none⟩ = some (.slice A0_1 l0_1.length c0_1) ∧ w'.cell? ⟨g1, 0, none⟩ = some (.slice A0_0 l0_0.length c0_0)) (ds := []) #[false, false, false, false, false, false, false, false, false] (by kernel_rfl) rfl rfl ⟨(blk_cell Bg1.out 1).trans rfl, (blk_cell Bg1.out 0).trans rfl⟩ (fun hHeld => ?_)
  generalize w3.drew = w4 at Bg1 Bg2 HB NN4 hHeld ⊢
  have hc1_0 : w4.cell? ⟨g1, 0, none⟩ = some (.slice A0_0 l0_0.length c0_0) := (blk_cell Bg1.out 0).trans rfl
  have hf1_0 := blk_frozen Bg1.out 0
  have hc1_1 : w4.cell? ⟨g1, 1, none⟩ = some (.slice A0_1 l0_1.length c0_1) := (blk_cell Bg1.out 1).trans rfl
  have hf1_1 := blk_frozen Bg1.out 1
  have hc2_0 : w4.cell? ⟨g2, 0, none⟩ = some (.slice none 0 0) := (blk_cell Bg2.out 0).trans rfl
  have hf2_0 := blk_frozen Bg2.out 0
  have hc2_1 : w4.cell? ⟨g2, 1, none⟩ = some (.slice none 0 0) := (blk_cell Bg2.out 1).trans rfl
  have hf2_1 := blk_frozen Bg2.out 1
  refine pure_ (i := 0) (N := some 8) (v := ?_) (a' := ?_) #[true, false, false, false, false, false, false, false, false] rfl rfl (by kernel_rfl) (fun _ _ _ h => h) (Or.inl ⟨by rfl, ?_⟩) ?_ ?_
  rotate_left
  · intro w'
    go_simp
    with_reducible rfl
  rotate_left
  · simp only [Act.put, List.setIfInBounds_toArray, List.set_cons_zero, List.set_cons_succ, i64_w, i32_w]
    rfl
  refine take_ (i := 1) (N := some 9) (v := ?_) (a' := ?_) #[true, true, false, false, false, false, false, false, false] rfl rfl (by kernel_rfl) (fun _ _ _ h => h) (Or.inl ⟨by rfl, ?_⟩) hHeld ?_ ?_
  rotate_left
  · rintro w' ⟨s0, s1⟩
    go_simp
    with_reducible rfl
  rotate_left
  · simp only [Act.put, List.setIfInBounds_toArray, List.set_cons_zero, List.set_cons_succ, i64_w, i32_w]
    rfl
  refine pure_ (i := 3) (N := some 11) (v := ?_) (a' := ?_) #[true, true, false, true, false, false, false, false, false] rfl rfl (by kernel_rfl) (fun _ _ _ h => h) (Or.inl ⟨by rfl, ?_⟩) ?_ ?_
  rotate_left
  · intro w'
    go_simp
    with_reducible rfl
  rotate_left
  · simp only [Act.put, List.setIfInBounds_toArray, List.set_cons_zero, List.set_cons_succ, i64_w, i32_w]
    rfl
  refine take_ (i := 4) (N := some 12) (v := ?_) (a' := ?_) #[true, true, false, true, true, false, false, false, false] rfl rfl (by kernel_rfl) (fun _ _ _ h => h) (Or.inl ⟨by rfl, ?_⟩) hHeld ?_ ?_
  rotate_left
  · rintro w' ⟨s0, s1⟩
    go_simp
    with_reducible rfl
  rotate_left
  · simp only [Act.put, List.setIfInBounds_toArray, List.set_cons_zero, List.set_cons_succ, i64_w, i32_w]
    rfl
  refine one_ (i := 2) (N := some 10) #[true, true, true, true, true, false, false, false, false] rfl rfl (by kernel_rfl) (by decide) (fun K hK => ?_)
  refine goes_ Try.func71 (by kernel_rfl) rfl #[.slice A0_1 l0_1.length c0_1] (by rfl) rfl rfl (by (try simp only [List.map_toArray, List.map_cons, List.map_nil]); first | done | rfl) ?_
  (refine (impl_turned.calls k _ _ l0_1 x10_0 _ ?s1 ?s2 H2'.out).mono ?_; (case s1 => exact Kd.C_below HR0_1.out HB.out); (case s2 => exact HC0_1.out); rintro e w5 ⟨v10_0, rfl, ho0, hb⟩; refine ⟨_, rfl, ?_⟩; have nu0 := Aside0.mk (US.of ho0 HB.out.size); have n_Bg1 := Aside0.mk (blk_below Bg1.out hb); have n_Bg2 := Aside0.mk (blk_below Bg2.out hb); have n_HB := Aside0.mk (below_step HB.out hb); have NN5 : Aside0 (w4.heap.size ≤ w5.heap.size) := ⟨hb.size⟩; clear hc1_0 hf1_0; clear hc1_1 hf1_1; clear hc2_0 hf2_0; clear hc2_1 hf2_1; clear Bg1 Bg2 HB; have Bg1 := n_Bg1; have Bg2 := n_Bg2; have HB := n_HB; clear n_Bg1 n_Bg2 n_HB; clear hb ho0; have U10_0 := nu0; clear nu0; obtain ⟨A10_0, c10_0, e0⟩ := Kd.S_slice U10_0.out; subst e0; have hc1_0 : w5.cell? ⟨g1, 0, none⟩ = some (.slice A0_0 l0_0.length c0_0) := (blk_cell Bg1.out 0).trans rfl; have hf1_0 := blk_frozen Bg1.out 0; have hc1_1 : w5.cell? ⟨g1, 1, none⟩ = some (.slice A0_1 l0_1.length c0_1) := (blk_cell Bg1.out 1).trans rfl; have hf1_1 := blk_frozen Bg1.out 1; have hc2_0 : w5.cell? ⟨g2, 0, none⟩ = some (.slice none 0 0) := (blk_cell Bg2.out 0).trans rfl; have hf2_0 := blk_frozen Bg2.out 0; have hc2_1 : w5.cell? ⟨g2, 1, none⟩ = some (.slice none 0 0) := (blk_cell Bg2.out 1).trans rfl; have hf2_1 := blk_frozen Bg2.out 1)
  refine hK.out _ _ ⟨(blk_cell Bg1.out 1).trans rfl, (blk_cell Bg1.out 0).trans rfl⟩ (fun hHeld => ?_)
  clear hK K
  refine norm_ (a' := ?_) ?_ ?_
  rotate_left
  · show Act.put _ (some 10) _ = _
    simp only [Act.put, List.setIfInBounds_toArray, List.set_cons_zero, List.set_cons_succ, i64_w, i32_w]
    rfl
  refine one_ (i := 5) (N := some 13) #[true, true, true, true, true, true, false, false, false] rfl rfl (by kernel_rfl) (by decide) (fun K hK => ?_)
  refine goes_ Try.func71 (by kernel_rfl) rfl #[.slice A0_0 l0_0.length c0_0] (by rfl) rfl rfl (by (try simp only [List.map_toArray, List.map_cons, List.map_nil]); first | done | rfl) ?_
  (refine (impl_turned.calls k _ _ l0_0 x13_0 _ ?s1 ?s2 H3'.out).mono ?_; (case s1 => exact Kd.C_below HR0_0.out HB.out); (case s2 => exact HC0_0.out); rintro e w6 ⟨v13_0, rfl, ho0, hb⟩; refine ⟨_, rfl, ?_⟩; have nu0 := Aside0.mk (US.of ho0 HB.out.size); have n_U10_0 := Aside0.mk (U10_0.out.mvB (Frm.below hb)); have n_Bg1 := Aside0.mk (blk_below Bg1.out hb); have n_Bg2 := Aside0.mk (blk_below Bg2.out hb); have n_HB := Aside0.mk (below_step HB.out hb); have NN6 : Aside0 (w5.heap.size ≤ w6.heap.size) := ⟨hb.size⟩; clear hc1_0 hf1_0; clear hc1_1 hf1_1; clear hc2_0 hf2_0; clear hc2_1 hf2_1; clear U10_0 Bg1 Bg2 HB; have U10_0 := n_U10_0; have Bg1 := n_Bg1; have Bg2 := n_Bg2; have HB := n_HB; clear n_U10_0 n_Bg1 n_Bg2 n_HB; clear hb ho0; have U13_0 := nu0; clear nu0; obtain ⟨A13_0, c13_0, e0⟩ := Kd.S_slice U13_0.out; subst e0; have hc1_0 : w6.cell? ⟨g1, 0, none⟩ = some (.slice A0_0 l0_0.length c0_0) := (blk_cell Bg1.out 0).trans rfl; have hf1_0 := blk_frozen Bg1.out 0; have hc1_1 : w6.cell? ⟨g1, 1, none⟩ = some (.slice A0_1 l0_1.length c0_1) := (blk_cell Bg1.out 1).trans rfl; have hf1_1 := blk_frozen Bg1.out 1; have hc2_0 : w6.cell? ⟨g2, 0, none⟩ = some (.slice none 0 0) := (blk_cell Bg2.out 0).trans rfl; have hf2_0 := blk_frozen Bg2.out 0; have hc2_1 : w6.cell? ⟨g2, 1, none⟩ = some (.slice none 0 0) := (blk_cell Bg2.out 1).trans rfl; have hf2_1 := blk_frozen Bg2.out 1)
  refine hK.out _ _ ⟨(blk_cell Bg1.out 1).trans rfl, (blk_cell Bg1.out 0).trans rfl⟩ (fun hHeld => ?_)
  clear hK K
  refine norm_ (a' := ?_) ?_ ?_
  rotate_left
  · show Act.put _ (some 13) _ = _
    simp only [Act.put, List.setIfInBounds_toArray, List.set_cons_zero, List.set_cons_succ, i64_w, i32_w]
    rfl
  refine pure_ (i := 6) (N := some 14) (v := ?_) (a' := ?_) #[true, true, true, true, true, true, true, false, false] rfl rfl (by kernel_rfl) (fun _ _ _ h => h) (Or.inl ⟨by rfl, ?_⟩) ?_ ?_
  rotate_left
  · intro w'
    go_simp
    with_reducible rfl
  rotate_left
  · simp only [Act.put, List.setIfInBounds_toArray, List.set_cons_zero, List.set_cons_succ, i64_w, i32_w]
    rfl
  refine one_ (i := 7) (N := none) #[true, true, true, true, true, true, true, true, false] rfl rfl (by kernel_rfl) (by decide) (fun K hK => ?_)
  refine skip_ (w1 := ((w6.setCell ⟨g2, 0, none⟩ (.slice A10_0 x10_0.length c10_0)).setCell ⟨g2, 1, none⟩ (.slice A13_0 x13_0.length c13_0))) (by rfl) rfl (by first | (go_simp; done) | (go_simp; rfl)) ?_
  obtain ⟨w7, hw⟩ : ∃ x_, x_ = ((w6.setCell ⟨g2, 0, none⟩ (.slice A10_0 x10_0.length c10_0)).setCell ⟨g2, 1, none⟩ (.slice A13_0 x13_0.length c13_0)) := ⟨_, rfl⟩
  rw [← hw]
  (have hge : w.heap.size ≤ g2 := (by have := NN1.out; have := Gg1.out; have := Kg1.out; have := NN2.out; have := Gg2.out; have := Kg2.out; have := NN3.out; have := NN4.out; have := NN5.out; have := NN6.out; have := HB.out.size; omega); have hF : Frm w6 w7 g2 (g2 + 1) := (by rw [hw]; exact (Frm.trans (Frm.set _ _ _ _) (Frm.set _ _ _ _))); have nb := Aside0.mk (show w7.heap[g2]? = some (.cells #[.slice A10_0 x10_0.length c10_0, .slice A13_0 x13_0.length c13_0] 26 (0, 0)) from (by rw [hw]; exact (blk_put (blk_put Bg2.out 0 _ rfl) 1 _ rfl))); have n_U10_0 := Aside0.mk (U10_0.out.mv hF (by have := NN1.out; have := Gg1.out; have := Kg1.out; have := NN2.out; have := Gg2.out; have := Kg2.out; have := NN3.out; have := NN4.out; have := NN5.out; have := NN6.out; omega)); have n_U13_0 := Aside0.mk (U13_0.out.mv hF (by have := NN1.out; have := Gg1.out; have := Kg1.out; have := NN2.out; have := Gg2.out; have := Kg2.out; have := NN3.out; have := NN4.out; have := NN5.out; have := NN6.out; omega)); have n_Bg1 := Aside0.mk ((hF.same g1 (blk_lt Bg1.out) (by have := NN1.out; have := Gg1.out; have := Kg1.out; have := NN2.out; have := Gg2.out; have := Kg2.out; have := NN3.out; have := NN4.out; have := NN5.out; have := NN6.out; omega)).trans Bg1.out); have n_HB := Aside0.mk ((by rw [hw]; exact (below_set (below_set HB.out hge) hge) : Below w.heap.size w w7)); have NN7 : Aside0 (w6.heap.size ≤ w7.heap.size) := ⟨hF.size⟩; clear hc1_0 hf1_0; clear hc1_1 hf1_1; clear hc2_0 hf2_0; clear hc2_1 hf2_1; clear U10_0 U13_0 Bg1 HB; have U10_0 := n_U10_0; have U13_0 := n_U13_0; have Bg1 := n_Bg1; have HB := n_HB; clear n_U10_0 n_U13_0 n_Bg1 n_HB; clear Bg2; have Bg2 := nb; clear nb hF hge hw; have hc1_0 : w7.cell? ⟨g1, 0, none⟩ = some (.slice A0_0 l0_0.length c0_0) := (blk_cell Bg1.out 0).trans rfl; have hf1_0 := blk_frozen Bg1.out 0; have hc1_1 : w7.cell? ⟨g1, 1, none⟩ = some (.slice A0_1 l0_1.length c0_1) := (blk_cell Bg1.out 1).trans rfl; have hf1_1 := blk_frozen Bg1.out 1; have hc2_0 : w7.cell? ⟨g2, 0, none⟩ = some (.slice A10_0 x10_0.length c10_0) := (blk_cell Bg2.out 0).trans rfl; have hf2_0 := blk_frozen Bg2.out 0; have hc2_1 : w7.cell? ⟨g2, 1, none⟩ = some (.slice A13_0 x13_0.length c13_0) := (blk_cell Bg2.out 1).trans rfl; have hf2_1 := blk_frozen Bg2.out 1)
  refine hK.out _ _ ⟨(blk_cell Bg1.out 1).trans rfl, (blk_cell Bg1.out 0).trans rfl⟩ (fun hHeld => ?_)
  clear hK K
  refine pure_ (i := 8) (N := some 3) (v := ?_) (a' := ?_) #[true, true, true, true, true, true, true, true, true] rfl rfl (by kernel_rfl) (fun _ _ _ h => h) (Or.inl ⟨by rfl, ?_⟩) ?_ ?_
  rotate_left
  · intro w'
    go_simp
    with_reducible rfl
  rotate_left
  · simp only [Act.put, List.setIfInBounds_toArray, List.set_cons_zero, List.set_cons_succ, i64_w, i32_w]
    rfl
  refine done_ (by kernel_rfl) ?_
  try go_wp2
  refine bodyPost_ret (results_ct rfl _ _ g2 26 #[.slice A10_0 x10_0.length c10_0, .slice A13_0 x13_0.length c13_0] (0, 0) _ rfl Bg2.out Try.underlying26 rfl (by kernel_rfl)) rfl ?_
  refine ⟨_, _, rfl, ⟨w5.heap.size, (by have := NN1.out; have := Gg1.out; have := Kg1.out; have := NN2.out; have := Gg2.out; have := Kg2.out; have := NN3.out; have := NN4.out; have := NN5.out; have := NN6.out; have := NN7.out; omega), (by have := NN1.out; have := Gg1.out; have := Kg1.out; have := NN2.out; have := Gg2.out; have := Kg2.out; have := NN3.out; have := NN4.out; have := NN5.out; have := NN6.out; have := NN7.out; omega), Kd.S_mono U10_0.out (fun k hk => ⟨(by have := NN1.out; have := Gg1.out; have := Kg1.out; have := NN2.out; have := Gg2.out; have := Kg2.out; have := NN3.out; have := NN4.out; have := NN5.out; have := NN6.out; have := NN7.out; have := hk.1; omega), hk.2⟩), Kd.S_mono U13_0.out (fun k hk => ⟨(by have := NN1.out; have := Gg1.out; have := Kg1.out; have := NN2.out; have := Gg2.out; have := Kg2.out; have := NN3.out; have := NN4.out; have := NN5.out; have := NN6.out; have := NN7.out; have := hk.1; omega), (by have := NN1.out; have := Gg1.out; have := Kg1.out; have := NN2.out; have := Gg2.out; have := Kg2.out; have := NN3.out; have := NN4.out; have := NN5.out; have := NN6.out; have := NN7.out; have := hk.2; omega)⟩)⟩, HB.out⟩
set_option maxHeartbeats 8000000 in
set_option maxRecDepth 100000 in
theorem impl_ExchangePlayers.walk3 (k : Nat) (A0_0 : Option Addr) (c0_0 : Nat) (l0_0 : List (List Int)) (A0_1 : Option Addr) (c0_1 : Nat) (l0_1 : List (List Int))  (w : World) (hr0_0 : Kd.C (Kd.slice 2 (Kd.int .i64)) w A0_0 l0_0.length l0_0) (hc0_0 : l0_0.length ≤ c0_0) (hr0_1 : Kd.C (Kd.slice 2 (Kd.int .i64)) w A0_1 l0_1.length l0_1) (hc0_1 : l0_1.length ≤ c0_1) (h1 : impl_IsGame.f l0_0 l0_1 = some false) :
    Calls Try.prog 18 #[.agg #[.slice A0_0 l0_0.length c0_0, .slice A0_1 l0_1.length c0_1]] w fun e w' => ∃ v0_ v1_ : Value, e = .returned (.tuple #[.agg #[v0_, v1_], .int .i64 1]) ∧ UG w w' w.heap.size w'.heap.size v0_ v1_ [] [] ∧ Below w.heap.size w w' := by
  have HR0_0 := Aside0.mk hr0_0
  have HC0_0 := Aside0.mk hc0_0
  clear hr0_0 hc0_0
  have HR0_1 := Aside0.mk hr0_1
  have HC0_1 := Aside0.mk hc0_1
  clear hr0_1 hc0_1
  have HB := Aside0.mk (Below.refl w.heap.size w)
  have H1' := Aside0.mk h1
  clear h1
  go_enter Try.func18, Try.ntmps18
  go_wp2_with (first | ((with_reducible refine gate_dst (N := 1) rfl ?_); refine box_event ?hg (N := 1) ?hd (cs := #[.slice A0_0 l0_0.length c0_0, .slice A0_1 l0_1.length c0_1]) (t := 26) ?hr ?_; (case hd => rfl); (case hg => rfl); (case hr => first | (go_simp; done) | (go_simp; rfl)); intro g1 hg w1 hbox hb; have Gg1 : Aside0 (g1 = w.heap.size) := ⟨hg⟩; have Kg1 := Aside0.mk (blk_lt hbox); clear hg; have n_HB := Aside0.mk (below_step HB.out hb); have NN1 : Aside0 (w.heap.size ≤ w1.heap.size) := ⟨hb.size⟩; clear HB; have HB := n_HB; clear n_HB; have Bg1 := Aside0.mk hbox; clear hb hbox; have hc1_0 : w1.cell? ⟨g1, 0, none⟩ = some (.slice A0_0 l0_0.length c0_0) := (blk_cell Bg1.out 0).trans rfl; have hf1_0 := blk_frozen Bg1.out 0; have hc1_1 : w1.cell? ⟨g1, 1, none⟩ = some (.slice A0_1 l0_1.length c0_1) := (blk_cell Bg1.out 1).trans rfl; have hf1_1 := blk_frozen Bg1.out 1) | ((with_reducible refine gate_dst (N := 2) rfl ?_); refine box_event ?hg (N := 2) ?hd (cs := #[.slice none 0 0, .slice none 0 0]) (t := 26) ?hr ?_; (case hd => rfl); (case hg => rfl); (case hr => first | (go_simp; done) | (go_simp; rfl)); intro g2 hg w2 hbox hb; have Gg2 : Aside0 (g2 = w1.heap.size) := ⟨hg⟩; have Kg2 := Aside0.mk (blk_lt hbox); clear hg; have n_Bg1 := Aside0.mk (blk_below Bg1.out hb); have n_HB := Aside0.mk (below_step HB.out hb); have NN2 : Aside0 (w1.heap.size ≤ w2.heap.size) := ⟨hb.size⟩; clear hc1_0 hf1_0; clear hc1_1 hf1_1; clear Bg1 HB; have Bg1 := n_Bg1; have HB := n_HB; clear n_Bg1 n_HB; have Bg2 := Aside0.mk hbox; clear hb hbox; have hc1_0 : w2.cell? ⟨g1, 0, none⟩ = some (.slice A0_0 l0_0.length c0_0) := (blk_cell Bg1.out 0).trans rfl; have hf1_0 := blk_frozen Bg1.out 0; have hc1_1 : w2.cell? ⟨g1, 1, none⟩ = some (.slice A0_1 l0_1.length c0_1) := (blk_cell Bg1.out 1).trans rfl; have hf1_1 := blk_frozen Bg1.out 1; have hc2_0 : w2.cell? ⟨g2, 0, none⟩ = some (.slice none 0 0) := (blk_cell Bg2.out 0).trans rfl; have hf2_0 := blk_frozen Bg2.out 0; have hc2_1 : w2.cell? ⟨g2, 1, none⟩ = some (.slice none 0 0) := (blk_cell Bg2.out 1).trans rfl; have hf2_1 := blk_frozen Bg2.out 1) | ((with_reducible refine gate_callee (f := 70) rfl ?_); refine goesL_ (some 5) rfl rfl Try.func70 (by kernel_rfl) rfl #[.agg #[.slice A0_0 l0_0.length c0_0, .slice A0_1 l0_1.length c0_1]] rfl (by (try simp only [List.map_toArray, List.map_cons, List.map_nil]); first | done | rfl) ?_; refine (impl_IsGame.calls _ _ l0_0 _ _ l0_1 false _ ?s1 ?s2 ?s3 ?s4 H1'.out).mono ?_; (case s1 => exact Kd.C_below HR0_0.out HB.out); (case s2 => exact HC0_0.out); (case s3 => exact Kd.C_below HR0_1.out HB.out); (case s4 => exact HC0_1.out); rintro e w3 ⟨rfl, hb⟩; refine ⟨_, rfl, ?_⟩; have n_Bg1 := Aside0.mk (blk_below Bg1.out hb); have n_Bg2 := Aside0.mk (blk_below Bg2.out hb); have n_HB := Aside0.mk (below_step HB.out hb); have NN3 : Aside0 (w2.heap.size ≤ w3.heap.size) := ⟨hb.size⟩; clear hc1_0 hf1_0; clear hc1_1 hf1_1; clear hc2_0 hf2_0; clear hc2_1 hf2_1; clear Bg1 Bg2 HB; have Bg1 := n_Bg1; have Bg2 := n_Bg2; have HB := n_HB; clear n_Bg1 n_Bg2 n_HB; clear hb; have hc1_0 : w3.cell? ⟨g1, 0, none⟩ = some (.slice A0_0 l0_0.length c0_0) := (blk_cell Bg1.out 0).trans rfl; have hf1_0 := blk_frozen Bg1.out 0; have hc1_1 : w3.cell? ⟨g1, 1, none⟩ = some (.slice A0_1 l0_1.length c0_1) := (blk_cell Bg1.out 1).trans rfl; have hf1_1 := blk_frozen Bg1.out 1; have hc2_0 : w3.cell? ⟨g2, 0, none⟩ = some (.slice none 0 0) := (blk_cell Bg2.out 0).trans rfl; have hf2_0 := blk_frozen Bg2.out 0; have hc2_1 : w3.cell? ⟨g2, 1, none⟩ = some (.slice none 0 0) := (blk_cell Bg2.out 1).trans rfl; have hf2_1 := blk_frozen Bg2.out 1) | ((with_reducible refine gate_store (t := 26) (p := 2) rfl ?_); refine store_event (t := 26) (p := 2) (v := ?vo_w4) (w1 := ((w3.setCell ⟨g2, 0, none⟩ (.slice none 0 0)).setCell ⟨g2, 1, none⟩ (.slice none 0 0))) ?hg ?ho ?hn ?hr ?_; (case ho => rfl); (case hg => rfl); (case hn => rfl); (case hr => first | (go_simp; done) | (go_simp; rfl)); intro w4 hw; have hge : w.heap.size ≤ g2 := (by have := NN1.out; have := Gg1.out; have := Kg1.out; have := NN2.out; have := Gg2.out; have := Kg2.out; have := NN3.out; have := HB.out.size; omega); have hF : Frm w3 w4 g2 (g2 + 1) := (by rw [hw]; exact (Frm.trans (Frm.set _ _ _ _) (Frm.set _ _ _ _))); have nb := Aside0.mk (show w4.heap[g2]? = some (.cells #[.slice none 0 0, .slice none 0 0] 26 (0, 0)) from (by rw [hw]; exact (blk_put (blk_put Bg2.out 0 _ rfl) 1 _ rfl))); have n_Bg1 := Aside0.mk ((hF.same g1 (blk_lt Bg1.out) (by have := NN1.out; have := Gg1.out; have := Kg1.out; have := NN2.out; have := Gg2.out; have := Kg2.out; have := NN3.out; omega)).trans Bg1.out); have n_HB := Aside0.mk ((by rw [hw]; exact (below_set (below_set HB.out hge) hge) : Below w.heap.size w w4)); have NN4 : Aside0 (w3.heap.size ≤ w4.heap.size) := ⟨hF.size⟩; clear hc1_0 hf1_0; clear hc1_1 hf1_1; clear hc2_0 hf2_0; clear hc2_1 hf2_1; clear Bg1 HB; have Bg1 := n_Bg1; have HB := n_HB; clear n_Bg1 n_HB; clear Bg2; have Bg2 := nb; clear nb hF hge hw; have hc1_0 : w4.cell? ⟨g1, 0, none⟩ = some (.slice A0_0 l0_0.length c0_0) := (blk_cell Bg1.out 0).trans rfl; have hf1_0 := blk_frozen Bg1.out 0; have hc1_1 : w4.cell? ⟨g1, 1, none⟩ = some (.slice A0_1 l0_1.length c0_1) := (blk_cell Bg1.out 1).trans rfl; have hf1_1 := blk_frozen Bg1.out 1; have hc2_0 : w4.cell? ⟨g2, 0, none⟩ = some (.slice none 0 0) := (blk_cell Bg2.out 0).trans rfl; have hf2_0 := blk_frozen Bg2.out 0; have hc2_1 : w4.cell? ⟨g2, 1, none⟩ = some (.slice none 0 0) := (blk_cell Bg2.out 1).trans rfl; have hf2_1 := blk_frozen Bg2.out 1))
  refine bodyPost_ret (results_ct rfl _ _ g2 26 #[.slice none 0 0, .slice none 0 0] (0, 0) _ rfl Bg2.out Try.underlying26 rfl (by kernel_rfl)) rfl ?_
  exact ⟨_, _, rfl, UG.nil _ _ _ _ HB.out.size, HB.out⟩
end Go.Proofs.Ytjjbhdpjnjncbaa.Pr
end

section
/- The plain functions of this seat, each with the proof that the call of the Go function comes to just its answer. Conditions: as each theorem says. Written by this session's own program over the print of the kit. -/
namespace Go.Proofs.Ytjjbhdpjnjncbaa.Pr
open Go.RowKit Go.Proofs.YtjjbhdpjnjncbaaW.PrintWords Go.Proofs.YtjjbhdpjnjncbaaW.PrintLast Go.Proofs.YtjjbhdpjnjncbaaW.PrintMore
attribute [local go_sem] max2_int min2_int max_two min_two max_three min_three max_four min_four   -- for this text's walks alone
set_option linter.unusedVariables false
set_option linter.unusedSimpArgs false

/-! ### impl_ExchangePlayers: function 18 -/
def impl_ExchangePlayers.f (k : Nat) (l0_0 : List (List Int)) (l0_1 : List (List Int)) : Option ((List (List Int)) × (List (List Int)) × Int) := (impl_IsGame.f l0_0 l0_1).bind fun t252 => (if t252 = true then ((impl_turned.f k l0_1).bind fun t253 => ((impl_turned.f k l0_0).bind fun t256 => (some (t253, t256, 0)))) else (some (([] : List (List Int)), ([] : List (List Int)), 1)))
theorem impl_ExchangePlayers.mono : ∀ a0 a1 k, LeO (impl_ExchangePlayers.f k a0 a1) (impl_ExchangePlayers.f (k + 1) a0 a1) := by
  intro a0 a1 k
  unfold impl_ExchangePlayers.f
  repeat' first
      | (with_reducible exact impl_turned.mono _ _)
      | (with_reducible exact LeO.refl _)
      | (with_reducible exact LeO.none _)
      | (with_reducible refine LeO.ite ?_ ?_)
      | (with_reducible refine LeO.bind ?_ (fun _ => ?_))
      | exact impl_turned.mono _ _
      | exact LeO.none _
      | refine LeO.ite ?_ ?_
      | refine LeO.bind ?_ (fun _ => ?_)
def impl_ExchangePlayers.T3 : Bool × List (List Nat × List Nat) := (true, [([], []), ([0], [0]), ([1], [1]), ([], []), ([3], [3]), ([4, 2], [4]), ([2, 5], [2, 5]), ([6, 5, 0, 1, 2, 3, 4, 5, 6], [6]), ([7, 0, 1, 2, 3, 4, 5, 6, 7], [])])
def impl_ExchangePlayers.B3 : List Nat := [0, 1, 3, 0, 8, 31, 63, 127, 255]
theorem impl_ExchangePlayers.tab3 : rtab .any (opsOf Try.f18 3) = impl_ExchangePlayers.T3 := by kernel_rfl
theorem impl_ExchangePlayers.bits3 : waitsOk impl_ExchangePlayers.T3.2 impl_ExchangePlayers.B3 = true := by kernel_rfl
set_option maxHeartbeats 8000000 in
set_option maxRecDepth 100000 in
theorem impl_ExchangePlayers.calls (k : Nat) (A0_0 : Option Addr) (c0_0 : Nat) (l0_0 : List (List Int)) (A0_1 : Option Addr) (c0_1 : Nat) (l0_1 : List (List Int)) (r1 : List (List Int)) (r2 : List (List Int)) (r3 : Int) (w : World) (hr0_0 : Kd.C (Kd.slice 2 (Kd.int .i64)) w A0_0 l0_0.length l0_0) (hc0_0 : l0_0.length ≤ c0_0) (hr0_1 : Kd.C (Kd.slice 2 (Kd.int .i64)) w A0_1 l0_1.length l0_1) (hc0_1 : l0_1.length ≤ c0_1) (h : impl_ExchangePlayers.f k l0_0 l0_1 = some (r1, r2, r3)) :
    Calls Try.prog 18 #[.agg #[.slice A0_0 l0_0.length c0_0, .slice A0_1 l0_1.length c0_1]] w fun e w' => ∃ v0_ v1_ : Value, e = .returned (.tuple #[.agg #[v0_, v1_], .int .i64 r3]) ∧ Kd.S (Kd.slice 2 (Kd.int .i64)) 33 w' w.heap.size (fun k_ => some k_ ≠ (v1_ : Value).ownBlock) v0_ r1 ∧ Kd.S (Kd.slice 2 (Kd.int .i64)) 33 w' w.heap.size (fun k_ => some k_ ≠ (v0_ : Value).ownBlock) v1_ r2 ∧ Below w.heap.size w w' := by
  have hu26 := Try.underlying26
  have HR0_0 := Aside0.mk hr0_0
  have HC0_0 := Aside0.mk hc0_0
  clear hr0_0 hc0_0
  have HR0_1 := Aside0.mk hr0_1
  have HC0_1 := Aside0.mk hc0_1
  clear hr0_1 hc0_1
  have HB := Aside0.mk (Below.refl w.heap.size w)
  have H : ((impl_IsGame.f l0_0 l0_1).bind fun t252 => (if t252 = true then ((impl_turned.f k l0_1).bind fun t253 => ((impl_turned.f k l0_0).bind fun t256 => (some (t253, t256, 0)))) else (some (([] : List (List Int)), ([] : List (List Int)), 1)))) = some (r1, r2, r3) := h
  clear h
  replace H := Option.bind_eq_some_iff.mp H
  obtain ⟨t252, A20, H⟩ := H
  replace H : (if t252 = true then ((impl_turned.f k l0_1).bind fun t253 => ((impl_turned.f k l0_0).bind fun t256 => (some (t253, t256, 0)))) else (some (([] : List (List Int)), ([] : List (List Int)), 1))) = some (r1, r2, r3) := H
  have A2 := Aside0.mk A20
  clear A20
  by_cases c3 : t252 = true
  · subst c3
    have H1 : ((impl_turned.f k l0_1).bind fun t253 => ((impl_turned.f k l0_0).bind fun t256 => (some (t253, t256, 0)))) = some (r1, r2, r3) := by rw [if_pos rfl] at H; exact H
    clear H
    have H := H1
    clear H1
    replace H := Option.bind_eq_some_iff.mp H
    obtain ⟨t253, A40, H⟩ := H
    replace H : ((impl_turned.f k l0_0).bind fun t256 => (some (t253, t256, 0))) = some (r1, r2, r3) := H
    have A4 := Aside0.mk A40
    clear A40
    replace H := Option.bind_eq_some_iff.mp H
    obtain ⟨t256, A50, H⟩ := H
    replace H : (some (t253, t256, 0)) = some (r1, r2, r3) := H
    have A5 := Aside0.mk A50
    clear A50
    simp only [Option.some.injEq, Prod.mk.injEq] at H
    obtain ⟨rfl, rfl, rfl⟩ := H
    go_enter Try.func18, Try.ntmps18
    try go_wp2_with (first | ((with_reducible refine gate_dst (N := 1) rfl ?_); refine box_event ?hg (N := 1) ?hd (cs := #[.slice A0_0 l0_0.length c0_0, .slice A0_1 l0_1.length c0_1]) (t := 26) ?hr ?_; (case hd => rfl); (case hg => rfl); (case hr => first | (go_simp; done) | (go_simp; rfl)); intro gb250 hg w6 hbox hb; have n0_ := Aside0.mk (below_step (by repeat (first | (with_reducible first | exact HB.out | apply below_alloc | apply pw_below_drewN | apply below_drew1) | exact HB.out)) hb); have n1_ := Aside0.mk (hbox); have n2_ := Aside0.mk ((by rw [hg]; exact (below_size (by repeat (first | (with_reducible first | exact HB.out | apply below_alloc | apply pw_below_drewN | apply below_drew1) | exact HB.out))) : w.heap.size ≤ gb250)); have n3_ := Aside0.mk ((by rw [hg]; exact (below_size (by repeat (first | (with_reducible first | exact HB.out | apply below_alloc | apply pw_below_drewN | apply below_drew1) | exact HB.out))) : w.heap.size ≤ gb250)); clear HB; have HB := n0_; have BK250 := n1_; have GW250 := n2_; have GE250 := n3_; clear n0_ n1_ n2_ n3_; clear hb hbox hg) | ((with_reducible refine gate_dst (N := 2) rfl ?_); refine box_event ?hg (N := 2) ?hd (cs := #[.slice none 0 0, .slice none 0 0]) (t := 26) ?hr ?_; (case hd => rfl); (case hg => rfl); (case hr => first | (go_simp; done) | (go_simp; rfl)); intro gb251 hg w7 hbox hb; have n0_ := Aside0.mk (blk_below (g := gb250) (o := .cells #[.slice A0_0 l0_0.length c0_0, .slice A0_1 l0_1.length c0_1] 26 (0, 0)) (by (with_reducible repeat (first | refine blk_drewN ?_ _ | refine blk_drew ?_ | refine blk_alloc ?_ _)); exact BK250.out) hb); have n1_ := Aside0.mk (below_step (by repeat (first | (with_reducible first | exact HB.out | apply below_alloc | apply pw_below_drewN | apply below_drew1 | refine below_set ?_ GE250.out) | exact HB.out)) hb); have n2_ := Aside0.mk (hbox); have n3_ := Aside0.mk ((by rw [hg]; exact (below_size (by repeat (first | (with_reducible first | exact HB.out | apply below_alloc | apply pw_below_drewN | apply below_drew1 | refine below_set ?_ GE250.out) | exact HB.out))) : w.heap.size ≤ gb251)); have n4_ := Aside0.mk ((by rw [hg]; exact (below_size (by repeat (first | (with_reducible first | exact HB.out | apply below_alloc | apply pw_below_drewN | apply below_drew1 | refine below_set ?_ GE250.out) | exact HB.out))) : w.heap.size ≤ gb251)); have n5_ := Aside0.mk ((by rw [hg]; exact Nat.ne_of_lt (blk_lt (g := gb250) (o := .cells #[.slice A0_0 l0_0.length c0_0, .slice A0_1 l0_1.length c0_1] 26 (0, 0)) (by (with_reducible repeat (first | refine blk_drewN ?_ _ | refine blk_drew ?_ | refine blk_alloc ?_ _)); exact BK250.out)) : gb250 ≠ gb251)); have n6_ := Aside0.mk ((by rw [hg]; exact Nat.ne_of_gt (blk_lt (g := gb250) (o := .cells #[.slice A0_0 l0_0.length c0_0, .slice A0_1 l0_1.length c0_1] 26 (0, 0)) (by (with_reducible repeat (first | refine blk_drewN ?_ _ | refine blk_drew ?_ | refine blk_alloc ?_ _)); exact BK250.out)) : gb251 ≠ gb250)); clear BK250; clear HB; have BK250 := n0_; have HB := n1_; have BK251 := n2_; have GW251 := n3_; have GE251 := n4_; have NB250_251 := n5_; have NB251_250 := n6_; clear n0_ n1_ n2_ n3_ n4_ n5_ n6_; clear hb hbox hg; have hnb8 := NB250_251.out; have hnc8 := NB251_250.out; have hcz9_0 : w7.cell? ⟨gb250, 0, none⟩ = some (.slice A0_0 l0_0.length c0_0) := (blk_cell BK250.out 0).trans rfl; have hcz9_1 : w7.cell? ⟨gb250, 1, none⟩ = some (.slice A0_1 l0_1.length c0_1) := (blk_cell BK250.out 1).trans rfl; have hfz9_0 := blk_frozen BK250.out 0; have hfz9_1 := blk_frozen BK250.out 1) | ((with_reducible refine gate_callee (f := 70) rfl ?_); refine goesL_ (some 5) rfl rfl Try.func70 (by kernel_rfl) rfl #[.agg #[.slice A0_0 l0_0.length c0_0, .slice A0_1 l0_1.length c0_1]] rfl (by (try simp only [List.map_toArray, List.map_cons, List.map_nil]); first | done | rfl | (simp only [List.length_drop, List.length_take]; rfl)) ?_; (with_reducible refine (impl_IsGame.calls _ _ l0_0 _ _ l0_1 true _ ?side1 ?side2 ?side3 ?side4 A2.out).mono ?_); (case side1 => repeat (first | exact (Kd.C_below HR0_0.out HB.out) | (with_reducible refine Kd.C_alloc ?_ _) | (with_reducible refine Kd.C_drewN ?_ _) | (with_reducible refine Kd.C_drew ?_))); (case side2 => exact HC0_0.out); (case side3 => repeat (first | exact (Kd.C_below HR0_1.out HB.out) | (with_reducible refine Kd.C_alloc ?_ _) | (with_reducible refine Kd.C_drewN ?_ _) | (with_reducible refine Kd.C_drew ?_))); (case side4 => exact HC0_1.out); rintro e w10 ⟨rfl, hb⟩; refine ⟨_, rfl, ?_⟩; have n0_ := Aside0.mk (blk_below (g := gb250) (o := .cells #[.slice A0_0 l0_0.length c0_0, .slice A0_1 l0_1.length c0_1] 26 (0, 0)) (by (with_reducible repeat (first | refine blk_drewN ?_ _ | refine blk_drew ?_ | refine blk_alloc ?_ _)); exact BK250.out) hb); have n1_ := Aside0.mk (blk_below (g := gb251) (o := .cells #[.slice none 0 0, .slice none 0 0] 26 (0, 0)) (by (with_reducible repeat (first | refine blk_drewN ?_ _ | refine blk_drew ?_ | refine blk_alloc ?_ _)); exact BK251.out) hb); have n2_ := Aside0.mk (below_step (by repeat (first | (with_reducible first | exact HB.out | apply below_alloc | apply pw_below_drewN | apply below_drew1 | refine below_set ?_ GE250.out | refine below_set ?_ GE251.out) | exact HB.out)) hb); clear BK250; clear BK251; clear HB; have BK250 := n0_; have BK251 := n1_; have HB := n2_; clear n0_ n1_ n2_; (try clear hb); (try clear hb2); (try clear hk); (try clear hi)))
    have n0_ := Aside0.mk (blk_drew BK250.out)
    have n1_ := Aside0.mk (blk_drew BK251.out)
    have n2_ := Aside0.mk (below_drew1 HB.out)
    clear BK250
    clear BK251
    clear HB
    have BK250 := n0_
    have BK251 := n1_
    have HB := n2_
    clear n0_ n1_ n2_
    refine start_ (n := 9) (S := fun w' => w'.cell? ⟨gb250, 0, none⟩ = some (.slice A0_0 l0_0.length c0_0) ∧ w'.cell? ⟨gb250, 1, none⟩ = some (.slice A0_1 l0_1.length c0_1)) (ds := []) #[false, false, false, false, false, false, false, false, false] (by kernel_rfl) rfl rfl ⟨(blk_cell BK250.out 0).trans rfl, (blk_cell BK250.out 1).trans rfl⟩ (fun hHeld => ?_); refine with_tabW impl_ExchangePlayers.tab3 impl_ExchangePlayers.bits3 (fun HT_ HW_ => ?_)
    generalize w10.drew = w11 at BK250 BK251 HB hHeld ⊢
    refine pure_ (i := 0) (N := some 8) (v := ?_) (a' := ?_) #[true, false, false, false, false, false, false, false, false] rfl rfl (any_of HT_.out (by kernel_rfl)) (fun _ _ _ h => h) (Or.inl ⟨by rfl, ?_⟩) ?_ ?_
    rotate_left
    · intro w'
      go_simp
      with_reducible rfl
    rotate_left
    · simp only [Act.put, List.setIfInBounds_toArray, List.set_cons_zero, List.set_cons_succ, i64_w, i32_w]
      rfl
    refine pure_ (i := 3) (N := some 11) (v := ?_) (a' := ?_) #[true, false, false, true, false, false, false, false, false] rfl rfl (any_of HT_.out (by kernel_rfl)) (fun _ _ _ h => h) (Or.inl ⟨by rfl, ?_⟩) ?_ ?_
    rotate_left
    · intro w'
      go_simp
      with_reducible rfl
    rotate_left
    · simp only [Act.put, List.setIfInBounds_toArray, List.set_cons_zero, List.set_cons_succ, i64_w, i32_w]
      rfl
    refine take_ (i := 1) (N := some 9) (v := ?_) (a' := ?_) #[true, true, false, true, false, false, false, false, false] rfl rfl (take_ofW HT_.out HW_.out (by kernel_rfl)) (fun _ _ _ h => h) (Or.inl ⟨by rfl, ?_⟩) hHeld ?_ ?_
    rotate_left
    · rintro w' ⟨s0, s1⟩
      go_simp
      with_reducible rfl
    rotate_left
    · simp only [Act.put, List.setIfInBounds_toArray, List.set_cons_zero, List.set_cons_succ, i64_w, i32_w]
      rfl
    refine take_ (i := 4) (N := some 12) (v := ?_) (a' := ?_) #[true, true, false, true, true, false, false, false, false] rfl rfl (take_ofW HT_.out HW_.out (by kernel_rfl)) (fun _ _ _ h => h) (Or.inl ⟨by rfl, ?_⟩) hHeld ?_ ?_
    rotate_left
    · rintro w' ⟨s0, s1⟩
      go_simp
      with_reducible rfl
    rotate_left
    · simp only [Act.put, List.setIfInBounds_toArray, List.set_cons_zero, List.set_cons_succ, i64_w, i32_w]
      rfl
    refine one_ (i := 2) (N := some 10) #[true, true, true, true, true, false, false, false, false] rfl rfl (one_of HT_.out (by kernel_rfl)) (by decide) (fun K hK => ?_)
    refine goes_ Try.func71 (by kernel_rfl) rfl #[.slice A0_1 l0_1.length c0_1] (by rfl) rfl rfl (by (try simp only [List.map_toArray, List.map_cons, List.map_nil]); first | done | rfl | (simp only [List.length_drop, List.length_take]; rfl)) ?_
    with_reducible refine (impl_turned.calls k _ _ l0_1 t253 _ ?side1 ?side2 A4.out).mono ?_
    (case side1 => repeat (first | exact (Kd.C_below HR0_1.out HB.out) | (with_reducible refine Kd.C_alloc ?_ _) | (with_reducible refine Kd.C_drewN ?_ _) | (with_reducible refine Kd.C_drew ?_)))
    (case side2 => exact HC0_1.out)
    rintro e w12 ⟨v254, rfl, ho0, hb⟩
    refine ⟨_, rfl, ?_⟩
    have n0_ := Aside0.mk (Kd.S_lower ho0 (below_size (by repeat (first | (with_reducible first | exact HB.out | apply below_alloc | apply pw_below_drewN | apply below_drew1 | refine below_set ?_ GE250.out | refine below_set ?_ GE251.out) | exact HB.out))))
    have n1_ := Aside0.mk (blk_below (g := gb250) (o := .cells #[.slice A0_0 l0_0.length c0_0, .slice A0_1 l0_1.length c0_1] 26 (0, 0)) (by (with_reducible repeat (first | refine blk_drewN ?_ _ | refine blk_drew ?_ | refine blk_alloc ?_ _)); exact BK250.out) hb)
    have n2_ := Aside0.mk (blk_below (g := gb251) (o := .cells #[.slice none 0 0, .slice none 0 0] 26 (0, 0)) (by (with_reducible repeat (first | refine blk_drewN ?_ _ | refine blk_drew ?_ | refine blk_alloc ?_ _)); exact BK251.out) hb)
    have n3_ := Aside0.mk (below_step (by repeat (first | (with_reducible first | exact HB.out | apply below_alloc | apply pw_below_drewN | apply below_drew1 | refine below_set ?_ GE250.out | refine below_set ?_ GE251.out) | exact HB.out)) hb)
    clear BK250
    clear BK251
    clear HB
    have HO255 := n0_
    have BK250 := n1_
    have BK251 := n2_
    have HB := n3_
    clear n0_ n1_ n2_ n3_
    (try clear hb)
    (try clear hb2)
    (try clear hk)
    (try clear hi)
    (try clear ho0)
    refine hK.out _ _ ⟨(blk_cell BK250.out 0).trans rfl, (blk_cell BK250.out 1).trans rfl⟩ (fun hHeld => ?_)
    clear hK K
    refine norm_ (a' := ?_) ?_ ?_
    rotate_left
    · show Act.put _ (some 10) _ = _
      simp only [Act.put, List.setIfInBounds_toArray, List.set_cons_zero, List.set_cons_succ, i64_w, i32_w]
      rfl
    refine one_ (i := 5) (N := some 13) #[true, true, true, true, true, true, false, false, false] rfl rfl (one_of HT_.out (by kernel_rfl)) (by decide) (fun K hK => ?_)
    refine goes_ Try.func71 (by kernel_rfl) rfl #[.slice A0_0 l0_0.length c0_0] (by rfl) rfl rfl (by (try simp only [List.map_toArray, List.map_cons, List.map_nil]); first | done | rfl | (simp only [List.length_drop, List.length_take]; rfl)) ?_
    with_reducible refine (impl_turned.calls k _ _ l0_0 t256 _ ?side1 ?side2 A5.out).mono ?_
    (case side1 => repeat (first | exact (Kd.C_below HR0_0.out HB.out) | (with_reducible refine Kd.C_alloc ?_ _) | (with_reducible refine Kd.C_drewN ?_ _) | (with_reducible refine Kd.C_drew ?_)))
    (case side2 => exact HC0_0.out)
    rintro e w13 ⟨v257, rfl, ho0, hb⟩
    refine ⟨_, rfl, ?_⟩
    have n0_ := Aside0.mk (Kd.S_elder' (by (with_reducible repeat (first | apply Kd.S_alloc | apply Kd.S_drewN | apply Kd.S_drew)); exact HO255.out) (Kd.S_base ho0) hb)
    have n1_ := Aside0.mk (Kd.S_lower (Kd.S_new' ho0 (Kd.S_lt (by (with_reducible repeat (first | apply Kd.S_alloc | apply Kd.S_drewN | apply Kd.S_drew)); exact HO255.out))) (below_size (by repeat (first | (with_reducible first | exact HB.out | apply below_alloc | apply pw_below_drewN | apply below_drew1 | refine below_set ?_ GE250.out | refine below_set ?_ GE251.out) | exact HB.out))))
    have n2_ := Aside0.mk (blk_below (g := gb250) (o := .cells #[.slice A0_0 l0_0.length c0_0, .slice A0_1 l0_1.length c0_1] 26 (0, 0)) (by (with_reducible repeat (first | refine blk_drewN ?_ _ | refine blk_drew ?_ | refine blk_alloc ?_ _)); exact BK250.out) hb)
    have n3_ := Aside0.mk (blk_below (g := gb251) (o := .cells #[.slice none 0 0, .slice none 0 0] 26 (0, 0)) (by (with_reducible repeat (first | refine blk_drewN ?_ _ | refine blk_drew ?_ | refine blk_alloc ?_ _)); exact BK251.out) hb)
    have n4_ := Aside0.mk (below_step (by repeat (first | (with_reducible first | exact HB.out | apply below_alloc | apply pw_below_drewN | apply below_drew1 | refine below_set ?_ GE250.out | refine below_set ?_ GE251.out) | exact HB.out)) hb)
    clear HO255
    clear BK250
    clear BK251
    clear HB
    have HO255 := n0_
    have HO258 := n1_
    have BK250 := n2_
    have BK251 := n3_
    have HB := n4_
    clear n0_ n1_ n2_ n3_ n4_
    (try clear hb)
    (try clear hb2)
    (try clear hk)
    (try clear hi)
    (try clear ho0)
    obtain ⟨Ao14, co14, eo14⟩ := Kd.S_slice HO258.out
    (first | subst eo14 | (injection eo14 with f1_ f2_ f3_; have f4_ := f1_.symm; have f5_ := f3_.symm; clear f1_ f2_ f3_; subst f4_; subst f5_))
    obtain ⟨Ao15, co15, eo15⟩ := Kd.S_slice HO255.out
    (first | subst eo15 | (injection eo15 with f1_ f2_ f3_; have f4_ := f1_.symm; have f5_ := f3_.symm; clear f1_ f2_ f3_; subst f4_; subst f5_))
    refine hK.out _ _ ⟨(blk_cell BK250.out 0).trans rfl, (blk_cell BK250.out 1).trans rfl⟩ (fun hHeld => ?_)
    clear hK K
    refine norm_ (a' := ?_) ?_ ?_
    rotate_left
    · show Act.put _ (some 13) _ = _
      simp only [Act.put, List.setIfInBounds_toArray, List.set_cons_zero, List.set_cons_succ, i64_w, i32_w]
      rfl
    refine pure_ (i := 6) (N := some 14) (v := ?_) (a' := ?_) #[true, true, true, true, true, true, true, false, false] rfl rfl (any_of HT_.out (by kernel_rfl)) (fun _ _ _ h => h) (Or.inl ⟨by rfl, ?_⟩) ?_ ?_
    rotate_left
    · intro w'
      go_simp
      with_reducible rfl
    rotate_left
    · simp only [Act.put, List.setIfInBounds_toArray, List.set_cons_zero, List.set_cons_succ, i64_w, i32_w]
      rfl
    refine one_ (i := 7) (N := none) #[true, true, true, true, true, true, true, true, false] rfl rfl (one_of HT_.out (by kernel_rfl)) (by decide) (fun K hK => ?_)
    have hs16 : w13.cell? ⟨gb251, 0, none⟩ = some (.slice none 0 0) := (blk_cell BK251.out 0).trans rfl
    have hfs16 := blk_frozen BK251.out 0
    have hns16_0 := NB250_251.out
    have hms16_0 := NB251_250.out
    have hs17 : w13.cell? ⟨gb251, 1, none⟩ = some (.slice none 0 0) := (blk_cell BK251.out 1).trans rfl
    have hfs17 := blk_frozen BK251.out 1
    have hns17_0 := NB250_251.out
    have hms17_0 := NB251_250.out
    refine skip_ (w1 := ?_) (by rfl) rfl ?_ ?_
    rotate_left
    · go_simp
      rfl
    refine hK.out _ _ ⟨((cell_far (p := ⟨gb251, _, none⟩) NB250_251.out _).trans (((cell_far (p := ⟨gb251, _, none⟩) NB250_251.out _).trans (hHeld.1)))), ((cell_far (p := ⟨gb251, _, none⟩) NB250_251.out _).trans (((cell_far (p := ⟨gb251, _, none⟩) NB250_251.out _).trans (hHeld.2))))⟩ (fun hHeld => ?_)
    clear hK K
    refine pure_ (i := 8) (N := some 3) (v := ?_) (a' := ?_) #[true, true, true, true, true, true, true, true, true] rfl rfl (any_of HT_.out (by kernel_rfl)) (fun _ _ _ h => h) (Or.inl ⟨by rfl, ?_⟩) ?_ ?_
    rotate_left
    · intro w'
      go_simp
      with_reducible rfl
    rotate_left
    · simp only [Act.put, List.setIfInBounds_toArray, List.set_cons_zero, List.set_cons_succ, i64_w, i32_w]
      rfl
    refine done_ (done_of HT_.out (by kernel_rfl)) ?_
    try go_wp2
    refine bodyPost_ret (results_ct rfl _ _ gb251 26 #[.slice Ao15 t253.length co15, .slice Ao14 t256.length co14] (0, 0) _ rfl (by (with_reducible repeat (first | refine blk_drewN ?_ _ | refine blk_drew ?_ | refine blk_alloc ?_ _)); refine blk_put (cs := #[.slice Ao15 t253.length co15, .slice none 0 0]) ?_ 1 _ rfl; (with_reducible repeat (first | refine blk_drewN ?_ _ | refine blk_drew ?_ | refine blk_alloc ?_ _)); refine blk_put (cs := #[.slice none 0 0, .slice none 0 0]) ?_ 0 _ rfl; (with_reducible repeat (first | refine blk_drewN ?_ _ | refine blk_drew ?_ | refine blk_alloc ?_ _)); exact BK251.out) Try.underlying26 rfl (by kernel_rfl)) rfl ?_
    exact ⟨_, _, by first | rfl | (simp [errW_none, errW_some] <;> rfl) | (simp [*, errW_none, errW_some] <;> rfl), by (with_reducible repeat (first | apply Kd.S_alloc | apply Kd.S_drewN | apply Kd.S_drew)); exact Kd.S_mono (Kd.S_far (p := ⟨gb251, 1, none⟩) (Kd.S_far (p := ⟨gb251, 0, none⟩) (Kd.S_types HO255.out BK251.out (by decide)) (fun _ hk => hk.2) (.slice Ao15 t253.length co15)) (fun _ hk => hk.2) (.slice Ao14 t256.length co14)) (fun _ hk => hk.1.2), by (with_reducible repeat (first | apply Kd.S_alloc | apply Kd.S_drewN | apply Kd.S_drew)); exact Kd.S_mono (Kd.S_far (p := ⟨gb251, 1, none⟩) (Kd.S_far (p := ⟨gb251, 0, none⟩) (Kd.S_types HO258.out BK251.out (by decide)) (fun _ hk => hk.2) (.slice Ao15 t253.length co15)) (fun _ hk => hk.2) (.slice Ao14 t256.length co14)) (fun _ hk => hk.1.2), by repeat (first | (with_reducible first | exact HB.out | apply below_alloc | apply pw_below_drewN | apply below_drew1 | refine below_set ?_ GE250.out | refine below_set ?_ GE251.out) | exact HB.out)⟩
  · replace c3 := Bool.eq_false_iff.mpr c3
    subst c3
    have H1 : (some (([] : List (List Int)), ([] : List (List Int)), 1)) = some (r1, r2, r3) := by rw [if_neg (show ¬ (false = true) by decide)] at H; exact H
    clear H
    have H := H1
    clear H1
    simp only [Option.some.injEq, Prod.mk.injEq] at H
    obtain ⟨rfl, rfl, rfl⟩ := H
    go_enter Try.func18, Try.ntmps18
    go_wp2_with (first | ((with_reducible refine gate_dst (N := 1) rfl ?_); refine box_event ?hg (N := 1) ?hd (cs := #[.slice A0_0 l0_0.length c0_0, .slice A0_1 l0_1.length c0_1]) (t := 26) ?hr ?_; (case hd => rfl); (case hg => rfl); (case hr => first | (go_simp; done) | (go_simp; rfl)); intro gb250 hg w18 hbox hb; have n0_ := Aside0.mk (below_step (by repeat (first | (with_reducible first | exact HB.out | apply below_alloc | apply pw_below_drewN | apply below_drew1) | exact HB.out)) hb); have n1_ := Aside0.mk (hbox); have n2_ := Aside0.mk ((by rw [hg]; exact (below_size (by repeat (first | (with_reducible first | exact HB.out | apply below_alloc | apply pw_below_drewN | apply below_drew1) | exact HB.out))) : w.heap.size ≤ gb250)); have n3_ := Aside0.mk ((by rw [hg]; exact (below_size (by repeat (first | (with_reducible first | exact HB.out | apply below_alloc | apply pw_below_drewN | apply below_drew1) | exact HB.out))) : w.heap.size ≤ gb250)); clear HB; have HB := n0_; have BK250 := n1_; have GW250 := n2_; have GE250 := n3_; clear n0_ n1_ n2_ n3_; clear hb hbox hg) | ((with_reducible refine gate_dst (N := 2) rfl ?_); refine box_event ?hg (N := 2) ?hd (cs := #[.slice none 0 0, .slice none 0 0]) (t := 26) ?hr ?_; (case hd => rfl); (case hg => rfl); (case hr => first | (go_simp; done) | (go_simp; rfl)); intro gb251 hg w19 hbox hb; have n0_ := Aside0.mk (blk_below (g := gb250) (o := .cells #[.slice A0_0 l0_0.length c0_0, .slice A0_1 l0_1.length c0_1] 26 (0, 0)) (by (with_reducible repeat (first | refine blk_drewN ?_ _ | refine blk_drew ?_ | refine blk_alloc ?_ _)); exact BK250.out) hb); have n1_ := Aside0.mk (below_step (by repeat (first | (with_reducible first | exact HB.out | apply below_alloc | apply pw_below_drewN | apply below_drew1 | refine below_set ?_ GE250.out) | exact HB.out)) hb); have n2_ := Aside0.mk (hbox); have n3_ := Aside0.mk ((by rw [hg]; exact (below_size (by repeat (first | (with_reducible first | exact HB.out | apply below_alloc | apply pw_below_drewN | apply below_drew1 | refine below_set ?_ GE250.out) | exact HB.out))) : w.heap.size ≤ gb251)); have n4_ := Aside0.mk ((by rw [hg]; exact (below_size (by repeat (first | (with_reducible first | exact HB.out | apply below_alloc | apply pw_below_drewN | apply below_drew1 | refine below_set ?_ GE250.out) | exact HB.out))) : w.heap.size ≤ gb251)); have n5_ := Aside0.mk ((by rw [hg]; exact Nat.ne_of_lt (blk_lt (g := gb250) (o := .cells #[.slice A0_0 l0_0.length c0_0, .slice A0_1 l0_1.length c0_1] 26 (0, 0)) (by (with_reducible repeat (first | refine blk_drewN ?_ _ | refine blk_drew ?_ | refine blk_alloc ?_ _)); exact BK250.out)) : gb250 ≠ gb251)); have n6_ := Aside0.mk ((by rw [hg]; exact Nat.ne_of_gt (blk_lt (g := gb250) (o := .cells #[.slice A0_0 l0_0.length c0_0, .slice A0_1 l0_1.length c0_1] 26 (0, 0)) (by (with_reducible repeat (first | refine blk_drewN ?_ _ | refine blk_drew ?_ | refine blk_alloc ?_ _)); exact BK250.out)) : gb251 ≠ gb250)); clear BK250; clear HB; have BK250 := n0_; have HB := n1_; have BK251 := n2_; have GW251 := n3_; have GE251 := n4_; have NB250_251 := n5_; have NB251_250 := n6_; clear n0_ n1_ n2_ n3_ n4_ n5_ n6_; clear hb hbox hg; have hnb20 := NB250_251.out; have hnc20 := NB251_250.out; have hcz21_0 : w19.cell? ⟨gb250, 0, none⟩ = some (.slice A0_0 l0_0.length c0_0) := (blk_cell BK250.out 0).trans rfl; have hcz21_1 : w19.cell? ⟨gb250, 1, none⟩ = some (.slice A0_1 l0_1.length c0_1) := (blk_cell BK250.out 1).trans rfl; have hfz21_0 := blk_frozen BK250.out 0; have hfz21_1 := blk_frozen BK250.out 1) | ((with_reducible refine gate_callee (f := 70) rfl ?_); refine goesL_ (some 5) rfl rfl Try.func70 (by kernel_rfl) rfl #[.agg #[.slice A0_0 l0_0.length c0_0, .slice A0_1 l0_1.length c0_1]] rfl (by (try simp only [List.map_toArray, List.map_cons, List.map_nil]); first | done | rfl | (simp only [List.length_drop, List.length_take]; rfl)) ?_; (with_reducible refine (impl_IsGame.calls _ _ l0_0 _ _ l0_1 false _ ?side1 ?side2 ?side3 ?side4 A2.out).mono ?_); (case side1 => repeat (first | exact (Kd.C_below HR0_0.out HB.out) | (with_reducible refine Kd.C_alloc ?_ _) | (with_reducible refine Kd.C_drewN ?_ _) | (with_reducible refine Kd.C_drew ?_))); (case side2 => exact HC0_0.out); (case side3 => repeat (first | exact (Kd.C_below HR0_1.out HB.out) | (with_reducible refine Kd.C_alloc ?_ _) | (with_reducible refine Kd.C_drewN ?_ _) | (with_reducible refine Kd.C_drew ?_))); (case side4 => exact HC0_1.out); rintro e w22 ⟨rfl, hb⟩; refine ⟨_, rfl, ?_⟩; have n0_ := Aside0.mk (blk_below (g := gb250) (o := .cells #[.slice A0_0 l0_0.length c0_0, .slice A0_1 l0_1.length c0_1] 26 (0, 0)) (by (with_reducible repeat (first | refine blk_drewN ?_ _ | refine blk_drew ?_ | refine blk_alloc ?_ _)); exact BK250.out) hb); have n1_ := Aside0.mk (blk_below (g := gb251) (o := .cells #[.slice none 0 0, .slice none 0 0] 26 (0, 0)) (by (with_reducible repeat (first | refine blk_drewN ?_ _ | refine blk_drew ?_ | refine blk_alloc ?_ _)); exact BK251.out) hb); have n2_ := Aside0.mk (below_step (by repeat (first | (with_reducible first | exact HB.out | apply below_alloc | apply pw_below_drewN | apply below_drew1 | refine below_set ?_ GE250.out | refine below_set ?_ GE251.out) | exact HB.out)) hb); clear BK250; clear BK251; clear HB; have BK250 := n0_; have BK251 := n1_; have HB := n2_; clear n0_ n1_ n2_; (try clear hb); (try clear hb2); (try clear hk); (try clear hi); have hcz23_0 : w22.cell? ⟨gb251, 0, none⟩ = some (.slice none 0 0) := (blk_cell BK251.out 0).trans rfl; have hcz23_1 : w22.cell? ⟨gb251, 1, none⟩ = some (.slice none 0 0) := (blk_cell BK251.out 1).trans rfl; have hfz23_0 := blk_frozen BK251.out 0; have hfz23_1 := blk_frozen BK251.out 1))
    refine bodyPost_ret (results_ct rfl _ _ gb251 26 #[.slice none 0 0, .slice none 0 0] (0, 0) _ rfl (by (with_reducible repeat (first | refine blk_drewN ?_ _ | refine blk_drew ?_ | refine blk_alloc ?_ _)); refine blk_put (cs := #[.slice none 0 0, .slice none 0 0]) ?_ 1 _ rfl; (with_reducible repeat (first | refine blk_drewN ?_ _ | refine blk_drew ?_ | refine blk_alloc ?_ _)); refine blk_put (cs := #[.slice none 0 0, .slice none 0 0]) ?_ 0 _ rfl; (with_reducible repeat (first | refine blk_drewN ?_ _ | refine blk_drew ?_ | refine blk_alloc ?_ _)); exact BK251.out) Try.underlying26 rfl (by kernel_rfl)) rfl ?_
    exact ⟨_, _, by first | rfl | (simp [errW_none, errW_some] <;> rfl) | (simp [*, errW_none, errW_some] <;> rfl), by first | exact Kd.S_nil _ _ _ _ _ | exact Kd.N_nil _ _ _ _ _ | exact Kd.V_nil _ _ _ _ _ | exact Kd.Q_nil _ _ _ _ _ | exact Kd.R_nil _ _ _ _ _, by first | exact Kd.S_nil _ _ _ _ _ | exact Kd.N_nil _ _ _ _ _ | exact Kd.V_nil _ _ _ _ _ | exact Kd.Q_nil _ _ _ _ _ | exact Kd.R_nil _ _ _ _ _, by repeat (first | (with_reducible first | exact HB.out | apply below_alloc | apply pw_below_drewN | apply below_drew1 | refine below_set ?_ GE250.out | refine below_set ?_ GE251.out) | exact HB.out)⟩

-- NOT PRINTED: function 3 (laws_FnExactExchangePlayers)

end Go.Proofs.Ytjjbhdpjnjncbaa.Pr
end

section
/- ExchangePlayers: what it makes lies in two stretches of the memory. -/
namespace Go.Proofs.Ytjjbhdpjnjncbaa.Pr
open Go.RowKit Go.Proofs.YtjjbhdpjnjncbaaW.PrintWords Go.Proofs.YtjjbhdpjnjncbaaW.PrintLast Go.Proofs.YtjjbhdpjnjncbaaW.PrintMore Go.Proofs.Ytjjbhdpjnjncbaa.La Go.Proofs.Ytjjbhdpjnjncbaa.Hm Go.Proofs.Ytjjbhdpjnjncbaa.Lw
set_option linter.unusedVariables false
theorem impl_ExchangePlayers2.calls (k : Nat) (A0_0 : Option Addr) (c0_0 : Nat) (l0_0 : List (List Int)) (A0_1 : Option Addr) (c0_1 : Nat) (l0_1 : List (List Int)) (r1 : List (List Int)) (r2 : List (List Int)) (r3 : Int) (w : World) (hr0_0 : Kd.C (Kd.slice 2 (Kd.int .i64)) w A0_0 l0_0.length l0_0) (hc0_0 : l0_0.length ≤ c0_0) (hr0_1 : Kd.C (Kd.slice 2 (Kd.int .i64)) w A0_1 l0_1.length l0_1) (hc0_1 : l0_1.length ≤ c0_1) (h : impl_ExchangePlayers.f k l0_0 l0_1 = some (r1, r2, r3)) :
    Calls Try.prog 18 #[.agg #[.slice A0_0 l0_0.length c0_0, .slice A0_1 l0_1.length c0_1]] w fun e w' => ∃ v0_ v1_ : Value, e = .returned (.tuple #[.agg #[v0_, v1_], .int .i64 r3]) ∧ UG w w' w.heap.size w'.heap.size v0_ v1_ r1 r2 ∧ Below w.heap.size w w' := by
  unfold impl_ExchangePlayers.f at h
  obtain ⟨t, h1, h⟩ := Option.bind_eq_some_iff.mp h
  cases t with
  | true =>
    rw [if_pos rfl] at h
    obtain ⟨x, h2, h⟩ := Option.bind_eq_some_iff.mp h
    obtain ⟨y, h3, h⟩ := Option.bind_eq_some_iff.mp h
    cases h
    exact impl_ExchangePlayers.walk2 k A0_0 c0_0 l0_0 A0_1 c0_1 l0_1 _ _ w hr0_0 hc0_0 hr0_1 hc0_1 h1 h2 h3
  | false =>
    rw [if_neg (by simp)] at h
    cases h
    exact impl_ExchangePlayers.walk3 k A0_0 c0_0 l0_0 A0_1 c0_1 l0_1 w hr0_0 hc0_0 hr0_1 hc0_1 h1
end Go.Proofs.Ytjjbhdpjnjncbaa.Pr
end

section
/- The law's copy of a game: what it makes lies in two stretches of the memory. -/
namespace Go.Proofs.Ytjjbhdpjnjncbaa.Pr
open Go.RowKit Go.Proofs.YtjjbhdpjnjncbaaW.PrintWords Go.Proofs.YtjjbhdpjnjncbaaW.PrintLast Go.Proofs.YtjjbhdpjnjncbaaW.PrintMore Go.Proofs.Ytjjbhdpjnjncbaa.La Go.Proofs.Ytjjbhdpjnjncbaa.Hm Go.Proofs.Ytjjbhdpjnjncbaa.Lw
set_option linter.unusedVariables false
theorem laws_toGame2.calls (k : Nat) (A0_0 : Option Addr) (c0_0 : Nat) (l0_0 : List (List Int)) (A0_1 : Option Addr) (c0_1 : Nat) (l0_1 : List (List Int)) (w : World) (hr0_0 : Kd.C (Kd.slice 2 (Kd.int .i64)) w A0_0 l0_0.length l0_0) (hc0_0 : l0_0.length ≤ c0_0) (hr0_1 : Kd.C (Kd.slice 2 (Kd.int .i64)) w A0_1 l0_1.length l0_1) (hc0_1 : l0_1.length ≤ c0_1) (h : laws_toInt64SS.f k l0_0 = some l0_0 ∧ laws_toInt64SS.f k l0_1 = some l0_1) :
    Calls Try.prog 17 #[.agg #[.slice A0_0 l0_0.length c0_0, .slice A0_1 l0_1.length c0_1]] w fun e w' => ∃ v0_ v1_ : Value, e = .returned (.agg #[v0_, v1_]) ∧ UG w w' w.heap.size w'.heap.size v0_ v1_ l0_0 l0_1 ∧ Below w.heap.size w w' := by
  exact laws_toGame.walk2 k A0_0 c0_0 l0_0 A0_1 c0_1 l0_1 w hr0_0 hc0_0 hr0_1 hc0_1 h.1 h.2
end Go.Proofs.Ytjjbhdpjnjncbaa.Pr
end

section
/- The law FnExactExchangePlayers, walked: it returns true where the pure equations hold. Written by this session's own program (lawwalk.py). -/
namespace Go.Proofs.Ytjjbhdpjnjncbaa.Pr
open Go.RowKit Go.Proofs.YtjjbhdpjnjncbaaW.PrintWords Go.Proofs.YtjjbhdpjnjncbaaW.PrintLast Go.Proofs.YtjjbhdpjnjncbaaW.PrintMore Go.Proofs.Ytjjbhdpjnjncbaa.La Go.Proofs.Ytjjbhdpjnjncbaa.Hm Go.Proofs.Ytjjbhdpjnjncbaa.Lw
set_option linter.unusedVariables false
set_option linter.unusedSimpArgs false
set_option maxHeartbeats 8000000 in
set_option maxRecDepth 100000 in
theorem laws_FnExactExchangePlayers.walk (k : Nat) (A0_0 : Option Addr) (c0_0 : Nat) (l0_0 : List (List Int)) (A0_1 : Option Addr) (c0_1 : Nat) (l0_1 : List (List Int)) (t16 : Int) (s0 : List (List Int)) (s1 : List (List Int)) (s2 : Int) (m1 : Int) (m2 : Int) (w : World) (hr0_0 : Kd.C (Kd.slice 2 (Kd.int .i64)) w A0_0 l0_0.length l0_0) (hc0_0 : l0_0.length ≤ c0_0) (hr0_1 : Kd.C (Kd.slice 2 (Kd.int .i64)) w A0_1 l0_1.length l0_1) (hc0_1 : l0_1.length ≤ c0_1) (h1 : laws_szGame.f k l0_0 l0_1 1048576 = some t16) (h2 : ¬ t16 < 0) (h3 : laws_toInt64SS.f k l0_0 = some l0_0 ∧ laws_toInt64SS.f k l0_1 = some l0_1) (h4 : spec_ExchangePlayers.f k l0_0 l0_1 = some (s0, s1, s2)) (h5 : impl_ExchangePlayers.f k l0_0 l0_1 = some (s0, s1, s2)) (h6 : laws_eqGame.f k s0 s1 s0 s1 = some true) (h7 : laws_eqGame.f k l0_0 l0_1 l0_0 l0_1 = some true) (h8 : m1 = 1 + (lens l0_0 : Int) + (lens l0_1 : Int)) (h9 : 1 + (lens l0_0 : Int) + (lens l0_1 : Int) ≤ 1099511627776) (h10 : l0_0.length ≤ 1099511627776) (h11 : l0_1.length ≤ 1099511627776) (h12 : ¬ m1 < 0) (h13 : m2 = 1 + (lens s0 : Int) + (lens s1 : Int)) (h14 : 1 + (lens s0 : Int) + (lens s1 : Int) ≤ 1099511627776) (h15 : s0.length ≤ 1099511627776) (h16 : s1.length ≤ 1099511627776) (h17 : ¬ m2 < 0) (h18 : laws_heldGame.f k ((marks s0 1)) ((marks s1 (1 + lens s0))) 1 = some m2) :
    Calls Try.prog 3 #[.agg #[.slice A0_0 l0_0.length c0_0, .slice A0_1 l0_1.length c0_1]] w fun e w' => e = .returned (.bool true) ∧ Below w.heap.size w w' := by
  have HR0_0 := Aside0.mk hr0_0
  have HC0_0 := Aside0.mk hc0_0
  clear hr0_0 hc0_0
  have HR0_1 := Aside0.mk hr0_1
  have HC0_1 := Aside0.mk hc0_1
  clear hr0_1 hc0_1
  have HB := Aside0.mk (Below.refl w.heap.size w)
  have H1' := Aside0.mk h1
  clear h1
  have H3' := Aside0.mk h3
  clear h3
  have H4' := Aside0.mk h4
  clear h4
  have H5' := Aside0.mk h5
  clear h5
  have H6' := Aside0.mk h6
  clear h6
  have H7' := Aside0.mk h7
  clear h7
  have H8' := Aside0.mk h8
  clear h8
  have H9' := Aside0.mk h9
  clear h9
  have H10' := Aside0.mk h10
  clear h10
  have H11' := Aside0.mk h11
  clear h11
  have H13' := Aside0.mk h13
  clear h13
  have H14' := Aside0.mk h14
  clear h14
  have H15' := Aside0.mk h15
  clear h15
  have H16' := Aside0.mk h16
  clear h16
  have H18' := Aside0.mk h18
  clear h18
  go_enter Try.func3, Try.ntmps3
  go_wp2_with (first | ((with_reducible refine gate_dst (N := 1) rfl ?_); refine box_event ?hg (N := 1) ?hd (cs := #[.slice A0_0 l0_0.length c0_0, .slice A0_1 l0_1.length c0_1]) (t := 24) ?hr ?_; (case hd => rfl); (case hg => rfl); (case hr => first | (go_simp; done) | (go_simp; rfl)); intro g1 hg w1 hbox hb; have Gg1 : Aside0 (g1 = w.heap.size) := ⟨hg⟩; have Kg1 := Aside0.mk (blk_lt hbox); clear hg; have n_HB := Aside0.mk (below_step HB.out hb); have NN1 : Aside0 (w.heap.size ≤ w1.heap.size) := ⟨hb.size⟩; clear HB; have HB := n_HB; clear n_HB; have Bg1 := Aside0.mk hbox; clear hb hbox; have hc1_0 : w1.cell? ⟨g1, 0, none⟩ = some (.slice A0_0 l0_0.length c0_0) := (blk_cell Bg1.out 0).trans rfl; have hf1_0 := blk_frozen Bg1.out 0; have hc1_1 : w1.cell? ⟨g1, 1, none⟩ = some (.slice A0_1 l0_1.length c0_1) := (blk_cell Bg1.out 1).trans rfl; have hf1_1 := blk_frozen Bg1.out 1) | ((with_reducible refine gate_callee (f := 15) rfl ?_); refine goesL_ (some 16) rfl rfl Try.func15 (by kernel_rfl) rfl #[.agg #[.slice A0_0 l0_0.length c0_0, .slice A0_1 l0_1.length c0_1], .int .i64 1048576] rfl (by (try simp only [List.map_toArray, List.map_cons, List.map_nil]); first | done | rfl) ?_; refine (laws_szGame.calls k _ _ l0_0 _ _ l0_1 1048576 t16 _ ?s1 ?s2 ?s3 ?s4 H1'.out).mono ?_; (case s1 => exact Kd.C_below HR0_0.out HB.out); (case s2 => exact HC0_0.out); (case s3 => exact Kd.C_below HR0_1.out HB.out); (case s4 => exact HC0_1.out); rintro e w2 ⟨rfl, hb⟩; refine ⟨_, rfl, ?_⟩; have n_Bg1 := Aside0.mk (blk_below Bg1.out hb); have n_HB := Aside0.mk (below_step HB.out hb); have NN2 : Aside0 (w1.heap.size ≤ w2.heap.size) := ⟨hb.size⟩; clear hc1_0 hf1_0; clear hc1_1 hf1_1; clear Bg1 HB; have Bg1 := n_Bg1; have HB := n_HB; clear n_Bg1 n_HB; clear hb; have hc1_0 : w2.cell? ⟨g1, 0, none⟩ = some (.slice A0_0 l0_0.length c0_0) := (blk_cell Bg1.out 0).trans rfl; have hf1_0 := blk_frozen Bg1.out 0; have hc1_1 : w2.cell? ⟨g1, 1, none⟩ = some (.slice A0_1 l0_1.length c0_1) := (blk_cell Bg1.out 1).trans rfl; have hf1_1 := blk_frozen Bg1.out 1) | ((with_reducible refine gate_callee (f := 17) rfl ?_); refine goesL_ (some 21) rfl rfl Try.func17 (by kernel_rfl) rfl #[.agg #[.slice A0_0 l0_0.length c0_0, .slice A0_1 l0_1.length c0_1]] rfl (by (try simp only [List.map_toArray, List.map_cons, List.map_nil]); first | done | rfl) ?_; refine (laws_toGame2.calls k _ _ l0_0 _ _ l0_1 _ ?s1 ?s2 ?s3 ?s4 H3'.out).mono ?_; (case s1 => exact Kd.C_below HR0_0.out HB.out); (case s2 => exact HC0_0.out); (case s3 => exact Kd.C_below HR0_1.out HB.out); (case s4 => exact HC0_1.out); rintro e w3 ⟨v21_0, v21_1, rfl, ho0, hb⟩; refine ⟨_, rfl, ?_⟩; have nu0 := Aside0.mk (UG.of ho0 HB.out.size); have n_Bg1 := Aside0.mk (blk_below Bg1.out hb); have n_HB := Aside0.mk (below_step HB.out hb); have NN3 : Aside0 (w2.heap.size ≤ w3.heap.size) := ⟨hb.size⟩; clear hc1_0 hf1_0; clear hc1_1 hf1_1; clear Bg1 HB; have Bg1 := n_Bg1; have HB := n_HB; clear n_Bg1 n_HB; clear hb ho0; have U21 := nu0; clear nu0; obtain ⟨A21_0, c21_0, A21_1, c21_1, e0, e1⟩ := U21.out.slices; subst e0; subst e1; have hc1_0 : w3.cell? ⟨g1, 0, none⟩ = some (.slice A0_0 l0_0.length c0_0) := (blk_cell Bg1.out 0).trans rfl; have hf1_0 := blk_frozen Bg1.out 0; have hc1_1 : w3.cell? ⟨g1, 1, none⟩ = some (.slice A0_1 l0_1.length c0_1) := (blk_cell Bg1.out 1).trans rfl; have hf1_1 := blk_frozen Bg1.out 1) | ((with_reducible refine gate_callee (f := 16) rfl ?_); refine goesL_ (some 22) rfl rfl Try.func16 (by kernel_rfl) rfl #[.agg #[.slice A21_0 l0_0.length c21_0, .slice A21_1 l0_1.length c21_1]] rfl (by (try simp only [List.map_toArray, List.map_cons, List.map_nil]); first | done | rfl) ?_; refine (spec_ExchangePlayers.calls k _ _ l0_0 _ _ l0_1 s0 s1 s2 _ ?s1 ?s2 ?s3 ?s4 H4'.out).mono ?_; (case s1 => exact U21.out.C0); (case s2 => exact U21.out.cap0); (case s3 => exact U21.out.C1); (case s4 => exact U21.out.cap1); rintro e w4 ⟨v22_0, v22_1, rfl, ho0, ho1, hb⟩; refine ⟨_, rfl, ?_⟩; have nu0 := Aside0.mk (US.of ho0 HB.out.size); have nu1 := Aside0.mk (US.of ho1 HB.out.size); have n_U21 := Aside0.mk (U21.out.mvB (Frm.below hb)); have n_Bg1 := Aside0.mk (blk_below Bg1.out hb); have n_HB := Aside0.mk (below_step HB.out hb); have NN4 : Aside0 (w3.heap.size ≤ w4.heap.size) := ⟨hb.size⟩; clear hc1_0 hf1_0; clear hc1_1 hf1_1; clear U21 Bg1 HB; have U21 := n_U21; have Bg1 := n_Bg1; have HB := n_HB; clear n_U21 n_Bg1 n_HB; clear hb ho0 ho1; have U22_0 := nu0; clear nu0; obtain ⟨A22_0, c22_0, e0⟩ := Kd.S_slice U22_0.out; subst e0; have U22_1 := nu1; clear nu1; obtain ⟨A22_1, c22_1, e0⟩ := Kd.S_slice U22_1.out; subst e0; have hc1_0 : w4.cell? ⟨g1, 0, none⟩ = some (.slice A0_0 l0_0.length c0_0) := (blk_cell Bg1.out 0).trans rfl; have hf1_0 := blk_frozen Bg1.out 0; have hc1_1 : w4.cell? ⟨g1, 1, none⟩ = some (.slice A0_1 l0_1.length c0_1) := (blk_cell Bg1.out 1).trans rfl; have hf1_1 := blk_frozen Bg1.out 1) | ((with_reducible refine gate_dst (N := 4) rfl ?_); refine box_event ?hg (N := 4) ?hd (cs := #[.slice none 0 0, .slice none 0 0]) (t := 26) ?hr ?_; (case hd => rfl); (case hg => rfl); (case hr => first | (go_simp; done) | (go_simp; rfl)); intro g4 hg w5 hbox hb; have Gg4 : Aside0 (g4 = w4.heap.size) := ⟨hg⟩; have Kg4 := Aside0.mk (blk_lt hbox); clear hg; have n_U21 := Aside0.mk (U21.out.mvB (Frm.below hb)); have n_U22_0 := Aside0.mk (U22_0.out.mvB (Frm.below hb)); have n_U22_1 := Aside0.mk (U22_1.out.mvB (Frm.below hb)); have n_Bg1 := Aside0.mk (blk_below Bg1.out hb); have n_HB := Aside0.mk (below_step HB.out hb); have NN5 : Aside0 (w4.heap.size ≤ w5.heap.size) := ⟨hb.size⟩; clear hc1_0 hf1_0; clear hc1_1 hf1_1; clear U21 U22_0 U22_1 Bg1 HB; have U21 := n_U21; have U22_0 := n_U22_0; have U22_1 := n_U22_1; have Bg1 := n_Bg1; have HB := n_HB; clear n_U21 n_U22_0 n_U22_1 n_Bg1 n_HB; have Bg4 := Aside0.mk hbox; clear hb hbox; have hc1_0 : w5.cell? ⟨g1, 0, none⟩ = some (.slice A0_0 l0_0.length c0_0) := (blk_cell Bg1.out 0).trans rfl; have hf1_0 := blk_frozen Bg1.out 0; have hc1_1 : w5.cell? ⟨g1, 1, none⟩ = some (.slice A0_1 l0_1.length c0_1) := (blk_cell Bg1.out 1).trans rfl; have hf1_1 := blk_frozen Bg1.out 1; have hc4_0 : w5.cell? ⟨g4, 0, none⟩ = some (.slice none 0 0) := (blk_cell Bg4.out 0).trans rfl; have hf4_0 := blk_frozen Bg4.out 0; have hc4_1 : w5.cell? ⟨g4, 1, none⟩ = some (.slice none 0 0) := (blk_cell Bg4.out 1).trans rfl; have hf4_1 := blk_frozen Bg4.out 1) | ((with_reducible refine gate_store (t := 26) (p := 4) rfl ?_); refine store_event (t := 26) (p := 4) (v := ?vo_w6) (w1 := ((w5.setCell ⟨g4, 0, none⟩ (.slice A22_0 s0.length c22_0)).setCell ⟨g4, 1, none⟩ (.slice A22_1 s1.length c22_1))) ?hg ?ho ?hn ?hr ?_; (case ho => rfl); (case hg => rfl); (case hn => rfl); (case hr => first | (go_simp; done) | (go_simp; rfl)); intro w6 hw; have hge : w.heap.size ≤ g4 := (by have := NN1.out; have := Gg1.out; have := Kg1.out; have := NN2.out; have := NN3.out; have := NN4.out; have := NN5.out; have := Gg4.out; have := Kg4.out; have := HB.out.size; omega); have hF : Frm w5 w6 g4 (g4 + 1) := (by rw [hw]; exact (Frm.trans (Frm.set _ _ _ _) (Frm.set _ _ _ _))); have nb := Aside0.mk (show w6.heap[g4]? = some (.cells #[.slice A22_0 s0.length c22_0, .slice A22_1 s1.length c22_1] 26 (0, 0)) from (by rw [hw]; exact (blk_put (blk_put Bg4.out 0 _ rfl) 1 _ rfl))); have n_U21 := Aside0.mk (U21.out.mv hF (by have := NN1.out; have := Gg1.out; have := Kg1.out; have := NN2.out; have := NN3.out; have := NN4.out; have := NN5.out; have := Gg4.out; have := Kg4.out; omega)); have n_U22_0 := Aside0.mk (U22_0.out.mv hF (by have := NN1.out; have := Gg1.out; have := Kg1.out; have := NN2.out; have := NN3.out; have := NN4.out; have := NN5.out; have := Gg4.out; have := Kg4.out; omega)); have n_U22_1 := Aside0.mk (U22_1.out.mv hF (by have := NN1.out; have := Gg1.out; have := Kg1.out; have := NN2.out; have := NN3.out; have := NN4.out; have := NN5.out; have := Gg4.out; have := Kg4.out; omega)); have n_Bg1 := Aside0.mk ((hF.same g1 (blk_lt Bg1.out) (by have := NN1.out; have := Gg1.out; have := Kg1.out; have := NN2.out; have := NN3.out; have := NN4.out; have := NN5.out; have := Gg4.out; have := Kg4.out; omega)).trans Bg1.out); have n_HB := Aside0.mk ((by rw [hw]; exact (below_set (below_set HB.out hge) hge) : Below w.heap.size w w6)); have NN6 : Aside0 (w5.heap.size ≤ w6.heap.size) := ⟨hF.size⟩; clear hc1_0 hf1_0; clear hc1_1 hf1_1; clear hc4_0 hf4_0; clear hc4_1 hf4_1; clear U21 U22_0 U22_1 Bg1 HB; have U21 := n_U21; have U22_0 := n_U22_0; have U22_1 := n_U22_1; have Bg1 := n_Bg1; have HB := n_HB; clear n_U21 n_U22_0 n_U22_1 n_Bg1 n_HB; clear Bg4; have Bg4 := nb; clear nb hF hge hw; have hc1_0 : w6.cell? ⟨g1, 0, none⟩ = some (.slice A0_0 l0_0.length c0_0) := (blk_cell Bg1.out 0).trans rfl; have hf1_0 := blk_frozen Bg1.out 0; have hc1_1 : w6.cell? ⟨g1, 1, none⟩ = some (.slice A0_1 l0_1.length c0_1) := (blk_cell Bg1.out 1).trans rfl; have hf1_1 := blk_frozen Bg1.out 1; have hc4_0 : w6.cell? ⟨g4, 0, none⟩ = some (.slice A22_0 s0.length c22_0) := (blk_cell Bg4.out 0).trans rfl; have hf4_0 := blk_frozen Bg4.out 0; have hc4_1 : w6.cell? ⟨g4, 1, none⟩ = some (.slice A22_1 s1.length c22_1) := (blk_cell Bg4.out 1).trans rfl; have hf4_1 := blk_frozen Bg4.out 1) | ((with_reducible refine gate_callee (f := 17) rfl ?_); refine goesL_ (some 26) rfl rfl Try.func17 (by kernel_rfl) rfl #[.agg #[.slice A0_0 l0_0.length c0_0, .slice A0_1 l0_1.length c0_1]] rfl (by (try simp only [List.map_toArray, List.map_cons, List.map_nil]); first | done | rfl) ?_; refine (laws_toGame2.calls k _ _ l0_0 _ _ l0_1 _ ?s1 ?s2 ?s3 ?s4 H3'.out).mono ?_; (case s1 => exact Kd.C_below HR0_0.out HB.out); (case s2 => exact HC0_0.out); (case s3 => exact Kd.C_below HR0_1.out HB.out); (case s4 => exact HC0_1.out); rintro e w7 ⟨v26_0, v26_1, rfl, ho0, hb⟩; refine ⟨_, rfl, ?_⟩; have nu0 := Aside0.mk (UG.of ho0 HB.out.size); have n_U21 := Aside0.mk (U21.out.mvB (Frm.below hb)); have n_U22_0 := Aside0.mk (U22_0.out.mvB (Frm.below hb)); have n_U22_1 := Aside0.mk (U22_1.out.mvB (Frm.below hb)); have n_Bg1 := Aside0.mk (blk_below Bg1.out hb); have n_Bg4 := Aside0.mk (blk_below Bg4.out hb); have n_HB := Aside0.mk (below_step HB.out hb); have NN7 : Aside0 (w6.heap.size ≤ w7.heap.size) := ⟨hb.size⟩; clear hc1_0 hf1_0; clear hc1_1 hf1_1; clear hc4_0 hf4_0; clear hc4_1 hf4_1; clear U21 U22_0 U22_1 Bg1 Bg4 HB; have U21 := n_U21; have U22_0 := n_U22_0; have U22_1 := n_U22_1; have Bg1 := n_Bg1; have Bg4 := n_Bg4; have HB := n_HB; clear n_U21 n_U22_0 n_U22_1 n_Bg1 n_Bg4 n_HB; clear hb ho0; have U26 := nu0; clear nu0; obtain ⟨A26_0, c26_0, A26_1, c26_1, e0, e1⟩ := U26.out.slices; subst e0; subst e1; have hc1_0 : w7.cell? ⟨g1, 0, none⟩ = some (.slice A0_0 l0_0.length c0_0) := (blk_cell Bg1.out 0).trans rfl; have hf1_0 := blk_frozen Bg1.out 0; have hc1_1 : w7.cell? ⟨g1, 1, none⟩ = some (.slice A0_1 l0_1.length c0_1) := (blk_cell Bg1.out 1).trans rfl; have hf1_1 := blk_frozen Bg1.out 1; have hc4_0 : w7.cell? ⟨g4, 0, none⟩ = some (.slice A22_0 s0.length c22_0) := (blk_cell Bg4.out 0).trans rfl; have hf4_0 := blk_frozen Bg4.out 0; have hc4_1 : w7.cell? ⟨g4, 1, none⟩ = some (.slice A22_1 s1.length c22_1) := (blk_cell Bg4.out 1).trans rfl; have hf4_1 := blk_frozen Bg4.out 1) | ((with_reducible refine gate_dst (N := 6) rfl ?_); refine box_event ?hg (N := 6) ?hd (cs := #[.slice none 0 0, .slice none 0 0]) (t := 26) ?hr ?_; (case hd => rfl); (case hg => rfl); (case hr => first | (go_simp; done) | (go_simp; rfl)); intro g6 hg w8 hbox hb; have Gg6 : Aside0 (g6 = w7.heap.size) := ⟨hg⟩; have Kg6 := Aside0.mk (blk_lt hbox); clear hg; have n_U21 := Aside0.mk (U21.out.mvB (Frm.below hb)); have n_U22_0 := Aside0.mk (U22_0.out.mvB (Frm.below hb)); have n_U22_1 := Aside0.mk (U22_1.out.mvB (Frm.below hb)); have n_U26 := Aside0.mk (U26.out.mvB (Frm.below hb)); have n_Bg1 := Aside0.mk (blk_below Bg1.out hb); have n_Bg4 := Aside0.mk (blk_below Bg4.out hb); have n_HB := Aside0.mk (below_step HB.out hb); have NN8 : Aside0 (w7.heap.size ≤ w8.heap.size) := ⟨hb.size⟩; clear hc1_0 hf1_0; clear hc1_1 hf1_1; clear hc4_0 hf4_0; clear hc4_1 hf4_1; clear U21 U22_0 U22_1 U26 Bg1 Bg4 HB; have U21 := n_U21; have U22_0 := n_U22_0; have U22_1 := n_U22_1; have U26 := n_U26; have Bg1 := n_Bg1; have Bg4 := n_Bg4; have HB := n_HB; clear n_U21 n_U22_0 n_U22_1 n_U26 n_Bg1 n_Bg4 n_HB; have Bg6 := Aside0.mk hbox; clear hb hbox; have hc1_0 : w8.cell? ⟨g1, 0, none⟩ = some (.slice A0_0 l0_0.length c0_0) := (blk_cell Bg1.out 0).trans rfl; have hf1_0 := blk_frozen Bg1.out 0; have hc1_1 : w8.cell? ⟨g1, 1, none⟩ = some (.slice A0_1 l0_1.length c0_1) := (blk_cell Bg1.out 1).trans rfl; have hf1_1 := blk_frozen Bg1.out 1; have hc4_0 : w8.cell? ⟨g4, 0, none⟩ = some (.slice A22_0 s0.length c22_0) := (blk_cell Bg4.out 0).trans rfl; have hf4_0 := blk_frozen Bg4.out 0; have hc4_1 : w8.cell? ⟨g4, 1, none⟩ = some (.slice A22_1 s1.length c22_1) := (blk_cell Bg4.out 1).trans rfl; have hf4_1 := blk_frozen Bg4.out 1; have hc6_0 : w8.cell? ⟨g6, 0, none⟩ = some (.slice none 0 0) := (blk_cell Bg6.out 0).trans rfl; have hf6_0 := blk_frozen Bg6.out 0; have hc6_1 : w8.cell? ⟨g6, 1, none⟩ = some (.slice none 0 0) := (blk_cell Bg6.out 1).trans rfl; have hf6_1 := blk_frozen Bg6.out 1) | ((with_reducible refine gate_store (t := 26) (p := 6) rfl ?_); refine store_event (t := 26) (p := 6) (v := ?vo_w9) (w1 := ((w8.setCell ⟨g6, 0, none⟩ (.slice A26_0 l0_0.length c26_0)).setCell ⟨g6, 1, none⟩ (.slice A26_1 l0_1.length c26_1))) ?hg ?ho ?hn ?hr ?_; (case ho => rfl); (case hg => rfl); (case hn => rfl); (case hr => first | (go_simp; done) | (go_simp; rfl)); intro w9 hw; have hge : w.heap.size ≤ g6 := (by have := NN1.out; have := Gg1.out; have := Kg1.out; have := NN2.out; have := NN3.out; have := NN4.out; have := NN5.out; have := Gg4.out; have := Kg4.out; have := NN6.out; have := NN7.out; have := NN8.out; have := Gg6.out; have := Kg6.out; have := HB.out.size; omega); have hF : Frm w8 w9 g6 (g6 + 1) := (by rw [hw]; exact (Frm.trans (Frm.set _ _ _ _) (Frm.set _ _ _ _))); have nb := Aside0.mk (show w9.heap[g6]? = some (.cells #[.slice A26_0 l0_0.length c26_0, .slice A26_1 l0_1.length c26_1] 26 (0, 0)) from (by rw [hw]; exact (blk_put (blk_put Bg6.out 0 _ rfl) 1 _ rfl))); have n_U21 := Aside0.mk (U21.out.mv hF (by have := NN1.out; have := Gg1.out; have := Kg1.out; have := NN2.out; have := NN3.out; have := NN4.out; have := NN5.out; have := Gg4.out; have := Kg4.out; have := NN6.out; have := NN7.out; have := NN8.out; have := Gg6.out; have := Kg6.out; omega)); have n_U22_0 := Aside0.mk (U22_0.out.mv hF (by have := NN1.out; have := Gg1.out; have := Kg1.out; have := NN2.out; have := NN3.out; have := NN4.out; have := NN5.out; have := Gg4.out; have := Kg4.out; have := NN6.out; have := NN7.out; have := NN8.out; have := Gg6.out; have := Kg6.out; omega)); have n_U22_1 := Aside0.mk (U22_1.out.mv hF (by have := NN1.out; have := Gg1.out; have := Kg1.out; have := NN2.out; have := NN3.out; have := NN4.out; have := NN5.out; have := Gg4.out; have := Kg4.out; have := NN6.out; have := NN7.out; have := NN8.out; have := Gg6.out; have := Kg6.out; omega)); have n_U26 := Aside0.mk (U26.out.mv hF (by have := NN1.out; have := Gg1.out; have := Kg1.out; have := NN2.out; have := NN3.out; have := NN4.out; have := NN5.out; have := Gg4.out; have := Kg4.out; have := NN6.out; have := NN7.out; have := NN8.out; have := Gg6.out; have := Kg6.out; omega)); have n_Bg1 := Aside0.mk ((hF.same g1 (blk_lt Bg1.out) (by have := NN1.out; have := Gg1.out; have := Kg1.out; have := NN2.out; have := NN3.out; have := NN4.out; have := NN5.out; have := Gg4.out; have := Kg4.out; have := NN6.out; have := NN7.out; have := NN8.out; have := Gg6.out; have := Kg6.out; omega)).trans Bg1.out); have n_Bg4 := Aside0.mk ((hF.same g4 (blk_lt Bg4.out) (by have := NN1.out; have := Gg1.out; have := Kg1.out; have := NN2.out; have := NN3.out; have := NN4.out; have := NN5.out; have := Gg4.out; have := Kg4.out; have := NN6.out; have := NN7.out; have := NN8.out; have := Gg6.out; have := Kg6.out; omega)).trans Bg4.out); have n_HB := Aside0.mk ((by rw [hw]; exact (below_set (below_set HB.out hge) hge) : Below w.heap.size w w9)); have NN9 : Aside0 (w8.heap.size ≤ w9.heap.size) := ⟨hF.size⟩; clear hc1_0 hf1_0; clear hc1_1 hf1_1; clear hc4_0 hf4_0; clear hc4_1 hf4_1; clear hc6_0 hf6_0; clear hc6_1 hf6_1; clear U21 U22_0 U22_1 U26 Bg1 Bg4 HB; have U21 := n_U21; have U22_0 := n_U22_0; have U22_1 := n_U22_1; have U26 := n_U26; have Bg1 := n_Bg1; have Bg4 := n_Bg4; have HB := n_HB; clear n_U21 n_U22_0 n_U22_1 n_U26 n_Bg1 n_Bg4 n_HB; clear Bg6; have Bg6 := nb; clear nb hF hge hw; have hc1_0 : w9.cell? ⟨g1, 0, none⟩ = some (.slice A0_0 l0_0.length c0_0) := (blk_cell Bg1.out 0).trans rfl; have hf1_0 := blk_frozen Bg1.out 0; have hc1_1 : w9.cell? ⟨g1, 1, none⟩ = some (.slice A0_1 l0_1.length c0_1) := (blk_cell Bg1.out 1).trans rfl; have hf1_1 := blk_frozen Bg1.out 1; have hc4_0 : w9.cell? ⟨g4, 0, none⟩ = some (.slice A22_0 s0.length c22_0) := (blk_cell Bg4.out 0).trans rfl; have hf4_0 := blk_frozen Bg4.out 0; have hc4_1 : w9.cell? ⟨g4, 1, none⟩ = some (.slice A22_1 s1.length c22_1) := (blk_cell Bg4.out 1).trans rfl; have hf4_1 := blk_frozen Bg4.out 1; have hc6_0 : w9.cell? ⟨g6, 0, none⟩ = some (.slice A26_0 l0_0.length c26_0) := (blk_cell Bg6.out 0).trans rfl; have hf6_0 := blk_frozen Bg6.out 0; have hc6_1 : w9.cell? ⟨g6, 1, none⟩ = some (.slice A26_1 l0_1.length c26_1) := (blk_cell Bg6.out 1).trans rfl; have hf6_1 := blk_frozen Bg6.out 1) | ((with_reducible refine gate_callee (f := 18) rfl ?_); refine goesL_ (some 29) rfl rfl Try.func18 (by kernel_rfl) rfl #[.agg #[.slice A26_0 l0_0.length c26_0, .slice A26_1 l0_1.length c26_1]] rfl (by (try simp only [List.map_toArray, List.map_cons, List.map_nil]); first | done | rfl) ?_; refine (impl_ExchangePlayers2.calls k _ _ l0_0 _ _ l0_1 s0 s1 s2 _ ?s1 ?s2 ?s3 ?s4 H5'.out).mono ?_; (case s1 => exact U26.out.C0); (case s2 => exact U26.out.cap0); (case s3 => exact U26.out.C1); (case s4 => exact U26.out.cap1); rintro e w10 ⟨v29_0, v29_1, rfl, ho0, hb⟩; refine ⟨_, rfl, ?_⟩; have nu0 := Aside0.mk (UG.of ho0 HB.out.size); have n_U21 := Aside0.mk (U21.out.mvB (Frm.below hb)); have n_U22_0 := Aside0.mk (U22_0.out.mvB (Frm.below hb)); have n_U22_1 := Aside0.mk (U22_1.out.mvB (Frm.below hb)); have n_U26 := Aside0.mk (U26.out.mvB (Frm.below hb)); have n_Bg1 := Aside0.mk (blk_below Bg1.out hb); have n_Bg4 := Aside0.mk (blk_below Bg4.out hb); have n_Bg6 := Aside0.mk (blk_below Bg6.out hb); have n_HB := Aside0.mk (below_step HB.out hb); have NN10 : Aside0 (w9.heap.size ≤ w10.heap.size) := ⟨hb.size⟩; clear hc1_0 hf1_0; clear hc1_1 hf1_1; clear hc4_0 hf4_0; clear hc4_1 hf4_1; clear hc6_0 hf6_0; clear hc6_1 hf6_1; clear U21 U22_0 U22_1 U26 Bg1 Bg4 Bg6 HB; have U21 := n_U21; have U22_0 := n_U22_0; have U22_1 := n_U22_1; have U26 := n_U26; have Bg1 := n_Bg1; have Bg4 := n_Bg4; have Bg6 := n_Bg6; have HB := n_HB; clear n_U21 n_U22_0 n_U22_1 n_U26 n_Bg1 n_Bg4 n_Bg6 n_HB; clear hb ho0; have U29 := nu0; clear nu0; obtain ⟨A29_0, c29_0, A29_1, c29_1, e0, e1⟩ := U29.out.slices; subst e0; subst e1; have hc1_0 : w10.cell? ⟨g1, 0, none⟩ = some (.slice A0_0 l0_0.length c0_0) := (blk_cell Bg1.out 0).trans rfl; have hf1_0 := blk_frozen Bg1.out 0; have hc1_1 : w10.cell? ⟨g1, 1, none⟩ = some (.slice A0_1 l0_1.length c0_1) := (blk_cell Bg1.out 1).trans rfl; have hf1_1 := blk_frozen Bg1.out 1; have hc4_0 : w10.cell? ⟨g4, 0, none⟩ = some (.slice A22_0 s0.length c22_0) := (blk_cell Bg4.out 0).trans rfl; have hf4_0 := blk_frozen Bg4.out 0; have hc4_1 : w10.cell? ⟨g4, 1, none⟩ = some (.slice A22_1 s1.length c22_1) := (blk_cell Bg4.out 1).trans rfl; have hf4_1 := blk_frozen Bg4.out 1; have hc6_0 : w10.cell? ⟨g6, 0, none⟩ = some (.slice A26_0 l0_0.length c26_0) := (blk_cell Bg6.out 0).trans rfl; have hf6_0 := blk_frozen Bg6.out 0; have hc6_1 : w10.cell? ⟨g6, 1, none⟩ = some (.slice A26_1 l0_1.length c26_1) := (blk_cell Bg6.out 1).trans rfl; have hf6_1 := blk_frozen Bg6.out 1) | ((with_reducible refine gate_dst (N := 7) rfl ?_); refine box_event ?hg (N := 7) ?hd (cs := #[.slice none 0 0, .slice none 0 0]) (t := 26) ?hr ?_; (case hd => rfl); (case hg => rfl); (case hr => first | (go_simp; done) | (go_simp; rfl)); intro g7 hg w11 hbox hb; have Gg7 : Aside0 (g7 = w10.heap.size) := ⟨hg⟩; have Kg7 := Aside0.mk (blk_lt hbox); clear hg; have n_U21 := Aside0.mk (U21.out.mvB (Frm.below hb)); have n_U22_0 := Aside0.mk (U22_0.out.mvB (Frm.below hb)); have n_U22_1 := Aside0.mk (U22_1.out.mvB (Frm.below hb)); have n_U26 := Aside0.mk (U26.out.mvB (Frm.below hb)); have n_U29 := Aside0.mk (U29.out.mvB (Frm.below hb)); have n_Bg1 := Aside0.mk (blk_below Bg1.out hb); have n_Bg4 := Aside0.mk (blk_below Bg4.out hb); have n_Bg6 := Aside0.mk (blk_below Bg6.out hb); have n_HB := Aside0.mk (below_step HB.out hb); have NN11 : Aside0 (w10.heap.size ≤ w11.heap.size) := ⟨hb.size⟩; clear hc1_0 hf1_0; clear hc1_1 hf1_1; clear hc4_0 hf4_0; clear hc4_1 hf4_1; clear hc6_0 hf6_0; clear hc6_1 hf6_1; clear U21 U22_0 U22_1 U26 U29 Bg1 Bg4 Bg6 HB; have U21 := n_U21; have U22_0 := n_U22_0; have U22_1 := n_U22_1; have U26 := n_U26; have U29 := n_U29; have Bg1 := n_Bg1; have Bg4 := n_Bg4; have Bg6 := n_Bg6; have HB := n_HB; clear n_U21 n_U22_0 n_U22_1 n_U26 n_U29 n_Bg1 n_Bg4 n_Bg6 n_HB; have Bg7 := Aside0.mk hbox; clear hb hbox; have hc1_0 : w11.cell? ⟨g1, 0, none⟩ = some (.slice A0_0 l0_0.length c0_0) := (blk_cell Bg1.out 0).trans rfl; have hf1_0 := blk_frozen Bg1.out 0; have hc1_1 : w11.cell? ⟨g1, 1, none⟩ = some (.slice A0_1 l0_1.length c0_1) := (blk_cell Bg1.out 1).trans rfl; have hf1_1 := blk_frozen Bg1.out 1; have hc4_0 : w11.cell? ⟨g4, 0, none⟩ = some (.slice A22_0 s0.length c22_0) := (blk_cell Bg4.out 0).trans rfl; have hf4_0 := blk_frozen Bg4.out 0; have hc4_1 : w11.cell? ⟨g4, 1, none⟩ = some (.slice A22_1 s1.length c22_1) := (blk_cell Bg4.out 1).trans rfl; have hf4_1 := blk_frozen Bg4.out 1; have hc6_0 : w11.cell? ⟨g6, 0, none⟩ = some (.slice A26_0 l0_0.length c26_0) := (blk_cell Bg6.out 0).trans rfl; have hf6_0 := blk_frozen Bg6.out 0; have hc6_1 : w11.cell? ⟨g6, 1, none⟩ = some (.slice A26_1 l0_1.length c26_1) := (blk_cell Bg6.out 1).trans rfl; have hf6_1 := blk_frozen Bg6.out 1; have hc7_0 : w11.cell? ⟨g7, 0, none⟩ = some (.slice none 0 0) := (blk_cell Bg7.out 0).trans rfl; have hf7_0 := blk_frozen Bg7.out 0; have hc7_1 : w11.cell? ⟨g7, 1, none⟩ = some (.slice none 0 0) := (blk_cell Bg7.out 1).trans rfl; have hf7_1 := blk_frozen Bg7.out 1) | ((with_reducible refine gate_store (t := 26) (p := 7) rfl ?_); refine store_event (t := 26) (p := 7) (v := ?vo_w12) (w1 := ((w11.setCell ⟨g7, 0, none⟩ (.slice A29_0 s0.length c29_0)).setCell ⟨g7, 1, none⟩ (.slice A29_1 s1.length c29_1))) ?hg ?ho ?hn ?hr ?_; (case ho => rfl); (case hg => rfl); (case hn => rfl); (case hr => first | (go_simp; done) | (go_simp; rfl)); intro w12 hw; have hge : w.heap.size ≤ g7 := (by have := NN1.out; have := Gg1.out; have := Kg1.out; have := NN2.out; have := NN3.out; have := NN4.out; have := NN5.out; have := Gg4.out; have := Kg4.out; have := NN6.out; have := NN7.out; have := NN8.out; have := Gg6.out; have := Kg6.out; have := NN9.out; have := NN10.out; have := NN11.out; have := Gg7.out; have := Kg7.out; have := HB.out.size; omega); have hF : Frm w11 w12 g7 (g7 + 1) := (by rw [hw]; exact (Frm.trans (Frm.set _ _ _ _) (Frm.set _ _ _ _))); have nb := Aside0.mk (show w12.heap[g7]? = some (.cells #[.slice A29_0 s0.length c29_0, .slice A29_1 s1.length c29_1] 26 (0, 0)) from (by rw [hw]; exact (blk_put (blk_put Bg7.out 0 _ rfl) 1 _ rfl))); have n_U21 := Aside0.mk (U21.out.mv hF (by have := NN1.out; have := Gg1.out; have := Kg1.out; have := NN2.out; have := NN3.out; have := NN4.out; have := NN5.out; have := Gg4.out; have := Kg4.out; have := NN6.out; have := NN7.out; have := NN8.out; have := Gg6.out; have := Kg6.out; have := NN9.out; have := NN10.out; have := NN11.out; have := Gg7.out; have := Kg7.out; omega)); have n_U22_0 := Aside0.mk (U22_0.out.mv hF (by have := NN1.out; have := Gg1.out; have := Kg1.out; have := NN2.out; have := NN3.out; have := NN4.out; have := NN5.out; have := Gg4.out; have := Kg4.out; have := NN6.out; have := NN7.out; have := NN8.out; have := Gg6.out; have := Kg6.out; have := NN9.out; have := NN10.out; have := NN11.out; have := Gg7.out; have := Kg7.out; omega)); have n_U22_1 := Aside0.mk (U22_1.out.mv hF (by have := NN1.out; have := Gg1.out; have := Kg1.out; have := NN2.out; have := NN3.out; have := NN4.out; have := NN5.out; have := Gg4.out; have := Kg4.out; have := NN6.out; have := NN7.out; have := NN8.out; have := Gg6.out; have := Kg6.out; have := NN9.out; have := NN10.out; have := NN11.out; have := Gg7.out; have := Kg7.out; omega)); have n_U26 := Aside0.mk (U26.out.mv hF (by have := NN1.out; have := Gg1.out; have := Kg1.out; have := NN2.out; have := NN3.out; have := NN4.out; have := NN5.out; have := Gg4.out; have := Kg4.out; have := NN6.out; have := NN7.out; have := NN8.out; have := Gg6.out; have := Kg6.out; have := NN9.out; have := NN10.out; have := NN11.out; have := Gg7.out; have := Kg7.out; omega)); have n_U29 := Aside0.mk (U29.out.mv hF (by have := NN1.out; have := Gg1.out; have := Kg1.out; have := NN2.out; have := NN3.out; have := NN4.out; have := NN5.out; have := Gg4.out; have := Kg4.out; have := NN6.out; have := NN7.out; have := NN8.out; have := Gg6.out; have := Kg6.out; have := NN9.out; have := NN10.out; have := NN11.out; have := Gg7.out; have := Kg7.out; omega)); have n_Bg1 := Aside0.mk ((hF.same g1 (blk_lt Bg1.out) (by have := NN1.out; have := Gg1.out; have := Kg1.out; have := NN2.out; have := NN3.out; have := NN4.out; have := NN5.out; have := Gg4.out; have := Kg4.out; have := NN6.out; have := NN7.out; have := NN8.out; have := Gg6.out; have := Kg6.out; have := NN9.out; have := NN10.out; have := NN11.out; have := Gg7.out; have := Kg7.out; omega)).trans Bg1.out); have n_Bg4 := Aside0.mk ((hF.same g4 (blk_lt Bg4.out) (by have := NN1.out; have := Gg1.out; have := Kg1.out; have := NN2.out; have := NN3.out; have := NN4.out; have := NN5.out; have := Gg4.out; have := Kg4.out; have := NN6.out; have := NN7.out; have := NN8.out; have := Gg6.out; have := Kg6.out; have := NN9.out; have := NN10.out; have := NN11.out; have := Gg7.out; have := Kg7.out; omega)).trans Bg4.out); have n_Bg6 := Aside0.mk ((hF.same g6 (blk_lt Bg6.out) (by have := NN1.out; have := Gg1.out; have := Kg1.out; have := NN2.out; have := NN3.out; have := NN4.out; have := NN5.out; have := Gg4.out; have := Kg4.out; have := NN6.out; have := NN7.out; have := NN8.out; have := Gg6.out; have := Kg6.out; have := NN9.out; have := NN10.out; have := NN11.out; have := Gg7.out; have := Kg7.out; omega)).trans Bg6.out); have n_HB := Aside0.mk ((by rw [hw]; exact (below_set (below_set HB.out hge) hge) : Below w.heap.size w w12)); have NN12 : Aside0 (w11.heap.size ≤ w12.heap.size) := ⟨hF.size⟩; clear hc1_0 hf1_0; clear hc1_1 hf1_1; clear hc4_0 hf4_0; clear hc4_1 hf4_1; clear hc6_0 hf6_0; clear hc6_1 hf6_1; clear hc7_0 hf7_0; clear hc7_1 hf7_1; clear U21 U22_0 U22_1 U26 U29 Bg1 Bg4 Bg6 HB; have U21 := n_U21; have U22_0 := n_U22_0; have U22_1 := n_U22_1; have U26 := n_U26; have U29 := n_U29; have Bg1 := n_Bg1; have Bg4 := n_Bg4; have Bg6 := n_Bg6; have HB := n_HB; clear n_U21 n_U22_0 n_U22_1 n_U26 n_U29 n_Bg1 n_Bg4 n_Bg6 n_HB; clear Bg7; have Bg7 := nb; clear nb hF hge hw; have hc1_0 : w12.cell? ⟨g1, 0, none⟩ = some (.slice A0_0 l0_0.length c0_0) := (blk_cell Bg1.out 0).trans rfl; have hf1_0 := blk_frozen Bg1.out 0; have hc1_1 : w12.cell? ⟨g1, 1, none⟩ = some (.slice A0_1 l0_1.length c0_1) := (blk_cell Bg1.out 1).trans rfl; have hf1_1 := blk_frozen Bg1.out 1; have hc4_0 : w12.cell? ⟨g4, 0, none⟩ = some (.slice A22_0 s0.length c22_0) := (blk_cell Bg4.out 0).trans rfl; have hf4_0 := blk_frozen Bg4.out 0; have hc4_1 : w12.cell? ⟨g4, 1, none⟩ = some (.slice A22_1 s1.length c22_1) := (blk_cell Bg4.out 1).trans rfl; have hf4_1 := blk_frozen Bg4.out 1; have hc6_0 : w12.cell? ⟨g6, 0, none⟩ = some (.slice A26_0 l0_0.length c26_0) := (blk_cell Bg6.out 0).trans rfl; have hf6_0 := blk_frozen Bg6.out 0; have hc6_1 : w12.cell? ⟨g6, 1, none⟩ = some (.slice A26_1 l0_1.length c26_1) := (blk_cell Bg6.out 1).trans rfl; have hf6_1 := blk_frozen Bg6.out 1; have hc7_0 : w12.cell? ⟨g7, 0, none⟩ = some (.slice A29_0 s0.length c29_0) := (blk_cell Bg7.out 0).trans rfl; have hf7_0 := blk_frozen Bg7.out 0; have hc7_1 : w12.cell? ⟨g7, 1, none⟩ = some (.slice A29_1 s1.length c29_1) := (blk_cell Bg7.out 1).trans rfl; have hf7_1 := blk_frozen Bg7.out 1) | ((with_reducible refine gate_callee (f := 19) rfl ?_); refine goesL_ (some 34) rfl rfl Try.func19 (by kernel_rfl) rfl #[.agg #[.slice A29_0 s0.length c29_0, .slice A29_1 s1.length c29_1], .agg #[.slice A22_0 s0.length c22_0, .slice A22_1 s1.length c22_1]] rfl (by (try simp only [List.map_toArray, List.map_cons, List.map_nil]); first | done | rfl) ?_; refine (laws_eqGame.calls k _ _ s0 _ _ s1 _ _ s0 _ _ s1 true _ ?s1 ?s2 ?s3 ?s4 ?s5 ?s6 ?s7 ?s8 H6'.out).mono ?_; (case s1 => exact U29.out.C0); (case s2 => exact U29.out.cap0); (case s3 => exact U29.out.C1); (case s4 => exact U29.out.cap1); (case s5 => exact US.C U22_0.out); (case s6 => exact US.cap U22_0.out); (case s7 => exact US.C U22_1.out); (case s8 => exact US.cap U22_1.out); rintro e w13 ⟨rfl, hb⟩; refine ⟨_, rfl, ?_⟩; have n_U21 := Aside0.mk (U21.out.mvB (Frm.below hb)); have n_U22_0 := Aside0.mk (U22_0.out.mvB (Frm.below hb)); have n_U22_1 := Aside0.mk (U22_1.out.mvB (Frm.below hb)); have n_U26 := Aside0.mk (U26.out.mvB (Frm.below hb)); have n_U29 := Aside0.mk (U29.out.mvB (Frm.below hb)); have n_Bg1 := Aside0.mk (blk_below Bg1.out hb); have n_Bg4 := Aside0.mk (blk_below Bg4.out hb); have n_Bg6 := Aside0.mk (blk_below Bg6.out hb); have n_Bg7 := Aside0.mk (blk_below Bg7.out hb); have n_HB := Aside0.mk (below_step HB.out hb); have NN13 : Aside0 (w12.heap.size ≤ w13.heap.size) := ⟨hb.size⟩; clear hc1_0 hf1_0; clear hc1_1 hf1_1; clear hc4_0 hf4_0; clear hc4_1 hf4_1; clear hc6_0 hf6_0; clear hc6_1 hf6_1; clear hc7_0 hf7_0; clear hc7_1 hf7_1; clear U21 U22_0 U22_1 U26 U29 Bg1 Bg4 Bg6 Bg7 HB; have U21 := n_U21; have U22_0 := n_U22_0; have U22_1 := n_U22_1; have U26 := n_U26; have U29 := n_U29; have Bg1 := n_Bg1; have Bg4 := n_Bg4; have Bg6 := n_Bg6; have Bg7 := n_Bg7; have HB := n_HB; clear n_U21 n_U22_0 n_U22_1 n_U26 n_U29 n_Bg1 n_Bg4 n_Bg6 n_Bg7 n_HB; clear hb; have hc1_0 : w13.cell? ⟨g1, 0, none⟩ = some (.slice A0_0 l0_0.length c0_0) := (blk_cell Bg1.out 0).trans rfl; have hf1_0 := blk_frozen Bg1.out 0; have hc1_1 : w13.cell? ⟨g1, 1, none⟩ = some (.slice A0_1 l0_1.length c0_1) := (blk_cell Bg1.out 1).trans rfl; have hf1_1 := blk_frozen Bg1.out 1; have hc4_0 : w13.cell? ⟨g4, 0, none⟩ = some (.slice A22_0 s0.length c22_0) := (blk_cell Bg4.out 0).trans rfl; have hf4_0 := blk_frozen Bg4.out 0; have hc4_1 : w13.cell? ⟨g4, 1, none⟩ = some (.slice A22_1 s1.length c22_1) := (blk_cell Bg4.out 1).trans rfl; have hf4_1 := blk_frozen Bg4.out 1; have hc6_0 : w13.cell? ⟨g6, 0, none⟩ = some (.slice A26_0 l0_0.length c26_0) := (blk_cell Bg6.out 0).trans rfl; have hf6_0 := blk_frozen Bg6.out 0; have hc6_1 : w13.cell? ⟨g6, 1, none⟩ = some (.slice A26_1 l0_1.length c26_1) := (blk_cell Bg6.out 1).trans rfl; have hf6_1 := blk_frozen Bg6.out 1; have hc7_0 : w13.cell? ⟨g7, 0, none⟩ = some (.slice A29_0 s0.length c29_0) := (blk_cell Bg7.out 0).trans rfl; have hf7_0 := blk_frozen Bg7.out 0; have hc7_1 : w13.cell? ⟨g7, 1, none⟩ = some (.slice A29_1 s1.length c29_1) := (blk_cell Bg7.out 1).trans rfl; have hf7_1 := blk_frozen Bg7.out 1))
  try go_wp2
  have hb : Below w13.heap.size w13 w13.drew := (Below.refl _ _).drew
  have n_U21 := Aside0.mk (U21.out.mvB (Frm.below hb))
  have n_U22_0 := Aside0.mk (U22_0.out.mvB (Frm.below hb))
  have n_U22_1 := Aside0.mk (U22_1.out.mvB (Frm.below hb))
  have n_U26 := Aside0.mk (U26.out.mvB (Frm.below hb))
  have n_U29 := Aside0.mk (U29.out.mvB (Frm.below hb))
  have n_Bg1 := Aside0.mk (blk_below Bg1.out hb)
  have n_Bg4 := Aside0.mk (blk_below Bg4.out hb)
  have n_Bg6 := Aside0.mk (blk_below Bg6.out hb)
  have n_Bg7 := Aside0.mk (blk_below Bg7.out hb)
  have n_HB := Aside0.mk (below_step HB.out hb)
  have NN14 : Aside0 (w13.heap.size ≤ w13.drew.heap.size) := ⟨hb.size⟩
  clear hc1_0 hf1_0
  clear hc1_1 hf1_1
  clear hc4_0 hf4_0
  clear hc4_1 hf4_1
  clear hc6_0 hf6_0
  clear hc6_1 hf6_1
  clear hc7_0 hf7_0
  clear hc7_1 hf7_1
  clear U21 U22_0 U22_1 U26 U29 Bg1 Bg4 Bg6 Bg7 HB
  have U21 := n_U21
  have U22_0 := n_U22_0
  have U22_1 := n_U22_1
  have U26 := n_U26
  have U29 := n_U29
  have Bg1 := n_Bg1
  have Bg4 := n_Bg4
  have Bg6 := n_Bg6
  have Bg7 := n_Bg7
  have HB := n_HB
  clear n_U21 n_U22_0 n_U22_1 n_U26 n_U29 n_Bg1 n_Bg4 n_Bg6 n_Bg7 n_HB
  clear hb
  refine start_ (n := 5) (S := fun w' => w'.cell? ⟨g6, 0, none⟩ = some (.slice A26_0 l0_0.length c26_0) ∧ w'.cell? ⟨g6, 1, none⟩ = some (.slice A26_1 l0_1.length c26_1) ∧ w'.cell? ⟨g1, 0, none⟩ = some (.slice A0_0 l0_0.length c0_0) ∧ w'.cell? ⟨g1, 1, none⟩ = some (.slice A0_1 l0_1.length c0_1)) (ds := []) #[false, false, false, false, false] (by kernel_rfl) rfl rfl ⟨(blk_cell Bg6.out 0).trans rfl, (blk_cell Bg6.out 1).trans rfl, (blk_cell Bg1.out 0).trans rfl, (blk_cell Bg1.out 1).trans rfl⟩ (fun hHeld => ?_)
  generalize w13.drew = w14 at U21 U22_0 U22_1 U26 U29 Bg1 Bg4 Bg6 Bg7 HB NN14 hHeld ⊢
  have hc1_0 : w14.cell? ⟨g1, 0, none⟩ = some (.slice A0_0 l0_0.length c0_0) := (blk_cell Bg1.out 0).trans rfl
  have hf1_0 := blk_frozen Bg1.out 0
  have hc1_1 : w14.cell? ⟨g1, 1, none⟩ = some (.slice A0_1 l0_1.length c0_1) := (blk_cell Bg1.out 1).trans rfl
  have hf1_1 := blk_frozen Bg1.out 1
  have hc4_0 : w14.cell? ⟨g4, 0, none⟩ = some (.slice A22_0 s0.length c22_0) := (blk_cell Bg4.out 0).trans rfl
  have hf4_0 := blk_frozen Bg4.out 0
  have hc4_1 : w14.cell? ⟨g4, 1, none⟩ = some (.slice A22_1 s1.length c22_1) := (blk_cell Bg4.out 1).trans rfl
  have hf4_1 := blk_frozen Bg4.out 1
  have hc6_0 : w14.cell? ⟨g6, 0, none⟩ = some (.slice A26_0 l0_0.length c26_0) := (blk_cell Bg6.out 0).trans rfl
  have hf6_0 := blk_frozen Bg6.out 0
  have hc6_1 : w14.cell? ⟨g6, 1, none⟩ = some (.slice A26_1 l0_1.length c26_1) := (blk_cell Bg6.out 1).trans rfl
  have hf6_1 := blk_frozen Bg6.out 1
  have hc7_0 : w14.cell? ⟨g7, 0, none⟩ = some (.slice A29_0 s0.length c29_0) := (blk_cell Bg7.out 0).trans rfl
  have hf7_0 := blk_frozen Bg7.out 0
  have hc7_1 : w14.cell? ⟨g7, 1, none⟩ = some (.slice A29_1 s1.length c29_1) := (blk_cell Bg7.out 1).trans rfl
  have hf7_1 := blk_frozen Bg7.out 1
  refine take_ (i := 0) (N := some 41) (v := ?_) (a' := ?_) #[true, false, false, false, false] rfl rfl (by kernel_rfl) (fun _ _ _ h => h) (Or.inl ⟨by rfl, ?_⟩) hHeld ?_ ?_
  rotate_left
  · rintro w' ⟨s0, s1, s2, s3⟩
    go_simp
    with_reducible rfl
  rotate_left
  · simp only [Act.put, List.setIfInBounds_toArray, List.set_cons_zero, List.set_cons_succ, i64_w, i32_w]
    rfl
  refine take_ (i := 1) (N := some 42) (v := ?_) (a' := ?_) #[true, true, false, false, false] rfl rfl (by kernel_rfl) (fun _ _ _ h => h) (Or.inl ⟨by rfl, ?_⟩) hHeld ?_ ?_
  rotate_left
  · rintro w' ⟨s0, s1, s2, s3⟩
    go_simp
    with_reducible rfl
  rotate_left
  · simp only [Act.put, List.setIfInBounds_toArray, List.set_cons_zero, List.set_cons_succ, i64_w, i32_w]
    rfl
  refine one_ (i := 2) (N := some 43) #[true, true, true, false, false] rfl rfl (by kernel_rfl) (by decide) (fun K hK => ?_)
  refine goes_ Try.func17 (by kernel_rfl) rfl #[.agg #[.slice A0_0 l0_0.length c0_0, .slice A0_1 l0_1.length c0_1]] (by rfl) rfl rfl (by (try simp only [List.map_toArray, List.map_cons, List.map_nil]); first | done | rfl) ?_
  (refine (laws_toGame2.calls k _ _ l0_0 _ _ l0_1 _ ?s1 ?s2 ?s3 ?s4 H3'.out).mono ?_; (case s1 => exact Kd.C_below HR0_0.out HB.out); (case s2 => exact HC0_0.out); (case s3 => exact Kd.C_below HR0_1.out HB.out); (case s4 => exact HC0_1.out); rintro e w15 ⟨v43_0, v43_1, rfl, ho0, hb⟩; refine ⟨_, rfl, ?_⟩; have nu0 := Aside0.mk (UG.of ho0 HB.out.size); have n_U21 := Aside0.mk (U21.out.mvB (Frm.below hb)); have n_U22_0 := Aside0.mk (U22_0.out.mvB (Frm.below hb)); have n_U22_1 := Aside0.mk (U22_1.out.mvB (Frm.below hb)); have n_U26 := Aside0.mk (U26.out.mvB (Frm.below hb)); have n_U29 := Aside0.mk (U29.out.mvB (Frm.below hb)); have n_Bg1 := Aside0.mk (blk_below Bg1.out hb); have n_Bg4 := Aside0.mk (blk_below Bg4.out hb); have n_Bg6 := Aside0.mk (blk_below Bg6.out hb); have n_Bg7 := Aside0.mk (blk_below Bg7.out hb); have n_HB := Aside0.mk (below_step HB.out hb); have NN15 : Aside0 (w14.heap.size ≤ w15.heap.size) := ⟨hb.size⟩; clear hc1_0 hf1_0; clear hc1_1 hf1_1; clear hc4_0 hf4_0; clear hc4_1 hf4_1; clear hc6_0 hf6_0; clear hc6_1 hf6_1; clear hc7_0 hf7_0; clear hc7_1 hf7_1; clear U21 U22_0 U22_1 U26 U29 Bg1 Bg4 Bg6 Bg7 HB; have U21 := n_U21; have U22_0 := n_U22_0; have U22_1 := n_U22_1; have U26 := n_U26; have U29 := n_U29; have Bg1 := n_Bg1; have Bg4 := n_Bg4; have Bg6 := n_Bg6; have Bg7 := n_Bg7; have HB := n_HB; clear n_U21 n_U22_0 n_U22_1 n_U26 n_U29 n_Bg1 n_Bg4 n_Bg6 n_Bg7 n_HB; clear hb ho0; have U43 := nu0; clear nu0; obtain ⟨A43_0, c43_0, A43_1, c43_1, e0, e1⟩ := U43.out.slices; subst e0; subst e1; have hc1_0 : w15.cell? ⟨g1, 0, none⟩ = some (.slice A0_0 l0_0.length c0_0) := (blk_cell Bg1.out 0).trans rfl; have hf1_0 := blk_frozen Bg1.out 0; have hc1_1 : w15.cell? ⟨g1, 1, none⟩ = some (.slice A0_1 l0_1.length c0_1) := (blk_cell Bg1.out 1).trans rfl; have hf1_1 := blk_frozen Bg1.out 1; have hc4_0 : w15.cell? ⟨g4, 0, none⟩ = some (.slice A22_0 s0.length c22_0) := (blk_cell Bg4.out 0).trans rfl; have hf4_0 := blk_frozen Bg4.out 0; have hc4_1 : w15.cell? ⟨g4, 1, none⟩ = some (.slice A22_1 s1.length c22_1) := (blk_cell Bg4.out 1).trans rfl; have hf4_1 := blk_frozen Bg4.out 1; have hc6_0 : w15.cell? ⟨g6, 0, none⟩ = some (.slice A26_0 l0_0.length c26_0) := (blk_cell Bg6.out 0).trans rfl; have hf6_0 := blk_frozen Bg6.out 0; have hc6_1 : w15.cell? ⟨g6, 1, none⟩ = some (.slice A26_1 l0_1.length c26_1) := (blk_cell Bg6.out 1).trans rfl; have hf6_1 := blk_frozen Bg6.out 1; have hc7_0 : w15.cell? ⟨g7, 0, none⟩ = some (.slice A29_0 s0.length c29_0) := (blk_cell Bg7.out 0).trans rfl; have hf7_0 := blk_frozen Bg7.out 0; have hc7_1 : w15.cell? ⟨g7, 1, none⟩ = some (.slice A29_1 s1.length c29_1) := (blk_cell Bg7.out 1).trans rfl; have hf7_1 := blk_frozen Bg7.out 1)
  refine hK.out _ _ ⟨(blk_cell Bg6.out 0).trans rfl, (blk_cell Bg6.out 1).trans rfl, (blk_cell Bg1.out 0).trans rfl, (blk_cell Bg1.out 1).trans rfl⟩ (fun hHeld => ?_)
  clear hK K
  refine norm_ (a' := ?_) ?_ ?_
  rotate_left
  · show Act.put _ (some 43) _ = _
    simp only [Act.put, List.setIfInBounds_toArray, List.set_cons_zero, List.set_cons_succ, i64_w, i32_w]
    rfl
  refine one_ (i := 3) (N := some 44) #[true, true, true, true, false] rfl rfl (by kernel_rfl) (by decide) (fun K hK => ?_)
  refine goes_ Try.func19 (by kernel_rfl) rfl #[.agg #[.slice A26_0 l0_0.length c26_0, .slice A26_1 l0_1.length c26_1], .agg #[.slice A43_0 l0_0.length c43_0, .slice A43_1 l0_1.length c43_1]] (by rfl) rfl rfl (by (try simp only [List.map_toArray, List.map_cons, List.map_nil]); first | done | rfl) ?_
  (refine (laws_eqGame.calls k _ _ l0_0 _ _ l0_1 _ _ l0_0 _ _ l0_1 true _ ?s1 ?s2 ?s3 ?s4 ?s5 ?s6 ?s7 ?s8 H7'.out).mono ?_; (case s1 => exact U26.out.C0); (case s2 => exact U26.out.cap0); (case s3 => exact U26.out.C1); (case s4 => exact U26.out.cap1); (case s5 => exact U43.out.C0); (case s6 => exact U43.out.cap0); (case s7 => exact U43.out.C1); (case s8 => exact U43.out.cap1); rintro e w16 ⟨rfl, hb⟩; refine ⟨_, rfl, ?_⟩; have n_U21 := Aside0.mk (U21.out.mvB (Frm.below hb)); have n_U22_0 := Aside0.mk (U22_0.out.mvB (Frm.below hb)); have n_U22_1 := Aside0.mk (U22_1.out.mvB (Frm.below hb)); have n_U26 := Aside0.mk (U26.out.mvB (Frm.below hb)); have n_U29 := Aside0.mk (U29.out.mvB (Frm.below hb)); have n_U43 := Aside0.mk (U43.out.mvB (Frm.below hb)); have n_Bg1 := Aside0.mk (blk_below Bg1.out hb); have n_Bg4 := Aside0.mk (blk_below Bg4.out hb); have n_Bg6 := Aside0.mk (blk_below Bg6.out hb); have n_Bg7 := Aside0.mk (blk_below Bg7.out hb); have n_HB := Aside0.mk (below_step HB.out hb); have NN16 : Aside0 (w15.heap.size ≤ w16.heap.size) := ⟨hb.size⟩; clear hc1_0 hf1_0; clear hc1_1 hf1_1; clear hc4_0 hf4_0; clear hc4_1 hf4_1; clear hc6_0 hf6_0; clear hc6_1 hf6_1; clear hc7_0 hf7_0; clear hc7_1 hf7_1; clear U21 U22_0 U22_1 U26 U29 U43 Bg1 Bg4 Bg6 Bg7 HB; have U21 := n_U21; have U22_0 := n_U22_0; have U22_1 := n_U22_1; have U26 := n_U26; have U29 := n_U29; have U43 := n_U43; have Bg1 := n_Bg1; have Bg4 := n_Bg4; have Bg6 := n_Bg6; have Bg7 := n_Bg7; have HB := n_HB; clear n_U21 n_U22_0 n_U22_1 n_U26 n_U29 n_U43 n_Bg1 n_Bg4 n_Bg6 n_Bg7 n_HB; clear hb; have hc1_0 : w16.cell? ⟨g1, 0, none⟩ = some (.slice A0_0 l0_0.length c0_0) := (blk_cell Bg1.out 0).trans rfl; have hf1_0 := blk_frozen Bg1.out 0; have hc1_1 : w16.cell? ⟨g1, 1, none⟩ = some (.slice A0_1 l0_1.length c0_1) := (blk_cell Bg1.out 1).trans rfl; have hf1_1 := blk_frozen Bg1.out 1; have hc4_0 : w16.cell? ⟨g4, 0, none⟩ = some (.slice A22_0 s0.length c22_0) := (blk_cell Bg4.out 0).trans rfl; have hf4_0 := blk_frozen Bg4.out 0; have hc4_1 : w16.cell? ⟨g4, 1, none⟩ = some (.slice A22_1 s1.length c22_1) := (blk_cell Bg4.out 1).trans rfl; have hf4_1 := blk_frozen Bg4.out 1; have hc6_0 : w16.cell? ⟨g6, 0, none⟩ = some (.slice A26_0 l0_0.length c26_0) := (blk_cell Bg6.out 0).trans rfl; have hf6_0 := blk_frozen Bg6.out 0; have hc6_1 : w16.cell? ⟨g6, 1, none⟩ = some (.slice A26_1 l0_1.length c26_1) := (blk_cell Bg6.out 1).trans rfl; have hf6_1 := blk_frozen Bg6.out 1; have hc7_0 : w16.cell? ⟨g7, 0, none⟩ = some (.slice A29_0 s0.length c29_0) := (blk_cell Bg7.out 0).trans rfl; have hf7_0 := blk_frozen Bg7.out 0; have hc7_1 : w16.cell? ⟨g7, 1, none⟩ = some (.slice A29_1 s1.length c29_1) := (blk_cell Bg7.out 1).trans rfl; have hf7_1 := blk_frozen Bg7.out 1)
  refine hK.out _ _ ⟨(blk_cell Bg6.out 0).trans rfl, (blk_cell Bg6.out 1).trans rfl, (blk_cell Bg1.out 0).trans rfl, (blk_cell Bg1.out 1).trans rfl⟩ (fun hHeld => ?_)
  clear hK K
  refine norm_ (a' := ?_) ?_ ?_
  rotate_left
  · show Act.put _ (some 44) _ = _
    simp only [Act.put, List.setIfInBounds_toArray, List.set_cons_zero, List.set_cons_succ, i64_w, i32_w]
    rfl
  refine pure_ (i := 4) (N := some 45) (v := ?_) (a' := ?_) #[true, true, true, true, true] rfl rfl (by kernel_rfl) (fun _ _ _ h => h) (Or.inl ⟨by rfl, ?_⟩) ?_ ?_
  rotate_left
  · intro w'
    go_simp
    with_reducible rfl
  rotate_left
  · simp only [Act.put, List.setIfInBounds_toArray, List.set_cons_zero, List.set_cons_succ, i64_w, i32_w]
    rfl
  refine done_ (by kernel_rfl) ?_
  go_wp2_with (first | ((with_reducible refine gate_callee (f := 20) rfl ?_); refine goesL_ (some 48) rfl rfl Try.func20 (by kernel_rfl) rfl #[.agg #[.slice A26_0 l0_0.length c26_0, .slice A26_1 l0_1.length c26_1], .int .i64 1] rfl (by (try simp only [List.map_toArray, List.map_cons, List.map_nil]); first | done | rfl) ?_; refine (mark_UG A26_0 c26_0 A26_1 c26_1 l0_0 l0_1 1 m1 HB.out U26.out (by decide) H9'.out H10'.out H11'.out H8'.out (by have := NN1.out; have := Gg1.out; have := Kg1.out; have := NN2.out; have := NN3.out; have := NN4.out; have := NN5.out; have := Gg4.out; have := Kg4.out; have := NN6.out; have := NN7.out; have := NN8.out; have := Gg6.out; have := Kg6.out; have := NN9.out; have := NN10.out; have := NN11.out; have := Gg7.out; have := Kg7.out; have := NN12.out; have := NN13.out; have := NN14.out; have := NN15.out; have := NN16.out; omega)).mono ?_; rintro e w17 ⟨rfl, hU, hB', hF⟩; refine ⟨_, rfl, ?_⟩; have nu := Aside0.mk hU; have n_U21 := Aside0.mk (U21.out.mv hF (by have := NN1.out; have := Gg1.out; have := Kg1.out; have := NN2.out; have := NN3.out; have := NN4.out; have := NN5.out; have := Gg4.out; have := Kg4.out; have := NN6.out; have := NN7.out; have := NN8.out; have := Gg6.out; have := Kg6.out; have := NN9.out; have := NN10.out; have := NN11.out; have := Gg7.out; have := Kg7.out; have := NN12.out; have := NN13.out; have := NN14.out; have := NN15.out; have := NN16.out; omega)); have n_U22_0 := Aside0.mk (U22_0.out.mv hF (by have := NN1.out; have := Gg1.out; have := Kg1.out; have := NN2.out; have := NN3.out; have := NN4.out; have := NN5.out; have := Gg4.out; have := Kg4.out; have := NN6.out; have := NN7.out; have := NN8.out; have := Gg6.out; have := Kg6.out; have := NN9.out; have := NN10.out; have := NN11.out; have := Gg7.out; have := Kg7.out; have := NN12.out; have := NN13.out; have := NN14.out; have := NN15.out; have := NN16.out; omega)); have n_U22_1 := Aside0.mk (U22_1.out.mv hF (by have := NN1.out; have := Gg1.out; have := Kg1.out; have := NN2.out; have := NN3.out; have := NN4.out; have := NN5.out; have := Gg4.out; have := Kg4.out; have := NN6.out; have := NN7.out; have := NN8.out; have := Gg6.out; have := Kg6.out; have := NN9.out; have := NN10.out; have := NN11.out; have := Gg7.out; have := Kg7.out; have := NN12.out; have := NN13.out; have := NN14.out; have := NN15.out; have := NN16.out; omega)); have n_U29 := Aside0.mk (U29.out.mv hF (by have := NN1.out; have := Gg1.out; have := Kg1.out; have := NN2.out; have := NN3.out; have := NN4.out; have := NN5.out; have := Gg4.out; have := Kg4.out; have := NN6.out; have := NN7.out; have := NN8.out; have := Gg6.out; have := Kg6.out; have := NN9.out; have := NN10.out; have := NN11.out; have := Gg7.out; have := Kg7.out; have := NN12.out; have := NN13.out; have := NN14.out; have := NN15.out; have := NN16.out; omega)); have n_U43 := Aside0.mk (U43.out.mv hF (by have := NN1.out; have := Gg1.out; have := Kg1.out; have := NN2.out; have := NN3.out; have := NN4.out; have := NN5.out; have := Gg4.out; have := Kg4.out; have := NN6.out; have := NN7.out; have := NN8.out; have := Gg6.out; have := Kg6.out; have := NN9.out; have := NN10.out; have := NN11.out; have := Gg7.out; have := Kg7.out; have := NN12.out; have := NN13.out; have := NN14.out; have := NN15.out; have := NN16.out; omega)); have n_Bg1 := Aside0.mk ((hF.same g1 (blk_lt Bg1.out) (by have := NN1.out; have := Gg1.out; have := Kg1.out; have := NN2.out; have := NN3.out; have := NN4.out; have := NN5.out; have := Gg4.out; have := Kg4.out; have := NN6.out; have := NN7.out; have := NN8.out; have := Gg6.out; have := Kg6.out; have := NN9.out; have := NN10.out; have := NN11.out; have := Gg7.out; have := Kg7.out; have := NN12.out; have := NN13.out; have := NN14.out; have := NN15.out; have := NN16.out; omega)).trans Bg1.out); have n_Bg4 := Aside0.mk ((hF.same g4 (blk_lt Bg4.out) (by have := NN1.out; have := Gg1.out; have := Kg1.out; have := NN2.out; have := NN3.out; have := NN4.out; have := NN5.out; have := Gg4.out; have := Kg4.out; have := NN6.out; have := NN7.out; have := NN8.out; have := Gg6.out; have := Kg6.out; have := NN9.out; have := NN10.out; have := NN11.out; have := Gg7.out; have := Kg7.out; have := NN12.out; have := NN13.out; have := NN14.out; have := NN15.out; have := NN16.out; omega)).trans Bg4.out); have n_Bg6 := Aside0.mk ((hF.same g6 (blk_lt Bg6.out) (by have := NN1.out; have := Gg1.out; have := Kg1.out; have := NN2.out; have := NN3.out; have := NN4.out; have := NN5.out; have := Gg4.out; have := Kg4.out; have := NN6.out; have := NN7.out; have := NN8.out; have := Gg6.out; have := Kg6.out; have := NN9.out; have := NN10.out; have := NN11.out; have := Gg7.out; have := Kg7.out; have := NN12.out; have := NN13.out; have := NN14.out; have := NN15.out; have := NN16.out; omega)).trans Bg6.out); have n_Bg7 := Aside0.mk ((hF.same g7 (blk_lt Bg7.out) (by have := NN1.out; have := Gg1.out; have := Kg1.out; have := NN2.out; have := NN3.out; have := NN4.out; have := NN5.out; have := Gg4.out; have := Kg4.out; have := NN6.out; have := NN7.out; have := NN8.out; have := Gg6.out; have := Kg6.out; have := NN9.out; have := NN10.out; have := NN11.out; have := Gg7.out; have := Kg7.out; have := NN12.out; have := NN13.out; have := NN14.out; have := NN15.out; have := NN16.out; omega)).trans Bg7.out); have n_HB := Aside0.mk (hB'); have NN17 : Aside0 (w16.heap.size ≤ w17.heap.size) := ⟨hF.size⟩; clear hc1_0 hf1_0; clear hc1_1 hf1_1; clear hc4_0 hf4_0; clear hc4_1 hf4_1; clear hc6_0 hf6_0; clear hc6_1 hf6_1; clear hc7_0 hf7_0; clear hc7_1 hf7_1; clear U21 U22_0 U22_1 U29 U43 Bg1 Bg4 Bg6 Bg7 HB; have U21 := n_U21; have U22_0 := n_U22_0; have U22_1 := n_U22_1; have U29 := n_U29; have U43 := n_U43; have Bg1 := n_Bg1; have Bg4 := n_Bg4; have Bg6 := n_Bg6; have Bg7 := n_Bg7; have HB := n_HB; clear n_U21 n_U22_0 n_U22_1 n_U29 n_U43 n_Bg1 n_Bg4 n_Bg6 n_Bg7 n_HB; clear U26; have U26 := nu; clear nu hU hB' hF; have hc1_0 : w17.cell? ⟨g1, 0, none⟩ = some (.slice A0_0 l0_0.length c0_0) := (blk_cell Bg1.out 0).trans rfl; have hf1_0 := blk_frozen Bg1.out 0; have hc1_1 : w17.cell? ⟨g1, 1, none⟩ = some (.slice A0_1 l0_1.length c0_1) := (blk_cell Bg1.out 1).trans rfl; have hf1_1 := blk_frozen Bg1.out 1; have hc4_0 : w17.cell? ⟨g4, 0, none⟩ = some (.slice A22_0 s0.length c22_0) := (blk_cell Bg4.out 0).trans rfl; have hf4_0 := blk_frozen Bg4.out 0; have hc4_1 : w17.cell? ⟨g4, 1, none⟩ = some (.slice A22_1 s1.length c22_1) := (blk_cell Bg4.out 1).trans rfl; have hf4_1 := blk_frozen Bg4.out 1; have hc6_0 : w17.cell? ⟨g6, 0, none⟩ = some (.slice A26_0 l0_0.length c26_0) := (blk_cell Bg6.out 0).trans rfl; have hf6_0 := blk_frozen Bg6.out 0; have hc6_1 : w17.cell? ⟨g6, 1, none⟩ = some (.slice A26_1 l0_1.length c26_1) := (blk_cell Bg6.out 1).trans rfl; have hf6_1 := blk_frozen Bg6.out 1; have hc7_0 : w17.cell? ⟨g7, 0, none⟩ = some (.slice A29_0 s0.length c29_0) := (blk_cell Bg7.out 0).trans rfl; have hf7_0 := blk_frozen Bg7.out 0; have hc7_1 : w17.cell? ⟨g7, 1, none⟩ = some (.slice A29_1 s1.length c29_1) := (blk_cell Bg7.out 1).trans rfl; have hf7_1 := blk_frozen Bg7.out 1) | (go_at_call 19; refine (laws_eqGame.calls k _ _ s0 _ _ s1 _ _ s0 _ _ s1 true _ ?s1 ?s2 ?s3 ?s4 ?s5 ?s6 ?s7 ?s8 H6'.out).mono ?_; (case s1 => exact U29.out.C0); (case s2 => exact U29.out.cap0); (case s3 => exact U29.out.C1); (case s4 => exact U29.out.cap1); (case s5 => exact US.C U22_0.out); (case s6 => exact US.cap U22_0.out); (case s7 => exact US.C U22_1.out); (case s8 => exact US.cap U22_1.out); rintro e w18 ⟨rfl, hb⟩; have n_U21 := Aside0.mk (U21.out.mvB (Frm.below hb)); have n_U22_0 := Aside0.mk (U22_0.out.mvB (Frm.below hb)); have n_U22_1 := Aside0.mk (U22_1.out.mvB (Frm.below hb)); have n_U26 := Aside0.mk (U26.out.mvB (Frm.below hb)); have n_U29 := Aside0.mk (U29.out.mvB (Frm.below hb)); have n_U43 := Aside0.mk (U43.out.mvB (Frm.below hb)); have n_Bg1 := Aside0.mk (blk_below Bg1.out hb); have n_Bg4 := Aside0.mk (blk_below Bg4.out hb); have n_Bg6 := Aside0.mk (blk_below Bg6.out hb); have n_Bg7 := Aside0.mk (blk_below Bg7.out hb); have n_HB := Aside0.mk (below_step HB.out hb); have NN18 : Aside0 (w17.heap.size ≤ w18.heap.size) := ⟨hb.size⟩; clear hc1_0 hf1_0; clear hc1_1 hf1_1; clear hc4_0 hf4_0; clear hc4_1 hf4_1; clear hc6_0 hf6_0; clear hc6_1 hf6_1; clear hc7_0 hf7_0; clear hc7_1 hf7_1; clear U21 U22_0 U22_1 U26 U29 U43 Bg1 Bg4 Bg6 Bg7 HB; have U21 := n_U21; have U22_0 := n_U22_0; have U22_1 := n_U22_1; have U26 := n_U26; have U29 := n_U29; have U43 := n_U43; have Bg1 := n_Bg1; have Bg4 := n_Bg4; have Bg6 := n_Bg6; have Bg7 := n_Bg7; have HB := n_HB; clear n_U21 n_U22_0 n_U22_1 n_U26 n_U29 n_U43 n_Bg1 n_Bg4 n_Bg6 n_Bg7 n_HB; clear hb; have hc1_0 : w18.cell? ⟨g1, 0, none⟩ = some (.slice A0_0 l0_0.length c0_0) := (blk_cell Bg1.out 0).trans rfl; have hf1_0 := blk_frozen Bg1.out 0; have hc1_1 : w18.cell? ⟨g1, 1, none⟩ = some (.slice A0_1 l0_1.length c0_1) := (blk_cell Bg1.out 1).trans rfl; have hf1_1 := blk_frozen Bg1.out 1; have hc4_0 : w18.cell? ⟨g4, 0, none⟩ = some (.slice A22_0 s0.length c22_0) := (blk_cell Bg4.out 0).trans rfl; have hf4_0 := blk_frozen Bg4.out 0; have hc4_1 : w18.cell? ⟨g4, 1, none⟩ = some (.slice A22_1 s1.length c22_1) := (blk_cell Bg4.out 1).trans rfl; have hf4_1 := blk_frozen Bg4.out 1; have hc6_0 : w18.cell? ⟨g6, 0, none⟩ = some (.slice A26_0 l0_0.length c26_0) := (blk_cell Bg6.out 0).trans rfl; have hf6_0 := blk_frozen Bg6.out 0; have hc6_1 : w18.cell? ⟨g6, 1, none⟩ = some (.slice A26_1 l0_1.length c26_1) := (blk_cell Bg6.out 1).trans rfl; have hf6_1 := blk_frozen Bg6.out 1; have hc7_0 : w18.cell? ⟨g7, 0, none⟩ = some (.slice A29_0 s0.length c29_0) := (blk_cell Bg7.out 0).trans rfl; have hf7_0 := blk_frozen Bg7.out 0; have hc7_1 : w18.cell? ⟨g7, 1, none⟩ = some (.slice A29_1 s1.length c29_1) := (blk_cell Bg7.out 1).trans rfl; have hf7_1 := blk_frozen Bg7.out 1) | ((with_reducible refine gate_callee (f := 20) rfl ?_); refine goesL_ (some 64) rfl rfl Try.func20 (by kernel_rfl) rfl #[.agg #[.slice A29_0 s0.length c29_0, .slice A29_1 s1.length c29_1], .int .i64 1] rfl (by (try simp only [List.map_toArray, List.map_cons, List.map_nil]); first | done | rfl) ?_; refine (mark_UG A29_0 c29_0 A29_1 c29_1 s0 s1 1 m2 HB.out U29.out (by decide) H14'.out H15'.out H16'.out H13'.out (by have := NN1.out; have := Gg1.out; have := Kg1.out; have := NN2.out; have := NN3.out; have := NN4.out; have := NN5.out; have := Gg4.out; have := Kg4.out; have := NN6.out; have := NN7.out; have := NN8.out; have := Gg6.out; have := Kg6.out; have := NN9.out; have := NN10.out; have := NN11.out; have := Gg7.out; have := Kg7.out; have := NN12.out; have := NN13.out; have := NN14.out; have := NN15.out; have := NN16.out; have := NN17.out; have := NN18.out; omega)).mono ?_; rintro e w19 ⟨rfl, hU, hB', hF⟩; refine ⟨_, rfl, ?_⟩; have nu := Aside0.mk hU; have n_U21 := Aside0.mk (U21.out.mv hF (by have := NN1.out; have := Gg1.out; have := Kg1.out; have := NN2.out; have := NN3.out; have := NN4.out; have := NN5.out; have := Gg4.out; have := Kg4.out; have := NN6.out; have := NN7.out; have := NN8.out; have := Gg6.out; have := Kg6.out; have := NN9.out; have := NN10.out; have := NN11.out; have := Gg7.out; have := Kg7.out; have := NN12.out; have := NN13.out; have := NN14.out; have := NN15.out; have := NN16.out; have := NN17.out; have := NN18.out; omega)); have n_U22_0 := Aside0.mk (U22_0.out.mv hF (by have := NN1.out; have := Gg1.out; have := Kg1.out; have := NN2.out; have := NN3.out; have := NN4.out; have := NN5.out; have := Gg4.out; have := Kg4.out; have := NN6.out; have := NN7.out; have := NN8.out; have := Gg6.out; have := Kg6.out; have := NN9.out; have := NN10.out; have := NN11.out; have := Gg7.out; have := Kg7.out; have := NN12.out; have := NN13.out; have := NN14.out; have := NN15.out; have := NN16.out; have := NN17.out; have := NN18.out; omega)); have n_U22_1 := Aside0.mk (U22_1.out.mv hF (by have := NN1.out; have := Gg1.out; have := Kg1.out; have := NN2.out; have := NN3.out; have := NN4.out; have := NN5.out; have := Gg4.out; have := Kg4.out; have := NN6.out; have := NN7.out; have := NN8.out; have := Gg6.out; have := Kg6.out; have := NN9.out; have := NN10.out; have := NN11.out; have := Gg7.out; have := Kg7.out; have := NN12.out; have := NN13.out; have := NN14.out; have := NN15.out; have := NN16.out; have := NN17.out; have := NN18.out; omega)); have n_U26 := Aside0.mk (U26.out.mv hF (by have := NN1.out; have := Gg1.out; have := Kg1.out; have := NN2.out; have := NN3.out; have := NN4.out; have := NN5.out; have := Gg4.out; have := Kg4.out; have := NN6.out; have := NN7.out; have := NN8.out; have := Gg6.out; have := Kg6.out; have := NN9.out; have := NN10.out; have := NN11.out; have := Gg7.out; have := Kg7.out; have := NN12.out; have := NN13.out; have := NN14.out; have := NN15.out; have := NN16.out; have := NN17.out; have := NN18.out; omega)); have n_U43 := Aside0.mk (U43.out.mv hF (by have := NN1.out; have := Gg1.out; have := Kg1.out; have := NN2.out; have := NN3.out; have := NN4.out; have := NN5.out; have := Gg4.out; have := Kg4.out; have := NN6.out; have := NN7.out; have := NN8.out; have := Gg6.out; have := Kg6.out; have := NN9.out; have := NN10.out; have := NN11.out; have := Gg7.out; have := Kg7.out; have := NN12.out; have := NN13.out; have := NN14.out; have := NN15.out; have := NN16.out; have := NN17.out; have := NN18.out; omega)); have n_Bg1 := Aside0.mk ((hF.same g1 (blk_lt Bg1.out) (by have := NN1.out; have := Gg1.out; have := Kg1.out; have := NN2.out; have := NN3.out; have := NN4.out; have := NN5.out; have := Gg4.out; have := Kg4.out; have := NN6.out; have := NN7.out; have := NN8.out; have := Gg6.out; have := Kg6.out; have := NN9.out; have := NN10.out; have := NN11.out; have := Gg7.out; have := Kg7.out; have := NN12.out; have := NN13.out; have := NN14.out; have := NN15.out; have := NN16.out; have := NN17.out; have := NN18.out; omega)).trans Bg1.out); have n_Bg4 := Aside0.mk ((hF.same g4 (blk_lt Bg4.out) (by have := NN1.out; have := Gg1.out; have := Kg1.out; have := NN2.out; have := NN3.out; have := NN4.out; have := NN5.out; have := Gg4.out; have := Kg4.out; have := NN6.out; have := NN7.out; have := NN8.out; have := Gg6.out; have := Kg6.out; have := NN9.out; have := NN10.out; have := NN11.out; have := Gg7.out; have := Kg7.out; have := NN12.out; have := NN13.out; have := NN14.out; have := NN15.out; have := NN16.out; have := NN17.out; have := NN18.out; omega)).trans Bg4.out); have n_Bg6 := Aside0.mk ((hF.same g6 (blk_lt Bg6.out) (by have := NN1.out; have := Gg1.out; have := Kg1.out; have := NN2.out; have := NN3.out; have := NN4.out; have := NN5.out; have := Gg4.out; have := Kg4.out; have := NN6.out; have := NN7.out; have := NN8.out; have := Gg6.out; have := Kg6.out; have := NN9.out; have := NN10.out; have := NN11.out; have := Gg7.out; have := Kg7.out; have := NN12.out; have := NN13.out; have := NN14.out; have := NN15.out; have := NN16.out; have := NN17.out; have := NN18.out; omega)).trans Bg6.out); have n_Bg7 := Aside0.mk ((hF.same g7 (blk_lt Bg7.out) (by have := NN1.out; have := Gg1.out; have := Kg1.out; have := NN2.out; have := NN3.out; have := NN4.out; have := NN5.out; have := Gg4.out; have := Kg4.out; have := NN6.out; have := NN7.out; have := NN8.out; have := Gg6.out; have := Kg6.out; have := NN9.out; have := NN10.out; have := NN11.out; have := Gg7.out; have := Kg7.out; have := NN12.out; have := NN13.out; have := NN14.out; have := NN15.out; have := NN16.out; have := NN17.out; have := NN18.out; omega)).trans Bg7.out); have n_HB := Aside0.mk (hB'); have NN19 : Aside0 (w18.heap.size ≤ w19.heap.size) := ⟨hF.size⟩; clear hc1_0 hf1_0; clear hc1_1 hf1_1; clear hc4_0 hf4_0; clear hc4_1 hf4_1; clear hc6_0 hf6_0; clear hc6_1 hf6_1; clear hc7_0 hf7_0; clear hc7_1 hf7_1; clear U21 U22_0 U22_1 U26 U43 Bg1 Bg4 Bg6 Bg7 HB; have U21 := n_U21; have U22_0 := n_U22_0; have U22_1 := n_U22_1; have U26 := n_U26; have U43 := n_U43; have Bg1 := n_Bg1; have Bg4 := n_Bg4; have Bg6 := n_Bg6; have Bg7 := n_Bg7; have HB := n_HB; clear n_U21 n_U22_0 n_U22_1 n_U26 n_U43 n_Bg1 n_Bg4 n_Bg6 n_Bg7 n_HB; clear U29; have U29 := nu; clear nu hU hB' hF; have hc1_0 : w19.cell? ⟨g1, 0, none⟩ = some (.slice A0_0 l0_0.length c0_0) := (blk_cell Bg1.out 0).trans rfl; have hf1_0 := blk_frozen Bg1.out 0; have hc1_1 : w19.cell? ⟨g1, 1, none⟩ = some (.slice A0_1 l0_1.length c0_1) := (blk_cell Bg1.out 1).trans rfl; have hf1_1 := blk_frozen Bg1.out 1; have hc4_0 : w19.cell? ⟨g4, 0, none⟩ = some (.slice A22_0 s0.length c22_0) := (blk_cell Bg4.out 0).trans rfl; have hf4_0 := blk_frozen Bg4.out 0; have hc4_1 : w19.cell? ⟨g4, 1, none⟩ = some (.slice A22_1 s1.length c22_1) := (blk_cell Bg4.out 1).trans rfl; have hf4_1 := blk_frozen Bg4.out 1; have hc6_0 : w19.cell? ⟨g6, 0, none⟩ = some (.slice A26_0 l0_0.length c26_0) := (blk_cell Bg6.out 0).trans rfl; have hf6_0 := blk_frozen Bg6.out 0; have hc6_1 : w19.cell? ⟨g6, 1, none⟩ = some (.slice A26_1 l0_1.length c26_1) := (blk_cell Bg6.out 1).trans rfl; have hf6_1 := blk_frozen Bg6.out 1; have hc7_0 : w19.cell? ⟨g7, 0, none⟩ = some (.slice A29_0 s0.length c29_0) := (blk_cell Bg7.out 0).trans rfl; have hf7_0 := blk_frozen Bg7.out 0; have hc7_1 : w19.cell? ⟨g7, 1, none⟩ = some (.slice A29_1 s1.length c29_1) := (blk_cell Bg7.out 1).trans rfl; have hf7_1 := blk_frozen Bg7.out 1) | ((with_reducible refine gate_callee (f := 21) rfl ?_); refine goesL_ (some 67) rfl rfl Try.func21 (by kernel_rfl) rfl #[.agg #[.slice A29_0 s0.length c29_0, .slice A29_1 s1.length c29_1], .int .i64 1] rfl (by (try simp only [List.map_toArray, List.map_cons, List.map_nil]); first | done | rfl) ?_; have hcall := laws_heldGame.calls k _ _ ((marks s0 1)) _ _ ((marks s1 (1 + lens s0))) 1 m2 _ (U29.out.C0) (U29.out.cap0) (U29.out.C1) (U29.out.cap1) H18'.out; simp only [marks_length, count_length] at hcall; refine hcall.mono ?_; clear hcall; rintro e w20 ⟨rfl, hb⟩; refine ⟨_, rfl, ?_⟩; have n_U21 := Aside0.mk (U21.out.mvB (Frm.below hb)); have n_U22_0 := Aside0.mk (U22_0.out.mvB (Frm.below hb)); have n_U22_1 := Aside0.mk (U22_1.out.mvB (Frm.below hb)); have n_U26 := Aside0.mk (U26.out.mvB (Frm.below hb)); have n_U29 := Aside0.mk (U29.out.mvB (Frm.below hb)); have n_U43 := Aside0.mk (U43.out.mvB (Frm.below hb)); have n_Bg1 := Aside0.mk (blk_below Bg1.out hb); have n_Bg4 := Aside0.mk (blk_below Bg4.out hb); have n_Bg6 := Aside0.mk (blk_below Bg6.out hb); have n_Bg7 := Aside0.mk (blk_below Bg7.out hb); have n_HB := Aside0.mk (below_step HB.out hb); have NN20 : Aside0 (w19.heap.size ≤ w20.heap.size) := ⟨hb.size⟩; clear hc1_0 hf1_0; clear hc1_1 hf1_1; clear hc4_0 hf4_0; clear hc4_1 hf4_1; clear hc6_0 hf6_0; clear hc6_1 hf6_1; clear hc7_0 hf7_0; clear hc7_1 hf7_1; clear U21 U22_0 U22_1 U26 U29 U43 Bg1 Bg4 Bg6 Bg7 HB; have U21 := n_U21; have U22_0 := n_U22_0; have U22_1 := n_U22_1; have U26 := n_U26; have U29 := n_U29; have U43 := n_U43; have Bg1 := n_Bg1; have Bg4 := n_Bg4; have Bg6 := n_Bg6; have Bg7 := n_Bg7; have HB := n_HB; clear n_U21 n_U22_0 n_U22_1 n_U26 n_U29 n_U43 n_Bg1 n_Bg4 n_Bg6 n_Bg7 n_HB; clear hb; have hc1_0 : w20.cell? ⟨g1, 0, none⟩ = some (.slice A0_0 l0_0.length c0_0) := (blk_cell Bg1.out 0).trans rfl; have hf1_0 := blk_frozen Bg1.out 0; have hc1_1 : w20.cell? ⟨g1, 1, none⟩ = some (.slice A0_1 l0_1.length c0_1) := (blk_cell Bg1.out 1).trans rfl; have hf1_1 := blk_frozen Bg1.out 1; have hc4_0 : w20.cell? ⟨g4, 0, none⟩ = some (.slice A22_0 s0.length c22_0) := (blk_cell Bg4.out 0).trans rfl; have hf4_0 := blk_frozen Bg4.out 0; have hc4_1 : w20.cell? ⟨g4, 1, none⟩ = some (.slice A22_1 s1.length c22_1) := (blk_cell Bg4.out 1).trans rfl; have hf4_1 := blk_frozen Bg4.out 1; have hc6_0 : w20.cell? ⟨g6, 0, none⟩ = some (.slice A26_0 l0_0.length c26_0) := (blk_cell Bg6.out 0).trans rfl; have hf6_0 := blk_frozen Bg6.out 0; have hc6_1 : w20.cell? ⟨g6, 1, none⟩ = some (.slice A26_1 l0_1.length c26_1) := (blk_cell Bg6.out 1).trans rfl; have hf6_1 := blk_frozen Bg6.out 1; have hc7_0 : w20.cell? ⟨g7, 0, none⟩ = some (.slice A29_0 s0.length c29_0) := (blk_cell Bg7.out 0).trans rfl; have hf7_0 := blk_frozen Bg7.out 0; have hc7_1 : w20.cell? ⟨g7, 1, none⟩ = some (.slice A29_1 s1.length c29_1) := (blk_cell Bg7.out 1).trans rfl; have hf7_1 := blk_frozen Bg7.out 1) | ((with_reducible refine gate_callee (f := 17) rfl ?_); refine goesL_ (some 75) rfl rfl Try.func17 (by kernel_rfl) rfl #[.agg #[.slice A0_0 l0_0.length c0_0, .slice A0_1 l0_1.length c0_1]] rfl (by (try simp only [List.map_toArray, List.map_cons, List.map_nil]); first | done | rfl) ?_; refine (laws_toGame2.calls k _ _ l0_0 _ _ l0_1 _ ?s1 ?s2 ?s3 ?s4 H3'.out).mono ?_; (case s1 => exact Kd.C_below HR0_0.out HB.out); (case s2 => exact HC0_0.out); (case s3 => exact Kd.C_below HR0_1.out HB.out); (case s4 => exact HC0_1.out); rintro e w21 ⟨v75_0, v75_1, rfl, ho0, hb⟩; refine ⟨_, rfl, ?_⟩; have nu0 := Aside0.mk (UG.of ho0 HB.out.size); have n_U21 := Aside0.mk (U21.out.mvB (Frm.below hb)); have n_U22_0 := Aside0.mk (U22_0.out.mvB (Frm.below hb)); have n_U22_1 := Aside0.mk (U22_1.out.mvB (Frm.below hb)); have n_U26 := Aside0.mk (U26.out.mvB (Frm.below hb)); have n_U29 := Aside0.mk (U29.out.mvB (Frm.below hb)); have n_U43 := Aside0.mk (U43.out.mvB (Frm.below hb)); have n_Bg1 := Aside0.mk (blk_below Bg1.out hb); have n_Bg4 := Aside0.mk (blk_below Bg4.out hb); have n_Bg6 := Aside0.mk (blk_below Bg6.out hb); have n_Bg7 := Aside0.mk (blk_below Bg7.out hb); have n_HB := Aside0.mk (below_step HB.out hb); have NN21 : Aside0 (w20.heap.size ≤ w21.heap.size) := ⟨hb.size⟩; clear hc1_0 hf1_0; clear hc1_1 hf1_1; clear hc4_0 hf4_0; clear hc4_1 hf4_1; clear hc6_0 hf6_0; clear hc6_1 hf6_1; clear hc7_0 hf7_0; clear hc7_1 hf7_1; clear U21 U22_0 U22_1 U26 U29 U43 Bg1 Bg4 Bg6 Bg7 HB; have U21 := n_U21; have U22_0 := n_U22_0; have U22_1 := n_U22_1; have U26 := n_U26; have U29 := n_U29; have U43 := n_U43; have Bg1 := n_Bg1; have Bg4 := n_Bg4; have Bg6 := n_Bg6; have Bg7 := n_Bg7; have HB := n_HB; clear n_U21 n_U22_0 n_U22_1 n_U26 n_U29 n_U43 n_Bg1 n_Bg4 n_Bg6 n_Bg7 n_HB; clear hb ho0; have U75 := nu0; clear nu0; obtain ⟨A75_0, c75_0, A75_1, c75_1, e0, e1⟩ := U75.out.slices; subst e0; subst e1; have hc1_0 : w21.cell? ⟨g1, 0, none⟩ = some (.slice A0_0 l0_0.length c0_0) := (blk_cell Bg1.out 0).trans rfl; have hf1_0 := blk_frozen Bg1.out 0; have hc1_1 : w21.cell? ⟨g1, 1, none⟩ = some (.slice A0_1 l0_1.length c0_1) := (blk_cell Bg1.out 1).trans rfl; have hf1_1 := blk_frozen Bg1.out 1; have hc4_0 : w21.cell? ⟨g4, 0, none⟩ = some (.slice A22_0 s0.length c22_0) := (blk_cell Bg4.out 0).trans rfl; have hf4_0 := blk_frozen Bg4.out 0; have hc4_1 : w21.cell? ⟨g4, 1, none⟩ = some (.slice A22_1 s1.length c22_1) := (blk_cell Bg4.out 1).trans rfl; have hf4_1 := blk_frozen Bg4.out 1; have hc6_0 : w21.cell? ⟨g6, 0, none⟩ = some (.slice A26_0 l0_0.length c26_0) := (blk_cell Bg6.out 0).trans rfl; have hf6_0 := blk_frozen Bg6.out 0; have hc6_1 : w21.cell? ⟨g6, 1, none⟩ = some (.slice A26_1 l0_1.length c26_1) := (blk_cell Bg6.out 1).trans rfl; have hf6_1 := blk_frozen Bg6.out 1; have hc7_0 : w21.cell? ⟨g7, 0, none⟩ = some (.slice A29_0 s0.length c29_0) := (blk_cell Bg7.out 0).trans rfl; have hf7_0 := blk_frozen Bg7.out 0; have hc7_1 : w21.cell? ⟨g7, 1, none⟩ = some (.slice A29_1 s1.length c29_1) := (blk_cell Bg7.out 1).trans rfl; have hf7_1 := blk_frozen Bg7.out 1) | ((with_reducible refine gate_callee (f := 18) rfl ?_); refine goesL_ (some 76) rfl rfl Try.func18 (by kernel_rfl) rfl #[.agg #[.slice A75_0 l0_0.length c75_0, .slice A75_1 l0_1.length c75_1]] rfl (by (try simp only [List.map_toArray, List.map_cons, List.map_nil]); first | done | rfl) ?_; refine (impl_ExchangePlayers2.calls k _ _ l0_0 _ _ l0_1 s0 s1 s2 _ ?s1 ?s2 ?s3 ?s4 H5'.out).mono ?_; (case s1 => exact U75.out.C0); (case s2 => exact U75.out.cap0); (case s3 => exact U75.out.C1); (case s4 => exact U75.out.cap1); rintro e w22 ⟨v76_0, v76_1, rfl, ho0, hb⟩; refine ⟨_, rfl, ?_⟩; have nu0 := Aside0.mk (UG.of ho0 HB.out.size); have n_U21 := Aside0.mk (U21.out.mvB (Frm.below hb)); have n_U22_0 := Aside0.mk (U22_0.out.mvB (Frm.below hb)); have n_U22_1 := Aside0.mk (U22_1.out.mvB (Frm.below hb)); have n_U26 := Aside0.mk (U26.out.mvB (Frm.below hb)); have n_U29 := Aside0.mk (U29.out.mvB (Frm.below hb)); have n_U43 := Aside0.mk (U43.out.mvB (Frm.below hb)); have n_U75 := Aside0.mk (U75.out.mvB (Frm.below hb)); have n_Bg1 := Aside0.mk (blk_below Bg1.out hb); have n_Bg4 := Aside0.mk (blk_below Bg4.out hb); have n_Bg6 := Aside0.mk (blk_below Bg6.out hb); have n_Bg7 := Aside0.mk (blk_below Bg7.out hb); have n_HB := Aside0.mk (below_step HB.out hb); have NN22 : Aside0 (w21.heap.size ≤ w22.heap.size) := ⟨hb.size⟩; clear hc1_0 hf1_0; clear hc1_1 hf1_1; clear hc4_0 hf4_0; clear hc4_1 hf4_1; clear hc6_0 hf6_0; clear hc6_1 hf6_1; clear hc7_0 hf7_0; clear hc7_1 hf7_1; clear U21 U22_0 U22_1 U26 U29 U43 U75 Bg1 Bg4 Bg6 Bg7 HB; have U21 := n_U21; have U22_0 := n_U22_0; have U22_1 := n_U22_1; have U26 := n_U26; have U29 := n_U29; have U43 := n_U43; have U75 := n_U75; have Bg1 := n_Bg1; have Bg4 := n_Bg4; have Bg6 := n_Bg6; have Bg7 := n_Bg7; have HB := n_HB; clear n_U21 n_U22_0 n_U22_1 n_U26 n_U29 n_U43 n_U75 n_Bg1 n_Bg4 n_Bg6 n_Bg7 n_HB; clear hb ho0; have U76 := nu0; clear nu0; obtain ⟨A76_0, c76_0, A76_1, c76_1, e0, e1⟩ := U76.out.slices; subst e0; subst e1; have hc1_0 : w22.cell? ⟨g1, 0, none⟩ = some (.slice A0_0 l0_0.length c0_0) := (blk_cell Bg1.out 0).trans rfl; have hf1_0 := blk_frozen Bg1.out 0; have hc1_1 : w22.cell? ⟨g1, 1, none⟩ = some (.slice A0_1 l0_1.length c0_1) := (blk_cell Bg1.out 1).trans rfl; have hf1_1 := blk_frozen Bg1.out 1; have hc4_0 : w22.cell? ⟨g4, 0, none⟩ = some (.slice A22_0 s0.length c22_0) := (blk_cell Bg4.out 0).trans rfl; have hf4_0 := blk_frozen Bg4.out 0; have hc4_1 : w22.cell? ⟨g4, 1, none⟩ = some (.slice A22_1 s1.length c22_1) := (blk_cell Bg4.out 1).trans rfl; have hf4_1 := blk_frozen Bg4.out 1; have hc6_0 : w22.cell? ⟨g6, 0, none⟩ = some (.slice A26_0 l0_0.length c26_0) := (blk_cell Bg6.out 0).trans rfl; have hf6_0 := blk_frozen Bg6.out 0; have hc6_1 : w22.cell? ⟨g6, 1, none⟩ = some (.slice A26_1 l0_1.length c26_1) := (blk_cell Bg6.out 1).trans rfl; have hf6_1 := blk_frozen Bg6.out 1; have hc7_0 : w22.cell? ⟨g7, 0, none⟩ = some (.slice A29_0 s0.length c29_0) := (blk_cell Bg7.out 0).trans rfl; have hf7_0 := blk_frozen Bg7.out 0; have hc7_1 : w22.cell? ⟨g7, 1, none⟩ = some (.slice A29_1 s1.length c29_1) := (blk_cell Bg7.out 1).trans rfl; have hf7_1 := blk_frozen Bg7.out 1) | ((with_reducible refine gate_dst (N := 12) rfl ?_); refine box_event ?hg (N := 12) ?hd (cs := #[.slice none 0 0, .slice none 0 0]) (t := 26) ?hr ?_; (case hd => rfl); (case hg => rfl); (case hr => first | (go_simp; done) | (go_simp; rfl)); intro g12 hg w23 hbox hb; have Gg12 : Aside0 (g12 = w22.heap.size) := ⟨hg⟩; have Kg12 := Aside0.mk (blk_lt hbox); clear hg; have n_U21 := Aside0.mk (U21.out.mvB (Frm.below hb)); have n_U22_0 := Aside0.mk (U22_0.out.mvB (Frm.below hb)); have n_U22_1 := Aside0.mk (U22_1.out.mvB (Frm.below hb)); have n_U26 := Aside0.mk (U26.out.mvB (Frm.below hb)); have n_U29 := Aside0.mk (U29.out.mvB (Frm.below hb)); have n_U43 := Aside0.mk (U43.out.mvB (Frm.below hb)); have n_U75 := Aside0.mk (U75.out.mvB (Frm.below hb)); have n_U76 := Aside0.mk (U76.out.mvB (Frm.below hb)); have n_Bg1 := Aside0.mk (blk_below Bg1.out hb); have n_Bg4 := Aside0.mk (blk_below Bg4.out hb); have n_Bg6 := Aside0.mk (blk_below Bg6.out hb); have n_Bg7 := Aside0.mk (blk_below Bg7.out hb); have n_HB := Aside0.mk (below_step HB.out hb); have NN23 : Aside0 (w22.heap.size ≤ w23.heap.size) := ⟨hb.size⟩; clear hc1_0 hf1_0; clear hc1_1 hf1_1; clear hc4_0 hf4_0; clear hc4_1 hf4_1; clear hc6_0 hf6_0; clear hc6_1 hf6_1; clear hc7_0 hf7_0; clear hc7_1 hf7_1; clear U21 U22_0 U22_1 U26 U29 U43 U75 U76 Bg1 Bg4 Bg6 Bg7 HB; have U21 := n_U21; have U22_0 := n_U22_0; have U22_1 := n_U22_1; have U26 := n_U26; have U29 := n_U29; have U43 := n_U43; have U75 := n_U75; have U76 := n_U76; have Bg1 := n_Bg1; have Bg4 := n_Bg4; have Bg6 := n_Bg6; have Bg7 := n_Bg7; have HB := n_HB; clear n_U21 n_U22_0 n_U22_1 n_U26 n_U29 n_U43 n_U75 n_U76 n_Bg1 n_Bg4 n_Bg6 n_Bg7 n_HB; have Bg12 := Aside0.mk hbox; clear hb hbox; have hc1_0 : w23.cell? ⟨g1, 0, none⟩ = some (.slice A0_0 l0_0.length c0_0) := (blk_cell Bg1.out 0).trans rfl; have hf1_0 := blk_frozen Bg1.out 0; have hc1_1 : w23.cell? ⟨g1, 1, none⟩ = some (.slice A0_1 l0_1.length c0_1) := (blk_cell Bg1.out 1).trans rfl; have hf1_1 := blk_frozen Bg1.out 1; have hc4_0 : w23.cell? ⟨g4, 0, none⟩ = some (.slice A22_0 s0.length c22_0) := (blk_cell Bg4.out 0).trans rfl; have hf4_0 := blk_frozen Bg4.out 0; have hc4_1 : w23.cell? ⟨g4, 1, none⟩ = some (.slice A22_1 s1.length c22_1) := (blk_cell Bg4.out 1).trans rfl; have hf4_1 := blk_frozen Bg4.out 1; have hc6_0 : w23.cell? ⟨g6, 0, none⟩ = some (.slice A26_0 l0_0.length c26_0) := (blk_cell Bg6.out 0).trans rfl; have hf6_0 := blk_frozen Bg6.out 0; have hc6_1 : w23.cell? ⟨g6, 1, none⟩ = some (.slice A26_1 l0_1.length c26_1) := (blk_cell Bg6.out 1).trans rfl; have hf6_1 := blk_frozen Bg6.out 1; have hc7_0 : w23.cell? ⟨g7, 0, none⟩ = some (.slice A29_0 s0.length c29_0) := (blk_cell Bg7.out 0).trans rfl; have hf7_0 := blk_frozen Bg7.out 0; have hc7_1 : w23.cell? ⟨g7, 1, none⟩ = some (.slice A29_1 s1.length c29_1) := (blk_cell Bg7.out 1).trans rfl; have hf7_1 := blk_frozen Bg7.out 1; have hc12_0 : w23.cell? ⟨g12, 0, none⟩ = some (.slice none 0 0) := (blk_cell Bg12.out 0).trans rfl; have hf12_0 := blk_frozen Bg12.out 0; have hc12_1 : w23.cell? ⟨g12, 1, none⟩ = some (.slice none 0 0) := (blk_cell Bg12.out 1).trans rfl; have hf12_1 := blk_frozen Bg12.out 1) | ((with_reducible refine gate_store (t := 26) (p := 12) rfl ?_); refine store_event (t := 26) (p := 12) (v := ?vo_w24) (w1 := ((w23.setCell ⟨g12, 0, none⟩ (.slice A76_0 s0.length c76_0)).setCell ⟨g12, 1, none⟩ (.slice A76_1 s1.length c76_1))) ?hg ?ho ?hn ?hr ?_; (case ho => rfl); (case hg => rfl); (case hn => rfl); (case hr => first | (go_simp; done) | (go_simp; rfl)); intro w24 hw; have hge : w.heap.size ≤ g12 := (by have := NN1.out; have := Gg1.out; have := Kg1.out; have := NN2.out; have := NN3.out; have := NN4.out; have := NN5.out; have := Gg4.out; have := Kg4.out; have := NN6.out; have := NN7.out; have := NN8.out; have := Gg6.out; have := Kg6.out; have := NN9.out; have := NN10.out; have := NN11.out; have := Gg7.out; have := Kg7.out; have := NN12.out; have := NN13.out; have := NN14.out; have := NN15.out; have := NN16.out; have := NN17.out; have := NN18.out; have := NN19.out; have := NN20.out; have := NN21.out; have := NN22.out; have := NN23.out; have := Gg12.out; have := Kg12.out; have := HB.out.size; omega); have hF : Frm w23 w24 g12 (g12 + 1) := (by rw [hw]; exact (Frm.trans (Frm.set _ _ _ _) (Frm.set _ _ _ _))); have nb := Aside0.mk (show w24.heap[g12]? = some (.cells #[.slice A76_0 s0.length c76_0, .slice A76_1 s1.length c76_1] 26 (0, 0)) from (by rw [hw]; exact (blk_put (blk_put Bg12.out 0 _ rfl) 1 _ rfl))); have n_U21 := Aside0.mk (U21.out.mv hF (by have := NN1.out; have := Gg1.out; have := Kg1.out; have := NN2.out; have := NN3.out; have := NN4.out; have := NN5.out; have := Gg4.out; have := Kg4.out; have := NN6.out; have := NN7.out; have := NN8.out; have := Gg6.out; have := Kg6.out; have := NN9.out; have := NN10.out; have := NN11.out; have := Gg7.out; have := Kg7.out; have := NN12.out; have := NN13.out; have := NN14.out; have := NN15.out; have := NN16.out; have := NN17.out; have := NN18.out; have := NN19.out; have := NN20.out; have := NN21.out; have := NN22.out; have := NN23.out; have := Gg12.out; have := Kg12.out; omega)); have n_U22_0 := Aside0.mk (U22_0.out.mv hF (by have := NN1.out; have := Gg1.out; have := Kg1.out; have := NN2.out; have := NN3.out; have := NN4.out; have := NN5.out; have := Gg4.out; have := Kg4.out; have := NN6.out; have := NN7.out; have := NN8.out; have := Gg6.out; have := Kg6.out; have := NN9.out; have := NN10.out; have := NN11.out; have := Gg7.out; have := Kg7.out; have := NN12.out; have := NN13.out; have := NN14.out; have := NN15.out; have := NN16.out; have := NN17.out; have := NN18.out; have := NN19.out; have := NN20.out; have := NN21.out; have := NN22.out; have := NN23.out; have := Gg12.out; have := Kg12.out; omega)); have n_U22_1 := Aside0.mk (U22_1.out.mv hF (by have := NN1.out; have := Gg1.out; have := Kg1.out; have := NN2.out; have := NN3.out; have := NN4.out; have := NN5.out; have := Gg4.out; have := Kg4.out; have := NN6.out; have := NN7.out; have := NN8.out; have := Gg6.out; have := Kg6.out; have := NN9.out; have := NN10.out; have := NN11.out; have := Gg7.out; have := Kg7.out; have := NN12.out; have := NN13.out; have := NN14.out; have := NN15.out; have := NN16.out; have := NN17.out; have := NN18.out; have := NN19.out; have := NN20.out; have := NN21.out; have := NN22.out; have := NN23.out; have := Gg12.out; have := Kg12.out; omega)); have n_U26 := Aside0.mk (U26.out.mv hF (by have := NN1.out; have := Gg1.out; have := Kg1.out; have := NN2.out; have := NN3.out; have := NN4.out; have := NN5.out; have := Gg4.out; have := Kg4.out; have := NN6.out; have := NN7.out; have := NN8.out; have := Gg6.out; have := Kg6.out; have := NN9.out; have := NN10.out; have := NN11.out; have := Gg7.out; have := Kg7.out; have := NN12.out; have := NN13.out; have := NN14.out; have := NN15.out; have := NN16.out; have := NN17.out; have := NN18.out; have := NN19.out; have := NN20.out; have := NN21.out; have := NN22.out; have := NN23.out; have := Gg12.out; have := Kg12.out; omega)); have n_U29 := Aside0.mk (U29.out.mv hF (by have := NN1.out; have := Gg1.out; have := Kg1.out; have := NN2.out; have := NN3.out; have := NN4.out; have := NN5.out; have := Gg4.out; have := Kg4.out; have := NN6.out; have := NN7.out; have := NN8.out; have := Gg6.out; have := Kg6.out; have := NN9.out; have := NN10.out; have := NN11.out; have := Gg7.out; have := Kg7.out; have := NN12.out; have := NN13.out; have := NN14.out; have := NN15.out; have := NN16.out; have := NN17.out; have := NN18.out; have := NN19.out; have := NN20.out; have := NN21.out; have := NN22.out; have := NN23.out; have := Gg12.out; have := Kg12.out; omega)); have n_U43 := Aside0.mk (U43.out.mv hF (by have := NN1.out; have := Gg1.out; have := Kg1.out; have := NN2.out; have := NN3.out; have := NN4.out; have := NN5.out; have := Gg4.out; have := Kg4.out; have := NN6.out; have := NN7.out; have := NN8.out; have := Gg6.out; have := Kg6.out; have := NN9.out; have := NN10.out; have := NN11.out; have := Gg7.out; have := Kg7.out; have := NN12.out; have := NN13.out; have := NN14.out; have := NN15.out; have := NN16.out; have := NN17.out; have := NN18.out; have := NN19.out; have := NN20.out; have := NN21.out; have := NN22.out; have := NN23.out; have := Gg12.out; have := Kg12.out; omega)); have n_U75 := Aside0.mk (U75.out.mv hF (by have := NN1.out; have := Gg1.out; have := Kg1.out; have := NN2.out; have := NN3.out; have := NN4.out; have := NN5.out; have := Gg4.out; have := Kg4.out; have := NN6.out; have := NN7.out; have := NN8.out; have := Gg6.out; have := Kg6.out; have := NN9.out; have := NN10.out; have := NN11.out; have := Gg7.out; have := Kg7.out; have := NN12.out; have := NN13.out; have := NN14.out; have := NN15.out; have := NN16.out; have := NN17.out; have := NN18.out; have := NN19.out; have := NN20.out; have := NN21.out; have := NN22.out; have := NN23.out; have := Gg12.out; have := Kg12.out; omega)); have n_U76 := Aside0.mk (U76.out.mv hF (by have := NN1.out; have := Gg1.out; have := Kg1.out; have := NN2.out; have := NN3.out; have := NN4.out; have := NN5.out; have := Gg4.out; have := Kg4.out; have := NN6.out; have := NN7.out; have := NN8.out; have := Gg6.out; have := Kg6.out; have := NN9.out; have := NN10.out; have := NN11.out; have := Gg7.out; have := Kg7.out; have := NN12.out; have := NN13.out; have := NN14.out; have := NN15.out; have := NN16.out; have := NN17.out; have := NN18.out; have := NN19.out; have := NN20.out; have := NN21.out; have := NN22.out; have := NN23.out; have := Gg12.out; have := Kg12.out; omega)); have n_Bg1 := Aside0.mk ((hF.same g1 (blk_lt Bg1.out) (by have := NN1.out; have := Gg1.out; have := Kg1.out; have := NN2.out; have := NN3.out; have := NN4.out; have := NN5.out; have := Gg4.out; have := Kg4.out; have := NN6.out; have := NN7.out; have := NN8.out; have := Gg6.out; have := Kg6.out; have := NN9.out; have := NN10.out; have := NN11.out; have := Gg7.out; have := Kg7.out; have := NN12.out; have := NN13.out; have := NN14.out; have := NN15.out; have := NN16.out; have := NN17.out; have := NN18.out; have := NN19.out; have := NN20.out; have := NN21.out; have := NN22.out; have := NN23.out; have := Gg12.out; have := Kg12.out; omega)).trans Bg1.out); have n_Bg4 := Aside0.mk ((hF.same g4 (blk_lt Bg4.out) (by have := NN1.out; have := Gg1.out; have := Kg1.out; have := NN2.out; have := NN3.out; have := NN4.out; have := NN5.out; have := Gg4.out; have := Kg4.out; have := NN6.out; have := NN7.out; have := NN8.out; have := Gg6.out; have := Kg6.out; have := NN9.out; have := NN10.out; have := NN11.out; have := Gg7.out; have := Kg7.out; have := NN12.out; have := NN13.out; have := NN14.out; have := NN15.out; have := NN16.out; have := NN17.out; have := NN18.out; have := NN19.out; have := NN20.out; have := NN21.out; have := NN22.out; have := NN23.out; have := Gg12.out; have := Kg12.out; omega)).trans Bg4.out); have n_Bg6 := Aside0.mk ((hF.same g6 (blk_lt Bg6.out) (by have := NN1.out; have := Gg1.out; have := Kg1.out; have := NN2.out; have := NN3.out; have := NN4.out; have := NN5.out; have := Gg4.out; have := Kg4.out; have := NN6.out; have := NN7.out; have := NN8.out; have := Gg6.out; have := Kg6.out; have := NN9.out; have := NN10.out; have := NN11.out; have := Gg7.out; have := Kg7.out; have := NN12.out; have := NN13.out; have := NN14.out; have := NN15.out; have := NN16.out; have := NN17.out; have := NN18.out; have := NN19.out; have := NN20.out; have := NN21.out; have := NN22.out; have := NN23.out; have := Gg12.out; have := Kg12.out; omega)).trans Bg6.out); have n_Bg7 := Aside0.mk ((hF.same g7 (blk_lt Bg7.out) (by have := NN1.out; have := Gg1.out; have := Kg1.out; have := NN2.out; have := NN3.out; have := NN4.out; have := NN5.out; have := Gg4.out; have := Kg4.out; have := NN6.out; have := NN7.out; have := NN8.out; have := Gg6.out; have := Kg6.out; have := NN9.out; have := NN10.out; have := NN11.out; have := Gg7.out; have := Kg7.out; have := NN12.out; have := NN13.out; have := NN14.out; have := NN15.out; have := NN16.out; have := NN17.out; have := NN18.out; have := NN19.out; have := NN20.out; have := NN21.out; have := NN22.out; have := NN23.out; have := Gg12.out; have := Kg12.out; omega)).trans Bg7.out); have n_HB := Aside0.mk ((by rw [hw]; exact (below_set (below_set HB.out hge) hge) : Below w.heap.size w w24)); have NN24 : Aside0 (w23.heap.size ≤ w24.heap.size) := ⟨hF.size⟩; clear hc1_0 hf1_0; clear hc1_1 hf1_1; clear hc4_0 hf4_0; clear hc4_1 hf4_1; clear hc6_0 hf6_0; clear hc6_1 hf6_1; clear hc7_0 hf7_0; clear hc7_1 hf7_1; clear hc12_0 hf12_0; clear hc12_1 hf12_1; clear U21 U22_0 U22_1 U26 U29 U43 U75 U76 Bg1 Bg4 Bg6 Bg7 HB; have U21 := n_U21; have U22_0 := n_U22_0; have U22_1 := n_U22_1; have U26 := n_U26; have U29 := n_U29; have U43 := n_U43; have U75 := n_U75; have U76 := n_U76; have Bg1 := n_Bg1; have Bg4 := n_Bg4; have Bg6 := n_Bg6; have Bg7 := n_Bg7; have HB := n_HB; clear n_U21 n_U22_0 n_U22_1 n_U26 n_U29 n_U43 n_U75 n_U76 n_Bg1 n_Bg4 n_Bg6 n_Bg7 n_HB; clear Bg12; have Bg12 := nb; clear nb hF hge hw; have hc1_0 : w24.cell? ⟨g1, 0, none⟩ = some (.slice A0_0 l0_0.length c0_0) := (blk_cell Bg1.out 0).trans rfl; have hf1_0 := blk_frozen Bg1.out 0; have hc1_1 : w24.cell? ⟨g1, 1, none⟩ = some (.slice A0_1 l0_1.length c0_1) := (blk_cell Bg1.out 1).trans rfl; have hf1_1 := blk_frozen Bg1.out 1; have hc4_0 : w24.cell? ⟨g4, 0, none⟩ = some (.slice A22_0 s0.length c22_0) := (blk_cell Bg4.out 0).trans rfl; have hf4_0 := blk_frozen Bg4.out 0; have hc4_1 : w24.cell? ⟨g4, 1, none⟩ = some (.slice A22_1 s1.length c22_1) := (blk_cell Bg4.out 1).trans rfl; have hf4_1 := blk_frozen Bg4.out 1; have hc6_0 : w24.cell? ⟨g6, 0, none⟩ = some (.slice A26_0 l0_0.length c26_0) := (blk_cell Bg6.out 0).trans rfl; have hf6_0 := blk_frozen Bg6.out 0; have hc6_1 : w24.cell? ⟨g6, 1, none⟩ = some (.slice A26_1 l0_1.length c26_1) := (blk_cell Bg6.out 1).trans rfl; have hf6_1 := blk_frozen Bg6.out 1; have hc7_0 : w24.cell? ⟨g7, 0, none⟩ = some (.slice A29_0 s0.length c29_0) := (blk_cell Bg7.out 0).trans rfl; have hf7_0 := blk_frozen Bg7.out 0; have hc7_1 : w24.cell? ⟨g7, 1, none⟩ = some (.slice A29_1 s1.length c29_1) := (blk_cell Bg7.out 1).trans rfl; have hf7_1 := blk_frozen Bg7.out 1; have hc12_0 : w24.cell? ⟨g12, 0, none⟩ = some (.slice A76_0 s0.length c76_0) := (blk_cell Bg12.out 0).trans rfl; have hf12_0 := blk_frozen Bg12.out 0; have hc12_1 : w24.cell? ⟨g12, 1, none⟩ = some (.slice A76_1 s1.length c76_1) := (blk_cell Bg12.out 1).trans rfl; have hf12_1 := blk_frozen Bg12.out 1) | ((with_reducible refine gate_callee (f := 19) rfl ?_); refine goesL_ (some 81) rfl rfl Try.func19 (by kernel_rfl) rfl #[.agg #[.slice A76_0 s0.length c76_0, .slice A76_1 s1.length c76_1], .agg #[.slice A22_0 s0.length c22_0, .slice A22_1 s1.length c22_1]] rfl (by (try simp only [List.map_toArray, List.map_cons, List.map_nil]); first | done | rfl) ?_; refine (laws_eqGame.calls k _ _ s0 _ _ s1 _ _ s0 _ _ s1 true _ ?s1 ?s2 ?s3 ?s4 ?s5 ?s6 ?s7 ?s8 H6'.out).mono ?_; (case s1 => exact U76.out.C0); (case s2 => exact U76.out.cap0); (case s3 => exact U76.out.C1); (case s4 => exact U76.out.cap1); (case s5 => exact US.C U22_0.out); (case s6 => exact US.cap U22_0.out); (case s7 => exact US.C U22_1.out); (case s8 => exact US.cap U22_1.out); rintro e w25 ⟨rfl, hb⟩; refine ⟨_, rfl, ?_⟩; have n_U21 := Aside0.mk (U21.out.mvB (Frm.below hb)); have n_U22_0 := Aside0.mk (U22_0.out.mvB (Frm.below hb)); have n_U22_1 := Aside0.mk (U22_1.out.mvB (Frm.below hb)); have n_U26 := Aside0.mk (U26.out.mvB (Frm.below hb)); have n_U29 := Aside0.mk (U29.out.mvB (Frm.below hb)); have n_U43 := Aside0.mk (U43.out.mvB (Frm.below hb)); have n_U75 := Aside0.mk (U75.out.mvB (Frm.below hb)); have n_U76 := Aside0.mk (U76.out.mvB (Frm.below hb)); have n_Bg1 := Aside0.mk (blk_below Bg1.out hb); have n_Bg4 := Aside0.mk (blk_below Bg4.out hb); have n_Bg6 := Aside0.mk (blk_below Bg6.out hb); have n_Bg7 := Aside0.mk (blk_below Bg7.out hb); have n_Bg12 := Aside0.mk (blk_below Bg12.out hb); have n_HB := Aside0.mk (below_step HB.out hb); have NN25 : Aside0 (w24.heap.size ≤ w25.heap.size) := ⟨hb.size⟩; clear hc1_0 hf1_0; clear hc1_1 hf1_1; clear hc4_0 hf4_0; clear hc4_1 hf4_1; clear hc6_0 hf6_0; clear hc6_1 hf6_1; clear hc7_0 hf7_0; clear hc7_1 hf7_1; clear hc12_0 hf12_0; clear hc12_1 hf12_1; clear U21 U22_0 U22_1 U26 U29 U43 U75 U76 Bg1 Bg4 Bg6 Bg7 Bg12 HB; have U21 := n_U21; have U22_0 := n_U22_0; have U22_1 := n_U22_1; have U26 := n_U26; have U29 := n_U29; have U43 := n_U43; have U75 := n_U75; have U76 := n_U76; have Bg1 := n_Bg1; have Bg4 := n_Bg4; have Bg6 := n_Bg6; have Bg7 := n_Bg7; have Bg12 := n_Bg12; have HB := n_HB; clear n_U21 n_U22_0 n_U22_1 n_U26 n_U29 n_U43 n_U75 n_U76 n_Bg1 n_Bg4 n_Bg6 n_Bg7 n_Bg12 n_HB; clear hb; have hc1_0 : w25.cell? ⟨g1, 0, none⟩ = some (.slice A0_0 l0_0.length c0_0) := (blk_cell Bg1.out 0).trans rfl; have hf1_0 := blk_frozen Bg1.out 0; have hc1_1 : w25.cell? ⟨g1, 1, none⟩ = some (.slice A0_1 l0_1.length c0_1) := (blk_cell Bg1.out 1).trans rfl; have hf1_1 := blk_frozen Bg1.out 1; have hc4_0 : w25.cell? ⟨g4, 0, none⟩ = some (.slice A22_0 s0.length c22_0) := (blk_cell Bg4.out 0).trans rfl; have hf4_0 := blk_frozen Bg4.out 0; have hc4_1 : w25.cell? ⟨g4, 1, none⟩ = some (.slice A22_1 s1.length c22_1) := (blk_cell Bg4.out 1).trans rfl; have hf4_1 := blk_frozen Bg4.out 1; have hc6_0 : w25.cell? ⟨g6, 0, none⟩ = some (.slice A26_0 l0_0.length c26_0) := (blk_cell Bg6.out 0).trans rfl; have hf6_0 := blk_frozen Bg6.out 0; have hc6_1 : w25.cell? ⟨g6, 1, none⟩ = some (.slice A26_1 l0_1.length c26_1) := (blk_cell Bg6.out 1).trans rfl; have hf6_1 := blk_frozen Bg6.out 1; have hc7_0 : w25.cell? ⟨g7, 0, none⟩ = some (.slice A29_0 s0.length c29_0) := (blk_cell Bg7.out 0).trans rfl; have hf7_0 := blk_frozen Bg7.out 0; have hc7_1 : w25.cell? ⟨g7, 1, none⟩ = some (.slice A29_1 s1.length c29_1) := (blk_cell Bg7.out 1).trans rfl; have hf7_1 := blk_frozen Bg7.out 1; have hc12_0 : w25.cell? ⟨g12, 0, none⟩ = some (.slice A76_0 s0.length c76_0) := (blk_cell Bg12.out 0).trans rfl; have hf12_0 := blk_frozen Bg12.out 0; have hc12_1 : w25.cell? ⟨g12, 1, none⟩ = some (.slice A76_1 s1.length c76_1) := (blk_cell Bg12.out 1).trans rfl; have hf12_1 := blk_frozen Bg12.out 1) | ((with_reducible refine gate_callee (f := 21) rfl ?_); refine goesL_ (some 90) rfl rfl Try.func21 (by kernel_rfl) rfl #[.agg #[.slice A29_0 s0.length c29_0, .slice A29_1 s1.length c29_1], .int .i64 1] rfl (by (try simp only [List.map_toArray, List.map_cons, List.map_nil]); first | done | rfl) ?_; have hcall := laws_heldGame.calls k _ _ ((marks s0 1)) _ _ ((marks s1 (1 + lens s0))) 1 m2 _ (U29.out.C0) (U29.out.cap0) (U29.out.C1) (U29.out.cap1) H18'.out; simp only [marks_length, count_length] at hcall; refine hcall.mono ?_; clear hcall; rintro e w26 ⟨rfl, hb⟩; refine ⟨_, rfl, ?_⟩; have n_U21 := Aside0.mk (U21.out.mvB (Frm.below hb)); have n_U22_0 := Aside0.mk (U22_0.out.mvB (Frm.below hb)); have n_U22_1 := Aside0.mk (U22_1.out.mvB (Frm.below hb)); have n_U26 := Aside0.mk (U26.out.mvB (Frm.below hb)); have n_U29 := Aside0.mk (U29.out.mvB (Frm.below hb)); have n_U43 := Aside0.mk (U43.out.mvB (Frm.below hb)); have n_U75 := Aside0.mk (U75.out.mvB (Frm.below hb)); have n_U76 := Aside0.mk (U76.out.mvB (Frm.below hb)); have n_Bg1 := Aside0.mk (blk_below Bg1.out hb); have n_Bg4 := Aside0.mk (blk_below Bg4.out hb); have n_Bg6 := Aside0.mk (blk_below Bg6.out hb); have n_Bg7 := Aside0.mk (blk_below Bg7.out hb); have n_Bg12 := Aside0.mk (blk_below Bg12.out hb); have n_HB := Aside0.mk (below_step HB.out hb); have NN26 : Aside0 (w25.heap.size ≤ w26.heap.size) := ⟨hb.size⟩; clear hc1_0 hf1_0; clear hc1_1 hf1_1; clear hc4_0 hf4_0; clear hc4_1 hf4_1; clear hc6_0 hf6_0; clear hc6_1 hf6_1; clear hc7_0 hf7_0; clear hc7_1 hf7_1; clear hc12_0 hf12_0; clear hc12_1 hf12_1; clear U21 U22_0 U22_1 U26 U29 U43 U75 U76 Bg1 Bg4 Bg6 Bg7 Bg12 HB; have U21 := n_U21; have U22_0 := n_U22_0; have U22_1 := n_U22_1; have U26 := n_U26; have U29 := n_U29; have U43 := n_U43; have U75 := n_U75; have U76 := n_U76; have Bg1 := n_Bg1; have Bg4 := n_Bg4; have Bg6 := n_Bg6; have Bg7 := n_Bg7; have Bg12 := n_Bg12; have HB := n_HB; clear n_U21 n_U22_0 n_U22_1 n_U26 n_U29 n_U43 n_U75 n_U76 n_Bg1 n_Bg4 n_Bg6 n_Bg7 n_Bg12 n_HB; clear hb; have hc1_0 : w26.cell? ⟨g1, 0, none⟩ = some (.slice A0_0 l0_0.length c0_0) := (blk_cell Bg1.out 0).trans rfl; have hf1_0 := blk_frozen Bg1.out 0; have hc1_1 : w26.cell? ⟨g1, 1, none⟩ = some (.slice A0_1 l0_1.length c0_1) := (blk_cell Bg1.out 1).trans rfl; have hf1_1 := blk_frozen Bg1.out 1; have hc4_0 : w26.cell? ⟨g4, 0, none⟩ = some (.slice A22_0 s0.length c22_0) := (blk_cell Bg4.out 0).trans rfl; have hf4_0 := blk_frozen Bg4.out 0; have hc4_1 : w26.cell? ⟨g4, 1, none⟩ = some (.slice A22_1 s1.length c22_1) := (blk_cell Bg4.out 1).trans rfl; have hf4_1 := blk_frozen Bg4.out 1; have hc6_0 : w26.cell? ⟨g6, 0, none⟩ = some (.slice A26_0 l0_0.length c26_0) := (blk_cell Bg6.out 0).trans rfl; have hf6_0 := blk_frozen Bg6.out 0; have hc6_1 : w26.cell? ⟨g6, 1, none⟩ = some (.slice A26_1 l0_1.length c26_1) := (blk_cell Bg6.out 1).trans rfl; have hf6_1 := blk_frozen Bg6.out 1; have hc7_0 : w26.cell? ⟨g7, 0, none⟩ = some (.slice A29_0 s0.length c29_0) := (blk_cell Bg7.out 0).trans rfl; have hf7_0 := blk_frozen Bg7.out 0; have hc7_1 : w26.cell? ⟨g7, 1, none⟩ = some (.slice A29_1 s1.length c29_1) := (blk_cell Bg7.out 1).trans rfl; have hf7_1 := blk_frozen Bg7.out 1; have hc12_0 : w26.cell? ⟨g12, 0, none⟩ = some (.slice A76_0 s0.length c76_0) := (blk_cell Bg12.out 0).trans rfl; have hf12_0 := blk_frozen Bg12.out 0; have hc12_1 : w26.cell? ⟨g12, 1, none⟩ = some (.slice A76_1 s1.length c76_1) := (blk_cell Bg12.out 1).trans rfl; have hf12_1 := blk_frozen Bg12.out 1))
  go_ret
  exact ⟨rfl, HB.out⟩
set_option maxHeartbeats 8000000 in
set_option maxRecDepth 100000 in
theorem laws_FnExactExchangePlayers.small0 (k : Nat) (A0_0 : Option Addr) (c0_0 : Nat) (l0_0 : List (List Int)) (A0_1 : Option Addr) (c0_1 : Nat) (l0_1 : List (List Int)) (t16 : Int) (w : World) (hr0_0 : Kd.C (Kd.slice 2 (Kd.int .i64)) w A0_0 l0_0.length l0_0) (hc0_0 : l0_0.length ≤ c0_0) (hr0_1 : Kd.C (Kd.slice 2 (Kd.int .i64)) w A0_1 l0_1.length l0_1) (hc0_1 : l0_1.length ≤ c0_1) (h1 : laws_szGame.f k l0_0 l0_1 1048576 = some t16) (h2 : t16 < 0) :
    Calls Try.prog 3 #[.agg #[.slice A0_0 l0_0.length c0_0, .slice A0_1 l0_1.length c0_1]] w fun e w' => e = .returned (.bool true) ∧ Below w.heap.size w w' := by
  have HR0_0 := Aside0.mk hr0_0
  have HC0_0 := Aside0.mk hc0_0
  clear hr0_0 hc0_0
  have HR0_1 := Aside0.mk hr0_1
  have HC0_1 := Aside0.mk hc0_1
  clear hr0_1 hc0_1
  have HB := Aside0.mk (Below.refl w.heap.size w)
  have H1' := Aside0.mk h1
  clear h1
  go_enter Try.func3, Try.ntmps3
  go_wp2_with (first | ((with_reducible refine gate_dst (N := 1) rfl ?_); refine box_event ?hg (N := 1) ?hd (cs := #[.slice A0_0 l0_0.length c0_0, .slice A0_1 l0_1.length c0_1]) (t := 24) ?hr ?_; (case hd => rfl); (case hg => rfl); (case hr => first | (go_simp; done) | (go_simp; rfl)); intro g1 hg w1 hbox hb; have Gg1 : Aside0 (g1 = w.heap.size) := ⟨hg⟩; have Kg1 := Aside0.mk (blk_lt hbox); clear hg; have n_HB := Aside0.mk (below_step HB.out hb); have NN1 : Aside0 (w.heap.size ≤ w1.heap.size) := ⟨hb.size⟩; clear HB; have HB := n_HB; clear n_HB; have Bg1 := Aside0.mk hbox; clear hb hbox; have hc1_0 : w1.cell? ⟨g1, 0, none⟩ = some (.slice A0_0 l0_0.length c0_0) := (blk_cell Bg1.out 0).trans rfl; have hf1_0 := blk_frozen Bg1.out 0; have hc1_1 : w1.cell? ⟨g1, 1, none⟩ = some (.slice A0_1 l0_1.length c0_1) := (blk_cell Bg1.out 1).trans rfl; have hf1_1 := blk_frozen Bg1.out 1) | ((with_reducible refine gate_callee (f := 15) rfl ?_); refine goesL_ (some 16) rfl rfl Try.func15 (by kernel_rfl) rfl #[.agg #[.slice A0_0 l0_0.length c0_0, .slice A0_1 l0_1.length c0_1], .int .i64 1048576] rfl (by (try simp only [List.map_toArray, List.map_cons, List.map_nil]); first | done | rfl) ?_; refine (laws_szGame.calls k _ _ l0_0 _ _ l0_1 1048576 t16 _ ?s1 ?s2 ?s3 ?s4 H1'.out).mono ?_; (case s1 => exact Kd.C_below HR0_0.out HB.out); (case s2 => exact HC0_0.out); (case s3 => exact Kd.C_below HR0_1.out HB.out); (case s4 => exact HC0_1.out); rintro e w2 ⟨rfl, hb⟩; refine ⟨_, rfl, ?_⟩; have n_Bg1 := Aside0.mk (blk_below Bg1.out hb); have n_HB := Aside0.mk (below_step HB.out hb); have NN2 : Aside0 (w1.heap.size ≤ w2.heap.size) := ⟨hb.size⟩; clear hc1_0 hf1_0; clear hc1_1 hf1_1; clear Bg1 HB; have Bg1 := n_Bg1; have HB := n_HB; clear n_Bg1 n_HB; clear hb; have hc1_0 : w2.cell? ⟨g1, 0, none⟩ = some (.slice A0_0 l0_0.length c0_0) := (blk_cell Bg1.out 0).trans rfl; have hf1_0 := blk_frozen Bg1.out 0; have hc1_1 : w2.cell? ⟨g1, 1, none⟩ = some (.slice A0_1 l0_1.length c0_1) := (blk_cell Bg1.out 1).trans rfl; have hf1_1 := blk_frozen Bg1.out 1))
  go_ret
  exact ⟨rfl, HB.out⟩
/-- What this way asks. -/
def laws_FnExactExchangePlayers.ok_walk (k : Nat) (l0_0 : List (List Int)) (l0_1 : List (List Int)) : Prop := ∃ (t16 : Int) (s0 : List (List Int)) (s1 : List (List Int)) (s2 : Int) (m1 : Int) (m2 : Int), (laws_szGame.f k l0_0 l0_1 1048576 = some t16) ∧ (¬ t16 < 0) ∧ (laws_toInt64SS.f k l0_0 = some l0_0 ∧ laws_toInt64SS.f k l0_1 = some l0_1) ∧ (spec_ExchangePlayers.f k l0_0 l0_1 = some (s0, s1, s2)) ∧ (impl_ExchangePlayers.f k l0_0 l0_1 = some (s0, s1, s2)) ∧ (laws_eqGame.f k s0 s1 s0 s1 = some true) ∧ (laws_eqGame.f k l0_0 l0_1 l0_0 l0_1 = some true) ∧ (m1 = 1 + (lens l0_0 : Int) + (lens l0_1 : Int)) ∧ (1 + (lens l0_0 : Int) + (lens l0_1 : Int) ≤ 1099511627776) ∧ (l0_0.length ≤ 1099511627776) ∧ (l0_1.length ≤ 1099511627776) ∧ (¬ m1 < 0) ∧ (m2 = 1 + (lens s0 : Int) + (lens s1 : Int)) ∧ (1 + (lens s0 : Int) + (lens s1 : Int) ≤ 1099511627776) ∧ (s0.length ≤ 1099511627776) ∧ (s1.length ≤ 1099511627776) ∧ (¬ m2 < 0) ∧ (laws_heldGame.f k ((marks s0 1)) ((marks s1 (1 + lens s0))) 1 = some m2)
/-- What this way asks. -/
def laws_FnExactExchangePlayers.ok_small0 (k : Nat) (l0_0 : List (List Int)) (l0_1 : List (List Int)) : Prop := ∃ (t16 : Int), (laws_szGame.f k l0_0 l0_1 1048576 = some t16) ∧ (t16 < 0)
open Classical in
noncomputable def laws_FnExactExchangePlayers.f (k : Nat) (l0_0 : List (List Int)) (l0_1 : List (List Int)) : Option Bool := if laws_FnExactExchangePlayers.ok_walk k l0_0 l0_1 ∨ laws_FnExactExchangePlayers.ok_small0 k l0_0 l0_1 then some true else none
theorem laws_FnExactExchangePlayers.calls (k : Nat) (A0_0 : Option Addr) (c0_0 : Nat) (l0_0 : List (List Int)) (A0_1 : Option Addr) (c0_1 : Nat) (l0_1 : List (List Int)) (r : Bool) (w : World) (hr0_0 : Kd.C (Kd.slice 2 (Kd.int .i64)) w A0_0 l0_0.length l0_0) (hc0_0 : l0_0.length ≤ c0_0) (hr0_1 : Kd.C (Kd.slice 2 (Kd.int .i64)) w A0_1 l0_1.length l0_1) (hc0_1 : l0_1.length ≤ c0_1) (h : laws_FnExactExchangePlayers.f k l0_0 l0_1 = some r) :
    Calls Try.prog 3 #[.agg #[.slice A0_0 l0_0.length c0_0, .slice A0_1 l0_1.length c0_1]] w fun e w' => e = .returned (.bool r) ∧ Below w.heap.size w w' := by
  unfold laws_FnExactExchangePlayers.f at h
  split at h
  case isFalse => cases h
  rename_i hok
  cases h
  rcases hok with ⟨t16, s0, s1, s2, m1, m2, h1, h2, h3, h4, h5, h6, h7, h8, h9, h10, h11, h12, h13, h14, h15, h16, h17, h18⟩ | ⟨t16, h1, h2⟩
  · exact laws_FnExactExchangePlayers.walk k A0_0 c0_0 l0_0 A0_1 c0_1 l0_1 t16 s0 s1 s2 m1 m2 w hr0_0 hc0_0 hr0_1 hc0_1 h1 h2 h3 h4 h5 h6 h7 h8 h9 h10 h11 h12 h13 h14 h15 h16 h17 h18
  · exact laws_FnExactExchangePlayers.small0 k A0_0 c0_0 l0_0 A0_1 c0_1 l0_1 t16 w hr0_0 hc0_0 hr0_1 hc0_1 h1 h2
end Go.Proofs.Ytjjbhdpjnjncbaa.Pr
end

section
/- The pure statement of the law FnExactExchangePlayers: the printed function answers true at every good input. -/
namespace Go.Proofs.Ytjjbhdpjnjncbaa.Say
open Go.Proofs.Ytjjbhdpjnjncbaa.Op Go.Proofs.Ytjjbhdpjnjncbaa.Pr
def FnExactExchangePlayers : Prop := ∀ (l0_0 : List (List Int)) (l0_1 : List (List Int)), GoodList (GoodList (GoodInt .i64)) l0_0 → GoodList (GoodList (GoodInt .i64)) l0_1 → ∃ k, laws_FnExactExchangePlayers.f k l0_0 l0_1 = some true
end Go.Proofs.Ytjjbhdpjnjncbaa.Say
end

section
/- Games: what IsGame tests, for the program and for the reference, at every input. -/
namespace Go.Proofs.Ytjjbhdpjnjncbaa.Gm
open Go.RowKit Go.Proofs.YtjjbhdpjnjncbaaW.PrintWords Go.Proofs.YtjjbhdpjnjncbaaW.PrintMore Go.Proofs.Ytjjbhdpjnjncbaa.Ma Go.Proofs.Ytjjbhdpjnjncbaa.Pr Go.Proofs.Ytjjbhdpjnjncbaa.La
set_option linter.unusedVariables false

theorem sin_eq (x a b : Int) : spec_l01In.f x a b = some (decide (a ≤ x ∧ x ≤ b)) := by
  unfold spec_l01In.f
  by_cases h : a ≤ x
  · rw [if_pos (by omega)]; simp [h]
  · rw [if_neg (by omega)]; simp [h]
theorem iin_eq (x a b : Int) : impl_within.f x a b = some (decide (a ≤ x ∧ x ≤ b)) := by
  unfold impl_within.f
  by_cases h : a ≤ x
  · rw [if_pos (by omega)]; simp [h]
  · rw [if_neg (by omega)]; simp [h]
theorem head_step {P : Nat → Prop} {i d : Nat} (h : i < d) : (∀ j, i ≤ j → j < d → P j) ↔ P i ∧ ∀ j, i + 1 ≤ j → j < d → P j :=
  ⟨fun f => ⟨f i (Nat.le_refl _) h, fun j h1 h2 => f j (by omega) h2⟩, fun ⟨a, f⟩ j h1 h2 => by
    by_cases e : i = j
    · subst e; exact a
    · exact f j (by omega) h2⟩
theorem no_iff {b : Bool} {p : Prop} (h : b = true ↔ p) (hp : ¬ p) : b = false := by
  cases b
  · rfl
  · exact absurd (h.1 rfl) hp

/-- The row of a table. -/
def rw_ (a : List (List Int)) (i : Nat) : List Int := a.getD i []
def ent (a : List (List Int)) (i j : Nat) : Int := (rw_ a i).getD j 0
theorem rw_eq (a : List (List Int)) (i : Nat) : rd_L1 a (i : Int) = rw_ a i := rdL a i
theorem rw_at {a : List (List Int)} {i : Nat} (h : i < a.length) : rw_ a i = a[i] := by simp [rw_, h]
def E20 (n : Int) : Prop := 1 ≤ n ∧ n ≤ 20
def RowOK (a b : List (List Int)) (l i : Nat) : Prop := (rw_ a i).length = l ∧ (rw_ b i).length = l ∧ ∀ j, 0 ≤ j → j < l → E20 (ent a i j) ∧ E20 (ent b i j)
structure GameOK (a b : List (List Int)) : Prop where
  k1 : 1 ≤ a.length
  k4 : a.length ≤ 4
  same : b.length = a.length
  l1 : 1 ≤ (rw_ a 0).length
  l4 : (rw_ a 0).length ≤ 4
  sum : a.length + (rw_ a 0).length ≤ 5
  rows : ∀ i, 0 ≤ i → i < a.length → RowOK a b (rw_ a 0).length i

section
variable {a b : List (List Int)} {l : Nat} (hk : a.length ≤ 4) (hl : l ≤ 4) (hs : b.length = a.length)
include hk hl hs
theorem spec_row (i : Nat) (hi : i < a.length) (e1 : (rw_ a i).length = l) (e2 : (rw_ b i).length = l)
    (next : ∀ t, (t = true ↔ ∀ u, i + 1 ≤ u → u < a.length → RowOK a b l u) → Ev (fun k => spec_l07Is.l0 k (a.length : Int) l ((i + 1 : Nat) : Int) a b) t) :
    ∀ m j, j + m = l → ∀ t, (t = true ↔ (∀ c, j ≤ c → c < l → E20 (ent a i c) ∧ E20 (ent b i c)) ∧ ∀ u, i + 1 ≤ u → u < a.length → RowOK a b l u) → Ev (fun k => spec_l07Is.l1 k (a.length : Int) l i j a b) t := by
  intro m
  induction m with
  | zero =>
    intro j hj t ht
    refine evstep (fun k => by rw [spec_l07Is.l1]) (evneg (by omega) ?_)
    rw [w64 (by omega) (by omega)]
    exact next t (ht.trans ⟨fun h => h.2, fun h => ⟨fun c h1 h2 => by omega, h⟩⟩)
  | succ m ih =>
    intro j hj t ht
    have hjl : j < l := by omega
    rw [head_step (P := fun c => E20 (ent a i c) ∧ E20 (ent b i c)) hjl, and_assoc, and_assoc] at ht
    refine evstep (fun k => by rw [spec_l07Is.l1]) (evpos (by omega) (evpos (by omega) (evpos (by omega) (evpos (by omega) ?_))))
    rw [rw_eq, rw_eq, rd_nat, rd_nat]
    refine evpos (by omega) (evsome (sin_eq _ _ _) ?_)
    by_cases c1 : E20 (ent a i j)
    · refine evpos (decide_eq_true (show 1 ≤ ent a i j ∧ ent a i j ≤ 20 from c1)) (evpos (by omega) (evpos (by omega) (evsome (sin_eq _ _ _) ?_)))
      by_cases c2 : E20 (ent b i j)
      · refine evpos (decide_eq_true (show 1 ≤ ent b i j ∧ ent b i j ≤ 20 from c2)) ?_
        rw [w64 (by omega) (by omega)]
        exact ih (j + 1) (by omega) t (ht.trans ⟨fun h => h.2.2, fun h => ⟨c1, c2, h⟩⟩)
      · refine evneg (fun h => c2 (of_decide_eq_true (p := 1 ≤ ent b i j ∧ ent b i j ≤ 20) h)) ?_
        rw [no_iff ht (fun h => c2 h.2.1)]
        exact evc rfl
    · refine evneg (fun h => c1 (of_decide_eq_true (p := 1 ≤ ent a i j ∧ ent a i j ≤ 20) h)) ?_
      rw [no_iff ht (fun h => c1 h.1)]
      exact evc rfl
theorem spec_rows : ∀ m i, i + m = a.length → ∀ t, (t = true ↔ ∀ u, i ≤ u → u < a.length → RowOK a b l u) → Ev (fun k => spec_l07Is.l0 k (a.length : Int) l i a b) t := by
  intro m
  induction m with
  | zero =>
    intro i hi t ht
    refine evstep (fun k => by rw [spec_l07Is.l0]) (evneg (by omega) ?_)
    rw [ht.2 (fun u h1 h2 => by omega)]
    exact evc rfl
  | succ m ih =>
    intro i hi t ht
    have hlt : i < a.length := by omega
    rw [head_step (P := fun u => RowOK a b l u) hlt] at ht
    refine evstep (fun k => by rw [spec_l07Is.l0]) (evpos (by omega) (evpos (by omega) (evpos (by omega) ?_)))
    rw [rw_eq, rw_eq]
    by_cases c1 : (rw_ a i).length = l
    · refine evpos (by omega) (evpos (by omega) (evstep (fun k => by rw [spec_l07Is.j3]) ?_))
      by_cases c2 : (rw_ b i).length = l
      · refine evneg (by simp [c2]) ?_
        exact spec_row hk hl hs i hlt c1 c2 (ih (i + 1) (by omega)) l 0 (by omega) t (ht.trans ⟨fun h => ⟨h.1.2.2, h.2⟩, fun h => ⟨⟨c1, c2, h.1⟩, h.2⟩⟩)
      · refine evpos (by simp; omega) ?_
        rw [no_iff ht (fun h => c2 h.1.2.1)]
        exact evc rfl
    · refine evneg (by omega) (evstep (fun k => by rw [spec_l07Is.j3]) (evpos rfl ?_))
      rw [no_iff ht (fun h => c1 h.1.1)]
      exact evc rfl
end
theorem spec_is (a b : List (List Int)) (ha : a.length ≤ 1048576) (hr : ∀ x ∈ a, x.length ≤ 1048576) (t : Bool) (ht : t = true ↔ GameOK a b) : Ev (fun k => spec_l07Is.f k a b) t := by
  unfold spec_l07Is.f
  by_cases c1 : (a.length : Int) < 1
  · refine evpos c1 (evstep (fun k => by rw [spec_l07Is.j0]) (evpos rfl ?_))
    rw [no_iff ht (fun h => by have := h.k1; omega)]
    exact evc rfl
  · refine evneg c1 ?_
    by_cases c2 : (a.length : Int) > 4
    · refine evpos c2 (evstep (fun k => by rw [spec_l07Is.j0]) (evpos rfl ?_))
      rw [no_iff ht (fun h => by have := h.k4; omega)]
      exact evc rfl
    · refine evneg c2 (evstep (fun k => by rw [spec_l07Is.j0]) ?_)
      by_cases c3 : b.length = a.length
      · refine evneg (by simp [c3]) (evpos (by omega) ?_)
        have e0 : rd_L1 a 0 = rw_ a 0 := rw_eq a 0
        have h0 : (rw_ a 0).length ≤ 1048576 := by rw [rw_at (by omega)]; exact hr _ (List.getElem_mem (by omega))
        rw [e0]
        by_cases c4 : ((rw_ a 0).length : Int) < 1
        · refine evpos c4 (evstep (fun k => by rw [spec_l07Is.j1]) (evpos rfl ?_))
          rw [no_iff ht (fun h => by have := h.l1; omega)]
          exact evc rfl
        · refine evneg c4 ?_
          by_cases c5 : ((rw_ a 0).length : Int) > 4
          · refine evpos c5 (evstep (fun k => by rw [spec_l07Is.j1]) (evpos rfl ?_))
            rw [no_iff ht (fun h => by have := h.l4; omega)]
            exact evc rfl
          · refine evneg c5 (evstep (fun k => by rw [spec_l07Is.j1]) ?_)
            rw [w64 (by omega) (by omega)]
            by_cases c6 : (a.length : Int) + ((rw_ a 0).length : Int) > 5
            · refine evpos (decide_eq_true c6) ?_
              rw [no_iff ht (fun h => by have := h.sum; omega)]
              exact evc rfl
            · refine evneg (by simpa using c6) ?_
              exact spec_rows (l := (rw_ a 0).length) (by omega) (by omega) c3 a.length 0 (by omega) t (ht.trans ⟨fun h => h.rows, fun h => ⟨by omega, by omega, c3, by omega, by omega, by omega, h⟩⟩)
      · refine evpos (by simp; omega) ?_
        rw [no_iff ht (fun h => c3 h.same)]
        exact evc rfl

theorem badE_iff (n : Int) : badE n = false ↔ E20 n := by unfold badE E20; simp
theorem any_false {α : Type} (p : α → Bool) (l : List α) : l.any p = false ↔ ∀ i (h : i < l.length), p l[i] = false := by
  rw [List.any_eq_false]
  constructor
  · intro h i hi
    have := h l[i] (List.getElem_mem hi)
    simpa using this
  · intro h x hx
    obtain ⟨i, hi, rfl⟩ := List.getElem_of_mem hx
    simp [h i hi]
theorem badR_iff (k : Nat) (row : List Int) : badR (k : Int) row = false ↔ row.length = k ∧ ∀ j, 0 ≤ j → j < k → E20 (row.getD j 0) := by
  unfold badR
  rw [Bool.or_eq_false_iff, any_false]
  constructor
  · rintro ⟨h1, h2⟩
    have e : row.length = k := by simp at h1; omega
    exact ⟨e, fun j _ hj => by have := (badE_iff _).1 (h2 j (by omega)); simpa [show j < row.length from by omega] using this⟩
  · rintro ⟨h1, h2⟩
    exact ⟨by simp [h1], fun i hi => (badE_iff _).2 (by have := h2 i (Nat.zero_le _) (by omega); simpa [hi] using this)⟩
theorem table_f (a : List (List Int)) (k l : Nat) : ∃ t, impl_isTable.f a k l = some t ∧ (t = true ↔ a.length = k ∧ ∀ i, 0 ≤ i → i < a.length → (rw_ a i).length = l ∧ ∀ j, 0 ≤ j → j < l → E20 (ent a i j)) := by
  refine ⟨_, rfl, ?_⟩
  rw [Bool.and_eq_true, Bool.not_eq_true', any_false]
  constructor
  · rintro ⟨h1, h2⟩
    refine ⟨by simp at h1; omega, fun i _ hi => ?_⟩
    have := (badR_iff l a[i]).1 (h2 i hi)
    rw [← rw_at hi] at this
    exact this
  · rintro ⟨h1, h2⟩
    refine ⟨by simp [h1], fun i hi => (badR_iff l a[i]).2 ?_⟩
    have := h2 i (Nat.zero_le _) hi
    rw [← rw_at hi]
    exact this
theorem impl_is (a b : List (List Int)) (ha : a.length ≤ 1048576) (hr : ∀ x ∈ a, x.length ≤ 1048576) (t : Bool) (ht : t = true ↔ GameOK a b) : impl_IsGame.f a b = some t := by
  unfold impl_IsGame.f
  rw [iin_eq, Option.bind_some]
  by_cases c1 : 1 ≤ (a.length : Int) ∧ (a.length : Int) ≤ 4
  · have e0 : rd_L1 a 0 = rw_ a 0 := rw_eq a 0
    have h0 : (rw_ a 0).length ≤ 1048576 := by rw [rw_at (by omega)]; exact hr _ (List.getElem_mem (by omega))
    rw [if_pos (decide_eq_true c1), if_pos (by omega), e0, iin_eq, Option.bind_some, w64 (by omega) (by omega)]
    by_cases c2 : 1 ≤ ((rw_ a 0).length : Int) ∧ ((rw_ a 0).length : Int) ≤ 4
    · rw [if_pos (decide_eq_true c2)]
      by_cases c3 : (a.length : Int) + ((rw_ a 0).length : Int) ≤ 5
      · rw [if_pos c3]
        obtain ⟨t1, h1, i1⟩ := table_f a a.length (rw_ a 0).length
        obtain ⟨t2, h2, i2⟩ := table_f b a.length (rw_ a 0).length
        rw [h1, Option.bind_some, h2]
        have key : GameOK a b ↔ t1 = true ∧ t2 = true := by
          rw [i1, i2]
          constructor
          · intro h
            exact ⟨⟨rfl, fun i z hi => ⟨(h.rows i z hi).1, fun j z2 hj => ((h.rows i z hi).2.2 j z2 hj).1⟩⟩, h.same, fun i z hi => ⟨(h.rows i z (by have := h.same; omega)).2.1, fun j z2 hj => ((h.rows i z (by have := h.same; omega)).2.2 j z2 hj).2⟩⟩
          · rintro ⟨⟨_, ha'⟩, hs, hb'⟩
            exact ⟨by omega, by omega, hs, by omega, by omega, by omega, fun i z hi => ⟨(ha' i z hi).1, (hb' i z (by omega)).1, fun j z2 hj => ⟨(ha' i z hi).2 j z2 hj, (hb' i z (by omega)).2 j z2 hj⟩⟩⟩
        rw [key] at ht
        cases t1
        · rw [no_iff ht (fun h => by cases h.1)]; rfl
        · cases t2
          · rw [no_iff ht (fun h => by cases h.2)]; rfl
          · rw [ht.2 ⟨rfl, rfl⟩]; rfl
      · rw [if_neg c3, no_iff ht (fun h => c3 (by have := h.sum; omega))]
    · rw [if_neg (by simpa using c2), no_iff ht (fun h => c2 (by have := h.l1; have := h.l4; omega))]
  · rw [if_neg (by simpa using c1), no_iff ht (fun h => c1 (by have := h.k1; have := h.k4; omega))]
end Go.Proofs.Ytjjbhdpjnjncbaa.Gm
end

section
/- Rows read as columns: the program's and the reference's rounds, at every table of the same width. -/
namespace Go.Proofs.Ytjjbhdpjnjncbaa.Gx
open Go.RowKit Go.Proofs.YtjjbhdpjnjncbaaW.PrintWords Go.Proofs.YtjjbhdpjnjncbaaW.PrintMore Go.Proofs.Ytjjbhdpjnjncbaa.Ma Go.Proofs.Ytjjbhdpjnjncbaa.Pr Go.Proofs.Ytjjbhdpjnjncbaa.La Go.Proofs.Ytjjbhdpjnjncbaa.Gm
set_option linter.unusedVariables false
/-- The first n entries of a column. -/
def col (m : List (List Int)) (j n : Nat) : List Int := (List.range n).map fun u => ent m u j
/-- The columns, of c's first ones one entry more. -/
def st (m : List (List Int)) (l i j : Nat) : List (List Int) := (List.range l).map fun c => col m c (if c < j then i + 1 else i)
def turn (m : List (List Int)) (l : Nat) : List (List Int) := (List.range l).map fun c => col m c m.length
theorem col_len (m : List (List Int)) (j n : Nat) : (col m j n).length = n := by simp [col]
theorem col_succ (m : List (List Int)) (j n : Nat) : col m j (n + 1) = col m j n ++ [ent m n j] := by simp [col, List.range_succ]
theorem st_len (m : List (List Int)) (l i j : Nat) : (st m l i j).length = l := by simp [st]
theorem st_at (m : List (List Int)) (l i j : Nat) (h : j < l) : rd_L1 (st m l i j) (j : Int) = col m j i := by
  simp [rd_L1, st, h]
theorem st_set (m : List (List Int)) (l i j : Nat) (h : j < l) : (st m l i j).set j (col m j i ++ [ent m i j]) = st m l i (j + 1) := by
  apply List.ext_getElem
  · simp [st]
  · intro c h1 h2
    rw [List.getElem_set]
    simp only [st, List.getElem_map, List.getElem_range]
    by_cases e : j = c
    · subst e
      rw [if_pos rfl, if_pos (by omega), col_succ]
    · rw [if_neg e]
      by_cases q : c < j
      · rw [if_pos q, if_pos (by omega)]
      · rw [if_neg q, if_neg (by omega)]
theorem st_next (m : List (List Int)) (l i : Nat) : st m l i l = st m l (i + 1) 0 := by
  apply List.ext_getElem
  · simp [st]
  · intro c h1 h2
    have : c < l := by simpa [st] using h1
    simp only [st, List.getElem_map, List.getElem_range]
    rw [if_pos this, if_neg (by omega)]
theorem st_zero (m : List (List Int)) (l : Nat) : st m l 0 0 = List.replicate l [] := by
  apply List.ext_getElem
  · simp [st]
  · intro c h1 h2
    simp [st, col]
theorem st_end (m : List (List Int)) (l : Nat) : st m l m.length 0 = turn m l := by
  apply List.ext_getElem
  · simp [st, turn]
  · intro c h1 h2
    simp only [st, turn, List.getElem_map, List.getElem_range]
    rw [if_neg (by omega)]
section
variable {m : List (List Int)} {l : Nat} (hk1 : 1 ≤ m.length) (hk : m.length ≤ 4) (hl : l ≤ 4) (hr : ∀ i, i < m.length → (rw_ m i).length = l)
include hk1 hk hl hr
theorem impl_row (i : Nat) (hi : i < m.length) (R : List (List Int)) (next : Ev (fun k => impl_turned.l0 k (st m l (i + 1) 0) m (m.length : Int) ((i + 1 : Nat) : Int)) R) :
    ∀ q j, j + q = l → Ev (fun k => impl_turned.l1 k (st m l i j) m (m.length : Int) i (rw_ m i) ((rw_ m i).length : Int) j) R := by
  have h1 := hr i hi
  intro q
  induction q with
  | zero =>
    intro j hj
    obtain rfl : j = l := by omega
    refine evstep (fun k => by rw [impl_turned.l1]) (evneg (by omega) ?_)
    rw [w64 (by omega) (by omega), st_next]
    exact next
  | succ q ih =>
    intro j hj
    refine evstep (fun k => by rw [impl_turned.l1]) ?_
    rw [st_at m l i j (by omega), rd_nat, Int.toNat_natCast]
    refine evpos (by omega) (evpos (by omega) (evpos (by omega) (evpos (by rw [st_len]; omega) (evpos (by rw [col_len]; omega) ?_))))
    rw [w64 (by omega) (by omega)]
    have e := st_set m l i j (by omega)
    rw [show (rw_ m i).getD j 0 = ent m i j from rfl, e]
    exact ih (j + 1) (by omega)
theorem impl_rows : ∀ q i, i + q = m.length → Ev (fun k => impl_turned.l0 k (st m l i 0) m (m.length : Int) i) (turn m l) := by
  intro q
  induction q with
  | zero =>
    intro i hi
    obtain rfl : i = m.length := by omega
    refine evstep (fun k => by rw [impl_turned.l0]) (evneg (by omega) (evc ?_))
    rw [st_end]
  | succ q ih =>
    intro i hi
    refine evstep (fun k => by rw [impl_turned.l0]) (evpos (by omega) (evpos (by omega) (evpos (by omega) ?_)))
    rw [rw_eq]
    exact impl_row hk1 hk hl hr i (by omega) _ (ih (i + 1) (by omega)) l 0 (by omega)
theorem impl_turn : Ev (fun k => impl_turned.f k m) (turn m l) := by
  unfold impl_turned.f
  have e0 : rd_L1 m 0 = rw_ m 0 := rw_eq m 0
  rw [e0, hr 0 (by omega)]
  refine evpos (by omega) (evpos (by omega) (evpos (by omega) ?_))
  have := impl_rows hk1 hk hl hr m.length 0 (by omega)
  rw [st_zero] at this
  exact this
theorem spec_col (j : Nat) (hj : j < l) (R : List (List Int)) (acc : List (List Int)) (ha : acc.length ≤ 100) (next : Ev (fun k => spec_l07Turn.l0 k m (acc ++ [col m j m.length]) ((j + 1 : Nat) : Int)) R) :
    ∀ q i, i + q = m.length → Ev (fun k => spec_l07Turn.l1 k m acc j (col m j i) i) R := by
  intro q
  induction q with
  | zero =>
    intro i hi
    obtain rfl : i = m.length := by omega
    refine evstep (fun k => by rw [spec_l07Turn.l1]) (evneg (by omega) (evpos (by omega) ?_))
    rw [w64 (by omega) (by omega)]
    exact next
  | succ q ih =>
    intro i hi
    have h1 := hr i (by omega)
    refine evstep (fun k => by rw [spec_l07Turn.l1]) ?_
    rw [rw_eq, rd_nat, show (rw_ m i).getD j 0 = ent m i j from rfl, ← col_succ]
    refine evpos (by omega) (evpos (by omega) (evpos (by omega) (evpos (by omega) (evpos (by rw [col_len]; omega) ?_))))
    rw [w64 (by omega) (by omega)]
    exact ih (i + 1) (by omega)
theorem spec_cols : ∀ q j, j + q = l → Ev (fun k => spec_l07Turn.l0 k m ((List.range j).map fun c => col m c m.length) j) (turn m l) := by
  have e0 : rd_L1 m 0 = rw_ m 0 := rw_eq m 0
  intro q
  induction q with
  | zero =>
    intro j hj
    obtain rfl : j = l := by omega
    refine evstep (fun k => by rw [spec_l07Turn.l0]) ?_
    rw [e0, hr 0 (by omega)]
    exact evpos (by omega) (evneg (by omega) (evc rfl))
  | succ q ih =>
    intro j hj
    refine evstep (fun k => by rw [spec_l07Turn.l0]) ?_
    rw [e0, hr 0 (by omega)]
    refine evpos (by omega) (evpos (by omega) ?_)
    have := ih (j + 1) (by omega)
    rw [List.range_succ, List.map_append] at this
    have h0 : col m j 0 = [] := rfl
    rw [← h0]
    exact spec_col hk1 hk hl hr j (by omega) _ _ (by simp; omega) this m.length 0 (by omega)
theorem spec_turn : Ev (fun k => spec_l07Turn.f k m) (turn m l) := spec_cols hk1 hk hl hr l 0 (by omega)
end
/-- Small: at most four rows of at most four. -/
def Sm (x : List (List Int)) : Prop := x.length ≤ 4 ∧ ∀ y ∈ x, y.length ≤ 4
theorem sm_turn (m : List (List Int)) (l : Nat) (hk : m.length ≤ 4) (hl : l ≤ 4) : Sm (turn m l) := by
  refine ⟨by simpa [turn] using hl, fun y hy => ?_⟩
  obtain ⟨c, _, rfl⟩ := List.mem_map.1 hy
  rw [col_len]; exact hk
theorem sm_lens : ∀ (x : List (List Int)), (∀ y ∈ x, y.length ≤ 4) → lens x ≤ 4 * x.length
  | [], _ => Nat.le_refl _
  | y :: x, h => by
    have h1 := h y List.mem_cons_self
    have h2 := sm_lens x (fun z hz => h z (List.mem_cons_of_mem _ hz))
    simp only [lens, List.length_cons]; omega
open Classical in
theorem both (a b : List (List Int)) (ha : a.length ≤ 1048576) (hr : ∀ x ∈ a, x.length ≤ 1048576) : ∃ R : List (List Int) × List (List Int) × Int, Ev (fun k => spec_ExchangePlayers.f k a b) R ∧ Ev (fun k => impl_ExchangePlayers.f k a b) R ∧ Sm R.1 ∧ Sm R.2.1 := by
  have hb : decide (GameOK a b) = true ↔ GameOK a b := by simp
  by_cases g : GameOK a b
  · have hk := g.k4; have hk1 := g.k1; have hl := g.l4; have hs := g.same
    have ra : ∀ i, i < a.length → (rw_ a i).length = (rw_ a 0).length := fun i hi => (g.rows i (Nat.zero_le _) hi).1
    have rb : ∀ i, i < b.length → (rw_ b i).length = (rw_ a 0).length := fun i hi => (g.rows i (Nat.zero_le _) (by omega)).2.1
    refine ⟨(turn b (rw_ a 0).length, turn a (rw_ a 0).length, 0), ?_, ?_, sm_turn _ _ (by omega) hl, sm_turn _ _ hk hl⟩
    · unfold spec_ExchangePlayers.f
      exact evbind (Gm.spec_is a b ha hr _ hb) (evpos (by simpa using g) (evbind (spec_turn (by omega) (by omega) hl rb) (evbind (spec_turn hk1 hk hl ra) (evc rfl))))
    · unfold impl_ExchangePlayers.f
      exact evsome (Gm.impl_is a b ha hr _ hb) (evpos (by simpa using g) (evbind (impl_turn (by omega) (by omega) hl rb) (evbind (impl_turn hk1 hk hl ra) (evc rfl))))
  · refine ⟨([], [], 1), ?_, ?_, ⟨by simp, fun y hy => by cases hy⟩, ⟨by simp, fun y hy => by cases hy⟩⟩
    · unfold spec_ExchangePlayers.f
      exact evbind (Gm.spec_is a b ha hr _ hb) (evneg (by simpa using g) (evc rfl))
    · unfold impl_ExchangePlayers.f
      exact evsome (Gm.impl_is a b ha hr _ hb) (evneg (by simpa using g) (evc rfl))
end Go.Proofs.Ytjjbhdpjnjncbaa.Gx
end

section
/- What the laws' marks do to rows of lists: marked rows are held. Conditions: as each theorem says. -/
namespace Go.Proofs.Ytjjbhdpjnjncbaa.La
open Go.RowKit Go.Proofs.YtjjbhdpjnjncbaaW.PrintWords Go.Proofs.YtjjbhdpjnjncbaaW.PrintMore Go.Proofs.Ytjjbhdpjnjncbaa.Ma Go.Proofs.Ytjjbhdpjnjncbaa.Pr Go.Proofs.Ytjjbhdpjnjncbaa.Hm
set_option linter.unusedVariables false
theorem marks_at : ∀ (l : List (List Int)) (n : Int) (i : Nat) (h : i < l.length), (marks l n).getD i [] = count (n + lens (l.take i)) l[i].length
  | x :: l, n, 0, _ => by simp [marks, lens]
  | x :: l, n, i + 1, h => by
    have := marks_at l (n + x.length) i (by simpa using h)
    simp only [marks, List.getD_cons_succ, this, List.take_succ_cons, lens, List.getElem_cons_succ]
    congr 1
    push_cast
    omega
theorem heldSS (l : List (List Int)) (n : Int) (h0 : 0 ≤ n) (h1 : n + lens l ≤ 1099511627776) (hl : l.length ≤ 1099511627776) : Ev (fun k => laws_heldInt64SS.f k (marks l n) n) (n + lens l) := by
  have key : ∀ m i, i + m = l.length → Ev (fun k => laws_heldInt64SS.l0 k (marks l n) (n + lens (l.take i)) (i : Nat)) (n + lens l) := by
    intro m
    induction m with
    | zero =>
      intro i hi
      refine evstep (fun k => by rw [laws_heldInt64SS.l0]) (evneg (by rw [marks_length]; omega) (evc ?_))
      rw [List.take_of_length_le (by omega)]
    | succ m ih =>
      intro i hi
      have hlt : i < l.length := by omega
      have e1 := lens_take_succ l i hlt
      have e2 := lens_take_le l (i + 1)
      refine evstep (fun k => by rw [laws_heldInt64SS.l0]) (evpos (by rw [marks_length]; omega) (evpos (by omega) ?_))
      rw [rdL, marks_at l n i hlt, w64 (by omega) (by omega)]
      refine evbind (heldI (n + lens (l.take i)) l[i].length (by omega) (by omega) (by omega)) (evneg (by omega) ?_)
      have := ih (i + 1) (by omega)
      rw [show n + (lens (l.take (i + 1)) : Int) = n + lens (l.take i) + l[i].length from by rw [e1]; push_cast; omega] at this
      exact this
  have := key l.length 0 (by omega)
  unfold laws_heldInt64SS.f
  simpa [lens] using this
end Go.Proofs.Ytjjbhdpjnjncbaa.La
end

section
/- The laws' helpers at a game. Conditions: as each theorem says. -/
namespace Go.Proofs.Ytjjbhdpjnjncbaa.La
open Go.RowKit Go.Proofs.YtjjbhdpjnjncbaaW.PrintWords Go.Proofs.YtjjbhdpjnjncbaaW.PrintMore Go.Proofs.Ytjjbhdpjnjncbaa.Ma Go.Proofs.Ytjjbhdpjnjncbaa.Pr Go.Proofs.Ytjjbhdpjnjncbaa.Op
set_option linter.unusedVariables false
theorem toG {a b : List (List Int)} (ha : Fit a) (hb : Fit b) : Ev (fun k => laws_toGame.f k a b) (a, b) := by
  unfold laws_toGame.f
  exact evbind (fit_to ha) (evbind (fit_to hb) (evc rfl))
theorem eqG {a b : List (List Int)} (ha : Fit a) (hb : Fit b) : Ev (fun k => laws_eqGame.f k a b a b) true := by
  unfold laws_eqGame.f
  exact evbind (fit_eq ha) (evpos rfl (evbind (fit_eq hb) (evpos rfl (evc rfl))))
theorem szG {a b : List (List Int)} (ga : GoodList (GoodList (GoodInt .i64)) a) (gb : GoodList (GoodList (GoodInt .i64)) b) :
    ∃ t : Int, Ev (fun k => laws_szGame.f k a b 1048576) t ∧ (0 ≤ t → Fit a ∧ Fit b) := by
  have h1 := szSS a ga (n := 1048576) (by decide) (by decide)
  by_cases c : (1048576 : Int) < (tot a : Int)
  · rw [if_pos c] at h1
    exact ⟨-1, by unfold laws_szGame.f; exact evbind h1 (evpos (by decide) (evc rfl)), fun h => by omega⟩
  · rw [if_neg c] at h1
    have h2 := szSS b gb (n := 1048576 - (tot a : Int)) (by omega) (by omega)
    by_cases c2 : (1048576 : Int) - (tot a : Int) < (tot b : Int)
    · rw [if_pos c2] at h2
      exact ⟨-1, by unfold laws_szGame.f; exact evbind h1 (evneg (by omega) (evbind h2 (evpos (by decide) (evc rfl)))), fun h => by omega⟩
    · rw [if_neg c2] at h2
      exact ⟨_, by unfold laws_szGame.f; exact evbind h1 (evneg (by omega) (evbind h2 (evneg (by omega) (evc rfl)))), fun _ => ⟨fit_of (by omega), fit_of (by omega)⟩⟩
/-- A law over a game: at one that is too large it answers at once. -/
theorem lawG {a b : List (List Int)} (ga : GoodList (GoodList (GoodInt .i64)) a) (gb : GoodList (GoodList (GoodInt .i64)) b) {g : Nat → Int → Option Bool} (h : ∀ t, Fit a → Fit b → Ev (fun k => g k t) true) :
    Ev (fun k => (laws_szGame.f k a b 1048576).bind fun t => if t < 0 then some true else g k t) true := by
  obtain ⟨t, ht, hf⟩ := szG ga gb
  refine evbind ht ?_
  by_cases c : t < 0
  · exact evpos c (evc rfl)
  · exact evneg c (h t (hf (by omega)).1 (hf (by omega)).2)
end Go.Proofs.Ytjjbhdpjnjncbaa.La
end

section
/- The laws' helpers at a game: sizes and marks. Conditions: as each theorem says. -/
namespace Go.Proofs.Ytjjbhdpjnjncbaa.La
open Go.RowKit Go.Proofs.YtjjbhdpjnjncbaaW.PrintWords Go.Proofs.YtjjbhdpjnjncbaaW.PrintMore Go.Proofs.Ytjjbhdpjnjncbaa.Ma Go.Proofs.Ytjjbhdpjnjncbaa.Pr Go.Proofs.Ytjjbhdpjnjncbaa.Hm Go.Proofs.Ytjjbhdpjnjncbaa.Op
set_option linter.unusedVariables false
theorem fit_lens {l : List (List Int)} (h : tot l ≤ 1048576) : lens l ≤ 1048576 := by unfold tot at h; omega
theorem szG2 {a b : List (List Int)} (ga : GoodList (GoodList (GoodInt .i64)) a) (gb : GoodList (GoodList (GoodInt .i64)) b) :
    ∃ t : Int, Ev (fun k => laws_szGame.f k a b 1048576) t ∧ (0 ≤ t → tot a ≤ 1048576 ∧ tot b ≤ 1048576) := by
  have h1 := szSS a ga (n := 1048576) (by decide) (by decide)
  by_cases c : (1048576 : Int) < (tot a : Int)
  · rw [if_pos c] at h1
    exact ⟨-1, by unfold laws_szGame.f; exact evbind h1 (evpos (by decide) (evc rfl)), fun h => by omega⟩
  · rw [if_neg c] at h1
    have h2 := szSS b gb (n := 1048576 - (tot a : Int)) (by omega) (by omega)
    by_cases c2 : (1048576 : Int) - (tot a : Int) < (tot b : Int)
    · rw [if_pos c2] at h2
      exact ⟨-1, by unfold laws_szGame.f; exact evbind h1 (evneg (by omega) (evbind h2 (evpos (by decide) (evc rfl)))), fun h => by omega⟩
    · rw [if_neg c2] at h2
      exact ⟨_, by unfold laws_szGame.f; exact evbind h1 (evneg (by omega) (evbind h2 (evneg (by omega) (evc rfl)))), fun _ => ⟨by omega, by omega⟩⟩
theorem heldG (a b : List (List Int)) (n : Int) (h0 : 0 ≤ n) (h1 : n + lens a + lens b ≤ 1099511627776) (ha : a.length ≤ 1099511627776) (hb : b.length ≤ 1099511627776) : Ev (fun k => laws_heldGame.f k (marks a n) (marks b (n + lens a)) n) (n + lens a + lens b) := by
  unfold laws_heldGame.f
  exact evbind (heldSS a n h0 (by omega) ha) (evneg (by omega) (evbind (heldSS b (n + lens a) (by omega) (by omega) hb) (evneg (by omega) (evc rfl))))
end Go.Proofs.Ytjjbhdpjnjncbaa.La
end

section
/- ExchangePlayers of the program answers as that of the reference, at every game. -/
namespace Go.Proofs.Ytjjbhdpjnjncbaa.Pure
open Go.RowKit Go.Proofs.YtjjbhdpjnjncbaaW.PrintWords Go.Proofs.YtjjbhdpjnjncbaaW.PrintMore Go.Proofs.Ytjjbhdpjnjncbaa.Ma Go.Proofs.Ytjjbhdpjnjncbaa.Pr Go.Proofs.Ytjjbhdpjnjncbaa.La Go.Proofs.Ytjjbhdpjnjncbaa.Hm Go.Proofs.Ytjjbhdpjnjncbaa.Op
theorem FnExactExchangePlayers : Say.FnExactExchangePlayers := by
  intro a b ga gb
  obtain ⟨t, ⟨k0, ht⟩, hf⟩ := szG2 ga gb
  by_cases c : t < 0
  · refine ⟨k0, ?_⟩
    unfold laws_FnExactExchangePlayers.f
    rw [if_pos]
    exact .inr ⟨t, ht _ (Nat.le_refl _), c⟩
  · obtain ⟨ta, tb⟩ := hf (by omega)
    have fa := fit_of ta; have fb := fit_of tb; have la := fit_lens ta; have lb := fit_lens tb; have na := fa.len; have nb := fb.len
    obtain ⟨R, ⟨k1, e1⟩, ⟨k2, e2⟩, s1, s2⟩ := Gx.both a b fa.len fa.row
    have l1 := Gx.sm_lens R.1 s1.2
    have l2 := Gx.sm_lens R.2.1 s2.2
    have n1 := s1.1; have n2 := s2.1
    have f1 : Fit R.1 := ⟨by omega, fun x hx => by have := s1.2 x hx; omega⟩
    have f2 : Fit R.2.1 := ⟨by omega, fun x hx => by have := s2.2 x hx; omega⟩
    obtain ⟨k3, e3⟩ := fit_to fa
    obtain ⟨k4, e4⟩ := fit_to fb
    obtain ⟨k5, e5⟩ := eqG f1 f2
    obtain ⟨k6, e6⟩ := eqG fa fb
    obtain ⟨k7, e7⟩ := heldG R.1 R.2.1 1 (by decide) (by omega) (by omega) (by omega)
    refine ⟨k0 + k1 + k2 + k3 + k4 + k5 + k6 + k7, ?_⟩
    unfold laws_FnExactExchangePlayers.f
    rw [if_pos]
    exact .inl ⟨t, R.1, R.2.1, R.2.2, _, _, ht _ (by omega), c, ⟨e3 _ (by omega), e4 _ (by omega)⟩, e1 _ (by omega), e2 _ (by omega), e5 _ (by omega), e6 _ (by omega), rfl, by omega, by omega, by omega, by omega, rfl, by omega, by omega, by omega, by omega, e7 _ (by omega)⟩
end Go.Proofs.Ytjjbhdpjnjncbaa.Pure
end

section
/- The law FnExactExchangePlayers, for every input: the program answers true and leaves its arguments as they were. Conditions: none beyond the row's own. -/
namespace Go.Proofs.Ytjjbhdpjnjncbaa.fnExactExchangePlayers
open Go.ChangeShapes Go.WideShapes Go.ChangeAt Go.RowKit Go.Proofs.Ytjjbhdpjnjncbaa.Op Go.Proofs.YtjjbhdpjnjncbaaW.PrintWords
set_option linter.unusedVariables false
theorem own : ownKnob Try.prog.godebug = none := by kernel_rfl
theorem laidOut : laidOutB Try.prog = true := by kernel_rfl
set_option maxRecDepth 100000 in
theorem lifted (os : Os) (started : os.Started) (H : Type) (enc : TypeId × Value → H) :
    ReturnsInHanded {} Try.checked os 3 .any (Rows.fnExactExchangePlayersSpec.pre6 enc Try.prog Try.f3 Rows.fnExactExchangePlayersRow.domain false) (Rows.fnExactExchangePlayersSpec.post enc Try.prog Try.f3 false true false false) := by
  refine returnsInHanded_of_change_sized (C := Try.checked) own started (by kernel_rfl) Try.func3
    (ChangeSpec.witness6 (enc := enc) (C := Try.checked) false ⟨#[], #[.agg #[.slice none 0 0, .slice none 0 0]], []⟩ 8 (by kernel_rfl) (by kernel_rfl) (by kernel_rfl) (by kernel_rfl)) ?_
  intro W base args ds gs before hval0 hW hcnd hsz0 _
  have hval : ∀ (j : Nat) t v, Try.f3.params[j]? = some t → args[j]? = some v → Value.okWide Try.prog W .any base t v := hval0
  have hW' := hW
  obtain ⟨p, q, hA0, hV, rfl, hfz, hnd⟩ := hW
  have hA : DataW.TrodAll enc Try.prog W 0 (fun _ => true) true Try.f3.params.toList args.toList ds p := hA0
  rw [Try.params3] at hA hval
  obtain ⟨v0, vs0, d0, ds0, p0, q0, hargs, rfl, rfl, h0, r0⟩ := trodAll_cons hA
  obtain ⟨rfl, rfl, rfl⟩ := trodAll_nil r0
  obtain rfl : args = #[v0] := by cases args; simp_all
  obtain ⟨rfl, rfl⟩ := trodVars_none hV
  have k0 := h0
  have lt0 := trod_blocks k0
  obtain ⟨⟨x0_0, x0_1⟩, cs0, rfl, hk0, g0⟩ := arg_struct Try.underlying24 (opens_struct2 Try.underlying24 ⟨by kernel_rfl, by kernel_rfl⟩ ⟨by kernel_rfl, by kernel_rfl⟩ (by kernel_rfl) (opens_slice Try.underlying22 (by kernel_rfl) (opens_slice Try.underlying33 (by kernel_rfl) (opens_int Try.underlying2))) (opens_slice Try.underlying22 (by kernel_rfl) (opens_slice Try.underlying33 (by kernel_rfl) (opens_int Try.underlying2))) id (Kd.pair (Kd.slice 33 (Kd.slice 2 (Kd.int .i64))) (Kd.slice 33 (Kd.slice 2 (Kd.int .i64)))) (fun _ _ _ h => h) (fun x => (GoodList (GoodList (GoodInt .i64))) x.1 ∧ (GoodList (GoodList (GoodInt .i64))) x.2) (fun _ h0 h1 => ⟨h0, h1⟩)) (hval 0 24 v0 rfl rfl) h0
  obtain ⟨A0_0, c0_0, A0_1, c0_1, rfl, q0_0, r0_0, q0_1, r0_1⟩ := cells_slice_slice hk0
  obtain ⟨k, h⟩ := Pure.FnExactExchangePlayers x0_0 x0_1 g0.1 g0.2
  clear hA0 hval0 hsz0
  refine (Pr.laws_FnExactExchangePlayers.calls k A0_0 c0_0 x0_0 A0_1 c0_1 x0_1 true W r0_0 q0_0 r0_1 q0_1 h).mono ?_
  rintro e W' ⟨rfl, bel0⟩
  have bel : Below W.heap.size W W' := by first | exact bel0 | exact bel0.below
  exact ⟨_, rfl, _, _, _, [], _, [], hW', trodAll_mk1 (shut_bool Try.underlying4 _), (trodAll_cons_mk (Below.trod laidOut (by kernel_rfl) (of_decide_eq_true (by kernel_rfl)) k0 bel lt0) trodAll_mk0), rfl, bel.frame _, fun h => by cases h⟩
theorem over : Rows.fnExactExchangePlayersRow.holds Try.pinned (OpenSpec.ofChange Rows.fnExactExchangePlayersSpec) :=
  OpenClaim.holds_of_wide 3 Try.f3 rfl rfl rfl rfl rfl rfl rfl ⟨rfl, rfl, rfl, rfl, rfl⟩ rfl rfl rfl rfl rfl (by kernel_rfl) Try.func3 (by kernel_rfl)
    (of_decide_eq_true (by kernel_rfl)) (by unfold Func.isWrapper; first | (rw [if_pos (by decide +kernel)]; kernel_rfl) | (rw [if_neg (by decide +kernel)]; exact ⟨rfl, rfl⟩))
    (fun os started H enc _ => lifted os started H enc)
theorem proved : Rows.FnExactExchangePlayersSaid := over
#print axioms proved
end Go.Proofs.Ytjjbhdpjnjncbaa.fnExactExchangePlayers
namespace Go.Proofs.Ytjjbhdpjnjncbaa
/-- The row, under a short name, for the claim. -/
theorem fnExactExchangePlayers_holds : Rows.FnExactExchangePlayersSaid := fnExactExchangePlayers.proved
end Go.Proofs.Ytjjbhdpjnjncbaa
end
