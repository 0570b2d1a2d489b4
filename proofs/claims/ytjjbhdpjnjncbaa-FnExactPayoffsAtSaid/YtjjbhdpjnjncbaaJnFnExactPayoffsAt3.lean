/- Texts of one claim (the words of the kit's print that the claim uses, printed functions, and this session's own texts), joined in the order of their imports by this session's own program (merge.py). -/
import Derived.Test.YtjjbhdpjnjncbaaJnFnExactPayoffsAt0
import Derived.Test.YtjjbhdpjnjncbaaJnFnExactPayoffsAt1
import Derived.Test.YtjjbhdpjnjncbaaJnFnExactPayoffsAt2
set_option linter.unusedVariables false
set_option linter.unusedSimpArgs false
set_option maxHeartbeats 8000000
set_option maxRecDepth 100000
section
namespace Go.Proofs.Ytjjbhdpjnjncbaa.Pr
open Go.RowKit Go.Proofs.YtjjbhdpjnjncbaaW.PrintWords Go.Proofs.YtjjbhdpjnjncbaaW.PrintLast Go.Proofs.YtjjbhdpjnjncbaaW.PrintMore Go.Proofs.Ytjjbhdpjnjncbaa.La Go.Proofs.Ytjjbhdpjnjncbaa.Hm Go.Proofs.Ytjjbhdpjnjncbaa.Lw
theorem impl_PayoffsAt.way0 (k : Nat) (A0_0 : Option Addr) (c0_0 : Nat) (l0_0 : List (List Int)) (A0_1 : Option Addr) (c0_1 : Nat) (l0_1 : List (List Int)) (A1 : Option Addr) (c1 : Nat) (l1 : List (S65)) (A2 : Option Addr) (c2 : Nat) (l2 : List (S65))  (w : World) (hr0_0 : Kd.C (Kd.slice 2 (Kd.int .i64)) w A0_0 l0_0.length l0_0) (hc0_0 : l0_0.length ≤ c0_0) (hr0_1 : Kd.C (Kd.slice 2 (Kd.int .i64)) w A0_1 l0_1.length l0_1) (hc0_1 : l0_1.length ≤ c0_1) (hr1 : Kd.C k65 w A1 l1.length l1) (hc1 : l1.length ≤ c1) (hr2 : Kd.C k65 w A2 l2.length l2) (hc2 : l2.length ≤ c2) (h1 : impl_IsGame.f l0_0 l0_1 = some false) :
  Calls Try.prog 47 #[.agg #[.slice A0_0 l0_0.length c0_0, .slice A0_1 l0_1.length c0_1], .slice A1 l1.length c1, .slice A2 l2.length c2] w fun e w' => e = .returned (.tuple #[.agg #[.int .i64 0, .int .i64 0], .agg #[.int .i64 0, .int .i64 0], .int .i64 1]) ∧ Below w.heap.size w w' := by
 have HR0_0 := Aside0.mk hr0_0
 have HC0_0 := Aside0.mk hc0_0
 clear hr0_0 hc0_0
 have HR0_1 := Aside0.mk hr0_1
 have HC0_1 := Aside0.mk hc0_1
 clear hr0_1 hc0_1
 have HR1 := Aside0.mk hr1
 have HC1 := Aside0.mk hc1
 clear hr1 hc1
 have HR2 := Aside0.mk hr2
 have HC2 := Aside0.mk hc2
 clear hr2 hc2
 have HB := Aside0.mk (Below.refl w.heap.size w)
 have H1' := Aside0.mk h1
 clear h1
 go_enter Try.func47, Try.ntmps47
 go_wp2_with (first | ((with_reducible refine gate_dst (N := 3) rfl ?_); refine box_event ?hg (N := 3) ?hd (cs := #[.slice A0_0 l0_0.length c0_0, .slice A0_1 l0_1.length c0_1]) (t := 26) ?hr ?_; (case hd => rfl); (case hg => rfl); (case hr => first | (go_simp; done) | (go_simp; rfl)); intro g3 hg w1 hbox hb; have Gg3 : Aside0 (g3 = w.heap.size) := ⟨hg⟩; have Kg3 := Aside0.mk (blk_lt hbox); clear hg; have n_HB := Aside0.mk (below_step HB.out hb); have NN1 : Aside0 (w.heap.size ≤ w1.heap.size) := ⟨hb.size⟩; clear HB; have HB := n_HB; clear n_HB; have Bg3 := Aside0.mk hbox; clear hb hbox) | ((with_reducible refine gate_dst (N := 6) rfl ?_); refine box_event ?hg (N := 6) ?hd (cs := #[.int .i64 0, .int .i64 0]) (t := 65) ?hr ?_; (case hd => rfl); (case hg => rfl); (case hr => first | (go_simp; done) | (go_simp; rfl)); intro g6 hg w2 hbox hb; have Gg6 : Aside0 (g6 = w1.heap.size) := ⟨hg⟩; have Kg6 := Aside0.mk (blk_lt hbox); clear hg; have n_Bg3 := Aside0.mk (blk_below Bg3.out hb); have n_HB := Aside0.mk (below_step HB.out hb); have NN2 : Aside0 (w1.heap.size ≤ w2.heap.size) := ⟨hb.size⟩; clear Bg3 HB; have Bg3 := n_Bg3; have HB := n_HB; clear n_Bg3 n_HB; have Bg6 := Aside0.mk hbox; clear hb hbox) | ((with_reducible refine gate_dst (N := 7) rfl ?_); refine box_event ?hg (N := 7) ?hd (cs := #[.int .i64 0, .int .i64 0]) (t := 65) ?hr ?_; (case hd => rfl); (case hg => rfl); (case hr => first | (go_simp; done) | (go_simp; rfl)); intro g7 hg w3 hbox hb; have Gg7 : Aside0 (g7 = w2.heap.size) := ⟨hg⟩; have Kg7 := Aside0.mk (blk_lt hbox); clear hg; have n_Bg3 := Aside0.mk (blk_below Bg3.out hb); have n_Bg6 := Aside0.mk (blk_below Bg6.out hb); have n_HB := Aside0.mk (below_step HB.out hb); have NN3 : Aside0 (w2.heap.size ≤ w3.heap.size) := ⟨hb.size⟩; clear Bg3 Bg6 HB; have Bg3 := n_Bg3; have Bg6 := n_Bg6; have HB := n_HB; clear n_Bg3 n_Bg6 n_HB; have Bg7 := Aside0.mk hbox; clear hb hbox; have hc3_0 : w3.cell? ⟨g3, 0, none⟩ = some (.slice A0_0 l0_0.length c0_0) := (blk_cell Bg3.out 0).trans rfl; have hf3_0 := blk_frozen Bg3.out 0; have hc3_1 : w3.cell? ⟨g3, 1, none⟩ = some (.slice A0_1 l0_1.length c0_1) := (blk_cell Bg3.out 1).trans rfl; have hf3_1 := blk_frozen Bg3.out 1) | ((with_reducible refine gate_callee (f := 70) rfl ?_); refine goesL_ (some 21) rfl rfl Try.func70 (by kernel_rfl) rfl #[.agg #[.slice A0_0 l0_0.length c0_0, .slice A0_1 l0_1.length c0_1]] rfl (by (try simp only [List.map_toArray, List.map_cons, List.map_nil]); first | done | rfl) ?_; refine (impl_IsGame.calls _ _ l0_0 _ _ l0_1 false _ ?s1 ?s2 ?s3 ?s4 H1'.out).mono ?_; (case s1 => exact Kd.C_below HR0_0.out HB.out); (case s2 => exact HC0_0.out); (case s3 => exact Kd.C_below HR0_1.out HB.out); (case s4 => exact HC0_1.out); rintro e w4 ⟨rfl, hb⟩; refine ⟨_, rfl, ?_⟩; have n_Bg3 := Aside0.mk (blk_below Bg3.out hb); have n_Bg6 := Aside0.mk (blk_below Bg6.out hb); have n_Bg7 := Aside0.mk (blk_below Bg7.out hb); have n_HB := Aside0.mk (below_step HB.out hb); have NN4 : Aside0 (w3.heap.size ≤ w4.heap.size) := ⟨hb.size⟩; clear hc3_0 hf3_0; clear hc3_1 hf3_1; clear Bg3 Bg6 Bg7 HB; have Bg3 := n_Bg3; have Bg6 := n_Bg6; have Bg7 := n_Bg7; have HB := n_HB; clear n_Bg3 n_Bg6 n_Bg7 n_HB; clear hb; have hc6_0 : w4.cell? ⟨g6, 0, none⟩ = some (.int .i64 0) := (blk_cell Bg6.out 0).trans rfl; have hf6_0 := blk_frozen Bg6.out 0; have hc6_1 : w4.cell? ⟨g6, 1, none⟩ = some (.int .i64 0) := (blk_cell Bg6.out 1).trans rfl; have hf6_1 := blk_frozen Bg6.out 1) | ((with_reducible refine gate_store (t := 65) (p := 6) rfl ?_); refine store_event (t := 65) (p := 6) (v := ?vo_w5) (w1 := ((w4.setCell ⟨g6, 0, none⟩ (.int .i64 0)).setCell ⟨g6, 1, none⟩ (.int .i64 0))) ?hg ?ho ?hn ?hr ?_; (case ho => rfl); (case hg => rfl); (case hn => rfl); (case hr => first | (go_simp; done) | (go_simp; rfl)); intro w5 hw; have hge : w.heap.size ≤ g6 := (by have := NN1.out; have := Gg3.out; have := Kg3.out; have := NN2.out; have := Gg6.out; have := Kg6.out; have := NN3.out; have := Gg7.out; have := Kg7.out; have := NN4.out; have := HB.out.size; omega); have hF : Frm w4 w5 g6 (g6 + 1) := (by rw [hw]; exact (Frm.trans (Frm.set _ _ _ _) (Frm.set _ _ _ _))); have nb := Aside0.mk (show w5.heap[g6]? = some (.cells #[.int .i64 0, .int .i64 0] 65 (0, 0)) from (by rw [hw]; exact (blk_put (blk_put Bg6.out 0 _ rfl) 1 _ rfl))); have n_Bg3 := Aside0.mk ((hF.same g3 (blk_lt Bg3.out) (by have := NN1.out; have := Gg3.out; have := Kg3.out; have := NN2.out; have := Gg6.out; have := Kg6.out; have := NN3.out; have := Gg7.out; have := Kg7.out; have := NN4.out; omega)).trans Bg3.out); have n_Bg7 := Aside0.mk ((hF.same g7 (blk_lt Bg7.out) (by have := NN1.out; have := Gg3.out; have := Kg3.out; have := NN2.out; have := Gg6.out; have := Kg6.out; have := NN3.out; have := Gg7.out; have := Kg7.out; have := NN4.out; omega)).trans Bg7.out); have n_HB := Aside0.mk ((by rw [hw]; exact (below_set (below_set HB.out hge) hge) : Below w.heap.size w w5)); have NN5 : Aside0 (w4.heap.size ≤ w5.heap.size) := ⟨hF.size⟩; clear hc6_0 hf6_0; clear hc6_1 hf6_1; clear Bg3 Bg7 HB; have Bg3 := n_Bg3; have Bg7 := n_Bg7; have HB := n_HB; clear n_Bg3 n_Bg7 n_HB; clear Bg6; have Bg6 := nb; clear nb hF hge hw; have hc7_0 : w5.cell? ⟨g7, 0, none⟩ = some (.int .i64 0) := (blk_cell Bg7.out 0).trans rfl; have hf7_0 := blk_frozen Bg7.out 0; have hc7_1 : w5.cell? ⟨g7, 1, none⟩ = some (.int .i64 0) := (blk_cell Bg7.out 1).trans rfl; have hf7_1 := blk_frozen Bg7.out 1) | ((with_reducible refine gate_store (t := 65) (p := 7) rfl ?_); refine store_event (t := 65) (p := 7) (v := ?vo_w6) (w1 := ((w5.setCell ⟨g7, 0, none⟩ (.int .i64 0)).setCell ⟨g7, 1, none⟩ (.int .i64 0))) ?hg ?ho ?hn ?hr ?_; (case ho => rfl); (case hg => rfl); (case hn => rfl); (case hr => first | (go_simp; done) | (go_simp; rfl)); intro w6 hw; have hge : w.heap.size ≤ g7 := (by have := NN1.out; have := Gg3.out; have := Kg3.out; have := NN2.out; have := Gg6.out; have := Kg6.out; have := NN3.out; have := Gg7.out; have := Kg7.out; have := NN4.out; have := NN5.out; have := HB.out.size; omega); have hF : Frm w5 w6 g7 (g7 + 1) := (by rw [hw]; exact (Frm.trans (Frm.set _ _ _ _) (Frm.set _ _ _ _))); have nb := Aside0.mk (show w6.heap[g7]? = some (.cells #[.int .i64 0, .int .i64 0] 65 (0, 0)) from (by rw [hw]; exact (blk_put (blk_put Bg7.out 0 _ rfl) 1 _ rfl))); have n_Bg3 := Aside0.mk ((hF.same g3 (blk_lt Bg3.out) (by have := NN1.out; have := Gg3.out; have := Kg3.out; have := NN2.out; have := Gg6.out; have := Kg6.out; have := NN3.out; have := Gg7.out; have := Kg7.out; have := NN4.out; have := NN5.out; omega)).trans Bg3.out); have n_Bg6 := Aside0.mk ((hF.same g6 (blk_lt Bg6.out) (by have := NN1.out; have := Gg3.out; have := Kg3.out; have := NN2.out; have := Gg6.out; have := Kg6.out; have := NN3.out; have := Gg7.out; have := Kg7.out; have := NN4.out; have := NN5.out; omega)).trans Bg6.out); have n_HB := Aside0.mk ((by rw [hw]; exact (below_set (below_set HB.out hge) hge) : Below w.heap.size w w6)); have NN6 : Aside0 (w5.heap.size ≤ w6.heap.size) := ⟨hF.size⟩; clear hc7_0 hf7_0; clear hc7_1 hf7_1; clear Bg3 Bg6 HB; have Bg3 := n_Bg3; have Bg6 := n_Bg6; have HB := n_HB; clear n_Bg3 n_Bg6 n_HB; clear Bg7; have Bg7 := nb; clear nb hF hge hw))
 refine bodyPost_ret (results_list (rs := [.cell 6 65, .cell 7 65, .tmp 8]) rfl (by simp) (.cell g6 65 #[.int .i64 0, .int .i64 0] (0, 0) _ rfl Bg6.out Try.underlying65 rfl (by kernel_rfl) (.cell g7 65 #[.int .i64 0, .int .i64 0] (0, 0) _ rfl Bg7.out Try.underlying65 rfl (by kernel_rfl) (.tmp .nil)))) rfl ?_
 exact ⟨rfl, HB.out⟩
theorem impl_PayoffsAt.way1 (k : Nat) (A0_0 : Option Addr) (c0_0 : Nat) (l0_0 : List (List Int)) (A0_1 : Option Addr) (c0_1 : Nat) (l0_1 : List (List Int)) (A1 : Option Addr) (c1 : Nat) (l1 : List (S65)) (A2 : Option Addr) (c2 : Nat) (l2 : List (S65)) (x27_0 : Int) (x27_1 : Int) (x33_0 : List Int) (x33_1 : Int) (x40_0 : List Int) (x40_1 : Int) (b40 : Bool) (w : World) (hr0_0 : Kd.C (Kd.slice 2 (Kd.int .i64)) w A0_0 l0_0.length l0_0) (hc0_0 : l0_0.length ≤ c0_0) (hr0_1 : Kd.C (Kd.slice 2 (Kd.int .i64)) w A0_1 l0_1.length l0_1) (hc0_1 : l0_1.length ≤ c0_1) (hr1 : Kd.C k65 w A1 l1.length l1) (hc1 : l1.length ≤ c1) (hr2 : Kd.C k65 w A2 l2.length l2) (hc2 : l2.length ≤ c2) (h1 : impl_IsGame.f l0_0 l0_1 = some true) (h2 : impl_Game_sizes.f l0_0 l0_1 = some (x27_0, x27_1)) (h3 : impl_mix.f k l1 x27_0 = some (x33_0, x33_1, false)) (h4 : impl_mix.f k l2 x27_1 = some (x40_0, x40_1, b40)) :
  Calls Try.prog 47 #[.agg #[.slice A0_0 l0_0.length c0_0, .slice A0_1 l0_1.length c0_1], .slice A1 l1.length c1, .slice A2 l2.length c2] w fun e w' => e = .returned (.tuple #[.agg #[.int .i64 0, .int .i64 0], .agg #[.int .i64 0, .int .i64 0], .int .i64 2]) ∧ Below w.heap.size w w' := by
 have HR0_0 := Aside0.mk hr0_0
 have HC0_0 := Aside0.mk hc0_0
 clear hr0_0 hc0_0
 have HR0_1 := Aside0.mk hr0_1
 have HC0_1 := Aside0.mk hc0_1
 clear hr0_1 hc0_1
 have HR1 := Aside0.mk hr1
 have HC1 := Aside0.mk hc1
 clear hr1 hc1
 have HR2 := Aside0.mk hr2
 have HC2 := Aside0.mk hc2
 clear hr2 hc2
 have HB := Aside0.mk (Below.refl w.heap.size w)
 have H1' := Aside0.mk h1
 clear h1
 have H2' := Aside0.mk h2
 clear h2
 have H3' := Aside0.mk h3
 clear h3
 have H4' := Aside0.mk h4
 clear h4
 go_enter Try.func47, Try.ntmps47
 go_wp2_with (first | ((with_reducible refine gate_dst (N := 3) rfl ?_); refine box_event ?hg (N := 3) ?hd (cs := #[.slice A0_0 l0_0.length c0_0, .slice A0_1 l0_1.length c0_1]) (t := 26) ?hr ?_; (case hd => rfl); (case hg => rfl); (case hr => first | (go_simp; done) | (go_simp; rfl)); intro g3 hg w1 hbox hb; have Gg3 : Aside0 (g3 = w.heap.size) := ⟨hg⟩; have Kg3 := Aside0.mk (blk_lt hbox); clear hg; have n_HB := Aside0.mk (below_step HB.out hb); have NN1 : Aside0 (w.heap.size ≤ w1.heap.size) := ⟨hb.size⟩; clear HB; have HB := n_HB; clear n_HB; have Bg3 := Aside0.mk hbox; clear hb hbox) | ((with_reducible refine gate_dst (N := 6) rfl ?_); refine box_event ?hg (N := 6) ?hd (cs := #[.int .i64 0, .int .i64 0]) (t := 65) ?hr ?_; (case hd => rfl); (case hg => rfl); (case hr => first | (go_simp; done) | (go_simp; rfl)); intro g6 hg w2 hbox hb; have Gg6 : Aside0 (g6 = w1.heap.size) := ⟨hg⟩; have Kg6 := Aside0.mk (blk_lt hbox); clear hg; have n_Bg3 := Aside0.mk (blk_below Bg3.out hb); have n_HB := Aside0.mk (below_step HB.out hb); have NN2 : Aside0 (w1.heap.size ≤ w2.heap.size) := ⟨hb.size⟩; clear Bg3 HB; have Bg3 := n_Bg3; have HB := n_HB; clear n_Bg3 n_HB; have Bg6 := Aside0.mk hbox; clear hb hbox) | ((with_reducible refine gate_dst (N := 7) rfl ?_); refine box_event ?hg (N := 7) ?hd (cs := #[.int .i64 0, .int .i64 0]) (t := 65) ?hr ?_; (case hd => rfl); (case hg => rfl); (case hr => first | (go_simp; done) | (go_simp; rfl)); intro g7 hg w3 hbox hb; have Gg7 : Aside0 (g7 = w2.heap.size) := ⟨hg⟩; have Kg7 := Aside0.mk (blk_lt hbox); clear hg; have n_Bg3 := Aside0.mk (blk_below Bg3.out hb); have n_Bg6 := Aside0.mk (blk_below Bg6.out hb); have n_HB := Aside0.mk (below_step HB.out hb); have NN3 : Aside0 (w2.heap.size ≤ w3.heap.size) := ⟨hb.size⟩; clear Bg3 Bg6 HB; have Bg3 := n_Bg3; have Bg6 := n_Bg6; have HB := n_HB; clear n_Bg3 n_Bg6 n_HB; have Bg7 := Aside0.mk hbox; clear hb hbox; have hc3_0 : w3.cell? ⟨g3, 0, none⟩ = some (.slice A0_0 l0_0.length c0_0) := (blk_cell Bg3.out 0).trans rfl; have hf3_0 := blk_frozen Bg3.out 0; have hc3_1 : w3.cell? ⟨g3, 1, none⟩ = some (.slice A0_1 l0_1.length c0_1) := (blk_cell Bg3.out 1).trans rfl; have hf3_1 := blk_frozen Bg3.out 1) | ((with_reducible refine gate_callee (f := 70) rfl ?_); refine goesL_ (some 21) rfl rfl Try.func70 (by kernel_rfl) rfl #[.agg #[.slice A0_0 l0_0.length c0_0, .slice A0_1 l0_1.length c0_1]] rfl (by (try simp only [List.map_toArray, List.map_cons, List.map_nil]); first | done | rfl) ?_; refine (impl_IsGame.calls _ _ l0_0 _ _ l0_1 true _ ?s1 ?s2 ?s3 ?s4 H1'.out).mono ?_; (case s1 => exact Kd.C_below HR0_0.out HB.out); (case s2 => exact HC0_0.out); (case s3 => exact Kd.C_below HR0_1.out HB.out); (case s4 => exact HC0_1.out); rintro e w4 ⟨rfl, hb⟩; refine ⟨_, rfl, ?_⟩; have n_Bg3 := Aside0.mk (blk_below Bg3.out hb); have n_Bg6 := Aside0.mk (blk_below Bg6.out hb); have n_Bg7 := Aside0.mk (blk_below Bg7.out hb); have n_HB := Aside0.mk (below_step HB.out hb); have NN4 : Aside0 (w3.heap.size ≤ w4.heap.size) := ⟨hb.size⟩; clear hc3_0 hf3_0; clear hc3_1 hf3_1; clear Bg3 Bg6 Bg7 HB; have Bg3 := n_Bg3; have Bg6 := n_Bg6; have Bg7 := n_Bg7; have HB := n_HB; clear n_Bg3 n_Bg6 n_Bg7 n_HB; clear hb; have hc3_0 : w4.cell? ⟨g3, 0, none⟩ = some (.slice A0_0 l0_0.length c0_0) := (blk_cell Bg3.out 0).trans rfl; have hf3_0 := blk_frozen Bg3.out 0; have hc3_1 : w4.cell? ⟨g3, 1, none⟩ = some (.slice A0_1 l0_1.length c0_1) := (blk_cell Bg3.out 1).trans rfl; have hf3_1 := blk_frozen Bg3.out 1) | ((with_reducible refine gate_callee (f := 80) rfl ?_); refine goesL_ (some 27) rfl rfl Try.func80 (by kernel_rfl) rfl #[.agg #[.slice A0_0 l0_0.length c0_0, .slice A0_1 l0_1.length c0_1]] rfl (by (try simp only [List.map_toArray, List.map_cons, List.map_nil]); first | done | rfl) ?_; refine (impl_Game_sizes.calls _ _ l0_0 _ _ l0_1 x27_0 x27_1 _ ?s1 ?s2 ?s3 ?s4 H2'.out).mono ?_; (case s1 => exact Kd.C_below HR0_0.out HB.out); (case s2 => exact HC0_0.out); (case s3 => exact Kd.C_below HR0_1.out HB.out); (case s4 => exact HC0_1.out); rintro e w5 ⟨rfl, hb⟩; refine ⟨_, rfl, ?_⟩; have n_Bg3 := Aside0.mk (blk_below Bg3.out hb); have n_Bg6 := Aside0.mk (blk_below Bg6.out hb); have n_Bg7 := Aside0.mk (blk_below Bg7.out hb); have n_HB := Aside0.mk (below_step HB.out hb); have NN5 : Aside0 (w4.heap.size ≤ w5.heap.size) := ⟨hb.size⟩; clear hc3_0 hf3_0; clear hc3_1 hf3_1; clear Bg3 Bg6 Bg7 HB; have Bg3 := n_Bg3; have Bg6 := n_Bg6; have Bg7 := n_Bg7; have HB := n_HB; clear n_Bg3 n_Bg6 n_Bg7 n_HB; clear hb) | ((with_reducible refine gate_callee (f := 99) rfl ?_); refine goesL_ (some 33) rfl rfl Try.func99 (by kernel_rfl) rfl #[.slice A1 l1.length c1, .int .i64 x27_0] rfl (by (try simp only [List.map_toArray, List.map_cons, List.map_nil]); first | done | rfl) ?_; refine (impl_mix.calls k _ _ l1 x27_0 x33_0 x33_1 false _ ?s1 ?s2 H3'.out).mono ?_; (case s1 => exact Kd.C_below HR1.out HB.out); (case s2 => exact HC1.out); rintro e w6 ⟨v33_0, rfl, ho0, hb⟩; refine ⟨_, rfl, ?_⟩; have nu0 := Aside0.mk (UR.of ho0 HB.out.size); have n_Bg3 := Aside0.mk (blk_below Bg3.out hb); have n_Bg6 := Aside0.mk (blk_below Bg6.out hb); have n_Bg7 := Aside0.mk (blk_below Bg7.out hb); have n_HB := Aside0.mk (below_step HB.out hb); have NN6 : Aside0 (w5.heap.size ≤ w6.heap.size) := ⟨hb.size⟩; clear Bg3 Bg6 Bg7 HB; have Bg3 := n_Bg3; have Bg6 := n_Bg6; have Bg7 := n_Bg7; have HB := n_HB; clear n_Bg3 n_Bg6 n_Bg7 n_HB; clear hb ho0; have U33_0 := nu0; clear nu0; obtain ⟨A33_0, c33_0, e0⟩ := Kd.R_slice U33_0.out; subst e0) | ((with_reducible refine gate_callee (f := 99) rfl ?_); refine goesL_ (some 40) rfl rfl Try.func99 (by kernel_rfl) rfl #[.slice A2 l2.length c2, .int .i64 x27_1] rfl (by (try simp only [List.map_toArray, List.map_cons, List.map_nil]); first | done | rfl) ?_; refine (impl_mix.calls k _ _ l2 x27_1 x40_0 x40_1 b40 _ ?s1 ?s2 H4'.out).mono ?_; (case s1 => exact Kd.C_below HR2.out HB.out); (case s2 => exact HC2.out); rintro e w7 ⟨v40_0, rfl, ho0, hb⟩; refine ⟨_, rfl, ?_⟩; have nu0 := Aside0.mk (UR.of ho0 HB.out.size); have n_U33_0 := Aside0.mk (U33_0.out.mvB (Frm.below hb)); have n_Bg3 := Aside0.mk (blk_below Bg3.out hb); have n_Bg6 := Aside0.mk (blk_below Bg6.out hb); have n_Bg7 := Aside0.mk (blk_below Bg7.out hb); have n_HB := Aside0.mk (below_step HB.out hb); have NN7 : Aside0 (w6.heap.size ≤ w7.heap.size) := ⟨hb.size⟩; clear U33_0 Bg3 Bg6 Bg7 HB; have U33_0 := n_U33_0; have Bg3 := n_Bg3; have Bg6 := n_Bg6; have Bg7 := n_Bg7; have HB := n_HB; clear n_U33_0 n_Bg3 n_Bg6 n_Bg7 n_HB; clear hb ho0; have U40_0 := nu0; clear nu0; obtain ⟨A40_0, c40_0, e0⟩ := Kd.R_slice U40_0.out; subst e0; have hc6_0 : w7.cell? ⟨g6, 0, none⟩ = some (.int .i64 0) := (blk_cell Bg6.out 0).trans rfl; have hf6_0 := blk_frozen Bg6.out 0; have hc6_1 : w7.cell? ⟨g6, 1, none⟩ = some (.int .i64 0) := (blk_cell Bg6.out 1).trans rfl; have hf6_1 := blk_frozen Bg6.out 1) | ((with_reducible refine gate_store (t := 65) (p := 6) rfl ?_); refine store_event (t := 65) (p := 6) (v := ?vo_w8) (w1 := ((w7.setCell ⟨g6, 0, none⟩ (.int .i64 0)).setCell ⟨g6, 1, none⟩ (.int .i64 0))) ?hg ?ho ?hn ?hr ?_; (case ho => rfl); (case hg => rfl); (case hn => rfl); (case hr => first | (go_simp; done) | (go_simp; rfl)); intro w8 hw; have hge : w.heap.size ≤ g6 := (by have := NN1.out; have := Gg3.out; have := Kg3.out; have := NN2.out; have := Gg6.out; have := Kg6.out; have := NN3.out; have := Gg7.out; have := Kg7.out; have := NN4.out; have := NN5.out; have := NN6.out; have := NN7.out; have := HB.out.size; omega); have hF : Frm w7 w8 g6 (g6 + 1) := (by rw [hw]; exact (Frm.trans (Frm.set _ _ _ _) (Frm.set _ _ _ _))); have nb := Aside0.mk (show w8.heap[g6]? = some (.cells #[.int .i64 0, .int .i64 0] 65 (0, 0)) from (by rw [hw]; exact (blk_put (blk_put Bg6.out 0 _ rfl) 1 _ rfl))); have n_U33_0 := Aside0.mk (U33_0.out.mv hF (by have := NN1.out; have := Gg3.out; have := Kg3.out; have := NN2.out; have := Gg6.out; have := Kg6.out; have := NN3.out; have := Gg7.out; have := Kg7.out; have := NN4.out; have := NN5.out; have := NN6.out; have := NN7.out; omega)); have n_U40_0 := Aside0.mk (U40_0.out.mv hF (by have := NN1.out; have := Gg3.out; have := Kg3.out; have := NN2.out; have := Gg6.out; have := Kg6.out; have := NN3.out; have := Gg7.out; have := Kg7.out; have := NN4.out; have := NN5.out; have := NN6.out; have := NN7.out; omega)); have n_Bg3 := Aside0.mk ((hF.same g3 (blk_lt Bg3.out) (by have := NN1.out; have := Gg3.out; have := Kg3.out; have := NN2.out; have := Gg6.out; have := Kg6.out; have := NN3.out; have := Gg7.out; have := Kg7.out; have := NN4.out; have := NN5.out; have := NN6.out; have := NN7.out; omega)).trans Bg3.out); have n_Bg7 := Aside0.mk ((hF.same g7 (blk_lt Bg7.out) (by have := NN1.out; have := Gg3.out; have := Kg3.out; have := NN2.out; have := Gg6.out; have := Kg6.out; have := NN3.out; have := Gg7.out; have := Kg7.out; have := NN4.out; have := NN5.out; have := NN6.out; have := NN7.out; omega)).trans Bg7.out); have n_HB := Aside0.mk ((by rw [hw]; exact (below_set (below_set HB.out hge) hge) : Below w.heap.size w w8)); have NN8 : Aside0 (w7.heap.size ≤ w8.heap.size) := ⟨hF.size⟩; clear hc6_0 hf6_0; clear hc6_1 hf6_1; clear U33_0 U40_0 Bg3 Bg7 HB; have U33_0 := n_U33_0; have U40_0 := n_U40_0; have Bg3 := n_Bg3; have Bg7 := n_Bg7; have HB := n_HB; clear n_U33_0 n_U40_0 n_Bg3 n_Bg7 n_HB; clear Bg6; have Bg6 := nb; clear nb hF hge hw; have hc7_0 : w8.cell? ⟨g7, 0, none⟩ = some (.int .i64 0) := (blk_cell Bg7.out 0).trans rfl; have hf7_0 := blk_frozen Bg7.out 0; have hc7_1 : w8.cell? ⟨g7, 1, none⟩ = some (.int .i64 0) := (blk_cell Bg7.out 1).trans rfl; have hf7_1 := blk_frozen Bg7.out 1) | ((with_reducible refine gate_store (t := 65) (p := 7) rfl ?_); refine store_event (t := 65) (p := 7) (v := ?vo_w9) (w1 := ((w8.setCell ⟨g7, 0, none⟩ (.int .i64 0)).setCell ⟨g7, 1, none⟩ (.int .i64 0))) ?hg ?ho ?hn ?hr ?_; (case ho => rfl); (case hg => rfl); (case hn => rfl); (case hr => first | (go_simp; done) | (go_simp; rfl)); intro w9 hw; have hge : w.heap.size ≤ g7 := (by have := NN1.out; have := Gg3.out; have := Kg3.out; have := NN2.out; have := Gg6.out; have := Kg6.out; have := NN3.out; have := Gg7.out; have := Kg7.out; have := NN4.out; have := NN5.out; have := NN6.out; have := NN7.out; have := NN8.out; have := HB.out.size; omega); have hF : Frm w8 w9 g7 (g7 + 1) := (by rw [hw]; exact (Frm.trans (Frm.set _ _ _ _) (Frm.set _ _ _ _))); have nb := Aside0.mk (show w9.heap[g7]? = some (.cells #[.int .i64 0, .int .i64 0] 65 (0, 0)) from (by rw [hw]; exact (blk_put (blk_put Bg7.out 0 _ rfl) 1 _ rfl))); have n_U33_0 := Aside0.mk (U33_0.out.mv hF (by have := NN1.out; have := Gg3.out; have := Kg3.out; have := NN2.out; have := Gg6.out; have := Kg6.out; have := NN3.out; have := Gg7.out; have := Kg7.out; have := NN4.out; have := NN5.out; have := NN6.out; have := NN7.out; have := NN8.out; omega)); have n_U40_0 := Aside0.mk (U40_0.out.mv hF (by have := NN1.out; have := Gg3.out; have := Kg3.out; have := NN2.out; have := Gg6.out; have := Kg6.out; have := NN3.out; have := Gg7.out; have := Kg7.out; have := NN4.out; have := NN5.out; have := NN6.out; have := NN7.out; have := NN8.out; omega)); have n_Bg3 := Aside0.mk ((hF.same g3 (blk_lt Bg3.out) (by have := NN1.out; have := Gg3.out; have := Kg3.out; have := NN2.out; have := Gg6.out; have := Kg6.out; have := NN3.out; have := Gg7.out; have := Kg7.out; have := NN4.out; have := NN5.out; have := NN6.out; have := NN7.out; have := NN8.out; omega)).trans Bg3.out); have n_Bg6 := Aside0.mk ((hF.same g6 (blk_lt Bg6.out) (by have := NN1.out; have := Gg3.out; have := Kg3.out; have := NN2.out; have := Gg6.out; have := Kg6.out; have := NN3.out; have := Gg7.out; have := Kg7.out; have := NN4.out; have := NN5.out; have := NN6.out; have := NN7.out; have := NN8.out; omega)).trans Bg6.out); have n_HB := Aside0.mk ((by rw [hw]; exact (below_set (below_set HB.out hge) hge) : Below w.heap.size w w9)); have NN9 : Aside0 (w8.heap.size ≤ w9.heap.size) := ⟨hF.size⟩; clear hc7_0 hf7_0; clear hc7_1 hf7_1; clear U33_0 U40_0 Bg3 Bg6 HB; have U33_0 := n_U33_0; have U40_0 := n_U40_0; have Bg3 := n_Bg3; have Bg6 := n_Bg6; have HB := n_HB; clear n_U33_0 n_U40_0 n_Bg3 n_Bg6 n_HB; clear Bg7; have Bg7 := nb; clear nb hF hge hw))
 refine bodyPost_ret (results_list (rs := [.cell 6 65, .cell 7 65, .tmp 8]) rfl (by simp) (.cell g6 65 #[.int .i64 0, .int .i64 0] (0, 0) _ rfl Bg6.out Try.underlying65 rfl (by kernel_rfl) (.cell g7 65 #[.int .i64 0, .int .i64 0] (0, 0) _ rfl Bg7.out Try.underlying65 rfl (by kernel_rfl) (.tmp .nil)))) rfl ?_
 exact ⟨rfl, HB.out⟩
theorem impl_PayoffsAt.way2 (k : Nat) (A0_0 : Option Addr) (c0_0 : Nat) (l0_0 : List (List Int)) (A0_1 : Option Addr) (c0_1 : Nat) (l0_1 : List (List Int)) (A1 : Option Addr) (c1 : Nat) (l1 : List (S65)) (A2 : Option Addr) (c2 : Nat) (l2 : List (S65)) (x27_0 : Int) (x27_1 : Int) (x33_0 : List Int) (x33_1 : Int) (x40_0 : List Int) (x40_1 : Int) (w : World) (hr0_0 : Kd.C (Kd.slice 2 (Kd.int .i64)) w A0_0 l0_0.length l0_0) (hc0_0 : l0_0.length ≤ c0_0) (hr0_1 : Kd.C (Kd.slice 2 (Kd.int .i64)) w A0_1 l0_1.length l0_1) (hc0_1 : l0_1.length ≤ c0_1) (hr1 : Kd.C k65 w A1 l1.length l1) (hc1 : l1.length ≤ c1) (hr2 : Kd.C k65 w A2 l2.length l2) (hc2 : l2.length ≤ c2) (h1 : impl_IsGame.f l0_0 l0_1 = some true) (h2 : impl_Game_sizes.f l0_0 l0_1 = some (x27_0, x27_1)) (h3 : impl_mix.f k l1 x27_0 = some (x33_0, x33_1, true)) (h4 : impl_mix.f k l2 x27_1 = some (x40_0, x40_1, false)) :
  Calls Try.prog 47 #[.agg #[.slice A0_0 l0_0.length c0_0, .slice A0_1 l0_1.length c0_1], .slice A1 l1.length c1, .slice A2 l2.length c2] w fun e w' => e = .returned (.tuple #[.agg #[.int .i64 0, .int .i64 0], .agg #[.int .i64 0, .int .i64 0], .int .i64 2]) ∧ Below w.heap.size w w' := by
 have HR0_0 := Aside0.mk hr0_0
 have HC0_0 := Aside0.mk hc0_0
 clear hr0_0 hc0_0
 have HR0_1 := Aside0.mk hr0_1
 have HC0_1 := Aside0.mk hc0_1
 clear hr0_1 hc0_1
 have HR1 := Aside0.mk hr1
 have HC1 := Aside0.mk hc1
 clear hr1 hc1
 have HR2 := Aside0.mk hr2
 have HC2 := Aside0.mk hc2
 clear hr2 hc2
 have HB := Aside0.mk (Below.refl w.heap.size w)
 have H1' := Aside0.mk h1
 clear h1
 have H2' := Aside0.mk h2
 clear h2
 have H3' := Aside0.mk h3
 clear h3
 have H4' := Aside0.mk h4
 clear h4
 go_enter Try.func47, Try.ntmps47
 go_wp2_with (first | ((with_reducible refine gate_dst (N := 3) rfl ?_); refine box_event ?hg (N := 3) ?hd (cs := #[.slice A0_0 l0_0.length c0_0, .slice A0_1 l0_1.length c0_1]) (t := 26) ?hr ?_; (case hd => rfl); (case hg => rfl); (case hr => first | (go_simp; done) | (go_simp; rfl)); intro g3 hg w1 hbox hb; have Gg3 : Aside0 (g3 = w.heap.size) := ⟨hg⟩; have Kg3 := Aside0.mk (blk_lt hbox); clear hg; have n_HB := Aside0.mk (below_step HB.out hb); have NN1 : Aside0 (w.heap.size ≤ w1.heap.size) := ⟨hb.size⟩; clear HB; have HB := n_HB; clear n_HB; have Bg3 := Aside0.mk hbox; clear hb hbox) | ((with_reducible refine gate_dst (N := 6) rfl ?_); refine box_event ?hg (N := 6) ?hd (cs := #[.int .i64 0, .int .i64 0]) (t := 65) ?hr ?_; (case hd => rfl); (case hg => rfl); (case hr => first | (go_simp; done) | (go_simp; rfl)); intro g6 hg w2 hbox hb; have Gg6 : Aside0 (g6 = w1.heap.size) := ⟨hg⟩; have Kg6 := Aside0.mk (blk_lt hbox); clear hg; have n_Bg3 := Aside0.mk (blk_below Bg3.out hb); have n_HB := Aside0.mk (below_step HB.out hb); have NN2 : Aside0 (w1.heap.size ≤ w2.heap.size) := ⟨hb.size⟩; clear Bg3 HB; have Bg3 := n_Bg3; have HB := n_HB; clear n_Bg3 n_HB; have Bg6 := Aside0.mk hbox; clear hb hbox) | ((with_reducible refine gate_dst (N := 7) rfl ?_); refine box_event ?hg (N := 7) ?hd (cs := #[.int .i64 0, .int .i64 0]) (t := 65) ?hr ?_; (case hd => rfl); (case hg => rfl); (case hr => first | (go_simp; done) | (go_simp; rfl)); intro g7 hg w3 hbox hb; have Gg7 : Aside0 (g7 = w2.heap.size) := ⟨hg⟩; have Kg7 := Aside0.mk (blk_lt hbox); clear hg; have n_Bg3 := Aside0.mk (blk_below Bg3.out hb); have n_Bg6 := Aside0.mk (blk_below Bg6.out hb); have n_HB := Aside0.mk (below_step HB.out hb); have NN3 : Aside0 (w2.heap.size ≤ w3.heap.size) := ⟨hb.size⟩; clear Bg3 Bg6 HB; have Bg3 := n_Bg3; have Bg6 := n_Bg6; have HB := n_HB; clear n_Bg3 n_Bg6 n_HB; have Bg7 := Aside0.mk hbox; clear hb hbox; have hc3_0 : w3.cell? ⟨g3, 0, none⟩ = some (.slice A0_0 l0_0.length c0_0) := (blk_cell Bg3.out 0).trans rfl; have hf3_0 := blk_frozen Bg3.out 0; have hc3_1 : w3.cell? ⟨g3, 1, none⟩ = some (.slice A0_1 l0_1.length c0_1) := (blk_cell Bg3.out 1).trans rfl; have hf3_1 := blk_frozen Bg3.out 1) | ((with_reducible refine gate_callee (f := 70) rfl ?_); refine goesL_ (some 21) rfl rfl Try.func70 (by kernel_rfl) rfl #[.agg #[.slice A0_0 l0_0.length c0_0, .slice A0_1 l0_1.length c0_1]] rfl (by (try simp only [List.map_toArray, List.map_cons, List.map_nil]); first | done | rfl) ?_; refine (impl_IsGame.calls _ _ l0_0 _ _ l0_1 true _ ?s1 ?s2 ?s3 ?s4 H1'.out).mono ?_; (case s1 => exact Kd.C_below HR0_0.out HB.out); (case s2 => exact HC0_0.out); (case s3 => exact Kd.C_below HR0_1.out HB.out); (case s4 => exact HC0_1.out); rintro e w4 ⟨rfl, hb⟩; refine ⟨_, rfl, ?_⟩; have n_Bg3 := Aside0.mk (blk_below Bg3.out hb); have n_Bg6 := Aside0.mk (blk_below Bg6.out hb); have n_Bg7 := Aside0.mk (blk_below Bg7.out hb); have n_HB := Aside0.mk (below_step HB.out hb); have NN4 : Aside0 (w3.heap.size ≤ w4.heap.size) := ⟨hb.size⟩; clear hc3_0 hf3_0; clear hc3_1 hf3_1; clear Bg3 Bg6 Bg7 HB; have Bg3 := n_Bg3; have Bg6 := n_Bg6; have Bg7 := n_Bg7; have HB := n_HB; clear n_Bg3 n_Bg6 n_Bg7 n_HB; clear hb; have hc3_0 : w4.cell? ⟨g3, 0, none⟩ = some (.slice A0_0 l0_0.length c0_0) := (blk_cell Bg3.out 0).trans rfl; have hf3_0 := blk_frozen Bg3.out 0; have hc3_1 : w4.cell? ⟨g3, 1, none⟩ = some (.slice A0_1 l0_1.length c0_1) := (blk_cell Bg3.out 1).trans rfl; have hf3_1 := blk_frozen Bg3.out 1) | ((with_reducible refine gate_callee (f := 80) rfl ?_); refine goesL_ (some 27) rfl rfl Try.func80 (by kernel_rfl) rfl #[.agg #[.slice A0_0 l0_0.length c0_0, .slice A0_1 l0_1.length c0_1]] rfl (by (try simp only [List.map_toArray, List.map_cons, List.map_nil]); first | done | rfl) ?_; refine (impl_Game_sizes.calls _ _ l0_0 _ _ l0_1 x27_0 x27_1 _ ?s1 ?s2 ?s3 ?s4 H2'.out).mono ?_; (case s1 => exact Kd.C_below HR0_0.out HB.out); (case s2 => exact HC0_0.out); (case s3 => exact Kd.C_below HR0_1.out HB.out); (case s4 => exact HC0_1.out); rintro e w5 ⟨rfl, hb⟩; refine ⟨_, rfl, ?_⟩; have n_Bg3 := Aside0.mk (blk_below Bg3.out hb); have n_Bg6 := Aside0.mk (blk_below Bg6.out hb); have n_Bg7 := Aside0.mk (blk_below Bg7.out hb); have n_HB := Aside0.mk (below_step HB.out hb); have NN5 : Aside0 (w4.heap.size ≤ w5.heap.size) := ⟨hb.size⟩; clear hc3_0 hf3_0; clear hc3_1 hf3_1; clear Bg3 Bg6 Bg7 HB; have Bg3 := n_Bg3; have Bg6 := n_Bg6; have Bg7 := n_Bg7; have HB := n_HB; clear n_Bg3 n_Bg6 n_Bg7 n_HB; clear hb) | ((with_reducible refine gate_callee (f := 99) rfl ?_); refine goesL_ (some 33) rfl rfl Try.func99 (by kernel_rfl) rfl #[.slice A1 l1.length c1, .int .i64 x27_0] rfl (by (try simp only [List.map_toArray, List.map_cons, List.map_nil]); first | done | rfl) ?_; refine (impl_mix.calls k _ _ l1 x27_0 x33_0 x33_1 true _ ?s1 ?s2 H3'.out).mono ?_; (case s1 => exact Kd.C_below HR1.out HB.out); (case s2 => exact HC1.out); rintro e w6 ⟨v33_0, rfl, ho0, hb⟩; refine ⟨_, rfl, ?_⟩; have nu0 := Aside0.mk (UR.of ho0 HB.out.size); have n_Bg3 := Aside0.mk (blk_below Bg3.out hb); have n_Bg6 := Aside0.mk (blk_below Bg6.out hb); have n_Bg7 := Aside0.mk (blk_below Bg7.out hb); have n_HB := Aside0.mk (below_step HB.out hb); have NN6 : Aside0 (w5.heap.size ≤ w6.heap.size) := ⟨hb.size⟩; clear Bg3 Bg6 Bg7 HB; have Bg3 := n_Bg3; have Bg6 := n_Bg6; have Bg7 := n_Bg7; have HB := n_HB; clear n_Bg3 n_Bg6 n_Bg7 n_HB; clear hb ho0; have U33_0 := nu0; clear nu0; obtain ⟨A33_0, c33_0, e0⟩ := Kd.R_slice U33_0.out; subst e0) | ((with_reducible refine gate_callee (f := 99) rfl ?_); refine goesL_ (some 40) rfl rfl Try.func99 (by kernel_rfl) rfl #[.slice A2 l2.length c2, .int .i64 x27_1] rfl (by (try simp only [List.map_toArray, List.map_cons, List.map_nil]); first | done | rfl) ?_; refine (impl_mix.calls k _ _ l2 x27_1 x40_0 x40_1 false _ ?s1 ?s2 H4'.out).mono ?_; (case s1 => exact Kd.C_below HR2.out HB.out); (case s2 => exact HC2.out); rintro e w7 ⟨v40_0, rfl, ho0, hb⟩; refine ⟨_, rfl, ?_⟩; have nu0 := Aside0.mk (UR.of ho0 HB.out.size); have n_U33_0 := Aside0.mk (U33_0.out.mvB (Frm.below hb)); have n_Bg3 := Aside0.mk (blk_below Bg3.out hb); have n_Bg6 := Aside0.mk (blk_below Bg6.out hb); have n_Bg7 := Aside0.mk (blk_below Bg7.out hb); have n_HB := Aside0.mk (below_step HB.out hb); have NN7 : Aside0 (w6.heap.size ≤ w7.heap.size) := ⟨hb.size⟩; clear U33_0 Bg3 Bg6 Bg7 HB; have U33_0 := n_U33_0; have Bg3 := n_Bg3; have Bg6 := n_Bg6; have Bg7 := n_Bg7; have HB := n_HB; clear n_U33_0 n_Bg3 n_Bg6 n_Bg7 n_HB; clear hb ho0; have U40_0 := nu0; clear nu0; obtain ⟨A40_0, c40_0, e0⟩ := Kd.R_slice U40_0.out; subst e0; have hc6_0 : w7.cell? ⟨g6, 0, none⟩ = some (.int .i64 0) := (blk_cell Bg6.out 0).trans rfl; have hf6_0 := blk_frozen Bg6.out 0; have hc6_1 : w7.cell? ⟨g6, 1, none⟩ = some (.int .i64 0) := (blk_cell Bg6.out 1).trans rfl; have hf6_1 := blk_frozen Bg6.out 1) | ((with_reducible refine gate_store (t := 65) (p := 6) rfl ?_); refine store_event (t := 65) (p := 6) (v := ?vo_w8) (w1 := ((w7.setCell ⟨g6, 0, none⟩ (.int .i64 0)).setCell ⟨g6, 1, none⟩ (.int .i64 0))) ?hg ?ho ?hn ?hr ?_; (case ho => rfl); (case hg => rfl); (case hn => rfl); (case hr => first | (go_simp; done) | (go_simp; rfl)); intro w8 hw; have hge : w.heap.size ≤ g6 := (by have := NN1.out; have := Gg3.out; have := Kg3.out; have := NN2.out; have := Gg6.out; have := Kg6.out; have := NN3.out; have := Gg7.out; have := Kg7.out; have := NN4.out; have := NN5.out; have := NN6.out; have := NN7.out; have := HB.out.size; omega); have hF : Frm w7 w8 g6 (g6 + 1) := (by rw [hw]; exact (Frm.trans (Frm.set _ _ _ _) (Frm.set _ _ _ _))); have nb := Aside0.mk (show w8.heap[g6]? = some (.cells #[.int .i64 0, .int .i64 0] 65 (0, 0)) from (by rw [hw]; exact (blk_put (blk_put Bg6.out 0 _ rfl) 1 _ rfl))); have n_U33_0 := Aside0.mk (U33_0.out.mv hF (by have := NN1.out; have := Gg3.out; have := Kg3.out; have := NN2.out; have := Gg6.out; have := Kg6.out; have := NN3.out; have := Gg7.out; have := Kg7.out; have := NN4.out; have := NN5.out; have := NN6.out; have := NN7.out; omega)); have n_U40_0 := Aside0.mk (U40_0.out.mv hF (by have := NN1.out; have := Gg3.out; have := Kg3.out; have := NN2.out; have := Gg6.out; have := Kg6.out; have := NN3.out; have := Gg7.out; have := Kg7.out; have := NN4.out; have := NN5.out; have := NN6.out; have := NN7.out; omega)); have n_Bg3 := Aside0.mk ((hF.same g3 (blk_lt Bg3.out) (by have := NN1.out; have := Gg3.out; have := Kg3.out; have := NN2.out; have := Gg6.out; have := Kg6.out; have := NN3.out; have := Gg7.out; have := Kg7.out; have := NN4.out; have := NN5.out; have := NN6.out; have := NN7.out; omega)).trans Bg3.out); have n_Bg7 := Aside0.mk ((hF.same g7 (blk_lt Bg7.out) (by have := NN1.out; have := Gg3.out; have := Kg3.out; have := NN2.out; have := Gg6.out; have := Kg6.out; have := NN3.out; have := Gg7.out; have := Kg7.out; have := NN4.out; have := NN5.out; have := NN6.out; have := NN7.out; omega)).trans Bg7.out); have n_HB := Aside0.mk ((by rw [hw]; exact (below_set (below_set HB.out hge) hge) : Below w.heap.size w w8)); have NN8 : Aside0 (w7.heap.size ≤ w8.heap.size) := ⟨hF.size⟩; clear hc6_0 hf6_0; clear hc6_1 hf6_1; clear U33_0 U40_0 Bg3 Bg7 HB; have U33_0 := n_U33_0; have U40_0 := n_U40_0; have Bg3 := n_Bg3; have Bg7 := n_Bg7; have HB := n_HB; clear n_U33_0 n_U40_0 n_Bg3 n_Bg7 n_HB; clear Bg6; have Bg6 := nb; clear nb hF hge hw; have hc7_0 : w8.cell? ⟨g7, 0, none⟩ = some (.int .i64 0) := (blk_cell Bg7.out 0).trans rfl; have hf7_0 := blk_frozen Bg7.out 0; have hc7_1 : w8.cell? ⟨g7, 1, none⟩ = some (.int .i64 0) := (blk_cell Bg7.out 1).trans rfl; have hf7_1 := blk_frozen Bg7.out 1) | ((with_reducible refine gate_store (t := 65) (p := 7) rfl ?_); refine store_event (t := 65) (p := 7) (v := ?vo_w9) (w1 := ((w8.setCell ⟨g7, 0, none⟩ (.int .i64 0)).setCell ⟨g7, 1, none⟩ (.int .i64 0))) ?hg ?ho ?hn ?hr ?_; (case ho => rfl); (case hg => rfl); (case hn => rfl); (case hr => first | (go_simp; done) | (go_simp; rfl)); intro w9 hw; have hge : w.heap.size ≤ g7 := (by have := NN1.out; have := Gg3.out; have := Kg3.out; have := NN2.out; have := Gg6.out; have := Kg6.out; have := NN3.out; have := Gg7.out; have := Kg7.out; have := NN4.out; have := NN5.out; have := NN6.out; have := NN7.out; have := NN8.out; have := HB.out.size; omega); have hF : Frm w8 w9 g7 (g7 + 1) := (by rw [hw]; exact (Frm.trans (Frm.set _ _ _ _) (Frm.set _ _ _ _))); have nb := Aside0.mk (show w9.heap[g7]? = some (.cells #[.int .i64 0, .int .i64 0] 65 (0, 0)) from (by rw [hw]; exact (blk_put (blk_put Bg7.out 0 _ rfl) 1 _ rfl))); have n_U33_0 := Aside0.mk (U33_0.out.mv hF (by have := NN1.out; have := Gg3.out; have := Kg3.out; have := NN2.out; have := Gg6.out; have := Kg6.out; have := NN3.out; have := Gg7.out; have := Kg7.out; have := NN4.out; have := NN5.out; have := NN6.out; have := NN7.out; have := NN8.out; omega)); have n_U40_0 := Aside0.mk (U40_0.out.mv hF (by have := NN1.out; have := Gg3.out; have := Kg3.out; have := NN2.out; have := Gg6.out; have := Kg6.out; have := NN3.out; have := Gg7.out; have := Kg7.out; have := NN4.out; have := NN5.out; have := NN6.out; have := NN7.out; have := NN8.out; omega)); have n_Bg3 := Aside0.mk ((hF.same g3 (blk_lt Bg3.out) (by have := NN1.out; have := Gg3.out; have := Kg3.out; have := NN2.out; have := Gg6.out; have := Kg6.out; have := NN3.out; have := Gg7.out; have := Kg7.out; have := NN4.out; have := NN5.out; have := NN6.out; have := NN7.out; have := NN8.out; omega)).trans Bg3.out); have n_Bg6 := Aside0.mk ((hF.same g6 (blk_lt Bg6.out) (by have := NN1.out; have := Gg3.out; have := Kg3.out; have := NN2.out; have := Gg6.out; have := Kg6.out; have := NN3.out; have := Gg7.out; have := Kg7.out; have := NN4.out; have := NN5.out; have := NN6.out; have := NN7.out; have := NN8.out; omega)).trans Bg6.out); have n_HB := Aside0.mk ((by rw [hw]; exact (below_set (below_set HB.out hge) hge) : Below w.heap.size w w9)); have NN9 : Aside0 (w8.heap.size ≤ w9.heap.size) := ⟨hF.size⟩; clear hc7_0 hf7_0; clear hc7_1 hf7_1; clear U33_0 U40_0 Bg3 Bg6 HB; have U33_0 := n_U33_0; have U40_0 := n_U40_0; have Bg3 := n_Bg3; have Bg6 := n_Bg6; have HB := n_HB; clear n_U33_0 n_U40_0 n_Bg3 n_Bg6 n_HB; clear Bg7; have Bg7 := nb; clear nb hF hge hw))
 refine bodyPost_ret (results_list (rs := [.cell 6 65, .cell 7 65, .tmp 8]) rfl (by simp) (.cell g6 65 #[.int .i64 0, .int .i64 0] (0, 0) _ rfl Bg6.out Try.underlying65 rfl (by kernel_rfl) (.cell g7 65 #[.int .i64 0, .int .i64 0] (0, 0) _ rfl Bg7.out Try.underlying65 rfl (by kernel_rfl) (.tmp .nil)))) rfl ?_
 exact ⟨rfl, HB.out⟩
theorem impl_PayoffsAt.way3 (k : Nat) (A0_0 : Option Addr) (c0_0 : Nat) (l0_0 : List (List Int)) (A0_1 : Option Addr) (c0_1 : Nat) (l0_1 : List (List Int)) (A1 : Option Addr) (c1 : Nat) (l1 : List (S65)) (A2 : Option Addr) (c2 : Nat) (l2 : List (S65)) (x27_0 : Int) (x27_1 : Int) (x33_0 : List Int) (x33_1 : Int) (x40_0 : List Int) (x40_1 : Int) (w : World) (hr0_0 : Kd.C (Kd.slice 2 (Kd.int .i64)) w A0_0 l0_0.length l0_0) (hc0_0 : l0_0.length ≤ c0_0) (hr0_1 : Kd.C (Kd.slice 2 (Kd.int .i64)) w A0_1 l0_1.length l0_1) (hc0_1 : l0_1.length ≤ c0_1) (hr1 : Kd.C k65 w A1 l1.length l1) (hc1 : l1.length ≤ c1) (hr2 : Kd.C k65 w A2 l2.length l2) (hc2 : l2.length ≤ c2) (h1 : impl_IsGame.f l0_0 l0_1 = some true) (h2 : impl_Game_sizes.f l0_0 l0_1 = some (x27_0, x27_1)) (h3 : impl_mix.f k l1 x27_0 = some (x33_0, x33_1, true)) (h4 : impl_mix.f k l2 x27_1 = some (x40_0, x40_1, true)) (q0 : (30000 : Int) < x33_1) :
  Calls Try.prog 47 #[.agg #[.slice A0_0 l0_0.length c0_0, .slice A0_1 l0_1.length c0_1], .slice A1 l1.length c1, .slice A2 l2.length c2] w fun e w' => e = .returned (.tuple #[.agg #[.int .i64 0, .int .i64 0], .agg #[.int .i64 0, .int .i64 0], .int .i64 3]) ∧ Below w.heap.size w w' := by
 have HR0_0 := Aside0.mk hr0_0
 have HC0_0 := Aside0.mk hc0_0
 clear hr0_0 hc0_0
 have HR0_1 := Aside0.mk hr0_1
 have HC0_1 := Aside0.mk hc0_1
 clear hr0_1 hc0_1
 have HR1 := Aside0.mk hr1
 have HC1 := Aside0.mk hc1
 clear hr1 hc1
 have HR2 := Aside0.mk hr2
 have HC2 := Aside0.mk hc2
 clear hr2 hc2
 have HB := Aside0.mk (Below.refl w.heap.size w)
 have H1' := Aside0.mk h1
 clear h1
 have H2' := Aside0.mk h2
 clear h2
 have H3' := Aside0.mk h3
 clear h3
 have H4' := Aside0.mk h4
 clear h4
 go_enter Try.func47, Try.ntmps47
 go_wp2_with (first | ((with_reducible refine gate_dst (N := 3) rfl ?_); refine box_event ?hg (N := 3) ?hd (cs := #[.slice A0_0 l0_0.length c0_0, .slice A0_1 l0_1.length c0_1]) (t := 26) ?hr ?_; (case hd => rfl); (case hg => rfl); (case hr => first | (go_simp; done) | (go_simp; rfl)); intro g3 hg w1 hbox hb; have Gg3 : Aside0 (g3 = w.heap.size) := ⟨hg⟩; have Kg3 := Aside0.mk (blk_lt hbox); clear hg; have n_HB := Aside0.mk (below_step HB.out hb); have NN1 : Aside0 (w.heap.size ≤ w1.heap.size) := ⟨hb.size⟩; clear HB; have HB := n_HB; clear n_HB; have Bg3 := Aside0.mk hbox; clear hb hbox) | ((with_reducible refine gate_dst (N := 6) rfl ?_); refine box_event ?hg (N := 6) ?hd (cs := #[.int .i64 0, .int .i64 0]) (t := 65) ?hr ?_; (case hd => rfl); (case hg => rfl); (case hr => first | (go_simp; done) | (go_simp; rfl)); intro g6 hg w2 hbox hb; have Gg6 : Aside0 (g6 = w1.heap.size) := ⟨hg⟩; have Kg6 := Aside0.mk (blk_lt hbox); clear hg; have n_Bg3 := Aside0.mk (blk_below Bg3.out hb); have n_HB := Aside0.mk (below_step HB.out hb); have NN2 : Aside0 (w1.heap.size ≤ w2.heap.size) := ⟨hb.size⟩; clear Bg3 HB; have Bg3 := n_Bg3; have HB := n_HB; clear n_Bg3 n_HB; have Bg6 := Aside0.mk hbox; clear hb hbox) | ((with_reducible refine gate_dst (N := 7) rfl ?_); refine box_event ?hg (N := 7) ?hd (cs := #[.int .i64 0, .int .i64 0]) (t := 65) ?hr ?_; (case hd => rfl); (case hg => rfl); (case hr => first | (go_simp; done) | (go_simp; rfl)); intro g7 hg w3 hbox hb; have Gg7 : Aside0 (g7 = w2.heap.size) := ⟨hg⟩; have Kg7 := Aside0.mk (blk_lt hbox); clear hg; have n_Bg3 := Aside0.mk (blk_below Bg3.out hb); have n_Bg6 := Aside0.mk (blk_below Bg6.out hb); have n_HB := Aside0.mk (below_step HB.out hb); have NN3 : Aside0 (w2.heap.size ≤ w3.heap.size) := ⟨hb.size⟩; clear Bg3 Bg6 HB; have Bg3 := n_Bg3; have Bg6 := n_Bg6; have HB := n_HB; clear n_Bg3 n_Bg6 n_HB; have Bg7 := Aside0.mk hbox; clear hb hbox; have hc3_0 : w3.cell? ⟨g3, 0, none⟩ = some (.slice A0_0 l0_0.length c0_0) := (blk_cell Bg3.out 0).trans rfl; have hf3_0 := blk_frozen Bg3.out 0; have hc3_1 : w3.cell? ⟨g3, 1, none⟩ = some (.slice A0_1 l0_1.length c0_1) := (blk_cell Bg3.out 1).trans rfl; have hf3_1 := blk_frozen Bg3.out 1) | ((with_reducible refine gate_callee (f := 70) rfl ?_); refine goesL_ (some 21) rfl rfl Try.func70 (by kernel_rfl) rfl #[.agg #[.slice A0_0 l0_0.length c0_0, .slice A0_1 l0_1.length c0_1]] rfl (by (try simp only [List.map_toArray, List.map_cons, List.map_nil]); first | done | rfl) ?_; refine (impl_IsGame.calls _ _ l0_0 _ _ l0_1 true _ ?s1 ?s2 ?s3 ?s4 H1'.out).mono ?_; (case s1 => exact Kd.C_below HR0_0.out HB.out); (case s2 => exact HC0_0.out); (case s3 => exact Kd.C_below HR0_1.out HB.out); (case s4 => exact HC0_1.out); rintro e w4 ⟨rfl, hb⟩; refine ⟨_, rfl, ?_⟩; have n_Bg3 := Aside0.mk (blk_below Bg3.out hb); have n_Bg6 := Aside0.mk (blk_below Bg6.out hb); have n_Bg7 := Aside0.mk (blk_below Bg7.out hb); have n_HB := Aside0.mk (below_step HB.out hb); have NN4 : Aside0 (w3.heap.size ≤ w4.heap.size) := ⟨hb.size⟩; clear hc3_0 hf3_0; clear hc3_1 hf3_1; clear Bg3 Bg6 Bg7 HB; have Bg3 := n_Bg3; have Bg6 := n_Bg6; have Bg7 := n_Bg7; have HB := n_HB; clear n_Bg3 n_Bg6 n_Bg7 n_HB; clear hb; have hc3_0 : w4.cell? ⟨g3, 0, none⟩ = some (.slice A0_0 l0_0.length c0_0) := (blk_cell Bg3.out 0).trans rfl; have hf3_0 := blk_frozen Bg3.out 0; have hc3_1 : w4.cell? ⟨g3, 1, none⟩ = some (.slice A0_1 l0_1.length c0_1) := (blk_cell Bg3.out 1).trans rfl; have hf3_1 := blk_frozen Bg3.out 1) | ((with_reducible refine gate_callee (f := 80) rfl ?_); refine goesL_ (some 27) rfl rfl Try.func80 (by kernel_rfl) rfl #[.agg #[.slice A0_0 l0_0.length c0_0, .slice A0_1 l0_1.length c0_1]] rfl (by (try simp only [List.map_toArray, List.map_cons, List.map_nil]); first | done | rfl) ?_; refine (impl_Game_sizes.calls _ _ l0_0 _ _ l0_1 x27_0 x27_1 _ ?s1 ?s2 ?s3 ?s4 H2'.out).mono ?_; (case s1 => exact Kd.C_below HR0_0.out HB.out); (case s2 => exact HC0_0.out); (case s3 => exact Kd.C_below HR0_1.out HB.out); (case s4 => exact HC0_1.out); rintro e w5 ⟨rfl, hb⟩; refine ⟨_, rfl, ?_⟩; have n_Bg3 := Aside0.mk (blk_below Bg3.out hb); have n_Bg6 := Aside0.mk (blk_below Bg6.out hb); have n_Bg7 := Aside0.mk (blk_below Bg7.out hb); have n_HB := Aside0.mk (below_step HB.out hb); have NN5 : Aside0 (w4.heap.size ≤ w5.heap.size) := ⟨hb.size⟩; clear hc3_0 hf3_0; clear hc3_1 hf3_1; clear Bg3 Bg6 Bg7 HB; have Bg3 := n_Bg3; have Bg6 := n_Bg6; have Bg7 := n_Bg7; have HB := n_HB; clear n_Bg3 n_Bg6 n_Bg7 n_HB; clear hb) | ((with_reducible refine gate_callee (f := 99) rfl ?_); refine goesL_ (some 33) rfl rfl Try.func99 (by kernel_rfl) rfl #[.slice A1 l1.length c1, .int .i64 x27_0] rfl (by (try simp only [List.map_toArray, List.map_cons, List.map_nil]); first | done | rfl) ?_; refine (impl_mix.calls k _ _ l1 x27_0 x33_0 x33_1 true _ ?s1 ?s2 H3'.out).mono ?_; (case s1 => exact Kd.C_below HR1.out HB.out); (case s2 => exact HC1.out); rintro e w6 ⟨v33_0, rfl, ho0, hb⟩; refine ⟨_, rfl, ?_⟩; have nu0 := Aside0.mk (UR.of ho0 HB.out.size); have n_Bg3 := Aside0.mk (blk_below Bg3.out hb); have n_Bg6 := Aside0.mk (blk_below Bg6.out hb); have n_Bg7 := Aside0.mk (blk_below Bg7.out hb); have n_HB := Aside0.mk (below_step HB.out hb); have NN6 : Aside0 (w5.heap.size ≤ w6.heap.size) := ⟨hb.size⟩; clear Bg3 Bg6 Bg7 HB; have Bg3 := n_Bg3; have Bg6 := n_Bg6; have Bg7 := n_Bg7; have HB := n_HB; clear n_Bg3 n_Bg6 n_Bg7 n_HB; clear hb ho0; have U33_0 := nu0; clear nu0; obtain ⟨A33_0, c33_0, e0⟩ := Kd.R_slice U33_0.out; subst e0) | ((with_reducible refine gate_callee (f := 99) rfl ?_); refine goesL_ (some 40) rfl rfl Try.func99 (by kernel_rfl) rfl #[.slice A2 l2.length c2, .int .i64 x27_1] rfl (by (try simp only [List.map_toArray, List.map_cons, List.map_nil]); first | done | rfl) ?_; refine (impl_mix.calls k _ _ l2 x27_1 x40_0 x40_1 true _ ?s1 ?s2 H4'.out).mono ?_; (case s1 => exact Kd.C_below HR2.out HB.out); (case s2 => exact HC2.out); rintro e w7 ⟨v40_0, rfl, ho0, hb⟩; refine ⟨_, rfl, ?_⟩; have nu0 := Aside0.mk (UR.of ho0 HB.out.size); have n_U33_0 := Aside0.mk (U33_0.out.mvB (Frm.below hb)); have n_Bg3 := Aside0.mk (blk_below Bg3.out hb); have n_Bg6 := Aside0.mk (blk_below Bg6.out hb); have n_Bg7 := Aside0.mk (blk_below Bg7.out hb); have n_HB := Aside0.mk (below_step HB.out hb); have NN7 : Aside0 (w6.heap.size ≤ w7.heap.size) := ⟨hb.size⟩; clear U33_0 Bg3 Bg6 Bg7 HB; have U33_0 := n_U33_0; have Bg3 := n_Bg3; have Bg6 := n_Bg6; have Bg7 := n_Bg7; have HB := n_HB; clear n_U33_0 n_Bg3 n_Bg6 n_Bg7 n_HB; clear hb ho0; have U40_0 := nu0; clear nu0; obtain ⟨A40_0, c40_0, e0⟩ := Kd.R_slice U40_0.out; subst e0; have hc6_0 : w7.cell? ⟨g6, 0, none⟩ = some (.int .i64 0) := (blk_cell Bg6.out 0).trans rfl; have hf6_0 := blk_frozen Bg6.out 0; have hc6_1 : w7.cell? ⟨g6, 1, none⟩ = some (.int .i64 0) := (blk_cell Bg6.out 1).trans rfl; have hf6_1 := blk_frozen Bg6.out 1) | ((with_reducible refine gate_store (t := 65) (p := 6) rfl ?_); refine store_event (t := 65) (p := 6) (v := ?vo_w8) (w1 := ((w7.setCell ⟨g6, 0, none⟩ (.int .i64 0)).setCell ⟨g6, 1, none⟩ (.int .i64 0))) ?hg ?ho ?hn ?hr ?_; (case ho => rfl); (case hg => rfl); (case hn => rfl); (case hr => first | (go_simp; done) | (go_simp; rfl)); intro w8 hw; have hge : w.heap.size ≤ g6 := (by have := NN1.out; have := Gg3.out; have := Kg3.out; have := NN2.out; have := Gg6.out; have := Kg6.out; have := NN3.out; have := Gg7.out; have := Kg7.out; have := NN4.out; have := NN5.out; have := NN6.out; have := NN7.out; have := HB.out.size; omega); have hF : Frm w7 w8 g6 (g6 + 1) := (by rw [hw]; exact (Frm.trans (Frm.set _ _ _ _) (Frm.set _ _ _ _))); have nb := Aside0.mk (show w8.heap[g6]? = some (.cells #[.int .i64 0, .int .i64 0] 65 (0, 0)) from (by rw [hw]; exact (blk_put (blk_put Bg6.out 0 _ rfl) 1 _ rfl))); have n_U33_0 := Aside0.mk (U33_0.out.mv hF (by have := NN1.out; have := Gg3.out; have := Kg3.out; have := NN2.out; have := Gg6.out; have := Kg6.out; have := NN3.out; have := Gg7.out; have := Kg7.out; have := NN4.out; have := NN5.out; have := NN6.out; have := NN7.out; omega)); have n_U40_0 := Aside0.mk (U40_0.out.mv hF (by have := NN1.out; have := Gg3.out; have := Kg3.out; have := NN2.out; have := Gg6.out; have := Kg6.out; have := NN3.out; have := Gg7.out; have := Kg7.out; have := NN4.out; have := NN5.out; have := NN6.out; have := NN7.out; omega)); have n_Bg3 := Aside0.mk ((hF.same g3 (blk_lt Bg3.out) (by have := NN1.out; have := Gg3.out; have := Kg3.out; have := NN2.out; have := Gg6.out; have := Kg6.out; have := NN3.out; have := Gg7.out; have := Kg7.out; have := NN4.out; have := NN5.out; have := NN6.out; have := NN7.out; omega)).trans Bg3.out); have n_Bg7 := Aside0.mk ((hF.same g7 (blk_lt Bg7.out) (by have := NN1.out; have := Gg3.out; have := Kg3.out; have := NN2.out; have := Gg6.out; have := Kg6.out; have := NN3.out; have := Gg7.out; have := Kg7.out; have := NN4.out; have := NN5.out; have := NN6.out; have := NN7.out; omega)).trans Bg7.out); have n_HB := Aside0.mk ((by rw [hw]; exact (below_set (below_set HB.out hge) hge) : Below w.heap.size w w8)); have NN8 : Aside0 (w7.heap.size ≤ w8.heap.size) := ⟨hF.size⟩; clear hc6_0 hf6_0; clear hc6_1 hf6_1; clear U33_0 U40_0 Bg3 Bg7 HB; have U33_0 := n_U33_0; have U40_0 := n_U40_0; have Bg3 := n_Bg3; have Bg7 := n_Bg7; have HB := n_HB; clear n_U33_0 n_U40_0 n_Bg3 n_Bg7 n_HB; clear Bg6; have Bg6 := nb; clear nb hF hge hw; have hc7_0 : w8.cell? ⟨g7, 0, none⟩ = some (.int .i64 0) := (blk_cell Bg7.out 0).trans rfl; have hf7_0 := blk_frozen Bg7.out 0; have hc7_1 : w8.cell? ⟨g7, 1, none⟩ = some (.int .i64 0) := (blk_cell Bg7.out 1).trans rfl; have hf7_1 := blk_frozen Bg7.out 1) | ((with_reducible refine gate_store (t := 65) (p := 7) rfl ?_); refine store_event (t := 65) (p := 7) (v := ?vo_w9) (w1 := ((w8.setCell ⟨g7, 0, none⟩ (.int .i64 0)).setCell ⟨g7, 1, none⟩ (.int .i64 0))) ?hg ?ho ?hn ?hr ?_; (case ho => rfl); (case hg => rfl); (case hn => rfl); (case hr => first | (go_simp; done) | (go_simp; rfl)); intro w9 hw; have hge : w.heap.size ≤ g7 := (by have := NN1.out; have := Gg3.out; have := Kg3.out; have := NN2.out; have := Gg6.out; have := Kg6.out; have := NN3.out; have := Gg7.out; have := Kg7.out; have := NN4.out; have := NN5.out; have := NN6.out; have := NN7.out; have := NN8.out; have := HB.out.size; omega); have hF : Frm w8 w9 g7 (g7 + 1) := (by rw [hw]; exact (Frm.trans (Frm.set _ _ _ _) (Frm.set _ _ _ _))); have nb := Aside0.mk (show w9.heap[g7]? = some (.cells #[.int .i64 0, .int .i64 0] 65 (0, 0)) from (by rw [hw]; exact (blk_put (blk_put Bg7.out 0 _ rfl) 1 _ rfl))); have n_U33_0 := Aside0.mk (U33_0.out.mv hF (by have := NN1.out; have := Gg3.out; have := Kg3.out; have := NN2.out; have := Gg6.out; have := Kg6.out; have := NN3.out; have := Gg7.out; have := Kg7.out; have := NN4.out; have := NN5.out; have := NN6.out; have := NN7.out; have := NN8.out; omega)); have n_U40_0 := Aside0.mk (U40_0.out.mv hF (by have := NN1.out; have := Gg3.out; have := Kg3.out; have := NN2.out; have := Gg6.out; have := Kg6.out; have := NN3.out; have := Gg7.out; have := Kg7.out; have := NN4.out; have := NN5.out; have := NN6.out; have := NN7.out; have := NN8.out; omega)); have n_Bg3 := Aside0.mk ((hF.same g3 (blk_lt Bg3.out) (by have := NN1.out; have := Gg3.out; have := Kg3.out; have := NN2.out; have := Gg6.out; have := Kg6.out; have := NN3.out; have := Gg7.out; have := Kg7.out; have := NN4.out; have := NN5.out; have := NN6.out; have := NN7.out; have := NN8.out; omega)).trans Bg3.out); have n_Bg6 := Aside0.mk ((hF.same g6 (blk_lt Bg6.out) (by have := NN1.out; have := Gg3.out; have := Kg3.out; have := NN2.out; have := Gg6.out; have := Kg6.out; have := NN3.out; have := Gg7.out; have := Kg7.out; have := NN4.out; have := NN5.out; have := NN6.out; have := NN7.out; have := NN8.out; omega)).trans Bg6.out); have n_HB := Aside0.mk ((by rw [hw]; exact (below_set (below_set HB.out hge) hge) : Below w.heap.size w w9)); have NN9 : Aside0 (w8.heap.size ≤ w9.heap.size) := ⟨hF.size⟩; clear hc7_0 hf7_0; clear hc7_1 hf7_1; clear U33_0 U40_0 Bg3 Bg6 HB; have U33_0 := n_U33_0; have U40_0 := n_U40_0; have Bg3 := n_Bg3; have Bg6 := n_Bg6; have HB := n_HB; clear n_U33_0 n_U40_0 n_Bg3 n_Bg6 n_HB; clear Bg7; have Bg7 := nb; clear nb hF hge hw))
 refine bodyPost_ret (results_list (rs := [.cell 6 65, .cell 7 65, .tmp 8]) rfl (by simp) (.cell g6 65 #[.int .i64 0, .int .i64 0] (0, 0) _ rfl Bg6.out Try.underlying65 rfl (by kernel_rfl) (.cell g7 65 #[.int .i64 0, .int .i64 0] (0, 0) _ rfl Bg7.out Try.underlying65 rfl (by kernel_rfl) (.tmp .nil)))) rfl ?_
 exact ⟨rfl, HB.out⟩
theorem impl_PayoffsAt.way4 (k : Nat) (A0_0 : Option Addr) (c0_0 : Nat) (l0_0 : List (List Int)) (A0_1 : Option Addr) (c0_1 : Nat) (l0_1 : List (List Int)) (A1 : Option Addr) (c1 : Nat) (l1 : List (S65)) (A2 : Option Addr) (c2 : Nat) (l2 : List (S65)) (x27_0 : Int) (x27_1 : Int) (x33_0 : List Int) (x33_1 : Int) (x40_0 : List Int) (x40_1 : Int) (w : World) (hr0_0 : Kd.C (Kd.slice 2 (Kd.int .i64)) w A0_0 l0_0.length l0_0) (hc0_0 : l0_0.length ≤ c0_0) (hr0_1 : Kd.C (Kd.slice 2 (Kd.int .i64)) w A0_1 l0_1.length l0_1) (hc0_1 : l0_1.length ≤ c0_1) (hr1 : Kd.C k65 w A1 l1.length l1) (hc1 : l1.length ≤ c1) (hr2 : Kd.C k65 w A2 l2.length l2) (hc2 : l2.length ≤ c2) (h1 : impl_IsGame.f l0_0 l0_1 = some true) (h2 : impl_Game_sizes.f l0_0 l0_1 = some (x27_0, x27_1)) (h3 : impl_mix.f k l1 x27_0 = some (x33_0, x33_1, true)) (h4 : impl_mix.f k l2 x27_1 = some (x40_0, x40_1, true)) (q0 : ¬ (30000 : Int) < x33_1) (q1 : (30000 : Int) < x40_1) :
  Calls Try.prog 47 #[.agg #[.slice A0_0 l0_0.length c0_0, .slice A0_1 l0_1.length c0_1], .slice A1 l1.length c1, .slice A2 l2.length c2] w fun e w' => e = .returned (.tuple #[.agg #[.int .i64 0, .int .i64 0], .agg #[.int .i64 0, .int .i64 0], .int .i64 3]) ∧ Below w.heap.size w w' := by
 have HR0_0 := Aside0.mk hr0_0
 have HC0_0 := Aside0.mk hc0_0
 clear hr0_0 hc0_0
 have HR0_1 := Aside0.mk hr0_1
 have HC0_1 := Aside0.mk hc0_1
 clear hr0_1 hc0_1
 have HR1 := Aside0.mk hr1
 have HC1 := Aside0.mk hc1
 clear hr1 hc1
 have HR2 := Aside0.mk hr2
 have HC2 := Aside0.mk hc2
 clear hr2 hc2
 have HB := Aside0.mk (Below.refl w.heap.size w)
 have H1' := Aside0.mk h1
 clear h1
 have H2' := Aside0.mk h2
 clear h2
 have H3' := Aside0.mk h3
 clear h3
 have H4' := Aside0.mk h4
 clear h4
 go_enter Try.func47, Try.ntmps47
 go_wp2_with (first | ((with_reducible refine gate_dst (N := 3) rfl ?_); refine box_event ?hg (N := 3) ?hd (cs := #[.slice A0_0 l0_0.length c0_0, .slice A0_1 l0_1.length c0_1]) (t := 26) ?hr ?_; (case hd => rfl); (case hg => rfl); (case hr => first | (go_simp; done) | (go_simp; rfl)); intro g3 hg w1 hbox hb; have Gg3 : Aside0 (g3 = w.heap.size) := ⟨hg⟩; have Kg3 := Aside0.mk (blk_lt hbox); clear hg; have n_HB := Aside0.mk (below_step HB.out hb); have NN1 : Aside0 (w.heap.size ≤ w1.heap.size) := ⟨hb.size⟩; clear HB; have HB := n_HB; clear n_HB; have Bg3 := Aside0.mk hbox; clear hb hbox) | ((with_reducible refine gate_dst (N := 6) rfl ?_); refine box_event ?hg (N := 6) ?hd (cs := #[.int .i64 0, .int .i64 0]) (t := 65) ?hr ?_; (case hd => rfl); (case hg => rfl); (case hr => first | (go_simp; done) | (go_simp; rfl)); intro g6 hg w2 hbox hb; have Gg6 : Aside0 (g6 = w1.heap.size) := ⟨hg⟩; have Kg6 := Aside0.mk (blk_lt hbox); clear hg; have n_Bg3 := Aside0.mk (blk_below Bg3.out hb); have n_HB := Aside0.mk (below_step HB.out hb); have NN2 : Aside0 (w1.heap.size ≤ w2.heap.size) := ⟨hb.size⟩; clear Bg3 HB; have Bg3 := n_Bg3; have HB := n_HB; clear n_Bg3 n_HB; have Bg6 := Aside0.mk hbox; clear hb hbox) | ((with_reducible refine gate_dst (N := 7) rfl ?_); refine box_event ?hg (N := 7) ?hd (cs := #[.int .i64 0, .int .i64 0]) (t := 65) ?hr ?_; (case hd => rfl); (case hg => rfl); (case hr => first | (go_simp; done) | (go_simp; rfl)); intro g7 hg w3 hbox hb; have Gg7 : Aside0 (g7 = w2.heap.size) := ⟨hg⟩; have Kg7 := Aside0.mk (blk_lt hbox); clear hg; have n_Bg3 := Aside0.mk (blk_below Bg3.out hb); have n_Bg6 := Aside0.mk (blk_below Bg6.out hb); have n_HB := Aside0.mk (below_step HB.out hb); have NN3 : Aside0 (w2.heap.size ≤ w3.heap.size) := ⟨hb.size⟩; clear Bg3 Bg6 HB; have Bg3 := n_Bg3; have Bg6 := n_Bg6; have HB := n_HB; clear n_Bg3 n_Bg6 n_HB; have Bg7 := Aside0.mk hbox; clear hb hbox; have hc3_0 : w3.cell? ⟨g3, 0, none⟩ = some (.slice A0_0 l0_0.length c0_0) := (blk_cell Bg3.out 0).trans rfl; have hf3_0 := blk_frozen Bg3.out 0; have hc3_1 : w3.cell? ⟨g3, 1, none⟩ = some (.slice A0_1 l0_1.length c0_1) := (blk_cell Bg3.out 1).trans rfl; have hf3_1 := blk_frozen Bg3.out 1) | ((with_reducible refine gate_callee (f := 70) rfl ?_); refine goesL_ (some 21) rfl rfl Try.func70 (by kernel_rfl) rfl #[.agg #[.slice A0_0 l0_0.length c0_0, .slice A0_1 l0_1.length c0_1]] rfl (by (try simp only [List.map_toArray, List.map_cons, List.map_nil]); first | done | rfl) ?_; refine (impl_IsGame.calls _ _ l0_0 _ _ l0_1 true _ ?s1 ?s2 ?s3 ?s4 H1'.out).mono ?_; (case s1 => exact Kd.C_below HR0_0.out HB.out); (case s2 => exact HC0_0.out); (case s3 => exact Kd.C_below HR0_1.out HB.out); (case s4 => exact HC0_1.out); rintro e w4 ⟨rfl, hb⟩; refine ⟨_, rfl, ?_⟩; have n_Bg3 := Aside0.mk (blk_below Bg3.out hb); have n_Bg6 := Aside0.mk (blk_below Bg6.out hb); have n_Bg7 := Aside0.mk (blk_below Bg7.out hb); have n_HB := Aside0.mk (below_step HB.out hb); have NN4 : Aside0 (w3.heap.size ≤ w4.heap.size) := ⟨hb.size⟩; clear hc3_0 hf3_0; clear hc3_1 hf3_1; clear Bg3 Bg6 Bg7 HB; have Bg3 := n_Bg3; have Bg6 := n_Bg6; have Bg7 := n_Bg7; have HB := n_HB; clear n_Bg3 n_Bg6 n_Bg7 n_HB; clear hb; have hc3_0 : w4.cell? ⟨g3, 0, none⟩ = some (.slice A0_0 l0_0.length c0_0) := (blk_cell Bg3.out 0).trans rfl; have hf3_0 := blk_frozen Bg3.out 0; have hc3_1 : w4.cell? ⟨g3, 1, none⟩ = some (.slice A0_1 l0_1.length c0_1) := (blk_cell Bg3.out 1).trans rfl; have hf3_1 := blk_frozen Bg3.out 1) | ((with_reducible refine gate_callee (f := 80) rfl ?_); refine goesL_ (some 27) rfl rfl Try.func80 (by kernel_rfl) rfl #[.agg #[.slice A0_0 l0_0.length c0_0, .slice A0_1 l0_1.length c0_1]] rfl (by (try simp only [List.map_toArray, List.map_cons, List.map_nil]); first | done | rfl) ?_; refine (impl_Game_sizes.calls _ _ l0_0 _ _ l0_1 x27_0 x27_1 _ ?s1 ?s2 ?s3 ?s4 H2'.out).mono ?_; (case s1 => exact Kd.C_below HR0_0.out HB.out); (case s2 => exact HC0_0.out); (case s3 => exact Kd.C_below HR0_1.out HB.out); (case s4 => exact HC0_1.out); rintro e w5 ⟨rfl, hb⟩; refine ⟨_, rfl, ?_⟩; have n_Bg3 := Aside0.mk (blk_below Bg3.out hb); have n_Bg6 := Aside0.mk (blk_below Bg6.out hb); have n_Bg7 := Aside0.mk (blk_below Bg7.out hb); have n_HB := Aside0.mk (below_step HB.out hb); have NN5 : Aside0 (w4.heap.size ≤ w5.heap.size) := ⟨hb.size⟩; clear hc3_0 hf3_0; clear hc3_1 hf3_1; clear Bg3 Bg6 Bg7 HB; have Bg3 := n_Bg3; have Bg6 := n_Bg6; have Bg7 := n_Bg7; have HB := n_HB; clear n_Bg3 n_Bg6 n_Bg7 n_HB; clear hb) | ((with_reducible refine gate_callee (f := 99) rfl ?_); refine goesL_ (some 33) rfl rfl Try.func99 (by kernel_rfl) rfl #[.slice A1 l1.length c1, .int .i64 x27_0] rfl (by (try simp only [List.map_toArray, List.map_cons, List.map_nil]); first | done | rfl) ?_; refine (impl_mix.calls k _ _ l1 x27_0 x33_0 x33_1 true _ ?s1 ?s2 H3'.out).mono ?_; (case s1 => exact Kd.C_below HR1.out HB.out); (case s2 => exact HC1.out); rintro e w6 ⟨v33_0, rfl, ho0, hb⟩; refine ⟨_, rfl, ?_⟩; have nu0 := Aside0.mk (UR.of ho0 HB.out.size); have n_Bg3 := Aside0.mk (blk_below Bg3.out hb); have n_Bg6 := Aside0.mk (blk_below Bg6.out hb); have n_Bg7 := Aside0.mk (blk_below Bg7.out hb); have n_HB := Aside0.mk (below_step HB.out hb); have NN6 : Aside0 (w5.heap.size ≤ w6.heap.size) := ⟨hb.size⟩; clear Bg3 Bg6 Bg7 HB; have Bg3 := n_Bg3; have Bg6 := n_Bg6; have Bg7 := n_Bg7; have HB := n_HB; clear n_Bg3 n_Bg6 n_Bg7 n_HB; clear hb ho0; have U33_0 := nu0; clear nu0; obtain ⟨A33_0, c33_0, e0⟩ := Kd.R_slice U33_0.out; subst e0) | ((with_reducible refine gate_callee (f := 99) rfl ?_); refine goesL_ (some 40) rfl rfl Try.func99 (by kernel_rfl) rfl #[.slice A2 l2.length c2, .int .i64 x27_1] rfl (by (try simp only [List.map_toArray, List.map_cons, List.map_nil]); first | done | rfl) ?_; refine (impl_mix.calls k _ _ l2 x27_1 x40_0 x40_1 true _ ?s1 ?s2 H4'.out).mono ?_; (case s1 => exact Kd.C_below HR2.out HB.out); (case s2 => exact HC2.out); rintro e w7 ⟨v40_0, rfl, ho0, hb⟩; refine ⟨_, rfl, ?_⟩; have nu0 := Aside0.mk (UR.of ho0 HB.out.size); have n_U33_0 := Aside0.mk (U33_0.out.mvB (Frm.below hb)); have n_Bg3 := Aside0.mk (blk_below Bg3.out hb); have n_Bg6 := Aside0.mk (blk_below Bg6.out hb); have n_Bg7 := Aside0.mk (blk_below Bg7.out hb); have n_HB := Aside0.mk (below_step HB.out hb); have NN7 : Aside0 (w6.heap.size ≤ w7.heap.size) := ⟨hb.size⟩; clear U33_0 Bg3 Bg6 Bg7 HB; have U33_0 := n_U33_0; have Bg3 := n_Bg3; have Bg6 := n_Bg6; have Bg7 := n_Bg7; have HB := n_HB; clear n_U33_0 n_Bg3 n_Bg6 n_Bg7 n_HB; clear hb ho0; have U40_0 := nu0; clear nu0; obtain ⟨A40_0, c40_0, e0⟩ := Kd.R_slice U40_0.out; subst e0; have hc6_0 : w7.cell? ⟨g6, 0, none⟩ = some (.int .i64 0) := (blk_cell Bg6.out 0).trans rfl; have hf6_0 := blk_frozen Bg6.out 0; have hc6_1 : w7.cell? ⟨g6, 1, none⟩ = some (.int .i64 0) := (blk_cell Bg6.out 1).trans rfl; have hf6_1 := blk_frozen Bg6.out 1) | ((with_reducible refine gate_store (t := 65) (p := 6) rfl ?_); refine store_event (t := 65) (p := 6) (v := ?vo_w8) (w1 := ((w7.setCell ⟨g6, 0, none⟩ (.int .i64 0)).setCell ⟨g6, 1, none⟩ (.int .i64 0))) ?hg ?ho ?hn ?hr ?_; (case ho => rfl); (case hg => rfl); (case hn => rfl); (case hr => first | (go_simp; done) | (go_simp; rfl)); intro w8 hw; have hge : w.heap.size ≤ g6 := (by have := NN1.out; have := Gg3.out; have := Kg3.out; have := NN2.out; have := Gg6.out; have := Kg6.out; have := NN3.out; have := Gg7.out; have := Kg7.out; have := NN4.out; have := NN5.out; have := NN6.out; have := NN7.out; have := HB.out.size; omega); have hF : Frm w7 w8 g6 (g6 + 1) := (by rw [hw]; exact (Frm.trans (Frm.set _ _ _ _) (Frm.set _ _ _ _))); have nb := Aside0.mk (show w8.heap[g6]? = some (.cells #[.int .i64 0, .int .i64 0] 65 (0, 0)) from (by rw [hw]; exact (blk_put (blk_put Bg6.out 0 _ rfl) 1 _ rfl))); have n_U33_0 := Aside0.mk (U33_0.out.mv hF (by have := NN1.out; have := Gg3.out; have := Kg3.out; have := NN2.out; have := Gg6.out; have := Kg6.out; have := NN3.out; have := Gg7.out; have := Kg7.out; have := NN4.out; have := NN5.out; have := NN6.out; have := NN7.out; omega)); have n_U40_0 := Aside0.mk (U40_0.out.mv hF (by have := NN1.out; have := Gg3.out; have := Kg3.out; have := NN2.out; have := Gg6.out; have := Kg6.out; have := NN3.out; have := Gg7.out; have := Kg7.out; have := NN4.out; have := NN5.out; have := NN6.out; have := NN7.out; omega)); have n_Bg3 := Aside0.mk ((hF.same g3 (blk_lt Bg3.out) (by have := NN1.out; have := Gg3.out; have := Kg3.out; have := NN2.out; have := Gg6.out; have := Kg6.out; have := NN3.out; have := Gg7.out; have := Kg7.out; have := NN4.out; have := NN5.out; have := NN6.out; have := NN7.out; omega)).trans Bg3.out); have n_Bg7 := Aside0.mk ((hF.same g7 (blk_lt Bg7.out) (by have := NN1.out; have := Gg3.out; have := Kg3.out; have := NN2.out; have := Gg6.out; have := Kg6.out; have := NN3.out; have := Gg7.out; have := Kg7.out; have := NN4.out; have := NN5.out; have := NN6.out; have := NN7.out; omega)).trans Bg7.out); have n_HB := Aside0.mk ((by rw [hw]; exact (below_set (below_set HB.out hge) hge) : Below w.heap.size w w8)); have NN8 : Aside0 (w7.heap.size ≤ w8.heap.size) := ⟨hF.size⟩; clear hc6_0 hf6_0; clear hc6_1 hf6_1; clear U33_0 U40_0 Bg3 Bg7 HB; have U33_0 := n_U33_0; have U40_0 := n_U40_0; have Bg3 := n_Bg3; have Bg7 := n_Bg7; have HB := n_HB; clear n_U33_0 n_U40_0 n_Bg3 n_Bg7 n_HB; clear Bg6; have Bg6 := nb; clear nb hF hge hw; have hc7_0 : w8.cell? ⟨g7, 0, none⟩ = some (.int .i64 0) := (blk_cell Bg7.out 0).trans rfl; have hf7_0 := blk_frozen Bg7.out 0; have hc7_1 : w8.cell? ⟨g7, 1, none⟩ = some (.int .i64 0) := (blk_cell Bg7.out 1).trans rfl; have hf7_1 := blk_frozen Bg7.out 1) | ((with_reducible refine gate_store (t := 65) (p := 7) rfl ?_); refine store_event (t := 65) (p := 7) (v := ?vo_w9) (w1 := ((w8.setCell ⟨g7, 0, none⟩ (.int .i64 0)).setCell ⟨g7, 1, none⟩ (.int .i64 0))) ?hg ?ho ?hn ?hr ?_; (case ho => rfl); (case hg => rfl); (case hn => rfl); (case hr => first | (go_simp; done) | (go_simp; rfl)); intro w9 hw; have hge : w.heap.size ≤ g7 := (by have := NN1.out; have := Gg3.out; have := Kg3.out; have := NN2.out; have := Gg6.out; have := Kg6.out; have := NN3.out; have := Gg7.out; have := Kg7.out; have := NN4.out; have := NN5.out; have := NN6.out; have := NN7.out; have := NN8.out; have := HB.out.size; omega); have hF : Frm w8 w9 g7 (g7 + 1) := (by rw [hw]; exact (Frm.trans (Frm.set _ _ _ _) (Frm.set _ _ _ _))); have nb := Aside0.mk (show w9.heap[g7]? = some (.cells #[.int .i64 0, .int .i64 0] 65 (0, 0)) from (by rw [hw]; exact (blk_put (blk_put Bg7.out 0 _ rfl) 1 _ rfl))); have n_U33_0 := Aside0.mk (U33_0.out.mv hF (by have := NN1.out; have := Gg3.out; have := Kg3.out; have := NN2.out; have := Gg6.out; have := Kg6.out; have := NN3.out; have := Gg7.out; have := Kg7.out; have := NN4.out; have := NN5.out; have := NN6.out; have := NN7.out; have := NN8.out; omega)); have n_U40_0 := Aside0.mk (U40_0.out.mv hF (by have := NN1.out; have := Gg3.out; have := Kg3.out; have := NN2.out; have := Gg6.out; have := Kg6.out; have := NN3.out; have := Gg7.out; have := Kg7.out; have := NN4.out; have := NN5.out; have := NN6.out; have := NN7.out; have := NN8.out; omega)); have n_Bg3 := Aside0.mk ((hF.same g3 (blk_lt Bg3.out) (by have := NN1.out; have := Gg3.out; have := Kg3.out; have := NN2.out; have := Gg6.out; have := Kg6.out; have := NN3.out; have := Gg7.out; have := Kg7.out; have := NN4.out; have := NN5.out; have := NN6.out; have := NN7.out; have := NN8.out; omega)).trans Bg3.out); have n_Bg6 := Aside0.mk ((hF.same g6 (blk_lt Bg6.out) (by have := NN1.out; have := Gg3.out; have := Kg3.out; have := NN2.out; have := Gg6.out; have := Kg6.out; have := NN3.out; have := Gg7.out; have := Kg7.out; have := NN4.out; have := NN5.out; have := NN6.out; have := NN7.out; have := NN8.out; omega)).trans Bg6.out); have n_HB := Aside0.mk ((by rw [hw]; exact (below_set (below_set HB.out hge) hge) : Below w.heap.size w w9)); have NN9 : Aside0 (w8.heap.size ≤ w9.heap.size) := ⟨hF.size⟩; clear hc7_0 hf7_0; clear hc7_1 hf7_1; clear U33_0 U40_0 Bg3 Bg6 HB; have U33_0 := n_U33_0; have U40_0 := n_U40_0; have Bg3 := n_Bg3; have Bg6 := n_Bg6; have HB := n_HB; clear n_U33_0 n_U40_0 n_Bg3 n_Bg6 n_HB; clear Bg7; have Bg7 := nb; clear nb hF hge hw))
 refine bodyPost_ret (results_list (rs := [.cell 6 65, .cell 7 65, .tmp 8]) rfl (by simp) (.cell g6 65 #[.int .i64 0, .int .i64 0] (0, 0) _ rfl Bg6.out Try.underlying65 rfl (by kernel_rfl) (.cell g7 65 #[.int .i64 0, .int .i64 0] (0, 0) _ rfl Bg7.out Try.underlying65 rfl (by kernel_rfl) (.tmp .nil)))) rfl ?_
 exact ⟨rfl, HB.out⟩
theorem impl_PayoffsAt.way6 (k : Nat) (A0_0 : Option Addr) (c0_0 : Nat) (l0_0 : List (List Int)) (A0_1 : Option Addr) (c0_1 : Nat) (l0_1 : List (List Int)) (A1 : Option Addr) (c1 : Nat) (l1 : List (S65)) (A2 : Option Addr) (c2 : Nat) (l2 : List (S65)) (x27_0 : Int) (x27_1 : Int) (x33_0 : List Int) (x33_1 : Int) (x40_0 : List Int) (x40_1 : Int) (x65_0 : Int) (z68 : Int) (x69_0 : Int) (x69_1 : Int) (x69_2 : Int) (w : World) (hr0_0 : Kd.C (Kd.slice 2 (Kd.int .i64)) w A0_0 l0_0.length l0_0) (hc0_0 : l0_0.length ≤ c0_0) (hr0_1 : Kd.C (Kd.slice 2 (Kd.int .i64)) w A0_1 l0_1.length l0_1) (hc0_1 : l0_1.length ≤ c0_1) (hr1 : Kd.C k65 w A1 l1.length l1) (hc1 : l1.length ≤ c1) (hr2 : Kd.C k65 w A2 l2.length l2) (hc2 : l2.length ≤ c2) (h1 : impl_IsGame.f l0_0 l0_1 = some true) (h2 : impl_Game_sizes.f l0_0 l0_1 = some (x27_0, x27_1)) (h3 : impl_mix.f k l1 x27_0 = some (x33_0, x33_1, true)) (h4 : impl_mix.f k l2 x27_1 = some (x40_0, x40_1, true)) (h5 : impl_form.f k l0_0 x33_0 x40_0 = some x65_0) (h6 : impl_reduced.f k x65_0 z68 = some (x69_0, x69_1, x69_2)) (p68 : IntKind.i64.wrap (x33_1 * x40_1) = z68) (q0 : ¬ (30000 : Int) < x33_1) (q1 : ¬ (30000 : Int) < x40_1) (q2 : ¬ x69_2 = 0) :
  Calls Try.prog 47 #[.agg #[.slice A0_0 l0_0.length c0_0, .slice A0_1 l0_1.length c0_1], .slice A1 l1.length c1, .slice A2 l2.length c2] w fun e w' => e = .returned (.tuple #[.agg #[.int .i64 0, .int .i64 0], .agg #[.int .i64 0, .int .i64 0], .int .i64 x69_2]) ∧ Below w.heap.size w w' := by
 have HR0_0 := Aside0.mk hr0_0
 have HC0_0 := Aside0.mk hc0_0
 clear hr0_0 hc0_0
 have HR0_1 := Aside0.mk hr0_1
 have HC0_1 := Aside0.mk hc0_1
 clear hr0_1 hc0_1
 have HR1 := Aside0.mk hr1
 have HC1 := Aside0.mk hc1
 clear hr1 hc1
 have HR2 := Aside0.mk hr2
 have HC2 := Aside0.mk hc2
 clear hr2 hc2
 have HB := Aside0.mk (Below.refl w.heap.size w)
 have H1' := Aside0.mk h1
 clear h1
 have H2' := Aside0.mk h2
 clear h2
 have H3' := Aside0.mk h3
 clear h3
 have H4' := Aside0.mk h4
 clear h4
 have H5' := Aside0.mk h5
 clear h5
 have H6' := Aside0.mk h6
 clear h6
 go_enter Try.func47, Try.ntmps47
 go_wp2_with (first | ((with_reducible refine gate_dst (N := 3) rfl ?_); refine box_event ?hg (N := 3) ?hd (cs := #[.slice A0_0 l0_0.length c0_0, .slice A0_1 l0_1.length c0_1]) (t := 26) ?hr ?_; (case hd => rfl); (case hg => rfl); (case hr => first | (go_simp; done) | (go_simp; rfl)); intro g3 hg w1 hbox hb; have Gg3 : Aside0 (g3 = w.heap.size) := ⟨hg⟩; have Kg3 := Aside0.mk (blk_lt hbox); clear hg; have n_HB := Aside0.mk (below_step HB.out hb); have NN1 : Aside0 (w.heap.size ≤ w1.heap.size) := ⟨hb.size⟩; clear HB; have HB := n_HB; clear n_HB; have Bg3 := Aside0.mk hbox; clear hb hbox) | ((with_reducible refine gate_dst (N := 6) rfl ?_); refine box_event ?hg (N := 6) ?hd (cs := #[.int .i64 0, .int .i64 0]) (t := 65) ?hr ?_; (case hd => rfl); (case hg => rfl); (case hr => first | (go_simp; done) | (go_simp; rfl)); intro g6 hg w2 hbox hb; have Gg6 : Aside0 (g6 = w1.heap.size) := ⟨hg⟩; have Kg6 := Aside0.mk (blk_lt hbox); clear hg; have n_Bg3 := Aside0.mk (blk_below Bg3.out hb); have n_HB := Aside0.mk (below_step HB.out hb); have NN2 : Aside0 (w1.heap.size ≤ w2.heap.size) := ⟨hb.size⟩; clear Bg3 HB; have Bg3 := n_Bg3; have HB := n_HB; clear n_Bg3 n_HB; have Bg6 := Aside0.mk hbox; clear hb hbox) | ((with_reducible refine gate_dst (N := 7) rfl ?_); refine box_event ?hg (N := 7) ?hd (cs := #[.int .i64 0, .int .i64 0]) (t := 65) ?hr ?_; (case hd => rfl); (case hg => rfl); (case hr => first | (go_simp; done) | (go_simp; rfl)); intro g7 hg w3 hbox hb; have Gg7 : Aside0 (g7 = w2.heap.size) := ⟨hg⟩; have Kg7 := Aside0.mk (blk_lt hbox); clear hg; have n_Bg3 := Aside0.mk (blk_below Bg3.out hb); have n_Bg6 := Aside0.mk (blk_below Bg6.out hb); have n_HB := Aside0.mk (below_step HB.out hb); have NN3 : Aside0 (w2.heap.size ≤ w3.heap.size) := ⟨hb.size⟩; clear Bg3 Bg6 HB; have Bg3 := n_Bg3; have Bg6 := n_Bg6; have HB := n_HB; clear n_Bg3 n_Bg6 n_HB; have Bg7 := Aside0.mk hbox; clear hb hbox; have hc3_0 : w3.cell? ⟨g3, 0, none⟩ = some (.slice A0_0 l0_0.length c0_0) := (blk_cell Bg3.out 0).trans rfl; have hf3_0 := blk_frozen Bg3.out 0; have hc3_1 : w3.cell? ⟨g3, 1, none⟩ = some (.slice A0_1 l0_1.length c0_1) := (blk_cell Bg3.out 1).trans rfl; have hf3_1 := blk_frozen Bg3.out 1) | ((with_reducible refine gate_callee (f := 70) rfl ?_); refine goesL_ (some 21) rfl rfl Try.func70 (by kernel_rfl) rfl #[.agg #[.slice A0_0 l0_0.length c0_0, .slice A0_1 l0_1.length c0_1]] rfl (by (try simp only [List.map_toArray, List.map_cons, List.map_nil]); first | done | rfl) ?_; refine (impl_IsGame.calls _ _ l0_0 _ _ l0_1 true _ ?s1 ?s2 ?s3 ?s4 H1'.out).mono ?_; (case s1 => exact Kd.C_below HR0_0.out HB.out); (case s2 => exact HC0_0.out); (case s3 => exact Kd.C_below HR0_1.out HB.out); (case s4 => exact HC0_1.out); rintro e w4 ⟨rfl, hb⟩; refine ⟨_, rfl, ?_⟩; have n_Bg3 := Aside0.mk (blk_below Bg3.out hb); have n_Bg6 := Aside0.mk (blk_below Bg6.out hb); have n_Bg7 := Aside0.mk (blk_below Bg7.out hb); have n_HB := Aside0.mk (below_step HB.out hb); have NN4 : Aside0 (w3.heap.size ≤ w4.heap.size) := ⟨hb.size⟩; clear hc3_0 hf3_0; clear hc3_1 hf3_1; clear Bg3 Bg6 Bg7 HB; have Bg3 := n_Bg3; have Bg6 := n_Bg6; have Bg7 := n_Bg7; have HB := n_HB; clear n_Bg3 n_Bg6 n_Bg7 n_HB; clear hb; have hc3_0 : w4.cell? ⟨g3, 0, none⟩ = some (.slice A0_0 l0_0.length c0_0) := (blk_cell Bg3.out 0).trans rfl; have hf3_0 := blk_frozen Bg3.out 0; have hc3_1 : w4.cell? ⟨g3, 1, none⟩ = some (.slice A0_1 l0_1.length c0_1) := (blk_cell Bg3.out 1).trans rfl; have hf3_1 := blk_frozen Bg3.out 1) | ((with_reducible refine gate_callee (f := 80) rfl ?_); refine goesL_ (some 27) rfl rfl Try.func80 (by kernel_rfl) rfl #[.agg #[.slice A0_0 l0_0.length c0_0, .slice A0_1 l0_1.length c0_1]] rfl (by (try simp only [List.map_toArray, List.map_cons, List.map_nil]); first | done | rfl) ?_; refine (impl_Game_sizes.calls _ _ l0_0 _ _ l0_1 x27_0 x27_1 _ ?s1 ?s2 ?s3 ?s4 H2'.out).mono ?_; (case s1 => exact Kd.C_below HR0_0.out HB.out); (case s2 => exact HC0_0.out); (case s3 => exact Kd.C_below HR0_1.out HB.out); (case s4 => exact HC0_1.out); rintro e w5 ⟨rfl, hb⟩; refine ⟨_, rfl, ?_⟩; have n_Bg3 := Aside0.mk (blk_below Bg3.out hb); have n_Bg6 := Aside0.mk (blk_below Bg6.out hb); have n_Bg7 := Aside0.mk (blk_below Bg7.out hb); have n_HB := Aside0.mk (below_step HB.out hb); have NN5 : Aside0 (w4.heap.size ≤ w5.heap.size) := ⟨hb.size⟩; clear hc3_0 hf3_0; clear hc3_1 hf3_1; clear Bg3 Bg6 Bg7 HB; have Bg3 := n_Bg3; have Bg6 := n_Bg6; have Bg7 := n_Bg7; have HB := n_HB; clear n_Bg3 n_Bg6 n_Bg7 n_HB; clear hb) | ((with_reducible refine gate_callee (f := 99) rfl ?_); refine goesL_ (some 33) rfl rfl Try.func99 (by kernel_rfl) rfl #[.slice A1 l1.length c1, .int .i64 x27_0] rfl (by (try simp only [List.map_toArray, List.map_cons, List.map_nil]); first | done | rfl) ?_; refine (impl_mix.calls k _ _ l1 x27_0 x33_0 x33_1 true _ ?s1 ?s2 H3'.out).mono ?_; (case s1 => exact Kd.C_below HR1.out HB.out); (case s2 => exact HC1.out); rintro e w6 ⟨v33_0, rfl, ho0, hb⟩; refine ⟨_, rfl, ?_⟩; have nu0 := Aside0.mk (UR.of ho0 HB.out.size); have n_Bg3 := Aside0.mk (blk_below Bg3.out hb); have n_Bg6 := Aside0.mk (blk_below Bg6.out hb); have n_Bg7 := Aside0.mk (blk_below Bg7.out hb); have n_HB := Aside0.mk (below_step HB.out hb); have NN6 : Aside0 (w5.heap.size ≤ w6.heap.size) := ⟨hb.size⟩; clear Bg3 Bg6 Bg7 HB; have Bg3 := n_Bg3; have Bg6 := n_Bg6; have Bg7 := n_Bg7; have HB := n_HB; clear n_Bg3 n_Bg6 n_Bg7 n_HB; clear hb ho0; have U33_0 := nu0; clear nu0; obtain ⟨A33_0, c33_0, e0⟩ := Kd.R_slice U33_0.out; subst e0) | ((with_reducible refine gate_callee (f := 99) rfl ?_); refine goesL_ (some 40) rfl rfl Try.func99 (by kernel_rfl) rfl #[.slice A2 l2.length c2, .int .i64 x27_1] rfl (by (try simp only [List.map_toArray, List.map_cons, List.map_nil]); first | done | rfl) ?_; refine (impl_mix.calls k _ _ l2 x27_1 x40_0 x40_1 true _ ?s1 ?s2 H4'.out).mono ?_; (case s1 => exact Kd.C_below HR2.out HB.out); (case s2 => exact HC2.out); rintro e w7 ⟨v40_0, rfl, ho0, hb⟩; refine ⟨_, rfl, ?_⟩; have nu0 := Aside0.mk (UR.of ho0 HB.out.size); have n_U33_0 := Aside0.mk (U33_0.out.mvB (Frm.below hb)); have n_Bg3 := Aside0.mk (blk_below Bg3.out hb); have n_Bg6 := Aside0.mk (blk_below Bg6.out hb); have n_Bg7 := Aside0.mk (blk_below Bg7.out hb); have n_HB := Aside0.mk (below_step HB.out hb); have NN7 : Aside0 (w6.heap.size ≤ w7.heap.size) := ⟨hb.size⟩; clear U33_0 Bg3 Bg6 Bg7 HB; have U33_0 := n_U33_0; have Bg3 := n_Bg3; have Bg6 := n_Bg6; have Bg7 := n_Bg7; have HB := n_HB; clear n_U33_0 n_Bg3 n_Bg6 n_Bg7 n_HB; clear hb ho0; have U40_0 := nu0; clear nu0; obtain ⟨A40_0, c40_0, e0⟩ := Kd.R_slice U40_0.out; subst e0; have hc3_0 : w7.cell? ⟨g3, 0, none⟩ = some (.slice A0_0 l0_0.length c0_0) := (blk_cell Bg3.out 0).trans rfl; have hf3_0 := blk_frozen Bg3.out 0; have hc3_1 : w7.cell? ⟨g3, 1, none⟩ = some (.slice A0_1 l0_1.length c0_1) := (blk_cell Bg3.out 1).trans rfl; have hf3_1 := blk_frozen Bg3.out 1) | ((with_reducible refine gate_callee (f := 101) rfl ?_); refine goesL_ (some 65) rfl rfl Try.func101 (by kernel_rfl) rfl #[.slice A0_0 l0_0.length c0_0, .slice A33_0 x33_0.length c33_0, .slice A40_0 x40_0.length c40_0] rfl (by (try simp only [List.map_toArray, List.map_cons, List.map_nil]); first | done | rfl) ?_; refine (impl_form.calls k _ _ l0_0 _ _ x33_0 _ _ x40_0 x65_0 _ ?s1 ?s2 ?s3 ?s4 ?s5 ?s6 H5'.out).mono ?_; (case s1 => exact Kd.C_below HR0_0.out HB.out); (case s2 => exact HC0_0.out); (case s3 => exact UR.C U33_0.out); (case s4 => exact UR.cap U33_0.out); (case s5 => exact UR.C U40_0.out); (case s6 => exact UR.cap U40_0.out); rintro e w8 ⟨rfl, hb⟩; refine ⟨_, rfl, ?_⟩; have hb := hb.below; have n_U33_0 := Aside0.mk (U33_0.out.mvB (Frm.below hb)); have n_U40_0 := Aside0.mk (U40_0.out.mvB (Frm.below hb)); have n_Bg3 := Aside0.mk (blk_below Bg3.out hb); have n_Bg6 := Aside0.mk (blk_below Bg6.out hb); have n_Bg7 := Aside0.mk (blk_below Bg7.out hb); have n_HB := Aside0.mk (below_step HB.out hb); have NN8 : Aside0 (w7.heap.size ≤ w8.heap.size) := ⟨hb.size⟩; clear hc3_0 hf3_0; clear hc3_1 hf3_1; clear U33_0 U40_0 Bg3 Bg6 Bg7 HB; have U33_0 := n_U33_0; have U40_0 := n_U40_0; have Bg3 := n_Bg3; have Bg6 := n_Bg6; have Bg7 := n_Bg7; have HB := n_HB; clear n_U33_0 n_U40_0 n_Bg3 n_Bg6 n_Bg7 n_HB; clear hb) | ((with_reducible refine gate_callee (f := 100) rfl ?_); refine goesL_ (some 69) rfl rfl Try.func100 (by kernel_rfl) rfl #[.int .i64 x65_0, .int .i64 z68] rfl (by (try simp only [List.map_toArray, List.map_cons, List.map_nil]); first | done | rfl) ?_; refine (impl_reduced.calls k x65_0 z68 x69_0 x69_1 x69_2 _ H6'.out).mono ?_; rintro e w9 ⟨rfl, hb⟩; refine ⟨_, rfl, ?_⟩; have n_U33_0 := Aside0.mk (U33_0.out.mvB (Frm.below hb)); have n_U40_0 := Aside0.mk (U40_0.out.mvB (Frm.below hb)); have n_Bg3 := Aside0.mk (blk_below Bg3.out hb); have n_Bg6 := Aside0.mk (blk_below Bg6.out hb); have n_Bg7 := Aside0.mk (blk_below Bg7.out hb); have n_HB := Aside0.mk (below_step HB.out hb); have NN9 : Aside0 (w8.heap.size ≤ w9.heap.size) := ⟨hb.size⟩; clear U33_0 U40_0 Bg3 Bg6 Bg7 HB; have U33_0 := n_U33_0; have U40_0 := n_U40_0; have Bg3 := n_Bg3; have Bg6 := n_Bg6; have Bg7 := n_Bg7; have HB := n_HB; clear n_U33_0 n_U40_0 n_Bg3 n_Bg6 n_Bg7 n_HB; clear hb) | ((with_reducible refine gate_dst (N := 17) rfl ?_); refine box_event ?hg (N := 17) ?hd (cs := #[.int .i64 0, .int .i64 0]) (t := 65) ?hr ?_; (case hd => rfl); (case hg => rfl); (case hr => first | (go_simp; done) | (go_simp; rfl)); intro g17 hg w10 hbox hb; have Gg17 : Aside0 (g17 = w9.heap.size) := ⟨hg⟩; have Kg17 := Aside0.mk (blk_lt hbox); clear hg; have n_U33_0 := Aside0.mk (U33_0.out.mvB (Frm.below hb)); have n_U40_0 := Aside0.mk (U40_0.out.mvB (Frm.below hb)); have n_Bg3 := Aside0.mk (blk_below Bg3.out hb); have n_Bg6 := Aside0.mk (blk_below Bg6.out hb); have n_Bg7 := Aside0.mk (blk_below Bg7.out hb); have n_HB := Aside0.mk (below_step HB.out hb); have NN10 : Aside0 (w9.heap.size ≤ w10.heap.size) := ⟨hb.size⟩; clear U33_0 U40_0 Bg3 Bg6 Bg7 HB; have U33_0 := n_U33_0; have U40_0 := n_U40_0; have Bg3 := n_Bg3; have Bg6 := n_Bg6; have Bg7 := n_Bg7; have HB := n_HB; clear n_U33_0 n_U40_0 n_Bg3 n_Bg6 n_Bg7 n_HB; have Bg17 := Aside0.mk hbox; clear hb hbox; have hc17_0 : w10.cell? ⟨g17, 0, none⟩ = some (.int .i64 0) := (blk_cell Bg17.out 0).trans rfl; have hf17_0 := blk_frozen Bg17.out 0; have hc17_1 : w10.cell? ⟨g17, 1, none⟩ = some (.int .i64 0) := (blk_cell Bg17.out 1).trans rfl; have hf17_1 := blk_frozen Bg17.out 1) | ((with_reducible refine gate_store (t := 65) (p := 17) rfl ?_); refine store_event (t := 65) (p := 17) (v := ?vo_w11) (w1 := ((w10.setCell ⟨g17, 0, none⟩ (.int .i64 x69_0)).setCell ⟨g17, 1, none⟩ (.int .i64 x69_1))) ?hg ?ho ?hn ?hr ?_; (case ho => rfl); (case hg => rfl); (case hn => rfl); (case hr => first | (go_simp; done) | (go_simp; rfl)); intro w11 hw; have hge : w.heap.size ≤ g17 := (by have := NN1.out; have := Gg3.out; have := Kg3.out; have := NN2.out; have := Gg6.out; have := Kg6.out; have := NN3.out; have := Gg7.out; have := Kg7.out; have := NN4.out; have := NN5.out; have := NN6.out; have := NN7.out; have := NN8.out; have := NN9.out; have := NN10.out; have := Gg17.out; have := Kg17.out; have := HB.out.size; omega); have hF : Frm w10 w11 g17 (g17 + 1) := (by rw [hw]; exact (Frm.trans (Frm.set _ _ _ _) (Frm.set _ _ _ _))); have nb := Aside0.mk (show w11.heap[g17]? = some (.cells #[.int .i64 x69_0, .int .i64 x69_1] 65 (0, 0)) from (by rw [hw]; exact (blk_put (blk_put Bg17.out 0 _ rfl) 1 _ rfl))); have n_U33_0 := Aside0.mk (U33_0.out.mv hF (by have := NN1.out; have := Gg3.out; have := Kg3.out; have := NN2.out; have := Gg6.out; have := Kg6.out; have := NN3.out; have := Gg7.out; have := Kg7.out; have := NN4.out; have := NN5.out; have := NN6.out; have := NN7.out; have := NN8.out; have := NN9.out; have := NN10.out; have := Gg17.out; have := Kg17.out; omega)); have n_U40_0 := Aside0.mk (U40_0.out.mv hF (by have := NN1.out; have := Gg3.out; have := Kg3.out; have := NN2.out; have := Gg6.out; have := Kg6.out; have := NN3.out; have := Gg7.out; have := Kg7.out; have := NN4.out; have := NN5.out; have := NN6.out; have := NN7.out; have := NN8.out; have := NN9.out; have := NN10.out; have := Gg17.out; have := Kg17.out; omega)); have n_Bg3 := Aside0.mk ((hF.same g3 (blk_lt Bg3.out) (by have := NN1.out; have := Gg3.out; have := Kg3.out; have := NN2.out; have := Gg6.out; have := Kg6.out; have := NN3.out; have := Gg7.out; have := Kg7.out; have := NN4.out; have := NN5.out; have := NN6.out; have := NN7.out; have := NN8.out; have := NN9.out; have := NN10.out; have := Gg17.out; have := Kg17.out; omega)).trans Bg3.out); have n_Bg6 := Aside0.mk ((hF.same g6 (blk_lt Bg6.out) (by have := NN1.out; have := Gg3.out; have := Kg3.out; have := NN2.out; have := Gg6.out; have := Kg6.out; have := NN3.out; have := Gg7.out; have := Kg7.out; have := NN4.out; have := NN5.out; have := NN6.out; have := NN7.out; have := NN8.out; have := NN9.out; have := NN10.out; have := Gg17.out; have := Kg17.out; omega)).trans Bg6.out); have n_Bg7 := Aside0.mk ((hF.same g7 (blk_lt Bg7.out) (by have := NN1.out; have := Gg3.out; have := Kg3.out; have := NN2.out; have := Gg6.out; have := Kg6.out; have := NN3.out; have := Gg7.out; have := Kg7.out; have := NN4.out; have := NN5.out; have := NN6.out; have := NN7.out; have := NN8.out; have := NN9.out; have := NN10.out; have := Gg17.out; have := Kg17.out; omega)).trans Bg7.out); have n_HB := Aside0.mk ((by rw [hw]; exact (below_set (below_set HB.out hge) hge) : Below w.heap.size w w11)); have NN11 : Aside0 (w10.heap.size ≤ w11.heap.size) := ⟨hF.size⟩; clear hc17_0 hf17_0; clear hc17_1 hf17_1; clear U33_0 U40_0 Bg3 Bg6 Bg7 HB; have U33_0 := n_U33_0; have U40_0 := n_U40_0; have Bg3 := n_Bg3; have Bg6 := n_Bg6; have Bg7 := n_Bg7; have HB := n_HB; clear n_U33_0 n_U40_0 n_Bg3 n_Bg6 n_Bg7 n_HB; clear Bg17; have Bg17 := nb; clear nb hF hge hw; have hc6_0 : w11.cell? ⟨g6, 0, none⟩ = some (.int .i64 0) := (blk_cell Bg6.out 0).trans rfl; have hf6_0 := blk_frozen Bg6.out 0; have hc6_1 : w11.cell? ⟨g6, 1, none⟩ = some (.int .i64 0) := (blk_cell Bg6.out 1).trans rfl; have hf6_1 := blk_frozen Bg6.out 1) | ((with_reducible refine gate_store (t := 65) (p := 6) rfl ?_); refine store_event (t := 65) (p := 6) (v := ?vo_w12) (w1 := ((w11.setCell ⟨g6, 0, none⟩ (.int .i64 0)).setCell ⟨g6, 1, none⟩ (.int .i64 0))) ?hg ?ho ?hn ?hr ?_; (case ho => rfl); (case hg => rfl); (case hn => rfl); (case hr => first | (go_simp; done) | (go_simp; rfl)); intro w12 hw; have hge : w.heap.size ≤ g6 := (by have := NN1.out; have := Gg3.out; have := Kg3.out; have := NN2.out; have := Gg6.out; have := Kg6.out; have := NN3.out; have := Gg7.out; have := Kg7.out; have := NN4.out; have := NN5.out; have := NN6.out; have := NN7.out; have := NN8.out; have := NN9.out; have := NN10.out; have := Gg17.out; have := Kg17.out; have := NN11.out; have := HB.out.size; omega); have hF : Frm w11 w12 g6 (g6 + 1) := (by rw [hw]; exact (Frm.trans (Frm.set _ _ _ _) (Frm.set _ _ _ _))); have nb := Aside0.mk (show w12.heap[g6]? = some (.cells #[.int .i64 0, .int .i64 0] 65 (0, 0)) from (by rw [hw]; exact (blk_put (blk_put Bg6.out 0 _ rfl) 1 _ rfl))); have n_U33_0 := Aside0.mk (U33_0.out.mv hF (by have := NN1.out; have := Gg3.out; have := Kg3.out; have := NN2.out; have := Gg6.out; have := Kg6.out; have := NN3.out; have := Gg7.out; have := Kg7.out; have := NN4.out; have := NN5.out; have := NN6.out; have := NN7.out; have := NN8.out; have := NN9.out; have := NN10.out; have := Gg17.out; have := Kg17.out; have := NN11.out; omega)); have n_U40_0 := Aside0.mk (U40_0.out.mv hF (by have := NN1.out; have := Gg3.out; have := Kg3.out; have := NN2.out; have := Gg6.out; have := Kg6.out; have := NN3.out; have := Gg7.out; have := Kg7.out; have := NN4.out; have := NN5.out; have := NN6.out; have := NN7.out; have := NN8.out; have := NN9.out; have := NN10.out; have := Gg17.out; have := Kg17.out; have := NN11.out; omega)); have n_Bg3 := Aside0.mk ((hF.same g3 (blk_lt Bg3.out) (by have := NN1.out; have := Gg3.out; have := Kg3.out; have := NN2.out; have := Gg6.out; have := Kg6.out; have := NN3.out; have := Gg7.out; have := Kg7.out; have := NN4.out; have := NN5.out; have := NN6.out; have := NN7.out; have := NN8.out; have := NN9.out; have := NN10.out; have := Gg17.out; have := Kg17.out; have := NN11.out; omega)).trans Bg3.out); have n_Bg7 := Aside0.mk ((hF.same g7 (blk_lt Bg7.out) (by have := NN1.out; have := Gg3.out; have := Kg3.out; have := NN2.out; have := Gg6.out; have := Kg6.out; have := NN3.out; have := Gg7.out; have := Kg7.out; have := NN4.out; have := NN5.out; have := NN6.out; have := NN7.out; have := NN8.out; have := NN9.out; have := NN10.out; have := Gg17.out; have := Kg17.out; have := NN11.out; omega)).trans Bg7.out); have n_Bg17 := Aside0.mk ((hF.same g17 (blk_lt Bg17.out) (by have := NN1.out; have := Gg3.out; have := Kg3.out; have := NN2.out; have := Gg6.out; have := Kg6.out; have := NN3.out; have := Gg7.out; have := Kg7.out; have := NN4.out; have := NN5.out; have := NN6.out; have := NN7.out; have := NN8.out; have := NN9.out; have := NN10.out; have := Gg17.out; have := Kg17.out; have := NN11.out; omega)).trans Bg17.out); have n_HB := Aside0.mk ((by rw [hw]; exact (below_set (below_set HB.out hge) hge) : Below w.heap.size w w12)); have NN12 : Aside0 (w11.heap.size ≤ w12.heap.size) := ⟨hF.size⟩; clear hc6_0 hf6_0; clear hc6_1 hf6_1; clear U33_0 U40_0 Bg3 Bg7 Bg17 HB; have U33_0 := n_U33_0; have U40_0 := n_U40_0; have Bg3 := n_Bg3; have Bg7 := n_Bg7; have Bg17 := n_Bg17; have HB := n_HB; clear n_U33_0 n_U40_0 n_Bg3 n_Bg7 n_Bg17 n_HB; clear Bg6; have Bg6 := nb; clear nb hF hge hw; have hc7_0 : w12.cell? ⟨g7, 0, none⟩ = some (.int .i64 0) := (blk_cell Bg7.out 0).trans rfl; have hf7_0 := blk_frozen Bg7.out 0; have hc7_1 : w12.cell? ⟨g7, 1, none⟩ = some (.int .i64 0) := (blk_cell Bg7.out 1).trans rfl; have hf7_1 := blk_frozen Bg7.out 1) | ((with_reducible refine gate_store (t := 65) (p := 7) rfl ?_); refine store_event (t := 65) (p := 7) (v := ?vo_w13) (w1 := ((w12.setCell ⟨g7, 0, none⟩ (.int .i64 0)).setCell ⟨g7, 1, none⟩ (.int .i64 0))) ?hg ?ho ?hn ?hr ?_; (case ho => rfl); (case hg => rfl); (case hn => rfl); (case hr => first | (go_simp; done) | (go_simp; rfl)); intro w13 hw; have hge : w.heap.size ≤ g7 := (by have := NN1.out; have := Gg3.out; have := Kg3.out; have := NN2.out; have := Gg6.out; have := Kg6.out; have := NN3.out; have := Gg7.out; have := Kg7.out; have := NN4.out; have := NN5.out; have := NN6.out; have := NN7.out; have := NN8.out; have := NN9.out; have := NN10.out; have := Gg17.out; have := Kg17.out; have := NN11.out; have := NN12.out; have := HB.out.size; omega); have hF : Frm w12 w13 g7 (g7 + 1) := (by rw [hw]; exact (Frm.trans (Frm.set _ _ _ _) (Frm.set _ _ _ _))); have nb := Aside0.mk (show w13.heap[g7]? = some (.cells #[.int .i64 0, .int .i64 0] 65 (0, 0)) from (by rw [hw]; exact (blk_put (blk_put Bg7.out 0 _ rfl) 1 _ rfl))); have n_U33_0 := Aside0.mk (U33_0.out.mv hF (by have := NN1.out; have := Gg3.out; have := Kg3.out; have := NN2.out; have := Gg6.out; have := Kg6.out; have := NN3.out; have := Gg7.out; have := Kg7.out; have := NN4.out; have := NN5.out; have := NN6.out; have := NN7.out; have := NN8.out; have := NN9.out; have := NN10.out; have := Gg17.out; have := Kg17.out; have := NN11.out; have := NN12.out; omega)); have n_U40_0 := Aside0.mk (U40_0.out.mv hF (by have := NN1.out; have := Gg3.out; have := Kg3.out; have := NN2.out; have := Gg6.out; have := Kg6.out; have := NN3.out; have := Gg7.out; have := Kg7.out; have := NN4.out; have := NN5.out; have := NN6.out; have := NN7.out; have := NN8.out; have := NN9.out; have := NN10.out; have := Gg17.out; have := Kg17.out; have := NN11.out; have := NN12.out; omega)); have n_Bg3 := Aside0.mk ((hF.same g3 (blk_lt Bg3.out) (by have := NN1.out; have := Gg3.out; have := Kg3.out; have := NN2.out; have := Gg6.out; have := Kg6.out; have := NN3.out; have := Gg7.out; have := Kg7.out; have := NN4.out; have := NN5.out; have := NN6.out; have := NN7.out; have := NN8.out; have := NN9.out; have := NN10.out; have := Gg17.out; have := Kg17.out; have := NN11.out; have := NN12.out; omega)).trans Bg3.out); have n_Bg6 := Aside0.mk ((hF.same g6 (blk_lt Bg6.out) (by have := NN1.out; have := Gg3.out; have := Kg3.out; have := NN2.out; have := Gg6.out; have := Kg6.out; have := NN3.out; have := Gg7.out; have := Kg7.out; have := NN4.out; have := NN5.out; have := NN6.out; have := NN7.out; have := NN8.out; have := NN9.out; have := NN10.out; have := Gg17.out; have := Kg17.out; have := NN11.out; have := NN12.out; omega)).trans Bg6.out); have n_Bg17 := Aside0.mk ((hF.same g17 (blk_lt Bg17.out) (by have := NN1.out; have := Gg3.out; have := Kg3.out; have := NN2.out; have := Gg6.out; have := Kg6.out; have := NN3.out; have := Gg7.out; have := Kg7.out; have := NN4.out; have := NN5.out; have := NN6.out; have := NN7.out; have := NN8.out; have := NN9.out; have := NN10.out; have := Gg17.out; have := Kg17.out; have := NN11.out; have := NN12.out; omega)).trans Bg17.out); have n_HB := Aside0.mk ((by rw [hw]; exact (below_set (below_set HB.out hge) hge) : Below w.heap.size w w13)); have NN13 : Aside0 (w12.heap.size ≤ w13.heap.size) := ⟨hF.size⟩; clear hc7_0 hf7_0; clear hc7_1 hf7_1; clear U33_0 U40_0 Bg3 Bg6 Bg17 HB; have U33_0 := n_U33_0; have U40_0 := n_U40_0; have Bg3 := n_Bg3; have Bg6 := n_Bg6; have Bg17 := n_Bg17; have HB := n_HB; clear n_U33_0 n_U40_0 n_Bg3 n_Bg6 n_Bg17 n_HB; clear Bg7; have Bg7 := nb; clear nb hF hge hw))
 refine bodyPost_ret (results_list (rs := [.cell 6 65, .cell 7 65, .tmp 8]) rfl (by simp) (.cell g6 65 #[.int .i64 0, .int .i64 0] (0, 0) _ rfl Bg6.out Try.underlying65 rfl (by kernel_rfl) (.cell g7 65 #[.int .i64 0, .int .i64 0] (0, 0) _ rfl Bg7.out Try.underlying65 rfl (by kernel_rfl) (.tmp .nil)))) rfl ?_
 exact ⟨rfl, HB.out⟩
theorem impl_PayoffsAt.way7 (k : Nat) (A0_0 : Option Addr) (c0_0 : Nat) (l0_0 : List (List Int)) (A0_1 : Option Addr) (c0_1 : Nat) (l0_1 : List (List Int)) (A1 : Option Addr) (c1 : Nat) (l1 : List (S65)) (A2 : Option Addr) (c2 : Nat) (l2 : List (S65)) (x27_0 : Int) (x27_1 : Int) (x33_0 : List Int) (x33_1 : Int) (x40_0 : List Int) (x40_1 : Int) (x65_0 : Int) (z68 : Int) (x69_0 : Int) (x69_1 : Int) (x69_2 : Int) (x82_0 : Int) (x86_0 : Int) (x86_1 : Int) (x86_2 : Int) (w : World) (hr0_0 : Kd.C (Kd.slice 2 (Kd.int .i64)) w A0_0 l0_0.length l0_0) (hc0_0 : l0_0.length ≤ c0_0) (hr0_1 : Kd.C (Kd.slice 2 (Kd.int .i64)) w A0_1 l0_1.length l0_1) (hc0_1 : l0_1.length ≤ c0_1) (hr1 : Kd.C k65 w A1 l1.length l1) (hc1 : l1.length ≤ c1) (hr2 : Kd.C k65 w A2 l2.length l2) (hc2 : l2.length ≤ c2) (h1 : impl_IsGame.f l0_0 l0_1 = some true) (h2 : impl_Game_sizes.f l0_0 l0_1 = some (x27_0, x27_1)) (h3 : impl_mix.f k l1 x27_0 = some (x33_0, x33_1, true)) (h4 : impl_mix.f k l2 x27_1 = some (x40_0, x40_1, true)) (h5 : impl_form.f k l0_0 x33_0 x40_0 = some x65_0) (h6 : impl_reduced.f k x65_0 z68 = some (x69_0, x69_1, x69_2)) (h7 : impl_form.f k l0_1 x33_0 x40_0 = some x82_0) (h8 : impl_reduced.f k x82_0 z68 = some (x86_0, x86_1, x86_2)) (p68 : IntKind.i64.wrap (x33_1 * x40_1) = z68) (q0 : ¬ (30000 : Int) < x33_1) (q1 : ¬ (30000 : Int) < x40_1) (q2 : x69_2 = 0) (q3 : ¬ x86_2 = 0) :
  Calls Try.prog 47 #[.agg #[.slice A0_0 l0_0.length c0_0, .slice A0_1 l0_1.length c0_1], .slice A1 l1.length c1, .slice A2 l2.length c2] w fun e w' => e = .returned (.tuple #[.agg #[.int .i64 0, .int .i64 0], .agg #[.int .i64 0, .int .i64 0], .int .i64 x86_2]) ∧ Below w.heap.size w w' := by
 have HR0_0 := Aside0.mk hr0_0
 have HC0_0 := Aside0.mk hc0_0
 clear hr0_0 hc0_0
 have HR0_1 := Aside0.mk hr0_1
 have HC0_1 := Aside0.mk hc0_1
 clear hr0_1 hc0_1
 have HR1 := Aside0.mk hr1
 have HC1 := Aside0.mk hc1
 clear hr1 hc1
 have HR2 := Aside0.mk hr2
 have HC2 := Aside0.mk hc2
 clear hr2 hc2
 have HB := Aside0.mk (Below.refl w.heap.size w)
 have H1' := Aside0.mk h1
 clear h1
 have H2' := Aside0.mk h2
 clear h2
 have H3' := Aside0.mk h3
 clear h3
 have H4' := Aside0.mk h4
 clear h4
 have H5' := Aside0.mk h5
 clear h5
 have H6' := Aside0.mk h6
 clear h6
 have H7' := Aside0.mk h7
 clear h7
 have H8' := Aside0.mk h8
 clear h8
 go_enter Try.func47, Try.ntmps47
 go_wp2_with (first | ((with_reducible refine gate_dst (N := 3) rfl ?_); refine box_event ?hg (N := 3) ?hd (cs := #[.slice A0_0 l0_0.length c0_0, .slice A0_1 l0_1.length c0_1]) (t := 26) ?hr ?_; (case hd => rfl); (case hg => rfl); (case hr => first | (go_simp; done) | (go_simp; rfl)); intro g3 hg w1 hbox hb; have Gg3 : Aside0 (g3 = w.heap.size) := ⟨hg⟩; have Kg3 := Aside0.mk (blk_lt hbox); clear hg; have n_HB := Aside0.mk (below_step HB.out hb); have NN1 : Aside0 (w.heap.size ≤ w1.heap.size) := ⟨hb.size⟩; clear HB; have HB := n_HB; clear n_HB; have Bg3 := Aside0.mk hbox; clear hb hbox) | ((with_reducible refine gate_dst (N := 6) rfl ?_); refine box_event ?hg (N := 6) ?hd (cs := #[.int .i64 0, .int .i64 0]) (t := 65) ?hr ?_; (case hd => rfl); (case hg => rfl); (case hr => first | (go_simp; done) | (go_simp; rfl)); intro g6 hg w2 hbox hb; have Gg6 : Aside0 (g6 = w1.heap.size) := ⟨hg⟩; have Kg6 := Aside0.mk (blk_lt hbox); clear hg; have n_Bg3 := Aside0.mk (blk_below Bg3.out hb); have n_HB := Aside0.mk (below_step HB.out hb); have NN2 : Aside0 (w1.heap.size ≤ w2.heap.size) := ⟨hb.size⟩; clear Bg3 HB; have Bg3 := n_Bg3; have HB := n_HB; clear n_Bg3 n_HB; have Bg6 := Aside0.mk hbox; clear hb hbox) | ((with_reducible refine gate_dst (N := 7) rfl ?_); refine box_event ?hg (N := 7) ?hd (cs := #[.int .i64 0, .int .i64 0]) (t := 65) ?hr ?_; (case hd => rfl); (case hg => rfl); (case hr => first | (go_simp; done) | (go_simp; rfl)); intro g7 hg w3 hbox hb; have Gg7 : Aside0 (g7 = w2.heap.size) := ⟨hg⟩; have Kg7 := Aside0.mk (blk_lt hbox); clear hg; have n_Bg3 := Aside0.mk (blk_below Bg3.out hb); have n_Bg6 := Aside0.mk (blk_below Bg6.out hb); have n_HB := Aside0.mk (below_step HB.out hb); have NN3 : Aside0 (w2.heap.size ≤ w3.heap.size) := ⟨hb.size⟩; clear Bg3 Bg6 HB; have Bg3 := n_Bg3; have Bg6 := n_Bg6; have HB := n_HB; clear n_Bg3 n_Bg6 n_HB; have Bg7 := Aside0.mk hbox; clear hb hbox; have hc3_0 : w3.cell? ⟨g3, 0, none⟩ = some (.slice A0_0 l0_0.length c0_0) := (blk_cell Bg3.out 0).trans rfl; have hf3_0 := blk_frozen Bg3.out 0; have hc3_1 : w3.cell? ⟨g3, 1, none⟩ = some (.slice A0_1 l0_1.length c0_1) := (blk_cell Bg3.out 1).trans rfl; have hf3_1 := blk_frozen Bg3.out 1) | ((with_reducible refine gate_callee (f := 70) rfl ?_); refine goesL_ (some 21) rfl rfl Try.func70 (by kernel_rfl) rfl #[.agg #[.slice A0_0 l0_0.length c0_0, .slice A0_1 l0_1.length c0_1]] rfl (by (try simp only [List.map_toArray, List.map_cons, List.map_nil]); first | done | rfl) ?_; refine (impl_IsGame.calls _ _ l0_0 _ _ l0_1 true _ ?s1 ?s2 ?s3 ?s4 H1'.out).mono ?_; (case s1 => exact Kd.C_below HR0_0.out HB.out); (case s2 => exact HC0_0.out); (case s3 => exact Kd.C_below HR0_1.out HB.out); (case s4 => exact HC0_1.out); rintro e w4 ⟨rfl, hb⟩; refine ⟨_, rfl, ?_⟩; have n_Bg3 := Aside0.mk (blk_below Bg3.out hb); have n_Bg6 := Aside0.mk (blk_below Bg6.out hb); have n_Bg7 := Aside0.mk (blk_below Bg7.out hb); have n_HB := Aside0.mk (below_step HB.out hb); have NN4 : Aside0 (w3.heap.size ≤ w4.heap.size) := ⟨hb.size⟩; clear hc3_0 hf3_0; clear hc3_1 hf3_1; clear Bg3 Bg6 Bg7 HB; have Bg3 := n_Bg3; have Bg6 := n_Bg6; have Bg7 := n_Bg7; have HB := n_HB; clear n_Bg3 n_Bg6 n_Bg7 n_HB; clear hb; have hc3_0 : w4.cell? ⟨g3, 0, none⟩ = some (.slice A0_0 l0_0.length c0_0) := (blk_cell Bg3.out 0).trans rfl; have hf3_0 := blk_frozen Bg3.out 0; have hc3_1 : w4.cell? ⟨g3, 1, none⟩ = some (.slice A0_1 l0_1.length c0_1) := (blk_cell Bg3.out 1).trans rfl; have hf3_1 := blk_frozen Bg3.out 1) | ((with_reducible refine gate_callee (f := 80) rfl ?_); refine goesL_ (some 27) rfl rfl Try.func80 (by kernel_rfl) rfl #[.agg #[.slice A0_0 l0_0.length c0_0, .slice A0_1 l0_1.length c0_1]] rfl (by (try simp only [List.map_toArray, List.map_cons, List.map_nil]); first | done | rfl) ?_; refine (impl_Game_sizes.calls _ _ l0_0 _ _ l0_1 x27_0 x27_1 _ ?s1 ?s2 ?s3 ?s4 H2'.out).mono ?_; (case s1 => exact Kd.C_below HR0_0.out HB.out); (case s2 => exact HC0_0.out); (case s3 => exact Kd.C_below HR0_1.out HB.out); (case s4 => exact HC0_1.out); rintro e w5 ⟨rfl, hb⟩; refine ⟨_, rfl, ?_⟩; have n_Bg3 := Aside0.mk (blk_below Bg3.out hb); have n_Bg6 := Aside0.mk (blk_below Bg6.out hb); have n_Bg7 := Aside0.mk (blk_below Bg7.out hb); have n_HB := Aside0.mk (below_step HB.out hb); have NN5 : Aside0 (w4.heap.size ≤ w5.heap.size) := ⟨hb.size⟩; clear hc3_0 hf3_0; clear hc3_1 hf3_1; clear Bg3 Bg6 Bg7 HB; have Bg3 := n_Bg3; have Bg6 := n_Bg6; have Bg7 := n_Bg7; have HB := n_HB; clear n_Bg3 n_Bg6 n_Bg7 n_HB; clear hb) | ((with_reducible refine gate_callee (f := 99) rfl ?_); refine goesL_ (some 33) rfl rfl Try.func99 (by kernel_rfl) rfl #[.slice A1 l1.length c1, .int .i64 x27_0] rfl (by (try simp only [List.map_toArray, List.map_cons, List.map_nil]); first | done | rfl) ?_; refine (impl_mix.calls k _ _ l1 x27_0 x33_0 x33_1 true _ ?s1 ?s2 H3'.out).mono ?_; (case s1 => exact Kd.C_below HR1.out HB.out); (case s2 => exact HC1.out); rintro e w6 ⟨v33_0, rfl, ho0, hb⟩; refine ⟨_, rfl, ?_⟩; have nu0 := Aside0.mk (UR.of ho0 HB.out.size); have n_Bg3 := Aside0.mk (blk_below Bg3.out hb); have n_Bg6 := Aside0.mk (blk_below Bg6.out hb); have n_Bg7 := Aside0.mk (blk_below Bg7.out hb); have n_HB := Aside0.mk (below_step HB.out hb); have NN6 : Aside0 (w5.heap.size ≤ w6.heap.size) := ⟨hb.size⟩; clear Bg3 Bg6 Bg7 HB; have Bg3 := n_Bg3; have Bg6 := n_Bg6; have Bg7 := n_Bg7; have HB := n_HB; clear n_Bg3 n_Bg6 n_Bg7 n_HB; clear hb ho0; have U33_0 := nu0; clear nu0; obtain ⟨A33_0, c33_0, e0⟩ := Kd.R_slice U33_0.out; subst e0) | ((with_reducible refine gate_callee (f := 99) rfl ?_); refine goesL_ (some 40) rfl rfl Try.func99 (by kernel_rfl) rfl #[.slice A2 l2.length c2, .int .i64 x27_1] rfl (by (try simp only [List.map_toArray, List.map_cons, List.map_nil]); first | done | rfl) ?_; refine (impl_mix.calls k _ _ l2 x27_1 x40_0 x40_1 true _ ?s1 ?s2 H4'.out).mono ?_; (case s1 => exact Kd.C_below HR2.out HB.out); (case s2 => exact HC2.out); rintro e w7 ⟨v40_0, rfl, ho0, hb⟩; refine ⟨_, rfl, ?_⟩; have nu0 := Aside0.mk (UR.of ho0 HB.out.size); have n_U33_0 := Aside0.mk (U33_0.out.mvB (Frm.below hb)); have n_Bg3 := Aside0.mk (blk_below Bg3.out hb); have n_Bg6 := Aside0.mk (blk_below Bg6.out hb); have n_Bg7 := Aside0.mk (blk_below Bg7.out hb); have n_HB := Aside0.mk (below_step HB.out hb); have NN7 : Aside0 (w6.heap.size ≤ w7.heap.size) := ⟨hb.size⟩; clear U33_0 Bg3 Bg6 Bg7 HB; have U33_0 := n_U33_0; have Bg3 := n_Bg3; have Bg6 := n_Bg6; have Bg7 := n_Bg7; have HB := n_HB; clear n_U33_0 n_Bg3 n_Bg6 n_Bg7 n_HB; clear hb ho0; have U40_0 := nu0; clear nu0; obtain ⟨A40_0, c40_0, e0⟩ := Kd.R_slice U40_0.out; subst e0; have hc3_0 : w7.cell? ⟨g3, 0, none⟩ = some (.slice A0_0 l0_0.length c0_0) := (blk_cell Bg3.out 0).trans rfl; have hf3_0 := blk_frozen Bg3.out 0; have hc3_1 : w7.cell? ⟨g3, 1, none⟩ = some (.slice A0_1 l0_1.length c0_1) := (blk_cell Bg3.out 1).trans rfl; have hf3_1 := blk_frozen Bg3.out 1) | ((with_reducible refine gate_callee (f := 101) rfl ?_); refine goesL_ (some 65) rfl rfl Try.func101 (by kernel_rfl) rfl #[.slice A0_0 l0_0.length c0_0, .slice A33_0 x33_0.length c33_0, .slice A40_0 x40_0.length c40_0] rfl (by (try simp only [List.map_toArray, List.map_cons, List.map_nil]); first | done | rfl) ?_; refine (impl_form.calls k _ _ l0_0 _ _ x33_0 _ _ x40_0 x65_0 _ ?s1 ?s2 ?s3 ?s4 ?s5 ?s6 H5'.out).mono ?_; (case s1 => exact Kd.C_below HR0_0.out HB.out); (case s2 => exact HC0_0.out); (case s3 => exact UR.C U33_0.out); (case s4 => exact UR.cap U33_0.out); (case s5 => exact UR.C U40_0.out); (case s6 => exact UR.cap U40_0.out); rintro e w8 ⟨rfl, hb⟩; refine ⟨_, rfl, ?_⟩; have hb := hb.below; have n_U33_0 := Aside0.mk (U33_0.out.mvB (Frm.below hb)); have n_U40_0 := Aside0.mk (U40_0.out.mvB (Frm.below hb)); have n_Bg3 := Aside0.mk (blk_below Bg3.out hb); have n_Bg6 := Aside0.mk (blk_below Bg6.out hb); have n_Bg7 := Aside0.mk (blk_below Bg7.out hb); have n_HB := Aside0.mk (below_step HB.out hb); have NN8 : Aside0 (w7.heap.size ≤ w8.heap.size) := ⟨hb.size⟩; clear hc3_0 hf3_0; clear hc3_1 hf3_1; clear U33_0 U40_0 Bg3 Bg6 Bg7 HB; have U33_0 := n_U33_0; have U40_0 := n_U40_0; have Bg3 := n_Bg3; have Bg6 := n_Bg6; have Bg7 := n_Bg7; have HB := n_HB; clear n_U33_0 n_U40_0 n_Bg3 n_Bg6 n_Bg7 n_HB; clear hb) | ((with_reducible refine gate_callee (f := 100) rfl ?_); refine goesL_ (some 69) rfl rfl Try.func100 (by kernel_rfl) rfl #[.int .i64 x65_0, .int .i64 z68] rfl (by (try simp only [List.map_toArray, List.map_cons, List.map_nil]); first | done | rfl) ?_; refine (impl_reduced.calls k x65_0 z68 x69_0 x69_1 x69_2 _ H6'.out).mono ?_; rintro e w9 ⟨rfl, hb⟩; refine ⟨_, rfl, ?_⟩; have n_U33_0 := Aside0.mk (U33_0.out.mvB (Frm.below hb)); have n_U40_0 := Aside0.mk (U40_0.out.mvB (Frm.below hb)); have n_Bg3 := Aside0.mk (blk_below Bg3.out hb); have n_Bg6 := Aside0.mk (blk_below Bg6.out hb); have n_Bg7 := Aside0.mk (blk_below Bg7.out hb); have n_HB := Aside0.mk (below_step HB.out hb); have NN9 : Aside0 (w8.heap.size ≤ w9.heap.size) := ⟨hb.size⟩; clear U33_0 U40_0 Bg3 Bg6 Bg7 HB; have U33_0 := n_U33_0; have U40_0 := n_U40_0; have Bg3 := n_Bg3; have Bg6 := n_Bg6; have Bg7 := n_Bg7; have HB := n_HB; clear n_U33_0 n_U40_0 n_Bg3 n_Bg6 n_Bg7 n_HB; clear hb) | ((with_reducible refine gate_dst (N := 17) rfl ?_); refine box_event ?hg (N := 17) ?hd (cs := #[.int .i64 0, .int .i64 0]) (t := 65) ?hr ?_; (case hd => rfl); (case hg => rfl); (case hr => first | (go_simp; done) | (go_simp; rfl)); intro g17 hg w10 hbox hb; have Gg17 : Aside0 (g17 = w9.heap.size) := ⟨hg⟩; have Kg17 := Aside0.mk (blk_lt hbox); clear hg; have n_U33_0 := Aside0.mk (U33_0.out.mvB (Frm.below hb)); have n_U40_0 := Aside0.mk (U40_0.out.mvB (Frm.below hb)); have n_Bg3 := Aside0.mk (blk_below Bg3.out hb); have n_Bg6 := Aside0.mk (blk_below Bg6.out hb); have n_Bg7 := Aside0.mk (blk_below Bg7.out hb); have n_HB := Aside0.mk (below_step HB.out hb); have NN10 : Aside0 (w9.heap.size ≤ w10.heap.size) := ⟨hb.size⟩; clear U33_0 U40_0 Bg3 Bg6 Bg7 HB; have U33_0 := n_U33_0; have U40_0 := n_U40_0; have Bg3 := n_Bg3; have Bg6 := n_Bg6; have Bg7 := n_Bg7; have HB := n_HB; clear n_U33_0 n_U40_0 n_Bg3 n_Bg6 n_Bg7 n_HB; have Bg17 := Aside0.mk hbox; clear hb hbox; have hc17_0 : w10.cell? ⟨g17, 0, none⟩ = some (.int .i64 0) := (blk_cell Bg17.out 0).trans rfl; have hf17_0 := blk_frozen Bg17.out 0; have hc17_1 : w10.cell? ⟨g17, 1, none⟩ = some (.int .i64 0) := (blk_cell Bg17.out 1).trans rfl; have hf17_1 := blk_frozen Bg17.out 1) | ((with_reducible refine gate_store (t := 65) (p := 17) rfl ?_); refine store_event (t := 65) (p := 17) (v := ?vo_w11) (w1 := ((w10.setCell ⟨g17, 0, none⟩ (.int .i64 x69_0)).setCell ⟨g17, 1, none⟩ (.int .i64 x69_1))) ?hg ?ho ?hn ?hr ?_; (case ho => rfl); (case hg => rfl); (case hn => rfl); (case hr => first | (go_simp; done) | (go_simp; rfl)); intro w11 hw; have hge : w.heap.size ≤ g17 := (by have := NN1.out; have := Gg3.out; have := Kg3.out; have := NN2.out; have := Gg6.out; have := Kg6.out; have := NN3.out; have := Gg7.out; have := Kg7.out; have := NN4.out; have := NN5.out; have := NN6.out; have := NN7.out; have := NN8.out; have := NN9.out; have := NN10.out; have := Gg17.out; have := Kg17.out; have := HB.out.size; omega); have hF : Frm w10 w11 g17 (g17 + 1) := (by rw [hw]; exact (Frm.trans (Frm.set _ _ _ _) (Frm.set _ _ _ _))); have nb := Aside0.mk (show w11.heap[g17]? = some (.cells #[.int .i64 x69_0, .int .i64 x69_1] 65 (0, 0)) from (by rw [hw]; exact (blk_put (blk_put Bg17.out 0 _ rfl) 1 _ rfl))); have n_U33_0 := Aside0.mk (U33_0.out.mv hF (by have := NN1.out; have := Gg3.out; have := Kg3.out; have := NN2.out; have := Gg6.out; have := Kg6.out; have := NN3.out; have := Gg7.out; have := Kg7.out; have := NN4.out; have := NN5.out; have := NN6.out; have := NN7.out; have := NN8.out; have := NN9.out; have := NN10.out; have := Gg17.out; have := Kg17.out; omega)); have n_U40_0 := Aside0.mk (U40_0.out.mv hF (by have := NN1.out; have := Gg3.out; have := Kg3.out; have := NN2.out; have := Gg6.out; have := Kg6.out; have := NN3.out; have := Gg7.out; have := Kg7.out; have := NN4.out; have := NN5.out; have := NN6.out; have := NN7.out; have := NN8.out; have := NN9.out; have := NN10.out; have := Gg17.out; have := Kg17.out; omega)); have n_Bg3 := Aside0.mk ((hF.same g3 (blk_lt Bg3.out) (by have := NN1.out; have := Gg3.out; have := Kg3.out; have := NN2.out; have := Gg6.out; have := Kg6.out; have := NN3.out; have := Gg7.out; have := Kg7.out; have := NN4.out; have := NN5.out; have := NN6.out; have := NN7.out; have := NN8.out; have := NN9.out; have := NN10.out; have := Gg17.out; have := Kg17.out; omega)).trans Bg3.out); have n_Bg6 := Aside0.mk ((hF.same g6 (blk_lt Bg6.out) (by have := NN1.out; have := Gg3.out; have := Kg3.out; have := NN2.out; have := Gg6.out; have := Kg6.out; have := NN3.out; have := Gg7.out; have := Kg7.out; have := NN4.out; have := NN5.out; have := NN6.out; have := NN7.out; have := NN8.out; have := NN9.out; have := NN10.out; have := Gg17.out; have := Kg17.out; omega)).trans Bg6.out); have n_Bg7 := Aside0.mk ((hF.same g7 (blk_lt Bg7.out) (by have := NN1.out; have := Gg3.out; have := Kg3.out; have := NN2.out; have := Gg6.out; have := Kg6.out; have := NN3.out; have := Gg7.out; have := Kg7.out; have := NN4.out; have := NN5.out; have := NN6.out; have := NN7.out; have := NN8.out; have := NN9.out; have := NN10.out; have := Gg17.out; have := Kg17.out; omega)).trans Bg7.out); have n_HB := Aside0.mk ((by rw [hw]; exact (below_set (below_set HB.out hge) hge) : Below w.heap.size w w11)); have NN11 : Aside0 (w10.heap.size ≤ w11.heap.size) := ⟨hF.size⟩; clear hc17_0 hf17_0; clear hc17_1 hf17_1; clear U33_0 U40_0 Bg3 Bg6 Bg7 HB; have U33_0 := n_U33_0; have U40_0 := n_U40_0; have Bg3 := n_Bg3; have Bg6 := n_Bg6; have Bg7 := n_Bg7; have HB := n_HB; clear n_U33_0 n_U40_0 n_Bg3 n_Bg6 n_Bg7 n_HB; clear Bg17; have Bg17 := nb; clear nb hF hge hw; have hc3_0 : w11.cell? ⟨g3, 0, none⟩ = some (.slice A0_0 l0_0.length c0_0) := (blk_cell Bg3.out 0).trans rfl; have hf3_0 := blk_frozen Bg3.out 0; have hc3_1 : w11.cell? ⟨g3, 1, none⟩ = some (.slice A0_1 l0_1.length c0_1) := (blk_cell Bg3.out 1).trans rfl; have hf3_1 := blk_frozen Bg3.out 1) | ((with_reducible refine gate_callee (f := 101) rfl ?_); refine goesL_ (some 82) rfl rfl Try.func101 (by kernel_rfl) rfl #[.slice A0_1 l0_1.length c0_1, .slice A33_0 x33_0.length c33_0, .slice A40_0 x40_0.length c40_0] rfl (by (try simp only [List.map_toArray, List.map_cons, List.map_nil]); first | done | rfl) ?_; refine (impl_form.calls k _ _ l0_1 _ _ x33_0 _ _ x40_0 x82_0 _ ?s1 ?s2 ?s3 ?s4 ?s5 ?s6 H7'.out).mono ?_; (case s1 => exact Kd.C_below HR0_1.out HB.out); (case s2 => exact HC0_1.out); (case s3 => exact UR.C U33_0.out); (case s4 => exact UR.cap U33_0.out); (case s5 => exact UR.C U40_0.out); (case s6 => exact UR.cap U40_0.out); rintro e w12 ⟨rfl, hb⟩; refine ⟨_, rfl, ?_⟩; have hb := hb.below; have n_U33_0 := Aside0.mk (U33_0.out.mvB (Frm.below hb)); have n_U40_0 := Aside0.mk (U40_0.out.mvB (Frm.below hb)); have n_Bg3 := Aside0.mk (blk_below Bg3.out hb); have n_Bg6 := Aside0.mk (blk_below Bg6.out hb); have n_Bg7 := Aside0.mk (blk_below Bg7.out hb); have n_Bg17 := Aside0.mk (blk_below Bg17.out hb); have n_HB := Aside0.mk (below_step HB.out hb); have NN12 : Aside0 (w11.heap.size ≤ w12.heap.size) := ⟨hb.size⟩; clear hc3_0 hf3_0; clear hc3_1 hf3_1; clear U33_0 U40_0 Bg3 Bg6 Bg7 Bg17 HB; have U33_0 := n_U33_0; have U40_0 := n_U40_0; have Bg3 := n_Bg3; have Bg6 := n_Bg6; have Bg7 := n_Bg7; have Bg17 := n_Bg17; have HB := n_HB; clear n_U33_0 n_U40_0 n_Bg3 n_Bg6 n_Bg7 n_Bg17 n_HB; clear hb) | ((with_reducible refine gate_callee (f := 100) rfl ?_); refine goesL_ (some 86) rfl rfl Try.func100 (by kernel_rfl) rfl #[.int .i64 x82_0, .int .i64 z68] rfl (by (try simp only [List.map_toArray, List.map_cons, List.map_nil]); first | done | rfl) ?_; refine (impl_reduced.calls k x82_0 z68 x86_0 x86_1 x86_2 _ H8'.out).mono ?_; rintro e w13 ⟨rfl, hb⟩; refine ⟨_, rfl, ?_⟩; have n_U33_0 := Aside0.mk (U33_0.out.mvB (Frm.below hb)); have n_U40_0 := Aside0.mk (U40_0.out.mvB (Frm.below hb)); have n_Bg3 := Aside0.mk (blk_below Bg3.out hb); have n_Bg6 := Aside0.mk (blk_below Bg6.out hb); have n_Bg7 := Aside0.mk (blk_below Bg7.out hb); have n_Bg17 := Aside0.mk (blk_below Bg17.out hb); have n_HB := Aside0.mk (below_step HB.out hb); have NN13 : Aside0 (w12.heap.size ≤ w13.heap.size) := ⟨hb.size⟩; clear U33_0 U40_0 Bg3 Bg6 Bg7 Bg17 HB; have U33_0 := n_U33_0; have U40_0 := n_U40_0; have Bg3 := n_Bg3; have Bg6 := n_Bg6; have Bg7 := n_Bg7; have Bg17 := n_Bg17; have HB := n_HB; clear n_U33_0 n_U40_0 n_Bg3 n_Bg6 n_Bg7 n_Bg17 n_HB; clear hb) | ((with_reducible refine gate_dst (N := 19) rfl ?_); refine box_event ?hg (N := 19) ?hd (cs := #[.int .i64 0, .int .i64 0]) (t := 65) ?hr ?_; (case hd => rfl); (case hg => rfl); (case hr => first | (go_simp; done) | (go_simp; rfl)); intro g19 hg w14 hbox hb; have Gg19 : Aside0 (g19 = w13.heap.size) := ⟨hg⟩; have Kg19 := Aside0.mk (blk_lt hbox); clear hg; have n_U33_0 := Aside0.mk (U33_0.out.mvB (Frm.below hb)); have n_U40_0 := Aside0.mk (U40_0.out.mvB (Frm.below hb)); have n_Bg3 := Aside0.mk (blk_below Bg3.out hb); have n_Bg6 := Aside0.mk (blk_below Bg6.out hb); have n_Bg7 := Aside0.mk (blk_below Bg7.out hb); have n_Bg17 := Aside0.mk (blk_below Bg17.out hb); have n_HB := Aside0.mk (below_step HB.out hb); have NN14 : Aside0 (w13.heap.size ≤ w14.heap.size) := ⟨hb.size⟩; clear U33_0 U40_0 Bg3 Bg6 Bg7 Bg17 HB; have U33_0 := n_U33_0; have U40_0 := n_U40_0; have Bg3 := n_Bg3; have Bg6 := n_Bg6; have Bg7 := n_Bg7; have Bg17 := n_Bg17; have HB := n_HB; clear n_U33_0 n_U40_0 n_Bg3 n_Bg6 n_Bg7 n_Bg17 n_HB; have Bg19 := Aside0.mk hbox; clear hb hbox; have hc19_0 : w14.cell? ⟨g19, 0, none⟩ = some (.int .i64 0) := (blk_cell Bg19.out 0).trans rfl; have hf19_0 := blk_frozen Bg19.out 0; have hc19_1 : w14.cell? ⟨g19, 1, none⟩ = some (.int .i64 0) := (blk_cell Bg19.out 1).trans rfl; have hf19_1 := blk_frozen Bg19.out 1) | ((with_reducible refine gate_store (t := 65) (p := 19) rfl ?_); refine store_event (t := 65) (p := 19) (v := ?vo_w15) (w1 := ((w14.setCell ⟨g19, 0, none⟩ (.int .i64 x86_0)).setCell ⟨g19, 1, none⟩ (.int .i64 x86_1))) ?hg ?ho ?hn ?hr ?_; (case ho => rfl); (case hg => rfl); (case hn => rfl); (case hr => first | (go_simp; done) | (go_simp; rfl)); intro w15 hw; have hge : w.heap.size ≤ g19 := (by have := NN1.out; have := Gg3.out; have := Kg3.out; have := NN2.out; have := Gg6.out; have := Kg6.out; have := NN3.out; have := Gg7.out; have := Kg7.out; have := NN4.out; have := NN5.out; have := NN6.out; have := NN7.out; have := NN8.out; have := NN9.out; have := NN10.out; have := Gg17.out; have := Kg17.out; have := NN11.out; have := NN12.out; have := NN13.out; have := NN14.out; have := Gg19.out; have := Kg19.out; have := HB.out.size; omega); have hF : Frm w14 w15 g19 (g19 + 1) := (by rw [hw]; exact (Frm.trans (Frm.set _ _ _ _) (Frm.set _ _ _ _))); have nb := Aside0.mk (show w15.heap[g19]? = some (.cells #[.int .i64 x86_0, .int .i64 x86_1] 65 (0, 0)) from (by rw [hw]; exact (blk_put (blk_put Bg19.out 0 _ rfl) 1 _ rfl))); have n_U33_0 := Aside0.mk (U33_0.out.mv hF (by have := NN1.out; have := Gg3.out; have := Kg3.out; have := NN2.out; have := Gg6.out; have := Kg6.out; have := NN3.out; have := Gg7.out; have := Kg7.out; have := NN4.out; have := NN5.out; have := NN6.out; have := NN7.out; have := NN8.out; have := NN9.out; have := NN10.out; have := Gg17.out; have := Kg17.out; have := NN11.out; have := NN12.out; have := NN13.out; have := NN14.out; have := Gg19.out; have := Kg19.out; omega)); have n_U40_0 := Aside0.mk (U40_0.out.mv hF (by have := NN1.out; have := Gg3.out; have := Kg3.out; have := NN2.out; have := Gg6.out; have := Kg6.out; have := NN3.out; have := Gg7.out; have := Kg7.out; have := NN4.out; have := NN5.out; have := NN6.out; have := NN7.out; have := NN8.out; have := NN9.out; have := NN10.out; have := Gg17.out; have := Kg17.out; have := NN11.out; have := NN12.out; have := NN13.out; have := NN14.out; have := Gg19.out; have := Kg19.out; omega)); have n_Bg3 := Aside0.mk ((hF.same g3 (blk_lt Bg3.out) (by have := NN1.out; have := Gg3.out; have := Kg3.out; have := NN2.out; have := Gg6.out; have := Kg6.out; have := NN3.out; have := Gg7.out; have := Kg7.out; have := NN4.out; have := NN5.out; have := NN6.out; have := NN7.out; have := NN8.out; have := NN9.out; have := NN10.out; have := Gg17.out; have := Kg17.out; have := NN11.out; have := NN12.out; have := NN13.out; have := NN14.out; have := Gg19.out; have := Kg19.out; omega)).trans Bg3.out); have n_Bg6 := Aside0.mk ((hF.same g6 (blk_lt Bg6.out) (by have := NN1.out; have := Gg3.out; have := Kg3.out; have := NN2.out; have := Gg6.out; have := Kg6.out; have := NN3.out; have := Gg7.out; have := Kg7.out; have := NN4.out; have := NN5.out; have := NN6.out; have := NN7.out; have := NN8.out; have := NN9.out; have := NN10.out; have := Gg17.out; have := Kg17.out; have := NN11.out; have := NN12.out; have := NN13.out; have := NN14.out; have := Gg19.out; have := Kg19.out; omega)).trans Bg6.out); have n_Bg7 := Aside0.mk ((hF.same g7 (blk_lt Bg7.out) (by have := NN1.out; have := Gg3.out; have := Kg3.out; have := NN2.out; have := Gg6.out; have := Kg6.out; have := NN3.out; have := Gg7.out; have := Kg7.out; have := NN4.out; have := NN5.out; have := NN6.out; have := NN7.out; have := NN8.out; have := NN9.out; have := NN10.out; have := Gg17.out; have := Kg17.out; have := NN11.out; have := NN12.out; have := NN13.out; have := NN14.out; have := Gg19.out; have := Kg19.out; omega)).trans Bg7.out); have n_Bg17 := Aside0.mk ((hF.same g17 (blk_lt Bg17.out) (by have := NN1.out; have := Gg3.out; have := Kg3.out; have := NN2.out; have := Gg6.out; have := Kg6.out; have := NN3.out; have := Gg7.out; have := Kg7.out; have := NN4.out; have := NN5.out; have := NN6.out; have := NN7.out; have := NN8.out; have := NN9.out; have := NN10.out; have := Gg17.out; have := Kg17.out; have := NN11.out; have := NN12.out; have := NN13.out; have := NN14.out; have := Gg19.out; have := Kg19.out; omega)).trans Bg17.out); have n_HB := Aside0.mk ((by rw [hw]; exact (below_set (below_set HB.out hge) hge) : Below w.heap.size w w15)); have NN15 : Aside0 (w14.heap.size ≤ w15.heap.size) := ⟨hF.size⟩; clear hc19_0 hf19_0; clear hc19_1 hf19_1; clear U33_0 U40_0 Bg3 Bg6 Bg7 Bg17 HB; have U33_0 := n_U33_0; have U40_0 := n_U40_0; have Bg3 := n_Bg3; have Bg6 := n_Bg6; have Bg7 := n_Bg7; have Bg17 := n_Bg17; have HB := n_HB; clear n_U33_0 n_U40_0 n_Bg3 n_Bg6 n_Bg7 n_Bg17 n_HB; clear Bg19; have Bg19 := nb; clear nb hF hge hw; have hc6_0 : w15.cell? ⟨g6, 0, none⟩ = some (.int .i64 0) := (blk_cell Bg6.out 0).trans rfl; have hf6_0 := blk_frozen Bg6.out 0; have hc6_1 : w15.cell? ⟨g6, 1, none⟩ = some (.int .i64 0) := (blk_cell Bg6.out 1).trans rfl; have hf6_1 := blk_frozen Bg6.out 1) | ((with_reducible refine gate_store (t := 65) (p := 6) rfl ?_); refine store_event (t := 65) (p := 6) (v := ?vo_w16) (w1 := ((w15.setCell ⟨g6, 0, none⟩ (.int .i64 0)).setCell ⟨g6, 1, none⟩ (.int .i64 0))) ?hg ?ho ?hn ?hr ?_; (case ho => rfl); (case hg => rfl); (case hn => rfl); (case hr => first | (go_simp; done) | (go_simp; rfl)); intro w16 hw; have hge : w.heap.size ≤ g6 := (by have := NN1.out; have := Gg3.out; have := Kg3.out; have := NN2.out; have := Gg6.out; have := Kg6.out; have := NN3.out; have := Gg7.out; have := Kg7.out; have := NN4.out; have := NN5.out; have := NN6.out; have := NN7.out; have := NN8.out; have := NN9.out; have := NN10.out; have := Gg17.out; have := Kg17.out; have := NN11.out; have := NN12.out; have := NN13.out; have := NN14.out; have := Gg19.out; have := Kg19.out; have := NN15.out; have := HB.out.size; omega); have hF : Frm w15 w16 g6 (g6 + 1) := (by rw [hw]; exact (Frm.trans (Frm.set _ _ _ _) (Frm.set _ _ _ _))); have nb := Aside0.mk (show w16.heap[g6]? = some (.cells #[.int .i64 0, .int .i64 0] 65 (0, 0)) from (by rw [hw]; exact (blk_put (blk_put Bg6.out 0 _ rfl) 1 _ rfl))); have n_U33_0 := Aside0.mk (U33_0.out.mv hF (by have := NN1.out; have := Gg3.out; have := Kg3.out; have := NN2.out; have := Gg6.out; have := Kg6.out; have := NN3.out; have := Gg7.out; have := Kg7.out; have := NN4.out; have := NN5.out; have := NN6.out; have := NN7.out; have := NN8.out; have := NN9.out; have := NN10.out; have := Gg17.out; have := Kg17.out; have := NN11.out; have := NN12.out; have := NN13.out; have := NN14.out; have := Gg19.out; have := Kg19.out; have := NN15.out; omega)); have n_U40_0 := Aside0.mk (U40_0.out.mv hF (by have := NN1.out; have := Gg3.out; have := Kg3.out; have := NN2.out; have := Gg6.out; have := Kg6.out; have := NN3.out; have := Gg7.out; have := Kg7.out; have := NN4.out; have := NN5.out; have := NN6.out; have := NN7.out; have := NN8.out; have := NN9.out; have := NN10.out; have := Gg17.out; have := Kg17.out; have := NN11.out; have := NN12.out; have := NN13.out; have := NN14.out; have := Gg19.out; have := Kg19.out; have := NN15.out; omega)); have n_Bg3 := Aside0.mk ((hF.same g3 (blk_lt Bg3.out) (by have := NN1.out; have := Gg3.out; have := Kg3.out; have := NN2.out; have := Gg6.out; have := Kg6.out; have := NN3.out; have := Gg7.out; have := Kg7.out; have := NN4.out; have := NN5.out; have := NN6.out; have := NN7.out; have := NN8.out; have := NN9.out; have := NN10.out; have := Gg17.out; have := Kg17.out; have := NN11.out; have := NN12.out; have := NN13.out; have := NN14.out; have := Gg19.out; have := Kg19.out; have := NN15.out; omega)).trans Bg3.out); have n_Bg7 := Aside0.mk ((hF.same g7 (blk_lt Bg7.out) (by have := NN1.out; have := Gg3.out; have := Kg3.out; have := NN2.out; have := Gg6.out; have := Kg6.out; have := NN3.out; have := Gg7.out; have := Kg7.out; have := NN4.out; have := NN5.out; have := NN6.out; have := NN7.out; have := NN8.out; have := NN9.out; have := NN10.out; have := Gg17.out; have := Kg17.out; have := NN11.out; have := NN12.out; have := NN13.out; have := NN14.out; have := Gg19.out; have := Kg19.out; have := NN15.out; omega)).trans Bg7.out); have n_Bg17 := Aside0.mk ((hF.same g17 (blk_lt Bg17.out) (by have := NN1.out; have := Gg3.out; have := Kg3.out; have := NN2.out; have := Gg6.out; have := Kg6.out; have := NN3.out; have := Gg7.out; have := Kg7.out; have := NN4.out; have := NN5.out; have := NN6.out; have := NN7.out; have := NN8.out; have := NN9.out; have := NN10.out; have := Gg17.out; have := Kg17.out; have := NN11.out; have := NN12.out; have := NN13.out; have := NN14.out; have := Gg19.out; have := Kg19.out; have := NN15.out; omega)).trans Bg17.out); have n_Bg19 := Aside0.mk ((hF.same g19 (blk_lt Bg19.out) (by have := NN1.out; have := Gg3.out; have := Kg3.out; have := NN2.out; have := Gg6.out; have := Kg6.out; have := NN3.out; have := Gg7.out; have := Kg7.out; have := NN4.out; have := NN5.out; have := NN6.out; have := NN7.out; have := NN8.out; have := NN9.out; have := NN10.out; have := Gg17.out; have := Kg17.out; have := NN11.out; have := NN12.out; have := NN13.out; have := NN14.out; have := Gg19.out; have := Kg19.out; have := NN15.out; omega)).trans Bg19.out); have n_HB := Aside0.mk ((by rw [hw]; exact (below_set (below_set HB.out hge) hge) : Below w.heap.size w w16)); have NN16 : Aside0 (w15.heap.size ≤ w16.heap.size) := ⟨hF.size⟩; clear hc6_0 hf6_0; clear hc6_1 hf6_1; clear U33_0 U40_0 Bg3 Bg7 Bg17 Bg19 HB; have U33_0 := n_U33_0; have U40_0 := n_U40_0; have Bg3 := n_Bg3; have Bg7 := n_Bg7; have Bg17 := n_Bg17; have Bg19 := n_Bg19; have HB := n_HB; clear n_U33_0 n_U40_0 n_Bg3 n_Bg7 n_Bg17 n_Bg19 n_HB; clear Bg6; have Bg6 := nb; clear nb hF hge hw; have hc7_0 : w16.cell? ⟨g7, 0, none⟩ = some (.int .i64 0) := (blk_cell Bg7.out 0).trans rfl; have hf7_0 := blk_frozen Bg7.out 0; have hc7_1 : w16.cell? ⟨g7, 1, none⟩ = some (.int .i64 0) := (blk_cell Bg7.out 1).trans rfl; have hf7_1 := blk_frozen Bg7.out 1) | ((with_reducible refine gate_store (t := 65) (p := 7) rfl ?_); refine store_event (t := 65) (p := 7) (v := ?vo_w17) (w1 := ((w16.setCell ⟨g7, 0, none⟩ (.int .i64 0)).setCell ⟨g7, 1, none⟩ (.int .i64 0))) ?hg ?ho ?hn ?hr ?_; (case ho => rfl); (case hg => rfl); (case hn => rfl); (case hr => first | (go_simp; done) | (go_simp; rfl)); intro w17 hw; have hge : w.heap.size ≤ g7 := (by have := NN1.out; have := Gg3.out; have := Kg3.out; have := NN2.out; have := Gg6.out; have := Kg6.out; have := NN3.out; have := Gg7.out; have := Kg7.out; have := NN4.out; have := NN5.out; have := NN6.out; have := NN7.out; have := NN8.out; have := NN9.out; have := NN10.out; have := Gg17.out; have := Kg17.out; have := NN11.out; have := NN12.out; have := NN13.out; have := NN14.out; have := Gg19.out; have := Kg19.out; have := NN15.out; have := NN16.out; have := HB.out.size; omega); have hF : Frm w16 w17 g7 (g7 + 1) := (by rw [hw]; exact (Frm.trans (Frm.set _ _ _ _) (Frm.set _ _ _ _))); have nb := Aside0.mk (show w17.heap[g7]? = some (.cells #[.int .i64 0, .int .i64 0] 65 (0, 0)) from (by rw [hw]; exact (blk_put (blk_put Bg7.out 0 _ rfl) 1 _ rfl))); have n_U33_0 := Aside0.mk (U33_0.out.mv hF (by have := NN1.out; have := Gg3.out; have := Kg3.out; have := NN2.out; have := Gg6.out; have := Kg6.out; have := NN3.out; have := Gg7.out; have := Kg7.out; have := NN4.out; have := NN5.out; have := NN6.out; have := NN7.out; have := NN8.out; have := NN9.out; have := NN10.out; have := Gg17.out; have := Kg17.out; have := NN11.out; have := NN12.out; have := NN13.out; have := NN14.out; have := Gg19.out; have := Kg19.out; have := NN15.out; have := NN16.out; omega)); have n_U40_0 := Aside0.mk (U40_0.out.mv hF (by have := NN1.out; have := Gg3.out; have := Kg3.out; have := NN2.out; have := Gg6.out; have := Kg6.out; have := NN3.out; have := Gg7.out; have := Kg7.out; have := NN4.out; have := NN5.out; have := NN6.out; have := NN7.out; have := NN8.out; have := NN9.out; have := NN10.out; have := Gg17.out; have := Kg17.out; have := NN11.out; have := NN12.out; have := NN13.out; have := NN14.out; have := Gg19.out; have := Kg19.out; have := NN15.out; have := NN16.out; omega)); have n_Bg3 := Aside0.mk ((hF.same g3 (blk_lt Bg3.out) (by have := NN1.out; have := Gg3.out; have := Kg3.out; have := NN2.out; have := Gg6.out; have := Kg6.out; have := NN3.out; have := Gg7.out; have := Kg7.out; have := NN4.out; have := NN5.out; have := NN6.out; have := NN7.out; have := NN8.out; have := NN9.out; have := NN10.out; have := Gg17.out; have := Kg17.out; have := NN11.out; have := NN12.out; have := NN13.out; have := NN14.out; have := Gg19.out; have := Kg19.out; have := NN15.out; have := NN16.out; omega)).trans Bg3.out); have n_Bg6 := Aside0.mk ((hF.same g6 (blk_lt Bg6.out) (by have := NN1.out; have := Gg3.out; have := Kg3.out; have := NN2.out; have := Gg6.out; have := Kg6.out; have := NN3.out; have := Gg7.out; have := Kg7.out; have := NN4.out; have := NN5.out; have := NN6.out; have := NN7.out; have := NN8.out; have := NN9.out; have := NN10.out; have := Gg17.out; have := Kg17.out; have := NN11.out; have := NN12.out; have := NN13.out; have := NN14.out; have := Gg19.out; have := Kg19.out; have := NN15.out; have := NN16.out; omega)).trans Bg6.out); have n_Bg17 := Aside0.mk ((hF.same g17 (blk_lt Bg17.out) (by have := NN1.out; have := Gg3.out; have := Kg3.out; have := NN2.out; have := Gg6.out; have := Kg6.out; have := NN3.out; have := Gg7.out; have := Kg7.out; have := NN4.out; have := NN5.out; have := NN6.out; have := NN7.out; have := NN8.out; have := NN9.out; have := NN10.out; have := Gg17.out; have := Kg17.out; have := NN11.out; have := NN12.out; have := NN13.out; have := NN14.out; have := Gg19.out; have := Kg19.out; have := NN15.out; have := NN16.out; omega)).trans Bg17.out); have n_Bg19 := Aside0.mk ((hF.same g19 (blk_lt Bg19.out) (by have := NN1.out; have := Gg3.out; have := Kg3.out; have := NN2.out; have := Gg6.out; have := Kg6.out; have := NN3.out; have := Gg7.out; have := Kg7.out; have := NN4.out; have := NN5.out; have := NN6.out; have := NN7.out; have := NN8.out; have := NN9.out; have := NN10.out; have := Gg17.out; have := Kg17.out; have := NN11.out; have := NN12.out; have := NN13.out; have := NN14.out; have := Gg19.out; have := Kg19.out; have := NN15.out; have := NN16.out; omega)).trans Bg19.out); have n_HB := Aside0.mk ((by rw [hw]; exact (below_set (below_set HB.out hge) hge) : Below w.heap.size w w17)); have NN17 : Aside0 (w16.heap.size ≤ w17.heap.size) := ⟨hF.size⟩; clear hc7_0 hf7_0; clear hc7_1 hf7_1; clear U33_0 U40_0 Bg3 Bg6 Bg17 Bg19 HB; have U33_0 := n_U33_0; have U40_0 := n_U40_0; have Bg3 := n_Bg3; have Bg6 := n_Bg6; have Bg17 := n_Bg17; have Bg19 := n_Bg19; have HB := n_HB; clear n_U33_0 n_U40_0 n_Bg3 n_Bg6 n_Bg17 n_Bg19 n_HB; clear Bg7; have Bg7 := nb; clear nb hF hge hw))
 refine bodyPost_ret (results_list (rs := [.cell 6 65, .cell 7 65, .tmp 8]) rfl (by simp) (.cell g6 65 #[.int .i64 0, .int .i64 0] (0, 0) _ rfl Bg6.out Try.underlying65 rfl (by kernel_rfl) (.cell g7 65 #[.int .i64 0, .int .i64 0] (0, 0) _ rfl Bg7.out Try.underlying65 rfl (by kernel_rfl) (.tmp .nil)))) rfl ?_
 exact ⟨rfl, HB.out⟩
theorem impl_PayoffsAt.way5 (k : Nat) (A0_0 : Option Addr) (c0_0 : Nat) (l0_0 : List (List Int)) (A0_1 : Option Addr) (c0_1 : Nat) (l0_1 : List (List Int)) (A1 : Option Addr) (c1 : Nat) (l1 : List (S65)) (A2 : Option Addr) (c2 : Nat) (l2 : List (S65)) (x27_0 : Int) (x27_1 : Int) (x33_0 : List Int) (x33_1 : Int) (x40_0 : List Int) (x40_1 : Int) (x65_0 : Int) (z68 : Int) (x69_0 : Int) (x69_1 : Int) (x69_2 : Int) (x82_0 : Int) (x86_0 : Int) (x86_1 : Int) (x86_2 : Int) (w : World) (hr0_0 : Kd.C (Kd.slice 2 (Kd.int .i64)) w A0_0 l0_0.length l0_0) (hc0_0 : l0_0.length ≤ c0_0) (hr0_1 : Kd.C (Kd.slice 2 (Kd.int .i64)) w A0_1 l0_1.length l0_1) (hc0_1 : l0_1.length ≤ c0_1) (hr1 : Kd.C k65 w A1 l1.length l1) (hc1 : l1.length ≤ c1) (hr2 : Kd.C k65 w A2 l2.length l2) (hc2 : l2.length ≤ c2) (h1 : impl_IsGame.f l0_0 l0_1 = some true) (h2 : impl_Game_sizes.f l0_0 l0_1 = some (x27_0, x27_1)) (h3 : impl_mix.f k l1 x27_0 = some (x33_0, x33_1, true)) (h4 : impl_mix.f k l2 x27_1 = some (x40_0, x40_1, true)) (h5 : impl_form.f k l0_0 x33_0 x40_0 = some x65_0) (h6 : impl_reduced.f k x65_0 z68 = some (x69_0, x69_1, x69_2)) (h7 : impl_form.f k l0_1 x33_0 x40_0 = some x82_0) (h8 : impl_reduced.f k x82_0 z68 = some (x86_0, x86_1, x86_2)) (p68 : IntKind.i64.wrap (x33_1 * x40_1) = z68) (q0 : ¬ (30000 : Int) < x33_1) (q1 : ¬ (30000 : Int) < x40_1) (q2 : x69_2 = 0) (q3 : x86_2 = 0) :
  Calls Try.prog 47 #[.agg #[.slice A0_0 l0_0.length c0_0, .slice A0_1 l0_1.length c0_1], .slice A1 l1.length c1, .slice A2 l2.length c2] w fun e w' => e = .returned (.tuple #[.agg #[.int .i64 x69_0, .int .i64 x69_1], .agg #[.int .i64 x86_0, .int .i64 x86_1], .int .i64 0]) ∧ Below w.heap.size w w' := by
 have HR0_0 := Aside0.mk hr0_0
 have HC0_0 := Aside0.mk hc0_0
 clear hr0_0 hc0_0
 have HR0_1 := Aside0.mk hr0_1
 have HC0_1 := Aside0.mk hc0_1
 clear hr0_1 hc0_1
 have HR1 := Aside0.mk hr1
 have HC1 := Aside0.mk hc1
 clear hr1 hc1
 have HR2 := Aside0.mk hr2
 have HC2 := Aside0.mk hc2
 clear hr2 hc2
 have HB := Aside0.mk (Below.refl w.heap.size w)
 have H1' := Aside0.mk h1
 clear h1
 have H2' := Aside0.mk h2
 clear h2
 have H3' := Aside0.mk h3
 clear h3
 have H4' := Aside0.mk h4
 clear h4
 have H5' := Aside0.mk h5
 clear h5
 have H6' := Aside0.mk h6
 clear h6
 have H7' := Aside0.mk h7
 clear h7
 have H8' := Aside0.mk h8
 clear h8
 go_enter Try.func47, Try.ntmps47
 go_wp2_with (first | ((with_reducible refine gate_dst (N := 3) rfl ?_); refine box_event ?hg (N := 3) ?hd (cs := #[.slice A0_0 l0_0.length c0_0, .slice A0_1 l0_1.length c0_1]) (t := 26) ?hr ?_; (case hd => rfl); (case hg => rfl); (case hr => first | (go_simp; done) | (go_simp; rfl)); intro g3 hg w1 hbox hb; have Gg3 : Aside0 (g3 = w.heap.size) := ⟨hg⟩; have Kg3 := Aside0.mk (blk_lt hbox); clear hg; have n_HB := Aside0.mk (below_step HB.out hb); have NN1 : Aside0 (w.heap.size ≤ w1.heap.size) := ⟨hb.size⟩; clear HB; have HB := n_HB; clear n_HB; have Bg3 := Aside0.mk hbox; clear hb hbox) | ((with_reducible refine gate_dst (N := 6) rfl ?_); refine box_event ?hg (N := 6) ?hd (cs := #[.int .i64 0, .int .i64 0]) (t := 65) ?hr ?_; (case hd => rfl); (case hg => rfl); (case hr => first | (go_simp; done) | (go_simp; rfl)); intro g6 hg w2 hbox hb; have Gg6 : Aside0 (g6 = w1.heap.size) := ⟨hg⟩; have Kg6 := Aside0.mk (blk_lt hbox); clear hg; have n_Bg3 := Aside0.mk (blk_below Bg3.out hb); have n_HB := Aside0.mk (below_step HB.out hb); have NN2 : Aside0 (w1.heap.size ≤ w2.heap.size) := ⟨hb.size⟩; clear Bg3 HB; have Bg3 := n_Bg3; have HB := n_HB; clear n_Bg3 n_HB; have Bg6 := Aside0.mk hbox; clear hb hbox) | ((with_reducible refine gate_dst (N := 7) rfl ?_); refine box_event ?hg (N := 7) ?hd (cs := #[.int .i64 0, .int .i64 0]) (t := 65) ?hr ?_; (case hd => rfl); (case hg => rfl); (case hr => first | (go_simp; done) | (go_simp; rfl)); intro g7 hg w3 hbox hb; have Gg7 : Aside0 (g7 = w2.heap.size) := ⟨hg⟩; have Kg7 := Aside0.mk (blk_lt hbox); clear hg; have n_Bg3 := Aside0.mk (blk_below Bg3.out hb); have n_Bg6 := Aside0.mk (blk_below Bg6.out hb); have n_HB := Aside0.mk (below_step HB.out hb); have NN3 : Aside0 (w2.heap.size ≤ w3.heap.size) := ⟨hb.size⟩; clear Bg3 Bg6 HB; have Bg3 := n_Bg3; have Bg6 := n_Bg6; have HB := n_HB; clear n_Bg3 n_Bg6 n_HB; have Bg7 := Aside0.mk hbox; clear hb hbox; have hc3_0 : w3.cell? ⟨g3, 0, none⟩ = some (.slice A0_0 l0_0.length c0_0) := (blk_cell Bg3.out 0).trans rfl; have hf3_0 := blk_frozen Bg3.out 0; have hc3_1 : w3.cell? ⟨g3, 1, none⟩ = some (.slice A0_1 l0_1.length c0_1) := (blk_cell Bg3.out 1).trans rfl; have hf3_1 := blk_frozen Bg3.out 1) | ((with_reducible refine gate_callee (f := 70) rfl ?_); refine goesL_ (some 21) rfl rfl Try.func70 (by kernel_rfl) rfl #[.agg #[.slice A0_0 l0_0.length c0_0, .slice A0_1 l0_1.length c0_1]] rfl (by (try simp only [List.map_toArray, List.map_cons, List.map_nil]); first | done | rfl) ?_; refine (impl_IsGame.calls _ _ l0_0 _ _ l0_1 true _ ?s1 ?s2 ?s3 ?s4 H1'.out).mono ?_; (case s1 => exact Kd.C_below HR0_0.out HB.out); (case s2 => exact HC0_0.out); (case s3 => exact Kd.C_below HR0_1.out HB.out); (case s4 => exact HC0_1.out); rintro e w4 ⟨rfl, hb⟩; refine ⟨_, rfl, ?_⟩; have n_Bg3 := Aside0.mk (blk_below Bg3.out hb); have n_Bg6 := Aside0.mk (blk_below Bg6.out hb); have n_Bg7 := Aside0.mk (blk_below Bg7.out hb); have n_HB := Aside0.mk (below_step HB.out hb); have NN4 : Aside0 (w3.heap.size ≤ w4.heap.size) := ⟨hb.size⟩; clear hc3_0 hf3_0; clear hc3_1 hf3_1; clear Bg3 Bg6 Bg7 HB; have Bg3 := n_Bg3; have Bg6 := n_Bg6; have Bg7 := n_Bg7; have HB := n_HB; clear n_Bg3 n_Bg6 n_Bg7 n_HB; clear hb; have hc3_0 : w4.cell? ⟨g3, 0, none⟩ = some (.slice A0_0 l0_0.length c0_0) := (blk_cell Bg3.out 0).trans rfl; have hf3_0 := blk_frozen Bg3.out 0; have hc3_1 : w4.cell? ⟨g3, 1, none⟩ = some (.slice A0_1 l0_1.length c0_1) := (blk_cell Bg3.out 1).trans rfl; have hf3_1 := blk_frozen Bg3.out 1) | ((with_reducible refine gate_callee (f := 80) rfl ?_); refine goesL_ (some 27) rfl rfl Try.func80 (by kernel_rfl) rfl #[.agg #[.slice A0_0 l0_0.length c0_0, .slice A0_1 l0_1.length c0_1]] rfl (by (try simp only [List.map_toArray, List.map_cons, List.map_nil]); first | done | rfl) ?_; refine (impl_Game_sizes.calls _ _ l0_0 _ _ l0_1 x27_0 x27_1 _ ?s1 ?s2 ?s3 ?s4 H2'.out).mono ?_; (case s1 => exact Kd.C_below HR0_0.out HB.out); (case s2 => exact HC0_0.out); (case s3 => exact Kd.C_below HR0_1.out HB.out); (case s4 => exact HC0_1.out); rintro e w5 ⟨rfl, hb⟩; refine ⟨_, rfl, ?_⟩; have n_Bg3 := Aside0.mk (blk_below Bg3.out hb); have n_Bg6 := Aside0.mk (blk_below Bg6.out hb); have n_Bg7 := Aside0.mk (blk_below Bg7.out hb); have n_HB := Aside0.mk (below_step HB.out hb); have NN5 : Aside0 (w4.heap.size ≤ w5.heap.size) := ⟨hb.size⟩; clear hc3_0 hf3_0; clear hc3_1 hf3_1; clear Bg3 Bg6 Bg7 HB; have Bg3 := n_Bg3; have Bg6 := n_Bg6; have Bg7 := n_Bg7; have HB := n_HB; clear n_Bg3 n_Bg6 n_Bg7 n_HB; clear hb) | ((with_reducible refine gate_callee (f := 99) rfl ?_); refine goesL_ (some 33) rfl rfl Try.func99 (by kernel_rfl) rfl #[.slice A1 l1.length c1, .int .i64 x27_0] rfl (by (try simp only [List.map_toArray, List.map_cons, List.map_nil]); first | done | rfl) ?_; refine (impl_mix.calls k _ _ l1 x27_0 x33_0 x33_1 true _ ?s1 ?s2 H3'.out).mono ?_; (case s1 => exact Kd.C_below HR1.out HB.out); (case s2 => exact HC1.out); rintro e w6 ⟨v33_0, rfl, ho0, hb⟩; refine ⟨_, rfl, ?_⟩; have nu0 := Aside0.mk (UR.of ho0 HB.out.size); have n_Bg3 := Aside0.mk (blk_below Bg3.out hb); have n_Bg6 := Aside0.mk (blk_below Bg6.out hb); have n_Bg7 := Aside0.mk (blk_below Bg7.out hb); have n_HB := Aside0.mk (below_step HB.out hb); have NN6 : Aside0 (w5.heap.size ≤ w6.heap.size) := ⟨hb.size⟩; clear Bg3 Bg6 Bg7 HB; have Bg3 := n_Bg3; have Bg6 := n_Bg6; have Bg7 := n_Bg7; have HB := n_HB; clear n_Bg3 n_Bg6 n_Bg7 n_HB; clear hb ho0; have U33_0 := nu0; clear nu0; obtain ⟨A33_0, c33_0, e0⟩ := Kd.R_slice U33_0.out; subst e0) | ((with_reducible refine gate_callee (f := 99) rfl ?_); refine goesL_ (some 40) rfl rfl Try.func99 (by kernel_rfl) rfl #[.slice A2 l2.length c2, .int .i64 x27_1] rfl (by (try simp only [List.map_toArray, List.map_cons, List.map_nil]); first | done | rfl) ?_; refine (impl_mix.calls k _ _ l2 x27_1 x40_0 x40_1 true _ ?s1 ?s2 H4'.out).mono ?_; (case s1 => exact Kd.C_below HR2.out HB.out); (case s2 => exact HC2.out); rintro e w7 ⟨v40_0, rfl, ho0, hb⟩; refine ⟨_, rfl, ?_⟩; have nu0 := Aside0.mk (UR.of ho0 HB.out.size); have n_U33_0 := Aside0.mk (U33_0.out.mvB (Frm.below hb)); have n_Bg3 := Aside0.mk (blk_below Bg3.out hb); have n_Bg6 := Aside0.mk (blk_below Bg6.out hb); have n_Bg7 := Aside0.mk (blk_below Bg7.out hb); have n_HB := Aside0.mk (below_step HB.out hb); have NN7 : Aside0 (w6.heap.size ≤ w7.heap.size) := ⟨hb.size⟩; clear U33_0 Bg3 Bg6 Bg7 HB; have U33_0 := n_U33_0; have Bg3 := n_Bg3; have Bg6 := n_Bg6; have Bg7 := n_Bg7; have HB := n_HB; clear n_U33_0 n_Bg3 n_Bg6 n_Bg7 n_HB; clear hb ho0; have U40_0 := nu0; clear nu0; obtain ⟨A40_0, c40_0, e0⟩ := Kd.R_slice U40_0.out; subst e0; have hc3_0 : w7.cell? ⟨g3, 0, none⟩ = some (.slice A0_0 l0_0.length c0_0) := (blk_cell Bg3.out 0).trans rfl; have hf3_0 := blk_frozen Bg3.out 0; have hc3_1 : w7.cell? ⟨g3, 1, none⟩ = some (.slice A0_1 l0_1.length c0_1) := (blk_cell Bg3.out 1).trans rfl; have hf3_1 := blk_frozen Bg3.out 1) | ((with_reducible refine gate_callee (f := 101) rfl ?_); refine goesL_ (some 65) rfl rfl Try.func101 (by kernel_rfl) rfl #[.slice A0_0 l0_0.length c0_0, .slice A33_0 x33_0.length c33_0, .slice A40_0 x40_0.length c40_0] rfl (by (try simp only [List.map_toArray, List.map_cons, List.map_nil]); first | done | rfl) ?_; refine (impl_form.calls k _ _ l0_0 _ _ x33_0 _ _ x40_0 x65_0 _ ?s1 ?s2 ?s3 ?s4 ?s5 ?s6 H5'.out).mono ?_; (case s1 => exact Kd.C_below HR0_0.out HB.out); (case s2 => exact HC0_0.out); (case s3 => exact UR.C U33_0.out); (case s4 => exact UR.cap U33_0.out); (case s5 => exact UR.C U40_0.out); (case s6 => exact UR.cap U40_0.out); rintro e w8 ⟨rfl, hb⟩; refine ⟨_, rfl, ?_⟩; have hb := hb.below; have n_U33_0 := Aside0.mk (U33_0.out.mvB (Frm.below hb)); have n_U40_0 := Aside0.mk (U40_0.out.mvB (Frm.below hb)); have n_Bg3 := Aside0.mk (blk_below Bg3.out hb); have n_Bg6 := Aside0.mk (blk_below Bg6.out hb); have n_Bg7 := Aside0.mk (blk_below Bg7.out hb); have n_HB := Aside0.mk (below_step HB.out hb); have NN8 : Aside0 (w7.heap.size ≤ w8.heap.size) := ⟨hb.size⟩; clear hc3_0 hf3_0; clear hc3_1 hf3_1; clear U33_0 U40_0 Bg3 Bg6 Bg7 HB; have U33_0 := n_U33_0; have U40_0 := n_U40_0; have Bg3 := n_Bg3; have Bg6 := n_Bg6; have Bg7 := n_Bg7; have HB := n_HB; clear n_U33_0 n_U40_0 n_Bg3 n_Bg6 n_Bg7 n_HB; clear hb) | ((with_reducible refine gate_callee (f := 100) rfl ?_); refine goesL_ (some 69) rfl rfl Try.func100 (by kernel_rfl) rfl #[.int .i64 x65_0, .int .i64 z68] rfl (by (try simp only [List.map_toArray, List.map_cons, List.map_nil]); first | done | rfl) ?_; refine (impl_reduced.calls k x65_0 z68 x69_0 x69_1 x69_2 _ H6'.out).mono ?_; rintro e w9 ⟨rfl, hb⟩; refine ⟨_, rfl, ?_⟩; have n_U33_0 := Aside0.mk (U33_0.out.mvB (Frm.below hb)); have n_U40_0 := Aside0.mk (U40_0.out.mvB (Frm.below hb)); have n_Bg3 := Aside0.mk (blk_below Bg3.out hb); have n_Bg6 := Aside0.mk (blk_below Bg6.out hb); have n_Bg7 := Aside0.mk (blk_below Bg7.out hb); have n_HB := Aside0.mk (below_step HB.out hb); have NN9 : Aside0 (w8.heap.size ≤ w9.heap.size) := ⟨hb.size⟩; clear U33_0 U40_0 Bg3 Bg6 Bg7 HB; have U33_0 := n_U33_0; have U40_0 := n_U40_0; have Bg3 := n_Bg3; have Bg6 := n_Bg6; have Bg7 := n_Bg7; have HB := n_HB; clear n_U33_0 n_U40_0 n_Bg3 n_Bg6 n_Bg7 n_HB; clear hb) | ((with_reducible refine gate_dst (N := 17) rfl ?_); refine box_event ?hg (N := 17) ?hd (cs := #[.int .i64 0, .int .i64 0]) (t := 65) ?hr ?_; (case hd => rfl); (case hg => rfl); (case hr => first | (go_simp; done) | (go_simp; rfl)); intro g17 hg w10 hbox hb; have Gg17 : Aside0 (g17 = w9.heap.size) := ⟨hg⟩; have Kg17 := Aside0.mk (blk_lt hbox); clear hg; have n_U33_0 := Aside0.mk (U33_0.out.mvB (Frm.below hb)); have n_U40_0 := Aside0.mk (U40_0.out.mvB (Frm.below hb)); have n_Bg3 := Aside0.mk (blk_below Bg3.out hb); have n_Bg6 := Aside0.mk (blk_below Bg6.out hb); have n_Bg7 := Aside0.mk (blk_below Bg7.out hb); have n_HB := Aside0.mk (below_step HB.out hb); have NN10 : Aside0 (w9.heap.size ≤ w10.heap.size) := ⟨hb.size⟩; clear U33_0 U40_0 Bg3 Bg6 Bg7 HB; have U33_0 := n_U33_0; have U40_0 := n_U40_0; have Bg3 := n_Bg3; have Bg6 := n_Bg6; have Bg7 := n_Bg7; have HB := n_HB; clear n_U33_0 n_U40_0 n_Bg3 n_Bg6 n_Bg7 n_HB; have Bg17 := Aside0.mk hbox; clear hb hbox; have hc17_0 : w10.cell? ⟨g17, 0, none⟩ = some (.int .i64 0) := (blk_cell Bg17.out 0).trans rfl; have hf17_0 := blk_frozen Bg17.out 0; have hc17_1 : w10.cell? ⟨g17, 1, none⟩ = some (.int .i64 0) := (blk_cell Bg17.out 1).trans rfl; have hf17_1 := blk_frozen Bg17.out 1) | ((with_reducible refine gate_store (t := 65) (p := 17) rfl ?_); refine store_event (t := 65) (p := 17) (v := ?vo_w11) (w1 := ((w10.setCell ⟨g17, 0, none⟩ (.int .i64 x69_0)).setCell ⟨g17, 1, none⟩ (.int .i64 x69_1))) ?hg ?ho ?hn ?hr ?_; (case ho => rfl); (case hg => rfl); (case hn => rfl); (case hr => first | (go_simp; done) | (go_simp; rfl)); intro w11 hw; have hge : w.heap.size ≤ g17 := (by have := NN1.out; have := Gg3.out; have := Kg3.out; have := NN2.out; have := Gg6.out; have := Kg6.out; have := NN3.out; have := Gg7.out; have := Kg7.out; have := NN4.out; have := NN5.out; have := NN6.out; have := NN7.out; have := NN8.out; have := NN9.out; have := NN10.out; have := Gg17.out; have := Kg17.out; have := HB.out.size; omega); have hF : Frm w10 w11 g17 (g17 + 1) := (by rw [hw]; exact (Frm.trans (Frm.set _ _ _ _) (Frm.set _ _ _ _))); have nb := Aside0.mk (show w11.heap[g17]? = some (.cells #[.int .i64 x69_0, .int .i64 x69_1] 65 (0, 0)) from (by rw [hw]; exact (blk_put (blk_put Bg17.out 0 _ rfl) 1 _ rfl))); have n_U33_0 := Aside0.mk (U33_0.out.mv hF (by have := NN1.out; have := Gg3.out; have := Kg3.out; have := NN2.out; have := Gg6.out; have := Kg6.out; have := NN3.out; have := Gg7.out; have := Kg7.out; have := NN4.out; have := NN5.out; have := NN6.out; have := NN7.out; have := NN8.out; have := NN9.out; have := NN10.out; have := Gg17.out; have := Kg17.out; omega)); have n_U40_0 := Aside0.mk (U40_0.out.mv hF (by have := NN1.out; have := Gg3.out; have := Kg3.out; have := NN2.out; have := Gg6.out; have := Kg6.out; have := NN3.out; have := Gg7.out; have := Kg7.out; have := NN4.out; have := NN5.out; have := NN6.out; have := NN7.out; have := NN8.out; have := NN9.out; have := NN10.out; have := Gg17.out; have := Kg17.out; omega)); have n_Bg3 := Aside0.mk ((hF.same g3 (blk_lt Bg3.out) (by have := NN1.out; have := Gg3.out; have := Kg3.out; have := NN2.out; have := Gg6.out; have := Kg6.out; have := NN3.out; have := Gg7.out; have := Kg7.out; have := NN4.out; have := NN5.out; have := NN6.out; have := NN7.out; have := NN8.out; have := NN9.out; have := NN10.out; have := Gg17.out; have := Kg17.out; omega)).trans Bg3.out); have n_Bg6 := Aside0.mk ((hF.same g6 (blk_lt Bg6.out) (by have := NN1.out; have := Gg3.out; have := Kg3.out; have := NN2.out; have := Gg6.out; have := Kg6.out; have := NN3.out; have := Gg7.out; have := Kg7.out; have := NN4.out; have := NN5.out; have := NN6.out; have := NN7.out; have := NN8.out; have := NN9.out; have := NN10.out; have := Gg17.out; have := Kg17.out; omega)).trans Bg6.out); have n_Bg7 := Aside0.mk ((hF.same g7 (blk_lt Bg7.out) (by have := NN1.out; have := Gg3.out; have := Kg3.out; have := NN2.out; have := Gg6.out; have := Kg6.out; have := NN3.out; have := Gg7.out; have := Kg7.out; have := NN4.out; have := NN5.out; have := NN6.out; have := NN7.out; have := NN8.out; have := NN9.out; have := NN10.out; have := Gg17.out; have := Kg17.out; omega)).trans Bg7.out); have n_HB := Aside0.mk ((by rw [hw]; exact (below_set (below_set HB.out hge) hge) : Below w.heap.size w w11)); have NN11 : Aside0 (w10.heap.size ≤ w11.heap.size) := ⟨hF.size⟩; clear hc17_0 hf17_0; clear hc17_1 hf17_1; clear U33_0 U40_0 Bg3 Bg6 Bg7 HB; have U33_0 := n_U33_0; have U40_0 := n_U40_0; have Bg3 := n_Bg3; have Bg6 := n_Bg6; have Bg7 := n_Bg7; have HB := n_HB; clear n_U33_0 n_U40_0 n_Bg3 n_Bg6 n_Bg7 n_HB; clear Bg17; have Bg17 := nb; clear nb hF hge hw; have hc3_0 : w11.cell? ⟨g3, 0, none⟩ = some (.slice A0_0 l0_0.length c0_0) := (blk_cell Bg3.out 0).trans rfl; have hf3_0 := blk_frozen Bg3.out 0; have hc3_1 : w11.cell? ⟨g3, 1, none⟩ = some (.slice A0_1 l0_1.length c0_1) := (blk_cell Bg3.out 1).trans rfl; have hf3_1 := blk_frozen Bg3.out 1) | ((with_reducible refine gate_callee (f := 101) rfl ?_); refine goesL_ (some 82) rfl rfl Try.func101 (by kernel_rfl) rfl #[.slice A0_1 l0_1.length c0_1, .slice A33_0 x33_0.length c33_0, .slice A40_0 x40_0.length c40_0] rfl (by (try simp only [List.map_toArray, List.map_cons, List.map_nil]); first | done | rfl) ?_; refine (impl_form.calls k _ _ l0_1 _ _ x33_0 _ _ x40_0 x82_0 _ ?s1 ?s2 ?s3 ?s4 ?s5 ?s6 H7'.out).mono ?_; (case s1 => exact Kd.C_below HR0_1.out HB.out); (case s2 => exact HC0_1.out); (case s3 => exact UR.C U33_0.out); (case s4 => exact UR.cap U33_0.out); (case s5 => exact UR.C U40_0.out); (case s6 => exact UR.cap U40_0.out); rintro e w12 ⟨rfl, hb⟩; refine ⟨_, rfl, ?_⟩; have hb := hb.below; have n_U33_0 := Aside0.mk (U33_0.out.mvB (Frm.below hb)); have n_U40_0 := Aside0.mk (U40_0.out.mvB (Frm.below hb)); have n_Bg3 := Aside0.mk (blk_below Bg3.out hb); have n_Bg6 := Aside0.mk (blk_below Bg6.out hb); have n_Bg7 := Aside0.mk (blk_below Bg7.out hb); have n_Bg17 := Aside0.mk (blk_below Bg17.out hb); have n_HB := Aside0.mk (below_step HB.out hb); have NN12 : Aside0 (w11.heap.size ≤ w12.heap.size) := ⟨hb.size⟩; clear hc3_0 hf3_0; clear hc3_1 hf3_1; clear U33_0 U40_0 Bg3 Bg6 Bg7 Bg17 HB; have U33_0 := n_U33_0; have U40_0 := n_U40_0; have Bg3 := n_Bg3; have Bg6 := n_Bg6; have Bg7 := n_Bg7; have Bg17 := n_Bg17; have HB := n_HB; clear n_U33_0 n_U40_0 n_Bg3 n_Bg6 n_Bg7 n_Bg17 n_HB; clear hb) | ((with_reducible refine gate_callee (f := 100) rfl ?_); refine goesL_ (some 86) rfl rfl Try.func100 (by kernel_rfl) rfl #[.int .i64 x82_0, .int .i64 z68] rfl (by (try simp only [List.map_toArray, List.map_cons, List.map_nil]); first | done | rfl) ?_; refine (impl_reduced.calls k x82_0 z68 x86_0 x86_1 x86_2 _ H8'.out).mono ?_; rintro e w13 ⟨rfl, hb⟩; refine ⟨_, rfl, ?_⟩; have n_U33_0 := Aside0.mk (U33_0.out.mvB (Frm.below hb)); have n_U40_0 := Aside0.mk (U40_0.out.mvB (Frm.below hb)); have n_Bg3 := Aside0.mk (blk_below Bg3.out hb); have n_Bg6 := Aside0.mk (blk_below Bg6.out hb); have n_Bg7 := Aside0.mk (blk_below Bg7.out hb); have n_Bg17 := Aside0.mk (blk_below Bg17.out hb); have n_HB := Aside0.mk (below_step HB.out hb); have NN13 : Aside0 (w12.heap.size ≤ w13.heap.size) := ⟨hb.size⟩; clear U33_0 U40_0 Bg3 Bg6 Bg7 Bg17 HB; have U33_0 := n_U33_0; have U40_0 := n_U40_0; have Bg3 := n_Bg3; have Bg6 := n_Bg6; have Bg7 := n_Bg7; have Bg17 := n_Bg17; have HB := n_HB; clear n_U33_0 n_U40_0 n_Bg3 n_Bg6 n_Bg7 n_Bg17 n_HB; clear hb) | ((with_reducible refine gate_dst (N := 19) rfl ?_); refine box_event ?hg (N := 19) ?hd (cs := #[.int .i64 0, .int .i64 0]) (t := 65) ?hr ?_; (case hd => rfl); (case hg => rfl); (case hr => first | (go_simp; done) | (go_simp; rfl)); intro g19 hg w14 hbox hb; have Gg19 : Aside0 (g19 = w13.heap.size) := ⟨hg⟩; have Kg19 := Aside0.mk (blk_lt hbox); clear hg; have n_U33_0 := Aside0.mk (U33_0.out.mvB (Frm.below hb)); have n_U40_0 := Aside0.mk (U40_0.out.mvB (Frm.below hb)); have n_Bg3 := Aside0.mk (blk_below Bg3.out hb); have n_Bg6 := Aside0.mk (blk_below Bg6.out hb); have n_Bg7 := Aside0.mk (blk_below Bg7.out hb); have n_Bg17 := Aside0.mk (blk_below Bg17.out hb); have n_HB := Aside0.mk (below_step HB.out hb); have NN14 : Aside0 (w13.heap.size ≤ w14.heap.size) := ⟨hb.size⟩; clear U33_0 U40_0 Bg3 Bg6 Bg7 Bg17 HB; have U33_0 := n_U33_0; have U40_0 := n_U40_0; have Bg3 := n_Bg3; have Bg6 := n_Bg6; have Bg7 := n_Bg7; have Bg17 := n_Bg17; have HB := n_HB; clear n_U33_0 n_U40_0 n_Bg3 n_Bg6 n_Bg7 n_Bg17 n_HB; have Bg19 := Aside0.mk hbox; clear hb hbox; have hc19_0 : w14.cell? ⟨g19, 0, none⟩ = some (.int .i64 0) := (blk_cell Bg19.out 0).trans rfl; have hf19_0 := blk_frozen Bg19.out 0; have hc19_1 : w14.cell? ⟨g19, 1, none⟩ = some (.int .i64 0) := (blk_cell Bg19.out 1).trans rfl; have hf19_1 := blk_frozen Bg19.out 1) | ((with_reducible refine gate_store (t := 65) (p := 19) rfl ?_); refine store_event (t := 65) (p := 19) (v := ?vo_w15) (w1 := ((w14.setCell ⟨g19, 0, none⟩ (.int .i64 x86_0)).setCell ⟨g19, 1, none⟩ (.int .i64 x86_1))) ?hg ?ho ?hn ?hr ?_; (case ho => rfl); (case hg => rfl); (case hn => rfl); (case hr => first | (go_simp; done) | (go_simp; rfl)); intro w15 hw; have hge : w.heap.size ≤ g19 := (by have := NN1.out; have := Gg3.out; have := Kg3.out; have := NN2.out; have := Gg6.out; have := Kg6.out; have := NN3.out; have := Gg7.out; have := Kg7.out; have := NN4.out; have := NN5.out; have := NN6.out; have := NN7.out; have := NN8.out; have := NN9.out; have := NN10.out; have := Gg17.out; have := Kg17.out; have := NN11.out; have := NN12.out; have := NN13.out; have := NN14.out; have := Gg19.out; have := Kg19.out; have := HB.out.size; omega); have hF : Frm w14 w15 g19 (g19 + 1) := (by rw [hw]; exact (Frm.trans (Frm.set _ _ _ _) (Frm.set _ _ _ _))); have nb := Aside0.mk (show w15.heap[g19]? = some (.cells #[.int .i64 x86_0, .int .i64 x86_1] 65 (0, 0)) from (by rw [hw]; exact (blk_put (blk_put Bg19.out 0 _ rfl) 1 _ rfl))); have n_U33_0 := Aside0.mk (U33_0.out.mv hF (by have := NN1.out; have := Gg3.out; have := Kg3.out; have := NN2.out; have := Gg6.out; have := Kg6.out; have := NN3.out; have := Gg7.out; have := Kg7.out; have := NN4.out; have := NN5.out; have := NN6.out; have := NN7.out; have := NN8.out; have := NN9.out; have := NN10.out; have := Gg17.out; have := Kg17.out; have := NN11.out; have := NN12.out; have := NN13.out; have := NN14.out; have := Gg19.out; have := Kg19.out; omega)); have n_U40_0 := Aside0.mk (U40_0.out.mv hF (by have := NN1.out; have := Gg3.out; have := Kg3.out; have := NN2.out; have := Gg6.out; have := Kg6.out; have := NN3.out; have := Gg7.out; have := Kg7.out; have := NN4.out; have := NN5.out; have := NN6.out; have := NN7.out; have := NN8.out; have := NN9.out; have := NN10.out; have := Gg17.out; have := Kg17.out; have := NN11.out; have := NN12.out; have := NN13.out; have := NN14.out; have := Gg19.out; have := Kg19.out; omega)); have n_Bg3 := Aside0.mk ((hF.same g3 (blk_lt Bg3.out) (by have := NN1.out; have := Gg3.out; have := Kg3.out; have := NN2.out; have := Gg6.out; have := Kg6.out; have := NN3.out; have := Gg7.out; have := Kg7.out; have := NN4.out; have := NN5.out; have := NN6.out; have := NN7.out; have := NN8.out; have := NN9.out; have := NN10.out; have := Gg17.out; have := Kg17.out; have := NN11.out; have := NN12.out; have := NN13.out; have := NN14.out; have := Gg19.out; have := Kg19.out; omega)).trans Bg3.out); have n_Bg6 := Aside0.mk ((hF.same g6 (blk_lt Bg6.out) (by have := NN1.out; have := Gg3.out; have := Kg3.out; have := NN2.out; have := Gg6.out; have := Kg6.out; have := NN3.out; have := Gg7.out; have := Kg7.out; have := NN4.out; have := NN5.out; have := NN6.out; have := NN7.out; have := NN8.out; have := NN9.out; have := NN10.out; have := Gg17.out; have := Kg17.out; have := NN11.out; have := NN12.out; have := NN13.out; have := NN14.out; have := Gg19.out; have := Kg19.out; omega)).trans Bg6.out); have n_Bg7 := Aside0.mk ((hF.same g7 (blk_lt Bg7.out) (by have := NN1.out; have := Gg3.out; have := Kg3.out; have := NN2.out; have := Gg6.out; have := Kg6.out; have := NN3.out; have := Gg7.out; have := Kg7.out; have := NN4.out; have := NN5.out; have := NN6.out; have := NN7.out; have := NN8.out; have := NN9.out; have := NN10.out; have := Gg17.out; have := Kg17.out; have := NN11.out; have := NN12.out; have := NN13.out; have := NN14.out; have := Gg19.out; have := Kg19.out; omega)).trans Bg7.out); have n_Bg17 := Aside0.mk ((hF.same g17 (blk_lt Bg17.out) (by have := NN1.out; have := Gg3.out; have := Kg3.out; have := NN2.out; have := Gg6.out; have := Kg6.out; have := NN3.out; have := Gg7.out; have := Kg7.out; have := NN4.out; have := NN5.out; have := NN6.out; have := NN7.out; have := NN8.out; have := NN9.out; have := NN10.out; have := Gg17.out; have := Kg17.out; have := NN11.out; have := NN12.out; have := NN13.out; have := NN14.out; have := Gg19.out; have := Kg19.out; omega)).trans Bg17.out); have n_HB := Aside0.mk ((by rw [hw]; exact (below_set (below_set HB.out hge) hge) : Below w.heap.size w w15)); have NN15 : Aside0 (w14.heap.size ≤ w15.heap.size) := ⟨hF.size⟩; clear hc19_0 hf19_0; clear hc19_1 hf19_1; clear U33_0 U40_0 Bg3 Bg6 Bg7 Bg17 HB; have U33_0 := n_U33_0; have U40_0 := n_U40_0; have Bg3 := n_Bg3; have Bg6 := n_Bg6; have Bg7 := n_Bg7; have Bg17 := n_Bg17; have HB := n_HB; clear n_U33_0 n_U40_0 n_Bg3 n_Bg6 n_Bg7 n_Bg17 n_HB; clear Bg19; have Bg19 := nb; clear nb hF hge hw))
 try go_wp2
 have hb : Below w15.heap.size w15 w15.drew := (Below.refl _ _).drew
 have n_U33_0 := Aside0.mk (U33_0.out.mvB (Frm.below hb))
 have n_U40_0 := Aside0.mk (U40_0.out.mvB (Frm.below hb))
 have n_Bg3 := Aside0.mk (blk_below Bg3.out hb)
 have n_Bg6 := Aside0.mk (blk_below Bg6.out hb)
 have n_Bg7 := Aside0.mk (blk_below Bg7.out hb)
 have n_Bg17 := Aside0.mk (blk_below Bg17.out hb)
 have n_Bg19 := Aside0.mk (blk_below Bg19.out hb)
 have n_HB := Aside0.mk (below_step HB.out hb)
 have NN16 : Aside0 (w15.heap.size ≤ w15.drew.heap.size) := ⟨hb.size⟩
 clear U33_0 U40_0 Bg3 Bg6 Bg7 Bg17 Bg19 HB
 have U33_0 := n_U33_0
 have U40_0 := n_U40_0
 have Bg3 := n_Bg3
 have Bg6 := n_Bg6
 have Bg7 := n_Bg7
 have Bg17 := n_Bg17
 have Bg19 := n_Bg19
 have HB := n_HB
 clear n_U33_0 n_U40_0 n_Bg3 n_Bg6 n_Bg7 n_Bg17 n_Bg19 n_HB
 clear hb
 refine start_ (n := 5) (S := fun w' => w'.cell? ⟨g17, 0, none⟩ = some (.int .i64 x69_0) ∧ w'.cell? ⟨g17, 1, none⟩ = some (.int .i64 x69_1) ∧ w'.cell? ⟨g19, 0, none⟩ = some (.int .i64 x86_0) ∧ w'.cell? ⟨g19, 1, none⟩ = some (.int .i64 x86_1)) (ds := []) #[false, false, false, false, false] (by kernel_rfl) rfl rfl ⟨(blk_cell Bg17.out 0).trans rfl, (blk_cell Bg17.out 1).trans rfl, (blk_cell Bg19.out 0).trans rfl, (blk_cell Bg19.out 1).trans rfl⟩ (fun hHeld => ?_)
 generalize w15.drew = w16 at U33_0 U40_0 Bg3 Bg6 Bg7 Bg17 Bg19 HB NN16 hHeld ⊢
 have hc6_0 : w16.cell? ⟨g6, 0, none⟩ = some (.int .i64 0) := (blk_cell Bg6.out 0).trans rfl
 have hf6_0 := blk_frozen Bg6.out 0
 have hc6_1 : w16.cell? ⟨g6, 1, none⟩ = some (.int .i64 0) := (blk_cell Bg6.out 1).trans rfl
 have hf6_1 := blk_frozen Bg6.out 1
 have hc17_0 : w16.cell? ⟨g17, 0, none⟩ = some (.int .i64 x69_0) := (blk_cell Bg17.out 0).trans rfl
 have hf17_0 := blk_frozen Bg17.out 0
 have hc17_1 : w16.cell? ⟨g17, 1, none⟩ = some (.int .i64 x69_1) := (blk_cell Bg17.out 1).trans rfl
 have hf17_1 := blk_frozen Bg17.out 1
 have hc19_0 : w16.cell? ⟨g19, 0, none⟩ = some (.int .i64 x86_0) := (blk_cell Bg19.out 0).trans rfl
 have hf19_0 := blk_frozen Bg19.out 0
 have hc19_1 : w16.cell? ⟨g19, 1, none⟩ = some (.int .i64 x86_1) := (blk_cell Bg19.out 1).trans rfl
 have hf19_1 := blk_frozen Bg19.out 1
 refine take_ (i := 0) (N := some 94) (v := ?_) (a' := ?_) #[true, false, false, false, false] rfl rfl (by kernel_rfl) (fun _ _ _ h => h) (Or.inl ⟨by rfl, ?_⟩) hHeld ?_ ?_
 rotate_left
 ·rintro w' ⟨s0, s1, s2, s3⟩
  go_simp
  with_reducible rfl
 rotate_left
 ·simp only [Act.put, List.setIfInBounds_toArray, List.set_cons_zero, List.set_cons_succ, i64_w, i32_w]
  rfl
 refine take_ (i := 1) (N := some 95) (v := ?_) (a' := ?_) #[true, true, false, false, false] rfl rfl (by kernel_rfl) (fun _ _ _ h => h) (Or.inl ⟨by rfl, ?_⟩) hHeld ?_ ?_
 rotate_left
 ·rintro w' ⟨s0, s1, s2, s3⟩
  go_simp
  with_reducible rfl
 rotate_left
 ·simp only [Act.put, List.setIfInBounds_toArray, List.set_cons_zero, List.set_cons_succ, i64_w, i32_w]
  rfl
 refine one_ (i := 2) (N := none) #[true, true, true, false, false] rfl rfl (by kernel_rfl) (by decide) (fun K hK => ?_)
 refine skip_ (w1 := ((w16.setCell ⟨g6, 0, none⟩ (.int .i64 x69_0)).setCell ⟨g6, 1, none⟩ (.int .i64 x69_1))) (by rfl) rfl (by first | (go_simp; done) | (go_simp; rfl)) ?_
 obtain ⟨w17, hw⟩ : ∃ x_, x_ = ((w16.setCell ⟨g6, 0, none⟩ (.int .i64 x69_0)).setCell ⟨g6, 1, none⟩ (.int .i64 x69_1)) := ⟨_, rfl⟩
 rw [← hw]
 (have hge : w.heap.size ≤ g6 := (by have := NN1.out; have := Gg3.out; have := Kg3.out; have := NN2.out; have := Gg6.out; have := Kg6.out; have := NN3.out; have := Gg7.out; have := Kg7.out; have := NN4.out; have := NN5.out; have := NN6.out; have := NN7.out; have := NN8.out; have := NN9.out; have := NN10.out; have := Gg17.out; have := Kg17.out; have := NN11.out; have := NN12.out; have := NN13.out; have := NN14.out; have := Gg19.out; have := Kg19.out; have := NN15.out; have := NN16.out; have := HB.out.size; omega); have hF : Frm w16 w17 g6 (g6 + 1) := (by rw [hw]; exact (Frm.trans (Frm.set _ _ _ _) (Frm.set _ _ _ _))); have nb := Aside0.mk (show w17.heap[g6]? = some (.cells #[.int .i64 x69_0, .int .i64 x69_1] 65 (0, 0)) from (by rw [hw]; exact (blk_put (blk_put Bg6.out 0 _ rfl) 1 _ rfl))); have n_U33_0 := Aside0.mk (U33_0.out.mv hF (by have := NN1.out; have := Gg3.out; have := Kg3.out; have := NN2.out; have := Gg6.out; have := Kg6.out; have := NN3.out; have := Gg7.out; have := Kg7.out; have := NN4.out; have := NN5.out; have := NN6.out; have := NN7.out; have := NN8.out; have := NN9.out; have := NN10.out; have := Gg17.out; have := Kg17.out; have := NN11.out; have := NN12.out; have := NN13.out; have := NN14.out; have := Gg19.out; have := Kg19.out; have := NN15.out; have := NN16.out; omega)); have n_U40_0 := Aside0.mk (U40_0.out.mv hF (by have := NN1.out; have := Gg3.out; have := Kg3.out; have := NN2.out; have := Gg6.out; have := Kg6.out; have := NN3.out; have := Gg7.out; have := Kg7.out; have := NN4.out; have := NN5.out; have := NN6.out; have := NN7.out; have := NN8.out; have := NN9.out; have := NN10.out; have := Gg17.out; have := Kg17.out; have := NN11.out; have := NN12.out; have := NN13.out; have := NN14.out; have := Gg19.out; have := Kg19.out; have := NN15.out; have := NN16.out; omega)); have n_Bg3 := Aside0.mk ((hF.same g3 (blk_lt Bg3.out) (by have := NN1.out; have := Gg3.out; have := Kg3.out; have := NN2.out; have := Gg6.out; have := Kg6.out; have := NN3.out; have := Gg7.out; have := Kg7.out; have := NN4.out; have := NN5.out; have := NN6.out; have := NN7.out; have := NN8.out; have := NN9.out; have := NN10.out; have := Gg17.out; have := Kg17.out; have := NN11.out; have := NN12.out; have := NN13.out; have := NN14.out; have := Gg19.out; have := Kg19.out; have := NN15.out; have := NN16.out; omega)).trans Bg3.out); have n_Bg7 := Aside0.mk ((hF.same g7 (blk_lt Bg7.out) (by have := NN1.out; have := Gg3.out; have := Kg3.out; have := NN2.out; have := Gg6.out; have := Kg6.out; have := NN3.out; have := Gg7.out; have := Kg7.out; have := NN4.out; have := NN5.out; have := NN6.out; have := NN7.out; have := NN8.out; have := NN9.out; have := NN10.out; have := Gg17.out; have := Kg17.out; have := NN11.out; have := NN12.out; have := NN13.out; have := NN14.out; have := Gg19.out; have := Kg19.out; have := NN15.out; have := NN16.out; omega)).trans Bg7.out); have n_Bg17 := Aside0.mk ((hF.same g17 (blk_lt Bg17.out) (by have := NN1.out; have := Gg3.out; have := Kg3.out; have := NN2.out; have := Gg6.out; have := Kg6.out; have := NN3.out; have := Gg7.out; have := Kg7.out; have := NN4.out; have := NN5.out; have := NN6.out; have := NN7.out; have := NN8.out; have := NN9.out; have := NN10.out; have := Gg17.out; have := Kg17.out; have := NN11.out; have := NN12.out; have := NN13.out; have := NN14.out; have := Gg19.out; have := Kg19.out; have := NN15.out; have := NN16.out; omega)).trans Bg17.out); have n_Bg19 := Aside0.mk ((hF.same g19 (blk_lt Bg19.out) (by have := NN1.out; have := Gg3.out; have := Kg3.out; have := NN2.out; have := Gg6.out; have := Kg6.out; have := NN3.out; have := Gg7.out; have := Kg7.out; have := NN4.out; have := NN5.out; have := NN6.out; have := NN7.out; have := NN8.out; have := NN9.out; have := NN10.out; have := Gg17.out; have := Kg17.out; have := NN11.out; have := NN12.out; have := NN13.out; have := NN14.out; have := Gg19.out; have := Kg19.out; have := NN15.out; have := NN16.out; omega)).trans Bg19.out); have n_HB := Aside0.mk ((by rw [hw]; exact (below_set (below_set HB.out hge) hge) : Below w.heap.size w w17)); have NN17 : Aside0 (w16.heap.size ≤ w17.heap.size) := ⟨hF.size⟩; clear hc6_0 hf6_0; clear hc6_1 hf6_1; clear hc17_0 hf17_0; clear hc17_1 hf17_1; clear hc19_0 hf19_0; clear hc19_1 hf19_1; clear U33_0 U40_0 Bg3 Bg7 Bg17 Bg19 HB; have U33_0 := n_U33_0; have U40_0 := n_U40_0; have Bg3 := n_Bg3; have Bg7 := n_Bg7; have Bg17 := n_Bg17; have Bg19 := n_Bg19; have HB := n_HB; clear n_U33_0 n_U40_0 n_Bg3 n_Bg7 n_Bg17 n_Bg19 n_HB; clear Bg6; have Bg6 := nb; clear nb hF hge hw; have hc7_0 : w17.cell? ⟨g7, 0, none⟩ = some (.int .i64 0) := (blk_cell Bg7.out 0).trans rfl; have hf7_0 := blk_frozen Bg7.out 0; have hc7_1 : w17.cell? ⟨g7, 1, none⟩ = some (.int .i64 0) := (blk_cell Bg7.out 1).trans rfl; have hf7_1 := blk_frozen Bg7.out 1)
 refine hK.out _ _ ⟨(blk_cell Bg17.out 0).trans rfl, (blk_cell Bg17.out 1).trans rfl, (blk_cell Bg19.out 0).trans rfl, (blk_cell Bg19.out 1).trans rfl⟩ (fun hHeld => ?_)
 clear hK K
 refine one_ (i := 3) (N := none) #[true, true, true, true, false] rfl rfl (by kernel_rfl) (by decide) (fun K hK => ?_)
 refine skip_ (w1 := ((w17.setCell ⟨g7, 0, none⟩ (.int .i64 x86_0)).setCell ⟨g7, 1, none⟩ (.int .i64 x86_1))) (by rfl) rfl (by first | (go_simp; done) | (go_simp; rfl)) ?_
 obtain ⟨w18, hw⟩ : ∃ x_, x_ = ((w17.setCell ⟨g7, 0, none⟩ (.int .i64 x86_0)).setCell ⟨g7, 1, none⟩ (.int .i64 x86_1)) := ⟨_, rfl⟩
 rw [← hw]
 (have hge : w.heap.size ≤ g7 := (by have := NN1.out; have := Gg3.out; have := Kg3.out; have := NN2.out; have := Gg6.out; have := Kg6.out; have := NN3.out; have := Gg7.out; have := Kg7.out; have := NN4.out; have := NN5.out; have := NN6.out; have := NN7.out; have := NN8.out; have := NN9.out; have := NN10.out; have := Gg17.out; have := Kg17.out; have := NN11.out; have := NN12.out; have := NN13.out; have := NN14.out; have := Gg19.out; have := Kg19.out; have := NN15.out; have := NN16.out; have := NN17.out; have := HB.out.size; omega); have hF : Frm w17 w18 g7 (g7 + 1) := (by rw [hw]; exact (Frm.trans (Frm.set _ _ _ _) (Frm.set _ _ _ _))); have nb := Aside0.mk (show w18.heap[g7]? = some (.cells #[.int .i64 x86_0, .int .i64 x86_1] 65 (0, 0)) from (by rw [hw]; exact (blk_put (blk_put Bg7.out 0 _ rfl) 1 _ rfl))); have n_U33_0 := Aside0.mk (U33_0.out.mv hF (by have := NN1.out; have := Gg3.out; have := Kg3.out; have := NN2.out; have := Gg6.out; have := Kg6.out; have := NN3.out; have := Gg7.out; have := Kg7.out; have := NN4.out; have := NN5.out; have := NN6.out; have := NN7.out; have := NN8.out; have := NN9.out; have := NN10.out; have := Gg17.out; have := Kg17.out; have := NN11.out; have := NN12.out; have := NN13.out; have := NN14.out; have := Gg19.out; have := Kg19.out; have := NN15.out; have := NN16.out; have := NN17.out; omega)); have n_U40_0 := Aside0.mk (U40_0.out.mv hF (by have := NN1.out; have := Gg3.out; have := Kg3.out; have := NN2.out; have := Gg6.out; have := Kg6.out; have := NN3.out; have := Gg7.out; have := Kg7.out; have := NN4.out; have := NN5.out; have := NN6.out; have := NN7.out; have := NN8.out; have := NN9.out; have := NN10.out; have := Gg17.out; have := Kg17.out; have := NN11.out; have := NN12.out; have := NN13.out; have := NN14.out; have := Gg19.out; have := Kg19.out; have := NN15.out; have := NN16.out; have := NN17.out; omega)); have n_Bg3 := Aside0.mk ((hF.same g3 (blk_lt Bg3.out) (by have := NN1.out; have := Gg3.out; have := Kg3.out; have := NN2.out; have := Gg6.out; have := Kg6.out; have := NN3.out; have := Gg7.out; have := Kg7.out; have := NN4.out; have := NN5.out; have := NN6.out; have := NN7.out; have := NN8.out; have := NN9.out; have := NN10.out; have := Gg17.out; have := Kg17.out; have := NN11.out; have := NN12.out; have := NN13.out; have := NN14.out; have := Gg19.out; have := Kg19.out; have := NN15.out; have := NN16.out; have := NN17.out; omega)).trans Bg3.out); have n_Bg6 := Aside0.mk ((hF.same g6 (blk_lt Bg6.out) (by have := NN1.out; have := Gg3.out; have := Kg3.out; have := NN2.out; have := Gg6.out; have := Kg6.out; have := NN3.out; have := Gg7.out; have := Kg7.out; have := NN4.out; have := NN5.out; have := NN6.out; have := NN7.out; have := NN8.out; have := NN9.out; have := NN10.out; have := Gg17.out; have := Kg17.out; have := NN11.out; have := NN12.out; have := NN13.out; have := NN14.out; have := Gg19.out; have := Kg19.out; have := NN15.out; have := NN16.out; have := NN17.out; omega)).trans Bg6.out); have n_Bg17 := Aside0.mk ((hF.same g17 (blk_lt Bg17.out) (by have := NN1.out; have := Gg3.out; have := Kg3.out; have := NN2.out; have := Gg6.out; have := Kg6.out; have := NN3.out; have := Gg7.out; have := Kg7.out; have := NN4.out; have := NN5.out; have := NN6.out; have := NN7.out; have := NN8.out; have := NN9.out; have := NN10.out; have := Gg17.out; have := Kg17.out; have := NN11.out; have := NN12.out; have := NN13.out; have := NN14.out; have := Gg19.out; have := Kg19.out; have := NN15.out; have := NN16.out; have := NN17.out; omega)).trans Bg17.out); have n_Bg19 := Aside0.mk ((hF.same g19 (blk_lt Bg19.out) (by have := NN1.out; have := Gg3.out; have := Kg3.out; have := NN2.out; have := Gg6.out; have := Kg6.out; have := NN3.out; have := Gg7.out; have := Kg7.out; have := NN4.out; have := NN5.out; have := NN6.out; have := NN7.out; have := NN8.out; have := NN9.out; have := NN10.out; have := Gg17.out; have := Kg17.out; have := NN11.out; have := NN12.out; have := NN13.out; have := NN14.out; have := Gg19.out; have := Kg19.out; have := NN15.out; have := NN16.out; have := NN17.out; omega)).trans Bg19.out); have n_HB := Aside0.mk ((by rw [hw]; exact (below_set (below_set HB.out hge) hge) : Below w.heap.size w w18)); have NN18 : Aside0 (w17.heap.size ≤ w18.heap.size) := ⟨hF.size⟩; clear hc7_0 hf7_0; clear hc7_1 hf7_1; clear U33_0 U40_0 Bg3 Bg6 Bg17 Bg19 HB; have U33_0 := n_U33_0; have U40_0 := n_U40_0; have Bg3 := n_Bg3; have Bg6 := n_Bg6; have Bg17 := n_Bg17; have Bg19 := n_Bg19; have HB := n_HB; clear n_U33_0 n_U40_0 n_Bg3 n_Bg6 n_Bg17 n_Bg19 n_HB; clear Bg7; have Bg7 := nb; clear nb hF hge hw)
 refine hK.out _ _ ⟨(blk_cell Bg17.out 0).trans rfl, (blk_cell Bg17.out 1).trans rfl, (blk_cell Bg19.out 0).trans rfl, (blk_cell Bg19.out 1).trans rfl⟩ (fun hHeld => ?_)
 clear hK K
 refine pure_ (i := 4) (N := some 8) (v := ?_) (a' := ?_) #[true, true, true, true, true] rfl rfl (by kernel_rfl) (fun _ _ _ h => h) (Or.inl ⟨by rfl, ?_⟩) ?_ ?_
 rotate_left
 ·intro w'
  go_simp
  with_reducible rfl
 rotate_left
 ·simp only [Act.put, List.setIfInBounds_toArray, List.set_cons_zero, List.set_cons_succ, i64_w, i32_w]
  rfl
 refine done_ (by kernel_rfl) ?_
 try go_wp2
 refine bodyPost_ret (results_list (rs := [.cell 6 65, .cell 7 65, .tmp 8]) rfl (by simp) (.cell g6 65 #[.int .i64 x69_0, .int .i64 x69_1] (0, 0) _ rfl Bg6.out Try.underlying65 rfl (by kernel_rfl) (.cell g7 65 #[.int .i64 x86_0, .int .i64 x86_1] (0, 0) _ rfl Bg7.out Try.underlying65 rfl (by kernel_rfl) (.tmp .nil)))) rfl ?_
 exact ⟨rfl, HB.out⟩
end Go.Proofs.Ytjjbhdpjnjncbaa.Pr
end
section
namespace Go.Proofs.Ytjjbhdpjnjncbaa.Pr
open Go.RowKit Go.Proofs.YtjjbhdpjnjncbaaW.PrintWords Go.Proofs.YtjjbhdpjnjncbaaW.PrintLast Go.Proofs.YtjjbhdpjnjncbaaW.PrintMore
def payTell (k : Nat) (b : List (List Int)) (x y : List Int × Int × Bool) (p : Int × Int × Int) : Option (Int × Int × Int × Int × Int) :=
 if p.2.2 = 0 then ((impl_form.f k b x.1 y.1).bind fun v => (impl_reduced.f k v (IntKind.i64.wrap (x.2.1 * y.2.1))).bind fun q => if q.2.2 = 0 then some (p.1, p.2.1, q.1, q.2.1, 0) else some (0, 0, 0, 0, q.2.2)) else some (0, 0, 0, 0, p.2.2)
def payAt (k : Nat) (a b : List (List Int)) (x y : List Int × Int × Bool) : Option (Int × Int × Int × Int × Int) :=
 if x.2.2 = true then (if y.2.2 = true then (if 30000 < x.2.1 then some (0, 0, 0, 0, 3) else if 30000 < y.2.1 then some (0, 0, 0, 0, 3) else (impl_form.f k a x.1 y.1).bind fun u => (impl_reduced.f k u (IntKind.i64.wrap (x.2.1 * y.2.1))).bind (payTell k b x y)) else some (0, 0, 0, 0, 2)) else some (0, 0, 0, 0, 2)
def impl_PayoffsAt.f (k : Nat) (l0_0 : List (List Int)) (l0_1 : List (List Int)) (l1 : List S65) (l2 : List S65) : Option (Int × Int × Int × Int × Int) :=
 (impl_IsGame.f l0_0 l0_1).bind fun t => if t = true then ((impl_Game_sizes.f l0_0 l0_1).bind fun s => (impl_mix.f k l1 s.1).bind fun x => (impl_mix.f k l2 s.2).bind fun y => payAt k l0_0 l0_1 x y) else some (0, 0, 0, 0, 1)
theorem impl_PayoffsAt.calls (k : Nat) (A0_0 : Option Addr) (c0_0 : Nat) (l0_0 : List (List Int)) (A0_1 : Option Addr) (c0_1 : Nat) (l0_1 : List (List Int)) (A1 : Option Addr) (c1 : Nat) (l1 : List (S65)) (A2 : Option Addr) (c2 : Nat) (l2 : List (S65)) (r1 : Int) (r2 : Int) (r3 : Int) (r4 : Int) (r5 : Int) (w : World) (hr0_0 : Kd.C (Kd.slice 2 (Kd.int .i64)) w A0_0 l0_0.length l0_0) (hc0_0 : l0_0.length ≤ c0_0) (hr0_1 : Kd.C (Kd.slice 2 (Kd.int .i64)) w A0_1 l0_1.length l0_1) (hc0_1 : l0_1.length ≤ c0_1) (hr1 : Kd.C k65 w A1 l1.length l1) (hc1 : l1.length ≤ c1) (hr2 : Kd.C k65 w A2 l2.length l2) (hc2 : l2.length ≤ c2) (h : impl_PayoffsAt.f k l0_0 l0_1 l1 l2 = some (r1, r2, r3, r4, r5)) :
  Calls Try.prog 47 #[.agg #[.slice A0_0 l0_0.length c0_0, .slice A0_1 l0_1.length c0_1], .slice A1 l1.length c1, .slice A2 l2.length c2] w fun e w' => e = .returned (.tuple #[.agg #[.int .i64 r1, .int .i64 r2], .agg #[.int .i64 r3, .int .i64 r4], .int .i64 r5]) ∧ Below w.heap.size w w' := by
 unfold impl_PayoffsAt.f at h
 obtain ⟨t, h1, h⟩ := Option.bind_eq_some_iff.mp h
 cases t with
 | false =>
  rw [if_neg (by simp)] at h
  cases h
  exact impl_PayoffsAt.way0 k A0_0 c0_0 l0_0 A0_1 c0_1 l0_1 A1 c1 l1 A2 c2 l2 w hr0_0 hc0_0 hr0_1 hc0_1 hr1 hc1 hr2 hc2 h1
 | true =>
  rw [if_pos rfl] at h
  obtain ⟨⟨s1, s2⟩, h2, h⟩ := Option.bind_eq_some_iff.mp h
  obtain ⟨⟨x1, x2, x3⟩, h3, h⟩ := Option.bind_eq_some_iff.mp h
  obtain ⟨⟨y1, y2, y3⟩, h4, h⟩ := Option.bind_eq_some_iff.mp h
  unfold payAt at h
  cases x3 with
  | false =>
   rw [if_neg (by simp)] at h
   cases h
   exact impl_PayoffsAt.way1 k A0_0 c0_0 l0_0 A0_1 c0_1 l0_1 A1 c1 l1 A2 c2 l2 _ _ _ _ _ _ _ w hr0_0 hc0_0 hr0_1 hc0_1 hr1 hc1 hr2 hc2 h1 h2 h3 h4
  | true =>
   rw [if_pos rfl] at h
   cases y3 with
   | false =>
    rw [if_neg (by simp)] at h
    cases h
    exact impl_PayoffsAt.way2 k A0_0 c0_0 l0_0 A0_1 c0_1 l0_1 A1 c1 l1 A2 c2 l2 _ _ _ _ _ _ w hr0_0 hc0_0 hr0_1 hc0_1 hr1 hc1 hr2 hc2 h1 h2 h3 h4
   | true =>
    rw [if_pos rfl] at h
    by_cases c3 : (30000 : Int) < x2
    ·rw [if_pos c3] at h
     cases h
     exact impl_PayoffsAt.way3 k A0_0 c0_0 l0_0 A0_1 c0_1 l0_1 A1 c1 l1 A2 c2 l2 _ _ _ _ _ _ w hr0_0 hc0_0 hr0_1 hc0_1 hr1 hc1 hr2 hc2 h1 h2 h3 h4 c3
    ·rw [if_neg c3] at h
     by_cases c4 : (30000 : Int) < y2
     ·rw [if_pos c4] at h
      cases h
      exact impl_PayoffsAt.way4 k A0_0 c0_0 l0_0 A0_1 c0_1 l0_1 A1 c1 l1 A2 c2 l2 _ _ _ _ _ _ w hr0_0 hc0_0 hr0_1 hc0_1 hr1 hc1 hr2 hc2 h1 h2 h3 h4 c3 c4
     ·rw [if_neg c4] at h
      obtain ⟨u, h5, h⟩ := Option.bind_eq_some_iff.mp h
      obtain ⟨⟨p1, p2, p3⟩, h6, h⟩ := Option.bind_eq_some_iff.mp h
      unfold payTell at h
      by_cases c5 : p3 = 0
      ·rw [if_pos c5] at h
       obtain ⟨v, h7, h⟩ := Option.bind_eq_some_iff.mp h
       obtain ⟨⟨q1, q2, q3⟩, h8, h⟩ := Option.bind_eq_some_iff.mp h
       by_cases c6 : q3 = 0
       ·rw [if_pos c6] at h
        cases h
        exact impl_PayoffsAt.way5 k A0_0 c0_0 l0_0 A0_1 c0_1 l0_1 A1 c1 l1 A2 c2 l2 _ _ _ _ _ _ _ _ _ _ _ _ _ _ _ w hr0_0 hc0_0 hr0_1 hc0_1 hr1 hc1 hr2 hc2 h1 h2 h3 h4 h5 h6 h7 h8 rfl c3 c4 c5 c6
       ·rw [if_neg c6] at h
        cases h
        exact impl_PayoffsAt.way7 k A0_0 c0_0 l0_0 A0_1 c0_1 l0_1 A1 c1 l1 A2 c2 l2 _ _ _ _ _ _ _ _ _ _ _ _ _ _ _ w hr0_0 hc0_0 hr0_1 hc0_1 hr1 hc1 hr2 hc2 h1 h2 h3 h4 h5 h6 h7 h8 rfl c3 c4 c5 c6
      ·rw [if_neg c5] at h
       cases h
       exact impl_PayoffsAt.way6 k A0_0 c0_0 l0_0 A0_1 c0_1 l0_1 A1 c1 l1 A2 c2 l2 _ _ _ _ _ _ _ _ _ _ _ w hr0_0 hc0_0 hr0_1 hc0_1 hr1 hc1 hr2 hc2 h1 h2 h3 h4 h5 h6 rfl c3 c4 c5
end Go.Proofs.Ytjjbhdpjnjncbaa.Pr
end
section
namespace Go.Proofs.Ytjjbhdpjnjncbaa.Pr
open Go.RowKit Go.Proofs.YtjjbhdpjnjncbaaW.PrintWords Go.Proofs.YtjjbhdpjnjncbaaW.PrintLast Go.Proofs.YtjjbhdpjnjncbaaW.PrintMore
attribute [local go_sem] max2_int min2_int max_two min_two max_three min_three max_four min_four
mutual
def spec_l01Common.l0 : Nat → List (S65) → Int → Int → Option (List Int × Int × Bool)
 | 0, _, _, _ => none
 | k + 1, x0, x5, x6 => if x6 < (x0.length : Int) then (if 0 ≤ x6 then ((spec_l01Gcd.f k x5 ((rd_T65 x0 x6).f1)).bind fun t654 => (if t654 = 0 then (none) else (if (wrap64 ((wrap64 (Int.tdiv x5 t654)) * ((rd_T65 x0 x6).f1))) > 1000000000 then (some (([] : List Int), 0, false)) else (spec_l01Common.l0 k x0 (wrap64 ((wrap64 (Int.tdiv x5 t654)) * ((rd_T65 x0 x6).f1))) (wrap64 (x6 + 1)))))) else (none)) else (spec_l01Common.l1 k x0 x5 (([] : List Int)) 0)
def spec_l01Common.l1 : Nat → List (S65) → Int → List Int → Int → Option (List Int × Int × Bool)
 | 0, _, _, _, _ => none
 | k + 1, x0, x5, x7, x8 => if x8 < (x0.length : Int) then (if 0 ≤ x8 then (if ((rd_T65 x0 x8).f1) = 0 then (none) else ((spec_l01In.f (wrap64 (((rd_T65 x0 x8).f0) * (wrap64 (Int.tdiv x5 ((rd_T65 x0 x8).f1))))) (-1000000000000) 1000000000000).bind fun t661 => (if t661 = true then (if x7.length < 17592186044416 then (spec_l01Common.l1 k x0 x5 (x7 ++ [wrap64 (((rd_T65 x0 x8).f0) * (wrap64 (Int.tdiv x5 ((rd_T65 x0 x8).f1))))]) (wrap64 (x8 + 1))) else (none)) else (some (([] : List Int), 0, false))))) else (none)) else (some (x7, x5, true))
end
def spec_l01Common.f (k : Nat) (l0 : List (S65)) : Option (List Int × Int × Bool) := spec_l01Common.l0 k l0 1 0
theorem spec_l01Common.mono_l : ∀ k, (∀ y0 y1 y2, LeO (spec_l01Common.l0 k y0 y1 y2) (spec_l01Common.l0 (k + 1) y0 y1 y2)) ∧ (∀ y0 y1 y2 y3, LeO (spec_l01Common.l1 k y0 y1 y2 y3) (spec_l01Common.l1 (k + 1) y0 y1 y2 y3))
 | 0 => ⟨fun _ _ _ r h => by simp [spec_l01Common.l0] at h, fun _ _ _ _ r h => by simp [spec_l01Common.l1] at h⟩
 | k + 1 => by
  obtain ⟨ih0, ih1⟩ := spec_l01Common.mono_l k
  refine ⟨?_, ?_⟩
  ·intro y0 y1 y2
   unfold spec_l01Common.l0
   repeat' first
   | (with_reducible exact ih0 _ _ _)
   | (with_reducible exact ih1 _ _ _ _)
   | (with_reducible exact spec_l01Gcd.mono _ _ _)
   | (with_reducible exact LeO.refl _)
   | (with_reducible exact LeO.none _)
   | (with_reducible refine LeO.ite ?_ ?_)
   | (with_reducible refine LeO.bind ?_ (fun _ => ?_))
   | exact ih0 _ _ _
   | exact ih1 _ _ _ _
   | exact spec_l01Gcd.mono _ _ _
   | exact LeO.none _
   | refine LeO.ite ?_ ?_
   | refine LeO.bind ?_ (fun _ => ?_)
  ·intro y0 y1 y2 y3
   unfold spec_l01Common.l1
   repeat' first
   | (with_reducible exact ih0 _ _ _)
   | (with_reducible exact ih1 _ _ _ _)
   | (with_reducible exact spec_l01Gcd.mono _ _ _)
   | (with_reducible exact LeO.refl _)
   | (with_reducible exact LeO.none _)
   | (with_reducible refine LeO.ite ?_ ?_)
   | (with_reducible refine LeO.bind ?_ (fun _ => ?_))
   | exact ih0 _ _ _
   | exact ih1 _ _ _ _
   | exact spec_l01Gcd.mono _ _ _
   | exact LeO.none _
   | refine LeO.ite ?_ ?_
   | refine LeO.bind ?_ (fun _ => ?_)
theorem spec_l01Common.mono : ∀ a0 k, LeO (spec_l01Common.f k a0) (spec_l01Common.f (k + 1) a0) := by
 intro a0 k
 obtain ⟨ih0, ih1⟩ := spec_l01Common.mono_l k
 unfold spec_l01Common.f
 repeat' first
   | (with_reducible exact ih0 _ _ _)
   | (with_reducible exact ih1 _ _ _ _)
   | (with_reducible exact spec_l01Gcd.mono _ _ _)
   | (with_reducible exact LeO.refl _)
   | (with_reducible exact LeO.none _)
   | (with_reducible refine LeO.ite ?_ ?_)
   | (with_reducible refine LeO.bind ?_ (fun _ => ?_))
   | exact ih0 _ _ _
   | exact ih1 _ _ _ _
   | exact spec_l01Gcd.mono _ _ _
   | exact LeO.none _
   | refine LeO.ite ?_ ?_
   | refine LeO.bind ?_ (fun _ => ?_)
def spec_l01Common.T5 : Bool × List (List Nat × List Nat) := (true, [([], []), ([], []), ([], []), ([], []), ([2, 3], [2, 3]), ([4], [4]), ([5], [5]), ([1, 6], [1, 6]), ([0, 7], [0, 7]), ([], []), ([], []), ([9, 10], [9, 10]), ([11], [11]), ([12], [12]), ([8, 13], [8, 13]), ([14, 7, 0, 1, 2, 3, 4, 5, 6, 7, 8, 9, 10, 11, 12, 13, 14], [0, 1, 14])])
def spec_l01Common.B5 : List Nat := [0, 0, 0, 0, 12, 28, 60, 126, 255, 0, 0, 1536, 3584, 7680, 16383, 32767]
theorem spec_l01Common.tab5 : rtab .any (opsOf Try.f142 5) = spec_l01Common.T5 := by kernel_rfl
theorem spec_l01Common.bits5 : waitsOk spec_l01Common.T5.2 spec_l01Common.B5 = true := by kernel_rfl
def spec_l01Common.T12 : Bool × List (List Nat × List Nat) := (true, [([], []), ([], []), ([0, 1], [0, 1]), ([2], [2]), ([3], [3]), ([], []), ([], []), ([], []), ([6, 7], [6, 7]), ([8], [8]), ([9], [9]), ([5, 10], [5, 10]), ([4, 11], [4, 11]), ([12, 0, 1, 2, 3, 4, 5, 6, 7, 8, 9, 10, 11, 12], [12])])
def spec_l01Common.B12 : List Nat := [0, 0, 3, 7, 15, 0, 0, 0, 192, 448, 960, 2016, 4095, 8191]
theorem spec_l01Common.tab12 : rtab .any (opsOf Try.f142 12) = spec_l01Common.T12 := by kernel_rfl
theorem spec_l01Common.bits12 : waitsOk spec_l01Common.T12.2 spec_l01Common.B12 = true := by kernel_rfl
theorem spec_l01Common.calls (k : Nat) (A0 : Option Addr) (c0 : Nat) (l0 : List (S65)) (r1 : List Int) (r2 : Int) (r3 : Bool) (w : World) (hr0 : Kd.C k65 w A0 l0.length l0) (hc0 : l0.length ≤ c0) (h : spec_l01Common.f k l0 = some (r1, r2, r3)) :
  Calls Try.prog 142 #[.slice A0 l0.length c0] w fun e w' => ∃ v0_ : Value, e = .returned (.tuple #[v0_, .int .i64 r2, .bool r3]) ∧ Kd.R (Kd.int .i64) 2 w' w.heap.size (fun _ => True) v0_ r1 ∧ Below w.heap.size w w' := by
 have HR0 := Aside0.mk hr0
 have HC0 := Aside0.mk hc0
 clear hr0 hc0
 have HB := Aside0.mk (Below.refl w.heap.size w)
 have H : (spec_l01Common.l0 k l0 1 0) = some (r1, r2, r3) := h
 clear h
 have H' := Aside0.mk H
 clear H
 go_enter Try.func142, Try.ntmps142
 go_wp2
 go_loopg [5, 6] k (fun kq v5 v6 w' => ∃ (x5_1 : Int) (x6_1 : Int), v5 = .int .i64 x5_1 ∧ v6 = .int .i64 x6_1 ∧ Aside0 (spec_l01Common.l0 kq l0 x5_1 x6_1 = some (r1, r2, r3)) ∧ Aside0 (kq ≤ k) ∧ Aside0 (Below w.heap.size w w'))
 case atStart => exact ⟨(1), (0), (by first | rfl | (simp; done) | (simp [*]; done)), (by first | rfl | (simp; done) | (simp [*]; done)), H', ⟨Nat.le_refl _⟩, ⟨by repeat (first | (with_reducible first | exact HB.out | apply below_alloc | apply pw_below_drewN | apply below_drew1) | exact HB.out)⟩⟩
 case round =>
  clear H'
  try clear c1
  obtain ⟨x5_1, x6_1, rfl, rfl, HA, HK1, HB⟩ := hrel
  cases gk with
  | zero => exact absurd HA.out (by simp [spec_l01Common.l0])
  | succ k1 =>
   have H := HA.out
   clear HA
   simp only [spec_l01Common.l0] at H
   by_cases c2 : x6_1 < (l0.length : Int)
   ·rw [if_pos c2] at H
    have c2b0 : decide (x6_1 < (l0.length : Int)) = true := decide_eq_true c2
    clear c2
    by_cases c3 : 0 ≤ x6_1
    ·rw [if_pos c3] at H
     have c3b0 : decide (0 ≤ x6_1) = true := decide_eq_true c3
     clear c3
     replace H := Option.bind_eq_some_iff.mp H
     obtain ⟨t654, A40, H⟩ := H
     replace H : (if t654 = 0 then (none) else (if (wrap64 ((wrap64 (Int.tdiv x5_1 t654)) * ((rd_T65 l0 x6_1).f1))) > 1000000000 then (some (([] : List Int), 0, false)) else (spec_l01Common.l0 k1 l0 (wrap64 ((wrap64 (Int.tdiv x5_1 t654)) * ((rd_T65 l0 x6_1).f1))) (wrap64 (x6_1 + 1))))) = some (r1, r2, r3) := H
     have A4 := Aside0.mk A40
     clear A40
     by_cases c5 : t654 = 0
     ·rw [if_pos c5] at H
      exact absurd H (by simp)
     ·rw [if_neg c5] at H
      have c5b0 : (t654 == 0) = false := beq_eq_false_iff_ne.mpr c5
      have c5b1 : (t654 != 0) = true := bne_iff_ne.mpr c5
      by_cases c6 : (wrap64 ((wrap64 (Int.tdiv x5_1 t654)) * ((rd_T65 l0 x6_1).f1))) > 1000000000
      ·rw [if_pos c6] at H
       have c6b0 : decide (1000000000 < (wrap64 ((wrap64 (Int.tdiv x5_1 t654)) * ((rd_T65 l0 x6_1).f1)))) = true := decide_eq_true c6
       clear c6
       simp only [Option.some.injEq, Prod.mk.injEq] at H
       obtain ⟨rfl, rfl, rfl⟩ := H
       try go_wp2
       have n0_ := Aside0.mk (below_drew1 HB.out)
       clear HB
       have HB := n0_
       clear n0_
       have p653 : 0 ≤ (x6_1 : Int) := of_decide_eq_true (by first | (with_reducible assumption) | assumption)
       have q653 : x6_1 < (l0.length : Int) := of_decide_eq_true (by first | (with_reducible assumption) | assumption)
       obtain ⟨ad653, e653, hx653_0, hx653_1⟩ := at_T65 HR0.out x6_1 p653 q653
       have hw653_1 := hx653_1
       have hw653_0 := hx653_0
       cases e653
       replace hx653_0 := (HB.out.cell (World.block_lt_of_cell? w _ hx653_0)).trans hx653_0
       replace hx653_1 := (HB.out.cell (World.block_lt_of_cell? w _ hx653_1)).trans hx653_1
       replace p653 := eq_true p653
       replace q653 := eq_true q653
       have p655 : 0 ≤ (x6_1 : Int) := of_decide_eq_true (by first | (with_reducible assumption) | assumption)
       have q655 : x6_1 < (l0.length : Int) := of_decide_eq_true (by first | (with_reducible assumption) | assumption)
       obtain ⟨ad655, e655, hx655_0, hx655_1⟩ := at_T65 HR0.out x6_1 p655 q655
       have hw655_1 := hx655_1
       have hw655_0 := hx655_0
       obtain rfl : ad653 = ad655 := (by injection e655)
       replace hx655_0 := (HB.out.cell (World.block_lt_of_cell? w _ hx655_0)).trans hx655_0
       replace hx655_1 := (HB.out.cell (World.block_lt_of_cell? w _ hx655_1)).trans hx655_1
       replace p655 := eq_true p655
       replace q655 := eq_true q655
       refine start_ (n := 16) (S := fun w' => w'.cell? (ad653.add ((x6_1).toNat * 2)) = some (.int .i64 ((rd_T65 l0 x6_1).f0)) ∧ w'.cell? ⟨(ad653.add ((x6_1).toNat * 2)).block, (ad653.add ((x6_1).toNat * 2)).off + 1, none⟩ = some (.int .i64 ((rd_T65 l0 x6_1).f1)) ∧ w'.cell? (ad653.add ((x6_1).toNat * 2)) = some (.int .i64 ((rd_T65 l0 x6_1).f0)) ∧ w'.cell? ⟨(ad653.add ((x6_1).toNat * 2)).block, (ad653.add ((x6_1).toNat * 2)).off + 1, none⟩ = some (.int .i64 ((rd_T65 l0 x6_1).f1))) (ds := []) #[false, false, false, false, false, false, false, false, false, false, false, false, false, false, false, false] (by kernel_rfl) rfl rfl ⟨((HB.out.cell (World.block_lt_of_cell? w _ hw653_0)).trans hw653_0), ((HB.out.cell (World.block_lt_of_cell? w _ hw653_1)).trans hw653_1), ((HB.out.cell (World.block_lt_of_cell? w _ hw655_0)).trans hw655_0), ((HB.out.cell (World.block_lt_of_cell? w _ hw655_1)).trans hw655_1)⟩ (fun hHeld => ?_); refine with_tabW spec_l01Common.tab5 spec_l01Common.bits5 (fun HT_ HW_ => ?_)
       generalize wr.drew = w7 at HB hx653_0 hx653_1 hx655_0 hx655_1 hHeld ⊢
       refine pure_ (i := 0) (N := some 16) (v := ?_) (a' := ?_) #[true, false, false, false, false, false, false, false, false, false, false, false, false, false, false, false] rfl rfl (any_of HT_.out (by kernel_rfl)) (fun _ _ _ h => h) (Or.inl ⟨by rfl, ?_⟩) ?_ ?_
       rotate_left
       ·intro w'
        go_simp
        with_reducible rfl
       rotate_left
       ·simp only [Act.put, List.setIfInBounds_toArray, List.set_cons_zero, List.set_cons_succ, i64_w, i32_w]
        rfl
       refine pure_ (i := 1) (N := some 17) (v := ?_) (a' := ?_) #[true, true, false, false, false, false, false, false, false, false, false, false, false, false, false, false] rfl rfl (any_of HT_.out (by kernel_rfl)) (fun _ _ _ h => h) (Or.inl ⟨by rfl, ?_⟩) ?_ ?_
       rotate_left
       ·intro w'
        go_simp
        with_reducible rfl
       rotate_left
       ·simp only [Act.put, List.setIfInBounds_toArray, List.set_cons_zero, List.set_cons_succ, i64_w, i32_w]
        rfl
       refine pure_ (i := 2) (N := some 18) (v := ?_) (a' := ?_) #[true, true, true, false, false, false, false, false, false, false, false, false, false, false, false, false] rfl rfl (any_of HT_.out (by kernel_rfl)) (fun _ _ _ h => h) (Or.inl ⟨by rfl, ?_⟩) ?_ ?_
       rotate_left
       ·intro w'
        go_simp
        with_reducible rfl
       rotate_left
       ·simp only [Act.put, List.setIfInBounds_toArray, List.set_cons_zero, List.set_cons_succ, i64_w, i32_w]
        rfl
       refine pure_ (i := 3) (N := some 19) (v := ?_) (a' := ?_) #[true, true, true, true, false, false, false, false, false, false, false, false, false, false, false, false] rfl rfl (any_of HT_.out (by kernel_rfl)) (fun _ _ _ h => h) (Or.inl ⟨by rfl, ?_⟩) ?_ ?_
       rotate_left
       ·intro w'
        go_simp
        with_reducible rfl
       rotate_left
       ·simp only [Act.put, List.setIfInBounds_toArray, List.set_cons_zero, List.set_cons_succ, i64_w, i32_w]
        rfl
       refine pure_ (i := 4) (N := some 20) (v := ?_) (a' := ?_) #[true, true, true, true, true, false, false, false, false, false, false, false, false, false, false, false] rfl rfl (any_of HT_.out (by kernel_rfl)) (fun _ _ _ h => h) (Or.inl ⟨by rfl, ?_⟩) ?_ ?_
       rotate_left
       ·intro w'
        go_simp
        with_reducible rfl
       rotate_left
       ·simp only [Act.put, List.setIfInBounds_toArray, List.set_cons_zero, List.set_cons_succ, i64_w, i32_w]
        rfl
       refine pure_ (i := 5) (N := some 21) (v := ?_) (a' := ?_) #[true, true, true, true, true, true, false, false, false, false, false, false, false, false, false, false] rfl rfl (any_of HT_.out (by kernel_rfl)) (fun _ _ _ h => h) (Or.inl ⟨by rfl, ?_⟩) ?_ ?_
       rotate_left
       ·intro w'
        go_simp
        with_reducible rfl
       rotate_left
       ·simp only [Act.put, List.setIfInBounds_toArray, List.set_cons_zero, List.set_cons_succ, i64_w, i32_w]
        rfl
       refine pure_ (i := 9) (N := some 25) (v := ?_) (a' := ?_) #[true, true, true, true, true, true, false, false, false, true, false, false, false, false, false, false] rfl rfl (any_of HT_.out (by kernel_rfl)) (fun _ _ _ h => h) (Or.inl ⟨by rfl, ?_⟩) ?_ ?_
       rotate_left
       ·intro w'
        go_simp
        with_reducible rfl
       rotate_left
       ·simp only [Act.put, List.setIfInBounds_toArray, List.set_cons_zero, List.set_cons_succ, i64_w, i32_w]
        rfl
       refine pure_ (i := 10) (N := some 26) (v := ?_) (a' := ?_) #[true, true, true, true, true, true, false, false, false, true, true, false, false, false, false, false] rfl rfl (any_of HT_.out (by kernel_rfl)) (fun _ _ _ h => h) (Or.inl ⟨by rfl, ?_⟩) ?_ ?_
       rotate_left
       ·intro w'
        go_simp
        with_reducible rfl
       rotate_left
       ·simp only [Act.put, List.setIfInBounds_toArray, List.set_cons_zero, List.set_cons_succ, i64_w, i32_w]
        rfl
       refine pure_ (i := 11) (N := some 27) (v := ?_) (a' := ?_) #[true, true, true, true, true, true, false, false, false, true, true, true, false, false, false, false] rfl rfl (any_of HT_.out (by kernel_rfl)) (fun _ _ _ h => h) (Or.inl ⟨by rfl, ?_⟩) ?_ ?_
       rotate_left
       ·intro w'
        go_simp
        with_reducible rfl
       rotate_left
       ·simp only [Act.put, List.setIfInBounds_toArray, List.set_cons_zero, List.set_cons_succ, i64_w, i32_w]
        rfl
       refine pure_ (i := 12) (N := some 28) (v := ?_) (a' := ?_) #[true, true, true, true, true, true, false, false, false, true, true, true, true, false, false, false] rfl rfl (any_of HT_.out (by kernel_rfl)) (fun _ _ _ h => h) (Or.inl ⟨by rfl, ?_⟩) ?_ ?_
       rotate_left
       ·intro w'
        go_simp
        with_reducible rfl
       rotate_left
       ·simp only [Act.put, List.setIfInBounds_toArray, List.set_cons_zero, List.set_cons_succ, i64_w, i32_w]
        rfl
       refine take_ (i := 6) (N := some 22) (v := ?_) (a' := ?_) #[true, true, true, true, true, true, true, false, false, true, true, true, true, false, false, false] rfl rfl (take_ofW HT_.out HW_.out (by kernel_rfl)) (fun _ _ _ h => h) (Or.inl ⟨by rfl, ?_⟩) hHeld ?_ ?_
       rotate_left
       ·rintro w' ⟨s0, s1, s2, s3⟩
        go_simp
        with_reducible rfl
       rotate_left
       ·simp only [Act.put, List.setIfInBounds_toArray, List.set_cons_zero, List.set_cons_succ, i64_w, i32_w]
        rfl
       refine take_ (i := 13) (N := some 29) (v := ?_) (a' := ?_) #[true, true, true, true, true, true, true, false, false, true, true, true, true, true, false, false] rfl rfl (take_ofW HT_.out HW_.out (by kernel_rfl)) (fun _ _ _ h => h) (Or.inl ⟨by rfl, ?_⟩) hHeld ?_ ?_
       rotate_left
       ·rintro w' ⟨s0, s1, s2, s3⟩
        go_simp
        with_reducible rfl
       rotate_left
       ·simp only [Act.put, List.setIfInBounds_toArray, List.set_cons_zero, List.set_cons_succ, i64_w, i32_w]
        rfl
       refine one_ (i := 7) (N := some 23) #[true, true, true, true, true, true, true, true, false, true, true, true, true, true, false, false] rfl rfl (one_of HT_.out (by kernel_rfl)) (by decide) (fun K hK => ?_)
       refine goes_ Try.func133 (by kernel_rfl) rfl #[.int .i64 x5_1, .int .i64 ((rd_T65 l0 x6_1).f1)] (by rfl) rfl rfl (by (try simp only [List.map_toArray, List.map_cons, List.map_nil]); first | done | rfl | (simp only [List.length_drop, List.length_take]; rfl)) ?_
       with_reducible refine (spec_l01Gcd.calls k1 x5_1 ((rd_T65 l0 x6_1).f1) t654 _ A4.out).mono ?_
       rintro e w8 ⟨rfl, hb⟩
       refine ⟨_, rfl, ?_⟩
       have n0_ := Aside0.mk (below_step (by repeat (first | (with_reducible first | exact HB.out | apply below_alloc | apply pw_below_drewN | apply below_drew1) | exact HB.out)) hb)
       clear HB
       have HB := n0_
       clear n0_
       (try clear hb)
       (try clear hb2)
       (try clear hk)
       (try clear hi)
       refine hK.out _ _ ⟨((HB.out.cell (World.block_lt_of_cell? w _ hw653_0)).trans hw653_0), ((HB.out.cell (World.block_lt_of_cell? w _ hw653_1)).trans hw653_1), ((HB.out.cell (World.block_lt_of_cell? w _ hw655_0)).trans hw655_0), ((HB.out.cell (World.block_lt_of_cell? w _ hw655_1)).trans hw655_1)⟩ (fun hHeld => ?_)
       clear hK K
       refine norm_ (a' := ?_) ?_ ?_
       rotate_left
       ·show Act.put _ (some 23) _ = _
        simp only [Act.put, List.setIfInBounds_toArray, List.set_cons_zero, List.set_cons_succ, i64_w, i32_w]
        rfl
       refine pure_ (i := 8) (N := some 24) (v := ?_) (a' := ?_) #[true, true, true, true, true, true, true, true, true, true, true, true, true, true, false, false] rfl rfl (any_of HT_.out (by kernel_rfl)) (fun _ _ _ h => h) (Or.inl ⟨by rfl, ?_⟩) ?_ ?_
       rotate_left
       ·intro w'
        go_simp
        with_reducible rfl
       rotate_left
       ·simp only [Act.put, List.setIfInBounds_toArray, List.set_cons_zero, List.set_cons_succ, i64_w, i32_w]
        rfl
       refine pure_ (i := 14) (N := some 30) (v := ?_) (a' := ?_) #[true, true, true, true, true, true, true, true, true, true, true, true, true, true, true, false] rfl rfl (any_of HT_.out (by kernel_rfl)) (fun _ _ _ h => h) (Or.inl ⟨by rfl, ?_⟩) ?_ ?_
       rotate_left
       ·intro w'
        go_simp
        with_reducible rfl
       rotate_left
       ·simp only [Act.put, List.setIfInBounds_toArray, List.set_cons_zero, List.set_cons_succ, i64_w, i32_w]
        rfl
       refine pure_ (i := 15) (N := some 5) (v := ?_) (a' := ?_) #[true, true, true, true, true, true, true, true, true, true, true, true, true, true, true, true] rfl rfl (any_of HT_.out (by kernel_rfl)) (fun _ _ _ h => h) (Or.inl ⟨by rfl, ?_⟩) ?_ ?_
       rotate_left
       ·intro w'
        go_simp
        with_reducible rfl
       rotate_left
       ·simp only [Act.put, List.setIfInBounds_toArray, List.set_cons_zero, List.set_cons_succ, i64_w, i32_w]
        rfl
       refine done_ (done_of HT_.out (by kernel_rfl)) ?_
       try go_wp2
       go_ret3
       exact ⟨_, by first | rfl | (simp [errW_none, errW_some] <;> rfl) | (simp [*, errW_none, errW_some] <;> rfl), by first | exact Kd.R_nil _ _ _ _ _ | exact Kd.N_nil _ _ _ _ _ | exact Kd.V_nil _ _ _ _ _ | exact Kd.Q_nil _ _ _ _ _ | exact Kd.S_nil _ _ _ _ _, by repeat (first | (with_reducible first | exact HB.out | apply below_alloc | apply pw_below_drewN | apply below_drew1) | exact HB.out)⟩
      ·rw [if_neg c6] at H
       have c6b0 : decide (1000000000 < (wrap64 ((wrap64 (Int.tdiv x5_1 t654)) * ((rd_T65 l0 x6_1).f1)))) = false := decide_eq_false c6
       clear c6
       have H' := Aside0.mk H
       clear H
       try go_wp2
       have n0_ := Aside0.mk (below_drew1 HB.out)
       clear HB
       have HB := n0_
       clear n0_
       have p653 : 0 ≤ (x6_1 : Int) := of_decide_eq_true (by first | (with_reducible assumption) | assumption)
       have q653 : x6_1 < (l0.length : Int) := of_decide_eq_true (by first | (with_reducible assumption) | assumption)
       obtain ⟨ad653, e653, hx653_0, hx653_1⟩ := at_T65 HR0.out x6_1 p653 q653
       have hw653_1 := hx653_1
       have hw653_0 := hx653_0
       cases e653
       replace hx653_0 := (HB.out.cell (World.block_lt_of_cell? w _ hx653_0)).trans hx653_0
       replace hx653_1 := (HB.out.cell (World.block_lt_of_cell? w _ hx653_1)).trans hx653_1
       replace p653 := eq_true p653
       replace q653 := eq_true q653
       have p655 : 0 ≤ (x6_1 : Int) := of_decide_eq_true (by first | (with_reducible assumption) | assumption)
       have q655 : x6_1 < (l0.length : Int) := of_decide_eq_true (by first | (with_reducible assumption) | assumption)
       obtain ⟨ad655, e655, hx655_0, hx655_1⟩ := at_T65 HR0.out x6_1 p655 q655
       have hw655_1 := hx655_1
       have hw655_0 := hx655_0
       obtain rfl : ad653 = ad655 := (by injection e655)
       replace hx655_0 := (HB.out.cell (World.block_lt_of_cell? w _ hx655_0)).trans hx655_0
       replace hx655_1 := (HB.out.cell (World.block_lt_of_cell? w _ hx655_1)).trans hx655_1
       replace p655 := eq_true p655
       replace q655 := eq_true q655
       refine start_ (n := 16) (S := fun w' => w'.cell? (ad653.add ((x6_1).toNat * 2)) = some (.int .i64 ((rd_T65 l0 x6_1).f0)) ∧ w'.cell? ⟨(ad653.add ((x6_1).toNat * 2)).block, (ad653.add ((x6_1).toNat * 2)).off + 1, none⟩ = some (.int .i64 ((rd_T65 l0 x6_1).f1)) ∧ w'.cell? (ad653.add ((x6_1).toNat * 2)) = some (.int .i64 ((rd_T65 l0 x6_1).f0)) ∧ w'.cell? ⟨(ad653.add ((x6_1).toNat * 2)).block, (ad653.add ((x6_1).toNat * 2)).off + 1, none⟩ = some (.int .i64 ((rd_T65 l0 x6_1).f1))) (ds := []) #[false, false, false, false, false, false, false, false, false, false, false, false, false, false, false, false] (by kernel_rfl) rfl rfl ⟨((HB.out.cell (World.block_lt_of_cell? w _ hw653_0)).trans hw653_0), ((HB.out.cell (World.block_lt_of_cell? w _ hw653_1)).trans hw653_1), ((HB.out.cell (World.block_lt_of_cell? w _ hw655_0)).trans hw655_0), ((HB.out.cell (World.block_lt_of_cell? w _ hw655_1)).trans hw655_1)⟩ (fun hHeld => ?_); refine with_tabW spec_l01Common.tab5 spec_l01Common.bits5 (fun HT_ HW_ => ?_)
       generalize wr.drew = w9 at HB hx653_0 hx653_1 hx655_0 hx655_1 hHeld ⊢
       refine pure_ (i := 0) (N := some 16) (v := ?_) (a' := ?_) #[true, false, false, false, false, false, false, false, false, false, false, false, false, false, false, false] rfl rfl (any_of HT_.out (by kernel_rfl)) (fun _ _ _ h => h) (Or.inl ⟨by rfl, ?_⟩) ?_ ?_
       rotate_left
       ·intro w'
        go_simp
        with_reducible rfl
       rotate_left
       ·simp only [Act.put, List.setIfInBounds_toArray, List.set_cons_zero, List.set_cons_succ, i64_w, i32_w]
        rfl
       refine pure_ (i := 1) (N := some 17) (v := ?_) (a' := ?_) #[true, true, false, false, false, false, false, false, false, false, false, false, false, false, false, false] rfl rfl (any_of HT_.out (by kernel_rfl)) (fun _ _ _ h => h) (Or.inl ⟨by rfl, ?_⟩) ?_ ?_
       rotate_left
       ·intro w'
        go_simp
        with_reducible rfl
       rotate_left
       ·simp only [Act.put, List.setIfInBounds_toArray, List.set_cons_zero, List.set_cons_succ, i64_w, i32_w]
        rfl
       refine pure_ (i := 2) (N := some 18) (v := ?_) (a' := ?_) #[true, true, true, false, false, false, false, false, false, false, false, false, false, false, false, false] rfl rfl (any_of HT_.out (by kernel_rfl)) (fun _ _ _ h => h) (Or.inl ⟨by rfl, ?_⟩) ?_ ?_
       rotate_left
       ·intro w'
        go_simp
        with_reducible rfl
       rotate_left
       ·simp only [Act.put, List.setIfInBounds_toArray, List.set_cons_zero, List.set_cons_succ, i64_w, i32_w]
        rfl
       refine pure_ (i := 3) (N := some 19) (v := ?_) (a' := ?_) #[true, true, true, true, false, false, false, false, false, false, false, false, false, false, false, false] rfl rfl (any_of HT_.out (by kernel_rfl)) (fun _ _ _ h => h) (Or.inl ⟨by rfl, ?_⟩) ?_ ?_
       rotate_left
       ·intro w'
        go_simp
        with_reducible rfl
       rotate_left
       ·simp only [Act.put, List.setIfInBounds_toArray, List.set_cons_zero, List.set_cons_succ, i64_w, i32_w]
        rfl
       refine pure_ (i := 4) (N := some 20) (v := ?_) (a' := ?_) #[true, true, true, true, true, false, false, false, false, false, false, false, false, false, false, false] rfl rfl (any_of HT_.out (by kernel_rfl)) (fun _ _ _ h => h) (Or.inl ⟨by rfl, ?_⟩) ?_ ?_
       rotate_left
       ·intro w'
        go_simp
        with_reducible rfl
       rotate_left
       ·simp only [Act.put, List.setIfInBounds_toArray, List.set_cons_zero, List.set_cons_succ, i64_w, i32_w]
        rfl
       refine pure_ (i := 5) (N := some 21) (v := ?_) (a' := ?_) #[true, true, true, true, true, true, false, false, false, false, false, false, false, false, false, false] rfl rfl (any_of HT_.out (by kernel_rfl)) (fun _ _ _ h => h) (Or.inl ⟨by rfl, ?_⟩) ?_ ?_
       rotate_left
       ·intro w'
        go_simp
        with_reducible rfl
       rotate_left
       ·simp only [Act.put, List.setIfInBounds_toArray, List.set_cons_zero, List.set_cons_succ, i64_w, i32_w]
        rfl
       refine pure_ (i := 9) (N := some 25) (v := ?_) (a' := ?_) #[true, true, true, true, true, true, false, false, false, true, false, false, false, false, false, false] rfl rfl (any_of HT_.out (by kernel_rfl)) (fun _ _ _ h => h) (Or.inl ⟨by rfl, ?_⟩) ?_ ?_
       rotate_left
       ·intro w'
        go_simp
        with_reducible rfl
       rotate_left
       ·simp only [Act.put, List.setIfInBounds_toArray, List.set_cons_zero, List.set_cons_succ, i64_w, i32_w]
        rfl
       refine pure_ (i := 10) (N := some 26) (v := ?_) (a' := ?_) #[true, true, true, true, true, true, false, false, false, true, true, false, false, false, false, false] rfl rfl (any_of HT_.out (by kernel_rfl)) (fun _ _ _ h => h) (Or.inl ⟨by rfl, ?_⟩) ?_ ?_
       rotate_left
       ·intro w'
        go_simp
        with_reducible rfl
       rotate_left
       ·simp only [Act.put, List.setIfInBounds_toArray, List.set_cons_zero, List.set_cons_succ, i64_w, i32_w]
        rfl
       refine pure_ (i := 11) (N := some 27) (v := ?_) (a' := ?_) #[true, true, true, true, true, true, false, false, false, true, true, true, false, false, false, false] rfl rfl (any_of HT_.out (by kernel_rfl)) (fun _ _ _ h => h) (Or.inl ⟨by rfl, ?_⟩) ?_ ?_
       rotate_left
       ·intro w'
        go_simp
        with_reducible rfl
       rotate_left
       ·simp only [Act.put, List.setIfInBounds_toArray, List.set_cons_zero, List.set_cons_succ, i64_w, i32_w]
        rfl
       refine pure_ (i := 12) (N := some 28) (v := ?_) (a' := ?_) #[true, true, true, true, true, true, false, false, false, true, true, true, true, false, false, false] rfl rfl (any_of HT_.out (by kernel_rfl)) (fun _ _ _ h => h) (Or.inl ⟨by rfl, ?_⟩) ?_ ?_
       rotate_left
       ·intro w'
        go_simp
        with_reducible rfl
       rotate_left
       ·simp only [Act.put, List.setIfInBounds_toArray, List.set_cons_zero, List.set_cons_succ, i64_w, i32_w]
        rfl
       refine take_ (i := 6) (N := some 22) (v := ?_) (a' := ?_) #[true, true, true, true, true, true, true, false, false, true, true, true, true, false, false, false] rfl rfl (take_ofW HT_.out HW_.out (by kernel_rfl)) (fun _ _ _ h => h) (Or.inl ⟨by rfl, ?_⟩) hHeld ?_ ?_
       rotate_left
       ·rintro w' ⟨s0, s1, s2, s3⟩
        go_simp
        with_reducible rfl
       rotate_left
       ·simp only [Act.put, List.setIfInBounds_toArray, List.set_cons_zero, List.set_cons_succ, i64_w, i32_w]
        rfl
       refine take_ (i := 13) (N := some 29) (v := ?_) (a' := ?_) #[true, true, true, true, true, true, true, false, false, true, true, true, true, true, false, false] rfl rfl (take_ofW HT_.out HW_.out (by kernel_rfl)) (fun _ _ _ h => h) (Or.inl ⟨by rfl, ?_⟩) hHeld ?_ ?_
       rotate_left
       ·rintro w' ⟨s0, s1, s2, s3⟩
        go_simp
        with_reducible rfl
       rotate_left
       ·simp only [Act.put, List.setIfInBounds_toArray, List.set_cons_zero, List.set_cons_succ, i64_w, i32_w]
        rfl
       refine one_ (i := 7) (N := some 23) #[true, true, true, true, true, true, true, true, false, true, true, true, true, true, false, false] rfl rfl (one_of HT_.out (by kernel_rfl)) (by decide) (fun K hK => ?_)
       refine goes_ Try.func133 (by kernel_rfl) rfl #[.int .i64 x5_1, .int .i64 ((rd_T65 l0 x6_1).f1)] (by rfl) rfl rfl (by (try simp only [List.map_toArray, List.map_cons, List.map_nil]); first | done | rfl | (simp only [List.length_drop, List.length_take]; rfl)) ?_
       with_reducible refine (spec_l01Gcd.calls k1 x5_1 ((rd_T65 l0 x6_1).f1) t654 _ A4.out).mono ?_
       rintro e w10 ⟨rfl, hb⟩
       refine ⟨_, rfl, ?_⟩
       have n0_ := Aside0.mk (below_step (by repeat (first | (with_reducible first | exact HB.out | apply below_alloc | apply pw_below_drewN | apply below_drew1) | exact HB.out)) hb)
       clear HB
       have HB := n0_
       clear n0_
       (try clear hb)
       (try clear hb2)
       (try clear hk)
       (try clear hi)
       refine hK.out _ _ ⟨((HB.out.cell (World.block_lt_of_cell? w _ hw653_0)).trans hw653_0), ((HB.out.cell (World.block_lt_of_cell? w _ hw653_1)).trans hw653_1), ((HB.out.cell (World.block_lt_of_cell? w _ hw655_0)).trans hw655_0), ((HB.out.cell (World.block_lt_of_cell? w _ hw655_1)).trans hw655_1)⟩ (fun hHeld => ?_)
       clear hK K
       refine norm_ (a' := ?_) ?_ ?_
       rotate_left
       ·show Act.put _ (some 23) _ = _
        simp only [Act.put, List.setIfInBounds_toArray, List.set_cons_zero, List.set_cons_succ, i64_w, i32_w]
        rfl
       refine pure_ (i := 8) (N := some 24) (v := ?_) (a' := ?_) #[true, true, true, true, true, true, true, true, true, true, true, true, true, true, false, false] rfl rfl (any_of HT_.out (by kernel_rfl)) (fun _ _ _ h => h) (Or.inl ⟨by rfl, ?_⟩) ?_ ?_
       rotate_left
       ·intro w'
        go_simp
        with_reducible rfl
       rotate_left
       ·simp only [Act.put, List.setIfInBounds_toArray, List.set_cons_zero, List.set_cons_succ, i64_w, i32_w]
        rfl
       refine pure_ (i := 14) (N := some 30) (v := ?_) (a' := ?_) #[true, true, true, true, true, true, true, true, true, true, true, true, true, true, true, false] rfl rfl (any_of HT_.out (by kernel_rfl)) (fun _ _ _ h => h) (Or.inl ⟨by rfl, ?_⟩) ?_ ?_
       rotate_left
       ·intro w'
        go_simp
        with_reducible rfl
       rotate_left
       ·simp only [Act.put, List.setIfInBounds_toArray, List.set_cons_zero, List.set_cons_succ, i64_w, i32_w]
        rfl
       refine pure_ (i := 15) (N := some 5) (v := ?_) (a' := ?_) #[true, true, true, true, true, true, true, true, true, true, true, true, true, true, true, true] rfl rfl (any_of HT_.out (by kernel_rfl)) (fun _ _ _ h => h) (Or.inl ⟨by rfl, ?_⟩) ?_ ?_
       rotate_left
       ·intro w'
        go_simp
        with_reducible rfl
       rotate_left
       ·simp only [Act.put, List.setIfInBounds_toArray, List.set_cons_zero, List.set_cons_succ, i64_w, i32_w]
        rfl
       refine done_ (done_of HT_.out (by kernel_rfl)) ?_
       try go_wp2
       go_roundg k1
       case measure => have := HK1.out; omega
       case rel => exact ⟨(wrap64 ((wrap64 (Int.tdiv x5_1 t654)) * ((rd_T65 l0 x6_1).f1))), (wrap64 (x6_1 + 1)), (by first | rfl | (simp; done) | (simp [*]; done)), (by first | rfl | (simp; done) | (simp [*]; done)), H', ⟨by have := HK1.out; omega⟩, ⟨by repeat (first | (with_reducible first | exact HB.out | apply below_alloc | apply pw_below_drewN | apply below_drew1) | exact HB.out)⟩⟩
    ·rw [if_neg c3] at H
     exact absurd H (by simp)
   ·rw [if_neg c2] at H
    have c2b0 : decide (x6_1 < (l0.length : Int)) = false := decide_eq_false c2
    clear c2
    obtain ⟨y656, hy656⟩ : ∃ y_ : List Int, y_ = (([] : List Int)) := ⟨_, rfl⟩
    replace H : (spec_l01Common.l1 k1 l0 x5_1 y656 0) = some (r1, r2, r3) := by first | (rw [hy656]; with_reducible exact H) | (have H2_ := (Option.bind_some _ _).symm.trans H; rw [hy656]; with_reducible exact H2_) | (have H2_ := (Option.bind_some _ _).symm.trans H; with_reducible exact H2_) | with_reducible exact H | (rw [hy656]; exact H) | exact H
    have Ny656 := Aside0.mk hy656
    clear hy656
    have H' := Aside0.mk H
    clear H
    go_wp2_with (first | ((with_reducible refine gate_dst (N := 33) rfl ?_); refine Kd.R_lit (Kd.int .i64) _ 2 ?hg (N := 33) ?hd (xs := ([] : List Int)) (inner := []) (ok := fun _ => True) (okp := fun _ => True) ?hr ?hp (fun _ hk => hk) trivial (Below.refl _ _) (Nat.le_refl _) (by simp) ?_; (case hd => rfl); (case hg => rfl); (case hr => first | (go_simp; done) | (go_simp; rfl)); (case hp => exact (Reps.none _ _)); intro v657 w11 ho12 hb hg_ hnew_; clear hg_ hnew_; (first | rw [← Ny656.out] at ho12 | (simp only [Int.reduceToNat] at ho12; rw [← Ny656.out] at ho12)); have n0_ := Aside0.mk (Kd.R_lower ho12 (below_size (by repeat (first | (with_reducible first | exact HB.out | apply below_alloc | apply pw_below_drewN | apply below_drew1) | exact HB.out)))); have n1_ := Aside0.mk (below_step (by repeat (first | (with_reducible first | exact HB.out | apply below_alloc | apply pw_below_drewN | apply below_drew1) | exact HB.out)) hb); clear HB; have HO658 := n0_; have HB := n1_; clear n0_ n1_; clear hb ho12))
    go_loopg [7, 8] k1 (fun kq v7 v8 w' => ∃ (x7_2 : List Int) (x8_2 : Int), v8 = .int .i64 x8_2 ∧ Aside0 (spec_l01Common.l1 kq l0 x5_1 x7_2 x8_2 = some (r1, r2, r3)) ∧ Aside0 (kq ≤ k1) ∧ Aside0 (Kd.R (Kd.int .i64) 2 w' w.heap.size (fun _ => True) v7 x7_2) ∧ Aside0 (Below w.heap.size w w'))
    case atStart => exact ⟨(y656), (0), (by first | rfl | (simp; done) | (simp [*]; done)), H', ⟨Nat.le_refl _⟩, ⟨by (with_reducible repeat (first | apply Kd.R_alloc | apply Kd.R_drewN | apply Kd.R_drew)); exact HO658.out⟩, ⟨by repeat (first | (with_reducible first | exact HB.out | apply below_alloc | apply pw_below_drewN | apply below_drew1) | exact HB.out)⟩⟩
    case round =>
     clear H'
     try clear c1
     try clear c2
     try clear c2b0
     try clear p2
     try clear c3
     try clear c3b0
     try clear c5
     try clear c5b0
     try clear c5b1
     try clear c6
     try clear c6b0
     try clear p6
     try clear q6
     try clear hx6
     try clear hx653_0
     try clear hx653_1
     try clear hx655_0
     try clear hx655_1
     try clear p653
     try clear p655
     try clear q653
     try clear q655
     obtain ⟨x7_2, x8_2, rfl, HA, HK2, HO_7, HB⟩ := hrel
     cases gk with
     | zero => exact absurd HA.out (by simp [spec_l01Common.l1])
     | succ k2 =>
      have H := HA.out
      clear HA
      simp only [spec_l01Common.l1] at H
      by_cases c13 : x8_2 < (l0.length : Int)
      ·rw [if_pos c13] at H
       have c13b0 : decide (x8_2 < (l0.length : Int)) = true := decide_eq_true c13
       clear c13
       by_cases c14 : 0 ≤ x8_2
       ·rw [if_pos c14] at H
        have c14b0 : decide (0 ≤ x8_2) = true := decide_eq_true c14
        clear c14
        by_cases c15 : ((rd_T65 l0 x8_2).f1) = 0
        ·rw [if_pos c15] at H
         exact absurd H (by simp)
        ·rw [if_neg c15] at H
         have c15b0 : (((rd_T65 l0 x8_2).f1) == 0) = false := beq_eq_false_iff_ne.mpr c15
         have c15b1 : (((rd_T65 l0 x8_2).f1) != 0) = true := bne_iff_ne.mpr c15
         replace H := Option.bind_eq_some_iff.mp H
         obtain ⟨t661, A160, H⟩ := H
         replace H : (if t661 = true then (if x7_2.length < 17592186044416 then (spec_l01Common.l1 k2 l0 x5_1 (x7_2 ++ [wrap64 (((rd_T65 l0 x8_2).f0) * (wrap64 (Int.tdiv x5_1 ((rd_T65 l0 x8_2).f1))))]) (wrap64 (x8_2 + 1))) else (none)) else (some (([] : List Int), 0, false))) = some (r1, r2, r3) := H
         have A16 := Aside0.mk A160
         clear A160
         by_cases c17 : t661 = true
         ·subst c17
          have H1 : (if x7_2.length < 17592186044416 then (spec_l01Common.l1 k2 l0 x5_1 (x7_2 ++ [wrap64 (((rd_T65 l0 x8_2).f0) * (wrap64 (Int.tdiv x5_1 ((rd_T65 l0 x8_2).f1))))]) (wrap64 (x8_2 + 1))) else (none)) = some (r1, r2, r3) := by rw [if_pos rfl] at H; exact H
          clear H
          have H := H1
          clear H1
          by_cases c18 : x7_2.length < 17592186044416
          ·rw [if_pos c18] at H
           have LMc18 := Aside0.mk c18
           clear c18
           obtain ⟨y662, hy662⟩ : ∃ y_ : List Int, y_ = (x7_2 ++ [wrap64 (((rd_T65 l0 x8_2).f0) * (wrap64 (Int.tdiv x5_1 ((rd_T65 l0 x8_2).f1))))]) := ⟨_, rfl⟩
           replace H : (spec_l01Common.l1 k2 l0 x5_1 y662 (wrap64 (x8_2 + 1))) = some (r1, r2, r3) := by first | (rw [hy662]; with_reducible exact H) | (have H2_ := (Option.bind_some _ _).symm.trans H; rw [hy662]; with_reducible exact H2_) | (have H2_ := (Option.bind_some _ _).symm.trans H; with_reducible exact H2_) | with_reducible exact H | (rw [hy662]; exact H) | exact H
           have Ny662 := Aside0.mk hy662
           clear hy662
           have H' := Aside0.mk H
           clear H
           try go_wp2
           have n0_ := Aside0.mk (Kd.R_drew HO_7.out)
           have n1_ := Aside0.mk (below_drew1 HB.out)
           clear HO_7
           clear HB
           have HO_7 := n0_
           have HB := n1_
           clear n0_ n1_
           have p659 : 0 ≤ (x8_2 : Int) := of_decide_eq_true (by first | (with_reducible assumption) | assumption)
           have q659 : x8_2 < (l0.length : Int) := of_decide_eq_true (by first | (with_reducible assumption) | assumption)
           obtain ⟨ad659, e659, hx659_0, hx659_1⟩ := at_T65 HR0.out x8_2 p659 q659
           have hw659_1 := hx659_1
           have hw659_0 := hx659_0
           cases e659
           replace hx659_0 := (HB.out.cell (World.block_lt_of_cell? w _ hx659_0)).trans hx659_0
           replace hx659_1 := (HB.out.cell (World.block_lt_of_cell? w _ hx659_1)).trans hx659_1
           replace p659 := eq_true p659
           replace q659 := eq_true q659
           have p660 : 0 ≤ (x8_2 : Int) := of_decide_eq_true (by first | (with_reducible assumption) | assumption)
           have q660 : x8_2 < (l0.length : Int) := of_decide_eq_true (by first | (with_reducible assumption) | assumption)
           obtain ⟨ad660, e660, hx660_0, hx660_1⟩ := at_T65 HR0.out x8_2 p660 q660
           have hw660_1 := hx660_1
           have hw660_0 := hx660_0
           obtain rfl : ad659 = ad660 := (by injection e660)
           replace hx660_0 := (HB.out.cell (World.block_lt_of_cell? w _ hx660_0)).trans hx660_0
           replace hx660_1 := (HB.out.cell (World.block_lt_of_cell? w _ hx660_1)).trans hx660_1
           replace p660 := eq_true p660
           replace q660 := eq_true q660
           refine start_ (n := 14) (S := fun w' => w'.cell? (ad659.add ((x8_2).toNat * 2)) = some (.int .i64 ((rd_T65 l0 x8_2).f0)) ∧ w'.cell? ⟨(ad659.add ((x8_2).toNat * 2)).block, (ad659.add ((x8_2).toNat * 2)).off + 1, none⟩ = some (.int .i64 ((rd_T65 l0 x8_2).f1)) ∧ w'.cell? (ad659.add ((x8_2).toNat * 2)) = some (.int .i64 ((rd_T65 l0 x8_2).f0)) ∧ w'.cell? ⟨(ad659.add ((x8_2).toNat * 2)).block, (ad659.add ((x8_2).toNat * 2)).off + 1, none⟩ = some (.int .i64 ((rd_T65 l0 x8_2).f1))) (ds := []) #[false, false, false, false, false, false, false, false, false, false, false, false, false, false] (by kernel_rfl) rfl rfl ⟨((HB.out.cell (World.block_lt_of_cell? w _ hw659_0)).trans hw659_0), ((HB.out.cell (World.block_lt_of_cell? w _ hw659_1)).trans hw659_1), ((HB.out.cell (World.block_lt_of_cell? w _ hw660_0)).trans hw660_0), ((HB.out.cell (World.block_lt_of_cell? w _ hw660_1)).trans hw660_1)⟩ (fun hHeld => ?_); refine with_tabW spec_l01Common.tab12 spec_l01Common.bits12 (fun HT_ HW_ => ?_)
           generalize wr.drew = w19 at HO_7 HB hx659_0 hx659_1 hx660_0 hx660_1 hHeld ⊢
           refine pure_ (i := 0) (N := some 40) (v := ?_) (a' := ?_) #[true, false, false, false, false, false, false, false, false, false, false, false, false, false] rfl rfl (any_of HT_.out (by kernel_rfl)) (fun _ _ _ h => h) (Or.inl ⟨by rfl, ?_⟩) ?_ ?_
           rotate_left
           ·intro w'
            go_simp
            with_reducible rfl
           rotate_left
           ·simp only [Act.put, List.setIfInBounds_toArray, List.set_cons_zero, List.set_cons_succ, i64_w, i32_w]
            rfl
           refine pure_ (i := 1) (N := some 41) (v := ?_) (a' := ?_) #[true, true, false, false, false, false, false, false, false, false, false, false, false, false] rfl rfl (any_of HT_.out (by kernel_rfl)) (fun _ _ _ h => h) (Or.inl ⟨by rfl, ?_⟩) ?_ ?_
           rotate_left
           ·intro w'
            go_simp
            with_reducible rfl
           rotate_left
           ·simp only [Act.put, List.setIfInBounds_toArray, List.set_cons_zero, List.set_cons_succ, i64_w, i32_w]
            rfl
           refine pure_ (i := 2) (N := some 42) (v := ?_) (a' := ?_) #[true, true, true, false, false, false, false, false, false, false, false, false, false, false] rfl rfl (any_of HT_.out (by kernel_rfl)) (fun _ _ _ h => h) (Or.inl ⟨by rfl, ?_⟩) ?_ ?_
           rotate_left
           ·intro w'
            go_simp
            with_reducible rfl
           rotate_left
           ·simp only [Act.put, List.setIfInBounds_toArray, List.set_cons_zero, List.set_cons_succ, i64_w, i32_w]
            rfl
           refine pure_ (i := 3) (N := some 43) (v := ?_) (a' := ?_) #[true, true, true, true, false, false, false, false, false, false, false, false, false, false] rfl rfl (any_of HT_.out (by kernel_rfl)) (fun _ _ _ h => h) (Or.inl ⟨by rfl, ?_⟩) ?_ ?_
           rotate_left
           ·intro w'
            go_simp
            with_reducible rfl
           rotate_left
           ·simp only [Act.put, List.setIfInBounds_toArray, List.set_cons_zero, List.set_cons_succ, i64_w, i32_w]
            rfl
           refine pure_ (i := 5) (N := some 45) (v := ?_) (a' := ?_) #[true, true, true, true, false, true, false, false, false, false, false, false, false, false] rfl rfl (any_of HT_.out (by kernel_rfl)) (fun _ _ _ h => h) (Or.inl ⟨by rfl, ?_⟩) ?_ ?_
           rotate_left
           ·intro w'
            go_simp
            with_reducible rfl
           rotate_left
           ·simp only [Act.put, List.setIfInBounds_toArray, List.set_cons_zero, List.set_cons_succ, i64_w, i32_w]
            rfl
           refine pure_ (i := 6) (N := some 46) (v := ?_) (a' := ?_) #[true, true, true, true, false, true, true, false, false, false, false, false, false, false] rfl rfl (any_of HT_.out (by kernel_rfl)) (fun _ _ _ h => h) (Or.inl ⟨by rfl, ?_⟩) ?_ ?_
           rotate_left
           ·intro w'
            go_simp
            with_reducible rfl
           rotate_left
           ·simp only [Act.put, List.setIfInBounds_toArray, List.set_cons_zero, List.set_cons_succ, i64_w, i32_w]
            rfl
           refine pure_ (i := 7) (N := some 47) (v := ?_) (a' := ?_) #[true, true, true, true, false, true, true, true, false, false, false, false, false, false] rfl rfl (any_of HT_.out (by kernel_rfl)) (fun _ _ _ h => h) (Or.inl ⟨by rfl, ?_⟩) ?_ ?_
           rotate_left
           ·intro w'
            go_simp
            with_reducible rfl
           rotate_left
           ·simp only [Act.put, List.setIfInBounds_toArray, List.set_cons_zero, List.set_cons_succ, i64_w, i32_w]
            rfl
           refine pure_ (i := 8) (N := some 48) (v := ?_) (a' := ?_) #[true, true, true, true, false, true, true, true, true, false, false, false, false, false] rfl rfl (any_of HT_.out (by kernel_rfl)) (fun _ _ _ h => h) (Or.inl ⟨by rfl, ?_⟩) ?_ ?_
           rotate_left
           ·intro w'
            go_simp
            with_reducible rfl
           rotate_left
           ·simp only [Act.put, List.setIfInBounds_toArray, List.set_cons_zero, List.set_cons_succ, i64_w, i32_w]
            rfl
           refine pure_ (i := 9) (N := some 49) (v := ?_) (a' := ?_) #[true, true, true, true, false, true, true, true, true, true, false, false, false, false] rfl rfl (any_of HT_.out (by kernel_rfl)) (fun _ _ _ h => h) (Or.inl ⟨by rfl, ?_⟩) ?_ ?_
           rotate_left
           ·intro w'
            go_simp
            with_reducible rfl
           rotate_left
           ·simp only [Act.put, List.setIfInBounds_toArray, List.set_cons_zero, List.set_cons_succ, i64_w, i32_w]
            rfl
           refine take_ (i := 4) (N := some 44) (v := ?_) (a' := ?_) #[true, true, true, true, true, true, true, true, true, true, false, false, false, false] rfl rfl (take_ofW HT_.out HW_.out (by kernel_rfl)) (fun _ _ _ h => h) (Or.inl ⟨by rfl, ?_⟩) hHeld ?_ ?_
           rotate_left
           ·rintro w' ⟨s0, s1, s2, s3⟩
            go_simp
            with_reducible rfl
           rotate_left
           ·simp only [Act.put, List.setIfInBounds_toArray, List.set_cons_zero, List.set_cons_succ, i64_w, i32_w]
            rfl
           refine take_ (i := 10) (N := some 50) (v := ?_) (a' := ?_) #[true, true, true, true, true, true, true, true, true, true, true, false, false, false] rfl rfl (take_ofW HT_.out HW_.out (by kernel_rfl)) (fun _ _ _ h => h) (Or.inl ⟨by rfl, ?_⟩) hHeld ?_ ?_
           rotate_left
           ·rintro w' ⟨s0, s1, s2, s3⟩
            go_simp
            with_reducible rfl
           rotate_left
           ·simp only [Act.put, List.setIfInBounds_toArray, List.set_cons_zero, List.set_cons_succ, i64_w, i32_w]
            rfl
           refine pure_ (i := 11) (N := some 51) (v := ?_) (a' := ?_) #[true, true, true, true, true, true, true, true, true, true, true, true, false, false] rfl rfl (any_of HT_.out (by kernel_rfl)) (fun _ _ _ h => h) (Or.inl ⟨by rfl, ?_⟩) ?_ ?_
           rotate_left
           ·intro w'
            go_simp
            with_reducible rfl
           rotate_left
           ·simp only [Act.put, List.setIfInBounds_toArray, List.set_cons_zero, List.set_cons_succ, i64_w, i32_w]
            rfl
           refine pure_ (i := 12) (N := some 52) (v := ?_) (a' := ?_) #[true, true, true, true, true, true, true, true, true, true, true, true, true, false] rfl rfl (any_of HT_.out (by kernel_rfl)) (fun _ _ _ h => h) (Or.inl ⟨by rfl, ?_⟩) ?_ ?_
           rotate_left
           ·intro w'
            go_simp
            with_reducible rfl
           rotate_left
           ·simp only [Act.put, List.setIfInBounds_toArray, List.set_cons_zero, List.set_cons_succ, i64_w, i32_w]
            rfl
           refine pure_ (i := 13) (N := some 9) (v := ?_) (a' := ?_) #[true, true, true, true, true, true, true, true, true, true, true, true, true, true] rfl rfl (any_of HT_.out (by kernel_rfl)) (fun _ _ _ h => h) (Or.inl ⟨by rfl, ?_⟩) ?_ ?_
           rotate_left
           ·intro w'
            go_simp
            with_reducible rfl
           rotate_left
           ·simp only [Act.put, List.setIfInBounds_toArray, List.set_cons_zero, List.set_cons_succ, i64_w, i32_w]
            rfl
           refine done_ (done_of HT_.out (by kernel_rfl)) ?_
           try go_wp2_with (first | ((with_reducible refine gate_callee (f := 87) rfl ?_); refine goesL_ (some 54) rfl rfl Try.func87 (by kernel_rfl) rfl #[.int .i64 (wrap64 (((rd_T65 l0 x8_2).f0) * (wrap64 (Int.tdiv x5_1 ((rd_T65 l0 x8_2).f1))))), .int .i64 (-1000000000000), .int .i64 1000000000000] rfl (by (try simp only [List.map_toArray, List.map_cons, List.map_nil]); first | done | rfl | (simp only [List.length_drop, List.length_take]; rfl)) ?_; (with_reducible refine (spec_l01In.calls (wrap64 (((rd_T65 l0 x8_2).f0) * (wrap64 (Int.tdiv x5_1 ((rd_T65 l0 x8_2).f1))))) (-1000000000000) 1000000000000 true _ A16.out).mono ?_); rintro e w' ⟨rfl, ⟨nd, rfl⟩⟩; refine ⟨_, rfl, ?_⟩) | ((with_reducible refine gate_builtin (b := .append) (xs := #[.tmp 56, .tmp 58]) rfl ?_); at_builtin; refine Kd.R_append (Kd.int .i64) (w0 := w) w.heap.size rfl (.tmp 56) (.tmp 58) 33 2 (.int .i64 0) 8 rfl Try.underlying33 info2 rfl (by decide) (by omega) u7 x7_2 (wrap64 (((rd_T65 l0 x8_2).f0) * (wrap64 (Int.tdiv x5_1 ((rd_T65 l0 x8_2).f1))))) [.int .i64 (wrap64 (((rd_T65 l0 x8_2).f0) * (wrap64 (Int.tdiv x5_1 ((rd_T65 l0 x8_2).f1)))))] (fun _ => True) (fun _ => False) rfl rfl ?aP (fun _ hk => hk.elim) ?aF ?aO ?aB ?aS ?aL ?_; (case aP => exact rfl); (case aB => exact (by repeat (first | (with_reducible first | exact HB.out | apply below_alloc | apply pw_below_drewN | apply below_drew1) | exact HB.out))); (case aF => exact (fun _ _ => trivial)); (case aO => exact (by (with_reducible repeat (first | apply Kd.R_alloc | apply Kd.R_drewN | apply Kd.R_drew)); exact HO_7.out)); (case aS => exact (below_size (by repeat (first | (with_reducible first | exact HB.out | apply below_alloc | apply pw_below_drewN | apply below_drew1) | exact HB.out)))); (case aL => have := LMc18.out; omega); intro v663 w20 ho hb hg hat; rw [← Ny662.out] at ho; have n0_ := Aside0.mk (hb); have n1_ := Aside0.mk (ho); clear HB; clear HO_7; have HB := n0_; have HO664 := n1_; clear n0_ n1_; clear ho hb hg hat))
           go_roundg k2
           case measure => have := HK1.out; have := HK2.out; omega
           case rel => exact ⟨(y662), (wrap64 (x8_2 + 1)), (by first | rfl | (simp; done) | (simp [*]; done)), H', ⟨by have := HK1.out; have := HK2.out; omega⟩, ⟨by (with_reducible repeat (first | apply Kd.R_alloc | apply Kd.R_drewN | apply Kd.R_drew)); exact HO664.out⟩, ⟨by repeat (first | (with_reducible first | exact HB.out | apply below_alloc | apply pw_below_drewN | apply below_drew1) | exact HB.out)⟩⟩
          ·rw [if_neg c18] at H
           exact absurd H (by simp)
         ·replace c17 := Bool.eq_false_iff.mpr c17
          subst c17
          have H1 : (some (([] : List Int), 0, false)) = some (r1, r2, r3) := by rw [if_neg (show ¬ (false = true) by decide)] at H; exact H
          clear H
          have H := H1
          clear H1
          simp only [Option.some.injEq, Prod.mk.injEq] at H
          obtain ⟨rfl, rfl, rfl⟩ := H
          try go_wp2
          have n0_ := Aside0.mk (Kd.R_drew HO_7.out)
          have n1_ := Aside0.mk (below_drew1 HB.out)
          clear HO_7
          clear HB
          have HO_7 := n0_
          have HB := n1_
          clear n0_ n1_
          have p659 : 0 ≤ (x8_2 : Int) := of_decide_eq_true (by first | (with_reducible assumption) | assumption)
          have q659 : x8_2 < (l0.length : Int) := of_decide_eq_true (by first | (with_reducible assumption) | assumption)
          obtain ⟨ad659, e659, hx659_0, hx659_1⟩ := at_T65 HR0.out x8_2 p659 q659
          have hw659_1 := hx659_1
          have hw659_0 := hx659_0
          cases e659
          replace hx659_0 := (HB.out.cell (World.block_lt_of_cell? w _ hx659_0)).trans hx659_0
          replace hx659_1 := (HB.out.cell (World.block_lt_of_cell? w _ hx659_1)).trans hx659_1
          replace p659 := eq_true p659
          replace q659 := eq_true q659
          have p660 : 0 ≤ (x8_2 : Int) := of_decide_eq_true (by first | (with_reducible assumption) | assumption)
          have q660 : x8_2 < (l0.length : Int) := of_decide_eq_true (by first | (with_reducible assumption) | assumption)
          obtain ⟨ad660, e660, hx660_0, hx660_1⟩ := at_T65 HR0.out x8_2 p660 q660
          have hw660_1 := hx660_1
          have hw660_0 := hx660_0
          obtain rfl : ad659 = ad660 := (by injection e660)
          replace hx660_0 := (HB.out.cell (World.block_lt_of_cell? w _ hx660_0)).trans hx660_0
          replace hx660_1 := (HB.out.cell (World.block_lt_of_cell? w _ hx660_1)).trans hx660_1
          replace p660 := eq_true p660
          replace q660 := eq_true q660
          refine start_ (n := 14) (S := fun w' => w'.cell? (ad659.add ((x8_2).toNat * 2)) = some (.int .i64 ((rd_T65 l0 x8_2).f0)) ∧ w'.cell? ⟨(ad659.add ((x8_2).toNat * 2)).block, (ad659.add ((x8_2).toNat * 2)).off + 1, none⟩ = some (.int .i64 ((rd_T65 l0 x8_2).f1)) ∧ w'.cell? (ad659.add ((x8_2).toNat * 2)) = some (.int .i64 ((rd_T65 l0 x8_2).f0)) ∧ w'.cell? ⟨(ad659.add ((x8_2).toNat * 2)).block, (ad659.add ((x8_2).toNat * 2)).off + 1, none⟩ = some (.int .i64 ((rd_T65 l0 x8_2).f1))) (ds := []) #[false, false, false, false, false, false, false, false, false, false, false, false, false, false] (by kernel_rfl) rfl rfl ⟨((HB.out.cell (World.block_lt_of_cell? w _ hw659_0)).trans hw659_0), ((HB.out.cell (World.block_lt_of_cell? w _ hw659_1)).trans hw659_1), ((HB.out.cell (World.block_lt_of_cell? w _ hw660_0)).trans hw660_0), ((HB.out.cell (World.block_lt_of_cell? w _ hw660_1)).trans hw660_1)⟩ (fun hHeld => ?_); refine with_tabW spec_l01Common.tab12 spec_l01Common.bits12 (fun HT_ HW_ => ?_)
          generalize wr.drew = w21 at HO_7 HB hx659_0 hx659_1 hx660_0 hx660_1 hHeld ⊢
          refine pure_ (i := 0) (N := some 40) (v := ?_) (a' := ?_) #[true, false, false, false, false, false, false, false, false, false, false, false, false, false] rfl rfl (any_of HT_.out (by kernel_rfl)) (fun _ _ _ h => h) (Or.inl ⟨by rfl, ?_⟩) ?_ ?_
          rotate_left
          ·intro w'
           go_simp
           with_reducible rfl
          rotate_left
          ·simp only [Act.put, List.setIfInBounds_toArray, List.set_cons_zero, List.set_cons_succ, i64_w, i32_w]
           rfl
          refine pure_ (i := 1) (N := some 41) (v := ?_) (a' := ?_) #[true, true, false, false, false, false, false, false, false, false, false, false, false, false] rfl rfl (any_of HT_.out (by kernel_rfl)) (fun _ _ _ h => h) (Or.inl ⟨by rfl, ?_⟩) ?_ ?_
          rotate_left
          ·intro w'
           go_simp
           with_reducible rfl
          rotate_left
          ·simp only [Act.put, List.setIfInBounds_toArray, List.set_cons_zero, List.set_cons_succ, i64_w, i32_w]
           rfl
          refine pure_ (i := 2) (N := some 42) (v := ?_) (a' := ?_) #[true, true, true, false, false, false, false, false, false, false, false, false, false, false] rfl rfl (any_of HT_.out (by kernel_rfl)) (fun _ _ _ h => h) (Or.inl ⟨by rfl, ?_⟩) ?_ ?_
          rotate_left
          ·intro w'
           go_simp
           with_reducible rfl
          rotate_left
          ·simp only [Act.put, List.setIfInBounds_toArray, List.set_cons_zero, List.set_cons_succ, i64_w, i32_w]
           rfl
          refine pure_ (i := 3) (N := some 43) (v := ?_) (a' := ?_) #[true, true, true, true, false, false, false, false, false, false, false, false, false, false] rfl rfl (any_of HT_.out (by kernel_rfl)) (fun _ _ _ h => h) (Or.inl ⟨by rfl, ?_⟩) ?_ ?_
          rotate_left
          ·intro w'
           go_simp
           with_reducible rfl
          rotate_left
          ·simp only [Act.put, List.setIfInBounds_toArray, List.set_cons_zero, List.set_cons_succ, i64_w, i32_w]
           rfl
          refine pure_ (i := 5) (N := some 45) (v := ?_) (a' := ?_) #[true, true, true, true, false, true, false, false, false, false, false, false, false, false] rfl rfl (any_of HT_.out (by kernel_rfl)) (fun _ _ _ h => h) (Or.inl ⟨by rfl, ?_⟩) ?_ ?_
          rotate_left
          ·intro w'
           go_simp
           with_reducible rfl
          rotate_left
          ·simp only [Act.put, List.setIfInBounds_toArray, List.set_cons_zero, List.set_cons_succ, i64_w, i32_w]
           rfl
          refine pure_ (i := 6) (N := some 46) (v := ?_) (a' := ?_) #[true, true, true, true, false, true, true, false, false, false, false, false, false, false] rfl rfl (any_of HT_.out (by kernel_rfl)) (fun _ _ _ h => h) (Or.inl ⟨by rfl, ?_⟩) ?_ ?_
          rotate_left
          ·intro w'
           go_simp
           with_reducible rfl
          rotate_left
          ·simp only [Act.put, List.setIfInBounds_toArray, List.set_cons_zero, List.set_cons_succ, i64_w, i32_w]
           rfl
          refine pure_ (i := 7) (N := some 47) (v := ?_) (a' := ?_) #[true, true, true, true, false, true, true, true, false, false, false, false, false, false] rfl rfl (any_of HT_.out (by kernel_rfl)) (fun _ _ _ h => h) (Or.inl ⟨by rfl, ?_⟩) ?_ ?_
          rotate_left
          ·intro w'
           go_simp
           with_reducible rfl
          rotate_left
          ·simp only [Act.put, List.setIfInBounds_toArray, List.set_cons_zero, List.set_cons_succ, i64_w, i32_w]
           rfl
          refine pure_ (i := 8) (N := some 48) (v := ?_) (a' := ?_) #[true, true, true, true, false, true, true, true, true, false, false, false, false, false] rfl rfl (any_of HT_.out (by kernel_rfl)) (fun _ _ _ h => h) (Or.inl ⟨by rfl, ?_⟩) ?_ ?_
          rotate_left
          ·intro w'
           go_simp
           with_reducible rfl
          rotate_left
          ·simp only [Act.put, List.setIfInBounds_toArray, List.set_cons_zero, List.set_cons_succ, i64_w, i32_w]
           rfl
          refine pure_ (i := 9) (N := some 49) (v := ?_) (a' := ?_) #[true, true, true, true, false, true, true, true, true, true, false, false, false, false] rfl rfl (any_of HT_.out (by kernel_rfl)) (fun _ _ _ h => h) (Or.inl ⟨by rfl, ?_⟩) ?_ ?_
          rotate_left
          ·intro w'
           go_simp
           with_reducible rfl
          rotate_left
          ·simp only [Act.put, List.setIfInBounds_toArray, List.set_cons_zero, List.set_cons_succ, i64_w, i32_w]
           rfl
          refine take_ (i := 4) (N := some 44) (v := ?_) (a' := ?_) #[true, true, true, true, true, true, true, true, true, true, false, false, false, false] rfl rfl (take_ofW HT_.out HW_.out (by kernel_rfl)) (fun _ _ _ h => h) (Or.inl ⟨by rfl, ?_⟩) hHeld ?_ ?_
          rotate_left
          ·rintro w' ⟨s0, s1, s2, s3⟩
           go_simp
           with_reducible rfl
          rotate_left
          ·simp only [Act.put, List.setIfInBounds_toArray, List.set_cons_zero, List.set_cons_succ, i64_w, i32_w]
           rfl
          refine take_ (i := 10) (N := some 50) (v := ?_) (a' := ?_) #[true, true, true, true, true, true, true, true, true, true, true, false, false, false] rfl rfl (take_ofW HT_.out HW_.out (by kernel_rfl)) (fun _ _ _ h => h) (Or.inl ⟨by rfl, ?_⟩) hHeld ?_ ?_
          rotate_left
          ·rintro w' ⟨s0, s1, s2, s3⟩
           go_simp
           with_reducible rfl
          rotate_left
          ·simp only [Act.put, List.setIfInBounds_toArray, List.set_cons_zero, List.set_cons_succ, i64_w, i32_w]
           rfl
          refine pure_ (i := 11) (N := some 51) (v := ?_) (a' := ?_) #[true, true, true, true, true, true, true, true, true, true, true, true, false, false] rfl rfl (any_of HT_.out (by kernel_rfl)) (fun _ _ _ h => h) (Or.inl ⟨by rfl, ?_⟩) ?_ ?_
          rotate_left
          ·intro w'
           go_simp
           with_reducible rfl
          rotate_left
          ·simp only [Act.put, List.setIfInBounds_toArray, List.set_cons_zero, List.set_cons_succ, i64_w, i32_w]
           rfl
          refine pure_ (i := 12) (N := some 52) (v := ?_) (a' := ?_) #[true, true, true, true, true, true, true, true, true, true, true, true, true, false] rfl rfl (any_of HT_.out (by kernel_rfl)) (fun _ _ _ h => h) (Or.inl ⟨by rfl, ?_⟩) ?_ ?_
          rotate_left
          ·intro w'
           go_simp
           with_reducible rfl
          rotate_left
          ·simp only [Act.put, List.setIfInBounds_toArray, List.set_cons_zero, List.set_cons_succ, i64_w, i32_w]
           rfl
          refine pure_ (i := 13) (N := some 9) (v := ?_) (a' := ?_) #[true, true, true, true, true, true, true, true, true, true, true, true, true, true] rfl rfl (any_of HT_.out (by kernel_rfl)) (fun _ _ _ h => h) (Or.inl ⟨by rfl, ?_⟩) ?_ ?_
          rotate_left
          ·intro w'
           go_simp
           with_reducible rfl
          rotate_left
          ·simp only [Act.put, List.setIfInBounds_toArray, List.set_cons_zero, List.set_cons_succ, i64_w, i32_w]
           rfl
          refine done_ (done_of HT_.out (by kernel_rfl)) ?_
          try go_wp2_with (first | ((with_reducible refine gate_callee (f := 87) rfl ?_); refine goesL_ (some 54) rfl rfl Try.func87 (by kernel_rfl) rfl #[.int .i64 (wrap64 (((rd_T65 l0 x8_2).f0) * (wrap64 (Int.tdiv x5_1 ((rd_T65 l0 x8_2).f1))))), .int .i64 (-1000000000000), .int .i64 1000000000000] rfl (by (try simp only [List.map_toArray, List.map_cons, List.map_nil]); first | done | rfl | (simp only [List.length_drop, List.length_take]; rfl)) ?_; (with_reducible refine (spec_l01In.calls (wrap64 (((rd_T65 l0 x8_2).f0) * (wrap64 (Int.tdiv x5_1 ((rd_T65 l0 x8_2).f1))))) (-1000000000000) 1000000000000 false _ A16.out).mono ?_); rintro e w' ⟨rfl, ⟨nd, rfl⟩⟩; refine ⟨_, rfl, ?_⟩))
          go_ret3
          exact ⟨_, by first | rfl | (simp [errW_none, errW_some] <;> rfl) | (simp [*, errW_none, errW_some] <;> rfl), by first | exact Kd.R_nil _ _ _ _ _ | exact Kd.N_nil _ _ _ _ _ | exact Kd.V_nil _ _ _ _ _ | exact Kd.Q_nil _ _ _ _ _ | exact Kd.S_nil _ _ _ _ _, by repeat (first | (with_reducible first | exact HB.out | apply below_alloc | apply pw_below_drewN | apply below_drew1) | exact HB.out)⟩
       ·rw [if_neg c14] at H
        exact absurd H (by simp)
      ·rw [if_neg c13] at H
       have c13b0 : decide (x8_2 < (l0.length : Int)) = false := decide_eq_false c13
       clear c13
       simp only [Option.some.injEq, Prod.mk.injEq] at H
       obtain ⟨rfl, rfl, rfl⟩ := H
       go_wp2
       go_ret3
       exact ⟨_, by first | rfl | (simp [errW_none, errW_some] <;> rfl) | (simp [*, errW_none, errW_some] <;> rfl), by (with_reducible repeat (first | apply Kd.R_alloc | apply Kd.R_drewN | apply Kd.R_drew)); exact HO_7.out, by repeat (first | (with_reducible first | exact HB.out | apply below_alloc | apply pw_below_drewN | apply below_drew1) | exact HB.out)⟩
end Go.Proofs.Ytjjbhdpjnjncbaa.Pr
end
