/- Texts of one claim (the words of the kit's print that the claim uses, printed functions, and this session's own texts), joined in the order of their imports by this session's own program (merge.py). -/
import Derived.Test.YtmcddlpgffbmpaaRows
import Derived.WalkKit
import Derived.ProofKit
import Derived.OpenShut
import Derived.ShutString
import Derived.ChangeOld
import Derived.Below
import Derived.SizedLaws
import Derived.Test.YtmcddlpgffbmpaaJnFnExactRemainingChoices0
import Derived.Test.YtmcddlpgffbmpaaJnFnExactRemainingChoices1
set_option linter.unusedVariables false
set_option linter.unusedSimpArgs false
set_option maxHeartbeats 8000000
set_option maxRecDepth 100000
section
namespace Go.Proofs.Ytmcddlpgffbmpaa.Pr
open Go.RowKit Go.Proofs.YtmcddlpgffbmpaaW.PrintWords Go.Proofs.YtmcddlpgffbmpaaW.PrintLast Go.Proofs.YtmcddlpgffbmpaaW.PrintMore Go.Proofs.Ytmcddlpgffbmpaa.La Go.Proofs.Ytmcddlpgffbmpaa.Hm Go.Proofs.Ytmcddlpgffbmpaa.Lw
theorem laws_FnExactRemainingChoices.walk (k:Nat) (af:Option Addr) (ag:Nat) (aa:List (List Int)) (ah:Option Addr) (ai:Nat) (ae:List (List Int)) (aN:Int) (s0:List Int) (s1:List Int) (s2:Int) (m1:Int) (m2:Int) (m3:Int) (w:World) (aG:Kd.C (Kd.slice 2 (Kd.int .i64)) w af aa.length aa) (aH:aa.length≤ag) (aI:Kd.C (Kd.slice 2 (Kd.int .i64)) w ah ae.length ae) (aJ:ae.length≤ai) (h1:laws_szGame.f k aa ae 1048576=some aN) (h2: ¬ aN < 0) (h3:laws_toInt64SS.f k aa=some aa∧laws_toInt64SS.f k ae=some ae) (h4:spec_RemainingChoices.f k aa ae=some (s0,s1,s2)) (h5:impl_RemainingChoices.f aa ae=some (s0,s1,s2)) (h6:laws_eqInt64S.f k s0 s0=some true) (h7:laws_eqInt64S.f k s1 s1=some true) (h8:laws_eqGame.f k aa ae aa ae=some true) (h9:m1=1+(lens aa:Int)+(lens ae:Int)) (h10:1+(lens aa:Int)+(lens ae:Int)≤1099511627776) (h11:aa.length≤1099511627776) (h12:ae.length≤1099511627776) (h13: ¬ m1 < 0) (h14:m2=1+(s0.length:Int)) (h15:1+(s0.length:Int)≤1099511627776) (h16: ¬ m2 < 0) (h17:0≤m2) (h18:m3=m2+(s1.length:Int)) (h19:m2+(s1.length:Int)≤1099511627776) (h20: ¬ m3 < 0) (h21:laws_heldInt64S.f k ((count 1 s0.length)) 1=some m2) (h22:laws_heldInt64S.f k ((count m2 s1.length)) m2=some m3):
  Calls Try.prog 4 #[.agg #[.slice af aa.length ag, .slice ah ae.length ai]] w fun e w'=>e= .returned (.bool true)∧Below w.heap.size w w':=by
 have HR0_0:=q_ aG
 have HC0_0:=q_ aH
 clear aG aH
 have HR0_1:=q_ aI
 have HC0_1:=q_ aJ
 clear aI aJ
 have HB:=q_ (Below.refl w.heap.size w)
 have H1':=q_ h1
 clear h1
 have H3':=q_ h3
 clear h3
 have H4':=q_ h4
 clear h4
 have H5':=q_ h5
 clear h5
 have H6':=q_ h6
 clear h6
 have H7':=q_ h7
 clear h7
 have H8':=q_ h8
 clear h8
 have H9':=q_ h9
 clear h9
 have H10':=q_ h10
 clear h10
 have H11':=q_ h11
 clear h11
 have H12':=q_ h12
 clear h12
 have H14':=q_ h14
 clear h14
 have H15':=q_ h15
 clear h15
 have H17':=q_ h17
 clear h17
 have H18':=q_ h18
 clear h18
 have H19':=q_ h19
 clear h19
 have H21':=q_ h21
 clear h21
 have H22':=q_ h22
 clear h22
 go_enter Try.func4,Try.ntmps4
 go_wp2_with (first | ((with_reducible refine gate_dst (N:=1) rfl ?_);refine box_event ?hg (N:=1) ?hd (cs:= #[.slice af aa.length ag, .slice ah ae.length ai]) (t:=27) ?hr ?_;(case hd=>rfl);(case hg=>rfl);(case hr=>first | (go_simp;done) | (go_simp;rfl));intro g1 hg w1 hbox hb;have Gg1:Aside0 (g1=w.heap.size):=⟨hg⟩;have Kg1:=q_ (blk_lt hbox);clear hg;have n_HB:=q_ (below_step HB.out hb);have NN1:Aside0 (w.heap.size≤w1.heap.size):=⟨hb.size⟩;clear HB;have HB:=n_HB;clear n_HB;have Bg1:=q_ hbox;clear hb hbox;have av:w1.cell? ⟨g1,0,none⟩=some (.slice af aa.length ag):=(blk_cell Bg1.out 0).trans rfl;have hf1_0:=blk_frozen Bg1.out 0;have aw:w1.cell? ⟨g1,1,none⟩=some (.slice ah ae.length ai):=(blk_cell Bg1.out 1).trans rfl;have hf1_1:=blk_frozen Bg1.out 1) | ((with_reducible refine gate_callee (f:=7) rfl ?_);refine gL_ 19 Try.func7 #[.agg #[.slice af aa.length ag, .slice ah ae.length ai], .int .i64 1048576] ?_;refine(laws_szGame.calls k _ _ aa _ _ ae 1048576 aN _ ?s1 ?s2 ?s3 ?s4 H1'.out).mono ?_;(case s1=>exact Kd.C_below HR0_0.out HB.out);(case s2=>exact HC0_0.out);(case s3=>exact Kd.C_below HR0_1.out HB.out);(case s4=>exact HC0_1.out);rintro e w2 ⟨rfl,hb⟩;refine⟨_,rfl,?_⟩;have n_Bg1:=q_ (blk_below Bg1.out hb);have n_HB:=q_ (below_step HB.out hb);have NN2:Aside0 (w1.heap.size≤w2.heap.size):=⟨hb.size⟩;clear av hf1_0 aw hf1_1 Bg1 HB;have Bg1:=n_Bg1;have HB:=n_HB;clear n_Bg1 n_HB hb;have av:w2.cell? ⟨g1,0,none⟩=some (.slice af aa.length ag):=(blk_cell Bg1.out 0).trans rfl;have hf1_0:=blk_frozen Bg1.out 0;have aw:w2.cell? ⟨g1,1,none⟩=some (.slice ah ae.length ai):=(blk_cell Bg1.out 1).trans rfl;have hf1_1:=blk_frozen Bg1.out 1) | ((with_reducible refine gate_callee (f:=9) rfl ?_);refine gL_ 24 Try.func9 #[.agg #[.slice af aa.length ag, .slice ah ae.length ai]] ?_;refine(laws_toGame2.calls k _ _ aa _ _ ae _ ?s1 ?s2 ?s3 ?s4 H3'.out).mono ?_;(case s1=>exact Kd.C_below HR0_0.out HB.out);(case s2=>exact HC0_0.out);(case s3=>exact Kd.C_below HR0_1.out HB.out);(case s4=>exact HC0_1.out);rintro e w3 ⟨v24_0,v24_1,rfl,ho0,hb⟩;refine⟨_,rfl,?_⟩;have nu0:=q_ (UG.of ho0 HB.out.size);have n_Bg1:=q_ (blk_below Bg1.out hb);have n_HB:=q_ (below_step HB.out hb);have NN3:Aside0 (w2.heap.size≤w3.heap.size):=⟨hb.size⟩;clear av hf1_0 aw hf1_1 Bg1 HB;have Bg1:=n_Bg1;have HB:=n_HB;clear n_Bg1 n_HB hb ho0;have U24:=nu0;clear nu0;obtain⟨aX,aY,aZ,a9,e0,e1⟩:=U24.out.slices;subst e0;subst e1) | ((with_reducible refine gate_callee (f:=8) rfl ?_);refine gL_ 25 Try.func8 #[.agg #[.slice aX aa.length aY, .slice aZ ae.length a9]] ?_;refine(spec_RemainingChoices.calls k _ _ aa _ _ ae s0 s1 s2 _ ?s1 ?s2 ?s3 ?s4 H4'.out).mono ?_;(case s1=>exact U24.out.C0);(case s2=>exact U24.out.cap0);(case s3=>exact U24.out.C1);(case s4=>exact U24.out.cap1);rintro e w4 ⟨v25_0,v25_1,rfl,ho0,ho1,hb⟩;refine⟨_,rfl,?_⟩;have nu0:=q_ (UR.of ho0 HB.out.size);have nu1:=q_ (UR.of ho1 HB.out.size);have n_U24:=q_ (U24.out.mvB (Frm.below hb));have n_Bg1:=q_ (blk_below Bg1.out hb);have n_HB:=q_ (below_step HB.out hb);have NN4:Aside0 (w3.heap.size≤w4.heap.size):=⟨hb.size⟩;clear U24 Bg1 HB;have U24:=n_U24;have Bg1:=n_Bg1;have HB:=n_HB;clear n_U24 n_Bg1 n_HB hb ho0 ho1;have U25_0:=nu0;clear nu0;obtain⟨aK,aM,e0⟩:=Kd.R_slice U25_0.out;subst e0;have U25_1:=nu1;clear nu1;obtain⟨bn,bq,e0⟩:=Kd.R_slice U25_1.out;subst e0;have av:w4.cell? ⟨g1,0,none⟩=some (.slice af aa.length ag):=(blk_cell Bg1.out 0).trans rfl;have hf1_0:=blk_frozen Bg1.out 0;have aw:w4.cell? ⟨g1,1,none⟩=some (.slice ah ae.length ai):=(blk_cell Bg1.out 1).trans rfl;have hf1_1:=blk_frozen Bg1.out 1) | ((with_reducible refine gate_callee (f:=9) rfl ?_);refine gL_ 30 Try.func9 #[.agg #[.slice af aa.length ag, .slice ah ae.length ai]] ?_;refine(laws_toGame2.calls k _ _ aa _ _ ae _ ?s1 ?s2 ?s3 ?s4 H3'.out).mono ?_;(case s1=>exact Kd.C_below HR0_0.out HB.out);(case s2=>exact HC0_0.out);(case s3=>exact Kd.C_below HR0_1.out HB.out);(case s4=>exact HC0_1.out);rintro e w5 ⟨v30_0,v30_1,rfl,ho0,hb⟩;refine⟨_,rfl,?_⟩;have nu0:=q_ (UG.of ho0 HB.out.size);have n_U24:=q_ (U24.out.mvB (Frm.below hb));have n_U25_0:=q_ (U25_0.out.mvB (Frm.below hb));have n_U25_1:=q_ (U25_1.out.mvB (Frm.below hb));have n_Bg1:=q_ (blk_below Bg1.out hb);have n_HB:=q_ (below_step HB.out hb);have NN5:Aside0 (w4.heap.size≤w5.heap.size):=⟨hb.size⟩;clear av hf1_0 aw hf1_1 U24 U25_0 U25_1 Bg1 HB;have U24:=n_U24;have U25_0:=n_U25_0;have U25_1:=n_U25_1;have Bg1:=n_Bg1;have HB:=n_HB;clear n_U24 n_U25_0 n_U25_1 n_Bg1 n_HB hb ho0;have U30:=nu0;clear nu0;obtain⟨aj,ak,aq,au,e0,e1⟩:=U30.out.slices;subst e0;subst e1) | ((with_reducible refine gate_dst (N:=7) rfl ?_);refine box_event ?hg (N:=7) ?hd (cs:= #[.slice none 0 0, .slice none 0 0]) (t:=32) ?hr ?_;(case hd=>rfl);(case hg=>rfl);(case hr=>first | (go_simp;done) | (go_simp;rfl));intro g7 hg w6 hbox hb;have Gg7:Aside0 (g7=w5.heap.size):=⟨hg⟩;have Kg7:=q_ (blk_lt hbox);clear hg;have n_U24:=q_ (U24.out.mvB (Frm.below hb));have n_U25_0:=q_ (U25_0.out.mvB (Frm.below hb));have n_U25_1:=q_ (U25_1.out.mvB (Frm.below hb));have n_U30:=q_ (U30.out.mvB (Frm.below hb));have n_Bg1:=q_ (blk_below Bg1.out hb);have n_HB:=q_ (below_step HB.out hb);have NN6:Aside0 (w5.heap.size≤w6.heap.size):=⟨hb.size⟩;clear U24 U25_0 U25_1 U30 Bg1 HB;have U24:=n_U24;have U25_0:=n_U25_0;have U25_1:=n_U25_1;have U30:=n_U30;have Bg1:=n_Bg1;have HB:=n_HB;clear n_U24 n_U25_0 n_U25_1 n_U30 n_Bg1 n_HB;have Bg7:=q_ hbox;clear hb hbox;have ax:w6.cell? ⟨g7,0,none⟩=some (.slice none 0 0):=(blk_cell Bg7.out 0).trans rfl;have hf7_0:=blk_frozen Bg7.out 0;have ay:w6.cell? ⟨g7,1,none⟩=some (.slice none 0 0):=(blk_cell Bg7.out 1).trans rfl;have hf7_1:=blk_frozen Bg7.out 1) | ((with_reducible refine gate_store (t:=32) (p:=7) rfl ?_);refine store_event (t:=32) (p:=7) (v:=?vo_w7) (w1:=((w6.setCell ⟨g7,0,none⟩ (.slice aj aa.length ak)).setCell ⟨g7,1,none⟩ (.slice aq ae.length au))) ?hg ?ho ?hn ?hr ?_;(case ho=>rfl);(case hg=>rfl);(case hn=>rfl);(case hr=>first | (go_simp;done) | (go_simp;rfl));intro w7 hw;have hge:w.heap.size≤g7:=(by have:=NN1.out;have:=Gg1.out;have:=Kg1.out;have:=NN2.out;have:=NN3.out;have:=NN4.out;have:=NN5.out;have:=NN6.out;have:=Gg7.out;have:=Kg7.out;have:=HB.out.size;omega);have hF:Frm w6 w7 g7 (g7+1):=(by rw [hw];exact(Frm.trans (Frm.set _ _ _ _) (Frm.set _ _ _ _)));have nb:=q_ (show w7.heap[g7]?=some (.cells #[.slice aj aa.length ak, .slice aq ae.length au] 32 (0,0)) from (by rw [hw];exact(blk_put (blk_put Bg7.out 0 _ rfl) 1 _ rfl)));have n_U24:=q_ (U24.out.mv hF (by have:=NN1.out;have:=Gg1.out;have:=Kg1.out;have:=NN2.out;have:=NN3.out;have:=NN4.out;have:=NN5.out;have:=NN6.out;have:=Gg7.out;have:=Kg7.out;omega));have n_U25_0:=q_ (U25_0.out.mv hF (by have:=NN1.out;have:=Gg1.out;have:=Kg1.out;have:=NN2.out;have:=NN3.out;have:=NN4.out;have:=NN5.out;have:=NN6.out;have:=Gg7.out;have:=Kg7.out;omega));have n_U25_1:=q_ (U25_1.out.mv hF (by have:=NN1.out;have:=Gg1.out;have:=Kg1.out;have:=NN2.out;have:=NN3.out;have:=NN4.out;have:=NN5.out;have:=NN6.out;have:=Gg7.out;have:=Kg7.out;omega));have n_U30:=q_ (U30.out.mv hF (by have:=NN1.out;have:=Gg1.out;have:=Kg1.out;have:=NN2.out;have:=NN3.out;have:=NN4.out;have:=NN5.out;have:=NN6.out;have:=Gg7.out;have:=Kg7.out;omega));have n_Bg1:=q_ ((hF.same g1 (blk_lt Bg1.out) (by have:=NN1.out;have:=Gg1.out;have:=Kg1.out;have:=NN2.out;have:=NN3.out;have:=NN4.out;have:=NN5.out;have:=NN6.out;have:=Gg7.out;have:=Kg7.out;omega)).trans Bg1.out);have n_HB:=q_ ((by rw [hw];exact(below_set (below_set HB.out hge) hge):Below w.heap.size w w7));have NN7:Aside0 (w6.heap.size≤w7.heap.size):=⟨hF.size⟩;clear ax hf7_0 ay hf7_1 U24 U25_0 U25_1 U30 Bg1 HB;have U24:=n_U24;have U25_0:=n_U25_0;have U25_1:=n_U25_1;have U30:=n_U30;have Bg1:=n_Bg1;have HB:=n_HB;clear n_U24 n_U25_0 n_U25_1 n_U30 n_Bg1 n_HB Bg7;have Bg7:=nb;clear nb hF hge hw;have ax:w7.cell? ⟨g7,0,none⟩=some (.slice aj aa.length ak):=(blk_cell Bg7.out 0).trans rfl;have hf7_0:=blk_frozen Bg7.out 0;have ay:w7.cell? ⟨g7,1,none⟩=some (.slice aq ae.length au):=(blk_cell Bg7.out 1).trans rfl;have hf7_1:=blk_frozen Bg7.out 1) | ((with_reducible refine gate_callee (f:=10) rfl ?_);refine gL_ 33 Try.func10 #[.agg #[.slice aj aa.length ak, .slice aq ae.length au]] ?_;refine(impl_RemainingChoices.calls2 _ _ aa _ _ ae s0 s1 s2 _ ?s1 ?s2 ?s3 ?s4 H5'.out).mono ?_;(case s1=>exact U30.out.C0);(case s2=>exact U30.out.cap0);(case s3=>exact U30.out.C1);(case s4=>exact U30.out.cap1);rintro e w8 ⟨v33_0,v33_1,mm33,rfl,ho0,ho1,hma,hmb,hb⟩;refine⟨_,rfl,?_⟩;have nu0:=q_ (UR.split (lo:=w7.heap.size) (hi:=mm33) ho0 HB.out.size (fun k h1 h2 h3=>⟨h2,h1⟩));have nu1:=q_ (UR.split (lo:=mm33) (hi:=w8.heap.size) ho1 HB.out.size (fun k h1 h2 h3=>⟨h1,h3⟩));have n_U24:=q_ (U24.out.mvB (Frm.below hb));have n_U25_0:=q_ (U25_0.out.mvB (Frm.below hb));have n_U25_1:=q_ (U25_1.out.mvB (Frm.below hb));have n_U30:=q_ (U30.out.mvB (Frm.below hb));have n_Bg1:=q_ (blk_below Bg1.out hb);have n_Bg7:=q_ (blk_below Bg7.out hb);have n_HB:=q_ (below_step HB.out hb);have NN8:Aside0 (w7.heap.size≤w8.heap.size∧w7.heap.size≤mm33∧mm33≤w8.heap.size):=⟨hb.size,hma,hmb⟩;clear ax hf7_0 ay hf7_1 U24 U25_0 U25_1 U30 Bg1 Bg7 HB;have U24:=n_U24;have U25_0:=n_U25_0;have U25_1:=n_U25_1;have U30:=n_U30;have Bg1:=n_Bg1;have Bg7:=n_Bg7;have HB:=n_HB;clear n_U24 n_U25_0 n_U25_1 n_U30 n_Bg1 n_Bg7 n_HB hb ho0 ho1 hma hmb;have U33_0:=nu0;clear nu0;obtain⟨az,aA,e0⟩:=Kd.R_slice U33_0.out;subst e0;have U33_1:=nu1;clear nu1;obtain⟨aC,aD,e0⟩:=Kd.R_slice U33_1.out;subst e0) | ((with_reducible refine gate_callee (f:=11) rfl ?_);refine gL_ 39 Try.func11 #[.slice az s0.length aA, .slice aK s0.length aM] ?_;refine(laws_eqInt64S.calls k _ _ s0 _ _ s0 true _ ?s1 ?s2 ?s3 ?s4 H6'.out).mono ?_;(case s1=>exact UR.C U33_0.out);(case s2=>exact UR.cap U33_0.out);(case s3=>exact UR.C U25_0.out);(case s4=>exact UR.cap U25_0.out);rintro e w9 ⟨rfl,hb⟩;refine⟨_,rfl,?_⟩;have hb:=hb.below;have n_U24:=q_ (U24.out.mvB (Frm.below hb));have n_U25_0:=q_ (U25_0.out.mvB (Frm.below hb));have n_U25_1:=q_ (U25_1.out.mvB (Frm.below hb));have n_U30:=q_ (U30.out.mvB (Frm.below hb));have n_U33_0:=q_ (U33_0.out.mvB (Frm.below hb));have n_U33_1:=q_ (U33_1.out.mvB (Frm.below hb));have n_Bg1:=q_ (blk_below Bg1.out hb);have n_Bg7:=q_ (blk_below Bg7.out hb);have n_HB:=q_ (below_step HB.out hb);have NN9:Aside0 (w8.heap.size≤w9.heap.size):=⟨hb.size⟩;clear U24 U25_0 U25_1 U30 U33_0 U33_1 Bg1 Bg7 HB;have U24:=n_U24;have U25_0:=n_U25_0;have U25_1:=n_U25_1;have U30:=n_U30;have U33_0:=n_U33_0;have U33_1:=n_U33_1;have Bg1:=n_Bg1;have Bg7:=n_Bg7;have HB:=n_HB;clear n_U24 n_U25_0 n_U25_1 n_U30 n_U33_0 n_U33_1 n_Bg1 n_Bg7 n_HB hb) | (go_at_call 11;(with_reducible refine(laws_eqInt64S.calls k _ _ s1 _ _ s1 true _ ?s1 ?s2 ?s3 ?s4 H7'.out).mono ?_);(case s1=>exact UR.C U33_1.out);(case s2=>exact UR.cap U33_1.out);(case s3=>exact UR.C U25_1.out);(case s4=>exact UR.cap U25_1.out);rintro e w10 ⟨rfl,hb⟩;have hb:=hb.below;have n_U24:=q_ (U24.out.mvB (Frm.below hb));have n_U25_0:=q_ (U25_0.out.mvB (Frm.below hb));have n_U25_1:=q_ (U25_1.out.mvB (Frm.below hb));have n_U30:=q_ (U30.out.mvB (Frm.below hb));have n_U33_0:=q_ (U33_0.out.mvB (Frm.below hb));have n_U33_1:=q_ (U33_1.out.mvB (Frm.below hb));have n_Bg1:=q_ (blk_below Bg1.out hb);have n_Bg7:=q_ (blk_below Bg7.out hb);have n_HB:=q_ (below_step HB.out hb);have NN10:Aside0 (w9.heap.size≤w10.heap.size):=⟨hb.size⟩;clear U24 U25_0 U25_1 U30 U33_0 U33_1 Bg1 Bg7 HB;have U24:=n_U24;have U25_0:=n_U25_0;have U25_1:=n_U25_1;have U30:=n_U30;have U33_0:=n_U33_0;have U33_1:=n_U33_1;have Bg1:=n_Bg1;have Bg7:=n_Bg7;have HB:=n_HB;clear n_U24 n_U25_0 n_U25_1 n_U30 n_U33_0 n_U33_1 n_Bg1 n_Bg7 n_HB hb))
 try go_wp2
 have hb:Below w10.heap.size w10 w10.drew:=(Below.refl _ _).drew
 have n_U24:=q_ (U24.out.mvB (Frm.below hb))
 have n_U25_0:=q_ (U25_0.out.mvB (Frm.below hb))
 have n_U25_1:=q_ (U25_1.out.mvB (Frm.below hb))
 have n_U30:=q_ (U30.out.mvB (Frm.below hb))
 have n_U33_0:=q_ (U33_0.out.mvB (Frm.below hb))
 have n_U33_1:=q_ (U33_1.out.mvB (Frm.below hb))
 have n_Bg1:=q_ (blk_below Bg1.out hb)
 have n_Bg7:=q_ (blk_below Bg7.out hb)
 have n_HB:=q_ (below_step HB.out hb)
 have NN11:Aside0 (w10.heap.size≤w10.drew.heap.size):=⟨hb.size⟩
 clear U24 U25_0 U25_1 U30 U33_0 U33_1 Bg1 Bg7 HB
 have U24:=n_U24
 have U25_0:=n_U25_0
 have U25_1:=n_U25_1
 have U30:=n_U30
 have U33_0:=n_U33_0
 have U33_1:=n_U33_1
 have Bg1:=n_Bg1
 have Bg7:=n_Bg7
 have HB:=n_HB
 clear n_U24 n_U25_0 n_U25_1 n_U30 n_U33_0 n_U33_1 n_Bg1 n_Bg7 n_HB hb
 refine st_ (n:=5) (S:=fun w'=>w'.cell? ⟨g7,0,none⟩=some (.slice aj aa.length ak)∧w'.cell? ⟨g7,1,none⟩=some (.slice aq ae.length au)∧w'.cell? ⟨g1,0,none⟩=some (.slice af aa.length ag)∧w'.cell? ⟨g1,1,none⟩=some (.slice ah ae.length ai)) (ds:= []) ⟨(blk_cell Bg7.out 0).trans rfl,(blk_cell Bg7.out 1).trans rfl,(blk_cell Bg1.out 0).trans rfl,(blk_cell Bg1.out 1).trans rfl⟩ (fun hHeld=>?_)
 generalize w10.drew=w11 at U24 U25_0 U25_1 U30 U33_0 U33_1 Bg1 Bg7 HB NN11 hHeld ⊢
 have av:w11.cell? ⟨g1,0,none⟩=some (.slice af aa.length ag):=(blk_cell Bg1.out 0).trans rfl
 have hf1_0:=blk_frozen Bg1.out 0
 have aw:w11.cell? ⟨g1,1,none⟩=some (.slice ah ae.length ai):=(blk_cell Bg1.out 1).trans rfl
 have hf1_1:=blk_frozen Bg1.out 1
 have ax:w11.cell? ⟨g7,0,none⟩=some (.slice aj aa.length ak):=(blk_cell Bg7.out 0).trans rfl
 have hf7_0:=blk_frozen Bg7.out 0
 have ay:w11.cell? ⟨g7,1,none⟩=some (.slice aq ae.length au):=(blk_cell Bg7.out 1).trans rfl
 have hf7_1:=blk_frozen Bg7.out 1
 refine tk_ 0 52 ?_;refine tk_ 1 53 ?_
 refine on_ 2 (some 54) (fun K hK=>?_)
 refine goes_ Try.func9 (by kernel_rfl) rfl #[.agg #[.slice af aa.length ag, .slice ah ae.length ai]] (by rfl) rfl rfl (by(try simp only [List.map_toArray,List.map_cons,List.map_nil]);first | done | rfl) ?_
 (refine(laws_toGame2.calls k _ _ aa _ _ ae _ ?s1 ?s2 ?s3 ?s4 H3'.out).mono ?_;(case s1=>exact Kd.C_below HR0_0.out HB.out);(case s2=>exact HC0_0.out);(case s3=>exact Kd.C_below HR0_1.out HB.out);(case s4=>exact HC0_1.out);rintro e w12 ⟨v54_0,v54_1,rfl,ho0,hb⟩;refine⟨_,rfl,?_⟩;have nu0:=q_ (UG.of ho0 HB.out.size);have n_U24:=q_ (U24.out.mvB (Frm.below hb));have n_U25_0:=q_ (U25_0.out.mvB (Frm.below hb));have n_U25_1:=q_ (U25_1.out.mvB (Frm.below hb));have n_U30:=q_ (U30.out.mvB (Frm.below hb));have n_U33_0:=q_ (U33_0.out.mvB (Frm.below hb));have n_U33_1:=q_ (U33_1.out.mvB (Frm.below hb));have n_Bg1:=q_ (blk_below Bg1.out hb);have n_Bg7:=q_ (blk_below Bg7.out hb);have n_HB:=q_ (below_step HB.out hb);have NN12:Aside0 (w11.heap.size≤w12.heap.size):=⟨hb.size⟩;clear av hf1_0 aw hf1_1 ax hf7_0 ay hf7_1 U24 U25_0 U25_1 U30 U33_0 U33_1 Bg1 Bg7 HB;have U24:=n_U24;have U25_0:=n_U25_0;have U25_1:=n_U25_1;have U30:=n_U30;have U33_0:=n_U33_0;have U33_1:=n_U33_1;have Bg1:=n_Bg1;have Bg7:=n_Bg7;have HB:=n_HB;clear n_U24 n_U25_0 n_U25_1 n_U30 n_U33_0 n_U33_1 n_Bg1 n_Bg7 n_HB hb ho0;have U54:=nu0;clear nu0;obtain⟨ba,bb,bf,bg,e0,e1⟩:=U54.out.slices;subst e0;subst e1)
 refine hK.out _ _ ⟨(blk_cell Bg7.out 0).trans rfl,(blk_cell Bg7.out 1).trans rfl,(blk_cell Bg1.out 0).trans rfl,(blk_cell Bg1.out 1).trans rfl⟩ (fun hHeld=>?_)
 clear hK K
 refine norm_ (a':=?_) ?_ ?_
 rotate_left
 ·show Act.put _ (some 54) _=_
  simp only [Act.put,List.setIfInBounds_toArray,List.set_cons_zero,List.set_cons_succ,i64_w,i32_w]
  rfl
 refine on_ 3 (some 55) (fun K hK=>?_)
 refine goes_ Try.func12 (by kernel_rfl) rfl #[.agg #[.slice aj aa.length ak, .slice aq ae.length au], .agg #[.slice ba aa.length bb, .slice bf ae.length bg]] (by rfl) rfl rfl (by(try simp only [List.map_toArray,List.map_cons,List.map_nil]);first | done | rfl) ?_
 (refine(laws_eqGame.calls k _ _ aa _ _ ae _ _ aa _ _ ae true _ ?s1 ?s2 ?s3 ?s4 ?s5 ?s6 ?s7 ?s8 H8'.out).mono ?_;(case s1=>exact U30.out.C0);(case s2=>exact U30.out.cap0);(case s3=>exact U30.out.C1);(case s4=>exact U30.out.cap1);(case s5=>exact U54.out.C0);(case s6=>exact U54.out.cap0);(case s7=>exact U54.out.C1);(case s8=>exact U54.out.cap1);rintro e w13 ⟨rfl,hb⟩;refine⟨_,rfl,?_⟩;have n_U24:=q_ (U24.out.mvB (Frm.below hb));have n_U25_0:=q_ (U25_0.out.mvB (Frm.below hb));have n_U25_1:=q_ (U25_1.out.mvB (Frm.below hb));have n_U30:=q_ (U30.out.mvB (Frm.below hb));have n_U33_0:=q_ (U33_0.out.mvB (Frm.below hb));have n_U33_1:=q_ (U33_1.out.mvB (Frm.below hb));have n_U54:=q_ (U54.out.mvB (Frm.below hb));have n_Bg1:=q_ (blk_below Bg1.out hb);have n_Bg7:=q_ (blk_below Bg7.out hb);have n_HB:=q_ (below_step HB.out hb);have NN13:Aside0 (w12.heap.size≤w13.heap.size):=⟨hb.size⟩;clear U24 U25_0 U25_1 U30 U33_0 U33_1 U54 Bg1 Bg7 HB;have U24:=n_U24;have U25_0:=n_U25_0;have U25_1:=n_U25_1;have U30:=n_U30;have U33_0:=n_U33_0;have U33_1:=n_U33_1;have U54:=n_U54;have Bg1:=n_Bg1;have Bg7:=n_Bg7;have HB:=n_HB;clear n_U24 n_U25_0 n_U25_1 n_U30 n_U33_0 n_U33_1 n_U54 n_Bg1 n_Bg7 n_HB hb;have ax:w13.cell? ⟨g7,0,none⟩=some (.slice aj aa.length ak):=(blk_cell Bg7.out 0).trans rfl;have hf7_0:=blk_frozen Bg7.out 0;have ay:w13.cell? ⟨g7,1,none⟩=some (.slice aq ae.length au):=(blk_cell Bg7.out 1).trans rfl;have hf7_1:=blk_frozen Bg7.out 1)
 refine hK.out _ _ ⟨(blk_cell Bg7.out 0).trans rfl,(blk_cell Bg7.out 1).trans rfl,(blk_cell Bg1.out 0).trans rfl,(blk_cell Bg1.out 1).trans rfl⟩ (fun hHeld=>?_)
 clear hK K
 refine norm_ (a':=?_) ?_ ?_
 rotate_left
 ·show Act.put _ (some 55) _=_
  simp only [Act.put,List.setIfInBounds_toArray,List.set_cons_zero,List.set_cons_succ,i64_w,i32_w]
  rfl
 refine pu_ 4 56 ?_
 refine done_ (by kernel_rfl) ?_
 go_wp2_with (first | ((with_reducible refine gate_callee (f:=13) rfl ?_);refine gL_ 59 Try.func13 #[.agg #[.slice aj aa.length ak, .slice aq ae.length au], .int .i64 1] ?_;refine(mark_UG aj ak aq au aa ae 1 m1 HB.out U30.out (by decide) H10'.out H11'.out H12'.out H9'.out (by have:=NN1.out;have:=Gg1.out;have:=Kg1.out;have:=NN2.out;have:=NN3.out;have:=NN4.out;have:=NN5.out;have:=NN6.out;have:=Gg7.out;have:=Kg7.out;have:=NN7.out;have:=NN8.out;have:=NN9.out;have:=NN10.out;have:=NN11.out;have:=NN12.out;have:=NN13.out;omega)).mono ?_;rintro e w14 ⟨rfl,hU,hB',hF⟩;refine⟨_,rfl,?_⟩;have nu:=q_ hU;have n_U24:=q_ (U24.out.mv hF (by have:=NN1.out;have:=Gg1.out;have:=Kg1.out;have:=NN2.out;have:=NN3.out;have:=NN4.out;have:=NN5.out;have:=NN6.out;have:=Gg7.out;have:=Kg7.out;have:=NN7.out;have:=NN8.out;have:=NN9.out;have:=NN10.out;have:=NN11.out;have:=NN12.out;have:=NN13.out;omega));have n_U25_0:=q_ (U25_0.out.mv hF (by have:=NN1.out;have:=Gg1.out;have:=Kg1.out;have:=NN2.out;have:=NN3.out;have:=NN4.out;have:=NN5.out;have:=NN6.out;have:=Gg7.out;have:=Kg7.out;have:=NN7.out;have:=NN8.out;have:=NN9.out;have:=NN10.out;have:=NN11.out;have:=NN12.out;have:=NN13.out;omega));have n_U25_1:=q_ (U25_1.out.mv hF (by have:=NN1.out;have:=Gg1.out;have:=Kg1.out;have:=NN2.out;have:=NN3.out;have:=NN4.out;have:=NN5.out;have:=NN6.out;have:=Gg7.out;have:=Kg7.out;have:=NN7.out;have:=NN8.out;have:=NN9.out;have:=NN10.out;have:=NN11.out;have:=NN12.out;have:=NN13.out;omega));have n_U33_0:=q_ (U33_0.out.mv hF (by have:=NN1.out;have:=Gg1.out;have:=Kg1.out;have:=NN2.out;have:=NN3.out;have:=NN4.out;have:=NN5.out;have:=NN6.out;have:=Gg7.out;have:=Kg7.out;have:=NN7.out;have:=NN8.out;have:=NN9.out;have:=NN10.out;have:=NN11.out;have:=NN12.out;have:=NN13.out;omega));have n_U33_1:=q_ (U33_1.out.mv hF (by have:=NN1.out;have:=Gg1.out;have:=Kg1.out;have:=NN2.out;have:=NN3.out;have:=NN4.out;have:=NN5.out;have:=NN6.out;have:=Gg7.out;have:=Kg7.out;have:=NN7.out;have:=NN8.out;have:=NN9.out;have:=NN10.out;have:=NN11.out;have:=NN12.out;have:=NN13.out;omega));have n_U54:=q_ (U54.out.mv hF (by have:=NN1.out;have:=Gg1.out;have:=Kg1.out;have:=NN2.out;have:=NN3.out;have:=NN4.out;have:=NN5.out;have:=NN6.out;have:=Gg7.out;have:=Kg7.out;have:=NN7.out;have:=NN8.out;have:=NN9.out;have:=NN10.out;have:=NN11.out;have:=NN12.out;have:=NN13.out;omega));have n_Bg1:=q_ ((hF.same g1 (blk_lt Bg1.out) (by have:=NN1.out;have:=Gg1.out;have:=Kg1.out;have:=NN2.out;have:=NN3.out;have:=NN4.out;have:=NN5.out;have:=NN6.out;have:=Gg7.out;have:=Kg7.out;have:=NN7.out;have:=NN8.out;have:=NN9.out;have:=NN10.out;have:=NN11.out;have:=NN12.out;have:=NN13.out;omega)).trans Bg1.out);have n_Bg7:=q_ ((hF.same g7 (blk_lt Bg7.out) (by have:=NN1.out;have:=Gg1.out;have:=Kg1.out;have:=NN2.out;have:=NN3.out;have:=NN4.out;have:=NN5.out;have:=NN6.out;have:=Gg7.out;have:=Kg7.out;have:=NN7.out;have:=NN8.out;have:=NN9.out;have:=NN10.out;have:=NN11.out;have:=NN12.out;have:=NN13.out;omega)).trans Bg7.out);have n_HB:=q_ (hB');have NN14:Aside0 (w13.heap.size≤w14.heap.size):=⟨hF.size⟩;clear ax hf7_0 ay hf7_1 U24 U25_0 U25_1 U33_0 U33_1 U54 Bg1 Bg7 HB;have U24:=n_U24;have U25_0:=n_U25_0;have U25_1:=n_U25_1;have U33_0:=n_U33_0;have U33_1:=n_U33_1;have U54:=n_U54;have Bg1:=n_Bg1;have Bg7:=n_Bg7;have HB:=n_HB;clear n_U24 n_U25_0 n_U25_1 n_U33_0 n_U33_1 n_U54 n_Bg1 n_Bg7 n_HB U30;have U30:=nu;clear nu hU hB' hF) | (go_at_call 11;(with_reducible refine(laws_eqInt64S.calls k _ _ s0 _ _ s0 true _ ?s1 ?s2 ?s3 ?s4 H6'.out).mono ?_);(case s1=>exact UR.C U33_0.out);(case s2=>exact UR.cap U33_0.out);(case s3=>exact UR.C U25_0.out);(case s4=>exact UR.cap U25_0.out);rintro e w15 ⟨rfl,hb⟩;have hb:=hb.below;have n_U24:=q_ (U24.out.mvB (Frm.below hb));have n_U25_0:=q_ (U25_0.out.mvB (Frm.below hb));have n_U25_1:=q_ (U25_1.out.mvB (Frm.below hb));have n_U30:=q_ (U30.out.mvB (Frm.below hb));have n_U33_0:=q_ (U33_0.out.mvB (Frm.below hb));have n_U33_1:=q_ (U33_1.out.mvB (Frm.below hb));have n_U54:=q_ (U54.out.mvB (Frm.below hb));have n_Bg1:=q_ (blk_below Bg1.out hb);have n_Bg7:=q_ (blk_below Bg7.out hb);have n_HB:=q_ (below_step HB.out hb);have NN15:Aside0 (w14.heap.size≤w15.heap.size):=⟨hb.size⟩;clear U24 U25_0 U25_1 U30 U33_0 U33_1 U54 Bg1 Bg7 HB;have U24:=n_U24;have U25_0:=n_U25_0;have U25_1:=n_U25_1;have U30:=n_U30;have U33_0:=n_U33_0;have U33_1:=n_U33_1;have U54:=n_U54;have Bg1:=n_Bg1;have Bg7:=n_Bg7;have HB:=n_HB;clear n_U24 n_U25_0 n_U25_1 n_U30 n_U33_0 n_U33_1 n_U54 n_Bg1 n_Bg7 n_HB hb) | (go_at_call 11;(with_reducible refine(laws_eqInt64S.calls k _ _ s1 _ _ s1 true _ ?s1 ?s2 ?s3 ?s4 H7'.out).mono ?_);(case s1=>exact UR.C U33_1.out);(case s2=>exact UR.cap U33_1.out);(case s3=>exact UR.C U25_1.out);(case s4=>exact UR.cap U25_1.out);rintro e w16 ⟨rfl,hb⟩;have hb:=hb.below;have n_U24:=q_ (U24.out.mvB (Frm.below hb));have n_U25_0:=q_ (U25_0.out.mvB (Frm.below hb));have n_U25_1:=q_ (U25_1.out.mvB (Frm.below hb));have n_U30:=q_ (U30.out.mvB (Frm.below hb));have n_U33_0:=q_ (U33_0.out.mvB (Frm.below hb));have n_U33_1:=q_ (U33_1.out.mvB (Frm.below hb));have n_U54:=q_ (U54.out.mvB (Frm.below hb));have n_Bg1:=q_ (blk_below Bg1.out hb);have n_Bg7:=q_ (blk_below Bg7.out hb);have n_HB:=q_ (below_step HB.out hb);have NN16:Aside0 (w15.heap.size≤w16.heap.size):=⟨hb.size⟩;clear U24 U25_0 U25_1 U30 U33_0 U33_1 U54 Bg1 Bg7 HB;have U24:=n_U24;have U25_0:=n_U25_0;have U25_1:=n_U25_1;have U30:=n_U30;have U33_0:=n_U33_0;have U33_1:=n_U33_1;have U54:=n_U54;have Bg1:=n_Bg1;have Bg7:=n_Bg7;have HB:=n_HB;clear n_U24 n_U25_0 n_U25_1 n_U30 n_U33_0 n_U33_1 n_U54 n_Bg1 n_Bg7 n_HB hb) | ((with_reducible refine gate_callee (f:=14) rfl ?_);refine gL_ 81 Try.func14 #[.slice az s0.length aA, .int .i64 1] ?_;refine(mark_UR az aA s0 _ 1 m2 HB.out U33_0.out (by decide) H15'.out H14'.out).mono ?_;rintro e w17 ⟨rfl,hU,hB',hF⟩;refine⟨_,rfl,?_⟩;have nu:=q_ hU;have n_U24:=q_ (U24.out.mv hF (by have:=NN1.out;have:=Gg1.out;have:=Kg1.out;have:=NN2.out;have:=NN3.out;have:=NN4.out;have:=NN5.out;have:=NN6.out;have:=Gg7.out;have:=Kg7.out;have:=NN7.out;have:=NN8.out;have:=NN9.out;have:=NN10.out;have:=NN11.out;have:=NN12.out;have:=NN13.out;have:=NN14.out;have:=NN15.out;have:=NN16.out;omega));have n_U25_0:=q_ (U25_0.out.mv hF (by have:=NN1.out;have:=Gg1.out;have:=Kg1.out;have:=NN2.out;have:=NN3.out;have:=NN4.out;have:=NN5.out;have:=NN6.out;have:=Gg7.out;have:=Kg7.out;have:=NN7.out;have:=NN8.out;have:=NN9.out;have:=NN10.out;have:=NN11.out;have:=NN12.out;have:=NN13.out;have:=NN14.out;have:=NN15.out;have:=NN16.out;omega));have n_U25_1:=q_ (U25_1.out.mv hF (by have:=NN1.out;have:=Gg1.out;have:=Kg1.out;have:=NN2.out;have:=NN3.out;have:=NN4.out;have:=NN5.out;have:=NN6.out;have:=Gg7.out;have:=Kg7.out;have:=NN7.out;have:=NN8.out;have:=NN9.out;have:=NN10.out;have:=NN11.out;have:=NN12.out;have:=NN13.out;have:=NN14.out;have:=NN15.out;have:=NN16.out;omega));have n_U30:=q_ (U30.out.mv hF (by have:=NN1.out;have:=Gg1.out;have:=Kg1.out;have:=NN2.out;have:=NN3.out;have:=NN4.out;have:=NN5.out;have:=NN6.out;have:=Gg7.out;have:=Kg7.out;have:=NN7.out;have:=NN8.out;have:=NN9.out;have:=NN10.out;have:=NN11.out;have:=NN12.out;have:=NN13.out;have:=NN14.out;have:=NN15.out;have:=NN16.out;omega));have n_U33_1:=q_ (U33_1.out.mv hF (by have:=NN1.out;have:=Gg1.out;have:=Kg1.out;have:=NN2.out;have:=NN3.out;have:=NN4.out;have:=NN5.out;have:=NN6.out;have:=Gg7.out;have:=Kg7.out;have:=NN7.out;have:=NN8.out;have:=NN9.out;have:=NN10.out;have:=NN11.out;have:=NN12.out;have:=NN13.out;have:=NN14.out;have:=NN15.out;have:=NN16.out;omega));have n_U54:=q_ (U54.out.mv hF (by have:=NN1.out;have:=Gg1.out;have:=Kg1.out;have:=NN2.out;have:=NN3.out;have:=NN4.out;have:=NN5.out;have:=NN6.out;have:=Gg7.out;have:=Kg7.out;have:=NN7.out;have:=NN8.out;have:=NN9.out;have:=NN10.out;have:=NN11.out;have:=NN12.out;have:=NN13.out;have:=NN14.out;have:=NN15.out;have:=NN16.out;omega));have n_Bg1:=q_ ((hF.same g1 (blk_lt Bg1.out) (by have:=NN1.out;have:=Gg1.out;have:=Kg1.out;have:=NN2.out;have:=NN3.out;have:=NN4.out;have:=NN5.out;have:=NN6.out;have:=Gg7.out;have:=Kg7.out;have:=NN7.out;have:=NN8.out;have:=NN9.out;have:=NN10.out;have:=NN11.out;have:=NN12.out;have:=NN13.out;have:=NN14.out;have:=NN15.out;have:=NN16.out;omega)).trans Bg1.out);have n_Bg7:=q_ ((hF.same g7 (blk_lt Bg7.out) (by have:=NN1.out;have:=Gg1.out;have:=Kg1.out;have:=NN2.out;have:=NN3.out;have:=NN4.out;have:=NN5.out;have:=NN6.out;have:=Gg7.out;have:=Kg7.out;have:=NN7.out;have:=NN8.out;have:=NN9.out;have:=NN10.out;have:=NN11.out;have:=NN12.out;have:=NN13.out;have:=NN14.out;have:=NN15.out;have:=NN16.out;omega)).trans Bg7.out);have n_HB:=q_ (hB');have NN17:Aside0 (w16.heap.size≤w17.heap.size):=⟨hF.size⟩;clear U24 U25_0 U25_1 U30 U33_1 U54 Bg1 Bg7 HB;have U24:=n_U24;have U25_0:=n_U25_0;have U25_1:=n_U25_1;have U30:=n_U30;have U33_1:=n_U33_1;have U54:=n_U54;have Bg1:=n_Bg1;have Bg7:=n_Bg7;have HB:=n_HB;clear n_U24 n_U25_0 n_U25_1 n_U30 n_U33_1 n_U54 n_Bg1 n_Bg7 n_HB U33_0;have U33_0:=nu;clear nu hU hB' hF) | ((with_reducible refine gate_callee (f:=14) rfl ?_);refine gL_ 84 Try.func14 #[.slice aC s1.length aD, .int .i64 m2] ?_;refine(mark_UR aC aD s1 _ m2 m3 HB.out U33_1.out H17'.out H19'.out H18'.out).mono ?_;rintro e w18 ⟨rfl,hU,hB',hF⟩;refine⟨_,rfl,?_⟩;have nu:=q_ hU;have n_U24:=q_ (U24.out.mv hF (by have:=NN1.out;have:=Gg1.out;have:=Kg1.out;have:=NN2.out;have:=NN3.out;have:=NN4.out;have:=NN5.out;have:=NN6.out;have:=Gg7.out;have:=Kg7.out;have:=NN7.out;have:=NN8.out;have:=NN9.out;have:=NN10.out;have:=NN11.out;have:=NN12.out;have:=NN13.out;have:=NN14.out;have:=NN15.out;have:=NN16.out;have:=NN17.out;omega));have n_U25_0:=q_ (U25_0.out.mv hF (by have:=NN1.out;have:=Gg1.out;have:=Kg1.out;have:=NN2.out;have:=NN3.out;have:=NN4.out;have:=NN5.out;have:=NN6.out;have:=Gg7.out;have:=Kg7.out;have:=NN7.out;have:=NN8.out;have:=NN9.out;have:=NN10.out;have:=NN11.out;have:=NN12.out;have:=NN13.out;have:=NN14.out;have:=NN15.out;have:=NN16.out;have:=NN17.out;omega));have n_U25_1:=q_ (U25_1.out.mv hF (by have:=NN1.out;have:=Gg1.out;have:=Kg1.out;have:=NN2.out;have:=NN3.out;have:=NN4.out;have:=NN5.out;have:=NN6.out;have:=Gg7.out;have:=Kg7.out;have:=NN7.out;have:=NN8.out;have:=NN9.out;have:=NN10.out;have:=NN11.out;have:=NN12.out;have:=NN13.out;have:=NN14.out;have:=NN15.out;have:=NN16.out;have:=NN17.out;omega));have n_U30:=q_ (U30.out.mv hF (by have:=NN1.out;have:=Gg1.out;have:=Kg1.out;have:=NN2.out;have:=NN3.out;have:=NN4.out;have:=NN5.out;have:=NN6.out;have:=Gg7.out;have:=Kg7.out;have:=NN7.out;have:=NN8.out;have:=NN9.out;have:=NN10.out;have:=NN11.out;have:=NN12.out;have:=NN13.out;have:=NN14.out;have:=NN15.out;have:=NN16.out;have:=NN17.out;omega));have n_U33_0:=q_ (U33_0.out.mv hF (by have:=NN1.out;have:=Gg1.out;have:=Kg1.out;have:=NN2.out;have:=NN3.out;have:=NN4.out;have:=NN5.out;have:=NN6.out;have:=Gg7.out;have:=Kg7.out;have:=NN7.out;have:=NN8.out;have:=NN9.out;have:=NN10.out;have:=NN11.out;have:=NN12.out;have:=NN13.out;have:=NN14.out;have:=NN15.out;have:=NN16.out;have:=NN17.out;omega));have n_U54:=q_ (U54.out.mv hF (by have:=NN1.out;have:=Gg1.out;have:=Kg1.out;have:=NN2.out;have:=NN3.out;have:=NN4.out;have:=NN5.out;have:=NN6.out;have:=Gg7.out;have:=Kg7.out;have:=NN7.out;have:=NN8.out;have:=NN9.out;have:=NN10.out;have:=NN11.out;have:=NN12.out;have:=NN13.out;have:=NN14.out;have:=NN15.out;have:=NN16.out;have:=NN17.out;omega));have n_Bg1:=q_ ((hF.same g1 (blk_lt Bg1.out) (by have:=NN1.out;have:=Gg1.out;have:=Kg1.out;have:=NN2.out;have:=NN3.out;have:=NN4.out;have:=NN5.out;have:=NN6.out;have:=Gg7.out;have:=Kg7.out;have:=NN7.out;have:=NN8.out;have:=NN9.out;have:=NN10.out;have:=NN11.out;have:=NN12.out;have:=NN13.out;have:=NN14.out;have:=NN15.out;have:=NN16.out;have:=NN17.out;omega)).trans Bg1.out);have n_Bg7:=q_ ((hF.same g7 (blk_lt Bg7.out) (by have:=NN1.out;have:=Gg1.out;have:=Kg1.out;have:=NN2.out;have:=NN3.out;have:=NN4.out;have:=NN5.out;have:=NN6.out;have:=Gg7.out;have:=Kg7.out;have:=NN7.out;have:=NN8.out;have:=NN9.out;have:=NN10.out;have:=NN11.out;have:=NN12.out;have:=NN13.out;have:=NN14.out;have:=NN15.out;have:=NN16.out;have:=NN17.out;omega)).trans Bg7.out);have n_HB:=q_ (hB');have NN18:Aside0 (w17.heap.size≤w18.heap.size):=⟨hF.size⟩;clear U24 U25_0 U25_1 U30 U33_0 U54 Bg1 Bg7 HB;have U24:=n_U24;have U25_0:=n_U25_0;have U25_1:=n_U25_1;have U30:=n_U30;have U33_0:=n_U33_0;have U54:=n_U54;have Bg1:=n_Bg1;have Bg7:=n_Bg7;have HB:=n_HB;clear n_U24 n_U25_0 n_U25_1 n_U30 n_U33_0 n_U54 n_Bg1 n_Bg7 n_HB U33_1;have U33_1:=nu;clear nu hU hB' hF) | ((with_reducible refine gate_callee (f:=15) rfl ?_);refine gL_ 87 Try.func15 #[.slice az s0.length aA, .int .i64 1] ?_;have hcall:=laws_heldInt64S.calls k _ _ ((count 1 s0.length)) 1 m2 _ (UR.C U33_0.out) (UR.cap U33_0.out) H21'.out;simp only [marks_length,count_length] at hcall;refine hcall.mono ?_;clear hcall;rintro e w19 ⟨rfl,hb⟩;refine⟨_,rfl,?_⟩;have hb:=hb.below;have n_U24:=q_ (U24.out.mvB (Frm.below hb));have n_U25_0:=q_ (U25_0.out.mvB (Frm.below hb));have n_U25_1:=q_ (U25_1.out.mvB (Frm.below hb));have n_U30:=q_ (U30.out.mvB (Frm.below hb));have n_U33_0:=q_ (U33_0.out.mvB (Frm.below hb));have n_U33_1:=q_ (U33_1.out.mvB (Frm.below hb));have n_U54:=q_ (U54.out.mvB (Frm.below hb));have n_Bg1:=q_ (blk_below Bg1.out hb);have n_Bg7:=q_ (blk_below Bg7.out hb);have n_HB:=q_ (below_step HB.out hb);have NN19:Aside0 (w18.heap.size≤w19.heap.size):=⟨hb.size⟩;clear U24 U25_0 U25_1 U30 U33_0 U33_1 U54 Bg1 Bg7 HB;have U24:=n_U24;have U25_0:=n_U25_0;have U25_1:=n_U25_1;have U30:=n_U30;have U33_0:=n_U33_0;have U33_1:=n_U33_1;have U54:=n_U54;have Bg1:=n_Bg1;have Bg7:=n_Bg7;have HB:=n_HB;clear n_U24 n_U25_0 n_U25_1 n_U30 n_U33_0 n_U33_1 n_U54 n_Bg1 n_Bg7 n_HB hb) | ((with_reducible refine gate_callee (f:=15) rfl ?_);refine gL_ 92 Try.func15 #[.slice aC s1.length aD, .int .i64 m2] ?_;have hcall:=laws_heldInt64S.calls k _ _ ((count m2 s1.length)) m2 m3 _ (UR.C U33_1.out) (UR.cap U33_1.out) H22'.out;simp only [marks_length,count_length] at hcall;refine hcall.mono ?_;clear hcall;rintro e w20 ⟨rfl,hb⟩;refine⟨_,rfl,?_⟩;have hb:=hb.below;have n_U24:=q_ (U24.out.mvB (Frm.below hb));have n_U25_0:=q_ (U25_0.out.mvB (Frm.below hb));have n_U25_1:=q_ (U25_1.out.mvB (Frm.below hb));have n_U30:=q_ (U30.out.mvB (Frm.below hb));have n_U33_0:=q_ (U33_0.out.mvB (Frm.below hb));have n_U33_1:=q_ (U33_1.out.mvB (Frm.below hb));have n_U54:=q_ (U54.out.mvB (Frm.below hb));have n_Bg1:=q_ (blk_below Bg1.out hb);have n_Bg7:=q_ (blk_below Bg7.out hb);have n_HB:=q_ (below_step HB.out hb);have NN20:Aside0 (w19.heap.size≤w20.heap.size):=⟨hb.size⟩;clear U24 U25_0 U25_1 U30 U33_0 U33_1 U54 Bg1 Bg7 HB;have U24:=n_U24;have U25_0:=n_U25_0;have U25_1:=n_U25_1;have U30:=n_U30;have U33_0:=n_U33_0;have U33_1:=n_U33_1;have U54:=n_U54;have Bg1:=n_Bg1;have Bg7:=n_Bg7;have HB:=n_HB;clear n_U24 n_U25_0 n_U25_1 n_U30 n_U33_0 n_U33_1 n_U54 n_Bg1 n_Bg7 n_HB hb;have av:w20.cell? ⟨g1,0,none⟩=some (.slice af aa.length ag):=(blk_cell Bg1.out 0).trans rfl;have hf1_0:=blk_frozen Bg1.out 0;have aw:w20.cell? ⟨g1,1,none⟩=some (.slice ah ae.length ai):=(blk_cell Bg1.out 1).trans rfl;have hf1_1:=blk_frozen Bg1.out 1) | ((with_reducible refine gate_callee (f:=9) rfl ?_);refine gL_ 100 Try.func9 #[.agg #[.slice af aa.length ag, .slice ah ae.length ai]] ?_;refine(laws_toGame2.calls k _ _ aa _ _ ae _ ?s1 ?s2 ?s3 ?s4 H3'.out).mono ?_;(case s1=>exact Kd.C_below HR0_0.out HB.out);(case s2=>exact HC0_0.out);(case s3=>exact Kd.C_below HR0_1.out HB.out);(case s4=>exact HC0_1.out);rintro e w21 ⟨v100_0,v100_1,rfl,ho0,hb⟩;refine⟨_,rfl,?_⟩;have nu0:=q_ (UG.of ho0 HB.out.size);have n_U24:=q_ (U24.out.mvB (Frm.below hb));have n_U25_0:=q_ (U25_0.out.mvB (Frm.below hb));have n_U25_1:=q_ (U25_1.out.mvB (Frm.below hb));have n_U30:=q_ (U30.out.mvB (Frm.below hb));have n_U33_0:=q_ (U33_0.out.mvB (Frm.below hb));have n_U33_1:=q_ (U33_1.out.mvB (Frm.below hb));have n_U54:=q_ (U54.out.mvB (Frm.below hb));have n_Bg1:=q_ (blk_below Bg1.out hb);have n_Bg7:=q_ (blk_below Bg7.out hb);have n_HB:=q_ (below_step HB.out hb);have NN21:Aside0 (w20.heap.size≤w21.heap.size):=⟨hb.size⟩;clear av hf1_0 aw hf1_1 U24 U25_0 U25_1 U30 U33_0 U33_1 U54 Bg1 Bg7 HB;have U24:=n_U24;have U25_0:=n_U25_0;have U25_1:=n_U25_1;have U30:=n_U30;have U33_0:=n_U33_0;have U33_1:=n_U33_1;have U54:=n_U54;have Bg1:=n_Bg1;have Bg7:=n_Bg7;have HB:=n_HB;clear n_U24 n_U25_0 n_U25_1 n_U30 n_U33_0 n_U33_1 n_U54 n_Bg1 n_Bg7 n_HB hb ho0;have U100:=nu0;clear nu0;obtain⟨aQ,aR,aT,aU,e0,e1⟩:=U100.out.slices;subst e0;subst e1) | ((with_reducible refine gate_callee (f:=10) rfl ?_);refine gL_ 101 Try.func10 #[.agg #[.slice aQ aa.length aR, .slice aT ae.length aU]] ?_;refine(impl_RemainingChoices.calls2 _ _ aa _ _ ae s0 s1 s2 _ ?s1 ?s2 ?s3 ?s4 H5'.out).mono ?_;(case s1=>exact U100.out.C0);(case s2=>exact U100.out.cap0);(case s3=>exact U100.out.C1);(case s4=>exact U100.out.cap1);rintro e w22 ⟨v101_0,v101_1,mm101,rfl,ho0,ho1,hma,hmb,hb⟩;refine⟨_,rfl,?_⟩;have nu0:=q_ (UR.split (lo:=w21.heap.size) (hi:=mm101) ho0 HB.out.size (fun k h1 h2 h3=>⟨h2,h1⟩));have nu1:=q_ (UR.split (lo:=mm101) (hi:=w22.heap.size) ho1 HB.out.size (fun k h1 h2 h3=>⟨h1,h3⟩));have n_U24:=q_ (U24.out.mvB (Frm.below hb));have n_U25_0:=q_ (U25_0.out.mvB (Frm.below hb));have n_U25_1:=q_ (U25_1.out.mvB (Frm.below hb));have n_U30:=q_ (U30.out.mvB (Frm.below hb));have n_U33_0:=q_ (U33_0.out.mvB (Frm.below hb));have n_U33_1:=q_ (U33_1.out.mvB (Frm.below hb));have n_U54:=q_ (U54.out.mvB (Frm.below hb));have n_U100:=q_ (U100.out.mvB (Frm.below hb));have n_Bg1:=q_ (blk_below Bg1.out hb);have n_Bg7:=q_ (blk_below Bg7.out hb);have n_HB:=q_ (below_step HB.out hb);have NN22:Aside0 (w21.heap.size≤w22.heap.size∧w21.heap.size≤mm101∧mm101≤w22.heap.size):=⟨hb.size,hma,hmb⟩;clear U24 U25_0 U25_1 U30 U33_0 U33_1 U54 U100 Bg1 Bg7 HB;have U24:=n_U24;have U25_0:=n_U25_0;have U25_1:=n_U25_1;have U30:=n_U30;have U33_0:=n_U33_0;have U33_1:=n_U33_1;have U54:=n_U54;have U100:=n_U100;have Bg1:=n_Bg1;have Bg7:=n_Bg7;have HB:=n_HB;clear n_U24 n_U25_0 n_U25_1 n_U30 n_U33_0 n_U33_1 n_U54 n_U100 n_Bg1 n_Bg7 n_HB hb ho0 ho1 hma hmb;have U101_0:=nu0;clear nu0;obtain⟨aV,aW,e0⟩:=Kd.R_slice U101_0.out;subst e0;have U101_1:=nu1;clear nu1;obtain⟨bh,bk,e0⟩:=Kd.R_slice U101_1.out;subst e0) | ((with_reducible refine gate_callee (f:=11) rfl ?_);refine gL_ 107 Try.func11 #[.slice aV s0.length aW, .slice aK s0.length aM] ?_;refine(laws_eqInt64S.calls k _ _ s0 _ _ s0 true _ ?s1 ?s2 ?s3 ?s4 H6'.out).mono ?_;(case s1=>exact UR.C U101_0.out);(case s2=>exact UR.cap U101_0.out);(case s3=>exact UR.C U25_0.out);(case s4=>exact UR.cap U25_0.out);rintro e w23 ⟨rfl,hb⟩;refine⟨_,rfl,?_⟩;have hb:=hb.below;have n_U24:=q_ (U24.out.mvB (Frm.below hb));have n_U25_0:=q_ (U25_0.out.mvB (Frm.below hb));have n_U25_1:=q_ (U25_1.out.mvB (Frm.below hb));have n_U30:=q_ (U30.out.mvB (Frm.below hb));have n_U33_0:=q_ (U33_0.out.mvB (Frm.below hb));have n_U33_1:=q_ (U33_1.out.mvB (Frm.below hb));have n_U54:=q_ (U54.out.mvB (Frm.below hb));have n_U100:=q_ (U100.out.mvB (Frm.below hb));have n_U101_0:=q_ (U101_0.out.mvB (Frm.below hb));have n_U101_1:=q_ (U101_1.out.mvB (Frm.below hb));have n_Bg1:=q_ (blk_below Bg1.out hb);have n_Bg7:=q_ (blk_below Bg7.out hb);have n_HB:=q_ (below_step HB.out hb);have NN23:Aside0 (w22.heap.size≤w23.heap.size):=⟨hb.size⟩;clear U24 U25_0 U25_1 U30 U33_0 U33_1 U54 U100 U101_0 U101_1 Bg1 Bg7 HB;have U24:=n_U24;have U25_0:=n_U25_0;have U25_1:=n_U25_1;have U30:=n_U30;have U33_0:=n_U33_0;have U33_1:=n_U33_1;have U54:=n_U54;have U100:=n_U100;have U101_0:=n_U101_0;have U101_1:=n_U101_1;have Bg1:=n_Bg1;have Bg7:=n_Bg7;have HB:=n_HB;clear n_U24 n_U25_0 n_U25_1 n_U30 n_U33_0 n_U33_1 n_U54 n_U100 n_U101_0 n_U101_1 n_Bg1 n_Bg7 n_HB hb) | (go_at_call 11;(with_reducible refine(laws_eqInt64S.calls k _ _ s1 _ _ s1 true _ ?s1 ?s2 ?s3 ?s4 H7'.out).mono ?_);(case s1=>exact UR.C U101_1.out);(case s2=>exact UR.cap U101_1.out);(case s3=>exact UR.C U25_1.out);(case s4=>exact UR.cap U25_1.out);rintro e w24 ⟨rfl,hb⟩;have hb:=hb.below;have n_U24:=q_ (U24.out.mvB (Frm.below hb));have n_U25_0:=q_ (U25_0.out.mvB (Frm.below hb));have n_U25_1:=q_ (U25_1.out.mvB (Frm.below hb));have n_U30:=q_ (U30.out.mvB (Frm.below hb));have n_U33_0:=q_ (U33_0.out.mvB (Frm.below hb));have n_U33_1:=q_ (U33_1.out.mvB (Frm.below hb));have n_U54:=q_ (U54.out.mvB (Frm.below hb));have n_U100:=q_ (U100.out.mvB (Frm.below hb));have n_U101_0:=q_ (U101_0.out.mvB (Frm.below hb));have n_U101_1:=q_ (U101_1.out.mvB (Frm.below hb));have n_Bg1:=q_ (blk_below Bg1.out hb);have n_Bg7:=q_ (blk_below Bg7.out hb);have n_HB:=q_ (below_step HB.out hb);have NN24:Aside0 (w23.heap.size≤w24.heap.size):=⟨hb.size⟩;clear U24 U25_0 U25_1 U30 U33_0 U33_1 U54 U100 U101_0 U101_1 Bg1 Bg7 HB;have U24:=n_U24;have U25_0:=n_U25_0;have U25_1:=n_U25_1;have U30:=n_U30;have U33_0:=n_U33_0;have U33_1:=n_U33_1;have U54:=n_U54;have U100:=n_U100;have U101_0:=n_U101_0;have U101_1:=n_U101_1;have Bg1:=n_Bg1;have Bg7:=n_Bg7;have HB:=n_HB;clear n_U24 n_U25_0 n_U25_1 n_U30 n_U33_0 n_U33_1 n_U54 n_U100 n_U101_0 n_U101_1 n_Bg1 n_Bg7 n_HB hb) | ((with_reducible refine gate_callee (f:=15) rfl ?_);refine gL_ 122 Try.func15 #[.slice az s0.length aA, .int .i64 1] ?_;have hcall:=laws_heldInt64S.calls k _ _ ((count 1 s0.length)) 1 m2 _ (UR.C U33_0.out) (UR.cap U33_0.out) H21'.out;simp only [marks_length,count_length] at hcall;refine hcall.mono ?_;clear hcall;rintro e w25 ⟨rfl,hb⟩;refine⟨_,rfl,?_⟩;have hb:=hb.below;have n_U24:=q_ (U24.out.mvB (Frm.below hb));have n_U25_0:=q_ (U25_0.out.mvB (Frm.below hb));have n_U25_1:=q_ (U25_1.out.mvB (Frm.below hb));have n_U30:=q_ (U30.out.mvB (Frm.below hb));have n_U33_0:=q_ (U33_0.out.mvB (Frm.below hb));have n_U33_1:=q_ (U33_1.out.mvB (Frm.below hb));have n_U54:=q_ (U54.out.mvB (Frm.below hb));have n_U100:=q_ (U100.out.mvB (Frm.below hb));have n_U101_0:=q_ (U101_0.out.mvB (Frm.below hb));have n_U101_1:=q_ (U101_1.out.mvB (Frm.below hb));have n_Bg1:=q_ (blk_below Bg1.out hb);have n_Bg7:=q_ (blk_below Bg7.out hb);have n_HB:=q_ (below_step HB.out hb);have NN25:Aside0 (w24.heap.size≤w25.heap.size):=⟨hb.size⟩;clear U24 U25_0 U25_1 U30 U33_0 U33_1 U54 U100 U101_0 U101_1 Bg1 Bg7 HB;have U24:=n_U24;have U25_0:=n_U25_0;have U25_1:=n_U25_1;have U30:=n_U30;have U33_0:=n_U33_0;have U33_1:=n_U33_1;have U54:=n_U54;have U100:=n_U100;have U101_0:=n_U101_0;have U101_1:=n_U101_1;have Bg1:=n_Bg1;have Bg7:=n_Bg7;have HB:=n_HB;clear n_U24 n_U25_0 n_U25_1 n_U30 n_U33_0 n_U33_1 n_U54 n_U100 n_U101_0 n_U101_1 n_Bg1 n_Bg7 n_HB hb) | ((with_reducible refine gate_callee (f:=15) rfl ?_);refine gL_ 127 Try.func15 #[.slice aC s1.length aD, .int .i64 m2] ?_;have hcall:=laws_heldInt64S.calls k _ _ ((count m2 s1.length)) m2 m3 _ (UR.C U33_1.out) (UR.cap U33_1.out) H22'.out;simp only [marks_length,count_length] at hcall;refine hcall.mono ?_;clear hcall;rintro e w26 ⟨rfl,hb⟩;refine⟨_,rfl,?_⟩;have hb:=hb.below;have n_U24:=q_ (U24.out.mvB (Frm.below hb));have n_U25_0:=q_ (U25_0.out.mvB (Frm.below hb));have n_U25_1:=q_ (U25_1.out.mvB (Frm.below hb));have n_U30:=q_ (U30.out.mvB (Frm.below hb));have n_U33_0:=q_ (U33_0.out.mvB (Frm.below hb));have n_U33_1:=q_ (U33_1.out.mvB (Frm.below hb));have n_U54:=q_ (U54.out.mvB (Frm.below hb));have n_U100:=q_ (U100.out.mvB (Frm.below hb));have n_U101_0:=q_ (U101_0.out.mvB (Frm.below hb));have n_U101_1:=q_ (U101_1.out.mvB (Frm.below hb));have n_Bg1:=q_ (blk_below Bg1.out hb);have n_Bg7:=q_ (blk_below Bg7.out hb);have n_HB:=q_ (below_step HB.out hb);have NN26:Aside0 (w25.heap.size≤w26.heap.size):=⟨hb.size⟩;clear U24 U25_0 U25_1 U30 U33_0 U33_1 U54 U100 U101_0 U101_1 Bg1 Bg7 HB;have U24:=n_U24;have U25_0:=n_U25_0;have U25_1:=n_U25_1;have U30:=n_U30;have U33_0:=n_U33_0;have U33_1:=n_U33_1;have U54:=n_U54;have U100:=n_U100;have U101_0:=n_U101_0;have U101_1:=n_U101_1;have Bg1:=n_Bg1;have Bg7:=n_Bg7;have HB:=n_HB;clear n_U24 n_U25_0 n_U25_1 n_U30 n_U33_0 n_U33_1 n_U54 n_U100 n_U101_0 n_U101_1 n_Bg1 n_Bg7 n_HB hb))
 go_ret
 exact⟨rfl,HB.out⟩
theorem laws_FnExactRemainingChoices.small0 (k:Nat) (af:Option Addr) (ag:Nat) (aa:List (List Int)) (ah:Option Addr) (ai:Nat) (ae:List (List Int)) (ax:Int) (w:World) (aj:Kd.C (Kd.slice 2 (Kd.int .i64)) w af aa.length aa) (ak:aa.length≤ag) (aq:Kd.C (Kd.slice 2 (Kd.int .i64)) w ah ae.length ae) (au:ae.length≤ai) (h1:laws_szGame.f k aa ae 1048576=some ax) (h2:ax < 0):
  Calls Try.prog 4 #[.agg #[.slice af aa.length ag, .slice ah ae.length ai]] w fun e w'=>e= .returned (.bool true)∧Below w.heap.size w w':=by
 have HR0_0:=q_ aj
 have HC0_0:=q_ ak
 clear aj ak
 have HR0_1:=q_ aq
 have HC0_1:=q_ au
 clear aq au
 have HB:=q_ (Below.refl w.heap.size w)
 have H1':=q_ h1
 clear h1
 go_enter Try.func4,Try.ntmps4
 go_wp2_with (first | ((with_reducible refine gate_dst (N:=1) rfl ?_);refine box_event ?hg (N:=1) ?hd (cs:= #[.slice af aa.length ag, .slice ah ae.length ai]) (t:=27) ?hr ?_;(case hd=>rfl);(case hg=>rfl);(case hr=>first | (go_simp;done) | (go_simp;rfl));intro g1 hg w1 hbox hb;have Gg1:Aside0 (g1=w.heap.size):=⟨hg⟩;have Kg1:=q_ (blk_lt hbox);clear hg;have n_HB:=q_ (below_step HB.out hb);have NN1:Aside0 (w.heap.size≤w1.heap.size):=⟨hb.size⟩;clear HB;have HB:=n_HB;clear n_HB;have Bg1:=q_ hbox;clear hb hbox;have av:w1.cell? ⟨g1,0,none⟩=some (.slice af aa.length ag):=(blk_cell Bg1.out 0).trans rfl;have hf1_0:=blk_frozen Bg1.out 0;have aw:w1.cell? ⟨g1,1,none⟩=some (.slice ah ae.length ai):=(blk_cell Bg1.out 1).trans rfl;have hf1_1:=blk_frozen Bg1.out 1) | ((with_reducible refine gate_callee (f:=7) rfl ?_);refine gL_ 19 Try.func7 #[.agg #[.slice af aa.length ag, .slice ah ae.length ai], .int .i64 1048576] ?_;refine(laws_szGame.calls k _ _ aa _ _ ae 1048576 ax _ ?s1 ?s2 ?s3 ?s4 H1'.out).mono ?_;(case s1=>exact Kd.C_below HR0_0.out HB.out);(case s2=>exact HC0_0.out);(case s3=>exact Kd.C_below HR0_1.out HB.out);(case s4=>exact HC0_1.out);rintro e w2 ⟨rfl,hb⟩;refine⟨_,rfl,?_⟩;have n_Bg1:=q_ (blk_below Bg1.out hb);have n_HB:=q_ (below_step HB.out hb);have NN2:Aside0 (w1.heap.size≤w2.heap.size):=⟨hb.size⟩;clear av hf1_0 aw hf1_1 Bg1 HB;have Bg1:=n_Bg1;have HB:=n_HB;clear n_Bg1 n_HB hb;have av:w2.cell? ⟨g1,0,none⟩=some (.slice af aa.length ag):=(blk_cell Bg1.out 0).trans rfl;have hf1_0:=blk_frozen Bg1.out 0;have aw:w2.cell? ⟨g1,1,none⟩=some (.slice ah ae.length ai):=(blk_cell Bg1.out 1).trans rfl;have hf1_1:=blk_frozen Bg1.out 1))
 go_ret
 exact⟨rfl,HB.out⟩
def laws_FnExactRemainingChoices.ok_walk (k:Nat) (aa:List (List Int)) (ae:List (List Int)):Prop:= ∃(af:Int) (s0:List Int) (s1:List Int) (s2:Int) (m1:Int) (m2:Int) (m3:Int),(laws_szGame.f k aa ae 1048576=some af)∧(¬ af < 0)∧(laws_toInt64SS.f k aa=some aa∧laws_toInt64SS.f k ae=some ae)∧(spec_RemainingChoices.f k aa ae=some (s0,s1,s2))∧(impl_RemainingChoices.f aa ae=some (s0,s1,s2))∧(laws_eqInt64S.f k s0 s0=some true)∧(laws_eqInt64S.f k s1 s1=some true)∧(laws_eqGame.f k aa ae aa ae=some true)∧(m1=1+(lens aa:Int)+(lens ae:Int))∧(1+(lens aa:Int)+(lens ae:Int)≤1099511627776)∧(aa.length≤1099511627776)∧(ae.length≤1099511627776)∧(¬ m1 < 0)∧(m2=1+(s0.length:Int))∧(1+(s0.length:Int)≤1099511627776)∧(¬ m2 < 0)∧(0≤m2)∧(m3=m2+(s1.length:Int))∧(m2+(s1.length:Int)≤1099511627776)∧(¬ m3 < 0)∧(laws_heldInt64S.f k ((count 1 s0.length)) 1=some m2)∧(laws_heldInt64S.f k ((count m2 s1.length)) m2=some m3)
def laws_FnExactRemainingChoices.ok_small0 (k:Nat) (ae:List (List Int)) (af:List (List Int)):Prop:= ∃(aa:Int),(laws_szGame.f k ae af 1048576=some aa)∧(aa < 0)
open Classical in
noncomputable def laws_FnExactRemainingChoices.f (k:Nat) (l0_0:List (List Int)) (l0_1:List (List Int)):Option Bool:=if laws_FnExactRemainingChoices.ok_walk k l0_0 l0_1∨laws_FnExactRemainingChoices.ok_small0 k l0_0 l0_1 then some true else none
theorem laws_FnExactRemainingChoices.calls (k:Nat) (af:Option Addr) (ag:Nat) (aa:List (List Int)) (ah:Option Addr) (ai:Nat) (ae:List (List Int)) (r:Bool) (w:World) (aj:Kd.C (Kd.slice 2 (Kd.int .i64)) w af aa.length aa) (ak:aa.length≤ag) (aq:Kd.C (Kd.slice 2 (Kd.int .i64)) w ah ae.length ae) (au:ae.length≤ai) (h:laws_FnExactRemainingChoices.f k aa ae=some r):
  Calls Try.prog 4 #[.agg #[.slice af aa.length ag, .slice ah ae.length ai]] w fun e w'=>e= .returned (.bool r)∧Below w.heap.size w w':=by
 unfold laws_FnExactRemainingChoices.f at h
 split at h
 case isFalse=>cases h
 rename_i hok
 cases h
 rcases hok with ⟨av,s0,s1,s2,m1,m2,m3,h1,h2,h3,h4,h5,h6,h7,h8,h9,h10,h11,h12,h13,h14,h15,h16,h17,h18,h19,h20,h21,h22⟩ | ⟨av,h1,h2⟩
 ·exact laws_FnExactRemainingChoices.walk k af ag aa ah ai ae av s0 s1 s2 m1 m2 m3 w aj ak aq au h1 h2 h3 h4 h5 h6 h7 h8 h9 h10 h11 h12 h13 h14 h15 h16 h17 h18 h19 h20 h21 h22
 ·exact laws_FnExactRemainingChoices.small0 k af ag aa ah ai ae av w aj ak aq au h1 h2
end Go.Proofs.Ytmcddlpgffbmpaa.Pr
end
section
namespace Go.Proofs.Ytmcddlpgffbmpaa.Say
open Go.Proofs.Ytmcddlpgffbmpaa.Op Go.Proofs.Ytmcddlpgffbmpaa.Pr
def FnExactRemainingChoices:Prop:= ∀(aa:List (List Int)) (ae:List (List Int)),GoodList (GoodList (GoodInt .i64)) aa→GoodList (GoodList (GoodInt .i64)) ae→ ∃k,laws_FnExactRemainingChoices.f k aa ae=some true
end Go.Proofs.Ytmcddlpgffbmpaa.Say
end
section
namespace Go.Proofs.Ytmcddlpgffbmpaa.Gx
open Go.RowKit Go.Proofs.YtmcddlpgffbmpaaW.PrintWords Go.Proofs.YtmcddlpgffbmpaaW.PrintMore Go.Proofs.Ytmcddlpgffbmpaa.Ma Go.Proofs.Ytmcddlpgffbmpaa.Pr Go.Proofs.Ytmcddlpgffbmpaa.La Go.Proofs.Ytmcddlpgffbmpaa.Gm
def col (m:List (List Int)) (j n:Nat):List Int:=(List.range n).map fun u=>ent m u j
def turn (m:List (List Int)) (l:Nat):List (List Int):=(List.range l).map fun c=>col m c m.length
theorem col_len (m:List (List Int)) (j n:Nat):(col m j n).length=n:=by simp [col]
theorem col_succ (m:List (List Int)) (j n:Nat):col m j (n+1)=col m j n++ [ent m n j]:=by simp [col,List.range_succ]
section
variable {m:List (List Int)} {l:Nat} (hk1:1≤m.length) (hk:m.length≤4) (hl:l≤4) (hr: ∀i,i < m.length→(rw_ m i).length=l)
include hk1 hk hl hr
theorem spec_col (j:Nat) (hj:j < l) (R:List (List Int)) (acc:List (List Int)) (ha:acc.length≤100) (next:Ev (fun k=>spec_l07Turn.l0 k m (acc++ [col m j m.length]) ((j+1:Nat):Int)) R):
  ∀q i,i+q=m.length→Ev (fun k=>spec_l07Turn.l1 k m acc j (col m j i) i) R:=by
 intro q
 induction q with
 | zero=>
  intro i hi
  obtain rfl:i=m.length:=by omega
  refine evstep (fun k=>by rw [spec_l07Turn.l1]) (evneg (by omega) (evpos (by omega) ?_))
  rw [w64 (by omega) (by omega)]
  exact next
 | succ q ih=>
  intro i hi
  have h1:=hr i (by omega)
  refine evstep (fun k=>by rw [spec_l07Turn.l1]) ?_
  rw [rw_eq,rd_nat,show (rw_ m i).getD j 0=ent m i j from rfl, ← col_succ]
  refine evpos (by omega) (evpos (by omega) (evpos (by omega) (evpos (by omega) (evpos (by rw [col_len];omega) ?_))))
  rw [w64 (by omega) (by omega)]
  exact ih (i+1) (by omega)
theorem spec_cols: ∀q j,j+q=l→Ev (fun k=>spec_l07Turn.l0 k m ((List.range j).map fun c=>col m c m.length) j) (turn m l):=by
 have e0:rd_L1 m 0=rw_ m 0:=rw_eq m 0
 intro q
 induction q with
 | zero=>
  intro j hj
  obtain rfl:j=l:=by omega
  refine evstep (fun k=>by rw [spec_l07Turn.l0]) ?_
  rw [e0,hr 0 (by omega)]
  exact evpos (by omega) (evneg (by omega) (evc rfl))
 | succ q ih=>
  intro j hj
  refine evstep (fun k=>by rw [spec_l07Turn.l0]) ?_
  rw [e0,hr 0 (by omega)]
  refine evpos (by omega) (evpos (by omega) ?_)
  have:=ih (j+1) (by omega)
  rw [List.range_succ,List.map_append] at this
  have h0:col m j 0= []:=rfl
  rw [← h0]
  exact spec_col hk1 hk hl hr j (by omega) _ _ (by simp;omega) this m.length 0 (by omega)
theorem spec_turn:Ev (fun k=>spec_l07Turn.f k m) (turn m l):=spec_cols hk1 hk hl hr l 0 (by omega)
end
end Go.Proofs.Ytmcddlpgffbmpaa.Gx
end
section
namespace Go.Proofs.Ytmcddlpgffbmpaa.Rmc
open Go.RowKit Go.Proofs.YtmcddlpgffbmpaaW.PrintWords Go.Proofs.YtmcddlpgffbmpaaW.PrintMore Go.Proofs.Ytmcddlpgffbmpaa.Ma Go.Proofs.Ytmcddlpgffbmpaa.Pr Go.Proofs.Ytmcddlpgffbmpaa.La Go.Proofs.Ytmcddlpgffbmpaa.Gm Go.Proofs.Ytmcddlpgffbmpaa.Gx
theorem any_same {p q:Int→Bool}: ∀l:List Int,(∀x ∈ l,p x=q x)→l.any p=l.any q
 | [],_=>rfl
 | x::l,h=>by rw [List.any_cons,List.any_cons,h x List.mem_cons_self,any_same l (fun y hy=>h y (List.mem_cons_of_mem _ hy))]
theorem btP_congr {a a':Int→Int→Int} {own others:List Int} (h: ∀x ∈ own, ∀y ∈ others,a x y=a' x y) {i:Int} (hi:i ∈ own):btP a own others i=btP a' own others i:=by
 unfold btP
 refine any_same own (fun k hk=>?_)
 rw [any_same others (p:=fun j=>decide (a k j≤a i j)) (q:=fun j=>decide (a' k j≤a' i j)) (fun j hj=>by rw [h k hk j hj,h i hi j hj])]
theorem bt_congr {a a':Int→Int→Int} {own others:List Int} (h: ∀x ∈ own, ∀y ∈ others,a x y=a' x y):bt a own others=bt a' own others:=by
 have: ∀l:List Int,(∀x ∈ l,x ∈ own)→l.find? (btP a own others)=l.find? (btP a' own others):=by
  intro l
  induction l with
  | nil=>intro _;rfl
  | cons x l ih=>
   intro hl
   rw [List.find?_cons,List.find?_cons,btP_congr h (hl x List.mem_cons_self),ih (fun y hy=>hl y (List.mem_cons_of_mem _ hy))]
 unfold Pr.bt
 rw [this own (fun x hx=>hx)]
theorem less_ne {T:List (List Int)} {own others:List Int} (hne:0 < others.length) {i k:Nat} (h: ∀y ∈ others,rd (rd_L1 T (own.getD i 0)) y < rd (rd_L1 T (own.getD k 0)) y):i≠k:=by
 rintro rfl
 have:=h _ (getD_mem hne)
 omega
theorem any_less {T:List (List Int)} {own others:List Int} (i k:Nat):others.any (fun j=>decide (rd (rd_L1 T (own.getD k 0)) j≤rd (rd_L1 T (own.getD i 0)) j))=false↔ ∀y ∈ others,rd (rd_L1 T (own.getD i 0)) y < rd (rd_L1 T (own.getD k 0)) y:=by
 rw [List.any_eq_false]
 constructor
 ·intro h y hy
  have:=h y hy
  rw [decide_eq_true_eq] at this
  omega
 ·intro h y hy
  have:=h y hy
  rw [decide_eq_true_eq]
  omega
section
variable {T:List (List Int)} {own others:List Int} (ho: ∀x ∈ own,0≤x∧x < T.length) (hp: ∀x ∈ own, ∀y ∈ others,0≤y∧y < (rd_L1 T x).length) (h1:own.length≤100) (h2:others.length≤100) (hne:0 < others.length)
include ho hp h1 h2
theorem worse_in (i k:Nat) (hi:i < own.length) (hk:k < own.length) (r:Int) (yes:(∀y ∈ others,rd (rd_L1 T (own.getD i 0)) y < rd (rd_L1 T (own.getD k 0)) y)→i≠k→r=own.getD i 0)
  (no:(i=k∨ ¬ ∀y ∈ others,rd (rd_L1 T (own.getD i 0)) y < rd (rd_L1 T (own.getD k 0)) y)→Ev (fun n=>spec_l07Worse.l1 n T own others (i:Int) ((k+1:Nat):Int)) r):
  ∀q j b,j+q=others.length→(b=true↔i≠k∧ ∀p,p < j→rd (rd_L1 T (own.getD i 0)) (others.getD p 0) < rd (rd_L1 T (own.getD k 0)) (others.getD p 0))→Ev (fun n=>spec_l07Worse.l2 n T own others (i:Int) (k:Int) b (j:Int)) r:=by
 intro q
 induction q with
 | zero=>
  intro j b hj hb
  obtain rfl:j=others.length:=by omega
  refine evstep (fun n=>by rw [spec_l07Worse.l2]) (evneg (by omega) ?_)
  have all:(∀p,p < others.length→rd (rd_L1 T (own.getD i 0)) (others.getD p 0) < rd (rd_L1 T (own.getD k 0)) (others.getD p 0))↔ ∀y ∈ others,rd (rd_L1 T (own.getD i 0)) y < rd (rd_L1 T (own.getD k 0)) y:=by
   constructor
   ·intro h y hy
    obtain⟨p,hp,rfl⟩:=List.getElem_of_mem hy
    have:=h p hp
    rw [show others.getD p 0=others[p] by rw [List.getD_eq_getElem?_getD,List.getElem?_eq_getElem hp];rfl] at this
    exact this
   ·intro h p hp
    exact h _ (getD_mem hp)
  rw [all] at hb
  by_cases c:b=true
  ·obtain⟨a1,a2⟩:=hb.1 c
   refine evpos c (evpos (by omega) (evpos (by omega) ?_))
   rw [rd_nat,yes a2 a1]
   exact evc rfl
  ·refine evneg c ?_
   rw [w64 (x:=(k:Int)+1) (by omega) (by omega)]
   refine no ?_
   by_cases e:i=k
   ·exact .inl e
   ·exact .inr (fun a=>c (hb.2 ⟨e,a⟩))
 | succ q ih=>
  intro j b hj hb
  refine evstep (fun n=>by rw [spec_l07Worse.l2]) (evpos (by omega) ?_)
  rw [w64 (x:=(j:Int)+1) (by omega) (by omega)]
  by_cases c:b=true
  ·rw [rd_nat,rd_nat,rd_nat]
   have m1:=ho _ (getD_mem hi)
   have m2:=ho _ (getD_mem hk)
   have m3:=hp _ (getD_mem hi) _ (getD_mem (show j < others.length by omega))
   have m4:=hp _ (getD_mem hk) _ (getD_mem (show j < others.length by omega))
   refine evpos c (evpos (by omega) (evpos (by omega) (evpos m1.1 (evpos m1.2 (evpos (by omega) (evpos m3.1 (evpos m3.2 (evpos (by omega) (evpos (by omega) (evpos m2.1 (evpos m2.2 (evpos m4.2 ?_))))))))))))
   refine ih (j+1) _ (by omega) ?_
   obtain⟨a1,a2⟩:=hb.1 c
   rw [decide_eq_true_eq]
   constructor
   ·intro h
    refine⟨a1,fun p hp=>?_⟩
    by_cases e:p=j
    ·subst e;exact h
    ·exact a2 p (by omega)
   ·intro h
    exact h.2 j (by omega)
  ·refine evneg c (ih (j+1) false (by omega) ?_)
   constructor
   ·intro h;cases h
   ·intro h
    exact absurd (hb.2 ⟨h.1,fun p hp=>h.2 p (by omega)⟩) c
include hne
theorem worse_mid (i:Nat) (hi:i < own.length) (r:Int) (yes:btP (fun x y=>rd (rd_L1 T x) y) own others (own.getD i 0)=true→r=own.getD i 0) (no:btP (fun x y=>rd (rd_L1 T x) y) own others (own.getD i 0)=false→Ev (fun n=>spec_l07Worse.l0 n T own others ((i+1:Nat):Int)) r):
  ∀q k,k+q=own.length→(∀p,p < k→others.any (fun j=>decide (rd (rd_L1 T (own.getD p 0)) j≤rd (rd_L1 T (own.getD i 0)) j))=true)→Ev (fun n=>spec_l07Worse.l1 n T own others (i:Int) (k:Int)) r:=by
 intro q
 induction q with
 | zero=>
  intro k hk hall
  obtain rfl:k=own.length:=by omega
  refine evstep (fun n=>by rw [spec_l07Worse.l1]) (evneg (by omega) ?_)
  rw [w64 (x:=(i:Int)+1) (by omega) (by omega)]
  exact no (btP_not hall)
 | succ q ih=>
  intro k hk hall
  refine evstep (fun n=>by rw [spec_l07Worse.l1]) (evpos (by omega) ?_)
  refine worse_in ho hp h1 h2 i k hi (by omega) r ?_ ?_ others.length 0 _ (by omega) (by simp;omega)
  ·intro h e
   exact yes (btP_of (show k < own.length by omega) ((any_less i k).2 h))
  ·intro h
   refine ih (k+1) (by omega) (fun p hp'=>?_)
   by_cases e:p=k
   ·subst e
    cases hc:others.any (fun j=>decide (rd (rd_L1 T (own.getD p 0)) j≤rd (rd_L1 T (own.getD i 0)) j)) with
    | true=>rfl
    | false=>
     have a:=(any_less i p).1 hc
     rcases h with h | h
     ·exact absurd h (less_ne hne a)
     ·exact absurd a h
   ·exact hall p (by omega)
theorem worse_eq:Ev (fun n=>spec_l07Worse.f n T own others) (bt (fun x y=>rd (rd_L1 T x) y) own others):=by
 have key: ∀q i,i+q=own.length→(∀p,p < i→btP (fun x y=>rd (rd_L1 T x) y) own others (own.getD p 0)=false)→Ev (fun n=>spec_l07Worse.l0 n T own others (i:Int)) (bt (fun x y=>rd (rd_L1 T x) y) own others):=by
  intro q
  induction q with
  | zero=>
   intro i hi hall
   obtain rfl:i=own.length:=by omega
   rw [bt_miss hall]
   exact evstep (fun n=>by rw [spec_l07Worse.l0]) (evneg (by omega) (evc rfl))
  | succ q ih=>
   intro i hi hall
   refine evstep (fun n=>by rw [spec_l07Worse.l0]) (evpos (by omega) ?_)
   refine worse_mid ho hp h1 h2 hne i (by omega) _ (fun h=>bt_hit (by omega) hall h) (fun h=>ih (i+1) (by omega) (fun p hp'=>?_)) own.length 0 (by omega) (fun p hp'=>by omega)
   by_cases e:p=i
   ·subst e;exact h
   ·exact hall p (by omega)
 exact key own.length 0 (by omega) (fun p hp=>by omega)
end
theorem less_eq (l:List Int) (x:Int) (hl:l.length≤1000):Ev (fun n=>spec_l07Less.f n l x) (wo l x):=by
 have key: ∀q i,i+q=l.length→Ev (fun n=>spec_l07Less.l0 n l x (wo (l.take i) x) (i:Int)) (wo l x):=by
  intro q
  induction q with
  | zero=>
   intro i hi
   obtain rfl:i=l.length:=by omega
   rw [List.take_length]
   exact evstep (fun n=>by rw [spec_l07Less.l0]) (evneg (by omega) (evc rfl))
  | succ q ih=>
   intro i hi
   have h:=ih (i+1) (by omega)
   have hi2:i < l.length:=by omega
   rw [wo_take_succ hi2] at h
   refine evstep (fun n=>by rw [spec_l07Less.l0]) (evpos (by omega) (evpos (by omega) ?_))
   rw [rd_nat,w64 (x:=(i:Int)+1) (by omega) (by omega),List.getD_eq_getElem?_getD,List.getElem?_eq_getElem hi2]
   have hw:(wo (l.take i) x).length≤1000:=by
    unfold wo
    have:=List.length_filter_le (fun m=>!(m==x)) (l.take i)
    simp at this ⊢
    omega
   by_cases c:l[i]=x
   ·rw [if_pos (by simp [c])] at h
    exact evpos c h
   ·rw [if_neg (by simp [c])] at h
    exact evneg c (evpos (by omega) h)
 exact key l.length 0 (by omega)
theorem wo_pos {a:Int→Int→Int} {own others:List Int} (hne:0 < others.length) (h:0≤Pr.bt a own others):0 < (wo own (Pr.bt a own others)).length:=by
 have h2:=(bt_mem h).2
 unfold btP at h2
 obtain⟨k,hk,hk2⟩:=List.any_eq_true.1 h2
 have hk3:others.any (fun j=>decide (a k j≤a (Pr.bt a own others) j))=false:=by simpa using hk2
 have hne2:k≠Pr.bt a own others:=by
  intro e
  have:=List.any_eq_false.1 hk3 _ (getD_mem hne)
  rw [decide_eq_true_eq, ← e] at this
  omega
 have:k ∈ wo own (Pr.bt a own others):=List.mem_filter.2 ⟨hk,by simpa using hne2⟩
 exact List.length_pos_of_mem this
theorem rcGo_len (a b:Int→Int→Int): ∀q r c,(rcGo a b q r c).1.length≤r.length∧(rcGo a b q r c).2.length≤c.length:=by
 have hw: ∀(l:List Int) n,(wo l n).length≤l.length:=fun l n=>List.length_filter_le _ _
 intro q
 induction q with
 | zero=>intro r c;exact⟨Nat.le_refl _,Nat.le_refl _⟩
 | succ q ih=>
  intro r c
  rw [rcGo_succ]
  split
  ·have:=ih (wo r (Pr.bt a r c)) c
   have:=hw r (Pr.bt a r c)
   omega
  ·split
   ·exact⟨Nat.le_refl _,Nat.le_refl _⟩
   ·have:=ih r (wo c (Pr.bt b c r))
    have:=hw c (Pr.bt b c r)
    omega
section
variable {A B:List (List Int)} (g:GameOK A B)
include g
theorem turn_at {x y:Int} (hx:0≤x∧x < (rw_ A 0).length) (hy:0≤y∧y < A.length):rd (rd_L1 (turn B (rw_ A 0).length) x) y=tB B x y∧(rd_L1 (turn B (rw_ A 0).length) x).length=A.length:=by
 obtain⟨j,rfl⟩:=Int.eq_ofNat_of_zero_le hx.1
 obtain⟨i,rfl⟩:=Int.eq_ofNat_of_zero_le hy.1
 have e:rd_L1 (turn B (rw_ A 0).length) (j:Int)=col B j B.length:=by
  have:j < (rw_ A 0).length:=by omega
  simp [rd_L1,turn,this]
 rw [e,col_len,g.same]
 refine⟨?_,rfl⟩
 unfold tB
 rw [rw_eq,rd_nat,rd_nat]
 have:i < A.length:=by omega
 simp [col,this,ent]
theorem rows_at {x:Int} (hx:0≤x∧x < A.length):(rd_L1 A x).length=(rw_ A 0).length:=by
 obtain⟨i,rfl⟩:=Int.eq_ofNat_of_zero_le hx.1
 rw [rw_eq]
 exact(g.rows i (Nat.zero_le _) (by omega)).1
theorem spec2: ∀(q:Nat) (r c:List Int),r.length+c.length < q→(∀x:Int,x ∈ r→0≤x∧x < A.length)→(∀x:Int,x ∈ c→0≤x∧x < (rw_ A 0).length)→0 < r.length→0 < c.length→r.length+c.length≤100→
  Ev (fun k=>spec_RemainingChoices.l2 k r c (turn B (rw_ A 0).length) A B) ((rcGo (tA A) (tB B) q r c).1,(rcGo (tA A) (tB B) q r c).2,0):=by
 intro q
 induction q with
 | zero=>intro r c h;omega
 | succ q ih=>
  intro r c hq hr hc hr0 hc0 hl
  have h1:=worse_eq (T:=A) (own:=r) (others:=c) hr (fun x hx y hy=>by rw [rows_at g (hr x hx)];exact hc y hy) (by omega) (by omega) hc0
  have h2:=worse_eq (T:=turn B (rw_ A 0).length) (own:=c) (others:=r) (fun x hx=>by have:=hc x hx;simp [turn];omega) (fun x hx y hy=>by rw [(turn_at g (hc x hx) (hr y hy)).2];exact hr y hy) (by omega) (by omega) hr0
  rw [bt_congr (a':=tB B) (fun x hx y hy=>(turn_at g (hc x hx) (hr y hy)).1)] at h2
  have h1':Ev (fun n=>spec_l07Worse.f n A r c) (Pr.bt (tA A) r c):=h1
  refine evstep (fun k=>by rw [spec_RemainingChoices.l2]) (evbind h1' ?_)
  rw [rcGo_succ]
  by_cases c1:0≤Pr.bt (tA A) r c
  ·rw [if_pos c1]
   have hm:=(bt_mem c1).1
   refine evpos c1 (evbind (less_eq r _ (by omega)) ?_)
   exact ih _ _ (by have:=wo_lt hm;omega) (fun x hx=>hr x (wo_mem hx)) hc (wo_pos hc0 c1) hc0 (by have:=wo_lt hm;omega)
  ·rw [if_neg c1]
   refine evneg c1 (evbind h2 ?_)
   by_cases c2:Pr.bt (tB B) c r < 0
   ·rw [if_pos c2]
    exact evpos c2 (evc rfl)
   ·rw [if_neg c2]
    have c3:0≤Pr.bt (tB B) c r:=by omega
    have hm:=(bt_mem c3).1
    refine evneg c2 (evbind (less_eq c _ (by omega)) ?_)
    exact ih _ _ (by have:=wo_lt hm;omega) hr (fun x hx=>hc x (wo_mem hx)) hr0 (wo_pos hr0 c3) (by have:=wo_lt hm;omega)
theorem spec1 {R:List Int × List Int × Int} (r:List Int) (t:List (List Int)) (h:Ev (fun k=>spec_RemainingChoices.l2 k r (numL (rw_ A 0).length) t A B) R): ∀q j,j+q=(rw_ A 0).length→Ev (fun k=>spec_RemainingChoices.l1 k r (numL j) t (j:Int) A B) R:=by
 have e0:rd_L1 A 0=rw_ A 0:=rw_eq A 0
 have k1:=g.k1
 have l4:=g.l4
 intro q
 induction q with
 | zero=>
  intro j hj
  obtain rfl:j=(rw_ A 0).length:=by omega
  refine evstep (fun k=>by rw [spec_RemainingChoices.l1]) (evpos (by omega) ?_)
  rw [e0]
  exact evneg (by omega) h
 | succ q ih=>
  intro j hj
  refine evstep (fun k=>by rw [spec_RemainingChoices.l1]) (evpos (by omega) ?_)
  rw [e0,w64 (x:=(j:Int)+1) (by omega) (by omega)]
  have:=ih (j+1) (by omega)
  have e:numL (j+1)=numL j++ [(j:Int)]:=by simp [numL,List.range_succ]
  rw [e] at this
  exact evpos (by omega) (evpos (by rw [numL_len];omega) this)
theorem spec0 {R:List Int × List Int × Int} (t:List (List Int)) (h:Ev (fun k=>spec_RemainingChoices.l1 k (numL A.length) [] t 0 A B) R): ∀q j,j+q=A.length→Ev (fun k=>spec_RemainingChoices.l0 k (numL j) [] t (j:Int) A B) R:=by
 have k4:=g.k4
 intro q
 induction q with
 | zero=>
  intro j hj
  obtain rfl:j=A.length:=by omega
  exact evstep (fun k=>by rw [spec_RemainingChoices.l0]) (evneg (by omega) h)
 | succ q ih=>
  intro j hj
  refine evstep (fun k=>by rw [spec_RemainingChoices.l0]) (evpos (by omega) ?_)
  rw [w64 (x:=(j:Int)+1) (by omega) (by omega)]
  have:=ih (j+1) (by omega)
  have e:numL (j+1)=numL j++ [(j:Int)]:=by simp [numL,List.range_succ]
  rw [e] at this
  exact evpos (by rw [numL_len];omega) this
end
theorem both (A B:List (List Int)) (ha:A.length≤1048576) (hr: ∀x ∈ A,x.length≤1048576): ∃R:List Int × List Int × Int,Ev (fun k=>spec_RemainingChoices.f k A B) R∧impl_RemainingChoices.f A B=some R∧R.1.length≤4∧R.2.1.length≤4:=by
 classical
 have hall:(A.all fun x=>decide (x.length≤1048576))=true:=List.all_eq_true.2 (fun x hx=>decide_eq_true (hr x hx))
 have hs:=spec_is A B ha hr (decide (GameOK A B)) (by simp)
 have hi:=impl_is A B ha hr (decide (GameOK A B)) (by simp)
 unfold spec_RemainingChoices.f impl_RemainingChoices.f
 rw [if_pos ⟨ha,hall⟩,hi,Option.bind_some]
 by_cases g:GameOK A B
 ·have e0:rd_L1 A 0=rw_ A 0:=rw_eq A 0
  rw [decide_eq_true g] at hs ⊢
  rw [if_pos rfl,e0]
  have hlen:=rcGo_len (tA A) (tB B) (A.length+(rw_ A 0).length+1) (numL A.length) (numL (rw_ A 0).length)
  rw [numL_len,numL_len] at hlen
  have k4:=g.k4;have l4:=g.l4;have k1:=g.k1;have l1:=g.l1
  refine⟨_,?_,rfl,Nat.le_trans hlen.1 k4,Nat.le_trans hlen.2 l4⟩
  refine evbind hs (evpos rfl (evbind (spec_turn (m:=B) (l:=(rw_ A 0).length) (by rw [g.same];exact k1) (by rw [g.same];exact k4) l4 (fun i hi=>(g.rows i (Nat.zero_le _) (by rw [← g.same];exact hi)).2.1)) ?_))
  refine spec0 g _ ?_ A.length 0 (by omega)
  refine spec1 g _ _ ?_ (rw_ A 0).length 0 (by omega)
  exact spec2 g _ _ _ (by rw [numL_len,numL_len];omega) (fun x hx=>numL_mem hx) (fun x hx=>numL_mem hx) (by rw [numL_len];exact k1) (by rw [numL_len];exact l1) (by rw [numL_len,numL_len];omega)
 ·rw [decide_eq_false g] at hs ⊢
  rw [if_neg (by decide)]
  exact⟨_,evbind hs (evneg (by decide) (evc rfl)),rfl,by simp,by simp⟩
end Go.Proofs.Ytmcddlpgffbmpaa.Rmc
end
section
namespace Go.Proofs.Ytmcddlpgffbmpaa.La
open Go.RowKit Go.Proofs.YtmcddlpgffbmpaaW.PrintWords Go.Proofs.YtmcddlpgffbmpaaW.PrintMore Go.Proofs.Ytmcddlpgffbmpaa.Ma Go.Proofs.Ytmcddlpgffbmpaa.Pr Go.Proofs.Ytmcddlpgffbmpaa.Op
theorem eqG {a b:List (List Int)} (ha:Fit a) (hb:Fit b):Ev (fun k=>laws_eqGame.f k a b a b) true:=by
 unfold laws_eqGame.f
 exact evbind (fit_eq ha) (evpos rfl (evbind (fit_eq hb) (evpos rfl (evc rfl))))
end Go.Proofs.Ytmcddlpgffbmpaa.La
end
section
namespace Go.Proofs.Ytmcddlpgffbmpaa.La
open Go.RowKit Go.Proofs.YtmcddlpgffbmpaaW.PrintWords Go.Proofs.YtmcddlpgffbmpaaW.PrintMore Go.Proofs.Ytmcddlpgffbmpaa.Ma Go.Proofs.Ytmcddlpgffbmpaa.Pr
theorem heldI (n:Int) (m:Nat) (hl:m≤1152921504606846976) (h0:0≤n) (h1:n≤1152921504606846976):Ev (fun k=>laws_heldInt64S.f k (count n m) n) (n+m):=by
 have key: ∀(j i:Nat),i+j=m→Ev (fun k=>laws_heldInt64S.l0 k (count n m) (n+i) i) (n+m):=by
  intro j
  induction j with
  | zero=>
   intro i hi
   refine evstep (fun k=>by rw [laws_heldInt64S.l0]) (evneg (by simp [count_length];omega) (evc ?_))
   rw [show i=m from by omega]
  | succ j ih=>
   intro i hi
   refine evstep (fun k=>by rw [laws_heldInt64S.l0]) (evpos (by simp [count_length];omega) (evpos (by omega) (evpos ?_ ?_)))
   ·rw [rd_nat,count_at n m i (by omega)]
   ·rw [w64 (by omega) (by omega),w64 (by omega) (by omega)]
    have:=ih (i+1) (by omega)
    rw [show n+((i+1:Nat):Int)=n+i+1 from by omega] at this
    exact this
 have:=key m 0 (by omega)
 simpa [laws_heldInt64S.f] using this
end Go.Proofs.Ytmcddlpgffbmpaa.La
end
section
namespace Go.Proofs.Ytmcddlpgffbmpaa.Pure
open Go.RowKit Go.Proofs.YtmcddlpgffbmpaaW.PrintWords Go.Proofs.YtmcddlpgffbmpaaW.PrintMore Go.Proofs.Ytmcddlpgffbmpaa.Ma Go.Proofs.Ytmcddlpgffbmpaa.Pr Go.Proofs.Ytmcddlpgffbmpaa.La Go.Proofs.Ytmcddlpgffbmpaa.Hm Go.Proofs.Ytmcddlpgffbmpaa.Op
theorem fit_lens {l:List (List Int)} (h:tot l≤1048576):lens l≤1048576:=by unfold tot at h;omega
theorem szG2 {a b:List (List Int)} (ga:GoodList (GoodList (GoodInt .i64)) a) (gb:GoodList (GoodList (GoodInt .i64)) b):
  ∃t:Int,Ev (fun k=>laws_szGame.f k a b 1048576) t∧(0≤t→tot a≤1048576∧tot b≤1048576):=by
 have h1:=szSS a ga (n:=1048576) (by decide) (by decide)
 by_cases c:(1048576:Int) < (tot a:Int)
 ·rw [if_pos c] at h1
  exact⟨-1,by unfold laws_szGame.f;exact evbind h1 (evpos (by decide) (evc rfl)),fun h=>by omega⟩
 ·rw [if_neg c] at h1
  have h2:=szSS b gb (n:=1048576 - (tot a:Int)) (by omega) (by omega)
  by_cases c2:(1048576:Int) - (tot a:Int) < (tot b:Int)
  ·rw [if_pos c2] at h2
   exact⟨-1,by unfold laws_szGame.f;exact evbind h1 (evneg (by omega) (evbind h2 (evpos (by decide) (evc rfl)))),fun h=>by omega⟩
  ·rw [if_neg c2] at h2
   exact⟨_,by unfold laws_szGame.f;exact evbind h1 (evneg (by omega) (evbind h2 (evneg (by omega) (evc rfl)))),fun _=>⟨by omega,by omega⟩⟩
theorem FnExactRemainingChoices:Say.FnExactRemainingChoices:=by
 intro a b ga gb
 obtain⟨t,⟨k0,ht⟩,hf⟩:=szG2 ga gb
 by_cases c:t < 0
 ·refine⟨k0,?_⟩
  unfold laws_FnExactRemainingChoices.f
  rw [if_pos]
  exact .inr ⟨t,ht _ (Nat.le_refl _),c⟩
 ·obtain⟨ta,tb⟩:=hf (by omega)
  have fa:=fit_of ta;have fb:=fit_of tb;have la:=fit_lens ta;have lb:=fit_lens tb;have na:=fa.len;have nb:=fb.len
  obtain⟨R,⟨k1,e1⟩,e2,n1,n2⟩:=Rmc.both a b fa.len fa.row
  obtain⟨k3,e3⟩:=fit_to fa
  obtain⟨k4,e4⟩:=fit_to fb
  obtain⟨k5,e5⟩:=eqI_same R.1 (by omega)
  obtain⟨k6,e6⟩:=eqI_same R.2.1 (by omega)
  obtain⟨k7,e7⟩:=eqG fa fb
  obtain⟨k8,e8⟩:=heldI 1 R.1.length (by omega) (by decide) (by decide)
  obtain⟨k9,e9⟩:=heldI (1+(R.1.length:Int)) R.2.1.length (by omega) (by omega) (by omega)
  refine⟨k0+k1+k3+k4+k5+k6+k7+k8+k9,?_⟩
  unfold laws_FnExactRemainingChoices.f
  rw [if_pos]
  exact .inl ⟨t,R.1,R.2.1,R.2.2,1+(lens a:Int)+(lens b:Int),1+(R.1.length:Int),1+(R.1.length:Int)+(R.2.1.length:Int),ht _ (by omega),c,⟨e3 _ (by omega),e4 _ (by omega)⟩,e1 _ (by omega),e2,e5 _ (by omega),e6 _ (by omega),e7 _ (by omega),rfl,by omega,by omega,by omega,by omega,rfl,by omega,by omega,by omega,rfl,by omega,by omega,e8 _ (by omega),e9 _ (by omega)⟩
end Go.Proofs.Ytmcddlpgffbmpaa.Pure
end
section
namespace Go.Proofs.Ytmcddlpgffbmpaa.fnExactRemainingChoices
open Go.ChangeShapes Go.WideShapes Go.ChangeAt Go.RowKit Go.Proofs.Ytmcddlpgffbmpaa.Op Go.Proofs.YtmcddlpgffbmpaaW.PrintWords
theorem own:ownKnob Try.prog.godebug=none:=by kernel_rfl
theorem laidOut:laidOutB Try.prog=true:=by kernel_rfl
theorem lifted (os:Os) (started:os.Started) (H:Type) (enc:TypeId × Value→H):
  ReturnsInHanded {} Try.checked os 4 .any (Rows.fnExactRemainingChoicesSpec.pre6 enc Try.prog Try.f4 Rows.fnExactRemainingChoicesRow.domain false) (Rows.fnExactRemainingChoicesSpec.post enc Try.prog Try.f4 false true false false):=by
 refine returnsInHanded_of_change_sized (C:=Try.checked) own started (by kernel_rfl) Try.func4
  (ChangeSpec.witness6 (enc:=enc) (C:=Try.checked) false ⟨#[], #[.agg #[.slice none 0 0, .slice none 0 0]], []⟩ 8 (by kernel_rfl) (by kernel_rfl) (by kernel_rfl) (by kernel_rfl)) ?_
 intro W base args ds gs before hval0 hW hcnd hsz0 _
 have hval: ∀(j:Nat) t v,Try.f4.params[j]?=some t→args[j]?=some v→Value.okWide Try.prog W .any base t v:=hval0
 have hW':=hW
 obtain⟨p,q,hA0,hV,rfl,hfz,hnd⟩:=hW
 have hA:DataW.TrodAll enc Try.prog W 0 (fun _=>true) true Try.f4.params.toList args.toList ds p:=hA0
 rw [Try.params4] at hA hval
 obtain⟨v0,vs0,d0,ds0,p0,q0,hargs,rfl,rfl,h0,r0⟩:=trodAll_cons hA
 obtain⟨rfl,rfl,rfl⟩:=trodAll_nil r0
 obtain rfl:args= #[v0]:=by cases args;simp_all
 obtain⟨rfl,rfl⟩:=trodVars_none hV
 have k0:=h0
 have lt0:=trod_blocks k0
 obtain⟨⟨aa,ae⟩,cs0,rfl,hk0,g0⟩:=arg_struct Try.underlying27 (opens_struct2 Try.underlying27 ⟨by kernel_rfl,by kernel_rfl⟩ ⟨by kernel_rfl,by kernel_rfl⟩ (by kernel_rfl) (opens_slice Try.underlying25 (by kernel_rfl) (opens_slice Try.underlying29 (by kernel_rfl) (opens_int Try.underlying2))) (opens_slice Try.underlying25 (by kernel_rfl) (opens_slice Try.underlying29 (by kernel_rfl) (opens_int Try.underlying2))) id (Kd.pair (Kd.slice 29 (Kd.slice 2 (Kd.int .i64))) (Kd.slice 29 (Kd.slice 2 (Kd.int .i64)))) (fun _ _ _ h=>h) (fun x=>(GoodList (GoodList (GoodInt .i64))) x.1∧(GoodList (GoodList (GoodInt .i64))) x.2) (fun _ h0 h1=>⟨h0,h1⟩)) (hval 0 27 v0 rfl rfl) h0
 obtain⟨af,ag,ah,ai,rfl,q0_0,r0_0,q0_1,r0_1⟩:=cells_slice_slice hk0
 obtain⟨k,h⟩:=Pure.FnExactRemainingChoices aa ae g0.1 g0.2
 clear hA0 hval0 hsz0
 refine(Pr.laws_FnExactRemainingChoices.calls k af ag aa ah ai ae true W r0_0 q0_0 r0_1 q0_1 h).mono ?_
 rintro e W' ⟨rfl,bel0⟩
 have bel:Below W.heap.size W W':=by first | exact bel0 | exact bel0.below
 exact⟨_,rfl,_,_,_, [],_, [],hW',trodAll_mk1 (shut_bool Try.underlying4 _),(trodAll_cons_mk (Below.trod laidOut (by kernel_rfl) (of_decide_eq_true (by kernel_rfl)) k0 bel lt0) trodAll_mk0),rfl,bel.frame _,fun h=>by cases h⟩
theorem over:Rows.fnExactRemainingChoicesRow.holds Try.pinned (OpenSpec.ofChange Rows.fnExactRemainingChoicesSpec):=
 OpenClaim.holds_of_wide 4 Try.f4 rfl rfl rfl rfl rfl rfl rfl ⟨rfl,rfl,rfl,rfl,rfl⟩ rfl rfl rfl rfl rfl (by kernel_rfl) Try.func4 (by kernel_rfl)
  (of_decide_eq_true (by kernel_rfl)) (by unfold Func.isWrapper;first | (rw [if_pos (by decide+kernel)];kernel_rfl) | (rw [if_neg (by decide+kernel)];exact⟨rfl,rfl⟩))
  (fun os started H enc _=>lifted os started H enc)
theorem proved:Rows.FnExactRemainingChoicesSaid:=over
#print axioms proved
end Go.Proofs.Ytmcddlpgffbmpaa.fnExactRemainingChoices
namespace Go.Proofs.Ytmcddlpgffbmpaa
theorem fnExactRemainingChoices_holds:Rows.FnExactRemainingChoicesSaid:=fnExactRemainingChoices.proved
end Go.Proofs.Ytmcddlpgffbmpaa
end
