/- Texts of one claim (the words of the kit's print that the claim uses, printed functions, and this session's own texts), joined in the order of their imports by this session's own program (merge.py). -/
import Derived.Test.YtbjljcpngbhkeaaJnFnPivotMinors0
import Derived.Test.YtbjljcpngbhkeaaJnFnPivotMinors1
import Derived.Test.YtbjljcpngbhkeaaJnFnPivotMinors2
set_option linter.unusedVariables false
set_option linter.unusedSimpArgs false
set_option maxHeartbeats 8000000
set_option maxRecDepth 100000
section
namespace Go.Proofs.Ytbjljcpngbhkeaa.Pr
open Go.RowKit Wz.PrintWords Wz.PrintLast Wz.PrintMore
attribute [local go_sem] max2_int min2_int max_two min_two max_three min_three max_four min_four
def impl_PivotOf.f (k:Nat) (ae:List (List Int)) (af:List Int) (a1:Int):Option (Int × (List (List Int)) × List Int × Int):=(impl_pivotOf.f k ae af a1).bind fun aa=>(some (aa.1,aa.2.1,aa.2.2.1,aa.2.2.2))
theorem impl_PivotOf.calls (k:Nat) (au:Option Addr) (av:Nat) (ag:List (List Int)) (aw:Option Addr) (ax:Nat) (ah:List Int) (a1:Int) (r1:Int) (r2:List (List Int)) (r3:List Int) (r4:Int) (w:World) (aI:Kd.C (Kd.slice 2 (Kd.int .i64)) w au ag.length ag) (aJ:ag.length≤av) (aK:Kd.C (Kd.int .i64) w aw ah.length ah) (aM:ah.length≤ax) (h:impl_PivotOf.f k ag ah a1=some (r1,r2,r3,r4)):
  Calls Try.prog 22 #[.agg #[.slice au ag.length av, .slice aw ah.length ax], .int .i64 a1] w fun e w'=> ∃v1_ v2_:Value,e= .returned (.tuple #[.agg #[.int .i64 r1,v1_,v2_], .int .i64 r4])∧Kd.S (Kd.slice 2 (Kd.int .i64)) 25 w' w.heap.size (fun k_=>some k_≠(v2_:Value).ownBlock) v1_ r2∧Kd.R (Kd.int .i64) 2 w' w.heap.size (fun _=>True) v2_ r3∧Below w.heap.size w w':=by
 have hu27:=Try.underlying27;have hu49:=Try.underlying49;have HR0_0:=q_ aI;have HC0_0:=q_ aJ;clear aI aJ;have HR0_1:=q_ aK;have HC0_1:=q_ aM;clear aK aM;have HB:=q_ (Below.refl w.heap.size w);have H:((impl_pivotOf.f k ag ah a1).bind fun aq=>(some (aq.1,aq.2.1,aq.2.2.1,aq.2.2.2)))=some (r1,r2,r3,r4):=h;clear h;replace H:=Option.bind_eq_some_iff.mp H;obtain⟨⟨aj,ak,ay,aT⟩,A30,H⟩:=H;replace H:(some (aj,ak,ay,aT))=some (r1,r2,r3,r4):=H;have A3:=q_ A30;clear A30;simp only [Option.some.injEq,Prod.mk.injEq] at H;obtain⟨rfl,rfl,rfl,rfl⟩:=H
 go_enter Try.func22,Try.ntmps22
 go_wp2_with (first | ((with_reducible refine gate_dst (N:=2) rfl ?_);refine be_ 2 #[.slice au ag.length av, .slice aw ah.length ax] 27 ?_;intro ai hg w4 hbox hb;have af:=q_ (hbox);have bz:=gz_ w hg;have bA:=gz_ w hg;replace HB:=Bs_ hb;clear hb hbox hg) | ((with_reducible refine gate_dst (N:=4) rfl ?_);refine be_ 4 #[.int .i64 0, .slice none 0 0, .slice none 0 0] 49 ?_;intro aa hg w5 hbox hb;have ae:=q_ (hbox);have bC:=gz_ w hg;have bD:=gz_ w hg;have aC:=lz_ hg af;have aD:=mz_ hg af;replace af:=Bb_ af hb;replace HB:=Bs_ hb;clear hb hbox hg;have bE:=aC.out;have bF:=aD.out;obtain⟨a9,ba,bf,bg⟩:=c2_ af) | ((with_reducible refine gate_callee (f:=47) rfl ?_);refine gL_ 8 Try.func47 #[.agg #[.slice au ag.length av, .slice aw ah.length ax], .int .i64 a1] ?_;(with_reducible refine(impl_pivotOf.calls k _ _ ag _ _ ah a1 aj ak ay aT _ ?aU ?aV ?aW ?aX A3.out).mono ?_);(case aU=>exact cb_ HR0_0.out HB.out);(case aV=>exact HC0_0.out);(case aW=>exact cb_ HR0_1.out HB.out);(case aX=>exact HC0_1.out);rintro e w8 ⟨bG,bH,rfl,ho0,ho1,hb⟩;refine⟨_,rfl,?_⟩;have aN:=q_ (Kd.S_lower ho0 bz_);have aQ:=q_ (Kd.R_lower ho1 bz_);replace af:=Bb_ af hb;replace ae:=Bb_ ae hb;replace HB:=Bs_ hb;(try clear hb);(try clear hk);(try clear ho0);(try clear ho1);obtain⟨bh,bk,bq,bu,bv,bw⟩:=c3_ ae;obtain⟨az,aA,aY⟩:=Kd.S_slice aN.out;subst aY;obtain⟨aG,aH,aZ⟩:=Kd.R_slice aQ.out;subst aZ))
 refine bodyPost_ret (results_ct rfl _ _ aa 49 #[.int .i64 aj, .slice az ak.length aA, .slice aG ay.length aH] (0,0) _ rfl (bw_) Try.underlying49 rfl (by kernel_rfl)) rfl ?_
 exact⟨_,_,ew_,kS_ (sf3_ aN.out ae.out) (fun _ hk=>hk.1),kR_ (rf3_ aQ.out ae.out) (fun _ hk=>trivial),hb_⟩
def spec_PivotOf.f (k:Nat) (ae:List (List Int)) (af:List Int) (a1:Int):Option (Int × (List (List Int)) × List Int × Int):=(spec_l02Code.f k ae af a1).bind fun ag=>(if ag=0 then((spec_l04Pivot.f k ae af a1).bind fun aa=>(if aa.2.2.2=true then(some (aa.1,aa.2.1,aa.2.2.1,0)) else(some (0,([]:List (List Int)),([]:List Int),5)))) else(some (0,([]:List (List Int)),([]:List Int),ag)))
theorem spec_PivotOf.calls (k:Nat) (au:Option Addr) (av:Nat) (ai:List (List Int)) (aw:Option Addr) (ax:Nat) (aj:List Int) (a1:Int) (r1:Int) (r2:List (List Int)) (r3:List Int) (r4:Int) (w:World) (a9:Kd.C (Kd.slice 2 (Kd.int .i64)) w au ai.length ai) (ba:ai.length≤av) (bf:Kd.C (Kd.int .i64) w aw aj.length aj) (bg:aj.length≤ax) (h:spec_PivotOf.f k ai aj a1=some (r1,r2,r3,r4)):
  Calls Try.prog 23 #[.agg #[.slice au ai.length av, .slice aw aj.length ax], .int .i64 a1] w fun e w'=> ∃v1_ v2_:Value,e= .returned (.tuple #[.agg #[.int .i64 r1,v1_,v2_], .int .i64 r4])∧Kd.S (Kd.slice 2 (Kd.int .i64)) 25 w' w.heap.size (fun k_=>some k_≠(v2_:Value).ownBlock) v1_ r2∧Kd.R (Kd.int .i64) 2 w' w.heap.size (fun _=>True) v2_ r3∧Below w.heap.size w w':=by
 have hu27:=Try.underlying27;have hu49:=Try.underlying49;have HR0_0:=q_ a9;have HC0_0:=q_ ba;clear a9 ba;have HR0_1:=q_ bf;have HC0_1:=q_ bg;clear bf bg;have HB:=q_ (Below.refl w.heap.size w);have H:((spec_l02Code.f k ai aj a1).bind fun ay=>(if ay=0 then((spec_l04Pivot.f k ai aj a1).bind fun aC=>(if aC.2.2.2=true then(some (aC.1,aC.2.1,aC.2.2.1,0)) else(some (0,([]:List (List Int)),([]:List Int),5)))) else(some (0,([]:List (List Int)),([]:List Int),ay))))=some (r1,r2,r3,r4):=h;clear h;replace H:=Option.bind_eq_some_iff.mp H;obtain⟨ay,A30,H⟩:=H;replace H:(if ay=0 then((spec_l04Pivot.f k ai aj a1).bind fun aC=>(if aC.2.2.2=true then(some (aC.1,aC.2.1,aC.2.2.1,0)) else(some (0,([]:List (List Int)),([]:List Int),5)))) else(some (0,([]:List (List Int)),([]:List Int),ay)))=some (r1,r2,r3,r4):=H;have A3:=q_ A30;clear A30
 by_cases c4:ay=0
 ·rw [if_pos c4] at H;have c4b0:=e1_ c4;have c4b1:=e2_ c4;clear c4;replace H:=Option.bind_eq_some_iff.mp H;obtain⟨⟨aJ,aN,aQ,bv⟩,A50,H⟩:=H;replace H:(if bv=true then(some (aJ,aN,aQ,0)) else(some (0,([]:List (List Int)),([]:List Int),5)))=some (r1,r2,r3,r4):=H;have A5:=q_ A50;clear A50
  by_cases c6:bv=true
  ·subst c6;have H1:(some (aJ,aN,aQ,0))=some (r1,r2,r3,r4):=by rw [if_pos rfl] at H;exact H
   clear H;have H:=H1;clear H1;simp only [Option.some.injEq,Prod.mk.injEq] at H;obtain⟨rfl,rfl,rfl,rfl⟩:=H
   go_enter Try.func23,Try.ntmps23
   go_wp2_with (first | ((with_reducible refine gate_dst (N:=2) rfl ?_);refine be_ 2 #[.slice au ai.length av, .slice aw aj.length ax] 27 ?_;intro ag hg w7 hbox hb;have aa:=q_ (hbox);have bh:=gz_ w hg;have bk:=gz_ w hg;replace HB:=Bs_ hb;clear hb hbox hg) | ((with_reducible refine gate_dst (N:=4) rfl ?_);refine be_ 4 #[.int .i64 0, .slice none 0 0, .slice none 0 0] 49 ?_;intro af hg w8 hbox hb;have ae:=q_ (hbox);have bq:=gz_ w hg;have bu:=gz_ w hg;have az:=lz_ hg aa;have aA:=mz_ hg aa;replace aa:=Bb_ aa hb;replace HB:=Bs_ hb;clear hb hbox hg;have dH:=az.out;have dI:=aA.out;obtain⟨bH,bI,bJ,bK⟩:=c2_ aa) | ((with_reducible refine gate_callee (f:=42) rfl ?_);refine gL_ 11 Try.func42 #[.agg #[.slice au ai.length av, .slice aw aj.length ax], .int .i64 a1] ?_;(with_reducible refine(spec_l02Code.calls k _ _ ai _ _ aj a1 ay _ ?aD ?aG ?aH ?aI A3.out).mono ?_);(case aD=>exact cb_ HR0_0.out HB.out);(case aG=>exact HC0_0.out);(case aH=>exact cb_ HR0_1.out HB.out);(case aI=>exact HC0_1.out);rintro e w11 ⟨rfl,hb⟩;refine⟨_,rfl,?_⟩;replace aa:=Bb_ aa hb;replace ae:=Bb_ ae hb;replace HB:=Bs_ hb;(try clear hb);(try clear hk);obtain⟨bL,bM,bN,bO⟩:=c2_ aa) | ((with_reducible refine gate_callee (f:=49) rfl ?_);refine gL_ 19 Try.func49 #[.agg #[.slice au ai.length av, .slice aw aj.length ax], .int .i64 a1] ?_;(with_reducible refine(spec_l04Pivot.calls k _ _ ai _ _ aj a1 aJ aN aQ true _ ?aD ?aG ?aH ?aI A5.out).mono ?_);(case aD=>exact cb_ HR0_0.out HB.out);(case aG=>exact HC0_0.out);(case aH=>exact cb_ HR0_1.out HB.out);(case aI=>exact HC0_1.out);rintro e w13 ⟨bA,bC,rfl,ho0,ho1,hb⟩;refine⟨_,rfl,?_⟩;have aK:=q_ (Kd.S_lower ho0 bz_);have aM:=q_ (Kd.R_lower ho1 bz_);replace aa:=Bb_ aa hb;replace ae:=Bb_ ae hb;replace HB:=Bs_ hb;(try clear hb);(try clear hk);(try clear ho0);(try clear ho1)) | ((with_reducible refine gate_dst (N:=7) rfl ?_);refine be_ 7 #[.int .i64 0, .slice none 0 0, .slice none 0 0] 49 ?_;intro ah hg w14 hbox hb;replace aK:=q_ (Kd.S_below (so_ aK.out) hb);replace aM:=Rb_ aM hb;have aq:=q_ (hbox);have bw:=gz_ w hg;have bz:=gz_ w hg;have aT:=lz_ hg aa;have aU:=mz_ hg aa;have ak:=lz_ hg ae;have aV:=mz_ hg ae;replace aa:=Bb_ aa hb;replace ae:=Bb_ ae hb;replace HB:=Bs_ hb;clear hb hbox hg;have dr:=aU.out;have du:=aT.out;have dw:=aV.out;have dx:=ak.out;obtain⟨bP,bQ,bR,bS,bT,bU⟩:=c3_ aq;obtain⟨aW,aX,bD⟩:=Kd.S_slice aK.out;subst bD;obtain⟨aY,aZ,bE⟩:=Kd.R_slice aM.out;subst bE;obtain⟨bV,bW,bX,bY,bZ,cf⟩:=c3_ ae))
   refine bodyPost_ret (results_ct rfl _ _ af 49 #[.int .i64 aJ, .slice aW aN.length aX, .slice aY aQ.length aZ] (0,0) _ rfl (bw_) Try.underlying49 rfl (by kernel_rfl)) rfl ?_
   exact⟨_,_,ew_,kS_ (Kd.S_far (p:=⟨af,2,none⟩) (Kd.S_far (p:=⟨af,1,none⟩) (Kd.S_far (p:=⟨af,0,none⟩) (Kd.S_far (p:=⟨ah,2,none⟩) (Kd.S_far (p:=⟨ah,1,none⟩) (Kd.S_far (p:=⟨ah,0,none⟩) (Kd.S_types (Kd.S_types aK.out aq.out (by decide)) ae.out (by decide)) (fun _ hk=>hk.1.2) (.int .i64 aJ)) (fun _ hk=>hk.1.2) (.slice aW aN.length aX)) (fun _ hk=>hk.1.2) (.slice aY aQ.length aZ)) (fun _ hk=>hk.2) (.int .i64 aJ)) (fun _ hk=>hk.2) (.slice aW aN.length aX)) (fun _ hk=>hk.2) (.slice aY aQ.length aZ)) (fun _ hk=>hk.1.1),kR_ (Kd.R_far (p:=⟨af,2,none⟩) (Kd.R_far (p:=⟨af,1,none⟩) (Kd.R_far (p:=⟨af,0,none⟩) (Kd.R_far (p:=⟨ah,2,none⟩) (Kd.R_far (p:=⟨ah,1,none⟩) (Kd.R_far (p:=⟨ah,0,none⟩) (Kd.R_types (Kd.R_types aM.out aq.out (by decide)) ae.out (by decide)) (fun _ hk=>hk.1.2) (.int .i64 aJ)) (fun _ hk=>hk.1.2) (.slice aW aN.length aX)) (fun _ hk=>hk.1.2) (.slice aY aQ.length aZ)) (fun _ hk=>hk.2) (.int .i64 aJ)) (fun _ hk=>hk.2) (.slice aW aN.length aX)) (fun _ hk=>hk.2) (.slice aY aQ.length aZ)) (fun _ hk=>trivial),hb_⟩
  ·replace c6:=Bool.eq_false_iff.mpr c6;subst c6;have H1:(some (0,([]:List (List Int)),([]:List Int),5))=some (r1,r2,r3,r4):=by rw [if_neg (show ¬ (false=true) by decide)] at H;exact H
   clear H;have H:=H1;clear H1;simp only [Option.some.injEq,Prod.mk.injEq] at H;obtain⟨rfl,rfl,rfl,rfl⟩:=H
   go_enter Try.func23,Try.ntmps23
   go_wp2_with (first | ((with_reducible refine gate_dst (N:=2) rfl ?_);refine be_ 2 #[.slice au ai.length av, .slice aw aj.length ax] 27 ?_;intro ag hg w21 hbox hb;have aa:=q_ (hbox);have bh:=gz_ w hg;have bk:=gz_ w hg;replace HB:=Bs_ hb;clear hb hbox hg) | ((with_reducible refine gate_dst (N:=4) rfl ?_);refine be_ 4 #[.int .i64 0, .slice none 0 0, .slice none 0 0] 49 ?_;intro af hg w22 hbox hb;have ae:=q_ (hbox);have bq:=gz_ w hg;have bu:=gz_ w hg;have az:=lz_ hg aa;have aA:=mz_ hg aa;replace aa:=Bb_ aa hb;replace HB:=Bs_ hb;clear hb hbox hg;have dz:=az.out;have dA:=aA.out;obtain⟨cg,cm,cu,cz⟩:=c2_ aa) | ((with_reducible refine gate_callee (f:=42) rfl ?_);refine gL_ 11 Try.func42 #[.agg #[.slice au ai.length av, .slice aw aj.length ax], .int .i64 a1] ?_;(with_reducible refine(spec_l02Code.calls k _ _ ai _ _ aj a1 ay _ ?aD ?aG ?aH ?aI A3.out).mono ?_);(case aD=>exact cb_ HR0_0.out HB.out);(case aG=>exact HC0_0.out);(case aH=>exact cb_ HR0_1.out HB.out);(case aI=>exact HC0_1.out);rintro e w25 ⟨rfl,hb⟩;refine⟨_,rfl,?_⟩;replace aa:=Bb_ aa hb;replace ae:=Bb_ ae hb;replace HB:=Bs_ hb;(try clear hb);(try clear hk);obtain⟨cA,cB,cC,cD⟩:=c2_ aa) | ((with_reducible refine gate_callee (f:=49) rfl ?_);refine gL_ 19 Try.func49 #[.agg #[.slice au ai.length av, .slice aw aj.length ax], .int .i64 a1] ?_;(with_reducible refine(spec_l04Pivot.calls k _ _ ai _ _ aj a1 aJ aN aQ false _ ?aD ?aG ?aH ?aI A5.out).mono ?_);(case aD=>exact cb_ HR0_0.out HB.out);(case aG=>exact HC0_0.out);(case aH=>exact cb_ HR0_1.out HB.out);(case aI=>exact HC0_1.out);rintro e w27 ⟨bA,bC,rfl,ho0,ho1,hb⟩;refine⟨_,rfl,?_⟩;have aK:=q_ (Kd.S_lower ho0 bz_);have aM:=q_ (Kd.R_lower ho1 bz_);replace aa:=Bb_ aa hb;replace ae:=Bb_ ae hb;replace HB:=Bs_ hb;(try clear hb);(try clear hk);(try clear ho0);(try clear ho1)) | ((with_reducible refine gate_dst (N:=7) rfl ?_);refine be_ 7 #[.int .i64 0, .slice none 0 0, .slice none 0 0] 49 ?_;intro ah hg w28 hbox hb;replace aK:=q_ (Kd.S_below (so_ aK.out) hb);replace aM:=Rb_ aM hb;have aq:=q_ (hbox);have bw:=gz_ w hg;have bz:=gz_ w hg;have aT:=lz_ hg aa;have aU:=mz_ hg aa;have ak:=lz_ hg ae;have aV:=mz_ hg ae;replace aa:=Bb_ aa hb;replace ae:=Bb_ ae hb;replace HB:=Bs_ hb;clear hb hbox hg;have dB:=aU.out;have dC:=aT.out;have dD:=aV.out;have dE:=ak.out;obtain⟨cE,cF,cG,cH,cI,cJ⟩:=c3_ aq;obtain⟨dJ,dK,bF⟩:=Kd.S_slice aK.out;subst bF;obtain⟨dL,dM,bG⟩:=Kd.R_slice aM.out;subst bG;obtain⟨cK,cL,cN,cO,cP,cQ⟩:=c3_ ae))
   refine bodyPost_ret (results_ct rfl _ _ af 49 #[.int .i64 0, .slice none 0 0, .slice none 0 0] (0,0) _ rfl (bw_) Try.underlying49 rfl (by kernel_rfl)) rfl ?_
   exact⟨_,_,ew_,by first | exact Kd.S_nil _ _ _ _ _ | exact Kd.N_nil _ _ _ _ _ | exact Kd.V_nil _ _ _ _ _ | exact Kd.Q_nil _ _ _ _ _ | exact Kd.R_nil _ _ _ _ _,by first | exact Kd.R_nil _ _ _ _ _ | exact Kd.N_nil _ _ _ _ _ | exact Kd.V_nil _ _ _ _ _ | exact Kd.Q_nil _ _ _ _ _ | exact Kd.S_nil _ _ _ _ _,hb_⟩
 ·rw [if_neg c4] at H;have c4b0:=e3_ c4;have c4b1:=e4_ c4;simp only [Option.some.injEq,Prod.mk.injEq] at H;obtain⟨rfl,rfl,rfl,rfl⟩:=H
  go_enter Try.func23,Try.ntmps23
  go_wp2_with (first | ((with_reducible refine gate_dst (N:=2) rfl ?_);refine be_ 2 #[.slice au ai.length av, .slice aw aj.length ax] 27 ?_;intro ag hg w35 hbox hb;have aa:=q_ (hbox);have bh:=gz_ w hg;have bk:=gz_ w hg;replace HB:=Bs_ hb;clear hb hbox hg) | ((with_reducible refine gate_dst (N:=4) rfl ?_);refine be_ 4 #[.int .i64 0, .slice none 0 0, .slice none 0 0] 49 ?_;intro af hg w36 hbox hb;have ae:=q_ (hbox);have bq:=gz_ w hg;have bu:=gz_ w hg;have az:=lz_ hg aa;have aA:=mz_ hg aa;replace aa:=Bb_ aa hb;replace HB:=Bs_ hb;clear hb hbox hg;have dF:=az.out;have dG:=aA.out;obtain⟨cR,cT,cU,cV⟩:=c2_ aa) | ((with_reducible refine gate_callee (f:=42) rfl ?_);refine gL_ 11 Try.func42 #[.agg #[.slice au ai.length av, .slice aw aj.length ax], .int .i64 a1] ?_;(with_reducible refine(spec_l02Code.calls k _ _ ai _ _ aj a1 ay _ ?aD ?aG ?aH ?aI A3.out).mono ?_);(case aD=>exact cb_ HR0_0.out HB.out);(case aG=>exact HC0_0.out);(case aH=>exact cb_ HR0_1.out HB.out);(case aI=>exact HC0_1.out);rintro e w39 ⟨rfl,hb⟩;refine⟨_,rfl,?_⟩;replace aa:=Bb_ aa hb;replace ae:=Bb_ ae hb;replace HB:=Bs_ hb;(try clear hb);(try clear hk);obtain⟨cZ,da,df,dh,di,dl⟩:=c3_ ae))
  refine bodyPost_ret (results_ct rfl _ _ af 49 #[.int .i64 0, .slice none 0 0, .slice none 0 0] (0,0) _ rfl (bw_) Try.underlying49 rfl (by kernel_rfl)) rfl ?_
  exact⟨_,_,ew_,by first | exact Kd.S_nil _ _ _ _ _ | exact Kd.N_nil _ _ _ _ _ | exact Kd.V_nil _ _ _ _ _ | exact Kd.Q_nil _ _ _ _ _ | exact Kd.R_nil _ _ _ _ _,by first | exact Kd.R_nil _ _ _ _ _ | exact Kd.N_nil _ _ _ _ _ | exact Kd.V_nil _ _ _ _ _ | exact Kd.Q_nil _ _ _ _ _ | exact Kd.S_nil _ _ _ _ _,hb_⟩
def laws_pivot9.f (k:Nat) (a0_0:Int) (aa:List (List Int)) (ae:List Int) (a1_0:Int) (af:List (List Int)) (ag:List Int):Option (Bool):=if a0_0=a1_0 then((laws_rows9.f k aa af).bind fun ah=>(if ah=true then((laws_likeInts.f k ae ag).bind fun ai=>(some ai)) else(some false))) else(some false)
theorem laws_pivot9.calls (k:Nat) (a0_0:Int) (av:Option Addr) (aw:Nat) (aj:List (List Int)) (ax:Option Addr) (ay:Nat) (ah:List Int) (a1_0:Int) (az:Option Addr) (aA:Nat) (ak:List (List Int)) (aC:Option Addr) (aD:Nat) (ai:List Int) (r:Bool) (w:World) (aN:Kd.C (Kd.slice 2 (Kd.int .i64)) w av aj.length aj) (aQ:aj.length≤aw) (aT:Kd.C (Kd.int .i64) w ax ah.length ah) (aU:ah.length≤ay) (aV:Kd.C (Kd.slice 2 (Kd.int .i64)) w az ak.length ak) (aW:ak.length≤aA) (aX:Kd.C (Kd.int .i64) w aC ai.length ai) (aY:ai.length≤aD) (h:laws_pivot9.f k a0_0 aj ah a1_0 ak ai=some r):
  Calls Try.prog 24 #[.agg #[.int .i64 a0_0, .slice av aj.length aw, .slice ax ah.length ay], .agg #[.int .i64 a1_0, .slice az ak.length aA, .slice aC ai.length aD]] w fun e w'=>e= .returned (.bool r)∧Below w.heap.size w w':=by
 have hu49:=Try.underlying49;have HR0_1:=q_ aN;have HC0_1:=q_ aQ;clear aN aQ;have HR0_2:=q_ aT;have HC0_2:=q_ aU;clear aT aU;have HR1_1:=q_ aV;have HC1_1:=q_ aW;clear aV aW;have HR1_2:=q_ aX;have HC1_2:=q_ aY;clear aX aY;have HB:=q_ (Below.refl w.heap.size w);have H:(if a0_0=a1_0 then((laws_rows9.f k aj ak).bind fun aM=>(if aM=true then((laws_likeInts.f k ah ai).bind fun aG=>(some aG)) else(some false))) else(some false))=some r:=h;clear h
 by_cases c3:a0_0=a1_0
 ·rw [if_pos c3] at H;have c3b0:=e1_ c3;have c3b1:=e2_ c3;clear c3;replace H:=Option.bind_eq_some_iff.mp H;obtain⟨aM,A40,H⟩:=H;replace H:(if aM=true then((laws_likeInts.f k ah ai).bind fun aG=>(some aG)) else(some false))=some r:=H;have A4:=q_ A40;clear A40
  by_cases c5:aM=true
  ·subst c5;have H1:((laws_likeInts.f k ah ai).bind fun aG=>(some aG))=some r:=by rw [if_pos rfl] at H;exact H
   clear H;have H:=H1;clear H1;replace H:=Option.bind_eq_some_iff.mp H;obtain⟨aG,A60,H⟩:=H;replace H:(some aG)=some r:=H;have A6:=q_ A60;clear A60;obtain rfl:=Option.some.inj H
   go_enter Try.func24,Try.ntmps24
   go_wp2_with (first | ((with_reducible refine gate_dst (N:=2) rfl ?_);refine be_ 2 #[.int .i64 a0_0, .slice av aj.length aw, .slice ax ah.length ay] 49 ?_;intro ae hg w7 hbox hb;have aa:=q_ (hbox);have aZ:=gz_ w hg;have a9:=gz_ w hg;replace HB:=Bs_ hb;clear hb hbox hg) | ((with_reducible refine gate_dst (N:=3) rfl ?_);refine be_ 3 #[.int .i64 a1_0, .slice az ak.length aA, .slice aC ai.length aD] 49 ?_;intro af hg w8 hbox hb;have ag:=q_ (hbox);have ba:=gz_ w hg;have bf:=gz_ w hg;have aq:=lz_ hg aa;have au:=mz_ hg aa;replace aa:=Bb_ aa hb;replace HB:=Bs_ hb;clear hb hbox hg;have cC:=aq.out;have cD:=au.out;obtain⟨bg,bh,bk,bq,bu,bv⟩:=c3_ aa;obtain⟨bw,bz,bA,bC,bD,bE⟩:=c3_ ag) | (go_at_call 12;(with_reducible refine(laws_rows9.calls k _ _ aj _ _ ak true _ ?aH ?aI ?aJ ?aK A4.out).mono ?_);(case aH=>exact cb_ HR0_1.out HB.out);(case aI=>exact HC0_1.out);(case aJ=>exact cb_ HR1_1.out HB.out);(case aK=>exact HC1_1.out);rintro e w' ⟨rfl,⟨nd,rfl⟩⟩) | (go_at_call 16;(with_reducible refine(laws_likeInts.calls k _ _ ah _ _ ai aG _ ?aH ?aI ?aJ ?aK A6.out).mono ?_);(case aH=>repeat (first | exact(Kd.C_below HR0_2.out hb_) | (with_reducible refine Kd.C_alloc ?_ _) | (with_reducible refine Kd.C_drewN ?_ _) | (with_reducible refine Kd.C_drew ?_)));(case aI=>exact HC0_2.out);(case aJ=>repeat (first | exact(Kd.C_below HR1_2.out hb_) | (with_reducible refine Kd.C_alloc ?_ _) | (with_reducible refine Kd.C_drewN ?_ _) | (with_reducible refine Kd.C_drew ?_)));(case aK=>exact HC1_2.out);rintro e w' ⟨rfl,⟨nd,rfl⟩⟩))
   go_ret
   exact⟨ew_,hb_⟩
  ·replace c5:=Bool.eq_false_iff.mpr c5;subst c5;have H1:(some false)=some r:=by rw [if_neg (show ¬ (false=true) by decide)] at H;exact H
   clear H;have H:=H1;clear H1;obtain rfl:=Option.some.inj H
   go_enter Try.func24,Try.ntmps24
   go_wp2_with (first | ((with_reducible refine gate_dst (N:=2) rfl ?_);refine be_ 2 #[.int .i64 a0_0, .slice av aj.length aw, .slice ax ah.length ay] 49 ?_;intro ae hg w12 hbox hb;have aa:=q_ (hbox);have aZ:=gz_ w hg;have a9:=gz_ w hg;replace HB:=Bs_ hb;clear hb hbox hg) | ((with_reducible refine gate_dst (N:=3) rfl ?_);refine be_ 3 #[.int .i64 a1_0, .slice az ak.length aA, .slice aC ai.length aD] 49 ?_;intro af hg w13 hbox hb;have ag:=q_ (hbox);have ba:=gz_ w hg;have bf:=gz_ w hg;have aq:=lz_ hg aa;have au:=mz_ hg aa;replace aa:=Bb_ aa hb;replace HB:=Bs_ hb;clear hb hbox hg;have cu:=aq.out;have cz:=au.out;obtain⟨bF,bG,bH,bI,bJ,bK⟩:=c3_ aa;obtain⟨bL,bM,bN,bO,bP,bQ⟩:=c3_ ag) | (go_at_call 12;(with_reducible refine(laws_rows9.calls k _ _ aj _ _ ak false _ ?aH ?aI ?aJ ?aK A4.out).mono ?_);(case aH=>exact cb_ HR0_1.out HB.out);(case aI=>exact HC0_1.out);(case aJ=>exact cb_ HR1_1.out HB.out);(case aK=>exact HC1_1.out);rintro e w' ⟨rfl,⟨nd,rfl⟩⟩))
   go_ret
   exact⟨ew_,hb_⟩
 ·rw [if_neg c3] at H;have c3b0:=e3_ c3;have c3b1:=e4_ c3;obtain rfl:=Option.some.inj H
  go_enter Try.func24,Try.ntmps24
  go_wp2_with (first | ((with_reducible refine gate_dst (N:=2) rfl ?_);refine be_ 2 #[.int .i64 a0_0, .slice av aj.length aw, .slice ax ah.length ay] 49 ?_;intro ae hg w17 hbox hb;have aa:=q_ (hbox);have aZ:=gz_ w hg;have a9:=gz_ w hg;replace HB:=Bs_ hb;clear hb hbox hg) | ((with_reducible refine gate_dst (N:=3) rfl ?_);refine be_ 3 #[.int .i64 a1_0, .slice az ak.length aA, .slice aC ai.length aD] 49 ?_;intro af hg w18 hbox hb;have ag:=q_ (hbox);have ba:=gz_ w hg;have bf:=gz_ w hg;have aq:=lz_ hg aa;have au:=mz_ hg aa;replace aa:=Bb_ aa hb;replace HB:=Bs_ hb;clear hb hbox hg;have cA:=aq.out;have cB:=au.out;obtain⟨bR,bS,bT,bU,bV,bW⟩:=c3_ aa;obtain⟨bX,bY,bZ,cf,cg,cm⟩:=c3_ ag))
  go_ret
  exact⟨ew_,hb_⟩
end Go.Proofs.Ytbjljcpngbhkeaa.Pr
end
section
namespace Go.Proofs.Ytbjljcpngbhkeaa.Pp
open Go.RowKit Wz.PrintWords Wz.PrintMore Ma Pr Dt Bz Un Cz Pb Mn Sv Pv
structure Few (l:List (List Int)):Prop where
 len:l.length≤5
 row: ∀x ∈ l,x.length≤6
theorem Few.nil:Few []:=⟨by simp,fun x hx=>by simp at hx⟩
theorem pvR_len (n:Nat) (l:List (List Int)) (s:Int):(pvR n l s).length=n:=pR_len _ _ _ _ _
theorem pvR_row (n:Nat) (l:List (List Int)) (s:Int): ∀x ∈ pvR n l s,x.length=n:=by
 intro x hx
 unfold pvR pR at hx
 obtain⟨r,_,rfl⟩:=List.mem_map.1 hx
 simp
theorem pvS_len (n:Nat) (l:List (List Int)) (s:Int) (x:List Int):(pvS n l s x).length=n:=by simp [pvS]
theorem pvR_few {n:Nat} (hn:n≤5) (l:List (List Int)) (s:Int):Few (pvR n l s):=⟨by rw [pvR_len];exact hn,fun x hx=>by rw [pvR_row n l s x hx];omega⟩
theorem POK.small {M:List (List Int)} {Q:List Int} (p:POK M Q) (r:Nat) (hr:r < M.length):(Q.getD r 0).natAbs≤100:=by
 have:=p.num r (Nat.zero_le _) (by have:=p.len;omega)
 unfold N100 at this
 omega
theorem POK.rows {M:List (List Int)} {Q:List Int} (p:POK M Q): ∀x ∈ M,x.length=M.length:=by
 intro x hx
 obtain⟨i,hi,rfl⟩:=List.getElem_of_mem hx
 have:=p.mat.sq.row i hi
 rw [show M.getD i []=M[i] from by simp [hi]] at this
 exact this
def SetIn (n:Nat) (s:Int):Prop:=0≤s∧s≤((2 ^ n:Nat):Int) - 1
theorem pow_sub {n:Nat} (hn:n≤5):wrap64 (shl .i64 1 (n:Int) - 1)=((2 ^ n:Nat):Int) - 1:=by
 rw [shl_one (by omega) (by omega),Int.toNat_natCast]
 have key: ∀m:Nat,1≤m→m≤2 ^ 5→wrap64 ((m:Int) - 1)=(m:Int) - 1:=fun m h1 h2=>w64 (by omega) (by omega)
 exact key _ Nat.one_le_two_pow (Nat.pow_le_pow_right (by decide) hn)
theorem iin_eq (x a b:Int):impl_within.f x a b=some (decide (a≤x∧x≤b)):=by
 unfold impl_within.f
 by_cases h:x ≥ a
 ·rw [if_pos h];congr 1;rw [Bool.eq_iff_iff];simp;omega
 ·rw [if_neg h];congr 1;rw [Bool.eq_iff_iff];simp;omega
open Classical in
noncomputable def codeS (M:List (List Int)) (Q:List Int) (s:Int):Int:=if POK M Q then(if SetIn Q.length s then 0 else 2) else 1
open Classical in
theorem impl_code (M:List (List Int)) (Q:List Int) (s:Int):impl_setCode.f M Q s=some (codeS M Q s):=by
 unfold impl_setCode.f codeS
 have is:=Pb.impl_is M Q (decide (POK M Q)) (by simp)
 rw [is,Option.bind_some]
 by_cases p:POK M Q
 ·have hq:=p.len;have h5:=p.mat.n5
  rw [if_pos (by simpa using p),if_pos p]
  unfold impl_isSet.f
  rw [if_pos (by omega),pow_sub (by omega),iin_eq,Option.bind_some,Option.bind_some]
  by_cases c:0≤s∧s≤((2 ^ Q.length:Nat):Int) - 1
  ·rw [if_pos (decide_eq_true c),if_pos (show SetIn Q.length s from c)]
  ·rw [if_neg (by simpa using c),if_neg (show ¬ SetIn Q.length s from c)]
 ·rw [if_neg (by simpa using p),if_neg p]
open Classical in
theorem spec_code (M:List (List Int)) (Q:List Int) (s:Int) (hQ:Q.length≤1048576):Ev (fun k=>spec_l02Code.f k M Q s) (codeS M Q s):=by
 unfold spec_l02Code.f codeS
 refine evbind (Pb.spec_is M Q hQ (decide (POK M Q)) (by simp)) ?_
 by_cases p:POK M Q
 ·have hq:=p.len;have h5:=p.mat.n5
  rw [if_pos p]
  refine evpos (by simpa using p) ?_
  rw [u64w (x:=(Q.length:Int)) (by omega) (by omega),pow_sub (by omega)]
  refine evpos (by omega) (evsome (sin_eq _ _ _) ?_)
  by_cases c:0≤s∧s≤((2 ^ Q.length:Nat):Int) - 1
  ·rw [show (if SetIn Q.length s then(0:Int) else 2)=0 from if_pos c];exact evpos (decide_eq_true c) (evc rfl)
  ·rw [show (if SetIn Q.length s then(0:Int) else 2)=2 from if_neg c];exact evneg (by simpa using c) (evc rfl)
 ·rw [if_neg p]
  exact evneg (by simpa using p) (evc rfl)
theorem code_zero {M:List (List Int)} {Q:List Int} {s:Int} (c0:codeS M Q s=0):POK M Q∧SetIn Q.length s:=by
 classical
 unfold codeS at c0
 by_cases p:POK M Q
 ·rw [if_pos p] at c0
  by_cases z:SetIn Q.length s
  ·exact⟨p,z⟩
  ·rw [if_neg z] at c0;omega
 ·rw [if_neg p] at c0;omega
noncomputable def pvO (M:List (List Int)) (Q:List Int) (s:Int):Int × List (List Int) × List Int × Int:=if codeS M Q s=0 then(if det M.length (Cm s M)=0 then(0, [], [],5) else(ab (det M.length (Cm s M)),pvR M.length M s,pvS M.length M s Q,0)) else(0, [], [],codeS M Q s)
theorem impl_pivotOf_eq (M:List (List Int)) (Q:List Int) (s:Int):Ev (fun k=>impl_pivotOf.f k M Q s) (pvO M Q s):=by
 unfold impl_pivotOf.f pvO
 refine evsome (impl_code M Q s) ?_
 by_cases c:codeS M Q s=0
 ·rw [if_pos c]
  refine evpos c ?_
  obtain⟨p,hs⟩:=code_zero c
  have e:=impl_pivot p.mat.sq p.mat.n5 s Q p.len (POK.small p) p.mat.n1 (POK.rows p)
  unfold pvA at e
  by_cases d:det M.length (Cm s M)=0
  ·rw [if_pos d] at e ⊢
   exact evbind e (evneg (by simp) (evc rfl))
  ·rw [if_neg d] at e ⊢
   exact evbind e (evpos rfl (evc rfl))
 ·rw [if_neg c]
  exact evneg c (evc rfl)
theorem spec_PivotOf_eq (M:List (List Int)) (Q:List Int) (s:Int) (hQ:Q.length≤1048576):Ev (fun k=>spec_PivotOf.f k M Q s) (pvO M Q s):=by
 unfold spec_PivotOf.f pvO
 refine evbind (spec_code M Q s hQ) ?_
 by_cases c:codeS M Q s=0
 ·rw [if_pos c]
  refine evpos c ?_
  obtain⟨p,hs⟩:=code_zero c
  have e:=spec_pivot p.mat.sq p.mat.n5 s Q p.len (POK.small p)
  unfold pvA at e
  by_cases d:det M.length (Cm s M)=0
  ·rw [if_pos d] at e ⊢
   exact evbind e (evneg (by simp) (evc rfl))
  ·rw [if_neg d] at e ⊢
   exact evbind e (evpos rfl (evc rfl))
 ·rw [if_neg c]
  exact evneg c (evc rfl)
end Go.Proofs.Ytbjljcpngbhkeaa.Pp
end
section
namespace Go.Proofs.Ytbjljcpngbhkeaa.Pr
open Go.RowKit Wz.PrintWords Wz.PrintLast Wz.PrintMore
attribute [local go_sem] max2_int min2_int max_two min_two max_three min_three max_four min_four
mutual
def spec_l04Whole.l0:Nat→Int→Int→List (List Int)→List Int→Option (Bool)
 | 0,_,_,_,_=>none
 | k+1,x3,aa,ae,af=>if x3 < (af.length:Int) then(if 0≤x3 then(if aa=0 then(none) else(if(Int.tmod (rd af x3) aa)=0 then(spec_l04Whole.l1 k x3 0 aa ae af) else(some false))) else(none)) else(some true)
def spec_l04Whole.l1:Nat→Int→Int→Int→List (List Int)→List Int→Option (Bool)
 | 0,_,_,_,_,_=>none
 | k+1,x3,x4,aa,ae,af=>if x4 < (af.length:Int) then(if 0≤x3 then(if x3 < (ae.length:Int) then(if 0≤x4 then(if x4 < ((rd_L2 ae x3).length:Int) then(if aa=0 then(none) else(if(Int.tmod (rd (rd_L2 ae x3) x4) aa)=0 then(spec_l04Whole.l1 k x3 (wrap64 (x4+1)) aa ae af) else(some false))) else(none)) else(none)) else(none)) else(none)) else(spec_l04Whole.l0 k (wrap64 (x3+1)) aa ae af)
end
def spec_l04Whole.f (k:Nat) (a0_0:Int) (aa:List (List Int)) (ae:List Int):Option (Bool):=spec_l04Whole.l0 k 0 a0_0 aa ae
theorem spec_l04Whole.calls (k:Nat) (a0_0:Int) (aj:Option Addr) (ak:Nat) (ag:List (List Int)) (au:Option Addr) (aq:Nat) (ah:List Int) (r:Bool) (w:World) (aw:Kd.C (Kd.slice 2 (Kd.int .i64)) w aj ag.length ag) (ax:ag.length≤ak) (ay:Kd.C (Kd.int .i64) w au ah.length ah) (az:ah.length≤aq) (h:spec_l04Whole.f k a0_0 ag ah=some r):
  Calls Try.prog 63 #[.agg #[.int .i64 a0_0, .slice aj ag.length ak, .slice au ah.length aq]] w fun e w'=>e= .returned (.bool r)∧Below w.heap.size w w':=by
 have hu49:=Try.underlying49;have HR0_1:=q_ aw;have HC0_1:=q_ ax;clear aw ax;have HR0_2:=q_ ay;have HC0_2:=q_ az;clear ay az;have HB:=q_ (Below.refl w.heap.size w);have H:(spec_l04Whole.l0 k 0 a0_0 ag ah)=some r:=h;clear h;have H':=q_ H;clear H
 go_enter Try.func63,Try.ntmps63
 go_wp2_with (first | ((with_reducible refine gate_dst (N:=1) rfl ?_);refine be_ 1 #[.int .i64 a0_0, .slice aj ag.length ak, .slice au ah.length aq] 49 ?_;intro af hg w2 hbox hb;have aa:=q_ (hbox);have aA:=gz_ w hg;have aC:=gz_ w hg;replace HB:=Bs_ hb;clear hb hbox hg))
 repeat (go_quiet (first | ((with_reducible refine gate_dst (N:=1) rfl ?_);refine be_ 1 #[.int .i64 a0_0, .slice aj ag.length ak, .slice au ah.length aq] 49 ?_;intro af hg w2 hbox hb;have aa:=q_ (hbox);have aA:=gz_ w hg;have aC:=gz_ w hg;replace HB:=Bs_ hb;clear hb hbox hg));try go_wp2_with (first | ((with_reducible refine gate_dst (N:=1) rfl ?_);refine be_ 1 #[.int .i64 a0_0, .slice aj ag.length ak, .slice au ah.length aq] 49 ?_;intro af hg w2 hbox hb;have aa:=q_ (hbox);have aA:=gz_ w hg;have aC:=gz_ w hg;replace HB:=Bs_ hb;clear hb hbox hg)))
 go_loopg [3] k (fun kq v3 w'=> ∃(ae:Int),v3= .int .i64 ae∧Aside0 (spec_l04Whole.l0 kq ae a0_0 ag ah=some r)∧Aside0 (kq≤k)∧Aside0 (w'.heap[af]?=some (.cells #[.int .i64 a0_0,(.slice aj ag.length ak),(.slice au ah.length aq)] 49 (0,0)))∧Aside0 (Below w.heap.size w w'))
 case atStart=>exact⟨(0),rs_,H',⟨Nat.le_refl _⟩,⟨bk_⟩,⟨hb_⟩⟩
 case round=>
  clear H';obtain⟨ae,rfl,HA,HK1,aa,HB⟩:=hrel;cases gk with
  | zero=>exact absurd HA.out (by simp [spec_l04Whole.l0])
  | succ k1=>
   have H:=HA.out;clear HA;simp only [spec_l04Whole.l0] at H
   by_cases c3:ae < (ah.length:Int)
   ·rw [if_pos c3] at H;have c3b0:=decide_eq_true c3;clear c3
    by_cases c4:0≤ae
    ·rw [if_pos c4] at H;have c4b0:=decide_eq_true c4;clear c4
     by_cases c5:a0_0=0
     ·rw [if_pos c5] at H;exact absurd H (by simp)
     ·rw [if_neg c5] at H;have c5b0:=e3_ c5;have c5b1:=e4_ c5
      by_cases c6:(Int.tmod (rd ah ae) a0_0)=0
      ·rw [if_pos c6] at H;have c6b0:=e1_ c6;have c6b1:=e2_ c6;clear c6;have H':=q_ H;clear H;obtain⟨aD,aG,aH,aI,aJ,aK⟩:=c3_ aa;have p532:0≤(ae:Int):=od_;have q532:ae < (ah.length:Int):=od_;obtain⟨av,e532,hx532_0⟩:=Kd.at_int HR0_2.out ae p532 q532;cases e532
       replace hx532_0:=bc_ HB.out hx532_0;replace p532:=eq_true p532;replace q532:=eq_true q532;go_wp2
       repeat (go_quiet (fail);try go_wp2)
       go_loopg [4] k1 (fun kq v4 w'=> ∃(ai:Int),v4= .int .i64 ai∧Aside0 (spec_l04Whole.l1 kq ae ai a0_0 ag ah=some r)∧Aside0 (kq≤k1)∧Aside0 (w'.heap[af]?=some (.cells #[.int .i64 a0_0,(.slice aj ag.length ak),(.slice (some av) ah.length aq)] 49 (0,0)))∧Aside0 (Below w.heap.size w w'))
       case atStart=>exact⟨(0),rs_,H',⟨Nat.le_refl _⟩,⟨bk_⟩,⟨hb_⟩⟩
       case round=>
        clear H';(try clear c3b0);(try clear c4);(try clear c4b0);(try clear c5);(try clear c5b0);(try clear c5b1);(try clear c6);(try clear c6b0);(try clear c6b1);(try clear aD);(try clear aG);(try clear aH);(try clear aI);(try clear aJ);(try clear aK);(try clear hx532_0);(try clear p532);(try clear q532);obtain⟨ai,rfl,HA,HK2,aa,HB⟩:=hrel;cases gk with
        | zero=>exact absurd HA.out (by simp [spec_l04Whole.l1])
        | succ k2=>
         have H:=HA.out;clear HA;simp only [spec_l04Whole.l1] at H
         by_cases c8:ai < (ah.length:Int)
         ·rw [if_pos c8] at H;have c8b0:=decide_eq_true c8;clear c8
          by_cases c9:0≤ae
          ·rw [if_pos c9] at H;have c9b0:=decide_eq_true c9;clear c9
           by_cases c10:ae < (ag.length:Int)
           ·rw [if_pos c10] at H;have c10b0:=decide_eq_true c10;clear c10
            by_cases c11:0≤ai
            ·rw [if_pos c11] at H;have c11b0:=decide_eq_true c11;clear c11
             by_cases c12:ai < ((rd_L2 ag ae).length:Int)
             ·rw [if_pos c12] at H;have c12b0:=decide_eq_true c12;clear c12
              by_cases c13:a0_0=0
              ·rw [if_pos c13] at H;exact absurd H (by simp)
              ·rw [if_neg c13] at H;have c13b0:=e3_ c13;have c13b1:=e4_ c13
               by_cases c14:(Int.tmod (rd (rd_L2 ag ae) ai) a0_0)=0
               ·rw [if_pos c14] at H;have c14b0:=e1_ c14;have c14b1:=e2_ c14;clear c14;have H':=q_ H;clear H;obtain⟨aU,aV,aW,aX,aY,aZ⟩:=c3_ aa;have p533:0≤(ae:Int):=od_;have q533:ae < (ag.length:Int):=od_;obtain⟨aQ,aM,aN,e533,hx533_0,hl533_0,hi533_0⟩:=at_L2 HR0_1.out ae p533 q533;cases e533
                replace hx533_0:=bc_ HB.out hx533_0;have HR533_0:=q_ hi533_0;have HC533_0:=q_ hl533_0;clear hi533_0 hl533_0;replace p533:=eq_true p533;replace q533:=eq_true q533;have p534:0≤(ai:Int):=od_;have q534:ai < ((rd_L2 ag ae).length:Int):=od_;obtain⟨aT,e534,hx534_0⟩:=Kd.at_int HR533_0.out ai p534 q534;cases e534
                replace hx534_0:=bc_ HB.out hx534_0;replace p534:=eq_true p534;replace q534:=eq_true q534;go_wp2
                repeat (go_quiet (fail);try go_wp2)
                go_roundg k2
                case measure=>have:=HK1.out;have:=HK2.out;omega
                case rel=>exact⟨(wrap64 (ai+1)),rs_,H',⟨by have:=HK1.out;have:=HK2.out;omega⟩,⟨bk_⟩,⟨hb_⟩⟩
               ·rw [if_neg c14] at H;have c14b0:=e3_ c14;have c14b1:=e4_ c14;obtain rfl:=Option.some.inj H;obtain⟨a9,ba,bf,bg,bh,bk⟩:=c3_ aa;have p533:0≤(ae:Int):=od_;have q533:ae < (ag.length:Int):=od_;obtain⟨aQ,aM,aN,e533,hx533_0,hl533_0,hi533_0⟩:=at_L2 HR0_1.out ae p533 q533;cases e533
                replace hx533_0:=bc_ HB.out hx533_0;have HR533_0:=q_ hi533_0;have HC533_0:=q_ hl533_0;clear hi533_0 hl533_0;replace p533:=eq_true p533;replace q533:=eq_true q533;have p534:0≤(ai:Int):=od_;have q534:ai < ((rd_L2 ag ae).length:Int):=od_;obtain⟨aT,e534,hx534_0⟩:=Kd.at_int HR533_0.out ai p534 q534;cases e534
                replace hx534_0:=bc_ HB.out hx534_0;replace p534:=eq_true p534;replace q534:=eq_true q534;go_wp2
                repeat (go_quiet (fail);try go_wp2)
                go_ret
                exact⟨ew_,hb_⟩
             ·rw [if_neg c12] at H;exact absurd H (by simp)
            ·rw [if_neg c11] at H;exact absurd H (by simp)
           ·rw [if_neg c10] at H;exact absurd H (by simp)
          ·rw [if_neg c9] at H;exact absurd H (by simp)
         ·rw [if_neg c8] at H;have c8b0:=decide_eq_false c8;clear c8;have H':=q_ H;clear H;obtain⟨bq,bu,bv,bw,bz,bA⟩:=c3_ aa;go_wp2
          repeat (go_quiet (fail);try go_wp2)
          go_roundg k2
          case measure=>have:=HK1.out;have:=HK2.out;omega
          case rel=>exact⟨(wrap64 (ae+1)),rs_,H',⟨by have:=HK1.out;have:=HK2.out;omega⟩,⟨bk_⟩,⟨hb_⟩⟩
      ·rw [if_neg c6] at H;have c6b0:=e3_ c6;have c6b1:=e4_ c6;obtain rfl:=Option.some.inj H;obtain⟨bC,bD,bE,bF,bG,bH⟩:=c3_ aa;have p532:0≤(ae:Int):=od_;have q532:ae < (ah.length:Int):=od_;obtain⟨av,e532,hx532_0⟩:=Kd.at_int HR0_2.out ae p532 q532;cases e532
       replace hx532_0:=bc_ HB.out hx532_0;replace p532:=eq_true p532;replace q532:=eq_true q532;go_wp2
       repeat (go_quiet (fail);try go_wp2)
       go_ret
       exact⟨ew_,hb_⟩
    ·rw [if_neg c4] at H;exact absurd H (by simp)
   ·rw [if_neg c3] at H;have c3b0:=decide_eq_false c3;clear c3;obtain rfl:=Option.some.inj H;obtain⟨bI,bJ,bK,bL,bM,bN⟩:=c3_ aa;go_wp2
    repeat (go_quiet (fail);try go_wp2)
    go_ret
    exact⟨ew_,hb_⟩
end Go.Proofs.Ytbjljcpngbhkeaa.Pr
end
section
namespace Go.Proofs.Ytbjljcpngbhkeaa.Pp
open Go.RowKit Wz.PrintWords Wz.PrintMore Ma Pr Dt Bz Un Cz Pb Mn Sv Pv La Hm
def Whole (n:Nat) (den:Int) (R:List (List Int)) (S:List Int):Prop:= ∀r,r < n→Int.tmod (S.getD r 0) den=0∧ ∀c,c < n→Int.tmod (en R r c) den=0
theorem bool_of {b:Bool} {p:Prop} (h:b=true↔p) (hp: ¬ p):b=false:=by cases b with
 | false=>rfl
 | true=>exact absurd (h.1 rfl) hp
section
variable {n:Nat} (hn:n≤5) (R:List (List Int)) (S:List Int) (hR:R.length=n) (hr: ∀i,i < n→(R.getD i []).length=n) (hS:S.length=n) {den:Int} (hd:den≠0)
include hn hR hr hS hd
theorem spec_whole_loop: ∀q i,i+q=n→ ∀b:Bool,(b=true↔ ∀r,i≤r→r < n→Int.tmod (S.getD r 0) den=0∧ ∀c,c < n→Int.tmod (en R r c) den=0)→Ev (fun k=>spec_l04Whole.l0 k (i:Int) den R S) b:=by
 intro q
 induction q with
 | zero=>
  intro i hi b hb
  have:b=true:=hb.2 (fun r h1 h2=>by omega)
  subst this
  exact evstep (fun k=>by rw [spec_l04Whole.l0]) (evneg (by omega) (evc rfl))
 | succ q ih=>
  intro i hi b hb
  have hl:=hr i (by omega)
  refine evstep (fun k=>by rw [spec_l04Whole.l0]) (evpos (by omega) (evpos (by omega) (evneg hd ?_)))
  rw [rd_nat]
  have cols: ∀p c,c+p=n→ ∀b:Bool,(b=true↔(∀d,c≤d→d < n→Int.tmod (en R i d) den=0)∧ ∀r,i+1≤r→r < n→Int.tmod (S.getD r 0) den=0∧ ∀c,c < n→Int.tmod (en R r c) den=0)→Ev (fun k=>spec_l04Whole.l1 k (i:Int) (c:Int) den R S) b:=by
   intro p
   induction p with
   | zero=>
    intro c hc b hb
    refine evstep (fun k=>by rw [spec_l04Whole.l1]) (evneg (by omega) ?_)
    rw [w64 (x:=(i:Int)+1) (by omega) (by omega)]
    exact ih (i+1) (by omega) b (hb.trans ⟨fun h=>h.2,fun h=>⟨fun d h1 h2=>by omega,h⟩⟩)
   | succ p ihp=>
    intro c hc b hb
    refine evstep (fun k=>by rw [spec_l04Whole.l1]) (evpos (by omega) (evpos (by omega) (evpos (by omega) (evpos (by omega) ?_))))
    rw [rdL1]
    refine evpos (by omega) (evneg hd ?_)
    rw [rd_nat,show (R.getD i []).getD c 0=en R i c from rfl,w64 (x:=(c:Int)+1) (by omega) (by omega)]
    by_cases z:Int.tmod (en R i c) den=0
    ·refine evpos z (ihp (c+1) (by omega) b (hb.trans ⟨fun h=>⟨fun d h1 h2=>h.1 d (by omega) h2,h.2⟩,fun h=>⟨fun d h1 h2=>?_,h.2⟩⟩))
     by_cases e:d=c
     ·rw [e];exact z
     ·exact h.1 d (by omega) h2
    ·refine evneg z ?_
     rw [bool_of hb (fun h=>z (h.1 c (Nat.le_refl _) (by omega)))]
     exact evc rfl
  by_cases z:Int.tmod (S.getD i 0) den=0
  ·refine evpos z (cols n 0 (by omega) b (hb.trans ⟨fun h=>⟨fun d _ h2=>(h i (Nat.le_refl _) (by omega)).2 d h2,fun r h1 h2=>h r (by omega) h2⟩,fun h r h1 h2=>?_⟩))
   by_cases e:r=i
   ·rw [e];exact⟨z,fun c hc=>h.1 c (Nat.zero_le _) hc⟩
   ·exact h.2 r (by omega) h2
  ·refine evneg z ?_
   rw [bool_of hb (fun h=>z (h i (Nat.le_refl _) (by omega)).1)]
   exact evc rfl
theorem impl_whole (b:Bool) (hb:b=true↔Whole n den R S):impl_Pivot_isWhole.f den R S=some b:=by
 have hrow (i:Nat) (hi:i < n):R.getD i [] ∈ R:=by
  rw [List.getD_eq_getElem?_getD,List.getElem?_eq_getElem (by omega)]
  exact List.getElem_mem (by omega)
 have hmem (x:List Int) (hx:x ∈ R): ∃i,i < n∧x=R.getD i []:=by
  obtain⟨i,hi,rfl⟩:=List.getElem_of_mem hx
  exact⟨i,by omega,by simp [hi]⟩
 have hf:R.flatten.length≤1000000:=by
  have key: ∀l:List (List Int),(∀x ∈ l,x.length≤5)→l.flatten.length≤5*l.length:=by
   intro l
   induction l with
   | nil=>intro _;simp
   | cons x l ih=>
    intro h
    have h1:=h x (by simp)
    have h2:=ih (fun y hy=>h y (by simp [hy]))
    rw [List.flatten_cons,List.length_append,List.length_cons]
    omega
  have:=key R (fun x hx=>by obtain⟨i,hi,rfl⟩:=hmem x hx;rw [hr i hi];exact hn)
  omega
 unfold impl_Pivot_isWhole.f
 rw [if_pos ⟨hd,by omega,hf,by omega⟩]
 congr 1
 have e:(R.flatten++S).any (restP den)=true↔ ¬ Whole n den R S:=by
  rw [List.any_eq_true]
  constructor
  ·rintro ⟨x,hx,hp⟩ hw
   have hp:=of_decide_eq_true hp
   rcases List.mem_append.1 hx with hx | hx
   ·obtain⟨y,hy,hxy⟩:=List.mem_flatten.1 hx
    obtain⟨i,hi,rfl⟩:=hmem y hy
    obtain⟨c,hc,rfl⟩:=List.getElem_of_mem hxy
    have:=(hw i hi).2 c (by rw [hr i hi] at hc;exact hc)
    unfold en at this
    rw [List.getD_eq_getElem?_getD (l:=R.getD i []),List.getElem?_eq_getElem hc] at this
    exact hp this
   ·obtain⟨i,hi,rfl⟩:=List.getElem_of_mem hx
    have:=(hw i (by omega)).1
    rw [List.getD_eq_getElem?_getD,List.getElem?_eq_getElem hi] at this
    exact hp this
  ·intro hw
   refine Classical.byContradiction fun hno=>hw (fun r hr'=>⟨?_,fun c hc=>?_⟩)
   ·refine Classical.byContradiction fun z=>hno ⟨S.getD r 0,List.mem_append.2 (.inr ?_),decide_eq_true z⟩
    rw [List.getD_eq_getElem?_getD,List.getElem?_eq_getElem (by omega)]
    exact List.getElem_mem (by omega)
   ·refine Classical.byContradiction fun z=>hno ⟨en R r c,List.mem_append.2 (.inl (List.mem_flatten.2 ⟨R.getD r [],hrow r hr',?_⟩)),decide_eq_true z⟩
    have hl:=hr r hr'
    unfold en
    rw [List.getD_eq_getElem?_getD (l:=R.getD r []),List.getElem?_eq_getElem (by omega)]
    exact List.getElem_mem (by omega)
 rw [Bool.eq_iff_iff,hb,Bool.not_eq_true', ← Bool.not_eq_true,e]
 exact⟨fun h=>Classical.byContradiction h,fun h q=>q h⟩
end
theorem ab_pos {d:Int} (h:d≠0):0 < ab d:=by unfold ab;split <;> omega
theorem pvR_getD' {n i:Nat} (hi:i < n) (l:List (List Int)) (s:Int):((pvR n l s).getD i []).length=n:=by
 have e:=pvR_len n l s
 rw [List.getD_eq_getElem?_getD,List.getElem?_eq_getElem (by omega)]
 exact pvR_row n l s _ (List.getElem_mem (by omega))
open Classical in
theorem wholes {M:List (List Int)} (h5:M.length≤5) (s:Int) (Q:List Int) (d:det M.length (Cm s M)≠0): ∃b:Bool,(b=true↔Whole M.length (ab (det M.length (Cm s M))) (pvR M.length M s) (pvS M.length M s Q))∧Ev (fun k=>spec_l04Whole.f k (ab (det M.length (Cm s M))) (pvR M.length M s) (pvS M.length M s Q)) b∧impl_Pivot_isWhole.f (ab (det M.length (Cm s M))) (pvR M.length M s) (pvS M.length M s Q)=some b:=by
 have hb:=ab_pos d
 refine⟨decide (Whole M.length (ab (det M.length (Cm s M))) (pvR M.length M s) (pvS M.length M s Q)),by simp,?_,impl_whole h5 _ _ (pvR_len _ _ _) (fun i hi=>pvR_getD' hi M s) (pvS_len _ _ _ _) (by omega) _ (by simp)⟩
 unfold spec_l04Whole.f
 refine spec_whole_loop h5 (pvR M.length M s) (pvS M.length M s Q) (pvR_len _ _ _) (fun i hi=>pvR_getD' hi M s) (pvS_len _ _ _ _) (by omega) M.length 0 (by omega) _ ?_
 rw [decide_eq_true_eq]
 exact⟨fun h r _ hr=>h r hr,fun h r hr=>h r (Nat.zero_le _) hr⟩
theorem pvO_zero {M:List (List Int)} {Q:List Int} {s:Int} (c:(pvO M Q s).2.2.2=0):codeS M Q s=0∧det M.length (Cm s M)≠0:=by
 unfold pvO at c
 by_cases c1:codeS M Q s=0
 ·rw [if_pos c1] at c
  refine⟨c1,fun d=>?_⟩
  rw [if_pos d] at c
  exact absurd c (by decide)
 ·rw [if_neg c1] at c;exact absurd c c1
theorem pvO_at {M:List (List Int)} {Q:List Int} {s:Int} (c:codeS M Q s=0) (d:det M.length (Cm s M)≠0):pvO M Q s=(ab (det M.length (Cm s M)),pvR M.length M s,pvS M.length M s Q,0):=by unfold pvO;rw [if_pos c,if_neg d]
end Go.Proofs.Ytbjljcpngbhkeaa.Pp
end
section
namespace Go.Proofs.Ytbjljcpngbhkeaa.Pr
open Go.RowKit Wz.PrintWords Wz.PrintLast Wz.PrintMore
attribute [local go_sem] max2_int min2_int max_two min_two max_three min_three max_four min_four
mutual
def spec_PivotedProblem.j0:Nat→Int→Bool→Int→List (List Int)→List Int→Option ((List (List Int)) × List Int × Int)
 | 0,_,_,_,_,_=>none
 | k+1,x7,x24,aa,af,ae=>if x24=true then(spec_PivotedProblem.j1 k 5 aa af ae) else(spec_PivotedProblem.j1 k x7 aa af ae)
def spec_PivotedProblem.j1:Nat→Int→Int→List (List Int)→List Int→Option ((List (List Int)) × List Int × Int)
 | 0,_,_,_,_=>none
 | k+1,x7,aa,af,ae=>if x7=0 then(spec_PivotedProblem.l0 k 0 aa af ae (([]:List (List Int))) (([]:List Int))) else(some (([]:List (List Int)),([]:List Int),x7))
def spec_PivotedProblem.l0:Nat→Int→Int→List (List Int)→List Int→List (List Int)→List Int→Option ((List (List Int)) × List Int × Int)
 | 0,_,_,_,_,_,_=>none
 | k+1,x9,aa,af,ae,ag,ah=>if x9 < (ae.length:Int) then(spec_PivotedProblem.l1 k x9 (([]:List Int)) 0 aa af ae ag ah) else((spec_l01Is.f k ag ah).bind fun ai=>(if ai=true then(some (ag,ah,0)) else(some (([]:List (List Int)),([]:List Int),3))))
def spec_PivotedProblem.l1:Nat→Int→List Int→Int→Int→List (List Int)→List Int→List (List Int)→List Int→Option ((List (List Int)) × List Int × Int)
 | 0,_,_,_,_,_,_,_,_=>none
 | k+1,x9,x10,x11,aa,af,ae,ag,ah=>if x11 < (ae.length:Int) then(if 0≤x9 then(if x9 < (af.length:Int) then(if 0≤x11 then(if x11 < ((rd_L2 af x9).length:Int) then(if aa=0 then(none) else(if x10.length < 17592186044416 then(spec_PivotedProblem.l1 k x9 (x10++ [wrap64 (Int.tdiv (rd (rd_L2 af x9) x11) aa)]) (wrap64 (x11+1)) aa af ae ag ah) else(none))) else(none)) else(none)) else(none)) else(none)) else(if ag.length < 5864062014805 then(if 0≤x9 then(if x9 < (ae.length:Int) then(if aa=0 then(none) else(if ah.length < 17592186044416 then(spec_PivotedProblem.l0 k (wrap64 (x9+1)) aa af ae (ag++ [x10]) (ah++ [wrap64 (Int.tdiv (rd ae x9) aa)])) else(none))) else(none)) else(none)) else(none))
end
def spec_PivotedProblem.f (k:Nat) (ae:List (List Int)) (af:List Int) (a1:Int):Option ((List (List Int)) × List Int × Int):=(spec_PivotOf.f k ae af a1).bind fun aa=>(if aa.2.2.2=0 then((spec_l04Whole.f k aa.1 aa.2.1 aa.2.2.1).bind fun ag=>(spec_PivotedProblem.j0 k aa.2.2.2 (!ag) aa.1 aa.2.1 aa.2.2.1)) else(spec_PivotedProblem.j0 k aa.2.2.2 false aa.1 aa.2.1 aa.2.2.1))
def spec_PivotedProblem.T14:Bool × List (List Nat × List Nat):=(true, [([], []),([], []),([1], [1]),([], []),([2,3], [2,3]),([4], [4]),([], []),([5,6], [5,6]),([7], [7]),([], []),([9], [9]),([8,10], [8,10]),([11], [11]),([0,12], [0,12]),([13,13,0,1,2,3,4,5,6,7,8,9,10,11,12,13], [0,13])])
def spec_PivotedProblem.B14:List Nat:= [0,0,2,0,14,30,0,126,254,0,512,2046,4094,8191,16383]
theorem spec_PivotedProblem.tab14:rtab .any (opsOf Try.f26 14)=spec_PivotedProblem.T14:=by kernel_rfl
theorem spec_PivotedProblem.bits14:waitsOk spec_PivotedProblem.T14.2 spec_PivotedProblem.B14=true:=by kernel_rfl
def spec_PivotedProblem.T16:Bool × List (List Nat × List Nat):=(true, [([], []),([0], [0]),([], []),([2], [2]),([], []),([3,4], [3,4]),([5], [5]),([], []),([7], [7]),([6,8], [6,8]),([9], [9]),([1,10], [1,10]),([0,1,2,3,4,5,6,7,8,9,10,11], []),([12,11,11,0,1,2,3,4,5,6,7,8,9,10,11], [11,12])])
def spec_PivotedProblem.B16:List Nat:= [0,1,0,4,0,28,60,0,128,508,1020,2047,4095,8191]
theorem spec_PivotedProblem.tab16:rtab .any (opsOf Try.f26 16)=spec_PivotedProblem.T16:=by kernel_rfl
theorem spec_PivotedProblem.bits16:waitsOk spec_PivotedProblem.T16.2 spec_PivotedProblem.B16=true:=by kernel_rfl
theorem spec_PivotedProblem.calls (k:Nat) (bE:Option Addr) (bF:Nat) (bh:List (List Int)) (bG:Option Addr) (bH:Nat) (bk:List Int) (a1:Int) (r1:List (List Int)) (r2:List Int) (r3:Int) (w:World) (dw:Kd.C (Kd.slice 2 (Kd.int .i64)) w bE bh.length bh) (dx:bh.length≤bF) (dz:Kd.C (Kd.int .i64) w bG bk.length bk) (dA:bk.length≤bH) (h:spec_PivotedProblem.f k bh bk a1=some (r1,r2,r3)):
  Calls Try.prog 26 #[.agg #[.slice bE bh.length bF, .slice bG bk.length bH], .int .i64 a1] w fun e w'=> ∃v0_ v1_:Value,e= .returned (.tuple #[.agg #[v0_,v1_], .int .i64 r3])∧Kd.S (Kd.slice 2 (Kd.int .i64)) 25 w' w.heap.size (fun k_=>some k_≠(v1_:Value).ownBlock) v0_ r1∧Kd.R (Kd.int .i64) 2 w' w.heap.size (fun _=>True) v1_ r2∧Below w.heap.size w w':=by
 have hu27:=Try.underlying27;have hu49:=Try.underlying49;have HR0_0:=q_ dw;have HC0_0:=q_ dx;clear dw dx;have HR0_1:=q_ dz;have HC0_1:=q_ dA;clear dz dA;have HB:=q_ (Below.refl w.heap.size w);have H:((spec_PivotOf.f k bh bk a1).bind fun bq=>(if bq.2.2.2=0 then((spec_l04Whole.f k bq.1 bq.2.1 bq.2.2.1).bind fun cA=>(spec_PivotedProblem.j0 k bq.2.2.2 (!cA) bq.1 bq.2.1 bq.2.2.1)) else(spec_PivotedProblem.j0 k bq.2.2.2 false bq.1 bq.2.1 bq.2.2.1)))=some (r1,r2,r3):=h;clear h;replace H:=Option.bind_eq_some_iff.mp H;obtain⟨⟨ay,aq,ag,bv⟩,A30,H⟩:=H;replace H:(if bv=0 then((spec_l04Whole.f k ay aq ag).bind fun cA=>(spec_PivotedProblem.j0 k bv (!cA) ay aq ag)) else(spec_PivotedProblem.j0 k bv false ay aq ag))=some (r1,r2,r3):=H;have A3:=q_ A30;clear A30;have HC4:=q_ H;clear H
 go_enter Try.func26,Try.ntmps26
 go_upto_region 2 with (first | ((with_reducible refine gate_dst (N:=2) rfl ?_);refine be_ 2 #[.slice bE bh.length bF, .slice bG bk.length bH] 27 ?_;intro aZ hg w5 hbox hb;have av:=q_ (hbox);have gJ:=gz_ w hg;have gK:=gz_ w hg;replace HB:=Bs_ hb;clear hb hbox hg) | ((with_reducible refine gate_dst (N:=4) rfl ?_);refine be_ 4 #[.slice none 0 0, .slice none 0 0] 27 ?_;intro aI hg w6 hbox hb;have aj:=q_ (hbox);have gL:=gz_ w hg;have gM:=gz_ w hg;have bI:=lz_ hg av;have bJ:=mz_ hg av;replace av:=Bb_ av hb;replace HB:=Bs_ hb;clear hb hbox hg;have jn:=bI.out;have jo:=bJ.out;obtain⟨cD,cE,cF,cG⟩:=c2_ av) | ((with_reducible refine gate_callee (f:=23) rfl ?_);refine gL_ 15 Try.func23 #[.agg #[.slice bE bh.length bF, .slice bG bk.length bH], .int .i64 a1] ?_;(with_reducible refine(spec_PivotOf.calls k _ _ bh _ _ bk a1 ay aq ag bv _ ?bL ?bM ?bN ?bO A3.out).mono ?_);(case bL=>exact cb_ HR0_0.out HB.out);(case bM=>exact HC0_0.out);(case bN=>exact cb_ HR0_1.out HB.out);(case bO=>exact HC0_1.out);rintro e w9 ⟨jp,jq,rfl,ho0,ho1,hb⟩;refine⟨_,rfl,?_⟩;have bC:=q_ (Kd.S_lower ho0 bz_);have bD:=q_ (Kd.R_lower ho1 bz_);replace av:=Bb_ av hb;replace aj:=Bb_ aj hb;replace HB:=Bs_ hb;(try clear hb);(try clear hk);(try clear ho0);(try clear ho1)) | ((with_reducible refine gate_dst (N:=6) rfl ?_);refine be_ 6 #[.int .i64 0, .slice none 0 0, .slice none 0 0] 49 ?_;intro ak hg w10 hbox hb;replace bC:=q_ (Kd.S_below (so_ bC.out) hb);replace bD:=Rb_ bD hb;have aa:=q_ (hbox);have gN:=gz_ w hg;have gO:=gz_ w hg;have aM:=lz_ hg av;have ba:=mz_ hg av;have aJ:=lz_ hg aj;have a9:=mz_ hg aj;replace av:=Bb_ av hb;replace aj:=Bb_ aj hb;replace HB:=Bs_ hb;clear hb hbox hg;have gP:=ba.out;have gQ:=aM.out;have gR:=a9.out;have gS:=aJ.out;obtain⟨bS,bT,bU,bV,bW,bX⟩:=c3_ aa;obtain⟨aK,aH,eB⟩:=Kd.S_slice bC.out;subst eB;obtain⟨aD,aA,eC⟩:=Kd.R_slice bD.out;subst eC))
 (try simp only [Act.put,List.setIfInBounds_toArray,List.set_cons_zero,List.set_cons_succ])
 go_cut [24] (fun v24 wc=> ∃(kq:Nat) (cO:Bool),v24= .bool cO∧Aside0 (spec_PivotedProblem.j0 kq bv cO ay aq ag=some (r1,r2,r3))∧Aside0 (kq≤k)∧Aside0 (Kd.S (Kd.slice 2 (Kd.int .i64)) 25 wc w.heap.size (fun k_=>some k_≠((.slice aD ag.length aA):Value).ownBlock) (.slice aK aq.length aH) aq)∧Aside0 (Kd.R (Kd.int .i64) 2 wc w.heap.size (fun _=>True) (.slice aD ag.length aA) ag)∧Aside0 (wc.heap[aZ]?=some (.cells #[(.slice bE bh.length bF),(.slice bG bk.length bH)] 27 (0,0)))∧Aside0 (wc.heap[aI]?=some (.cells #[(.slice none 0 0),(.slice none 0 0)] 27 (0,0)))∧Aside0 (wc.heap[ak]?=some (.cells #[.int .i64 ay,(.slice aK aq.length aH),(.slice aD ag.length aA)] 49 (0,0)))∧Aside0 (Below w.heap.size w wc))
 case first=>
  have H:=HC4.out;clear HC4
  by_cases c16:bv=0
  ·rw [if_pos c16] at H;have c16b0:=e1_ c16;have c16b1:=e2_ c16;clear c16
   (first | rw [c16b0] | (simp only [i64_w,i32_w];rw [c16b0]) | skip)
   replace H:=Option.bind_eq_some_iff.mp H;obtain⟨cA,A170,H⟩:=H;replace H:(spec_PivotedProblem.j0 k bv (!cA) ay aq ag)=some (r1,r2,r3):=H;have A17:=q_ A170;clear A170;have H':=q_ H;clear H;have gT:=ba.out;have gU:=aM.out;have gV:=a9.out;have gW:=aJ.out;obtain⟨bY,bZ,cf,cg,cm,cu⟩:=c3_ aa
   go_wp2_with (first | (go_at_call 63;(with_reducible refine(spec_l04Whole.calls k ay _ _ aq _ _ ag cA _ ?bL ?bM ?bN ?bO A17.out).mono ?_);(case bL=>refine(Kd.S_reads' (e:=25) (base:=w.heap.size) (ok:=fun k_=>some k_≠(.slice aD ag.length aA:Value).ownBlock) (n:=aq.length) (c:=aH) ?_).2.2;exact((kS_ (sf3_ bC.out aa.out) (fun _ h_=>h_.1))));(case bM=>exact(Kd.S_reads' bC.out).2.1);(case bN=>refine(Kd.R_reads' (e:=2) (base:=w.heap.size) (ok:=fun k_=>True) (n:=ag.length) (c:=aA) ?_).2.2;exact((kR_ (rf3_ bD.out aa.out) (fun _ h_=>h_.1))));(case bO=>exact(Kd.R_reads' bD.out).2.1);rintro e w21 ⟨rfl,hb⟩;replace bC:=q_ (Kd.S_below ((kS_ (sf3_ bC.out aa.out) (fun _ h_=>h_.1))) hb);replace bD:=q_ (Kd.R_below ((kR_ (rf3_ bD.out aa.out) (fun _ h_=>h_.1))) hb);replace av:=q_ (blk_below (g:=aZ) (o:= .cells #[.slice bE bh.length bF, .slice bG bk.length bH] 27 (0,0)) (bw_) hb);replace aj:=q_ (blk_below (g:=aI) (o:= .cells #[.slice none 0 0, .slice none 0 0] 27 (0,0)) (bw_) hb);replace HB:=Bs_ hb;replace aa:=q_ (blk_below (g:=ak) (o:= .cells #[.int .i64 ay, .slice aK aq.length aH, .slice aD ag.length aA] 49 (0,0)) (bw_) hb);(try clear hb);(try clear hk)))
   go_meet
   case rel=>exact⟨_,(!cA),rs_,H',⟨by first | omega | exact Nat.le_refl _⟩,⟨so_ bC.out⟩,⟨ro_ bD.out⟩,⟨bk_⟩,⟨bk_⟩,⟨bk_⟩,⟨hb_⟩⟩
  ·rw [if_neg c16] at H;have c16b0:=e3_ c16;have c16b1:=e4_ c16
   (first | rw [c16b0] | (simp only [i64_w,i32_w];rw [c16b0]) | skip)
   have H':=q_ H;clear H;go_wp2
   go_meet
   case rel=>exact⟨_,(false),rs_,H',⟨by first | omega | exact Nat.le_refl _⟩,⟨kS_ (sf3_ bC.out aa.out) (fun _ hk=>hk.1)⟩,⟨kR_ (rf3_ bD.out aa.out) (fun _ hk=>trivial)⟩,⟨bw_⟩,⟨bw_⟩,⟨bw_⟩,⟨hb_⟩⟩
 case rest=>
  clear HC4;(try clear c16);(try clear c16b0);(try clear c16b1);(try clear bS);(try clear bT);(try clear bU);(try clear bY);(try clear bZ);(try clear cf);(try clear cD);(try clear cE);(try clear bV);(try clear bW);(try clear bX);(try clear cg);(try clear cm);(try clear cu);(try clear cF);(try clear cG);obtain⟨kq,cO,rfl,HA,HJ3,ae,af,av,aj,aa,HB⟩:=hcut;cases kq with
  | zero=>exact absurd HA.out (by simp [spec_PivotedProblem.j0])
  | succ kj3=>
   have H:=HA.out;clear HA;simp only [spec_PivotedProblem.j0] at H;have HC22:=q_ H;clear H
   go_upto_if 24 with (fail)
   go_cut [7] (fun v7 wc=> ∃(kq:Nat) (bK:Int),v7= .int .i64 bK∧Aside0 (spec_PivotedProblem.j1 kq bK ay aq ag=some (r1,r2,r3))∧Aside0 (kq≤kj3)∧Aside0 (Kd.S (Kd.slice 2 (Kd.int .i64)) 25 wc w.heap.size (fun k_=>some k_≠((.slice aD ag.length aA):Value).ownBlock) (.slice aK aq.length aH) aq)∧Aside0 (Kd.R (Kd.int .i64) 2 wc w.heap.size (fun _=>True) (.slice aD ag.length aA) ag)∧Aside0 (wc.heap[aZ]?=some (.cells #[(.slice bE bh.length bF),(.slice bG bk.length bH)] 27 (0,0)))∧Aside0 (wc.heap[aI]?=some (.cells #[(.slice none 0 0),(.slice none 0 0)] 27 (0,0)))∧Aside0 (wc.heap[ak]?=some (.cells #[.int .i64 ay,(.slice aK aq.length aH),(.slice aD ag.length aA)] 49 (0,0)))∧Aside0 (Below w.heap.size w wc))
   case first=>
    have H:=HC22.out;clear HC22
    by_cases c23:cO=true
    ·subst c23;have H1:(spec_PivotedProblem.j1 kj3 5 ay aq ag)=some (r1,r2,r3):=by rw [if_pos rfl] at H;exact H
     clear H;have H:=H1;clear H1;have H':=q_ H;clear H;go_wp2
     go_meet
     case rel=>exact⟨_,(5),rs_,H',⟨by have:=HJ3.out;first | omega | exact Nat.le_refl _⟩,⟨so_ ae.out⟩,⟨ro_ af.out⟩,⟨bk_⟩,⟨bk_⟩,⟨bk_⟩,⟨hb_⟩⟩
    ·replace c23:=Bool.eq_false_iff.mpr c23;subst c23;have H1:(spec_PivotedProblem.j1 kj3 bv ay aq ag)=some (r1,r2,r3):=by rw [if_neg (show ¬ (false=true) by decide)] at H;exact H
     clear H;have H:=H1;clear H1;have H':=q_ H;clear H;go_wp2
     go_meet
     case rel=>exact⟨_,(bv),rs_,H',⟨by have:=HJ3.out;first | omega | exact Nat.le_refl _⟩,⟨so_ ae.out⟩,⟨ro_ af.out⟩,⟨bk_⟩,⟨bk_⟩,⟨bk_⟩,⟨hb_⟩⟩
   case rest=>
    clear HC22;(try clear c16);(try clear c16b0);(try clear c16b1);(try clear c23);(try clear bS);(try clear bT);(try clear bU);(try clear bY);(try clear bZ);(try clear cf);(try clear cD);(try clear cE);(try clear bV);(try clear bW);(try clear bX);(try clear cg);(try clear cm);(try clear cu);(try clear cF);(try clear cG);obtain⟨kq,bK,rfl,HA,HJ21,ae,af,av,aj,aa,HB⟩:=hcut;cases kq with
    | zero=>exact absurd HA.out (by simp [spec_PivotedProblem.j1])
    | succ kj21=>
     have H:=HA.out;clear HA;simp only [spec_PivotedProblem.j1] at H
     by_cases c24:bK=0
     ·rw [if_pos c24] at H;have c24b0:=e1_ c24;have c24b1:=e2_ c24;clear c24;obtain⟨bP,hy⟩: ∃y_:List (List Int),y_=(([]:List (List Int))):=⟨_,rfl⟩
      replace H:(spec_PivotedProblem.l0 kj21 0 ay aq ag bP (([]:List Int)))=some (r1,r2,r3):=hh_;have dB:=q_ hy;clear hy;obtain⟨cB,hy⟩: ∃y_:List Int,y_=(([]:List Int)):=⟨_,rfl⟩
      replace H:(spec_PivotedProblem.l0 kj21 0 ay aq ag bP cB)=some (r1,r2,r3):=hh_;have dC:=q_ hy;clear hy;have H':=q_ H;clear H
      go_wp2_with (first | ((with_reducible refine gate_dst (N:=29) rfl ?_);refine Kd.S_lit (Kd.slice 2 (Kd.int .i64)) _ 25 ?hg (N:=29) ?hd (xs:=([]:List (List Int))) (inner:= []) (ok:=fun _=>True) (okp:=fun _=>True) ?hr ?hp (fun _ hk=>hk) trivial (Below.refl _ _) (Nat.le_refl _) (by simp) ?_;(case hd=>rfl);(case hg=>rfl);(case hr=>first | (go_simp;done) | (go_simp;rfl));(case hp=>exact(Reps.none _ _));intro jr w25 cI hb hg_ hnew_;clear hg_ hnew_;(first | rw [← dB.out] at cI | (simp only [Int.reduceToNat] at cI;rw [← dB.out] at cI));have cz:=q_ (Kd.S_lower (Kd.S_new' (Kd.S_new' cI (Kd.S_lt (so_ ae.out))) (Kd.R_lt (ro_ af.out))) bz_);replace av:=Bb_ av hb;replace aj:=Bb_ aj hb;replace aa:=Bb_ aa hb;replace ae:=q_ (Kd.S_elder' (so_ ae.out) (Kd.S_base cI) hb);replace af:=Rb_ af hb;replace HB:=Bs_ hb;clear hb cI) | ((with_reducible refine gate_dst (N:=30) rfl ?_);refine Kd.R_lit (Kd.int .i64) _ 2 ?hg (N:=30) ?hd (xs:=([]:List Int)) (inner:= []) (ok:=fun _=>True) (okp:=fun _=>True) ?hr ?hp (fun _ hk=>hk) trivial (Below.refl _ _) (Nat.le_refl _) (by simp) ?_;(case hd=>rfl);(case hg=>rfl);(case hr=>first | (go_simp;done) | (go_simp;rfl));(case hp=>exact(Reps.none _ _));intro js w27 bR hb hg_ hnew_;clear hg_ hnew_;(first | rw [← dC.out] at bR | (simp only [Int.reduceToNat] at bR;rw [← dC.out] at bR));replace ae:=q_ (Kd.S_elder' (so_ ae.out) (Kd.R_base bR) hb);replace cz:=q_ (Kd.S_elder' (so_ cz.out) (Kd.R_base bR) hb);have cP:=q_ (Kd.R_lower (Kd.R_new' bR (Kd.R_lt (ro_ af.out))) bz_);replace av:=Bb_ av hb;replace aj:=Bb_ aj hb;replace aa:=Bb_ aa hb;replace af:=q_ (Kd.R_elder' (ro_ af.out) (Kd.R_base bR) hb);replace HB:=Bs_ hb;clear hb bR;obtain⟨cR,cT,eF⟩:=Kd.R_slice cP.out;subst eF;obtain⟨cJ,cK,eG⟩:=Kd.S_slice cz.out;subst eG) | ((with_reducible refine gate_dst (N:=8) rfl ?_);refine be_ 8 #[.slice none 0 0, .slice none 0 0] 27 ?_;intro aw hg w31 hbox hb;replace ae:=q_ (Kd.S_below (so_ ae.out) hb);replace af:=Rb_ af hb;replace cz:=q_ (Kd.S_below (so_ cz.out) hb);replace cP:=Rb_ cP hb;have ah:=q_ (hbox);have gX:=gz_ w hg;have gY:=gz_ w hg;have aV:=lz_ hg av;have bz:=mz_ hg av;have aW:=lz_ hg aj;have bA:=mz_ hg aj;have aQ:=lz_ hg aa;have bf:=mz_ hg aa;replace av:=Bb_ av hb;replace aj:=Bb_ aj hb;replace aa:=Bb_ aa hb;replace HB:=Bs_ hb;clear hb hbox hg;have gZ:=bz.out;have hU:=aV.out;have ia:=bA.out;have ib:=aW.out;have ig:=bf.out;have ij:=aQ.out;obtain⟨df,dh,di,dl⟩:=c2_ ah))
      go_loopg [9] kj21 (fun kq v9 w'=> ∃(aG:Int) (aC:List (List Int)) (az:List Int) (aN:Value) (ax:Value),v9= .int .i64 aG∧Aside0 (spec_PivotedProblem.l0 kq aG ay aq ag aC az=some (r1,r2,r3))∧Aside0 (kq≤kj21)∧Aside0 (Kd.S (Kd.slice 2 (Kd.int .i64)) 25 w' w.heap.size (fun k_=>some k_≠((.slice aD ag.length aA):Value).ownBlock∧some k_≠(aN:Value).ownBlock∧some k_≠(ax:Value).ownBlock) (.slice aK aq.length aH) aq)∧Aside0 (Kd.R (Kd.int .i64) 2 w' w.heap.size (fun k_=>some k_≠(ax:Value).ownBlock) (.slice aD ag.length aA) ag)∧Aside0 (Kd.S (Kd.slice 2 (Kd.int .i64)) 25 w' w.heap.size (fun k_=>some k_≠((.slice aK aq.length aH):Value).ownBlock∧some k_≠((.slice aD ag.length aA):Value).ownBlock∧some k_≠(ax:Value).ownBlock) aN aC)∧Aside0 (Kd.R (Kd.int .i64) 2 w' w.heap.size (fun k_=>some k_≠((.slice aD ag.length aA):Value).ownBlock) ax az)∧Aside0 (w'.heap[aZ]?=some (.cells #[(.slice bE bh.length bF),(.slice bG bk.length bH)] 27 (0,0)))∧Aside0 (w'.heap[aI]?=some (.cells #[(.slice none 0 0),(.slice none 0 0)] 27 (0,0)))∧Aside0 (w'.heap[ak]?=some (.cells #[.int .i64 ay,(.slice aK aq.length aH),(.slice aD ag.length aA)] 49 (0,0)))∧Aside0 (w'.heap[aw]?=some (.cells #[aN,ax] 27 (0,0)))∧Aside0 (Below w.heap.size w w'))
      case atStart=>exact⟨(0),(bP),(cB),(.slice cJ bP.length cK),(.slice cR cB.length cT),rs_,H',⟨Nat.le_refl _⟩,⟨kS_ (sf2_ ae.out ah.out) (fun _ hk=>⟨hk.1.1.1,⟨hk.1.1.2,hk.1.2⟩⟩)⟩,⟨kR_ (rf2_ af.out ah.out) (fun _ hk=>hk.1.2)⟩,⟨kS_ (sf2_ cz.out ah.out) (fun _ hk=>⟨hk.1.1.1.2,⟨hk.1.1.2,hk.1.2⟩⟩)⟩,⟨kR_ (rf2_ cP.out ah.out) (fun _ hk=>hk.1.2)⟩,⟨bw_⟩,⟨bw_⟩,⟨bw_⟩,⟨bw_⟩,⟨hb_⟩⟩
      case round=>
       clear H';(try clear c16);(try clear c16b0);(try clear c16b1);(try clear c23);(try clear c24);(try clear c24b0);(try clear c24b1);(try clear bS);(try clear bT);(try clear bU);(try clear bY);(try clear bZ);(try clear cf);(try clear df);(try clear dh);(try clear cD);(try clear cE);(try clear bV);(try clear bW);(try clear bX);(try clear cg);(try clear cm);(try clear cu);(try clear di);(try clear dl);(try clear cF);(try clear cG);obtain⟨aG,aC,az,aN,ax,rfl,HA,HK3,ae,af,au,ai,av,aj,aa,ah,HB⟩:=hrel;cases gk with
       | zero=>exact absurd HA.out (by simp [spec_PivotedProblem.l0])
       | succ k3=>
        have H:=HA.out;clear HA;simp only [spec_PivotedProblem.l0] at H
        by_cases c36:aG < (ag.length:Int)
        ·rw [if_pos c36] at H;have c36b0:=decide_eq_true c36;clear c36;obtain⟨dM,hy⟩: ∃y_:List Int,y_=(([]:List Int)):=⟨_,rfl⟩
         replace H:(spec_PivotedProblem.l1 k3 aG dM 0 ay aq ag aC az)=some (r1,r2,r3):=hh_;have dD:=q_ hy;clear hy;have H':=q_ H;clear H;have ik:=ba.out;have il:=aM.out;have iq:=a9.out;have iy:=aJ.out;have iz:=aQ.out;have iA:=bf.out;obtain⟨dG,dH,dI,dJ,dK,dL⟩:=c3_ aa
         go_wp2_with (first | ((with_reducible refine gate_dst (N:=39) rfl ?_);refine Kd.R_lit (Kd.int .i64) _ 2 ?hg (N:=39) ?hd (xs:=([]:List Int)) (inner:= []) (ok:=fun _=>True) (okp:=fun _=>True) ?hr ?hp (fun _ hk=>hk) trivial (Below.refl _ _) (Nat.le_refl _) (by simp) ?_;(case hd=>rfl);(case hg=>rfl);(case hr=>first | (go_simp;done) | (go_simp;rfl));(case hp=>exact(Reps.none _ _));intro jt w41 bQ hb hg_ hnew_;clear hg_ hnew_;(first | rw [← dD.out] at bQ | (simp only [Int.reduceToNat] at bQ;rw [← dD.out] at bQ));replace ae:=q_ (Kd.S_elder' (so_ ae.out) (Kd.R_base bQ) hb);replace au:=q_ (Kd.S_elder' (so_ au.out) (Kd.R_base bQ) hb);have dV:=q_ (Kd.R_lower (Kd.R_new' (Kd.R_new' bQ (Kd.R_lt (ro_ af.out))) (Kd.R_lt (ro_ ai.out))) bz_);replace av:=Bb_ av hb;replace aj:=Bb_ aj hb;replace aa:=Bb_ aa hb;replace ah:=Bb_ ah hb;replace af:=q_ (Kd.R_elder' (ro_ af.out) (Kd.R_base bQ) hb);replace ai:=q_ (Kd.R_elder' (ro_ ai.out) (Kd.R_base bQ) hb);replace HB:=Bs_ hb;clear hb bQ))
         go_loopg [10,11] k3 (fun kq v10 v11 w'=> ∃(bu:List Int) (aT:Int),v11= .int .i64 aT∧Aside0 (spec_PivotedProblem.l1 kq aG bu aT ay aq ag aC az=some (r1,r2,r3))∧Aside0 (kq≤k3)∧Aside0 (Kd.R (Kd.int .i64) 2 w' w.heap.size (fun k_=>some k_≠((.slice aD ag.length aA):Value).ownBlock∧some k_≠(ax:Value).ownBlock) v10 bu)∧Aside0 (Kd.S (Kd.slice 2 (Kd.int .i64)) 25 w' w.heap.size (fun k_=>some k_≠(v10:Value).ownBlock∧some k_≠((.slice aD ag.length aA):Value).ownBlock∧some k_≠(aN:Value).ownBlock∧some k_≠(ax:Value).ownBlock) (.slice aK aq.length aH) aq)∧Aside0 (Kd.R (Kd.int .i64) 2 w' w.heap.size (fun k_=>some k_≠(v10:Value).ownBlock∧some k_≠(ax:Value).ownBlock) (.slice aD ag.length aA) ag)∧Aside0 (Kd.S (Kd.slice 2 (Kd.int .i64)) 25 w' w.heap.size (fun k_=>some k_≠(v10:Value).ownBlock∧some k_≠((.slice aK aq.length aH):Value).ownBlock∧some k_≠((.slice aD ag.length aA):Value).ownBlock∧some k_≠(ax:Value).ownBlock) aN aC)∧Aside0 (Kd.R (Kd.int .i64) 2 w' w.heap.size (fun k_=>some k_≠(v10:Value).ownBlock∧some k_≠((.slice aD ag.length aA):Value).ownBlock) ax az)∧Aside0 (w'.heap[aZ]?=some (.cells #[(.slice bE bh.length bF),(.slice bG bk.length bH)] 27 (0,0)))∧Aside0 (w'.heap[aI]?=some (.cells #[(.slice none 0 0),(.slice none 0 0)] 27 (0,0)))∧Aside0 (w'.heap[ak]?=some (.cells #[.int .i64 ay,(.slice aK aq.length aH),(.slice aD ag.length aA)] 49 (0,0)))∧Aside0 (w'.heap[aw]?=some (.cells #[aN,ax] 27 (0,0)))∧Aside0 (Below w.heap.size w w'))
         case atStart=>exact⟨(dM),(0),rs_,H',⟨Nat.le_refl _⟩,⟨kR_ dV.out (fun _ hk=>⟨hk.1.2,hk.2⟩)⟩,⟨kS_ ae.out (fun _ hk=>⟨hk.2,⟨hk.1.1,⟨hk.1.2.1,hk.1.2.2⟩⟩⟩)⟩,⟨kR_ af.out (fun _ hk=>⟨hk.2,hk.1⟩)⟩,⟨kS_ au.out (fun _ hk=>⟨hk.2,⟨hk.1.1,⟨hk.1.2.1,hk.1.2.2⟩⟩⟩)⟩,⟨kR_ ai.out (fun _ hk=>⟨hk.2,hk.1⟩)⟩,⟨bk_⟩,⟨bk_⟩,⟨bk_⟩,⟨bk_⟩,⟨hb_⟩⟩
         case round=>
          clear H';(try clear c16);(try clear c16b0);(try clear c16b1);(try clear c23);(try clear c24);(try clear c24b0);(try clear c24b1);(try clear c36b0);(try clear bS);(try clear bT);(try clear bU);(try clear bY);(try clear bZ);(try clear cf);(try clear df);(try clear dh);(try clear dG);(try clear dH);(try clear dI);(try clear cD);(try clear cE);(try clear bV);(try clear bW);(try clear bX);(try clear cg);(try clear cm);(try clear cu);(try clear di);(try clear dl);(try clear dJ);(try clear dK);(try clear dL);(try clear cF);(try clear cG);obtain⟨bu,aT,rfl,HA,HK4,bg,ae,af,au,ai,av,aj,aa,ah,HB⟩:=hrel;cases gk with
          | zero=>exact absurd HA.out (by simp [spec_PivotedProblem.l1])
          | succ k4=>
           have H:=HA.out;clear HA;simp only [spec_PivotedProblem.l1] at H
           by_cases c43:aT < (ag.length:Int)
           ·rw [if_pos c43] at H;have c43b0:=decide_eq_true c43;clear c43
            by_cases c44:0≤aG
            ·rw [if_pos c44] at H;have c44b0:=decide_eq_true c44;clear c44
             by_cases c45:aG < (aq.length:Int)
             ·rw [if_pos c45] at H;have c45b0:=decide_eq_true c45;clear c45
              by_cases c46:0≤aT
              ·rw [if_pos c46] at H;have c46b0:=decide_eq_true c46;clear c46
               by_cases c47:aT < ((rd_L2 aq aG).length:Int)
               ·rw [if_pos c47] at H;have c47b0:=decide_eq_true c47;clear c47
                by_cases c48:ay=0
                ·rw [if_pos c48] at H;exact absurd H (by simp)
                ·rw [if_neg c48] at H;have c48b0:=e3_ c48;have c48b1:=e4_ c48
                 by_cases c49:bu.length < 17592186044416
                 ·rw [if_pos c49] at H;have dW:=q_ c49;clear c49;obtain⟨dN,hy⟩: ∃y_:List Int,y_=(bu++ [wrap64 (Int.tdiv (rd (rd_L2 aq aG) aT) ay)]):=⟨_,rfl⟩
                  replace H:(spec_PivotedProblem.l1 k4 aG dN (wrap64 (aT+1)) ay aq ag aC az)=some (r1,r2,r3):=hh_;have dX:=q_ hy;clear hy;have H':=q_ H;clear H;have iB:=ba.out;have iC:=aM.out;have iD:=a9.out;have iE:=aJ.out;have iF:=aQ.out;have iG:=bf.out;obtain⟨eY,eZ,fa,fc,fg,fj⟩:=c3_ aa
                  try go_wp2
                  replace bg:=q_ (Kd.R_drew bg.out);replace ae:=q_ (Kd.S_drew ae.out);replace af:=q_ (Kd.R_drew af.out);replace au:=q_ (Kd.S_drew au.out);replace ai:=q_ (Kd.R_drew ai.out);replace av:=q_ (blk_drew av.out);replace aj:=q_ (blk_drew aj.out);replace aa:=q_ (blk_drew aa.out);replace ah:=q_ (blk_drew ah.out);replace HB:=q_ (below_drew1 HB.out);have p558:0≤(aG:Int):=od_;have q558:aG < (aq.length:Int):=od_;obtain⟨cQ,gA,dP,e558,hx558_0,hl558_0,hi558_0⟩:=at_L2 (Kd.S_reads' ae.out).2.2 aG p558 q558;cases e558
                  obtain⟨ce558,hce558,hMe558,hcc558⟩:=Kd.S_get ae.out [] aG p558 (by first | exact q558 | exact od_ | (have e_:=(Kd.S_reads' ae.out).1;omega));obtain⟨ve558_0,rfl,ge558_0⟩:=hMe558;have hv558_0:=hcc558 0 _ rfl;rw [Nat.add_zero,show ((Kd.slice 2 (Kd.int .i64))).sz=1 from rfl,Nat.mul_one] at hv558_0;replace hv558_0:=Option.some.inj (hv558_0.symm.trans hx558_0);rw [hv558_0] at ge558_0;have HL558_0:=q_ (show Kd.R (Kd.int .i64) 2 _ _ _ _ (rd_L2 aq aG) from ge558_0);clear hv558_0 ge558_0 hcc558 hce558;have HR558_0:=q_ hi558_0;have HC558_0:=q_ hl558_0;clear hi558_0 hl558_0;replace p558:=eq_true p558;replace q558:=eq_true q558;have p559:0≤(aT:Int):=od_;have q559:aT < ((rd_L2 aq aG).length:Int):=od_;obtain⟨dE,e559,hx559_0⟩:=Kd.at_int (by repeat (first | (with_reducible exact HR558_0.out) | (with_reducible refine Kd.C_alloc ?_ _) | (with_reducible refine Kd.C_drewN ?_ _) | (with_reducible refine Kd.C_drew ?_) | exact HR558_0.out)) aT p559 q559;cases e559
                  replace p559:=eq_true p559;replace q559:=eq_true q559;refine st_ (n:=15) (S:=fun w'=>w'.cell? ⟨ak,0,none⟩=some (.int .i64 ay)∧w'.cell? ⟨ak,1,none⟩=some (.slice (some cQ) aq.length aH)∧w'.cell? ⟨ak,2,none⟩=some (.slice aD ag.length aA)∧w'.cell? (cQ.add (aG).toNat)=some (.slice (some dE) (rd_L2 aq aG).length dP)∧w'.cell? (dE.add (aT).toNat)=some (.int .i64 (rd (rd_L2 aq aG) aT))) (ds:= [12,13]) ⟨(blk_cell aa.out 0).trans rfl,(blk_cell aa.out 1).trans rfl,(blk_cell aa.out 2).trans rfl,hx558_0,hx559_0⟩ (fun hHeld=>?_);refine with_tabW spec_PivotedProblem.tab14 spec_PivotedProblem.bits14 (fun HT_ HW_=>?_)
                  generalize wr.drew=w54 at bg ae af au ai av aj aa ah HB HL558_0 HR558_0 hx558_0 hx559_0 hHeld ⊢
                  refine p4_ 0 47 1 48 3 50 6 53 ?_;refine pu_ 9 56 ?_;refine tk_ 2 49 ?_;refine pu_ 4 51 ?_;refine tk_ 5 52 ?_;refine pu_ 7 54 ?_;refine tk_ 8 55 ?_;refine tk_ 10 57 ?_;refine pu_ 11 58 ?_
                  refine la_ 12 (some 59) (fun K hK=>?_)
                  refine value_ (w1:=?_) (v:=?_) (by rfl) rfl ?_ ?_
                  rotate_left 2
                  ·go_simp
                   constructor
                   ·rfl
                   ·rfl
                  refine hK.out _ _ ?_
                  clear hK K;refine norm_ (a':=?_) ?_ ?_
                  rotate_left
                  ·show Act.put _ (some 59) _=_
                   simp only [Act.put,List.setIfInBounds_toArray,List.set_cons_zero,List.set_cons_succ,i64_w,i32_w]
                   rfl
                  refine la_ 13 (some 60) (fun K hK=>?_)
                  refine Kd.R_append_step (Kd.int .i64) (w0:=w) w.heap.size (by rfl) (.tmp 47) (.tmp 59) 25 2 (.int .i64 0) 8 rfl Try.underlying25 info2 rfl (by decide) (by omega) u10 bu (wrap64 (Int.tdiv (rd (rd_L2 aq aG) aT) ay)) [.int .i64 (wrap64 (Int.tdiv (rd (rd_L2 aq aG) aT) ay))] (fun k_=>some k_≠(.slice aD ag.length aA:Value).ownBlock∧some k_≠(ax:Value).ownBlock) (fun _=>False) rfl rfl ?aP (fun _ hk=>hk.elim) ?aF ?aO ?aB ?aS ?aL ?_
                  (case aP=>exact rfl)
                  (case aB=>exact hb_)
                  (case aF=>exact(fun k_ hk=>⟨Kd.fresh' (Kd.R_lt (ro_ af.out)) k_ hk,Kd.fresh' (Kd.R_lt (ro_ ai.out)) k_ hk⟩))
                  (case aO=>exact(ro_ bg.out))
                  (case aS=>exact bz_)
                  (case aL=>have:=dW.out;omega)
                  intro ju w55 ho hb hg hat;rw [← dX.out] at ho;replace ae:=q_ (Kd.S_after (ok:=(fun k_=>some k_≠(.slice aD ag.length aA:Value).ownBlock∧some k_≠(aN:Value).ownBlock∧some k_≠(ax:Value).ownBlock)) (kS_ ae.out (fun _ hk=>⟨⟨hk.2.1,⟨hk.2.2.1,hk.2.2.2⟩⟩,hk.1⟩)) hg hat);replace af:=q_ (Kd.R_after (ok:=(fun k_=>some k_≠(ax:Value).ownBlock)) (kR_ af.out (fun _ hk=>⟨hk.2,hk.1⟩)) hg hat);replace au:=q_ (Kd.S_after (ok:=(fun k_=>some k_≠(.slice (some cQ) aq.length aH:Value).ownBlock∧some k_≠(.slice aD ag.length aA:Value).ownBlock∧some k_≠(ax:Value).ownBlock)) (kS_ au.out (fun _ hk=>⟨⟨hk.2.1,⟨hk.2.2.1,hk.2.2.2⟩⟩,hk.1⟩)) hg hat);replace ai:=q_ (Kd.R_after (ok:=(fun k_=>some k_≠(.slice aD ag.length aA:Value).ownBlock)) (kR_ ai.out (fun _ hk=>⟨hk.2,hk.1⟩)) hg hat);replace av:=q_ (bg_ av.out hg (Kd.R_ne bg.out av.out (by decide)));replace aj:=q_ (bg_ aj.out hg (Kd.R_ne bg.out aj.out (by decide)));replace aa:=q_ (bg_ aa.out hg (Kd.R_ne bg.out aa.out (by decide)));replace ah:=q_ (bg_ ah.out hg (Kd.R_ne bg.out ah.out (by decide)));replace HL558_0:=q_ (Kd.R_after (ok:=(fun k_=>some k_≠(.slice (some cQ) aq.length aH:Value).ownBlock∧some k_≠(.slice aD ag.length aA:Value).ownBlock∧some k_≠(aN:Value).ownBlock∧some k_≠(ax:Value).ownBlock)) (kR_ HL558_0.out (fun _ hk=>⟨⟨hk.2,⟨hk.1.2.1,⟨hk.1.2.2.1,hk.1.2.2.2⟩⟩⟩,hk.1.1⟩)) hg hat);replace HB:=q_ (hb);have dY:=q_ (ho);clear bg ho hb hg hat;refine hK.out _ _ ?_
                  clear hK K;refine norm_ (a':=?_) ?_ ?_
                  rotate_left
                  ·show Act.put _ (some 60) _=_
                   simp only [Act.put,List.setIfInBounds_toArray,List.set_cons_zero,List.set_cons_succ,i64_w,i32_w]
                   rfl
                  refine pu_ 14 10 ?_
                  refine done_ (done_of HT_.out (by kernel_rfl)) ?_
                  try go_wp2
                  go_roundg k4
                  case measure=>have:=HJ3.out;have:=HJ21.out;have:=HK3.out;have:=HK4.out;omega
                  case rel=>exact⟨(dN),(wrap64 (aT+1)),rs_,H',⟨by have:=HJ3.out;have:=HJ21.out;have:=HK3.out;have:=HK4.out;omega⟩,⟨ro_ dY.out⟩,⟨kS_ ae.out (fun _ hk=>⟨hk.2,⟨hk.1.1,⟨hk.1.2.1,hk.1.2.2⟩⟩⟩)⟩,⟨kR_ af.out (fun _ hk=>⟨hk.2,hk.1⟩)⟩,⟨kS_ au.out (fun _ hk=>⟨hk.2,⟨hk.1.1,⟨hk.1.2.1,hk.1.2.2⟩⟩⟩)⟩,⟨kR_ ai.out (fun _ hk=>⟨hk.2,hk.1⟩)⟩,⟨bk_⟩,⟨bk_⟩,⟨bk_⟩,⟨bk_⟩,⟨hb_⟩⟩
                 ·rw [if_neg c49] at H;exact absurd H (by simp)
               ·rw [if_neg c47] at H;exact absurd H (by simp)
              ·rw [if_neg c46] at H;exact absurd H (by simp)
             ·rw [if_neg c45] at H;exact absurd H (by simp)
            ·rw [if_neg c44] at H;exact absurd H (by simp)
           ·rw [if_neg c43] at H;have c43b0:=decide_eq_false c43;clear c43
            by_cases c56:aC.length < 5864062014805
            ·rw [if_pos c56] at H;have dZ:=q_ c56;clear c56;obtain⟨aU,hy⟩: ∃y_:List (List Int),y_=(aC++ [bu]):=⟨_,rfl⟩
             replace H:(if 0≤aG then(if aG < (ag.length:Int) then(if ay=0 then(none) else(if az.length < 17592186044416 then(spec_PivotedProblem.l0 k4 (wrap64 (aG+1)) ay aq ag aU (az++ [wrap64 (Int.tdiv (rd ag aG) ay)])) else(none))) else(none)) else(none))=some (r1,r2,r3):=hh_;have d9:=q_ hy;clear hy
             by_cases c57:0≤aG
             ·rw [if_pos c57] at H;have c57b0:=decide_eq_true c57;clear c57
              by_cases c58:aG < (ag.length:Int)
              ·rw [if_pos c58] at H;have c58b0:=decide_eq_true c58;clear c58
               by_cases c59:ay=0
               ·rw [if_pos c59] at H;exact absurd H (by simp)
               ·rw [if_neg c59] at H;have c59b0:=e3_ c59;have c59b1:=e4_ c59
                by_cases c60:az.length < 17592186044416
                ·rw [if_pos c60] at H;have ed:=q_ c60;clear c60;obtain⟨cC,hy⟩: ∃y_:List Int,y_=(az++ [wrap64 (Int.tdiv (rd ag aG) ay)]):=⟨_,rfl⟩
                 replace H:(spec_PivotedProblem.l0 k4 (wrap64 (aG+1)) ay aq ag aU cC)=some (r1,r2,r3):=hh_;have ek:=q_ hy;clear hy;have H':=q_ H;clear H;have iH:=ba.out;have iI:=aM.out;have iJ:=a9.out;have iK:=aJ.out;have iL:=aQ.out;have iM:=bf.out;obtain⟨fk,fo,fp,fq,fu,fw⟩:=c3_ aa;have iN:=bz.out;have iO:=aV.out;have iP:=bA.out;have iQ:=aW.out;obtain⟨fA,fB,fC,fD⟩:=c2_ ah;obtain⟨dr,du,eH⟩:=Kd.R_slice bg.out;subst eH
                 try go_wp2_with (first | ((with_reducible refine gate_builtin (b:= .append) (xs:= #[.tmp 62, .tmp 64]) rfl ?_);at_builtin;refine Kd.S_append (Kd.slice 2 (Kd.int .i64)) (w0:=w) w.heap.size rfl (.tmp 62) (.tmp 64) 24 25 (.slice none 0 0) 24 rfl Try.underlying24 info25 rfl (by decide) (by omega) aN aC bu [.slice dr bu.length du] (fun k_=>some k_≠(.slice aK aq.length aH:Value).ownBlock∧some k_≠(.slice aD ag.length aA:Value).ownBlock∧some k_≠(ax:Value).ownBlock) (fun k_=>some k_=(.slice dr bu.length du:Value).ownBlock) rfl rfl ?aP (fun k_ hk_=>((Kd.R_mono (ok':=fun k_=>((fun k_=>some k_≠(.slice aK aq.length aH:Value).ownBlock∧some k_≠(.slice aD ag.length aA:Value).ownBlock∧some k_≠(ax:Value).ownBlock)) k_∧some k_≠(aN:Value).ownBlock) (Kd.R_apart' (Kd.R_apart' (bg.out) (Kd.S_typed ae.out) (by decide)) (Kd.S_typed au.out) (by decide)) (fun k_ hk=>⟨⟨hk.1.2,⟨hk.1.1.1,hk.1.1.2⟩⟩,hk.2⟩))).1 k_ hk_.symm) ?aF ?aO ?aB ?aS ?aL ?_;(case aP=>exact Kd.M_row (Kd.R_mono (Kd.R_tight rfl (Kd.R_mono (ok':=fun k_=>((fun k_=>some k_≠(.slice aK aq.length aH:Value).ownBlock∧some k_≠(.slice aD ag.length aA:Value).ownBlock∧some k_≠(ax:Value).ownBlock)) k_∧some k_≠(aN:Value).ownBlock) (Kd.R_apart' (Kd.R_apart' (bg.out) (Kd.S_typed ae.out) (by decide)) (Kd.S_typed au.out) (by decide)) (fun k_ hk=>⟨⟨hk.1.2,⟨hk.1.1.1,hk.1.1.2⟩⟩,hk.2⟩))) (fun _ h_=>h_)));(case aB=>exact hb_);(case aF=>exact(fun k_ hk=>⟨Kd.fresh' (Kd.S_lt (so_ ae.out)) k_ hk,Kd.fresh' (Kd.R_lt (ro_ af.out)) k_ hk,Kd.fresh' (Kd.R_lt (ro_ ai.out)) k_ hk⟩));(case aO=>exact(kS_ au.out (fun k_ hk=>⟨⟨hk.2.1,⟨hk.2.2.1,hk.2.2.2⟩⟩,fun e_=>hk.1 e_⟩)));(case aS=>exact bz_);(case aL=>have:=dZ.out;omega);intro jv w68 ho hb hg hat;rw [← d9.out] at ho;replace ae:=q_ (Kd.S_after (ok:=(fun k_=>some k_≠(.slice dr bu.length du:Value).ownBlock∧some k_≠(.slice aD ag.length aA:Value).ownBlock∧some k_≠(ax:Value).ownBlock)) (kS_ ae.out (fun _ hk=>⟨⟨hk.1,⟨hk.2.1,hk.2.2.2⟩⟩,hk.2.2.1⟩)) hg hat);replace af:=q_ (Kd.R_over' (ro_ af.out) (Kd.S_typed (so_ au.out)) (by decide) hg);replace ai:=q_ (Kd.R_over' (ro_ ai.out) (Kd.S_typed (so_ au.out)) (by decide) hg);replace av:=q_ (bg_ av.out hg (Kd.S_ne au.out av.out (by decide)));replace aj:=q_ (bg_ aj.out hg (Kd.S_ne au.out aj.out (by decide)));replace aa:=q_ (bg_ aa.out hg (Kd.S_ne au.out aa.out (by decide)));replace ah:=q_ (bg_ ah.out hg (Kd.S_ne au.out ah.out (by decide)));replace HB:=q_ (hb);have bw:=q_ (ho);clear au bg ho hb hg hat;obtain⟨aX,aY,eI⟩:=Kd.S_slice bw.out;subst eI;obtain⟨fE,fF,fG,fH⟩:=c2_ ah))
                 have n0_:Aside0 (Kd.S (Kd.slice 2 (Kd.int .i64)) 25 (w68.setCell ⟨aw,0,none⟩ (.slice aX aU.length aY)) w.heap.size (fun k_=>some k_≠(.slice aD ag.length aA:Value).ownBlock∧some k_≠(ax:Value).ownBlock∧some k_≠(.slice aX aU.length aY:Value).ownBlock) (.slice aK aq.length aH) aq):=⟨kS_ (Kd.S_far (p:=⟨aw,0,none⟩) (Kd.S_types ae.out ah.out (by decide)) (fun _ hk=>hk.2) (.slice aX aU.length aY)) (fun _ hk=>⟨hk.1.1.2.1,⟨hk.1.1.2.2,hk.1.2⟩⟩)⟩
                 have n1_:Aside0 (Kd.R (Kd.int .i64) 2 (w68.setCell ⟨aw,0,none⟩ (.slice aX aU.length aY)) w.heap.size (fun k_=>some k_≠(ax:Value).ownBlock) (.slice aD ag.length aA) ag):=⟨kR_ (Kd.R_far (p:=⟨aw,0,none⟩) (Kd.R_types af.out ah.out (by decide)) (fun _ hk=>hk.2) (.slice aX aU.length aY)) (fun _ hk=>hk.1.2)⟩
                 have n2_:Aside0 (Kd.R (Kd.int .i64) 2 (w68.setCell ⟨aw,0,none⟩ (.slice aX aU.length aY)) w.heap.size (fun k_=>some k_≠(.slice aD ag.length aA:Value).ownBlock) ax az):=⟨kR_ (Kd.R_far (p:=⟨aw,0,none⟩) (Kd.R_types ai.out ah.out (by decide)) (fun _ hk=>hk.2) (.slice aX aU.length aY)) (fun _ hk=>hk.1.2)⟩
                 have n3_:Aside0 (Kd.S (Kd.slice 2 (Kd.int .i64)) 25 (w68.setCell ⟨aw,0,none⟩ (.slice aX aU.length aY)) w.heap.size (fun k_=>some k_≠(.slice aK aq.length aH:Value).ownBlock∧some k_≠(.slice aD ag.length aA:Value).ownBlock∧some k_≠(ax:Value).ownBlock) (.slice aX aU.length aY) aU):=⟨kS_ (Kd.S_far (p:=⟨aw,0,none⟩) (Kd.S_types bw.out ah.out (by decide)) (fun _ hk=>hk.2) (.slice aX aU.length aY)) (fun _ hk=>⟨hk.1.1,⟨hk.1.2.1,hk.1.2.2⟩⟩)⟩
                 have n4_:Aside0 ((w68.setCell ⟨aw,0,none⟩ (.slice aX aU.length aY)).heap[aZ]?=some (.cells #[.slice bE bh.length bF, .slice bG bk.length bH] 27 (0,0))):=⟨bw_⟩
                 have n5_:Aside0 ((w68.setCell ⟨aw,0,none⟩ (.slice aX aU.length aY)).heap[aI]?=some (.cells #[.slice none 0 0, .slice none 0 0] 27 (0,0))):=⟨bw_⟩
                 have n6_:Aside0 ((w68.setCell ⟨aw,0,none⟩ (.slice aX aU.length aY)).heap[ak]?=some (.cells #[.int .i64 ay, .slice aK aq.length aH, .slice aD ag.length aA] 49 (0,0))):=⟨bw_⟩
                 have n7_:Aside0 ((w68.setCell ⟨aw,0,none⟩ (.slice aX aU.length aY)).heap[aw]?=some (.cells #[.slice aX aU.length aY,ax] 27 (0,0))):=⟨bw_⟩
                 have n8_:Aside0 (Below w.heap.size w (w68.setCell ⟨aw,0,none⟩ (.slice aX aU.length aY))):=⟨hb_⟩
                 (try clear ae);(try clear af);(try clear ai);(try clear bw);(try clear av);(try clear aj);(try clear aa);(try clear ah);(try clear HB)
                 generalize (w68.setCell ⟨aw,0,none⟩ (.slice aX aU.length aY))=w72 at n0_ n1_ n2_ n3_ n4_ n5_ n6_ n7_ n8_ ⊢
                 have ae:=n0_;have af:=n1_;have ai:=n2_;have bw:=n3_;have av:=n4_;have aj:=n5_;have aa:=n6_;have ah:=n7_;have HB:=n8_;clear n0_ n1_ n2_ n3_ n4_ n5_ n6_ n7_ n8_;replace ae:=q_ (Kd.S_drew ae.out);replace af:=q_ (Kd.R_drew af.out);replace ai:=q_ (Kd.R_drew ai.out);replace bw:=q_ (Kd.S_drew bw.out);replace av:=q_ (blk_drew av.out);replace aj:=q_ (blk_drew aj.out);replace aa:=q_ (blk_drew aa.out);replace ah:=q_ (blk_drew ah.out);replace HB:=q_ (below_drew1 HB.out);have p566:0≤(aG:Int):=od_;have q566:aG < (ag.length:Int):=od_;obtain⟨cH,e566,hx566_0⟩:=Kd.at_int (Kd.R_reads' af.out).2.2 aG p566 q566;cases e566
                 replace p566:=eq_true p566;replace q566:=eq_true q566;refine st_ (n:=14) (S:=fun w'=>w'.cell? ⟨aw,0,none⟩=some (.slice aX aU.length aY)∧w'.cell? ⟨aw,1,none⟩=some (ax)∧w'.cell? ⟨ak,0,none⟩=some (.int .i64 ay)∧w'.cell? ⟨ak,1,none⟩=some (.slice aK aq.length aH)∧w'.cell? ⟨ak,2,none⟩=some (.slice (some cH) ag.length aA)∧w'.cell? (cH.add (aG).toNat)=some (.int .i64 (rd ag aG))) (ds:= [11,13]) ⟨(blk_cell ah.out 0).trans rfl,(blk_cell ah.out 1).trans rfl,(blk_cell aa.out 0).trans rfl,(blk_cell aa.out 1).trans rfl,(blk_cell aa.out 2).trans rfl,hx566_0⟩ (fun hHeld=>?_);refine with_tabW spec_PivotedProblem.tab16 spec_PivotedProblem.bits16 (fun HT_ HW_=>?_)
                 generalize w72.drew=w73 at ae af ai bw av aj aa ah HB hx566_0 hHeld ⊢
                 refine p4_ 0 67 2 69 4 71 7 74 ?_;refine tk_ 1 68 ?_;refine tk_ 3 70 ?_;refine pu_ 5 72 ?_;refine tk_ 6 73 ?_;refine tk_ 8 75 ?_;refine pu_ 9 76 ?_
                 refine on_ 10 (some 77) (fun K hK=>?_)
                 refine value_ (w1:=?_) (v:=?_) (by rfl) rfl ?_ ?_
                 rotate_left 2
                 ·go_simp
                  constructor
                  ·rfl
                  ·rfl
                 refine hK.out _ _ ⟨(blk_cell (blk_alloc ah.out _) 0).trans rfl,(blk_cell (blk_alloc ah.out _) 1).trans rfl,(blk_cell (blk_alloc aa.out _) 0).trans rfl,(blk_cell (blk_alloc aa.out _) 1).trans rfl,(blk_cell (blk_alloc aa.out _) 2).trans rfl,(World.cell?_alloc_lt _ _ _ (World.block_lt_of_cell? _ _ (hHeld.2.2.2.2.2))).trans (hHeld.2.2.2.2.2)⟩ (fun hHeld=>?_)
                 clear hK K;refine norm_ (a':=?_) ?_ ?_
                 rotate_left
                 ·show Act.put _ (some 77) _=_
                  simp only [Act.put,List.setIfInBounds_toArray,List.set_cons_zero,List.set_cons_succ,i64_w,i32_w]
                  rfl
                 refine la_ 11 (some 78) (fun K hK=>?_)
                 refine Kd.R_append_step (Kd.int .i64) (w0:=w) w.heap.size (by rfl) (.tmp 68) (.tmp 77) 25 2 (.int .i64 0) 8 rfl Try.underlying25 info2 rfl (by decide) (by omega) ax az (wrap64 (Int.tdiv (rd ag aG) ay)) [.int .i64 (wrap64 (Int.tdiv (rd ag aG) ay))] (fun k_=>some k_≠(.slice (some cH) ag.length aA:Value).ownBlock) (fun _=>False) rfl rfl ?aP (fun _ hk=>hk.elim) ?aF ?aO ?aB ?aS ?aL ?_
                 (case aP=>exact rfl)
                 (case aB=>exact hb_)
                 (case aF=>exact(fun k_ hk=>Kd.fresh' (Kd.R_lt (ro_ af.out)) k_ hk))
                 (case aO=>exact(ro_ ai.out))
                 (case aS=>exact bz_)
                 (case aL=>have:=ed.out;omega)
                 intro jw w74 ho hb hg hat;rw [← ek.out] at ho;replace ae:=q_ (Kd.S_after (ok:=(fun k_=>some k_≠(.slice (some cH) ag.length aA:Value).ownBlock∧some k_≠(.slice aX aU.length aY:Value).ownBlock)) (kS_ ae.out (fun _ hk=>⟨⟨hk.1,hk.2.2⟩,hk.2.1⟩)) hg hat);replace af:=q_ (Kd.R_after (ok:=(fun _=>True)) (kR_ af.out (fun _ hk=>⟨trivial,hk⟩)) hg hat);replace av:=q_ (bg_ av.out hg (Kd.R_ne ai.out av.out (by decide)));replace aj:=q_ (bg_ aj.out hg (Kd.R_ne ai.out aj.out (by decide)));replace aa:=q_ (bg_ aa.out hg (Kd.R_ne ai.out aa.out (by decide)));replace ah:=q_ (bg_ ah.out hg (Kd.R_ne ai.out ah.out (by decide)));replace bw:=q_ (Kd.S_after (ok:=(fun k_=>some k_≠(.slice aK aq.length aH:Value).ownBlock∧some k_≠(.slice (some cH) ag.length aA:Value).ownBlock)) (kS_ bw.out (fun _ hk=>⟨⟨hk.1,hk.2.1⟩,hk.2.2⟩)) hg hat);replace HB:=q_ (hb);have dF:=q_ (ho);clear ai ho hb hg hat;obtain⟨cU,cV,dQ⟩:=Kd.R_slice dF.out
                 (first | subst dQ | (injection dQ with f1_ f2_ f3_;have f4_:=f1_.symm;have f5_:=f3_.symm;clear f1_ f2_ f3_;subst f4_;subst f5_))
                 refine hK.out _ _ ?_
                 clear hK K;refine norm_ (a':=?_) ?_ ?_
                 rotate_left
                 ·show Act.put _ (some 78) _=_
                  simp only [Act.put,List.setIfInBounds_toArray,List.set_cons_zero,List.set_cons_succ,i64_w,i32_w]
                  rfl
                 refine pu_ 12 79 ?_
                 refine la_ 13 none (fun K hK=>?_)
                 have hs76:=cz_ ah 1;have hfs76:=blk_frozen ah.out 1;have hns76_0:=aV.out;have hns76_1:=aW.out;have hns76_2:=aQ.out;have hms76_0:=bz.out;have hms76_1:=bA.out;have hms76_2:=bf.out;refine skip_ (w1:=?_) (by rfl) rfl ?_ ?_
                 rotate_left
                 ·go_simp
                  rfl
                 refine hK.out _ _ ?_
                 clear hK K;refine done_ (done_of HT_.out (by kernel_rfl)) ?_
                 try go_wp2
                 go_roundg k4
                 case measure=>have:=HJ3.out;have:=HJ21.out;have:=HK3.out;have:=HK4.out;omega
                 case rel=>exact⟨(wrap64 (aG+1)),(aU),(cC),(.slice aX aU.length aY),(.slice cU cC.length cV),rs_,H',⟨by have:=HJ3.out;have:=HJ21.out;have:=HK3.out;have:=HK4.out;omega⟩,⟨kS_ (Kd.S_far (p:=⟨aw,1,none⟩) (Kd.S_types ae.out ah.out (by decide)) (fun _ hk=>hk.2) (.slice cU cC.length cV)) (fun _ hk=>⟨hk.1.1.1,⟨hk.1.1.2,hk.1.2⟩⟩)⟩,⟨kR_ (Kd.R_far (p:=⟨aw,1,none⟩) (Kd.R_types af.out ah.out (by decide)) (fun _ hk=>hk.2) (.slice cU cC.length cV)) (fun _ hk=>hk.1.2)⟩,⟨kS_ (Kd.S_far (p:=⟨aw,1,none⟩) (Kd.S_types bw.out ah.out (by decide)) (fun _ hk=>hk.2) (.slice cU cC.length cV)) (fun _ hk=>⟨hk.1.1.1,⟨hk.1.1.2,hk.1.2⟩⟩)⟩,⟨kR_ (Kd.R_far (p:=⟨aw,1,none⟩) (Kd.R_types dF.out ah.out (by decide)) (fun _ hk=>hk.2) (.slice cU cC.length cV)) (fun _ hk=>hk.1)⟩,⟨bw_⟩,⟨bw_⟩,⟨bw_⟩,⟨bw_⟩,⟨hb_⟩⟩
                ·rw [if_neg c60] at H;exact absurd H (by simp)
              ·rw [if_neg c58] at H;exact absurd H (by simp)
             ·rw [if_neg c57] at H;exact absurd H (by simp)
            ·rw [if_neg c56] at H;exact absurd H (by simp)
        ·rw [if_neg c36] at H;have c36b0:=decide_eq_false c36;clear c36;replace H:=Option.bind_eq_some_iff.mp H;obtain⟨dU,A770,H⟩:=H;replace H:(if dU=true then(some (aC,az,0)) else(some (([]:List (List Int)),([]:List Int),3)))=some (r1,r2,r3):=H;have A77:=q_ A770;clear A770
         by_cases c78:dU=true
         ·subst c78;have H1:(some (aC,az,0))=some (r1,r2,r3):=by rw [if_pos rfl] at H;exact H
          clear H;have H:=H1;clear H1;simp only [Option.some.injEq,Prod.mk.injEq] at H;obtain⟨rfl,rfl,rfl⟩:=H;have iR:=ba.out;have iS:=aM.out;have iT:=a9.out;have iU:=aJ.out;have iV:=aQ.out;have iW:=bf.out;obtain⟨fI,fJ,fK,fL,fM,fN⟩:=c3_ aa;have iX:=bz.out;have iY:=aV.out;have iZ:=bA.out;have i9:=aW.out;obtain⟨fO,fP,fQ,fR⟩:=c2_ ah;obtain⟨cL,cN,eJ⟩:=Kd.S_slice au.out;subst eJ;obtain⟨cZ,da,eK⟩:=Kd.R_slice ai.out;subst eK
          go_wp2_with (first | ((with_reducible refine gate_callee (f:=55) rfl ?_);refine gL_ 81 Try.func55 #[.agg #[.slice cL aC.length cN, .slice cZ az.length da]] ?_;(with_reducible refine(spec_l01Is.calls k3 _ _ aC _ _ az true _ ?bL ?bM ?bN ?bO A77.out).mono ?_);(case bL=>exact cS_);(case bM=>exact(Kd.S_reads' au.out).2.1);(case bN=>exact cR_);(case bO=>exact(Kd.R_reads' ai.out).2.1);rintro e w88 ⟨rfl,hb⟩;refine⟨_,rfl,?_⟩;replace ae:=q_ (Kd.S_below (so_ ae.out) hb);replace af:=Rb_ af hb;replace au:=q_ (Kd.S_below (so_ au.out) hb);replace ai:=Rb_ ai hb;replace av:=Bb_ av hb;replace aj:=Bb_ aj hb;replace aa:=Bb_ aa hb;replace ah:=Bb_ ah hb;replace HB:=Bs_ hb;(try clear hb);(try clear hk);obtain⟨fS,fT,fU,fV⟩:=c2_ ah;have ja:=bJ.out;have jb:=bI.out;obtain⟨fW,fZ,f7,f8⟩:=c2_ aj))
          refine bodyPost_ret (results_ct rfl _ _ aI 27 #[.slice cL aC.length cN, .slice cZ az.length da] (0,0) _ rfl (bw_) Try.underlying27 rfl (by kernel_rfl)) rfl ?_
          exact⟨_,_,ew_,kS_ (sf2_ au.out aj.out) (fun _ hk=>hk.1.2.2),kR_ (rf2_ ai.out aj.out) (fun _ hk=>trivial),hb_⟩
         ·replace c78:=Bool.eq_false_iff.mpr c78;subst c78;have H1:(some (([]:List (List Int)),([]:List Int),3))=some (r1,r2,r3):=by rw [if_neg (show ¬ (false=true) by decide)] at H;exact H
          clear H;have H:=H1;clear H1;simp only [Option.some.injEq,Prod.mk.injEq] at H;obtain⟨rfl,rfl,rfl⟩:=H;have jc:=ba.out;have jd:=aM.out;have je:=a9.out;have jf:=aJ.out;have jg:=aQ.out;have jh:=bf.out;obtain⟨f9,ga,gh,gi,gj,gp⟩:=c3_ aa;have ji:=bz.out;have jk:=aV.out;have jl:=bA.out;have jm:=aW.out;obtain⟨gu,gx,gy,gz⟩:=c2_ ah;obtain⟨eL,eM,eO⟩:=Kd.S_slice au.out;subst eO;obtain⟨ep,eu,ez⟩:=Kd.R_slice ai.out;subst ez
          go_wp2_with (first | ((with_reducible refine gate_callee (f:=55) rfl ?_);refine gL_ 81 Try.func55 #[.agg #[.slice eL aC.length eM, .slice ep az.length eu]] ?_;(with_reducible refine(spec_l01Is.calls k3 _ _ aC _ _ az false _ ?bL ?bM ?bN ?bO A77.out).mono ?_);(case bL=>exact cS_);(case bM=>exact(Kd.S_reads' au.out).2.1);(case bN=>exact cR_);(case bO=>exact(Kd.R_reads' ai.out).2.1);rintro e w101 ⟨rfl,hb⟩;refine⟨_,rfl,?_⟩;replace ae:=q_ (Kd.S_below (so_ ae.out) hb);replace af:=Rb_ af hb;replace au:=q_ (Kd.S_below (so_ au.out) hb);replace ai:=Rb_ ai hb;replace av:=Bb_ av hb;replace aj:=Bb_ aj hb;replace aa:=Bb_ aa hb;replace ah:=Bb_ ah hb;replace HB:=Bs_ hb;(try clear hb);(try clear hk);have gB:=bJ.out;have gC:=bI.out;obtain⟨eP,eQ,eS,eT⟩:=c2_ aj))
          refine bodyPost_ret (results_ct rfl _ _ aI 27 #[.slice none 0 0, .slice none 0 0] (0,0) _ rfl (bw_) Try.underlying27 rfl (by kernel_rfl)) rfl ?_
          exact⟨_,_,ew_,by first | exact Kd.S_nil _ _ _ _ _ | exact Kd.N_nil _ _ _ _ _ | exact Kd.V_nil _ _ _ _ _ | exact Kd.Q_nil _ _ _ _ _ | exact Kd.R_nil _ _ _ _ _,by first | exact Kd.R_nil _ _ _ _ _ | exact Kd.N_nil _ _ _ _ _ | exact Kd.V_nil _ _ _ _ _ | exact Kd.Q_nil _ _ _ _ _ | exact Kd.S_nil _ _ _ _ _,hb_⟩
     ·rw [if_neg c24] at H;have c24b0:=e3_ c24;have c24b1:=e4_ c24;simp only [Option.some.injEq,Prod.mk.injEq] at H;obtain⟨rfl,rfl,rfl⟩:=H;have gF:=bJ.out;have gG:=bI.out;have gH:=aJ.out;have gI:=a9.out;obtain⟨eU,eV,eW,eX⟩:=c2_ aj;go_wp2
      refine bodyPost_ret (results_ct rfl _ _ aI 27 #[.slice none 0 0, .slice none 0 0] (0,0) _ rfl (bw_) Try.underlying27 rfl (by kernel_rfl)) rfl ?_
      exact⟨_,_,ew_,by first | exact Kd.S_nil _ _ _ _ _ | exact Kd.N_nil _ _ _ _ _ | exact Kd.V_nil _ _ _ _ _ | exact Kd.Q_nil _ _ _ _ _ | exact Kd.R_nil _ _ _ _ _,by first | exact Kd.R_nil _ _ _ _ _ | exact Kd.N_nil _ _ _ _ _ | exact Kd.V_nil _ _ _ _ _ | exact Kd.Q_nil _ _ _ _ _ | exact Kd.S_nil _ _ _ _ _,hb_⟩
end Go.Proofs.Ytbjljcpngbhkeaa.Pr
end
section
namespace Go.Proofs.Ytbjljcpngbhkeaa.Pp
open Go.RowKit Wz.PrintWords Wz.PrintMore Ma Pr Dt Bz Un Cz Pb Mn Sv Pv La Hm
def dR (d:Int) (R:List (List Int)) (i:Nat):List (List Int):=(List.range i).map fun r=>dvL d (R.getD r [])
def dS (d:Int) (S:List Int) (i:Nat):List Int:=(List.range i).map fun r=>wrap64 (Int.tdiv (S.getD r 0) d)
theorem dR_len (d:Int) (R:List (List Int)) (i:Nat):(dR d R i).length=i:=by simp [dR]
theorem dS_len (d:Int) (S:List Int) (i:Nat):(dS d S i).length=i:=by simp [dS]
theorem dR_succ (d:Int) (R:List (List Int)) (i:Nat):dR d R (i+1)=dR d R i++ [dvL d (R.getD i [])]:=by simp [dR,List.range_succ]
theorem dS_succ (d:Int) (S:List Int) (i:Nat):dS d S (i+1)=dS d S i++ [wrap64 (Int.tdiv (S.getD i 0) d)]:=by simp [dS,List.range_succ]
theorem dS_all (d:Int) (S:List Int):dS d S S.length=dvL d S:=by
 apply List.ext_getElem
 ·simp [dS,dvL]
 ·intro r h1 h2
  have hr:r < S.length:=by simpa [dS] using h1
  simp [dS,dvL,hr]
theorem dR_all (d:Int) (R:List (List Int)):dR d R R.length=R.map (dvL d):=by
 apply List.ext_getElem
 ·simp [dR]
 ·intro r h1 h2
  have hr:r < R.length:=by simpa [dR] using h1
  simp [dR,hr]
section
variable {n:Nat} (hn:n≤5) (R:List (List Int)) (S:List Int) (hR:R.length=n) (hr: ∀i,i < n→(R.getD i []).length=n) (hS:S.length=n) {den:Int} (hd:den≠0)
include hn hR hr hS hd
theorem spec_divided (Z:List (List Int) × List Int × Int) (hZ:Ev (fun k=>(spec_l01Is.f k (dR den R n) (dS den S n)).bind fun t=>if t=true then some (dR den R n,dS den S n,0) else some (([]:List (List Int)),([]:List Int),3)) Z): ∀q i,i+q=n→Ev (fun k=>spec_PivotedProblem.l0 k (i:Int) den R S (dR den R i) (dS den S i)) Z:=by
 intro q
 induction q with
 | zero=>
  intro i hi
  obtain rfl:i=n:=by omega
  exact evstep (fun k=>by rw [spec_PivotedProblem.l0]) (evneg (by omega) hZ)
 | succ q ih=>
  intro i hi
  have nx:=ih (i+1) (by omega)
  rw [dR_succ,dS_succ] at nx
  have hl:=hr i (by omega)
  have cols: ∀p c,c+p=n→Ev (fun k=>spec_PivotedProblem.l1 k (i:Int) (dvL den ((R.getD i []).take c)) (c:Int) den R S (dR den R i) (dS den S i)) Z:=by
   intro p
   induction p with
   | zero=>
    intro c hc
    obtain rfl:c=n:=by omega
    refine evstep (fun k=>by rw [spec_PivotedProblem.l1]) (evneg (by omega) (evpos (by rw [dR_len];omega) (evpos (by omega) (evpos (by omega) (evneg hd (evpos (by rw [dS_len];omega) ?_))))))
    rw [w64 (x:=(i:Int)+1) (by omega) (by omega),rd_nat,List.take_of_length_le (by omega)]
    exact nx
   | succ p ihp=>
    intro c hc
    have nx2:=ihp (c+1) (by omega)
    refine evstep (fun k=>by rw [spec_PivotedProblem.l1]) (evpos (by omega) (evpos (by omega) (evpos (by omega) (evpos (by omega) ?_))))
    rw [rdL1]
    refine evpos (by omega) (evneg hd (evpos (by unfold dvL;rw [List.length_map,List.length_take];omega) ?_))
    rw [w64 (x:=(c:Int)+1) (by omega) (by omega),rd_nat]
    rw [List.take_succ_eq_append_getElem (by omega)] at nx2
    unfold dvL at nx2 ⊢
    rw [List.map_append] at nx2
    rw [show (R.getD i []).getD c 0=(R.getD i [])[c]'(by omega) from by rw [List.getD_eq_getElem?_getD (l:=R.getD i []),List.getElem?_eq_getElem (by omega)];rfl]
    exact nx2
  refine evstep (fun k=>by rw [spec_PivotedProblem.l0]) (evpos (by omega) ?_)
  exact cols n 0 (by omega)
end
open Classical in
theorem pivoted (M:List (List Int)) (Q:List Int) (s:Int) (hQ:Q.length≤1048576): ∃R:List (List Int) × List Int × Int,Ev (fun k=>spec_PivotedProblem.f k M Q s) R∧Ev (fun k=>impl_PivotedProblem.f k M Q s) R∧Few R.1∧R.2.1.length≤5:=by
 have ip:=impl_pivotOf_eq M Q s
 have sp:=spec_PivotOf_eq M Q s hQ
 unfold impl_PivotedProblem.f spec_PivotedProblem.f
 by_cases c:(pvO M Q s).2.2.2=0
 ·obtain⟨c1,d⟩:=pvO_zero c
  obtain⟨p,_⟩:=code_zero c1
  have h5:=p.mat.n5;have h1:=p.mat.n1
  rw [pvO_at c1 d] at ip sp
  obtain⟨b,_,sw,iw⟩:=wholes h5 s Q d
  have hden:=ab_pos d
  have hL:=pvR_len M.length M s
  have hS:=pvS_len M.length M s Q
  have hrow:=pvR_row M.length M s
  generalize ab (det M.length (Cm s M))=den at*
  generalize hRR:pvR M.length M s=R at*
  generalize pvS M.length M s Q=S at*
  have hgd: ∀i,i < M.length→(R.getD i []).length=M.length:=fun i hi=>by rw [← hRR];exact pvR_getD' hi M s
  cases b with
  | false=>
   refine⟨([], [],5),evbind sp (evpos rfl (evbind sw ?_)),evbind ip (evpos rfl (evsome iw ?_)),Few.nil,by simp⟩
   ·refine evstep (fun k=>by rw [spec_PivotedProblem.j0]) ?_
    refine evpos rfl ?_
    refine evstep (fun k=>by rw [spec_PivotedProblem.j1]) ?_
    exact evneg (by decide) (evc rfl)
   ·exact evneg (by simp) (evc rfl)
  | true=>
   have is:=Pb.impl_is (R.map (dvL den)) (dvL den S) (decide (POK (R.map (dvL den)) (dvL den S))) (by simp)
   have ss:=Pb.spec_is (R.map (dvL den)) (dvL den S) (by unfold dvL;rw [List.length_map];omega) (decide (POK (R.map (dvL den)) (dvL den S))) (by simp)
   refine⟨if POK (R.map (dvL den)) (dvL den S) then(R.map (dvL den),dvL den S,0) else([], [],3),evbind sp (evpos rfl (evbind sw ?_)),evbind ip (evpos rfl (evsome iw ?_)),?_,?_⟩
   ·refine evstep (fun k=>by rw [spec_PivotedProblem.j0]) ?_
    refine evneg (by simp) ?_
    refine evstep (fun k=>by rw [spec_PivotedProblem.j1]) ?_
    refine evpos rfl (spec_divided h5 R S hL hgd hS (by omega) _ ?_ M.length 0 (by omega))
    rw [show dR den R M.length=R.map (dvL den) from by rw [← hL];exact dR_all den R,show dS den S M.length=dvL den S from by rw [← hS];exact dS_all den S]
    refine evbind ss ?_
    by_cases z:POK (R.map (dvL den)) (dvL den S)
    ·rw [if_pos z];exact evpos (by simpa using z) (evc rfl)
    ·rw [if_neg z];exact evneg (by simpa using z) (evc rfl)
   ·refine evpos rfl ?_
    dsimp only
    refine(evpos ⟨by omega,by omega,by omega,by
     rw [List.all_eq_true]
     intro x hx
     rw [hL]
     simpa using hrow x hx⟩ (evsome is ?_))
    by_cases z:POK (R.map (dvL den)) (dvL den S)
    ·rw [if_pos z];refine evc ?_;rw [if_pos (by simpa using z)]
    ·rw [if_neg z];refine evc ?_;rw [if_neg (by simpa using z)]
   ·by_cases z:POK (R.map (dvL den)) (dvL den S)
    ·rw [if_pos z]
     refine⟨by show (R.map (dvL den)).length≤5;rw [List.length_map];omega,fun x hx=>?_⟩
     obtain⟨y,hy,rfl⟩:=List.mem_map.1 hx
     have:=hrow y hy
     unfold dvL;rw [List.length_map];omega
    ·rw [if_neg z];exact Few.nil
   ·by_cases z:POK (R.map (dvL den)) (dvL den S)
    ·rw [if_pos z];show (dvL den S).length≤5;unfold dvL;rw [List.length_map];omega
    ·rw [if_neg z];simp
 ·refine⟨([], [],(pvO M Q s).2.2.2),evbind sp (evneg c ?_),evbind ip (evneg c (evc rfl)),Few.nil,by simp⟩
  refine evstep (fun k=>by rw [spec_PivotedProblem.j0]) ?_
  refine evneg (by simp) ?_
  refine evstep (fun k=>by rw [spec_PivotedProblem.j1]) ?_
  exact evneg c (evc rfl)
end Go.Proofs.Ytbjljcpngbhkeaa.Pp
end
section
namespace Go.Proofs.Ytbjljcpngbhkeaa.Pvb
open Go.RowKit Wz.PrintWords Wz.PrintMore Ma Dt Bz Un
theorem det_cset_one {n i:Nat} (hi:i < n) (v:Nat→Int):det n (cset i v one)=v i:=by
 have h:=adj_col (n:=n) one v hi
 rw [det_one,Int.one_mul,sm_one (k:=i) hi (fun t _ h=>by unfold one;rw [if_neg (Ne.symm h)];simp)] at h
 rw [← h];simp [one]
theorem unit_of {d e:Int} (h:d*e=1):d=1∨d= -1:=by
 have h2:d.natAbs*e.natAbs=1:=by rw [← Int.natAbs_mul,h];rfl
 have:=Nat.dvd_one.1 ⟨_,h2.symm⟩
 omega
def outC (P:Nat→Bool) (M:Mat) (k i:Nat):Int:=if P k=true then(if i=k then 1 else 0) else - M i k
section
variable {n:Nat} {C:Mat} {d sg D:Int} (hd:sg*d=D) (hD:D≠0)
include hd hD
theorem col_of {O x:Nat→Int} (hx: ∀r,r < n→D*x r=sg*det n (cset r O C)) (hdet:det n C=d) {i:Nat} (hi:i < n):sm n (fun t=>C i t*x t)=O i:=by
 have h:=adj_col (n:=n) C O hi
 have e:D*sm n (fun t=>C i t*x t)=D*O i:=by
  rw [← sm_mul,sm_congr (g:=fun t=>sg*(C i t*det n (cset t O C))) (fun t ht=>by rw [← Int.mul_assoc,Int.mul_comm D,Int.mul_assoc,hx t ht, ← Int.mul_assoc,Int.mul_comm (C i t) sg,Int.mul_assoc]),sm_mul,h,hdet, ← Int.mul_assoc,hd]
 exact Int.eq_of_mul_eq_mul_left hD e
end
section
variable {n:Nat} {P:Nat→Bool} {M X:Mat} {d sg D:Int} (hd:sg*d=D) (hD:D≠0) (hdet:det n (colM P M)=d) (hX: ∀r c,r < n→c < n→D*X r c= - (sg*det n (cset r (outC P M c) (colM P M))))
include hd hD hdet hX
theorem col_out {i c:Nat} (hi:i < n) (hc:c < n):sm n (fun t=>colM P M i t*X t c)= - outC P M c i:=by
 have h:=col_of (n:=n) (C:=colM P M) hd hD (O:=outC P M c) (x:=fun r=> - X r c) (fun r hr=>by
  have:=hX r c hr hc
  rw [Int.mul_neg,this,Int.neg_neg]) hdet hi
 have e:sm n (fun t=>colM P M i t* - X t c)= - sm n (fun t=>colM P M i t*X t c):=by
  have: - sm n (fun t=>colM P M i t*X t c)=(-1)*sm n (fun t=>colM P M i t*X t c):=by omega
  rw [this, ← sm_mul]
  exact sm_congr (fun t _=>by rw [Int.mul_neg,Int.neg_one_mul])
 have h2:sm n (fun t=>colM P M i t* - X t c)=outC P M c i:=h
 omega
theorem mul_col (T:Nat→Bool) {i j:Nat} (hi:i < n) (hj:j < n):mul n (colM P M) (colM T X) i j=colM (fun k=>xor (P k) (T k)) M i j:=by
 unfold mul
 by_cases t:T j=true
 ·have e:sm n (fun k=>colM P M i k*colM T X k j)= - sm n (fun k=>colM P M i k*X k j):=by
   have: - sm n (fun t=>colM P M i t*X t j)=(-1)*sm n (fun t=>colM P M i t*X t j):=by omega
   rw [this, ← sm_mul]
   exact sm_congr (fun k _=>by unfold colM;rw [if_pos t,Int.mul_neg,Int.neg_one_mul])
  rw [e,col_out hd hD hdet hX hi hj]
  unfold outC
  show _=colM _ M i j
  unfold colM
  by_cases p:P j=true
  ·rw [if_pos p,if_neg (show ¬ (xor (P j) (T j))=true by simp [p,t])];omega
  ·have p':P j=false:=by simpa using p
   rw [if_neg p,if_pos (show (xor (P j) (T j))=true by simp [p',t])];omega
 ·have t':T j=false:=by simpa using t
  rw [sm_one (k:=j) hj (fun k hk hne=>by unfold colM;rw [if_neg t,if_neg hne,Int.mul_zero])]
  have e1:colM T X j j=1:=by unfold colM;rw [if_neg t,if_pos rfl]
  rw [e1,Int.mul_one]
  unfold colM
  by_cases p:P j=true
  ·rw [if_pos p,if_pos (show (xor (P j) (T j))=true by simp [p,t'])]
  ·have p':P j=false:=by simpa using p
   rw [if_neg p,if_neg (show ¬ (xor (P j) (T j))=true by simp [p',t'])]
theorem minors_mul (T:Nat→Bool):det n (colM P M)*det n (colM T X)=det n (colM (fun k=>xor (P k) (T k)) M):=by
 rw [← det_mul]
 exact det_congr (fun i j hi hj=>mul_col hd hD hdet hX T hi hj)
theorem mul_self {i j:Nat} (hi:i < n) (hj:j < n):mul n (colM P M) (colM P X) i j=one i j:=by
 rw [mul_col hd hD hdet hX P hi hj]
 unfold colM one
 rw [if_neg (by simp)]
theorem det_inv:d*det n (colM P X)=1:=by
 rw [← hdet, ← det_mul,det_congr (B:=one) (fun i j hi hj=>mul_self hd hD hdet hX hi hj),det_one]
theorem mul_out {i c:Nat} (hi:i < n) (hc:c < n):sm n (fun t=>colM P M i t*outC P X c t)= - M i c:=by
 by_cases p:P c=true
 ·rw [sm_one (k:=c) hc (fun k hk hne=>by unfold outC;rw [if_pos p,if_neg hne,Int.mul_zero])]
  have e1:outC P X c c=1:=by unfold outC;rw [if_pos p,if_pos rfl]
  rw [e1,Int.mul_one]
  unfold colM
  rw [if_pos p]
 ·have e:sm n (fun t=>colM P M i t*outC P X c t)= - sm n (fun t=>colM P M i t*X t c):=by
   have: - sm n (fun t=>colM P M i t*X t c)=(-1)*sm n (fun t=>colM P M i t*X t c):=by omega
   rw [this, ← sm_mul]
   exact sm_congr (fun k _=>by unfold outC;rw [if_neg p,Int.mul_neg,Int.neg_one_mul])
  rw [e,col_out hd hD hdet hX hi hc]
  unfold outC
  rw [if_neg p];omega
theorem solve_back {b y:Nat→Int} (hb: ∀i,i < n→sm n (fun t=>colM P M i t*b t)=y i) {r:Nat} (hr:r < n):d*det n (cset r b (colM P X))=y r:=by
 rw [← hdet, ← det_mul, ← det_cset_one hr y]
 refine det_congr (fun i j hi hj=>?_)
 unfold cset
 show sm n (fun k=>colM P M i k*(if j=r then b k else colM P X k j))=if j=r then y i else one i j
 by_cases e:j=r
 ·rw [if_pos e, ← hb i hi]
  exact sm_congr (fun k _=>by rw [if_pos e])
 ·rw [if_neg e, ← mul_self hd hD hdet hX hi hj]
  exact sm_congr (fun k _=>by rw [if_neg e])
theorem back {q q':Nat→Int} (hq: ∀r,r < n→D*q' r=sg*det n (cset r q (colM P M))):(d=1∨d= -1)∧det n (colM P X)=d∧(∀r c,r < n→c < n→ - (d*det n (cset r (outC P X c) (colM P X)))=M r c)∧(∀r,r < n→d*det n (cset r q' (colM P X))=q r):=by
 have hi:=det_inv hd hD hdet hX
 have h1:d=1∨d= -1:=unit_of hi
 refine⟨h1,?_,fun r c hr hc=>?_,fun r hr=>?_⟩
 ·rcases h1 with e | e <;> rw [e] at hi ⊢ <;> omega
 ·have:=solve_back hd hD hdet hX (b:=outC P X c) (y:=fun i=> - M i c) (fun i hi=>mul_out hd hD hdet hX hi hc) hr
  rw [this,Int.neg_neg]
 ·exact solve_back hd hD hdet hX (b:=q') (y:=q) (fun i hi=>col_of (C:=colM P M) hd hD hq hdet hi) hr
end
end Go.Proofs.Ytbjljcpngbhkeaa.Pvb
end
section
namespace Go.Proofs.Ytbjljcpngbhkeaa.Pp
open Go.RowKit Wz.PrintWords Wz.PrintMore Ma Pr Dt Bz Un Cz Pb Mn Sv Pv Pvb
theorem ev_eq {α:Type} {f:Nat→Option α} {a b:α} (h:Ev f a) (h2:Ev f b):a=b:=by
 obtain⟨k1,e1⟩:=h
 obtain⟨k2,e2⟩:=h2
 have a1:=e1 (max k1 k2) (by omega)
 have a2:=e2 (max k1 k2) (by omega)
 rw [a1] at a2
 exact Option.some.inj a2
theorem sgn_mul_ab {d:Int}:sgn d*d=ab d:=by
 unfold sgn ab
 by_cases h:d < 0
 ·rw [if_pos h,if_pos h];omega
 ·rw [if_neg h,if_neg h]
  by_cases h2:d > 0
  ·rw [if_pos h2];omega
  ·rw [if_neg h2];omega
theorem sgn_le (d x:Int) (hx: -1920000000≤x∧x≤1920000000): -1920000000≤sgn d*x∧sgn d*x≤1920000000:=by
 unfold sgn
 split
 ·omega
 ·split <;> omega
theorem lists_eq {n:Nat} {A B:List (List Int)} (hA:A.length=n) (hB:B.length=n) (rA: ∀i,i < n→(A.getD i []).length=n) (rB: ∀i,i < n→(B.getD i []).length=n) (h: ∀r c,r < n→c < n→en A r c=en B r c):A=B:=by
 refine List.ext_getElem (by omega) (fun r h1 h2=>?_)
 have e1:A.getD r []=A[r]:=by rw [List.getD_eq_getElem?_getD,List.getElem?_eq_getElem h1];rfl
 have e2:B.getD r []=B[r]:=by rw [List.getD_eq_getElem?_getD,List.getElem?_eq_getElem h2];rfl
 have l1:=rA r (by omega)
 have l2:=rB r (by omega)
 rw [e1] at l1
 rw [e2] at l2
 refine List.ext_getElem (by omega) (fun c h3 h4=>?_)
 have:=h r c (by omega) (by omega)
 unfold en at this
 rw [e1,e2,List.getD_eq_getElem?_getD,List.getD_eq_getElem?_getD,List.getElem?_eq_getElem h3,List.getElem?_eq_getElem h4] at this
 exact this
theorem list_eq {n:Nat} {A B:List Int} (hA:A.length=n) (hB:B.length=n) (h: ∀r,r < n→A.getD r 0=B.getD r 0):A=B:=by
 refine List.ext_getElem (by omega) (fun r h1 h2=>?_)
 have:=h r (by omega)
 rw [List.getD_eq_getElem?_getD,List.getD_eq_getElem?_getD,List.getElem?_eq_getElem h1,List.getElem?_eq_getElem h2] at this
 exact this
section
variable {M:List (List Int)} (q:Sq M.length M) (h5:M.length≤5) (s:Int)
include q h5
theorem pv_dc {c:Nat} (hc:c < M.length) (r:Nat):dc M.length (Cm s M) (rw1 M.length (cW s (en M) c)) r=det M.length (cset r (outC (bB s) (en M) c) (Cm s M))∧ -1920000000≤det M.length (cset r (outC (bB s) (en M) c) (Cm s M))∧det M.length (cset r (outC (bB s) (en M) c) (Cm s M))≤1920000000:=by
 have e:dc M.length (Cm s M) (rw1 M.length (cW s (en M) c)) r=det M.length (cset r (outC (bB s) (en M) c) (Cm s M)):=by
  unfold dc
  refine det_congr (fun a b ha hb=>?_)
  unfold cset
  split
  ·simp [rw1,ha,cW,outC]
  ·rfl
 have b:=dc_b q h5 s (x:=rw1 M.length (cW s (en M) c)) (cW_x q h5 s c hc) r
 rw [show colM (bB s) (en M)=Cm s M from rfl,e] at b
 exact⟨e,b⟩
theorem pv_en {r c:Nat} (hr:r < M.length) (hc:c < M.length):en (pvR M.length M s) r c= - (sgn (det M.length (Cm s M))*det M.length (cset r (outC (bB s) (en M) c) (Cm s M))):=by
 obtain⟨e,b⟩:=pv_dc q h5 s hc r
 have b2:=sgn_le (det M.length (Cm s M)) _ b
 show ((pvR M.length M s).getD r []).getD c 0=_
 unfold pvR
 rw [pR_getD _ _ _ _ _ _ hr]
 have:((List.range M.length).map (pE (Zr M.length) (pvl M.length M s) M.length 0 r)).getD c 0=pE (Zr M.length) (pvl M.length M s) M.length 0 r c:=by simp [hc]
 rw [this]
 unfold pE
 rw [if_pos (.inl hc)]
 have e2:(pvl M.length M s c).getD r 0=sgn (det M.length (Cm s M))*dc M.length (Cm s M) (rw1 M.length (cW s (en M) c)) r:=by simp [pvl,hr]
 rw [e2,e,w64 (by omega) (by omega)]
theorem pv_bnd {r c:Nat} (hr:r < M.length) (hc:c < M.length): -1920000000≤en (pvR M.length M s) r c∧en (pvR M.length M s) r c≤1920000000:=by
 rw [pv_en q h5 s hr hc]
 have:=sgn_le (det M.length (Cm s M)) _ (pv_dc q h5 s hc r).2
 omega
end
theorem pv_side {M:List (List Int)} {Q:List Int} {s:Int} {r:Nat} (hr:r < M.length):(pvS M.length M s Q).getD r 0=sgn (det M.length (Cm s M))*det M.length (cset r (fun i=>Q.getD i 0) (Cm s M)):=by
 simp [pvS,hr,dc]
theorem pv_sbnd {M:List (List Int)} {Q:List Int} (p:POK M Q) (s:Int) {r:Nat} (hr:r < M.length): -1920000000≤(pvS M.length M s Q).getD r 0∧(pvS M.length M s Q).getD r 0≤1920000000:=by
 rw [pv_side hr]
 have:=dc_b p.mat.sq p.mat.n5 s (x:=Q) (fun r hr=>POK.small p r hr) r
 exact sgn_le _ _ this
theorem tdiv_of {x D:Int} (hD:0 < D) (h:Int.tmod x D=0) (hb: -1920000000≤x∧x≤1920000000):D*wrap64 (Int.tdiv x D)=x:=by
 have e:D*Int.tdiv x D=x:=by have:=Int.mul_tdiv_add_tmod x D;omega
 have b: -1920000000≤Int.tdiv x D∧Int.tdiv x D≤1920000000:=by
  have h1:(Int.tdiv x D).natAbs≤x.natAbs:=by rw [Int.natAbs_tdiv];exact Nat.div_le_self _ _
  omega
 rw [w64 (by omega) (by omega)]
 exact e
structure Div (M:List (List Int)) (Q:List Int) (s:Int) (M':List (List Int)) (Q':List Int):Prop where
 len:M'.length=M.length
 qlen:Q'.length=M.length
 row: ∀i,i < M.length→(M'.getD i []).length=M.length
 num: ∀r c,r < M.length→c < M.length→ab (det M.length (Cm s M))*en M' r c= - (sgn (det M.length (Cm s M))*det M.length (cset r (outC (bB s) (en M) c) (colM (bB s) (en M))))
 side: ∀r,r < M.length→ab (det M.length (Cm s M))*Q'.getD r 0=sgn (det M.length (Cm s M))*det M.length (cset r (fun i=>Q.getD i 0) (colM (bB s) (en M)))
theorem div_of {M:List (List Int)} {Q:List Int} (p:POK M Q) {s:Int} (d:det M.length (Cm s M)≠0) (hw:Whole M.length (ab (det M.length (Cm s M))) (pvR M.length M s) (pvS M.length M s Q)):Div M Q s ((pvR M.length M s).map (dvL (ab (det M.length (Cm s M))))) (dvL (ab (det M.length (Cm s M))) (pvS M.length M s Q)):=by
 have hD:=ab_pos d
 have hR:=pvR_len M.length M s
 have hS:=pvS_len M.length M s Q
 have hg: ∀i,i < M.length→((pvR M.length M s).map (dvL (ab (det M.length (Cm s M))))).getD i []=dvL (ab (det M.length (Cm s M))) ((pvR M.length M s).getD i []):=fun i hi=>by
  rw [List.getD_eq_getElem?_getD,List.getElem?_map,List.getElem?_eq_getElem (by omega),List.getD_eq_getElem?_getD,List.getElem?_eq_getElem (by omega)]
  rfl
 refine⟨by rw [List.length_map,hR],by unfold dvL;rw [List.length_map,hS],fun i hi=>?_,fun r c hr hc=>?_,fun r hr=>?_⟩
 ·rw [hg i hi];unfold dvL;rw [List.length_map];exact pvR_getD' hi M s
 ·have e:en ((pvR M.length M s).map (dvL (ab (det M.length (Cm s M))))) r c=wrap64 (Int.tdiv (en (pvR M.length M s) r c) (ab (det M.length (Cm s M)))):=by
   have hl:=pvR_getD' hr M s
   unfold en
   rw [hg r hr]
   unfold dvL
   rw [List.getD_eq_getElem?_getD,List.getElem?_map,List.getElem?_eq_getElem (by omega),List.getD_eq_getElem?_getD (l:=(pvR M.length M s).getD r []),List.getElem?_eq_getElem (by omega)]
   rfl
  rw [e,tdiv_of hD ((hw r hr).2 c hc) (pv_bnd p.mat.sq p.mat.n5 s hr hc)]
  exact pv_en p.mat.sq p.mat.n5 s hr hc
 ·have e:(dvL (ab (det M.length (Cm s M))) (pvS M.length M s Q)).getD r 0=wrap64 (Int.tdiv ((pvS M.length M s Q).getD r 0) (ab (det M.length (Cm s M)))):=by
   unfold dvL
   rw [List.getD_eq_getElem?_getD,List.getElem?_map,List.getElem?_eq_getElem (by omega),List.getD_eq_getElem?_getD,List.getElem?_eq_getElem (by omega)]
   rfl
  rw [e,tdiv_of hD (hw r hr).1 (pv_sbnd p s hr)]
  exact pv_side hr
open Classical in
noncomputable def ppO (M:List (List Int)) (Q:List Int) (s:Int):List (List Int) × List Int × Int:=
 if(pvO M Q s).2.2.2=0 then(if Whole M.length (pvO M Q s).1 (pvO M Q s).2.1 (pvO M Q s).2.2.1 then(if POK ((pvO M Q s).2.1.map (dvL (pvO M Q s).1)) (dvL (pvO M Q s).1 (pvO M Q s).2.2.1) then((pvO M Q s).2.1.map (dvL (pvO M Q s).1),dvL (pvO M Q s).1 (pvO M Q s).2.2.1,0) else([], [],3)) else([], [],5)) else([], [],(pvO M Q s).2.2.2)
open Classical in
theorem impl_pivoted (M:List (List Int)) (Q:List Int) (s:Int):Ev (fun k=>impl_PivotedProblem.f k M Q s) (ppO M Q s):=by
 have ip:=impl_pivotOf_eq M Q s
 unfold impl_PivotedProblem.f ppO
 by_cases c:(pvO M Q s).2.2.2=0
 ·obtain⟨c1,d⟩:=pvO_zero c
  obtain⟨p,_⟩:=code_zero c1
  have h5:=p.mat.n5;have h1:=p.mat.n1
  rw [pvO_at c1 d] at ip ⊢
  obtain⟨b,hb,sw,iw⟩:=wholes h5 s Q d
  have hden:=ab_pos d
  have hL:=pvR_len M.length M s
  have hS:=pvS_len M.length M s Q
  have hrow:=pvR_row M.length M s
  rw [if_pos rfl]
  generalize ab (det M.length (Cm s M))=den at*
  generalize pvR M.length M s=R at*
  generalize pvS M.length M s Q=S at*
  cases b with
  | false=>
   rw [if_neg (show ¬ Whole M.length den R S from fun h=>by cases hb.2 h)]
   exact evbind ip (evpos rfl (evsome iw (evneg (by simp) (evc rfl))))
  | true=>
   rw [if_pos (show Whole M.length den R S from hb.1 rfl)]
   have is:=Pb.impl_is (R.map (dvL den)) (dvL den S) (decide (POK (R.map (dvL den)) (dvL den S))) (by simp)
   refine evbind ip (evpos rfl (evsome iw ?_))
   refine evpos rfl ?_
   dsimp only
   refine(evpos ⟨by omega,by omega,by omega,by
    rw [List.all_eq_true]
    intro x hx
    rw [hL]
    simpa using hrow x hx⟩ (evsome is ?_))
   by_cases z:POK (R.map (dvL den)) (dvL den S)
   ·rw [if_pos z];refine evc ?_;rw [if_pos (by simpa using z)]
   ·rw [if_neg z];refine evc ?_;rw [if_neg (by simpa using z)]
 ·rw [if_neg c]
  exact evbind ip (evneg c (evc rfl))
theorem ppO_zero {M:List (List Int)} {Q:List Int} {s:Int} (c:(ppO M Q s).2.2=0):codeS M Q s=0∧det M.length (Cm s M)≠0∧POK (ppO M Q s).1 (ppO M Q s).2.1∧Div M Q s (ppO M Q s).1 (ppO M Q s).2.1:=by
 unfold ppO at c ⊢
 by_cases c0:(pvO M Q s).2.2.2=0
 ·obtain⟨c1,d⟩:=pvO_zero c0
  obtain⟨p,_⟩:=code_zero c1
  rw [pvO_at c1 d] at c ⊢
  rw [if_pos rfl] at c ⊢
  by_cases w:Whole M.length (ab (det M.length (Cm s M))) (pvR M.length M s) (pvS M.length M s Q)
  ·rw [if_pos w] at c ⊢
   by_cases z:POK ((pvR M.length M s).map (dvL (ab (det M.length (Cm s M))))) (dvL (ab (det M.length (Cm s M))) (pvS M.length M s Q))
   ·rw [if_pos z]
    exact⟨c1,d,z,div_of p d w⟩
   ·rw [if_neg z] at c;cases c
  ·rw [if_neg w] at c;cases c
 ·rw [if_neg c0] at c
  exact absurd c c0
end Go.Proofs.Ytbjljcpngbhkeaa.Pp
end
section
namespace Go.Proofs.Ytbjljcpngbhkeaa.Pr
open Go.RowKit Wz.PrintWords Wz.PrintLast Wz.PrintMore
attribute [local go_sem] max2_int min2_int max_two min_two max_three min_three max_four min_four
def laws_problem9.f (k:Nat) (aa:List (List Int)) (ae:List Int) (af:List (List Int)) (ag:List Int):Option (Bool):=(laws_rows9.f k aa af).bind fun ah=>(if ah=true then((laws_likeInts.f k ae ag).bind fun ai=>(some ai)) else(some false))
theorem laws_problem9.calls (k:Nat) (aq:Option Addr) (au:Nat) (ag:List (List Int)) (aH:Option Addr) (aI:Nat) (ai:List Int) (av:Option Addr) (aw:Nat) (ah:List (List Int)) (aJ:Option Addr) (aK:Nat) (aj:List Int) (r:Bool) (w:World) (aN:Kd.C (Kd.slice 2 (Kd.int .i64)) w aq ag.length ag) (aQ:ag.length≤au) (aT:Kd.C (Kd.int .i64) w aH ai.length ai) (aU:ai.length≤aI) (aV:Kd.C (Kd.slice 2 (Kd.int .i64)) w av ah.length ah) (aW:ah.length≤aw) (aX:Kd.C (Kd.int .i64) w aJ aj.length aj) (aY:aj.length≤aK) (h:laws_problem9.f k ag ai ah aj=some r):
  Calls Try.prog 27 #[.agg #[.slice aq ag.length au, .slice aH ai.length aI], .agg #[.slice av ah.length aw, .slice aJ aj.length aK]] w fun e w'=>e= .returned (.bool r)∧Below w.heap.size w w':=by
 have hu27:=Try.underlying27;have HR0_0:=q_ aN;have HC0_0:=q_ aQ;clear aN aQ;have HR0_1:=q_ aT;have HC0_1:=q_ aU;clear aT aU;have HR1_0:=q_ aV;have HC1_0:=q_ aW;clear aV aW;have HR1_1:=q_ aX;have HC1_1:=q_ aY;clear aX aY;have HB:=q_ (Below.refl w.heap.size w);have H:((laws_rows9.f k ag ah).bind fun aM=>(if aM=true then((laws_likeInts.f k ai aj).bind fun ax=>(some ax)) else(some false)))=some r:=h;clear h;replace H:=Option.bind_eq_some_iff.mp H;obtain⟨aM,A30,H⟩:=H;replace H:(if aM=true then((laws_likeInts.f k ai aj).bind fun ax=>(some ax)) else(some false))=some r:=H;have A3:=q_ A30;clear A30
 by_cases c4:aM=true
 ·subst c4;have H1:((laws_likeInts.f k ai aj).bind fun ax=>(some ax))=some r:=by rw [if_pos rfl] at H;exact H
  clear H;have H:=H1;clear H1;replace H:=Option.bind_eq_some_iff.mp H;obtain⟨ax,A50,H⟩:=H;replace H:(some ax)=some r:=H;have A5:=q_ A50;clear A50;obtain rfl:=Option.some.inj H
  go_enter Try.func27,Try.ntmps27
  go_wp2_with (first | ((with_reducible refine gate_dst (N:=2) rfl ?_);refine be_ 2 #[.slice aq ag.length au, .slice aH ai.length aI] 27 ?_;intro ae hg w6 hbox hb;have aa:=q_ (hbox);have aZ:=gz_ w hg;have a9:=gz_ w hg;replace HB:=Bs_ hb;clear hb hbox hg) | ((with_reducible refine gate_dst (N:=3) rfl ?_);refine be_ 3 #[.slice av ah.length aw, .slice aJ aj.length aK] 27 ?_;intro af hg w7 hbox hb;have ak:=q_ (hbox);have ba:=gz_ w hg;have bf:=gz_ w hg;have ay:=lz_ hg aa;have az:=mz_ hg aa;replace aa:=Bb_ aa hb;replace HB:=Bs_ hb;clear hb hbox hg;have bL:=ay.out;have bM:=az.out;obtain⟨bF,bG,bH,bI⟩:=c2_ aa;obtain⟨bg,bh,bk,bq⟩:=c2_ ak) | ((with_reducible refine gate_callee (f:=12) rfl ?_);refine gL_ 9 Try.func12 #[.slice aq ag.length au, .slice av ah.length aw] ?_;(with_reducible refine(laws_rows9.calls k _ _ ag _ _ ah true _ ?aA ?aC ?aD ?aG A3.out).mono ?_);(case aA=>exact cb_ HR0_0.out HB.out);(case aC=>exact HC0_0.out);(case aD=>exact cb_ HR1_0.out HB.out);(case aG=>exact HC1_0.out);rintro e w' ⟨rfl,⟨nd,rfl⟩⟩;refine⟨_,rfl,?_⟩) | (go_at_call 16;(with_reducible refine(laws_likeInts.calls k _ _ ai _ _ aj ax _ ?aA ?aC ?aD ?aG A5.out).mono ?_);(case aA=>repeat (first | exact(Kd.C_below HR0_1.out hb_) | (with_reducible refine Kd.C_alloc ?_ _) | (with_reducible refine Kd.C_drewN ?_ _) | (with_reducible refine Kd.C_drew ?_)));(case aC=>exact HC0_1.out);(case aD=>repeat (first | exact(Kd.C_below HR1_1.out hb_) | (with_reducible refine Kd.C_alloc ?_ _) | (with_reducible refine Kd.C_drewN ?_ _) | (with_reducible refine Kd.C_drew ?_)));(case aG=>exact HC1_1.out);rintro e w' ⟨rfl,⟨nd,rfl⟩⟩))
  go_ret
  exact⟨ew_,hb_⟩
 ·replace c4:=Bool.eq_false_iff.mpr c4;subst c4;have H1:(some false)=some r:=by rw [if_neg (show ¬ (false=true) by decide)] at H;exact H
  clear H;have H:=H1;clear H1;obtain rfl:=Option.some.inj H
  go_enter Try.func27,Try.ntmps27
  go_wp2_with (first | ((with_reducible refine gate_dst (N:=2) rfl ?_);refine be_ 2 #[.slice aq ag.length au, .slice aH ai.length aI] 27 ?_;intro ae hg w11 hbox hb;have aa:=q_ (hbox);have aZ:=gz_ w hg;have a9:=gz_ w hg;replace HB:=Bs_ hb;clear hb hbox hg) | ((with_reducible refine gate_dst (N:=3) rfl ?_);refine be_ 3 #[.slice av ah.length aw, .slice aJ aj.length aK] 27 ?_;intro af hg w12 hbox hb;have ak:=q_ (hbox);have ba:=gz_ w hg;have bf:=gz_ w hg;have ay:=lz_ hg aa;have az:=mz_ hg aa;replace aa:=Bb_ aa hb;replace HB:=Bs_ hb;clear hb hbox hg;have bJ:=ay.out;have bK:=az.out;obtain⟨bu,bv,bw,bz⟩:=c2_ aa;obtain⟨bA,bC,bD,bE⟩:=c2_ ak) | ((with_reducible refine gate_callee (f:=12) rfl ?_);refine gL_ 9 Try.func12 #[.slice aq ag.length au, .slice av ah.length aw] ?_;(with_reducible refine(laws_rows9.calls k _ _ ag _ _ ah false _ ?aA ?aC ?aD ?aG A3.out).mono ?_);(case aA=>exact cb_ HR0_0.out HB.out);(case aC=>exact HC0_0.out);(case aD=>exact cb_ HR1_0.out HB.out);(case aG=>exact HC1_0.out);rintro e w' ⟨rfl,⟨nd,rfl⟩⟩;refine⟨_,rfl,?_⟩))
  go_ret
  exact⟨ew_,hb_⟩
def impl_IsWholePivot.f (k:Nat) (ae:List (List Int)) (af:List Int) (a1:Int):Option (Bool × Int):=(impl_pivotOf.f k ae af a1).bind fun aa=>(if aa.2.2.2=0 then((impl_Pivot_isWhole.f aa.1 aa.2.1 aa.2.2.1).bind fun ag=>(some (ag,aa.2.2.2))) else(some (false,aa.2.2.2)))
theorem impl_IsWholePivot.calls (k:Nat) (ay:Option Addr) (az:Nat) (ah:List (List Int)) (aA:Option Addr) (aC:Nat) (ai:List Int) (a1:Int) (r1:Bool) (r2:Int) (w:World) (aV:Kd.C (Kd.slice 2 (Kd.int .i64)) w ay ah.length ah) (aW:ah.length≤az) (aX:Kd.C (Kd.int .i64) w aA ai.length ai) (aY:ai.length≤aC) (h:impl_IsWholePivot.f k ah ai a1=some (r1,r2)):
  Calls Try.prog 28 #[.agg #[.slice ay ah.length az, .slice aA ai.length aC], .int .i64 a1] w fun e w'=>e= .returned (.tuple #[.bool r1, .int .i64 r2])∧Below w.heap.size w w':=by
 have hu27:=Try.underlying27;have hu49:=Try.underlying49;have HR0_0:=q_ aV;have HC0_0:=q_ aW;clear aV aW;have HR0_1:=q_ aX;have HC0_1:=q_ aY;clear aX aY;have HB:=q_ (Below.refl w.heap.size w);have H:((impl_pivotOf.f k ah ai a1).bind fun aG=>(if aG.2.2.2=0 then((impl_Pivot_isWhole.f aG.1 aG.2.1 aG.2.2.1).bind fun aQ=>(some (aQ,aG.2.2.2))) else(some (false,aG.2.2.2))))=some (r1,r2):=h;clear h;replace H:=Option.bind_eq_some_iff.mp H;obtain⟨⟨au,av,aw,ax⟩,A30,H⟩:=H;replace H:(if ax=0 then((impl_Pivot_isWhole.f au av aw).bind fun aQ=>(some (aQ,ax))) else(some (false,ax)))=some (r1,r2):=H;have A3:=q_ A30;clear A30
 by_cases c4:ax=0
 ·rw [if_pos c4] at H;have c4b0:=e1_ c4;have c4b1:=e2_ c4;clear c4;replace H:=Option.bind_eq_some_iff.mp H;obtain⟨aQ,A50,H⟩:=H;replace H:(some (aQ,ax))=some (r1,r2):=H;have A5:=q_ A50;clear A50;simp only [Option.some.injEq,Prod.mk.injEq] at H;obtain⟨rfl,rfl⟩:=H
  go_enter Try.func28,Try.ntmps28
  go_wp2_with (first | ((with_reducible refine gate_dst (N:=2) rfl ?_);refine be_ 2 #[.slice ay ah.length az, .slice aA ai.length aC] 27 ?_;intro ag hg w6 hbox hb;have ae:=q_ (hbox);have aZ:=gz_ w hg;have a9:=gz_ w hg;replace HB:=Bs_ hb;clear hb hbox hg;obtain⟨bP,bQ,bR,bS⟩:=c2_ ae) | ((with_reducible refine gate_callee (f:=47) rfl ?_);refine gL_ 11 Try.func47 #[.agg #[.slice ay ah.length az, .slice aA ai.length aC], .int .i64 a1] ?_;(with_reducible refine(impl_pivotOf.calls k _ _ ah _ _ ai a1 au av aw ax _ ?aJ ?aK ?aM ?aN A3.out).mono ?_);(case aJ=>exact cb_ HR0_0.out HB.out);(case aK=>exact HC0_0.out);(case aM=>exact cb_ HR0_1.out HB.out);(case aN=>exact HC0_1.out);rintro e w8 ⟨bg,bh,rfl,ho0,ho1,hb⟩;refine⟨_,rfl,?_⟩;have ak:=q_ (Kd.S_lower ho0 bz_);have aq:=q_ (Kd.R_lower ho1 bz_);replace ae:=Bb_ ae hb;replace HB:=Bs_ hb;(try clear hb);(try clear hk);(try clear ho0);(try clear ho1)) | ((with_reducible refine gate_dst (N:=6) rfl ?_);refine be_ 6 #[.int .i64 0, .slice none 0 0, .slice none 0 0] 49 ?_;intro aa hg w9 hbox hb;replace ak:=q_ (Kd.S_below (so_ ak.out) hb);replace aq:=Rb_ aq hb;have af:=q_ (hbox);have ba:=gz_ w hg;have bf:=gz_ w hg;have aj:=lz_ hg ae;have aD:=mz_ hg ae;replace ae:=Bb_ ae hb;replace HB:=Bs_ hb;clear hb hbox hg;have bT:=aD.out;have bU:=aj.out;obtain⟨bw,bz,bA,bC,bD,bE⟩:=c3_ af;obtain⟨aT,aH,bk⟩:=Kd.S_slice ak.out;subst bk;obtain⟨aU,aI,bq⟩:=Kd.R_slice aq.out;subst bq) | (go_at_call 61;(with_reducible refine(impl_Pivot_isWhole.calls au _ _ av _ _ aw aQ _ ?aJ ?aK ?aM ?aN A5.out).mono ?_);(case aJ=>refine(Kd.S_reads' (e:=25) (base:=w.heap.size) (ok:=fun k_=>some k_≠(.slice aU aw.length aI:Value).ownBlock) (n:=av.length) (c:=aH) ?_).2.2;exact((kS_ (sf3_ ak.out af.out) (fun _ h_=>h_.1))));(case aK=>exact(Kd.S_reads' ak.out).2.1);(case aM=>refine(Kd.R_reads' (e:=2) (base:=w.heap.size) (ok:=fun k_=>True) (n:=aw.length) (c:=aI) ?_).2.2;exact((kR_ (rf3_ aq.out af.out) (fun _ h_=>h_.1))));(case aN=>exact(Kd.R_reads' aq.out).2.1);rintro e w14 ⟨rfl,hb⟩;replace ak:=q_ (Kd.S_below ((kS_ (sf3_ ak.out af.out) (fun _ h_=>h_.1))) hb);replace aq:=q_ (Kd.R_below ((kR_ (rf3_ aq.out af.out) (fun _ h_=>h_.1))) hb);replace ae:=q_ (blk_below (g:=ag) (o:= .cells #[.slice ay ah.length az, .slice aA ai.length aC] 27 (0,0)) (bw_) hb);replace HB:=Bs_ hb;replace af:=q_ (blk_below (g:=aa) (o:= .cells #[.int .i64 au, .slice aT av.length aH, .slice aU aw.length aI] 49 (0,0)) (bw_) hb);(try clear hb);(try clear hk)))
  go_ret2
  exact⟨ew_,hb_⟩
 ·rw [if_neg c4] at H;have c4b0:=e3_ c4;have c4b1:=e4_ c4;simp only [Option.some.injEq,Prod.mk.injEq] at H;obtain⟨rfl,rfl⟩:=H
  go_enter Try.func28,Try.ntmps28
  go_wp2_with (first | ((with_reducible refine gate_dst (N:=2) rfl ?_);refine be_ 2 #[.slice ay ah.length az, .slice aA ai.length aC] 27 ?_;intro ag hg w15 hbox hb;have ae:=q_ (hbox);have aZ:=gz_ w hg;have a9:=gz_ w hg;replace HB:=Bs_ hb;clear hb hbox hg;obtain⟨bF,bG,bH,bI⟩:=c2_ ae) | ((with_reducible refine gate_callee (f:=47) rfl ?_);refine gL_ 11 Try.func47 #[.agg #[.slice ay ah.length az, .slice aA ai.length aC], .int .i64 a1] ?_;(with_reducible refine(impl_pivotOf.calls k _ _ ah _ _ ai a1 au av aw ax _ ?aJ ?aK ?aM ?aN A3.out).mono ?_);(case aJ=>exact cb_ HR0_0.out HB.out);(case aK=>exact HC0_0.out);(case aM=>exact cb_ HR0_1.out HB.out);(case aN=>exact HC0_1.out);rintro e w17 ⟨bg,bh,rfl,ho0,ho1,hb⟩;refine⟨_,rfl,?_⟩;have ak:=q_ (Kd.S_lower ho0 bz_);have aq:=q_ (Kd.R_lower ho1 bz_);replace ae:=Bb_ ae hb;replace HB:=Bs_ hb;(try clear hb);(try clear hk);(try clear ho0);(try clear ho1)) | ((with_reducible refine gate_dst (N:=6) rfl ?_);refine be_ 6 #[.int .i64 0, .slice none 0 0, .slice none 0 0] 49 ?_;intro aa hg w18 hbox hb;replace ak:=q_ (Kd.S_below (so_ ak.out) hb);replace aq:=Rb_ aq hb;have af:=q_ (hbox);have ba:=gz_ w hg;have bf:=gz_ w hg;have aj:=lz_ hg ae;have aD:=mz_ hg ae;replace ae:=Bb_ ae hb;replace HB:=Bs_ hb;clear hb hbox hg;have bV:=aD.out;have bW:=aj.out;obtain⟨bJ,bK,bL,bM,bN,bO⟩:=c3_ af;obtain⟨bX,bY,bu⟩:=Kd.S_slice ak.out;subst bu;obtain⟨bZ,cf,bv⟩:=Kd.R_slice aq.out;subst bv))
  go_ret2
  exact⟨ew_,hb_⟩
def spec_IsWholePivot.f (k:Nat) (ae:List (List Int)) (af:List Int) (a1:Int):Option (Bool × Int):=(spec_PivotOf.f k ae af a1).bind fun aa=>(if aa.2.2.2=0 then((spec_l04Whole.f k aa.1 aa.2.1 aa.2.2.1).bind fun ag=>(some (ag,0))) else(some (false,aa.2.2.2)))
theorem spec_IsWholePivot.calls (k:Nat) (ax:Option Addr) (ay:Nat) (ah:List (List Int)) (az:Option Addr) (aA:Nat) (ai:List Int) (a1:Int) (r1:Bool) (r2:Int) (w:World) (aV:Kd.C (Kd.slice 2 (Kd.int .i64)) w ax ah.length ah) (aW:ah.length≤ay) (aX:Kd.C (Kd.int .i64) w az ai.length ai) (aY:ai.length≤aA) (h:spec_IsWholePivot.f k ah ai a1=some (r1,r2)):
  Calls Try.prog 29 #[.agg #[.slice ax ah.length ay, .slice az ai.length aA], .int .i64 a1] w fun e w'=>e= .returned (.tuple #[.bool r1, .int .i64 r2])∧Below w.heap.size w w':=by
 have hu27:=Try.underlying27;have hu49:=Try.underlying49;have HR0_0:=q_ aV;have HC0_0:=q_ aW;clear aV aW;have HR0_1:=q_ aX;have HC0_1:=q_ aY;clear aX aY;have HB:=q_ (Below.refl w.heap.size w);have H:((spec_PivotOf.f k ah ai a1).bind fun aK=>(if aK.2.2.2=0 then((spec_l04Whole.f k aK.1 aK.2.1 aK.2.2.1).bind fun aU=>(some (aU,0))) else(some (false,aK.2.2.2))))=some (r1,r2):=h;clear h;replace H:=Option.bind_eq_some_iff.mp H;obtain⟨⟨au,av,aw,aC⟩,A30,H⟩:=H;replace H:(if aC=0 then((spec_l04Whole.f k au av aw).bind fun aU=>(some (aU,0))) else(some (false,aC)))=some (r1,r2):=H;have A3:=q_ A30;clear A30
 by_cases c4:aC=0
 ·rw [if_pos c4] at H;have c4b0:=e1_ c4;have c4b1:=e2_ c4;clear c4;replace H:=Option.bind_eq_some_iff.mp H;obtain⟨aU,A50,H⟩:=H;replace H:(some (aU,0))=some (r1,r2):=H;have A5:=q_ A50;clear A50;simp only [Option.some.injEq,Prod.mk.injEq] at H;obtain⟨rfl,rfl⟩:=H
  go_enter Try.func29,Try.ntmps29
  go_wp2_with (first | ((with_reducible refine gate_dst (N:=2) rfl ?_);refine be_ 2 #[.slice ax ah.length ay, .slice az ai.length aA] 27 ?_;intro ag hg w6 hbox hb;have ae:=q_ (hbox);have aZ:=gz_ w hg;have a9:=gz_ w hg;replace HB:=Bs_ hb;clear hb hbox hg;obtain⟨bP,bQ,bR,bS⟩:=c2_ ae) | ((with_reducible refine gate_callee (f:=23) rfl ?_);refine gL_ 11 Try.func23 #[.agg #[.slice ax ah.length ay, .slice az ai.length aA], .int .i64 a1] ?_;(with_reducible refine(spec_PivotOf.calls k _ _ ah _ _ ai a1 au av aw aC _ ?aM ?aN ?aQ ?aT A3.out).mono ?_);(case aM=>exact cb_ HR0_0.out HB.out);(case aN=>exact HC0_0.out);(case aQ=>exact cb_ HR0_1.out HB.out);(case aT=>exact HC0_1.out);rintro e w8 ⟨bg,bh,rfl,ho0,ho1,hb⟩;refine⟨_,rfl,?_⟩;have ak:=q_ (Kd.S_lower ho0 bz_);have aq:=q_ (Kd.R_lower ho1 bz_);replace ae:=Bb_ ae hb;replace HB:=Bs_ hb;(try clear hb);(try clear hk);(try clear ho0);(try clear ho1)) | ((with_reducible refine gate_dst (N:=6) rfl ?_);refine be_ 6 #[.int .i64 0, .slice none 0 0, .slice none 0 0] 49 ?_;intro aa hg w9 hbox hb;replace ak:=q_ (Kd.S_below (so_ ak.out) hb);replace aq:=Rb_ aq hb;have af:=q_ (hbox);have ba:=gz_ w hg;have bf:=gz_ w hg;have aj:=lz_ hg ae;have aD:=mz_ hg ae;replace ae:=Bb_ ae hb;replace HB:=Bs_ hb;clear hb hbox hg;have bT:=aD.out;have bU:=aj.out;obtain⟨bw,bz,bA,bC,bD,bE⟩:=c3_ af;obtain⟨aI,aG,bk⟩:=Kd.S_slice ak.out;subst bk;obtain⟨aJ,aH,bq⟩:=Kd.R_slice aq.out;subst bq) | ((with_reducible refine gate_callee (f:=63) rfl ?_);refine gL_ 18 Try.func63 #[.agg #[.int .i64 au, .slice aI av.length aG, .slice aJ aw.length aH]] ?_;(with_reducible refine(spec_l04Whole.calls k au _ _ av _ _ aw aU _ ?aM ?aN ?aQ ?aT A5.out).mono ?_);(case aM=>refine(Kd.S_reads' (e:=25) (base:=w.heap.size) (ok:=fun k_=>some k_≠(.slice aJ aw.length aH:Value).ownBlock) (n:=av.length) (c:=aG) ?_).2.2;exact((kS_ (sf3_ ak.out af.out) (fun _ h_=>h_.1))));(case aN=>exact(Kd.S_reads' ak.out).2.1);(case aQ=>refine(Kd.R_reads' (e:=2) (base:=w.heap.size) (ok:=fun k_=>True) (n:=aw.length) (c:=aH) ?_).2.2;exact((kR_ (rf3_ aq.out af.out) (fun _ h_=>h_.1))));(case aT=>exact(Kd.R_reads' aq.out).2.1);rintro e w14 ⟨rfl,hb⟩;refine⟨_,rfl,?_⟩;replace ak:=q_ (Kd.S_below ((kS_ (sf3_ ak.out af.out) (fun _ h_=>h_.1))) hb);replace aq:=q_ (Kd.R_below ((kR_ (rf3_ aq.out af.out) (fun _ h_=>h_.1))) hb);replace ae:=q_ (blk_below (g:=ag) (o:= .cells #[.slice ax ah.length ay, .slice az ai.length aA] 27 (0,0)) (bw_) hb);replace HB:=Bs_ hb;replace af:=q_ (blk_below (g:=aa) (o:= .cells #[.int .i64 au, .slice aI av.length aG, .slice aJ aw.length aH] 49 (0,0)) (bw_) hb);(try clear hb);(try clear hk)))
  go_ret2
  exact⟨ew_,hb_⟩
 ·rw [if_neg c4] at H;have c4b0:=e3_ c4;have c4b1:=e4_ c4;simp only [Option.some.injEq,Prod.mk.injEq] at H;obtain⟨rfl,rfl⟩:=H
  go_enter Try.func29,Try.ntmps29
  go_wp2_with (first | ((with_reducible refine gate_dst (N:=2) rfl ?_);refine be_ 2 #[.slice ax ah.length ay, .slice az ai.length aA] 27 ?_;intro ag hg w15 hbox hb;have ae:=q_ (hbox);have aZ:=gz_ w hg;have a9:=gz_ w hg;replace HB:=Bs_ hb;clear hb hbox hg;obtain⟨bF,bG,bH,bI⟩:=c2_ ae) | ((with_reducible refine gate_callee (f:=23) rfl ?_);refine gL_ 11 Try.func23 #[.agg #[.slice ax ah.length ay, .slice az ai.length aA], .int .i64 a1] ?_;(with_reducible refine(spec_PivotOf.calls k _ _ ah _ _ ai a1 au av aw aC _ ?aM ?aN ?aQ ?aT A3.out).mono ?_);(case aM=>exact cb_ HR0_0.out HB.out);(case aN=>exact HC0_0.out);(case aQ=>exact cb_ HR0_1.out HB.out);(case aT=>exact HC0_1.out);rintro e w17 ⟨bg,bh,rfl,ho0,ho1,hb⟩;refine⟨_,rfl,?_⟩;have ak:=q_ (Kd.S_lower ho0 bz_);have aq:=q_ (Kd.R_lower ho1 bz_);replace ae:=Bb_ ae hb;replace HB:=Bs_ hb;(try clear hb);(try clear hk);(try clear ho0);(try clear ho1)) | ((with_reducible refine gate_dst (N:=6) rfl ?_);refine be_ 6 #[.int .i64 0, .slice none 0 0, .slice none 0 0] 49 ?_;intro aa hg w18 hbox hb;replace ak:=q_ (Kd.S_below (so_ ak.out) hb);replace aq:=Rb_ aq hb;have af:=q_ (hbox);have ba:=gz_ w hg;have bf:=gz_ w hg;have aj:=lz_ hg ae;have aD:=mz_ hg ae;replace ae:=Bb_ ae hb;replace HB:=Bs_ hb;clear hb hbox hg;have bV:=aD.out;have bW:=aj.out;obtain⟨bJ,bK,bL,bM,bN,bO⟩:=c3_ af;obtain⟨bX,bY,bu⟩:=Kd.S_slice ak.out;subst bu;obtain⟨bZ,cf,bv⟩:=Kd.R_slice aq.out;subst bv))
  go_ret2
  exact⟨ew_,hb_⟩
end Go.Proofs.Ytbjljcpngbhkeaa.Pr
end
section
namespace Go.Proofs.Ytbjljcpngbhkeaa.Pp
open Go.RowKit Wz.PrintWords Wz.PrintMore Ma Pr Dt Pb
theorem isWhole (M:List (List Int)) (Q:List Int) (s:Int) (hQ:Q.length≤1048576): ∃R:Bool × Int,Ev (fun k=>spec_IsWholePivot.f k M Q s) R∧Ev (fun k=>impl_IsWholePivot.f k M Q s) R:=by
 have ip:=impl_pivotOf_eq M Q s
 have sp:=spec_PivotOf_eq M Q s hQ
 unfold impl_IsWholePivot.f spec_IsWholePivot.f
 by_cases c:(pvO M Q s).2.2.2=0
 ·obtain⟨c1,d⟩:=pvO_zero c
  obtain⟨p,_⟩:=code_zero c1
  rw [pvO_at c1 d] at ip sp
  obtain⟨b,_,sw,iw⟩:=wholes p.mat.n5 s Q d
  exact⟨(b,0),evbind sp (evpos rfl (evbind sw (evc rfl))),evbind ip (evpos rfl (evsome iw (evc rfl)))⟩
 ·exact⟨(false,(pvO M Q s).2.2.2),evbind sp (evneg c (evc rfl)),evbind ip (evneg c (evc rfl))⟩
end Go.Proofs.Ytbjljcpngbhkeaa.Pp
end
section
namespace Go.Proofs.Ytbjljcpngbhkeaa.Pr
open Go.RowKit Wz.PrintWords Wz.PrintLast Wz.PrintMore
attribute [local go_sem] max2_int min2_int max_two min_two max_three min_three max_four min_four
def spec_InverseOf.f (k:Nat) (af:List (List Int)) (aa:List Int):Option ((List (List Int)) × Int × Int):=(spec_l01Is.f k af aa).bind fun ag=>(if ag=true then(if 0≤(IntKind.u64.wrap ((aa.length:Int))) then((spec_l04Pivot.f k af aa (wrap64 ((shl .i64 1 (IntKind.u64.wrap ((aa.length:Int)))) - 1))).bind fun ae=>(if ae.2.2.2=true then(some (ae.2.1,ae.1,0)) else(some (([]:List (List Int)),0,5)))) else(none)) else(some (([]:List (List Int)),0,1)))
theorem spec_InverseOf.calls (k:Nat) (ax:Option Addr) (ay:Nat) (ai:List (List Int)) (az:Option Addr) (aA:Nat) (ag:List Int) (r1:List (List Int)) (r2:Int) (r3:Int) (w:World) (cf:Kd.C (Kd.slice 2 (Kd.int .i64)) w ax ai.length ai) (cg:ai.length≤ay) (cm:Kd.C (Kd.int .i64) w az ag.length ag) (cu:ag.length≤aA) (h:spec_InverseOf.f k ai ag=some (r1,r2,r3)):
  Calls Try.prog 32 #[.agg #[.slice ax ai.length ay, .slice az ag.length aA]] w fun e w'=> ∃v0_:Value,e= .returned (.tuple #[v0_, .int .i64 r2, .int .i64 r3])∧Kd.S (Kd.slice 2 (Kd.int .i64)) 25 w' w.heap.size (fun _=>True) v0_ r1∧Below w.heap.size w w':=by
 have hu27:=Try.underlying27;have hu49:=Try.underlying49;have HR0_0:=q_ cf;have HC0_0:=q_ cg;clear cf cg;have HR0_1:=q_ cm;have HC0_1:=q_ cu;clear cm cu;have HB:=q_ (Below.refl w.heap.size w);have H:((spec_l01Is.f k ai ag).bind fun bV=>(if bV=true then(if 0≤(IntKind.u64.wrap ((ag.length:Int))) then((spec_l04Pivot.f k ai ag (wrap64 ((shl .i64 1 (IntKind.u64.wrap ((ag.length:Int)))) - 1))).bind fun aG=>(if aG.2.2.2=true then(some (aG.2.1,aG.1,0)) else(some (([]:List (List Int)),0,5)))) else(none)) else(some (([]:List (List Int)),0,1))))=some (r1,r2,r3):=h;clear h;replace H:=Option.bind_eq_some_iff.mp H;obtain⟨bV,A20,H⟩:=H;replace H:(if bV=true then(if 0≤(IntKind.u64.wrap ((ag.length:Int))) then((spec_l04Pivot.f k ai ag (wrap64 ((shl .i64 1 (IntKind.u64.wrap ((ag.length:Int)))) - 1))).bind fun aG=>(if aG.2.2.2=true then(some (aG.2.1,aG.1,0)) else(some (([]:List (List Int)),0,5)))) else(none)) else(some (([]:List (List Int)),0,1)))=some (r1,r2,r3):=H;have A2:=q_ A20;clear A20
 by_cases c3:bV=true
 ·subst c3;have H1:(if 0≤(IntKind.u64.wrap ((ag.length:Int))) then((spec_l04Pivot.f k ai ag (wrap64 ((shl .i64 1 (IntKind.u64.wrap ((ag.length:Int)))) - 1))).bind fun aG=>(if aG.2.2.2=true then(some (aG.2.1,aG.1,0)) else(some (([]:List (List Int)),0,5)))) else(none))=some (r1,r2,r3):=by rw [if_pos rfl] at H;exact H
  clear H;have H:=H1;clear H1;obtain⟨ji4,hji4⟩: ∃j_:Int,(IntKind.u64.wrap ((ag.length:Int)))=j_:=⟨_,rfl⟩
  replace H:(if 0≤(ji4) then((spec_l04Pivot.f k ai ag (wrap64 ((shl .i64 1 (ji4)) - 1))).bind fun aG=>(if aG.2.2.2=true then(some (aG.2.1,aG.1,0)) else(some (([]:List (List Int)),0,5)))) else(none))=some (r1,r2,r3):=by first | (rw [hji4] at H;exact H) | (simp only [hji4] at H ⊢;exact H)
  (try rw [hji4] at A2)
  by_cases c5:0≤(ji4)
  ·rw [if_pos c5] at H;have c5b0:=eq_true c5;have c5b1:=decide_eq_true c5;clear c5;obtain⟨ji6,hji6⟩: ∃j_:Int,(shl .i64 1 (ji4))=j_:=⟨_,rfl⟩
   replace H:((spec_l04Pivot.f k ai ag (wrap64 ((ji6) - 1))).bind fun aG=>(if aG.2.2.2=true then(some (aG.2.1,aG.1,0)) else(some (([]:List (List Int)),0,5))))=some (r1,r2,r3):=by first | (rw [hji6] at H;exact H) | (simp only [hji6] at H ⊢;exact H)
   (try rw [hji6] at A2)
   have hji6_:=s1_ hji6;have hji6z:=s2_ hji6;have hji6u:=s3_ hji6;have hji6v:=s4_ hji6;have hji6y:=s5_ hji6;have hji6x:=s6_ hji6;replace H:=Option.bind_eq_some_iff.mp H;obtain⟨⟨aJ,aK,aM,cD⟩,A70,H⟩:=H;replace H:(if cD=true then(some (aK,aJ,0)) else(some (([]:List (List Int)),0,5)))=some (r1,r2,r3):=H;have A7:=q_ A70;clear A70
   by_cases c8:cD=true
   ·subst c8;have H1:(some (aK,aJ,0))=some (r1,r2,r3):=by rw [if_pos rfl] at H;exact H
    clear H;have H:=H1;clear H1;simp only [Option.some.injEq,Prod.mk.injEq] at H;obtain⟨rfl,rfl,rfl⟩:=H
    go_enter Try.func32,Try.ntmps32
    go_wp2_with (first | ((with_reducible refine gate_dst (N:=1) rfl ?_);refine be_ 1 #[.slice ax ai.length ay, .slice az ag.length aA] 27 ?_;intro ae hg w9 hbox hb;have aa:=q_ (hbox);have aH:=gz_ w hg;have aI:=gz_ w hg;replace HB:=Bs_ hb;clear hb hbox hg;obtain⟨aZ,a9,ba,bf⟩:=c2_ aa) | (go_at_call 55;(with_reducible refine(spec_l01Is.calls k _ _ ai _ _ ag true _ ?aj ?ak ?aq ?au A2.out).mono ?_);(case aj=>exact cb_ HR0_0.out HB.out);(case ak=>exact HC0_0.out);(case aq=>exact cb_ HR0_1.out HB.out);(case au=>exact HC0_1.out);rintro e w11 ⟨rfl,hb⟩;replace aa:=Bb_ aa hb;replace HB:=Bs_ hb;(try clear hb);(try clear hk);obtain⟨bg,bh,bk,bq⟩:=c2_ aa) | (go_at_call 49;(with_reducible refine(spec_l04Pivot.calls k _ _ ai _ _ ag (wrap64 ((ji6) - 1)) aJ aK aM true _ ?aj ?ak ?aq ?au A7.out).mono ?_);(case aj=>exact cb_ HR0_0.out HB.out);(case ak=>exact HC0_0.out);(case aq=>exact cb_ HR0_1.out HB.out);(case au=>exact HC0_1.out);rintro e w13 ⟨aT,aU,rfl,ho0,ho1,hb⟩;have av:=q_ (Kd.S_lower ho0 bz_);have aw:=q_ (Kd.R_lower ho1 bz_);replace aa:=Bb_ aa hb;replace HB:=Bs_ hb;(try clear hb);(try clear hk);(try clear ho0);(try clear ho1)) | ((with_reducible refine gate_dst (N:=5) rfl ?_);refine be_ 5 #[.int .i64 0, .slice none 0 0, .slice none 0 0] 49 ?_;intro af hg w14 hbox hb;replace av:=q_ (Kd.S_below (so_ av.out) hb);replace aw:=Rb_ aw hb;have ah:=q_ (hbox);have aN:=gz_ w hg;have aQ:=gz_ w hg;have aC:=lz_ hg aa;have aD:=mz_ hg aa;replace aa:=Bb_ aa hb;replace HB:=Bs_ hb;clear hb hbox hg;have cz:=aD.out;have cA:=aC.out;obtain⟨bu,bv,bw,bz,bA,bC⟩:=c3_ ah;obtain⟨bW,bX,aV⟩:=Kd.S_slice av.out;subst aV;obtain⟨bY,bZ,aW⟩:=Kd.R_slice aw.out;subst aW))
    repeat (go_quiet (first | ((with_reducible refine gate_dst (N:=1) rfl ?_);refine be_ 1 #[.slice ax ai.length ay, .slice az ag.length aA] 27 ?_;intro ae hg w9 hbox hb;have aa:=q_ (hbox);have aH:=gz_ w hg;have aI:=gz_ w hg;replace HB:=Bs_ hb;clear hb hbox hg;obtain⟨aZ,a9,ba,bf⟩:=c2_ aa) | (go_at_call 55;(with_reducible refine(spec_l01Is.calls k _ _ ai _ _ ag true _ ?aj ?ak ?aq ?au A2.out).mono ?_);(case aj=>exact cb_ HR0_0.out HB.out);(case ak=>exact HC0_0.out);(case aq=>exact cb_ HR0_1.out HB.out);(case au=>exact HC0_1.out);rintro e w11 ⟨rfl,hb⟩;replace aa:=Bb_ aa hb;replace HB:=Bs_ hb;(try clear hb);(try clear hk);obtain⟨bg,bh,bk,bq⟩:=c2_ aa) | (go_at_call 49;(with_reducible refine(spec_l04Pivot.calls k _ _ ai _ _ ag (wrap64 ((ji6) - 1)) aJ aK aM true _ ?aj ?ak ?aq ?au A7.out).mono ?_);(case aj=>exact cb_ HR0_0.out HB.out);(case ak=>exact HC0_0.out);(case aq=>exact cb_ HR0_1.out HB.out);(case au=>exact HC0_1.out);rintro e w13 ⟨aT,aU,rfl,ho0,ho1,hb⟩;have av:=q_ (Kd.S_lower ho0 bz_);have aw:=q_ (Kd.R_lower ho1 bz_);replace aa:=Bb_ aa hb;replace HB:=Bs_ hb;(try clear hb);(try clear hk);(try clear ho0);(try clear ho1)) | ((with_reducible refine gate_dst (N:=5) rfl ?_);refine be_ 5 #[.int .i64 0, .slice none 0 0, .slice none 0 0] 49 ?_;intro af hg w14 hbox hb;replace av:=q_ (Kd.S_below (so_ av.out) hb);replace aw:=Rb_ aw hb;have ah:=q_ (hbox);have aN:=gz_ w hg;have aQ:=gz_ w hg;have aC:=lz_ hg aa;have aD:=mz_ hg aa;replace aa:=Bb_ aa hb;replace HB:=Bs_ hb;clear hb hbox hg;have cz:=aD.out;have cA:=aC.out;obtain⟨bu,bv,bw,bz,bA,bC⟩:=c3_ ah;obtain⟨bW,bX,aV⟩:=Kd.S_slice av.out;subst aV;obtain⟨bY,bZ,aW⟩:=Kd.R_slice aw.out;subst aW));try go_wp2_with (first | ((with_reducible refine gate_dst (N:=1) rfl ?_);refine be_ 1 #[.slice ax ai.length ay, .slice az ag.length aA] 27 ?_;intro ae hg w9 hbox hb;have aa:=q_ (hbox);have aH:=gz_ w hg;have aI:=gz_ w hg;replace HB:=Bs_ hb;clear hb hbox hg;obtain⟨aZ,a9,ba,bf⟩:=c2_ aa) | (go_at_call 55;(with_reducible refine(spec_l01Is.calls k _ _ ai _ _ ag true _ ?aj ?ak ?aq ?au A2.out).mono ?_);(case aj=>exact cb_ HR0_0.out HB.out);(case ak=>exact HC0_0.out);(case aq=>exact cb_ HR0_1.out HB.out);(case au=>exact HC0_1.out);rintro e w11 ⟨rfl,hb⟩;replace aa:=Bb_ aa hb;replace HB:=Bs_ hb;(try clear hb);(try clear hk);obtain⟨bg,bh,bk,bq⟩:=c2_ aa) | (go_at_call 49;(with_reducible refine(spec_l04Pivot.calls k _ _ ai _ _ ag (wrap64 ((ji6) - 1)) aJ aK aM true _ ?aj ?ak ?aq ?au A7.out).mono ?_);(case aj=>exact cb_ HR0_0.out HB.out);(case ak=>exact HC0_0.out);(case aq=>exact cb_ HR0_1.out HB.out);(case au=>exact HC0_1.out);rintro e w13 ⟨aT,aU,rfl,ho0,ho1,hb⟩;have av:=q_ (Kd.S_lower ho0 bz_);have aw:=q_ (Kd.R_lower ho1 bz_);replace aa:=Bb_ aa hb;replace HB:=Bs_ hb;(try clear hb);(try clear hk);(try clear ho0);(try clear ho1)) | ((with_reducible refine gate_dst (N:=5) rfl ?_);refine be_ 5 #[.int .i64 0, .slice none 0 0, .slice none 0 0] 49 ?_;intro af hg w14 hbox hb;replace av:=q_ (Kd.S_below (so_ av.out) hb);replace aw:=Rb_ aw hb;have ah:=q_ (hbox);have aN:=gz_ w hg;have aQ:=gz_ w hg;have aC:=lz_ hg aa;have aD:=mz_ hg aa;replace aa:=Bb_ aa hb;replace HB:=Bs_ hb;clear hb hbox hg;have cz:=aD.out;have cA:=aC.out;obtain⟨bu,bv,bw,bz,bA,bC⟩:=c3_ ah;obtain⟨bW,bX,aV⟩:=Kd.S_slice av.out;subst aV;obtain⟨bY,bZ,aW⟩:=Kd.R_slice aw.out;subst aW)))
    go_ret3
    exact⟨_,by first | rfl | (simp [errW_none,errW_some] <;> rfl) | (simp only [← hji4, ← hji6];first | rfl | (simp [errW_none,errW_some] <;> rfl)) | (simp [*,errW_none,errW_some] <;> rfl),kS_ (sf3_ av.out ah.out) (fun _ hk=>trivial),hb_⟩
   ·replace c8:=Bool.eq_false_iff.mpr c8;subst c8;have H1:(some (([]:List (List Int)),0,5))=some (r1,r2,r3):=by rw [if_neg (show ¬ (false=true) by decide)] at H;exact H
    clear H;have H:=H1;clear H1;simp only [Option.some.injEq,Prod.mk.injEq] at H;obtain⟨rfl,rfl,rfl⟩:=H
    go_enter Try.func32,Try.ntmps32
    go_wp2_with (first | ((with_reducible refine gate_dst (N:=1) rfl ?_);refine be_ 1 #[.slice ax ai.length ay, .slice az ag.length aA] 27 ?_;intro ae hg w19 hbox hb;have aa:=q_ (hbox);have aH:=gz_ w hg;have aI:=gz_ w hg;replace HB:=Bs_ hb;clear hb hbox hg;obtain⟨bD,bE,bF,bG⟩:=c2_ aa) | (go_at_call 55;(with_reducible refine(spec_l01Is.calls k _ _ ai _ _ ag true _ ?aj ?ak ?aq ?au A2.out).mono ?_);(case aj=>exact cb_ HR0_0.out HB.out);(case ak=>exact HC0_0.out);(case aq=>exact cb_ HR0_1.out HB.out);(case au=>exact HC0_1.out);rintro e w21 ⟨rfl,hb⟩;replace aa:=Bb_ aa hb;replace HB:=Bs_ hb;(try clear hb);(try clear hk);obtain⟨bH,bI,bJ,bK⟩:=c2_ aa) | (go_at_call 49;(with_reducible refine(spec_l04Pivot.calls k _ _ ai _ _ ag (wrap64 ((ji6) - 1)) aJ aK aM false _ ?aj ?ak ?aq ?au A7.out).mono ?_);(case aj=>exact cb_ HR0_0.out HB.out);(case ak=>exact HC0_0.out);(case aq=>exact cb_ HR0_1.out HB.out);(case au=>exact HC0_1.out);rintro e w23 ⟨aT,aU,rfl,ho0,ho1,hb⟩;have av:=q_ (Kd.S_lower ho0 bz_);have aw:=q_ (Kd.R_lower ho1 bz_);replace aa:=Bb_ aa hb;replace HB:=Bs_ hb;(try clear hb);(try clear hk);(try clear ho0);(try clear ho1)) | ((with_reducible refine gate_dst (N:=5) rfl ?_);refine be_ 5 #[.int .i64 0, .slice none 0 0, .slice none 0 0] 49 ?_;intro af hg w24 hbox hb;replace av:=q_ (Kd.S_below (so_ av.out) hb);replace aw:=Rb_ aw hb;have ah:=q_ (hbox);have aN:=gz_ w hg;have aQ:=gz_ w hg;have aC:=lz_ hg aa;have aD:=mz_ hg aa;replace aa:=Bb_ aa hb;replace HB:=Bs_ hb;clear hb hbox hg;have cB:=aD.out;have cC:=aC.out;obtain⟨bL,bM,bN,bO,bP,bQ⟩:=c3_ ah;obtain⟨cE,cF,aX⟩:=Kd.S_slice av.out;subst aX;obtain⟨cG,cH,aY⟩:=Kd.R_slice aw.out;subst aY))
    repeat (go_quiet (first | ((with_reducible refine gate_dst (N:=1) rfl ?_);refine be_ 1 #[.slice ax ai.length ay, .slice az ag.length aA] 27 ?_;intro ae hg w19 hbox hb;have aa:=q_ (hbox);have aH:=gz_ w hg;have aI:=gz_ w hg;replace HB:=Bs_ hb;clear hb hbox hg;obtain⟨bD,bE,bF,bG⟩:=c2_ aa) | (go_at_call 55;(with_reducible refine(spec_l01Is.calls k _ _ ai _ _ ag true _ ?aj ?ak ?aq ?au A2.out).mono ?_);(case aj=>exact cb_ HR0_0.out HB.out);(case ak=>exact HC0_0.out);(case aq=>exact cb_ HR0_1.out HB.out);(case au=>exact HC0_1.out);rintro e w21 ⟨rfl,hb⟩;replace aa:=Bb_ aa hb;replace HB:=Bs_ hb;(try clear hb);(try clear hk);obtain⟨bH,bI,bJ,bK⟩:=c2_ aa) | (go_at_call 49;(with_reducible refine(spec_l04Pivot.calls k _ _ ai _ _ ag (wrap64 ((ji6) - 1)) aJ aK aM false _ ?aj ?ak ?aq ?au A7.out).mono ?_);(case aj=>exact cb_ HR0_0.out HB.out);(case ak=>exact HC0_0.out);(case aq=>exact cb_ HR0_1.out HB.out);(case au=>exact HC0_1.out);rintro e w23 ⟨aT,aU,rfl,ho0,ho1,hb⟩;have av:=q_ (Kd.S_lower ho0 bz_);have aw:=q_ (Kd.R_lower ho1 bz_);replace aa:=Bb_ aa hb;replace HB:=Bs_ hb;(try clear hb);(try clear hk);(try clear ho0);(try clear ho1)) | ((with_reducible refine gate_dst (N:=5) rfl ?_);refine be_ 5 #[.int .i64 0, .slice none 0 0, .slice none 0 0] 49 ?_;intro af hg w24 hbox hb;replace av:=q_ (Kd.S_below (so_ av.out) hb);replace aw:=Rb_ aw hb;have ah:=q_ (hbox);have aN:=gz_ w hg;have aQ:=gz_ w hg;have aC:=lz_ hg aa;have aD:=mz_ hg aa;replace aa:=Bb_ aa hb;replace HB:=Bs_ hb;clear hb hbox hg;have cB:=aD.out;have cC:=aC.out;obtain⟨bL,bM,bN,bO,bP,bQ⟩:=c3_ ah;obtain⟨cE,cF,aX⟩:=Kd.S_slice av.out;subst aX;obtain⟨cG,cH,aY⟩:=Kd.R_slice aw.out;subst aY));try go_wp2_with (first | ((with_reducible refine gate_dst (N:=1) rfl ?_);refine be_ 1 #[.slice ax ai.length ay, .slice az ag.length aA] 27 ?_;intro ae hg w19 hbox hb;have aa:=q_ (hbox);have aH:=gz_ w hg;have aI:=gz_ w hg;replace HB:=Bs_ hb;clear hb hbox hg;obtain⟨bD,bE,bF,bG⟩:=c2_ aa) | (go_at_call 55;(with_reducible refine(spec_l01Is.calls k _ _ ai _ _ ag true _ ?aj ?ak ?aq ?au A2.out).mono ?_);(case aj=>exact cb_ HR0_0.out HB.out);(case ak=>exact HC0_0.out);(case aq=>exact cb_ HR0_1.out HB.out);(case au=>exact HC0_1.out);rintro e w21 ⟨rfl,hb⟩;replace aa:=Bb_ aa hb;replace HB:=Bs_ hb;(try clear hb);(try clear hk);obtain⟨bH,bI,bJ,bK⟩:=c2_ aa) | (go_at_call 49;(with_reducible refine(spec_l04Pivot.calls k _ _ ai _ _ ag (wrap64 ((ji6) - 1)) aJ aK aM false _ ?aj ?ak ?aq ?au A7.out).mono ?_);(case aj=>exact cb_ HR0_0.out HB.out);(case ak=>exact HC0_0.out);(case aq=>exact cb_ HR0_1.out HB.out);(case au=>exact HC0_1.out);rintro e w23 ⟨aT,aU,rfl,ho0,ho1,hb⟩;have av:=q_ (Kd.S_lower ho0 bz_);have aw:=q_ (Kd.R_lower ho1 bz_);replace aa:=Bb_ aa hb;replace HB:=Bs_ hb;(try clear hb);(try clear hk);(try clear ho0);(try clear ho1)) | ((with_reducible refine gate_dst (N:=5) rfl ?_);refine be_ 5 #[.int .i64 0, .slice none 0 0, .slice none 0 0] 49 ?_;intro af hg w24 hbox hb;replace av:=q_ (Kd.S_below (so_ av.out) hb);replace aw:=Rb_ aw hb;have ah:=q_ (hbox);have aN:=gz_ w hg;have aQ:=gz_ w hg;have aC:=lz_ hg aa;have aD:=mz_ hg aa;replace aa:=Bb_ aa hb;replace HB:=Bs_ hb;clear hb hbox hg;have cB:=aD.out;have cC:=aC.out;obtain⟨bL,bM,bN,bO,bP,bQ⟩:=c3_ ah;obtain⟨cE,cF,aX⟩:=Kd.S_slice av.out;subst aX;obtain⟨cG,cH,aY⟩:=Kd.R_slice aw.out;subst aY)))
    go_ret3
    exact⟨_,by first | rfl | (simp [errW_none,errW_some] <;> rfl) | (simp only [← hji4, ← hji6];first | rfl | (simp [errW_none,errW_some] <;> rfl)) | (simp [*,errW_none,errW_some] <;> rfl),by first | exact Kd.S_nil _ _ _ _ _ | exact Kd.N_nil _ _ _ _ _ | exact Kd.V_nil _ _ _ _ _ | exact Kd.Q_nil _ _ _ _ _ | exact Kd.R_nil _ _ _ _ _,hb_⟩
  ·rw [if_neg c5] at H;exact absurd H (by simp)
 ·replace c3:=Bool.eq_false_iff.mpr c3;subst c3;have H1:(some (([]:List (List Int)),0,1))=some (r1,r2,r3):=by rw [if_neg (show ¬ (false=true) by decide)] at H;exact H
  clear H;have H:=H1;clear H1;simp only [Option.some.injEq,Prod.mk.injEq] at H;obtain⟨rfl,rfl,rfl⟩:=H
  go_enter Try.func32,Try.ntmps32
  go_wp2_with (first | ((with_reducible refine gate_dst (N:=1) rfl ?_);refine be_ 1 #[.slice ax ai.length ay, .slice az ag.length aA] 27 ?_;intro ae hg w29 hbox hb;have aa:=q_ (hbox);have aH:=gz_ w hg;have aI:=gz_ w hg;replace HB:=Bs_ hb;clear hb hbox hg;obtain⟨bR,bS,bT,bU⟩:=c2_ aa) | (go_at_call 55;(with_reducible refine(spec_l01Is.calls k _ _ ai _ _ ag false _ ?aj ?ak ?aq ?au A2.out).mono ?_);(case aj=>exact cb_ HR0_0.out HB.out);(case ak=>exact HC0_0.out);(case aq=>exact cb_ HR0_1.out HB.out);(case au=>exact HC0_1.out);rintro e w31 ⟨rfl,hb⟩;replace aa:=Bb_ aa hb;replace HB:=Bs_ hb;(try clear hb);(try clear hk)))
  repeat (go_quiet (first | ((with_reducible refine gate_dst (N:=1) rfl ?_);refine be_ 1 #[.slice ax ai.length ay, .slice az ag.length aA] 27 ?_;intro ae hg w29 hbox hb;have aa:=q_ (hbox);have aH:=gz_ w hg;have aI:=gz_ w hg;replace HB:=Bs_ hb;clear hb hbox hg;obtain⟨bR,bS,bT,bU⟩:=c2_ aa) | (go_at_call 55;(with_reducible refine(spec_l01Is.calls k _ _ ai _ _ ag false _ ?aj ?ak ?aq ?au A2.out).mono ?_);(case aj=>exact cb_ HR0_0.out HB.out);(case ak=>exact HC0_0.out);(case aq=>exact cb_ HR0_1.out HB.out);(case au=>exact HC0_1.out);rintro e w31 ⟨rfl,hb⟩;replace aa:=Bb_ aa hb;replace HB:=Bs_ hb;(try clear hb);(try clear hk)));try go_wp2_with (first | ((with_reducible refine gate_dst (N:=1) rfl ?_);refine be_ 1 #[.slice ax ai.length ay, .slice az ag.length aA] 27 ?_;intro ae hg w29 hbox hb;have aa:=q_ (hbox);have aH:=gz_ w hg;have aI:=gz_ w hg;replace HB:=Bs_ hb;clear hb hbox hg;obtain⟨bR,bS,bT,bU⟩:=c2_ aa) | (go_at_call 55;(with_reducible refine(spec_l01Is.calls k _ _ ai _ _ ag false _ ?aj ?ak ?aq ?au A2.out).mono ?_);(case aj=>exact cb_ HR0_0.out HB.out);(case ak=>exact HC0_0.out);(case aq=>exact cb_ HR0_1.out HB.out);(case au=>exact HC0_1.out);rintro e w31 ⟨rfl,hb⟩;replace aa:=Bb_ aa hb;replace HB:=Bs_ hb;(try clear hb);(try clear hk))))
  go_ret3
  exact⟨_,ew_,by first | exact Kd.S_nil _ _ _ _ _ | exact Kd.N_nil _ _ _ _ _ | exact Kd.V_nil _ _ _ _ _ | exact Kd.Q_nil _ _ _ _ _ | exact Kd.R_nil _ _ _ _ _,hb_⟩
def impl_signs.l0:Nat→List Int→List Int→Int→Int→Option (List Int)
 | 0,_,_,_,_=>none
 | k+1,x3,x9,x10,x11=>if x11 < x10 then(if 0≤x11 then(if x11 < (x9.length:Int) then((impl_sign.f (rd x9 x11)).bind fun aa=>(if x11 < (x3.length:Int) then(impl_signs.l0 k (x3.set (x11:Int).toNat aa) x9 x10 (wrap64 (x11+1))) else(none))) else(none)) else(none)) else(some x3)
def impl_signs.f (k:Nat) (l0:List Int):Option (List Int):=if 0≤(l0.length:Int) then(if((l0.length:Int):Int).toNat≤35184372088832 then(impl_signs.l0 k (List.replicate ((l0.length:Int):Int).toNat 0) l0 (l0.length:Int) 0) else(none)) else(none)
theorem impl_signs.calls (k:Nat) (A0:Option Addr) (c0:Nat) (l0:List Int) (r:List Int) (w:World) (hr0:Kd.C (Kd.int .i64) w A0 l0.length l0) (hc0:l0.length≤c0) (h:impl_signs.f k l0=some r):
  Calls Try.prog 64 #[.slice A0 l0.length c0] w fun e w'=> ∃v0_:Value,e= .returned (v0_)∧Kd.R (Kd.int .i64) 2 w' w.heap.size (fun _=>True) v0_ r∧Below w.heap.size w w':=by
 have HR0:=q_ hr0;have HC0:=q_ hc0;clear hr0 hc0;have HB:=q_ (Below.refl w.heap.size w);have H:(if 0≤(l0.length:Int) then(if((l0.length:Int):Int).toNat≤35184372088832 then(impl_signs.l0 k (List.replicate ((l0.length:Int):Int).toNat 0) l0 (l0.length:Int) 0) else(none)) else(none))=some r:=h;clear h
 by_cases c2:0≤(l0.length:Int)
 ·rw [if_pos c2] at H;have c2b0:=eq_true c2;have c2b1:=decide_eq_true c2;clear c2
  by_cases c3:((l0.length:Int):Int).toNat≤35184372088832
  ·rw [if_pos c3] at H;have c3b0:=eq_true c3;have c3b1:=decide_eq_true c3;clear c3;obtain⟨aj,hy⟩: ∃y_:List Int,y_=(List.replicate ((l0.length:Int):Int).toNat 0):=⟨_,rfl⟩
   replace H:(impl_signs.l0 k aj l0 (l0.length:Int) 0)=some r:=hh_;have ai:=q_ hy;clear hy;have H':=q_ H;clear H
   go_enter Try.func64,Try.ntmps64
   go_wp2_with (first | ((with_reducible refine gate_dst (N:=8) rfl ?_);refine Kd.R_make (Kd.int .i64) _ 2 rfl (N:=8) rfl 25 _ _ rfl (l0.length:Int) rfl rfl Try.underlying25 (.int .i64 0) 8 info2 rfl (by decide) (by omega) 0 (ok:=fun _=>True) (okp:=fun _=>True) rfl (fun _ hk=>hk) trivial od_ (Nat.le_trans (Nat.mul_le_mul_right _ (od_:(l0.length:Int).toNat≤35184372088832)) (by omega)) (Below.refl _ _) (Nat.le_refl _) ?_;intro ak w4 ho5 hb hg_ hnew_;clear hg_ hnew_;(first | rw [← ai.out] at ho5 | (simp only [Int.reduceToNat] at ho5;rw [← ai.out] at ho5));have av:=q_ (Kd.R_lower ho5 bz_);replace HB:=Bs_ hb;clear hb ho5))
   go_loopg [11] k (fun kq v11 w'=> ∃(ae:List Int) (aa:Int),v11= .int .i64 aa∧Aside0 (impl_signs.l0 kq ae l0 (l0.length:Int) aa=some r)∧Aside0 (kq≤k)∧Aside0 (Kd.R (Kd.int .i64) 2 w' w.heap.size (fun _=>True) ak ae)∧Aside0 (Below w.heap.size w w'))
   case atStart=>exact⟨(aj),(0),rs_,H',⟨Nat.le_refl _⟩,⟨ro_ av.out⟩,⟨hb_⟩⟩
   case round=>
    clear H';(try clear c2);(try clear c2b0);(try clear c2b1);(try clear c3);(try clear c3b0);(try clear c3b1);obtain⟨ae,aa,rfl,HA,HK1,af,HB⟩:=hrel;cases gk with
    | zero=>exact absurd HA.out (by simp [impl_signs.l0])
    | succ k1=>
     have H:=HA.out;clear HA;simp only [impl_signs.l0] at H
     by_cases c6:aa < (l0.length:Int)
     ·rw [if_pos c6] at H;have c6b0:=decide_eq_true c6;clear c6
      by_cases c7:0≤aa
      ·rw [if_pos c7] at H;have c7b0:=decide_eq_true c7;clear c7
       by_cases c8:aa < (l0.length:Int)
       ·rw [if_pos c8] at H;have c8b0:=decide_eq_true c8;clear c8;replace H:=Option.bind_eq_some_iff.mp H;obtain⟨ag,A90,H⟩:=H;replace H:(if aa < (ae.length:Int) then(impl_signs.l0 k1 (ae.set (aa:Int).toNat ag) l0 (l0.length:Int) (wrap64 (aa+1))) else(none))=some r:=H;have A9:=q_ A90;clear A90
        by_cases c10:aa < (ae.length:Int)
        ·rw [if_pos c10] at H;have c10b0:=decide_eq_true c10;clear c10;obtain⟨ah,hy⟩: ∃y_:List Int,y_=(ae.set (aa:Int).toNat ag):=⟨_,rfl⟩
         replace H:(impl_signs.l0 k1 ah l0 (l0.length:Int) (wrap64 (aa+1)))=some r:=hh_;have aw:=q_ hy;clear hy;have H':=q_ H;clear H;have p627:0≤(aa:Int):=od_;have q627:aa < (l0.length:Int):=od_;obtain⟨ay,e627,hx627_0⟩:=Kd.at_int HR0.out aa p627 q627;cases e627
         replace hx627_0:=bc_ HB.out hx627_0;replace p627:=eq_true p627;replace q627:=eq_true q627
         go_wp2_with (first | ((with_reducible refine gate_callee (f:=65) rfl ?_);refine gL_ 19 Try.func65 #[.int .i64 (rd l0 aa)] ?_;(with_reducible refine(impl_sign.calls (rd l0 aa) ag _ A9.out).mono ?_);rintro e w' ⟨rfl,⟨nd,rfl⟩⟩;refine⟨_,rfl,?_⟩;(try (rw [drewN_self wr];generalize hq_:World.drewN wr _=wr;have n0_:Aside0 (Kd.R (Kd.int .i64) 2 wr w.heap.size (fun _=>True) ak ae):=⟨by rw [← hq_];exact(ro_ af.out)⟩;have n1_:Aside0 (Below w.heap.size w wr):=⟨by rw [← hq_];exact hb_⟩;clear af HB hq_;have af:=n0_;have HB:=n1_;clear n0_ n1_));have p11:0≤(aa:Int):=od_;have q11:(aa:Int) < ((ae.length:Int):Int):=od_;obtain⟨go11,ax,aq,au,gl11,cl11,HG11⟩:=Kd.R_form af.out (by omega);(first | cases aq | (injection aq with ea_ en_ ec_;(first | subst ea_ | (injection ea_ with ea_;subst ea_));subst ec_;clear en_));have GB11:=q_ au;have GG11:=q_ HG11;clear au gl11 HG11;obtain⟨hx11_0,hf11_0⟩:=Kd.R_celln 0 af.out (aa:Int) p11 q11;replace p11:=eq_true p11;replace q11:=eq_true q11;obtain⟨hy12_,hz12_⟩:=Kd.R_celln 0 af.out (aa:Int) od_ od_;have HP12:=Kd.R_putg af.out (aa:Int) ag) | ((with_reducible refine gate_store (t:=2) (p:=20) rfl ?_);refine se_ 2 20 ((wr.setCell ⟨go11,(aa:Int).toNat,none⟩ (.int .i64 ag))) ?_;intro w13 hw;have hg:wr.grownBy w13 (some go11):=(by rw [hw];exact HP12.2);have hp_:Kd.R (Kd.int .i64) 2 w13 w.heap.size (fun _=>True) (.slice (some ⟨go11,0,none⟩) ae.length ax) ah:=(by rw [hw,aw.out];exact HP12.1);clear HP12;replace af:=q_ (hp_);replace HB:=q_ ((by rw [hw];exact below_set (HB.out) GB11.out:Below w.heap.size w w13));clear hg hw hp_))
         go_roundg k1
         case measure=>have:=HK1.out;omega
         case rel=>exact⟨(ah),(wrap64 (aa+1)),rs_,H',⟨by have:=HK1.out;omega⟩,⟨ro_ af.out⟩,⟨hb_⟩⟩
        ·rw [if_neg c10] at H;exact absurd H (by simp)
       ·rw [if_neg c8] at H;exact absurd H (by simp)
      ·rw [if_neg c7] at H;exact absurd H (by simp)
     ·rw [if_neg c6] at H;have c6b0:=decide_eq_false c6;clear c6;obtain rfl:=Option.some.inj H;go_wp2
      go_ret
      exact⟨_,ew_,ro_ af.out,hb_⟩
  ·rw [if_neg c3] at H;exact absurd H (by simp)
 ·rw [if_neg c2] at H;exact absurd H (by simp)
def impl_SignsOfPivot.l0:Nat→List (List Int)→List (List Int)→Int→Int→Int→List (List Int)→List Int→Option ((List (List Int)) × Int)
 | 0,_,_,_,_,_,_,_=>none
 | k+1,x8,x21,x22,x23,ae,af,aa=>if x23 < x22 then(if 0≤x23 then(if x23 < (x21.length:Int) then((impl_signs.f k (rd_L2 x21 x23)).bind fun ag=>(if x23 < (aa.length:Int) then((impl_sign.f (rd aa x23)).bind fun ah=>(if ag.length < 17592186044416 then(if x8.length < 5864062014805 then(impl_SignsOfPivot.l0 k (x8++ [(ag++ [ah])]) x21 x22 (wrap64 (x23+1)) ae af aa) else(none)) else(none))) else(none))) else(none)) else(none)) else(some (x8,0))
def impl_SignsOfPivot.f (k:Nat) (ae:List (List Int)) (af:List Int) (a1:Int):Option ((List (List Int)) × Int):=(impl_pivotOf.f k ae af a1).bind fun aa=>(if aa.2.2.2=0 then(impl_SignsOfPivot.l0 k ([]:List (List Int)) aa.2.1 (aa.2.1.length:Int) 0 aa.1 aa.2.1 aa.2.2.1) else(some (([]:List (List Int)),aa.2.2.2)))
def impl_SignsOfPivot.T8:Bool × List (List Nat × List Nat):=(true, [([], []),([], []),([1], [1]),([], []),([3], [3]),([], []),([4,5], [4,5]),([6], [6]),([7,2], [7]),([8], [8]),([2,9,8], [2,9]),([10], [10]),([0,11,10], [0,11]),([12,12,0,1,2,3,4,5,6,7,8,9,10,11,12], [0,12])])
def impl_SignsOfPivot.B8:List Nat:= [0,0,2,0,8,0,56,120,254,510,1022,2046,4095,8191]
theorem impl_SignsOfPivot.tab8:rtab .any (opsOf Try.f33 8)=impl_SignsOfPivot.T8:=by kernel_rfl
theorem impl_SignsOfPivot.bits8:waitsOk impl_SignsOfPivot.T8.2 impl_SignsOfPivot.B8=true:=by kernel_rfl
theorem impl_SignsOfPivot.calls (k:Nat) (aK:Option Addr) (aM:Nat) (ay:List (List Int)) (aN:Option Addr) (aQ:Nat) (az:List Int) (a1:Int) (r1:List (List Int)) (r2:Int) (w:World) (bA:Kd.C (Kd.slice 2 (Kd.int .i64)) w aK ay.length ay) (bC:ay.length≤aM) (bD:Kd.C (Kd.int .i64) w aN az.length az) (bE:az.length≤aQ) (h:impl_SignsOfPivot.f k ay az a1=some (r1,r2)):
  Calls Try.prog 33 #[.agg #[.slice aK ay.length aM, .slice aN az.length aQ], .int .i64 a1] w fun e w'=> ∃v0_:Value,e= .returned (.tuple #[v0_, .int .i64 r2])∧Kd.S (Kd.slice 2 (Kd.int .i64)) 25 w' w.heap.size (fun _=>True) v0_ r1∧Below w.heap.size w w':=by
 have hu27:=Try.underlying27;have hu49:=Try.underlying49;have HR0_0:=q_ bA;have HC0_0:=q_ bC;clear bA bC;have HR0_1:=q_ bD;have HC0_1:=q_ bE;clear bD bE;have HB:=q_ (Below.refl w.heap.size w);have H:((impl_pivotOf.f k ay az a1).bind fun aT=>(if aT.2.2.2=0 then(impl_SignsOfPivot.l0 k ([]:List (List Int)) aT.2.1 (aT.2.1.length:Int) 0 aT.1 aT.2.1 aT.2.2.1) else(some (([]:List (List Int)),aT.2.2.2))))=some (r1,r2):=h;clear h;replace H:=Option.bind_eq_some_iff.mp H;obtain⟨⟨aA,aa,ah,aU⟩,A30,H⟩:=H;replace H:(if aU=0 then(impl_SignsOfPivot.l0 k ([]:List (List Int)) aa (aa.length:Int) 0 aA aa ah) else(some (([]:List (List Int)),aU)))=some (r1,r2):=H;have A3:=q_ A30;clear A30
 by_cases c4:aU=0
 ·rw [if_pos c4] at H;have c4b0:=e1_ c4;have c4b1:=e2_ c4;clear c4;have H':=q_ H;clear H
  go_enter Try.func33,Try.ntmps33
  go_wp2_with (first | ((with_reducible refine gate_dst (N:=2) rfl ?_);refine be_ 2 #[.slice aK ay.length aM, .slice aN az.length aQ] 27 ?_;intro aw hg w5 hbox hb;have af:=q_ (hbox);have bR:=gz_ w hg;have bS:=gz_ w hg;replace HB:=Bs_ hb;clear hb hbox hg;obtain⟨bL,bM,bN,bO⟩:=c2_ af) | ((with_reducible refine gate_callee (f:=47) rfl ?_);refine gL_ 14 Try.func47 #[.agg #[.slice aK ay.length aM, .slice aN az.length aQ], .int .i64 a1] ?_;(with_reducible refine(impl_pivotOf.calls k _ _ ay _ _ az a1 aA aa ah aU _ ?ba ?bf ?bu ?bv A3.out).mono ?_);(case ba=>exact cb_ HR0_0.out HB.out);(case bf=>exact HC0_0.out);(case bu=>exact cb_ HR0_1.out HB.out);(case bv=>exact HC0_1.out);rintro e w7 ⟨cf,cg,rfl,ho0,ho1,hb⟩;refine⟨_,rfl,?_⟩;have aI:=q_ (Kd.S_lower ho0 bz_);have aJ:=q_ (Kd.R_lower ho1 bz_);replace af:=Bb_ af hb;replace HB:=Bs_ hb;(try clear hb);(try clear hk);(try clear ho0);(try clear ho1)) | ((with_reducible refine gate_dst (N:=6) rfl ?_);refine be_ 6 #[.int .i64 0, .slice none 0 0, .slice none 0 0] 49 ?_;intro ai hg w8 hbox hb;replace aI:=q_ (Kd.S_below (so_ aI.out) hb);replace aJ:=Rb_ aJ hb;have ae:=q_ (hbox);have bT:=gz_ w hg;have bU:=gz_ w hg;have aD:=lz_ hg af;have aW:=mz_ hg af;replace af:=Bb_ af hb;replace HB:=Bs_ hb;clear hb hbox hg;have cP:=aW.out;have cQ:=aD.out;obtain⟨bF,bG,bH,bI,bJ,bK⟩:=c3_ ae;obtain⟨aV,au,cm⟩:=Kd.S_slice aI.out;subst cm;obtain⟨aX,av,cu⟩:=Kd.R_slice aJ.out;subst cu))
  go_loopg [8,23] k (fun kq v8 v23 w'=> ∃(aH:List (List Int)) (ag:Int),v23= .int .i64 ag∧Aside0 (impl_SignsOfPivot.l0 kq aH aa (aa.length:Int) ag aA aa ah=some (r1,r2))∧Aside0 (kq≤k)∧Aside0 (Kd.S (Kd.slice 2 (Kd.int .i64)) 25 w' w.heap.size (fun k_=>some k_≠((.slice aV aa.length au):Value).ownBlock∧some k_≠((.slice aV aa.length au):Value).ownBlock∧some k_≠((.slice aX ah.length av):Value).ownBlock) v8 aH)∧Aside0 (Kd.S (Kd.slice 2 (Kd.int .i64)) 25 w' w.heap.size (fun k_=>some k_≠(v8:Value).ownBlock∧some k_≠((.slice aX ah.length av):Value).ownBlock) (.slice aV aa.length au) aa)∧Aside0 (Kd.S (Kd.slice 2 (Kd.int .i64)) 25 w' w.heap.size (fun k_=>some k_≠(v8:Value).ownBlock∧some k_≠((.slice aX ah.length av):Value).ownBlock) (.slice aV aa.length au) aa)∧Aside0 (Kd.R (Kd.int .i64) 2 w' w.heap.size (fun _=>True) (.slice aX ah.length av) ah)∧Aside0 (w'.heap[aw]?=some (.cells #[(.slice aK ay.length aM),(.slice aN az.length aQ)] 27 (0,0)))∧Aside0 (w'.heap[ai]?=some (.cells #[.int .i64 aA,(.slice aV aa.length au),(.slice aX ah.length av)] 49 (0,0)))∧Aside0 (Below w.heap.size w w'))
  case atStart=>exact⟨(([]:List (List Int))),(0),rs_,H',⟨Nat.le_refl _⟩,⟨by first | exact Kd.S_nil _ _ _ _ _ | exact Kd.N_nil _ _ _ _ _ | exact Kd.V_nil _ _ _ _ _ | exact Kd.Q_nil _ _ _ _ _ | exact Kd.R_nil _ _ _ _ _⟩,⟨kS_ (sf3_ aI.out ae.out) (fun _ hk=>⟨(by simp [Value.ownBlock]),hk.1⟩)⟩,⟨kS_ (sf3_ aI.out ae.out) (fun _ hk=>⟨(by simp [Value.ownBlock]),hk.1⟩)⟩,⟨kR_ (rf3_ aJ.out ae.out) (fun _ hk=>trivial)⟩,⟨bw_⟩,⟨bw_⟩,⟨hb_⟩⟩
  case round=>
   clear H';(try clear c4);(try clear c4b0);(try clear c4b1);(try clear bF);(try clear bG);(try clear bH);(try clear bL);(try clear bM);(try clear bI);(try clear bJ);(try clear bK);(try clear bN);(try clear bO);obtain⟨aH,ag,rfl,HA,HK1,aC,aq,ak,aj,af,ae,HB⟩:=hrel;cases gk with
   | zero=>exact absurd HA.out (by simp [impl_SignsOfPivot.l0])
   | succ k1=>
    have H:=HA.out;clear HA;simp only [impl_SignsOfPivot.l0] at H
    by_cases c13:ag < (aa.length:Int)
    ·rw [if_pos c13] at H;have c13b0:=decide_eq_true c13;clear c13
     by_cases c14:0≤ag
     ·rw [if_pos c14] at H;have c14b0:=decide_eq_true c14;clear c14
      by_cases c15:ag < (aa.length:Int)
      ·rw [if_pos c15] at H;have c15b0:=decide_eq_true c15;clear c15;replace H:=Option.bind_eq_some_iff.mp H;obtain⟨aY,A160,H⟩:=H;replace H:(if ag < (ah.length:Int) then((impl_sign.f (rd ah ag)).bind fun a9=>(if aY.length < 17592186044416 then(if aH.length < 5864062014805 then(impl_SignsOfPivot.l0 k1 (aH++ [(aY++ [a9])]) aa (aa.length:Int) (wrap64 (ag+1)) aA aa ah) else(none)) else(none))) else(none))=some (r1,r2):=H;have A16:=q_ A160;clear A160
       by_cases c17:ag < (ah.length:Int)
       ·rw [if_pos c17] at H;have c17b0:=decide_eq_true c17;clear c17;replace H:=Option.bind_eq_some_iff.mp H;obtain⟨a9,A180,H⟩:=H;replace H:(if aY.length < 17592186044416 then(if aH.length < 5864062014805 then(impl_SignsOfPivot.l0 k1 (aH++ [(aY++ [a9])]) aa (aa.length:Int) (wrap64 (ag+1)) aA aa ah) else(none)) else(none))=some (r1,r2):=H;have A18:=q_ A180;clear A180
        by_cases c19:aY.length < 17592186044416
        ·rw [if_pos c19] at H;have bV:=q_ c19;clear c19;obtain⟨aZ,hy⟩: ∃y_:List Int,y_=(aY++ [a9]):=⟨_,rfl⟩
         replace H:(if aH.length < 5864062014805 then(impl_SignsOfPivot.l0 k1 (aH++ [aZ]) aa (aa.length:Int) (wrap64 (ag+1)) aA aa ah) else(none))=some (r1,r2):=hh_;have bW:=q_ hy;clear hy
         by_cases c20:aH.length < 5864062014805
         ·rw [if_pos c20] at H;have bX:=q_ c20;clear c20;obtain⟨bP,hy⟩: ∃y_:List (List Int),y_=(aH++ [aZ]):=⟨_,rfl⟩
          replace H:(impl_SignsOfPivot.l0 k1 bP aa (aa.length:Int) (wrap64 (ag+1)) aA aa ah)=some (r1,r2):=hh_;have bY:=q_ hy;clear hy;have H':=q_ H;clear H;have p640:0≤(ag:Int):=od_;have q640:ag < (aa.length:Int):=od_;obtain⟨aG,bw,bz,e640,hx640_0,hl640_0,hi640_0⟩:=at_L2 (Kd.S_reads' aq.out).2.2 ag p640 q640;cases e640
          obtain⟨ce640,hce640,hMe640,hcc640⟩:=Kd.S_get aq.out [] ag p640 (by first | exact q640 | exact od_ | (have e_:=(Kd.S_reads' aq.out).1;omega));obtain⟨ve640_0,rfl,ge640_0⟩:=hMe640;have hv640_0:=hcc640 0 _ rfl;rw [Nat.add_zero,show ((Kd.slice 2 (Kd.int .i64))).sz=1 from rfl,Nat.mul_one] at hv640_0;replace hv640_0:=Option.some.inj (hv640_0.symm.trans hx640_0);rw [hv640_0] at ge640_0;have HL640_0:=q_ (show Kd.R (Kd.int .i64) 2 _ _ _ _ (rd_L2 aa ag) from ge640_0);clear hv640_0 ge640_0 hcc640 hce640;have HR640_0:=q_ hi640_0;have HC640_0:=q_ hl640_0;clear hi640_0 hl640_0;replace p640:=eq_true p640;replace q640:=eq_true q640
          try go_wp2
          replace aC:=q_ (Kd.S_drew aC.out);replace aq:=q_ (Kd.S_drew aq.out);replace ak:=q_ (Kd.S_drew ak.out);replace aj:=q_ (Kd.R_drew aj.out);replace HL640_0:=q_ (Kd.R_drew HL640_0.out);replace af:=q_ (blk_drew af.out);replace ae:=q_ (blk_drew ae.out);replace HR640_0:=q_ (Kd.C_drew HR640_0.out);replace HB:=q_ (below_drew1 HB.out);have p644:0≤(ag:Int):=od_;have q644:ag < (ah.length:Int):=od_;obtain⟨ax,e644,hx644_0⟩:=Kd.at_int (Kd.R_reads' aj.out).2.2 ag p644 q644;cases e644
          replace p644:=eq_true p644;replace q644:=eq_true q644;refine st_ (n:=14) (S:=fun w'=>w'.cell? ⟨ai,0,none⟩=some (.int .i64 aA)∧w'.cell? ⟨ai,1,none⟩=some (.slice (some aG) aa.length au)∧w'.cell? ⟨ai,2,none⟩=some (.slice (some ax) ah.length av)∧w'.cell? (ax.add (ag).toNat)=some (.int .i64 (rd ah ag))) (ds:= [9,10,11,12]) ⟨(blk_cell ae.out 0).trans rfl,(blk_cell ae.out 1).trans rfl,(blk_cell ae.out 2).trans rfl,hx644_0⟩ (fun hHeld=>?_);refine with_tabW impl_SignsOfPivot.tab8 impl_SignsOfPivot.bits8 (fun HT_ HW_=>?_)
          generalize wr.drew=w21 at aC aq ak aj HL640_0 af ae HR640_0 HB hx644_0 hHeld ⊢
          refine p4_ 0 28 1 29 3 31 5 33 ?_;refine tk_ 4 32 ?_;refine pu_ 6 34 ?_;refine tk_ 7 35 ?_
          refine on_ 2 (some 30) (fun K hK=>?_)
          refine goes_ Try.func64 (by kernel_rfl) rfl #[.slice bw (rd_L2 aa ag).length bz] (by rfl) rfl rfl (by(try simp only [List.map_toArray,List.map_cons,List.map_nil]);first | done | rfl | (simp only [List.length_drop,List.length_take];rfl)) ?_
          with_reducible refine(impl_signs.calls k1 _ _ (rd_L2 aa ag) aY _ ?ba ?bf A16.out).mono ?_
          (case ba=>repeat (first | exact(by repeat (first | (with_reducible exact HR640_0.out) | (with_reducible refine Kd.C_alloc ?_ _) | (with_reducible refine Kd.C_drewN ?_ _) | (with_reducible refine Kd.C_drew ?_) | exact HR640_0.out)) | (with_reducible refine Kd.C_alloc ?_ _) | (with_reducible refine Kd.C_drewN ?_ _) | (with_reducible refine Kd.C_drew ?_)))
          (case bf=>exact HC640_0.out)
          rintro e w22 ⟨cz,rfl,ho0,hb⟩;have HS3_:=(hb.cell (World.block_lt_of_cell? _ _ (hHeld.2.2.2))).trans (hHeld.2.2.2);refine⟨_,rfl,?_⟩
          replace aC:=q_ (Kd.S_elder' (so_ aC.out) (Kd.R_base ho0) hb);replace aq:=q_ (Kd.S_elder' (so_ aq.out) (Kd.R_base ho0) hb);replace ak:=q_ (Kd.S_elder' (so_ ak.out) (Kd.R_base ho0) hb);have bg:=q_ (Kd.R_lower (Kd.R_new' (Kd.R_new' ho0 (Kd.R_lt (ro_ aj.out))) (Kd.R_lt (ro_ HL640_0.out))) bz_);replace af:=Bb_ af hb;replace ae:=Bb_ ae hb;replace HR640_0:=q_ (Kd.C_below (by repeat (first | (with_reducible exact HR640_0.out) | (with_reducible refine Kd.C_alloc ?_ _) | (with_reducible refine Kd.C_drewN ?_ _) | (with_reducible refine Kd.C_drew ?_) | exact HR640_0.out)) hb);replace aj:=q_ (Kd.R_elder' (ro_ aj.out) (Kd.R_base ho0) hb);replace HL640_0:=q_ (Kd.R_elder' (ro_ HL640_0.out) (Kd.R_base ho0) hb);replace HB:=Bs_ hb;(try clear hb)
          
          (try clear hk)
          
          (try clear ho0);refine hK.out _ _ ⟨(blk_cell ae.out 0).trans rfl,(blk_cell ae.out 1).trans rfl,(blk_cell ae.out 2).trans rfl,HS3_⟩ (fun hHeld=>?_)
          clear hK K;refine norm_ (a':=?_) ?_ ?_
          rotate_left
          ·show Act.put _ (some 30) _=_
           simp only [Act.put,List.setIfInBounds_toArray,List.set_cons_zero,List.set_cons_succ,i64_w,i32_w]
           rfl
          refine on_ 8 (some 36) (fun K hK=>?_)
          refine goes_ Try.func65 (by kernel_rfl) rfl #[.int .i64 (rd ah ag)] (by rfl) rfl rfl (by(try simp only [List.map_toArray,List.map_cons,List.map_nil]);first | done | rfl | (simp only [List.length_drop,List.length_take];rfl)) ?_
          with_reducible refine(impl_sign.calls (rd ah ag) a9 _ A18.out).mono ?_
          rintro e w' ⟨rfl,⟨nd,rfl⟩⟩;refine⟨_,rfl,?_⟩
          refine hK.out _ _ ⟨(blk_cell ae.out 0).trans rfl,(blk_cell ae.out 1).trans rfl,(blk_cell ae.out 2).trans rfl,hHeld.2.2.2⟩ (fun hHeld=>?_)
          clear hK K;refine norm_ (a':=?_) ?_ ?_
          rotate_left
          ·show Act.put _ (some 36) _=_
           simp only [Act.put,List.setIfInBounds_toArray,List.set_cons_zero,List.set_cons_succ,i64_w,i32_w]
           rfl
          refine la_ 9 (some 37) (fun K hK=>?_)
          refine value_ (w1:=?_) (v:=?_) (by rfl) rfl ?_ ?_
          rotate_left 2
          ·go_simp
           constructor
           ·rfl
           ·rfl
          refine hK.out _ _ ?_
          clear hK K;refine norm_ (a':=?_) ?_ ?_
          rotate_left
          ·show Act.put _ (some 37) _=_
           simp only [Act.put,List.setIfInBounds_toArray,List.set_cons_zero,List.set_cons_succ,i64_w,i32_w]
           rfl
          refine la_ 10 (some 38) (fun K hK=>?_)
          refine Kd.R_append_step (Kd.int .i64) (w0:=w) w.heap.size (by rfl) (.tmp 30) (.tmp 37) 25 2 (.int .i64 0) 8 rfl Try.underlying25 info2 rfl (by decide) (by omega) cz aY a9 [.int .i64 a9] (fun k_=>some k_≠(.slice (some ax) ah.length av:Value).ownBlock∧some k_≠(.slice bw (rd_L2 aa ag).length bz:Value).ownBlock) (fun _=>False) rfl rfl ?aP (fun _ hk=>hk.elim) ?aF ?aO ?aB ?aS ?aL ?_
          (case aP=>exact rfl)
          (case aB=>exact hb_)
          (case aF=>exact(fun k_ hk=>⟨Kd.fresh' (Kd.R_lt (ro_ aj.out)) k_ hk,Kd.fresh' (Kd.R_lt (ro_ HL640_0.out)) k_ hk⟩))
          (case aO=>exact(kR_ bg.out (fun _ hk=>⟨hk.1.2,hk.2⟩)))
          (case aS=>exact bz_)
          (case aL=>have:=bV.out;omega)
          intro cR w23 ho hb hg hat;rw [← bW.out] at ho;replace aC:=q_ (Kd.S_after (ok:=(fun k_=>some k_≠(.slice (some aG) aa.length au:Value).ownBlock∧some k_≠(.slice (some aG) aa.length au:Value).ownBlock∧some k_≠(.slice (some ax) ah.length av:Value).ownBlock)) (so_ aC.out) hg hat);replace aq:=q_ (Kd.S_after (ok:=(fun k_=>some k_≠(u8:Value).ownBlock∧some k_≠(.slice (some ax) ah.length av:Value).ownBlock)) (so_ aq.out) hg hat);replace ak:=q_ (Kd.S_after (ok:=(fun k_=>some k_≠(u8:Value).ownBlock∧some k_≠(.slice (some ax) ah.length av:Value).ownBlock)) (so_ ak.out) hg hat);replace aj:=q_ (Kd.R_after (ok:=(fun _=>True)) (ro_ aj.out) hg hat);replace af:=q_ (bg_ af.out hg (Kd.R_ne bg.out af.out (by decide)));replace ae:=q_ (bg_ ae.out hg (Kd.R_ne bg.out ae.out (by decide)));replace HL640_0:=q_ (Kd.R_after (ok:=(fun k_=>some k_≠(u8:Value).ownBlock∧some k_≠(.slice (some aG) aa.length au:Value).ownBlock∧some k_≠(.slice (some ax) ah.length av:Value).ownBlock)) (kR_ HL640_0.out (fun _ hk=>⟨⟨hk.1.1.1,⟨hk.1.2,hk.1.1.2⟩⟩,hk.2⟩)) hg hat);replace HB:=q_ (hb);have bh:=q_ (ho);clear bg ho hb hg hat;obtain⟨bk,bq,bQ⟩:=Kd.R_slice bh.out
          (first | subst bQ | (injection bQ with f1_ f2_ f3_;have f4_:=f1_.symm;have f5_:=f3_.symm;clear f1_ f2_ f3_;subst f4_;subst f5_))
          refine hK.out _ _ ?_
          clear hK K;refine norm_ (a':=?_) ?_ ?_
          rotate_left
          ·show Act.put _ (some 38) _=_
           simp only [Act.put,List.setIfInBounds_toArray,List.set_cons_zero,List.set_cons_succ,i64_w,i32_w]
           rfl
          refine la_ 11 (some 39) (fun K hK=>?_)
          refine value_ (w1:=?_) (v:=?_) (by rfl) rfl ?_ ?_
          rotate_left 2
          ·go_simp
           constructor
           ·rfl
           ·rfl
          refine hK.out _ _ ?_
          clear hK K;refine norm_ (a':=?_) ?_ ?_
          rotate_left
          ·show Act.put _ (some 39) _=_
           simp only [Act.put,List.setIfInBounds_toArray,List.set_cons_zero,List.set_cons_succ,i64_w,i32_w]
           rfl
          refine la_ 12 (some 40) (fun K hK=>?_)
          refine Kd.S_append_step (Kd.slice 2 (Kd.int .i64)) (w0:=w) w.heap.size (by rfl) (.tmp 28) (.tmp 39) 24 25 (.slice none 0 0) 24 rfl Try.underlying24 info25 rfl (by decide) (by omega) u8 aH aZ [.slice bk aZ.length bq] (fun k_=>some k_≠(.slice (some aG) aa.length au:Value).ownBlock∧some k_≠(.slice (some aG) aa.length au:Value).ownBlock∧some k_≠(.slice (some ax) ah.length av:Value).ownBlock) (fun k_=>some k_=(.slice bk aZ.length bq:Value).ownBlock) rfl rfl ?aP (fun k_ hk_=>((Kd.R_mono (ok':=fun k_=>((fun k_=>some k_≠(.slice (some aG) aa.length au:Value).ownBlock∧some k_≠(.slice (some aG) aa.length au:Value).ownBlock∧some k_≠(.slice (some ax) ah.length av:Value).ownBlock)) k_∧some k_≠(u8:Value).ownBlock) (Kd.R_apart' (Kd.R_apart' (Kd.R_apart' (bh.out) (Kd.S_typed aq.out) (by decide)) (Kd.S_typed ak.out) (by decide)) (Kd.S_typed aC.out) (by decide)) (fun k_ hk=>⟨⟨hk.1.1.2,⟨hk.1.2,hk.1.1.1.1⟩⟩,hk.2⟩))).1 k_ hk_.symm) ?aF ?aO ?aB ?aS ?aL ?_
          (case aP=>exact Kd.M_row (Kd.R_mono (Kd.R_tight rfl (Kd.R_mono (ok':=fun k_=>((fun k_=>some k_≠(.slice (some aG) aa.length au:Value).ownBlock∧some k_≠(.slice (some aG) aa.length au:Value).ownBlock∧some k_≠(.slice (some ax) ah.length av:Value).ownBlock)) k_∧some k_≠(u8:Value).ownBlock) (Kd.R_apart' (Kd.R_apart' (Kd.R_apart' (bh.out) (Kd.S_typed aq.out) (by decide)) (Kd.S_typed ak.out) (by decide)) (Kd.S_typed aC.out) (by decide)) (fun k_ hk=>⟨⟨hk.1.1.2,⟨hk.1.2,hk.1.1.1.1⟩⟩,hk.2⟩))) (fun _ h_=>h_)))
          (case aB=>exact hb_)
          (case aF=>exact(fun k_ hk=>⟨Kd.fresh' (Kd.S_lt (so_ aq.out)) k_ hk,Kd.fresh' (Kd.S_lt (so_ ak.out)) k_ hk,Kd.fresh' (Kd.R_lt (ro_ aj.out)) k_ hk⟩))
          (case aO=>exact(kS_ aC.out (fun k_ hk=>⟨⟨hk.1.1,⟨hk.1.2.1,hk.1.2.2⟩⟩,fun e_=>hk.2 e_⟩)))
          (case aS=>exact bz_)
          (case aL=>have:=bX.out;omega)
          intro cT w24 ho hb hg hat;rw [← bY.out] at ho;replace aq:=q_ (Kd.S_after (ok:=(fun k_=>some k_≠(.slice (some ax) ah.length av:Value).ownBlock∧some k_≠(.slice bk aZ.length bq:Value).ownBlock)) (kS_ aq.out (fun _ hk=>⟨⟨hk.1.2,hk.2⟩,hk.1.1⟩)) hg hat);replace ak:=q_ (Kd.S_after (ok:=(fun k_=>some k_≠(.slice (some ax) ah.length av:Value).ownBlock∧some k_≠(.slice bk aZ.length bq:Value).ownBlock)) (kS_ ak.out (fun _ hk=>⟨⟨hk.1.2,hk.2⟩,hk.1.1⟩)) hg hat);replace aj:=q_ (Kd.R_over' (ro_ aj.out) (Kd.S_typed (so_ aC.out)) (by decide) hg);replace af:=q_ (bg_ af.out hg (Kd.S_ne aC.out af.out (by decide)));replace ae:=q_ (bg_ ae.out hg (Kd.S_ne aC.out ae.out (by decide)));replace HL640_0:=q_ (Kd.R_after (ok:=(fun k_=>some k_≠(.slice (some aG) aa.length au:Value).ownBlock∧some k_≠(.slice (some ax) ah.length av:Value).ownBlock∧some k_≠(.slice bk aZ.length bq:Value).ownBlock)) (kR_ HL640_0.out (fun _ hk=>⟨⟨hk.1.2.1,⟨hk.1.2.2,hk.2⟩⟩,hk.1.1⟩)) hg hat);replace HB:=q_ (hb);have bZ:=q_ (ho);clear aC bh ho hb hg hat;refine hK.out _ _ ?_
          clear hK K;refine norm_ (a':=?_) ?_ ?_
          rotate_left
          ·show Act.put _ (some 40) _=_
           simp only [Act.put,List.setIfInBounds_toArray,List.set_cons_zero,List.set_cons_succ,i64_w,i32_w]
           rfl
          refine pu_ 13 8 ?_
          refine done_ (done_of HT_.out (by kernel_rfl)) ?_
          try go_wp2
          go_roundg k1
          case measure=>have:=HK1.out;omega
          case rel=>exact⟨(bP),(wrap64 (ag+1)),rs_,H',⟨by have:=HK1.out;omega⟩,⟨so_ bZ.out⟩,⟨kS_ aq.out (fun _ hk=>⟨hk.2,hk.1.1⟩)⟩,⟨kS_ ak.out (fun _ hk=>⟨hk.2,hk.1.1⟩)⟩,⟨kR_ aj.out (fun _ hk=>trivial)⟩,⟨bk_⟩,⟨bk_⟩,⟨hb_⟩⟩
         ·rw [if_neg c20] at H;exact absurd H (by simp)
        ·rw [if_neg c19] at H;exact absurd H (by simp)
       ·rw [if_neg c17] at H;exact absurd H (by simp)
      ·rw [if_neg c15] at H;exact absurd H (by simp)
     ·rw [if_neg c14] at H;exact absurd H (by simp)
    ·rw [if_neg c13] at H;have c13b0:=decide_eq_false c13;clear c13;simp only [Option.some.injEq,Prod.mk.injEq] at H;obtain⟨rfl,rfl⟩:=H;go_wp2
     go_ret2
     exact⟨_,ew_,kS_ aC.out (fun _ hk=>trivial),hb_⟩
 ·rw [if_neg c4] at H;have c4b0:=e3_ c4;have c4b1:=e4_ c4;simp only [Option.some.injEq,Prod.mk.injEq] at H;obtain⟨rfl,rfl⟩:=H
  go_enter Try.func33,Try.ntmps33
  go_wp2_with (first | ((with_reducible refine gate_dst (N:=2) rfl ?_);refine be_ 2 #[.slice aK ay.length aM, .slice aN az.length aQ] 27 ?_;intro aw hg w26 hbox hb;have af:=q_ (hbox);have bR:=gz_ w hg;have bS:=gz_ w hg;replace HB:=Bs_ hb;clear hb hbox hg;obtain⟨cC,cD,cE,cF⟩:=c2_ af) | ((with_reducible refine gate_callee (f:=47) rfl ?_);refine gL_ 14 Try.func47 #[.agg #[.slice aK ay.length aM, .slice aN az.length aQ], .int .i64 a1] ?_;(with_reducible refine(impl_pivotOf.calls k _ _ ay _ _ az a1 aA aa ah aU _ ?ba ?bf ?bu ?bv A3.out).mono ?_);(case ba=>exact cb_ HR0_0.out HB.out);(case bf=>exact HC0_0.out);(case bu=>exact cb_ HR0_1.out HB.out);(case bv=>exact HC0_1.out);rintro e w28 ⟨cf,cg,rfl,ho0,ho1,hb⟩;refine⟨_,rfl,?_⟩;have aI:=q_ (Kd.S_lower ho0 bz_);have aJ:=q_ (Kd.R_lower ho1 bz_);replace af:=Bb_ af hb;replace HB:=Bs_ hb;(try clear hb);(try clear hk);(try clear ho0);(try clear ho1)) | ((with_reducible refine gate_dst (N:=6) rfl ?_);refine be_ 6 #[.int .i64 0, .slice none 0 0, .slice none 0 0] 49 ?_;intro ai hg w29 hbox hb;replace aI:=q_ (Kd.S_below (so_ aI.out) hb);replace aJ:=Rb_ aJ hb;have ae:=q_ (hbox);have bT:=gz_ w hg;have bU:=gz_ w hg;have aD:=lz_ hg af;have aW:=mz_ hg af;replace af:=Bb_ af hb;replace HB:=Bs_ hb;clear hb hbox hg;have cN:=aW.out;have cO:=aD.out;obtain⟨cG,cH,cI,cJ,cK,cL⟩:=c3_ ae;obtain⟨cU,cV,cA⟩:=Kd.S_slice aI.out;subst cA;obtain⟨cZ,da,cB⟩:=Kd.R_slice aJ.out;subst cB))
  go_ret2
  exact⟨_,ew_,by first | exact Kd.S_nil _ _ _ _ _ | exact Kd.N_nil _ _ _ _ _ | exact Kd.V_nil _ _ _ _ _ | exact Kd.Q_nil _ _ _ _ _ | exact Kd.R_nil _ _ _ _ _,hb_⟩
def spec_l04Sign.f (a0:Int):Option (Int):=if a0 < 0 then(some (-1)) else(if a0 > 0 then(some 1) else(some 0))
theorem spec_l04Sign.calls (a0:Int) (r:Int) (w:World) (h:spec_l04Sign.f a0=some r):
  Calls Try.prog 66 #[.int .i64 a0] w fun e w'=>e= .returned (.int .i64 r)∧Drawn0 w w':=by
 have H:(if a0 < 0 then(some (-1)) else(if a0 > 0 then(some 1) else(some 0)))=some r:=h;clear h
 by_cases c2:a0 < 0
 ·rw [if_pos c2] at H;have c2b0:=decide_eq_true c2;clear c2;obtain rfl:=Option.some.inj H
  go_enter Try.func66,Try.ntmps66
  go_wp2
  go_ret
  exact⟨by first | rfl | (simp;done) | (simp [*];done),by repeat (first | exact Drawn0.refl _ | apply Drawn0.step)⟩
 ·rw [if_neg c2] at H;have c2b0:=decide_eq_false c2;clear c2
  by_cases c3:a0 > 0
  ·rw [if_pos c3] at H;have c3b0:=decide_eq_true c3;clear c3;obtain rfl:=Option.some.inj H
   go_enter Try.func66,Try.ntmps66
   go_wp2
   go_ret
   exact⟨by first | rfl | (simp;done) | (simp [*];done),by repeat (first | exact Drawn0.refl _ | apply Drawn0.step)⟩
  ·rw [if_neg c3] at H;have c3b0:=decide_eq_false c3;clear c3;obtain rfl:=Option.some.inj H
   go_enter Try.func66,Try.ntmps66
   go_wp2
   go_ret
   exact⟨by first | rfl | (simp;done) | (simp [*];done),by repeat (first | exact Drawn0.refl _ | apply Drawn0.step)⟩
mutual
def spec_SignsOfPivot.l0:Nat→List (List Int)→Int→Int→List (List Int)→List Int→Option ((List (List Int)) × Int)
 | 0,_,_,_,_,_=>none
 | k+1,x8,x9,af,ae,aa=>if x9 < (aa.length:Int) then(spec_SignsOfPivot.l1 k x8 x9 (([]:List Int)) 0 af ae aa) else(some (x8,0))
def spec_SignsOfPivot.l1:Nat→List (List Int)→Int→List Int→Int→Int→List (List Int)→List Int→Option ((List (List Int)) × Int)
 | 0,_,_,_,_,_,_,_=>none
 | k+1,x8,x9,x10,x11,af,ae,aa=>if x11 < (aa.length:Int) then(if 0≤x9 then(if x9 < (ae.length:Int) then(if 0≤x11 then(if x11 < ((rd_L2 ae x9).length:Int) then((spec_l04Sign.f (rd (rd_L2 ae x9) x11)).bind fun ag=>(if x10.length < 17592186044416 then(spec_SignsOfPivot.l1 k x8 x9 (x10++ [ag]) (wrap64 (x11+1)) af ae aa) else(none))) else(none)) else(none)) else(none)) else(none)) else(if 0≤x9 then(if x9 < (aa.length:Int) then((spec_l04Sign.f (rd aa x9)).bind fun ah=>(if x10.length < 17592186044416 then(if x8.length < 5864062014805 then(spec_SignsOfPivot.l0 k (x8++ [(x10++ [ah])]) (wrap64 (x9+1)) af ae aa) else(none)) else(none))) else(none)) else(none))
end
def spec_SignsOfPivot.f (k:Nat) (ae:List (List Int)) (af:List Int) (a1:Int):Option ((List (List Int)) × Int):=(spec_PivotOf.f k ae af a1).bind fun aa=>(if aa.2.2.2=0 then(spec_SignsOfPivot.l0 k (([]:List (List Int))) 0 aa.1 aa.2.1 aa.2.2.1) else(some (([]:List (List Int)),aa.2.2.2)))
theorem spec_SignsOfPivot.calls (k:Nat) (aN:Option Addr) (aQ:Nat) (aC:List (List Int)) (aT:Option Addr) (aU:Nat) (aD:List Int) (a1:Int) (r1:List (List Int)) (r2:Int) (w:World) (bL:Kd.C (Kd.slice 2 (Kd.int .i64)) w aN aC.length aC) (bM:aC.length≤aQ) (bN:Kd.C (Kd.int .i64) w aT aD.length aD) (bO:aD.length≤aU) (h:spec_SignsOfPivot.f k aC aD a1=some (r1,r2)):
  Calls Try.prog 34 #[.agg #[.slice aN aC.length aQ, .slice aT aD.length aU], .int .i64 a1] w fun e w'=> ∃v0_:Value,e= .returned (.tuple #[v0_, .int .i64 r2])∧Kd.S (Kd.slice 2 (Kd.int .i64)) 25 w' w.heap.size (fun _=>True) v0_ r1∧Below w.heap.size w w':=by
 have hu27:=Try.underlying27;have hu49:=Try.underlying49;have HR0_0:=q_ bL;have HC0_0:=q_ bM;clear bL bM;have HR0_1:=q_ bN;have HC0_1:=q_ bO;clear bN bO;have HB:=q_ (Below.refl w.heap.size w);have H:((spec_PivotOf.f k aC aD a1).bind fun aZ=>(if aZ.2.2.2=0 then(spec_SignsOfPivot.l0 k (([]:List (List Int))) 0 aZ.1 aZ.2.1 aZ.2.2.1) else(some (([]:List (List Int)),aZ.2.2.2))))=some (r1,r2):=h;clear h;replace H:=Option.bind_eq_some_iff.mp H;obtain⟨⟨au,ah,ae,aW⟩,A30,H⟩:=H;replace H:(if aW=0 then(spec_SignsOfPivot.l0 k (([]:List (List Int))) 0 au ah ae) else(some (([]:List (List Int)),aW)))=some (r1,r2):=H;have A3:=q_ A30;clear A30
 by_cases c4:aW=0
 ·rw [if_pos c4] at H;have c4b0:=e1_ c4;have c4b1:=e2_ c4;clear c4;obtain⟨bY,hy⟩: ∃y_:List (List Int),y_=(([]:List (List Int))):=⟨_,rfl⟩
  replace H:(spec_SignsOfPivot.l0 k bY 0 au ah ae)=some (r1,r2):=hh_;have bP:=q_ hy;clear hy;have H':=q_ H;clear H
  go_enter Try.func34,Try.ntmps34
  go_wp2_with (first | ((with_reducible refine gate_dst (N:=2) rfl ?_);refine be_ 2 #[.slice aN aC.length aQ, .slice aT aD.length aU] 27 ?_;intro az hg w5 hbox hb;have ag:=q_ (hbox);have cm:=gz_ w hg;have cu:=gz_ w hg;replace HB:=Bs_ hb;clear hb hbox hg;obtain⟨bF,bG,bH,bI⟩:=c2_ ag) | ((with_reducible refine gate_callee (f:=23) rfl ?_);refine gL_ 15 Try.func23 #[.agg #[.slice aN aC.length aQ, .slice aT aD.length aU], .int .i64 a1] ?_;(with_reducible refine(spec_PivotOf.calls k _ _ aC _ _ aD a1 au ah ae aW _ ?bA ?bC ?bD ?bE A3.out).mono ?_);(case bA=>exact cb_ HR0_0.out HB.out);(case bC=>exact HC0_0.out);(case bD=>exact cb_ HR0_1.out HB.out);(case bE=>exact HC0_1.out);rintro e w7 ⟨cL,cN,rfl,ho0,ho1,hb⟩;refine⟨_,rfl,?_⟩;have aK:=q_ (Kd.S_lower ho0 bz_);have aM:=q_ (Kd.R_lower ho1 bz_);replace ag:=Bb_ ag hb;replace HB:=Bs_ hb;(try clear hb);(try clear hk);(try clear ho0);(try clear ho1)) | ((with_reducible refine gate_dst (N:=6) rfl ?_);refine be_ 6 #[.int .i64 0, .slice none 0 0, .slice none 0 0] 49 ?_;intro af hg w8 hbox hb;replace aK:=q_ (Kd.S_below (so_ aK.out) hb);replace aM:=Rb_ aM hb;have aa:=q_ (hbox);have cz:=gz_ w hg;have cA:=gz_ w hg;have av:=lz_ hg ag;have aG:=mz_ hg ag;replace ag:=Bb_ ag hb;replace HB:=Bs_ hb;clear hb hbox hg;have eB:=aG.out;have eC:=av.out;obtain⟨bk,bq,bu,bv,bw,bz⟩:=c3_ aa;obtain⟨aA,ax,cO⟩:=Kd.S_slice aK.out;subst cO;obtain⟨ay,aq,cP⟩:=Kd.R_slice aM.out;subst cP) | ((with_reducible refine gate_dst (N:=21) rfl ?_);refine Kd.S_lit (Kd.slice 2 (Kd.int .i64)) _ 25 ?hg (N:=21) ?hd (xs:=([]:List (List Int))) (inner:= []) (ok:=fun _=>True) (okp:=fun _=>True) ?hr ?hp (fun _ hk=>hk) trivial (Below.refl _ _) (Nat.le_refl _) (by simp) ?_;(case hd=>rfl);(case hg=>rfl);(case hr=>first | (go_simp;done) | (go_simp;rfl));(case hp=>exact(Reps.none _ _));intro eF w13 a9 hb hg_ hnew_;clear hg_ hnew_;(first | rw [← bP.out] at a9 | (simp only [Int.reduceToNat] at a9;rw [← bP.out] at a9));have cB:=q_ (Kd.S_lower (Kd.S_new' (Kd.S_new' a9 (Kd.S_lt ((kS_ (sf3_ aK.out aa.out) (fun _ h_=>h_.1))))) (Kd.R_lt ((kR_ (rf3_ aM.out aa.out) (fun _ h_=>h_.1))))) bz_);replace ag:=q_ (blk_below (g:=az) (o:= .cells #[.slice aN aC.length aQ, .slice aT aD.length aU] 27 (0,0)) (bw_) hb);replace aK:=q_ (Kd.S_elder' ((kS_ (sf3_ aK.out aa.out) (fun _ h_=>h_.1))) (Kd.S_base a9) hb);replace aM:=q_ (Kd.R_below ((kR_ (rf3_ aM.out aa.out) (fun _ h_=>h_.1))) hb);replace HB:=Bs_ hb;replace aa:=q_ (blk_below (g:=af) (o:= .cells #[.int .i64 au, .slice aA ah.length ax, .slice ay ae.length aq] 49 (0,0)) (bw_) hb);clear hb a9))
  go_loopg [8,9] k (fun kq v8 v9 w'=> ∃(aJ:List (List Int)) (ak:Int),v9= .int .i64 ak∧Aside0 (spec_SignsOfPivot.l0 kq aJ ak au ah ae=some (r1,r2))∧Aside0 (kq≤k)∧Aside0 (Kd.S (Kd.slice 2 (Kd.int .i64)) 25 w' w.heap.size (fun k_=>some k_≠((.slice aA ah.length ax):Value).ownBlock∧some k_≠((.slice ay ae.length aq):Value).ownBlock) v8 aJ)∧Aside0 (Kd.S (Kd.slice 2 (Kd.int .i64)) 25 w' w.heap.size (fun k_=>some k_≠(v8:Value).ownBlock∧some k_≠((.slice ay ae.length aq):Value).ownBlock) (.slice aA ah.length ax) ah)∧Aside0 (Kd.R (Kd.int .i64) 2 w' w.heap.size (fun _=>True) (.slice ay ae.length aq) ae)∧Aside0 (w'.heap[az]?=some (.cells #[(.slice aN aC.length aQ),(.slice aT aD.length aU)] 27 (0,0)))∧Aside0 (w'.heap[af]?=some (.cells #[.int .i64 au,(.slice aA ah.length ax),(.slice ay ae.length aq)] 49 (0,0)))∧Aside0 (Below w.heap.size w w'))
  case atStart=>exact⟨(bY),(0),rs_,H',⟨Nat.le_refl _⟩,⟨kS_ cB.out (fun _ hk=>⟨hk.1.2,hk.2⟩)⟩,⟨kS_ aK.out (fun _ hk=>⟨hk.2,hk.1⟩)⟩,⟨ro_ aM.out⟩,⟨bk_⟩,⟨bk_⟩,⟨hb_⟩⟩
  case round=>
   clear H';(try clear c4);(try clear c4b0);(try clear c4b1);(try clear bk);(try clear bq);(try clear bu);(try clear bF);(try clear bG);(try clear bv);(try clear bw);(try clear bz);(try clear bH);(try clear bI);obtain⟨aJ,ak,rfl,HA,HK1,aH,ai,aj,ag,aa,HB⟩:=hrel;cases gk with
   | zero=>exact absurd HA.out (by simp [spec_SignsOfPivot.l0])
   | succ k1=>
    have H:=HA.out;clear HA;simp only [spec_SignsOfPivot.l0] at H
    by_cases c15:ak < (ae.length:Int)
    ·rw [if_pos c15] at H;have c15b0:=decide_eq_true c15;clear c15;obtain⟨bZ,hy⟩: ∃y_:List Int,y_=(([]:List Int)):=⟨_,rfl⟩
     replace H:(spec_SignsOfPivot.l1 k1 aJ ak bZ 0 au ah ae)=some (r1,r2):=hh_;have bQ:=q_ hy;clear hy;have H':=q_ H;clear H;have dV:=aG.out;have dW:=av.out;obtain⟨bS,bT,bU,bV,bW,bX⟩:=c3_ aa
     go_wp2_with (first | ((with_reducible refine gate_dst (N:=29) rfl ?_);refine Kd.R_lit (Kd.int .i64) _ 2 ?hg (N:=29) ?hd (xs:=([]:List Int)) (inner:= []) (ok:=fun _=>True) (okp:=fun _=>True) ?hr ?hp (fun _ hk=>hk) trivial (Below.refl _ _) (Nat.le_refl _) (by simp) ?_;(case hd=>rfl);(case hg=>rfl);(case hr=>first | (go_simp;done) | (go_simp;rfl));(case hp=>exact(Reps.none _ _));intro eG w18 aY hb hg_ hnew_;clear hg_ hnew_;(first | rw [← bQ.out] at aY | (simp only [Int.reduceToNat] at aY;rw [← bQ.out] at aY));replace aH:=q_ (Kd.S_elder' (so_ aH.out) (Kd.R_base aY) hb);replace ai:=q_ (Kd.S_elder' (so_ ai.out) (Kd.R_base aY) hb);have cC:=q_ (Kd.R_lower (Kd.R_new' aY (Kd.R_lt (ro_ aj.out))) bz_);replace ag:=Bb_ ag hb;replace aa:=Bb_ aa hb;replace aj:=q_ (Kd.R_elder' (ro_ aj.out) (Kd.R_base aY) hb);replace HB:=Bs_ hb;clear hb aY))
     go_loopg [10,11] k1 (fun kq v10 v11 w'=> ∃(aI:List Int) (aw:Int),v11= .int .i64 aw∧Aside0 (spec_SignsOfPivot.l1 kq aJ ak aI aw au ah ae=some (r1,r2))∧Aside0 (kq≤k1)∧Aside0 (Kd.S (Kd.slice 2 (Kd.int .i64)) 25 w' w.heap.size (fun k_=>some k_≠(v10:Value).ownBlock∧some k_≠((.slice aA ah.length ax):Value).ownBlock∧some k_≠((.slice ay ae.length aq):Value).ownBlock) u8 aJ)∧Aside0 (Kd.R (Kd.int .i64) 2 w' w.heap.size (fun k_=>some k_≠((.slice ay ae.length aq):Value).ownBlock) v10 aI)∧Aside0 (Kd.S (Kd.slice 2 (Kd.int .i64)) 25 w' w.heap.size (fun k_=>some k_≠(u8:Value).ownBlock∧some k_≠(v10:Value).ownBlock∧some k_≠((.slice ay ae.length aq):Value).ownBlock) (.slice aA ah.length ax) ah)∧Aside0 (Kd.R (Kd.int .i64) 2 w' w.heap.size (fun k_=>some k_≠(v10:Value).ownBlock) (.slice ay ae.length aq) ae)∧Aside0 (w'.heap[az]?=some (.cells #[(.slice aN aC.length aQ),(.slice aT aD.length aU)] 27 (0,0)))∧Aside0 (w'.heap[af]?=some (.cells #[.int .i64 au,(.slice aA ah.length ax),(.slice ay ae.length aq)] 49 (0,0)))∧Aside0 (Below w.heap.size w w'))
     case atStart=>exact⟨(bZ),(0),rs_,H',⟨Nat.le_refl _⟩,⟨kS_ aH.out (fun _ hk=>⟨hk.2,⟨hk.1.1,hk.1.2⟩⟩)⟩,⟨kR_ cC.out (fun _ hk=>hk.2)⟩,⟨kS_ ai.out (fun _ hk=>⟨hk.1.1,⟨hk.2,hk.1.2⟩⟩)⟩,⟨kR_ aj.out (fun _ hk=>hk.2)⟩,⟨bk_⟩,⟨bk_⟩,⟨hb_⟩⟩
     case round=>
      clear H';(try clear c4);(try clear c4b0);(try clear c4b1);(try clear c15b0);(try clear bk);(try clear bq);(try clear bu);(try clear bS);(try clear bT);(try clear bU);(try clear bF);(try clear bG);(try clear bv);(try clear bw);(try clear bz);(try clear bV);(try clear bW);(try clear bX);(try clear bH);(try clear bI);obtain⟨aI,aw,rfl,HA,HK2,aH,aV,ai,aj,ag,aa,HB⟩:=hrel;cases gk with
      | zero=>exact absurd HA.out (by simp [spec_SignsOfPivot.l1])
      | succ k2=>
       have H:=HA.out;clear HA;simp only [spec_SignsOfPivot.l1] at H
       by_cases c20:aw < (ae.length:Int)
       ·rw [if_pos c20] at H;have c20b0:=decide_eq_true c20;clear c20
        by_cases c21:0≤ak
        ·rw [if_pos c21] at H;have c21b0:=decide_eq_true c21;clear c21
         by_cases c22:ak < (ah.length:Int)
         ·rw [if_pos c22] at H;have c22b0:=decide_eq_true c22;clear c22
          by_cases c23:0≤aw
          ·rw [if_pos c23] at H;have c23b0:=decide_eq_true c23;clear c23
           by_cases c24:aw < ((rd_L2 ah ak).length:Int)
           ·rw [if_pos c24] at H;have c24b0:=decide_eq_true c24;clear c24;replace H:=Option.bind_eq_some_iff.mp H;obtain⟨bg,A250,H⟩:=H;replace H:(if aI.length < 17592186044416 then(spec_SignsOfPivot.l1 k2 aJ ak (aI++ [bg]) (wrap64 (aw+1)) au ah ae) else(none))=some (r1,r2):=H;have A25:=q_ A250;clear A250
            by_cases c26:aI.length < 17592186044416
            ·rw [if_pos c26] at H;have cD:=q_ c26;clear c26;obtain⟨cf,hy⟩: ∃y_:List Int,y_=(aI++ [bg]):=⟨_,rfl⟩
             replace H:(spec_SignsOfPivot.l1 k2 aJ ak cf (wrap64 (aw+1)) au ah ae)=some (r1,r2):=hh_;have cE:=q_ hy;clear hy;have H':=q_ H;clear H;have dX:=aG.out;have dY:=av.out;obtain⟨cU,cV,cZ,da,df,dh⟩:=c3_ aa;have p668:0≤(ak:Int):=od_;have q668:ak < (ah.length:Int):=od_;obtain⟨bR,dQ,dU,e668,hx668_0,hl668_0,hi668_0⟩:=at_L2 (Kd.S_reads' ai.out).2.2 ak p668 q668;cases e668
             obtain⟨ce668,hce668,hMe668,hcc668⟩:=Kd.S_get ai.out [] ak p668 (by first | exact q668 | exact od_ | (have e_:=(Kd.S_reads' ai.out).1;omega));obtain⟨ve668_0,rfl,ge668_0⟩:=hMe668;have hv668_0:=hcc668 0 _ rfl;rw [Nat.add_zero,show ((Kd.slice 2 (Kd.int .i64))).sz=1 from rfl,Nat.mul_one] at hv668_0;replace hv668_0:=Option.some.inj (hv668_0.symm.trans hx668_0);rw [hv668_0] at ge668_0;have HL668_0:=q_ (show Kd.R (Kd.int .i64) 2 _ _ _ _ (rd_L2 ah ak) from ge668_0);clear hv668_0 ge668_0 hcc668 hce668;have HR668_0:=q_ hi668_0;have HC668_0:=q_ hl668_0;clear hi668_0 hl668_0;replace p668:=eq_true p668;replace q668:=eq_true q668;have p669:0≤(aw:Int):=od_;have q669:aw < ((rd_L2 ah ak).length:Int):=od_;obtain⟨dZ,e669,hx669_0⟩:=Kd.at_int (by repeat (first | (with_reducible exact HR668_0.out) | (with_reducible refine Kd.C_alloc ?_ _) | (with_reducible refine Kd.C_drewN ?_ _) | (with_reducible refine Kd.C_drew ?_) | exact HR668_0.out)) aw p669 q669;cases e669
             replace p669:=eq_true p669;replace q669:=eq_true q669
             go_wp2_with (first | ((with_reducible refine gate_callee (f:=66) rfl ?_);refine gL_ 46 Try.func66 #[.int .i64 (rd (rd_L2 ah ak) aw)] ?_;(with_reducible refine(spec_l04Sign.calls (rd (rd_L2 ah ak) aw) bg _ A25.out).mono ?_);rintro e w' ⟨rfl,⟨nd,rfl⟩⟩;refine⟨_,rfl,?_⟩) | ((with_reducible refine gate_builtin (b:= .append) (xs:= #[.tmp 37, .tmp 47]) rfl ?_);at_builtin;refine Kd.R_append (Kd.int .i64) (w0:=w) w.heap.size rfl (.tmp 37) (.tmp 47) 25 2 (.int .i64 0) 8 rfl Try.underlying25 info2 rfl (by decide) (by omega) u10 aI bg [.int .i64 bg] (fun k_=>some k_≠(.slice ay ae.length aq:Value).ownBlock) (fun _=>False) rfl rfl ?aP (fun _ hk=>hk.elim) ?aF ?aO ?aB ?aS ?aL ?_;(case aP=>exact rfl);(case aB=>exact hb_);(case aF=>exact(fun k_ hk=>Kd.fresh' (Kd.R_lt (ro_ aj.out)) k_ hk));(case aO=>exact(ro_ aV.out));(case aS=>exact bz_);(case aL=>have:=cD.out;omega);intro eH w29 ho hb hg hat;rw [← cE.out] at ho;replace aH:=q_ (Kd.S_after (ok:=(fun k_=>some k_≠(.slice (some bR) ah.length ax:Value).ownBlock∧some k_≠(.slice ay ae.length aq:Value).ownBlock)) (kS_ aH.out (fun _ hk=>⟨⟨hk.2.1,hk.2.2⟩,hk.1⟩)) hg hat);replace ai:=q_ (Kd.S_after (ok:=(fun k_=>some k_≠(u8:Value).ownBlock∧some k_≠(.slice ay ae.length aq:Value).ownBlock)) (kS_ ai.out (fun _ hk=>⟨⟨hk.1,hk.2.2⟩,hk.2.1⟩)) hg hat);replace aj:=q_ (Kd.R_after (ok:=(fun _=>True)) (kR_ aj.out (fun _ hk=>⟨trivial,hk⟩)) hg hat);replace ag:=q_ (bg_ ag.out hg (Kd.R_ne aV.out ag.out (by decide)));replace aa:=q_ (bg_ aa.out hg (Kd.R_ne aV.out aa.out (by decide)));replace HL668_0:=q_ (Kd.R_after (ok:=(fun k_=>some k_≠(u8:Value).ownBlock∧some k_≠(.slice (some bR) ah.length ax:Value).ownBlock∧some k_≠(.slice ay ae.length aq:Value).ownBlock)) (kR_ HL668_0.out (fun _ hk=>⟨⟨hk.1.1,⟨hk.2,hk.1.2.2⟩⟩,hk.1.2.1⟩)) hg hat);replace HB:=q_ (hb);have cF:=q_ (ho);clear aV ho hb hg hat))
             go_roundg k2
             case measure=>have:=HK1.out;have:=HK2.out;omega
             case rel=>exact⟨(cf),(wrap64 (aw+1)),rs_,H',⟨by have:=HK1.out;have:=HK2.out;omega⟩,⟨kS_ aH.out (fun _ hk=>⟨hk.2,⟨hk.1.1,hk.1.2⟩⟩)⟩,⟨ro_ cF.out⟩,⟨kS_ ai.out (fun _ hk=>⟨hk.1.1,⟨hk.2,hk.1.2⟩⟩)⟩,⟨kR_ aj.out (fun _ hk=>hk.2)⟩,⟨bk_⟩,⟨bk_⟩,⟨hb_⟩⟩
            ·rw [if_neg c26] at H;exact absurd H (by simp)
           ·rw [if_neg c24] at H;exact absurd H (by simp)
          ·rw [if_neg c23] at H;exact absurd H (by simp)
         ·rw [if_neg c22] at H;exact absurd H (by simp)
        ·rw [if_neg c21] at H;exact absurd H (by simp)
       ·rw [if_neg c20] at H;have c20b0:=decide_eq_false c20;clear c20
        by_cases c30:0≤ak
        ·rw [if_pos c30] at H;have c30b0:=decide_eq_true c30;clear c30
         by_cases c31:ak < (ae.length:Int)
         ·rw [if_pos c31] at H;have c31b0:=decide_eq_true c31;clear c31;replace H:=Option.bind_eq_some_iff.mp H;obtain⟨bh,A320,H⟩:=H;replace H:(if aI.length < 17592186044416 then(if aJ.length < 5864062014805 then(spec_SignsOfPivot.l0 k2 (aJ++ [(aI++ [bh])]) (wrap64 (ak+1)) au ah ae) else(none)) else(none))=some (r1,r2):=H;have A32:=q_ A320;clear A320
          by_cases c33:aI.length < 17592186044416
          ·rw [if_pos c33] at H;have cG:=q_ c33;clear c33;obtain⟨ba,hy⟩: ∃y_:List Int,y_=(aI++ [bh]):=⟨_,rfl⟩
           replace H:(if aJ.length < 5864062014805 then(spec_SignsOfPivot.l0 k2 (aJ++ [ba]) (wrap64 (ak+1)) au ah ae) else(none))=some (r1,r2):=hh_;have cH:=q_ hy;clear hy
           by_cases c34:aJ.length < 5864062014805
           ·rw [if_pos c34] at H;have cI:=q_ c34;clear c34;obtain⟨cg,hy⟩: ∃y_:List (List Int),y_=(aJ++ [ba]):=⟨_,rfl⟩
            replace H:(spec_SignsOfPivot.l0 k2 cg (wrap64 (ak+1)) au ah ae)=some (r1,r2):=hh_;have cJ:=q_ hy;clear hy;have H':=q_ H;clear H;have d9:=aG.out;have ed:=av.out;obtain⟨di,dl,dr,du,dw,dx⟩:=c3_ aa;have p674:0≤(ak:Int):=od_;have q674:ak < (ae.length:Int):=od_;obtain⟨aX,e674,hx674_0⟩:=Kd.at_int (Kd.R_reads' aj.out).2.2 ak p674 q674;cases e674
            replace p674:=eq_true p674;replace q674:=eq_true q674
            go_wp2_with (first | ((with_reducible refine gate_callee (f:=66) rfl ?_);refine gL_ 56 Try.func66 #[.int .i64 (rd ae ak)] ?_;(with_reducible refine(spec_l04Sign.calls (rd ae ak) bh _ A32.out).mono ?_);rintro e w' ⟨rfl,⟨nd,rfl⟩⟩;refine⟨_,rfl,?_⟩) | ((with_reducible refine gate_builtin (b:= .append) (xs:= #[.tmp 50, .tmp 57]) rfl ?_);at_builtin;refine Kd.R_append (Kd.int .i64) (w0:=w) w.heap.size rfl (.tmp 50) (.tmp 57) 25 2 (.int .i64 0) 8 rfl Try.underlying25 info2 rfl (by decide) (by omega) u10 aI bh [.int .i64 bh] (fun k_=>some k_≠(.slice (some aX) ae.length aq:Value).ownBlock) (fun _=>False) rfl rfl ?aP (fun _ hk=>hk.elim) ?aF ?aO ?aB ?aS ?aL ?_;(case aP=>exact rfl);(case aB=>exact hb_);(case aF=>exact(fun k_ hk=>Kd.fresh' (Kd.R_lt (ro_ aj.out)) k_ hk));(case aO=>exact(ro_ aV.out));(case aS=>exact bz_);(case aL=>have:=cG.out;omega);intro eI w37 ho hb hg hat;rw [← cH.out] at ho;replace aH:=q_ (Kd.S_after (ok:=(fun k_=>some k_≠(.slice aA ah.length ax:Value).ownBlock∧some k_≠(.slice (some aX) ae.length aq:Value).ownBlock)) (kS_ aH.out (fun _ hk=>⟨⟨hk.2.1,hk.2.2⟩,hk.1⟩)) hg hat);replace ai:=q_ (Kd.S_after (ok:=(fun k_=>some k_≠(u8:Value).ownBlock∧some k_≠(.slice (some aX) ae.length aq:Value).ownBlock)) (kS_ ai.out (fun _ hk=>⟨⟨hk.1,hk.2.2⟩,hk.2.1⟩)) hg hat);replace aj:=q_ (Kd.R_after (ok:=(fun _=>True)) (kR_ aj.out (fun _ hk=>⟨trivial,hk⟩)) hg hat);replace ag:=q_ (bg_ ag.out hg (Kd.R_ne aV.out ag.out (by decide)));replace aa:=q_ (bg_ aa.out hg (Kd.R_ne aV.out aa.out (by decide)));replace HB:=q_ (hb);have bf:=q_ (ho);clear aV ho hb hg hat;obtain⟨bJ,bK,cQ⟩:=Kd.R_slice bf.out;subst cQ) | ((with_reducible refine gate_builtin (b:= .append) (xs:= #[.tmp 49, .tmp 59]) rfl ?_);at_builtin;refine Kd.S_append (Kd.slice 2 (Kd.int .i64)) (w0:=w) w.heap.size rfl (.tmp 49) (.tmp 59) 24 25 (.slice none 0 0) 24 rfl Try.underlying24 info25 rfl (by decide) (by omega) u8 aJ ba [.slice bJ ba.length bK] (fun k_=>some k_≠(.slice aA ah.length ax:Value).ownBlock∧some k_≠(.slice (some aX) ae.length aq:Value).ownBlock) (fun k_=>some k_=(.slice bJ ba.length bK:Value).ownBlock) rfl rfl ?aP (fun k_ hk_=>((Kd.R_mono (ok':=fun k_=>((fun k_=>some k_≠(.slice aA ah.length ax:Value).ownBlock∧some k_≠(.slice (some aX) ae.length aq:Value).ownBlock)) k_∧some k_≠(u8:Value).ownBlock) (Kd.R_apart' (Kd.R_apart' (bf.out) (Kd.S_typed ai.out) (by decide)) (Kd.S_typed aH.out) (by decide)) (fun k_ hk=>⟨⟨hk.1.2,hk.1.1⟩,hk.2⟩))).1 k_ hk_.symm) ?aF ?aO ?aB ?aS ?aL ?_;(case aP=>exact Kd.M_row (Kd.R_mono (Kd.R_tight rfl (Kd.R_mono (ok':=fun k_=>((fun k_=>some k_≠(.slice aA ah.length ax:Value).ownBlock∧some k_≠(.slice (some aX) ae.length aq:Value).ownBlock)) k_∧some k_≠(u8:Value).ownBlock) (Kd.R_apart' (Kd.R_apart' (bf.out) (Kd.S_typed ai.out) (by decide)) (Kd.S_typed aH.out) (by decide)) (fun k_ hk=>⟨⟨hk.1.2,hk.1.1⟩,hk.2⟩))) (fun _ h_=>h_)));(case aB=>exact hb_);(case aF=>exact(fun k_ hk=>⟨Kd.fresh' (Kd.S_lt (so_ ai.out)) k_ hk,Kd.fresh' (Kd.R_lt (ro_ aj.out)) k_ hk⟩));(case aO=>exact(kS_ aH.out (fun k_ hk=>⟨⟨hk.1.1,hk.1.2⟩,fun e_=>hk.2 e_⟩)));(case aS=>exact bz_);(case aL=>have:=cI.out;omega);intro eJ w38 ho hb hg hat;rw [← cJ.out] at ho;replace ai:=q_ (Kd.S_after (ok:=(fun k_=>some k_≠(.slice (some aX) ae.length aq:Value).ownBlock∧some k_≠(.slice bJ ba.length bK:Value).ownBlock)) (kS_ ai.out (fun _ hk=>⟨⟨hk.1.2,hk.2⟩,hk.1.1⟩)) hg hat);replace aj:=q_ (Kd.R_over' (ro_ aj.out) (Kd.S_typed (so_ aH.out)) (by decide) hg);replace ag:=q_ (bg_ ag.out hg (Kd.S_ne aH.out ag.out (by decide)));replace aa:=q_ (bg_ aa.out hg (Kd.S_ne aH.out aa.out (by decide)));replace HB:=q_ (hb);have cK:=q_ (ho);clear aH bf ho hb hg hat))
            go_roundg k2
            case measure=>have:=HK1.out;have:=HK2.out;omega
            case rel=>exact⟨(cg),(wrap64 (ak+1)),rs_,H',⟨by have:=HK1.out;have:=HK2.out;omega⟩,⟨so_ cK.out⟩,⟨kS_ ai.out (fun _ hk=>⟨hk.2,hk.1.1⟩)⟩,⟨kR_ aj.out (fun _ hk=>trivial)⟩,⟨bk_⟩,⟨bk_⟩,⟨hb_⟩⟩
           ·rw [if_neg c34] at H;exact absurd H (by simp)
          ·rw [if_neg c33] at H;exact absurd H (by simp)
         ·rw [if_neg c31] at H;exact absurd H (by simp)
        ·rw [if_neg c30] at H;exact absurd H (by simp)
    ·rw [if_neg c15] at H;have c15b0:=decide_eq_false c15;clear c15;simp only [Option.some.injEq,Prod.mk.injEq] at H;obtain⟨rfl,rfl⟩:=H;have ek:=aG.out;have ep:=av.out;obtain⟨dz,dA,dB,dC,dD,dE⟩:=c3_ aa;go_wp2
     go_ret2
     exact⟨_,ew_,kS_ aH.out (fun _ hk=>trivial),hb_⟩
 ·rw [if_neg c4] at H;have c4b0:=e3_ c4;have c4b1:=e4_ c4;simp only [Option.some.injEq,Prod.mk.injEq] at H;obtain⟨rfl,rfl⟩:=H
  go_enter Try.func34,Try.ntmps34
  go_wp2_with (first | ((with_reducible refine gate_dst (N:=2) rfl ?_);refine be_ 2 #[.slice aN aC.length aQ, .slice aT aD.length aU] 27 ?_;intro az hg w42 hbox hb;have ag:=q_ (hbox);have cm:=gz_ w hg;have cu:=gz_ w hg;replace HB:=Bs_ hb;clear hb hbox hg;obtain⟨dF,dG,dH,dI⟩:=c2_ ag) | ((with_reducible refine gate_callee (f:=23) rfl ?_);refine gL_ 15 Try.func23 #[.agg #[.slice aN aC.length aQ, .slice aT aD.length aU], .int .i64 a1] ?_;(with_reducible refine(spec_PivotOf.calls k _ _ aC _ _ aD a1 au ah ae aW _ ?bA ?bC ?bD ?bE A3.out).mono ?_);(case bA=>exact cb_ HR0_0.out HB.out);(case bC=>exact HC0_0.out);(case bD=>exact cb_ HR0_1.out HB.out);(case bE=>exact HC0_1.out);rintro e w44 ⟨cL,cN,rfl,ho0,ho1,hb⟩;refine⟨_,rfl,?_⟩;have aK:=q_ (Kd.S_lower ho0 bz_);have aM:=q_ (Kd.R_lower ho1 bz_);replace ag:=Bb_ ag hb;replace HB:=Bs_ hb;(try clear hb);(try clear hk);(try clear ho0);(try clear ho1)) | ((with_reducible refine gate_dst (N:=6) rfl ?_);refine be_ 6 #[.int .i64 0, .slice none 0 0, .slice none 0 0] 49 ?_;intro af hg w45 hbox hb;replace aK:=q_ (Kd.S_below (so_ aK.out) hb);replace aM:=Rb_ aM hb;have aa:=q_ (hbox);have cz:=gz_ w hg;have cA:=gz_ w hg;have av:=lz_ hg ag;have aG:=mz_ hg ag;replace ag:=Bb_ ag hb;replace HB:=Bs_ hb;clear hb hbox hg;have eu:=aG.out;have ez:=av.out;obtain⟨dJ,dK,dL,dM,dN,dP⟩:=c3_ aa;obtain⟨eK,eL,cR⟩:=Kd.S_slice aK.out;subst cR;obtain⟨eM,eO,cT⟩:=Kd.R_slice aM.out;subst cT))
  go_ret2
  exact⟨_,ew_,by first | exact Kd.S_nil _ _ _ _ _ | exact Kd.N_nil _ _ _ _ _ | exact Kd.V_nil _ _ _ _ _ | exact Kd.Q_nil _ _ _ _ _ | exact Kd.R_nil _ _ _ _ _,hb_⟩
end Go.Proofs.Ytbjljcpngbhkeaa.Pr
end
section
namespace Go.Proofs.Ytbjljcpngbhkeaa.Pp
open Go.RowKit Wz.PrintWords Wz.PrintMore Ma Pr Dt Bz Un Cz Pb Mn Sv Pv La Hm
section
variable {n:Nat} (hn:n≤5) (R:List (List Int)) (S:List Int) (hR:R.length=n) (hr: ∀x ∈ R,x.length=n) (hS:S.length=n)
include hn hR hr hS
end
end Go.Proofs.Ytbjljcpngbhkeaa.Pp
end
section
namespace Go.Proofs.Ytbjljcpngbhkeaa.Pr
open Go.RowKit Wz.PrintWords Wz.PrintLast Wz.PrintMore
attribute [local go_sem] max2_int min2_int max_two min_two max_three min_three max_four min_four
def impl_InverseOf.f (k:Nat) (ae:List (List Int)) (af:List Int):Option ((List (List Int)) × Int × Int):=(impl_IsProblem.f ae af).bind fun ag=>(if ag=true then((impl_Problem_all.f ae af).bind fun ah=>((impl_pivotOf.f k ae af (wrap64 (ah - 1))).bind fun aa=>(if aa.2.2.2=0 then(some (aa.2.1,aa.1,0)) else(some (([]:List (List Int)),0,aa.2.2.2))))) else(some (([]:List (List Int)),0,1)))
def impl_InverseOf.T3:Bool × List (List Nat × List Nat):=(true, [([], []),([], []),([1], [1]),([2], [2]),([0,3,2], [0,3]),([4], [4]),([5], [5]),([5], [5]),([], []),([8,6,4,0,1,2,3,4,5,6,8], [6,8]),([7,9,0,1,2,3,4,5,6,7,8,9], [7])])
def impl_InverseOf.B3:List Nat:= [0,0,2,6,15,31,63,63,0,383,1023]
theorem impl_InverseOf.tab3:rtab .any (opsOf Try.f31 3)=impl_InverseOf.T3:=by kernel_rfl
theorem impl_InverseOf.bits3:waitsOk impl_InverseOf.T3.2 impl_InverseOf.B3=true:=by kernel_rfl
theorem impl_InverseOf.calls (k:Nat) (au:Option Addr) (av:Nat) (ah:List (List Int)) (aw:Option Addr) (ax:Nat) (ai:List Int) (r1:List (List Int)) (r2:Int) (r3:Int) (w:World) (a9:Kd.C (Kd.slice 2 (Kd.int .i64)) w au ah.length ah) (ba:ah.length≤av) (bf:Kd.C (Kd.int .i64) w aw ai.length ai) (bg:ai.length≤ax) (h:impl_InverseOf.f k ah ai=some (r1,r2,r3)):
  Calls Try.prog 31 #[.agg #[.slice au ah.length av, .slice aw ai.length ax]] w fun e w'=> ∃v0_:Value,e= .returned (.tuple #[v0_, .int .i64 r2, .int .i64 r3])∧Kd.S (Kd.slice 2 (Kd.int .i64)) 25 w' w.heap.size (fun _=>True) v0_ r1∧Below w.heap.size w w':=by
 have hu27:=Try.underlying27;have hu49:=Try.underlying49;have HR0_0:=q_ a9;have HC0_0:=q_ ba;clear a9 ba;have HR0_1:=q_ bf;have HC0_1:=q_ bg;clear bf bg;have HB:=q_ (Below.refl w.heap.size w);have H:((impl_IsProblem.f ah ai).bind fun aZ=>(if aZ=true then((impl_Problem_all.f ah ai).bind fun aG=>((impl_pivotOf.f k ah ai (wrap64 (aG - 1))).bind fun aI=>(if aI.2.2.2=0 then(some (aI.2.1,aI.1,0)) else(some (([]:List (List Int)),0,aI.2.2.2))))) else(some (([]:List (List Int)),0,1))))=some (r1,r2,r3):=h;clear h;replace H:=Option.bind_eq_some_iff.mp H;obtain⟨aZ,A20,H⟩:=H;replace H:(if aZ=true then((impl_Problem_all.f ah ai).bind fun aG=>((impl_pivotOf.f k ah ai (wrap64 (aG - 1))).bind fun aI=>(if aI.2.2.2=0 then(some (aI.2.1,aI.1,0)) else(some (([]:List (List Int)),0,aI.2.2.2))))) else(some (([]:List (List Int)),0,1)))=some (r1,r2,r3):=H;have A2:=q_ A20;clear A20
 by_cases c3:aZ=true
 ·subst c3;have H1:((impl_Problem_all.f ah ai).bind fun aG=>((impl_pivotOf.f k ah ai (wrap64 (aG - 1))).bind fun aI=>(if aI.2.2.2=0 then(some (aI.2.1,aI.1,0)) else(some (([]:List (List Int)),0,aI.2.2.2)))))=some (r1,r2,r3):=by rw [if_pos rfl] at H;exact H
  clear H;have H:=H1;clear H1;replace H:=Option.bind_eq_some_iff.mp H;obtain⟨aG,A40,H⟩:=H;replace H:((impl_pivotOf.f k ah ai (wrap64 (aG - 1))).bind fun aI=>(if aI.2.2.2=0 then(some (aI.2.1,aI.1,0)) else(some (([]:List (List Int)),0,aI.2.2.2))))=some (r1,r2,r3):=H;have A4:=q_ A40;clear A40;replace H:=Option.bind_eq_some_iff.mp H;obtain⟨⟨aH,aJ,aK,aM⟩,A50,H⟩:=H;replace H:(if aM=0 then(some (aJ,aH,0)) else(some (([]:List (List Int)),0,aM)))=some (r1,r2,r3):=H;have A5:=q_ A50;clear A50
  by_cases c6:aM=0
  ·rw [if_pos c6] at H;have c6b0:=e1_ c6;have c6b1:=e2_ c6;clear c6;simp only [Option.some.injEq,Prod.mk.injEq] at H;obtain⟨rfl,rfl,rfl⟩:=H
   go_enter Try.func31,Try.ntmps31
   try go_wp2_with (first | ((with_reducible refine gate_dst (N:=1) rfl ?_);refine be_ 1 #[.slice au ah.length av, .slice aw ai.length ax] 27 ?_;intro ag hg w7 hbox hb;have aa:=q_ (hbox);have bh:=gz_ w hg;have bk:=gz_ w hg;replace HB:=Bs_ hb;clear hb hbox hg;obtain⟨bI,bJ,bK,bL⟩:=c2_ aa) | ((with_reducible refine gate_callee (f:=39) rfl ?_);refine gL_ 8 Try.func39 #[.agg #[.slice au ah.length av, .slice aw ai.length ax]] ?_;(with_reducible refine(impl_IsProblem.calls _ _ ah _ _ ai true _ ?ay ?az ?aA ?aC A2.out).mono ?_);(case ay=>exact cb_ HR0_0.out HB.out);(case az=>exact HC0_0.out);(case aA=>exact cb_ HR0_1.out HB.out);(case aC=>exact HC0_1.out);rintro e w9 ⟨rfl,hb⟩;refine⟨_,rfl,?_⟩;replace aa:=Bb_ aa hb;replace HB:=Bs_ hb;(try clear hb);(try clear hk)))
   replace aa:=q_ (blk_drew aa.out);replace HB:=q_ (below_drew1 HB.out);refine st_ (n:=11) (S:=fun w'=>w'.cell? ⟨ag,0,none⟩=some (.slice au ah.length av)∧w'.cell? ⟨ag,1,none⟩=some (.slice aw ai.length ax)) (ds:= []) ⟨(blk_cell aa.out 0).trans rfl,(blk_cell aa.out 1).trans rfl⟩ (fun hHeld=>?_);refine with_tabW impl_InverseOf.tab3 impl_InverseOf.bits3 (fun HT_ HW_=>?_)
   generalize w9.drew=w10 at aa HB hHeld ⊢
   refine tk_ 0 11 ?_;refine tk_ 1 12 ?_
   refine join_ (σ:=Value × Value × Nat) 2 (fm 11 511) (fun s_=> [(13, .int .i64 aG),(15, .tuple #[.agg #[.int .i64 aH,s_.1,s_.2.1], .int .i64 aM]),(5, .pointer (some ⟨s_.2.2,0,none⟩)),(14, .int .i64 (wrap64 (aG - 1))),(10, .tuple #[.agg #[.int .i64 aH,s_.1,s_.2.1], .int .i64 aM]),(16, .agg #[.int .i64 aH,s_.1,s_.2.1]),(17, .int .i64 aM)]) (fun s_ w'=>(w'.cell? ⟨ag,0,none⟩=some (.slice au ah.length av)∧w'.cell? ⟨ag,1,none⟩=some (.slice aw ai.length ax))∧(Kd.S (Kd.slice 2 (Kd.int .i64)) 25 w' w.heap.size (fun k_=>some k_≠(s_.2.1:Value).ownBlock) s_.1 aJ)∧(Kd.R (Kd.int .i64) 2 w' w.heap.size (fun _=>True) s_.2.1 aK)∧(w'.heap[ag]?=some (.cells #[.slice au ah.length av, .slice aw ai.length ax] 27 (0,0)))∧(w'.heap[s_.2.2]?=some (.cells #[.int .i64 0, .slice none 0 0, .slice none 0 0] 49 (0,0)))∧(w.heap.size≤s_.2.2)∧(w.heap.size≤s_.2.2)∧(ag≠s_.2.2)∧(s_.2.2≠ag)∧(Below w.heap.size w w')) ?_ ?_
   rotate_left
   ·intro hCont;refine two_ (i:=2) (j:=8) (Ni:=some 13) (Nj:=some 5) (fm 11 7) (fm 11 259) rfl rfl rfl rfl (two_of HT_.out (by kernel_rfl)) (by decide) (by decide) (fun K hK=>?_) (fun K hK=>?_)
    ·skip
     refine goes_ Try.func46 (by kernel_rfl) rfl #[.agg #[.slice au ah.length av, .slice aw ai.length ax]] (by rfl) rfl rfl (by(try simp only [List.map_toArray,List.map_cons,List.map_nil]);first | done | rfl | (simp only [List.length_drop,List.length_take];rfl)) ?_
     with_reducible refine(impl_Problem_all.calls _ _ ah _ _ ai aG _ ?ay ?az ?aA ?aC A4.out).mono ?_
     (case ay=>exact cb_ HR0_0.out HB.out)
     (case az=>exact HC0_0.out)
     (case aA=>exact cb_ HR0_1.out HB.out)
     (case aC=>exact HC0_1.out)
     rintro e w11 ⟨rfl,hb⟩;refine⟨_,rfl,?_⟩
     replace aa:=Bb_ aa hb;replace HB:=Bs_ hb;(try clear hb)
     
     (try clear hk)
     
     refine hK.out _ _ ⟨(blk_cell aa.out 0).trans rfl,(blk_cell aa.out 1).trans rfl⟩ (fun hHeld=>?_)
     clear hK K;refine norm_ (a':=?_) ?_ ?_
     rotate_left
     ·show Act.put _ (some 13) _=_
      simp only [Act.put,List.setIfInBounds_toArray,List.set_cons_zero,List.set_cons_succ,i64_w,i32_w]
      rfl
     refine pu_ 3 14 ?_
     refine two_ (i:=4) (j:=8) (Ni:=some 15) (Nj:=some 5) (fm 11 31) (fm 11 271) rfl rfl rfl rfl (two_of HT_.out (by kernel_rfl)) (by decide) (by decide) (fun K hK=>?_) (fun K hK=>?_)
     ·skip
      refine goes_ Try.func47 (by kernel_rfl) rfl #[.agg #[.slice au ah.length av, .slice aw ai.length ax], .int .i64 (wrap64 (aG - 1))] (by rfl) rfl rfl (by(try simp only [List.map_toArray,List.map_cons,List.map_nil]);first | done | rfl | (simp only [List.length_drop,List.length_take];rfl)) ?_
      with_reducible refine(impl_pivotOf.calls k _ _ ah _ _ ai (wrap64 (aG - 1)) aH aJ aK aM _ ?ay ?az ?aA ?aC A5.out).mono ?_
      (case ay=>exact cb_ HR0_0.out HB.out)
      (case az=>exact HC0_0.out)
      (case aA=>exact cb_ HR0_1.out HB.out)
      (case aC=>exact HC0_1.out)
      rintro e w12 ⟨aU,aN,rfl,ho0,ho1,hb⟩;refine⟨_,rfl,?_⟩
      have aq:=q_ (Kd.S_lower ho0 bz_);have aD:=q_ (Kd.R_lower ho1 bz_);replace aa:=Bb_ aa hb;replace HB:=Bs_ hb;(try clear hb)
      
      (try clear hk)
      
      (try clear ho0);(try clear ho1);refine hK.out _ _ ⟨(blk_cell aa.out 0).trans rfl,(blk_cell aa.out 1).trans rfl⟩ (fun hHeld=>?_)
      clear hK K;refine norm_ (a':=?_) ?_ ?_
      rotate_left
      ·show Act.put _ (some 15) _=_
       simp only [Act.put,List.setIfInBounds_toArray,List.set_cons_zero,List.set_cons_succ,i64_w,i32_w]
       rfl
      refine p3_ 5 10 6 16 7 17 ?_
      refine on_ 8 (some 5) (fun K hK=>?_)
      refine box_step ?hg (N:=5) ?hd (cs:= #[.int .i64 0, .slice none 0 0, .slice none 0 0]) (t:=49) ?hr ?_;(case hd=>rfl);(case hg=>rfl);(case hr=>first | (go_simp;done) | (go_simp;rfl))
      intro ae hg w13 hbox hb;replace aq:=q_ (Kd.S_below (so_ aq.out) hb);replace aD:=Rb_ aD hb;have aj:=q_ (hbox);have aQ:=gz_ w hg;have aT:=gz_ w hg;have af:=lz_ hg aa;have ak:=mz_ hg aa;replace aa:=Bb_ aa hb;replace HB:=Bs_ hb;clear hb hbox hg;refine hK.out _ _ ⟨(blk_cell aa.out 0).trans rfl,(blk_cell aa.out 1).trans rfl⟩ (fun hHeld=>?_)
      clear hK K;refine norm_ (a':=?_) ?_ ?_
      rotate_left
      ·show Act.put _ (some 5) _=_
       simp only [Act.put,List.setIfInBounds_toArray,List.set_cons_zero,List.set_cons_succ,i64_w,i32_w]
       rfl
      exact norm_ (by simp only [putAll,Act.put,List.setIfInBounds_toArray,List.set_cons_zero,List.set_cons_succ]) (hCont (aU,aN,ae) _ ⟨hHeld,(so_ aq.out),(ro_ aD.out),bk_,bk_,aQ.out,aT.out,af.out,ak.out,hb_⟩)
     ·skip
      refine box_step ?hg (N:=5) ?hd (cs:= #[.int .i64 0, .slice none 0 0, .slice none 0 0]) (t:=49) ?hr ?_;(case hd=>rfl);(case hg=>rfl);(case hr=>first | (go_simp;done) | (go_simp;rfl))
      intro ae hg w12 hbox hb;have aj:=q_ (hbox);have aQ:=gz_ w hg;have aT:=gz_ w hg;have af:=lz_ hg aa;have ak:=mz_ hg aa;replace aa:=Bb_ aa hb;replace HB:=Bs_ hb;clear hb hbox hg;refine hK.out _ _ ⟨(blk_cell aa.out 0).trans rfl,(blk_cell aa.out 1).trans rfl⟩ (fun hHeld=>?_)
      clear hK K;refine norm_ (a':=?_) ?_ ?_
      rotate_left
      ·show Act.put _ (some 5) _=_
       simp only [Act.put,List.setIfInBounds_toArray,List.set_cons_zero,List.set_cons_succ,i64_w,i32_w]
       rfl
      refine on_ 4 (some 15) (fun K hK=>?_)
      refine goes_ Try.func47 (by kernel_rfl) rfl #[.agg #[.slice au ah.length av, .slice aw ai.length ax], .int .i64 (wrap64 (aG - 1))] (by rfl) rfl rfl (by(try simp only [List.map_toArray,List.map_cons,List.map_nil]);first | done | rfl | (simp only [List.length_drop,List.length_take];rfl)) ?_
      with_reducible refine(impl_pivotOf.calls k _ _ ah _ _ ai (wrap64 (aG - 1)) aH aJ aK aM _ ?ay ?az ?aA ?aC A5.out).mono ?_
      (case ay=>exact cb_ HR0_0.out HB.out)
      (case az=>exact HC0_0.out)
      (case aA=>exact cb_ HR0_1.out HB.out)
      (case aC=>exact HC0_1.out)
      rintro e w13 ⟨aU,aN,rfl,ho0,ho1,hb⟩;refine⟨_,rfl,?_⟩
      have aq:=q_ (Kd.S_lower ho0 bz_);have aD:=q_ (Kd.R_lower ho1 bz_);replace aa:=Bb_ aa hb;replace aj:=Bb_ aj hb;replace HB:=Bs_ hb;(try clear hb)
      
      (try clear hk)
      
      (try clear ho0);(try clear ho1);refine hK.out _ _ ⟨(blk_cell aa.out 0).trans rfl,(blk_cell aa.out 1).trans rfl⟩ (fun hHeld=>?_)
      clear hK K;refine norm_ (a':=?_) ?_ ?_
      rotate_left
      ·show Act.put _ (some 15) _=_
       simp only [Act.put,List.setIfInBounds_toArray,List.set_cons_zero,List.set_cons_succ,i64_w,i32_w]
       rfl
      refine p3_ 5 10 6 16 7 17 ?_
      exact norm_ (by simp only [putAll,Act.put,List.setIfInBounds_toArray,List.set_cons_zero,List.set_cons_succ]) (hCont (aU,aN,ae) _ ⟨hHeld,(so_ aq.out),(ro_ aD.out),bk_,bk_,aQ.out,aT.out,af.out,ak.out,hb_⟩)
    ·skip
     refine box_step ?hg (N:=5) ?hd (cs:= #[.int .i64 0, .slice none 0 0, .slice none 0 0]) (t:=49) ?hr ?_;(case hd=>rfl);(case hg=>rfl);(case hr=>first | (go_simp;done) | (go_simp;rfl))
     intro ae hg w11 hbox hb;have aj:=q_ (hbox);have aQ:=gz_ w hg;have aT:=gz_ w hg;have af:=lz_ hg aa;have ak:=mz_ hg aa;replace aa:=Bb_ aa hb;replace HB:=Bs_ hb;clear hb hbox hg;refine hK.out _ _ ⟨(blk_cell aa.out 0).trans rfl,(blk_cell aa.out 1).trans rfl⟩ (fun hHeld=>?_)
     clear hK K;refine norm_ (a':=?_) ?_ ?_
     rotate_left
     ·show Act.put _ (some 5) _=_
      simp only [Act.put,List.setIfInBounds_toArray,List.set_cons_zero,List.set_cons_succ,i64_w,i32_w]
      rfl
     refine on_ 2 (some 13) (fun K hK=>?_)
     refine goes_ Try.func46 (by kernel_rfl) rfl #[.agg #[.slice au ah.length av, .slice aw ai.length ax]] (by rfl) rfl rfl (by(try simp only [List.map_toArray,List.map_cons,List.map_nil]);first | done | rfl | (simp only [List.length_drop,List.length_take];rfl)) ?_
     with_reducible refine(impl_Problem_all.calls _ _ ah _ _ ai aG _ ?ay ?az ?aA ?aC A4.out).mono ?_
     (case ay=>exact cb_ HR0_0.out HB.out)
     (case az=>exact HC0_0.out)
     (case aA=>exact cb_ HR0_1.out HB.out)
     (case aC=>exact HC0_1.out)
     rintro e w12 ⟨rfl,hb⟩;refine⟨_,rfl,?_⟩
     replace aa:=Bb_ aa hb;replace aj:=Bb_ aj hb;replace HB:=Bs_ hb;(try clear hb)
     
     (try clear hk)
     
     refine hK.out _ _ ⟨(blk_cell aa.out 0).trans rfl,(blk_cell aa.out 1).trans rfl⟩ (fun hHeld=>?_)
     clear hK K;refine norm_ (a':=?_) ?_ ?_
     rotate_left
     ·show Act.put _ (some 13) _=_
      simp only [Act.put,List.setIfInBounds_toArray,List.set_cons_zero,List.set_cons_succ,i64_w,i32_w]
      rfl
     refine pu_ 3 14 ?_
     refine on_ 4 (some 15) (fun K hK=>?_)
     refine goes_ Try.func47 (by kernel_rfl) rfl #[.agg #[.slice au ah.length av, .slice aw ai.length ax], .int .i64 (wrap64 (aG - 1))] (by rfl) rfl rfl (by(try simp only [List.map_toArray,List.map_cons,List.map_nil]);first | done | rfl | (simp only [List.length_drop,List.length_take];rfl)) ?_
     with_reducible refine(impl_pivotOf.calls k _ _ ah _ _ ai (wrap64 (aG - 1)) aH aJ aK aM _ ?ay ?az ?aA ?aC A5.out).mono ?_
     (case ay=>exact cb_ HR0_0.out HB.out)
     (case az=>exact HC0_0.out)
     (case aA=>exact cb_ HR0_1.out HB.out)
     (case aC=>exact HC0_1.out)
     rintro e w13 ⟨aU,aN,rfl,ho0,ho1,hb⟩;refine⟨_,rfl,?_⟩
     have aq:=q_ (Kd.S_lower ho0 bz_);have aD:=q_ (Kd.R_lower ho1 bz_);replace aa:=Bb_ aa hb;replace aj:=Bb_ aj hb;replace HB:=Bs_ hb;(try clear hb)
     
     (try clear hk)
     
     (try clear ho0);(try clear ho1);refine hK.out _ _ ⟨(blk_cell aa.out 0).trans rfl,(blk_cell aa.out 1).trans rfl⟩ (fun hHeld=>?_)
     clear hK K;refine norm_ (a':=?_) ?_ ?_
     rotate_left
     ·show Act.put _ (some 15) _=_
      simp only [Act.put,List.setIfInBounds_toArray,List.set_cons_zero,List.set_cons_succ,i64_w,i32_w]
      rfl
     refine p3_ 5 10 6 16 7 17 ?_
     exact norm_ (by simp only [putAll,Act.put,List.setIfInBounds_toArray,List.set_cons_zero,List.set_cons_succ]) (hCont (aU,aN,ae) _ ⟨hHeld,(so_ aq.out),(ro_ aD.out),bk_,bk_,aQ.out,aT.out,af.out,ak.out,hb_⟩)
   rintro ⟨aU,aN,ae⟩ w14 ⟨hS_,h0_,h1_,h2_,h3_,h4_,h5_,h6_,h7_,h8_⟩;have n0_:Aside0 (Kd.S (Kd.slice 2 (Kd.int .i64)) 25 w14 w.heap.size (fun k_=>some k_≠(aN:Value).ownBlock) aU aJ):=⟨h0_⟩
   have n1_:Aside0 (Kd.R (Kd.int .i64) 2 w14 w.heap.size (fun _=>True) aN aK):=⟨h1_⟩
   have n2_:Aside0 (w14.heap[ag]?=some (.cells #[.slice au ah.length av, .slice aw ai.length ax] 27 (0,0))):=⟨h2_⟩
   have n3_:Aside0 (w14.heap[ae]?=some (.cells #[.int .i64 0, .slice none 0 0, .slice none 0 0] 49 (0,0))):=⟨h3_⟩
   have n4_:Aside0 (w.heap.size≤ae):=⟨h4_⟩
   have n5_:Aside0 (w.heap.size≤ae):=⟨h5_⟩
   have n6_:Aside0 (ag≠ae):=⟨h6_⟩
   have n7_:Aside0 (ae≠ag):=⟨h7_⟩
   have n8_:Aside0 (Below w.heap.size w w14):=⟨h8_⟩
   clear aa HB h0_ h1_ h2_ h3_ h4_ h5_ h6_ h7_ h8_;have aq:=n0_;have aD:=n1_;have aa:=n2_;have aj:=n3_;have aQ:=n4_;have aT:=n5_;have af:=n6_;have ak:=n7_;have HB:=n8_;clear n0_ n1_ n2_ n3_ n4_ n5_ n6_ n7_ n8_;have hHeld:w14.cell? ⟨ag,0,none⟩=some (.slice au ah.length av)∧w14.cell? ⟨ag,1,none⟩=some (.slice aw ai.length ax):=hS_;obtain⟨aV,aW,bq⟩:=Kd.S_slice aq.out
   (first | subst bq | (injection bq with f1_ f2_ f3_;have f4_:=f1_.symm;have f5_:=f3_.symm;clear f1_ f2_ f3_;subst f4_;subst f5_))
   obtain⟨aX,aY,bu⟩:=Kd.R_slice aD.out
   (first | subst bu | (injection bu with f1_ f2_ f3_;have f4_:=f1_.symm;have f5_:=f3_.symm;clear f1_ f2_ f3_;subst f4_;subst f5_))
   refine norm_ (a':=?_) ?_ ?_
   rotate_left
   ·simp only [putAll,Act.put,List.setIfInBounds_toArray,List.set_cons_zero,List.set_cons_succ]
    rfl
   refine on_ 9 none (fun K hK=>?_)
   have hs15:=cz_ aj 0;have hfs15:=blk_frozen aj.out 0;have hns15_0:=af.out;have hms15_0:=ak.out;have hs17:=cz_ aj 1;have hfs17:=blk_frozen aj.out 1;have hns17_0:=af.out;have hms17_0:=ak.out;have hs19:=cz_ aj 2;have hfs19:=blk_frozen aj.out 2;have hns19_0:=af.out;have hms19_0:=ak.out;refine skip_ (w1:=?_) (by rfl) rfl ?_ ?_
   rotate_left
   ·go_simp
    rfl
   refine hK.out _ _ ⟨((cell_far (p:=⟨ae,_,none⟩) af.out _).trans (((cell_far (p:=⟨ae,_,none⟩) af.out _).trans (((cell_far (p:=⟨ae,_,none⟩) af.out _).trans (hHeld.1)))))),((cell_far (p:=⟨ae,_,none⟩) af.out _).trans (((cell_far (p:=⟨ae,_,none⟩) af.out _).trans (((cell_far (p:=⟨ae,_,none⟩) af.out _).trans (hHeld.2))))))⟩ (fun hHeld=>?_)
   clear hK K;refine pu_ 10 6 ?_
   refine done_ (done_of HT_.out (by kernel_rfl)) ?_
   try go_wp2
   have n0_:Aside0 (Kd.S (Kd.slice 2 (Kd.int .i64)) 25 (((w14.setCell ⟨ae,0,none⟩ (.int .i64 aH)).setCell ⟨ae,1,none⟩ (.slice aV aJ.length aW)).setCell ⟨ae,2,none⟩ (.slice aX aK.length aY)) w.heap.size (fun k_=>some k_≠(.slice aX aK.length aY:Value).ownBlock) (.slice aV aJ.length aW) aJ):=⟨kS_ (sf3_ aq.out aj.out) (fun _ hk=>hk.1)⟩
   have n1_:Aside0 (Kd.R (Kd.int .i64) 2 (((w14.setCell ⟨ae,0,none⟩ (.int .i64 aH)).setCell ⟨ae,1,none⟩ (.slice aV aJ.length aW)).setCell ⟨ae,2,none⟩ (.slice aX aK.length aY)) w.heap.size (fun _=>True) (.slice aX aK.length aY) aK):=⟨kR_ (rf3_ aD.out aj.out) (fun _ hk=>trivial)⟩
   have n2_:Aside0 ((((w14.setCell ⟨ae,0,none⟩ (.int .i64 aH)).setCell ⟨ae,1,none⟩ (.slice aV aJ.length aW)).setCell ⟨ae,2,none⟩ (.slice aX aK.length aY)).heap[ag]?=some (.cells #[.slice au ah.length av, .slice aw ai.length ax] 27 (0,0))):=⟨bw_⟩
   have n3_:Aside0 ((((w14.setCell ⟨ae,0,none⟩ (.int .i64 aH)).setCell ⟨ae,1,none⟩ (.slice aV aJ.length aW)).setCell ⟨ae,2,none⟩ (.slice aX aK.length aY)).heap[ae]?=some (.cells #[.int .i64 aH, .slice aV aJ.length aW, .slice aX aK.length aY] 49 (0,0))):=⟨bw_⟩
   have n4_:Aside0 (Below w.heap.size w (((w14.setCell ⟨ae,0,none⟩ (.int .i64 aH)).setCell ⟨ae,1,none⟩ (.slice aV aJ.length aW)).setCell ⟨ae,2,none⟩ (.slice aX aK.length aY))):=⟨hb_⟩
   (try clear aq);(try clear aD);(try clear aa);(try clear aj);(try clear HB)
   generalize (((w14.setCell ⟨ae,0,none⟩ (.int .i64 aH)).setCell ⟨ae,1,none⟩ (.slice aV aJ.length aW)).setCell ⟨ae,2,none⟩ (.slice aX aK.length aY))=w20 at n0_ n1_ n2_ n3_ n4_ ⊢
   have aq:=n0_;have aD:=n1_;have aa:=n2_;have aj:=n3_;have HB:=n4_;clear n0_ n1_ n2_ n3_ n4_;replace aq:=q_ (Kd.S_drew aq.out);replace aD:=q_ (Kd.R_drew aD.out);replace aa:=q_ (blk_drew aa.out);replace aj:=q_ (blk_drew aj.out);replace HB:=q_ (below_drew1 HB.out);refine st_ (n:=7) (S:=fun w'=>w'.cell? ⟨ae,0,none⟩=some (.int .i64 aH)∧w'.cell? ⟨ae,1,none⟩=some (.slice aV aJ.length aW)∧w'.cell? ⟨ae,2,none⟩=some (.slice aX aK.length aY)) (ds:= []) ⟨(blk_cell aj.out 0).trans rfl,(blk_cell aj.out 1).trans rfl,(blk_cell aj.out 2).trans rfl⟩ (fun hHeld=>?_)
   generalize w20.drew=w21 at aq aD aa aj HB hHeld ⊢
   refine p2_ 0 21 2 23 ?_;refine tk_ 1 22 ?_;refine pu_ 4 2 ?_;refine tk_ 3 24 ?_;refine p2_ 5 3 6 4 ?_
   refine done_ (by kernel_rfl) ?_
   try go_wp2
   go_ret3
   exact⟨_,ew_,kS_ aq.out (fun _ hk=>trivial),hb_⟩
  ·rw [if_neg c6] at H;have c6b0:=e3_ c6;have c6b1:=e4_ c6;simp only [Option.some.injEq,Prod.mk.injEq] at H;obtain⟨rfl,rfl,rfl⟩:=H
   go_enter Try.func31,Try.ntmps31
   try go_wp2_with (first | ((with_reducible refine gate_dst (N:=1) rfl ?_);refine be_ 1 #[.slice au ah.length av, .slice aw ai.length ax] 27 ?_;intro ag hg w22 hbox hb;have aa:=q_ (hbox);have bh:=gz_ w hg;have bk:=gz_ w hg;replace HB:=Bs_ hb;clear hb hbox hg;obtain⟨bz,bA,bC,bD⟩:=c2_ aa) | ((with_reducible refine gate_callee (f:=39) rfl ?_);refine gL_ 8 Try.func39 #[.agg #[.slice au ah.length av, .slice aw ai.length ax]] ?_;(with_reducible refine(impl_IsProblem.calls _ _ ah _ _ ai true _ ?ay ?az ?aA ?aC A2.out).mono ?_);(case ay=>exact cb_ HR0_0.out HB.out);(case az=>exact HC0_0.out);(case aA=>exact cb_ HR0_1.out HB.out);(case aC=>exact HC0_1.out);rintro e w24 ⟨rfl,hb⟩;refine⟨_,rfl,?_⟩;replace aa:=Bb_ aa hb;replace HB:=Bs_ hb;(try clear hb);(try clear hk)))
   replace aa:=q_ (blk_drew aa.out);replace HB:=q_ (below_drew1 HB.out);refine st_ (n:=11) (S:=fun w'=>w'.cell? ⟨ag,0,none⟩=some (.slice au ah.length av)∧w'.cell? ⟨ag,1,none⟩=some (.slice aw ai.length ax)) (ds:= []) ⟨(blk_cell aa.out 0).trans rfl,(blk_cell aa.out 1).trans rfl⟩ (fun hHeld=>?_);refine with_tabW impl_InverseOf.tab3 impl_InverseOf.bits3 (fun HT_ HW_=>?_)
   generalize w24.drew=w25 at aa HB hHeld ⊢
   refine tk_ 0 11 ?_;refine tk_ 1 12 ?_
   refine join_ (σ:=Value × Value × Nat) 2 (fm 11 511) (fun s_=> [(13, .int .i64 aG),(15, .tuple #[.agg #[.int .i64 aH,s_.1,s_.2.1], .int .i64 aM]),(5, .pointer (some ⟨s_.2.2,0,none⟩)),(14, .int .i64 (wrap64 (aG - 1))),(10, .tuple #[.agg #[.int .i64 aH,s_.1,s_.2.1], .int .i64 aM]),(16, .agg #[.int .i64 aH,s_.1,s_.2.1]),(17, .int .i64 aM)]) (fun s_ w'=>(w'.cell? ⟨ag,0,none⟩=some (.slice au ah.length av)∧w'.cell? ⟨ag,1,none⟩=some (.slice aw ai.length ax))∧(Kd.S (Kd.slice 2 (Kd.int .i64)) 25 w' w.heap.size (fun k_=>some k_≠(s_.2.1:Value).ownBlock) s_.1 aJ)∧(Kd.R (Kd.int .i64) 2 w' w.heap.size (fun _=>True) s_.2.1 aK)∧(w'.heap[ag]?=some (.cells #[.slice au ah.length av, .slice aw ai.length ax] 27 (0,0)))∧(w'.heap[s_.2.2]?=some (.cells #[.int .i64 0, .slice none 0 0, .slice none 0 0] 49 (0,0)))∧(w.heap.size≤s_.2.2)∧(w.heap.size≤s_.2.2)∧(ag≠s_.2.2)∧(s_.2.2≠ag)∧(Below w.heap.size w w')) ?_ ?_
   rotate_left
   ·intro hCont;refine two_ (i:=2) (j:=8) (Ni:=some 13) (Nj:=some 5) (fm 11 7) (fm 11 259) rfl rfl rfl rfl (two_of HT_.out (by kernel_rfl)) (by decide) (by decide) (fun K hK=>?_) (fun K hK=>?_)
    ·skip
     refine goes_ Try.func46 (by kernel_rfl) rfl #[.agg #[.slice au ah.length av, .slice aw ai.length ax]] (by rfl) rfl rfl (by(try simp only [List.map_toArray,List.map_cons,List.map_nil]);first | done | rfl | (simp only [List.length_drop,List.length_take];rfl)) ?_
     with_reducible refine(impl_Problem_all.calls _ _ ah _ _ ai aG _ ?ay ?az ?aA ?aC A4.out).mono ?_
     (case ay=>exact cb_ HR0_0.out HB.out)
     (case az=>exact HC0_0.out)
     (case aA=>exact cb_ HR0_1.out HB.out)
     (case aC=>exact HC0_1.out)
     rintro e w26 ⟨rfl,hb⟩;refine⟨_,rfl,?_⟩
     replace aa:=Bb_ aa hb;replace HB:=Bs_ hb;(try clear hb)
     
     (try clear hk)
     
     refine hK.out _ _ ⟨(blk_cell aa.out 0).trans rfl,(blk_cell aa.out 1).trans rfl⟩ (fun hHeld=>?_)
     clear hK K;refine norm_ (a':=?_) ?_ ?_
     rotate_left
     ·show Act.put _ (some 13) _=_
      simp only [Act.put,List.setIfInBounds_toArray,List.set_cons_zero,List.set_cons_succ,i64_w,i32_w]
      rfl
     refine pu_ 3 14 ?_
     refine two_ (i:=4) (j:=8) (Ni:=some 15) (Nj:=some 5) (fm 11 31) (fm 11 271) rfl rfl rfl rfl (two_of HT_.out (by kernel_rfl)) (by decide) (by decide) (fun K hK=>?_) (fun K hK=>?_)
     ·skip
      refine goes_ Try.func47 (by kernel_rfl) rfl #[.agg #[.slice au ah.length av, .slice aw ai.length ax], .int .i64 (wrap64 (aG - 1))] (by rfl) rfl rfl (by(try simp only [List.map_toArray,List.map_cons,List.map_nil]);first | done | rfl | (simp only [List.length_drop,List.length_take];rfl)) ?_
      with_reducible refine(impl_pivotOf.calls k _ _ ah _ _ ai (wrap64 (aG - 1)) aH aJ aK aM _ ?ay ?az ?aA ?aC A5.out).mono ?_
      (case ay=>exact cb_ HR0_0.out HB.out)
      (case az=>exact HC0_0.out)
      (case aA=>exact cb_ HR0_1.out HB.out)
      (case aC=>exact HC0_1.out)
      rintro e w27 ⟨aU,aN,rfl,ho0,ho1,hb⟩;refine⟨_,rfl,?_⟩
      have aq:=q_ (Kd.S_lower ho0 bz_);have aD:=q_ (Kd.R_lower ho1 bz_);replace aa:=Bb_ aa hb;replace HB:=Bs_ hb;(try clear hb)
      
      (try clear hk)
      
      (try clear ho0);(try clear ho1);refine hK.out _ _ ⟨(blk_cell aa.out 0).trans rfl,(blk_cell aa.out 1).trans rfl⟩ (fun hHeld=>?_)
      clear hK K;refine norm_ (a':=?_) ?_ ?_
      rotate_left
      ·show Act.put _ (some 15) _=_
       simp only [Act.put,List.setIfInBounds_toArray,List.set_cons_zero,List.set_cons_succ,i64_w,i32_w]
       rfl
      refine p3_ 5 10 6 16 7 17 ?_
      refine on_ 8 (some 5) (fun K hK=>?_)
      refine box_step ?hg (N:=5) ?hd (cs:= #[.int .i64 0, .slice none 0 0, .slice none 0 0]) (t:=49) ?hr ?_;(case hd=>rfl);(case hg=>rfl);(case hr=>first | (go_simp;done) | (go_simp;rfl))
      intro ae hg w28 hbox hb;replace aq:=q_ (Kd.S_below (so_ aq.out) hb);replace aD:=Rb_ aD hb;have aj:=q_ (hbox);have aQ:=gz_ w hg;have aT:=gz_ w hg;have af:=lz_ hg aa;have ak:=mz_ hg aa;replace aa:=Bb_ aa hb;replace HB:=Bs_ hb;clear hb hbox hg;refine hK.out _ _ ⟨(blk_cell aa.out 0).trans rfl,(blk_cell aa.out 1).trans rfl⟩ (fun hHeld=>?_)
      clear hK K;refine norm_ (a':=?_) ?_ ?_
      rotate_left
      ·show Act.put _ (some 5) _=_
       simp only [Act.put,List.setIfInBounds_toArray,List.set_cons_zero,List.set_cons_succ,i64_w,i32_w]
       rfl
      exact norm_ (by simp only [putAll,Act.put,List.setIfInBounds_toArray,List.set_cons_zero,List.set_cons_succ]) (hCont (aU,aN,ae) _ ⟨hHeld,(so_ aq.out),(ro_ aD.out),bk_,bk_,aQ.out,aT.out,af.out,ak.out,hb_⟩)
     ·skip
      refine box_step ?hg (N:=5) ?hd (cs:= #[.int .i64 0, .slice none 0 0, .slice none 0 0]) (t:=49) ?hr ?_;(case hd=>rfl);(case hg=>rfl);(case hr=>first | (go_simp;done) | (go_simp;rfl))
      intro ae hg w27 hbox hb;have aj:=q_ (hbox);have aQ:=gz_ w hg;have aT:=gz_ w hg;have af:=lz_ hg aa;have ak:=mz_ hg aa;replace aa:=Bb_ aa hb;replace HB:=Bs_ hb;clear hb hbox hg;refine hK.out _ _ ⟨(blk_cell aa.out 0).trans rfl,(blk_cell aa.out 1).trans rfl⟩ (fun hHeld=>?_)
      clear hK K;refine norm_ (a':=?_) ?_ ?_
      rotate_left
      ·show Act.put _ (some 5) _=_
       simp only [Act.put,List.setIfInBounds_toArray,List.set_cons_zero,List.set_cons_succ,i64_w,i32_w]
       rfl
      refine on_ 4 (some 15) (fun K hK=>?_)
      refine goes_ Try.func47 (by kernel_rfl) rfl #[.agg #[.slice au ah.length av, .slice aw ai.length ax], .int .i64 (wrap64 (aG - 1))] (by rfl) rfl rfl (by(try simp only [List.map_toArray,List.map_cons,List.map_nil]);first | done | rfl | (simp only [List.length_drop,List.length_take];rfl)) ?_
      with_reducible refine(impl_pivotOf.calls k _ _ ah _ _ ai (wrap64 (aG - 1)) aH aJ aK aM _ ?ay ?az ?aA ?aC A5.out).mono ?_
      (case ay=>exact cb_ HR0_0.out HB.out)
      (case az=>exact HC0_0.out)
      (case aA=>exact cb_ HR0_1.out HB.out)
      (case aC=>exact HC0_1.out)
      rintro e w28 ⟨aU,aN,rfl,ho0,ho1,hb⟩;refine⟨_,rfl,?_⟩
      have aq:=q_ (Kd.S_lower ho0 bz_);have aD:=q_ (Kd.R_lower ho1 bz_);replace aa:=Bb_ aa hb;replace aj:=Bb_ aj hb;replace HB:=Bs_ hb;(try clear hb)
      
      (try clear hk)
      
      (try clear ho0);(try clear ho1);refine hK.out _ _ ⟨(blk_cell aa.out 0).trans rfl,(blk_cell aa.out 1).trans rfl⟩ (fun hHeld=>?_)
      clear hK K;refine norm_ (a':=?_) ?_ ?_
      rotate_left
      ·show Act.put _ (some 15) _=_
       simp only [Act.put,List.setIfInBounds_toArray,List.set_cons_zero,List.set_cons_succ,i64_w,i32_w]
       rfl
      refine p3_ 5 10 6 16 7 17 ?_
      exact norm_ (by simp only [putAll,Act.put,List.setIfInBounds_toArray,List.set_cons_zero,List.set_cons_succ]) (hCont (aU,aN,ae) _ ⟨hHeld,(so_ aq.out),(ro_ aD.out),bk_,bk_,aQ.out,aT.out,af.out,ak.out,hb_⟩)
    ·skip
     refine box_step ?hg (N:=5) ?hd (cs:= #[.int .i64 0, .slice none 0 0, .slice none 0 0]) (t:=49) ?hr ?_;(case hd=>rfl);(case hg=>rfl);(case hr=>first | (go_simp;done) | (go_simp;rfl))
     intro ae hg w26 hbox hb;have aj:=q_ (hbox);have aQ:=gz_ w hg;have aT:=gz_ w hg;have af:=lz_ hg aa;have ak:=mz_ hg aa;replace aa:=Bb_ aa hb;replace HB:=Bs_ hb;clear hb hbox hg;refine hK.out _ _ ⟨(blk_cell aa.out 0).trans rfl,(blk_cell aa.out 1).trans rfl⟩ (fun hHeld=>?_)
     clear hK K;refine norm_ (a':=?_) ?_ ?_
     rotate_left
     ·show Act.put _ (some 5) _=_
      simp only [Act.put,List.setIfInBounds_toArray,List.set_cons_zero,List.set_cons_succ,i64_w,i32_w]
      rfl
     refine on_ 2 (some 13) (fun K hK=>?_)
     refine goes_ Try.func46 (by kernel_rfl) rfl #[.agg #[.slice au ah.length av, .slice aw ai.length ax]] (by rfl) rfl rfl (by(try simp only [List.map_toArray,List.map_cons,List.map_nil]);first | done | rfl | (simp only [List.length_drop,List.length_take];rfl)) ?_
     with_reducible refine(impl_Problem_all.calls _ _ ah _ _ ai aG _ ?ay ?az ?aA ?aC A4.out).mono ?_
     (case ay=>exact cb_ HR0_0.out HB.out)
     (case az=>exact HC0_0.out)
     (case aA=>exact cb_ HR0_1.out HB.out)
     (case aC=>exact HC0_1.out)
     rintro e w27 ⟨rfl,hb⟩;refine⟨_,rfl,?_⟩
     replace aa:=Bb_ aa hb;replace aj:=Bb_ aj hb;replace HB:=Bs_ hb;(try clear hb)
     
     (try clear hk)
     
     refine hK.out _ _ ⟨(blk_cell aa.out 0).trans rfl,(blk_cell aa.out 1).trans rfl⟩ (fun hHeld=>?_)
     clear hK K;refine norm_ (a':=?_) ?_ ?_
     rotate_left
     ·show Act.put _ (some 13) _=_
      simp only [Act.put,List.setIfInBounds_toArray,List.set_cons_zero,List.set_cons_succ,i64_w,i32_w]
      rfl
     refine pu_ 3 14 ?_
     refine on_ 4 (some 15) (fun K hK=>?_)
     refine goes_ Try.func47 (by kernel_rfl) rfl #[.agg #[.slice au ah.length av, .slice aw ai.length ax], .int .i64 (wrap64 (aG - 1))] (by rfl) rfl rfl (by(try simp only [List.map_toArray,List.map_cons,List.map_nil]);first | done | rfl | (simp only [List.length_drop,List.length_take];rfl)) ?_
     with_reducible refine(impl_pivotOf.calls k _ _ ah _ _ ai (wrap64 (aG - 1)) aH aJ aK aM _ ?ay ?az ?aA ?aC A5.out).mono ?_
     (case ay=>exact cb_ HR0_0.out HB.out)
     (case az=>exact HC0_0.out)
     (case aA=>exact cb_ HR0_1.out HB.out)
     (case aC=>exact HC0_1.out)
     rintro e w28 ⟨aU,aN,rfl,ho0,ho1,hb⟩;refine⟨_,rfl,?_⟩
     have aq:=q_ (Kd.S_lower ho0 bz_);have aD:=q_ (Kd.R_lower ho1 bz_);replace aa:=Bb_ aa hb;replace aj:=Bb_ aj hb;replace HB:=Bs_ hb;(try clear hb)
     
     (try clear hk)
     
     (try clear ho0);(try clear ho1);refine hK.out _ _ ⟨(blk_cell aa.out 0).trans rfl,(blk_cell aa.out 1).trans rfl⟩ (fun hHeld=>?_)
     clear hK K;refine norm_ (a':=?_) ?_ ?_
     rotate_left
     ·show Act.put _ (some 15) _=_
      simp only [Act.put,List.setIfInBounds_toArray,List.set_cons_zero,List.set_cons_succ,i64_w,i32_w]
      rfl
     refine p3_ 5 10 6 16 7 17 ?_
     exact norm_ (by simp only [putAll,Act.put,List.setIfInBounds_toArray,List.set_cons_zero,List.set_cons_succ]) (hCont (aU,aN,ae) _ ⟨hHeld,(so_ aq.out),(ro_ aD.out),bk_,bk_,aQ.out,aT.out,af.out,ak.out,hb_⟩)
   rintro ⟨aU,aN,ae⟩ w29 ⟨hS_,h0_,h1_,h2_,h3_,h4_,h5_,h6_,h7_,h8_⟩;have n0_:Aside0 (Kd.S (Kd.slice 2 (Kd.int .i64)) 25 w29 w.heap.size (fun k_=>some k_≠(aN:Value).ownBlock) aU aJ):=⟨h0_⟩
   have n1_:Aside0 (Kd.R (Kd.int .i64) 2 w29 w.heap.size (fun _=>True) aN aK):=⟨h1_⟩
   have n2_:Aside0 (w29.heap[ag]?=some (.cells #[.slice au ah.length av, .slice aw ai.length ax] 27 (0,0))):=⟨h2_⟩
   have n3_:Aside0 (w29.heap[ae]?=some (.cells #[.int .i64 0, .slice none 0 0, .slice none 0 0] 49 (0,0))):=⟨h3_⟩
   have n4_:Aside0 (w.heap.size≤ae):=⟨h4_⟩
   have n5_:Aside0 (w.heap.size≤ae):=⟨h5_⟩
   have n6_:Aside0 (ag≠ae):=⟨h6_⟩
   have n7_:Aside0 (ae≠ag):=⟨h7_⟩
   have n8_:Aside0 (Below w.heap.size w w29):=⟨h8_⟩
   clear aa HB h0_ h1_ h2_ h3_ h4_ h5_ h6_ h7_ h8_;have aq:=n0_;have aD:=n1_;have aa:=n2_;have aj:=n3_;have aQ:=n4_;have aT:=n5_;have af:=n6_;have ak:=n7_;have HB:=n8_;clear n0_ n1_ n2_ n3_ n4_ n5_ n6_ n7_ n8_;have hHeld:w29.cell? ⟨ag,0,none⟩=some (.slice au ah.length av)∧w29.cell? ⟨ag,1,none⟩=some (.slice aw ai.length ax):=hS_;obtain⟨bM,bN,bv⟩:=Kd.S_slice aq.out
   (first | subst bv | (injection bv with f1_ f2_ f3_;have f4_:=f1_.symm;have f5_:=f3_.symm;clear f1_ f2_ f3_;subst f4_;subst f5_))
   obtain⟨bO,bP,bw⟩:=Kd.R_slice aD.out
   (first | subst bw | (injection bw with f1_ f2_ f3_;have f4_:=f1_.symm;have f5_:=f3_.symm;clear f1_ f2_ f3_;subst f4_;subst f5_))
   refine norm_ (a':=?_) ?_ ?_
   rotate_left
   ·simp only [putAll,Act.put,List.setIfInBounds_toArray,List.set_cons_zero,List.set_cons_succ]
    rfl
   refine on_ 9 none (fun K hK=>?_)
   have hs30:=cz_ aj 0;have hfs30:=blk_frozen aj.out 0;have hns30_0:=af.out;have hms30_0:=ak.out;have hs32:=cz_ aj 1;have hfs32:=blk_frozen aj.out 1;have hns32_0:=af.out;have hms32_0:=ak.out;have hs34:=cz_ aj 2;have hfs34:=blk_frozen aj.out 2;have hns34_0:=af.out;have hms34_0:=ak.out;refine skip_ (w1:=?_) (by rfl) rfl ?_ ?_
   rotate_left
   ·go_simp
    rfl
   refine hK.out _ _ ⟨((cell_far (p:=⟨ae,_,none⟩) af.out _).trans (((cell_far (p:=⟨ae,_,none⟩) af.out _).trans (((cell_far (p:=⟨ae,_,none⟩) af.out _).trans (hHeld.1)))))),((cell_far (p:=⟨ae,_,none⟩) af.out _).trans (((cell_far (p:=⟨ae,_,none⟩) af.out _).trans (((cell_far (p:=⟨ae,_,none⟩) af.out _).trans (hHeld.2))))))⟩ (fun hHeld=>?_)
   clear hK K;refine pu_ 10 6 ?_
   refine done_ (done_of HT_.out (by kernel_rfl)) ?_
   try go_wp2
   go_ret3
   exact⟨_,ew_,by first | exact Kd.S_nil _ _ _ _ _ | exact Kd.N_nil _ _ _ _ _ | exact Kd.V_nil _ _ _ _ _ | exact Kd.Q_nil _ _ _ _ _ | exact Kd.R_nil _ _ _ _ _,hb_⟩
 ·replace c3:=Bool.eq_false_iff.mpr c3;subst c3;have H1:(some (([]:List (List Int)),0,1))=some (r1,r2,r3):=by rw [if_neg (show ¬ (false=true) by decide)] at H;exact H
  clear H;have H:=H1;clear H1;simp only [Option.some.injEq,Prod.mk.injEq] at H;obtain⟨rfl,rfl,rfl⟩:=H
  go_enter Try.func31,Try.ntmps31
  go_wp2_with (first | ((with_reducible refine gate_dst (N:=1) rfl ?_);refine be_ 1 #[.slice au ah.length av, .slice aw ai.length ax] 27 ?_;intro ag hg w35 hbox hb;have aa:=q_ (hbox);have bh:=gz_ w hg;have bk:=gz_ w hg;replace HB:=Bs_ hb;clear hb hbox hg;obtain⟨bE,bF,bG,bH⟩:=c2_ aa) | ((with_reducible refine gate_callee (f:=39) rfl ?_);refine gL_ 8 Try.func39 #[.agg #[.slice au ah.length av, .slice aw ai.length ax]] ?_;(with_reducible refine(impl_IsProblem.calls _ _ ah _ _ ai false _ ?ay ?az ?aA ?aC A2.out).mono ?_);(case ay=>exact cb_ HR0_0.out HB.out);(case az=>exact HC0_0.out);(case aA=>exact cb_ HR0_1.out HB.out);(case aC=>exact HC0_1.out);rintro e w37 ⟨rfl,hb⟩;refine⟨_,rfl,?_⟩;replace aa:=Bb_ aa hb;replace HB:=Bs_ hb;(try clear hb);(try clear hk)))
  go_ret3
  exact⟨_,ew_,by first | exact Kd.S_nil _ _ _ _ _ | exact Kd.N_nil _ _ _ _ _ | exact Kd.V_nil _ _ _ _ _ | exact Kd.Q_nil _ _ _ _ _ | exact Kd.R_nil _ _ _ _ _,hb_⟩
end Go.Proofs.Ytbjljcpngbhkeaa.Pr
end
section
namespace Go.Proofs.Ytbjljcpngbhkeaa.Pp
open Go.RowKit Wz.PrintWords Wz.PrintMore Ma Pr Dt Bz Un Cz Pb Mn Sv Pv La Hm
open Classical in
theorem inverse (M:List (List Int)) (Q:List Int) (hQ:Q.length≤1048576): ∃R:List (List Int) × Int × Int,Ev (fun k=>spec_InverseOf.f k M Q) R∧Ev (fun k=>impl_InverseOf.f k M Q) R∧Few R.1:=by
 have is:=Pb.impl_is M Q (decide (POK M Q)) (by simp)
 have ss:=Pb.spec_is M Q hQ (decide (POK M Q)) (by simp)
 by_cases p:POK M Q
 ·have hq:=p.len;have h5:=p.mat.n5
  have c:codeS M Q (((2 ^ Q.length:Nat):Int) - 1)=0:=by
   unfold codeS
   rw [if_pos p,if_pos ⟨by have:1≤2 ^ Q.length:=Nat.one_le_two_pow;omega,Int.le_refl _⟩]
  have ip:=impl_pivotOf_eq M Q (((2 ^ Q.length:Nat):Int) - 1)
  have sp:=spec_pivot p.mat.sq p.mat.n5 (((2 ^ Q.length:Nat):Int) - 1) Q p.len (POK.small p)
  have es:wrap64 (shl .i64 1 (IntKind.u64.wrap (Q.length:Int)) - 1)=((2 ^ Q.length:Nat):Int) - 1:=by
   rw [u64w (x:=(Q.length:Int)) (by omega) (by omega),pow_sub (by omega)]
  have ei:wrap64 (shl .i64 1 (Q.length:Int) - 1)=((2 ^ Q.length:Nat):Int) - 1:=pow_sub (by omega)
  have hu:IntKind.u64.wrap (Q.length:Int)=(Q.length:Int):=u64w (by omega) (by omega)
  generalize ((2 ^ Q.length:Nat):Int) - 1=s at*
  unfold pvO at ip
  rw [if_pos c] at ip
  unfold pvA at sp
  by_cases d:det M.length (Cm s M)=0
  ·rw [if_pos d] at ip sp
   refine⟨([],0,5),?_,?_,Few.nil⟩
   ·unfold spec_InverseOf.f
    refine evbind ss (evpos (by simpa using p) (evpos (by omega) ?_))
    rw [es]
    exact evbind sp (evneg (by simp) (evc rfl))
   ·unfold impl_InverseOf.f impl_Problem_all.f
    refine evsome is (evpos (by simpa using p) (evsome rfl ?_))
    rw [ei]
    exact evbind ip (evneg (by simp) (evc rfl))
  ·rw [if_neg d] at ip sp
   refine⟨(pvR M.length M s,ab (det M.length (Cm s M)),0),?_,?_,pvR_few h5 M s⟩
   ·unfold spec_InverseOf.f
    refine evbind ss (evpos (by simpa using p) (evpos (by omega) ?_))
    rw [es]
    exact evbind sp (evpos rfl (evc rfl))
   ·unfold impl_InverseOf.f impl_Problem_all.f
    refine evsome is (evpos (by simpa using p) (evsome rfl ?_))
    rw [ei]
    exact evbind ip (evpos rfl (evc rfl))
 ·refine⟨([],0,1),?_,?_,Few.nil⟩
  ·unfold spec_InverseOf.f;exact evbind ss (evneg (by simpa using p) (evc rfl))
  ·unfold impl_InverseOf.f;exact evsome is (evneg (by simpa using p) (evc rfl))
end Go.Proofs.Ytbjljcpngbhkeaa.Pp
end
section
namespace Go.Proofs.Ytbjljcpngbhkeaa.Pp
open Go.RowKit Wz.PrintWords Wz.PrintMore Ma Pr Dt Bz Un Cz Pb Mn Sv Pv Pvb
theorem like_same (l:List Int) (hl:l.length≤1048576):Ev (fun k=>laws_likeInts.f k l l) true:=by
 unfold laws_likeInts.f
 refine evpos rfl ?_
 have key: ∀m i,i+m=l.length→Ev (fun k=>laws_likeInts.l0 k l l (i:Int)) true:=by
  intro m
  induction m with
  | zero=>
   intro i hi
   exact evstep (fun k=>by rw [laws_likeInts.l0]) (evneg (by omega) (evc rfl))
  | succ m ih=>
   intro i hi
   refine evstep (fun k=>by rw [laws_likeInts.l0]) (evpos (by omega) (evpos (by omega) (evpos (by omega) (evpos rfl ?_))))
   rw [w64 (x:=(i:Int)+1) (by omega) (by omega)]
   exact ih (i+1) (by omega)
 exact key l.length 0 (by omega)
theorem rows_same (l:List (List Int)) (h:Few l):Ev (fun k=>laws_rows9.f k l l) true:=by
 have hl:=h.len
 unfold laws_rows9.f
 refine evpos rfl ?_
 have key: ∀m i,i+m=l.length→Ev (fun k=>laws_rows9.l0 k l l (i:Int)) true:=by
  intro m
  induction m with
  | zero=>
   intro i hi
   exact evstep (fun k=>by rw [laws_rows9.l0]) (evneg (by omega) (evc rfl))
  | succ m ih=>
   intro i hi
   have hm:l.getD i [] ∈ l:=by
    rw [List.getD_eq_getElem?_getD,List.getElem?_eq_getElem (by omega)]
    exact List.getElem_mem _
   have:=h.row _ hm
   refine evstep (fun k=>by rw [laws_rows9.l0]) (evpos (by omega) (evpos (by omega) (evpos (by omega) ?_)))
   rw [rdL1]
   refine evbind (like_same _ (by omega)) (evpos rfl ?_)
   rw [w64 (x:=(i:Int)+1) (by omega) (by omega)]
   exact ih (i+1) (by omega)
 exact key l.length 0 (by omega)
theorem pivot_none {M:List (List Int)} {Q:List Int} (p:POK M Q):det M.length (Cm 0 M)=1∧pvR M.length M 0=M∧pvS M.length M 0 Q=Q:=by
 have hb: ∀i,i < M.length→bB 0 i=false:=fun i hi=>by
  have h5:=p.mat.n5
  have:=bB_nat 0 i (by omega)
  rw [Nat.zero_testBit] at this
  exact this
 have hC: ∀i j,i < M.length→j < M.length→Cm 0 M i j=one i j:=fun i j hi hj=>by
  unfold Cm colM one
  rw [if_neg (by rw [hb j hj];decide)]
 have hd:det M.length (Cm 0 M)=1:=by rw [det_congr hC,det_one]
 have hset: ∀(v:Nat→Int) r,r < M.length→det M.length (cset r v (Cm 0 M))=v r:=fun v r hr=>by
  rw [← det_cset_one hr v]
  refine det_congr (fun i j hi hj=>?_)
  unfold cset
  split
  ·rfl
  ·exact hC i j hi hj
 refine⟨hd,?_,?_⟩
 ·refine lists_eq (n:=M.length) (pvR_len _ _ _) rfl (fun i hi=>pvR_getD' hi M 0) (fun i hi=>p.mat.sq.row i hi) (fun r c hr hc=>?_)
  rw [pv_en p.mat.sq p.mat.n5 0 hr hc,hd,hset _ r hr]
  unfold outC
  rw [if_neg (by rw [hb c hc];decide)]
  show -(1* -(en M r c))=en M r c
  omega
 ·refine list_eq (n:=M.length) (pvS_len _ _ _ _) p.len (fun r hr=>?_)
  rw [pv_side hr,hd,hset _ r hr]
  show 1*_=_
  omega
structure PvF (k:Nat) (M:List (List Int)) (Q:List Int) (s den:Int) (R:List (List Int)) (S:List Int) (c:Int) (wh:Bool) (cw:Int) (sg:List (List Int)) (cs:Int):Prop where
 i1:impl_PivotOf.f k M Q s=some (den,R,S,c)
 s1:spec_PivotOf.f k M Q s=some (den,R,S,c)
 q1:laws_pivot9.f k den R S den R S=some true
 i2:impl_IsWholePivot.f k M Q s=some (wh,cw)
 s2:spec_IsWholePivot.f k M Q s=some (wh,cw)
 i3:impl_SignsOfPivot.f k M Q s=some (sg,cs)
 s3:spec_SignsOfPivot.f k M Q s=some (sg,cs)
 q3:laws_rows9.f k sg sg=some true
 bad:c≠0→den=0∧cw=c∧cs=c
 good:c=0→codeS M Q s=0∧1≤den∧den≤1920000000∧(det M.length (Cm s M)=den∨det M.length (Cm s M)= - den)∧sg.length=Q.length
 none:c=0→s=0→den=1∧laws_rows9.f k R M=some true∧laws_likeInts.f k S Q=some true
structure PpF (k:Nat) (M:List (List Int)) (Q:List Int) (s:Int) (M':List (List Int)) (Q':List Int) (c:Int):Prop where
 im:impl_PivotedProblem.f k M Q s=some (M',Q',c)
 sp:spec_PivotedProblem.f k M Q s=some (M',Q',c)
 q:laws_problem9.f k M' Q' M' Q'=some true
 back:c=0→impl_PivotedProblem.f k M' Q' s=some (M,Q,0)∧laws_problem9.f k M Q M Q=some true
structure InF (k:Nat) (M:List (List Int)) (Q:List Int) (V:List (List Int)) (den c:Int):Prop where
 im:impl_InverseOf.f k M Q=some (V,den,c)
 sp:spec_InverseOf.f k M Q=some (V,den,c)
 q:laws_rows9.f k V V=some true
 prod:c=0→M.length=Q.length∧V.length=Q.length∧Q.length≤5∧(∀i,i < Q.length→(M.getD i []).length=Q.length)∧(∀i,i < Q.length→(V.getD i []).length=Q.length)∧(∀i j,i < Q.length→j < Q.length→(en M i j).natAbs≤20)∧(∀i j,i < Q.length→j < Q.length→(en V i j).natAbs≤1920000000)∧ ∀i j,i < Q.length→j < Q.length→sm Q.length (fun t=>en M i t*en V t j)=if i=j then den else 0
theorem full_bit {n i:Nat} (h5:n≤5) (hi:i < n):bB (((2 ^ n:Nat):Int) - 1) i=true:=by
 have e:((2 ^ n:Nat):Int) - 1=((2 ^ n - 1:Nat):Int):=by have:1≤2 ^ n:=Nat.one_le_two_pow;omega
 rw [e,bB_nat _ _ (by omega),Nat.testBit_two_pow_sub_one]
 exact decide_eq_true hi
end Go.Proofs.Ytbjljcpngbhkeaa.Pp
end
